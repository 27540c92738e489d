import PyProof.Rows.All
import Wide.All
import OpenK.AllK
import Wide.FinOn
import HandS.ForMost
import HandS.Wide
import HandS.TupAny
import HandS.IsInst
import HandS.Conv
import HandS.Deep
import HandS.Exc
import HandS.WordsExc
import HandS.Walk
import KE.GoesEnum
import HandS.TryOnly
import KE.KExcSuper
import HandS.ExcInit
import HandS.ExcField
import HandS.ExcIs
import HandS.TryMany
import HandS.HotCalls
import HandS.Rev
import HandS.TupMul
import HandS.TupLe
import HandS.RevTup
import HandS.Style
import PySem.Challenge.RW_howeverheard_k10_paths_of_steps
set_option Elab.async false
set_option linter.all false
set_option maxRecDepth 100000
set_option maxHeartbeats 4000000
set_option autoImplicit false
/-! A pure layer over HandS: values as data D, mutable lists as numbered cells; every def becomes a plain Lean function. -/
namespace L2.Pz
open PySem PySem.Spec PyProof.Rows

/-! ### data -/
inductive D where
  | non | bl (b : Bool) | int (i : Int) | str (x : Str) | tup (xs : List D) | lst (xs : List D) | lnk (m : Nat)
/-- an exception that a suite holds: where, its class, its fields, its dict -/
structure Zx where
  a : Addr
  c : Str
  fs : List (Str × D)
  cls : Value
  od : Option Addr
/-- what an expression hands on: data, the k-th cell, a fresh list -/
inductive HV where
  | val (d : D) | jar (k : Nat) | new (ds : List D) | exc (k : Nat) | newB (cs : List (List D)) (m : Nat)
abbrev En := List (Option HV)
abbrev Jr := List (List D)
inductive R (α : Type) where
  | ok (a : α) (J : Jr) | err (c : Str) (fs : List (Str × D)) (J : Jr) | stuck
def R.bind {α β : Type} (r : R α) (f : α → Jr → R β) : R β := match r with
  | .ok a J => f a J
  | .err c fs J => .err c fs J
  | .stuck => .stuck
abbrev EF := En → Jr → R HV
abbrev big : Nat := 16777216
theorem big_eq : sizeLine = big := sizeLine_eq

section
variable (K : PySem.W.Frag)
/-- a list that is read: of the heap and not locked, or of the written part -/
def LsY (H : Hp) (Y : Addr → Prop) (a : Addr) (vs : List V) : Prop := (Rd H a (.lst vs) ∧ ¬ Y a) ∨ SqL K (fun _ => none) a vs
mutual
def Rep (H : Hp) (Y : Addr → Prop) : D → V → Prop
  | .non, v => v = .non
  | .bl b, v => v = .bl b
  | .int i, v => v = .int i
  | .str x, v => v = .str x
  | .tup ds, v => ∃ a vs, v = .ref a ∧ SqT K H a vs ∧ Reps H Y ds vs
  | .lst ds, v => ∃ a vs, v = .ref a ∧ LsY K H Y a vs ∧ Reps H Y ds vs
  | .lnk _, _ => False
def Reps (H : Hp) (Y : Addr → Prop) : List D → List V → Prop
  | [], vs => vs = []
  | d :: ds, vs => ∃ v r, vs = v :: r ∧ Rep H Y d v ∧ Reps H Y ds r
end
end
section
variable {K : PySem.W.Frag} {H H' : Hp} {Y Y' : Addr → Prop} {Z : List Zx}
theorem sqL_none {a : Addr} {vs : List V} (h : SqL K (fun _ => none) a vs) : SqL K H a vs := by
  rcases h with (h | ⟨o, h⟩) | h
  · cases h
  · cases h
  · exact .inr h
theorem LsY.sq {a : Addr} {vs : List V} (h : LsY K H Y a vs) : SqL K H a vs := by
  rcases h with ⟨h, _⟩ | h
  · exact .inl h
  · exact sqL_none h
/-- Y holds lists alone -/
abbrev Lists (H : Hp) (Y : Addr → Prop) : Prop := ∀ a, Y a → ∃ xs, H a = some (.lst xs)
theorem sqT_move (hE : ∀ a o, H a = some o → ¬ Y a → H' a = some o) (hl : Lists H Y) {a : Addr} {vs : List V} (h : SqT K H a vs) : SqT K H' a vs := by
  rcases h with (h | ⟨o, h⟩) | h
  · refine .inl (.inl (hE _ _ h fun y => ?_))
    obtain ⟨xs, e⟩ := hl _ y
    rw [h] at e; cases e
  · refine .inl (.inr ⟨o, hE _ _ h fun y => ?_⟩)
    obtain ⟨xs, e⟩ := hl _ y
    rw [h] at e; cases e
  · exact .inr h
theorem lsY_move (hE : ∀ a o, H a = some o → ¬ Y a → H' a = some o) (hY : ∀ a, Y' a → Y a ∨ H a = none) {a : Addr} {vs : List V} (h : LsY K H Y a vs) : LsY K H' Y' a vs := by
  rcases h with ⟨h, n⟩ | h
  · refine .inl ?_
    rcases h with h | ⟨o, h⟩
    · exact ⟨.inl (hE _ _ h n), fun y => (hY _ y).elim n fun e => by rw [h] at e; cases e⟩
    · exact ⟨.inr ⟨o, hE _ _ h n⟩, fun y => (hY _ y).elim n fun e => by rw [h] at e; cases e⟩
  · exact .inr h
mutual
theorem rep_move (hE : ∀ a o, H a = some o → ¬ Y a → H' a = some o) (hY : ∀ a, Y' a → Y a ∨ H a = none) (hl : Lists H Y) : ∀ (d : D) (v : V), Rep K H Y d v → Rep K H' Y' d v
  | .non, v, h => by unfold Rep at h ⊢; exact h
  | .bl b, v, h => by unfold Rep at h ⊢; exact h
  | .int i, v, h => by unfold Rep at h ⊢; exact h
  | .str x, v, h => by unfold Rep at h ⊢; exact h
  | .tup ds, v, h => by
    unfold Rep at h ⊢
    obtain ⟨a, vs, e, s, r⟩ := h
    exact ⟨a, vs, e, sqT_move hE hl s, reps_move hE hY hl ds vs r⟩
  | .lst ds, v, h => by
    unfold Rep at h ⊢
    obtain ⟨a, vs, e, s, r⟩ := h
    exact ⟨a, vs, e, lsY_move hE hY s, reps_move hE hY hl ds vs r⟩
  | .lnk m, v, h => by unfold Rep at h; exact h.elim
theorem reps_move (hE : ∀ a o, H a = some o → ¬ Y a → H' a = some o) (hY : ∀ a, Y' a → Y a ∨ H a = none) (hl : Lists H Y) : ∀ (ds : List D) (vs : List V), Reps K H Y ds vs → Reps K H' Y' ds vs
  | [], vs, h => by unfold Reps at h ⊢; exact h
  | d :: ds, vs, h => by
    unfold Reps at h ⊢
    obtain ⟨v, r, e, h1, h2⟩ := h
    exact ⟨v, r, e, rep_move hE hY hl d v h1, reps_move hE hY hl ds r h2⟩
end
theorem reps_nil {vs : List V} : Reps K H Y [] vs ↔ vs = [] := by unfold Reps; exact Iff.rfl
theorem reps_cons {d : D} {ds : List D} {vs : List V} : Reps K H Y (d :: ds) vs ↔ ∃ v r, vs = v :: r ∧ Rep K H Y d v ∧ Reps K H Y ds r := by
  constructor
  · intro h; unfold Reps at h; exact h
  · intro h; unfold Reps; exact h
theorem reps_len : ∀ {ds : List D} {vs : List V}, Reps K H Y ds vs → vs.length = ds.length
  | [], vs, h => by rw [reps_nil.mp h]; rfl
  | d :: ds, vs, h => by
    obtain ⟨v, r, e, _, h2⟩ := reps_cons.mp h
    rw [e, List.length_cons, List.length_cons, reps_len h2]
theorem reps_append : ∀ {ds es : List D} {vs us : List V}, Reps K H Y ds vs → Reps K H Y es us → Reps K H Y (ds ++ es) (vs ++ us)
  | [], es, vs, us, h, g => by rw [reps_nil.mp h]; exact g
  | d :: ds, es, vs, us, h, g => by
    obtain ⟨v, r, e, h1, h2⟩ := reps_cons.mp h
    subst e
    exact reps_cons.mpr ⟨v, r ++ us, rfl, h1, reps_append h2 g⟩
theorem reps_take : ∀ {ds : List D} {vs : List V} (n : Nat), Reps K H Y ds vs → Reps K H Y (ds.take n) (vs.take n)
  | _, _, 0, _ => by rw [List.take_zero, List.take_zero]; exact reps_nil.mpr rfl
  | [], vs, n + 1, h => by rw [reps_nil.mp h]; exact reps_nil.mpr rfl
  | d :: ds, vs, n + 1, h => by
    obtain ⟨v, r, e, h1, h2⟩ := reps_cons.mp h
    subst e
    exact reps_cons.mpr ⟨v, r.take n, rfl, h1, reps_take n h2⟩
theorem reps_drop : ∀ {ds : List D} {vs : List V} (n : Nat), Reps K H Y ds vs → Reps K H Y (ds.drop n) (vs.drop n)
  | _, _, 0, h => h
  | [], vs, n + 1, h => by rw [reps_nil.mp h]; exact reps_nil.mpr rfl
  | d :: ds, vs, n + 1, h => by
    obtain ⟨v, r, e, h1, h2⟩ := reps_cons.mp h
    subst e
    exact reps_drop n h2
theorem reps_get : ∀ {ds : List D} {vs : List V} {i : Nat} {d : D}, Reps K H Y ds vs → ds[i]? = some d → ∃ v, vs[i]? = some v ∧ Rep K H Y d v
  | [], vs, i, d, h, e => by simp at e
  | c :: ds, vs, 0, d, h, e => by
    obtain ⟨v, r, e2, h1, _⟩ := reps_cons.mp h
    subst e2
    simp at e; subst e
    exact ⟨v, rfl, h1⟩
  | c :: ds, vs, i + 1, d, h, e => by
    obtain ⟨v, r, e2, _, h2⟩ := reps_cons.mp h
    subst e2
    obtain ⟨u, e3, h3⟩ := reps_get (i := i) h2 (by simpa using e)
    exact ⟨u, by simpa using e3, h3⟩
theorem reps_at : ∀ {ds : List D} {vs : List V} {i : Nat} {v : V}, Reps K H Y ds vs → vs[i]? = some v → ∃ d, ds[i]? = some d ∧ Rep K H Y d v
  | [], vs, i, v, h, e => by rw [reps_nil.mp h] at e; simp at e
  | c :: ds, vs, 0, v, h, e => by
    obtain ⟨u, r, e2, h1, _⟩ := reps_cons.mp h
    subst e2
    simp at e; subst e
    exact ⟨c, rfl, h1⟩
  | c :: ds, vs, i + 1, v, h, e => by
    obtain ⟨u, r, e2, _, h2⟩ := reps_cons.mp h
    subst e2
    obtain ⟨d, e3, h3⟩ := reps_at (i := i) h2 (by simpa using e)
    exact ⟨d, by simpa using e3, h3⟩
theorem reps_set : ∀ {ds : List D} {vs : List V} {i : Nat} {d : D} {v : V}, Reps K H Y ds vs → Rep K H Y d v → Reps K H Y (ds.set i d) (vs.set i v)
  | [], vs, i, d, v, h, g => by rw [reps_nil.mp h]; exact reps_nil.mpr rfl
  | c :: ds, vs, 0, d, v, h, g => by
    obtain ⟨u, r, e2, h1, h2⟩ := reps_cons.mp h
    subst e2
    exact reps_cons.mpr ⟨v, r, rfl, g, h2⟩
  | c :: ds, vs, i + 1, d, v, h, g => by
    obtain ⟨u, r, e2, h1, h2⟩ := reps_cons.mp h
    subst e2
    exact reps_cons.mpr ⟨u, r.set i v, rfl, h1, reps_set h2 g⟩
theorem reps_ints : ∀ {ns : List Int} {vs : List V}, Reps K H Y (ns.map D.int) vs → vs = ns.map V.int
  | [], vs, h => reps_nil.mp h
  | n :: ns, vs, h => by
    obtain ⟨v, r, e, h1, h2⟩ := reps_cons.mp h
    unfold Rep at h1
    rw [e, h1, reps_ints h2]; rfl
theorem reps_of_ints : ∀ {ns : List Int}, Reps K H Y (ns.map D.int) (ns.map V.int)
  | [] => reps_nil.mpr rfl
  | n :: ns => reps_cons.mpr ⟨_, _, rfl, by unfold Rep; rfl, reps_of_ints⟩
theorem rep_int {i : Int} {v : V} (h : Rep K H Y (.int i) v) : v = .int i := by unfold Rep at h; exact h
theorem rep_bl {i : Bool} {v : V} (h : Rep K H Y (.bl i) v) : v = .bl i := by unfold Rep at h; exact h
theorem rep_str {i : Str} {v : V} (h : Rep K H Y (.str i) v) : v = .str i := by unfold Rep at h; exact h
theorem rep_non {v : V} (h : Rep K H Y .non v) : v = .non := by unfold Rep at h; exact h
theorem mk_int {i : Int} : Rep K H Y (.int i) (.int i) := by unfold Rep; rfl
theorem mk_bl {i : Bool} : Rep K H Y (.bl i) (.bl i) := by unfold Rep; rfl
theorem mk_str {i : Str} : Rep K H Y (.str i) (.str i) := by unfold Rep; rfl
theorem mk_non : Rep K H Y .non .non := by unfold Rep; rfl
theorem rep_tup {ds : List D} {v : V} : Rep K H Y (.tup ds) v ↔ ∃ a vs, v = .ref a ∧ SqT K H a vs ∧ Reps K H Y ds vs := by
  constructor
  · intro h; unfold Rep at h; exact h
  · intro h; unfold Rep; exact h
theorem rep_lst {ds : List D} {v : V} : Rep K H Y (.lst ds) v ↔ ∃ a vs, v = .ref a ∧ LsY K H Y a vs ∧ Reps K H Y ds vs := by
  constructor
  · intro h; unfold Rep at h; exact h
  · intro h; unfold Rep; exact h
end

/-! ### a cell's parts: data, or another cell ahead of it -/
def isP : D → Bool
  | .lnk _ => false
  | _ => true
def RepE (K : PySem.W.Frag) (H : Hp) (Y : Addr → Prop) (js : List Addr) (k : Nat) : D → V → Prop
  | .lnk m, v => m < k ∧ ∃ b, js[m]? = some b ∧ v = .ref b
  | d, v => Rep K H Y d v
def RepsC (K : PySem.W.Frag) (H : Hp) (Y : Addr → Prop) (js : List Addr) (k : Nat) (ds : List D) (vs : List V) : Prop :=
  vs.length = ds.length ∧ ∀ (i : Nat) (d : D) (v : V), ds[i]? = some d → vs[i]? = some v → RepE K H Y js k d v
section
variable {K : PySem.W.Frag} {H H' : Hp} {Y Y' : Addr → Prop} {js js' : List Addr} {k : Nat} {ds es : List D} {vs us : List V}
theorem rep_lnk {m : Nat} {v : V} (h : Rep K H Y (.lnk m) v) : False := by unfold Rep at h; exact h
theorem repE_of {d : D} {v : V} (h : Rep K H Y d v) : RepE K H Y js k d v := by
  cases d with
  | lnk m => exact (rep_lnk h).elim
  | _ => exact h
theorem repE_rep {d : D} {v : V} (h : RepE K H Y js k d v) (hp : isP d = true) : Rep K H Y d v := by
  cases d with
  | lnk m => cases hp
  | _ => exact h
theorem repsC_of (h : Reps K H Y ds vs) : RepsC K H Y js k ds vs := ⟨reps_len h, fun i d v e1 e2 => by
  obtain ⟨u, u1, u2⟩ := reps_get h e1
  rw [e2] at u1
  cases u1
  exact repE_of u2⟩
theorem reps_idx : ∀ {ds : List D} {vs : List V}, vs.length = ds.length → (∀ (i : Nat) (d : D) (v : V), ds[i]? = some d → vs[i]? = some v → Rep K H Y d v) → Reps K H Y ds vs
  | [], vs, h, _ => reps_nil.mpr (List.eq_nil_of_length_eq_zero h)
  | d :: ds, [], h, _ => by simp at h
  | d :: ds, v :: vs, h, g => reps_cons.mpr ⟨v, vs, rfl, g 0 d v rfl rfl, reps_idx (by simpa using h) fun i e u e1 e2 => g (i + 1) e u (by simpa using e1) (by simpa using e2)⟩
theorem repsC_reps (h : RepsC K H Y js k ds vs) (hp : ds.all isP = true) : Reps K H Y ds vs :=
  reps_idx h.1 fun i d v e1 e2 => repE_rep (h.2 i d v e1 e2) (List.all_eq_true.mp hp d (List.mem_of_getElem? e1))
theorem repE_move (hE : ∀ a o, H a = some o → ¬ Y a → H' a = some o) (hY : ∀ a, Y' a → Y a ∨ H a = none) (hl : Lists H Y) (hj : ∀ m b, m < k → js[m]? = some b → js'[m]? = some b) {d : D} {v : V} (h : RepE K H Y js k d v) : RepE K H' Y' js' k d v := by
  cases d with
  | lnk m =>
    obtain ⟨h1, b, h2, h3⟩ := h
    exact ⟨h1, b, hj m b h1 h2, h3⟩
  | non => exact rep_move hE hY hl _ v h
  | bl _ => exact rep_move hE hY hl _ v h
  | int _ => exact rep_move hE hY hl _ v h
  | str _ => exact rep_move hE hY hl _ v h
  | tup _ => exact rep_move hE hY hl _ v h
  | lst _ => exact rep_move hE hY hl _ v h
theorem repsC_moveJ (hE : ∀ a o, H a = some o → ¬ Y a → H' a = some o) (hY : ∀ a, Y' a → Y a ∨ H a = none) (hl : Lists H Y) (hj : ∀ m b, m < k → js[m]? = some b → js'[m]? = some b) (h : RepsC K H Y js k ds vs) : RepsC K H' Y' js' k ds vs :=
  ⟨h.1, fun i d v e1 e2 => repE_move hE hY hl hj (h.2 i d v e1 e2)⟩
theorem repsC_move (hE : ∀ a o, H a = some o → ¬ Y a → H' a = some o) (hY : ∀ a, Y' a → Y a ∨ H a = none) (hl : Lists H Y) (ds : List D) (vs : List V) (h : RepsC K H Y js k ds vs) : RepsC K H' Y' js k ds vs :=
  repsC_moveJ hE hY hl (fun _ _ _ e => e) h
theorem repsC_len (h : RepsC K H Y js k ds vs) : vs.length = ds.length := h.1
theorem repsC_append (h : RepsC K H Y js k ds vs) (g : RepsC K H Y js k es us) : RepsC K H Y js k (ds ++ es) (vs ++ us) := by
  refine ⟨by rw [List.length_append, List.length_append, h.1, g.1], fun i d v e1 e2 => ?_⟩
  by_cases hi : i < ds.length
  · rw [List.getElem?_append_left hi] at e1
    rw [List.getElem?_append_left (by rw [h.1]; exact hi)] at e2
    exact h.2 i d v e1 e2
  · rw [List.getElem?_append_right (by omega)] at e1
    rw [List.getElem?_append_right (by rw [h.1]; omega), h.1] at e2
    exact g.2 _ d v e1 e2
theorem repsC_set {i : Nat} {d : D} {v : V} (h : RepsC K H Y js k ds vs) (g : Rep K H Y d v) : RepsC K H Y js k (ds.set i d) (vs.set i v) := by
  refine ⟨by rw [List.length_set, List.length_set, h.1], fun j e u e1 e2 => ?_⟩
  by_cases hj : i = j
  · subst hj
    rw [List.getElem?_set] at e1 e2
    simp only [if_true] at e1 e2
    split at e1
    · cases e1
      split at e2
      · cases e2; exact repE_of g
      · cases e2
    · cases e1
  · rw [List.getElem?_set_ne hj] at e1 e2
    exact h.2 j e u e1 e2
theorem repsC_get {i : Nat} {d : D} (h : RepsC K H Y js k ds vs) (e : ds[i]? = some d) : ∃ v, vs[i]? = some v ∧ RepE K H Y js k d v := by
  have hi : i < vs.length := by rw [h.1]; exact (List.getElem?_eq_some_iff.mp e).1
  exact ⟨vs[i], List.getElem?_eq_getElem hi, h.2 i d _ e (List.getElem?_eq_getElem hi)⟩
theorem repsC_cons {d : D} {v : V} (g : RepE K H Y js k d v) (h : RepsC K H Y js k ds vs) : RepsC K H Y js k (d :: ds) (v :: vs) :=
  ⟨by simp [h.1], fun i e u e1 e2 => by
    cases i with
    | zero => simp at e1 e2; subst e1; subst e2; exact g
    | succ i => exact h.2 i e u (by simpa using e1) (by simpa using e2)⟩
end
/-! ### the state -/
abbrev Yf (Xo : Addr → Prop) (js : List Addr) : Addr → Prop := fun a => Xo a ∨ a ∈ js
abbrev With (Xo : Addr → Prop) (p : Addr) : Addr → Prop := fun a => Xo a ∨ a = p
/-- how an exception lies: its class, its fields -/
def ExcAt (K : PySem.W.Frag) (Xo : Addr → Prop) (js : List Addr) (c : Str) (fs : List (Str × D)) (cls : Value) (od : Option Addr) (H : Hp) : Prop :=
  ∃ C, PySem.W.nsIn K mainGlobals c = some (some (.ref C)) ∧ cls = .ref C ∧ ∃ d us, od = some d ∧ H d = some (.xd us) ∧ us.map (·.1) = fs.map (·.1) ∧ Reps K H (Yf Xo js) (fs.map (·.2)) (us.map (·.2))
def HRep (K : PySem.W.Frag) (Z : List Zx) (H : Hp) (Y : Addr → Prop) (js : List Addr) : HV → V → Prop
  | .val d, v => Rep K H Y d v
  | .jar k, v => ∃ a, js[k]? = some a ∧ v = .ref a
  | .new _, _ => False
  | .exc k, v => ∃ z, Z[k]? = some z ∧ v = .ref z.a
  | .newB _ _, _ => True
def norm : HV → HV
  | .new ds => .val (.lst ds)
  | h => h
structure Fit (K : PySem.W.Frag) (Z : List Zx) (Xo : Addr → Prop) (js : List Addr) (H : Hp) (σ : St) (env : En) (J : Jr) : Prop where
  out : Lists H Xo
  nd : js.Nodup
  jx : ∀ a ∈ js, ¬ Xo a
  len : js.length = J.length
  slen : σ.length = env.length
  jar : ∀ (k : Nat) (a : Addr) (ds : List D), js[k]? = some a → J[k]? = some ds → ∃ vs, H a = some (.lst vs) ∧ RepsC K H (Yf Xo js) js k ds vs
  slot : ∀ (i : Nat) (h : HV), env[i]? = some (some h) → ∃ v, σ[i]? = some (some v) ∧ HRep K Z H (Yf Xo js) js h v
  ez : ∀ z ∈ Z, ExcAt K Xo js z.c z.fs z.cls z.od H
section
variable {K : PySem.W.Frag} {Xo Xo' : Addr → Prop} {js : List Addr} {H H' : Hp} {σ : St} {env : En} {J : Jr} {Z : List Zx}
theorem Fit.at (F : Fit K Z Xo js H σ env J) {k : Nat} {a : Addr} (e : js[k]? = some a) : ∃ ds vs, J[k]? = some ds ∧ H a = some (.lst vs) ∧ RepsC K H (Yf Xo js) js k ds vs := by
  have hk : k < js.length := (List.getElem?_eq_some_iff.mp e).1
  obtain ⟨ds, h⟩ : ∃ ds, J[k]? = some ds := ⟨J[k]'(by rw [← F.len]; exact hk), List.getElem?_eq_getElem _⟩
  obtain ⟨vs, h1, h2⟩ := F.jar k a ds e h
  exact ⟨ds, vs, h, h1, h2⟩
theorem Fit.lists (F : Fit K Z Xo js H σ env J) : Lists H (Yf Xo js) := fun a h => by
  rcases h with h | h
  · exact F.out a h
  · obtain ⟨k, hk, e⟩ := List.getElem_of_mem h
    obtain ⟨ds, vs, _, h1, _⟩ := F.at (k := k) (a := a) (by rw [List.getElem?_eq_getElem hk, e])
    exact ⟨vs, h1⟩
theorem HRep.move {Y Y' : Addr → Prop} (hE : ∀ a o, H a = some o → ¬ Y a → H' a = some o) (hY : ∀ a, Y' a → Y a ∨ H a = none) (hl : Lists H Y) {h : HV} {v : V} (x : HRep K Z H Y js h v) : HRep K Z H' Y' js h v := by
  cases h with
  | val d => exact rep_move hE hY hl d v x
  | jar k => exact x
  | new ds => exact x
  | exc k => exact x
  | newB i r => exact x
/-- another heap, other locks -/
theorem ExcAt.move {js' : List Addr} {c : Str} {fs : List (Str × D)} {cls : Value} {od : Option Addr} (x : ExcAt K Xo js c fs cls od H) (hE : ∀ a o, H a = some o → ¬ Yf Xo js a → H' a = some o) (hY : ∀ a, Yf Xo' js' a → Yf Xo js a ∨ H a = none) (hl : Lists H (Yf Xo js)) : ExcAt K Xo' js' c fs cls od H' := by
  obtain ⟨C, c1, c2, d, us, d1, d2, d3, d4⟩ := x
  refine ⟨C, c1, c2, d, us, d1, hE d _ d2 fun y => ?_, d3, reps_move hE hY hl _ _ d4⟩
  obtain ⟨xs, e⟩ := hl d y
  rw [d2] at e; cases e
theorem Fit.move (F : Fit K Z Xo js H σ env J) (hE : ∀ a o, H a = some o → H' a = some o) (hX : ∀ a, Xo' a → Xo a ∨ H a = none) (ho : Lists H' Xo') : Fit K Z Xo' js H' σ env J := by
  have hl := F.lists
  have hY : ∀ a, Yf Xo' js a → Yf Xo js a ∨ H a = none := fun a h => by
    rcases h with h | h
    · rcases hX a h with z | z
      · exact .inl (.inl z)
      · exact .inr z
    · exact .inl (.inr h)
  refine ⟨ho, F.nd, fun a ha z => ?_, F.len, F.slen, fun k a ds e1 e2 => ?_, fun i h e => ?_, fun z hz => (F.ez z hz).move (fun a o q _ => hE a o q) hY hl⟩
  · rcases hX a z with z | z
    · exact F.jx a ha z
    · obtain ⟨xs, q⟩ := hl a (.inr ha)
      rw [q] at z; cases z
  · obtain ⟨vs, h1, h2⟩ := F.jar k a ds e1 e2
    exact ⟨vs, hE _ _ h1, repsC_move (fun a o q _ => hE a o q) hY hl _ _ h2⟩
  · obtain ⟨v, h1, h2⟩ := F.slot i h e
    exact ⟨v, h1, h2.move (fun a o q _ => hE a o q) hY hl⟩
theorem Fit.same (F : Fit K Z Xo js H σ env J) (hE : Same H H') : Fit K Z Xo js H' σ env J :=
  F.move hE (fun _ h => .inl h) fun a h => let ⟨xs, e⟩ := F.out a h; ⟨xs, hE _ _ e⟩
theorem Fit.lock (F : Fit K Z Xo js H σ env J) (hE : Same H H') {p : Addr} {vs : List V} (hp : H p = none) (e : H' p = some (.lst vs)) : Fit K Z (With Xo p) js H' σ env J :=
  F.move hE (fun a h => h.elim .inl fun z => .inr (z ▸ hp)) fun a h => h.elim (fun h => let ⟨xs, e⟩ := F.out a h; ⟨xs, hE _ _ e⟩) fun z => ⟨vs, z ▸ e⟩
theorem Fit.unlock {p : Addr} (F : Fit K Z (With Xo p) js H σ env J) : Fit K Z Xo js H σ env J :=
  F.move (fun _ _ e => e) (fun _ h => .inl (.inl h)) fun a h => F.out a (.inl h)
theorem same_upd {H : Hp} {p : Addr} {o : HO} (h : H p = none) : Same H (upd H p o) := fun b x e => by
  rw [upd_ne (ne_of_none e h)]
  exact e
end

/-! ### readings of expressions -/
abbrev Ext (js : List Addr) (H H' : Hp) : Prop := ∀ a o, H a = some o → a ∉ js → H' a = some o
theorem Ext.of {js : List Addr} {H H' : Hp} (s : Same H H') : Ext js H H' := fun a o e _ => s a o e
theorem Ext.trans {js : List Addr} {H H1 H2 : Hp} (a : Ext js H H1) (b : Ext js H1 H2) : Ext js H H2 := fun c o e n => b c o (a c o e n) n
theorem Ext.refl {js : List Addr} {H : Hp} : Ext js H H := fun _ _ e _ => e
def OutN (K : PySem.W.Frag) (Z : List Zx) (Xo : Addr → Prop) (js : List Addr) (H H' : Hp) (σ : St) (env : En) (J : Jr) (h : HV) (v : V) : Prop := match h with
  | .new ds => ∃ p vs, v = .ref p ∧ H p = none ∧ H' p = some (.lst vs) ∧ Fit K Z (With Xo p) js H' σ env J ∧ Reps K H' (Yf (With Xo p) js) ds vs
  | .newB cs m => ∃ ps : List Addr, Fit K Z Xo js H' σ env J ∧ (∀ p ∈ ps, H p = none) ∧ (∃ a, (js ++ ps)[m]? = some a ∧ v = .ref a) ∧ Fit K [] Xo (js ++ ps) H' [] [] (J ++ cs)
  | h => Fit K Z Xo js H' σ env J ∧ HRep K Z H' (Yf Xo js) js h v
def Flies (K : PySem.W.Frag) (Z : List Zx) (W : WX) (Xo : Addr → Prop) (js : List Addr) (H : Hp) (σ : St) (env : En) (c : Str) (fs : List (Str × D)) (J : Jr) : Prop :=
  ∀ cls od H', ExcAt K Xo js c fs cls od H' → Ext js H H' → Fit K Z Xo js H' σ env J → W cls od σ H'
/-- raw: fresh lists are told -/
def PostN (K : PySem.W.Frag) (Z : List Zx) (W : WX) (Xo : Addr → Prop) (js : List Addr) (H : Hp) (σ : St) (env : En) (Q : VK) : R HV → Prop
  | .ok h J => ∀ v H', Ext js H H' → OutN K Z Xo js H H' σ env J h v → Q v H'
  | .err c fs J => Flies K Z W Xo js H σ env c fs J
  | .stuck => False
def PostD (K : PySem.W.Frag) (Z : List Zx) (W : WX) (Xo : Addr → Prop) (js : List Addr) (H : Hp) (σ : St) (env : En) (Q : VK) : R HV → Prop
  | .ok h J => ∀ v H', Ext js H H' → Fit K Z Xo js H' σ env J → HRep K Z H' (Yf Xo js) js (norm h) v → Q v H'
  | .err c fs J => Flies K Z W Xo js H σ env c fs J
  | .stuck => False
def PostB (K : PySem.W.Frag) (Z : List Zx) (W : WX) (Xo : Addr → Prop) (js : List Addr) (H : Hp) (σ : St) (env : En) (Q : Bool → Hp → Prop) : R Bool → Prop
  | .ok b J => ∀ H', Ext js H H' → Fit K Z Xo js H' σ env J → Q b H'
  | .err c fs J => Flies K Z W Xo js H σ env c fs J
  | .stuck => False
def tN (K : PySem.W.Frag) (Z : List Zx) (W : WX) (f : EF) : TE := fun σ H Q => ∃ Xo js env J, Fit K Z Xo js H σ env J ∧ PostN K Z W Xo js H σ env Q (f env J)
def tD (K : PySem.W.Frag) (Z : List Zx) (W : WX) (f : EF) : TE := fun σ H Q => ∃ Xo js env J, Fit K Z Xo js H σ env J ∧ PostD K Z W Xo js H σ env Q (f env J)
abbrev BF := En → Jr → R Bool
def tT (K : PySem.W.Frag) (Z : List Zx) (W : WX) (f : BF) : TT := fun σ H Q => ∃ Xo js env J, Fit K Z Xo js H σ env J ∧ PostB K Z W Xo js H σ env Q (f env J)
theorem Flies.later {K : PySem.W.Frag} {Z : List Zx} {W : WX} {Xo : Addr → Prop} {js : List Addr} {H H1 : Hp} {σ : St} {env : En} {c : Str} {fs : List (Str × D)} {J : Jr} (h : Flies K Z W Xo js H σ env c fs J) (e : Ext js H H1) : Flies K Z W Xo js H1 σ env c fs J :=
  fun cls od H' x y z => h cls od H' x (e.trans y) z

theorem pe_mono {X : Cx} {e : Expr} {t t' : TE} (h : PE X e t) (m : ∀ σ H Q, t' σ H Q → t σ H Q) : PE X e t' := ⟨fun pins s σ H Q I w => h.run pins s σ H Q I (m σ H Q w)⟩
theorem pt_mono {X : Cx} {e : Expr} {t t' : TT} (h : PT X e t) (m : ∀ σ H Q, t' σ H Q → t σ H Q) : PT X e t' := ⟨fun pins s σ H Q I w => h.run pins s σ H Q I (m σ H Q w)⟩
theorem ps_mono {X : Cx} {e : Stmt} {t t' : TS} (h : PS X e t) (m : ∀ D σ H, t' D σ H → t D σ H) : PS X e t' := ⟨fun pins s σ H D I w => h.run pins s σ H D I (m D σ H w)⟩
theorem pss_mono {X : Cx} {e : List Stmt} {t t' : TS} (h : PSs X e t) (m : ∀ D σ H, t' D σ H → t D σ H) : PSs X e t' := ⟨fun pins s σ H D I w => h.run pins s σ H D I (m D σ H w)⟩

theorem outN_norm {K : PySem.W.Frag} {Z : List Zx} {Xo : Addr → Prop} {js : List Addr} {H H' : Hp} {σ : St} {env : En} {J : Jr} {h : HV} {v : V} (hl : Lists H Xo) (o : OutN K Z Xo js H H' σ env J h v) : Fit K Z Xo js H' σ env J ∧ HRep K Z H' (Yf Xo js) js (norm h) v := by
  cases h with
  | val d => exact o
  | jar k => exact o
  | exc k => exact o
  | newB cs m =>
    obtain ⟨ps, F, _⟩ := o
    exact ⟨F, trivial⟩
  | new ds =>
    obtain ⟨p, vs, e, hp, hq, F, r⟩ := o
    refine ⟨F.unlock, rep_lst.mpr ⟨p, vs, e, .inl ⟨.inl hq, fun y => ?_⟩, ?_⟩⟩
    · rcases y with y | y
      · obtain ⟨xs, z⟩ := hl p y
        rw [hp] at z; cases z
      · exact F.jx p y (.inr rfl)
    · exact reps_move (fun _ _ e _ => e) (fun a y => .inl (y.elim (fun y => .inl (.inl y)) .inr)) F.lists _ _ r
end L2.Pz
set_option Elab.async false
set_option linter.all false
set_option maxRecDepth 100000
set_option maxHeartbeats 4000000
set_option autoImplicit false
namespace L2.Pz
open PySem PySem.Spec PyProof.Rows

/-! ### evaluation: names, constants, operators -/
def eName (i : Nat) : EF := fun env J => match env[i]? with
  | some (some h) => .ok h J
  | _ => .stuck
def eC (d : D) : EF := fun _ J => .ok (.val d) J
/-- a cell as a list: of data alone -/
def derefC : Option (List D) → Option D
  | some ds => if ds.all isP = true then some (.lst ds) else none
  | none => none
def deref (J : Jr) : HV → Option D
  | .val d => some d
  | .new ds => some (.lst ds)
  | .jar k => derefC J[k]?
  | .exc _ => none
  | .newB _ _ => none
abbrev F1 := D → Option HV
abbrev F2 := D → D → Option HV
def give (J : Jr) : Option HV → R HV
  | some z => .ok z J
  | none => .stuck
def app1 (fo : F1) (J : Jr) (h1 : HV) : R HV := match deref J h1 with
  | some d => give J (fo d)
  | none => .stuck
def app2 (fo : F2) (J : Jr) (h1 h2 : HV) : R HV := match deref J h1, deref J h2 with
  | some d, some e => give J (fo d e)
  | _, _ => .stuck
def eUn (fo : F1) (f : EF) : EF := fun env J => (f env J).bind fun h1 J1 => app1 fo J1 h1
def eBin (fo : F2) (f g : EF) : EF := fun env J => (f env J).bind fun h1 J1 => (g env J1).bind fun h2 J2 => app2 fo J2 h1 h2
def toB : R HV → R Bool := fun r => r.bind fun h J => match h with
  | .val (.bl b) => .ok b J
  | _ => .stuck
def truth : D → Option Bool
  | .non => some false
  | .bl b => some b
  | .int i => some (i != 0)
  | .str y => if y.length ≤ big then some ((y.length : Int) != 0) else none
  | .tup xs => some (!xs.isEmpty)
  | .lst xs => some (!xs.isEmpty)
  | .lnk _ => none
def bTruth (f : EF) : BF := fun env J => (f env J).bind fun h J1 => match deref J1 h with
  | some d => (match truth d with | some b => .ok b J1 | none => .stuck)
  | none => .stuck
def bCmp (fo : F2) (f g : EF) : BF := fun env J => toB (eBin fo f g env J)
def bNot (c : BF) : BF := fun env J => (c env J).bind fun b J1 => .ok (!b) J1
def bAnd (c d : BF) : BF := fun env J => (c env J).bind fun b J1 => if b = true then d env J1 else .ok false J1
def bOr (c d : BF) : BF := fun env J => (c env J).bind fun b J1 => if b = true then .ok true J1 else d env J1
def eNot (f : EF) : EF := fun env J => (toB (f env J)).bind fun b J1 => .ok (.val (.bl (!b))) J1
def eAnd (f g : EF) : EF := fun env J => (toB (f env J)).bind fun b J1 => if b = true then g env J1 else .ok (.val (.bl false)) J1
def eOr (f g : EF) : EF := fun env J => (toB (f env J)).bind fun b J1 => if b = true then .ok (.val (.bl true)) J1 else g env J1
def eIf (c : BF) (f g : EF) : EF := fun env J => (c env J).bind fun b J1 => if b = true then f env J1 else g env J1
/-- a < b < c -/
def eChain (fo go : F2) (f g k : EF) : EF := fun env J => (f env J).bind fun h1 J1 => (g env J1).bind fun h2 J2 => (toB (app2 fo J2 h1 h2)).bind fun b J3 =>
  if b = true then (k env J3).bind fun h3 J4 => app2 go J4 h2 h3 else .ok (.val (.bl false)) J3

def RepTop (K : PySem.W.Frag) (H : Hp) (Y : Addr → Prop) : D → V → Prop
  | .lst ds, v => ∃ a vs, v = .ref a ∧ SqL K H a vs ∧ Reps K H Y ds vs
  | d, v => Rep K H Y d v
def PureOut (K : PySem.W.Frag) (Y : Addr → Prop) (H H' : Hp) (z : HV) (v : V) : Prop := Same H H' ∧ match z with
  | .val d => Rep K H' Y d v
  | .new ds => ∃ p vs, v = .ref p ∧ H p = none ∧ H' p = some (.lst vs) ∧ Reps K H' (fun a => Y a ∨ a = p) ds vs
  | .jar _ => False
  | .exc _ => False
  | .newB _ _ => False
def Sem1 (K : PySem.W.Frag) (r : V → Hp → VK → Prop) (fo : F1) : Prop := ∀ (H : Hp) (Y : Addr → Prop) (x : V) (d : D) (z : HV) (Q : VK), Lists H Y → RepTop K H Y d x → fo d = some z → (∀ v H', PureOut K Y H H' z v → Q v H') → r x H Q
def Sem2 (K : PySem.W.Frag) (r : R2) (fo : F2) : Prop := ∀ (H : Hp) (Y : Addr → Prop) (x y : V) (d e : D) (z : HV) (Q : VK), Lists H Y → RepTop K H Y d x → RepTop K H Y e y → fo d e = some z → (∀ v H', PureOut K Y H H' z v → Q v H') → r x y H Q

section
variable {K : PySem.W.Frag} {H : Hp} {Y : Addr → Prop} {v : V} {Z : List Zx}
theorem top_non (h : RepTop K H Y .non v) : v = .non := rep_non (K := K) (H := H) (Y := Y) h
theorem top_bl {b : Bool} (h : RepTop K H Y (.bl b) v) : v = .bl b := rep_bl (K := K) (H := H) (Y := Y) h
theorem top_int {b : Int} (h : RepTop K H Y (.int b) v) : v = .int b := rep_int (K := K) (H := H) (Y := Y) h
theorem top_str {b : Str} (h : RepTop K H Y (.str b) v) : v = .str b := rep_str (K := K) (H := H) (Y := Y) h
theorem top_lnk {m : Nat} (h : RepTop K H Y (.lnk m) v) : False := by
  have h : Rep K H Y (.lnk m) v := h
  exact rep_lnk h
theorem top_tup {b : List D} (h : RepTop K H Y (.tup b) v) : ∃ a vs, v = .ref a ∧ SqT K H a vs ∧ Reps K H Y b vs := rep_tup (K := K) (H := H) (Y := Y).mp h
end
section
variable {K : PySem.W.Frag} {W : WX} {Xo : Addr → Prop} {js : List Addr} {H H1 H2 H' : Hp} {σ : L2.St} {env : En} {J J1 J2 : Jr} {Z : List Zx}
theorem deref_top (F : Fit K Z Xo js H σ env J) {h : HV} {v : V} {d : D} (x : HRep K Z H (Yf Xo js) js (norm h) v) (e : deref J h = some d) : RepTop K H (Yf Xo js) d v := by
  have val : ∀ d, Rep K H (Yf Xo js) d v → RepTop K H (Yf Xo js) d v := fun d r => by
    cases d with
    | lst ds =>
      obtain ⟨a, vs, e, s, q⟩ := rep_lst.mp r
      exact ⟨a, vs, e, s.sq, q⟩
    | _ => exact r
  cases h with
  | val d' =>
    cases e
    exact val _ x
  | new ds =>
    cases e
    exact val _ x
  | exc k => cases e
  | jar k =>
    obtain ⟨a, ea, ev⟩ := x
    obtain ⟨ds, vs, h1, h2, h3⟩ := F.at ea
    have e' : derefC J[k]? = some d := e
    rw [h1] at e'
    have e' : (if ds.all isP = true then some (D.lst ds) else none) = some d := e'
    by_cases hp : ds.all isP = true
    · rw [if_pos hp] at e'
      cases e'
      exact ⟨a, vs, ev, .of h2, repsC_reps h3 hp⟩
    · rw [if_neg hp] at e'; cases e'
  | newB i r => cases e
theorem none_back (e : Ext js H H2) (hl : Lists H2 (Yf Xo js)) {p : Addr} (h : H2 p = none) : H p = none := by
  cases q : H p with
  | none => rfl
  | some o =>
    by_cases hp : p ∈ js
    · obtain ⟨xs, z⟩ := hl p (.inr hp)
      rw [h] at z; cases z
    · rw [e p o q hp] at h; cases h
theorem HRep.ext (F : Fit K Z Xo js H σ env J) (e : Ext js H H1) {h : HV} {v : V} (x : HRep K Z H (Yf Xo js) js h v) : HRep K Z H1 (Yf Xo js) js h v :=
  x.move (fun a o q n => e a o q fun z => n (.inr z)) (fun _ y => .inl y) F.lists
theorem Rep.ext (F : Fit K Z Xo js H σ env J) (e : Ext js H H1) {d : D} {v : V} (x : Rep K H (Yf Xo js) d v) : Rep K H1 (Yf Xo js) d v :=
  rep_move (fun a o q n => e a o q fun z => n (.inr z)) (fun _ y => .inl y) F.lists _ _ x
theorem Reps.ext (F : Fit K Z Xo js H σ env J) (e : Ext js H H1) {d : List D} {v : List V} (x : Reps K H (Yf Xo js) d v) : Reps K H1 (Yf Xo js) d v :=
  reps_move (fun a o q n => e a o q fun z => n (.inr z)) (fun _ y => .inl y) F.lists _ _ x
/-- a pure operation's end -/
theorem pure_out (F : Fit K Z Xo js H σ env J) (e0 : Ext js H1 H) {z : HV} {v : V} (p : PureOut K (Yf Xo js) H H' z v) : Ext js H1 H' ∧ OutN K Z Xo js H1 H' σ env J z v := by
  obtain ⟨s, q⟩ := p
  refine ⟨e0.trans (.of s), ?_⟩
  cases z with
  | val d => exact ⟨F.same s, q⟩
  | jar k => exact q.elim
  | exc k => exact q.elim
  | newB i r => exact q.elim
  | new ds =>
    obtain ⟨p, vs, e, hp, hq, r⟩ := q
    have G := F.lock s hp hq
    refine ⟨p, vs, e, none_back e0 F.lists hp, hq, G, reps_move (fun _ _ e _ => e) (fun a y => .inl ?_) (fun a y => ?_) _ _ r⟩
    · rcases y with (y | y) | y
      · exact .inl (.inl y)
      · exact .inr y
      · exact .inl (.inr y)
    · rcases y with (y | y) | y
      · exact G.lists a (.inl (.inl y))
      · exact G.lists a (.inr y)
      · exact G.lists a (.inl (.inr y))
theorem postD_of {Q : VK} {r : R HV} (F : Fit K Z Xo js H σ env J) (p : PostD K Z W Xo js H σ env Q r) : PostN K Z W Xo js H σ env Q r := by
  cases r with
  | ok h J1 => exact fun v H' e o => let ⟨G, x⟩ := outN_norm F.out o; p v H' e G x
  | err c fs J1 => exact p
  | stuck => exact p
end

section
variable {X : Cx} {W : WX} {e a b c : Expr} {f g k : EF} {pos : Pos} {rest : List Expr} {cb db : BF} {Z : List Zx}
theorem toD (h : PE X e (tN X.K Z W f)) : PE X e (tD X.K Z W f) := pe_mono h fun σ H Q ⟨Xo, js, env, J, F, p⟩ => ⟨Xo, js, env, J, F, postD_of F p⟩
theorem pd_name {i : Nat} {x : Str} (h : PE X (.Name x pos) (tVar i)) : PE X (.Name x pos) (tD X.K Z W (eName i)) := pe_mono h fun σ H Q ⟨Xo, js, env, J, F, p⟩ => by
  unfold eName at p
  cases r : env[i]? with
  | none => rw [r] at p; exact p.elim
  | some o =>
    cases o with
    | none => rw [r] at p; exact p.elim
    | some z =>
      rw [r] at p
      obtain ⟨v, e1, x⟩ := F.slot i z r
      refine ⟨v, e1, p v H .refl F ?_⟩
      cases z with
      | new ds => exact x.elim
      | _ => exact x
theorem nn_name {i : Nat} : True := trivial
theorem pd_c {t : TE} {d : D} {v : V} (h : PE X e (tC v)) (hr : ∀ H Y, Rep X.K H Y d v) : PE X e (tD X.K Z W (eC d)) := pe_mono h fun σ H Q ⟨Xo, js, env, J, F, p⟩ => p v H .refl F (hr _ _)
theorem pd_int {i j} : PE X (.Constant (.int i) j pos) (tD X.K Z W (eC (.int i))) := pd_c (t := tC (.int i)) pe_int fun _ _ => mk_int
theorem pd_bl {i j} : PE X (.Constant (.bool i) j pos) (tD X.K Z W (eC (.bl i))) := pd_c (t := tC (.bl i)) pe_bl fun _ _ => mk_bl
theorem pd_str {i j} : PE X (.Constant (.str i) j pos) (tD X.K Z W (eC (.str i))) := pd_c (t := tC (.str i)) pe_str fun _ _ => mk_str
theorem pd_non {j} : PE X (.Constant .none j pos) (tD X.K Z W (eC .non)) := pd_c (t := tC .non) pe_non fun _ _ => mk_non

theorem un_read {r : V → Hp → VK → Prop} {fo : F1} {ta : TE} (sem : Sem1 X.K r fo) (m : ∀ σ H Q, tD X.K Z W f σ H Q → ta σ H Q) {σ : L2.St} {H : Hp} {Q : VK} (w : tN X.K Z W (eUn fo f) σ H Q) : ta σ H fun x H1 => r x H1 Q := by
  obtain ⟨Xo, js, env, J, F, p⟩ := w
  refine m _ _ _ ⟨Xo, js, env, J, F, ?_⟩
  unfold eUn at p
  cases hf : f env J with
  | stuck => rw [hf] at p; exact p.elim
  | err c fs J1 => rw [hf] at p; exact p
  | ok h1 J1 =>
    rw [hf] at p
    intro x H1 e1 F1 x1
    have p : PostN X.K Z W Xo js H σ env Q (app1 fo J1 h1) := p
    unfold app1 at p
    cases hd : deref J1 h1 with
    | none => rw [hd] at p; exact p.elim
    | some d =>
      rw [hd] at p
      have p : PostN X.K Z W Xo js H σ env Q (give J1 (fo d)) := p
      cases hz : fo d with
      | none => rw [hz] at p; exact p.elim
      | some z =>
        rw [hz] at p
        refine sem H1 (Yf Xo js) x d z Q F1.lists (deref_top F1 x1 hd) hz fun v H' o => ?_
        obtain ⟨e2, o2⟩ := pure_out F1 e1 o
        exact p v H' e2 o2
theorem app2_read {r : R2} {fo : F2} (sem : Sem2 X.K r fo) {Xo : Addr → Prop} {js : List Addr} {H H2 : Hp} {σ : L2.St} {env : En} {J2 : Jr} {h1 h2 : HV} {x y : V} {Q : VK} (e02 : Ext js H H2) (F2 : Fit X.K Z Xo js H2 σ env J2)
    (x1 : HRep X.K Z H2 (Yf Xo js) js (norm h1) x) (y2 : HRep X.K Z H2 (Yf Xo js) js (norm h2) y) (p : PostN X.K Z W Xo js H σ env Q (app2 fo J2 h1 h2)) : r x y H2 Q := by
  unfold app2 at p
  cases hd : deref J2 h1 with
  | none => rw [hd] at p; exact p.elim
  | some d =>
    cases he : deref J2 h2 with
    | none => rw [hd, he] at p; exact p.elim
    | some e =>
      rw [hd, he] at p
      have p : PostN X.K Z W Xo js H σ env Q (give J2 (fo d e)) := p
      cases hz : fo d e with
      | none => rw [hz] at p; exact p.elim
      | some z =>
        rw [hz] at p
        refine sem H2 (Yf Xo js) x y d e z Q F2.lists (deref_top F2 x1 hd) (deref_top F2 y2 he) hz fun v H' o => ?_
        obtain ⟨e3, o2⟩ := pure_out F2 e02 o
        exact p v H' e3 o2
theorem bin_read {r : R2} {fo : F2} (sem : Sem2 X.K r fo) {σ : L2.St} {H : Hp} {Q : VK} (w : tN X.K Z W (eBin fo f g) σ H Q) : tOp r (tD X.K Z W f) (tD X.K Z W g) σ H Q := by
  obtain ⟨Xo, js, env, J, F, p⟩ := w
  refine ⟨Xo, js, env, J, F, ?_⟩
  unfold eBin at p
  cases hf : f env J with
  | stuck => rw [hf] at p; exact p.elim
  | err c fs J1 => rw [hf] at p; exact p
  | ok h1 J1 =>
    rw [hf] at p
    intro x H1 e1 F1 x1
    have p : PostN X.K Z W Xo js H σ env Q ((g env J1).bind fun h2 J2 => app2 fo J2 h1 h2) := p
    refine ⟨Xo, js, env, J1, F1, ?_⟩
    cases hg : g env J1 with
    | stuck => rw [hg] at p; exact p.elim
    | err c fs J2 => rw [hg] at p; exact p.later e1
    | ok h2 J2 =>
      rw [hg] at p
      intro y H2 e2 F2 y2
      exact app2_read sem (e1.trans e2) F2 (x1.ext F1 e2) y2 p
theorem pn_bin {op : Operator} {r : R2} {fo : F2} (ho : OpR X (binaryOp op) r) (sem : Sem2 X.K r fo) (ha : PE X a (tD X.K Z W f)) (hb : PE X b (tD X.K Z W g)) : PE X (.BinOp a op b pos) (tN X.K Z W (eBin fo f g)) :=
  pe_mono (pe_op ho ha hb) fun σ H Q w => bin_read sem w
theorem pn_cmp {op : CmpOp} {r : R2} {fo : F2} (ho : OpR X (compareOp op) r) (sem : Sem2 X.K r fo) (ha : PE X a (tD X.K Z W f)) (hb : PE X b (tD X.K Z W g)) (hm : behindInMarks op b = false) : PE X (.Compare a [op] [b] pos) (tN X.K Z W (eBin fo f g)) :=
  pe_mono (pe_cmpR ho ha hb hm) fun σ H Q w => bin_read sem w
theorem pn_un {op : UnaryOp} {r : V → Hp → VK → Prop} {fo : F1} (ho : UnR X (unaryOp op) r) (sem : Sem1 X.K r fo) (ha : PE X a (tD X.K Z W f)) : PE X (.UnaryOp op a pos) (tN X.K Z W (eUn fo f)) :=
  pe_mono (pe_un ho ha) fun σ H Q w => un_read sem (fun _ _ _ z => z) w
theorem pn_ix {r : R2} {fo : F2} (ho : IxR X r) (sem : Sem2 X.K r fo) (ha : PE X a (tD X.K Z W f)) (hb : PE X b (tD X.K Z W g)) (hs : PlainIx b) : PE X (.Subscript a b pos) (tN X.K Z W (eBin fo f g)) :=
  pe_mono (pe_ix ho ha hb hs) fun σ H Q w => bin_read sem w
/-- a built-in of one, of two arguments -/
theorem pn_b1 {x : Str} {id : String} {p : Pos} {r : List V → Hp → VK → Prop} {fo : F1} (hc : CallR X (.builtin id) r) (sem : Sem1 X.K (fun x H Q => r [x] H Q) fo) (hg : Gl X x) (hm : X.mg x = none) (hv : bootBuiltins x = some (.builtin id)) (ha : PE X a (tD X.K Z W f))
    (hn : x ≠ "__name__") (hdb : (x == ("__debug__" : Str)) = false) (h1 : starEach [a] X.env = (false, eval a X.env) :: starEach [] X.env) (hpl : (backTo pos (starEach [] X.env)).any (·.1) = false) : PE X (.Call (.Name x p) [a] [] pos) (tN X.K Z W (eUn fo f)) :=
  pe_mono (pe_callB hc hg hm hv (pa_cons ha pa_nil h1) hn hdb h1 hpl) fun σ H Q w => un_read (ta := tD X.K Z W f) sem (fun _ _ _ z => z) w
theorem pn_t1 {x : Str} {T : String} {p : Pos} {r : List V → Hp → VK → Prop} {fo : F1} (hc : CallR X (.type T) r) (sem : Sem1 X.K (fun x H Q => r [x] H Q) fo) (hg : Gl X x) (hm : X.mg x = none) (hv : bootBuiltins x = some (.type T)) (ha : PE X a (tD X.K Z W f))
    (hn : x ≠ "__name__") (hdb : (x == ("__debug__" : Str)) = false) (h1 : starEach [a] X.env = (false, eval a X.env) :: starEach [] X.env) (hpl : (backTo pos (starEach [] X.env)).any (·.1) = false) : PE X (.Call (.Name x p) [a] [] pos) (tN X.K Z W (eUn fo f)) :=
  pe_mono (pe_callTy hc hg hm hv (pa_cons ha pa_nil h1) hn hdb h1 hpl) fun σ H Q w => un_read (ta := tD X.K Z W f) sem (fun _ _ _ z => z) w
theorem pn_b2 {x : Str} {id : String} {p : Pos} {r : List V → Hp → VK → Prop} {fo : F2} (hc : CallR X (.builtin id) r) (sem : Sem2 X.K (fun x y H Q => r [x, y] H Q) fo) (hg : Gl X x) (hm : X.mg x = none) (hv : bootBuiltins x = some (.builtin id)) (ha : PE X a (tD X.K Z W f)) (hb : PE X b (tD X.K Z W g))
    (hn : x ≠ "__name__") (hdb : (x == ("__debug__" : Str)) = false) (h1 : starEach [a, b] X.env = (false, eval a X.env) :: starEach [b] X.env) (h2 : starEach [b] X.env = (false, eval b X.env) :: starEach [] X.env) (hpl : (backTo pos (starEach [b] X.env)).any (·.1) = false) : PE X (.Call (.Name x p) [a, b] [] pos) (tN X.K Z W (eBin fo f g)) :=
  pe_mono (pe_callB hc hg hm hv (pa_cons ha (pa_cons hb pa_nil h2) h1) hn hdb h1 hpl) fun σ H Q w => bin_read sem w
/-- isinstance(x, T), T a name of a built-in class -/
theorem pn_isi {x : Str} {n : String} {p p2 : Pos} {y : Str} {r : List V → Hp → VK → Prop} {fo : F1} (hc : CallR X (.builtin "isinstance") r) (sem : Sem1 X.K (fun x H Q => r [x, .ty n] H Q) fo) (hg : Gl X x) (hm : X.mg x = none) (hv : bootBuiltins x = some (.builtin "isinstance")) (ha : PE X a (tD X.K Z W f))
    (hy : PE X (.Name y p2) (tC (.ty n)))
    (hn : x ≠ "__name__") (hdb : (x == ("__debug__" : Str)) = false) (h1 : starEach [a, .Name y p2] X.env = (false, eval a X.env) :: starEach [.Name y p2] X.env) (h2 : starEach [.Name y p2] X.env = (false, eval (.Name y p2) X.env) :: starEach [] X.env) (hpl : (backTo pos (starEach [.Name y p2] X.env)).any (·.1) = false) :
    PE X (.Call (.Name x p) [a, .Name y p2] [] pos) (tN X.K Z W (eUn fo f)) :=
  pe_mono (pe_callB hc hg hm hv (pa_cons ha (pa_cons hy pa_nil h2) h1) hn hdb h1 hpl) fun σ H Q w => un_read (ta := tD X.K Z W f) sem (fun _ _ _ z => z) w

/-! ### tests -/
theorem outN_bl {Xo : Addr → Prop} {js : List Addr} {H H' : Hp} {σ : L2.St} {env : En} {J : Jr} {b : Bool} {v : V} (o : OutN X.K Z Xo js H H' σ env J (.val (.bl b)) v) : v = .bl b :=
  rep_bl (K := X.K) (H := H') (Y := Yf Xo js) o.2
theorem out_val {Xo : Addr → Prop} {js : List Addr} {H H' : Hp} {σ : L2.St} {env : En} {J : Jr} {d : D} {v : V} (G : Fit X.K Z Xo js H' σ env J) (r : Rep X.K H' (Yf Xo js) d v) : OutN X.K Z Xo js H H' σ env J (.val d) v := ⟨G, r⟩
theorem out_bl {Xo : Addr → Prop} {js : List Addr} {H H' : Hp} {σ : L2.St} {env : En} {J : Jr} {b : Bool} (G : Fit X.K Z Xo js H' σ env J) : OutN X.K Z Xo js H H' σ env J (.val (.bl b)) (.bl b) := out_val G mk_bl
theorem toB_read {f : EF} {σ : L2.St} {H : Hp} {Q : Bool → Hp → Prop} (w : tT X.K Z W (fun env J => toB (f env J)) σ H Q) : tN X.K Z W f σ H fun x H' => ∃ k, x = .bl k ∧ Q k H' := by
  obtain ⟨Xo, js, env, J, F, p⟩ := w
  refine ⟨Xo, js, env, J, F, ?_⟩
  unfold toB at p
  dsimp only at p
  cases hf : f env J with
  | stuck => rw [hf] at p; exact p.elim
  | err c fs J1 => rw [hf] at p; exact p
  | ok z J1 =>
    rw [hf] at p
    intro v H' e o
    cases z with
    | jar k => exact p.elim
    | exc k => exact p.elim
    | newB i r => exact p.elim
    | new ds => exact p.elim
    | val d =>
      cases d with
      | bl b => exact ⟨b, outN_bl o, p H' e o.1⟩
      | _ => exact p.elim
theorem pt_cmpD {op : CmpOp} {r : R2} {fo : F2} (ho : OpR X (compareOp op) r) (sem : Sem2 X.K r fo) (ha : PE X a (tD X.K Z W f)) (hb : PE X b (tD X.K Z W g)) (hm : behindInMarks op b = false) : PT X (.Compare a [op] [b] pos) (tT X.K Z W (bCmp fo f g)) :=
  pt_mono (pt_cmpR ho ha hb hm) fun σ H Q w => bin_read sem (toB_read w)
theorem top_truth {H : Hp} {Y : Addr → Prop} {d : D} {v : V} {k : Bool} (x : RepTop X.K H Y d v) (h : truth d = some k) : TruV X.K v H k := by
  cases d with
  | non => cases top_non x; cases h; rfl
  | bl b => cases top_bl x; cases h; rfl
  | int i => cases top_int x; cases h; rfl
  | lnk m => cases h
  | str y =>
    cases top_str x
    have h : (if y.length ≤ big then some ((y.length : Int) != 0) else none) = some k := h
    by_cases hy : y.length ≤ big
    · rw [if_pos hy] at h
      cases h
      exact ⟨by rw [big_eq]; exact hy, rfl⟩
    · rw [if_neg hy] at h
      cases h
  | tup ds =>
    obtain ⟨a, vs, e, s, q⟩ := top_tup x
    cases e
    cases h
    refine .inr (.inl ⟨vs, s, ?_⟩)
    have := reps_len q
    cases ds <;> cases vs <;> simp_all
  | lst ds =>
    obtain ⟨a, vs, e, s, q⟩ := x
    cases e
    cases h
    refine .inl ⟨vs, s, ?_⟩
    have := reps_len q
    cases ds <;> cases vs <;> simp_all
theorem pt_truthD (ha : PE X a (tD X.K Z W f)) (he : ∀ whole, isTrue a X.env whole = (do let v ← whole; standAt a.pos; holding [v] (truthy v))) : PT X a (tT X.K Z W (bTruth f)) :=
  pt_mono (pt_truth ha he) fun σ H Q ⟨Xo, js, env, J, F, p⟩ => by
    refine ⟨Xo, js, env, J, F, ?_⟩
    unfold bTruth at p
    cases hf : f env J with
    | stuck => rw [hf] at p; exact p.elim
    | err c fs J1 => rw [hf] at p; exact p
    | ok z J1 =>
      rw [hf] at p
      intro v H' e F1 o
      have p : PostB X.K Z W Xo js H σ env Q (match deref J1 z with
        | some d => (match truth d with | some b => .ok b J1 | none => .stuck)
        | none => .stuck) := p
      cases hd : deref J1 z with
      | none => rw [hd] at p; exact p.elim
      | some d =>
        rw [hd] at p
        have p : PostB X.K Z W Xo js H σ env Q (match truth d with | some b => .ok b J1 | none => .stuck) := p
        cases ht : truth d with
        | none => rw [ht] at p; exact p.elim
        | some k =>
          rw [ht] at p
          exact ⟨k, top_truth (deref_top F1 o hd) ht, p H' e F1⟩
theorem pt_notD (ha : PT X a (tT X.K Z W cb)) : PT X (.UnaryOp .Not a pos) (tT X.K Z W (bNot cb)) := pt_mono (pt_not ha) fun σ H Q ⟨Xo, js, env, J, F, p⟩ => by
  refine ⟨Xo, js, env, J, F, ?_⟩
  unfold bNot at p
  cases hf : cb env J with
  | stuck => rw [hf] at p; exact p.elim
  | err c fs J1 => rw [hf] at p; exact p
  | ok z J1 => rw [hf] at p; exact fun H' e G => p H' e G
theorem pw_mono {X : Cx} {e : Expr} {t t' : TT} (h : PW X e t) (m : ∀ σ H Q, t' σ H Q → t σ H Q) : PW X e t' := ⟨fun wh pins s σ H Q I w => h.run wh pins s σ H Q I (m σ H Q w)⟩
theorem pw_andD (ha : PT X a (tT X.K Z W cb)) (hb : PW X (.BoolOp .And (b :: rest) pos) (tT X.K Z W db)) : PW X (.BoolOp .And (a :: b :: rest) pos) (tT X.K Z W (bAnd cb db)) := pw_mono (pw_and ha hb) fun σ H Q ⟨Xo, js, env, J, F, p⟩ => by
  refine ⟨Xo, js, env, J, F, ?_⟩
  unfold bAnd at p
  cases hf : cb env J with
  | stuck => rw [hf] at p; exact p.elim
  | err c fs J1 => rw [hf] at p; exact p
  | ok z J1 =>
    rw [hf] at p
    intro H' e G
    cases z with
    | false => exact iteF (p H' e G)
    | true =>
      refine iteT ⟨Xo, js, env, J1, G, ?_⟩
      have p : PostB X.K Z W Xo js H σ env Q (db env J1) := p
      cases hd : db env J1 with
      | stuck => rw [hd] at p; exact p.elim
      | err c fs J2 => rw [hd] at p; exact p.later e
      | ok y J2 => rw [hd] at p; exact fun H2 e2 G2 => p H2 (e.trans e2) G2
theorem pw_orD (ha : PT X a (tT X.K Z W cb)) (hb : PW X (.BoolOp .Or (b :: rest) pos) (tT X.K Z W db)) : PW X (.BoolOp .Or (a :: b :: rest) pos) (tT X.K Z W (bOr cb db)) := pw_mono (pw_or ha hb) fun σ H Q ⟨Xo, js, env, J, F, p⟩ => by
  refine ⟨Xo, js, env, J, F, ?_⟩
  unfold bOr at p
  cases hf : cb env J with
  | stuck => rw [hf] at p; exact p.elim
  | err c fs J1 => rw [hf] at p; exact p
  | ok z J1 =>
    rw [hf] at p
    intro H' e G
    cases z with
    | true => exact iteT (p H' e G)
    | false =>
      refine iteF ⟨Xo, js, env, J1, G, ?_⟩
      have p : PostB X.K Z W Xo js H σ env Q (db env J1) := p
      cases hd : db env J1 with
      | stuck => rw [hd] at p; exact p.elim
      | err c fs J2 => rw [hd] at p; exact p.later e
      | ok y J2 => rw [hd] at p; exact fun H2 e2 G2 => p H2 (e.trans e2) G2
/-! ### not, and, or as values of bools; a if t else b -/
theorem later_N {Xo : Addr → Prop} {js : List Addr} {H H1 : Hp} {σ : L2.St} {env : En} {Q : VK} {r : R HV} (F : Lists H1 (Yf Xo js)) (e : Ext js H H1) (p : PostN X.K Z W Xo js H σ env Q r) : PostN X.K Z W Xo js H1 σ env Q r := by
  cases r with
  | stuck => exact p
  | err c fs J => exact p.later e
  | ok h J =>
    intro v H' e2 o
    refine p v H' (e.trans e2) ?_
    cases h with
    | val d => exact o
    | jar k => exact o
    | exc k => exact o
    | newB i r =>
      obtain ⟨ps, a1, a2, a3⟩ := o
      exact ⟨ps, a1, fun p hp => none_back e F (a2 p hp), a3⟩
    | new ds =>
      obtain ⟨p, vs, a1, a2, a3⟩ := o
      exact ⟨p, vs, a1, none_back e F a2, a3⟩
theorem pn_not (ha : PE X a (tN X.K Z W f)) : PE X (.UnaryOp .Not a pos) (tN X.K Z W (eNot f)) := pe_mono (pe_not ha) fun σ H Q ⟨Xo, js, env, J, F, p⟩ => by
  refine toB_read (Q := fun k H' => Q (.bl (!k)) H') ⟨Xo, js, env, J, F, (?_ : PostB X.K Z W Xo js H σ env _ (toB (f env J)))⟩
  unfold eNot at p
  cases hf : toB (f env J) with
  | stuck => rw [hf] at p; exact p.elim
  | err c fs J1 => rw [hf] at p; exact p
  | ok z J1 => rw [hf] at p; exact fun H' e G => p (.bl (!z)) H' e (out_bl G)
theorem pn_one {op} (h : PE X a (tN X.K Z W f)) : PE X (.BoolOp op [a] pos) (tN X.K Z W f) := pe_one h
theorem pn_and (ha : PE X a (tN X.K Z W f)) (hb : PE X (.BoolOp .And (b :: rest) pos) (tN X.K Z W g)) : PE X (.BoolOp .And (a :: b :: rest) pos) (tN X.K Z W (eAnd f g)) := pe_mono (pe_and ha hb) fun σ H Q ⟨Xo, js, env, J, F, p⟩ => by
  refine toB_read (Q := fun k H' => if k = true then tN X.K Z W g σ H' Q else Q (.bl false) H') ⟨Xo, js, env, J, F, (?_ : PostB X.K Z W Xo js H σ env _ (toB (f env J)))⟩
  unfold eAnd at p
  cases hf : toB (f env J) with
  | stuck => rw [hf] at p; exact p.elim
  | err c fs J1 => rw [hf] at p; exact p
  | ok z J1 =>
    rw [hf] at p
    intro H' e G
    cases z with
    | false => exact iteF (p (.bl false) H' e (out_bl G))
    | true => exact iteT ⟨Xo, js, env, J1, G, later_N G.lists e p⟩
theorem pn_or (ha : PE X a (tN X.K Z W f)) (hb : PE X (.BoolOp .Or (b :: rest) pos) (tN X.K Z W g)) : PE X (.BoolOp .Or (a :: b :: rest) pos) (tN X.K Z W (eOr f g)) := pe_mono (pe_or ha hb) fun σ H Q ⟨Xo, js, env, J, F, p⟩ => by
  refine toB_read (Q := fun k H' => if k = true then Q (.bl true) H' else tN X.K Z W g σ H' Q) ⟨Xo, js, env, J, F, (?_ : PostB X.K Z W Xo js H σ env _ (toB (f env J)))⟩
  unfold eOr at p
  cases hf : toB (f env J) with
  | stuck => rw [hf] at p; exact p.elim
  | err c fs J1 => rw [hf] at p; exact p
  | ok z J1 =>
    rw [hf] at p
    intro H' e G
    cases z with
    | true => exact iteT (p (.bl true) H' e (out_bl G))
    | false => exact iteF ⟨Xo, js, env, J1, G, later_N G.lists e p⟩
theorem pn_if (hc : PT X c (tT X.K Z W cb)) (ha : PE X a (tN X.K Z W f)) (hb : PE X b (tN X.K Z W g)) : PE X (.IfExp c a b pos) (tN X.K Z W (eIf cb f g)) := pe_mono (pe_ifExp hc ha hb) fun σ H Q ⟨Xo, js, env, J, F, p⟩ => by
  refine ⟨Xo, js, env, J, F, ?_⟩
  unfold eIf at p
  cases hf : cb env J with
  | stuck => rw [hf] at p; exact p.elim
  | err c fs J1 => rw [hf] at p; exact p
  | ok z J1 =>
    rw [hf] at p
    intro H' e G
    cases z with
    | true => exact iteT ⟨Xo, js, env, J1, G, later_N G.lists e p⟩
    | false => exact iteF ⟨Xo, js, env, J1, G, later_N G.lists e p⟩
theorem pn_chain {op op' : CmpOp} {r r' : R2} {fo go : F2} {pos : Pos} (ho : OpR X (compareOp op) r) (ho' : OpR X (compareOp op') r') (sem : Sem2 X.K r fo) (sem' : Sem2 X.K r' go) (ha : PE X a (tD X.K Z W f)) (hb : PE X b (tD X.K Z W g)) (hc : PE X c (tD X.K Z W k))
    (w : PE X e (tChain r r' (tD X.K Z W f) (tD X.K Z W g) (tD X.K Z W k))) : PE X e (tN X.K Z W (eChain fo go f g k)) := pe_mono w fun σ H Q ⟨Xo, js, env, J, F, p⟩ => by
  refine ⟨Xo, js, env, J, F, ?_⟩
  unfold eChain at p
  cases hf : f env J with
  | stuck => rw [hf] at p; exact p.elim
  | err c fs J1 => rw [hf] at p; exact p
  | ok h1 J1 =>
    rw [hf] at p
    intro x H1 e1 F1 x1
    refine ⟨Xo, js, env, J1, F1, ?_⟩
    have p : PostN X.K Z W Xo js H σ env Q ((g env J1).bind fun h2 J2 => (toB (app2 fo J2 h1 h2)).bind fun b J3 => if b = true then (k env J3).bind fun h3 J4 => app2 go J4 h2 h3 else .ok (.val (.bl false)) J3) := p
    cases hg : g env J1 with
    | stuck => rw [hg] at p; exact p.elim
    | err c fs J2 => rw [hg] at p; exact p.later e1
    | ok h2 J2 =>
      rw [hg] at p
      intro y H2 e2 F2 y2
      refine app2_read (W := W) sem (H := H2) .refl F2 (x1.ext F1 e2) y2 ?_
      have p : PostN X.K Z W Xo js H σ env Q ((toB (app2 fo J2 h1 h2)).bind fun b J3 => if b = true then (k env J3).bind fun h3 J4 => app2 go J4 h2 h3 else .ok (.val (.bl false)) J3) := p
      cases hr : app2 fo J2 h1 h2 with
      | stuck => rw [hr] at p; exact p.elim
      | err c fs J3 => rw [hr] at p; exact p.later (e1.trans e2)
      | ok z J3 =>
        rw [hr] at p
        intro v H3 e3 o
        have e03 := (e1.trans e2).trans e3
        cases z with
        | jar k => exact p.elim
        | exc k => exact p.elim
        | newB i r => exact p.elim
        | new ds => exact p.elim
        | val d =>
          cases d with
          | bl q =>
            refine ⟨q, outN_bl o, ?_⟩
            cases q with
            | false => exact iteF (p (.bl false) H3 e03 (out_bl o.1))
            | true =>
              refine iteT ⟨Xo, js, env, J3, o.1, ?_⟩
              have p : PostN X.K Z W Xo js H σ env Q ((k env J3).bind fun h3 J4 => app2 go J4 h2 h3) := p
              cases hk : k env J3 with
              | stuck => rw [hk] at p; exact p.elim
              | err c fs J4 => rw [hk] at p; exact p.later e03
              | ok h3 J4 =>
                rw [hk] at p
                intro u H4 e4 F4 u4
                exact app2_read sem' (e03.trans e4) F4 ((y2.ext F2 e3).ext o.1 e4) u4 p
          | _ => exact p.elim
end
end L2.Pz
set_option Elab.async false
set_option linter.all false
set_option maxRecDepth 100000
set_option maxHeartbeats 4000000
set_option autoImplicit false
namespace L2.Pz
open PySem PySem.Spec PyProof.Rows

/-! ### what operators do with data -/
def dAdd : F2
  | .int i, .int j => some (.val (.int (i + j)))
  | .str x, .str y => if x.length + y.length ≤ big then some (.val (.str (x ++ y))) else none
  | .tup xs, .tup ys => if xs.length + ys.length ≤ big then some (.val (.tup (xs ++ ys))) else none
  | .lst xs, .lst ys => if xs.length + ys.length ≤ big then some (.new (xs ++ ys)) else none
  | _, _ => none
def dInt2 (C : Int → Int → Bool) (g : Int → Int → D) : F2
  | .int i, .int j => if C i j = true then some (.val (g i j)) else none
  | _, _ => none
def yes2 : Int → Int → Bool := fun _ _ => true
def dSub : F2 := dInt2 yes2 fun i j => .int (i - j)
def dMul : F2 := dInt2 (fun i j => decide (i.natAbs.log2 + j.natAbs.log2 < 1000000)) fun i j => .int (i * j)
def dMod : F2 := dInt2 (fun _ j => decide (0 < j)) fun i j => .int (i % j)
def dFloor : F2 := dInt2 (fun _ j => decide (0 < j) && decide (j.natAbs.log2 < 9000)) fun i j => .int (i / j)
def dShl : F2 := dInt2 (fun i j => decide (0 ≤ j) && (decide (j ≤ 1000000) && decide (i.natAbs < 2 ^ 64))) fun i j => .int (i * 2 ^ j.toNat)
def dPow : F2 := dInt2 (fun i j => decide (0 ≤ j) && (decide (j ≤ 1000000) && decide (i.natAbs < 2 ^ 64))) fun i j => .int (i ^ j.toNat)
def dShr : F2 := dInt2 (fun _ j => decide (0 ≤ j)) fun i j => .int (i / 2 ^ j.toNat)
def dXor : F2 := dInt2 yes2 fun i j => .int (Builtin.bitXor i j)
def dLt : F2 := dInt2 yes2 fun i j => .bl (decide (i < j))
def dLe : F2 := dInt2 yes2 fun i j => .bl (decide (i ≤ j))
def dGt : F2 := dInt2 yes2 fun i j => .bl (decide (j < i))
def dGe : F2 := dInt2 yes2 fun i j => .bl (decide (j ≤ i))
def dNeg : F1
  | .int i => some (.val (.int (-i)))
  | _ => none
mutual
def toPy : D → PyData
  | .non => .none
  | .bl b => .bool b
  | .int i => .int i
  | .str x => .str x
  | .tup ds => .tuple (toPys ds)
  | .lst ds => .list (toPys ds)
  | .lnk _ => .none
def toPys : List D → List PyData
  | [] => []
  | d :: ds => toPy d :: toPys ds
end
def shp (d : D) : Bool := SeqAt.shaped (toPy d)
def deq (d e : D) : Bool := PyData.eqv (toPy d) (toPy e)
def dEq : F2 := fun d e => if (shp d && shp e) = true then some (.val (.bl (deq d e))) else none
def dNe : F2 := fun d e => if (shp d && shp e) = true then some (.val (.bl (!deq d e))) else none
def dIsN : F1
  | .non => some (.val (.bl true))
  | _ => some (.val (.bl false))
def dNotN : F1
  | .non => some (.val (.bl false))
  | _ => some (.val (.bl true))
def inAny (d : D) (ds : List D) : Bool := ds.any fun z => deq z d
def dInS : D → Str → Option HV
  | .str x, y => match x.cps.toList with
    | [c] => some (.val (.bl (decide (c ∈ y.cps.toList))))
    | _ => none
  | _, _ => none
def dIn : F2 := fun d e => match e with
  | .str y => dInS d y
  | .lst ds => if (shp d && shp (.lst ds)) = true then some (.val (.bl (inAny d ds))) else none
  | .tup ds => if (shp d && shp (.tup ds)) = true then some (.val (.bl (inAny d ds))) else none
  | _ => none
def dNotIn : F2 := fun d e => match dIn d e with
  | some (.val (.bl b)) => some (.val (.bl (!b)))
  | _ => none
def dIx : F2
  | .lst ds, .int i => (atI ds i).map HV.val
  | .tup ds, .int i => (atI ds i).map HV.val
  | .str z, .int i => if z.length ≤ big then (atI z.cps.toList i).map fun c => .val (.str ⟨#[c]⟩) else none
  | _, _ => none
def dLen : F1
  | .lst ds => some (.val (.int ds.length))
  | .tup ds => some (.val (.int ds.length))
  | .str z => if z.length ≤ big then some (.val (.int z.length)) else none
  | _ => none
def dList : F1
  | .lst ds => some (.new ds)
  | .tup ds => some (.new ds)
  | _ => none
def dTuple : F1
  | .lst ds => some (.val (.tup ds))
  | .tup ds => some (.val (.tup ds))
  | _ => none
def dAbs : F1
  | .int i => some (.val (.int (if i < 0 then -i else i)))
  | _ => none
def dToInt : F1
  | .int i => some (.val (.int i))
  | .bl b => some (.val (.int (if b then 1 else 0)))
  | _ => none
def dMax : F2 := dInt2 yes2 fun i j => .int (if j > i then j else i)
def dMin : F2 := dInt2 yes2 fun i j => .int (if j < i then j else i)
def tyName : D → String
  | .non => "NoneType"
  | .bl _ => "bool"
  | .int _ => "int"
  | .str _ => "str"
  | .tup _ => "tuple"
  | .lst _ => "list"
  | .lnk _ => "NoneType"
def isaS (T n : String) : Bool := decide (n = T) || (decide (T = "int") && decide (n = "bool"))
def isa (T : String) (d : D) : Bool := isaS T (tyName d)
def dIsa (T : String) : F1 := fun d => some (.val (.bl (isa T d)))
def asInts : List D → Option (List Int)
  | [] => some []
  | .int i :: r => (asInts r).map (i :: ·)
  | _ => none
def insI (i : Int) : List Int → List Int
  | [] => [i]
  | j :: r => if i ≤ j then i :: j :: r else j :: insI i r
def isort : List Int → List Int
  | [] => []
  | i :: r => insI i (isort r)
def dSorted : F1
  | .lst ds => match asInts ds with
    | some ns => if ns.length < 64 then some (.new ((isort ns).map D.int)) else none
    | none => none
  | _ => none

section
variable {K : PySem.W.Frag} {H H' : Hp} {Y : Addr → Prop} {v x y : V} {Z : List Zx}
theorem po_val {d : D} (r : Rep K H Y d v) : PureOut K Y H H (.val d) v := ⟨Same.refl H, r⟩
theorem po_newt {ds : List D} {vs : List V} {p : Addr} (hl : Lists H Y) (hp : H p = none) (r : Reps K H Y ds vs) : PureOut K Y H (upd H p (.tup vs)) (.val (.tup ds)) (.ref p) :=
  ⟨same_upd hp, rep_tup.mpr ⟨p, vs, rfl, .of upd_same, reps_move (fun a o e _ => same_upd hp _ _ e) (fun _ y => .inl y) hl _ _ r⟩⟩
theorem po_newl {ds : List D} {vs : List V} {p : Addr} (hl : Lists H Y) (hp : H p = none) (r : Reps K H Y ds vs) : PureOut K Y H (upd H p (.lst vs)) (.new ds) (.ref p) :=
  ⟨same_upd hp, p, vs, rfl, hp, upd_same, reps_move (fun a o e _ => same_upd hp _ _ e) (fun a y => y.elim .inl fun z => .inr (z ▸ hp)) hl _ _ r⟩
theorem sem_int2 {C : Int → Int → Bool} {g : Int → Int → D} {C' : Int → Int → Prop} {gV : Int → Int → V} (hC : ∀ i j, C i j = true → C' i j) (hg : ∀ i j H Y, Rep K H Y (g i j) (gV i j)) : Sem2 K (rI C' gV) (dInt2 C g) := by
  intro H Y x y d e z Q hl hx hy hz q
  unfold dInt2 at hz
  split at hz
  · rename_i i j
    by_cases h : C i j = true
    · rw [if_pos h] at hz
      cases hz
      exact ⟨i, j, top_int hx, top_int hy, hC i j h, q _ _ (po_val (hg i j _ _))⟩
    · rw [if_neg h] at hz; cases hz
  · cases hz
theorem sem_int20 {g : Int → Int → D} {gV : Int → Int → V} (hg : ∀ i j H Y, Rep K H Y (g i j) (gV i j)) : Sem2 K (rI0 gV) (dInt2 yes2 g) := by
  intro H Y x y d e z Q hl hx hy hz q
  obtain ⟨i, j, a, b, _, c⟩ := sem_int2 (C' := fun _ _ => True) (fun _ _ _ => trivial) hg H Y x y d e z Q hl hx hy hz q
  exact ⟨i, j, a, b, c⟩
theorem sem_sub : Sem2 K (rI0 fun i j => .int (i - j)) dSub := sem_int20 fun _ _ _ _ => mk_int
theorem sem_mul : Sem2 K (rI CMulW fun i j => .int (i * j)) dMul := sem_int2 (fun i j h => show i.natAbs.log2 + j.natAbs.log2 < 1000000 from of_decide_eq_true h) fun _ _ _ _ => mk_int
theorem sem_mod : Sem2 K (rI (fun _ j => 0 < j) fun i j => .int (i % j)) dMod := sem_int2 (fun _ _ h => of_decide_eq_true h) fun _ _ _ _ => mk_int
theorem sem_floor : Sem2 K (rI CDivW fun i j => .int (i / j)) dFloor := sem_int2 (fun _ _ h => by rw [Bool.and_eq_true] at h; exact ⟨of_decide_eq_true h.1, of_decide_eq_true h.2⟩) fun _ _ _ _ => mk_int
theorem sem_shl : Sem2 K (rI CPow fun i j => .int (i * 2 ^ j.toNat)) dShl := sem_int2 (fun _ _ h => by rw [Bool.and_eq_true, Bool.and_eq_true] at h; exact ⟨of_decide_eq_true h.1, of_decide_eq_true h.2.1, of_decide_eq_true h.2.2⟩) fun _ _ _ _ => mk_int
theorem sem_pow : Sem2 K (rI CPow fun i j => .int (i ^ j.toNat)) dPow := sem_int2 (fun _ _ h => by rw [Bool.and_eq_true, Bool.and_eq_true] at h; exact ⟨of_decide_eq_true h.1, of_decide_eq_true h.2.1, of_decide_eq_true h.2.2⟩) fun _ _ _ _ => mk_int
theorem sem_shr : Sem2 K (rI (fun _ j => 0 ≤ j) fun i j => .int (i / 2 ^ j.toNat)) dShr := sem_int2 (fun _ _ h => of_decide_eq_true h) fun _ _ _ _ => mk_int
theorem sem_xor : Sem2 K (rI0 fun i j => .int (Builtin.bitXor i j)) dXor := sem_int20 fun _ _ _ _ => mk_int
theorem sem_lt : Sem2 K (rI0 fun i j => .bl (decide (i < j))) dLt := sem_int20 fun _ _ _ _ => mk_bl
theorem sem_le : Sem2 K (rI0 fun i j => .bl (decide (i ≤ j))) dLe := sem_int20 fun _ _ _ _ => mk_bl
theorem sem_gt : Sem2 K (rI0 fun i j => .bl (decide (j < i))) dGt := sem_int20 fun _ _ _ _ => mk_bl
theorem sem_ge : Sem2 K (rI0 fun i j => .bl (decide (j ≤ i))) dGe := sem_int20 fun _ _ _ _ => mk_bl
theorem sem_neg : Sem1 K (rU fun i => .int (-i)) dNeg := by
  intro H Y x d z Q hl hx hz q
  unfold dNeg at hz
  split at hz
  · cases hz; exact ⟨_, top_int hx, q _ _ (po_val mk_int)⟩
  · cases hz
/-! ### + -/
def rCatL (K : PySem.W.Frag) : R2 := fun x y H Q => ∃ a b xs zs, x = .ref a ∧ y = .ref b ∧ SqL K H a xs ∧ SqL K H b zs ∧ xs.length + zs.length ≤ sizeLine ∧ ∀ p, H p = none → Q (.ref p) (upd H p (.lst (xs ++ zs)))
theorem op_catL {X : Cx} : OpR X (binaryOp .Add) (rCatL X.K) := by
  intro pins s σ H x y v u Q I rx ry h
  obtain ⟨l, b, xs, zs, rfl, rfl, hH, hB, hz, q⟩ := h
  cases rx
  cases ry
  obtain ⟨its, r, pl, z⟩ := I.list hH
  obtain ⟨its2, r2, pl2, z2⟩ := I.list hB
  obtain ⟨⟨cls, dd, data, sl⟩, ho, hc, n, hd⟩ := pl.isList
  obtain ⟨⟨cls2, dd2, data2, sl2⟩, ho2, hc2, n2, hd2⟩ := pl2.isList
  simp only at hc hd hc2 hd2
  subst hc hd hc2 hd2
  have e : its.toArray ++ its2.toArray = (its ++ its2).toArray := by simp
  have h1 := r.length
  have h2 := r2.length
  refine concat_meets ⟨_, ho, rfl⟩ ⟨_, ho2, rfl⟩ noFill_list_add seq_list_add PySem.F.slot_list_add PySem.F.entry_list_add (PySem.F.args_list_add_2 _ _) (list_addW l b its.toArray its2.toArray n n2 dd dd2 sl sl2 (by simp; omega)) ⟨ho, ho2, ?_⟩
  rw [e]
  exact ⟨.ref _, _, I.lnew (t' := s.toks) (r.append r2) (by rw [List.length_append]; omega), rfl, q _ I.fresh⟩
abbrev rStrCat : R2 := fun x y H Q => ∃ i j, x = .str i ∧ y = .str j ∧ i.length + j.length ≤ sizeLine ∧ Q (.str (i ++ j)) H
def rAddAny (K : PySem.W.Frag) : R2 := fun x y H Q => rI0 (fun i j => .int (i + j)) x y H Q ∨ (rStrCat x y H Q ∨ (rCatA K x y H Q ∨ rCatL K x y H Q))
theorem op_addAny {X : Cx} : OpR X (binaryOp .Add) (rAddAny X.K) := op_add.or (op_add_str.or (op_catA.or op_catL))
theorem sem_add : Sem2 K (rAddAny K) dAdd := by
  intro H Y x y d e z Q hl hx hy hz q
  unfold dAdd at hz
  split at hz
  · cases hz
    exact .inl ⟨_, _, top_int hx, top_int hy, q _ _ (po_val mk_int)⟩
  · rename_i a b
    by_cases h : a.length + b.length ≤ big
    · rw [if_pos h] at hz
      cases hz
      exact .inr (.inl ⟨_, _, top_str hx, top_str hy, by rw [big_eq]; exact h, q _ _ (po_val mk_str)⟩)
    · rw [if_neg h] at hz; cases hz
  · rename_i xs ys
    by_cases h : xs.length + ys.length ≤ big
    · rw [if_pos h] at hz
      cases hz
      obtain ⟨a, vs, rfl, s1, r1⟩ := top_tup hx
      obtain ⟨b, us, rfl, s2, r2⟩ := top_tup hy
      have l1 := reps_len r1
      have l2 := reps_len r2
      refine .inr (.inr (.inl ⟨a, b, vs, us, rfl, rfl, s1, s2, by rw [big_eq, l1, l2]; exact h, fun e => ?_, fun _ e => ?_, fun _ _ p hp => q _ _ (po_newt hl hp (reps_append r1 r2))⟩))
      · have : xs = [] := by cases xs with | nil => rfl | cons c r => rw [e] at l1; simp at l1
        subst this
        exact q _ _ (po_val (rep_tup.mpr ⟨b, us, rfl, s2, r2⟩))
      · have : ys = [] := by cases ys with | nil => rfl | cons c r => rw [e] at l2; simp at l2
        subst this
        rw [List.append_nil] at q
        exact q _ _ (po_val (rep_tup.mpr ⟨a, vs, rfl, s1, r1⟩))
    · rw [if_neg h] at hz; cases hz
  · rename_i xs ys
    by_cases h : xs.length + ys.length ≤ big
    · rw [if_pos h] at hz
      cases hz
      obtain ⟨a, vs, rfl, s1, r1⟩ := hx
      obtain ⟨b, us, rfl, s2, r2⟩ := hy
      have l1 := reps_len r1
      have l2 := reps_len r2
      exact .inr (.inr (.inr ⟨a, b, vs, us, rfl, rfl, s1, s2, by rw [big_eq, l1, l2]; exact h, fun p hp => q _ _ (po_newl hl hp (reps_append r1 r2))⟩))
    · rw [if_neg h] at hz; cases hz
  · cases hz
/-! ### ==, in -/
mutual
theorem rep_dp : ∀ (d : D) (v : V), Rep K H Y d v → Dp K H v (toPy d)
  | .non, v, h => by rw [rep_non h]; unfold toPy; exact .non
  | .bl b, v, h => by rw [rep_bl h]; unfold toPy; exact .bl b
  | .int b, v, h => by rw [rep_int h]; unfold toPy; exact .int b
  | .str b, v, h => by rw [rep_str h]; unfold toPy; exact .str b
  | .tup ds, v, h => by
    obtain ⟨a, vs, e, s, r⟩ := rep_tup.mp h
    rw [e]; unfold toPy
    exact .tup s (reps_dp ds vs r)
  | .lst ds, v, h => by
    obtain ⟨a, vs, e, s, r⟩ := rep_lst.mp h
    rw [e]; unfold toPy
    exact .lst s.sq (reps_dp ds vs r)
theorem reps_dp : ∀ (ds : List D) (vs : List V), Reps K H Y ds vs → DpAll K H vs (toPys ds)
  | [], vs, h => by rw [reps_nil.mp h]; unfold toPys; exact .nil
  | d :: ds, vs, h => by
    obtain ⟨v, r, e, h1, h2⟩ := reps_cons.mp h
    rw [e]; unfold toPys
    exact .cons (rep_dp d v h1) (reps_dp ds r h2)
end
theorem top_dp {d : D} (h : RepTop K H Y d v) : Dp K H v (toPy d) := by
  cases d with
  | lst ds =>
    obtain ⟨a, vs, e, s, r⟩ := h
    rw [e]; unfold toPy
    exact .lst s (reps_dp ds vs r)
  | non => exact rep_dp (K := K) (H := H) (Y := Y) _ _ h
  | bl b => exact rep_dp (K := K) (H := H) (Y := Y) _ _ h
  | int b => exact rep_dp (K := K) (H := H) (Y := Y) _ _ h
  | str b => exact rep_dp (K := K) (H := H) (Y := Y) _ _ h
  | tup b => exact rep_dp (K := K) (H := H) (Y := Y) _ _ h
  | lnk m => exact (top_lnk h).elim
theorem sem_eq : Sem2 K (rEqD K) dEq := by
  intro H Y x y d e z Q hl hx hy hz q
  unfold dEq at hz
  by_cases h : (shp d && shp e) = true
  · rw [if_pos h] at hz
    cases hz
    rw [Bool.and_eq_true] at h
    exact ⟨toPy d, toPy e, top_dp hx, top_dp hy, h.1, h.2, q _ _ (po_val mk_bl)⟩
  · rw [if_neg h] at hz; cases hz
theorem sem_ne : Sem2 K (rNeD K) dNe := by
  intro H Y x y d e z Q hl hx hy hz q
  unfold dNe at hz
  by_cases h : (shp d && shp e) = true
  · rw [if_pos h] at hz
    cases hz
    rw [Bool.and_eq_true] at h
    exact ⟨toPy d, toPy e, top_dp hx, top_dp hy, h.1, h.2, q _ _ (po_val mk_bl)⟩
  · rw [if_neg h] at hz; cases hz
theorem toPys_any {d : D} : ∀ ds : List D, ((toPys ds).any fun z => PyData.eqv z (toPy d)) = inAny d ds
  | [] => by unfold toPys inAny; rfl
  | e :: ds => by
    unfold toPys
    rw [List.any_cons, toPys_any ds]
    rfl
end
/-! ### in: one sign in a text; an item in a list, a tuple -/
section
variable {X : Cx} {K : PySem.W.Frag} {Z : List Zx}
def rInT (K : PySem.W.Frag) (neg : Bool) : R2 := fun x y H Q => ∃ d ds, Dp K H x d ∧ Dp K H y (.tuple ds) ∧ SeqAt.shaped d = true ∧ SeqAt.shaped (.tuple ds) = true ∧ Q (.bl (if neg then !(ds.any fun z => PyData.eqv z d) else ds.any fun z => PyData.eqv z d)) H
theorem canLays_of {ds : List PyData} (h : SeqAt.shaped (.tuple ds) = true) : PyData.canLayAll0 ds = true := by
  have := SeqAt.canLay_of_shaped h
  unfold PyData.canLay0 at this
  exact this
theorem room_inT {A : Around} {d : PyData} {ds : List PyData} (h : SeqAt.shaped d = true) (hu : A.units + 200 < cLine) : A.units + 1 + min (PyData.depthAll ds) d.depth < cLine := by
  have h1 := SeqAt.depth_of_shaped h
  have h2 : min (PyData.depthAll ds) d.depth ≤ d.depth := Nat.min_le_right _ _
  omega
theorem op_inT (hu : X.A.units + 200 < cLine) : OpR X (compareOp .In) (rInT X.K false) := by
  intro pins s σ H x y v u Q I rx ry h
  obtain ⟨d, ds, hd, he, sd, se, q⟩ := h
  obtain ⟨as, r1⟩ := Dp.reads I d x v hd rx
  obtain ⟨bs, r2⟩ := Dp.reads I (.tuple ds) y u he ry
  exact SeqAt.in_tuple_reads r2 r1 (canLays_of se) (SeqAt.canLay_of_shaped sd) (room_inT sd hu) ⟨.bl _, H, I, rfl, q⟩
theorem op_notInT (hu : X.A.units + 200 < cLine) : OpR X (compareOp .NotIn) (rInT X.K true) := by
  intro pins s σ H x y v u Q I rx ry h
  obtain ⟨d, ds, hd, he, sd, se, q⟩ := h
  obtain ⟨as, r1⟩ := Dp.reads I d x v hd rx
  obtain ⟨bs, r2⟩ := Dp.reads I (.tuple ds) y u he ry
  exact SeqAt.notIn_tuple_reads r2 r1 (canLays_of se) (SeqAt.canLay_of_shaped sd) (room_inT sd hu) ⟨.bl _, H, I, rfl, q⟩
abbrev rInS (neg : Bool) : R2 := fun x y H Q => ∃ (c : Nat) (z : Str), x = .str ⟨#[c]⟩ ∧ y = .str z ∧ Q (.bl (if neg then !decide (c ∈ z.cps.toList) else decide (c ∈ z.cps.toList))) H
def rInAny (K : PySem.W.Frag) : R2 := fun x y H Q => rInS false x y H Q ∨ (rInD K x y H Q ∨ rInT K false x y H Q)
def rNotInAny (K : PySem.W.Frag) : R2 := fun x y H Q => rInS true x y H Q ∨ (rNotInD K x y H Q ∨ rInT K true x y H Q)
theorem op_inAny (hu : X.A.units + 200 < cLine) : OpR X (compareOp .In) (rInAny X.K) := OpR.or (r := rInS false) op_in_sign ((op_inD (by omega)).or (op_inT hu))
theorem op_notInAny (hu : X.A.units + 200 < cLine) : OpR X (compareOp .NotIn) (rNotInAny X.K) := OpR.or (r := rInS true) op_notIn_sign ((op_notInD (by omega)).or (op_notInT hu))
theorem str_one {x : Str} {c : Nat} (h : x.cps.toList = [c]) : x = ⟨#[c]⟩ := by
  cases x with
  | mk cps =>
    have h : cps.toList = [c] := h
    have : cps = #[c] := by
      apply Array.toList_inj.mp
      rw [h]
    rw [this]
theorem in_cases {H : Hp} {Y : Addr → Prop} {x y : V} {d e : D} {b : Bool} (hx : RepTop K H Y d x) (hy : RepTop K H Y e y) (h : dIn d e = some (.val (.bl b))) :
    (∃ (c : Nat) (z : Str), x = .str ⟨#[c]⟩ ∧ y = .str z ∧ b = decide (c ∈ z.cps.toList)) ∨
    (∃ ds, Dp K H x (toPy d) ∧ Dp K H y (.list ds) ∧ SeqAt.shaped (toPy d) = true ∧ SeqAt.shaped (.list ds) = true ∧ b = ds.any fun z => PyData.eqv z (toPy d)) ∨
    (∃ ds, Dp K H x (toPy d) ∧ Dp K H y (.tuple ds) ∧ SeqAt.shaped (toPy d) = true ∧ SeqAt.shaped (.tuple ds) = true ∧ b = ds.any fun z => PyData.eqv z (toPy d)) := by
  unfold dIn at h
  cases e with
  | non => cases h
  | lnk m => cases h
  | bl b => cases h
  | int b => cases h
  | str z =>
    have h : dInS d z = some (.val (.bl b)) := h
    unfold dInS at h
    cases d with
    | str a =>
      dsimp only at h
      split at h
      · rename_i c hc
        cases h
        exact .inl ⟨c, z, by rw [top_str hx, str_one hc], top_str hy, rfl⟩
      · cases h
    | _ => cases h
  | lst ds =>
    have h : (if (shp d && shp (.lst ds)) = true then some (HV.val (.bl (inAny d ds))) else none) = some (.val (.bl b)) := h
    by_cases hs : (shp d && shp (.lst ds)) = true
    · rw [if_pos hs] at h
      cases h
      rw [Bool.and_eq_true] at hs
      have h2 := hs.2
      unfold shp toPy at h2
      have hp := top_dp hy
      unfold toPy at hp
      exact .inr (.inl ⟨toPys ds, top_dp hx, hp, hs.1, h2, (toPys_any ds).symm⟩)
    · rw [if_neg hs] at h; cases h
  | tup ds =>
    have h : (if (shp d && shp (.tup ds)) = true then some (HV.val (.bl (inAny d ds))) else none) = some (.val (.bl b)) := h
    by_cases hs : (shp d && shp (.tup ds)) = true
    · rw [if_pos hs] at h
      cases h
      rw [Bool.and_eq_true] at hs
      have h2 := hs.2
      unfold shp toPy at h2
      have hp := top_dp hy
      unfold toPy at hp
      exact .inr (.inr ⟨toPys ds, top_dp hx, hp, hs.1, h2, (toPys_any ds).symm⟩)
    · rw [if_neg hs] at h; cases h
theorem dIn_bl {d e : D} {z : HV} (h : dIn d e = some z) : ∃ b, z = .val (.bl b) := by
  unfold dIn at h
  cases e with
  | non => cases h
  | lnk m => cases h
  | bl b => cases h
  | int b => cases h
  | str z =>
    have h : dInS d z = some _ := h
    unfold dInS at h
    cases d with
    | str a =>
      dsimp only at h
      split at h
      · cases h; exact ⟨_, rfl⟩
      · cases h
    | _ => cases h
  | lst ds =>
    dsimp only at h
    split at h
    · cases h; exact ⟨_, rfl⟩
    · cases h
  | tup ds =>
    dsimp only at h
    split at h
    · cases h; exact ⟨_, rfl⟩
    · cases h
theorem sem_in : Sem2 K (rInAny K) dIn := by
  intro H Y x y d e z Q hl hx hy hz q
  obtain ⟨b, rfl⟩ := dIn_bl hz
  have fin := q (.bl b) H (po_val mk_bl)
  rcases in_cases hx hy hz with ⟨c, z, h1, h2, h3⟩ | ⟨ds, h1, h2, h3, h4, h5⟩ | ⟨ds, h1, h2, h3, h4, h5⟩
  · subst h3; exact .inl ⟨c, z, h1, h2, fin⟩
  · subst h5; exact .inr (.inl ⟨_, ds, h1, h2, h3, h4, fin⟩)
  · subst h5; exact .inr (.inr ⟨_, ds, h1, h2, h3, h4, fin⟩)
theorem sem_notIn : Sem2 K (rNotInAny K) dNotIn := by
  intro H Y x y d e z Q hl hx hy hz q
  unfold dNotIn at hz
  split at hz
  · rename_i b hb
    cases hz
    have fin := q (.bl (!b)) H (po_val mk_bl)
    rcases in_cases hx hy hb with ⟨c, z, h1, h2, h3⟩ | ⟨ds, h1, h2, h3, h4, h5⟩ | ⟨ds, h1, h2, h3, h4, h5⟩
    · subst h3; exact .inl ⟨c, z, h1, h2, fin⟩
    · subst h5; exact .inr (.inl ⟨_, ds, h1, h2, h3, h4, fin⟩)
    · subst h5; exact .inr (.inr ⟨_, ds, h1, h2, h3, h4, fin⟩)
  · cases hz
/-! ### is None -/
theorem pn_isN {W : WX} {a : Expr} {f : EF} {j pos pos'} (ha : PE X a (tD X.K Z W f)) : PE X (.Compare a [.Is] [.Constant .none j pos'] pos) (tN X.K Z W (eUn dIsN f)) :=
  pe_mono (pe_cmp (pc_isN ha) rfl) fun σ H Q w => un_read (ta := tD X.K Z W f) (r := fun x H Q => Q (.bl (decide (x = .non))) H) (fo := dIsN) (fun H Y x d z Q hl hx hz q => by
    cases d with
    | non => cases hz; rw [top_non hx]; exact q _ _ (po_val mk_bl)
    | bl b => cases hz; rw [top_bl hx]; exact q _ _ (po_val mk_bl)
    | int b => cases hz; rw [top_int hx]; exact q _ _ (po_val mk_bl)
    | str b => cases hz; rw [top_str hx]; exact q _ _ (po_val mk_bl)
    | tup ds => obtain ⟨a, vs, rfl, _⟩ := top_tup hx; cases hz; exact q _ _ (po_val mk_bl)
    | lnk m => exact (top_lnk hx).elim
    | lst ds => obtain ⟨a, vs, rfl, _⟩ := hx; cases hz; exact q _ _ (po_val mk_bl)) (fun _ _ _ z => z) w
theorem pn_notN {W : WX} {a : Expr} {f : EF} {j pos pos'} (ha : PE X a (tD X.K Z W f)) : PE X (.Compare a [.IsNot] [.Constant .none j pos'] pos) (tN X.K Z W (eUn dNotN f)) :=
  pe_mono (pe_cmp (pc_notN ha) rfl) fun σ H Q w => un_read (ta := tD X.K Z W f) (r := fun x H Q => Q (.bl (!decide (x = .non))) H) (fo := dNotN) (fun H Y x d z Q hl hx hz q => by
    cases d with
    | non => cases hz; rw [top_non hx]; exact q _ _ (po_val mk_bl)
    | bl b => cases hz; rw [top_bl hx]; exact q _ _ (po_val mk_bl)
    | int b => cases hz; rw [top_int hx]; exact q _ _ (po_val mk_bl)
    | str b => cases hz; rw [top_str hx]; exact q _ _ (po_val mk_bl)
    | tup ds => obtain ⟨a, vs, rfl, _⟩ := top_tup hx; cases hz; exact q _ _ (po_val mk_bl)
    | lnk m => exact (top_lnk hx).elim
    | lst ds => obtain ⟨a, vs, rfl, _⟩ := hx; cases hz; exact q _ _ (po_val mk_bl)) (fun _ _ _ z => z) w
end
/-! ### x[i], len, list, tuple, abs, int, max, min, isinstance, sorted -/
section
variable {X : Cx} {K : PySem.W.Frag} {H : Hp} {Y : Addr → Prop} {Z : List Zx}
theorem atI_reps {ds : List D} {vs : List V} {i : Int} {d : D} (r : Reps K H Y ds vs) (h : atI ds i = some d) : ∃ v, atI vs i = some v ∧ Rep K H Y d v := by
  unfold atI at h ⊢
  rw [reps_len r]
  cases e : ixN ds.length i with
  | none => rw [e] at h; cases h
  | some j =>
    rw [e] at h
    exact reps_get r h
theorem sem_ix : Sem2 K (rIx K) dIx := by
  intro H Y x y d e z Q hl hx hy hz q
  unfold dIx at hz
  split at hz
  · rename_i ds i
    obtain ⟨a, vs, rfl, s, r⟩ := hx
    cases h : atI ds i with
    | none => rw [h] at hz; cases hz
    | some d =>
      rw [h] at hz; cases hz
      obtain ⟨v, h1, h2⟩ := atI_reps r h
      exact .inl ⟨a, vs, i, v, rfl, top_int hy, s, h1, q _ _ (po_val h2)⟩
  · rename_i ds i
    obtain ⟨a, vs, rfl, s, r⟩ := top_tup hx
    cases h : atI ds i with
    | none => rw [h] at hz; cases hz
    | some d =>
      rw [h] at hz; cases hz
      obtain ⟨v, h1, h2⟩ := atI_reps r h
      exact .inr (.inl ⟨a, vs, i, v, rfl, top_int hy, s, h1, q _ _ (po_val h2)⟩)
  · rename_i zz i
    by_cases hb : zz.length ≤ big
    · rw [if_pos hb] at hz
      cases h : atI zz.cps.toList i with
      | none => rw [h] at hz; cases hz
      | some c =>
        rw [h] at hz; cases hz
        exact .inr (.inr ⟨zz, i, c, top_str hx, top_int hy, by rw [big_eq]; exact hb, h, q _ _ (po_val mk_str)⟩)
    · rw [if_neg hb] at hz; cases hz
  · cases hz
def rLenAny (K : PySem.W.Frag) : List V → Hp → VK → Prop := fun xs H Q => (∃ p ys, xs = [.ref p] ∧ (SqL K H p ys ∨ SqT K H p ys) ∧ Q (.int ys.length) H) ∨ ∃ z, xs = [.str z] ∧ z.length ≤ sizeLine ∧ Q (.int z.length) H
theorem call_lenAny : CallR X (.builtin "len") (rLenAny X.K) := call_len_seq.or call_len_str
theorem sem_len : Sem1 K (fun x H Q => rLenAny K [x] H Q) dLen := by
  intro H Y x d z Q hl hx hz q
  unfold dLen at hz
  split at hz
  · obtain ⟨a, vs, rfl, s, r⟩ := hx
    cases hz
    exact .inl ⟨a, vs, rfl, .inl s, by rw [reps_len r]; exact q _ _ (po_val mk_int)⟩
  · obtain ⟨a, vs, rfl, s, r⟩ := top_tup hx
    cases hz
    exact .inl ⟨a, vs, rfl, .inr s, by rw [reps_len r]; exact q _ _ (po_val mk_int)⟩
  · rename_i zz
    by_cases hb : zz.length ≤ big
    · rw [if_pos hb] at hz
      cases hz
      exact .inr ⟨zz, by rw [top_str hx], by rw [big_eq]; exact hb, q _ _ (po_val mk_int)⟩
    · rw [if_neg hb] at hz; cases hz
  · cases hz
abbrev rListOf (K : PySem.W.Frag) : List V → Hp → VK → Prop := fun xs H Q => ∃ p ys, xs = [.ref p] ∧ (SqL K H p ys ∨ SqT K H p ys) ∧ ∀ l, H l = none → Q (.ref l) (upd H l (.lst ys))
theorem sem_list : Sem1 K (fun x H Q => rListOf K [x] H Q) dList := by
  intro H Y x d z Q hl hx hz q
  unfold dList at hz
  split at hz
  · obtain ⟨a, vs, rfl, s, r⟩ := hx
    cases hz
    exact ⟨a, vs, rfl, .inl s, fun p hp => q _ _ (po_newl hl hp r)⟩
  · obtain ⟨a, vs, rfl, s, r⟩ := top_tup hx
    cases hz
    exact ⟨a, vs, rfl, .inr s, fun p hp => q _ _ (po_newl hl hp r)⟩
  · cases hz
abbrev rTupOf (K : PySem.W.Frag) : List V → Hp → VK → Prop := fun xs H Q => ∃ p ys, xs = [.ref p] ∧ ((SqL K H p ys ∧ ∀ l, H l = none → Q (.ref l) (upd H l (.tup ys))) ∨ (SqT K H p ys ∧ Q (.ref p) H))
theorem sem_tuple : Sem1 K (fun x H Q => rTupOf K [x] H Q) dTuple := by
  intro H Y x d z Q hl hx hz q
  unfold dTuple at hz
  split at hz
  · obtain ⟨a, vs, rfl, s, r⟩ := hx
    cases hz
    exact ⟨a, vs, rfl, .inl ⟨s, fun p hp => q _ _ (po_newt hl hp r)⟩⟩
  · obtain ⟨a, vs, rfl, s, r⟩ := top_tup hx
    cases hz
    exact ⟨a, vs, rfl, .inr ⟨s, q _ _ (po_val (rep_tup.mpr ⟨a, vs, rfl, s, r⟩))⟩⟩
  · cases hz
abbrev rAbs : List V → Hp → VK → Prop := fun xs H Q => ∃ i, xs = [.int i] ∧ Q (.int (if i < 0 then -i else i)) H
theorem sem_abs : Sem1 K (fun x H Q => rAbs [x] H Q) dAbs := by
  intro H Y x d z Q hl hx hz q
  unfold dAbs at hz
  split at hz
  · cases hz; exact ⟨_, by rw [top_int hx], q _ _ (po_val mk_int)⟩
  · cases hz
abbrev rToInt : List V → Hp → VK → Prop := fun xs H Q => (∃ i, xs = [.int i] ∧ Q (.int i) H) ∨ ∃ k, xs = [.bl k] ∧ Q (.int (if k then 1 else 0)) H
theorem sem_toInt : Sem1 K (fun x H Q => rToInt [x] H Q) dToInt := by
  intro H Y x d z Q hl hx hz q
  unfold dToInt at hz
  split at hz
  · cases hz; exact .inl ⟨_, by rw [top_int hx], q _ _ (po_val mk_int)⟩
  · cases hz; exact .inr ⟨_, by rw [top_bl hx], q _ _ (po_val mk_int)⟩
  · cases hz
abbrev rMax2 : List V → Hp → VK → Prop := fun xs H Q => ∃ i j, xs = [.int i, .int j] ∧ Q (.int (if j > i then j else i)) H
abbrev rMin2 : List V → Hp → VK → Prop := fun xs H Q => ∃ i j, xs = [.int i, .int j] ∧ Q (.int (if j < i then j else i)) H
theorem sem_max : Sem2 K (fun x y H Q => rMax2 [x, y] H Q) dMax := by
  intro H Y x y d e z Q hl hx hy hz q
  obtain ⟨i, j, a, b, c⟩ := sem_int20 (K := K) (g := fun i j => .int (if j > i then j else i)) (gV := fun i j => .int (if j > i then j else i)) (fun _ _ _ _ => mk_int) H Y x y d e z Q hl hx hy hz q
  exact ⟨i, j, by rw [a, b], c⟩
theorem sem_min : Sem2 K (fun x y H Q => rMin2 [x, y] H Q) dMin := by
  intro H Y x y d e z Q hl hx hy hz q
  obtain ⟨i, j, a, b, c⟩ := sem_int20 (K := K) (g := fun i j => .int (if j < i then j else i)) (gV := fun i j => .int (if j < i then j else i)) (fun _ _ _ _ => mk_int) H Y x y d e z Q hl hx hy hz q
  exact ⟨i, j, by rw [a, b], c⟩
/-- the class of a value that data stand for -/
theorem tyx_of {d : D} {v : V} (h : RepTop K H Y d v) : TyX K H v (.type (tyName d)) := by
  have tl : ∀ {a : Addr} {vs : List V}, SqL K H a vs → TyX K H (.ref a) (.type "list") := fun {a vs} s => by
    rcases s with (s | ⟨o, s⟩) | ⟨o, its, n, hk, hc, _⟩
    · exact .base (.lst s)
    · exact .base (.frz s)
    · exact .kList hk hc
  cases d with
  | non => rw [top_non h]; exact .base .non
  | bl b => rw [top_bl h]; exact .base (.bl b)
  | int b => rw [top_int h]; exact .base (.int b)
  | str b => rw [top_str h]; exact .base (.str b)
  | lnk m => exact (top_lnk h).elim
  | lst ds =>
    obtain ⟨a, vs, rfl, s, _⟩ := h
    exact tl s
  | tup ds =>
    obtain ⟨a, vs, rfl, s, _⟩ := top_tup h
    rcases s with (s | ⟨o, s⟩) | ⟨o, its, n, hk, hc, _⟩
    · exact .base (.tup s)
    · exact .fTuple s
    · exact .kTuple hk hc
/-- T is one of the classes that data have -/
def IsaOk (T : String) : Prop := ∀ d : D, kitB (tyName d) T = some (isa T d)
theorem sem_isa {T : String} (hT : IsaOk T) : Sem1 K (fun x H Q => rIsi K [x, .ty T] H Q) (dIsa T) := by
  intro H Y x d z Q hl hx hz q
  cases hz
  exact ⟨x, .ty T, _, _, _, rfl, .ty T, tyx_of hx, kit_ty (hT d), q _ _ (po_val mk_bl)⟩
theorem isaOk_of {T : String} (h1 : kitB "NoneType" T = some (isaS T "NoneType")) (h2 : kitB "bool" T = some (isaS T "bool")) (h3 : kitB "int" T = some (isaS T "int")) (h4 : kitB "str" T = some (isaS T "str")) (h5 : kitB "tuple" T = some (isaS T "tuple")) (h6 : kitB "list" T = some (isaS T "list")) : IsaOk T := fun d => by
  cases d
  · exact h1
  · exact h2
  · exact h3
  · exact h4
  · exact h5
  · exact h6
  · exact h1
theorem isa_int : IsaOk "int" := isaOk_of (by decide +kernel) (by decide +kernel) (by decide +kernel) (by decide +kernel) (by decide +kernel) (by decide +kernel)
theorem isa_bool : IsaOk "bool" := isaOk_of (by decide +kernel) (by decide +kernel) (by decide +kernel) (by decide +kernel) (by decide +kernel) (by decide +kernel)
theorem isa_str : IsaOk "str" := isaOk_of (by decide +kernel) (by decide +kernel) (by decide +kernel) (by decide +kernel) (by decide +kernel) (by decide +kernel)
theorem isa_tuple : IsaOk "tuple" := isaOk_of (by decide +kernel) (by decide +kernel) (by decide +kernel) (by decide +kernel) (by decide +kernel) (by decide +kernel)
theorem isa_list : IsaOk "list" := isaOk_of (by decide +kernel) (by decide +kernel) (by decide +kernel) (by decide +kernel) (by decide +kernel) (by decide +kernel)
theorem asInts_map : ∀ {ds : List D} {ns : List Int}, asInts ds = some ns → ds = ns.map D.int
  | [], ns, h => by cases h; rfl
  | .int i :: r, ns, h => by
    unfold asInts at h
    cases e : asInts r with
    | none => rw [e] at h; cases h
    | some ms =>
      rw [e] at h
      cases h
      rw [asInts_map e]; rfl
  | .non :: r, ns, h => by cases h
  | .bl _ :: r, ns, h => by cases h
  | .str _ :: r, ns, h => by cases h
  | .tup _ :: r, ns, h => by cases h
  | .lst _ :: r, ns, h => by cases h
theorem insI_perm (i : Int) : ∀ l : List Int, (insI i l).Perm (i :: l)
  | [] => .refl _
  | j :: r => by
    unfold insI
    split
    · exact .refl _
    · exact ((insI_perm i r).cons j).trans (.swap i j r)
theorem isort_perm : ∀ l : List Int, (isort l).Perm l
  | [] => .refl _
  | i :: r => (insI_perm i (isort r)).trans ((isort_perm r).cons i)
theorem insI_sorted (i : Int) : ∀ {l : List Int}, l.Pairwise (· ≤ ·) → (insI i l).Pairwise (· ≤ ·)
  | [], _ => List.pairwise_singleton _ _
  | j :: r, h => by
    have h2 := List.pairwise_cons.mp h
    unfold insI
    split
    · rename_i hij
      refine List.pairwise_cons.mpr ⟨fun a ha => ?_, h⟩
      rcases List.mem_cons.mp ha with rfl | ha
      · exact hij
      · exact Int.le_trans hij (h2.1 a ha)
    · rename_i hij
      refine List.pairwise_cons.mpr ⟨fun a ha => ?_, insI_sorted i h2.2⟩
      rcases List.mem_cons.mp ((insI_perm i r).mem_iff.mp ha) with rfl | ha
      · omega
      · exact h2.1 a ha
theorem isort_sorted : ∀ l : List Int, (isort l).Pairwise (· ≤ ·)
  | [] => .nil
  | i :: r => insI_sorted i (isort_sorted r)
theorem sem_sorted : Sem1 K (fun x H Q => rSorted K [x] H Q) dSorted := by
  intro H Y x d z Q hl hx hz q
  unfold dSorted at hz
  split at hz
  · rename_i ds
    split at hz
    · rename_i ns hn
      by_cases h64 : ns.length < 64
      · rw [if_pos h64] at hz
        cases hz
        obtain ⟨a, vs, rfl, s, r⟩ := hx
        rw [asInts_map hn] at r
        have e := reps_ints r
        subst e
        refine ⟨a, ns, rfl, s, h64, fun ns' p h1 h2 hp => ?_⟩
        have e : ns' = isort ns := PySem.W.ksm_same (h1.trans (isort_perm ns).symm) h2 (isort_sorted ns)
        subst e
        exact q _ _ (po_newl hl hp reps_of_ints)
      · rw [if_neg h64] at hz; cases hz
    · cases hz
  · cases hz
end
end L2.Pz
set_option Elab.async false
set_option linter.all false
set_option maxRecDepth 100000
set_option maxHeartbeats 4000000
set_option autoImplicit false
namespace L2.Pz
open PySem PySem.Spec PyProof.Rows

/-! ### displays -/
def toVal : HV → Option D
  | .val d => some d
  | .new ds => some (.lst ds)
  | .jar _ => none
  | .exc _ => none
  | .newB _ _ => none
def eItems : List EF → En → Jr → R (List D)
  | [], _, J => .ok [] J
  | f :: fs, env, J => (f env J).bind fun h J1 => match toVal h with
    | some d => (eItems fs env J1).bind fun ds J2 => .ok (d :: ds) J2
    | none => .stuck
def eTup (fs : List EF) : EF := fun env J => (eItems fs env J).bind fun ds J1 => if ds.length ≤ big then .ok (.val (.tup ds)) J1 else .stuck
def eLst (fs : List EF) : EF := fun env J => (eItems fs env J).bind fun ds J1 => if ds.length ≤ big then .ok (.new ds) J1 else .stuck
def PostI (K : PySem.W.Frag) (Z : List Zx) (W : WX) (Xo : Addr → Prop) (js : List Addr) (H : Hp) (σ : L2.St) (env : En) (Q : List V → Hp → Prop) : R (List D) → Prop
  | .ok ds J => ∀ vs H', Ext js H H' → Fit K Z Xo js H' σ env J → Reps K H' (Yf Xo js) ds vs → Q vs H'
  | .err c fs J => Flies K Z W Xo js H σ env c fs J
  | .stuck => False
def tI (K : PySem.W.Frag) (Z : List Zx) (W : WX) (fs : List EF) : TA := fun σ H Q => ∃ Xo js env J, Fit K Z Xo js H σ env J ∧ PostI K Z W Xo js H σ env Q (eItems fs env J)
theorem pa_mono {X : Cx} {es : List Expr} {t t' : TA} (h : PA X es t) (m : ∀ σ H Q, t' σ H Q → t σ H Q) : PA X es t' := ⟨fun pos pins s σ H Q I w => h.run pos pins s σ H Q I (m σ H Q w)⟩
section
variable {X : Cx} {W : WX} {e : Expr} {es : List Expr} {f : EF} {fs : List EF} {pos : Pos} {Z : List Zx}
theorem val_rep {Xo : Addr → Prop} {js : List Addr} {H : Hp} {h : HV} {v : V} {d : D} (x : HRep X.K Z H (Yf Xo js) js (norm h) v) (e : toVal h = some d) : Rep X.K H (Yf Xo js) d v := by
  cases h with
  | val d' => cases e; exact x
  | new ds => cases e; exact x
  | jar k => cases e
  | exc k => cases e
  | newB i r => cases e
theorem pi_nilD : PA X [] (tI X.K Z W []) := pa_mono pa_nil fun σ H Q ⟨Xo, js, env, J, F, p⟩ => p [] H .refl F (reps_nil.mpr rfl)
theorem pi_consD (ha : PE X e (tD X.K Z W f)) (hb : PA X es (tI X.K Z W fs)) (hs : starEach (e :: es) X.env = (false, eval e X.env) :: starEach es X.env) : PA X (e :: es) (tI X.K Z W (f :: fs)) :=
  pa_mono (pa_cons ha hb hs) fun σ H Q ⟨Xo, js, env, J, F, p⟩ => by
    refine ⟨Xo, js, env, J, F, ?_⟩
    unfold eItems at p
    cases hf : f env J with
    | stuck => rw [hf] at p; exact p.elim
    | err c fs J1 => rw [hf] at p; exact p
    | ok h J1 =>
      rw [hf] at p
      intro x H1 e1 F1 x1
      have p : PostI X.K Z W Xo js H σ env Q (match toVal h with
        | some d => (eItems fs env J1).bind fun ds J2 => .ok (d :: ds) J2
        | none => .stuck) := p
      cases ht : toVal h with
      | none => rw [ht] at p; exact p.elim
      | some d =>
        rw [ht] at p
        have r1 := val_rep x1 ht
        refine ⟨Xo, js, env, J1, F1, ?_⟩
        have p : PostI X.K Z W Xo js H σ env Q ((eItems fs env J1).bind fun ds J2 => .ok (d :: ds) J2) := p
        cases hg : eItems fs env J1 with
        | stuck => rw [hg] at p; exact p.elim
        | err c fs J2 => rw [hg] at p; exact p.later e1
        | ok ds J2 =>
          rw [hg] at p
          intro vs H2 e2 F2 r2
          exact p (x :: vs) H2 (e1.trans e2) F2 (reps_cons.mpr ⟨x, vs, rfl, r1.ext F1 e2, r2⟩)
theorem pn_tup {x1} (h : PA X es (tI X.K Z W fs)) : PE X (.Tuple es x1 pos) (tN X.K Z W (eTup fs)) := pe_mono (pe_tup h) fun σ H Q ⟨Xo, js, env, J, F, p⟩ => by
  refine ⟨Xo, js, env, J, F, ?_⟩
  unfold eTup at p
  cases hg : eItems fs env J with
  | stuck => rw [hg] at p; exact p.elim
  | err c fs J2 => rw [hg] at p; exact p
  | ok ds J2 =>
    rw [hg] at p
    intro vs H2 e2 F2 r2
    have p : PostN X.K Z W Xo js H σ env Q (if ds.length ≤ big then .ok (.val (.tup ds)) J2 else .stuck) := p
    by_cases hb : ds.length ≤ big
    · rw [if_pos hb] at p
      refine ⟨by rw [big_eq, reps_len r2]; exact hb, fun q hq => ?_⟩
      obtain ⟨e3, o⟩ := pure_out F2 e2 (po_newt F2.lists hq r2)
      exact p _ _ e3 o
    · rw [if_neg hb] at p; exact p.elim
theorem pn_lst (h : PA X es (tI X.K Z W fs)) : PE X (.List es pos) (tN X.K Z W (eLst fs)) := pe_mono (pe_lst h) fun σ H Q ⟨Xo, js, env, J, F, p⟩ => by
  refine ⟨Xo, js, env, J, F, ?_⟩
  unfold eLst at p
  cases hg : eItems fs env J with
  | stuck => rw [hg] at p; exact p.elim
  | err c fs J2 => rw [hg] at p; exact p
  | ok ds J2 =>
    rw [hg] at p
    intro vs H2 e2 F2 r2
    have p : PostN X.K Z W Xo js H σ env Q (if ds.length ≤ big then .ok (.new ds) J2 else .stuck) := p
    by_cases hb : ds.length ≤ big
    · rw [if_pos hb] at p
      refine ⟨by rw [big_eq, reps_len r2]; exact hb, fun q hq => ?_⟩
      obtain ⟨e3, o⟩ := pure_out F2 e2 (po_newl F2.lists hq r2)
      exact p _ _ e3 o
    · rw [if_neg hb] at p; exact p.elim
/-- [c] * n -/
def repOk (n : Nat) (k : Int) : Bool := decide (-(2 ^ 63) ≤ k) && (decide (k < 2 ^ 63) && decide (n * k.toNat ≤ big))
def repEnd (J : Jr) : HV → Option D → R HV
  | .new ds, some (.int k) => if repOk ds.length k = true then .ok (.new (List.replicate k.toNat ds).flatten) J else .stuck
  | _, _ => .stuck
def eRep (f g : EF) : EF := fun env J => (f env J).bind fun h1 J1 => (g env J1).bind fun h2 J2 => repEnd J2 h1 (deref J2 h2)
theorem reps_rep {K : PySem.W.Frag} {H : Hp} {Y : Addr → Prop} {ds : List D} {vs : List V} (r : Reps K H Y ds vs) : ∀ n : Nat, Reps K H Y (List.replicate n ds).flatten (List.replicate n vs).flatten
  | 0 => reps_nil.mpr rfl
  | n + 1 => by
    rw [List.replicate_succ, List.replicate_succ, List.flatten_cons, List.flatten_cons]
    exact reps_append r (reps_rep r n)
theorem pn_rep {a b : Expr} {g : EF} (ha : PE X a (tN X.K Z W f)) (hb : PE X b (tD X.K Z W g)) : PE X (.BinOp a .Mult b pos) (tN X.K Z W (eRep f g)) := pe_mono (pe_op op_rep ha hb) fun σ H Q ⟨Xo, js, env, J, F, p⟩ => by
  refine ⟨Xo, js, env, J, F, ?_⟩
  unfold eRep at p
  cases hf : f env J with
  | stuck => rw [hf] at p; exact p.elim
  | err c fs J1 => rw [hf] at p; exact p
  | ok h1 J1 =>
    rw [hf] at p
    intro x H1 e1 o1
    have p : PostN X.K Z W Xo js H σ env Q ((g env J1).bind fun h2 J2 => repEnd J2 h1 (deref J2 h2)) := p
    obtain ⟨F1, x1⟩ := outN_norm F.out o1
    cases h1 with
    | val d => 
      refine ⟨Xo, js, env, J1, F1, ?_⟩
      cases hg : g env J1 with
      | stuck => rw [hg] at p; exact p.elim
      | err c fs J2 => rw [hg] at p; exact p.later e1
      | ok h2 J2 => rw [hg] at p; exact p.elim
    | newB d r => 
      refine ⟨Xo, js, env, J1, F1, ?_⟩
      cases hg : g env J1 with
      | stuck => rw [hg] at p; exact p.elim
      | err c fs J2 => rw [hg] at p; exact p.later e1
      | ok h2 J2 => rw [hg] at p; exact p.elim
    | jar d => 
      refine ⟨Xo, js, env, J1, F1, ?_⟩
      cases hg : g env J1 with
      | stuck => rw [hg] at p; exact p.elim
      | err c fs J2 => rw [hg] at p; exact p.later e1
      | ok h2 J2 => rw [hg] at p; exact p.elim
    | exc d => 
      refine ⟨Xo, js, env, J1, F1, ?_⟩
      cases hg : g env J1 with
      | stuck => rw [hg] at p; exact p.elim
      | err c fs J2 => rw [hg] at p; exact p.later e1
      | ok h2 J2 => rw [hg] at p; exact p.elim
    | new ds =>
      obtain ⟨q, vs, rfl, hq0, hq, G1, r1⟩ := o1
      have nq : q ∉ js := fun z => G1.jx q z (.inr rfl)
      refine ⟨Xo, js, env, J1, F1, ?_⟩
      cases hg : g env J1 with
      | stuck => rw [hg] at p; exact p.elim
      | err c fs J2 => rw [hg] at p; exact p.later e1
      | ok h2 J2 =>
        rw [hg] at p
        intro y H2 e2 F2 y2
        have p : PostN X.K Z W Xo js H σ env Q (repEnd J2 (.new ds) (deref J2 h2)) := p
        cases hd : deref J2 h2 with
        | none => rw [hd] at p; exact p.elim
        | some d =>
          rw [hd] at p
          cases d with
          | int k =>
            have p : PostN X.K Z W Xo js H σ env Q (if repOk ds.length k = true then .ok (.new (List.replicate k.toNat ds).flatten) J2 else .stuck) := p
            split at p
            · rename_i hb
              unfold repOk at hb
              rw [Bool.and_eq_true, Bool.and_eq_true] at hb
              have r2 : Reps X.K H1 (Yf Xo js) ds vs := reps_move (fun _ _ e _ => e) (fun a y => .inl (y.elim (fun y => .inl (.inl y)) .inr)) G1.lists _ _ r1
              refine ⟨q, k, vs, rfl, top_int (deref_top F2 y2 hd), e2 _ _ hq nq, of_decide_eq_true hb.1, of_decide_eq_true hb.2.1, by rw [big_eq, reps_len r1]; exact of_decide_eq_true hb.2.2, fun u hu => ?_⟩
              obtain ⟨e3, o⟩ := pure_out F2 (e1.trans e2) (po_newl F2.lists hu (reps_rep (r2.ext F1 e2) k.toNat))
              exact p _ _ e3 o
            · exact p.elim
          | _ => exact p.elim
end

/-! ### slices -/
def partV : Option EF → En → Jr → R (Option Int)
  | none, _, J => .ok none J
  | some f, env, J => (f env J).bind fun h J1 => match h with
    | .val (.int i) => .ok (some i) J1
    | _ => .stuck
def cutD (ds : List D) (lo hi : Option Int) : List D := (ds.drop (HT.sIx ds.length 0 lo)).take (HT.sIx ds.length ds.length hi - HT.sIx ds.length 0 lo)
def dSl : D → Option Int → Option Int → Option HV
  | .lst ds, lo, hi => some (.new (cutD ds lo hi))
  | .tup ds, lo, hi => some (.val (.tup (cutD ds lo hi)))
  | .str z, lo, hi => if z.length ≤ big then some (.val (.str (cutS z lo hi))) else none
  | _, _, _ => none
def eSl (f : EF) (lo hi : Option EF) : EF := fun env J => (f env J).bind fun h J1 => (partV lo env J1).bind fun l J2 => (partV hi env J2).bind fun u J3 => match deref J3 h with
  | some d => give J3 (dSl d l u)
  | none => .stuck
def PostO (K : PySem.W.Frag) (Z : List Zx) (W : WX) (Xo : Addr → Prop) (js : List Addr) (H : Hp) (σ : L2.St) (env : En) (Q : Option Int → Hp → Prop) : R (Option Int) → Prop
  | .ok i J => ∀ H', Ext js H H' → Fit K Z Xo js H' σ env J → Q i H'
  | .err c fs J => Flies K Z W Xo js H σ env c fs J
  | .stuck => False
def tO (K : PySem.W.Frag) (Z : List Zx) (W : WX) (f : Option EF) : TO := fun σ H Q => ∃ Xo js env J, Fit K Z Xo js H σ env J ∧ PostO K Z W Xo js H σ env Q (partV f env J)
section
variable {X : Cx} {W : WX} {e : Expr} {lo hi : Option Expr} {f : EF} {fl fh : Option EF} {pos p2 : Pos} {Z : List Zx}
theorem po_mono {e : Option Expr} {t t' : TO} (h : PO X e t) (m : ∀ σ H Q, t' σ H Q → t σ H Q) : PO X e t' := ⟨fun pins s σ H Q I w => h.run pins s σ H Q I (m σ H Q w)⟩
theorem po_noneD : PO X none (tO X.K Z W none) := po_mono po_none fun σ H Q ⟨Xo, js, env, J, F, p⟩ => p H .refl F
theorem po_someD (h : PE X e (tD X.K Z W f)) : PO X (some e) (tO X.K Z W (some f)) := po_mono (po_some h) fun σ H Q ⟨Xo, js, env, J, F, p⟩ => by
  refine ⟨Xo, js, env, J, F, ?_⟩
  unfold partV at p
  dsimp only at p
  cases hf : f env J with
  | stuck => rw [hf] at p; exact p.elim
  | err c fs J1 => rw [hf] at p; exact p
  | ok h J1 =>
    rw [hf] at p
    intro v H' e1 G x
    cases h with
    | jar k => exact p.elim
    | exc k => exact p.elim
    | newB i r => exact p.elim
    | new ds => exact p.elim
    | val d =>
      cases d with
      | int i => exact ⟨i, rep_int (K := X.K) (H := H') (Y := Yf Xo js) x, p H' e1 G⟩
      | _ => exact p.elim
def rSlAny (K : PySem.W.Frag) : V → Option Int → Option Int → Hp → VK → Prop := fun x lo hi H Q => rSlL K x lo hi H Q ∨ (rSlA K x lo hi H Q ∨ rSlS x lo hi H Q)
theorem sl_any : SlR X (rSlAny X.K) := sl_list.or (sl_tupA.or sl_str)
theorem cutD_all {ds : List D} {lo hi : Option Int} (h : HT.sIx ds.length 0 lo = 0 ∧ HT.sIx ds.length ds.length hi = ds.length) : cutD ds lo hi = ds := by
  unfold cutD
  rw [h.1, h.2, List.drop_zero, Nat.sub_zero, List.take_length]
theorem sem_sl {K : PySem.W.Frag} {H : Hp} {Y : Addr → Prop} {x : V} {d : D} {z : HV} {Q : VK} {l u : Option Int} (hl : Lists H Y) (hx : RepTop K H Y d x) (hz : dSl d l u = some z) (q : ∀ v H', PureOut K Y H H' z v → Q v H') : rSlAny K x l u H Q := by
  cases d with
  | lnk m => exact (top_lnk hx).elim
  | lst ds =>
    obtain ⟨a, vs, rfl, s, r⟩ := hx
    cases hz
    refine .inl ⟨a, vs, rfl, s, fun p hp => ?_⟩
    have := po_newl hl hp (reps_take (HT.sIx vs.length vs.length u - HT.sIx vs.length 0 l) (reps_drop (HT.sIx vs.length 0 l) r))
    refine q _ _ ?_
    unfold cutD cutV
    rw [reps_len r] at this
    rw [reps_len r]
    exact this
  | tup ds =>
    obtain ⟨a, vs, rfl, s, r⟩ := top_tup hx
    cases hz
    refine .inr (.inl ⟨a, vs, rfl, s, fun h => ?_, fun _ p hp => ?_⟩)
    · rw [reps_len r] at h
      refine q _ _ ?_
      rw [cutD_all h]
      exact po_val (rep_tup.mpr ⟨a, vs, rfl, s, r⟩)
    · have := po_newt hl hp (reps_take (HT.sIx vs.length vs.length u - HT.sIx vs.length 0 l) (reps_drop (HT.sIx vs.length 0 l) r))
      refine q _ _ ?_
      unfold cutD cutV
      rw [reps_len r] at this
      rw [reps_len r]
      exact this
  | str zz =>
    have hz : (if zz.length ≤ big then some (HV.val (.str (cutS zz l u))) else none) = some z := hz
    by_cases hb : zz.length ≤ big
    · rw [if_pos hb] at hz
      cases hz
      exact .inr (.inr ⟨zz, top_str hx, by rw [big_eq]; exact hb, q _ _ (po_val mk_str)⟩)
    · rw [if_neg hb] at hz; cases hz
  | non => cases hz
  | bl b => cases hz
  | int b => cases hz
theorem pn_slice (he : PE X e (tD X.K Z W f)) (hl : PO X lo (tO X.K Z W fl)) (hu : PO X hi (tO X.K Z W fh)) : PE X (.Subscript e (.Slice lo hi none p2) pos) (tN X.K Z W (eSl f fl fh)) := pe_mono (pe_slice sl_any he hl hu) fun σ H Q ⟨Xo, js, env, J, F, p⟩ => by
  refine ⟨Xo, js, env, J, F, ?_⟩
  unfold eSl at p
  cases hf : f env J with
  | stuck => rw [hf] at p; exact p.elim
  | err c fs J1 => rw [hf] at p; exact p
  | ok h J1 =>
    rw [hf] at p
    intro x H1 e1 F1 x1
    refine ⟨Xo, js, env, J1, F1, ?_⟩
    have p : PostN X.K Z W Xo js H σ env Q ((partV fl env J1).bind fun l J2 => (partV fh env J2).bind fun u J3 => match deref J3 h with
      | some d => give J3 (dSl d l u)
      | none => .stuck) := p
    cases hl : partV fl env J1 with
    | stuck => rw [hl] at p; exact p.elim
    | err c fs J2 => rw [hl] at p; exact p.later e1
    | ok l J2 =>
      rw [hl] at p
      intro H2 e2 F2
      refine ⟨Xo, js, env, J2, F2, ?_⟩
      have p : PostN X.K Z W Xo js H σ env Q ((partV fh env J2).bind fun u J3 => match deref J3 h with
        | some d => give J3 (dSl d l u)
        | none => .stuck) := p
      cases hu : partV fh env J2 with
      | stuck => rw [hu] at p; exact p.elim
      | err c fs J3 => rw [hu] at p; exact p.later (e1.trans e2)
      | ok u J3 =>
        rw [hu] at p
        intro H3 e3 F3
        have p : PostN X.K Z W Xo js H σ env Q (match deref J3 h with
          | some d => give J3 (dSl d l u)
          | none => .stuck) := p
        cases hd : deref J3 h with
        | none => rw [hd] at p; exact p.elim
        | some d =>
          rw [hd] at p
          have p : PostN X.K Z W Xo js H σ env Q (give J3 (dSl d l u)) := p
          cases hz : dSl d l u with
          | none => rw [hz] at p; exact p.elim
          | some z =>
            rw [hz] at p
            refine sem_sl F3.lists (deref_top F3 ((x1.ext F1 e2).ext F2 e3) hd) hz fun v H' o => ?_
            obtain ⟨e4, o2⟩ := pure_out F3 ((e1.trans e2).trans e3) o
            exact p v H' e4 o2
end

/-! ### calls -/
abbrev FT := List HV → Jr → R HV
def HReps (K : PySem.W.Frag) (Z : List Zx) (H : Hp) (Y : Addr → Prop) (js : List Addr) : List HV → List V → Prop
  | [], vs => vs = []
  | h :: hs, vs => ∃ v r, vs = v :: r ∧ HRep K Z H Y js h v ∧ HReps K Z H Y js hs r
def isExc : HV → Bool
  | .exc _ => true
  | .newB _ _ => true
  | _ => false
def eArgs : List EF → En → Jr → R (List HV)
  | [], _, J => .ok [] J
  | f :: fs, env, J => (f env J).bind fun h J1 => (eArgs fs env J1).bind fun hs J2 => if isExc h = true then .stuck else .ok (norm h :: hs) J2
def eCall (F : FT) (fs : List EF) : EF := fun env J => (eArgs fs env J).bind fun hs J1 => F hs J1
def PostH (K : PySem.W.Frag) (Z : List Zx) (W : WX) (Xo : Addr → Prop) (js : List Addr) (H : Hp) (σ : L2.St) (env : En) (Q : List V → Hp → Prop) : R (List HV) → Prop
  | .ok hs J => ∀ vs H', Ext js H H' → Fit K Z Xo js H' σ env J → HReps K [] H' (Yf Xo js) js hs vs → Q vs H'
  | .err c fs J => Flies K Z W Xo js H σ env c fs J
  | .stuck => False
def tH (K : PySem.W.Frag) (Z : List Zx) (W : WX) (fs : List EF) : TA := fun σ H Q => ∃ Xo js env J, Fit K Z Xo js H σ env J ∧ PostH K Z W Xo js H σ env Q (eArgs fs env J)
/-- a call's end -/
def PostC (K : PySem.W.Frag) (Z : List Zx) (Xo : Addr → Prop) (js : List Addr) (H : Hp) (Q : VK) (E : XK) : R HV → Prop
  | .ok h J => ∀ v H', Ext js H H' → OutN K Z Xo js H H' [] [] J h v → Q v H'
  | .err c fs J => ∀ cls od H', ExcAt K Xo js c fs cls od H' → Ext js H H' → Fit K Z Xo js H' [] [] J → E cls od H'
  | .stuck => False
/-- the promise of a def: it is F -/
def spF (K : PySem.W.Frag) (n : Nat) (F : FT) : Sp := fun vs H Q E => ∃ Xo js J hs, Fit K [] Xo js H [] [] J ∧ hs.length = n ∧ HReps K [] H (Yf Xo js) js hs vs ∧ PostC K [] Xo js H Q E (F hs J)
section
variable {X : Cx} {W : WX} {e : Expr} {es : List Expr} {f : EF} {fs : List EF} {pos : Pos} {K : PySem.W.Frag} {Xo : Addr → Prop} {js : List Addr} {H H' : Hp} {σ : L2.St} {env : En} {J J' : Jr} {Z : List Zx}
theorem hreps_len {Y : Addr → Prop} : ∀ {hs : List HV} {vs : List V}, HReps K Z H Y js hs vs → vs.length = hs.length
  | [], vs, h => by unfold HReps at h; rw [h]; rfl
  | d :: ds, vs, h => by
    unfold HReps at h
    obtain ⟨v, r, e, _, h2⟩ := h
    rw [e, List.length_cons, List.length_cons, hreps_len h2]
theorem spF_len {n : Nat} {F : FT} (vs : List V) (H : Hp) (Q : VK) (E : XK) (h : spF K n F vs H Q E) : vs.length = n := by
  obtain ⟨Xo, js, J, hs, _, hl, hr, _⟩ := h
  rw [hreps_len hr, hl]
theorem eArgs_len : ∀ {fs : List EF} {env : En} {J J' : Jr} {hs : List HV}, eArgs fs env J = .ok hs J' → hs.length = fs.length
  | [], env, J, J', hs, h => by cases h; rfl
  | f :: fs, env, J, J', hs, h => by
    unfold eArgs at h
    cases hf : f env J with
    | stuck => rw [hf] at h; cases h
    | err c fs J1 => rw [hf] at h; cases h
    | ok z J1 =>
      rw [hf] at h
      have h : ((eArgs fs env J1).bind fun hs J2 => if isExc z = true then R.stuck else R.ok (norm z :: hs) J2) = .ok hs J' := h
      cases hg : eArgs fs env J1 with
      | stuck => rw [hg] at h; cases h
      | err c fs J1 => rw [hg] at h; cases h
      | ok zs J2 =>
        rw [hg] at h
        have h : (if isExc z = true then R.stuck else R.ok (norm z :: zs) J2) = .ok hs J' := h
        by_cases hz : isExc z = true
        · rw [if_pos hz] at h; cases h
        rw [if_neg hz] at h
        cases h
        rw [List.length_cons, List.length_cons, eArgs_len hg]
theorem hrep_drop {Y : Addr → Prop} {h : HV} {v : V} (hz : ¬ isExc h = true) (x : HRep K Z H Y js (norm h) v) : HRep K [] H Y js (norm h) v := by
  cases h with
  | val d => exact x
  | jar k => exact x
  | new ds => exact x
  | exc k => exact absurd rfl hz
  | newB i r => exact absurd rfl hz
theorem Fit.bare (F : Fit K Z Xo js H σ env J) : Fit K Z Xo js H [] [] J := ⟨F.out, F.nd, F.jx, F.len, rfl, F.jar, fun i h e => (by simp at e), F.ez⟩
theorem Fit.bareZ (F : Fit K Z Xo js H σ env J) : Fit K [] Xo js H [] [] J := ⟨F.out, F.nd, F.jx, F.len, rfl, F.jar, fun i h e => (by simp at e), fun z hz => (by simp at hz)⟩
/-- behind a call: the slots as they were -/
theorem Fit.renew {Z' : List Zx} (F : Fit K Z Xo js H σ env J) (e : Ext js H H') {Xo' : Addr → Prop} (hX : ∀ a, Xo' a → Xo a ∨ H a = none) (G : Fit K Z' Xo' js H' [] [] J') : Fit K Z Xo' js H' σ env J' :=
  ⟨G.out, G.nd, G.jx, G.len, F.slen, G.jar, fun i h q => by
    obtain ⟨v, h1, h2⟩ := F.slot i h q
    exact ⟨v, h1, h2.move (fun a o q n => e a o q fun z => n (.inr z)) (fun a y => y.elim (fun y => (hX a y).elim (fun z => .inl (.inl z)) .inr) fun y => .inl (.inr y)) F.lists⟩, fun z hz => (F.ez z hz).move (fun a o q n => e a o q fun z => n (.inr z)) (fun a y => y.elim (fun y => (hX a y).elim (fun z => .inl (.inl z)) .inr) fun y => .inl (.inr y)) F.lists⟩
theorem ph_nil : PA X [] (tH X.K Z W []) := pa_mono pa_nil fun σ H Q ⟨Xo, js, env, J, F, p⟩ => p [] H .refl F rfl
theorem ph_cons (ha : PE X e (tD X.K Z W f)) (hb : PA X es (tH X.K Z W fs)) (hs : starEach (e :: es) X.env = (false, eval e X.env) :: starEach es X.env) : PA X (e :: es) (tH X.K Z W (f :: fs)) :=
  pa_mono (pa_cons ha hb hs) fun σ H Q ⟨Xo, js, env, J, F, p⟩ => by
    refine ⟨Xo, js, env, J, F, ?_⟩
    unfold eArgs at p
    cases hf : f env J with
    | stuck => rw [hf] at p; exact p.elim
    | err c fs J1 => rw [hf] at p; exact p
    | ok h J1 =>
      rw [hf] at p
      intro x H1 e1 F1 x1
      refine ⟨Xo, js, env, J1, F1, ?_⟩
      have p : PostH X.K Z W Xo js H σ env Q ((eArgs fs env J1).bind fun hs J2 => if isExc h = true then .stuck else .ok (norm h :: hs) J2) := p
      cases hg : eArgs fs env J1 with
      | stuck => rw [hg] at p; exact p.elim
      | err c fs J2 => rw [hg] at p; exact p.later e1
      | ok ds J2 =>
        rw [hg] at p
        intro vs H2 e2 F2 r2
        have p : PostH X.K Z W Xo js H σ env Q (if isExc h = true then .stuck else .ok (norm h :: ds) J2) := p
        by_cases hz : isExc h = true
        · rw [if_pos hz] at p; exact p.elim
        rw [if_neg hz] at p
        exact p (x :: vs) H2 (e1.trans e2) F2 ⟨x, vs, rfl, hrep_drop hz (x1.ext F1 e2), r2⟩
theorem call_read {n : Nat} {F : FT} {t : TA} (hn : fs.length = n) (m : ∀ σ H Q, tH X.K Z W fs σ H Q → t σ H Q) {σ : L2.St} {H : Hp} {Q : VK} {E : XK} (hE : ∀ cls od H, W cls od σ H → E cls od H) (w : tN X.K Z W (eCall F fs) σ H Q) : t σ H fun vs H1 => spF X.K n F vs H1 Q E := by
  obtain ⟨Xo, js, env, J, Fi, p⟩ := w
  refine m _ _ _ ⟨Xo, js, env, J, Fi, ?_⟩
  unfold eCall at p
  cases hf : eArgs fs env J with
  | stuck => rw [hf] at p; exact p.elim
  | err c fs J1 => rw [hf] at p; exact p
  | ok hs J1 =>
    rw [hf] at p
    intro vs H1 e1 F1 r1
    refine ⟨Xo, js, J1, hs, F1.bareZ, (eArgs_len hf).trans hn, r1, ?_⟩
    have p : PostN X.K Z W Xo js H σ env Q (F hs J1) := p
    cases hr : F hs J1 with
    | stuck => rw [hr] at p; exact p.elim
    | err c fs J2 => rw [hr] at p; exact fun cls od H2 x e2 G => hE _ _ _ (p cls od H2 x (e1.trans e2) (F1.renew e2 (fun _ h => .inl h) G))
    | ok h J2 =>
      rw [hr] at p
      intro v H2 e2 o
      refine p v H2 (e1.trans e2) ?_
      cases h with
      | val d => exact ⟨F1.renew e2 (fun _ h => .inl h) o.1, o.2⟩
      | jar k => exact ⟨F1.renew e2 (fun _ h => .inl h) o.1, o.2⟩
      | exc k =>
        obtain ⟨_, a, ha, _⟩ := o
        simp at ha
      | newB xs ds =>
        obtain ⟨ps, a1, a2, a3⟩ := o
        exact ⟨ps, F1.renew e2 (fun _ h => .inl h) a1, fun p hp => none_back e1 F1.lists (a2 p hp), a3⟩
      | new ds =>
        obtain ⟨q, us, a1, a2, a3, a4, a5⟩ := o
        exact ⟨q, us, a1, none_back e1 F1.lists a2, a3, F1.renew e2 (fun a h => h.elim .inl fun z => .inr (z ▸ a2)) a4, a5⟩
variable {k : Nat} {g : Addr} {fd : FuncData} {ps : List Str} {x : Str} {p : Pos} {F : FT}
/-- f(e, ..), f a def of the text -/
theorem pn_call (G : FnOk X.prog X.w X.K X.mg X.base (L2.CX X.prog X.w) k g fd ps (spF X.K ps.length F)) (tk : Takes X W) (hr : Room k X.A) (hg : Gl X x) (hm : X.mg x = some (.ref g)) (hk : PySem.W.keepIn X.K (.ref g) = true) (hb : Binds X.K fd ps [])
    (ha : PA X (e :: es) (tH X.K Z W fs)) (hn : fs.length = ps.length) (hdb : (x == ("__debug__" : Str)) = false) (he : starEach (e :: es) X.env = (false, eval e X.env) :: starEach es X.env) (hpl : (backTo pos (starEach es X.env)).any (·.1) = false) :
    PE X (.Call (.Name x p) (e :: es) [] pos) (tN X.K Z W (eCall F fs)) :=
  pe_mono (pe_callS G hr hg hm hk hb (fun σ => passAt tk σ) ha hdb he hpl) fun σ H Q w => call_read hn (fun _ _ _ z => z) (fun _ _ _ z => z) w
/-- within a comprehension: nothing is let out -/
abbrev W0 : WX := fun _ _ _ _ => False
theorem pn_call0 (G : FnOk X.prog X.w X.K X.mg X.base (L2.CX X.prog X.w) k g fd ps (spF X.K ps.length F)) (hr : Room k X.A) (hg : Gl X x) (hm : X.mg x = some (.ref g)) (hk : PySem.W.keepIn X.K (.ref g) = true) (hb : Binds X.K fd ps [])
    (ha : PA X (e :: es) (tH X.K Z W0 fs)) (hn : fs.length = ps.length) (hdb : (x == ("__debug__" : Str)) = false) (he : starEach (e :: es) X.env = (false, eval e X.env) :: starEach es X.env) (hpl : (backTo pos (starEach es X.env)).any (·.1) = false) :
    PE X (.Call (.Name x p) (e :: es) [] pos) (tN X.K Z W0 (eCall F fs)) :=
  pe_mono (pe_call G hr hg hm hk hb .nil passL ha hdb he hpl) fun σ H Q w => by
    have := call_read (X := X) (W := W0) (t := tH X.K Z W0 fs) (E := E0) hn (fun _ _ _ z => z) (fun _ _ _ z => z) w
    unfold tCall
    simp only [List.append_nil]
    exact this
end
end L2.Pz
set_option Elab.async false
set_option linter.all false
set_option maxRecDepth 100000
set_option maxHeartbeats 4000000
set_option autoImplicit false
namespace L2.Pz
open PySem PySem.Spec PyProof.Rows

/-! ### what is walked -/
abbrev IF := En → Jr → R (List D)
def Keeps (Y : Addr → Prop) (H0 H : Hp) : Prop := ∀ a o, H0 a = some o → ¬ Y a → H a = some o
structure WalkD (K : PySem.W.Frag) (Y : Addr → Prop) (H0 : Hp) (J : It) (ds : List D) : Prop where
  ex : ∃ (G : Hp → Prop) (Yl : Nat → Hp → V → Hp → Prop), Walk J ds.length G Yl ∧ (∀ H, Keeps Y H0 H → G H) ∧
    ∀ Y' : Addr → Prop, (∀ a, Y' a → Y a ∨ H0 a = none) → ∀ i H x H', i < ds.length → Keeps Y H0 H → Lists H Y' → Yl i H x H' → Same H H' ∧ ∃ d, ds[i]? = some d ∧ Rep K H' Y' d x
def chars (z : Str) : List D := z.cps.toList.map fun c => .str ⟨#[c]⟩
def itemsOf : HV → Option (List D)
  | .val (.lst ds) => some ds
  | .val (.tup ds) => some ds
  | .new ds => some ds
  | .val (.str z) => some (chars z)
  | _ => none
def iAny (f : EF) : IF := fun env J => (f env J).bind fun h J1 => match itemsOf h with
  | some ds => .ok ds J1
  | none => .stuck
def rgD (lo : Int) (n : Nat) : List D := (List.range n).map fun i => .int (lo + (i : Nat))
def rgOk (i : Int) : Bool := decide (-(2 ^ 62) ≤ i) && decide (i < 2 ^ 62)
def iRange1 (f : EF) : IF := fun env J => (f env J).bind fun h J1 => match h with
  | .val (.int n) => if rgOk n = true then .ok (rgD 0 n.toNat) J1 else .stuck
  | _ => .stuck
def rg2End (J : Jr) : HV → HV → R (List D)
  | .val (.int m), .val (.int n) => if (rgOk m && rgOk n) = true then .ok (rgD m (n - m).toNat) J else .stuck
  | _, _ => .stuck
def iRange2 (f g : EF) : IF := fun env J => (f env J).bind fun h J1 => (g env J1).bind fun h2 J2 => rg2End J2 h h2
def PostW (K : PySem.W.Frag) (Z : List Zx) (W : WX) (Xo : Addr → Prop) (js : List Addr) (H : Hp) (σ : L2.St) (env : En) (Q : It → Hp → Prop) : R (List D) → Prop
  | .ok ds J => ∀ I H', Ext js H H' → Fit K Z Xo js H' σ env J → WalkD K (Yf Xo js) H' I ds → Q I H'
  | .err c fs J => Flies K Z W Xo js H σ env c fs J
  | .stuck => False
def tW (K : PySem.W.Frag) (Z : List Zx) (W : WX) (f : IF) : TI := fun σ H Q => ∃ Xo js env J, Fit K Z Xo js H σ env J ∧ PostW K Z W Xo js H σ env Q (f env J)
theorem pi_mono {X : Cx} {tg e : Expr} {t t' : TI} (h : PI X tg e t) (m : ∀ σ H Q, t' σ H Q → t σ H Q) : PI X tg e t' := ⟨fun pins s σ H Q I w => h.run pins s σ H Q I (m σ H Q w)⟩
section
variable {X : Cx} {tg e : Expr} {te : TE} {Z : List Zx}
def iAnyT (K : PySem.W.Frag) (tl : TE) : TI := fun σ H R => tl σ H fun x H1 => (∃ a, x = .ref a ∧ (∃ xs, SqL K H1 a xs) ∧ R (Itl K a) H1) ∨ (∃ a, x = .ref a ∧ (∃ xs, SqT K H1 a xs) ∧ R (Itt K a) H1) ∨ ∃ z, x = .str z ∧ R (Its z) H1
theorem pi_anyT (hl : PE X e te) : PI X tg e (iAnyT X.K te) := by
  refine ⟨fun pins s σ H R I h => ?_⟩
  refine thn (hl.run pins s σ H _ I h) fun v s1 ⟨x, H1, I1, r1, q1⟩ => ?_
  rcases q1 with ⟨a, e, ⟨xs, hq⟩, q⟩ | ⟨a, e, ⟨xs, hq⟩, q⟩ | ⟨z, e, q⟩
  · subst e
    cases r1
    obtain ⟨its, rv, p, hz⟩ := I1.list hq
    refine wpAny_pyIter_list p.isList ?_
    exact pi_one (tk := s1.toks) I1 _ (turn_list a _) ⟨_, Heap.get?_push_size _ rfl, rfl, rfl⟩ q
  · subst e
    cases r1
    obtain ⟨its, rv, p, hz⟩ := I1.tuple hq
    refine wpAny_pyIter_tuple (show s1.heap.IsTuple a its.toArray from p) ?_
    exact pi_one (tk := s1.toks) I1 _ (turn_tuple a _) ⟨_, Heap.get?_push_size _ rfl, rfl, rfl⟩ q
  · subst e
    obtain ⟨t, rfl⟩ := r1
    cases ha : z.cps.all (· < 128)
    · exact wpAny_pyIter_wide ha (pi_one (tk := s1.toks) I1 _ (turn_str _ z t "str_iterator" (.inr rfl)) ⟨_, Heap.get?_push_size _ rfl, rfl, rfl⟩ q)
    · exact wpAny_pyIter_ascii ha (pi_one (tk := s1.toks) I1 _ (turn_str _ z t "str_ascii_iterator" (.inl rfl)) ⟨_, Heap.get?_push_size _ rfl, rfl, rfl⟩ q)
end
section
variable {K : PySem.W.Frag} {H : Hp} {Y : Addr → Prop} {Z : List Zx}
theorem walkD_list {a : Addr} {vs : List V} {ds : List D} (hl : Lists H Y) (s : LsY K H Y a vs) (r : Reps K H Y ds vs) : WalkD K Y H (Itl K a) ds := by
  have w := walk_list (K := K) (a := a) (xs := vs)
  rw [reps_len r] at w
  refine ⟨_, _, w, fun H1 k => (lsY_move (Y' := Y) k (fun _ y => .inl y) s).sq, fun Y' hY i H1 x H' hi k _ y => ?_⟩
  obtain ⟨e, y⟩ := y
  subst e
  obtain ⟨d, h1, h2⟩ := reps_at r y
  exact ⟨Same.refl _, d, h1, rep_move k hY hl _ _ h2⟩
theorem walkD_tup {a : Addr} {vs : List V} {ds : List D} (hl : Lists H Y) (s : SqT K H a vs) (r : Reps K H Y ds vs) : WalkD K Y H (Itt K a) ds := by
  have w := walk_tup (K := K) (a := a) (xs := vs)
  rw [reps_len r] at w
  refine ⟨_, _, w, fun H1 k => sqT_move k hl s, fun Y' hY i H1 x H' hi k _ y => ?_⟩
  obtain ⟨e, y⟩ := y
  subst e
  obtain ⟨d, h1, h2⟩ := reps_at r y
  exact ⟨Same.refl _, d, h1, rep_move k hY hl _ _ h2⟩
theorem walkD_str {z : Str} : WalkD K Y H (Its z) (chars z) := by
  have w := walk_str (z := z)
  have e : z.cps.size = (chars z).length := by unfold chars; simp
  rw [e] at w
  refine ⟨_, _, w, fun _ _ => trivial, fun Y' hY i H1 x H' hi k _ y => ?_⟩
  obtain ⟨e, c, hc, hx⟩ := y
  subst e
  refine ⟨Same.refl _, .str ⟨#[c]⟩, ?_, by rw [hx]; exact mk_str⟩
  unfold chars
  rw [List.getElem?_map]
  simp [hc]
theorem walkD_range {lo : Int} {n : Nat} : WalkD K Y H (Itr lo n) (rgD lo n) := by
  have w := walk_range (lo := lo) (n := n)
  have e : n = (rgD lo n).length := by unfold rgD; simp
  refine ⟨fun _ => True, YFn fun i => .int (lo + i), ?_, fun _ _ => trivial, fun Y' hY i H1 x H' hi k _ y => ?_⟩
  · have : Walk (Itr lo n) n (fun _ => True) (YFn fun i => .int (lo + i)) := w
    exact e ▸ this
  · obtain ⟨e2, hx⟩ := y
    subst e2
    rw [← e] at hi
    refine ⟨Same.refl _, .int (lo + i), ?_, by rw [hx]; exact mk_int⟩
    unfold rgD
    rw [List.getElem?_map, List.getElem?_range hi]
    rfl
end
section
variable {X : Cx} {W : WX} {tg e a b : Expr} {f g : EF} {p pos : Pos} {Z : List Zx}
theorem pw_any (he : PE X e (tD X.K Z W f)) : PI X tg e (tW X.K Z W (iAny f)) := pi_mono (pi_anyT he) fun σ H Q ⟨Xo, js, env, J, F, p⟩ => by
  refine ⟨Xo, js, env, J, F, ?_⟩
  unfold iAny at p
  cases hf : f env J with
  | stuck => rw [hf] at p; exact p.elim
  | err c fs J1 => rw [hf] at p; exact p
  | ok h J1 =>
    rw [hf] at p
    intro x H1 e1 F1 x1
    have p : PostW X.K Z W Xo js H σ env Q (match itemsOf h with
      | some ds => .ok ds J1
      | none => .stuck) := p
    have lst : ∀ ds, norm h = .val (.lst ds) → itemsOf h = some ds → (∃ a, x = .ref a ∧ (∃ xs, SqL X.K H1 a xs) ∧ Q (Itl X.K a) H1) := fun ds hn hi => by
      rw [hi] at p
      rw [hn] at x1
      obtain ⟨a, vs, e, s, r⟩ := rep_lst (K := X.K) (H := H1) (Y := Yf Xo js).mp x1
      exact ⟨a, e, ⟨vs, s.sq⟩, p _ _ e1 F1 (walkD_list F1.lists s r)⟩
    cases h with
    | jar k => exact p.elim
    | exc k => exact p.elim
    | newB _ _ => exact p.elim
    | new ds => exact .inl (lst ds rfl rfl)
    | val d =>
      cases d with
      | lst ds => exact .inl (lst ds rfl rfl)
      | tup ds =>
        obtain ⟨a, vs, e, s, r⟩ := rep_tup (K := X.K) (H := H1) (Y := Yf Xo js).mp x1
        exact .inr (.inl ⟨a, e, ⟨vs, s⟩, p _ _ e1 F1 (walkD_tup F1.lists s r)⟩)
      | str z => exact .inr (.inr ⟨z, rep_str (K := X.K) (H := H1) (Y := Yf Xo js) x1, p _ _ e1 F1 walkD_str⟩)
      | non => exact p.elim
      | lnk m => exact p.elim
      | bl b => exact p.elim
      | int b => exact p.elim
theorem pw_range1 (hg : Gl X "range") (hm : X.mg "range" = none) (he : PE X a (tD X.K Z W f)) (h1 : starEach [a] X.env = (false, eval a X.env) :: starEach [] X.env) (hs : starEach [a] X.env = [(false, eval a X.env)]) : PI X tg (.Call (.Name "range" p) [a] [] pos) (tW X.K Z W (iRange1 f)) :=
  pi_mono (pi_range1 hg hm (pa_cons he pa_nil h1) hs) fun σ H Q ⟨Xo, js, env, J, F, p⟩ => by
    show tD X.K Z W f σ H fun x H1 => tNil σ H1 fun xs H2 => _
    refine ⟨Xo, js, env, J, F, ?_⟩
    unfold iRange1 at p
    cases hf : f env J with
    | stuck => rw [hf] at p; exact p.elim
    | err c fs J1 => rw [hf] at p; exact p
    | ok h J1 =>
      rw [hf] at p
      intro x H1 e1 F1 x1
      cases h with
      | jar k => exact p.elim
      | exc k => exact p.elim
      | newB _ _ => exact p.elim
      | new ds => exact p.elim
      | val d =>
        cases d with
        | int n =>
          have p : PostW X.K Z W Xo js H σ env Q (if rgOk n = true then .ok (rgD 0 n.toNat) J1 else .stuck) := p
          split at p
          · rename_i h
            unfold rgOk at h
            rw [Bool.and_eq_true] at h
            refine ⟨n, by rw [rep_int (K := X.K) (H := H1) (Y := Yf Xo js) x1], of_decide_eq_true h.1, of_decide_eq_true h.2, p _ _ e1 F1 walkD_range⟩
          · exact p.elim
        | _ => exact p.elim
theorem pw_range2 (hg : Gl X "range") (hm : X.mg "range" = none) (ha : PE X a (tD X.K Z W f)) (hb : PE X b (tD X.K Z W g)) (h1 : starEach [a, b] X.env = (false, eval a X.env) :: starEach [b] X.env) (h2 : starEach [b] X.env = (false, eval b X.env) :: starEach [] X.env)
    (hs : starEach [a, b] X.env = [(false, eval a X.env), (false, eval b X.env)]) (hs2 : starEach [b] X.env = [(false, eval b X.env)]) : PI X tg (.Call (.Name "range" p) [a, b] [] pos) (tW X.K Z W (iRange2 f g)) :=
  pi_mono (pi_range2 hg hm (pa_cons ha (pa_cons hb pa_nil h2) h1) hs hs2) fun σ H Q ⟨Xo, js, env, J, F, p⟩ => by
    show tD X.K Z W f σ H fun x H1 => tD X.K Z W g σ H1 fun y H2 => _
    refine ⟨Xo, js, env, J, F, ?_⟩
    unfold iRange2 at p
    cases hf : f env J with
    | stuck => rw [hf] at p; exact p.elim
    | err c fs J1 => rw [hf] at p; exact p
    | ok h J1 =>
      rw [hf] at p
      intro x H1 e1 F1 x1
      have p : PostW X.K Z W Xo js H σ env Q ((g env J1).bind fun h2 J2 => rg2End J2 h h2) := p
      refine ⟨Xo, js, env, J1, F1, ?_⟩
      cases hg : g env J1 with
      | stuck => rw [hg] at p; exact p.elim
      | err c fs J2 => rw [hg] at p; exact p.later e1
      | ok h2 J2 =>
        rw [hg] at p
        intro y H2 e2 F2 y2
        have x2 := x1.ext F1 e2
        cases h with
        | jar k => exact p.elim
        | exc k => exact p.elim
        | newB _ _ => exact p.elim
        | new ds => exact p.elim
        | val d =>
          cases d with
          | int m =>
            cases h2 with
            | jar k => exact p.elim
            | exc k => exact p.elim
            | newB _ _ => exact p.elim
            | new ds => exact p.elim
            | val d =>
              cases d with
              | int n =>
                have p : PostW X.K Z W Xo js H σ env Q (if (rgOk m && rgOk n) = true then .ok (rgD m (n - m).toNat) J2 else .stuck) := p
                split at p
                · rename_i h
                  unfold rgOk at h
                  rw [Bool.and_eq_true, Bool.and_eq_true, Bool.and_eq_true] at h
                  refine ⟨m, n, by rw [rep_int (K := X.K) (H := H2) (Y := Yf Xo js) x2, rep_int (K := X.K) (H := H2) (Y := Yf Xo js) y2], ⟨of_decide_eq_true h.1.1, of_decide_eq_true h.1.2, of_decide_eq_true h.2.1, of_decide_eq_true h.2.2⟩, p _ _ (e1.trans e2) F2 walkD_range⟩
                · exact p.elim
              | _ => exact p.elim
          | _ => exact p.elim
end

/-! ### targets -/
abbrev TF := D → En → Option En
def tgName (i : Nat) : TF := fun d env => some (env.set i (some (.val d)))
def tgs : List Nat → List D → En → Option En
  | [], [], env => some env
  | i :: is, d :: ds, env => tgs is ds (env.set i (some (.val d)))
  | _, _, _ => none
def tgTup (is : List Nat) : TF := fun d env => match d with
  | .tup ds => tgs is ds env
  | .lst ds => none
  | _ => none
/-- a target's reading: data of d come to slots -/
def TgOk (K : PySem.W.Frag) (Z : List Zx) (g : TG) (t : TF) : Prop := ∀ (Xo : Addr → Prop) (js : List Addr) (H : Hp) (σ : L2.St) (env env' : En) (J : Jr) (d : D) (v : V) (Q : L2.St → Hp → Prop), Fit K Z Xo js H σ env J → Rep K H (Yf Xo js) d v → t d env = some env' →
  (∀ σ', Fit K Z Xo js H σ' env' J → Q σ' H) → g v σ H Q
section
variable {K : PySem.W.Frag} {Xo : Addr → Prop} {js : List Addr} {H H' : Hp} {σ : L2.St} {env : En} {J : Jr} {Z : List Zx}
theorem Fit.set (F : Fit K Z Xo js H σ env J) (i : Nat) {h : HV} {v : V} (x : HRep K Z H (Yf Xo js) js h v) : Fit K Z Xo js H (σ.set i (some v)) (env.set i (some h)) J :=
  ⟨F.out, F.nd, F.jx, F.len, by rw [List.length_set, List.length_set]; exact F.slen, F.jar, fun j h' e => by
    by_cases hj : i = j
    · subst hj
      have hi : i < env.length := by
        have := (List.getElem?_eq_some_iff.mp e).1
        rw [List.length_set] at this
        exact this
      rw [List.getElem?_set_self hi] at e
      cases e
      exact ⟨v, List.getElem?_set_self (by rw [F.slen]; exact hi), x⟩
    · rw [List.getElem?_set_ne hj] at e
      obtain ⟨u, h1, h2⟩ := F.slot j h' e
      exact ⟨u, by rw [List.getElem?_set_ne hj]; exact h1, h2⟩, F.ez⟩
theorem tgok_name {i : Nat} : TgOk K Z (gName i) (tgName i) := fun Xo js H σ env env' J d v Q F r e q => by
  cases e
  exact q _ (F.set i (h := .val d) r)
def TgsOk (K : PySem.W.Frag) (Z : List Zx) (g : TGs) (is : List Nat) : Prop := ∀ (Xo : Addr → Prop) (js : List Addr) (H : Hp) (σ : L2.St) (env env' : En) (J : Jr) (ds : List D) (vs : List V) (Q : L2.St → Hp → Prop), Fit K Z Xo js H σ env J → Reps K H (Yf Xo js) ds vs → tgs is ds env = some env' →
  (∀ σ', Fit K Z Xo js H σ' env' J → Q σ' H) → g vs σ H Q
theorem tgsok_nil : TgsOk K Z gNil [] := fun Xo js H σ env env' J ds vs Q F r e q => by
  cases ds with
  | nil => cases e; exact ⟨reps_nil.mp r, q _ F⟩
  | cons d ds => cases e
theorem tgsok_cons {i : Nat} {is : List Nat} {u : TGs} (h : TgsOk K Z u is) : TgsOk K Z (gCons (gName i) u) (i :: is) := fun Xo js H σ env env' J ds vs Q F r e q => by
  cases ds with
  | nil => cases e
  | cons d ds =>
    obtain ⟨v, r', e1, h1, h2⟩ := reps_cons.mp r
    exact ⟨v, r', e1, h Xo js H _ _ _ J ds r' Q (F.set i (h := .val d) h1) h2 e q⟩
theorem tgs_len : ∀ {is : List Nat} {ds : List D} {env env' : En}, tgs is ds env = some env' → ds.length = is.length
  | [], [], _, _, _ => rfl
  | [], _ :: _, _, _, h => by cases h
  | _ :: _, [], _, _, h => by cases h
  | i :: is, d :: ds, env, env', h => by
    rw [List.length_cons, List.length_cons, tgs_len (is := is) (ds := ds) (env := env.set i (some (.val d))) h]
theorem tgok_tup {n : Nat} {is : List Nat} {u : TGs} (h : TgsOk K Z u is) (hn : is.length = n) : TgOk K Z (gTup K n u) (tgTup is) := fun Xo js H σ env env' J d v Q F r e q => by
  cases d with
  | tup ds =>
    obtain ⟨a, vs, e1, s, r1⟩ := rep_tup.mp r
    exact ⟨a, vs, e1, s, by rw [reps_len r1, ← hn]; exact tgs_len e, h Xo js H σ env env' J ds vs Q F r1 e q⟩
  | _ => cases e
end

/-! ### comprehensions -/
def wipeE (env : En) : List Nat → En
  | [] => env
  | v :: vs => (wipeE env vs).set v none
def lcLoop (t : TF) (c : BF) (f : EF) (env : En) : List D → List D → Jr → R HV
  | [], acc, J => .ok (.new acc) J
  | d :: ds, acc, J => match t d env with
    | none => .stuck
    | some env1 => (c env1 J).bind fun b J1 => if b = true then (f env1 J1).bind fun h J2 => match toVal h with
        | some y => if acc.length < big then lcLoop t c f env ds (acc ++ [y]) J2 else .stuck
        | none => .stuck
      else lcLoop t c f env ds acc J1
/-- nothing is let out of the loop's parts -/
def noErr {α : Type} : R α → R α
  | .err _ _ _ => .stuck
  | r => r
def bYes : BF := fun _ J => .ok true J
def eLc (it : IF) (t : TF) (c : BF) (f : EF) (own : List Nat) : EF := fun env J => (it env J).bind fun ds J1 => noErr (lcLoop t c f (wipeE env own) ds [] J1)
section
variable {K : PySem.W.Frag} {Xo : Addr → Prop} {js : List Addr} {H H' : Hp} {σ : L2.St} {env : En} {J : Jr} {Z : List Zx}
theorem Fit.wipe (F : Fit K Z Xo js H σ env J) : ∀ vs : List Nat, Fit K Z Xo js H (L2.wipe σ vs) (wipeE env vs) J
  | [] => F
  | v :: vs => by
    have G := F.wipe vs
    refine ⟨G.out, G.nd, G.jx, G.len, by unfold L2.wipe wipeE; rw [List.length_set, List.length_set]; exact G.slen, G.jar, fun i h e => ?_, G.ez⟩
    unfold wipeE at e
    by_cases hi : v = i
    · subst hi
      have hl : v < (wipeE env vs).length := by
        have := (List.getElem?_eq_some_iff.mp e).1
        rw [List.length_set] at this
        exact this
      rw [List.getElem?_set_self hl] at e
      cases e
    · rw [List.getElem?_set_ne hi] at e
      obtain ⟨u, h1, h2⟩ := G.slot i h e
      refine ⟨u, ?_, h2⟩
      unfold L2.wipe
      rw [List.getElem?_set_ne hi]
      exact h1
/-- the target's slots are the block's own -/
def TgIn (g : TG) (own : List Nat) : Prop := ∀ v (σ : L2.St) (H : Hp) (Q : L2.St → Hp → Prop), g v (L2.wipe σ own) H Q → g v (L2.wipe σ own) H fun σ2 H2 => L2.wipe σ2 own = L2.wipe σ own ∧ Q σ2 H2
end
section
variable {X : Cx} {tg e elt : Expr} {ifs : List Expr} {scope : Scope} {own : List (Str × Nat)} {pos : Pos} {g : TG} {t : TF} {it : IF} {c : BF} {f : EF} {W : WX} {Z : List Zx}
theorem lc_read (htg : TgOk X.K Z g t) (hin : TgIn g (own.map (·.2))) {σ : L2.St} {H : Hp} {Q : VK} (w : tN X.K Z W (eLc it t c f (own.map (·.2))) σ H Q) : tLc (tW X.K Z W it) g (tT X.K Z W0 c) (tD X.K Z W0 f) (own.map (·.2)) σ H Q := by
  obtain ⟨Xo, js, env, J, F, p⟩ := w
  refine ⟨Xo, js, env, J, F, ?_⟩
  unfold eLc at p
  cases hi : it env J with
  | stuck => rw [hi] at p; exact p.elim
  | err c fs J1 => rw [hi] at p; exact p
  | ok ds J1 =>
    rw [hi] at p
    have p : PostN X.K Z W Xo js H σ env Q (noErr (lcLoop t c f (wipeE env (own.map (·.2))) ds [] J1)) := p
    intro I H1 e1 F1 wd D hD
    obtain ⟨G, Yl, wk, hG, hY⟩ := wd.ex
    -- the new list at D is locked meanwhile
    have F2 : Fit X.K Z (With Xo D) js (upd H1 D (.lst [])) σ env J1 := F1.lock (same_upd hD) hD upd_same
    have hDj : D ∉ js := fun z => F2.jx D z (.inr rfl)
    have kp : ∀ {H2 : Hp}, Keeps (Yf (With Xo D) js) (upd H1 D (.lst [])) H2 → Keeps (Yf Xo js) H1 H2 := fun {H2} k a o q n => by
      have ne : a ≠ D := fun z => by rw [z, hD] at q; cases q
      exact k a o (by rw [upd_ne ne]; exact q) fun y => y.elim (fun y => y.elim (fun y => n (.inl y)) fun z => ne z) fun y => n (.inr y)
    refine lc_it wk (fun i H3 => ∃ acc vs J3, H3 D = some (.lst vs) ∧ Fit X.K Z (With Xo D) js H3 σ env J3 ∧ Reps X.K H3 (Yf (With Xo D) js) acc vs ∧ Keeps (Yf (With Xo D) js) (upd H1 D (.lst [])) H3 ∧
        PostN X.K Z W Xo js H σ env Q (noErr (lcLoop t c f (wipeE env (own.map (·.2))) (ds.drop i) acc J3)) ∧ Ext js H H3) ?_ ?_ ?_ ?_
    · exact ⟨[], [], J1, upd_same, F2, reps_nil.mpr rfl, fun a o q _ => q, p, e1.trans (.of (same_upd hD))⟩
    · rintro i H3 hi ⟨acc, vs, J3, h1, h2, h3, h4, h5, h6⟩
      exact hG H3 (kp h4)
    · rintro i x H3 H4 hi ⟨acc, vs, J3, h1, h2, h3, h4, h5, h6⟩ y
      obtain ⟨sm, d, hd, rd'⟩ := hY (Yf (With Xo D) js) (fun a z => z.elim (fun z => z.elim (fun z => .inl (.inl z)) fun z => .inr (z ▸ hD)) fun z => .inl (.inr z)) i H3 x H4 hi (kp h4) h2.lists y
      have hdrop : ds.drop i = d :: ds.drop (i + 1) := by
        obtain ⟨hl, he⟩ := List.getElem?_eq_some_iff.mp hd
        rw [← he]
        exact List.drop_eq_getElem_cons hl
      rw [hdrop] at h5
      unfold lcLoop at h5
      cases ht : t d (wipeE env (own.map (·.2))) with
      | none => rw [ht] at h5; exact h5.elim
      | some env1 =>
        rw [ht] at h5
        have h5 : PostN X.K Z W Xo js H σ env Q (noErr ((c env1 J3).bind fun b J1 => if b = true then (f env1 J1).bind fun h J2 => match toVal h with
            | some y => if acc.length < big then lcLoop t c f (wipeE env (own.map (·.2))) (ds.drop (i + 1)) (acc ++ [y]) J2 else .stuck
            | none => .stuck
          else lcLoop t c f (wipeE env (own.map (·.2))) (ds.drop (i + 1)) acc J1)) := h5
        have F4 : Fit X.K Z (With Xo D) js H4 σ env J3 := h2.same sm
        refine hin _ _ _ _ (htg _ _ _ _ _ _ _ _ _ _ (F4.wipe (own.map (·.2))) rd' ht fun σ2 F5 => ?_)
        refine ⟨With Xo D, js, env1, J3, F5, ?_⟩
        cases hc : c env1 J3 with
        | stuck => rw [hc] at h5; exact h5.elim
        | err cc fs J5 => rw [hc] at h5; exact h5.elim
        | ok b J5 =>
          rw [hc] at h5
          intro H5 e5 F6
          have hD4 : H4 D = some (.lst vs) := sm _ _ h1
          have r4 : Reps X.K H4 (Yf (With Xo D) js) acc vs := reps_move (fun a o q _ => sm _ _ q) (fun _ y => .inl y) h2.lists _ _ h3
          cases b with
          | false =>
            refine iteF ⟨acc, vs, J5, e5 _ _ hD4 hDj, ?_, r4.ext F5 e5, fun a o q n => e5 _ _ (sm _ _ (h4 a o q n)) fun z => n (.inr z), h5, (h6.trans (.of sm)).trans e5⟩
            exact F4.renew e5 (fun _ h => .inl h) F6.bare
          | true =>
            refine iteT ⟨With Xo D, js, env1, J5, F6, ?_⟩
            have h5 : PostN X.K Z W Xo js H σ env Q (noErr ((f env1 J5).bind fun h J2 => match toVal h with
              | some y => if acc.length < big then lcLoop t c f (wipeE env (own.map (·.2))) (ds.drop (i + 1)) (acc ++ [y]) J2 else .stuck
              | none => .stuck)) := h5
            cases hf : f env1 J5 with
            | stuck => rw [hf] at h5; exact h5.elim
            | err cc fs J6 => rw [hf] at h5; exact h5.elim
            | ok h J6 =>
              rw [hf] at h5
              intro y H6 e6 F7 x7
              have h5 : PostN X.K Z W Xo js H σ env Q (noErr (match toVal h with
                | some y => if acc.length < big then lcLoop t c f (wipeE env (own.map (·.2))) (ds.drop (i + 1)) (acc ++ [y]) J6 else .stuck
                | none => .stuck)) := h5
              cases hv : toVal h with
              | none => rw [hv] at h5; exact h5.elim
              | some dy =>
                rw [hv] at h5
                have h5 : PostN X.K Z W Xo js H σ env Q (noErr (if acc.length < big then lcLoop t c f (wipeE env (own.map (·.2))) (ds.drop (i + 1)) (acc ++ [dy]) J6 else .stuck)) := h5
                by_cases hb : acc.length < big
                · rw [if_pos hb] at h5
                  have ry := val_rep x7 hv
                  have e46 : Ext js H4 H6 := e5.trans e6
                  have hD6 : H6 D = some (.lst vs) := e46 _ _ hD4 hDj
                  have r6 : Reps X.K H6 (Yf (With Xo D) js) acc vs := r4.ext F5 e46
                  have F8 : Fit X.K Z (With Xo D) js H6 σ env J6 := F4.renew e46 (fun _ h => .inl h) F7.bare
                  have up : ∀ a o, H6 a = some o → ¬ Yf (With Xo D) js a → upd H6 D (.lst (vs ++ [y])) a = some o := fun a o q n => by
                    rw [upd_ne fun z => n (.inl (.inr z))]; exact q
                  have ls : Lists (upd H6 D (.lst (vs ++ [y]))) (With Xo D) := fun a z => by
                    by_cases ha : a = D
                    · exact ⟨_, by rw [ha]; exact upd_same⟩
                    · rw [upd_ne ha]; exact F8.out a z
                  refine ⟨vs, hD6, by rw [big_eq, reps_len r6]; exact hb, acc ++ [dy], vs ++ [y], J6, upd_same, ?_, ?_, fun a o q n => up _ _ (e46 _ _ (sm _ _ (h4 a o q n)) fun z => n (.inr z)) n, h5, ?_⟩
                  · refine ⟨ls, F8.nd, F8.jx, F8.len, F8.slen, fun k a ds' q1 q2 => ?_, fun k h' q => ?_, fun z hz => (F8.ez z hz).move up (fun _ y => .inl y) F8.lists⟩
                    · obtain ⟨us, u1, u2⟩ := F8.jar k a ds' q1 q2
                      have ha : a ≠ D := fun z => hDj (z ▸ List.mem_of_getElem? q1)
                      exact ⟨us, by rw [upd_ne ha]; exact u1, repsC_move up (fun _ y => .inl y) F8.lists _ _ u2⟩
                    · obtain ⟨u, u1, u2⟩ := F8.slot k h' q
                      exact ⟨u, u1, u2.move up (fun _ y => .inl y) F8.lists⟩
                  · exact reps_append (reps_move up (fun _ y => .inl y) F8.lists _ _ r6) (reps_cons.mpr ⟨y, [], rfl, rep_move up (fun _ y => .inl y) F8.lists _ _ ry, reps_nil.mpr rfl⟩)
                  · refine fun a o q n => ?_
                    have q3 := h6 a o q n
                    have ha : a ≠ D := fun z => by
                      have hD0 : H D = none := none_back e1 F1.lists hD
                      rw [z, hD0] at q; cases q
                    rw [upd_ne ha]
                    exact e46 _ _ (sm _ _ q3) n
                · rw [if_neg hb] at h5; exact h5.elim
    · rintro H3 ⟨acc, vs, J3, h1, h2, h3, h4, h5, h6⟩
      rw [List.drop_length] at h5
      exact h5 (.ref D) H3 h6 ⟨D, vs, rfl, none_back e1 F1.lists hD, h1, h2, h3⟩
end
end L2.Pz
set_option Elab.async false
set_option linter.all false
set_option maxRecDepth 100000
set_option maxHeartbeats 4000000
set_option autoImplicit false
namespace L2.Pz
open PySem PySem.Spec PyProof.Rows

/-! ### comprehensions as a rule -/
theorem wipe_at (σ : L2.St) : ∀ (vs : List Nat) (j : Nat), (L2.wipe σ vs)[j]? = if j ∈ vs then (σ[j]?.map fun _ => none) else σ[j]?
  | [], j => by unfold L2.wipe; simp
  | v :: vs, j => by
    unfold L2.wipe
    by_cases h : v = j
    · subst h
      rw [if_pos List.mem_cons_self]
      by_cases hl : v < (L2.wipe σ vs).length
      · rw [List.getElem?_set_self hl]
        rw [L2.wipe_length] at hl
        rw [List.getElem?_eq_getElem hl]; rfl
      · rw [List.getElem?_eq_none (by rw [List.length_set]; omega)]
        rw [L2.wipe_length] at hl
        rw [List.getElem?_eq_none (by omega)]; rfl
    · rw [List.getElem?_set_ne h, wipe_at σ vs j]
      have : (j ∈ v :: vs) ↔ j ∈ vs := by
        constructor
        · intro q
          rcases List.mem_cons.mp q with e | q
          · exact (h e.symm).elim
          · exact q
        · exact List.mem_cons_of_mem _
      by_cases hj : j ∈ vs
      · rw [if_pos hj, if_pos (this.mpr hj)]
      · rw [if_neg hj, if_neg fun q => hj (this.mp q)]
theorem wipe_wset (σ : L2.St) {own : List Nat} {i : Nat} (h : i ∈ own) (x : Option V) {τ : L2.St} (ht : L2.wipe τ own = L2.wipe σ own) : L2.wipe (τ.set i x) own = L2.wipe σ own := by
  rw [← ht]
  refine List.ext_getElem? fun j => ?_
  rw [wipe_at, wipe_at]
  by_cases hj : j ∈ own
  · rw [if_pos hj, if_pos hj]
    by_cases hi : i = j
    · subst hi
      by_cases hl : i < τ.length
      · rw [List.getElem?_set_self hl, List.getElem?_eq_getElem hl]; rfl
      · rw [List.getElem?_eq_none (by rw [List.length_set]; omega), List.getElem?_eq_none (by omega)]
    · rw [List.getElem?_set_ne hi]
  · rw [if_neg hj, if_neg hj, List.getElem?_set_ne fun e => hj (by rw [← e]; exact h)]
theorem wipe_wipe (σ : L2.St) (own : List Nat) : L2.wipe (L2.wipe σ own) own = L2.wipe σ own := by
  refine List.ext_getElem? fun j => ?_
  rw [wipe_at, wipe_at]
  by_cases hj : j ∈ own
  · rw [if_pos hj, if_pos hj]
    cases σ[j]? <;> rfl
  · rw [if_neg hj, if_neg hj]
theorem tgin_name {own : List Nat} {i : Nat} (h : i ∈ own) : TgIn (gName i) own := fun v σ H Q q => ⟨wipe_wset σ h _ (wipe_wipe σ own), q⟩
def TgsIn (u : TGs) (own : List Nat) : Prop := ∀ vs (σ τ : L2.St) (H : Hp) (Q : L2.St → Hp → Prop), L2.wipe τ own = L2.wipe σ own → u vs τ H Q → u vs τ H fun σ2 H2 => L2.wipe σ2 own = L2.wipe σ own ∧ Q σ2 H2
theorem tgsin_nil {own : List Nat} : TgsIn gNil own := fun vs σ τ H Q e ⟨q1, q2⟩ => ⟨q1, e, q2⟩
theorem tgsin_cons {own : List Nat} {i : Nat} {u : TGs} (h : i ∈ own) (hu : TgsIn u own) : TgsIn (gCons (gName i) u) own := fun vs σ τ H Q e ⟨v, r, e1, q⟩ => ⟨v, r, e1, hu r σ _ H Q (wipe_wset σ h _ e) q⟩
theorem tgin_tup {K : PySem.W.Frag} {own : List Nat} {n : Nat} {u : TGs} (hu : TgsIn u own) : TgIn (gTup K n u) own := fun v σ H Q ⟨a, xs, e, s, l, q⟩ => ⟨a, xs, e, s, l, hu xs σ _ H Q (wipe_wipe σ own) q⟩
section
variable {X : Cx} {tg iter elt : Expr} {ifs : List Expr} {scope : Scope} {own : List (Str × Nat)} {pos : Pos} {g : TG} {t : TF} {it : IF} {c : BF} {f : EF} {W : WX} {Z : List Zx}
theorem pn_lc (hc : X.calm = true) (hN : X.N.Nodup) (hi : PI X tg iter (tW X.K Z W it)) (ok : BlkOk X.N X.env.scope scope own)
    (hg : ∀ (s : Shared) (H : Hp) (C : Addr) (cl : List (Str × Addr)) (fp : List Addr), PG (X.blk s H scope (compEnvC scope cl C X.env) fp) tg g) (ht : ∀ (s : Shared) (H : Hp) (C : Addr) (cl : List (Str × Addr)) (fp : List Addr), PTs (X.blk s H scope (compEnvC scope cl C X.env) fp) ifs (tT X.K Z W0 c))
    (he : ∀ (s : Shared) (H : Hp) (C : Addr) (cl : List (Str × Addr)) (fp : List Addr), PE (X.blk s H scope (compEnvC scope cl C X.env) fp) elt (tD X.K Z W0 f)) (htg : TgOk X.K Z g t) (hin : TgIn g (own.map (·.2))) (hs : ∀ x, foldedSetIterable iter X.env x = pure x) :
    PE X (.ListComp elt [⟨tg, iter, ifs, 0⟩] scope pos) (tN X.K Z W (eLc it t c f (own.map (·.2)))) :=
  pe_mono (pe_lc hc hN hi ok hg ht he hs) fun σ H Q w => lc_read htg hin w
theorem pts_yes : PTs X [] (tT X.K Z W0 bYes) := ⟨fun pins s σ H Q I ⟨Xo, js, env, J, F, p⟩ => pts_nil.run pins s σ H Q I (p H .refl F)⟩
theorem pts_oneD {e : Expr} (h : PT X e (tT X.K Z W0 c)) : PTs X [e] (tT X.K Z W0 c) := pts_one h
end

/-! ### statements -/
inductive RS where
  | nx (env : En) (J : Jr) | rt (h : HV) (J : Jr) | bk (env : En) (J : Jr) | ct (env : En) (J : Jr) | err (c : Str) (fs : List (Str × D)) (env : En) (J : Jr) | stuck
abbrev SF := Nat → En → Jr → RS
structure Stp (n0 : Nat) (js js' : List Addr) (H H' : Hp) : Prop where
  ext : Ext js H H'
  new : ∀ a ∈ js', a ∈ js ∨ H a = none
  pre : js <+: js'
  back : ∀ a, H' a = none → H a = none
theorem Stp.refl {n0 : Nat} {js : List Addr} {H : Hp} : Stp n0 js js H H := ⟨.refl, fun _ h => .inl h, List.prefix_refl _, fun _ h => h⟩
theorem Stp.trans {n0 : Nat} {js js1 js2 : List Addr} {H H1 H2 : Hp} (a : Stp n0 js js1 H H1) (b : Stp n0 js1 js2 H1 H2) : Stp n0 js js2 H H2 where
  ext := fun c o e n => b.ext c o (a.ext c o e n) fun z => (a.new c z).elim n fun w => by rw [e] at w; cases w
  new := fun c h => by
    rcases b.new c h with z | z
    · exact a.new c z
    · exact .inr (a.back c z)
  pre := a.pre.trans b.pre
  back := fun c h => a.back c (b.back c h)
/-- ahead of a return: cells of the def's own may be let go -/
structure StpR (n0 : Nat) (js js' : List Addr) (H H' : Hp) : Prop where
  ext : Ext js H H'
  new : ∀ a ∈ js', a ∈ js ∨ H a = none
  pre : ∀ (m : Nat) (b : Addr), m < n0 → js[m]? = some b → js'[m]? = some b
  back : ∀ a, H' a = none → H a = none
theorem Stp.r {n0 : Nat} {js js' : List Addr} {H H' : Hp} (s : Stp n0 js js' H H') : StpR n0 js js' H H' := ⟨s.ext, s.new, fun m b _ e => by
  obtain ⟨r, rfl⟩ := s.pre
  rw [List.getElem?_append_left (List.getElem?_eq_some_iff.mp e).1]
  exact e, s.back⟩
theorem Stp.transR {n0 : Nat} {js js1 js2 : List Addr} {H H1 H2 : Hp} (a : Stp n0 js js1 H H1) (b : StpR n0 js1 js2 H1 H2) : StpR n0 js js2 H H2 where
  ext := fun c o e n => b.ext c o (a.ext c o e n) fun z => (a.new c z).elim n fun w => by rw [e] at w; cases w
  new := fun c h => by
    rcases b.new c h with z | z
    · exact a.new c z
    · exact .inr (a.back c z)
  pre := fun m b' hm e => b.pre m b' hm (a.r.pre m b' hm e)
  back := fun c h => a.back c (b.back c h)
section
variable {K : PySem.W.Frag} {W : WX} {Xo : Addr → Prop} {js js' : List Addr} {H H' : Hp} {σ : L2.St} {env : En} {J : Jr} {n0 : Nat} {Z : List Zx}
theorem Stp.of_ext (F : Fit K Z Xo js H' σ env J) (e : Ext js H H') : Stp n0 js js H H' := ⟨e, fun _ h => .inl h, List.prefix_refl _, fun a h => none_back e F.lists h⟩
end
def PostS (K : PySem.W.Frag) (Z : List Zx) (W : WX) (n0 : Nat) (Xo : Addr → Prop) (js : List Addr) (H : Hp) (D : Ends) : RS → Prop
  | .nx env J => ∀ σ' H' js', Stp n0 js js' H H' → Fit K Z Xo js' H' σ' env J → D.nx σ' H'
  | .bk env J => ∀ σ' H' js', Stp n0 js js' H H' → Fit K Z Xo js' H' σ' env J → D.bk σ' H'
  | .ct env J => ∀ σ' H' js', Stp n0 js js' H H' → Fit K Z Xo js' H' σ' env J → D.ct σ' H'
  | .rt h J => ∀ v H' js', StpR n0 js js' H H' → OutN K Z Xo js' H H' [] [] J h v → D.rt v H'
  | .err c fs env J => ∀ cls od σ' H' js', ExcAt K Xo js' c fs cls od H' → Stp n0 js js' H H' → Fit K Z Xo js' H' σ' env J → W cls od σ' H'
  | .stuck => False
def tS (K : PySem.W.Frag) (Z : List Zx) (W : WX) (n0 : Nat) (g : SF) : TS := fun D σ H => ∃ Xo js env J, Fit K Z Xo js H σ env J ∧ PostS K Z W n0 Xo js H D (g n0 env J)
/-- an expression's outcome within a statement -/
def onS {α : Type} (env : En) (r : R α) (k : α → Jr → RS) : RS := match r with
  | .ok a J => k a J
  | .err c fs J => .err c fs env J
  | .stuck => .stuck
def sSeq (a b : SF) : SF := fun n env J => match a n env J with
  | .nx e1 J1 => b n e1 J1
  | r => r
def sNext : SF := fun _ env J => .nx env J
def sBreak : SF := fun _ env J => .bk env J
def sCont : SF := fun _ env J => .ct env J
def sExpr (f : EF) : SF := fun _ env J => onS env (f env J) fun _ J1 => .nx env J1
def sRet (f : EF) : SF := fun _ env J => onS env (f env J) fun h J1 => .rt h J1
def sRetN : SF := fun _ env J => .rt (.val .non) J
def sSet (i : Nat) (f : EF) : SF := fun _ env J => onS env (f env J) fun h J1 => .nx (env.set i (some (norm h))) J1
/-- name = a fresh list that will be changed -/
def sNew (i : Nat) (f : EF) : SF := fun n env J => onS env (f env J) fun h J1 => match h with
  | .new ds => if n ≤ J1.length then .nx (env.set i (some (.jar J1.length))) (J1 ++ [ds]) else .stuck
  | _ => .stuck
def sAsg (t : TF) (f : EF) : SF := fun _ env J => onS env (f env J) fun h J1 => match toVal h with
  | some d => (match t d env with | some e1 => .nx e1 J1 | none => .stuck)
  | none => .stuck
def sIf (c : BF) (a b : SF) : SF := fun n env J => onS env (c env J) fun k J1 => if k = true then a n env J1 else b n env J1
def loopD (t : TF) (body : SF) (n0 : Nat) : List D → En → Jr → RS
  | [], env, J => .nx env J
  | d :: ds, env, J => match t d env with
    | none => .stuck
    | some e1 => match body n0 e1 J with
      | .nx e2 J2 => loopD t body n0 ds e2 J2
      | .ct e2 J2 => loopD t body n0 ds e2 J2
      | .bk e2 J2 => .nx e2 J2
      | r => r
def sFor (it : IF) (t : TF) (body : SF) : SF := fun n env J => onS env (it env J) fun ds J1 => loopD t body n ds env J1
/-- x.append(e), x a cell -/
def sAppend (i : Nat) (f : EF) : SF := fun _ env J => onS env (f env J) fun h J1 => match env[i]?, toVal h with
  | some (some (.jar k)), some d => (match J1[k]? with
    | some ds => if ds.length < big then .nx env (J1.set k (ds ++ [d])) else .stuck
    | none => .stuck)
  | _, _ => .stuck
/-- x[j] = e, x a cell -/
def sSetIx (i : Nat) (ix f : EF) : SF := fun _ env J => onS env (f env J) fun h J1 => onS env (ix env J1) fun hj J2 => match env[i]?, toVal h, hj with
  | some (some (.jar k)), some d, .val (.int j) => (match J2[k]? with
    | some ds => (match ixN ds.length j with | some m => .nx env (J2.set k (ds.set m d)) | none => .stuck)
    | none => .stuck)
  | _, _, _ => .stuck
section
variable {K : PySem.W.Frag} {W : WX} {Xo : Addr → Prop} {js js' : List Addr} {H H1 H' : Hp} {σ : L2.St} {env : En} {J : Jr} {n0 : Nat} {Dn : Ends} {Z : List Zx}
theorem StpR.of_ext (F : Fit K Z Xo js H' σ env J) (e : Ext js H H') : StpR n0 js js H H' := (Stp.of_ext F e).r
theorem PostS.later {r : RS} (s : Stp n0 js js' H H1) (p : PostS K Z W n0 Xo js H Dn r) : PostS K Z W n0 Xo js' H1 Dn r := by
  cases r with
  | nx env J => exact fun σ' H' js2 s2 F => p σ' H' js2 (s.trans s2) F
  | bk env J => exact fun σ' H' js2 s2 F => p σ' H' js2 (s.trans s2) F
  | ct env J => exact fun σ' H' js2 s2 F => p σ' H' js2 (s.trans s2) F
  | rt h J =>
    intro v H' js2 s2 o
    refine p v H' js2 (s.transR s2) ?_
    cases h with
    | val d => exact o
    | jar k => exact o
    | exc k => exact o
    | newB xs ds =>
      obtain ⟨ps, a1, a2, a3⟩ := o
      exact ⟨ps, a1, fun p hp => s.back p (a2 p hp), a3⟩
    | new ds =>
      obtain ⟨q, us, a1, a2, a3⟩ := o
      exact ⟨q, us, a1, s.back q a2, a3⟩
  | err c fs env J => exact fun cls od σ' H' js2 x s2 F => p cls od σ' H' js2 x (s.trans s2) F
  | stuck => exact p
theorem flies_S {c : Str} {fs : List (Str × D)} (p : PostS K Z W n0 Xo js H Dn (.err c fs env J)) : Flies K Z W Xo js H σ env c fs J :=
  fun cls od H' x e F => p cls od σ H' js x (.of_ext F e) F
end
section
variable {X : Cx} {W : WX} {n0 : Nat} {st : Stmt} {rest : List Stmt} {a b : SF} {f : EF} {c : BF} {e tg iter : Expr} {pos : Pos} {ta tb : List Stmt} {Z : List Zx}
theorem ss_nil : PSs X [] (tS X.K Z W n0 sNext) := pss_mono pss_nil fun D σ H ⟨Xo, js, env, J, F, p⟩ => p σ H js .refl F
theorem ss_one (h : PS X st (tS X.K Z W n0 a)) : PSs X [st] (tS X.K Z W n0 a) := pss_one h
theorem ss_cons (h1 : PS X st (tS X.K Z W n0 a)) (h2 : PSs X rest (tS X.K Z W n0 b)) : PSs X (st :: rest) (tS X.K Z W n0 (sSeq a b)) := pss_mono (pss_cons h1 h2) fun D σ H ⟨Xo, js, env, J, F, p⟩ => by
  refine ⟨Xo, js, env, J, F, ?_⟩
  unfold sSeq at p
  cases r : a n0 env J with
  | nx e1 J1 =>
    rw [r] at p
    exact fun σ' H' js' s F' => ⟨Xo, js', e1, J1, F', p.later s⟩
  | bk e1 J1 => rw [r] at p; exact p
  | ct e1 J1 => rw [r] at p; exact p
  | rt h J1 => rw [r] at p; exact p
  | err c fs e1 J1 => rw [r] at p; exact p
  | stuck => rw [r] at p; exact p
theorem s_pass : PS X (.Pass pos) (tS X.K Z W n0 sNext) := ps_mono ps_pass fun D σ H ⟨Xo, js, env, J, F, p⟩ => p σ H js .refl F
theorem s_break : PS X (.Break pos) (tS X.K Z W n0 sBreak) := ps_mono ps_break fun D σ H ⟨Xo, js, env, J, F, p⟩ => p σ H js .refl F
theorem s_cont : PS X (.Continue pos) (tS X.K Z W n0 sCont) := ps_mono ps_continue fun D σ H ⟨Xo, js, env, J, F, p⟩ => p σ H js .refl F
theorem s_expr (he : PE X e (tD X.K Z W f)) (hs : swapsWith e none pos.line X.env = pure false) : PS X (.Expr e pos) (tS X.K Z W n0 (sExpr f)) := ps_mono (ps_expr he hs) fun D σ H ⟨Xo, js, env, J, F, p⟩ => by
  refine ⟨Xo, js, env, J, F, ?_⟩
  unfold sExpr at p
  cases r : f env J with
  | stuck => rw [r] at p; exact p.elim
  | err c fs J1 => rw [r] at p; exact flies_S p
  | ok h J1 => rw [r] at p; exact fun v H' e1 G _ => p σ H' js (.of_ext G e1) G
theorem s_ret (he : PE X e (tN X.K Z W f)) : PS X (.Return (some e) pos) (tS X.K Z W n0 (sRet f)) := ps_mono (ps_ret he) fun D σ H ⟨Xo, js, env, J, F, p⟩ => by
  refine ⟨Xo, js, env, J, F, ?_⟩
  unfold sRet at p
  cases r : f env J with
  | stuck => rw [r] at p; exact p.elim
  | err c fs J1 => rw [r] at p; exact flies_S p
  | ok h J1 =>
    rw [r] at p
    intro v H' e1 o
    obtain ⟨G, _⟩ := outN_norm F.out o
    refine p v H' js (.of_ext G e1) ?_
    cases h with
    | val d => exact ⟨G.bare, o.2⟩
    | jar k => exact ⟨G.bare, o.2⟩
    | exc k => exact ⟨G.bare, o.2⟩
    | newB xs ds =>
      obtain ⟨ps, a1, a2⟩ := o
      exact ⟨ps, a1.bare, a2⟩
    | new ds =>
      obtain ⟨q, us, a1, a2, a3, a4, a5⟩ := o
      exact ⟨q, us, a1, a2, a3, a4.bare, a5⟩
theorem s_retN : PS X (.Return none pos) (tS X.K Z W n0 sRetN) := ps_mono ps_retN fun D σ H ⟨Xo, js, env, J, F, p⟩ => p .non H js (Stp.refl).r (out_val F.bare (mk_non (K := X.K) (H := H) (Y := Yf Xo js)))
theorem s_set {i : Nat} {x : Str} {pos' : Pos} (hN : X.N.Nodup) (hi : X.N[i]? = some x) (hx : Loc X.env.scope x) (he : PE X e (tD X.K Z W f)) (hs : swapsWith e (some (.Name x pos')) pos.line X.env = pure false) (hf : X.fn x = true ∨ X.env.scope.names.lookup x = some .local) :
    PS X (.Assign [.Name x pos'] e pos) (tS X.K Z W n0 (sSet i f)) := ps_mono (ps_set hN hi hx he hs hf) fun D σ H ⟨Xo, js, env, J, F, p⟩ => by
  refine ⟨Xo, js, env, J, F, ?_⟩
  unfold sSet at p
  cases r : f env J with
  | stuck => rw [r] at p; exact p.elim
  | err c fs J1 => rw [r] at p; exact flies_S p
  | ok h J1 => rw [r] at p; exact fun v H' e1 G x => p _ H' js (.of_ext G e1) (G.set i x)
theorem new_read {i : Nat} {D : Ends} {σ : L2.St} {H : Hp} (w : tS X.K Z W n0 (sNew i f) D σ H) : tAsg (tN X.K Z W f) (gName i) D σ H := by
  obtain ⟨Xo, js, env, J, F, p⟩ := w
  refine ⟨Xo, js, env, J, F, ?_⟩
  unfold sNew at p
  cases r : f env J with
  | stuck => rw [r] at p; exact p.elim
  | err c fs J1 => rw [r] at p; exact flies_S p
  | ok h J1 =>
    rw [r] at p
    intro v H' e1 o
    cases h with
    | val d => exact p.elim
    | jar k => exact p.elim
    | exc k => exact p.elim
    | newB _ _ => exact p.elim
    | new ds =>
      obtain ⟨q, us, a1, a2, a3, a4, a5⟩ := o
      have p : PostS X.K Z W n0 Xo js H D (if n0 ≤ J1.length then .nx (env.set i (some (.jar J1.length))) (J1 ++ [ds]) else .stuck) := p
      by_cases hn0 : n0 ≤ J1.length
      case neg => rw [if_neg hn0] at p; exact p.elim
      rw [if_pos hn0] at p
      have nq : q ∉ js := fun z => a4.jx q z (.inr rfl)
      have yy : ∀ a, Yf Xo (js ++ [q]) a → Yf (With Xo q) js a := fun a y => by
        rcases y with y | y
        · exact .inl (.inl y)
        · rcases List.mem_append.mp y with y | y
          · exact .inr y
          · exact .inl (.inr (by simpa using y))
      have hout : Lists H' Xo := fun a y => a4.out a (.inl y)
      have nX : ¬ Xo q := fun y => by
        obtain ⟨xs, z⟩ := F.out q y
        rw [a2] at z; cases z
      have G : Fit X.K Z Xo (js ++ [q]) H' σ env (J1 ++ [ds]) := by
        refine ⟨hout, ?_, fun a ha => ?_, by rw [List.length_append, List.length_append, a4.len]; rfl, a4.slen, fun k a ds' h1 h2 => ?_, fun k h' e => ?_, fun z hz => (a4.ez z hz).move (fun _ _ e _ => e) (fun a y => .inl (yy a y)) a4.lists⟩
        · rw [List.nodup_append]
          exact ⟨a4.nd, by simp, fun a ha b hb => by
            have : b = q := by simpa using hb
            rw [this]; exact fun z => nq (z ▸ ha)⟩
        · rcases List.mem_append.mp ha with ha | ha
          · exact fun z => a4.jx a ha (.inl z)
          · have : a = q := by simpa using ha
            rw [this]; exact nX
        · by_cases hk : k < js.length
          · rw [List.getElem?_append_left hk] at h1
            rw [List.getElem?_append_left (by rw [← a4.len]; exact hk)] at h2
            obtain ⟨us', u1, u2⟩ := a4.jar k a ds' h1 h2
            exact ⟨us', u1, repsC_moveJ (fun _ _ e _ => e) (fun a y => .inl (yy a y)) a4.lists (fun m b _ e => by rw [List.getElem?_append_left ((List.getElem?_eq_some_iff.mp e).1)]; exact e) u2⟩
          · rw [List.getElem?_append_right (by omega)] at h1
            rw [List.getElem?_append_right (by rw [← a4.len]; omega), ← a4.len] at h2
            have hk0 : k - js.length = 0 := by
              cases hh : k - js.length with
              | zero => rfl
              | succ m => rw [hh] at h1; simp at h1
            rw [hk0] at h1 h2
            have e1 : q = a := by simpa using h1
            have e2 : ds = ds' := by simpa using h2
            subst e1; subst e2
            exact ⟨us, a3, repsC_of (reps_move (fun _ _ e _ => e) (fun a y => .inl (yy a y)) a4.lists _ _ a5)⟩
        · obtain ⟨u, u1, u2⟩ := a4.slot k h' e
          refine ⟨u, u1, ?_⟩
          have u3 := u2.move (fun _ _ e _ => e) (Y' := Yf Xo (js ++ [q])) (fun a y => .inl (yy a y)) a4.lists
          cases h' with
          | val d => exact u3
          | new ds => exact u3
          | exc m => exact u3
          | newB _ _ => exact u3
          | jar m =>
            obtain ⟨a, ea, ev⟩ := u3
            exact ⟨a, by rw [List.getElem?_append_left ((List.getElem?_eq_some_iff.mp ea).1)]; exact ea, ev⟩
      refine p _ H' (js ++ [q]) ⟨e1, fun a ha => ?_, ?_, fun a h => none_back e1 a4.unlock.lists h⟩ (G.set i (h := .jar J1.length) ?_)
      · rcases List.mem_append.mp ha with ha | ha
        · exact .inl ha
        · have : a = q := by simpa using ha
          rw [this]; exact .inr a2
      · exact List.prefix_append _ _
      · exact ⟨q, by rw [← a4.len]; simp, a1⟩
end
end L2.Pz
set_option Elab.async false
set_option linter.all false
set_option maxRecDepth 100000
set_option maxHeartbeats 4000000
set_option autoImplicit false
namespace L2.Pz
open PySem PySem.Spec PyProof.Rows

section
variable {K : PySem.W.Frag} {W : WX} {Xo : Addr → Prop} {js js' : List Addr} {H H1 H' : Hp} {σ : L2.St} {env : En} {J : Jr} {n0 : Nat} {Z : List Zx}
/-- a cell is written -/
theorem Fit.write (F : Fit K Z Xo js H σ env J) {k : Nat} {a : Addr} {ds : List D} {vs : List V} (e : js[k]? = some a) (r : RepsC K H (Yf Xo js) js k ds vs) :
    Fit K Z Xo js (upd H a (.lst vs)) σ env (J.set k ds) ∧ Ext js H (upd H a (.lst vs)) := by
  have ha : a ∈ js := List.mem_of_getElem? e
  have up : ∀ b o, H b = some o → ¬ Yf Xo js b → upd H a (.lst vs) b = some o := fun b o q n => by
    rw [upd_ne (b := b) (a := a) fun z => n (.inr (by rw [z]; exact ha))]; exact q
  have hk : k < js.length := (List.getElem?_eq_some_iff.mp e).1
  have ls : ∀ b, (∃ xs, H b = some (.lst xs)) → ∃ xs, upd H a (.lst vs) b = some (.lst xs) := fun b ⟨xs, q⟩ => by
    by_cases hb : b = a
    · exact ⟨_, by rw [hb]; exact upd_same⟩
    · exact ⟨xs, by rw [upd_ne hb]; exact q⟩
  refine ⟨⟨fun b z => ls b (F.out b z), F.nd, F.jx, by rw [List.length_set]; exact F.len, F.slen, fun m b ds' q1 q2 => ?_, fun i h q => ?_, fun z hz => (F.ez z hz).move up (fun _ y => .inl y) F.lists⟩, fun b o q n => ?_⟩
  · by_cases hm : k = m
    · subst hm
      rw [e] at q1
      cases q1
      rw [List.getElem?_set_self (by rw [← F.len]; exact hk)] at q2
      cases q2
      exact ⟨vs, upd_same, repsC_move up (fun _ y => .inl y) F.lists _ _ r⟩
    · rw [List.getElem?_set_ne hm] at q2
      obtain ⟨us, u1, u2⟩ := F.jar m b ds' q1 q2
      have hb : b ≠ a := fun z => by
        subst z
        obtain ⟨h1, e1⟩ := List.getElem?_eq_some_iff.mp e
        obtain ⟨h2, e2⟩ := List.getElem?_eq_some_iff.mp q1
        exact hm ((List.getElem_inj F.nd).mp (e1.trans e2.symm))
      exact ⟨us, by rw [upd_ne hb]; exact u1, repsC_move up (fun _ y => .inl y) F.lists _ _ u2⟩
  · obtain ⟨u, u1, u2⟩ := F.slot i h q
    exact ⟨u, u1, u2.move up (fun _ y => .inl y) F.lists⟩
  · rw [upd_ne (b := b) (a := a) fun z => n (by rw [z]; exact ha)]; exact q
/-- the cells behind the n-th are let go -/
theorem Fit.trim (F : Fit K Z Xo js H [] [] J) (n : Nat) : Fit K Z Xo (js.take n) H [] [] (J.take n) := by
  have yy : ∀ a, Yf Xo (js.take n) a → Yf Xo js a := fun a y => y.elim .inl fun y => .inr (List.mem_of_mem_take y)
  refine ⟨F.out, F.nd.sublist (List.take_sublist _ _), fun a ha => F.jx a (List.mem_of_mem_take ha), by rw [List.length_take, List.length_take, F.len], rfl, fun k a ds h1 h2 => ?_, fun i h e => (by simp at e), fun z hz => (F.ez z hz).move (fun _ _ e _ => e) (fun a y => .inl (yy a y)) F.lists⟩
  have hk : k < n := by
    have := (List.getElem?_eq_some_iff.mp h1).1
    rw [List.length_take] at this
    omega
  rw [List.getElem?_take_of_lt hk] at h1 h2
  obtain ⟨vs, u1, u2⟩ := F.jar k a ds h1 h2
  exact ⟨vs, u1, repsC_moveJ (fun _ _ e _ => e) (fun a y => .inl (yy a y)) F.lists (fun m b hm e => by rw [List.getElem?_take_of_lt (by omega)]; exact e) u2⟩
end
section
variable {X : Cx} {W : WX} {n0 : Nat} {st : Stmt} {a b : SF} {f ix : EF} {c : BF} {e tg iter : Expr} {pos : Pos} {ta tb : List Stmt} {g : TG} {t : TF} {it : IF} {Z : List Zx}
theorem s_new {i : Nat} {x : Str} {pos' : Pos} (hN : X.N.Nodup) (hi : X.N[i]? = some x) (hx : Loc X.env.scope x) (he : PE X e (tN X.K Z W f)) (hs : swapsWith e (some (.Name x pos')) pos.line X.env = pure false) (hf : X.fn x = true ∨ X.env.scope.names.lookup x = some .local) :
    PS X (.Assign [.Name x pos'] e pos) (tS X.K Z W n0 (sNew i f)) := ps_mono (ps_set hN hi hx he hs hf) fun D σ H w => new_read w
theorem set_read {i : Nat} {D : Ends} {σ : L2.St} {H : Hp} (w : tS X.K Z W n0 (sSet i f) D σ H) : tAsg (tN X.K Z W f) (gName i) D σ H := by
  obtain ⟨Xo, js, env, J, F, p⟩ := w
  refine ⟨Xo, js, env, J, F, ?_⟩
  unfold sSet at p
  cases r : f env J with
  | stuck => rw [r] at p; exact p.elim
  | err c fs J1 => rw [r] at p; exact flies_S p
  | ok h J1 =>
    rw [r] at p
    intro v H' e1 o
    obtain ⟨G, x⟩ := outN_norm F.out o
    exact p _ H' js (.of_ext G e1) (G.set i x)
/-- name = [..] -/
theorem s_setLc {i : Nat} {elt : Expr} {ifs : List Expr} {scope : Scope} {own : List (Str × Nat)} {py spos : Pos} {y : Str} (htg : TgOk X.K Z g t) (hin : TgIn g (own.map (·.2)))
    (h : PS X (.Assign [.Name y py] (.ListComp elt [⟨tg, iter, ifs, 0⟩] scope pos) spos) (tAsg (tLc (tW X.K Z W it) g (tT X.K Z W0 c) (tD X.K Z W0 f) (own.map (·.2))) (gName i))) :
    PS X (.Assign [.Name y py] (.ListComp elt [⟨tg, iter, ifs, 0⟩] scope pos) spos) (tS X.K Z W n0 (sSet i (eLc it t c f (own.map (·.2))))) := ps_mono h fun D σ H w => lc_read htg hin (set_read w)
theorem s_newLc {i : Nat} {elt : Expr} {ifs : List Expr} {scope : Scope} {own : List (Str × Nat)} {py spos : Pos} {y : Str} (htg : TgOk X.K Z g t) (hin : TgIn g (own.map (·.2)))
    (h : PS X (.Assign [.Name y py] (.ListComp elt [⟨tg, iter, ifs, 0⟩] scope pos) spos) (tAsg (tLc (tW X.K Z W it) g (tT X.K Z W0 c) (tD X.K Z W0 f) (own.map (·.2))) (gName i))) :
    PS X (.Assign [.Name y py] (.ListComp elt [⟨tg, iter, ifs, 0⟩] scope pos) spos) (tS X.K Z W n0 (sNew i (eLc it t c f (own.map (·.2))))) := ps_mono h fun D σ H w => lc_read htg hin (new_read w)
/-- a, b = e -/
theorem s_asg (htg : TgOk X.K Z g t) (h : PS X st (tAsg (tD X.K Z W f) g)) : PS X st (tS X.K Z W n0 (sAsg t f)) := ps_mono h fun D σ H ⟨Xo, js, env, J, F, p⟩ => by
  refine ⟨Xo, js, env, J, F, ?_⟩
  unfold sAsg at p
  cases r : f env J with
  | stuck => rw [r] at p; exact p.elim
  | err c fs J1 => rw [r] at p; exact flies_S p
  | ok h J1 =>
    rw [r] at p
    intro v H' e1 G x
    have p : PostS X.K Z W n0 Xo js H D (match toVal h with
      | some d => (match t d env with | some e1 => .nx e1 J1 | none => .stuck)
      | none => .stuck) := p
    cases hv : toVal h with
    | none => rw [hv] at p; exact p.elim
    | some d =>
      rw [hv] at p
      have p : PostS X.K Z W n0 Xo js H D (match t d env with | some e1 => .nx e1 J1 | none => .stuck) := p
      cases ht : t d env with
      | none => rw [ht] at p; exact p.elim
      | some e2 =>
        rw [ht] at p
        exact htg _ _ _ _ _ _ _ _ _ _ G (val_rep x hv) ht fun σ' F' => p σ' H' js (.of_ext F' e1) F'
theorem s_if (hc : PT X e (tT X.K Z W c)) (ha : PSs X ta (tS X.K Z W n0 a)) (hb : PSs X tb (tS X.K Z W n0 b)) : PS X (.If e ta tb pos) (tS X.K Z W n0 (sIf c a b)) := ps_mono (ps_if hc ha hb) fun D σ H ⟨Xo, js, env, J, F, p⟩ => by
  refine ⟨Xo, js, env, J, F, ?_⟩
  unfold sIf at p
  cases r : c env J with
  | stuck => rw [r] at p; exact p.elim
  | err c fs J1 => rw [r] at p; exact flies_S p
  | ok k J1 =>
    rw [r] at p
    intro H' e1 G
    have p : PostS X.K Z W n0 Xo js H D (if k = true then a n0 env J1 else b n0 env J1) := p
    cases k with
    | true => exact iteT ⟨Xo, js, env, J1, G, PostS.later (.of_ext G e1) p⟩
    | false => exact iteF ⟨Xo, js, env, J1, G, PostS.later (.of_ext G e1) p⟩
theorem s_for (hp : PassesOwn (model X.prog X.w) X.A X.env X.xe) (hc : X.calm = true) (hi : PI X tg iter (tW X.K Z W it)) (hg : PG X tg g) (htg : TgOk X.K Z g t) (hb : PSs X ta (tS X.K Z W n0 a)) (hs : ∀ x, foldedSetIterable iter X.env x = pure x) :
    PS X (.For tg iter ta [] pos) (tS X.K Z W n0 (sFor it t a)) := ps_mono (ps_for hp hc hi hg hb hs) fun D σ H ⟨Xo, js, env, J, F, p⟩ => by
  refine ⟨Xo, js, env, J, F, ?_⟩
  unfold sFor at p
  cases r : it env J with
  | stuck => rw [r] at p; exact p.elim
  | err c fs J1 => rw [r] at p; exact flies_S p
  | ok ds J1 =>
    rw [r] at p
    have p : PostS X.K Z W n0 Xo js H D (loopD t a n0 ds env J1) := p
    intro I H1 e1 F1 wd
    obtain ⟨G, Yl, wk, hG, hY⟩ := wd.ex
    have kp : ∀ {js3 : List Addr} {H3 : Hp}, Stp n0 js js3 H1 H3 → Keeps (Yf Xo js) H1 H3 := fun {js3 H3} s a o q n => s.ext a o q fun z => n (.inr z)
    refine for_it wk (fun i σ3 H3 => ∃ js3 env3 J3, Fit X.K Z Xo js3 H3 σ3 env3 J3 ∧ Stp n0 js js3 H1 H3 ∧ PostS X.K Z W n0 Xo js3 H3 D (loopD t a n0 (ds.drop i) env3 J3)) ?_ ?_ ?_ ?_
    · exact ⟨js, env, J1, F1, .refl, PostS.later (.of_ext F1 e1) p⟩
    · rintro i σ3 H3 hi ⟨js3, env3, J3, F3, s3, p3⟩
      exact hG H3 (kp s3)
    · rintro i x σ3 H3 H4 hi ⟨js3, env3, J3, F3, s3, p3⟩ y
      obtain ⟨sm, d, hd, rd⟩ := hY (Yf Xo js3) (fun a z => z.elim (fun z => .inl (.inl z)) fun z => (s3.new a z).elim (fun z => .inl (.inr z)) .inr) i H3 x H4 hi (kp s3) F3.lists y
      have hdrop : ds.drop i = d :: ds.drop (i + 1) := by
        obtain ⟨hl, he⟩ := List.getElem?_eq_some_iff.mp hd
        rw [← he]
        exact List.drop_eq_getElem_cons hl
      rw [hdrop] at p3
      unfold loopD at p3
      have F4 : Fit X.K Z Xo js3 H4 σ3 env3 J3 := F3.same sm
      have s4 : Stp n0 js3 js3 H3 H4 := .of_ext F4 (.of sm)
      cases ht : t d env3 with
      | none => rw [ht] at p3; exact p3.elim
      | some env4 =>
        rw [ht] at p3
        refine htg _ _ _ _ _ _ _ _ _ _ F4 rd ht fun σ5 F5 => ?_
        refine ⟨Xo, js3, env4, J3, F5, ?_⟩
        have p3 : PostS X.K Z W n0 Xo js3 H3 D (match a n0 env4 J3 with
          | .nx e2 J2 => loopD t a n0 (ds.drop (i + 1)) e2 J2
          | .ct e2 J2 => loopD t a n0 (ds.drop (i + 1)) e2 J2
          | .bk e2 J2 => .nx e2 J2
          | r => r) := p3
        cases hr : a n0 env4 J3 with
        | nx e2 J2 =>
          rw [hr] at p3
          exact fun σ' H' js' s F' => ⟨js', e2, J2, F', (s3.trans s4).trans s, PostS.later (s4.trans s) p3⟩
        | ct e2 J2 =>
          rw [hr] at p3
          exact fun σ' H' js' s F' => ⟨js', e2, J2, F', (s3.trans s4).trans s, PostS.later (s4.trans s) p3⟩
        | bk e2 J2 =>
          rw [hr] at p3
          exact fun σ' H' js' s F' => p3 σ' H' js' (s4.trans s) F'
        | rt h J2 => rw [hr] at p3; exact PostS.later (r := .rt h J2) s4 p3
        | err c fs e2 J2 => rw [hr] at p3; exact PostS.later (r := .err c fs e2 J2) s4 p3
        | stuck => rw [hr] at p3; exact p3.elim
    · rintro σ3 H3 ⟨js3, env3, J3, F3, s3, p3⟩
      rw [List.drop_length] at p3
      exact p3 σ3 H3 js3 .refl F3
end

/-! ### cells: append, x[i] = e -/
def appEnd (env : En) (J : Jr) (k : Nat) : Option D → RS
  | some d => (match J[k]? with
    | some ds => if ds.length < big then .nx env (J.set k (ds ++ [d])) else .stuck
    | none => .stuck)
  | none => .stuck
def sApp (i : Nat) (f : EF) : SF := fun _ env J => match env[i]? with
  | some (some (.jar k)) => onS env (f env J) fun h J1 => appEnd env J1 k (toVal h)
  | _ => .stuck
def setEnd (env : En) (J : Jr) (k : Nat) : Option D → HV → RS
  | some d, .val (.int j) => (match J[k]? with
    | some ds => (match ixN ds.length j with | some m => .nx env (J.set k (ds.set m d)) | none => .stuck)
    | none => .stuck)
  | _, _ => .stuck
def sSetI (i : Nat) (ix f : EF) : SF := fun _ env J => match env[i]? with
  | some (some (.jar k)) => onS env (f env J) fun h J1 => onS env (ix env J1) fun hj J2 => setEnd env J2 k (toVal h) hj
  | _ => .stuck
section
variable {X : Cx} {W : WX} {n0 : Nat} {st : Stmt} {f ix : EF} {i : Nat} {Z : List Zx}
theorem s_app (h : PS X st (tDrop (tBM X.K "list" rAppend (tVar i) (tCons (tD X.K Z W f) tNil)))) : PS X st (tS X.K Z W n0 (sApp i f)) := ps_mono h fun D σ H ⟨Xo, js, env, J, F, p⟩ => by
  unfold sApp at p
  cases hs : env[i]? with
  | none => rw [hs] at p; exact p.elim
  | some o =>
    cases o with
    | none => rw [hs] at p; exact p.elim
    | some z =>
      cases z with
      | val d => rw [hs] at p; exact p.elim
      | new d => rw [hs] at p; exact p.elim
      | exc k => rw [hs] at p; exact p.elim
      | newB _ _ => rw [hs] at p; exact p.elim
      | jar k =>
        rw [hs] at p
        obtain ⟨v, hv, a, ha, rfl⟩ := F.slot i _ hs
        obtain ⟨ds0, vs0, _, hl0, _⟩ := F.at ha
        refine ⟨_, hv, .inl ⟨rfl, _, SqL.of hl0⟩, ?_⟩
        show tD X.K Z W f σ H fun x H1 => _
        refine ⟨Xo, js, env, J, F, ?_⟩
        have p : PostS X.K Z W n0 Xo js H D (onS env (f env J) fun h J1 => appEnd env J1 k (toVal h)) := p
        cases r : f env J with
        | stuck => rw [r] at p; exact p.elim
        | err c fs J1 => rw [r] at p; exact flies_S p
        | ok h J1 =>
          rw [r] at p
          intro x H1 e1 F1 x1
          have p : PostS X.K Z W n0 Xo js H D (appEnd env J1 k (toVal h)) := p
          cases hd : toVal h with
          | none => rw [hd] at p; exact p.elim
          | some d =>
            rw [hd] at p
            obtain ⟨ds, vs, hJ, hl, rs⟩ := F1.at ha
            have p : PostS X.K Z W n0 Xo js H D (match J1[k]? with
              | some ds => if ds.length < big then .nx env (J1.set k (ds ++ [d])) else .stuck
              | none => .stuck) := p
            rw [hJ] at p
            have p : PostS X.K Z W n0 Xo js H D (if ds.length < big then .nx env (J1.set k (ds ++ [d])) else .stuck) := p
            by_cases hb : ds.length < big
            · rw [if_pos hb] at p
              have r2 := repsC_append rs (repsC_of (reps_cons.mpr ⟨x, [], rfl, val_rep x1 hd, reps_nil.mpr rfl⟩))
              obtain ⟨F2, e2⟩ := F1.write ha r2
              exact ⟨a, vs, x, rfl, rfl, hl, by rw [big_eq, repsC_len rs]; exact hb, p _ _ js (.of_ext F2 (e1.trans e2)) F2⟩
            · rw [if_neg hb] at p; exact p.elim
theorem s_setI (h : PS X st (tAsg (tD X.K Z W f) (gSub (tVar i) (tD X.K Z W ix) rSetL))) : PS X st (tS X.K Z W n0 (sSetI i ix f)) := ps_mono h fun D σ H ⟨Xo, js, env, J, F, p⟩ => by
  unfold sSetI at p
  cases hs : env[i]? with
  | none => rw [hs] at p; exact p.elim
  | some o =>
    cases o with
    | none => rw [hs] at p; exact p.elim
    | some z =>
      cases z with
      | val d => rw [hs] at p; exact p.elim
      | new d => rw [hs] at p; exact p.elim
      | exc k => rw [hs] at p; exact p.elim
      | newB _ _ => rw [hs] at p; exact p.elim
      | jar k =>
        rw [hs] at p
        obtain ⟨v, hv, a, ha, rfl⟩ := F.slot i _ hs
        refine ⟨Xo, js, env, J, F, ?_⟩
        have p : PostS X.K Z W n0 Xo js H D (onS env (f env J) fun h J1 => onS env (ix env J1) fun hj J2 => setEnd env J2 k (toVal h) hj) := p
        cases r : f env J with
        | stuck => rw [r] at p; exact p.elim
        | err c fs J1 => rw [r] at p; exact flies_S p
        | ok h J1 =>
          rw [r] at p
          intro x H1 e1 F1 x1
          refine ⟨_, hv, ?_⟩
          refine ⟨Xo, js, env, J1, F1, ?_⟩
          have p : PostS X.K Z W n0 Xo js H D (onS env (ix env J1) fun hj J2 => setEnd env J2 k (toVal h) hj) := p
          cases r2 : ix env J1 with
          | stuck => rw [r2] at p; exact p.elim
          | err c fs J2 => rw [r2] at p; exact (flies_S (σ := σ) p).later e1
          | ok hj J2 =>
            rw [r2] at p
            intro y H2 e2 F2 y2
            have p : PostS X.K Z W n0 Xo js H D (setEnd env J2 k (toVal h) hj) := p
            cases hd : toVal h with
            | none => rw [hd] at p; exact p.elim
            | some d =>
              rw [hd] at p
              cases hj with
              | jar _ => exact p.elim
              | exc _ => exact p.elim
              | newB _ _ => exact p.elim
              | new _ => exact p.elim
              | val dj =>
                cases dj with
                | int j =>
                  obtain ⟨ds, vs, hJ, hl, rs⟩ := F2.at ha
                  have p : PostS X.K Z W n0 Xo js H D (match J2[k]? with
                    | some ds => (match ixN ds.length j with | some m => .nx env (J2.set k (ds.set m d)) | none => .stuck)
                    | none => .stuck) := p
                  rw [hJ] at p
                  have p : PostS X.K Z W n0 Xo js H D (match ixN ds.length j with | some m => .nx env (J2.set k (ds.set m d)) | none => .stuck) := p
                  cases hm : ixN ds.length j with
                  | none => rw [hm] at p; exact p.elim
                  | some m =>
                    rw [hm] at p
                    have rx := (val_rep x1 hd).ext F1 e2
                    obtain ⟨F3, e3⟩ := F2.write ha (repsC_set (i := m) rs rx)
                    exact ⟨a, vs, j, m, rfl, rep_int (K := X.K) (H := H2) (Y := Yf Xo js) y2, hl, by rw [repsC_len rs]; exact hm, p _ _ js (.of_ext F3 ((e1.trans e2).trans e3)) F3⟩
                | _ => exact p.elim
end

/-! ### defs -/
def startE (m : Nat) (hs : List HV) : En := hs.map some ++ List.replicate (m - hs.length) none
def outH (n : Nat) (J : Jr) : HV → R HV
  | .jar k => if k < n then .ok (.jar k) (J.take n) else match J[k]? with
    | some ds => if ds.all isP = true then .ok (.new ds) (J.take n) else .ok (.newB (J.drop n) k) (J.take n)
    | none => .stuck
  | .newB cs m => .ok (.newB (J.drop n ++ cs) m) (J.take n)
  | h => .ok h (J.take n)
def endR (n : Nat) : RS → R HV
  | .rt h J => if n ≤ J.length then outH n J h else .stuck
  | .nx _ J => if n ≤ J.length then .ok (.val .non) (J.take n) else .stuck
  | .err c fs _ J => if n ≤ J.length then .err c fs (J.take n) else .stuck
  | _ => .stuck
def mkF (m : Nat) (g : SF) : FT := fun hs J => endR J.length (g J.length (startE m hs) J)
section
variable {P : Program} {w : World} {K : PySem.W.Frag} {mg : Str → Option Value} {base : Heap} {Xo : Addr → Prop} {js js' : List Addr} {H H' : Hp} {J J' : Jr} {env : En} {Z : List Zx}
theorem fit_start (F : Fit K Z Xo js H [] [] J) {N : List Str} : ∀ {hs : List HV} {vs : List V}, HReps K Z H (Yf Xo js) js hs vs → Fit K Z Xo js H (start N vs) (startE N.length hs) J := fun {hs vs} r => by
  refine ⟨F.out, F.nd, F.jx, F.len, ?_, F.jar, fun i h e => ?_, F.ez⟩
  · unfold start startE
    rw [List.length_append, List.length_append, List.length_map, List.length_map, List.length_replicate, List.length_replicate, hreps_len r]
  · unfold startE at e
    by_cases hi : i < hs.length
    · rw [List.getElem?_append_left (by simpa using hi), List.getElem?_map] at e
      have key : ∀ {hs : List HV} {vs : List V} {i : Nat} {h : HV}, HReps K Z H (Yf Xo js) js hs vs → hs[i]? = some h → ∃ v, vs[i]? = some v ∧ HRep K Z H (Yf Xo js) js h v := by
        intro hs
        induction hs with
        | nil => intro vs i h r e; simp at e
        | cons z zs ih =>
          intro vs i h r e
          obtain ⟨v, us, e1, h1, h2⟩ := r
          subst e1
          cases i with
          | zero => simp at e; subst e; exact ⟨v, rfl, h1⟩
          | succ i =>
            obtain ⟨u, u1, u2⟩ := ih h2 (i := i) (by simpa using e)
            exact ⟨u, by simpa using u1, u2⟩
      cases q : hs[i]? with
      | none => rw [q] at e; cases e
      | some z =>
        rw [q] at e
        cases e
        obtain ⟨v, h1, h2⟩ := key r q
        refine ⟨v, ?_, h2⟩
        unfold start
        rw [List.getElem?_append_left (by rw [List.length_map, hreps_len r]; exact hi), List.getElem?_map, h1]
        rfl
    · rw [List.getElem?_append_right (by simpa using hi), List.getElem?_replicate] at e
      split at e <;> cases e
theorem take_js (F : Fit K Z Xo js H [] [] J) (s : Stp J.length js js' H H') : js'.take J.length = js := by
  rw [← F.len]; exact (List.prefix_iff_eq_take.mp s.pre).symm
theorem take_jsR (F : Fit K Z Xo js H [] [] J) (s : StpR J.length js js' H H') : js'.take J.length = js := by
  have hl := F.len
  apply List.ext_getElem?
  intro m
  by_cases hm : m < J.length
  · rw [List.getElem?_take_of_lt hm, List.getElem?_eq_getElem (show m < js.length by omega)]
    exact s.pre m _ hm (List.getElem?_eq_getElem _)
  · rw [List.getElem?_eq_none (by rw [List.length_take]; omega), List.getElem?_eq_none (by omega)]
theorem drop_fresh (Fi : Fit K Z Xo js H [] [] J) {Z' : List Zx} (F' : Fit K Z' Xo js' H' [] [] J') (s : StpR J.length js js' H H') {p : Addr} (hp : p ∈ js'.drop J.length) : p ∉ js := fun z => by
  have ej := take_jsR Fi s
  have hn := F'.nd
  rw [← List.take_append_drop J.length js', List.nodup_append] at hn
  exact hn.2.2 p (by rw [ej]; exact z) p hp rfl
/-- a def's promise, by its body -/
theorem fn_ok {x qual : Str} {st : Stmt} {f : Addr} {fd : FuncData} {N ps : List Str} {k : Nat} {g : SF} (F : Fun K x qual st f fd) (S : FnScope N ps (defScope st))
    (hb : ∀ (cdv : Value) (A : Around) (outer : List Env) (s : Shared) (H : Hp) (E : XK) (n0 : Nat), Room k (A.deeper (envOfC qual (defScope st) s.heap.objs.size f cdv)) →
      PSs (cxOf (L2.CX P w) P w K mg base N qual (defScope st) f cdv A outer s H E) (defBody st) (tS K [] (fun cls d _ H => E cls d H) n0 g)) : FnOk P w K mg base (L2.CX P w) (k + 1) f fd ps (spF K ps.length (mkF N.length g)) := by
  refine F.okX S spF_len fun cdv A outer s H vs Q E hr h => ?_
  obtain ⟨Xo, js, J, hs, Fi, hl, hrr, pc⟩ := h
  refine ⟨_, hb cdv A outer s H E J.length hr, Xo, js, startE N.length hs, J, fit_start Fi hrr, ?_⟩
  have pc : PostC K [] Xo js H Q E (endR J.length (g J.length (startE N.length hs) J)) := pc
  cases r : g J.length (startE N.length hs) J with
  | stuck => rw [r] at pc; exact pc
  | bk e1 J1 => rw [r] at pc; exact pc.elim
  | ct e1 J1 => rw [r] at pc; exact pc.elim
  | nx e1 J1 =>
    rw [r] at pc
    intro σ' H' js' s F'
    have pc : PostC K [] Xo js H Q E (if J.length ≤ J1.length then .ok (.val .non) (J1.take J.length) else .stuck) := pc
    by_cases hn : J.length ≤ J1.length
    · rw [if_pos hn] at pc
      have G := F'.bare.trim J.length
      rw [take_js Fi s] at G
      exact pc .non H' s.ext ⟨G, mk_non (K := K) (H := H') (Y := Yf Xo js)⟩
    · rw [if_neg hn] at pc; exact pc.elim
  | err c fs e1 J1 =>
    rw [r] at pc
    intro cls od σ' H' js' x s F'
    have pc : PostC K [] Xo js H Q E (if J.length ≤ J1.length then .err c fs (J1.take J.length) else .stuck) := pc
    by_cases hn : J.length ≤ J1.length
    · rw [if_pos hn] at pc
      have G := F'.bare.trim J.length
      have ej := take_js Fi s
      rw [ej] at G
      obtain ⟨C, c1, c2, d, us, d1, d2, d3, d4⟩ := x
      refine pc cls od H' ⟨C, c1, c2, d, us, d1, d2, d3, ?_⟩ s.ext G
      exact reps_move (fun _ _ e _ => e) (fun a y => .inl (y.elim .inl fun y => .inr (by rw [← ej] at y; exact List.mem_of_mem_take y))) F'.lists _ _ d4
    · rw [if_neg hn] at pc; exact pc.elim
  | rt h J1 =>
    rw [r] at pc
    intro v H' js' s o
    have pc : PostC K [] Xo js H Q E (if J.length ≤ J1.length then outH J.length J1 h else .stuck) := pc
    by_cases hn : J.length ≤ J1.length
    · rw [if_pos hn] at pc
      have ej := take_jsR Fi s
      have yy : ∀ a, Yf Xo js a → Yf Xo js' a := fun a y => y.elim .inl fun y => .inr (by rw [← ej] at y; exact List.mem_of_mem_take y)
      cases h with
      | val d =>
        have G := o.1.trim J.length
        rw [ej] at G
        exact pc v H' s.ext ⟨G, rep_move (fun _ _ e _ => e) (fun a y => .inl (yy a y)) o.1.lists _ _ o.2⟩
      | new ds =>
        obtain ⟨q, us, a1, a2, a3, a4, a5⟩ := o
        have G := a4.trim J.length
        rw [ej] at G
        refine pc v H' s.ext ⟨q, us, a1, a2, a3, G, reps_move (fun _ _ e _ => e) (fun a y => .inl ?_) a4.lists _ _ a5⟩
        rcases y with y | y
        · exact .inl y
        · rw [← ej] at y; exact .inr (List.mem_of_mem_take y)
      | exc m =>
        obtain ⟨_, a, ha, _⟩ := o
        simp at ha
      | newB cs m =>
        obtain ⟨ps, a1, a2, a3, a4⟩ := o
        have G := a1.trim J.length
        rw [ej] at G
        have ejs : js ++ (js'.drop J.length ++ ps) = js' ++ ps := by have z := List.take_append_drop J.length js'; rw [ej] at z; rw [← List.append_assoc, z]
        have eJ : J1.take J.length ++ (J1.drop J.length ++ cs) = J1 ++ cs := by rw [← List.append_assoc, List.take_append_drop]
        refine pc v H' s.ext ⟨js'.drop J.length ++ ps, G, fun p hp => ?_, ?_, ?_⟩
        · rcases List.mem_append.mp hp with hp | hp
          · exact (s.new p (List.mem_of_mem_drop hp)).resolve_left (drop_fresh Fi a1 s hp)
          · exact a2 p hp
        · rw [ejs]; exact a3
        · rw [ejs, eJ]; exact a4
      | jar m =>
        obtain ⟨F', a, ha, e⟩ := o
        have G := F'.trim J.length
        rw [ej] at G
        have pc : PostC K [] Xo js H Q E (if m < J.length then .ok (.jar m) (J1.take J.length) else match J1[m]? with
          | some ds => if ds.all isP = true then .ok (.new ds) (J1.take J.length) else .ok (.newB (J1.drop J.length) m) (J1.take J.length)
          | none => .stuck) := pc
        by_cases hm : m < J.length
        · rw [if_pos hm] at pc
          exact pc v H' s.ext ⟨G, a, by rw [← ej, List.getElem?_take_of_lt hm]; exact ha, e⟩
        · rw [if_neg hm] at pc
          obtain ⟨ds, us, hJ, hl, rs⟩ := F'.at ha
          rw [hJ] at pc
          have pc : PostC K [] Xo js H Q E (if ds.all isP = true then .ok (.new ds) (J1.take J.length) else .ok (.newB (J1.drop J.length) m) (J1.take J.length)) := pc
          by_cases hpl : ds.all isP = true
          case neg =>
            rw [if_neg hpl] at pc
            have ejs : js ++ js'.drop J.length = js' := by have z := List.take_append_drop J.length js'; rw [ej] at z; exact z
            refine pc v H' s.ext ⟨js'.drop J.length, G, fun p hp => (s.new p (List.mem_of_mem_drop hp)).resolve_left (drop_fresh Fi F' s hp), ?_, ?_⟩
            · rw [ejs]; exact ⟨a, ha, e⟩
            · rw [ejs, List.take_append_drop]; exact F' 
          rw [if_pos hpl] at pc
          have rs := repsC_reps rs hpl
          have haj : a ∉ js := fun z => by
            obtain ⟨i, hi, ei⟩ := List.getElem_of_mem z
            have h1 : js'[i]? = some a := by
              have : (js'.take J.length)[i]? = some a := by rw [ej, List.getElem?_eq_getElem hi, ei]
              rw [List.getElem?_take_of_lt (by rw [← Fi.len]; exact hi)] at this
              exact this
            obtain ⟨b1, c1⟩ := List.getElem?_eq_some_iff.mp h1
            obtain ⟨b2, c2⟩ := List.getElem?_eq_some_iff.mp ha
            have := (List.getElem_inj F'.nd).mp (c1.trans c2.symm)
            rw [Fi.len] at hi
            omega
          have hnone : H a = none := (s.new a (List.mem_of_getElem? ha)).resolve_left haj
          have yw : ∀ b, Yf (With Xo a) js b → Yf Xo js' b := fun b y => by
            rcases y with (y | y) | y
            · exact .inl y
            · exact .inr (y ▸ List.mem_of_getElem? ha)
            · exact yy b (.inr y)
          refine pc v H' s.ext ⟨a, us, e, hnone, hl, ⟨fun b y => F'.lists b (yw b (.inl y)), G.nd, fun b hb y => ?_, G.len, rfl, fun k b ds' h1 h2 => ?_, fun i h e => (by simp at e), fun z hz => (by simp at hz)⟩, reps_move (fun _ _ e _ => e) (fun b y => .inl (yw b y)) F'.lists _ _ rs⟩
          · rcases y with y | y
            · exact G.jx b hb y
            · exact haj (y ▸ hb)
          · have hk : k < J.length := by rw [← Fi.len]; exact (List.getElem?_eq_some_iff.mp h1).1
            rw [← ej, List.getElem?_take_of_lt hk] at h1
            rw [List.getElem?_take_of_lt hk] at h2
            obtain ⟨zs, z1, z2⟩ := F'.jar k b ds' h1 h2
            exact ⟨zs, z1, repsC_moveJ (fun _ _ e _ => e) (fun b y => .inl (yw b y)) F'.lists (fun m b hm e => by rw [← ej, List.getElem?_take_of_lt (by omega)]; exact e) z2⟩
    · rw [if_neg hn] at pc; exact pc.elim
end
end L2.Pz
set_option Elab.async false
set_option linter.all false
set_option maxRecDepth 100000
set_option maxHeartbeats 4000000
set_option autoImplicit false
namespace PySem.PzW
open Sem (wp)
set_option maxHeartbeats 8000000 in
theorem meets_enumerate_newB1 {v : Value} {o : Obj} {H : Heap → Prop} (B : Begins v o H) :
    Meets (Builtin.«enumerate.__new__» ⟨[.type "enumerate", v], []⟩) (fun _ R s => H s.heap ∧
      R (.ok (.ret (.ref (s.heap.push o).objs.size))) { s with heap := (s.heap.push o).push { cls := .type "enumerate", data := .fields #[.none, .bool false, .ref s.heap.objs.size, rawInt 0, .none, .none] } }) :=
  .of_wp fun prog w A R s h => by
    obtain ⟨hp, g, d, tk, os⟩ := s; obtain ⟨h1, h⟩ := h
    have hsub := sub_enumerate
    have q1 : ∀ {A' : Around} {E : Value → Shared → Prop} {Q : Value → Shared → Prop}, Q (.ref hp.objs.size) ⟨hp.push o, g, d, tk, os⟩ → wpAny (model prog w) A' (pyIter v) Q E ⟨hp, g, d, tk, os⟩ :=
      fun q => B.iter prog w _ _ ⟨hp, g, d, tk, os⟩ _ h1 q
    wp_walk using q1
    refine wpAny_stack_any fun st => wpAny_pure ?_
    split
    · rename_i c _ _ _ _ _
      cases (c == Value.type "enumerate")
      · wp_walk using q1
        exact ⟨_, rfl, h⟩
      · wp_walk using q1
        exact ⟨_, rfl, h⟩
    · wp_walk using q1
      exact ⟨_, rfl, h⟩
section
variable {prog : Program} {w : World} {A : Around} {E : Value → Shared → Prop} {s : Shared}
theorem enum_begins1 {v : Value} {o : Obj} {H : Heap → Prop} {Q : Value → Shared → Prop} (B : Begins v o H) (h1 : H s.heap)
    (h : ∀ h', IsEnum h' (s.heap.objs.size + 1) s.heap.objs.size 0 .none → h'.get? s.heap.objs.size = some o → h'.objs.size = s.heap.objs.size + 2 →
      (∀ b o, s.heap.get? b = some o → h'.get? b = some o) → Q (.ref (s.heap.objs.size + 1)) { s with heap := h' }) :
    wpAny (model prog w) A (call (.type "enumerate") [v]) Q E s := by
  refine callType_new F.called_enumerate (by decide) (F.typeCall_enumerate_1 _) (F.newCall_enumerate_1 _) (fun obj => F.args_object_init_2 obj _) F.entry_enumerate_new
    (meets_enumerate_newB1 B) ⟨h1, ?_⟩
  have hz : (s.heap.push o).objs.size = s.heap.objs.size + 1 := Heap.size_push ..
  show _ ∧ _
  rw [hz]
  have he : IsEnum ((s.heap.push o).push { cls := .type "enumerate", data := .fields #[.none, .bool false, .ref s.heap.objs.size, rawInt 0, .none, .none] }) (s.heap.objs.size + 1) s.heap.objs.size 0 .none := by
    have := Heap.get?_push_size (s.heap.push o) (o := { cls := .type "enumerate", data := .fields #[.none, .bool false, .ref s.heap.objs.size, rawInt 0, .none, .none] }) rfl
    rw [hz] at this; exact this
  refine ⟨⟨_, he, rfl⟩, h _ he (Heap.get?_push_of_some _ (Heap.get?_push_size _ B.free)) (by rw [Heap.size_push, hz]) fun b o x => Heap.get?_push_of_some _ (Heap.get?_push_of_some _ x)⟩
end
end PySem.PzW
namespace L2.Pz
open PySem PySem.Spec PyProof.Rows
/-- pairs of a place and an item; what is walked stands while ok holds -/
def Itp (ok : Hp → Prop) (vs : List V) : It :=
  ⟨fun i H => ok H ∧ i < vs.length, fun i H v H' => ∃ T x, v = .ref T ∧ H T = none ∧ H' = upd H T (.tup [.int (i : Nat), x]) ∧ vs[i]? = some x, fun i H => ok H ∧ i = vs.length⟩
/-- enumerate over an iterator that draws -/
theorem turn_enumD {P : Program} {w : World} {K : PySem.W.Frag} {elts : List Expr} {kk : Nat} {tpos : Pos} {ok : Hp → Prop} {vs : List V} {St' : Nat → Heap → Prop} (e it : Addr)
    (hobj : ∀ i h, St' i h → ∃ o, h.get? it = some o ∧ ∀ v, o.data ≠ .cell v) (hkeep : ∀ i h h', St' i h → (∀ o, h.get? it = some o → h'.get? it = some o) → St' i h')
    (hst : ∀ (X : Cx) (pins : List (Addr × Obj)) (σ : L2.St) (H : Hp) (s : Shared) (i : Nat), X.prog = P → X.w = w → X.K = K → Inv X pins σ H s → ok H → St' i s.heap → X.A.handled = none →
      ∃ (St : Nat → Heap → Prop) (Pv : Nat → Value → Prop) (fp : List Addr), e ∉ fp ∧ St i s.heap ∧ (∀ j h, St j h → St' j h) ∧ (∀ j u, Pv j u → ∃ x, vs[j]? = some x ∧ RelV x u) ∧ Draws X.prog X.w X.A.in1 it fp vs.length Pv St) :
    Turn P w K (.Tuple elts kk tpos) (Itp ok vs) [e, it] e (fun i h => (∃ old, IsEnum h e it ((i : Nat) : Int) old) ∧ St' i h ∧ e ≠ it) where
  mem := by simp
  obj := fun i h st b hb => by
    obtain ⟨⟨old, he⟩, hs, _⟩ := st
    have e' : b = e ∨ b = it := by simpa using hb
    rcases e' with z | z
    · rw [z]; exact ⟨_, he, fun v q => nomatch q⟩
    · rw [z]; exact hobj i h hs
  keep := fun i h h' st k => let ⟨⟨old, he⟩, hs, hne⟩ := st; ⟨⟨old, k e (by simp) _ he⟩, hkeep i h h' hs fun o q => k it (by simp) o q, hne⟩
  item := by
    intro X hP hw hK hc i pins s σ H E I hf st hg
    have hh := I.ok.hd hc
    obtain ⟨⟨old, he⟩, hs', hne⟩ := st
    obtain ⟨St, Pv, fp, hfp, hs, hdown, hv, Dr⟩ := hst X pins σ H s i hP hw hK I hg.1 hs' hh
    subst hP hw hK
    have hel : e < s.heap.objs.size := Heap.lt_size he
    have hil : it < s.heap.objs.size := by obtain ⟨_, q⟩ := Dr.live _ _ hs; exact Heap.lt_size q
    refine wpAny_pyNext_enum_itemD Dr he hs hg.2 hne hfp fun u h' tk hp ho hit' hT hsz hk => ?_
    obtain ⟨x, hx, ru⟩ := hv i u hp
    refine ⟨_, rfl, wpAny_letOwnedTupleGo_enum (s := { s with heap := h', toks := tk + 1 }) ho fun h'' he' sb => ?_⟩
    have hT2 : h''.get? s.heap.objs.size = some { cls := .type "tuple", data := .seq #[.int i tk, u] } := (sb.2 _ (Nat.ne_of_gt hel)).trans hT
    have new : ObjOk X.prog X.w (upd H s.heap.objs.size (.tup [.int (i : Nat), x])) h'' s.heap.objs.size (.tup [.int (i : Nat), x]) :=
      ⟨by show 2 ≤ sizeLine; decide, [.int i tk, u], .cons ⟨_, rfl⟩ (.cons ru .nil), ⟨_, hT2, rfl, _, rfl⟩⟩
    have I1 : Inv X pins σ (upd H s.heap.objs.size (.tup [.int (i : Nat), x])) { s with heap := h'', toks := tk + 1 } :=
      I.turnedNew (ch := [e, it]) (fun b ob hb q => (sb.2 b (fun z => hb (by simp [z]))).trans (hk b ob (fun z => hb (by simp [z])) (fun z => hb (by simp [z])) q)) hf (Nat.le_refl _) new
    refine ⟨.ref s.heap.objs.size, _, I1, rfl, ⟨_, x, rfl, I.hok.fresh (Nat.le_refl _), rfl, hx⟩, ⟨⟨u, ?_⟩, hkeep _ _ _ (hdown _ _ hit') fun o q => (sb.2 it (Ne.symm hne)).trans q, hne⟩, fun b hb => ?_⟩
    · have e1 : ((i + 1 : Nat) : Int) = (i : Int) + 1 := by omega
      rw [e1]; exact he'
    · have hb' : b < s.heap.objs.size := by
        have e' : b = e ∨ b = it := by simpa using hb
        rcases e' with z | z
        · rw [z]; exact hel
        · rw [z]; exact hil
      rw [upd_ne (Nat.ne_of_lt hb')]
      exact (hf b hb).1
  done := by
    intro X hP hw hK hc i pins s σ H E I hf st hg
    have hh := I.ok.hd hc
    obtain ⟨⟨old, he⟩, hs', hne⟩ := st
    obtain ⟨St, Pv, fp, hfp, hs, hdown, hv, Dr⟩ := hst X pins σ H s i hP hw hK I hg.1 hs' hh
    subst hP hw hK
    obtain ⟨f0, f1, f2, f3, f4, f5⟩ := hf it (by simp)
    have hi : i = vs.length := hg.2
    subst hi
    exact wpAny_pyNext_enum_endD Dr he hs fun h' eb => ⟨rfl, I.turned (t' := s.toks) (fun b o hb q => eb b o hb q) f0 f1 f3 f4 f5⟩
  self := fun A i s Q E st h => let ⟨⟨_, he⟩, _⟩ := st; wpAny_pyIter_enum he h
section
variable {X : Cx} {elts : List Expr} {kk : Nat} {tpos : Pos} {e : Expr} {te : TE} {p pos : Pos} {Z : List Zx}
def iEnumT (K : PySem.W.Frag) (tl : TE) : TI := fun σ H R => tl σ H fun x H1 => (∃ a xs, x = .ref a ∧ SqL K H1 a xs ∧ R (Ite K a) H1) ∨ (∃ a xs, x = .ref a ∧ SqT K H1 a xs ∧ R (Itp (fun H => SqT K H a xs) xs) H1) ∨ ∃ z, x = .str z ∧ R (Itp (fun _ => True) (z.cps.toList.map fun c => V.str ⟨#[c]⟩)) H1
theorem tuple_ne {h : Heap} {a it : Addr} {items : Array Value} {i : Nat} (ht : h.IsTuple a items) (hi : h.IsTupleIter it a i) : a ≠ it := by
  intro z
  subst z
  obtain ⟨o, h1, h2, _⟩ := ht
  obtain ⟨o', h1', h2', _⟩ := hi
  rw [h1] at h1'; cases h1'
  rw [h2] at h2'
  injection h2' with e
  exact absurd e (by decide)
theorem pi_enumT (he : PE X e te) (hg : Gl X "enumerate") (hm : X.mg "enumerate" = none) (h1 : starEach [e] X.env = (false, eval e X.env) :: starEach [] X.env) : PI X (.Tuple elts kk tpos) (.Call (.Name "enumerate" p) [e] [] pos) (iEnumT X.K te) := by
  refine ⟨fun pins s σ H R I h => ?_⟩
  refine Call_ (ld_blt I hg hm boot_enumerate (PyProof.Rows.callWith_type1 (one_arg he I h (fun v s1 x H1 I1 r1 q1 => ?_) h1) h1))
  have fin : ∀ (h' : Heap) (J : It) (tn : Nat → Heap → Prop), Turn X.prog X.w X.K (.Tuple elts kk tpos) J [s1.heap.objs.size + 1, s1.heap.objs.size] (s1.heap.objs.size + 1) tn → tn 0 h' → (∀ b o, s1.heap.get? b = some o → h'.get? b = some o) → R J H1 →
      IsEnum h' (s1.heap.objs.size + 1) s1.heap.objs.size 0 .none → wpAny (model X.prog X.w) X.A (pyIter (.ref (s1.heap.objs.size + 1))) (PIE X pins σ (.Tuple elts kk tpos) R) X.xe { s1 with heap := h' } := fun h' J tn T st hk q hen => by
    refine wpAny_pyIter_enum hen ?_
    have I2 : Inv X pins σ H1 { s1 with heap := h' } := I1.kept (t' := s1.toks) hk
    refine ⟨s1.heap.objs.size + 1, [s1.heap.objs.size + 1, s1.heap.objs.size], _, J, H1, rfl, I2, T, st, fun b hb => ?_, q⟩
    have e' : b = s1.heap.objs.size + 1 ∨ b = s1.heap.objs.size := by simpa using hb
    have hle : s1.heap.objs.size ≤ b := by
      rcases e' with z | z
      · rw [z]; exact Nat.le_add_right _ _
      · rw [z]; exact Nat.le_refl _
    exact I1.fpOk hle (I1.hok.fresh hle)
  rcases q1 with ⟨a, xs, ex, hq, q⟩ | ⟨a, xs, ex, hq, q⟩ | ⟨z, ex, q⟩
  · subst ex
    cases r1
    obtain ⟨its, rv, p', hz⟩ := I1.list hq
    exact call_enumerate_list p'.isList fun h' he hit hsz hk => fin h' _ _ (turn_enum a (s1.heap.objs.size + 1) s1.heap.objs.size) ⟨⟨.none, he⟩, hit, Nat.succ_ne_self _⟩ hk q he
  · subst ex
    cases r1
    obtain ⟨its, rv, p', hz⟩ := I1.tuple hq
    refine PzW.enum_begins1 (begins_tuple a its.toArray) (show s1.heap.IsTuple a its.toArray from p') fun h' he hit hsz hk => ?_
    have hlt : a < s1.heap.objs.size := p'.lt
    refine fin h' _ _ (turn_enumD (ok := fun H => SqT X.K H a xs) (vs := xs) (St' := fun i h => h.IsTupleIter s1.heap.objs.size a i) (s1.heap.objs.size + 1) s1.heap.objs.size ?_ ?_ ?_)
      ⟨⟨.none, he⟩, ⟨_, hit, rfl, rfl⟩, Nat.succ_ne_self _⟩ hk q he
    · intro i h st
      obtain ⟨o, ho, hc, hd⟩ := st
      exact ⟨o, ho, fun v q => by rw [hd] at q; cases q⟩
    · intro i h h' st k
      exact st.at k
    · intro X' pins' σ' H' s' i hP hw hK I' hok st hh
      obtain ⟨its', rv', p2, hz'⟩ := I'.tuple (a := a) (xs := xs) (by rw [hK]; exact hok)
      refine ⟨fun i h => h.IsTupleIter s1.heap.objs.size a i ∧ h.IsTuple a its'.toArray, fun i v => its'.toArray[i]? = some v, [s1.heap.objs.size, a], ?_, ⟨st, p2⟩, fun _ _ z => z.1, ?_, ?_⟩
      · intro z
        have z' : s1.heap.objs.size + 1 = s1.heap.objs.size ∨ s1.heap.objs.size + 1 = a := by simpa using z
        rcases z' with z | z
        · exact absurd z (Nat.succ_ne_self _)
        · exact absurd hlt (by rw [← z]; exact Nat.not_lt.mpr (Nat.le_succ _))
      · intro i u hu
        have hu' : its'[i]? = some u := by simpa using hu
        have hi : i < xs.length := by rw [rv'.length]; exact (List.getElem?_eq_some_iff.mp hu').1
        obtain ⟨u', e1, r⟩ := rv'.get (List.getElem?_eq_getElem hi)
        rw [hu'] at e1; cases e1
        exact ⟨_, List.getElem?_eq_getElem hi, r⟩
      · have := Draws.tuple (prog := X'.prog) (w := X'.w) (A := X'.A.in1) (show X'.A.in1.handled = none from hh) s1.heap.objs.size a (tuple_ne (show s'.heap.IsTuple a its'.toArray from p2) st) its'.toArray
        have el : its'.toArray.size = xs.length := by rw [List.size_toArray, rv'.length]
        rw [el] at this
        exact this
  · subst ex
    obtain ⟨t, rfl⟩ := r1
    refine PzW.enum_begins1 (begins_text z t) trivial fun h' he hit hsz hk => ?_
    refine fin h' _ _ (turn_enumD (ok := fun _ => True) (vs := z.cps.toList.map fun c => V.str ⟨#[c]⟩) (St' := fun i h => h.IsStrIter s1.heap.objs.size (strIterType z) z t i) (s1.heap.objs.size + 1) s1.heap.objs.size ?_ ?_ ?_)
      ⟨⟨.none, he⟩, ⟨_, hit, rfl, rfl⟩, Nat.succ_ne_self _⟩ hk q he
    · intro i h st
      obtain ⟨o, ho, hc, hd⟩ := st
      exact ⟨o, ho, fun v q => by rw [hd] at q; cases q⟩
    · intro i h h' st k
      obtain ⟨o, ho, r⟩ := st
      exact ⟨o, k o ho, r⟩
    · intro X' pins' σ' H' s' i hP hw hK I' hok st hh
      refine ⟨_, fun i v => ∃ c u, z.cps[i]? = some c ∧ v = .str ⟨#[c]⟩ u, [s1.heap.objs.size], by simp, st, fun _ _ z => z, ?_, ?_⟩
      · rintro i u ⟨c, u', hc, rfl⟩
        exact ⟨.str ⟨#[c]⟩, by rw [List.getElem?_map]; simp [hc], ⟨u', rfl⟩⟩
      · have e0 : (z.cps.toList.map fun c => V.str ⟨#[c]⟩).length = z.cps.size := by simp
        rw [e0]
        exact Draws.text (A := X'.A.in1) (show X'.A.in1.handled = none from hh) _ z t
end
/-! ### enumerate over data -/
def pairUp : Nat → List D → List D
  | _, [] => []
  | i, d :: ds => .tup [.int (i : Nat), d] :: pairUp (i + 1) ds
theorem pairUp_len : ∀ (ds : List D) (k : Nat), (pairUp k ds).length = ds.length
  | [], _ => rfl
  | d :: ds, k => by unfold pairUp; rw [List.length_cons, List.length_cons, pairUp_len ds]
theorem pairUp_get : ∀ (ds : List D) (k i : Nat) (d : D), ds[i]? = some d → (pairUp k ds)[i]? = some (.tup [.int ((k + i : Nat) : Int), d])
  | [], _, _, _, h => by simp at h
  | c :: ds, k, 0, d, h => by simp at h; subst h; rfl
  | c :: ds, k, i + 1, d, h => by
    have := pairUp_get ds (k + 1) i d (by simpa using h)
    unfold pairUp
    rw [List.getElem?_cons_succ, this]
    congr 4
    omega
def iEnumD (f : EF) : IF := fun env J => (f env J).bind fun h J1 => match itemsOf h with
  | some ds => .ok (pairUp 0 ds) J1
  | none => .stuck
section
variable {K : PySem.W.Frag} {H : Hp} {Y : Addr → Prop} {Z : List Zx}
theorem pair_rep {Y' : Addr → Prop} {i : Nat} {d : D} {x : V} {H1 : Hp} {T : Addr} (hl : ∀ a, Y' a → ∃ xs, H1 a = some (.lst xs)) (hT : H1 T = none) (r : Rep K H1 Y' d x) : Rep K (upd H1 T (.tup [.int (i : Nat), x])) Y' (.tup [.int (i : Nat), d]) (.ref T) :=
  rep_tup.mpr ⟨T, _, rfl, .of upd_same, reps_cons.mpr ⟨_, _, rfl, mk_int, reps_cons.mpr ⟨_, _, rfl, rep_move (fun a o e _ => same_upd hT _ _ e) (fun _ y => .inl y) hl _ _ r, reps_nil.mpr rfl⟩⟩⟩
theorem walkD_of {J : It} {ds : List D} {n : Nat} {G : Hp → Prop} {Yl : Nat → Hp → V → Hp → Prop} (hn : n = ds.length) (w : Walk J n G Yl) (hG : ∀ H1, Keeps Y H H1 → G H1)
    (hY : ∀ Y' : Addr → Prop, (∀ a, Y' a → Y a ∨ H a = none) → ∀ i H1 x H', i < ds.length → Keeps Y H H1 → Lists H1 Y' → Yl i H1 x H' → Same H1 H' ∧ ∃ d, ds[i]? = some d ∧ Rep K H' Y' d x) : WalkD K Y H J ds := by
  subst hn
  exact ⟨G, Yl, w, hG, hY⟩
theorem walkD_itp {ok : Hp → Prop} {vs : List V} {ds : List D} (hl : Lists H Y) (hok : ∀ H1, Keeps Y H H1 → ok H1) (r : Reps K H Y ds vs) : WalkD K Y H (Itp ok vs) (pairUp 0 ds) := by
  have hlen := reps_len r
  refine walkD_of (n := vs.length) (G := ok) (Yl := fun i H v H' => ∃ T x, v = .ref T ∧ H T = none ∧ H' = upd H T (.tup [.int (i : Nat), x]) ∧ vs[i]? = some x) (by rw [pairUp_len, hlen]) ⟨fun i H hi h => ⟨h, hi⟩, fun H h => ⟨h, rfl⟩, fun i H x H' _ _ y => y⟩ hok ?_
  rintro Y' hY i H1 x H' hi k l ⟨T, x', rfl, hT, rfl, hx⟩
  obtain ⟨d, h1, h2⟩ := reps_at r hx
  have := pairUp_get ds 0 i d h1
  rw [Nat.zero_add] at this
  exact ⟨same_upd hT, _, this, pair_rep l hT (rep_move k hY hl _ _ h2)⟩
theorem walkD_ite {a : Addr} {vs : List V} {ds : List D} (hl : Lists H Y) (s : LsY K H Y a vs) (r : Reps K H Y ds vs) : WalkD K Y H (Ite K a) (pairUp 0 ds) := by
  have hlen := reps_len r
  refine walkD_of (n := vs.length) (G := fun H => SqL K H a vs) (Yl := fun i H v H' => ∃ T x, v = .ref T ∧ H T = none ∧ H' = upd H T (.tup [.int (i : Nat), x]) ∧ vs[i]? = some x) (by rw [pairUp_len, hlen])
    ⟨fun i H hi h => ⟨vs, vs[i], h, List.getElem?_eq_getElem hi⟩, fun H h => ⟨vs, h, Nat.le_refl _⟩, fun i H x H' _ h y => ?_⟩ (fun H1 k => (lsY_move (Y' := Y) k (fun _ y => .inl y) s).sq) ?_
  · obtain ⟨T, x', e1, e2, e3, e4⟩ := y
    exact ⟨T, x', e1, e2, e3, e4 vs h⟩
  · rintro Y' hY i H1 x H' hi k l ⟨T, x', rfl, hT, rfl, hx⟩
    obtain ⟨d, h1, h2⟩ := reps_at r hx
    have := pairUp_get ds 0 i d h1
    rw [Nat.zero_add] at this
    exact ⟨same_upd hT, _, this, pair_rep l hT (rep_move k hY hl _ _ h2)⟩
theorem reps_chars {z : Str} : Reps K H Y (chars z) (z.cps.toList.map fun c => V.str ⟨#[c]⟩) := by
  unfold chars
  induction z.cps.toList with
  | nil => exact reps_nil.mpr rfl
  | cons c r ih => exact reps_cons.mpr ⟨_, _, rfl, mk_str, ih⟩
end
section
variable {X : Cx} {W : WX} {e : Expr} {f : EF} {p pos tpos : Pos} {elts : List Expr} {kk : Nat} {Z : List Zx}
theorem pw_enum (hg : Gl X "enumerate") (hm : X.mg "enumerate" = none) (he : PE X e (tD X.K Z W f)) (h1 : starEach [e] X.env = (false, eval e X.env) :: starEach [] X.env) : PI X (.Tuple elts kk tpos) (.Call (.Name "enumerate" p) [e] [] pos) (tW X.K Z W (iEnumD f)) := pi_mono (pi_enumT he hg hm h1) fun σ H Q ⟨Xo, js, env, J, F, p⟩ => by
  refine ⟨Xo, js, env, J, F, ?_⟩
  unfold iEnumD at p
  cases hf : f env J with
  | stuck => rw [hf] at p; exact p.elim
  | err c fs J1 => rw [hf] at p; exact p
  | ok h J1 =>
    rw [hf] at p
    intro x H1 e1 F1 x1
    have p : PostW X.K Z W Xo js H σ env Q (match itemsOf h with
      | some ds => .ok (pairUp 0 ds) J1
      | none => .stuck) := p
    have lst : ∀ ds, norm h = .val (.lst ds) → itemsOf h = some ds → (∃ a xs, x = .ref a ∧ SqL X.K H1 a xs ∧ Q (Ite X.K a) H1) := fun ds hn hi => by
      rw [hi] at p
      rw [hn] at x1
      obtain ⟨a, vs, e, s, r⟩ := rep_lst (K := X.K) (H := H1) (Y := Yf Xo js).mp x1
      exact ⟨a, vs, e, s.sq, p _ _ e1 F1 (walkD_ite F1.lists s r)⟩
    cases h with
    | jar k => exact p.elim
    | exc k => exact p.elim
    | newB _ _ => exact p.elim
    | new ds => exact .inl (lst ds rfl rfl)
    | val d =>
      cases d with
      | lst ds => exact .inl (lst ds rfl rfl)
      | tup ds =>
        obtain ⟨a, vs, e, s, r⟩ := rep_tup (K := X.K) (H := H1) (Y := Yf Xo js).mp x1
        exact .inr (.inl ⟨a, vs, e, s, p _ _ e1 F1 (walkD_itp F1.lists (fun H2 k => sqT_move k F1.lists s) r)⟩)
      | str z => exact .inr (.inr ⟨z, rep_str (K := X.K) (H := H1) (Y := Yf Xo js) x1, p _ _ e1 F1 (walkD_itp F1.lists (fun _ _ => trivial) reps_chars)⟩)
      | non => exact p.elim
      | lnk m => exact p.elim
      | bl b => exact p.elim
      | int b => exact p.elim
end

/-! ### calls by keywords alone -/
section
variable {X : Cx} {CX : CXT} {k : Nat} {f : Addr} {fd : FuncData} {ps ks : List Str} {sp : Sp} {E : XK} {x : Str} {p pos : Pos} {kws : List Keyword} {tk : TA} {g : List Value → List Value → List Value} {gV : List V → List V → List V} {Z : List Zx}
theorem pe_callK0 (F : FnOk X.prog X.w X.K X.mg X.base CX k f fd ps sp) (hr : Room k X.A) (hg : Gl X x) (hm : X.mg x = some (.ref f)) (hk : PySem.W.keepIn X.K (.ref f) = true) (hb : KBinds X.K fd ps ks g gV) (hx : Passes CX X E)
    (hkw : PK X kws tk) (hall : (backToKw pos (keywordEach kws X.env)).all (·.1.isSome) = true) (hks : (backToKw pos (keywordEach kws X.env)).filterMap (·.1) = ks)
    (hdb : (x == ("__debug__" : Str)) = false) (hpl : ((backTo pos (starEach [] X.env)).any (·.1) || (backToKw pos (keywordEach kws X.env)).any (·.1.isNone)) = false) :
    PE X (.Call (.Name x p) [] kws pos) (fun σ H Q => tk σ H fun zs H2 => sp (gV [] zs) H2 Q E) := by
  refine ⟨fun pins s σ H Q I h => ?_⟩
  refine wpAny_Call_Name_kw (ld_glob I hg hm ?_ hdb)
  refine PySem.W.callWith_KW0 (h₀ := X.base) I.ok.mod.kin hk hall (thn (hkw.run pos pins s σ H _ I h) fun ws s2 ⟨zs, H2, I2, rz, q2⟩ => ⟨I2.kIn, ?_⟩) hpl
  rw [hks]
  exact run_fnk (us := []) (vs := []) F hr hb hx I2 .nil rz q2
end
/-- the arguments by keyword put in the parameters' order -/
def permute {α : Type} (ix : List Nat) (xs : List α) : List α := ix.filterMap fun i => xs[i]?
def eCallK (F : FT) (ix : List Nat) (fs : List EF) : EF := fun env J => (eArgs fs env J).bind fun hs J1 => F (permute ix hs) J1
section
variable {X : Cx} {K : PySem.W.Frag} {H : Hp} {Y : Addr → Prop} {js : List Addr} {W : WX} {fs : List EF} {Z : List Zx}
theorem hreps_get : ∀ {hs : List HV} {vs : List V} {i : Nat}, HReps K Z H Y js hs vs → (∀ h, hs[i]? = some h → ∃ v, vs[i]? = some v ∧ HRep K Z H Y js h v) ∧ (hs[i]? = none → vs[i]? = none)
  | [], vs, i, r => by unfold HReps at r; subst r; exact ⟨fun h e => by simp at e, fun _ => by simp⟩
  | z :: zs, vs, 0, r => by
    obtain ⟨v, us, e, h1, h2⟩ := r
    subst e
    exact ⟨fun h e => by simp at e; subst e; exact ⟨v, rfl, h1⟩, fun e => by simp at e⟩
  | z :: zs, vs, i + 1, r => by
    obtain ⟨v, us, e, h1, h2⟩ := r
    subst e
    simpa using hreps_get (i := i) h2
theorem hreps_permute {hs : List HV} {vs : List V} (r : HReps K Z H Y js hs vs) : ∀ ix : List Nat, HReps K Z H Y js (permute ix hs) (permute ix vs)
  | [] => rfl
  | i :: ix => by
    have ih := hreps_permute r ix
    have q := hreps_get (i := i) r
    unfold permute at ih ⊢
    cases e : hs[i]? with
    | none => rw [List.filterMap_cons_none e, List.filterMap_cons_none (q.2 e)]; exact ih
    | some h =>
      obtain ⟨v, e1, h1⟩ := q.1 h e
      rw [List.filterMap_cons_some e, List.filterMap_cons_some e1]
      exact ⟨v, _, rfl, h1, ih⟩
theorem permute_len {α : Type} {xs : List α} : ∀ ix : List Nat, (∀ i ∈ ix, i < xs.length) → (permute ix xs).length = ix.length
  | [], _ => rfl
  | i :: ix, h => by
    have ih := permute_len ix fun j hj => h j (List.mem_cons_of_mem _ hj)
    unfold permute at ih ⊢
    rw [List.filterMap_cons_some (List.getElem?_eq_getElem (h i List.mem_cons_self)), List.length_cons, List.length_cons, ih]
theorem callK_read {n : Nat} {F : FT} {t : TA} {ix : List Nat} (hn : ∀ i ∈ ix, i < fs.length) (hx : ix.length = n) (m : ∀ σ H Q, tH X.K Z W fs σ H Q → t σ H Q) {σ : L2.St} {H : Hp} {Q : VK} {E : XK} (hE : ∀ cls od H, W cls od σ H → E cls od H) (w : tN X.K Z W (eCallK F ix fs) σ H Q) :
    t σ H fun vs H1 => spF X.K n F (permute ix vs) H1 Q E := by
  obtain ⟨Xo, js, env, J, Fi, p⟩ := w
  refine m _ _ _ ⟨Xo, js, env, J, Fi, ?_⟩
  unfold eCallK at p
  cases hf : eArgs fs env J with
  | stuck => rw [hf] at p; exact p.elim
  | err c fs J1 => rw [hf] at p; exact p
  | ok hs J1 =>
    rw [hf] at p
    intro vs H1 e1 F1 r1
    have hl : (permute ix hs).length = n := by rw [permute_len ix (by rw [eArgs_len hf]; exact hn), hx]
    refine ⟨Xo, js, J1, permute ix hs, F1.bareZ, hl, hreps_permute r1 ix, ?_⟩
    have p : PostN X.K Z W Xo js H σ env Q (F (permute ix hs) J1) := p
    cases hr : F (permute ix hs) J1 with
    | stuck => rw [hr] at p; exact p.elim
    | err c fs J2 => rw [hr] at p; exact fun cls od H2 x e2 G => hE _ _ _ (p cls od H2 x (e1.trans e2) (F1.renew e2 (fun _ h => .inl h) G))
    | ok h J2 =>
      rw [hr] at p
      intro v H2 e2 o
      refine p v H2 (e1.trans e2) ?_
      cases h with
      | val d => exact ⟨F1.renew e2 (fun _ h => .inl h) o.1, o.2⟩
      | jar k => exact ⟨F1.renew e2 (fun _ h => .inl h) o.1, o.2⟩
      | exc k =>
        obtain ⟨_, a, ha, _⟩ := o
        simp at ha
      | newB xs ds =>
        obtain ⟨ps, a1, a2, a3⟩ := o
        exact ⟨ps, F1.renew e2 (fun _ h => .inl h) a1, fun p hp => none_back e1 F1.lists (a2 p hp), a3⟩
      | new ds =>
        obtain ⟨q, us, a1, a2, a3, a4, a5⟩ := o
        exact ⟨q, us, a1, none_back e1 F1.lists a2, a3, F1.renew e2 (fun a h => h.elim .inl fun z => .inr (z ▸ a2)) a4, a5⟩
/-- the keywords' values -/
theorem pk_nilD : PK X [] (tH X.K Z W []) := ⟨fun pos pins s σ H Q I ⟨Xo, js, env, J, F, p⟩ => pk_nil.run pos pins s σ H Q I (p [] H .refl F rfl)⟩
theorem pk_consD {e : Expr} {f : EF} {nm : Option Str} {kpos : Pos} {kws : List Keyword} (ha : PE X e (tD X.K Z W f)) (hb : PK X kws (tH X.K Z W fs)) : PK X (⟨nm, e, kpos⟩ :: kws) (tH X.K Z W (f :: fs)) :=
  ⟨fun pos pins s σ H Q I ⟨Xo, js, env, J, F, p⟩ => (pk_cons ha hb).run pos pins s σ H Q I (by
    refine ⟨Xo, js, env, J, F, ?_⟩
    unfold eArgs at p
    cases hf : f env J with
    | stuck => rw [hf] at p; exact p.elim
    | err c fs J1 => rw [hf] at p; exact p
    | ok h J1 =>
      rw [hf] at p
      intro x H1 e1 F1 x1
      refine ⟨Xo, js, env, J1, F1, ?_⟩
      have p : PostH X.K Z W Xo js H σ env Q ((eArgs fs env J1).bind fun hs J2 => if isExc h = true then .stuck else .ok (norm h :: hs) J2) := p
      cases hg : eArgs fs env J1 with
      | stuck => rw [hg] at p; exact p.elim
      | err c fs J2 => rw [hg] at p; exact p.later e1
      | ok ds J2 =>
        rw [hg] at p
        intro vs H2 e2 F2 r2
        have p : PostH X.K Z W Xo js H σ env Q (if isExc h = true then .stuck else .ok (norm h :: ds) J2) := p
        by_cases hz : isExc h = true
        · rw [if_pos hz] at p; exact p.elim
        rw [if_neg hz] at p
        exact p (x :: vs) H2 (e1.trans e2) F2 ⟨x, vs, rfl, hrep_drop hz (x1.ext F1 e2), r2⟩)⟩
theorem vals_permute {vs : List V} {us : List Value} (r : Vals vs us) : ∀ ix : List Nat, Vals (permute ix vs) (permute ix us)
  | [] => .nil
  | i :: ix => by
    have ih := vals_permute r ix
    unfold permute at ih ⊢
    cases e : vs[i]? with
    | none => rw [List.filterMap_cons_none e, List.filterMap_cons_none (Vals.none_of r e)]; exact ih
    | some v =>
      obtain ⟨u, e1, h1⟩ := r.get e
      rw [List.filterMap_cons_some e, List.filterMap_cons_some e1]
      exact .cons h1 ih
/-- how such a call binds -/
theorem kbinds_mk {K : PySem.W.Frag} {x qual : Str} {st : Stmt} {f : Addr} {fd : FuncData} {ps ks : List Str} {ix : List Nat} (F : Fun K x qual st f fd)
    (h : ∀ (kV doc pm : Value) (an : Option Addr) (cdv ct : Value) (ws : List Value), (permute ix ws).length = ps.length → bindArgs (PySem.W.fnOf x qual (defArgs st) (defBody st) (defScope st) .none kV doc pm an cdv ct) ⟨[], ks.zip ws⟩ = pure (ps.zip (permute ix ws))) (hne : ps ≠ []) :
    KBinds K fd ps ks (fun us ws => if us.isEmpty then permute ix ws else []) (fun us ws => if us.isEmpty then permute ix ws else []) := by
  obtain ⟨oc, od, kV, doc, pm, an, cdv, ct, osl, rfl, lk, hcd⟩ := F.ex
  refine ⟨fun s us ws _ hl => ?_, fun {vs us zs ws} r1 r2 => ?_⟩
  · cases us with
    | nil => exact .of_eq (h kV doc pm an cdv ct ws hl)
    | cons u us =>
      have : ([] : List Value).length = ps.length := hl
      cases ps with
      | nil => exact (hne rfl).elim
      | cons _ _ => cases this
  · cases r1 with
    | nil => exact vals_permute r2 ix
    | cons _ _ => exact .nil
variable {k : Nat} {g : Addr} {fd : FuncData} {ps ks : List Str} {x : Str} {p pos : Pos} {F : FT} {E : XK} {kws : List Keyword} {ix : List Nat}
theorem pn_callK (G : FnOk X.prog X.w X.K X.mg X.base (L2.CX X.prog X.w) k g fd ps (spF X.K ps.length F)) (tk : Takes X (fun cls d _ H => E cls d H)) (hr : Room k X.A) (hg : Gl X x) (hm : X.mg x = some (.ref g)) (hk : PySem.W.keepIn X.K (.ref g) = true)
    (hb : KBinds X.K fd ps ks (fun us ws => if us.isEmpty then permute ix ws else []) (fun us ws => if us.isEmpty then permute ix ws else [])) (hkw : PK X kws (tH X.K Z (fun cls d _ H => E cls d H) fs)) (hn : ∀ i ∈ ix, i < fs.length) (hx : ix.length = ps.length)
    (hall : (backToKw pos (keywordEach kws X.env)).all (·.1.isSome) = true) (hks : (backToKw pos (keywordEach kws X.env)).filterMap (·.1) = ks)
    (hdb : (x == ("__debug__" : Str)) = false) (hpl : ((backTo pos (starEach [] X.env)).any (·.1) || (backToKw pos (keywordEach kws X.env)).any (·.1.isNone)) = false) :
    PE X (.Call (.Name x p) [] kws pos) (tN X.K Z (fun cls d _ H => E cls d H) (eCallK F ix fs)) :=
  pe_mono (pe_callK0 G hr hg hm hk hb (passes_call tk fun _ _ _ _ h => h) hkw hall hks hdb hpl) fun σ H Q w => callK_read (E := E) hn hx (fun _ _ _ z => z) (fun _ _ _ z => z) w
end
end L2.Pz
set_option Elab.async false
set_option linter.all false
set_option maxRecDepth 100000
set_option maxHeartbeats 4000000
set_option autoImplicit false
namespace L2.Pz
open PySem PySem.Spec PyProof.Rows
theorem hu200 {k : Nat} {A : Around} (hr : Room k A) : A.units + 200 < cLine := by
  have := hr.un
  omega
/-- no nested list that is handed on -/
def okB : HV → Bool
  | .newB _ _ => false
  | _ => true
def eNorm (f : EF) : EF := fun env J => (f env J).bind fun h J1 => if okB h = true then .ok (norm h) J1 else .stuck
def rgBig (a b : Int) : Bool := rgOk a && (rgOk b && decide ((b - a).toNat ≤ 16777216))
def eRg (mk : List D → HV) (it : IF) : EF := fun env J => (it env J).bind fun ds J1 => if ds.length ≤ 16777216 then .ok (mk ds) J1 else .stuck
section
variable {X : Cx} {W : WX} {e a b : Expr} {f g : EF} {p q pos : Pos} {Z : List Zx}
theorem toN' (h : PE X e (tD X.K Z W f)) : PE X e (tN X.K Z W (eNorm f)) := pe_mono h fun σ H Q ⟨Xo, js, env, J, F, p⟩ => by
  refine ⟨Xo, js, env, J, F, ?_⟩
  unfold eNorm at p
  cases r : f env J with
  | ok z J1 =>
    rw [r] at p
    intro v H' e1 G x
    have p : PostN X.K Z W Xo js H σ env Q (if okB z = true then .ok (norm z) J1 else .stuck) := p
    cases z with
    | newB _ _ => exact p.elim
    | val d => exact p v H' e1 ⟨G, x⟩
    | jar k => exact p v H' e1 ⟨G, x⟩
    | exc k => exact p v H' e1 ⟨G, x⟩
    | new ds => exact p v H' e1 ⟨G, x⟩
  | err c fs J1 => rw [r] at p; exact p
  | stuck => rw [r] at p; exact p
/-- a comparison with None, as a test -/
theorem pt_ofN (h : PT X e (tB (fun σ H Q => tN X.K Z W f σ H Q))) : PT X e (tT X.K Z W fun env J => toB (f env J)) := pt_mono h fun σ H Q w => toB_read w
theorem pt_isN {j pos'} (ha : PE X a (tD X.K Z W f)) : PT X (.Compare a [.Is] [.Constant .none j pos'] pos) (tT X.K Z W fun env J => toB (eUn dIsN f env J)) :=
  pt_mono (pt_cmp (pc_isN ha) rfl) fun σ H Q w => un_read (ta := tD X.K Z W f) (r := fun x H Q => Q (.bl (decide (x = .non))) H) (fo := dIsN) (fun H Y x d z Q hl hx hz q => by
    cases d with
    | non => cases hz; rw [top_non hx]; exact q _ _ (po_val mk_bl)
    | bl b => cases hz; rw [top_bl hx]; exact q _ _ (po_val mk_bl)
    | int b => cases hz; rw [top_int hx]; exact q _ _ (po_val mk_bl)
    | str b => cases hz; rw [top_str hx]; exact q _ _ (po_val mk_bl)
    | tup ds => obtain ⟨a, vs, rfl, _⟩ := top_tup hx; cases hz; exact q _ _ (po_val mk_bl)
    | lnk m => exact (top_lnk hx).elim
    | lst ds => obtain ⟨a, vs, rfl, _⟩ := hx; cases hz; exact q _ _ (po_val mk_bl)) (fun _ _ _ z => z) (toB_read w)
theorem pt_notNn {j pos'} (ha : PE X a (tD X.K Z W f)) : PT X (.Compare a [.IsNot] [.Constant .none j pos'] pos) (tT X.K Z W fun env J => toB (eUn dNotN f env J)) :=
  pt_mono (pt_cmp (pc_notN ha) rfl) fun σ H Q w => un_read (ta := tD X.K Z W f) (r := fun x H Q => Q (.bl (!decide (x = .non))) H) (fo := dNotN) (fun H Y x d z Q hl hx hz q => by
    cases d with
    | non => cases hz; rw [top_non hx]; exact q _ _ (po_val mk_bl)
    | bl b => cases hz; rw [top_bl hx]; exact q _ _ (po_val mk_bl)
    | int b => cases hz; rw [top_int hx]; exact q _ _ (po_val mk_bl)
    | str b => cases hz; rw [top_str hx]; exact q _ _ (po_val mk_bl)
    | tup ds => obtain ⟨a, vs, rfl, _⟩ := top_tup hx; cases hz; exact q _ _ (po_val mk_bl)
    | lnk m => exact (top_lnk hx).elim
    | lst ds => obtain ⟨a, vs, rfl, _⟩ := hx; cases hz; exact q _ _ (po_val mk_bl)) (fun _ _ _ z => z) (toB_read w)
theorem reps_rg {K : PySem.W.Frag} {H : Hp} {Y : Addr → Prop} (a : Int) (n : Nat) : Reps K H Y (rgD a n) ((List.range n).map fun i => V.int (a + (i : Nat))) := by
  unfold rgD
  induction List.range n with
  | nil => exact reps_nil.mpr rfl
  | cons i r ih => exact reps_cons.mpr ⟨_, _, rfl, mk_int, ih⟩
/-- list(range(n)), tuple(range(n)), with one bound or two -/
theorem rg1_read {mk : List D → HV} {σ : L2.St} {H : Hp} {Q : VK} (w : tN X.K Z W (eRg mk (iRange1 f)) σ H Q) (fin : ∀ (Xo : Addr → Prop) (js : List Addr) (H1 : Hp) (q : Addr), Lists H1 (Yf Xo js) → H1 q = none → ∀ a b, ∃ o v, PureOut X.K (Yf Xo js) H1 (upd H1 q o) (mk (rgD a (b - a).toNat)) v ∧ ∀ Q : VK, Q v (upd H1 q o) → Q (.ref q) (upd H1 q o)) : True := trivial
end
section
variable {X : Cx} {W : WX} {a b : Expr} {f g : EF} {p q pos : Pos} {Z : List Zx}
theorem rgok_of {n : Int} (h : rgOk n = true) (hb : (rgD 0 n.toNat).length ≤ 16777216) : RgOk 0 n := by
  unfold rgOk at h
  rw [Bool.and_eq_true] at h
  have h1 : -(2 ^ 62) ≤ n := of_decide_eq_true h.1
  have h2 : n < 2 ^ 62 := of_decide_eq_true h.2
  unfold rgD at hb
  rw [List.length_map, List.length_range] at hb
  exact ⟨by omega, by omega, h1, h2, by omega⟩
theorem rgok2_of {m n : Int} (h : (rgOk m && rgOk n) = true) (hb : (rgD m (n - m).toNat).length ≤ 16777216) : RgOk m n := by
  unfold rgOk at h
  rw [Bool.and_eq_true, Bool.and_eq_true, Bool.and_eq_true] at h
  have h1 : -(2 ^ 62) ≤ m := of_decide_eq_true h.1.1
  have h2 : m < 2 ^ 62 := of_decide_eq_true h.1.2
  have h3 : -(2 ^ 62) ≤ n := of_decide_eq_true h.2.1
  have h4 : n < 2 ^ 62 := of_decide_eq_true h.2.2
  unfold rgD at hb
  rw [List.length_map, List.length_range] at hb
  exact ⟨h1, h2, h3, h4, by omega⟩
theorem rg1_go {σ : L2.St} {H : Hp} {Q : VK} {mk : List D → HV} (w : tN X.K Z W (eRg mk (iRange1 f)) σ H Q) (k : Int → Int → Hp → Prop)
    (fin : ∀ (Xo : Addr → Prop) (js : List Addr) (env : En) (J : Jr) (H1 : Hp) (n : Int), Fit X.K Z Xo js H1 σ env J → Ext js H H1 → rgOk n = true → (rgD 0 n.toNat).length ≤ 16777216 → PostN X.K Z W Xo js H σ env Q (.ok (mk (rgD 0 n.toNat)) J) → k 0 n H1) : tRg1 (tD X.K Z W f) σ H k := by
  obtain ⟨Xo, js, env, J, F, p⟩ := w
  refine ⟨Xo, js, env, J, F, ?_⟩
  unfold eRg iRange1 at p
  cases hf : f env J with
  | stuck => rw [hf] at p; exact p.elim
  | err c fs J1 => rw [hf] at p; exact p
  | ok h J1 =>
    rw [hf] at p
    intro x H1 e1 F1 x1
    cases h with
    | jar k => exact p.elim
    | exc k => exact p.elim
    | newB _ _ => exact p.elim
    | new ds => exact p.elim
    | val d =>
      cases d with
      | int n =>
        refine ⟨n, rep_int (K := X.K) (H := H1) (Y := Yf Xo js) x1, ?_⟩
        have p : PostN X.K Z W Xo js H σ env Q ((if rgOk n = true then R.ok (rgD 0 n.toNat) J1 else .stuck).bind fun ds J1 => if ds.length ≤ 16777216 then .ok (mk ds) J1 else .stuck) := p
        by_cases h1 : rgOk n = true
        · rw [if_pos h1] at p
          have p : PostN X.K Z W Xo js H σ env Q (if (rgD 0 n.toNat).length ≤ 16777216 then .ok (mk (rgD 0 n.toNat)) J1 else .stuck) := p
          by_cases h2 : (rgD 0 n.toNat).length ≤ 16777216
          · rw [if_pos h2] at p
            exact fin Xo js env J1 H1 n F1 e1 h1 h2 p
          · rw [if_neg h2] at p; exact p.elim
        · rw [if_neg h1] at p; exact p.elim
      | _ => exact p.elim
theorem rg2_go {σ : L2.St} {H : Hp} {Q : VK} {mk : List D → HV} (w : tN X.K Z W (eRg mk (iRange2 f g)) σ H Q) (k : Int → Int → Hp → Prop)
    (fin : ∀ (Xo : Addr → Prop) (js : List Addr) (env : En) (J : Jr) (H1 : Hp) (m n : Int), Fit X.K Z Xo js H1 σ env J → Ext js H H1 → (rgOk m && rgOk n) = true → (rgD m (n - m).toNat).length ≤ 16777216 → PostN X.K Z W Xo js H σ env Q (.ok (mk (rgD m (n - m).toNat)) J) → k m n H1) : tRg2 (tD X.K Z W f) (tD X.K Z W g) σ H k := by
  obtain ⟨Xo, js, env, J, F, p⟩ := w
  refine ⟨Xo, js, env, J, F, ?_⟩
  unfold eRg iRange2 at p
  cases hf : f env J with
  | stuck => rw [hf] at p; exact p.elim
  | err c fs J1 => rw [hf] at p; exact p
  | ok h J1 =>
    rw [hf] at p
    intro x H1 e1 F1 x1
    refine ⟨Xo, js, env, J1, F1, ?_⟩
    have p : PostN X.K Z W Xo js H σ env Q (((g env J1).bind fun h2 J2 => rg2End J2 h h2).bind fun ds J1 => if ds.length ≤ 16777216 then .ok (mk ds) J1 else .stuck) := p
    cases hg : g env J1 with
    | stuck => rw [hg] at p; exact p.elim
    | err c fs J2 => rw [hg] at p; exact p.later e1
    | ok h2 J2 =>
      rw [hg] at p
      intro y H2 e2 F2 y2
      have x2 := x1.ext F1 e2
      have p : PostN X.K Z W Xo js H σ env Q ((rg2End J2 h h2).bind fun ds J1 => if ds.length ≤ 16777216 then .ok (mk ds) J1 else .stuck) := p
      cases h with
      | jar k => exact p.elim
      | exc k => exact p.elim
      | newB _ _ => exact p.elim
      | new ds => exact p.elim
      | val d =>
        cases d with
        | int m =>
          cases h2 with
          | jar k => exact p.elim
          | exc k => exact p.elim
          | newB _ _ => exact p.elim
          | new ds => exact p.elim
          | val d =>
            cases d with
            | int n =>
              refine ⟨m, n, rep_int (K := X.K) (H := H2) (Y := Yf Xo js) x2, rep_int (K := X.K) (H := H2) (Y := Yf Xo js) y2, ?_⟩
              have p : PostN X.K Z W Xo js H σ env Q ((if (rgOk m && rgOk n) = true then R.ok (rgD m (n - m).toNat) J2 else .stuck).bind fun ds J1 => if ds.length ≤ 16777216 then .ok (mk ds) J1 else .stuck) := p
              by_cases h1 : (rgOk m && rgOk n) = true
              · rw [if_pos h1] at p
                have p : PostN X.K Z W Xo js H σ env Q (if (rgD m (n - m).toNat).length ≤ 16777216 then .ok (mk (rgD m (n - m).toNat)) J2 else .stuck) := p
                by_cases h2 : (rgD m (n - m).toNat).length ≤ 16777216
                · rw [if_pos h2] at p
                  exact fin Xo js env J2 H2 m n F2 (e1.trans e2) h1 h2 p
                · rw [if_neg h2] at p; exact p.elim
              · rw [if_neg h1] at p; exact p.elim
            | _ => exact p.elim
        | _ => exact p.elim
abbrev mkL : List D → HV := HV.new
abbrev mkT : List D → HV := fun ds => .val (.tup ds)
theorem pn_listRg1 (hg : Gl X "list") (hm : X.mg "list" = none) (hc : X.calm = true) (he : PRg X a (tRg1 (tD X.K Z W f))) (na : starEach [a] X.env = (false, eval a X.env) :: starEach [] X.env) : PE X (.Call (.Name "list" p) [a] [] pos) (tN X.K Z W (eRg mkL (iRange1 f))) :=
  pe_mono (pe_listRg hc hg hm he na) fun σ H Q w => rg1_go w _ fun Xo js env J H1 n F1 e1 h1 h2 p => ⟨rgok_of h1 h2, fun q hq => by
    obtain ⟨e2, o⟩ := pure_out F1 e1 (po_newl F1.lists hq (reps_rg 0 n.toNat))
    have := p _ _ e2 o
    unfold rgV
    rw [Int.sub_zero]
    exact this⟩
theorem pn_tupRg1 (hg : Gl X "tuple") (hm : X.mg "tuple" = none) (hc : X.calm = true) (he : PRg X a (tRg1 (tD X.K Z W f))) (na : starEach [a] X.env = (false, eval a X.env) :: starEach [] X.env) : PE X (.Call (.Name "tuple" p) [a] [] pos) (tN X.K Z W (eRg mkT (iRange1 f))) :=
  pe_mono (pe_tupRg hc hg hm he na) fun σ H Q w => rg1_go w _ fun Xo js env J H1 n F1 e1 h1 h2 p => ⟨rgok_of h1 h2, fun q hq => by
    obtain ⟨e2, o⟩ := pure_out F1 e1 (po_newt F1.lists hq (reps_rg 0 n.toNat))
    have := p _ _ e2 o
    unfold rgV
    rw [Int.sub_zero]
    exact this⟩
theorem pn_listRg2 (hg : Gl X "list") (hm : X.mg "list" = none) (hc : X.calm = true) (he : PRg X a (tRg2 (tD X.K Z W f) (tD X.K Z W g))) (na : starEach [a] X.env = (false, eval a X.env) :: starEach [] X.env) : PE X (.Call (.Name "list" p) [a] [] pos) (tN X.K Z W (eRg mkL (iRange2 f g))) :=
  pe_mono (pe_listRg hc hg hm he na) fun σ H Q w => rg2_go w _ fun Xo js env J H1 m n F1 e1 h1 h2 p => ⟨rgok2_of h1 h2, fun q hq => by
    obtain ⟨e2, o⟩ := pure_out F1 e1 (po_newl F1.lists hq (reps_rg m (n - m).toNat))
    exact p _ _ e2 o⟩
theorem pn_tupRg2 (hg : Gl X "tuple") (hm : X.mg "tuple" = none) (hc : X.calm = true) (he : PRg X a (tRg2 (tD X.K Z W f) (tD X.K Z W g))) (na : starEach [a] X.env = (false, eval a X.env) :: starEach [] X.env) : PE X (.Call (.Name "tuple" p) [a] [] pos) (tN X.K Z W (eRg mkT (iRange2 f g))) :=
  pe_mono (pe_tupRg hc hg hm he na) fun σ H Q w => rg2_go w _ fun Xo js env J H1 m n F1 e1 h1 h2 p => ⟨rgok2_of h1 h2, fun q hq => by
    obtain ⟨e2, o⟩ := pure_out F1 e1 (po_newt F1.lists hq (reps_rg m (n - m).toNat))
    exact p _ _ e2 o⟩
end
end L2.Pz
set_option Elab.async false
set_option linter.all false
set_option maxRecDepth 100000
set_option maxHeartbeats 4000000
set_option autoImplicit false
namespace L2.Pz
open PySem PySem.Spec PyProof.Rows
/-! ### a, b = a tuple or a list -/
def tgSeq (is : List Nat) : TF := fun d env => match d with
  | .tup ds => tgs is ds env
  | .lst ds => tgs is ds env
  | _ => none
def gAny (K : PySem.W.Frag) (n : Nat) (t : TGs) : TG := fun v σ H Q => gTup K n t v σ H Q ∨ gLst K n t v σ H Q
theorem pg_any {X : Cx} {pos : Pos} {es : List Expr} {k : Nat} {t : TGs} {n : Nat} (hc : X.calm = true) (h : PGs X es t)
    (hn : (assignEach es X.env).length = n := by rfl) (hst : (assignEach es X.env).findIdx? (·.1) = none := by rfl) : PG X (.Tuple es k pos) (gAny X.K n t) :=
  ⟨fun pins s σ H v u Q I r hw => hw.elim ((pg_tup hc h hn hst).run pins s σ H v u Q I r) ((pg_lst hc h hn hst).run pins s σ H v u Q I r)⟩
theorem tgok_any {K : PySem.W.Frag} {Z : List Zx} {n : Nat} {is : List Nat} {u : TGs} (h : TgsOk K Z u is) (hn : is.length = n) : TgOk K Z (gAny K n u) (tgSeq is) := fun Xo js H σ env env' J d v Q F r e q => by
  cases d with
  | tup ds =>
    obtain ⟨a, vs, e1, s, r1⟩ := rep_tup.mp r
    exact .inl ⟨a, vs, e1, s, by rw [reps_len r1, ← hn]; exact tgs_len e, h Xo js H σ env env' J ds vs Q F r1 e q⟩
  | lst ds =>
    obtain ⟨a, vs, e1, s, r1⟩ := rep_lst.mp r
    exact .inr ⟨a, vs, e1, s.sq, by rw [reps_len r1, ← hn]; exact tgs_len e, h Xo js H σ env env' J ds vs Q F r1 e q⟩
  | _ => cases e
theorem tgin_any {K : PySem.W.Frag} {own : List Nat} {n : Nat} {u : TGs} (hu : TgsIn u own) : TgIn (gAny K n u) own := fun v σ H Q w => w.elim
  (fun ⟨a, xs, e, s, l, q⟩ => .inl ⟨a, xs, e, s, l, hu xs σ _ H Q (wipe_wipe σ own) q⟩) (fun ⟨a, xs, e, s, l, q⟩ => .inr ⟨a, xs, e, s, l, hu xs σ _ H Q (wipe_wipe σ own) q⟩)
/-! ### a def's facts -/
structure FnF (K : PySem.W.Frag) (mg : Str → Option Value) (x : Str) (st : Stmt) (f : Addr) (fd : FuncData) (ps : List Str) : Prop where
  F : Fun K x x st f fd
  b : Binds K fd ps []
  g : mg x = some (.ref f)
end L2.Pz
set_option Elab.async false
set_option linter.all false
set_option maxRecDepth 100000
set_option maxHeartbeats 4000000
set_option autoImplicit false
namespace L2.Pz
open PySem PySem.Spec PyProof.Rows
section
variable {X : Cx} {k : Nat} {g : Addr} {fd : FuncData} {ps : List Str} {x : Str} {p pos : Pos} {F : FT} {E : XK} {Z : List Zx}
/-- f(), f a def of the text -/
theorem pn_call00 (G : FnOk X.prog X.w X.K X.mg X.base (L2.CX X.prog X.w) k g fd ps (spF X.K ps.length F)) (tk : Takes X (fun cls d _ H => E cls d H)) (hr : Room k X.A) (hg : Gl X x) (hm : X.mg x = some (.ref g)) (hk : PySem.W.keepIn X.K (.ref g) = true) (hb : Binds X.K fd ps [])
    (hn : ([] : List EF).length = ps.length) (hdb : (x == ("__debug__" : Str)) = false) : PE X (.Call (.Name x p) [] [] pos) (tN X.K Z (fun cls d _ H => E cls d H) (eCall F [])) :=
  pe_mono (pe_call0 G hr hg hm hk hb .nil (passes_call tk fun _ _ _ _ h => h) hdb) fun σ H Q w => by
    have := call_read (X := X) (W := fun cls d _ H => E cls d H) (t := tNil) (E := E) hn (fun σ H Q ⟨Xo, js, env, J, Fi, p⟩ => p [] H .refl Fi rfl) (fun _ _ _ z => z) w
    unfold tCall
    simp only [List.append_nil]
    exact this
theorem pn_call000 (G : FnOk X.prog X.w X.K X.mg X.base (L2.CX X.prog X.w) k g fd ps (spF X.K ps.length F)) (hr : Room k X.A) (hg : Gl X x) (hm : X.mg x = some (.ref g)) (hk : PySem.W.keepIn X.K (.ref g) = true) (hb : Binds X.K fd ps [])
    (hn : ([] : List EF).length = ps.length) (hdb : (x == ("__debug__" : Str)) = false) : PE X (.Call (.Name x p) [] [] pos) (tN X.K Z W0 (eCall F [])) :=
  pe_mono (pe_call0 G hr hg hm hk hb .nil passL hdb) fun σ H Q w => by
    have := call_read (X := X) (W := W0) (t := tNil) (E := E0) hn (fun σ H Q ⟨Xo, js, env, J, Fi, p⟩ => p [] H .refl Fi rfl) (fun _ _ _ z => z) w
    unfold tCall
    simp only [List.append_nil]
    exact this
end
theorem fn_none {P : Program} {w : World} {K : PySem.W.Frag} {mg : Str → Option Value} {base : Heap} {CX : CXT} {k : Nat} {f : Addr} {fd : FuncData} {ps : List Str} {n : Nat} (hn : n = ps.length) : FnOk P w K mg base CX k f fd ps (spF K n fun _ _ => .stuck) :=
  ⟨fun vs H Q E h => by rw [← hn]; exact spF_len vs H Q E h, fun A outer s H args us vs Q E hr he hb hv ⟨Xo, js, J, hs, _, _, _, p⟩ => p.elim⟩
theorem cx_no {P : Program} {w : World} {H : Hp} {s : Shared} {e : Value} {s' : Shared} (h : L2.CX P w [] H s (fun _ _ _ => False) e s') : False := by
  obtain ⟨_, _, _, _, _, _, _, _, _, _, _, _, h⟩ := h
  exact h
theorem spF_start {K : PySem.W.Frag} {H : Hp} {a : Addr} {ns : List Int} {F : FT} {E : XK} (hS : SqL K H a (ns.map V.int)) (hF : F [.val (.lst (ns.map D.int))] [] = .ok (.val (.bl true)) []) : spF K 1 F [.ref a] H (fun v _ => v = .bl true) E := by
  have Fi : Fit K [] (fun _ => False) [] H [] [] [] := { out := fun _ h => h.elim, nd := List.nodup_nil, jx := (by intro a h; simp at h), len := rfl, slen := rfl, jar := (by intro k a ds h; simp at h), slot := (by intro i h e; simp at e), ez := (by intro z hz; simp at hz) }
  refine ⟨fun _ => False, [], [], [.val (.lst (ns.map D.int))], Fi, rfl, ⟨.ref a, [], rfl, ?_, rfl⟩, ?_⟩
  · refine rep_lst.mpr ⟨a, _, rfl, ?_, reps_of_ints⟩
    rcases hS with h | h
    · exact .inl ⟨h, fun y => y.elim id fun y => by simp at y⟩
    · exact .inr (.inr h)
  · rw [hF]
    exact fun v H' _ o => rep_bl (K := K) (H := H') (Y := Yf (fun _ => False) []) o.2
end L2.Pz
set_option Elab.async false
set_option linter.all false
set_option maxRecDepth 100000
set_option maxHeartbeats 4000000
set_option autoImplicit false
namespace L2.Pz
open PySem
/-! ### the logic of the pure layer: Ex (of expressions), Sx (of statements) -/
abbrev XP := Str → List (Str × D) → Jr → Prop
abbrev nX : XP := fun _ _ _ => False
def ExM {α : Type} (X : XP) (r : R α) (Q : α → Jr → Prop) : Prop := match r with
  | .ok a J => Q a J
  | .err c fs J => X c fs J
  | .stuck => False
/-- a wrapper: nothing unfolds it by itself -/
structure Ex {α : Type} (X : XP) (r : R α) (Q : α → Jr → Prop) : Prop where
  out : ExM X r Q
theorem Ex_eq {α : Type} {X : XP} {r : R α} {Q : α → Jr → Prop} : Ex X r Q = ExM X r Q := propext ⟨Ex.out, Ex.mk⟩
structure Po where
  nx : En → Jr → Prop
  rt : HV → Jr → Prop
  bk : En → Jr → Prop
  ct : En → Jr → Prop
  er : Str → List (Str × D) → En → Jr → Prop
def SxM (P : Po) (r : RS) : Prop := match r with
  | .nx e J => P.nx e J
  | .rt h J => P.rt h J
  | .bk e J => P.bk e J
  | .ct e J => P.ct e J
  | .err c fs e J => P.er c fs e J
  | .stuck => False
structure Sx (P : Po) (r : RS) : Prop where
  out : SxM P r
theorem Sx_eq {P : Po} {r : RS} : Sx P r = SxM P r := propext ⟨Sx.out, Sx.mk⟩
def OpQ {α : Type} (o : Option α) (Q : α → Prop) : Prop := match o with
  | some a => Q a
  | none => False
def nmQ (o : Option (Option HV)) (Q : HV → Prop) : Prop := match o with
  | some (some h) => Q h
  | _ => False
def jarQ (o : Option (Option HV)) (Q : Nat → Prop) : Prop := match o with
  | some (some (.jar k)) => Q k
  | _ => False
def blQ (h : HV) (Q : Bool → Prop) : Prop := match h with
  | .val (.bl b) => Q b
  | _ => False
def intQ (h : HV) (Q : Int → Prop) : Prop := match h with
  | .val (.int b) => Q b
  | _ => False
def newQ (h : HV) (Q : List D → Prop) : Prop := match h with
  | .new b => Q b
  | _ => False
@[simp] theorem OpQ_some {α : Type} {a : α} {Q : α → Prop} : OpQ (some a) Q ↔ Q a := Iff.rfl
@[simp] theorem OpQ_none {α : Type} {Q : α → Prop} : OpQ none Q ↔ False := Iff.rfl
@[simp] theorem OpQ_ite {α : Type} {a : α} {Q : α → Prop} {c : Prop} [Decidable c] : OpQ (if c then some a else none) Q ↔ c ∧ Q a := by by_cases h : c <;> simp [h, OpQ]
@[simp] theorem OpQ_map {α β : Type} {o : Option α} {f : α → β} {Q : β → Prop} : OpQ (o.map f) Q ↔ OpQ o fun a => Q (f a) := by cases o <;> exact Iff.rfl
@[simp] theorem nmQ_some {h : HV} {Q : HV → Prop} : nmQ (some (some h)) Q ↔ Q h := Iff.rfl
@[simp] theorem jarQ_some {k : Nat} {Q : Nat → Prop} : jarQ (some (some (.jar k))) Q ↔ Q k := Iff.rfl
@[simp] theorem blQ_bl {b : Bool} {Q : Bool → Prop} : blQ (.val (.bl b)) Q ↔ Q b := Iff.rfl
@[simp] theorem intQ_int {b : Int} {Q : Int → Prop} : intQ (.val (.int b)) Q ↔ Q b := Iff.rfl
@[simp] theorem newQ_new {b : List D} {Q : List D → Prop} : newQ (.new b) Q ↔ Q b := Iff.rfl
section
variable {α β : Type} {X : XP} {Q : α → Jr → Prop} {QB : β → Jr → Prop} {J : Jr} {env : En} {f g k : EF} {c d : BF} {P : Po} {n : Nat} {a b : SF}
@[simp] theorem Ex_ok {x : α} : Ex X (.ok x J) Q ↔ Q x J := by simp only [Ex_eq, Sx_eq]; exact Iff.rfl
@[simp] theorem Ex_err {cl : Str} {fs : List (Str × D)} : Ex X (.err cl fs J : R α) Q ↔ X cl fs J := by simp only [Ex_eq, Sx_eq]; exact Iff.rfl
@[simp] theorem Ex_stuck : Ex X (.stuck : R α) Q ↔ False := by simp only [Ex_eq, Sx_eq]; exact Iff.rfl
@[simp] theorem Ex_bind {r : R α} {h : α → Jr → R β} : Ex X (r.bind h) QB ↔ Ex X r fun x J => Ex X (h x J) QB := by cases r <;> first | exact Iff.rfl | (simp only [Ex_eq, Sx_eq]; exact Iff.rfl)
theorem Ex.mono {r : R α} {Q' : α → Jr → Prop} (h : Ex X r Q) (m : ∀ x J, Q x J → Q' x J) : Ex X r Q' := by
  rw [Ex_eq] at h ⊢
  cases r with
  | ok x J => exact m _ _ h
  | err c fs J => exact h
  | stuck => exact h
@[simp] theorem Ex_name {i : Nat} {Q : HV → Jr → Prop} : Ex X (eName i env J) Q ↔ nmQ env[i]? fun h => Q h J := by
  unfold eName
  cases h : env[i]? with
  | none => first | exact Iff.rfl | (simp only [Ex_eq, Sx_eq]; exact Iff.rfl)
  | some o => cases o <;> first | exact Iff.rfl | (simp only [Ex_eq, Sx_eq]; exact Iff.rfl)
@[simp] theorem Ex_c {d : D} {Q : HV → Jr → Prop} : Ex X (eC d env J) Q ↔ Q (.val d) J := by simp only [Ex_eq, Sx_eq]; exact Iff.rfl
@[simp] theorem Ex_give {o : Option HV} {Q : HV → Jr → Prop} : Ex X (give J o) Q ↔ OpQ o fun z => Q z J := by cases o <;> first | exact Iff.rfl | (simp only [Ex_eq, Sx_eq]; exact Iff.rfl)
@[simp] theorem Ex_app1 {fo : F1} {h : HV} {Q : HV → Jr → Prop} : Ex X (app1 fo J h) Q ↔ OpQ (deref J h) fun d => OpQ (fo d) fun z => Q z J := by
  unfold app1
  cases e : deref J h with
  | none => first | exact Iff.rfl | (simp only [Ex_eq, Sx_eq]; exact Iff.rfl)
  | some d => exact Ex_give
@[simp] theorem Ex_app2 {fo : F2} {h h2 : HV} {Q : HV → Jr → Prop} : Ex X (app2 fo J h h2) Q ↔ OpQ (deref J h) fun d => OpQ (deref J h2) fun e => OpQ (fo d e) fun z => Q z J := by
  unfold app2
  cases e : deref J h with
  | none => first | exact Iff.rfl | (simp only [Ex_eq, Sx_eq]; exact Iff.rfl)
  | some d =>
    cases e' : deref J h2 with
    | none => first | exact Iff.rfl | (simp only [Ex_eq, Sx_eq]; exact Iff.rfl)
    | some d' => exact Ex_give
@[simp] theorem Ex_un {fo : F1} {Q : HV → Jr → Prop} : Ex X (eUn fo f env J) Q ↔ Ex X (f env J) fun h J => OpQ (deref J h) fun d => OpQ (fo d) fun z => Q z J := by
  unfold eUn
  simp only [Ex_bind, Ex_app1]
@[simp] theorem Ex_bin {fo : F2} {Q : HV → Jr → Prop} : Ex X (eBin fo f g env J) Q ↔ Ex X (f env J) fun h J => Ex X (g env J) fun h2 J => OpQ (deref J h) fun d => OpQ (deref J h2) fun e => OpQ (fo d e) fun z => Q z J := by
  unfold eBin
  simp only [Ex_bind, Ex_app2]
theorem Ex_iff {r : R α} {Q' : α → Jr → Prop} (h : ∀ x J, Q x J ↔ Q' x J) : Ex X r Q ↔ Ex X r Q' := by
  have : Q = Q' := funext fun x => funext fun J => propext (h x J)
  rw [this]
@[simp] theorem Ex_toB {r : R HV} {Q : Bool → Jr → Prop} : Ex X (toB r) Q ↔ Ex X r fun h J => blQ h fun b => Q b J := by
  unfold toB
  rw [Ex_bind]
  refine Ex_iff fun h J => ?_
  cases h with
  | val d => cases d <;> first | exact Iff.rfl | (simp only [Ex_eq, Sx_eq]; exact Iff.rfl)
  | jar k => first | exact Iff.rfl | (simp only [Ex_eq, Sx_eq]; exact Iff.rfl)
  | exc k => first | exact Iff.rfl | (simp only [Ex_eq, Sx_eq]; exact Iff.rfl)
  | newB _ _ => first | exact Iff.rfl | (simp only [Ex_eq, Sx_eq]; exact Iff.rfl)
  | new ds => first | exact Iff.rfl | (simp only [Ex_eq, Sx_eq]; exact Iff.rfl)
@[simp] theorem Ex_cmp {fo : F2} {Q : Bool → Jr → Prop} : Ex X (bCmp fo f g env J) Q ↔ Ex X (eBin fo f g env J) fun h J => blQ h fun b => Q b J := Ex_toB
@[simp] theorem Ex_truth {Q : Bool → Jr → Prop} : Ex X (bTruth f env J) Q ↔ Ex X (f env J) fun h J => OpQ (deref J h) fun d => OpQ (truth d) fun b => Q b J := by
  unfold bTruth
  rw [Ex_bind]
  refine Ex_iff fun x J => ?_
  cases e : deref J x with
  | none => first | exact Iff.rfl | (simp only [Ex_eq, Sx_eq]; exact Iff.rfl)
  | some d =>
    dsimp only [OpQ_some]
    cases e2 : truth d <;> simp [e2]
@[simp] theorem Ex_bnot {Q : Bool → Jr → Prop} : Ex X (bNot c env J) Q ↔ Ex X (c env J) fun b J => Q (!b) J := by
  unfold bNot
  simp only [Ex_bind, Ex_ok]
@[simp] theorem Ex_band {Q : Bool → Jr → Prop} : Ex X (bAnd c d env J) Q ↔ Ex X (c env J) fun b J => if b = true then Ex X (d env J) Q else Q false J := by
  unfold bAnd
  rw [Ex_bind]
  refine Ex_iff fun x J => ?_
  cases x <;> first | exact Iff.rfl | (simp only [Ex_eq, Sx_eq]; exact Iff.rfl)
@[simp] theorem Ex_bor {Q : Bool → Jr → Prop} : Ex X (bOr c d env J) Q ↔ Ex X (c env J) fun b J => if b = true then Q true J else Ex X (d env J) Q := by
  unfold bOr
  rw [Ex_bind]
  refine Ex_iff fun x J => ?_
  cases x <;> first | exact Iff.rfl | (simp only [Ex_eq, Sx_eq]; exact Iff.rfl)
@[simp] theorem Ex_not {Q : HV → Jr → Prop} : Ex X (eNot f env J) Q ↔ Ex X (f env J) fun h J => blQ h fun b => Q (.val (.bl (!b))) J := by
  unfold eNot
  rw [Ex_bind, Ex_toB]
  first | exact Iff.rfl | (simp only [Ex_eq, Sx_eq]; exact Iff.rfl)
@[simp] theorem Ex_and {Q : HV → Jr → Prop} : Ex X (eAnd f g env J) Q ↔ Ex X (f env J) fun h J => blQ h fun b => if b = true then Ex X (g env J) Q else Q (.val (.bl false)) J := by
  unfold eAnd
  rw [Ex_bind, Ex_toB]
  refine Ex_iff fun x J => ?_
  have : ∀ b : Bool, Ex X (if b = true then g env J else .ok (.val (.bl false)) J) Q ↔ if b = true then Ex X (g env J) Q else Q (.val (.bl false)) J := fun b => by cases b <;> first | exact Iff.rfl | (simp only [Ex_eq, Sx_eq]; exact Iff.rfl)
  simp only [this]
@[simp] theorem Ex_or {Q : HV → Jr → Prop} : Ex X (eOr f g env J) Q ↔ Ex X (f env J) fun h J => blQ h fun b => if b = true then Q (.val (.bl true)) J else Ex X (g env J) Q := by
  unfold eOr
  rw [Ex_bind, Ex_toB]
  refine Ex_iff fun x J => ?_
  have : ∀ b : Bool, Ex X (if b = true then .ok (.val (.bl true)) J else g env J) Q ↔ if b = true then Q (.val (.bl true)) J else Ex X (g env J) Q := fun b => by cases b <;> first | exact Iff.rfl | (simp only [Ex_eq, Sx_eq]; exact Iff.rfl)
  simp only [this]
@[simp] theorem Ex_if {Q : HV → Jr → Prop} : Ex X (eIf c f g env J) Q ↔ Ex X (c env J) fun b J => if b = true then Ex X (f env J) Q else Ex X (g env J) Q := by
  unfold eIf
  rw [Ex_bind]
  refine Ex_iff fun x J => ?_
  cases x <;> first | exact Iff.rfl | (simp only [Ex_eq, Sx_eq]; exact Iff.rfl)
@[simp] theorem Ex_norm {Q : HV → Jr → Prop} : Ex X (eNorm f env J) Q ↔ Ex X (f env J) fun h J => okB h = true ∧ Q (norm h) J := by
  unfold eNorm
  rw [Ex_bind]
  refine Ex_iff fun x J => ?_
  by_cases h : okB x = true <;> simp [h]
@[simp] theorem okB_val {d : D} : okB (.val d) = true := rfl
@[simp] theorem okB_jar {k : Nat} : okB (.jar k) = true := rfl
@[simp] theorem okB_new {ds : List D} : okB (.new ds) = true := rfl
@[simp] theorem okB_exc {k : Nat} : okB (.exc k) = true := rfl
@[simp] theorem norm_val {d : D} : norm (.val d) = .val d := rfl
@[simp] theorem norm_exc {k : Nat} : norm (.exc k) = .exc k := rfl
@[simp] theorem norm_jar {k : Nat} : norm (.jar k) = .jar k := rfl
@[simp] theorem norm_new {ds : List D} : norm (.new ds) = .val (.lst ds) := rfl
@[simp] theorem deref_val {d : D} : deref J (.val d) = some d := rfl
@[simp] theorem deref_new {ds : List D} : deref J (.new ds) = some (.lst ds) := rfl
@[simp] theorem deref_exc {k : Nat} : deref J (.exc k) = none := rfl
@[simp] theorem deref_jar {k : Nat} : deref J (.jar k) = derefC J[k]? := rfl
@[simp] theorem derefC_none : derefC none = none := rfl
@[simp] theorem OpQ_derefC {ds : List D} {Q : D → Prop} : OpQ (derefC (some ds)) Q ↔ ds.all isP = true ∧ Q (.lst ds) := by
  show OpQ (if ds.all isP = true then some (D.lst ds) else none) Q ↔ _
  by_cases h : ds.all isP = true
  · rw [if_pos h]; exact ⟨fun z => ⟨h, z⟩, fun z => z.2⟩
  · rw [if_neg h]; exact ⟨fun z => z.elim, fun z => (h z.1).elim⟩
@[simp] theorem isP_non : isP .non = true := rfl
@[simp] theorem isP_bl {b : Bool} : isP (.bl b) = true := rfl
@[simp] theorem isP_int {b : Int} : isP (.int b) = true := rfl
@[simp] theorem isP_str {b : Str} : isP (.str b) = true := rfl
@[simp] theorem isP_tup {b : List D} : isP (.tup b) = true := rfl
@[simp] theorem isP_lst {b : List D} : isP (.lst b) = true := rfl
@[simp] theorem isP_lnk {b : Nat} : isP (.lnk b) = false := rfl
@[simp] theorem toVal_val {d : D} : toVal (.val d) = some d := rfl
@[simp] theorem toVal_new {ds : List D} : toVal (.new ds) = some (.lst ds) := rfl
@[simp] theorem toVal_exc {k : Nat} : toVal (.exc k) = none := rfl
@[simp] theorem toVal_jar {k : Nat} : toVal (.jar k) = none := rfl
@[simp] theorem Ex_items0 {Q : List D → Jr → Prop} : Ex X (eItems [] env J) Q ↔ Q [] J := by simp only [Ex_eq, Sx_eq]; exact Iff.rfl
@[simp] theorem Ex_items1 {fs : List EF} {Q : List D → Jr → Prop} : Ex X (eItems (f :: fs) env J) Q ↔ Ex X (f env J) fun h J => OpQ (toVal h) fun d => Ex X (eItems fs env J) fun ds J => Q (d :: ds) J := by
  show Ex X ((f env J).bind _) Q ↔ _
  rw [Ex_bind]
  refine Ex_iff fun x J => ?_
  cases e : toVal x with
  | none => first | exact Iff.rfl | (simp only [Ex_eq, Sx_eq]; exact Iff.rfl)
  | some d =>
    show Ex X ((eItems fs env J).bind fun ds J2 => R.ok (d :: ds) J2) Q ↔ Ex X (eItems fs env J) fun ds J => Q (d :: ds) J
    simp only [Ex_bind, Ex_ok]
theorem Ex_ite {c : Prop} [Decidable c] {x : α} : Ex X (if c then .ok x J else .stuck) Q ↔ c ∧ Q x J := by by_cases h : c <;> simp [h]
@[simp] theorem Ex_tup {fs : List EF} {Q : HV → Jr → Prop} : Ex X (eTup fs env J) Q ↔ Ex X (eItems fs env J) fun ds J => ds.length ≤ big ∧ Q (.val (.tup ds)) J := by
  unfold eTup
  rw [Ex_bind]
  exact Ex_iff fun x J => Ex_ite
@[simp] theorem Ex_lst {fs : List EF} {Q : HV → Jr → Prop} : Ex X (eLst fs env J) Q ↔ Ex X (eItems fs env J) fun ds J => ds.length ≤ big ∧ Q (.new ds) J := by
  unfold eLst
  rw [Ex_bind]
  exact Ex_iff fun x J => Ex_ite
@[simp] theorem Ex_args0 {Q : List HV → Jr → Prop} : Ex X (eArgs [] env J) Q ↔ Q [] J := by simp only [Ex_eq, Sx_eq]; exact Iff.rfl
@[simp] theorem isExc_val {d : D} : isExc (.val d) = false := rfl
@[simp] theorem isExc_new {ds : List D} : isExc (.new ds) = false := rfl
@[simp] theorem isExc_jar {k : Nat} : isExc (.jar k) = false := rfl
@[simp] theorem Ex_args1 {fs : List EF} {Q : List HV → Jr → Prop} : Ex X (eArgs (f :: fs) env J) Q ↔ Ex X (f env J) fun h J => Ex X (eArgs fs env J) fun hs J => isExc h = false ∧ Q (norm h :: hs) J := by
  show Ex X ((f env J).bind _) Q ↔ _
  simp only [Ex_bind]
  refine Ex_iff fun h J => Ex_iff fun hs J => ?_
  cases isExc h <;> simp
@[simp] theorem Ex_call {F : FT} {fs : List EF} {Q : HV → Jr → Prop} : Ex X (eCall F fs env J) Q ↔ Ex X (eArgs fs env J) fun hs J => Ex X (F hs J) Q := Ex_bind
@[simp] theorem Ex_callK {F : FT} {ix : List Nat} {fs : List EF} {Q : HV → Jr → Prop} : Ex X (eCallK F ix fs env J) Q ↔ Ex X (eArgs fs env J) fun hs J => Ex X (F (permute ix hs) J) Q := Ex_bind
@[simp] theorem Ex_rep {Q : HV → Jr → Prop} : Ex X (eRep f g env J) Q ↔ Ex X (f env J) fun h J => Ex X (g env J) fun h2 J => Ex X (repEnd J h (deref J h2)) Q := by
  unfold eRep
  simp only [Ex_bind]
@[simp] theorem Ex_repEnd {ds : List D} {k : Int} {Q : HV → Jr → Prop} : Ex X (repEnd J (.new ds) (some (.int k))) Q ↔ repOk ds.length k = true ∧ Q (.new (List.replicate k.toNat ds).flatten) J := Ex_ite
@[simp] theorem Ex_part0 {Q : Option Int → Jr → Prop} : Ex X (partV none env J) Q ↔ Q none J := by simp only [Ex_eq, Sx_eq]; exact Iff.rfl
@[simp] theorem Ex_part1 {Q : Option Int → Jr → Prop} : Ex X (partV (some f) env J) Q ↔ Ex X (f env J) fun h J => intQ h fun i => Q (some i) J := by
  show Ex X ((f env J).bind _) Q ↔ _
  rw [Ex_bind]
  refine Ex_iff fun x J => ?_
  cases x with
  | val d => cases d <;> first | exact Iff.rfl | (simp only [Ex_eq, Sx_eq]; exact Iff.rfl)
  | jar k => first | exact Iff.rfl | (simp only [Ex_eq, Sx_eq]; exact Iff.rfl)
  | exc k => first | exact Iff.rfl | (simp only [Ex_eq, Sx_eq]; exact Iff.rfl)
  | newB _ _ => first | exact Iff.rfl | (simp only [Ex_eq, Sx_eq]; exact Iff.rfl)
  | new ds => first | exact Iff.rfl | (simp only [Ex_eq, Sx_eq]; exact Iff.rfl)
@[simp] theorem Ex_sl {lo hi : Option EF} {Q : HV → Jr → Prop} : Ex X (eSl f lo hi env J) Q ↔ Ex X (f env J) fun h J => Ex X (partV lo env J) fun l J => Ex X (partV hi env J) fun u J => OpQ (deref J h) fun d => OpQ (dSl d l u) fun z => Q z J := by
  unfold eSl
  simp only [Ex_bind]
  refine Ex_iff fun h J => Ex_iff fun l J => Ex_iff fun u J => ?_
  cases e : deref J h with
  | none => first | exact Iff.rfl | (simp only [Ex_eq, Sx_eq]; exact Iff.rfl)
  | some d => exact Ex_give
@[simp] theorem Ex_iAny {Q : List D → Jr → Prop} : Ex X (iAny f env J) Q ↔ Ex X (f env J) fun h J => OpQ (itemsOf h) fun ds => Q ds J := by
  unfold iAny
  rw [Ex_bind]
  refine Ex_iff fun x J => ?_
  cases e : itemsOf x <;> first | exact Iff.rfl | (simp only [Ex_eq, Sx_eq]; exact Iff.rfl)
@[simp] theorem Ex_iEnum {Q : List D → Jr → Prop} : Ex X (iEnumD f env J) Q ↔ Ex X (f env J) fun h J => OpQ (itemsOf h) fun ds => Q (pairUp 0 ds) J := by
  unfold iEnumD
  rw [Ex_bind]
  refine Ex_iff fun x J => ?_
  cases e : itemsOf x <;> first | exact Iff.rfl | (simp only [Ex_eq, Sx_eq]; exact Iff.rfl)
@[simp] theorem Ex_range1 {Q : List D → Jr → Prop} : Ex X (iRange1 f env J) Q ↔ Ex X (f env J) fun h J => intQ h fun n => rgOk n = true ∧ Q (rgD 0 n.toNat) J := by
  unfold iRange1
  rw [Ex_bind]
  refine Ex_iff fun x J => ?_
  cases x with
  | val d =>
    cases d with
    | int n => exact Ex_ite
    | _ => first | exact Iff.rfl | (simp only [Ex_eq, Sx_eq]; exact Iff.rfl)
  | _ => first | exact Iff.rfl | (simp only [Ex_eq, Sx_eq]; exact Iff.rfl)
@[simp] theorem Ex_range2 {Q : List D → Jr → Prop} : Ex X (iRange2 f g env J) Q ↔ Ex X (f env J) fun h J => Ex X (g env J) fun h2 J => intQ h fun m => intQ h2 fun n => (rgOk m && rgOk n) = true ∧ Q (rgD m (n - m).toNat) J := by
  unfold iRange2
  simp only [Ex_bind]
  refine Ex_iff fun x J => Ex_iff fun y J => ?_
  cases x with
  | val d =>
    cases d with
    | int m =>
      cases y with
      | val d =>
        cases d with
        | int n => exact Ex_ite
        | _ => first | exact Iff.rfl | (simp only [Ex_eq, Sx_eq]; exact Iff.rfl)
      | _ => first | exact Iff.rfl | (simp only [Ex_eq, Sx_eq]; exact Iff.rfl)
    | _ => first | exact Iff.rfl | (simp only [Ex_eq, Sx_eq]; exact Iff.rfl)
  | _ => first | exact Iff.rfl | (simp only [Ex_eq, Sx_eq]; exact Iff.rfl)
@[simp] theorem Ex_rg {mk : List D → HV} {it : IF} {Q : HV → Jr → Prop} : Ex X (eRg mk it env J) Q ↔ Ex X (it env J) fun ds J => ds.length ≤ 16777216 ∧ Q (mk ds) J := by
  unfold eRg
  rw [Ex_bind]
  exact Ex_iff fun x J => Ex_ite
@[simp] theorem items_lst {ds : List D} : itemsOf (.val (.lst ds)) = some ds := rfl
@[simp] theorem items_tup {ds : List D} : itemsOf (.val (.tup ds)) = some ds := rfl
@[simp] theorem items_new {ds : List D} : itemsOf (.new ds) = some ds := rfl
@[simp] theorem items_str {z : Str} : itemsOf (.val (.str z)) = some (chars z) := rfl

/-! statements -/
@[simp] theorem Sx_nx : Sx P (.nx env J) ↔ P.nx env J := by simp only [Ex_eq, Sx_eq]; exact Iff.rfl
@[simp] theorem Sx_rt {h : HV} : Sx P (.rt h J) ↔ P.rt h J := by simp only [Ex_eq, Sx_eq]; exact Iff.rfl
@[simp] theorem Sx_bk : Sx P (.bk env J) ↔ P.bk env J := by simp only [Ex_eq, Sx_eq]; exact Iff.rfl
@[simp] theorem Sx_ct : Sx P (.ct env J) ↔ P.ct env J := by simp only [Ex_eq, Sx_eq]; exact Iff.rfl
@[simp] theorem Sx_stuck : Sx P .stuck ↔ False := by simp only [Ex_eq, Sx_eq]; exact Iff.rfl
@[simp] theorem Sx_err {cl : Str} {fs : List (Str × D)} : Sx P (.err cl fs env J) ↔ P.er cl fs env J := by simp only [Ex_eq, Sx_eq]; exact Iff.rfl
@[simp] theorem Sx_on {r : R α} {h : α → Jr → RS} : Sx P (onS env r h) ↔ Ex (fun c fs J => P.er c fs env J) r fun x J => Sx P (h x J) := by cases r <;> first | exact Iff.rfl | (simp only [Ex_eq, Sx_eq]; exact Iff.rfl)
/-- a continuation that simp does not open ahead of time -/
def Po.th (P : Po) (b : SF) (n : Nat) : Po := { P with nx := fun e J => Sx P (b n e J) }
@[simp] theorem th_nx : (P.th b n).nx env J = Sx P (b n env J) := rfl
@[simp] theorem th_rt : (P.th b n).rt = P.rt := rfl
@[simp] theorem th_bk : (P.th b n).bk = P.bk := rfl
@[simp] theorem th_ct : (P.th b n).ct = P.ct := rfl
@[simp] theorem th_er : (P.th b n).er = P.er := rfl
/-- what a loop's body has to lead to -/
def Po.lp (P : Po) (I : Nat → En → Jr → Prop) (i : Nat) : Po := { nx := I (i + 1), rt := P.rt, bk := P.nx, ct := I (i + 1), er := P.er }
@[simp] theorem lp_nx {I : Nat → En → Jr → Prop} {i : Nat} : (P.lp I i).nx env J = I (i + 1) env J := rfl
@[simp] theorem lp_rt {I : Nat → En → Jr → Prop} {i : Nat} : (P.lp I i).rt = P.rt := rfl
@[simp] theorem lp_bk {I : Nat → En → Jr → Prop} {i : Nat} : (P.lp I i).bk env J = P.nx env J := rfl
@[simp] theorem lp_ct {I : Nat → En → Jr → Prop} {i : Nat} : (P.lp I i).ct env J = I (i + 1) env J := rfl
@[simp] theorem lp_er {I : Nat → En → Jr → Prop} {i : Nat} : (P.lp I i).er = P.er := rfl
@[simp] theorem Sx_seq : Sx P (sSeq a b n env J) ↔ Sx (P.th b n) (a n env J) := by
  unfold sSeq Po.th
  cases a n env J <;> first | exact Iff.rfl | (simp only [Ex_eq, Sx_eq]; exact Iff.rfl)
@[simp] theorem Sx_next : Sx P (sNext n env J) ↔ P.nx env J := by simp only [Ex_eq, Sx_eq]; exact Iff.rfl
@[simp] theorem Sx_break : Sx P (sBreak n env J) ↔ P.bk env J := by simp only [Ex_eq, Sx_eq]; exact Iff.rfl
@[simp] theorem Sx_cont : Sx P (sCont n env J) ↔ P.ct env J := by simp only [Ex_eq, Sx_eq]; exact Iff.rfl
@[simp] theorem Sx_expr : Sx P (sExpr f n env J) ↔ Ex (fun c fs J => P.er c fs env J) (f env J) fun _ J => P.nx env J := by
  unfold sExpr
  simp only [Sx_on, Sx_nx]
@[simp] theorem Sx_ret : Sx P (sRet f n env J) ↔ Ex (fun c fs J => P.er c fs env J) (f env J) fun h J => P.rt h J := by
  unfold sRet
  simp only [Sx_on, Sx_rt]
@[simp] theorem Sx_retN : Sx P (sRetN n env J) ↔ P.rt (.val .non) J := by simp only [Ex_eq, Sx_eq]; exact Iff.rfl
@[simp] theorem Sx_set {i : Nat} : Sx P (sSet i f n env J) ↔ Ex (fun c fs J => P.er c fs env J) (f env J) fun h J => P.nx (env.set i (some (norm h))) J := by
  unfold sSet
  simp only [Sx_on, Sx_nx]
theorem Sx_ite {c : Prop} [Decidable c] : Sx P (if c then .nx env J else .stuck) ↔ c ∧ P.nx env J := by by_cases h : c <;> simp [h]
@[simp] theorem Sx_new {i : Nat} : Sx P (sNew i f n env J) ↔ Ex (fun c fs J => P.er c fs env J) (f env J) fun h J => newQ h fun ds => n ≤ J.length ∧ P.nx (env.set i (some (.jar J.length))) (J ++ [ds]) := by
  unfold sNew
  rw [Sx_on]
  refine Ex_iff fun x J => ?_
  cases x with
  | val d => first | exact Iff.rfl | (simp only [Ex_eq, Sx_eq]; exact Iff.rfl)
  | jar k => first | exact Iff.rfl | (simp only [Ex_eq, Sx_eq]; exact Iff.rfl)
  | exc k => first | exact Iff.rfl | (simp only [Ex_eq, Sx_eq]; exact Iff.rfl)
  | newB _ _ => first | exact Iff.rfl | (simp only [Ex_eq, Sx_eq]; exact Iff.rfl)
  | new ds => exact Sx_ite
@[simp] theorem Sx_asg {t : TF} : Sx P (sAsg t f n env J) ↔ Ex (fun c fs J => P.er c fs env J) (f env J) fun h J => OpQ (toVal h) fun d => OpQ (t d env) fun e1 => P.nx e1 J := by
  unfold sAsg
  rw [Sx_on]
  refine Ex_iff fun x J => ?_
  cases e : toVal x with
  | none => first | exact Iff.rfl | (simp only [Ex_eq, Sx_eq]; exact Iff.rfl)
  | some d =>
    show Sx P (match t d env with | some e1 => .nx e1 J | none => .stuck) ↔ OpQ (t d env) fun e1 => P.nx e1 J
    cases e2 : t d env <;> first | exact Iff.rfl | (simp only [Ex_eq, Sx_eq]; exact Iff.rfl)
@[simp] theorem Sx_if : Sx P (sIf c a b n env J) ↔ Ex (fun c fs J => P.er c fs env J) (c env J) fun k J => if k = true then Sx P (a n env J) else Sx P (b n env J) := by
  unfold sIf
  rw [Sx_on]
  refine Ex_iff fun x J => ?_
  cases x <;> first | exact Iff.rfl | (simp only [Ex_eq, Sx_eq]; exact Iff.rfl)
@[simp] theorem Sx_for {it : IF} {t : TF} : Sx P (sFor it t a n env J) ↔ Ex (fun c fs J => P.er c fs env J) (it env J) fun ds J => Sx P (loopD t a n ds env J) := Sx_on
@[simp] theorem Sx_app {i : Nat} : Sx P (sApp i f n env J) ↔ jarQ env[i]? fun k => Ex (fun c fs J => P.er c fs env J) (f env J) fun h J => OpQ (toVal h) fun d => OpQ J[k]? fun ds => ds.length < big ∧ P.nx env (J.set k (ds ++ [d])) := by
  unfold sApp
  cases e : env[i]? with
  | none => first | exact Iff.rfl | (simp only [Ex_eq, Sx_eq]; exact Iff.rfl)
  | some o =>
    cases o with
    | none => first | exact Iff.rfl | (simp only [Ex_eq, Sx_eq]; exact Iff.rfl)
    | some z =>
      cases z with
      | val d => first | exact Iff.rfl | (simp only [Ex_eq, Sx_eq]; exact Iff.rfl)
      | new d => first | exact Iff.rfl | (simp only [Ex_eq, Sx_eq]; exact Iff.rfl)
      | exc k => first | exact Iff.rfl | (simp only [Ex_eq, Sx_eq]; exact Iff.rfl)
      | newB _ _ => first | exact Iff.rfl | (simp only [Ex_eq, Sx_eq]; exact Iff.rfl)
      | jar k =>
        rw [Sx_on]
        refine Ex_iff fun x J => ?_
        cases e1 : toVal x with
        | none => first | exact Iff.rfl | (simp only [Ex_eq, Sx_eq]; exact Iff.rfl)
        | some d =>
          unfold appEnd
          dsimp only [OpQ_some]
          cases e2 : J[k]? with
          | none => first | exact Iff.rfl | (simp only [Ex_eq, Sx_eq]; exact Iff.rfl)
          | some ds => exact Sx_ite
@[simp] theorem Sx_setI {i : Nat} {ix : EF} : Sx P (sSetI i ix f n env J) ↔ jarQ env[i]? fun k => Ex (fun c fs J => P.er c fs env J) (f env J) fun h J => Ex (fun c fs J => P.er c fs env J) (ix env J) fun hj J =>
    OpQ (toVal h) fun d => intQ hj fun j => OpQ J[k]? fun ds => OpQ (ixN ds.length j) fun m => P.nx env (J.set k (ds.set m d)) := by
  unfold sSetI
  cases e : env[i]? with
  | none => first | exact Iff.rfl | (simp only [Ex_eq, Sx_eq]; exact Iff.rfl)
  | some o =>
    cases o with
    | none => first | exact Iff.rfl | (simp only [Ex_eq, Sx_eq]; exact Iff.rfl)
    | some z =>
      cases z with
      | val d => first | exact Iff.rfl | (simp only [Ex_eq, Sx_eq]; exact Iff.rfl)
      | new d => first | exact Iff.rfl | (simp only [Ex_eq, Sx_eq]; exact Iff.rfl)
      | exc k => first | exact Iff.rfl | (simp only [Ex_eq, Sx_eq]; exact Iff.rfl)
      | newB _ _ => first | exact Iff.rfl | (simp only [Ex_eq, Sx_eq]; exact Iff.rfl)
      | jar k =>
        dsimp only
        simp only [Sx_on]
        refine Ex_iff fun x J => Ex_iff fun y J => ?_
        cases e1 : toVal x with
        | none => first | exact Iff.rfl | (simp only [Ex_eq, Sx_eq]; exact Iff.rfl)
        | some d =>
          cases y with
          | jar _ => first | exact Iff.rfl | (simp only [Ex_eq, Sx_eq]; exact Iff.rfl)
          | exc _ => first | exact Iff.rfl | (simp only [Ex_eq, Sx_eq]; exact Iff.rfl)
          | newB _ _ => first | exact Iff.rfl | (simp only [Ex_eq, Sx_eq]; exact Iff.rfl)
          | new _ => first | exact Iff.rfl | (simp only [Ex_eq, Sx_eq]; exact Iff.rfl)
          | val dj =>
            cases dj with
            | int j =>
              show Sx P (match J[k]? with
                | some ds => (match ixN ds.length j with | some m => .nx env (J.set k (ds.set m d)) | none => .stuck)
                | none => .stuck) ↔ OpQ J[k]? fun ds => OpQ (ixN ds.length j) fun m => P.nx env (J.set k (ds.set m d))
              cases e2 : J[k]? with
              | none => first | exact Iff.rfl | (simp only [Ex_eq, Sx_eq]; exact Iff.rfl)
              | some ds =>
                show Sx P (match ixN ds.length j with | some m => .nx env (J.set k (ds.set m d)) | none => .stuck) ↔ OpQ (ixN ds.length j) fun m => P.nx env (J.set k (ds.set m d))
                cases e3 : ixN ds.length j <;> first | exact Iff.rfl | (simp only [Ex_eq, Sx_eq]; exact Iff.rfl)
            | _ => first | exact Iff.rfl | (simp only [Ex_eq, Sx_eq]; exact Iff.rfl)
theorem Sx.mono {r : RS} {P' : Po} (h : Sx P r) (m1 : ∀ e J, P.nx e J → P'.nx e J) (m2 : ∀ h J, P.rt h J → P'.rt h J) (m3 : ∀ e J, P.bk e J → P'.bk e J) (m4 : ∀ e J, P.ct e J → P'.ct e J) (m5 : ∀ c fs e J, P.er c fs e J → P'.er c fs e J) : Sx P' r := by
  rw [Sx_eq] at h ⊢
  cases r with
  | nx e J => exact m1 _ _ h
  | rt h' J => exact m2 _ _ h
  | bk e J => exact m3 _ _ h
  | ct e J => exact m4 _ _ h
  | err c fs e J => exact m5 _ _ _ _ h
  | stuck => exact h
/-- a loop, by an invariant -/
theorem Sx_loop {t : TF} {ds : List D} (I : Nat → En → Jr → Prop) (h0 : I 0 env J)
    (hs : ∀ i d env J, ds[i]? = some d → I i env J → OpQ (t d env) fun e1 => Sx (P.lp I i) (a n e1 J)) (hd : ∀ env J, I ds.length env J → P.nx env J) : Sx P (loopD t a n ds env J) := by
  induction ds generalizing env J I with
  | nil => exact Sx_nx.mpr (hd _ _ h0)
  | cons d ds ih =>
    have h2 := hs 0 d env J rfl h0
    unfold loopD
    cases ht : t d env with
    | none => rw [ht] at h2; exact h2.elim
    | some e1 =>
    rw [ht] at h2
    have h2 : Sx (P.lp I 0) (a n e1 J) := h2
    dsimp only
    cases r : a n e1 J with
    | nx e J2 => rw [r] at h2; exact ih (fun i => I (i + 1)) (Sx_nx.mp h2) (fun i d env J e => hs (i + 1) d env J e) hd
    | ct e J2 => rw [r] at h2; exact ih (fun i => I (i + 1)) (Sx_ct.mp h2) (fun i d env J e => hs (i + 1) d env J e) hd
    | bk e J2 => rw [r] at h2; exact Sx_nx.mpr (Sx_bk.mp h2)
    | rt h J2 => rw [r] at h2; exact ⟨h2.out⟩
    | err c fs e J2 => rw [r] at h2; exact ⟨h2.out⟩
    | stuck => rw [r] at h2; exact (Sx_stuck.mp h2).elim
/-- a loop, what the body leads to unnamed -/
structure Lp (P : Po) (I : Nat → En → Jr → Prop) (i : Nat) (P' : Po) : Prop where
  nx : ∀ {e : En} {J : Jr}, I (i + 1) e J → P'.nx e J
  ct : ∀ {e : En} {J : Jr}, I (i + 1) e J → P'.ct e J
  bk : ∀ {e : En} {J : Jr}, P.nx e J → P'.bk e J
  rt : P'.rt = P.rt
  er : P'.er = P.er
theorem Sx_loopP {t : TF} {ds : List D} (I : Nat → En → Jr → Prop) (h0 : I 0 env J)
    (hs : ∀ (i : Nat) (d : D) (env : En) (J : Jr) (P' : Po), Lp P I i P' → ds[i]? = some d → I i env J → OpQ (t d env) fun e1 => Sx P' (a n e1 J)) (hd : ∀ env J, I ds.length env J → P.nx env J) : Sx P (loopD t a n ds env J) :=
  Sx_loop I h0 (fun i d env J e h => hs i d env J (P.lp I i) ⟨id, id, id, rfl, rfl⟩ e h) hd
/-- a comprehension, by an invariant -/
theorem Ex_lcX {it : IF} {t : TF} {own : List Nat} {Q : HV → Jr → Prop} (h : Ex X (it env J) fun ds J => Ex nX (lcLoop t c f (wipeE env own) ds [] J) Q) : Ex X (eLc it t c f own env J) Q := by
  unfold eLc
  rw [Ex_bind]
  refine h.mono fun x J z => ?_
  cases e : lcLoop t c f (wipeE env own) x [] J with
  | ok a J => rw [e] at z; exact ⟨z.out⟩
  | err c fs J => rw [e] at z; exact z.out.elim
  | stuck => rw [e] at z; exact z.out.elim
theorem Ex_lcLoop {t : TF} {ds : List D} {Q : HV → Jr → Prop} {acc : List D} (I : Nat → List D → Jr → Prop) (h0 : I 0 acc J)
    (hs : ∀ i d acc J, ds[i]? = some d → I i acc J → OpQ (t d env) fun e1 => Ex X (c e1 J) fun b J => if b = true then Ex X (f e1 J) fun h J => OpQ (toVal h) fun y => acc.length < big ∧ I (i + 1) (acc ++ [y]) J else I (i + 1) acc J) (hd : ∀ acc J, I ds.length acc J → Q (.new acc) J) : Ex X (lcLoop t c f env ds acc J) Q := by
  induction ds generalizing acc J I with
  | nil => exact Ex_ok.mpr (hd _ _ h0)
  | cons d ds ih =>
    have h2 := hs 0 d acc J rfl h0
    unfold lcLoop
    cases ht : t d env with
    | none => rw [ht] at h2; exact h2.elim
    | some e1 =>
    rw [ht] at h2
    have h2 : Ex X (c e1 J) fun b J => if b = true then Ex X (f e1 J) fun h J => OpQ (toVal h) fun y => acc.length < big ∧ I 1 (acc ++ [y]) J else I 1 acc J := h2
    dsimp only
    rw [Ex_bind]
    refine h2.mono fun b J h2 => ?_
    cases b with
    | false => exact ih (fun i => I (i + 1)) (by simpa using h2) (fun i d acc J e => hs (i + 1) d acc J e) hd
    | true =>
      rw [if_pos rfl] at h2 ⊢
      rw [Ex_bind]
      refine h2.mono fun h J q => ?_
      cases e : toVal h with
      | none => rw [e] at q; exact q.elim
      | some y =>
      rw [e] at q
      obtain ⟨hb, q⟩ := q
      dsimp only
      rw [if_pos hb]
      exact ih (fun i => I (i + 1)) q (fun i d acc J e => hs (i + 1) d acc J e) hd
/-- a def -/
def dfX (X : XP) (m : Nat) (Q : HV → Jr → Prop) : Po where
  nx := fun _ J1 => m ≤ J1.length ∧ Q (.val .non) (J1.take m)
  rt := fun h J1 => m ≤ J1.length ∧ Ex X (outH m J1 h) Q
  bk := fun _ _ => False
  ct := fun _ _ => False
  er := fun c fs _ J1 => m ≤ J1.length ∧ X c fs (J1.take m)
theorem Ex_mkF {m : Nat} {hs : List HV} {Q : HV → Jr → Prop} : Ex X (mkF m a hs J) Q ↔ Sx (dfX X J.length Q) (a J.length (startE m hs) J) := by
  unfold mkF
  cases r : a J.length (startE m hs) J with
  | nx e J1 =>
    rw [Sx_nx]
    show Ex X (if J.length ≤ J1.length then .ok (.val .non) (J1.take J.length) else .stuck) Q ↔ (J.length ≤ J1.length ∧ _)
    by_cases hc : J.length ≤ J1.length
    · rw [if_pos hc]; exact ⟨fun z => ⟨hc, by first | exact z | exact z.out⟩, fun z => by first | exact z.2 | exact ⟨z.2⟩⟩
    · rw [if_neg hc]; exact ⟨fun z => z.out.elim, fun z => (hc z.1).elim⟩
  | rt h J1 =>
    rw [Sx_rt]
    show Ex X (if J.length ≤ J1.length then outH J.length J1 h else .stuck) Q ↔ (J.length ≤ J1.length ∧ _)
    by_cases hc : J.length ≤ J1.length
    · rw [if_pos hc]; exact ⟨fun z => ⟨hc, by first | exact z | exact z.out⟩, fun z => by first | exact z.2 | exact ⟨z.2⟩⟩
    · rw [if_neg hc]; exact ⟨fun z => z.out.elim, fun z => (hc z.1).elim⟩
  | bk e J1 => first | exact Iff.rfl | (simp only [Ex_eq, Sx_eq]; exact Iff.rfl)
  | ct e J1 => first | exact Iff.rfl | (simp only [Ex_eq, Sx_eq]; exact Iff.rfl)
  | err c fs e J1 =>
    rw [Sx_err]
    show Ex X (if J.length ≤ J1.length then .err c fs (J1.take J.length) else .stuck) Q ↔ (J.length ≤ J1.length ∧ _)
    by_cases hc : J.length ≤ J1.length
    · rw [if_pos hc]; exact ⟨fun z => ⟨hc, by first | exact z | exact z.out⟩, fun z => by first | exact z.2 | exact ⟨z.2⟩⟩
    · rw [if_neg hc]; exact ⟨fun z => z.out.elim, fun z => (hc z.1).elim⟩
  | stuck => first | exact Iff.rfl | (simp only [Ex_eq, Sx_eq]; exact Iff.rfl)
@[simp] theorem dfX_rt {m : Nat} {Q : HV → Jr → Prop} {h : HV} : (dfX X m Q).rt h J = (m ≤ J.length ∧ Ex X (outH m J h) Q) := rfl
@[simp] theorem dfX_nx {m : Nat} {Q : HV → Jr → Prop} : (dfX X m Q).nx env J = (m ≤ J.length ∧ Q (.val .non) (J.take m)) := rfl
@[simp] theorem dfX_er {m : Nat} {Q : HV → Jr → Prop} {cl : Str} {fs : List (Str × D)} : (dfX X m Q).er cl fs env J = (m ≤ J.length ∧ X cl fs (J.take m)) := rfl
@[simp] theorem outH_val {m : Nat} {d : D} : outH m J (.val d) = .ok (.val d) (J.take m) := rfl
@[simp] theorem outH_new {m : Nat} {ds : List D} : outH m J (.new ds) = .ok (.new ds) (J.take m) := rfl
theorem outH_jar {m k : Nat} {ds : List D} (h1 : m ≤ k) (h2 : J[k]? = some ds) (h3 : ds.all isP = true) : outH m J (.jar k) = .ok (.new ds) (J.take m) := by
  have : ¬ k < m := by omega
  unfold outH
  dsimp only
  rw [if_neg this, h2]
  exact if_pos h3
end
end L2.Pz
set_option Elab.async false
set_option linter.all false
set_option maxRecDepth 100000
set_option maxHeartbeats 4000000
set_option autoImplicit false
namespace L2.Pz
open PySem
theorem log2_lt' {n k : Nat} (h : n < 2 ^ k) (hk : 0 < k) : n.log2 < k := by
  by_cases h0 : n = 0
  · subst h0; simpa using hk
  · exact (Nat.log2_lt h0).mpr h
theorem rgD_len {lo : Int} {n : Nat} : (rgD lo n).length = n := by unfold rgD; simp
theorem rgD_get {lo : Int} {n i : Nat} {d : D} (h : (rgD lo n)[i]? = some d) : d = .int (lo + (i : Nat)) ∧ i < n := by
  unfold rgD at h
  rw [List.getElem?_map] at h
  by_cases hi : i < n
  · rw [List.getElem?_range hi] at h
    simp at h
    exact ⟨h.symm, hi⟩
  · rw [List.getElem?_eq_none (by simpa using hi)] at h
    cases h
theorem sIx_to {n : Nat} {i : Int} (h0 : 0 ≤ i) : HT.sIx n n (some i) = min i.toNat n := by
  obtain ⟨k, rfl⟩ := Int.eq_ofNat_of_zero_le h0
  exact HT.sIx_nat n n k
theorem sIx_from {n d : Nat} {i : Int} (h0 : 0 ≤ i) : HT.sIx n d (some i) = min i.toNat n := by
  obtain ⟨k, rfl⟩ := Int.eq_ofNat_of_zero_le h0
  exact HT.sIx_nat n d k
theorem cutD_to {ds : List D} {i : Int} (h0 : 0 ≤ i) : cutD ds none (some i) = ds.take i.toNat := by
  unfold cutD
  rw [HT.sIx_none, sIx_to h0, List.drop_zero, Nat.sub_zero]
  by_cases h : i.toNat ≤ ds.length
  · rw [Nat.min_eq_left h]
  · rw [Nat.min_eq_right (by omega), List.take_length, List.take_of_length_le (by omega)]
theorem cutD_from {ds : List D} {i : Int} (h0 : 0 ≤ i) : cutD ds (some i) none = ds.drop i.toNat := by
  unfold cutD
  rw [HT.sIx_none, sIx_from h0]
  by_cases h : i.toNat ≤ ds.length
  · rw [Nat.min_eq_left h, List.take_of_length_le (by rw [List.length_drop]; exact Nat.le_refl _)]
  · rw [Nat.min_eq_right (by omega), Nat.sub_self, List.take_zero, List.drop_of_length_le (by omega)]
theorem atI_in {α : Type} {xs : List α} {i : Int} (h0 : 0 ≤ i) (h1 : i < xs.length) : atI xs i = some (xs[i.toNat]'(by omega)) := by
  obtain ⟨k, rfl⟩ := Int.eq_ofNat_of_zero_le h0
  have hk : k < xs.length := by omega
  exact atI_nat (by simp)
theorem ixN_in {n : Nat} {i : Int} (h0 : 0 ≤ i) (h1 : i < n) : ixN n i = some i.toNat := by
  unfold ixN
  rw [if_pos h0, if_pos h1]
theorem shp_int {i : Int} : shp (.int i) = true := rfl
theorem shp_str {x : Str} : shp (.str x) = PyData.strOk x := by
  unfold shp toPy SeqAt.shaped PyData.canLay0 PyData.depth
  simp
@[simp] theorem dEq_int {i j : Int} : dEq (.int i) (.int j) = some (.val (.bl (i == j))) := by
  unfold dEq
  rw [shp_int, shp_int]
  rfl
@[simp] theorem dNe_int {i j : Int} : dNe (.int i) (.int j) = some (.val (.bl (!(i == j)))) := by
  unfold dNe
  rw [shp_int, shp_int]
  rfl
theorem dEq_str {x y : Str} (hx : PyData.strOk x = true) (hy : PyData.strOk y = true) : dEq (.str x) (.str y) = some (.val (.bl (x == y))) := by
  unfold dEq
  rw [shp_str, shp_str, hx, hy]
  rfl
section
variable {jc : List D} {T : Jr} {x y z : List D}
@[simp] theorem cell_get1 : (jc :: (T ++ [x]))[T.length + 1]? = some x := by simp
@[simp] theorem cell_set1 : (jc :: (T ++ [x])).set (T.length + 1) y = jc :: (T ++ [y]) := by simp
end
end L2.Pz
set_option Elab.async false
set_option linter.all false
set_option maxRecDepth 100000
set_option maxHeartbeats 4000000
set_option autoImplicit false
/-! own exceptions whose __init__ says super().__init__(..) and keeps its arguments -/
namespace PySem
namespace SxX
open PySem.W PySem.Calls PyProof.Rows PySem.HandSPX
/-- what the written part says of the class at C and of its __init__ at fI, whose cell of __class__ is at cc, whose code at cda -/
structure SxC (P : Program) (K : Frag) (mg : Str → Option Value) (x : Str) (C fI : Addr) (ns : List Str) : Prop where
  gC : mg x = some (.ref C)
  cls : ∃ nm q N bs bm sn sub ab col dd k0 k1 k2 k3 k5, K.lookup C = some (excClassObj nm q C N bs bm true sn sub ab col dd k0 k1 k2 k3 k5 "ValueError.__new__") ∧ refsVE bm = true
  sa : findIn K (.ref C) "__setattr__" = some (some (.builtin "object.__setattr__"))
  noN : ∀ n ∈ ns, findIn K (.ref C) n = some none
  iC : findIn K (.ref C) "__init__" = some (some (.ref fI))
  tI : typeIn K (.ref fI) = some (.type "function")
  kC : keepIn K (.ref C) = true
  exC : subIn K (.ref C) (.type "BaseException") = some true
  veC : subIn K (.ref C) (.type "ValueError") = some true
  tyC : typeIn K (.ref C) = some (.type "type")
  sup : ks_superIn K C C "__init__" = some (some (.builtin "ValueError.__init__"))
  own : mroIn K C (.ref C) = some true
  opq : nsIn K cStatics "thirdparty.any" = some none
  gS : mg "super" = none
  top : (P.main.scope.names.lookup ("super" : Str)).isSome = false
theorem one_size (v : Value) : [v].length ≤ sizeLine := by
  rw [sizeLine_eq]
  exact (by decide : 1 ≤ 16777216)
theorem two_size (v u : Value) : [v, u].length ≤ sizeLine := by
  rw [sizeLine_eq]
  exact (by decide : 2 ≤ 16777216)
section
variable {prog : Program} {w : World} {A : Around} {E : Value → Shared → Prop} {h : Heap} {g : Array GenState} {d : Drawn} {t : Nat} {os : OsState} {K : Frag}
/-- super().__init__(..) bound: called -/
theorem call_mw {C e t0 u : Addr} {rest : List Value} {Q : Value → Shared → Prop}
    (hC : ∃ nm q N bs bm sn sub ab col dd k0 k1 k2 k3 k5, K.lookup C = some (excClassObj nm q C N bs bm true sn sub ab col dd k0 k1 k2 k3 k5 "ValueError.__new__") ∧ refsVE bm = true) (X : K.In h)
    (he : h.get? e = some (excO C t0)) (hu : h.get? u = some (kxs_mw "ValueError.__init__" e)) (hrest : rest.length ≤ sizeLine)
    (hq : ∀ h' t1, (∀ b o, b ≠ e → h.get? b = some o → h'.get? b = some o) → h'.get? e = some (excO C t1) → Q .none ⟨h', g, d, t, os⟩) :
    wpAny (model prog w) A (call (.ref u) rest) Q E ⟨h, g, d, t, os⟩ := by
  obtain ⟨nm, q, N, bs, bm, sn, sub, ab, col, dd, k0, k1, k2, k3, k5, hC, hbm⟩ := hC
  have hC := X _ _ hC
  have FB := F.excBase_ValueError
  refine wpAny_call (codeAny_of_tree ?_)
  show wpAny _ A.in1 (callAny (.ref u) ⟨rest, []⟩) _ _ _
  simp only [callAny]
  refine wpAny_bind (wpAny_load hu ?_)
  simp only [kxs_mw, show (Value.type "method-wrapper" == Value.type "method" || Value.type "method-wrapper" == Value.type "builtin_function_or_method" || Value.type "method-wrapper" == Value.type "method-wrapper") = true by decide, if_true]
  refine KFB.if_so (by decide) ?_
  refine wpAny_bind (check_bound_init FB.toExcCallFacts hC he rfl ?_)
  refine wpAny_bind (wpAny_pure (wpAny_pure ?_))
  refine ⟨plainId_quiet FB.init.plain _, codeAny_builtin FB.initEntry ?_⟩
  rw [Around.under_plainId FB.init.plain _]
  wp_walk
  refine hq _ h.objs.size (fun b o hb ho => ?_) ?_
  · rw [Heap.get?_update_other _ _ (Ne.symm hb)]
    exact Heap.get?_push_of_some _ ho
  · rw [Heap.get?_update_self _ (Heap.get?_push_of_some _ he) rfl]
    rfl
end
section
variable {prog : Program} {w : World} {A : Around} {R : Result → Shared → Prop} {s : Shared} {K : Frag} {mg : Str → Option Value}
structure InitEnd (h h' : Heap) (x C dx : Addr) (m : Str → Option Value) : Prop where
  keep : ∀ b o, b ≠ x → h.get? b = some o → h'.get? b = some o
  obj : ∃ t1 : Addr, h'.get? x = some { cls := .ref C, dict := some dx, data := .fields #[.ref t1, .none, .none, .none, .bool false, .none] }
  dbig : h.objs.size ≤ dx
  dne : dx ≠ x
  ns : h'.Ns1 dx m
/-- a made exception -/
structure OwnMade (h h' : Heap) (e C d : Addr) (m : Str → Option Value) : Prop where
  keep : ∀ b o, h.get? b = some o → h'.get? b = some o
  new : h.objs.size ≤ e
  obj : ∃ oe vs, h'.get? e = some oe ∧ oe.cls = .ref C ∧ oe.dict = some d ∧ oe.data = .fields vs ∧ vs[1]? = some .none
  dbig : h.objs.size ≤ d
  dne : d ≠ e
  ns : h'.Ns1 d m
theorem ldE {M : Model} {env : Env} {E : Value → Shared → Prop} {m : Str → Option Value} {x : Str} {pos : Pos} {v : Value} {Q : Value → Shared → Prop} (hn : s.heap.Ns env.locals m) (hv : m x = some v) (h : Q v s)
    (hk : env.scope.kind = .function) (hl : env.kindOf x = some .local) (hd : (x == ("__debug__" : Str)) = false) : wpAny M A (eval (.Name x pos) env) Q E s := wpAny_Name (wpAny_loadName_local hk hl hn hv h) hd
theorem in_but {h h' : Heap} {x : Addr} (X : K.In h) (hx : K.lookup x = none) (k : ∀ b o, b ≠ x → h.get? b = some o → h'.get? b = some o) : K.In h' := fun a o z =>
  k a o (fun y => by rw [y, hx] at z; cases z) (X a o z)
theorem cw1 {M : Model} {E : Value → Shared → Prop} {pos : Pos} {env : Env} {a : Expr} {rest : List Expr} {u x : Addr} {i : String} {Q : Value → Shared → Prop}
    (h : wpAny M A (spliced (backTo pos (starEach (a :: rest) env))) (fun vs s₁ => KxsAt i u x s₁.heap ∧ wpAny M A (call (.ref u) vs) Q E s₁) E s)
    (he : starEach (a :: rest) env = (false, eval a env) :: starEach rest env) (hplain : (backTo pos (starEach rest env)).any (·.1) = false) :
    wpAny M A (callWith pos (.ref u) [] (backTo pos (starEach (a :: rest) env)) []) Q E s := by
  rw [he] at h ⊢
  refine kxs_callWith (i := i) (x := x) (by show (false || (backTo pos (starEach rest env)).any (·.1)) = false; rw [hplain]; rfl) ?_
  exact evalArgs_plain h
theorem mc_eq {o : Expr} {name : Str} {apos pos : Pos} {args : List Expr} {env : Env} (hp : (apos.endLine == pos.line) = true) (hf : methodCallForm (args.length + 0) (backTo pos (starEach args env)) [] = true) :
    eval (.Call (.Attribute o name apos) args [] pos) env = (do
      let ov ← attributeBase o name env (eval o env)
      standAt apos.atName
      let (f, first) ← holding [ov] (getMethod ov name (do return (← importBound o env).getD true))
      callWith pos f first (backTo pos (starEach args env)) []) := by
  show (do
    let ov ← attributeBase o name env (eval o env)
    standAt apos.atName
    methodCall o name apos pos env ov (args.length + 0) (backTo pos (starEach args env)) []) = _
  have hm : methodCallPos (methodCallForm (args.length + 0) (backTo pos (starEach args env)) []) o env apos pos = pure pos := by
    unfold methodCallPos
    rw [if_pos (by rw [hp, Bool.or_true])]
  unfold methodCall
  rw [hm, hf]
  rfl
end
def iA_at (p1 p2 : Pos) : Arguments := { posonlyargs := [], args := [{ arg := "self", annotation := none, pos := p1 }, { arg := "at", annotation := none, pos := p2 }], vararg := none, kwonlyargs := [], kw_defaults := [], kwarg := none, defaults := [] }
def iB_at (b0 b1 b2 b3 b4 a0 c0 d0 e0 f0 : Pos) : List Stmt := [.Expr (.Call (.Attribute (.Call (.Name "super" b0) [] [] b1) "__init__" b2) [.Name "at" a0] [] b3) b4, .Assign [.Attribute (.Name "self" c0) "at" d0] (.Name "at" e0) f0]
def iS_at : Scope := { kind := .function, names := [(PySem.Str.ofString "self", .local), (PySem.Str.ofString "at", .local), (PySem.Str.ofString "__class__", .free), (PySem.Str.ofString "super", .globalImplicit)], isGenerator := false, isCoroutine := false, more := [] }
/-- what the written part says of its __init__ -/
structure Fn_at (P : Program) (K : Frag) (C fI : Addr) (qual : Str) : Prop where
  ex : ∃ (cc cda : Addr) (p1 p2 b0 b1 b2 b3 b4 a0 c0 d0 e0 f0 : Pos) (oc kV doc pm ct ccl cl : Value) (od an cdd cld : Option Addr) (osl ccs csl : Array (Option Value)) (vs : Array Value) (file : Str) (tf : Tok),
    K.lookup fI = some ⟨oc, od, .func (ksFn "__init__" qual (iA_at p1 p2) (iB_at b0 b1 b2 b3 b4 a0 c0 d0 e0 f0) iS_at .none kV doc pm an (.ref cda) ct cc), osl⟩ ∧ codeIn K (.ref cda) qual = true ∧ K.lookup cda = some ⟨ccl, cdd, .fields vs, ccs⟩ ∧ vs[2]? = some (.str file tf) ∧ ((P.main.file : Str) == file) = true ∧
    K.lookup cc = some ⟨cl, cld, .cell (some (.ref C)), csl⟩ ∧ (b2.endLine == b3.line) = true
section
variable {prog : Program} {w : World} {A : Around} {R : Result → Shared → Prop} {s : Shared} {K : Frag} {mg : Str → Option Value}
theorem init_at {C fI e t0 : Addr} {u0 : Value} {qual x : Str} (T : SxC prog K mg x C fI [("at" : Str)]) (FI : Fn_at prog K C fI qual)
    (X : K.In s.heap) (G : s.heap.Ns mainGlobals mg) (Gb : ∃ mb, s.heap.Ns builtinsNs mb ∧ ∀ x : Str, x ≠ "__name__" → mb x = bootBuiltins x) (hlim : s.heap.NoLimit) (hx : s.heap.get? e = some (excO C t0)) (hnx : K.lookup e = none) (hroom : A.depth < recursionLimit)
    (hq : ∀ h' tk dx, InitEnd s.heap h' e C dx (fun y : Str => if y = "at" then some u0 else none) → R (.ok (.ret .none)) { s with heap := h', toks := tk }) : codeAny (model prog w) A (.call (.ref fI) ⟨[.ref e, u0], []⟩) R s := by
  obtain ⟨cc, cda, p1, p2, b0, b1, b2, b3, b4, a0, c0, d0, e0, f0, oc, kV, doc, pm, ct, ccl, cl, od, an, cdd, cld, osl, ccs, csl, vs, file, tf, hf, hcd, hcode, hvs, hfile, hcell, hp⟩ := FI.ex
  have hT := T.cls
  obtain ⟨nm, q, N, bs, bm, sn, sub, ab, col, dd, k0, k1, k2, k3, k5, hC, hbm⟩ := T.cls
  have hcl : clsIn K C = some { name := nm, bases := bs, mro := .ref C :: bm, ns := N, qualname := q, hasDict := true, slotNames := sn, subclasses := sub, abstract := ab, collection := col, hasDel := false } := by unfold clsIn; rw [hC] <;> rfl
  obtain ⟨mb, Gb1, Gb2⟩ := Gb
  have hne : e ≠ C := fun z => by rw [z, hC] at hnx; cases hnx
  refine ks_codeAny_call_defAt (fd := ksFn "__init__" qual (iA_at p1 p2) (iB_at b0 b1 b2 b3 b4 a0 c0 d0 e0 f0) iS_at .none kV doc pm an (.ref cda) ct cc) (body := iB_at b0 b1 b2 b3 b4 a0 c0 d0 e0 f0) (binds := [(("self" : Str), Value.ref e), (("at" : Str), u0)]) hroom (X _ _ hf) rfl hlim (codeRec_of X hcd) rfl (BindsTo.of_eq (by first | rfl | with_unfolding_all rfl)) (show ∀ x ∈ iS_at.names, x.2 ≠ .cell by decide) (by intro y hy; have hy : y = (("self" : Str), Value.ref e) ∨ y = (("at" : Str), u0) := (by simpa using hy); (rcases hy with rfl | rfl <;> rfl)) (fun h₁ hns hk₁ => ?_)
  have X1 : K.In h₁ := X.keeps hk₁
  have hx1 := hk₁ _ _ hx
  have hxL : s.heap.objs.size ≠ e := Nat.ne_of_gt (Heap.lt_size hx)
  refine ks_wpAt_execs_cons (ks_wpAt_Expr_any (ks_wpAt_MethodCall ?_ (mc_eq hp rfl)))
  refine ks_wpAt_super_base (env := ksEnv qual iS_at s.heap.objs.size fI (.ref cda) cc) rfl rfl (by decide +kernel) rfl (X1 _ _ hf) rfl rfl rfl (X1 _ _ hcode) rfl hvs hfile T.top ?_
  refine ks_loadName_global rfl rfl (loadGlobal_builtin (env := ksEnv qual iS_at s.heap.objs.size fI (.ref cda) cc) (G.keeps hk₁) T.gS (Gb1.keeps hk₁) ((Gb2 _ (by decide +kernel)).trans (by first | rfl | kernel_rfl)) ⟨rfl, ?_⟩)
  refine wpAny_loadName_free rfl rfl rfl ⟨_, X1 _ _ hcell, rfl⟩ ?_
  refine wpAny_loadName_local rfl rfl hns rfl ?_
  refine ks_wpAny_isType_cls (X1 _ _ hC) rfl ⟨rfl, ?_⟩
  refine ks_wpAny_call_super (X1 _ _ hC) rfl hx1 rfl (fun c z => by cases z) (looks_mroIn X1 T.own) (fun h2 e2 k2 => ?_)
  have X2 : K.In h2 := X1.keeps k2
  have hx2 := k2 _ _ hx1
  have I2 : InstAt h2 e (excO C t0) C none := ⟨hx2, rfl, rfl, trivial⟩
  have hm := T.sup
  unfold ks_superIn at hm
  rw [hcl] at hm
  refine kxs_getMethod kxs_ValueError e2 (looks_opaque X2 T.opq) (l₀ := .ref C :: bm) ((looks_clsIn X2 hcl).andThen .now) rfl X2 hm (I2.type.andThen (looks_subIn X2 T.veC)) hne (by decide +kernel) ?_
  have k3 : ∀ b o, h2.get? b = some o → (h2.push (kxs_mw "ValueError.__init__" e)).get? b = some o := fun b o z => Heap.get?_push_of_some _ z
  have hu3 : (h2.push (kxs_mw "ValueError.__init__" e)).get? h2.objs.size = some (kxs_mw "ValueError.__init__" e) := Heap.get?_push_at rfl rfl
  have hn3 := (hns.keeps k2).keeps k3
  have X3 := X2.keeps k3
  have hx3 := k3 _ _ hx2
  show wpAny _ _ (callWith b3 (.ref h2.objs.size) [] (backTo b3 (starEach [.Name "at" a0] _)) []) _ _ _
  refine cw1 (i := "ValueError.__init__") (x := e) (spliced_more (ldE hn3 rfl (spliced_none ⟨hu3, ?_⟩) rfl rfl (by decide +kernel)) rfl) rfl rfl
  refine call_mw hT X3 hx3 hu3 (one_size _) fun h4 t1 k4 hx4 => ?_
  have k4' : ∀ b o, b ≠ e → s.heap.get? b = some o → h4.get? b = some o := fun b o hb z => k4 b o hb (k3 b o (k2 b o (hk₁ b o z)))
  have X4 : K.In h4 := in_but X hnx k4'
  have hn4 : h4.Ns s.heap.objs.size (fun x => List.lookup x ([(("self" : Str), Value.ref e), (("at" : Str), u0)]).reverse) := by
    exact hn3.at fun o q => k4 _ _ hxL q
  show wpAt _ _ _ (execs _ _) _ _ _
  refine wpAt_of_wpAny (wpAny_execs_cons (plainObj_wpAny_Assign_Attribute ?_))
  refine ldE hn4 rfl (ldE hn4 rfl ?_ rfl rfl (by decide +kernel)) rfl rfl (by decide +kernel)
  refine set_plain X4 (ox := excO C t1) (od := none) ⟨hx4, rfl, rfl, trivial⟩ T.sa ?_
  refine exc_osa X4 hx4 hcl (show refsVE (.ref C :: bm) = true from hbm) rfl (T.noN _ (by simp)) (fun h5 tk5 dx k5 dn dne hx5 hn5 => ?_)
  show wpAny _ _ (execs _ _) _ _ _
  have hbig : s.heap.objs.size ≤ dx := Nat.le_of_lt (Nat.lt_of_lt_of_le hn4.lt dn)
  exact wpAny_execs_nil (hq h5 tk5 dx ⟨fun b o hb z => k5 b o hb (k4' b o hb z), ⟨t1, hx5⟩, hbig, dne, hn5⟩)
theorem made_at {C fI : Addr} {u0 : Value} {qual x : Str} (T : SxC prog K mg x C fI [("at" : Str)]) (FI : Fn_at prog K C fI qual) (X : K.In s.heap) (G : s.heap.Ns mainGlobals mg)
    (Gb : ∃ mb, s.heap.Ns builtinsNs mb ∧ ∀ x : Str, x ≠ "__name__" → mb x = bootBuiltins x) (hlim : s.heap.NoLimit) (hroom : A.depth + 1 < recursionLimit)
    (hq : ∀ h' tk e d, OwnMade s.heap h' e C d (fun y : Str => if y = "at" then some u0 else none) → R (.ok (.ret (.ref e))) { s with heap := h', toks := tk }) : codeAny (model prog w) A (.call (.ref C) ⟨[u0], []⟩) R s := by
  obtain ⟨nm, q, N, bs, bm, sn, sub, ab, col, dd, k0, k1, k2, k3, k5, hC, hbm⟩ := T.cls
  obtain ⟨hp, g, dr, tk, os⟩ := s
  have k : ∀ b o, hp.get? b = some o → ((hp.push (kdv_tup [u0])).push (excO C hp.objs.size)).get? b = some o := fun b o e => Heap.get?_push_of_some _ (Heap.get?_push_of_some _ e)
  have hget : ((hp.push (kdv_tup [u0])).push (excO C hp.objs.size)).get? (hp.objs.size + 1) = some (excO C hp.objs.size) := by heap_get
  have hnx : K.lookup (hp.objs.size + 1) = none := by
    cases e : K.lookup (hp.objs.size + 1) with
    | none => rfl
    | some o =>
      have z : hp.get? (hp.objs.size + 1) = some o := X _ _ e
      exact absurd (Nat.lt_of_succ_lt (Heap.lt_size z)) (Nat.lt_irrefl _)
  obtain ⟨mb, Gb1, Gb2⟩ := Gb
  refine call_own F.excBase_ValueError (fun X => refsVE_contains X bm hbm) (X _ _ hC) (looks_findIn X T.iC) (fun self => bind_fn X self T.tI) (one_size _) ?_
  refine init_at (s := ⟨(hp.push (kdv_tup [u0])).push (excO C hp.objs.size), g, dr, tk, os⟩) T FI (X.keeps k) (G.keeps k) ⟨mb, Gb1.keeps k, Gb2⟩ (hlim.keeps k) hget hnx ?_ fun h' tk' dx IE => ?_
  · show A.depth + 1 < recursionLimit
    exact hroom
  · have old : ∀ b o, hp.get? b = some o → h'.get? b = some o := fun b o e => IE.keep b o (Nat.ne_of_lt (Nat.lt_succ_of_lt (Heap.lt_size e))) (k b o e)
    obtain ⟨t1, hx⟩ := IE.obj
    have z : hp.objs.size + 1 + 1 ≤ dx := by
      have dn := IE.dbig
      first
        | (simpa only [Heap.size_push] using dn)
        | exact dn
    exact ⟨rfl, hq h' tk' (hp.objs.size + 1) dx ⟨old, Nat.le_succ _, ⟨_, _, hx, rfl, rfl, rfl, rfl⟩, Nat.le_trans (Nat.le_trans (Nat.le_succ _) (Nat.le_succ _)) z, IE.dne, IE.ns⟩⟩
end

def iA_at_word (p1 p2 p3 : Pos) : Arguments := { posonlyargs := [], args := [{ arg := "self", annotation := none, pos := p1 }, { arg := "at", annotation := none, pos := p2 }, { arg := "word", annotation := none, pos := p3 }], vararg := none, kwonlyargs := [], kw_defaults := [], kwarg := none, defaults := [] }
def iB_at_word (b0 b1 b2 b3 b4 a0 a1 c0 d0 e0 f0 c1 d1 e1 f1 : Pos) : List Stmt := [.Expr (.Call (.Attribute (.Call (.Name "super" b0) [] [] b1) "__init__" b2) [.Name "at" a0, .Name "word" a1] [] b3) b4, .Assign [.Attribute (.Name "self" c0) "at" d0] (.Name "at" e0) f0, .Assign [.Attribute (.Name "self" c1) "word" d1] (.Name "word" e1) f1]
def iS_at_word : Scope := { kind := .function, names := [(PySem.Str.ofString "self", .local), (PySem.Str.ofString "at", .local), (PySem.Str.ofString "word", .local), (PySem.Str.ofString "__class__", .free), (PySem.Str.ofString "super", .globalImplicit)], isGenerator := false, isCoroutine := false, more := [] }
/-- what the written part says of its __init__ -/
structure Fn_at_word (P : Program) (K : Frag) (C fI : Addr) (qual : Str) : Prop where
  ex : ∃ (cc cda : Addr) (p1 p2 p3 b0 b1 b2 b3 b4 a0 a1 c0 d0 e0 f0 c1 d1 e1 f1 : Pos) (oc kV doc pm ct ccl cl : Value) (od an cdd cld : Option Addr) (osl ccs csl : Array (Option Value)) (vs : Array Value) (file : Str) (tf : Tok),
    K.lookup fI = some ⟨oc, od, .func (ksFn "__init__" qual (iA_at_word p1 p2 p3) (iB_at_word b0 b1 b2 b3 b4 a0 a1 c0 d0 e0 f0 c1 d1 e1 f1) iS_at_word .none kV doc pm an (.ref cda) ct cc), osl⟩ ∧ codeIn K (.ref cda) qual = true ∧ K.lookup cda = some ⟨ccl, cdd, .fields vs, ccs⟩ ∧ vs[2]? = some (.str file tf) ∧ ((P.main.file : Str) == file) = true ∧
    K.lookup cc = some ⟨cl, cld, .cell (some (.ref C)), csl⟩ ∧ (b2.endLine == b3.line) = true
section
variable {prog : Program} {w : World} {A : Around} {R : Result → Shared → Prop} {s : Shared} {K : Frag} {mg : Str → Option Value}
theorem init_at_word {C fI e t0 : Addr} {u0 u1 : Value} {qual x : Str} (T : SxC prog K mg x C fI [("at" : Str), ("word" : Str)]) (FI : Fn_at_word prog K C fI qual)
    (X : K.In s.heap) (G : s.heap.Ns mainGlobals mg) (Gb : ∃ mb, s.heap.Ns builtinsNs mb ∧ ∀ x : Str, x ≠ "__name__" → mb x = bootBuiltins x) (hlim : s.heap.NoLimit) (hx : s.heap.get? e = some (excO C t0)) (hnx : K.lookup e = none) (hroom : A.depth < recursionLimit)
    (hq : ∀ h' tk dx, InitEnd s.heap h' e C dx (fun y : Str => if y = "word" then some u1 else if y = "at" then some u0 else none) → R (.ok (.ret .none)) { s with heap := h', toks := tk }) : codeAny (model prog w) A (.call (.ref fI) ⟨[.ref e, u0, u1], []⟩) R s := by
  obtain ⟨cc, cda, p1, p2, p3, b0, b1, b2, b3, b4, a0, a1, c0, d0, e0, f0, c1, d1, e1, f1, oc, kV, doc, pm, ct, ccl, cl, od, an, cdd, cld, osl, ccs, csl, vs, file, tf, hf, hcd, hcode, hvs, hfile, hcell, hp⟩ := FI.ex
  have hT := T.cls
  obtain ⟨nm, q, N, bs, bm, sn, sub, ab, col, dd, k0, k1, k2, k3, k5, hC, hbm⟩ := T.cls
  have hcl : clsIn K C = some { name := nm, bases := bs, mro := .ref C :: bm, ns := N, qualname := q, hasDict := true, slotNames := sn, subclasses := sub, abstract := ab, collection := col, hasDel := false } := by unfold clsIn; rw [hC] <;> rfl
  obtain ⟨mb, Gb1, Gb2⟩ := Gb
  have hne : e ≠ C := fun z => by rw [z, hC] at hnx; cases hnx
  refine ks_codeAny_call_defAt (fd := ksFn "__init__" qual (iA_at_word p1 p2 p3) (iB_at_word b0 b1 b2 b3 b4 a0 a1 c0 d0 e0 f0 c1 d1 e1 f1) iS_at_word .none kV doc pm an (.ref cda) ct cc) (body := iB_at_word b0 b1 b2 b3 b4 a0 a1 c0 d0 e0 f0 c1 d1 e1 f1) (binds := [(("self" : Str), Value.ref e), (("at" : Str), u0), (("word" : Str), u1)]) hroom (X _ _ hf) rfl hlim (codeRec_of X hcd) rfl (BindsTo.of_eq (by first | rfl | with_unfolding_all rfl)) (show ∀ x ∈ iS_at_word.names, x.2 ≠ .cell by decide) (by intro y hy; have hy : y = (("self" : Str), Value.ref e) ∨ y = (("at" : Str), u0) ∨ y = (("word" : Str), u1) := (by simpa using hy); (rcases hy with rfl | rfl | rfl <;> rfl)) (fun h₁ hns hk₁ => ?_)
  have X1 : K.In h₁ := X.keeps hk₁
  have hx1 := hk₁ _ _ hx
  have hxL : s.heap.objs.size ≠ e := Nat.ne_of_gt (Heap.lt_size hx)
  refine ks_wpAt_execs_cons (ks_wpAt_Expr_any (ks_wpAt_MethodCall ?_ (mc_eq hp rfl)))
  refine ks_wpAt_super_base (env := ksEnv qual iS_at_word s.heap.objs.size fI (.ref cda) cc) rfl rfl (by decide +kernel) rfl (X1 _ _ hf) rfl rfl rfl (X1 _ _ hcode) rfl hvs hfile T.top ?_
  refine ks_loadName_global rfl rfl (loadGlobal_builtin (env := ksEnv qual iS_at_word s.heap.objs.size fI (.ref cda) cc) (G.keeps hk₁) T.gS (Gb1.keeps hk₁) ((Gb2 _ (by decide +kernel)).trans (by first | rfl | kernel_rfl)) ⟨rfl, ?_⟩)
  refine wpAny_loadName_free rfl rfl rfl ⟨_, X1 _ _ hcell, rfl⟩ ?_
  refine wpAny_loadName_local rfl rfl hns rfl ?_
  refine ks_wpAny_isType_cls (X1 _ _ hC) rfl ⟨rfl, ?_⟩
  refine ks_wpAny_call_super (X1 _ _ hC) rfl hx1 rfl (fun c z => by cases z) (looks_mroIn X1 T.own) (fun h2 e2 k2 => ?_)
  have X2 : K.In h2 := X1.keeps k2
  have hx2 := k2 _ _ hx1
  have I2 : InstAt h2 e (excO C t0) C none := ⟨hx2, rfl, rfl, trivial⟩
  have hm := T.sup
  unfold ks_superIn at hm
  rw [hcl] at hm
  refine kxs_getMethod kxs_ValueError e2 (looks_opaque X2 T.opq) (l₀ := .ref C :: bm) ((looks_clsIn X2 hcl).andThen .now) rfl X2 hm (I2.type.andThen (looks_subIn X2 T.veC)) hne (by decide +kernel) ?_
  have k3 : ∀ b o, h2.get? b = some o → (h2.push (kxs_mw "ValueError.__init__" e)).get? b = some o := fun b o z => Heap.get?_push_of_some _ z
  have hu3 : (h2.push (kxs_mw "ValueError.__init__" e)).get? h2.objs.size = some (kxs_mw "ValueError.__init__" e) := Heap.get?_push_at rfl rfl
  have hn3 := (hns.keeps k2).keeps k3
  have X3 := X2.keeps k3
  have hx3 := k3 _ _ hx2
  show wpAny _ _ (callWith b3 (.ref h2.objs.size) [] (backTo b3 (starEach [.Name "at" a0, .Name "word" a1] _)) []) _ _ _
  refine cw1 (i := "ValueError.__init__") (x := e) (spliced_more (ldE hn3 rfl (spliced_more (ldE hn3 rfl (spliced_none ⟨hu3, ?_⟩) rfl rfl (by decide +kernel)) rfl) rfl rfl (by decide +kernel)) rfl) rfl rfl
  refine call_mw hT X3 hx3 hu3 (two_size _ _) fun h4 t1 k4 hx4 => ?_
  have k4' : ∀ b o, b ≠ e → s.heap.get? b = some o → h4.get? b = some o := fun b o hb z => k4 b o hb (k3 b o (k2 b o (hk₁ b o z)))
  have X4 : K.In h4 := in_but X hnx k4'
  have hn4 : h4.Ns s.heap.objs.size (fun x => List.lookup x ([(("self" : Str), Value.ref e), (("at" : Str), u0), (("word" : Str), u1)]).reverse) := by
    exact hn3.at fun o q => k4 _ _ hxL q
  show wpAt _ _ _ (execs _ _) _ _ _
  refine wpAt_of_wpAny (wpAny_execs_cons (plainObj_wpAny_Assign_Attribute ?_))
  refine ldE hn4 rfl (ldE hn4 rfl ?_ rfl rfl (by decide +kernel)) rfl rfl (by decide +kernel)
  refine set_plain X4 (ox := excO C t1) (od := none) ⟨hx4, rfl, rfl, trivial⟩ T.sa ?_
  refine exc_osa X4 hx4 hcl (show refsVE (.ref C :: bm) = true from hbm) rfl (T.noN _ (by simp)) (fun h5 tk5 dx k5 dn dne hx5 hn5 => ?_)
  show wpAny _ _ (execs _ _) _ _ _
  have hbig : s.heap.objs.size ≤ dx := Nat.le_of_lt (Nat.lt_of_lt_of_le hn4.lt dn)
  have X5 : K.In h5 := in_but X hnx fun b o hb z => k5 b o hb (k4' b o hb z)
  have hnL := hn4.at fun o q => k5 _ _ hxL q
  have hw : Within (fun y : Str => if y = "at" then some u0 else none) ["at"] := by
    intro y hy
    by_cases z : y = "at"
    · simp [z]
    · exact absurd (if_neg z) hy
  obtain ⟨oD, esD, epD, hoD, hdD, hcD⟩ := hn5.count hw
  refine wpAny_execs_cons (plainObj_wpAny_Assign_Attribute ?_)
  refine ldE hnL rfl (ldE hnL rfl ?_ rfl rfl (by decide +kernel)) rfl rfl (by decide +kernel)
  refine set_plain X5 (ox := { cls := .ref C, dict := some dx, data := .fields #[.ref t1, .none, .none, .none, .bool false, .none] }) (od := some oD) ⟨hx5, rfl, rfl, hoD⟩ T.sa ?_
  refine PySem.OEX.osa_old X5 hx5 hn5 hw (by decide) hcl (show refsVE (.ref C :: bm) = true from hbm) rfl (T.noN _ (by simp)) (fun h6 tk6 k6 hn6 => ?_)
  show wpAny _ _ (execs _ _) _ _ _
  exact wpAny_execs_nil (hq h6 tk6 dx ⟨fun b o hb z => k6 b o (Nat.ne_of_lt (Nat.lt_of_lt_of_le (Heap.lt_size z) hbig)) (k5 b o hb (k4' b o hb z)), ⟨t1, k6 _ _ (Ne.symm dne) hx5⟩, hbig, dne, hn6⟩)
theorem made_at_word {C fI : Addr} {u0 u1 : Value} {qual x : Str} (T : SxC prog K mg x C fI [("at" : Str), ("word" : Str)]) (FI : Fn_at_word prog K C fI qual) (X : K.In s.heap) (G : s.heap.Ns mainGlobals mg)
    (Gb : ∃ mb, s.heap.Ns builtinsNs mb ∧ ∀ x : Str, x ≠ "__name__" → mb x = bootBuiltins x) (hlim : s.heap.NoLimit) (hroom : A.depth + 1 < recursionLimit)
    (hq : ∀ h' tk e d, OwnMade s.heap h' e C d (fun y : Str => if y = "word" then some u1 else if y = "at" then some u0 else none) → R (.ok (.ret (.ref e))) { s with heap := h', toks := tk }) : codeAny (model prog w) A (.call (.ref C) ⟨[u0, u1], []⟩) R s := by
  obtain ⟨nm, q, N, bs, bm, sn, sub, ab, col, dd, k0, k1, k2, k3, k5, hC, hbm⟩ := T.cls
  obtain ⟨hp, g, dr, tk, os⟩ := s
  have k : ∀ b o, hp.get? b = some o → ((hp.push (kdv_tup [u0, u1])).push (excO C hp.objs.size)).get? b = some o := fun b o e => Heap.get?_push_of_some _ (Heap.get?_push_of_some _ e)
  have hget : ((hp.push (kdv_tup [u0, u1])).push (excO C hp.objs.size)).get? (hp.objs.size + 1) = some (excO C hp.objs.size) := by heap_get
  have hnx : K.lookup (hp.objs.size + 1) = none := by
    cases e : K.lookup (hp.objs.size + 1) with
    | none => rfl
    | some o =>
      have z : hp.get? (hp.objs.size + 1) = some o := X _ _ e
      exact absurd (Nat.lt_of_succ_lt (Heap.lt_size z)) (Nat.lt_irrefl _)
  obtain ⟨mb, Gb1, Gb2⟩ := Gb
  refine call_own F.excBase_ValueError (fun X => refsVE_contains X bm hbm) (X _ _ hC) (looks_findIn X T.iC) (fun self => bind_fn X self T.tI) (two_size _ _) ?_
  refine init_at_word (s := ⟨(hp.push (kdv_tup [u0, u1])).push (excO C hp.objs.size), g, dr, tk, os⟩) T FI (X.keeps k) (G.keeps k) ⟨mb, Gb1.keeps k, Gb2⟩ (hlim.keeps k) hget hnx ?_ fun h' tk' dx IE => ?_
  · show A.depth + 1 < recursionLimit
    exact hroom
  · have old : ∀ b o, hp.get? b = some o → h'.get? b = some o := fun b o e => IE.keep b o (Nat.ne_of_lt (Nat.lt_succ_of_lt (Heap.lt_size e))) (k b o e)
    obtain ⟨t1, hx⟩ := IE.obj
    have z : hp.objs.size + 1 + 1 ≤ dx := by
      have dn := IE.dbig
      first
        | (simpa only [Heap.size_push] using dn)
        | exact dn
    exact ⟨rfl, hq h' tk' (hp.objs.size + 1) dx ⟨old, Nat.le_succ _, ⟨_, _, hx, rfl, rfl, rfl, rfl⟩, Nat.le_trans (Nat.le_trans (Nat.le_succ _) (Nat.le_succ _)) z, IE.dne, IE.ns⟩⟩
end

end SxX
end PySem
set_option Elab.async false
set_option linter.all false
set_option maxRecDepth 100000
set_option maxHeartbeats 4000000
set_option autoImplicit false
namespace L2
open PySem PySem.Spec PyProof.Rows
theorem relO_at {v0 : V} {u0 : Value} (r0 : RelV v0 u0) (f : Str) : RelO (List.lookup f [(("at" : Str), v0)]) ((fun y : Str => if y = "at" then some u0 else none) f) := by
  by_cases h0 : f = "at"
  · subst h0
    have q : List.lookup ("at" : Str) [(("at" : Str), v0)] = some v0 := by with_unfolding_all rfl
    rw [q]
    show RelO (some v0) ((fun y : Str => if y = "at" then some u0 else none) "at")
    have z : (fun y : Str => if y = "at" then some u0 else none) "at" = some u0 := by with_unfolding_all rfl
    rw [z]
    exact r0
  have z : (fun y : Str => if y = "at" then some u0 else none) f = none := by show (if f = "at" then some u0 else none) = none; rw [if_neg h0]
  rw [z]
  have b0 : (f == ("at" : Str)) = false := by simpa using h0
  have q : List.lookup f [(("at" : Str), v0)] = none := by simp [List.lookup, b0]
  rw [q]
  trivial
def tMk_at (C : Addr) (ta : TA) : St → Hp → XK → Prop := fun σ H Q => ta σ H fun vs H1 => ∃ v0, vs = [v0] ∧ ∀ d, H1 d = none → Q (.ref C) (some d) (upd H1 d (.xd [(("at" : Str), v0)]))
theorem pmk_at {X : Cx} {C fI : Addr} {x qual : Str} {x0 : Expr} {ta : TA} {p pos : Pos} {k : Nat} (T : PySem.SxX.SxC X.prog X.K X.mg x C fI [("at" : Str)]) (FI : PySem.SxX.Fn_at X.prog X.K C fI qual) (hr : Room k X.A) (ha : PA X [x0] ta) (hg : Gl X x) (hdb : (x == ("__debug__" : Str)) = false)
    (he : starEach [x0] X.env = (false, eval x0 X.env) :: starEach [] X.env) (hpl : (backTo pos (starEach [] X.env)).any (·.1) = false) :
    PMk X (.Call (.Name x p) [x0] [] pos) (tMk_at C ta) := by
  intro pins s σ H Q I h
  refine wpAny_Call_Name_kw (ld_glob I hg T.gC ?_ hdb)
  refine PySem.W.callWith_K (h₀ := X.base) I.ok.mod.kin T.kC (thn (ha.run pos pins s σ H _ I h) fun us s1 hh => ?_) he hpl
  obtain ⟨vs, H1, I1, r1, v0, ev, qq⟩ := hh
  subst ev
  refine ⟨I1.kIn, ?_⟩
  cases r1 with
  | cons q0 rn0 =>
    rename_i u0 us0
    cases rn0
    show wpAny _ _ (call (.ref C) [u0]) _ _ _
    have hlim := I1.nolimit
    have G1 := I1.mod.glob.keeps I1.bk
    obtain ⟨mb, Gb1, Gb2⟩ := I1.mod.blt
    have Gb := Gb1.keeps I1.bk
    obtain ⟨hp, g, dr, tk, os⟩ := s1
    refine wpAny_call (PySem.SxX.made_at T FI I1.kIn G1 ⟨mb, Gb, Gb2⟩ hlim (by have := hr.dp; omega) fun h' tk' e d M => ?_)
    show MkP X pins σ Q (.ref e) ⟨h', g, dr, tk', os⟩
    obtain ⟨oe, fv, hoe, hc, hd, hdat, h1⟩ := M.obj
    have hns := M.ns
    obtain ⟨G', g1, g2⟩ := restrict h' fun b => decide (b ≠ e)
    have gk : ∀ b, b ≠ e → G'.get? b = h'.get? b := fun b hb => g1 b (decide_eq_true hb)
    have ge : G'.get? e = none := g2 e (by simp)
    have old : ∀ b o, hp.get? b = some o → G'.get? b = some o := fun b o q => (gk b (Nat.ne_of_lt (Nat.lt_of_lt_of_le (Heap.lt_size q) M.new))).trans (M.keep b o q)
    have ob : ObjOk X.prog X.w (upd H1 d (.xd [(("at" : Str), v0)])) G' d (.xd [(("at" : Str), v0)]) :=
      ⟨_, hns.at (fun o q => (gk d M.dne).trans q), fun f => relO_at q0 f⟩
    have J : Inv X pins σ (upd H1 d (.xd [(("at" : Str), v0)])) ⟨G', g, dr, tk', os⟩ := I1.laid (t' := tk') old M.dbig ob
    refine ⟨e, oe, fv, ⟨G', g, dr, tk', os⟩, _, .ref C, some d, rfl, J, fun b o q => ?_, ge, hoe, ⟨hc, hd⟩, hdat, h1, ?_, rfl, I1.bare, raises_own T.exC T.tyC, qq d (I1.hok.fresh M.dbig)⟩
    · by_cases hb : b = e
      · have q' : G'.get? b = some o := q
        rw [hb, ge] at q'; cases q'
      · exact (gk b hb).symm.trans q
    · rw [upd_ne (Ne.symm M.dne)]
      exact I1.hok.fresh M.new

theorem relO_at_word {v0 v1 : V} {u0 u1 : Value} (r0 : RelV v0 u0) (r1 : RelV v1 u1) (f : Str) : RelO (List.lookup f [(("at" : Str), v0), (("word" : Str), v1)]) ((fun y : Str => if y = "word" then some u1 else if y = "at" then some u0 else none) f) := by
  by_cases h1 : f = "word"
  · subst h1
    have q : List.lookup ("word" : Str) [(("at" : Str), v0), (("word" : Str), v1)] = some v1 := by with_unfolding_all rfl
    rw [q]
    show RelO (some v1) ((fun y : Str => if y = "word" then some u1 else if y = "at" then some u0 else none) "word")
    have z : (fun y : Str => if y = "word" then some u1 else if y = "at" then some u0 else none) "word" = some u1 := by with_unfolding_all rfl
    rw [z]
    exact r1
  by_cases h0 : f = "at"
  · subst h0
    have q : List.lookup ("at" : Str) [(("at" : Str), v0), (("word" : Str), v1)] = some v0 := by with_unfolding_all rfl
    rw [q]
    show RelO (some v0) ((fun y : Str => if y = "word" then some u1 else if y = "at" then some u0 else none) "at")
    have z : (fun y : Str => if y = "word" then some u1 else if y = "at" then some u0 else none) "at" = some u0 := by with_unfolding_all rfl
    rw [z]
    exact r0
  have z : (fun y : Str => if y = "word" then some u1 else if y = "at" then some u0 else none) f = none := by show (if f = "word" then some u1 else if f = "at" then some u0 else none) = none; rw [if_neg h1, if_neg h0]
  rw [z]
  have b1 : (f == ("word" : Str)) = false := by simpa using h1
  have b0 : (f == ("at" : Str)) = false := by simpa using h0
  have q : List.lookup f [(("at" : Str), v0), (("word" : Str), v1)] = none := by simp [List.lookup, b1, b0]
  rw [q]
  trivial
def tMk_at_word (C : Addr) (ta : TA) : St → Hp → XK → Prop := fun σ H Q => ta σ H fun vs H1 => ∃ v0 v1, vs = [v0, v1] ∧ ∀ d, H1 d = none → Q (.ref C) (some d) (upd H1 d (.xd [(("at" : Str), v0), (("word" : Str), v1)]))
theorem pmk_at_word {X : Cx} {C fI : Addr} {x qual : Str} {x0 x1 : Expr} {ta : TA} {p pos : Pos} {k : Nat} (T : PySem.SxX.SxC X.prog X.K X.mg x C fI [("at" : Str), ("word" : Str)]) (FI : PySem.SxX.Fn_at_word X.prog X.K C fI qual) (hr : Room k X.A) (ha : PA X [x0, x1] ta) (hg : Gl X x) (hdb : (x == ("__debug__" : Str)) = false)
    (he : starEach [x0, x1] X.env = (false, eval x0 X.env) :: starEach [x1] X.env) (hpl : (backTo pos (starEach [x1] X.env)).any (·.1) = false) :
    PMk X (.Call (.Name x p) [x0, x1] [] pos) (tMk_at_word C ta) := by
  intro pins s σ H Q I h
  refine wpAny_Call_Name_kw (ld_glob I hg T.gC ?_ hdb)
  refine PySem.W.callWith_K (h₀ := X.base) I.ok.mod.kin T.kC (thn (ha.run pos pins s σ H _ I h) fun us s1 hh => ?_) he hpl
  obtain ⟨vs, H1, I1, r1, v0, v1, ev, qq⟩ := hh
  subst ev
  refine ⟨I1.kIn, ?_⟩
  cases r1 with
  | cons q0 rn0 =>
    rename_i u0 us0
    cases rn0 with
    | cons q1 rn1 =>
      rename_i u1 us1
      cases rn1
      show wpAny _ _ (call (.ref C) [u0, u1]) _ _ _
      have hlim := I1.nolimit
      have G1 := I1.mod.glob.keeps I1.bk
      obtain ⟨mb, Gb1, Gb2⟩ := I1.mod.blt
      have Gb := Gb1.keeps I1.bk
      obtain ⟨hp, g, dr, tk, os⟩ := s1
      refine wpAny_call (PySem.SxX.made_at_word T FI I1.kIn G1 ⟨mb, Gb, Gb2⟩ hlim (by have := hr.dp; omega) fun h' tk' e d M => ?_)
      show MkP X pins σ Q (.ref e) ⟨h', g, dr, tk', os⟩
      obtain ⟨oe, fv, hoe, hc, hd, hdat, h1⟩ := M.obj
      have hns := M.ns
      obtain ⟨G', g1, g2⟩ := restrict h' fun b => decide (b ≠ e)
      have gk : ∀ b, b ≠ e → G'.get? b = h'.get? b := fun b hb => g1 b (decide_eq_true hb)
      have ge : G'.get? e = none := g2 e (by simp)
      have old : ∀ b o, hp.get? b = some o → G'.get? b = some o := fun b o q => (gk b (Nat.ne_of_lt (Nat.lt_of_lt_of_le (Heap.lt_size q) M.new))).trans (M.keep b o q)
      have ob : ObjOk X.prog X.w (upd H1 d (.xd [(("at" : Str), v0), (("word" : Str), v1)])) G' d (.xd [(("at" : Str), v0), (("word" : Str), v1)]) :=
        ⟨_, hns.at (fun o q => (gk d M.dne).trans q), fun f => relO_at_word q0 q1 f⟩
      have J : Inv X pins σ (upd H1 d (.xd [(("at" : Str), v0), (("word" : Str), v1)])) ⟨G', g, dr, tk', os⟩ := I1.laid (t' := tk') old M.dbig ob
      refine ⟨e, oe, fv, ⟨G', g, dr, tk', os⟩, _, .ref C, some d, rfl, J, fun b o q => ?_, ge, hoe, ⟨hc, hd⟩, hdat, h1, ?_, rfl, I1.bare, raises_own T.exC T.tyC, qq d (I1.hok.fresh M.dbig)⟩
      · by_cases hb : b = e
        · have q' : G'.get? b = some o := q
          rw [hb, ge] at q'; cases q'
        · exact (gk b hb).symm.trans q
      · rw [upd_ne (Ne.symm M.dne)]
        exact I1.hok.fresh M.new

end L2
namespace L2.Pz
open PySem PySem.Spec PyProof.Rows
theorem tI_mono {K : PySem.W.Frag} {Z : List Zx} {W : WX} {fs : List EF} {σ : L2.St} {H : Hp} {Q Q' : List V → Hp → Prop} (m : ∀ vs H, Q vs H → Q' vs H) : tI K Z W fs σ H Q → tI K Z W fs σ H Q' := fun ⟨Xo, js, env, J, F, p⟩ => by
  refine ⟨Xo, js, env, J, F, ?_⟩
  cases r : eItems fs env J with
  | ok ds J1 => rw [r] at p; exact fun vs H1 e1 F1 r1 => m _ _ (p vs H1 e1 F1 r1)
  | err c fs J1 => rw [r] at p; exact p
  | stuck => rw [r] at p; exact p
/-! ### raise C(e, ..) -/
def sRaise (c : Str) (ns : List Str) (fs : List EF) : SF := fun _ env J => onS env (eItems fs env J) fun ds J1 => if ds.length = ns.length then .err c (ns.zip ds) env J1 else .stuck
section
variable {X : Cx} {n0 : Nat} {E : XK} {c : Str} {C : Addr} {es : List Expr} {fs : List EF} {pos : Pos} {e : Expr} {Z : List Zx}
theorem raise_read {ns : List Str} {t : St → Hp → XK → Prop} (hC : PySem.W.nsIn X.K mainGlobals c = some (some (.ref C)))
    (m : ∀ (σ : St) (H : Hp) (Q : XK), tI X.K Z (fun cls d _ H => E cls d H) fs σ H (fun vs H1 => vs.length = ns.length ∧ ∀ d, H1 d = none → Q (.ref C) (some d) (upd H1 d (.xd (ns.zip vs)))) → t σ H Q)
    (tk : Takes X (fun cls d _ H => E cls d H)) (hc : X.calm = true) (h : PMk X e t) : PS X (.Raise (some e) none pos) (tS X.K Z (fun cls d _ H => E cls d H) n0 (sRaise c ns fs)) :=
  ps_mono (ps_raise hc tk h) fun D σ H ⟨Xo, js, env, J, F, p⟩ => by
    refine m _ _ _ ⟨Xo, js, env, J, F, ?_⟩
    unfold sRaise at p
    cases r : eItems fs env J with
    | stuck => rw [r] at p; exact p.elim
    | err c fs J1 => rw [r] at p; exact flies_S p
    | ok ds J1 =>
      rw [r] at p
      have p : PostS X.K Z (fun cls d _ H => E cls d H) n0 Xo js H D (if ds.length = ns.length then .err c (ns.zip ds) env J1 else .stuck) := p
      intro vs H1 e1 F1 r1
      by_cases hl : ds.length = ns.length
      · rw [if_pos hl] at p
        have hv : vs.length = ns.length := by rw [reps_len r1, hl]
        refine ⟨hv, fun d hd => ?_⟩
        have sm : Same H1 (upd H1 d (.xd (ns.zip vs))) := same_upd hd
        have F2 := F1.same sm
        have e2 : Ext js H (upd H1 d (.xd (ns.zip vs))) := e1.trans (.of sm)
        refine p (.ref C) (some d) σ _ js ⟨C, hC, rfl, d, ns.zip vs, rfl, upd_same, ?_, ?_⟩ (.of_ext F2 e2) F2
        · rw [List.map_fst_zip (by omega), List.map_fst_zip (by omega)]
        · rw [List.map_snd_zip (by omega), List.map_snd_zip (by omega)]
          exact Reps.ext F1 (.of sm) r1
      · rw [if_neg hl] at p; exact p.elim
end
section
variable {X : Cx} {n0 : Nat} {E : XK} {c qual : Str} {C fI : Addr} {x0 : Expr} {fs : List EF} {p pos pos2 : Pos} {k : Nat} {Z : List Zx}
theorem s_raise_at (T : PySem.SxX.SxC X.prog X.K X.mg c C fI [("at" : Str)]) (FI : PySem.SxX.Fn_at X.prog X.K C fI qual) (hC : PySem.W.nsIn X.K mainGlobals c = some (some (.ref C))) (hr : Room k X.A) (tk : Takes X (fun cls d _ H => E cls d H)) (hc : X.calm = true)
    (ha : PA X [x0] (tI X.K Z (fun cls d _ H => E cls d H) fs)) (hg : Gl X c) (hdb : (c == ("__debug__" : Str)) = false) (he : starEach [x0] X.env = (false, eval x0 X.env) :: starEach [] X.env) (hpl : (backTo pos (starEach [] X.env)).any (·.1) = false) :
    PS X (.Raise (some (.Call (.Name c p) [x0] [] pos)) none pos2) (tS X.K Z (fun cls d _ H => E cls d H) n0 (sRaise c [("at" : Str)] fs)) := by
  refine raise_read (C := C) hC (fun σ H Q w => ?_) tk hc (pmk_at T FI hr ha hg hdb he hpl)
  refine tI_mono (fun vs H1 ⟨hl, q⟩ => ?_) w
  rcases vs with _ | ⟨v0, r⟩
  · simp at hl
  · rcases r with _ | ⟨z, r⟩
    · exact ⟨v0, rfl, fun d hd => q d hd⟩
    · simp at hl
end

section
variable {X : Cx} {n0 : Nat} {E : XK} {c qual : Str} {C fI : Addr} {x0 x1 : Expr} {fs : List EF} {p pos pos2 : Pos} {k : Nat} {Z : List Zx}
theorem s_raise_at_word (T : PySem.SxX.SxC X.prog X.K X.mg c C fI [("at" : Str), ("word" : Str)]) (FI : PySem.SxX.Fn_at_word X.prog X.K C fI qual) (hC : PySem.W.nsIn X.K mainGlobals c = some (some (.ref C))) (hr : Room k X.A) (tk : Takes X (fun cls d _ H => E cls d H)) (hc : X.calm = true)
    (ha : PA X [x0, x1] (tI X.K Z (fun cls d _ H => E cls d H) fs)) (hg : Gl X c) (hdb : (c == ("__debug__" : Str)) = false) (he : starEach [x0, x1] X.env = (false, eval x0 X.env) :: starEach [x1] X.env) (hpl : (backTo pos (starEach [x1] X.env)).any (·.1) = false) :
    PS X (.Raise (some (.Call (.Name c p) [x0, x1] [] pos)) none pos2) (tS X.K Z (fun cls d _ H => E cls d H) n0 (sRaise c [("at" : Str), ("word" : Str)] fs)) := by
  refine raise_read (C := C) hC (fun σ H Q w => ?_) tk hc (pmk_at_word T FI hr ha hg hdb he hpl)
  refine tI_mono (fun vs H1 ⟨hl, q⟩ => ?_) w
  rcases vs with _ | ⟨v0, _ | ⟨v1, r⟩⟩
  · simp at hl
  · simp at hl
  · rcases r with _ | ⟨z, r⟩
    · exact ⟨v0, v1, rfl, fun d hd => q d hd⟩
    · simp at hl
end

end L2.Pz
set_option Elab.async false
set_option linter.all false
set_option maxRecDepth 100000
set_option maxHeartbeats 4000000
set_option autoImplicit false
/-! several except clauses, with or without a name -/
namespace L2.Pz
open PySem PySem.Spec PyProof.Rows
abbrev Cl := Value × Option Nat × (Addr → Value → Option Addr → TS)
/-- the suite's ends with the name unbound -/
def off (D : Ends) (i : Nat) : Ends := { nx := fun σ' H' => D.nx (σ'.set i none) H', rt := D.rt, bk := fun σ' H' => D.bk (σ'.set i none) H', ct := fun σ' H' => D.ct (σ'.set i none) H' }
def atCl (D : Ends) (a : Addr) (cls : Value) (d : Option Addr) (σ : L2.St) (H : Hp) (ts : Addr → Value → Option Addr → TS) : Option Nat → Prop
  | none => ts a cls d D σ H
  | some i => ts a cls d (off D i) (σ.set i (some (.ref a))) H
def wAll (K : PySem.W.Frag) (Wout : WX) (D : Ends) : List Cl → WX
  | [] => Wout
  | (c, o, ts) :: r => fun cls d σ H => ∃ b, PySem.W.exmOne K cls c = some b ∧ (b = true → ∀ a, H a = none → atCl D a cls d σ H ts o) ∧ (b = false → wAll K Wout D r cls d σ H)
inductive Hds2 (X : Cx) : List ExceptHandler → List Cl → Prop
  | nil : Hds2 X [] []
  | cons {x : Str} {c : Value} {ts : Addr → Value → Option Addr → TS} {b₀ : Stmt} {suite : List Stmt} {np pos' : Pos} {hds : List ExceptHandler} {l : List Cl} (hc : Names X x c)
      (hsu : ∀ (a : Addr) (oe : Obj) (cls : Value) (d : Option Addr) (pn : List (Addr × Obj)), Zc cls d oe → (∃ vs, oe.data = .fields vs) → PSs (X.suite a ((a, oe) :: pn)) (b₀ :: suite) (ts a cls d)) (r : Hds2 X hds l) :
      Hds2 X (.ExceptHandler (some (.Name x np)) none (b₀ :: suite) pos' :: hds) ((c, none, ts) :: l)
  | consAs {x n : Str} {c : Value} {i : Nat} {ts : Addr → Value → Option Addr → TS} {b₀ : Stmt} {suite : List Stmt} {np pos' : Pos} {hds : List ExceptHandler} {l : List Cl} (hi : X.N[i]? = some n) (hln : X.env.kindOf n = some .local) (hc : Names X x c)
      (hsu : ∀ (a : Addr) (oe : Obj) (cls : Value) (d : Option Addr) (pn : List (Addr × Obj)), Zc cls d oe → (∃ vs, oe.data = .fields vs) → PSs (X.suite a ((a, oe) :: pn)) (b₀ :: suite) (ts a cls d)) (r : Hds2 X hds l) :
      Hds2 X (.ExceptHandler (some (.Name x np)) (some n) (b₀ :: suite) pos' :: hds) ((c, some i, ts) :: l)
/-- the exception at a has come down: it lies in t, which is otherwise as the body left it -/
structure Caught (X : Cx) (pins : List (Addr × Obj)) (a : Addr) (cls : Value) (d : Option Addr) (σ : L2.St) (H : Hp) (t : Shared) : Prop where
  ex : ∃ (B : Heap) (u : Shared), Inv X pins σ H u ∧ (∀ b o, u.heap.get? b = some o → b ∉ frs X.stack → B.get? b = some o) ∧ u.heap.UpToSlots t.heap ∧ HandSPX.FlyingZ B (X.env :: X.outer) a (Zc cls d) t.heap ∧ t.os = u.os ∧ AllBare t.gens
  gone : H a = none
section
variable {X : Cx} {pins : List (Addr × Obj)} {a : Addr} {cls : Value} {d : Option Addr} {σ : L2.St} {H : Hp} {t : Shared} {D : Ends} {Wout : WX}
theorem Caught.inv (c : Caught X pins a cls d σ H t) : Inv X pins σ H t := by
  obtain ⟨B, u, I, nb, up, fl, os, ag⟩ := c.ex
  exact I.landed nb fl.1 up os ag
theorem Caught.lies (c : Caught X pins a cls d σ H t) (hf : X.env.frame = some X.env.locals) : ∃ oe : Obj, (∃ vs, oe.data = .fields vs) ∧ t.heap.get? a = some oe ∧ Zc cls d oe ∧ Inv (X.suite a ((a, oe) :: (X.pn ++ pins))) [] σ H t := by
  obtain ⟨B, u, I, nb, up, fl, os, ag⟩ := c.ex
  obtain ⟨oe, vs, he, hz, hd⟩ := fl.there
  have out : ∀ b ∈ frs (X.env :: X.outer), a ≠ b := fun b hb z => by
    obtain ⟨_, o, e, n⟩ := fl.2.2.1.mem hb
    rw [← z, he] at e
    cases e
    exact n _ hd
  have n1 : a ≠ X.env.locals := out _ (List.mem_filterMap.mpr ⟨X.env, List.mem_cons_self, hf⟩)
  have n2 : a ∉ X.fs := fun hm => by
    obtain ⟨v, hv, q⟩ := List.mem_filterMap.mp hm
    exact out a (List.mem_filterMap.mpr ⟨v, List.mem_cons_of_mem _ hv, q⟩) rfl
  exact ⟨oe, ⟨vs, hd⟩, he, hz, c.inv.suite he hd c.gone n1 n2⟩
theorem Caught.again {M : Model} {A : Around} {E : Value → Shared → Prop} {Q : Unit → Shared → Prop} (c : Caught X pins a cls d σ H t) (q : ∀ h', Caught X pins a cls d σ H { t with heap := h' } → Q () { t with heap := h' }) : wpAny M A (setFlight (.ref a) none) Q E t := by
  obtain ⟨B, u, I, nb, up, fl, os, ag⟩ := c.ex
  exact HandSPX.lands_againZ fl fun h' f' u' => q h' ⟨⟨B, u, I, nb, up.trans u', f', os, ag⟩, c.gone⟩
/-- no clause has it -/
theorem Caught.on (c : Caught X pins a cls d σ H t) (hs : X.stack = X.env :: X.outer) (hf : X.env.frame = some X.env.locals) (tk : Takes X Wout) (w : Wout cls d σ H) : wpAny (model X.prog X.w) X.A (handleBy (.ref a) X.env []) (SP X pins D) X.xe t := by
  obtain ⟨B, u, I, nb, up, fl, os, ag⟩ := c.ex
  have up0 : wpAny (model X.prog X.w) X.A (setFlight (.ref a) X.env.frame) (fun _ s4 => wpAny (model X.prog X.w) X.A (throw (.ref a) : Sem Flow) (SP X pins D) X.xe s4) X.xe t := by
    rw [hf]
    exact HandSPX.setFlight_upZ fl fun h' held u' => wpAny_throw (tk _ _ ⟨a, B, u, pins, σ, H, cls, d, rfl, I, nb, up.trans u', .inr (.inr (by rw [hs]; exact held)), c.gone, os, ag, w⟩)
  refine wpAny_handleBy_nil ?_
  obtain ⟨_, _, _, _, vs, T, _, _, he, _, hd, h1, _⟩ := id fl
  have ne : ¬ ((Value.ref T == Value.none) = true) := by simp
  unfold PySem.passOn
  refine wpAny_bind (wpAny_field he hd h1 ?_)
  rw [if_neg ne]
  first
    | exact wpAny_bind (wpAny_pure (wpAny_bind up0))
    | exact wpAny_bind up0
/-- a clause's class is asked -/
theorem Caught.asked {x : Str} {c : Value} {np : Pos} {b : Bool} {A : Around} {Q : Bool → Shared → Prop} {E E' : Value → Shared → Prop} (k : Caught X pins a cls d σ H t) (hf : X.env.frame = some X.env.locals) (hA : A = X.A.mark (some (.ref a))) (hc : Names X x c) (hb : PySem.W.exmOne X.K cls c = some b) (q : Q b t) :
    wpAny (model X.prog X.w) A (eval (.Name x np) X.env) (fun u s1 => wpAny (model X.prog X.w) A (excMatches (.ref a) u) Q E' s1) E t := by
  obtain ⟨oe, ⟨vs, hd⟩, he, hz, S⟩ := k.lies hf
  have ty : PySem.W.Looks (model X.prog X.w) t.heap (typeOf (.ref a)) cls := fun A Q E s kk q => wpAny_typeOf_ref (kk _ _ he) (by rw [hz.1]; exact q)
  have m := (PySem.W.exm_one (M := model X.prog X.w) k.inv.kIn ty hb).here (A := A) (E := E') (Q := Q) q
  subst hA
  obtain ⟨hg, hdb, r | ⟨r, v, nn⟩⟩ := hc
  · exact ld_glob (X := X.suite a ((a, oe) :: (X.pn ++ pins))) S hg r m hdb
  · exact ld_blt (X := X.suite a ((a, oe) :: (X.pn ++ pins))) S hg r v m nn hdb
theorem Caught.run (hs : X.stack = X.env :: X.outer) (hf : X.env.frame = some X.env.locals) (hN : X.N.Nodup) (ok : X.Ok) (tk : Takes X Wout) {hds : List ExceptHandler} {l : List Cl} (hh : Hds2 X hds l) :
    ∀ {t : Shared}, Caught X pins a cls d σ H t → wAll X.K Wout D l cls d σ H → wpAny (model X.prog X.w) X.A (handleBy (.ref a) X.env hds) (SP X pins D) X.xe t := by
  induction hh with
  | nil => exact fun k w => k.on hs hf tk w
  | cons hc hsu r ih =>
    intro t k w
    obtain ⟨b, hb, yes, no⟩ := w
    refine wpAny_handleBy_cons (codeAny_handlers_test (k.asked hf rfl hc hb ?_)) (by intro z; cases z)
    cases b with
    | false => exact ih k (no rfl)
    | true =>
      refine codeAny_handlers_suite (k.again fun h' k' => ?_)
      obtain ⟨oe, hd, he, hz, S⟩ := k'.lies hf
      refine wpAny_mono ((hsu a oe cls d (X.pn ++ pins) hz hd).run [] _ _ H _ S (yes rfl a k.gone)) (fun f s6 p => ?_) (fun _ _ z => z.elim)
      cases f with
      | ret u => exact let ⟨v, σ6, H6, S6, r6, q6⟩ := p; ⟨v, σ6, H6, S6.unsuite ok, r6, q6⟩
      | _ => exact let ⟨σ6, H6, S6, q6⟩ := p; ⟨σ6, H6, S6.unsuite ok, q6⟩
  | @consAs x n c i ts b₀ suite np pos' hds2 l2 hi hln hc hsu r ih =>
    intro t k w
    obtain ⟨b, hb, yes, no⟩ := w
    refine wpAny_handleBy_cons (codeAny_handlers_test (k.asked hf rfl hc hb ?_)) (by intro z; cases z)
    cases b with
    | false => exact ih k (no rfl)
    | true =>
      refine codeAny_handlers_suite_as (k.again fun h' k' => ?_)
      obtain ⟨oe, hd, he, hz, S⟩ := k'.lies hf
      refine store_ok (X := X.suite a ((a, oe) :: (X.pn ++ pins))) (v := .ref a) S hN hi (.inl hln) rfl (fun s5 S5 => ?_) (.inr hln)
      refine wpAny_mono ((hsu a oe cls d (X.pn ++ pins) hz hd).run [] s5 _ H _ S5 (yes rfl a k.gone)) (fun f s6 p => ?_) (fun _ _ z => z.elim)
      cases f with
      | ret u => exact let ⟨v, σ6, H6, S6, r6, q6⟩ := p; gone_ok (S6.unsuite ok) hN hi hln fun s7 J7 => ⟨v, _, H6, J7, r6, q6⟩
      | _ => exact let ⟨σ6, H6, S6, q6⟩ := p; gone_ok (S6.unsuite ok) hN hi hln fun s7 J7 => ⟨_, H6, J7, q6⟩
variable {body : List Stmt} {h₀ : ExceptHandler} {hds : List ExceptHandler} {l : List Cl} {pos : Pos} {tb : WX → TS}
/-- try: body, except clauses with or without a name -/
theorem try_all (hs : X.stack = X.env :: X.outer) (hf : X.env.frame = some X.env.locals) (tk : Takes X Wout) (hN : X.N.Nodup)
    (hb : ∀ (W : WX) (pn : List (Addr × Obj)) (xe : Value → Shared → Prop), Takes (X.tr pn xe) W → PassesOwn (model X.prog X.w) X.A X.env xe → PSs (X.tr pn xe) body (tb W)) (hh : Hds2 X (h₀ :: hds) l) :
    PS X (.Try body (h₀ :: hds) [] [] pos) (fun D σ H => tb (wAll X.K Wout D l) D σ H) := by
  refine ⟨fun pins s σ H D I w => wpAny_Try_except ?_⟩
  have ok := I.ok
  have fr : X.A.frames = some (X.env :: X.outer) := by rw [ok.frames, hs]
  have inner := hb (wAll X.K Wout D l) (X.pn ++ pins) (fun e s1 => wpAny (model X.prog X.w) X.A (noteFrame e X.env) (fun _ s2 => wpAny (model X.prog X.w) X.A (setFlight e none) (fun _ s3 => wpAny (model X.prog X.w) X.A (handleBy e X.env (h₀ :: hds)) (SP X pins D) X.xe s3) X.xe s2) X.xe s1)
    (fun u s1 x => by
      obtain ⟨a, B, sI, pins', σ1, H1, cls, d, rfl, J, nb, up, sky, na, os, ag, w1⟩ := x
      have sky1 : Sky B (X.env :: X.outer) a (Zc cls d) X.env.locals s1.heap := hs ▸ sky
      exact Sky.land Zc.steady fr hf sky1 fun h' fl u' => Caught.run hs hf hN ok tk hh ⟨⟨B, sI, J.ofTry ok, nb, up.trans u', fl, os, ag⟩, na⟩ w1) PassesOwn.looking
  refine wpAny_mono (inner.run [] s σ H D (I.toTry _) w) (fun f s1 p => ?_) (fun _ _ z => z)
  cases f with
  | next => exact let ⟨σ1, H1, J, q⟩ := p; wpAny_execs_nil ⟨σ1, H1, J.ofTry ok, q⟩
  | ret u => exact let ⟨v, σ1, H1, J, r, q⟩ := p; ⟨v, σ1, H1, J.ofTry ok, r, q⟩
  | brk => exact let ⟨σ1, H1, J, q⟩ := p; ⟨σ1, H1, J.ofTry ok, q⟩
  | cont => exact let ⟨σ1, H1, J, q⟩ := p; ⟨σ1, H1, J.ofTry ok, q⟩
end
end L2.Pz
set_option Elab.async false
set_option linter.all false
set_option maxRecDepth 100000
set_option maxHeartbeats 4000000
set_option autoImplicit false
namespace L2.Pz
open PySem PySem.Spec PyProof.Rows
/-! ### what a try computes -/
abbrev PCl := Str × Option Nat × (Str → List (Str × D) → SF)
def onE : Option Nat → En → En
  | none, e => e
  | some i, e => e.set i (some (.exc 0))
def offE : Option Nat → En → En
  | none, e => e
  | some i, e => e.set i none
def noExc (e : En) : Bool := e.all fun h => match h with
  | some (.exc _) => false
  | _ => true
def offR (o : Option Nat) : RS → RS
  | .nx e J => if noExc (offE o e) = true then .nx (offE o e) J else .stuck
  | .bk e J => if noExc (offE o e) = true then .bk (offE o e) J else .stuck
  | .ct e J => if noExc (offE o e) = true then .ct (offE o e) J else .stuck
  | .rt h J => if isExc h = true then .stuck else .rt h J
  | _ => .stuck
def sHand (M : Str → Str → Option Bool) : List PCl → Str → List (Str × D) → SF
  | [], c, fs => fun _ env J => .err c fs env J
  | (x, o, h) :: r, c, fs => fun n env J => match M c x with
    | some true => offR o (h c fs n (onE o env) J)
    | some false => sHand M r c fs n env J
    | none => .stuck
def sTry (M : Str → Str → Option Bool) (body : SF) (hs : List PCl) : SF := fun n env J => match body n env J with
  | .err c fs e1 J1 => sHand M hs c fs n e1 J1
  | r => r
/-- name.m, the name of a held exception in slot i -/
def eFld (i : Nat) (m : Str) (fs : List (Str × D)) : EF := fun env J => match env[i]? with
  | some (some (.exc 0)) => (match fs.lookup m with | some d => .ok (.val d) J | none => .stuck)
  | _ => .stuck
section
variable {K : PySem.W.Frag} {Z : List Zx} {Xo : Addr → Prop} {js js' : List Addr} {H H' : Hp} {σ : L2.St} {env : En} {J : Jr} {W : WX} {n0 : Nat} {D : Ends}
theorem Fit.addZ (F : Fit K [] Xo js H σ env J) {z : Zx} (x : ExcAt K Xo js z.c z.fs z.cls z.od H) : Fit K [z] Xo js H σ env J :=
  ⟨F.out, F.nd, F.jx, F.len, F.slen, F.jar, fun i h e => by
    obtain ⟨v, h1, h2⟩ := F.slot i h e
    refine ⟨v, h1, ?_⟩
    cases h with
    | exc k => obtain ⟨z, hz, _⟩ := h2; simp at hz
    | newB _ _ => exact h2
    | val d => exact h2
    | jar k => exact h2
    | new ds => exact h2, fun y hy => by rw [List.mem_singleton.mp hy]; exact x⟩
theorem Fit.dropZ (F : Fit K Z Xo js H σ env J) (ne : noExc env = true) : Fit K [] Xo js H σ env J :=
  ⟨F.out, F.nd, F.jx, F.len, F.slen, F.jar, fun i h e => by
    obtain ⟨v, h1, h2⟩ := F.slot i h e
    refine ⟨v, h1, ?_⟩
    cases h with
    | exc k =>
      have := (List.all_eq_true.mp ne) _ (List.mem_of_getElem? e)
      cases this
    | newB _ _ => exact h2
    | val d => exact h2
    | jar k => exact h2
    | new ds => exact h2, fun y hy => by simp at hy⟩
theorem Fit.unset (F : Fit K Z Xo js H σ env J) (i : Nat) : Fit K Z Xo js H (σ.set i none) (env.set i none) J :=
  ⟨F.out, F.nd, F.jx, F.len, by rw [List.length_set, List.length_set]; exact F.slen, F.jar, fun j h e => by
    by_cases hj : i = j
    · subst hj
      by_cases hl : i < env.length
      · rw [List.getElem?_set_self hl] at e; cases e
      · rw [List.getElem?_eq_none (by rw [List.length_set]; omega)] at e; cases e
    · rw [List.getElem?_set_ne hj] at e ⊢
      exact F.slot j h e, F.ez⟩
theorem outN_drop {h : HV} {v : V} (ne : ¬ isExc h = true) (o : OutN K Z Xo js H H' [] [] J h v) : OutN K [] Xo js H H' [] [] J h v := by
  cases h with
  | exc k => exact absurd rfl ne
  | newB _ _ => exact absurd rfl ne
  | val d => exact ⟨o.1.bareZ, o.2⟩
  | jar k => exact ⟨o.1.bareZ, o.2⟩
  | new ds =>
    obtain ⟨p, vs, a1, a2, a3, a4, a5⟩ := o
    exact ⟨p, vs, a1, a2, a3, a4.bareZ, a5⟩
/-- the suite's end is the statement's -/
theorem post_off {z : Zx} {o : Option Nat} {r : RS} (s : Stp n0 js js' H H') (p : PostS K [] W n0 Xo js H D (offR o r)) : PostS K [z] W0 n0 Xo js' H' (match o with | none => D | some i => off D i) r := by
  have fit : ∀ {σ2 : L2.St} {js2 : List Addr} {H2 : Hp} {e : En} {J : Jr}, noExc (offE o e) = true → Fit K [z] Xo js2 H2 σ2 e J → Fit K [] Xo js2 H2 (match o with | none => σ2 | some i => σ2.set i none) (offE o e) J := by
    intro σ2 js2 H2 e J ne F
    cases o with
    | none => exact F.dropZ ne
    | some i => exact (F.unset i).dropZ ne
  cases r with
  | nx e J =>
    have p : PostS K [] W n0 Xo js H D (if noExc (offE o e) = true then .nx (offE o e) J else .stuck) := p
    by_cases ne : noExc (offE o e) = true
    · rw [if_pos ne] at p
      intro σ2 H2 js2 s2 F2
      have := p _ H2 js2 (s.trans s2) (fit ne F2)
      cases o <;> exact this
    · rw [if_neg ne] at p; exact p.elim
  | bk e J =>
    have p : PostS K [] W n0 Xo js H D (if noExc (offE o e) = true then .bk (offE o e) J else .stuck) := p
    by_cases ne : noExc (offE o e) = true
    · rw [if_pos ne] at p
      intro σ2 H2 js2 s2 F2
      have := p _ H2 js2 (s.trans s2) (fit ne F2)
      cases o <;> exact this
    · rw [if_neg ne] at p; exact p.elim
  | ct e J =>
    have p : PostS K [] W n0 Xo js H D (if noExc (offE o e) = true then .ct (offE o e) J else .stuck) := p
    by_cases ne : noExc (offE o e) = true
    · rw [if_pos ne] at p
      intro σ2 H2 js2 s2 F2
      have := p _ H2 js2 (s.trans s2) (fit ne F2)
      cases o <;> exact this
    · rw [if_neg ne] at p; exact p.elim
  | rt h J =>
    have p : PostS K [] W n0 Xo js H D (if isExc h = true then .stuck else .rt h J) := p
    by_cases ne : isExc h = true
    · rw [if_pos ne] at p; exact p.elim
    · rw [if_neg ne] at p
      intro v H2 js2 s2 o2
      have o3 : OutN K [z] Xo js2 H H2 [] [] J h v := by
        cases h with
        | val d => exact o2
        | jar k => exact o2
        | exc k => exact o2
        | newB _ _ => exact absurd rfl ne
        | new ds =>
          obtain ⟨q, us, a1, a2, a3⟩ := o2
          exact ⟨q, us, a1, s.back q a2, a3⟩
      have := p v H2 js2 (s.transR s2) (outN_drop ne o3)
      cases o <;> exact this
  | err c fs e J => exact p.elim
  | stuck => exact p.elim
end
/-- a suite's reading: some exception is held -/
def tSu (K : PySem.W.Frag) (n0 : Nat) (h : Str → List (Str × D) → SF) : Addr → Value → Option Addr → TS := fun a cls d Dn σ H => ∃ c fs, tS K [⟨a, c, fs, cls, d⟩] W0 n0 (h c fs) Dn σ H
section
variable {X : Cx} {n0 : Nat}
theorem su_all {h : Str → List (Str × D) → SF} {suite : List Stmt} (hsu : ∀ (z : Zx) (oe : Obj) (pn : List (Addr × Obj)), Zc z.cls z.od oe → (∃ vs, oe.data = .fields vs) → PSs (X.suite z.a ((z.a, oe) :: pn)) suite (tS X.K [z] W0 n0 (h z.c z.fs)))
    (a : Addr) (oe : Obj) (cls : Value) (d : Option Addr) (pn : List (Addr × Obj)) (hz : Zc cls d oe) (hf : ∃ vs, oe.data = .fields vs) : PSs (X.suite a ((a, oe) :: pn)) suite (tSu X.K n0 h a cls d) :=
  ⟨fun pins s σ H Dn I ⟨c, fs, w⟩ => (hsu ⟨a, c, fs, cls, d⟩ oe pn hz hf).run pins s σ H Dn I w⟩
abbrev mkCl (K : PySem.W.Frag) (n0 : Nat) (cs : List (Value × PCl)) : List Cl := cs.map fun p => (p.1, p.2.2.1, tSu K n0 p.2.2.2)
theorem hand_ok {W : WX} {M : Str → Str → Option Bool} {D0 : Ends} {Xo : Addr → Prop} {js js' : List Addr} {H H' : Hp} {σ' : L2.St} {e1 : En} {J1 : Jr} {c : Str} {fs : List (Str × D)} {cls : Value} {od : Option Addr} (F : Fit X.K [] Xo js' H' σ' e1 J1) (x : ExcAt X.K Xo js' c fs cls od H') (s : Stp n0 js js' H H') :
    ∀ (cs : List (Value × PCl)), (∀ p ∈ cs, ∀ c b, M c p.2.1 = some b → ∀ C, PySem.W.nsIn X.K mainGlobals c = some (some (.ref C)) → PySem.W.exmOne X.K (.ref C) p.1 = some b) → PostS X.K [] W n0 Xo js H D0 (sHand M (cs.map (·.2)) c fs n0 e1 J1) → wAll X.K W D0 (mkCl X.K n0 cs) cls od σ' H'
  | [], _, p => p cls od σ' H' js' x s F
  | (cv, xn, o, h) :: r, hM, p => by
    have p : PostS X.K [] W n0 Xo js H D0 (match M c xn with
      | some true => offR o (h c fs n0 (onE o e1) J1)
      | some false => sHand M (r.map (·.2)) c fs n0 e1 J1
      | none => .stuck) := p
    cases m : M c xn with
    | none => rw [m] at p; exact p.elim
    | some b =>
      rw [m] at p
      obtain ⟨C, c1, c2, _⟩ := id x
      have hm := hM _ List.mem_cons_self c b m C c1
      refine ⟨b, by rw [c2]; exact hm, fun hb a ha => ?_, fun hb => ?_⟩
      · subst hb
        have Fz : Fit X.K [⟨a, c, fs, cls, od⟩] Xo js' H' σ' e1 J1 := F.addZ (z := ⟨a, c, fs, cls, od⟩) x
        have q := post_off (z := ⟨a, c, fs, cls, od⟩) s p
        cases o with
        | none => exact ⟨c, fs, Xo, js', e1, J1, Fz, q⟩
        | some i => exact ⟨c, fs, Xo, js', _, J1, Fz.set i (h := .exc 0) (v := .ref a) ⟨⟨a, c, fs, cls, od⟩, rfl, rfl⟩, q⟩
      · subst hb
        exact hand_ok F x s r (fun q hq => hM q (List.mem_cons_of_mem _ hq)) p
theorem s_try {W : WX} {M : Str → Str → Option Bool} {body : List Stmt} {h₀ : ExceptHandler} {hds : List ExceptHandler} {cs : List (Value × PCl)} {pos : Pos} {f : SF} (hs : X.stack = X.env :: X.outer) (hf : X.env.frame = some X.env.locals) (tk : Takes X W) (hN : X.N.Nodup)
    (hb : ∀ (W : WX) (pn : List (Addr × Obj)) (xe : Value → Shared → Prop), Takes (X.tr pn xe) W → PassesOwn (model X.prog X.w) X.A X.env xe → PSs (X.tr pn xe) body (tS X.K [] W n0 f))
    (hh : Hds2 X (h₀ :: hds) (mkCl X.K n0 cs)) (hM : ∀ p ∈ cs, ∀ c b, M c p.2.1 = some b → ∀ C, PySem.W.nsIn X.K mainGlobals c = some (some (.ref C)) → PySem.W.exmOne X.K (.ref C) p.1 = some b) :
    PS X (.Try body (h₀ :: hds) [] [] pos) (tS X.K [] W n0 (sTry M f (cs.map (·.2)))) :=
  ps_mono (try_all hs hf tk hN (tb := fun W => tS X.K [] W n0 f) hb hh) fun D0 σ H ⟨Xo, js, env, J, F, p⟩ => by
    refine ⟨Xo, js, env, J, F, ?_⟩
    unfold sTry at p
    cases r : f n0 env J with
    | err c fs e1 J1 =>
      rw [r] at p
      exact fun cls od σ' H' js' x s F' => hand_ok F' x s cs hM p
    | nx e J => rw [r] at p; exact p
    | bk e J => rw [r] at p; exact p
    | ct e J => rw [r] at p; exact p
    | rt h J => rw [r] at p; exact p
    | stuck => rw [r] at p; exact p
theorem look_fld {K : PySem.W.Frag} {H : Hp} {Y : Addr → Prop} {m : Str} {d : D} : ∀ {fs : List (Str × D)} {us : List (Str × V)}, us.map (·.1) = fs.map (·.1) → Reps K H Y (fs.map (·.2)) (us.map (·.2)) → fs.lookup m = some d → ∃ v, us.lookup m = some v ∧ Rep K H Y d v
  | [], us, h1, h2, h3 => by cases h3
  | (a, e) :: fs, [], h1, h2, h3 => by cases h1
  | (a, e) :: fs, (b, u) :: us, h1, h2, h3 => by
    obtain ⟨v, r, e1, r1, r2⟩ := reps_cons.mp h2
    simp only [List.map_cons, List.cons.injEq] at h1 e1
    obtain ⟨hb, h1⟩ := h1
    have hb : b = a := hb
    subst hb
    cases hm : m == b with
    | true =>
      simp only [List.lookup_cons, hm] at h3 ⊢
      cases h3
      exact ⟨u, rfl, by rw [e1.1]; exact r1⟩
    | false =>
      simp only [List.lookup_cons, hm] at h3 ⊢
      exact look_fld h1 (by rw [e1.2]; exact r2) h3
theorem pn_fld {z : Zx} {W : WX} {C : Addr} {oe : Obj} {pn : List (Addr × Obj)} {i : Nat} {n m : Str} {p pos : Pos} (T : XfC X.K C) (hno : PySem.W.findIn X.K (.ref C) m = some none) (hC : PySem.W.nsIn X.K mainGlobals z.c = some (some (.ref C)))
    (hz : Zc z.cls z.od oe) (hf : ∃ vs, oe.data = .fields vs) (he : PE (X.suite z.a ((z.a, oe) :: pn)) (.Name n p) (tVar i)) (hb : attributeBase (.Name n p) m X.env (eval (.Name n p) X.env) = eval (.Name n p) X.env) :
    PE (X.suite z.a ((z.a, oe) :: pn)) (.Attribute (.Name n p) m pos) (tN X.K [z] W (eFld i m z.fs)) := pe_mono (pe_xf T hno hz hf he hb) fun σ H Q ⟨Xo, js, env, J, F, p⟩ => by
  unfold eFld at p
  cases hs : env[i]? with
  | none => rw [hs] at p; exact p.elim
  | some o =>
    cases o with
    | none => rw [hs] at p; exact p.elim
    | some y =>
      cases y with
      | val d => rw [hs] at p; exact p.elim
      | new d => rw [hs] at p; exact p.elim
      | jar k => rw [hs] at p; exact p.elim
      | newB _ _ => rw [hs] at p; exact p.elim
      | exc k =>
        cases k with
        | succ k => rw [hs] at p; exact p.elim
        | zero =>
          rw [hs] at p
          have p : PostN X.K [z] W Xo js H σ env Q (match z.fs.lookup m with | some d => .ok (.val d) J | none => .stuck) := p
          cases hl : z.fs.lookup m with
          | none => rw [hl] at p; exact p.elim
          | some d =>
            rw [hl] at p
            obtain ⟨v, hv, z', hz', rfl⟩ := F.slot i _ hs
            have ez : z = z' := by simpa using hz'
            subst ez
            obtain ⟨C', c1, c2, dd, us, d1, d2, d3, d4⟩ := F.ez z List.mem_cons_self
            have eC : C' = C := by rw [c1] at hC; injection hC with e; injection e with e; injection e
            subst eC
            obtain ⟨u, hu, ru⟩ := look_fld d3 d4 hl
            exact ⟨_, hv, rfl, c2, dd, us, u, d1, d2, hu, p u H .refl ⟨F, ru⟩⟩
end
end L2.Pz
set_option Elab.async false
set_option linter.all false
set_option maxRecDepth 100000
set_option maxHeartbeats 4000000
set_option autoImplicit false
namespace L2.Pz
open PySem PySem.Spec PyProof.Rows
/-! ### calls that may raise within a try: the wish hangs on the slots -/
section
variable {X : Cx} {k : Nat} {g : Addr} {fd : FuncData} {ps ks : List Str} {sp : Sp} {W : WX} {x : Str} {p pos : Pos} {kws : List Keyword} {tkw : TA} {gg : List Value → List Value → List Value} {gV : List V → List V → List V} {Z : List Zx} {F : FT} {fs : List EF} {ix : List Nat}
theorem end_S {pins : List (Addr × Obj)} {σ : L2.St} {H : Hp} {s : Shared} {Q : VK} (tk : Takes X W) (I : Inv X pins σ H s) {r : Result} {s' : Shared} (h : CR (L2.CX X.prog X.w) X.stack X.prog X.w H s Q (fun cls d H => W cls d σ H) r s') :
    (match r with | .ok (.ret v) => EP X pins σ Q v s' | .ok _ => False | .error e => X.xe e s') := by
  rcases r with e | f
  · exact passAt tk σ pins H s e s' I h
  · cases f with
    | ret v => exact I.after h
    | next => exact False.elim h
    | brk => exact False.elim h
    | cont => exact False.elim h
theorem pe_callKS (G : FnOk X.prog X.w X.K X.mg X.base (L2.CX X.prog X.w) k g fd ps sp) (tk : Takes X W) (hr : Room k X.A) (hg : Gl X x) (hm : X.mg x = some (.ref g)) (hk : PySem.W.keepIn X.K (.ref g) = true) (hb : KBinds X.K fd ps ks gg gV)
    (hkw : PK X kws tkw) (hall : (backToKw pos (keywordEach kws X.env)).all (·.1.isSome) = true) (hks : (backToKw pos (keywordEach kws X.env)).filterMap (·.1) = ks)
    (hdb : (x == ("__debug__" : Str)) = false) (hpl : ((backTo pos (starEach [] X.env)).any (·.1) || (backToKw pos (keywordEach kws X.env)).any (·.1.isNone)) = false) :
    PE X (.Call (.Name x p) [] kws pos) (fun σ H Q => tkw σ H fun zs H2 => sp (gV [] zs) H2 Q (fun cls d H => W cls d σ H)) := by
  refine ⟨fun pins s σ H Q I h => wpAny_Call_Name_kw (ld_glob I hg hm ?_ hdb)⟩
  refine PySem.W.callWith_KW0 (h₀ := X.base) I.ok.mod.kin hk hall (thn (hkw.run pos pins s σ H _ I h) fun ws s2 ⟨zs, H2, J, rz, q⟩ => ⟨J.kIn, ?_⟩) hpl
  rw [hks]
  have r2 := hb.rel .nil rz
  have hl : (gg [] ws).length = ps.length := by rw [← r2.length]; exact G.len _ _ _ _ q
  refine wpAny_call (codeAny_mono (G.run X.A X.stack s2 H2 ⟨[], ks.zip ws⟩ (gg [] ws) (gV [] zs) Q _ hr J.env0 (hb.to s2 [] ws J.kIn hl) r2 q) fun r s' c => ?_)
  have e := end_S tk J c
  rcases r with r | f
  · exact e
  · cases f <;> exact e
theorem pn_callKS (G : FnOk X.prog X.w X.K X.mg X.base (L2.CX X.prog X.w) k g fd ps (spF X.K ps.length F)) (tk : Takes X W) (hr : Room k X.A) (hg : Gl X x) (hm : X.mg x = some (.ref g)) (hk : PySem.W.keepIn X.K (.ref g) = true)
    (hb : KBinds X.K fd ps ks (fun us ws => if us.isEmpty then permute ix ws else []) (fun us ws => if us.isEmpty then permute ix ws else [])) (hkw : PK X kws (tH X.K Z W fs)) (hn : ∀ i ∈ ix, i < fs.length) (hx : ix.length = ps.length)
    (hall : (backToKw pos (keywordEach kws X.env)).all (·.1.isSome) = true) (hks : (backToKw pos (keywordEach kws X.env)).filterMap (·.1) = ks)
    (hdb : (x == ("__debug__" : Str)) = false) (hpl : ((backTo pos (starEach [] X.env)).any (·.1) || (backToKw pos (keywordEach kws X.env)).any (·.1.isNone)) = false) :
    PE X (.Call (.Name x p) [] kws pos) (tN X.K Z W (eCallK F ix fs)) :=
  pe_mono (pe_callKS G tk hr hg hm hk hb hkw hall hks hdb hpl) fun σ H Q w => callK_read (E := fun cls d H => W cls d σ H) hn hx (fun _ _ _ z => z) (fun _ _ _ z => z) w
theorem pn_call0S (G : FnOk X.prog X.w X.K X.mg X.base (L2.CX X.prog X.w) k g fd ps (spF X.K ps.length F)) (tk : Takes X W) (hr : Room k X.A) (hg : Gl X x) (hm : X.mg x = some (.ref g)) (hk : PySem.W.keepIn X.K (.ref g) = true) (hb : Binds X.K fd ps [])
    (hn : ([] : List EF).length = ps.length) (hdb : (x == ("__debug__" : Str)) = false) : PE X (.Call (.Name x p) [] [] pos) (tN X.K Z W (eCall F [])) := by
  refine ⟨fun pins s σ H Q I h => wpAny_Call_Name_kw (ld_glob I hg hm ?_ hdb)⟩
  have q := call_read (X := X) (W := W) (t := tNil) (E := fun cls d H => W cls d σ H) hn (fun σ H Q ⟨Xo, js, env, J, Fi, p⟩ => p [] H .refl Fi rfl) (fun _ _ _ z => z) h
  have b := hb s [] I.kIn (by simpa using hn)
  refine PySem.W.callWith_K0 I.kIn hk (wpAny_call (codeAny_mono (G.run X.A X.stack s H ⟨[], []⟩ [] [] Q _ hr I.env0 (by simpa using b) .nil q) fun r s' c => ?_))
  have e := end_S tk I c
  rcases r with r | f
  · exact e
  · cases f <;> exact e
end
end L2.Pz
set_option Elab.async false
set_option linter.all false
set_option maxRecDepth 100000
set_option maxHeartbeats 4000000
set_option autoImplicit false
namespace L2.Pz
open PySem
/-! ### the logic: raise, try, a held exception's field -/
def excQ (o : Option (Option HV)) (Q : Prop) : Prop := match o with
  | some (some (.exc 0)) => Q
  | _ => False
@[simp] theorem excQ_some {Q : Prop} : excQ (some (some (.exc 0))) Q ↔ Q := Iff.rfl
def sufP (o : Option Nat) (P : Po) : Po where
  nx := fun e J => noExc (offE o e) = true ∧ P.nx (offE o e) J
  rt := fun h J => isExc h = false ∧ P.rt h J
  bk := fun e J => noExc (offE o e) = true ∧ P.bk (offE o e) J
  ct := fun e J => noExc (offE o e) = true ∧ P.ct (offE o e) J
  er := fun _ _ _ _ => False
section
variable {α : Type} {X : XP} {J : Jr} {env : En} {P : Po} {n : Nat} {M : Str → Str → Option Bool} {hs : List PCl} {c x m : Str} {fs : List (Str × D)} {o : Option Nat} {h : Str → List (Str × D) → SF} {f : SF} {ns : List Str} {es : List EF}
@[simp] theorem Ex_fld {i : Nat} {Q : HV → Jr → Prop} : Ex X (eFld i m fs env J) Q ↔ excQ env[i]? (OpQ (fs.lookup m) fun d => Q (.val d) J) := by
  unfold eFld
  cases h : env[i]? with
  | none => simp only [Ex_eq]; exact Iff.rfl
  | some y =>
    cases y with
    | none => simp only [Ex_eq]; exact Iff.rfl
    | some y =>
      cases y with
      | val d => simp only [Ex_eq]; exact Iff.rfl
      | jar d => simp only [Ex_eq]; exact Iff.rfl
      | new d => simp only [Ex_eq]; exact Iff.rfl
      | newB _ _ => simp only [Ex_eq]; exact Iff.rfl
      | exc k =>
        cases k with
        | succ k => simp only [Ex_eq]; exact Iff.rfl
        | zero =>
          show Ex X (match fs.lookup m with | some d => .ok (.val d) J | none => .stuck) Q ↔ OpQ (fs.lookup m) fun d => Q (.val d) J
          cases fs.lookup m <;> (simp only [Ex_eq]; exact Iff.rfl)
@[simp] theorem Sx_raise : Sx P (sRaise c ns es n env J) ↔ Ex (fun c fs J => P.er c fs env J) (eItems es env J) fun ds J => ds.length = ns.length ∧ P.er c (ns.zip ds) env J := by
  unfold sRaise
  rw [Sx_on]
  refine Ex_iff fun ds J1 => ?_
  by_cases hl : ds.length = ns.length
  · simp [hl]
  · simp [hl]
@[simp] theorem Sx_try : Sx P (sTry M f hs n env J) ↔ Sx { P with er := fun c fs e J => Sx P (sHand M hs c fs n e J) } (f n env J) := by
  unfold sTry
  cases f n env J <;> (simp only [Sx_eq]; exact Iff.rfl)
@[simp] theorem Sx_hand0 : Sx P (sHand M [] c fs n env J) ↔ P.er c fs env J := Sx_err
theorem Sx_off {r : RS} : Sx P (offR o r) ↔ Sx (sufP o P) r := by
  cases r with
  | nx e J =>
    show Sx P (if noExc (offE o e) = true then .nx (offE o e) J else .stuck) ↔ _
    by_cases h : noExc (offE o e) = true <;> simp [h, sufP]
  | bk e J =>
    show Sx P (if noExc (offE o e) = true then .bk (offE o e) J else .stuck) ↔ _
    by_cases h : noExc (offE o e) = true <;> simp [h, sufP]
  | ct e J =>
    show Sx P (if noExc (offE o e) = true then .ct (offE o e) J else .stuck) ↔ _
    by_cases h : noExc (offE o e) = true <;> simp [h, sufP]
  | rt y J =>
    show Sx P (if isExc y = true then .stuck else .rt y J) ↔ _
    by_cases h : isExc y = true <;> simp [h, sufP]
  | err c fs e J => simp [offR, sufP]
  | stuck => simp [offR]
theorem Sx_hit (hm : M c x = some true) : Sx P (sHand M ((x, o, h) :: hs) c fs n env J) ↔ Sx (sufP o P) (h c fs n (onE o env) J) := by
  show Sx P (match M c x with
    | some true => offR o (h c fs n (onE o env) J)
    | some false => sHand M hs c fs n env J
    | none => .stuck) ↔ _
  rw [hm]
  exact Sx_off
theorem Sx_miss (hm : M c x = some false) : Sx P (sHand M ((x, o, h) :: hs) c fs n env J) ↔ Sx P (sHand M hs c fs n env J) := by
  show Sx P (match M c x with
    | some true => offR o (h c fs n (onE o env) J)
    | some false => sHand M hs c fs n env J
    | none => .stuck) ↔ _
  rw [hm]
end
end L2.Pz
set_option Elab.async false
set_option linter.all false
set_option maxRecDepth 100000
set_option maxHeartbeats 4000000
set_option autoImplicit false
namespace L2.Pz
open PySem PySem.Spec PyProof.Rows
/-! ### a module's constant -/
def mapO {α β : Type} (f : α → Option β) : List α → Option (List β)
  | [] => some []
  | u :: us => match f u, mapO f us with
    | some d, some ds => some (d :: ds)
    | _, _ => none
def plainD : Value → Option D
  | .none => some .non
  | .bool b => some (.bl b)
  | .int i _ => some (.int i)
  | .str x _ => some (.str x)
  | _ => none
/-- the datum that a value of the written part stands for (tuples within) -/
def readD (K : PySem.W.Frag) : Nat → Value → Option D
  | 0, u => plainD u
  | k + 1, .ref a => match K.lookup a with
    | some ⟨.type "tuple", _, .seq its _, _⟩ => if its.size ≤ 16777216 then (mapO (readD K k) its.toList).map D.tup else none
    | _ => none
  | k + 1, u => plainD u
theorem plain_ok {K : PySem.W.Frag} {u : Value} {d : D} (h : plainD u = some d) : ∃ v, RelV v u ∧ ∀ H Y, Rep K H Y d v := by
  cases u <;> first | cases h | skip
  · exact ⟨.non, rfl, fun _ _ => mk_non⟩
  · exact ⟨.bl _, rfl, fun _ _ => mk_bl⟩
  · exact ⟨.int _, ⟨_, rfl⟩, fun _ _ => mk_int⟩
  · exact ⟨.str _, ⟨_, rfl⟩, fun _ _ => mk_str⟩
theorem mapO_ok {K : PySem.W.Frag} {f : Value → Option D} (hf : ∀ u d, f u = some d → ∃ v, RelV v u ∧ ∀ H Y, Rep K H Y d v) : ∀ (us : List Value) (ds : List D), mapO f us = some ds → ∃ vs, Vals vs us ∧ ∀ H Y, Reps K H Y ds vs
  | [], ds, h => by cases h; exact ⟨[], .nil, fun _ _ => reps_nil.mpr rfl⟩
  | u :: us, ds, h => by
    unfold mapO at h
    cases h1 : f u with
    | none => rw [h1] at h; cases h
    | some d =>
      cases h2 : mapO f us with
      | none => rw [h1, h2] at h; cases h
      | some es =>
        rw [h1, h2] at h
        cases h
        obtain ⟨v, r, q⟩ := hf u d h1
        obtain ⟨vs, rs, qs⟩ := mapO_ok hf us es h2
        exact ⟨v :: vs, .cons r rs, fun H Y => reps_cons.mpr ⟨v, vs, rfl, q H Y, qs H Y⟩⟩
theorem readD_ok {K : PySem.W.Frag} : ∀ (k : Nat) (u : Value) (d : D), readD K k u = some d → ∃ v, RelV v u ∧ ∀ H Y, Rep K H Y d v
  | 0, u, d, h => plain_ok h
  | k + 1, u, d, h => by
    cases u with
    | ref a =>
      have h : (match K.lookup a with
        | some ⟨.type "tuple", _, .seq its _, _⟩ => if its.size ≤ 16777216 then (mapO (readD K k) its.toList).map D.tup else none
        | _ => none) = some d := h
      split at h
      · rename_i od its n sl e
        split at h
        · rename_i hs
          cases hm : mapO (readD K k) its.toList with
          | none => rw [hm] at h; cases h
          | some ds =>
            rw [hm] at h
            cases h
            obtain ⟨vs, rs, qs⟩ := mapO_ok (readD_ok k) _ _ hm
            exact ⟨.ref a, rfl, fun H Y => rep_tup.mpr ⟨a, vs, rfl, .inr ⟨_, its, n, e, rfl, rfl, by rw [sizeLine_eq]; exact hs, rs⟩, qs H Y⟩⟩
        · cases h
      · cases h
    | _ => exact plain_ok h
theorem pd_glob {X : Cx} {Z : List Zx} {W : WX} {x : Str} {u : Value} {d : D} {k : Nat} {pos : Pos} (hg : Gl X x) (hm : X.mg x = some u) (hr : readD X.K k u = some d) (hd : (x == ("__debug__" : Str)) = false) : PE X (.Name x pos) (tD X.K Z W (eC d)) := by
  obtain ⟨v, r, q⟩ := readD_ok k u d hr
  exact pd_c (t := tC v) (pe_glob hg hm r hd) q
end L2.Pz
set_option Elab.async false
set_option linter.all false
set_option maxRecDepth 100000
set_option maxHeartbeats 4000000
set_option autoImplicit false
namespace L2.Pz
open PySem PySem.Spec PyProof.Rows
/-! ### what a handler knows of the held exception -/
/-- a suite that is written for the class c0 alone -/
def sFor1 (c0 c : Str) (f : SF) : SF := if c = c0 then f else fun _ _ _ => .stuck
theorem su_if {X : Cx} {n0 : Nat} {Z : List Zx} {W : WX} {suite : List Stmt} {c0 c : Str} {f : SF} (h : c = c0 → PSs X suite (tS X.K Z W n0 f)) : PSs X suite (tS X.K Z W n0 (sFor1 c0 c f)) := by
  unfold sFor1
  by_cases e : c = c0
  · rw [if_pos e]; exact h e
  · rw [if_neg e]; exact ⟨fun pins s σ H Dn I ⟨Xo, js, env, J, F, p⟩ => p.elim⟩
/-- which class is caught by which: one handler's column -/
abbrev Xcol := List (Str × Bool)
def excOf (l : List (Str × Xcol)) (c x : Str) : Option Bool := (l.lookup x).bind fun r => r.lookup c
theorem xcol_ok {K : PySem.W.Frag} {v : Value} : ∀ (r : Xcol), (∀ p ∈ r, ∃ C, PySem.W.nsIn K mainGlobals p.1 = some (some (.ref C)) ∧ PySem.W.exmOne K (.ref C) v = some p.2) → ∀ c b, r.lookup c = some b → ∀ C, PySem.W.nsIn K mainGlobals c = some (some (.ref C)) → PySem.W.exmOne K (.ref C) v = some b
  | [], _, c, b, h => by cases h
  | (c0, b0) :: r, hr, c, b, h => by
    intro C hC
    by_cases e : (c == c0) = true
    · simp only [List.lookup_cons, e] at h
      cases h
      have e := eq_of_beq e
      subst e
      obtain ⟨C', h1, h2⟩ := hr _ List.mem_cons_self
      have h1 : PySem.W.nsIn K mainGlobals c = some (some (.ref C')) := h1
      rw [h1] at hC
      cases hC
      exact h2
    · rw [Bool.not_eq_true] at e
      simp only [List.lookup_cons, e] at h
      exact xcol_ok r (fun p hp => hr p (List.mem_cons_of_mem _ hp)) c b h C hC
theorem xcol_cons {K : PySem.W.Frag} {v : Value} {c : Str} {b : Bool} {C : Addr} {r : Xcol} (h1 : PySem.W.nsIn K mainGlobals c = some (some (.ref C))) (h2 : PySem.W.exmOne K (.ref C) v = some b)
    (hr : ∀ p ∈ r, ∃ C, PySem.W.nsIn K mainGlobals p.1 = some (some (.ref C)) ∧ PySem.W.exmOne K (.ref C) v = some p.2) : ∀ p ∈ (c, b) :: r, ∃ C, PySem.W.nsIn K mainGlobals p.1 = some (some (.ref C)) ∧ PySem.W.exmOne K (.ref C) v = some p.2
  | p, hp => by
    rcases List.mem_cons.mp hp with rfl | hp
    · exact ⟨C, h1, h2⟩
    · exact hr p hp
theorem xcol_nil {K : PySem.W.Frag} {v : Value} : ∀ p ∈ ([] : Xcol), ∃ C, PySem.W.nsIn K mainGlobals p.1 = some (some (.ref C)) ∧ PySem.W.exmOne K (.ref C) v = some p.2 := fun p hp => by cases hp
/-- the clauses, one by one -/
abbrev ColOk (K : PySem.W.Frag) (M : Str → Str → Option Bool) (v : Value) (x : Str) : Prop := ∀ c b, M c x = some b → ∀ C, PySem.W.nsIn K mainGlobals c = some (some (.ref C)) → PySem.W.exmOne K (.ref C) v = some b
theorem cols_nil {K : PySem.W.Frag} {M : Str → Str → Option Bool} : ∀ p ∈ ([] : List (Value × PCl)), ColOk K M p.1 p.2.1 := fun p hp => by cases hp
theorem cols_cons {K : PySem.W.Frag} {M : Str → Str → Option Bool} {v : Value} {q : PCl} {cs : List (Value × PCl)} (h : ColOk K M v q.1) (hr : ∀ p ∈ cs, ColOk K M p.1 p.2.1) : ∀ p ∈ (v, q) :: cs, ColOk K M p.1 p.2.1
  | p, hp => by
    rcases List.mem_cons.mp hp with rfl | hp
    · exact h
    · exact hr p hp
section
variable {X : Cx} {Z : List Zx} {W : WX} {f g k : EF}
theorem chain_read {r r' : R2} {fo go : F2} {σ : L2.St} {H : Hp} {Q : V → Hp → Prop} (sem : Sem2 X.K r fo) (sem' : Sem2 X.K r' go) : tN X.K Z W (eChain fo go f g k) σ H Q → tChain r r' (tD X.K Z W f) (tD X.K Z W g) (tD X.K Z W k) σ H Q := fun ⟨Xo, js, env, J, F, p⟩ => by
  refine ⟨Xo, js, env, J, F, ?_⟩
  unfold eChain at p
  cases hf : f env J with
  | stuck => rw [hf] at p; exact p.elim
  | err c fs J1 => rw [hf] at p; exact p
  | ok h1 J1 =>
    rw [hf] at p
    intro x H1 e1 F1 x1
    refine ⟨Xo, js, env, J1, F1, ?_⟩
    have p : PostN X.K Z W Xo js H σ env Q ((g env J1).bind fun h2 J2 => (toB (app2 fo J2 h1 h2)).bind fun b J3 => if b = true then (k env J3).bind fun h3 J4 => app2 go J4 h2 h3 else .ok (.val (.bl false)) J3) := p
    cases hg : g env J1 with
    | stuck => rw [hg] at p; exact p.elim
    | err c fs J2 => rw [hg] at p; exact p.later e1
    | ok h2 J2 =>
      rw [hg] at p
      intro y H2 e2 F2 y2
      refine app2_read (W := W) sem (H := H2) .refl F2 (x1.ext F1 e2) y2 ?_
      have p : PostN X.K Z W Xo js H σ env Q ((toB (app2 fo J2 h1 h2)).bind fun b J3 => if b = true then (k env J3).bind fun h3 J4 => app2 go J4 h2 h3 else .ok (.val (.bl false)) J3) := p
      cases hr : app2 fo J2 h1 h2 with
      | stuck => rw [hr] at p; exact p.elim
      | err c fs J3 => rw [hr] at p; exact p.later (e1.trans e2)
      | ok z J3 =>
        rw [hr] at p
        intro v H3 e3 o
        have e03 := (e1.trans e2).trans e3
        cases z with
        | jar k => exact p.elim
        | exc k => exact p.elim
        | newB _ _ => exact p.elim
        | new ds => exact p.elim
        | val d =>
          cases d with
          | bl q =>
            refine ⟨q, outN_bl o, ?_⟩
            cases q with
            | false => exact iteF (p (.bl false) H3 e03 (out_bl o.1))
            | true =>
              refine iteT ⟨Xo, js, env, J3, o.1, ?_⟩
              have p : PostN X.K Z W Xo js H σ env Q ((k env J3).bind fun h3 J4 => app2 go J4 h2 h3) := p
              cases hk : k env J3 with
              | stuck => rw [hk] at p; exact p.elim
              | err c fs J4 => rw [hk] at p; exact p.later e03
              | ok h3 J4 =>
                rw [hk] at p
                intro u H4 e4 F4 u4
                exact app2_read sem' (e03.trans e4) F4 ((y2.ext F2 e3).ext o.1 e4) u4 p
          | _ => exact p.elim
/-- a op1 b op2 c, the expression known -/
theorem pn_chainD {a b c : Expr} {op op' : CmpOp} {r r' : R2} {fo go : F2} {pos : Pos} (ho : OpR X (compareOp op) r) (ho' : OpR X (compareOp op') r') (sem : Sem2 X.K r fo) (sem' : Sem2 X.K r' go) (ha : PE X a (tD X.K Z W f)) (hb : PE X b (tD X.K Z W g)) (hc : PE X c (tD X.K Z W k))
    (hm : lastMarks [op, op'] [b, c] = false) : PE X (.Compare a [op, op'] [b, c] pos) (tN X.K Z W (eChain fo go f g k)) := pe_mono (pe_chain ho ho' ha hb hc hm) fun σ H Q w => chain_read sem sem' w
def bChain (fo go : F2) (f g k : EF) : BF := fun env J => toB (eChain fo go f g k env J)
theorem pt_chainD {a b c : Expr} {op op' : CmpOp} {r r' : R2} {fo go : F2} {pos : Pos} (ho : OpR X (compareOp op) r) (ho' : OpR X (compareOp op') r') (sem : Sem2 X.K r fo) (sem' : Sem2 X.K r' go) (ha : PE X a (tD X.K Z W f)) (hb : PE X b (tD X.K Z W g)) (hc : PE X c (tD X.K Z W k))
    (hm : lastMarks [op, op'] [b, c] = false) : PT X (.Compare a [op, op'] [b, c] pos) (tT X.K Z W (bChain fo go f g k)) := pt_mono (pt_chain ho ho' ha hb hc hm) fun σ H Q w => chain_read sem sem' (toB_read w)
end
end L2.Pz
set_option Elab.async false
set_option linter.all false
set_option maxRecDepth 100000
set_option maxHeartbeats 4000000
set_option autoImplicit false
namespace L2.Pz
open PySem PySem.Spec PyProof.Rows
/-! ### more builtins -/
def asBls : List D → Option (List Bool)
  | [] => some []
  | .bl b :: r => (asBls r).map (b :: ·)
  | _ => none
def dAll : F1
  | .lst ds => match asBls ds with
    | some bs => some (.val (.bl (bs.all id)))
    | none => none
  | _ => none
theorem asBls_map : ∀ {ds : List D} {bs : List Bool}, asBls ds = some bs → ds = bs.map D.bl
  | [], ns, h => by cases h; rfl
  | .bl i :: r, ns, h => by
    unfold asBls at h
    cases e : asBls r with
    | none => rw [e] at h; cases h
    | some ms =>
      rw [e] at h
      cases h
      rw [asBls_map e]; rfl
  | .non :: r, _, h => by cases h
  | .int _ :: r, _, h => by cases h
  | .str _ :: r, _, h => by cases h
  | .tup _ :: r, _, h => by cases h
  | .lst _ :: r, _, h => by cases h
section
variable {K : PySem.W.Frag} {H H' : Hp} {Y : Addr → Prop} {v x y : V} {Z : List Zx}
theorem reps_bls : ∀ {bs : List Bool} {vs : List V}, Reps K H Y (bs.map D.bl) vs → vs = bs.map V.bl
  | [], vs, h => reps_nil.mp h
  | b :: bs, vs, h => by
    obtain ⟨v, r, e, h1, h2⟩ := reps_cons.mp h
    subst e
    rw [reps_bls h2]
    cases h1
    rfl
theorem sem_all : Sem1 K (fun x H Q => rAll K [x] H Q) dAll := by
  intro H Y x d z Q hl hx hz q
  unfold dAll at hz
  split at hz
  · rename_i ds
    split at hz
    · rename_i bs hn
      cases hz
      obtain ⟨a, vs, rfl, s, r⟩ := hx
      rw [asBls_map hn] at r
      have e := reps_bls r
      subst e
      exact ⟨a, bs, rfl, s, q _ _ (po_val mk_bl)⟩
    · cases hz
  · cases hz
end
end L2.Pz
namespace L2.Pz
open PySem PySem.Spec PyProof.Rows
def asStrs : List D → Option (List Str)
  | [] => some []
  | .str b :: r => (asStrs r).map (b :: ·)
  | _ => none
/-- sep.join(a list or tuple of texts) -/
def dJoin (a : Str) : F1
  | .lst ds => match asStrs ds with
    | some ys => if (ys.map (·.length)).sum + ys.length * a.length ≤ 16777216 then some (.val (.str (Txt.join a ys))) else none
    | none => none
  | .tup ds => match asStrs ds with
    | some ys => if (ys.map (·.length)).sum + ys.length * a.length ≤ 16777216 then some (.val (.str (Txt.join a ys))) else none
    | none => none
  | _ => none
def dUpper : F1
  | .str a => if a.length ≤ 5592405 then some (.val (.str (Txt.upper a))) else none
  | _ => none
def dLower : F1
  | .str a => if a.length ≤ 5592405 then some (.val (.str (Txt.lower a))) else none
  | _ => none
theorem asStrs_map : ∀ {ds : List D} {bs : List Str}, asStrs ds = some bs → ds = bs.map D.str
  | [], ns, h => by cases h; rfl
  | .str i :: r, ns, h => by
    unfold asStrs at h
    cases e : asStrs r with
    | none => rw [e] at h; cases h
    | some ms =>
      rw [e] at h
      cases h
      rw [asStrs_map e]; rfl
  | .non :: r, _, h => by cases h
  | .int _ :: r, _, h => by cases h
  | .bl _ :: r, _, h => by cases h
  | .tup _ :: r, _, h => by cases h
  | .lst _ :: r, _, h => by cases h
section
variable {X : Cx} {Z : List Zx} {W : WX} {f : EF} {K : PySem.W.Frag} {H H' : Hp} {Y : Addr → Prop} {v x y : V}
theorem reps_strs : ∀ {bs : List Str} {vs : List V}, Reps K H Y (bs.map D.str) vs → vs = bs.map V.str
  | [], vs, h => reps_nil.mp h
  | b :: bs, vs, h => by
    obtain ⟨v, r, e, h1, h2⟩ := reps_cons.mp h
    subst e
    rw [reps_strs h2]
    cases h1
    rfl
theorem sem_join {a : Str} : Sem1 K (fun x H Q => ∃ b p, ∃ ys : List Str, V.str a = .str b ∧ [x] = [.ref p] ∧ (SqL K H p (ys.map V.str) ∨ SqT K H p (ys.map V.str)) ∧ (ys.map (·.length)).sum + ys.length * b.length ≤ 16777216 ∧ Q (.str (Txt.join b ys)) H) (dJoin a) := by
  intro H Y x d z Q hl hx hz q
  unfold dJoin at hz
  split at hz
  · split at hz
    · rename_i ys hn
      split at hz
      · rename_i hs
        cases hz
        obtain ⟨p, vs, rfl, s, r⟩ := hx
        rw [asStrs_map hn] at r
        have e := reps_strs r
        subst e
        exact ⟨a, p, ys, rfl, rfl, .inl s, hs, q _ _ (po_val mk_str)⟩
      · cases hz
    · cases hz
  · split at hz
    · rename_i ys hn
      split at hz
      · rename_i hs
        cases hz
        obtain ⟨p, vs, rfl, s, r⟩ := top_tup hx
        rw [asStrs_map hn] at r
        have e := reps_strs r
        subst e
        exact ⟨a, p, ys, rfl, rfl, .inr s, hs, q _ _ (po_val mk_str)⟩
      · cases hz
    · cases hz
  · cases hz
theorem sem_upper : Sem1 K (fun x H Q => (∃ a, x = .str a) ∧ ∃ a, x = .str a ∧ ([] : List V) = [] ∧ a.length ≤ 5592405 ∧ Q (.str (Txt.upper a)) H) dUpper := by
  intro H Y x d z Q hl hx hz q
  unfold dUpper at hz
  split at hz
  · split at hz
    · rename_i hs
      cases hz
      have e := top_str hx
      subst e
      exact ⟨⟨_, rfl⟩, _, rfl, rfl, hs, q _ _ (po_val mk_str)⟩
    · cases hz
  · cases hz
theorem sem_lower : Sem1 K (fun x H Q => (∃ a, x = .str a) ∧ ∃ a, x = .str a ∧ ([] : List V) = [] ∧ a.length ≤ 5592405 ∧ Q (.str (Txt.lower a)) H) dLower := by
  intro H Y x d z Q hl hx hz q
  unfold dLower at hz
  split at hz
  · split at hz
    · rename_i hs
      cases hz
      have e := top_str hx
      subst e
      exact ⟨⟨_, rfl⟩, _, rfl, rfl, hs, q _ _ (po_val mk_str)⟩
    · cases hz
  · cases hz
theorem pn_upper {o : Expr} {apos pos : Pos} (ho : PE X o (tD X.K Z W f)) (hbase : attributeBase o "upper" X.env (eval o X.env) = eval o X.env) (hline : (apos.endLine == pos.line) = true) :
    PE X (.Call (.Attribute o "upper" apos) [] [] pos) (tN X.K Z W (eUn dUpper f)) := pe_mono (pe_upper ho hbase hline) fun σ H Q w => un_read sem_upper (fun _ _ _ z => z) w
theorem pn_lower {o : Expr} {apos pos : Pos} (ho : PE X o (tD X.K Z W f)) (hbase : attributeBase o "lower" X.env (eval o X.env) = eval o X.env) (hline : (apos.endLine == pos.line) = true) :
    PE X (.Call (.Attribute o "lower" apos) [] [] pos) (tN X.K Z W (eUn dLower f)) := pe_mono (pe_lower ho hbase hline) fun σ H Q w => un_read sem_lower (fun _ _ _ z => z) w
theorem pn_join {o e : Expr} {a : Str} {apos pos : Pos} (ho : PE X o (tC (.str a))) (he : PE X e (tD X.K Z W f)) (hs : starEach [e] X.env = [(false, eval e X.env)]) (hbase : attributeBase o "join" X.env (eval o X.env) = eval o X.env) (hline : (apos.endLine == pos.line) = true) :
    PE X (.Call (.Attribute o "join" apos) [e] [] pos) (tN X.K Z W (eUn (dJoin a) f)) := pe_mono (pe_join ho he hs hbase hline) fun σ H Q w => ⟨⟨a, rfl⟩, un_read sem_join (fun _ _ _ z => z) w⟩
end
end L2.Pz
namespace L2.Pz
open PySem PySem.Spec PyProof.Rows
/-- str(an int) -/
def dStrI : F1
  | .int i => if i.natAbs.log2 < 1920 then some (.val (.str (toString i))) else none
  | _ => none
theorem sem_strI {K : PySem.W.Frag} : Sem1 K (fun x H Q => ∃ i, [x] = [V.int i] ∧ i.natAbs.log2 < 1920 ∧ Q (.str (toString i)) H) dStrI := by
  intro H Y x d z Q hl hx hz q
  unfold dStrI at hz
  split at hz
  · split at hz
    · rename_i hs
      cases hz
      have e := top_int hx
      subst e
      exact ⟨_, rfl, hs, q _ _ (po_val mk_str)⟩
    · cases hz
  · cases hz
end L2.Pz
namespace L2.Pz
open PySem PySem.Spec PyProof.Rows
/-- a.split() and a.split(b) -/
def dWords : F1
  | .str a => if a.length + 2 ≤ big then some (.new ((Txt.words a).map D.str)) else none
  | _ => none
theorem reps_of_strs {K : PySem.W.Frag} {H : Hp} {Y : Addr → Prop} : ∀ {ys : List Str}, Reps K H Y (ys.map D.str) (ys.map V.str)
  | [] => reps_nil.mpr rfl
  | y :: ys => reps_cons.mpr ⟨_, _, rfl, mk_str, reps_of_strs⟩
theorem sem_words {K : PySem.W.Frag} : Sem1 K (fun x H Q => (∃ a, x = .str a) ∧ ∃ a, x = .str a ∧ ([] : List V) = [] ∧ a.length + 2 ≤ sizeLine ∧ rNewStrs (Txt.words a) H Q) dWords := by
  intro H Y x d z Q hl hx hz q
  unfold dWords at hz
  split at hz
  · split at hz
    · rename_i hs
      cases hz
      have e := top_str hx
      subst e
      exact ⟨⟨_, rfl⟩, _, rfl, rfl, by rw [sizeLine_eq]; exact hs, fun p hp => q _ _ (po_newl hl hp reps_of_strs)⟩
    · cases hz
  · cases hz
section
variable {X : Cx} {Z : List Zx} {W : WX} {f : EF}
theorem pn_words {o : Expr} {apos pos : Pos} (ho : PE X o (tD X.K Z W f)) (hbase : attributeBase o "split" X.env (eval o X.env) = eval o X.env) (hline : (apos.endLine == pos.line) = true) :
    PE X (.Call (.Attribute o "split" apos) [] [] pos) (tN X.K Z W (eUn dWords f)) := pe_mono (pe_words ho hbase hline) fun σ H Q w => un_read sem_words (fun _ _ _ z => z) w
end
end L2.Pz
namespace L2.Pz
open PySem PySem.Spec PyProof.Rows
def dSplit (b : Str) : F1
  | .str a => if (b.length == 0) = false ∧ a.length + 2 ≤ big then some (.new ((Txt.split a b).map D.str)) else none
  | _ => none
theorem sem_split {K : PySem.W.Frag} {b : Str} : Sem1 K (fun x H Q => (∃ a, x = .str a) ∧ ∃ a c, x = .str a ∧ [V.str b] = [.str c] ∧ (c.length == 0) = false ∧ a.length + 2 ≤ sizeLine ∧ rNewStrs (Txt.split a c) H Q) (dSplit b) := by
  intro H Y x d z Q hl hx hz q
  unfold dSplit at hz
  split at hz
  · split at hz
    · rename_i hs
      cases hz
      have e := top_str hx
      subst e
      exact ⟨⟨_, rfl⟩, _, _, rfl, rfl, hs.1, by rw [sizeLine_eq]; exact hs.2, fun p hp => q _ _ (po_newl hl hp reps_of_strs)⟩
    · cases hz
  · cases hz
section
variable {X : Cx} {Z : List Zx} {W : WX} {f : EF}
theorem pn_split {o e : Expr} {b : Str} {apos pos : Pos} (ho : PE X o (tD X.K Z W f)) (he : PE X e (tC (.str b))) (hs : starEach [e] X.env = [(false, eval e X.env)]) (hbase : attributeBase o "split" X.env (eval o X.env) = eval o X.env) (hline : (apos.endLine == pos.line) = true) :
    PE X (.Call (.Attribute o "split" apos) [e] [] pos) (tN X.K Z W (eUn (dSplit b) f)) := pe_mono (pe_split ho he hs hbase hline) fun σ H Q w => un_read sem_split (fun _ _ _ z => z) w
end
end L2.Pz
set_option Elab.async false
set_option linter.all false
set_option maxRecDepth 100000
set_option maxHeartbeats 4000000
set_option autoImplicit false
/-! isinstance of a held exception that keeps attributes; a def that asks a held exception, called in a suite -/
namespace PySem.W
open PySem PySem.Spec PySem.Calls PyProof.Rows
section
variable {prog : Program} {w : World} {A : Around} {E : Value → Shared → Prop} {s : Shared} {K : Frag} {x D : Addr} {ox : Obj} {od : Option Obj}
theorem findObj_data_pz {C : Addr} {name : Str} {a g : Value} (hc : (clsIn K C).isSome = true) (ha : findIn K (.ref C) name = some (some a)) (hg : specialIn K a "__get__" = some (some g)) (ht : takesIn K a = some true) : findObj K C od name = some (.bind g a) := by
  obtain ⟨cd, hc⟩ := Option.isSome_iff_exists.mp hc
  unfold findObj
  rw [hc, Option.bind_some, ha, Option.bind_some]
  simp [hg, ht]
theorem kin_class_pz {Q : Option Value → Shared → Prop} (hga : findIn K (.ref D) "__getattribute__" = some (some (.builtin "BaseException.__getattribute__"))) (hgt : findIn K (.ref D) "__getattr__" = some none) (hsub : subIn K (.ref D) (.type "BaseException") = some true)
    (hdct : hasDictIn K D = true) (ha : findIn K (.ref D) "__class__" = some (some (.builtin "object.__class__")))
    (hn : specialIn K (.builtin "object.__class__") "__get__" = some (some (.builtin "getset_descriptor.__get__"))) (htk : takesIn K (.builtin "object.__class__") = some true) (hm : mroIn K D (.type "object") = some true)
    (X : K.In s.heap) (I : InstAt s.heap x ox D od) (h : Q (some (.ref D)) { s with toks := s.toks + 1 }) : wpAny (model prog w) A (getAttr? (.ref x) "__class__") Q E s := by
  have hf : findObj K D od "__class__" = some (.bind (.builtin "getset_descriptor.__get__") (.builtin "object.__class__")) := findObj_data_pz (by obtain ⟨cd, hc, _⟩ := any_some hdct; rw [hc]; rfl) ha hn htk
  obtain ⟨hp, g, d, t, os⟩ := s
  have L0 := I.type (M := model prog w)
  have L1 := looks_findIn (M := model prog w) X hga
  have L2 := looks_findIn (M := model prog w) X hgt
  have L3 := looks_find (M := model prog w) X I hf
  have sub : Looks (model prog w) hp (isInstance (.ref x) (.type "BaseException")) true := L0.andThen (looks_subIn X hsub)
  have hx0 : (false && onTheHeap (Value.builtin "BaseException.__getattribute__")) = false := rfl
  have hx2 : (Value.builtin "BaseException.__getattribute__" == Value.builtin "object.__getattribute__") = false := by decide +kernel
  have hx1 : (onTheHeap (Value.ref D) && Value.builtin "BaseException.__getattribute__" == Value.builtin "object.__getattribute__") = false := by rw [hx2]; rfl
  unfold getAttr? getAttrBy? getAttrBy
  refine wpAny_bind (wpAny_mkText (wpAny_bind (wpAny_attempt (wpAny_holding (wpAny_bind (L0.at (wpAny_bind (L1.at ?_))))))))
  show wpAny _ _ (if (onTheHeap (Value.ref D) && Value.builtin "BaseException.__getattribute__" == Value.builtin "object.__getattribute__") = true then _ else _) _ _ _
  rw [hx1, if_neg Bool.false_ne_true]
  unfold getAttrByItsOwn hookBefore
  refine wpAny_bind ?_
  rw [if_pos (show onTheHeap (Value.ref D) = true from rfl)]
  refine L2.at ?_
  refine wpAny_bind (wpAny_attempt (wpAny_holding ?_))
  unfold callGetattribute
  rw [hx0, if_neg Bool.false_ne_true]
  unfold boundAndCalled
  rw [PySem.F.excAttr_ValueError.ga.bind (.ref x)]
  refine wpAny_bind (wpAny_pure ?_)
  show wpAny _ _ (call (.builtin "BaseException.__getattribute__") [.ref x, .str "__class__" t]) _ _ _
  refine wpAny_call (codeAny_call_builtin PySem.F.excAttr_ValueError.ga.plain PySem.F.entry_bexc_ga ?_)
  refine @check_slot (model prog w) _ _ ⟨hp, g, d, t + 1, os⟩ "BaseException.__getattribute__" "BaseException" "__getattribute__" (.ref x) [.str "__class__" t] [] _ (by decide +kernel) (by decide +kernel) sub (PySem.F.args_bexc_ga (.ref x) (.str "__class__" t)) ?_
  unfold Builtin.«object.__getattribute__»
  refine wpAny_bind (wpAny_of_eq (a := ((Value.ref x : Value), [Value.str "__class__" t])) (by first | rfl | (simp only [slotArgs]; rfl)) ?_)
  refine wpAny_bind (wpAny_pure (wpAny_bind (L0.at (wpAny_bind (L3.at ?_)))))
  show wpAny _ _ (holding [Value.builtin "object.__class__"] (call (.builtin "getset_descriptor.__get__") [.builtin "object.__class__", .ref x, .ref D]) >>= ret) _ _ _
  refine wpAny_bind (wpAny_holding (wpAny_call (class_get (s := ⟨hp, g, d, t + 1, os⟩) (ox := ox) (od := od) X I hm ?_)))
  refine wpAny_pure ?_
  show wpAny _ _ (handedOut (.ref D)) _ _ _
  rw [handedOut_of (v := .ref D) rfl]
  first
    | exact wpAny_pure (wpAny_pure h)
    | exact wpAny_pure h
    | exact wpAny_pure (wpAny_bind (wpAny_pure (wpAny_pure h)))
theorem kitx_pz (hga : findIn K (.ref D) "__getattribute__" = some (some (.builtin "BaseException.__getattribute__"))) (hgt : findIn K (.ref D) "__getattr__" = some none) (hsub : subIn K (.ref D) (.type "BaseException") = some true) (hdct : hasDictIn K D = true) (ha : findIn K (.ref D) "__class__" = some (some (.builtin "object.__class__")))
    (hn : specialIn K (.builtin "object.__class__") "__get__" = some (some (.builtin "getset_descriptor.__get__"))) (htk : takesIn K (.builtin "object.__class__") = some true) (hm : mroIn K D (.type "object") = some true) :
    KitX K (.ref x) (.ref D) (fun h => InstAt h x ox D od) where
  ty := fun _ _ _ I => I.type
  it := fun _ _ X _ => by
    obtain ⟨cdD, hcD, _⟩ := any_some hdct
    unfold clsIn at hcD
    split at hcD
    · rename_i c' d' cd' sl' ho
      intro A' Q' E' s' k q
      unfold isType loadHead
      exact wpAny_bind (wpAny_loadPart (k _ _ (X _ _ ho)) (wpAny_pure q))
    · cases hcD
  ne := fun h tp dd its n sl X htp => by
    obtain ⟨cdD, hcD, _⟩ := any_some hdct
    refine Bool.eq_false_iff.mpr fun q => ?_
    have e : D = tp := Value.ref.inj (beq_iff_eq.mp q)
    subst e
    unfold clsIn at hcD
    split at hcD
    · rename_i c' d' cd' sl' ho
      have z := (X _ _ ho).symm.trans htp
      cases z
    · cases hcD
  ca := fun X I k => kin_class_pz hga hgt hsub hdct ha hn htk hm X I k
end
end PySem.W
namespace L2.Pz
open PySem PySem.Spec PyProof.Rows
/-- what isinstance wants of the exception's class, as one test -/
def excB (K : PySem.W.Frag) (D : Addr) : Bool := decide (PySem.W.findIn K (.ref D) "__getattribute__" = some (some (.builtin "BaseException.__getattribute__"))) && (decide (PySem.W.findIn K (.ref D) "__getattr__" = some none) && (decide (PySem.W.subIn K (.ref D) (.type "BaseException") = some true) && (PySem.W.hasDictIn K D && (decide (PySem.W.findIn K (.ref D) "__class__" = some (some (.builtin "object.__class__"))) &&
  (decide (PySem.W.specialIn K (.builtin "object.__class__") "__get__" = some (some (.builtin "getset_descriptor.__get__"))) && (decide (PySem.W.takesIn K (.builtin "object.__class__") = some true) && decide (PySem.W.mroIn K D (.type "object") = some true)))))))
theorem excB_ok {K : PySem.W.Frag} {D : Addr} (h : excB K D = true) : ExcC K D := by
  obtain ⟨h1, h⟩ := Bool.and_eq_true_iff.mp h
  obtain ⟨h2, h⟩ := Bool.and_eq_true_iff.mp h
  obtain ⟨h3, h⟩ := Bool.and_eq_true_iff.mp h
  obtain ⟨h4, h⟩ := Bool.and_eq_true_iff.mp h
  obtain ⟨h5, h⟩ := Bool.and_eq_true_iff.mp h
  obtain ⟨h6, h⟩ := Bool.and_eq_true_iff.mp h
  obtain ⟨h7, h8⟩ := Bool.and_eq_true_iff.mp h
  exact ⟨of_decide_eq_true h1, of_decide_eq_true h2, of_decide_eq_true h3, h4, of_decide_eq_true h5, of_decide_eq_true h6, of_decide_eq_true h7, of_decide_eq_true h8⟩
/-- one class asked of several exceptions -/
abbrev KitOk (K : PySem.W.Frag) (M : Str → Str → Option Bool) (v : Value) (x : Str) : Prop := ∀ c b, M c x = some b → ∀ C, PySem.W.nsIn K mainGlobals c = some (some (.ref C)) → ExcC K C ∧ PySem.W.kitOne K (.ref C) v = some b
theorem kcol_ok {K : PySem.W.Frag} {v : Value} : ∀ (r : Xcol), (∀ p ∈ r, ∃ C, PySem.W.nsIn K mainGlobals p.1 = some (some (.ref C)) ∧ ExcC K C ∧ PySem.W.kitOne K (.ref C) v = some p.2) → ∀ c b, r.lookup c = some b → ∀ C, PySem.W.nsIn K mainGlobals c = some (some (.ref C)) → ExcC K C ∧ PySem.W.kitOne K (.ref C) v = some b
  | [], _, c, b, h => by cases h
  | (c0, b0) :: r, hr, c, b, h => by
    intro C hC
    by_cases e : (c == c0) = true
    · simp only [List.lookup_cons, e] at h
      cases h
      have e := eq_of_beq e
      subst e
      obtain ⟨C', h1, h2⟩ := hr _ List.mem_cons_self
      have h1 : PySem.W.nsIn K mainGlobals c = some (some (.ref C')) := h1
      rw [h1] at hC
      cases hC
      exact h2
    · rw [Bool.not_eq_true] at e
      simp only [List.lookup_cons, e] at h
      exact kcol_ok r (fun p hp => hr p (List.mem_cons_of_mem _ hp)) c b h C hC
theorem kcol_cons {K : PySem.W.Frag} {v : Value} {c : Str} {b : Bool} {C : Addr} {r : Xcol} (h1 : PySem.W.nsIn K mainGlobals c = some (some (.ref C))) (h0 : ExcC K C) (h2 : PySem.W.kitOne K (.ref C) v = some b)
    (hr : ∀ p ∈ r, ∃ C, PySem.W.nsIn K mainGlobals p.1 = some (some (.ref C)) ∧ ExcC K C ∧ PySem.W.kitOne K (.ref C) v = some p.2) : ∀ p ∈ (c, b) :: r, ∃ C, PySem.W.nsIn K mainGlobals p.1 = some (some (.ref C)) ∧ ExcC K C ∧ PySem.W.kitOne K (.ref C) v = some p.2
  | p, hp => by
    rcases List.mem_cons.mp hp with rfl | hp
    · exact ⟨C, h1, h0, h2⟩
    · exact hr p hp
theorem kcol_nil {K : PySem.W.Frag} {v : Value} : ∀ p ∈ ([] : Xcol), ∃ C, PySem.W.nsIn K mainGlobals p.1 = some (some (.ref C)) ∧ ExcC K C ∧ PySem.W.kitOne K (.ref C) v = some p.2 := fun p hp => by cases hp
/-- isinstance(e, c), e the held exception in slot i, its class k -/
def eIsE (M : Str → Str → Option Bool) (i : Nat) (x k : Str) : EF := fun env J => match env[i]? with
  | some (some (.exc 0)) => (match M k x with | some b => .ok (.val (.bl b)) J | none => .stuck)
  | _ => .stuck
/-- the context bears z -/
structure Bears (X : Cx) (z : Zx) : Prop where
  ex : ∃ oe, (z.a, oe) ∈ X.pn ∧ Zc z.cls z.od oe ∧ ∃ vs, oe.data = .fields vs
theorem bears_su {X : Cx} {z : Zx} {oe : Obj} {pn : List (Addr × Obj)} (hz : Zc z.cls z.od oe) (hf : ∃ vs, oe.data = .fields vs) : Bears (X.suite z.a ((z.a, oe) :: pn)) z := ⟨oe, List.mem_cons_self, hz, hf⟩
/-- isinstance of it: read -/
def rIsD (K : PySem.W.Frag) (z : Zx) : List V → Hp → VK → Prop := fun xs H Q => ∃ (C : Addr) (c : V) (cv : Value) (b : Bool) (dd : Addr) (us : List (Str × V)), xs = [.ref z.a, c] ∧ (∀ u, RelV c u → u = cv) ∧ z.cls = .ref C ∧ z.od = some dd ∧ H dd = some (.xd us) ∧ ExcC K C ∧ PySem.W.kitOne K (.ref C) cv = some b ∧ Q (.bl b) H
theorem call_isD {X : Cx} {z : Zx} (B : Bears X z) : CallR X (.builtin "isinstance") (rIsD X.K z) := by
  intro pins s σ H xs us Q I r h
  obtain ⟨oe, hmem, hz, vs, hv⟩ := B.ex
  obtain ⟨C, c, cv, b, dd, us', rfl, hcv, ec, ed, ea, E, e, q⟩ := h
  cases r with
  | cons rx rr =>
    cases rr with
    | cons rt rr =>
      cases rr
      cases rx
      have ecv := hcv _ rt
      subst ecv
      obtain ⟨hget, _⟩ := I.pin (z.a, oe) (List.mem_append_left _ hmem)
      have hx : ObjOk X.prog X.w H s.heap dd (.xd us') := I.hok dd _ ea
      obtain ⟨mA, hns, hr⟩ := hx
      obtain ⟨od, ho, hl⟩ := lookIn_ns hns
      have J : PySem.W.InstAt s.heap z.a oe C (some od) := ⟨hget, by rw [hz.1, ec], by unfold PySem.W.notCls; rw [hv] <;> rfl, by rw [hz.2, ed]; exact ho⟩
      exact PySem.W.kia_one (PySem.W.kitx_pz E.hg E.hk E.hs E.hd E.ha E.hn E.ht E.hm) I.kIn J e (fun z => nomatch z) fun tk => ⟨.bl b, H, I.kept (t' := tk) fun _ _ z => z, rfl, q⟩
theorem pn_isE {X : Cx} {z : Zx} {W : WX} {M : Str → Str → Option Bool} {C : Addr} {i : Nat} {x y n : Str} {p p1 p2 pos : Pos} (B : Bears X z) (hk : KitOk X.K M (.ref C) y) (hg : Gl X x) (hm : X.mg x = none) (hv : bootBuiltins x = some (.builtin "isinstance"))
    (he : PE X (.Name n p1) (tVar i)) (hy : PE X (.Name y p2) (tC (.ref C)))
    (hn : x ≠ "__name__") (hdb : (x == ("__debug__" : Str)) = false) (h1 : starEach [.Name n p1, .Name y p2] X.env = (false, eval (.Name n p1) X.env) :: starEach [.Name y p2] X.env) (h2 : starEach [.Name y p2] X.env = (false, eval (.Name y p2) X.env) :: starEach [] X.env) (hpl : (backTo pos (starEach [.Name y p2] X.env)).any (·.1) = false) :
    PE X (.Call (.Name x p) [.Name n p1, .Name y p2] [] pos) (tN X.K [z] W (eIsE M i y z.c)) :=
  pe_mono (pe_callB (call_isD B) hg hm hv (pa_cons he (pa_cons hy pa_nil h2) h1) hn hdb h1 hpl) fun σ H Q ⟨Xo, js, env, J, F, p⟩ => by
    unfold eIsE at p
    cases hs : env[i]? with
    | none => rw [hs] at p; exact p.elim
    | some o =>
      cases o with
      | none => rw [hs] at p; exact p.elim
      | some h =>
        cases h with
        | val d => rw [hs] at p; exact p.elim
        | new d => rw [hs] at p; exact p.elim
        | jar k => rw [hs] at p; exact p.elim
        | newB _ _ => rw [hs] at p; exact p.elim
        | exc k =>
          cases k with
          | succ k => rw [hs] at p; exact p.elim
          | zero =>
            rw [hs] at p
            have p : PostN X.K [z] W Xo js H σ env Q (match M z.c y with | some b => .ok (.val (.bl b)) J | none => .stuck) := p
            cases hM : M z.c y with
            | none => rw [hM] at p; exact p.elim
            | some b =>
              rw [hM] at p
              obtain ⟨v, hv', z', hz', rfl⟩ := F.slot i _ hs
              have ez : z = z' := by simpa using hz'
              subst ez
              obtain ⟨C', c1, c2, dd, us, d1, d2, d3, d4⟩ := F.ez z List.mem_cons_self
              obtain ⟨E, k1⟩ := hk _ _ hM _ c1
              exact ⟨_, hv', C', _, _, b, dd, us, rfl, fun u r => r, c2, d1, d2, E, k1, p (.bl b) H .refl (out_bl F)⟩
end L2.Pz
set_option Elab.async false
set_option linter.all false
set_option maxRecDepth 100000
set_option maxHeartbeats 4000000
set_option autoImplicit false
/-! a def that asks the held exception, called in a suite -/
namespace L2.Pz
open PySem PySem.Spec PyProof.Rows
section
variable {P : Program} {w : World} {K : PySem.W.Frag} {mg : Str → Option Value} {base : Heap}
theorem roomS {j k : Nat} {A : Around} {m : Option Value} (hr : Room k A) (h : j ≤ k) : L2H.RoomH j (A.mark m) := ⟨(hr.mono h).dp, (hr.mono h).un⟩
structure KinOk (P : Program) (w : World) (K : PySem.W.Frag) (mg : Str → Option Value) (base : Heap) (k : Nat) (f : Addr) (fd : FuncData) (ps : List Str) (F : Str → FT) : Prop where
  run : ∀ (A : Around) (outer : List Env) (s : Shared) (H : Hp) (args : Args) (us : List Value) (Q : VK) (E : XK) (z : Zx) (oe : Obj) (Xo : Addr → Prop) (js : List Addr) (J J1 : Jr) (d : D), L2H.RoomH k A → L2H.PinOk outer H s (z.a, oe) → Zc z.cls z.od oe → (∃ vs, oe.data = .fields vs) → Env0 P w K mg base A outer s H → BindsTo s fd args (ps.zip us) → Vals [.ref z.a] us →
    Fit K [z] Xo js H [] [] J → F z.c [.exc 0] J = .ok (.val d) J1 → (∀ v H', Ext js H H' → Fit K [z] Xo js H' [] [] J1 → Rep K H' (Yf Xo js) d v → Q v H') → codeAny (model P w) A (.call (.ref f) args) (CR (L2.CX P w) outer P w H s Q E) s
theorem kin_ok {x qual : Str} {st : Stmt} {f : Addr} {fd : FuncData} {N ps : List Str} {k : Nat} {g : Str → SF} (Fd : Fun K x qual st f fd) (S : FnScope N ps (defScope st)) (hp : ps.length = 1)
    (hb : ∀ (cdv : Value) (A : Around) (outer : List Env) (s : Shared) (H : Hp) (E : XK) (n0 : Nat) (z : Zx) (oe : Obj), Zc z.cls z.od oe → (∃ vs, oe.data = .fields vs) → L2H.RoomH k (A.deeper (envOfC qual (defScope st) s.heap.objs.size f cdv)) →
      PSs (L2H.cxH (L2.CX P w) P w K mg base N qual (defScope st) f cdv A outer s H E (z.a, oe)) (defBody st) (tS K [z] W0 n0 (g z.c))) : KinOk P w K mg base (k + 1) f fd ps (fun c => mkF N.length (g c)) := by
  obtain ⟨oc, od, kV, doc, pm, an, cdv, ct, osl, rfl, lk, hcd⟩ := Fd.ex
  refine ⟨fun A outer s H args us Q E z oe Xo js J J1 d hr hpin hz hf e0 hbd r Fi hF hQ => ?_⟩
  have hl : [V.ref z.a].length = ps.length := hp.symm
  have KX : K.In s.heap := e0.mod.kin.keeps fun b o e => (e0.bs b o e).1
  have lim : s.heap.NoLimit := e0.mod.nolimit.keeps fun b o e => (e0.bs b o e).1
  have hkind : ∀ y ∈ ps.zip us, (defScope st).names.lookup y.1 = some .local ∨ ((defScope st).names.lookup y.1 = some .cell ∧ ((cellsFrom (s.heap.objs.size + 1) (defScope st).names []).lookup y.1).isSome = true) := fun ⟨n, v⟩ hy => by
    rcases S.par n (List.of_mem_zip hy).1 with q | q
    · exact .inl q
    · exact .inr ⟨q, PySem.W.cellsFrom_some _ _ _ (.inl q)⟩
  refine codeAny_call_function hr.depth (KX _ _ lk) rfl S.co S.gen rfl (PySem.W.codeRec_of KX hcd) (hbd _ _ _ _ ?_)
  refine wpAny_newFunctionEnv_cells S.kind hkind fun env he s1 x => ?_
  subst he
  refine ⟨lim.keeps x.toInCall.keep, codeAny_func ?_⟩
  have ht := hb cdv A outer s H E J.length z oe hz hf (hr.deeper _)
  have I : Inv (L2H.cxH (L2.CX P w) P w K mg base N qual (defScope st) f cdv A outer s H E (z.a, oe)) [] (L2.start N [.ref z.a]) H s1 := L2H.inv_startH S hpin e0 hl r x
  have hrr : HReps K [z] H (Yf Xo js) js [.exc 0] [.ref z.a] := ⟨.ref z.a, [], rfl, ⟨z, rfl, rfl⟩, rfl⟩
  have hq : tS K [z] W0 J.length (g z.c) { nx := fun _ H' => Q .non H', rt := Q } (L2.start N [.ref z.a]) H := by
    refine ⟨Xo, js, startE N.length [.exc 0], J, fit_start Fi hrr, ?_⟩
    have hF : endR J.length (g z.c J.length (startE N.length [.exc 0]) J) = .ok (.val d) J1 := hF
    cases r : g z.c J.length (startE N.length [.exc 0]) J with
    | stuck => rw [r] at hF; cases hF
    | bk e1 J2 => rw [r] at hF; cases hF
    | ct e1 J2 => rw [r] at hF; cases hF
    | err c fs e1 J2 =>
      rw [r] at hF
      have hF : (if J.length ≤ J2.length then R.err c fs (J2.take J.length) else R.stuck) = R.ok (HV.val d) J1 := hF
      split at hF <;> cases hF
    | nx e1 J2 =>
      rw [r] at hF
      have hF : (if J.length ≤ J2.length then R.ok (HV.val .non) (J2.take J.length) else R.stuck) = R.ok (HV.val d) J1 := hF
      split at hF
      · cases hF
        intro σ' H' js' s F'
        have G := F'.bare.trim J.length
        rw [take_js Fi s] at G
        exact hQ .non H' s.ext G (mk_non (K := K) (H := H') (Y := Yf Xo js))
      · cases hF
    | rt h J2 =>
      rw [r] at hF
      have hF : (if J.length ≤ J2.length then outH J.length J2 h else R.stuck) = R.ok (HV.val d) J1 := hF
      split at hF
      · cases h with
        | val d' =>
          cases hF
          intro v H' js' s o
          have ej := take_jsR Fi s
          have yy : ∀ a, Yf Xo js a → Yf Xo js' a := fun a y => y.elim .inl fun y => .inr (by rw [← ej] at y; exact List.mem_of_mem_take y)
          have G := o.1.trim J.length
          rw [ej] at G
          exact hQ v H' s.ext G (rep_move (fun _ _ e _ => e) (fun a y => .inl (yy a y)) o.1.lists _ _ o.2)
        | new ds => cases hF
        | exc m => cases hF
        | newB _ _ => cases hF
        | jar m =>
          have hF : (if m < J.length then R.ok (HV.jar m) (J2.take J.length) else match J2[m]? with
            | some ds => if ds.all isP = true then R.ok (HV.new ds) (J2.take J.length) else R.ok (HV.newB (J2.drop J.length) m) (J2.take J.length)
            | none => R.stuck) = R.ok (HV.val d) J1 := hF
          split at hF
          · cases hF
          · split at hF
            · split at hF <;> cases hF
            · cases hF
      · cases hF
  refine wpAny_mono (ht.run [] s1 (L2.start N [.ref z.a]) H _ I hq) (fun fl s' hs => ?_) fun e s' hs => hs
  have fin : ∀ {σ' : L2.St} {H' : Hp} {v : V} {u : Value}, Inv (L2H.cxH (L2.CX P w) P w K mg base N qual (defScope st) f cdv A outer s H E (z.a, oe)) [] σ' H' s' → RelV v u → Q v H' → CE outer P w H s Q u s' :=
    fun {σ' H' v u} J rv q => ⟨v, H', J.os, J.bare, J.base, J.hok, rv, q⟩
  cases fl with
  | ret u =>
    obtain ⟨v, σ', H', J, rv, q⟩ := hs
    exact fin J rv q
  | next =>
    obtain ⟨σ', H', J, q⟩ := hs
    exact fin (v := V.non) (u := Value.none) J rfl q
  | brk =>
    obtain ⟨_, _, _, q⟩ := hs
    exact False.elim q
  | cont =>
    obtain ⟨_, _, _, q⟩ := hs
    exact False.elim q
end
/-- f(e), e the held exception in slot i, its class k -/
def eKin (F : Str → FT) (i : Nat) (k : Str) : EF := fun env J => match env[i]? with
  | some (some (.exc 0)) => (match F k [.exc 0] J with | .ok (.val d) J1 => .ok (.val d) J1 | _ => .stuck)
  | _ => .stuck
theorem pn_kin {X : Cx} {z : Zx} {W : WX} {F : Str → FT} {k i : Nat} {f : Addr} {fd : FuncData} {ps : List Str} {n x : Str} {p p1 pos : Pos} (G : KinOk X.prog X.w X.K X.mg X.base k f fd ps F) (B : Bears X z) (hr : L2H.RoomH k X.A) (hg : Gl X x) (hm : X.mg x = some (.ref f)) (hk : PySem.W.keepIn X.K (.ref f) = true)
    (hb : Binds X.K fd ps []) (hp : ps.length = 1) (he : PE X (.Name n p1) (tVar i)) (hdb : (x == ("__debug__" : Str)) = false) (hst : starEach [.Name n p1] X.env = (false, eval (.Name n p1) X.env) :: starEach [] X.env) (hpl : (backTo pos (starEach [] X.env)).any (·.1) = false) :
    PE X (.Call (.Name x p) [.Name n p1] [] pos) (tN X.K [z] W (eKin F i z.c)) := by
  refine ⟨fun pins s σ H Q I ⟨Xo, js, env, J, Fi, p⟩ => ?_⟩
  unfold eKin at p
  cases hs : env[i]? with
  | none => rw [hs] at p; exact p.elim
  | some o =>
    cases o with
    | none => rw [hs] at p; exact p.elim
    | some h =>
      cases h with
      | val d => rw [hs] at p; exact p.elim
      | new d => rw [hs] at p; exact p.elim
      | jar k => rw [hs] at p; exact p.elim
      | newB _ _ => rw [hs] at p; exact p.elim
      | exc kk =>
        cases kk with
        | succ k => rw [hs] at p; exact p.elim
        | zero =>
          rw [hs] at p
          have p : PostN X.K [z] W Xo js H σ env Q (match F z.c [.exc 0] J with | .ok (.val d) J1 => .ok (.val d) J1 | _ => .stuck) := p
          cases hF : F z.c [.exc 0] J with
          | stuck => rw [hF] at p; exact p.elim
          | err c fs J1 => rw [hF] at p; exact p.elim
          | ok h J1 =>
            rw [hF] at p
            cases h with
            | jar k => exact p.elim
            | new k => exact p.elim
            | exc k => exact p.elim
            | newB _ _ => exact p.elim
            | val d =>
              have p : PostN X.K [z] W Xo js H σ env Q (.ok (.val d) J1) := p
              obtain ⟨v, hv', z', hz', rfl⟩ := Fi.slot i _ hs
              have ez : z = z' := by simpa using hz'
              subst ez
              obtain ⟨oe, hmem, hz, hf⟩ := B.ex
              refine wpAny_Call_Name_kw (ld_glob I hg hm ?_ hdb)
              refine PySem.W.callWith_K (h₀ := X.base) I.ok.mod.kin hk (thn ((pa_cons he pa_nil hst).run pos pins s σ H (fun vs H1 => vs = [.ref z.a] ∧ H1 = H) I ⟨_, hv', rfl, rfl⟩) fun us s1 ⟨vs, H1, I1, r, e1, e2⟩ => ⟨I1.kIn, ?_⟩) hst hpl
              subst e1 e2
              have hl : us.length = ps.length := by rw [← r.length]; exact hp.symm
              have b := hb s1 us I1.kIn (by rw [List.append_nil]; exact hl)
              rw [List.append_nil] at b
              have P1 := I1.pin (z.a, oe) (List.mem_append_left _ hmem)
              have hpin : L2H.PinOk X.stack H1 s1 (z.a, oe) := ⟨P1.1, P1.2.1, fun hm => (List.mem_cons.mp (I1.stkSub z.a hm)).elim P1.2.2.1 P1.2.2.2.1, P1.2.2.2.2⟩
              refine wpAny_call (codeAny_mono (G.run X.A X.stack s1 H1 ⟨us, []⟩ us Q E0 z oe Xo js J J1 d hr hpin hz hf I1.env0 b r Fi.bare hF (fun v H' ex G rd => p v H' ex (out_val (Fi.renew ex (fun _ h => .inl h) G) rd))) fun r s' hq => ?_)
              cases r with
              | error e => exact passL pins σ H1 s1 e s' I1 hq
              | ok fl =>
                cases fl with
                | ret u => exact I1.after hq
                | next => exact False.elim hq
                | brk => exact False.elim hq
                | cont => exact False.elim hq
end L2.Pz
set_option Elab.async false
set_option linter.all false
set_option maxRecDepth 100000
set_option maxHeartbeats 4000000
set_option autoImplicit false
/-! reversed(a text) -/
namespace RvS
open PySem PySem.Spec PyProof.Rows RT
theorem norev_str : typeLookup (.type "str") "__reversed__" = pure none := by rw [typeLookup_type, builtinLookup_eq_fast]; kernel_rfl
theorem get_str : typeLookup (.type "str") "__getitem__" = pure (some (.builtin "str.__getitem__")) := by rw [typeLookup_type, builtinLookup_eq_fast]; kernel_rfl
theorem sub_str_dict : isSubtype (.type "str") (.type "dict") = pure false := by rw [isSubtype_type]; kernel_rfl
def rsObj (x : Str) (t : Tok) (i : Int) : Obj := { cls := .type "reversed", data := .fields #[.str x t, rawInt i] }
/-- reversed(x), the next place i -/
def IsRs (h : Heap) (a : Addr) (x : Str) (t : Tok) (i : Int) : Prop := ∃ o, h.get? a = some o ∧ o.cls = .type "reversed" ∧ o.data = .fields #[.str x t, rawInt i]
section
variable {prog : Program} {w : World} {A : Around} {E : Value → Shared → Prop} {s : Shared} {x : Str} {t : Tok}
theorem IsRs.typeIs {a : Addr} {i : Int} (y : IsRs s.heap a x t i) : s.TypeIs (.ref a) "reversed" := let ⟨o, ho, hc, _⟩ := y; ⟨o, ho, hc⟩
theorem code_reversed_str {Q₁ : Value → Shared → Prop} (hlen : ¬ (x.length : Int) ≥ 2 ^ 63)
    (h : Q₁ (.ref s.heap.objs.size) { s with heap := s.heap.push (rsObj x t ((x.length : Int) - 1)), toks := s.toks + 1 + 1 }) :
    codeAny (model prog w) A (.call (.builtin "reversed.__new__") ⟨[.type "reversed", .str x t], []⟩) (wants Q₁ E) s := by
  have hT : s.TypeIs (.str x t) "str" := typeIs_str s x t
  refine codeAny_of_tree ?_
  show wpAny _ A.in1 (do checkBuiltinCall "reversed.__new__" ⟨[.type "reversed", .str x t], []⟩; again (.builtin "reversed.__new__" ⟨[.type "reversed", .str x t], []⟩)) _ _ s
  refine wpAny_bind (wpAny_of_eq (F.newCall_reversed_1 _) (wpAny_pure ⟨plainId_quiet F.plain_reversed_new _, codeAny_builtin F.entry_reversed_new ?_⟩))
  rw [Around.under_plainId F.plain_reversed_new _]
  unfold Builtin.«reversed.__new__»
  refine wpAny_bind (wpAny_of_eq (newClass_reversed _) ?_)
  try dsimp only
  refine wpAny_bind (wpAny_of_eq (a := ()) (by first | rfl | kernel_rfl) ?_)
  try dsimp only
  refine wpAny_bind (wpAny_of_eq (a := ()) (by first | rfl | kernel_rfl) ?_)
  try dsimp only
  refine wpAny_bind (wpAny_specialOf hT norev_str ?_)
  try dsimp only
  refine wpAny_bind ?_
  wp_delta
  refine wpAny_bind (wpAny_isInstance (T := "str") (U := "dict") (b := false) hT sub_str_dict ?_)
  try dsimp only
  try rw [if_neg Bool.false_ne_true]
  try dsimp only
  refine wpAny_bind (wpAny_specialOf hT get_str ?_)
  try dsimp only
  try rw [if_pos (by decide +kernel)]
  refine wpAny_pure ?_
  try dsimp only
  try rw [if_neg (by decide)]
  try dsimp only
  refine wpAny_bind (len_str hlen ?_)
  refine wpAny_bind (wpAny_of_eq (a := some ((x.length : Nat) : Int)) rfl ?_)
  try dsimp only
  refine wpAny_bind ?_
  show wpAny _ _ (newObj (.type "reversed") (.fields #[.str x t, rawInt ((x.length : Int) - 1)])) _ _ _
  refine wpAny_newObj_type ?_
  exact wpAny_pure h
theorem call_reversed_str {Q : Value → Shared → Prop} (hlen : ¬ (x.length : Int) ≥ 2 ^ 63)
    (h : Q (.ref s.heap.objs.size) { s with heap := s.heap.push (rsObj x t ((x.length : Int) - 1)), toks := s.toks + 1 + 1 }) : wpAny (model prog w) A (call (.type "reversed") [.str x t]) Q E s := by
  refine callType_codes (Q₁ := fun obj s₁ => s₁.TypeIs obj "reversed" ∧ Q obj s₁) called_rt (F.typeCall_reversed_1 _) F.entry_object_init
    (code_reversed_str (A := A.in1) hlen ⟨⟨_, Heap.get?_push_size _ rfl, rfl⟩, h⟩) fun obj s₁ h₁ => ?_
  exact ⟨h₁.1, F.args_object_init_2 obj _, object_init_meets called_rt.init.lookup called_rt.made (by decide) prog w A.in1 _ s₁ ⟨h₁.1, rfl, h₁.2⟩⟩
theorem next_rs_item {it : Addr} {i : Nat} {c : Nat} {Q : Option Value → Shared → Prop} (hit : IsRs s.heap it x t (i : Int)) (hx : x.cps[i]? = some c) (hsz : x.length < 2 ^ 62)
    (hQ : ∀ h' tk u, IsRs h' it x t ((i : Int) - 1) → Heap.SameBut it s.heap h' → Q (some (.str ⟨#[c]⟩ u)) { s with heap := h', toks := tk }) : wpAny (model prog w) A (pyNext (.ref it)) Q E s := by
  obtain ⟨o, ho, hc, hd⟩ := id hit
  have hi : i < x.cps.size := (Array.getElem?_eq_some_iff.mp hx).1
  have hi2 : i < x.length := hi
  have hT : s.TypeIs (.str x t) "str" := typeIs_str s x t
  unfold pyNext
  refine wpAny_bind (wpAny_attempt (wpAny_callSpecial?_slot (name := Str.ofString "__next__") hit.typeIs slot_rt_next
    (wpAny_call_entry slot_rt_next hit.typeIs entry_rt_next ?_ (args_rt_next _))))
  unfold Builtin.«reversed.__next__»
  refine wpAny_bind (wpAny_of_eq (a := (Value.ref it, [])) rfl ?_)
  try dsimp only
  refine wpAny_bind (wpAny_field ho hd (x := .str x t) rfl ?_)
  try dsimp only
  refine wpAny_bind (wpAny_field ho hd (x := rawInt (i : Int)) rfl ?_)
  show wpAny _ _ (if (i : Int) < 0 then _ else _) _ _ s
  rw [if_neg (by omega)]
  try dsimp only
  refine wpAny_bind (wpAny_specialOf hT get_str ?_)
  try dsimp only
  try rw [if_neg (by decide)]
  try dsimp only
  refine wpAny_bind (wpAny_mkInt ?_)
  refine wpAny_bind (wpAny_attempt ?_)
  have fin : seqIndex? (i : Int) x.length = some i := seqIndex_of (by omega) (by omega)
  refine PyProof.Rows.getItem_str (s := { s with toks := s.toks + 1 }) (c := c) (by simp only [Bool.or_eq_false_iff, decide_eq_false_iff_not]; omega) (by rw [fin]; exact hx) ?_
  try dsimp only
  refine wpAny_bind (wpAny_field (s := { s with toks := s.toks + 1 + 1 }) ho hd (x := rawInt (i : Int)) rfl ?_)
  try dsimp only
  refine wpAny_bind (wpAny_setField (s := { s with toks := s.toks + 1 + 1 }) ho hd (by simp) ?_)
  first
  | refine wpAny_pure ⟨_, rfl, wpAny_pure (hQ _ _ _ ?_ (Heap.SameBut.update ..))⟩
  | refine wpAny_bind (wpAny_pure (wpAny_pure ⟨_, rfl, wpAny_pure (hQ _ _ _ ?_ (Heap.SameBut.update ..))⟩))
  exact ⟨_, Heap.get?_update_self _ ho (Obj.isFreed_of_fields (Obj.data_mapFields hd _)), (Obj.cls_mapFields ..).trans hc, by
    rw [Obj.data_mapFields hd]; simp⟩
theorem next_rs_end {it : Addr} {Q : Option Value → Shared → Prop} (hh : A.handled = none) (hit : IsRs s.heap it x t (-1))
    (hQ : ∀ h', Heap.ExtBut it s.heap h' → Q none { s with heap := h' }) : wpAny (model prog w) A (pyNext (.ref it)) Q E s := by
  obtain ⟨o, ho, hc, hd⟩ := id hit
  unfold pyNext
  refine wpAny_bind (wpAny_attempt (wpAny_callSpecial?_slot (name := Str.ofString "__next__") hit.typeIs slot_rt_next
    (wpAny_call_entry slot_rt_next hit.typeIs entry_rt_next ?_ (args_rt_next _))))
  unfold Builtin.«reversed.__next__»
  refine wpAny_bind (wpAny_of_eq (a := (Value.ref it, [])) rfl ?_)
  try dsimp only
  refine wpAny_bind (wpAny_field ho hd (x := .str x t) rfl ?_)
  try dsimp only
  refine wpAny_bind (wpAny_field ho hd (x := rawInt (-1)) rfl ?_)
  show wpAny _ _ (if (-1 : Int) < 0 then _ else _) _ _ s
  rw [if_pos (by decide)]
  try dsimp only
  refine wpAny_bind (wpAny_rule ?_)
  refine wpAny_bind ?_
  wp_delta
  refine wpAny_bind (wpAny_setField ho hd (by simp) ?_)
  have ho2 := Heap.get?_update_self (Obj.mapFields (·.setIfInBounds 1 (rawInt (-1)))) ho (Obj.isFreed_of_fields (Obj.data_mapFields hd _))
  refine wpAny_setField (s := { s with heap := s.heap.update it (Obj.mapFields (·.setIfInBounds 1 (rawInt (-1)))) }) ho2 (Obj.data_mapFields hd _) (by simp) ?_
  try dsimp only
  first
  | show wpAny _ _ (newExc (.type "StopIteration") [] >>= _) _ _ _
  | (refine wpAny_bind ?_; show wpAny _ _ (newExc (.type "StopIteration") [] >>= _) _ _ _)
  | (refine wpAny_bind ?_; wp_delta; show wpAny _ _ (newExc (.type "StopIteration") [] >>= _) _ _ _)
  refine wpAny_bind ?_
  simp only [newExc, newTuple]
  refine wpAny_bind (wpAny_newObj_type ?_ (by size_fits))
  refine wpAny_bind (m := firstArgMember _ _) (wpAny_of_eq (a := Value.none) (by first | rfl | (simp only [firstArgMember]; rfl)) ?_)
  refine wpAny_newObj_type ?_ (by size_fits)
  simp only [raiseNew]
  refine wpAny_bind (wpAny_handled ?_)
  first | rw [show A.in1.handled = none from hh] | rw [hh]
  refine wpAny_bind (wpAny_pure (wpAny_throw ?_))
  refine wpAny_bind (wpAny_isInstance (T := "StopIteration") (b := true) ⟨_, Heap.get?_push_size _ rfl, rfl⟩ isSubtype_stop ?_)
  refine wpAny_pure (hQ _ ?_)
  refine ((?_ : Heap.ExtBut it s.heap _).push _).push _
  exact fun b ob hb e => (Heap.get?_update_other _ _ (Ne.symm hb)).trans ((Heap.get?_update_other _ _ (Ne.symm hb)).trans e)
theorem iter_rs {it : Addr} {i : Int} {Q : Value → Shared → Prop} (hit : IsRs s.heap it x t i) (h : Q (.ref it) s) : wpAny (model prog w) A (pyIter (.ref it)) Q E s := by
  refine wpAny_pyIter_slot hit.typeIs slot_rt_iter (wpAny_call_entry slot_rt_iter hit.typeIs entry_rt_iter ?_ (args_rt_iter _))
  show wpAny _ _ (ret (.ref it)) _ _ s
  exact wpAny_pure ⟨_, rfl, "reversed", _, hit.typeIs, slot_rt_next.lookup, h⟩
end
end RvS
namespace L2.Pz
open PySem PySem.Spec PyProof.Rows RvS
def ItsR (x : Str) : It := ⟨fun i _ => i < x.cps.size, fun i H v H' => H' = H ∧ ∃ c, x.cps[x.cps.size - 1 - i]? = some c ∧ v = .str ⟨#[c]⟩, fun i _ => x.cps.size ≤ i⟩
theorem turn_rs {P : Program} {w : World} {K : PySem.W.Frag} {tg : Expr} (it : Addr) (x : Str) (t : Tok) (hsz : x.cps.size < 2 ^ 62) :
    Turn P w K tg (ItsR x) [it] it (fun i h => i ≤ x.cps.size ∧ IsRs h it x t ((x.cps.size : Int) - 1 - (i : Nat))) where
  mem := by simp
  obj := fun i h st b hb => by
    have e : b = it := by simpa using hb
    subst e
    obtain ⟨_, o, e, c, d⟩ := st
    exact ⟨o, e, fun v z => by rw [d] at z; cases z⟩
  keep := fun i h h' st k => let ⟨hi, o, ho, r⟩ := st; ⟨hi, o, k it (by simp) o ho, r⟩
  item := by
    intro X hP hw hK hc i pins s σ H E I hf st hg
    subst hP hw hK
    obtain ⟨f0, f1, f2, f3, f4, f5⟩ := hf it (by simp)
    have hg : i < x.cps.size := hg
    obtain ⟨_, hit⟩ := st
    have e1 : (x.cps.size : Int) - 1 - ((i : Nat) : Int) = ((x.cps.size - 1 - i : Nat) : Int) := by omega
    rw [e1] at hit
    obtain ⟨c, hx⟩ : ∃ c, x.cps[x.cps.size - 1 - i]? = some c := ⟨x.cps[x.cps.size - 1 - i]'(by omega), Array.getElem?_eq_getElem _⟩
    refine next_rs_item hit hx hsz fun h' tk u st' sb => ?_
    have e2 : ((x.cps.size - 1 - i : Nat) : Int) - 1 = (x.cps.size : Int) - 1 - ((i + 1 : Nat) : Int) := by omega
    rw [e2] at st'
    have I1 : Inv X pins σ H { s with heap := h', toks := tk } := I.turned (t' := tk) (fun b o hb e => (sb.2 b hb).trans e) f0 f1 f3 f4 f5
    obtain ⟨o, e, cc, d⟩ := id st'
    exact ⟨_, rfl, go_of (s := { s with heap := h', toks := tk }) e cc d (by decide) ⟨.str ⟨#[c]⟩, H, I1, ⟨u, rfl⟩, ⟨rfl, c, hx, rfl⟩, ⟨hg, st'⟩, fun b hb => (hf b hb).1⟩⟩
  done := by
    intro X hP hw hK hc i pins s σ H E I hf st hg
    subst hP hw hK
    obtain ⟨f0, f1, f2, f3, f4, f5⟩ := hf it (by simp)
    obtain ⟨hin, hit⟩ := st
    have hge : x.cps.size ≤ i := hg
    have e1 : (x.cps.size : Int) - 1 - ((i : Nat) : Int) = -1 := by omega
    rw [e1] at hit
    exact next_rs_end (I.ok.hd hc) hit fun h' eb => ⟨rfl, I.turned (t' := s.toks) (fun b o hb e => eb b o hb e) f0 f1 f3 f4 f5⟩
  self := fun A i s Q E st h => iter_rs st.2 h
section
variable {X : Cx} {tg e : Expr} {te : TE} {p pos : Pos} {K : PySem.W.Frag} {H : Hp} {Y : Addr → Prop} {Z : List Zx} {W : WX} {f : EF}
def iRevT (te : TE) : TI := fun σ H R => te σ H fun v H1 => ∃ x, v = .str x ∧ x.cps.size < 2 ^ 62 ∧ R (ItsR x) H1
theorem pi_revT (he : PE X e te) (hg : Gl X "reversed") (hm : X.mg "reversed" = none) (hs : starEach [e] X.env = (false, eval e X.env) :: starEach [] X.env) : PI X tg (.Call (.Name "reversed" p) [e] [] pos) (iRevT te) := by
  refine ⟨fun pins s σ H R I h => ?_⟩
  refine Call_ (ld_blt I hg hm PyProof.Rows.boot_reversed (PyProof.Rows.callWith_type1 (args_cons (thn (he.run pins s σ H _ I h) fun u s1 ⟨v, H1, I1, r1, q1⟩ => args_nil ?_) hs) hs rfl))
  obtain ⟨x, ev, hsz, q⟩ := q1
  subst ev
  obtain ⟨t, rfl⟩ := r1
  refine call_reversed_str (show ¬ ((x.cps.size : Nat) : Int) ≥ 2 ^ 63 by omega) (iter_rs (x := x) (t := t) (i := (x.cps.size : Int) - 1) ⟨_, Heap.get?_push_size _ rfl, rfl, rfl⟩ ?_)
  refine pi_one (tk := s1.toks + 1 + 1) I1 _ (turn_rs _ x t hsz) ⟨Nat.zero_le _, ?_⟩ q
  have e1 : (x.cps.size : Int) - 1 = (x.cps.size : Int) - 1 - ((0 : Nat) : Int) := by simp
  rw [← e1]
  exact ⟨_, Heap.get?_push_size _ rfl, rfl, rfl⟩
theorem walk_rs {z : Str} : Walk (ItsR z) z.cps.size (fun _ => True) (fun i H v H' => H' = H ∧ ∃ c, z.cps[z.cps.size - 1 - i]? = some c ∧ v = .str ⟨#[c]⟩) :=
  ⟨fun i H hi _ => hi, fun H _ => Nat.le_refl _, fun i H x H' _ _ y => y⟩
theorem walkD_rs {z : Str} : WalkD K Y H (ItsR z) (chars z).reverse := by
  have w := walk_rs (z := z)
  have e : z.cps.size = (chars z).reverse.length := by unfold chars; simp
  rw [show (ItsR z) = ItsR z from rfl] at w
  refine ⟨fun _ => True, fun i H v H' => H' = H ∧ ∃ c, z.cps[z.cps.size - 1 - i]? = some c ∧ v = .str ⟨#[c]⟩, e ▸ w, fun _ _ => trivial, fun Y' hY i H1 x H' hi k _ y => ?_⟩
  obtain ⟨e2, c, hc, hx⟩ := y
  subst e2
  rw [← e] at hi
  refine ⟨Same.refl _, .str ⟨#[c]⟩, ?_, by rw [hx]; exact mk_str⟩
  have hl : (chars z).length = z.cps.size := by unfold chars; simp
  rw [List.getElem?_reverse (by rw [hl]; exact hi), hl]
  unfold chars
  rw [List.getElem?_map]
  simp [hc]
/-- reversed(a text) -/
def iRevS (f : EF) : IF := fun env J => (f env J).bind fun h J1 => match h with
  | .val (.str z) => if z.cps.size < 2 ^ 62 then .ok (chars z).reverse J1 else .stuck
  | _ => .stuck
theorem pw_revS (hg : Gl X "reversed") (hm : X.mg "reversed" = none) (he : PE X e (tD X.K Z W f)) (hs : starEach [e] X.env = (false, eval e X.env) :: starEach [] X.env) : PI X tg (.Call (.Name "reversed" p) [e] [] pos) (tW X.K Z W (iRevS f)) := pi_mono (pi_revT he hg hm hs) fun σ H Q ⟨Xo, js, env, J, F, p⟩ => by
  refine ⟨Xo, js, env, J, F, ?_⟩
  unfold iRevS at p
  cases hf : f env J with
  | stuck => rw [hf] at p; exact p.elim
  | err c fs J1 => rw [hf] at p; exact p
  | ok h J1 =>
    rw [hf] at p
    intro x H1 e1 F1 x1
    cases h with
    | jar k => exact p.elim
    | exc k => exact p.elim
    | newB _ _ => exact p.elim
    | new ds => exact p.elim
    | val d =>
      cases d with
      | str z =>
        have p : PostW X.K Z W Xo js H σ env Q (if z.cps.size < 2 ^ 62 then .ok (chars z).reverse J1 else .stuck) := p
        split at p
        · rename_i h
          exact ⟨z, rep_str (K := X.K) (H := H1) (Y := Yf Xo js) x1, h, p _ _ e1 F1 walkD_rs⟩
        · exact p.elim
      | _ => exact p.elim
end
/-! the logic of these -/
section
variable {X : XP} {J : Jr} {env : En} {f : EF}
end
end L2.Pz
set_option Elab.async false
set_option linter.all false
set_option maxRecDepth 100000
set_option maxHeartbeats 4000000
set_option autoImplicit false
/-! the facts of own exceptions, gathered from the written part; the logic of the last forms -/
namespace L2.Pz
open PySem PySem.Spec PyProof.Rows PySem.W PySem.HandSPX
/-- the class facts but for names -/
structure SxK (P : Program) (K : Frag) (C fI : Addr) (ns : List Str) : Prop where
  cls : ∃ nm q N bs bm sn sub ab col dd k0 k1 k2 k3 k5, K.lookup C = some (excClassObj nm q C N bs bm true sn sub ab col dd k0 k1 k2 k3 k5 "ValueError.__new__") ∧ refsVE bm = true
  sa : findIn K (.ref C) "__setattr__" = some (some (.builtin "object.__setattr__"))
  noN : ∀ n ∈ ns, findIn K (.ref C) n = some none
  tI : typeIn K (.ref fI) = some (.type "function")
  kC : keepIn K (.ref C) = true
  exC : subIn K (.ref C) (.type "BaseException") = some true
  veC : subIn K (.ref C) (.type "ValueError") = some true
  tyC : typeIn K (.ref C) = some (.type "type")
  sup : ks_superIn K C C "__init__" = some (some (.builtin "ValueError.__init__"))
  own : mroIn K C (.ref C) = some true
theorem sxc_mk {P : Program} {K : Frag} {h : Heap} {mg : Str → Option Value} {x : Str} {C fI : Addr} {ns : List Str} (X : K.In h) (G : h.Ns mainGlobals mg) (n : nsIn K mainGlobals x = some (some (.ref C))) (iC : findIn K (.ref C) "__init__" = some (some (.ref fI))) (S : SxK P K C fI ns)
    (opq : nsIn K cStatics "thirdparty.any" = some none) (gS : nsIn K mainGlobals "super" = some none) (top : (P.main.scope.names.lookup ("super" : Str)).isSome = false) : PySem.SxX.SxC P K mg x C fI ns :=
  ⟨mg_of X G n, S.cls, S.sa, S.noN, iC, S.tI, S.kC, S.exC, S.veC, S.tyC, S.sup, S.own, opq, mg_none_of X G gS, top⟩
theorem no1 {K : Frag} {C : Addr} {a : Str} (h : findIn K (.ref C) a = some none) : ∀ n ∈ [a], findIn K (.ref C) n = some none := fun n hn => by rw [List.mem_singleton.mp hn]; exact h
theorem no2 {K : Frag} {C : Addr} {a b : Str} (h : findIn K (.ref C) a = some none) (h2 : findIn K (.ref C) b = some none) : ∀ n ∈ [a, b], findIn K (.ref C) n = some none := fun n hn => by
  rcases List.mem_cons.mp hn with e | hn
  · rw [e]; exact h
  · rw [List.mem_singleton.mp hn]; exact h2
theorem col_mk {K : Frag} {v : Value} {x : Str} {l : List (Str × Xcol)} {r : Xcol} (e : l.lookup x = some r) (h : ∀ p ∈ r, ∃ C, nsIn K mainGlobals p.1 = some (some (.ref C)) ∧ exmOne K (.ref C) v = some p.2) : ColOk K (excOf l) v x := fun c b hc => by
  unfold excOf at hc
  rw [e] at hc
  exact xcol_ok r h c b hc
theorem kit_mk {K : Frag} {v : Value} {x : Str} {l : List (Str × Xcol)} {r : Xcol} (e : l.lookup x = some r) (h : ∀ p ∈ r, ∃ C, nsIn K mainGlobals p.1 = some (some (.ref C)) ∧ ExcC K C ∧ kitOne K (.ref C) v = some p.2) : KitOk K (excOf l) v x := fun c b hc => by
  unfold excOf at hc
  rw [e] at hc
  exact kcol_ok r h c b hc
/-! ### the logic -/
def strQ (h : HV) (Q : Str → Prop) : Prop := match h with
  | .val (.str z) => Q z
  | _ => False
@[simp] theorem strQ_str {z : Str} {Q : Str → Prop} : strQ (.val (.str z)) Q ↔ Q z := Iff.rfl
section
variable {X : XP} {J J1 : Jr} {env : En} {f : EF} {M : Str → Str → Option Bool} {i : Nat} {x k : Str}
@[simp] theorem Ex_isE {Q : HV → Jr → Prop} : Ex X (eIsE M i x k env J) Q ↔ excQ env[i]? (OpQ (M k x) fun b => Q (.val (.bl b)) J) := by
  unfold eIsE
  cases h : env[i]? with
  | none => simp only [Ex_eq]; exact Iff.rfl
  | some y =>
    cases y with
    | none => simp only [Ex_eq]; exact Iff.rfl
    | some y =>
      cases y with
      | val d => simp only [Ex_eq]; exact Iff.rfl
      | jar d => simp only [Ex_eq]; exact Iff.rfl
      | new d => simp only [Ex_eq]; exact Iff.rfl
      | newB _ _ => simp only [Ex_eq]; exact Iff.rfl
      | exc z =>
        cases z with
        | succ z => simp only [Ex_eq]; exact Iff.rfl
        | zero =>
          show Ex X (match M k x with | some b => .ok (.val (.bl b)) J | none => .stuck) Q ↔ OpQ (M k x) fun b => Q (.val (.bl b)) J
          cases M k x <;> (simp only [Ex_eq]; exact Iff.rfl)
theorem Ex_kin {F : Str → FT} {Q : HV → Jr → Prop} {d : D} (h : F k [.exc 0] J = .ok (.val d) J1) : Ex X (eKin F i k env J) Q ↔ excQ env[i]? (Q (.val d) J1) := by
  unfold eKin
  cases h' : env[i]? with
  | none => simp only [Ex_eq]; exact Iff.rfl
  | some y =>
    cases y with
    | none => simp only [Ex_eq]; exact Iff.rfl
    | some y =>
      cases y with
      | val d => simp only [Ex_eq]; exact Iff.rfl
      | jar d => simp only [Ex_eq]; exact Iff.rfl
      | new d => simp only [Ex_eq]; exact Iff.rfl
      | newB _ _ => simp only [Ex_eq]; exact Iff.rfl
      | exc z =>
        cases z with
        | succ z => simp only [Ex_eq]; exact Iff.rfl
        | zero =>
          show Ex X (match F k [.exc 0] J with | .ok (.val d) J1 => .ok (.val d) J1 | _ => .stuck) Q ↔ Q (.val d) J1
          rw [h]
          exact Ex_ok
@[simp] theorem Ex_revS {Q : List D → Jr → Prop} : Ex X (iRevS f env J) Q ↔ Ex X (f env J) fun h J => strQ h fun z => z.cps.size < 2 ^ 62 ∧ Q (chars z).reverse J := by
  unfold iRevS
  rw [Ex_bind]
  refine Ex_iff fun h J => ?_
  cases h with
  | val d =>
    cases d with
    | str n => exact Ex_ite
    | _ => first | exact Iff.rfl | (simp only [Ex_eq, Sx_eq]; exact Iff.rfl)
  | _ => first | exact Iff.rfl | (simp only [Ex_eq, Sx_eq]; exact Iff.rfl)
end
end L2.Pz
set_option Elab.async false
set_option linter.all false
set_option maxRecDepth 100000
set_option maxHeartbeats 4000000
set_option autoImplicit false
namespace L2.Pz
open PySem
/-! ### texts as lists of code points -/
abbrev S (l : List Nat) : Str := ⟨⟨l⟩⟩
abbrev dS (l : List Nat) : D := .str (S l)
theorem S_eta (s : Str) : s = S s.cps.toList := rfl
@[simp] theorem S_len {l : List Nat} : (S l).length = l.length := rfl
@[simp] theorem S_lenI {l : List Nat} : Str.length (S l) = l.length := rfl
theorem S_app {a b : List Nat} : S a ++ S b = S (a ++ b) := by
  show (⟨(⟨a⟩ : Array Nat) ++ ⟨b⟩⟩ : Str) = _
  simp
theorem S_inj {a b : List Nat} : (S a = S b) ↔ a = b := ⟨fun h => by injection h with h; injection h, fun h => by rw [h]⟩
theorem dAdd_S {a b : List Nat} (h : a.length + b.length ≤ big) : dAdd (.str (S a)) (.str (S b)) = some (.val (.str (S (a ++ b)))) := by
  show (if (S a).length + (S b).length ≤ big then some (HV.val (.str (S a ++ S b))) else none) = _
  rw [if_pos (show (S a).length + (S b).length ≤ big from h), S_app]
theorem dLen_S {l : List Nat} (h : l.length ≤ big) : dLen (.str (S l)) = some (.val (.int l.length)) := by
  show (if (S l).length ≤ big then some (HV.val (.int (S l).length)) else none) = _
  rw [if_pos (show (S l).length ≤ big from h)]
  rfl
theorem dIx_S {l : List Nat} {i : Int} (h : l.length ≤ big) (h0 : 0 ≤ i) (h1 : i < l.length) : dIx (.str (S l)) (.int i) = some (.val (.str (S [l[i.toNat]'(by omega)]))) := by
  show (if (S l).length ≤ big then (atI (S l).cps.toList i).map fun c => HV.val (.str ⟨#[c]⟩) else none) = _
  rw [if_pos (show (S l).length ≤ big from h)]
  show (atI l i).map _ = _
  rw [atI_in h0 h1]
  rfl
theorem cutS_to {l : List Nat} {i : Int} (h0 : 0 ≤ i) : cutS (S l) none (some i) = S (l.take i.toNat) := by
  unfold cutS
  show S _ = _
  rw [S_inj, S_len, HT.sIx_none, sIx_to h0]
  show List.take _ (List.drop 0 l) = _
  rw [List.drop_zero, Nat.sub_zero]
  by_cases h : i.toNat ≤ l.length
  · rw [Nat.min_eq_left h]
  · rw [Nat.min_eq_right (by omega), List.take_length, List.take_of_length_le (by omega)]
theorem cutS_from {l : List Nat} {i : Int} (h0 : 0 ≤ i) : cutS (S l) (some i) none = S (l.drop i.toNat) := by
  unfold cutS
  show S _ = _
  rw [S_inj, S_len, HT.sIx_none, sIx_from h0]
  show List.take _ (List.drop _ l) = _
  by_cases h : i.toNat ≤ l.length
  · rw [Nat.min_eq_left h, List.take_of_length_le (by rw [List.length_drop]; exact Nat.le_refl _)]
  · rw [Nat.min_eq_right (by omega), Nat.sub_self, List.take_zero, List.drop_of_length_le (by omega)]
theorem cutS_mid {l : List Nat} {i j : Int} (h0 : 0 ≤ i) (h1 : 0 ≤ j) : cutS (S l) (some i) (some j) = S ((l.drop (min i.toNat l.length)).take (min j.toNat l.length - min i.toNat l.length)) := by
  unfold cutS
  show S _ = _
  rw [S_inj, S_len, sIx_to h1, sIx_from h0]
theorem dSl_to {l : List Nat} {i : Int} (h : l.length ≤ big) (h0 : 0 ≤ i) : dSl (.str (S l)) none (some i) = some (.val (.str (S (l.take i.toNat)))) := by
  show (if (S l).length ≤ big then some (HV.val (.str (cutS (S l) none (some i)))) else none) = _
  rw [if_pos (show (S l).length ≤ big from h), cutS_to h0]
theorem dSl_from {l : List Nat} {i : Int} (h : l.length ≤ big) (h0 : 0 ≤ i) : dSl (.str (S l)) (some i) none = some (.val (.str (S (l.drop i.toNat)))) := by
  show (if (S l).length ≤ big then some (HV.val (.str (cutS (S l) (some i) none))) else none) = _
  rw [if_pos (show (S l).length ≤ big from h), cutS_from h0]
theorem dSl_mid {l : List Nat} {i j : Int} (h : l.length ≤ big) (h0 : 0 ≤ i) (h1 : 0 ≤ j) : dSl (.str (S l)) (some i) (some j) = some (.val (.str (S ((l.drop (min i.toNat l.length)).take (min j.toNat l.length - min i.toNat l.length))))) := by
  show (if (S l).length ≤ big then some (HV.val (.str (cutS (S l) (some i) (some j)))) else none) = _
  rw [if_pos (show (S l).length ≤ big from h), cutS_mid h0 h1]
theorem dIn_S {c : Nat} {l : List Nat} : dIn (.str (S [c])) (.str (S l)) = some (.val (.bl (decide (c ∈ l)))) := rfl
theorem dNotIn_S {c : Nat} {l : List Nat} : dNotIn (.str (S [c])) (.str (S l)) = some (.val (.bl (!decide (c ∈ l)))) := rfl
theorem chars_S {l : List Nat} : chars (S l) = l.map fun c => dS [c] := rfl
theorem strOk_S {l : List Nat} (h : ∀ c ∈ l, c < 1114112) : PyData.strOk (S l) = true := by
  unfold PyData.strOk
  rw [← Array.all_toList]
  simp only [List.all_eq_true, decide_eq_true_eq]
  exact h
theorem beq_S {a b : List Nat} : (S a == S b) = decide (a = b) := by
  by_cases h : a = b
  · subst h; simp
  · rw [decide_eq_false h]
    exact beq_eq_false_iff_ne.mpr fun e => h (S_inj.mp e)
theorem dEq_S {a b : List Nat} (ha : ∀ c ∈ a, c < 1114112) (hb : ∀ c ∈ b, c < 1114112) : dEq (.str (S a)) (.str (S b)) = some (.val (.bl (decide (a = b)))) := by
  rw [dEq_str (strOk_S ha) (strOk_S hb), beq_S]
theorem asStrs_S : ∀ {l : List (List Nat)}, asStrs (l.map dS) = some (l.map S)
  | [] => rfl
  | a :: l => by
    show (asStrs (l.map dS)).map (S a :: ·) = _
    rw [asStrs_S]
    rfl
theorem sjoin_S : ∀ {l : List (List Nat)}, Str.join "" (l.map S) = S l.flatten
  | [] => rfl
  | [a] => by show S a = _; simp
  | a :: b :: r => by
    have ih := sjoin_S (l := b :: r)
    show S a ++ S [] ++ Str.join "" ((b :: r).map S) = _
    rw [ih, S_app, S_app]
    simp
theorem join_S {l : List (List Nat)} : Txt.join "" (l.map S) = S l.flatten := (StrLaws.glued_eq_join _ _).trans sjoin_S
theorem dJoin_S {l : List (List Nat)} (h : (l.map (·.length)).sum ≤ 16777216) : dJoin "" (.lst (l.map dS)) = some (.val (.str (S l.flatten))) := by
  show (match asStrs (l.map dS) with
    | some ys => if (ys.map Str.length).sum + ys.length * Str.length "" ≤ 16777216 then some (HV.val (.str (Txt.join "" ys))) else none
    | none => none) = _
  rw [asStrs_S]
  dsimp only
  rw [if_pos, join_S]
  have e : (l.map S).map Str.length = l.map (·.length) := by rw [List.map_map]; rfl
  rw [e]
  show _ + _ * 0 ≤ _
  omega
theorem dJoin_chr {l : List Nat} (h : l.length ≤ 16777216) : dJoin "" (.lst (l.map fun c => dS [c])) = some (.val (.str (S l))) := by
  have e : (l.map fun c => dS [c]) = (l.map fun c => [c]).map dS := by rw [List.map_map]; rfl
  have e2 : ∀ l : List Nat, (l.map fun c => [c]).flatten = l := fun l => by induction l with
    | nil => rfl
    | cons a l ih => simp [ih]
  have e3 : ∀ l : List Nat, ((l.map fun c => [c]).map (·.length)).sum = l.length := fun l => by induction l with
    | nil => rfl
    | cons a l ih => rw [List.map_cons, List.map_cons, List.sum_cons, ih, List.length_cons]; simp; omega
  rw [e, dJoin_S (by rw [e3]; exact h), e2]
end L2.Pz
set_option Elab.async false
set_option linter.all false
set_option maxRecDepth 100000
set_option maxHeartbeats 4000000
set_option autoImplicit false
namespace L2
open PySem PySem.Spec PyProof.Rows
/-! ### tuple * int, any small int -/
theorem tuple_mul_one (l : Addr) (items : Array Value) (n : Nat) (dd : Option Addr) (sl : Array (Option Value)) (x : Int) (u : Tok) (c0 : (decide (x < -(2 ^ 63)) || decide (x ≥ 2 ^ 63)) = false) (c1 : (items.isEmpty || x == 1) = true) :
    Meets (Builtin.«tuple.__mul__» ⟨[.ref l, .int x u], []⟩) (fun _ R s => s.heap.get? l = some { cls := .type "tuple", dict := dd, data := .seq items n, slots := sl } ∧ R (.ok (.ret (Value.ref l))) s) :=
  .of_wp fun prog w A R s h => by
    obtain ⟨hp, g, d, tk, os⟩ := s
    obtain ⟨hl, h⟩ := h
    have f1 := AutoSeq1.idx_int
    wp_walk using wpAny_loadPart' hl
    repeat (first
      | (refine wpAny_ite_false (decide_eq_false (by rw [c0]; exact Bool.false_ne_true)) ?_; wp_walk using wpAny_loadPart' hl)
      | (refine wpAny_ite_true (decide_eq_true c1) ?_; wp_walk using wpAny_loadPart' hl))
    exact ⟨_, rfl, h⟩
theorem tuple_mul_none (l : Addr) (items : Array Value) (n : Nat) (dd : Option Addr) (sl : Array (Option Value)) (x : Int) (u : Tok) (c0 : (decide (x < -(2 ^ 63)) || decide (x ≥ 2 ^ 63)) = false) (c1 : (items.isEmpty || x == 1) = false) (c2 : (decide (x ≤ 0) || items.isEmpty) = true) :
    Meets (Builtin.«tuple.__mul__» ⟨[.ref l, .int x u], []⟩) (fun _ R s => s.heap.get? l = some { cls := .type "tuple", dict := dd, data := .seq items n, slots := sl } ∧
      R (.ok (.ret (Value.ref s.heap.objs.size))) { s with heap := s.heap.push { cls := Value.type "tuple", data := Data.seq #[] }, toks := s.toks }) :=
  .of_wp fun prog w A R s h => by
    obtain ⟨hp, g, d, tk, os⟩ := s
    obtain ⟨hl, h⟩ := h
    have f1 := AutoSeq1.idx_int
    wp_walk using wpAny_loadPart' hl
    repeat (first
      | (refine wpAny_ite_false (decide_eq_false (by rw [c0]; exact Bool.false_ne_true)) ?_; wp_walk using wpAny_loadPart' hl)
      | (refine wpAny_ite_false (decide_eq_false (by rw [c1]; exact Bool.false_ne_true)) ?_; wp_walk using wpAny_loadPart' hl)
      | (refine wpAny_ite_true (decide_eq_true c2) ?_; wp_walk using wpAny_loadPart' hl))
    exact ⟨_, rfl, h⟩
def rRepTW (K : PySem.W.Frag) : R2 := fun x y H Q => ∃ l k xs, x = .ref l ∧ y = .int k ∧ SqT K H l xs ∧ -(2 ^ 62) < k ∧ k < 2 ^ 62 ∧ xs.length * k.toNat ≤ 1000000 ∧
  (((xs = [] ∨ k = 1) ∧ Q (.ref l) H) ∨ (¬ (xs = [] ∨ k = 1) ∧ ∀ p, H p = none → Q (.ref p) (upd H p (.tup (List.replicate k.toNat xs).flatten))))
theorem op_repTW {X : Cx} : OpR X (binaryOp .Mult) (rRepTW X.K) := by
  intro pins s σ H x y v u Q I rx ry h
  obtain ⟨l, k, xs, rfl, rfl, hT, h1, h2, hm, q⟩ := h
  cases rx
  obtain ⟨t, rfl⟩ := ry
  obtain ⟨its, r, ⟨⟨cls, dd, data, sl⟩, ho, hc, n, hd⟩, hs⟩ := I.tuple hT
  simp only at hc hd
  subst hc hd
  have hle : its.length = xs.length := r.length.symm
  have hsz0 : its.toArray.size = xs.length := by rw [List.size_toArray, hle]
  have c0 : (decide (k < -(2 ^ 63)) || decide (k ≥ 2 ^ 63)) = false := by
    rw [decide_eq_false (by omega), decide_eq_false (by omega)] <;> rfl
  have hemp : its.toArray.isEmpty = decide (xs = []) := by
    cases its with
    | nil =>
      have : xs = [] := List.eq_nil_of_length_eq_zero (by simpa using hle.symm)
      rw [this]; rfl
    | cons a b =>
      cases xs with
      | nil => simp at hle
      | cons c d => rfl
  rcases q with ⟨hq, q⟩ | ⟨hq, q⟩
  · have c1 : (its.toArray.isEmpty || k == 1) = true := by
      rw [hemp]
      rcases hq with e | e
      · rw [decide_eq_true e]; rfl
      · rw [e]; simp
    exact wpAny_binaryOp_repeat_ref (T := "tuple") (U := "int") (by decide) ⟨_, ho, rfl⟩ (fun s' => typeIs_int s' k t) noFill_tuple_mul F.fills_int_mul F.slot_int_rmul repeat_tuple F.slot_int_index.lookup
      (call_meets F.slot_int_rmul (typeIs_int s k t) F.entry_int_rmul (F.args_int_rmul_2 _ _) (int_rmul_tuple k t l its.toArray n dd sl)
        ⟨ho, rfl, ⟨_, ho, rfl⟩, call_meets F.slot_tuple_mul ⟨_, ho, rfl⟩ F.entry_tuple_mul (F.args_tuple_mul_2 _ _) (tuple_mul_one l its.toArray n dd sl k t c0 c1) ⟨ho, .ref l, H, I, rfl, q⟩⟩)
  · rw [not_or] at hq
    obtain ⟨hq1, hq2⟩ := hq
    have c1 : (its.toArray.isEmpty || k == 1) = false := by
      rw [hemp, decide_eq_false hq1, Bool.false_or]
      exact beq_eq_false_iff_ne.mpr hq2
    by_cases hk : k ≤ 0
    · have c2 : (decide (k ≤ 0) || its.toArray.isEmpty) = true := by rw [decide_eq_true hk]; rfl
      have e0 : k.toNat = 0 := by omega
      refine wpAny_binaryOp_repeat_ref (T := "tuple") (U := "int") (by decide) ⟨_, ho, rfl⟩ (fun s' => typeIs_int s' k t) noFill_tuple_mul F.fills_int_mul F.slot_int_rmul repeat_tuple F.slot_int_index.lookup
        (call_meets F.slot_int_rmul (typeIs_int s k t) F.entry_int_rmul (F.args_int_rmul_2 _ _) (int_rmul_tuple k t l its.toArray n dd sl)
          ⟨ho, rfl, ⟨_, ho, rfl⟩, call_meets F.slot_tuple_mul ⟨_, ho, rfl⟩ F.entry_tuple_mul (F.args_tuple_mul_2 _ _) (tuple_mul_none l its.toArray n dd sl k t c0 c1 c2) ⟨ho, ?_⟩⟩)
      rw [e0] at q
      refine ⟨.ref s.heap.objs.size, _, I.laid (t' := s.toks) (o := .tup []) (fun b ob q => Heap.get?_push_of_some _ q) (Nat.le_refl _) ?_, rfl, q _ (I.hok.fresh (Nat.le_refl _))⟩
      exact ⟨by rw [sizeLine_eq]; decide, [], .nil, IsTup.new _ _⟩
    · have hi : its.toArray.isEmpty = false := by rw [hemp]; exact decide_eq_false hq1
      have c2 : (decide (k ≤ 0) || its.toArray.isEmpty) = false := by
        rw [hi, Bool.or_false]
        exact decide_eq_false (by omega)
      have hmi : ((its.toArray.size : Nat) : Int) * k ≤ 1000000 := by
        rw [hsz0]
        have e : k = (k.toNat : Int) := by omega
        rw [e, ← Int.natCast_mul]
        omega
      have c4 : Builtin.Tuple.tupleTooMany (((its.toArray.size : Nat) : Int) * k) = false := by
        unfold Builtin.Tuple.tupleTooMany
        rw [sizeLine_eq]
        exact decide_eq_false (by omega)
      have flen : (List.replicate k.toNat its).flatten.length ≤ sizeLine := by
        rw [PyProof.Rows.lm_len_rep_flat, hle, sizeLine_eq, Nat.mul_comm]
        omega
      refine wpAny_binaryOp_repeat_ref (T := "tuple") (U := "int") (by decide) ⟨_, ho, rfl⟩ (fun s' => typeIs_int s' k t) noFill_tuple_mul F.fills_int_mul F.slot_int_rmul repeat_tuple F.slot_int_index.lookup
        (call_meets F.slot_int_rmul (typeIs_int s k t) F.entry_int_rmul (F.args_int_rmul_2 _ _) (int_rmul_tuple k t l its.toArray n dd sl)
          ⟨ho, rfl, ⟨_, ho, rfl⟩, call_meets F.slot_tuple_mul ⟨_, ho, rfl⟩ F.entry_tuple_mul (F.args_tuple_mul_2 _ _) (tuple_mulW l its.toArray n dd sl k t c0 c1 c2 (by omega) c4 (by rw [size_rep, List.size_toArray]; exact flen)) ⟨ho, ?_⟩⟩)
      rw [size_rep]
      refine ⟨.ref s.heap.objs.size, _, I.laid (t' := s.toks) (o := .tup (List.replicate k.toNat xs).flatten) (fun b ob q => Heap.get?_push_of_some _ q) (Nat.le_refl _) ?_, rfl, q _ (I.hok.fresh (Nat.le_refl _))⟩
      exact ⟨by rw [PyProof.Rows.lm_len_rep_flat, sizeLine_eq, Nat.mul_comm]; omega, _, r.rep k.toNat, IsTup.new _ _⟩
end L2
namespace L2.Pz
open PySem PySem.Spec PyProof.Rows
def dRepT : F2
  | .tup ds, .int k => if -(2 ^ 62) < k ∧ k < 2 ^ 62 ∧ ds.length * k.toNat ≤ 1000000 then some (.val (.tup (List.replicate k.toNat ds).flatten)) else none
  | _, _ => none
theorem sem_repT {K : PySem.W.Frag} : Sem2 K (rRepTW K) dRepT := by
  intro H Y x y d e z Q hl hx hy hz q
  unfold dRepT at hz
  split at hz
  · rename_i ds k
    split at hz
    · rename_i hb
      cases hz
      obtain ⟨a, vs, rfl, s, r⟩ := top_tup hx
      have hlen := reps_len r
      refine ⟨a, k, vs, rfl, top_int hy, s, hb.1, hb.2.1, by rw [hlen]; exact hb.2.2, ?_⟩
      by_cases h : vs = [] ∨ k = 1
      · refine .inl ⟨h, q _ _ (po_val ?_)⟩
        have e : (List.replicate k.toNat ds).flatten = ds := by
          rcases h with h | h
          · have : ds = [] := List.eq_nil_of_length_eq_zero (by rw [← hlen, h]; rfl)
            rw [this]
            simp
          · rw [h]
            show (List.replicate 1 ds).flatten = ds
            simp
        rw [e]
        exact rep_tup.mpr ⟨a, vs, rfl, s, r⟩
      · exact .inr ⟨h, fun p hp => q _ _ (po_newt hl hp (reps_rep r _))⟩
    · cases hz
  · cases hz
end L2.Pz
set_option Elab.async false
set_option linter.all false
set_option maxRecDepth 100000
set_option maxHeartbeats 4000000
set_option autoImplicit false
namespace L2.Pz
open PySem PySem.Spec PyProof.Rows
/-! ### xs.pop(i), xs.pop() of a cell -/
def popEnd (J : Jr) (k : Nat) (j : Int) : R HV := match J[k]? with
  | some ds => if -(2 ^ 62) ≤ j ∧ j < 2 ^ 62 ∧ ds.all isP = true then (match seqIndex? j ds.length with
      | some m => (match ds[m]? with
        | some d => .ok (.val d) (J.set k (ds.eraseIdx m))
        | none => .stuck)
      | none => .stuck) else .stuck
  | none => .stuck
def ePop (i : Nat) (f : EF) : EF := fun env J => match env[i]? with
  | some (some (.jar k)) => (f env J).bind fun h J1 => match h with
    | .val (.int j) => popEnd J1 k j
    | _ => .stuck
  | _ => .stuck
def ePop0 (i : Nat) : EF := fun env J => match env[i]? with
  | some (some (.jar k)) => (match J[k]? with
    | some ds => if ds.all isP = true then (match ds[ds.length - 1]? with
      | some d => .ok (.val d) (J.set k ds.dropLast)
      | none => .stuck) else .stuck
    | none => .stuck)
  | _ => .stuck
theorem reps_erase {K : PySem.W.Frag} {H : Hp} {Y : Addr → Prop} : ∀ {ds : List D} {vs : List V} (m : Nat), Reps K H Y ds vs → Reps K H Y (ds.eraseIdx m) (vs.eraseIdx m)
  | [], vs, m, h => by rw [reps_nil.mp h]; exact reps_nil.mpr rfl
  | c :: ds, vs, 0, h => by
    obtain ⟨u, r, e2, h1, h2⟩ := reps_cons.mp h
    subst e2
    exact h2
  | c :: ds, vs, m + 1, h => by
    obtain ⟨u, r, e2, h1, h2⟩ := reps_cons.mp h
    subst e2
    exact reps_cons.mpr ⟨u, r.eraseIdx m, rfl, h1, reps_erase m h2⟩
theorem reps_last {K : PySem.W.Frag} {H : Hp} {Y : Addr → Prop} {ds : List D} {vs : List V} (h : Reps K H Y ds vs) : Reps K H Y ds.dropLast vs.dropLast := by
  rw [List.dropLast_eq_take, List.dropLast_eq_take, reps_len h]
  exact reps_take _ h
section
variable {X : Cx} {W : WX} {e : Expr} {f : EF} {i : Nat} {Z : List Zx}
theorem pn_pop (h : PE X e (tBM X.K "list" rPopAt (tVar i) (tCons (tD X.K Z W f) tNil))) : PE X e (tN X.K Z W (ePop i f)) := pe_mono h fun σ H Q ⟨Xo, js, env, J, F, p⟩ => by
  unfold ePop at p
  cases hs : env[i]? with
  | none => rw [hs] at p; exact p.elim
  | some o =>
    cases o with
    | none => rw [hs] at p; exact p.elim
    | some z =>
      cases z with
      | val d => rw [hs] at p; exact p.elim
      | new d => rw [hs] at p; exact p.elim
      | exc k => rw [hs] at p; exact p.elim
      | newB _ _ => rw [hs] at p; exact p.elim
      | jar k =>
        rw [hs] at p
        obtain ⟨v, hv, a, ha, rfl⟩ := F.slot i _ hs
        obtain ⟨ds0, vs0, _, hl0, _⟩ := F.at ha
        refine ⟨_, hv, .inl ⟨rfl, _, SqL.of hl0⟩, ?_⟩
        show tD X.K Z W f σ H fun x H1 => _
        refine ⟨Xo, js, env, J, F, ?_⟩
        have p : PostN X.K Z W Xo js H σ env Q ((f env J).bind fun h J1 => match h with
          | .val (.int j) => popEnd J1 k j
          | _ => .stuck) := p
        cases r : f env J with
        | stuck => rw [r] at p; exact p.elim
        | err c fs J1 => rw [r] at p; exact p
        | ok h J1 =>
          rw [r] at p
          intro x H1 e1 F1 x1
          cases h with
          | jar k => exact p.elim
          | exc k => exact p.elim
          | newB _ _ => exact p.elim
          | new k => exact p.elim
          | val d0 =>
            cases d0 with
            | int j =>
              have p : PostN X.K Z W Xo js H σ env Q (popEnd J1 k j) := p
              unfold popEnd at p
              obtain ⟨ds, vs, hJ, hl, rs⟩ := F1.at ha
              rw [hJ] at p
              dsimp only at p
              split at p
              · rename_i hb
                have rs := repsC_reps rs hb.2.2
                have hlen := reps_len rs
                cases hm : seqIndex? j ds.length with
                | none => rw [hm] at p; exact p.elim
                | some m =>
                  rw [hm] at p
                  dsimp only at p
                  cases hd : ds[m]? with
                  | none => rw [hd] at p; exact p.elim
                  | some d =>
                    rw [hd] at p
                    dsimp only at p
                    obtain ⟨y, hy, ry⟩ := reps_get rs hd
                    obtain ⟨F2, e2⟩ := F1.write ha (repsC_of (reps_erase m rs))
                    have y2 := HRep.ext (h := .val d) (v := y) F1 e2 ry
                    exact ⟨a, vs, j, m, y, rfl, by rw [rep_int (K := X.K) (H := H1) (Y := Yf Xo js) x1], hl, by omega, by omega, by rw [hlen]; exact hm, hy, p y _ (e1.trans e2) (out_val F2 y2)⟩
              · exact p.elim
            | _ => exact p.elim
        done
theorem pn_pop0 (h : PE X e (tBM0 X.K "list" rPop (tVar i))) : PE X e (tN X.K Z W (ePop0 i)) := pe_mono h fun σ H Q ⟨Xo, js, env, J, F, p⟩ => by
  unfold ePop0 at p
  cases hs : env[i]? with
  | none => rw [hs] at p; exact p.elim
  | some o =>
    cases o with
    | none => rw [hs] at p; exact p.elim
    | some z =>
      cases z with
      | val d => rw [hs] at p; exact p.elim
      | new d => rw [hs] at p; exact p.elim
      | exc k => rw [hs] at p; exact p.elim
      | newB _ _ => rw [hs] at p; exact p.elim
      | jar k =>
        rw [hs] at p
        obtain ⟨v, hv, a, ha, rfl⟩ := F.slot i _ hs
        obtain ⟨ds, vs, hJ, hl, rs⟩ := F.at ha
        refine ⟨_, hv, .inl ⟨rfl, _, SqL.of hl⟩, ?_⟩
        dsimp only at p
        rw [hJ] at p
        dsimp only at p
        by_cases hpl : ds.all isP = true
        case neg => rw [if_neg hpl] at p; exact p.elim
        rw [if_pos hpl] at p
        have rs := repsC_reps rs hpl
        have hlen := reps_len rs
        cases hd : ds[ds.length - 1]? with
        | none => rw [hd] at p; exact p.elim
        | some d =>
          rw [hd] at p
          dsimp only at p
          obtain ⟨y, hy, ry⟩ := reps_get rs hd
          obtain ⟨F2, e2⟩ := F.write ha (repsC_of (reps_last rs))
          have y2 := HRep.ext (h := .val d) (v := y) F e2 ry
          exact ⟨a, vs, y, rfl, rfl, hl, by rw [hlen]; exact hy, p y _ e2 (out_val F2 y2)⟩
end
/-! ### isinstance(x, (T, U)), built-in classes -/
def dIsa2 (T U : String) : F1 := fun d => some (.val (.bl (isa T d || isa U d)))
theorem top_same {K : PySem.W.Frag} {H H' : Hp} {Y : Addr → Prop} {d : D} {v : V} (s : Same H H') (hl : Lists H Y) (h : RepTop K H Y d v) : RepTop K H' Y d v := by
  have mv : ∀ d v, Rep K H Y d v → Rep K H' Y d v := fun d v r => rep_move (fun a o e _ => s a o e) (fun _ y => .inl y) hl _ _ r
  cases d with
  | lst ds =>
    obtain ⟨a, vs, e, q, r⟩ := h
    refine ⟨a, vs, e, ?_, reps_move (fun a o e _ => s a o e) (fun _ y => .inl y) hl _ _ r⟩
    rcases q with (q | ⟨o, q⟩) | q
    · exact .inl (.inl (s _ _ q))
    · exact .inl (.inr ⟨o, s _ _ q⟩)
    · exact .inr q
  | non => exact mv _ _ h
  | bl b => exact mv _ _ h
  | int b => exact mv _ _ h
  | str b => exact mv _ _ h
  | tup b => exact mv _ _ h
  | lnk b => exact mv _ _ h
theorem kit2 {K : PySem.W.Frag} {t a b : Value} {x y : Bool} (h1 : PySem.W.kitOne K t a = some x) (h2 : PySem.W.kitOne K t b = some y) : PySem.W.kitAny K t [a, b] = some (x || y) := by
  unfold PySem.W.kitAny
  rw [h1]
  cases x
  · unfold PySem.W.kitAny
    rw [h2]
    cases y <;> rfl
  · rfl
theorem sem_isa2 {K : PySem.W.Frag} {T U : String} (hT : IsaOk T) (hU : IsaOk U) : Sem1 K (fun x H Q => [V.ty T, V.ty U].length ≤ sizeLine ∧ ∀ p, H p = none → rIsiT K [x, .ref p] (upd H p (.tup [.ty T, .ty U])) Q) (dIsa2 T U) := by
  intro H Y x d z Q hl hx hz q
  cases hz
  refine ⟨by rw [sizeLine_eq]; show 2 ≤ 16777216; decide, fun p hp => ?_⟩
  have s : Same H (upd H p (.tup [.ty T, .ty U])) := same_upd hp
  exact ⟨x, p, _, _, [.type T, .type U], _, rfl, upd_same, .cons (.ty T) (.cons (.ty U) .nil), tyx_of (top_same s hl hx), kit2 (kit_ty (hT d)) (kit_ty (hU d)), q _ _ ⟨s, mk_bl⟩⟩
/-- isinstance(x, (T, U)) -/
theorem pn_isi2 {X : Cx} {W : WX} {a : Expr} {f : EF} {Z : List Zx} {x : Str} {m n : String} {p p2 p3 tpos pos : Pos} {tk : Nat} {y z : Str} (sem : Sem1 X.K (fun x H Q => [V.ty m, V.ty n].length ≤ sizeLine ∧ ∀ p, H p = none → rIsiT X.K [x, .ref p] (upd H p (.tup [.ty m, .ty n])) Q) (dIsa2 m n))
    (hg : Gl X x) (hm : X.mg x = none) (hv : bootBuiltins x = some (.builtin "isinstance")) (ha : PE X a (tD X.K Z W f)) (hy : PE X (.Name y p2) (tC (.ty m))) (hz : PE X (.Name z p3) (tC (.ty n)))
    (hn : x ≠ "__name__") (hdb : (x == ("__debug__" : Str)) = false) (h1 : starEach [a, .Tuple [.Name y p2, .Name z p3] tk tpos] X.env = (false, eval a X.env) :: starEach [.Tuple [.Name y p2, .Name z p3] tk tpos] X.env)
    (h2 : starEach [.Tuple [.Name y p2, .Name z p3] tk tpos] X.env = (false, eval (.Tuple [.Name y p2, .Name z p3] tk tpos) X.env) :: starEach [] X.env) (h3 : starEach [.Name y p2, .Name z p3] X.env = (false, eval (.Name y p2) X.env) :: starEach [.Name z p3] X.env) (h4 : starEach [.Name z p3] X.env = (false, eval (.Name z p3) X.env) :: starEach [] X.env)
    (hpl : (backTo pos (starEach [.Tuple [.Name y p2, .Name z p3] tk tpos] X.env)).any (·.1) = false) :
    PE X (.Call (.Name x p) [a, .Tuple [.Name y p2, .Name z p3] tk tpos] [] pos) (tN X.K Z W (eUn (dIsa2 m n) f)) :=
  pe_mono (pe_callB call_isiT hg hm hv (pa_cons ha (pa_cons (pe_tup (pa_cons hy (pa_cons hz pa_nil h4) h3)) pa_nil h2) h1) hn hdb h1 hpl) fun σ H Q w => un_read (ta := tD X.K Z W f) sem (fun _ _ _ z => z) w
end L2.Pz
set_option Elab.async false
set_option linter.all false
set_option maxRecDepth 100000
set_option maxHeartbeats 4000000
set_option autoImplicit false
namespace L2.Pz
open PySem
variable {X : XP} {Q : HV → Jr → Prop} {T J : Jr} {jc : List D} {env : En}
/-! ### names, small texts: for many laws -/
abbrev cp (s : Str) : List Nat := s.cps.toList
def abc : List Nat := cp "abcdefghijklmnopqrstuvwxyz"
def figs : List Nat := cp "0123456789"
theorem figs_lit : D.str (Str.ofString "0123456789") = dS figs := by with_unfolding_all rfl
def barred : List (List Nat) := ([("sign" : Str), "held", "idle", "loose", "same", "state", "flag", "count", "on", "if", "and", "do", "no", "least", "below", "raise", "clear", "add", "drop", "tell", "path", "machine", "program", "rows"] : List Str).map fun s : Str => cp s
def isL (c : Nat) : Bool := decide (c ∈ abc)
def isF (c : Nat) : Bool := decide (c ∈ figs)
def badAt : Nat → List Nat → Option Nat
  | _, [] => none
  | i, c :: r => if (isL c || (i != 0 && isF c)) = true then badAt (i + 1) r else some i
def due (l : List Nat) : Int := if l.length < 1 ∨ 8 < l.length then -1 else if l ∈ barred then -1 else match badAt 0 l with
  | some i => i
  | none => 100 + l.length
abbrev asc (l : List Nat) : Prop := ∀ c ∈ l, c < 1114112
theorem barred_asc : ∀ w ∈ barred, asc w := by decide +kernel
theorem badAt_ge : ∀ (l : List Nat) (i k : Nat), badAt i l = some k → i ≤ k ∧ k < i + l.length
  | [], i, k, h => by cases h
  | c :: r, i, k, h => by
    unfold badAt at h
    split at h
    · have := badAt_ge r (i + 1) k h
      rw [List.length_cons]; omega
    · cases h
      rw [List.length_cons]; omega
theorem due_small {l : List Nat} (h : due l < 100) : due l < 8 := by
  unfold due at h ⊢
  split
  · decide
  · split
    · decide
    · rename_i h1 h2
      rw [if_neg h1, if_neg h2] at h
      cases e : badAt 0 l with
      | none => rw [e] at h; dsimp only at h; omega
      | some k =>
        have := badAt_ge _ _ _ e
        dsimp only
        omega
theorem due_big {l : List Nat} (h : ¬ due l < 100) : due l = 100 + l.length := by
  unfold due at h ⊢
  split
  · rename_i h1; rw [if_pos h1] at h; omega
  · split
    · rename_i h1 h2; rw [if_neg h1, if_pos h2] at h; omega
    · rename_i h1 h2
      rw [if_neg h1, if_neg h2] at h
      cases e : badAt 0 l with
      | none => rfl
      | some k =>
        have := badAt_ge _ _ _ e
        rw [e] at h
        dsimp only at h
        omega
@[simp] theorem yes2_t {i j : Int} : yes2 i j = true := rfl
theorem Ex_bChain {fo go : F2} {f g k : EF} {Q : Bool → Jr → Prop} : Ex X (bChain fo go f g k env J) Q ↔ Ex X (f env J) fun h1 J1 => Ex X (g env J1) fun h2 J2 => Ex X (app2 fo J2 h1 h2) fun z J3 => blQ z fun b => if b = true then Ex X (k env J3) fun h3 J4 => Ex X (app2 go J4 h2 h3) fun y J5 => blQ y fun b => Q b J5 else Q false J3 := by
  unfold bChain eChain
  simp only [Ex_toB, Ex_bind]
  refine Ex_iff fun h1 J1 => Ex_iff fun h2 J2 => Ex_iff fun z J3 => ?_
  cases z with
  | val d =>
    cases d with
    | bl b =>
      cases b
      · simp
      · simp
    | _ => simp [blQ]
  | _ => simp [blQ]
theorem pair_get {ds : List D} {k i : Nat} {d : D} (h : (pairUp k ds)[i]? = some d) : ∃ e, ds[i]? = some e ∧ d = .tup [.int ((k + i : Nat) : Int), e] := by
  have hi : i < ds.length := by
    have := (List.getElem?_eq_some_iff.mp h).1
    rw [pairUp_len] at this
    exact this
  have := pairUp_get ds k i ds[i] (List.getElem?_eq_getElem hi)
  rw [h] at this
  exact ⟨ds[i], List.getElem?_eq_getElem hi, by simpa using this⟩
theorem shp_barred : shp (.tup (barred.map dS)) = true := by decide +kernel
theorem shp_S {l : List Nat} (h : asc l) : shp (dS l) = true := by rw [shp_str]; exact strOk_S h
theorem in_barred {l : List Nat} : ∀ bs : List (List Nat), inAny (dS l) (bs.map dS) = decide (l ∈ bs)
  | [] => by simp [inAny]
  | b :: bs => by
    have ih := in_barred (l := l) bs
    unfold inAny at ih ⊢
    rw [List.map_cons, List.any_cons, ih]
    have e : deq (dS b) (dS l) = decide (b = l) := (show deq (dS b) (dS l) = (S b == S l) from rfl).trans beq_S
    rw [e]
    by_cases h : b = l
    · subst h; simp
    · have h' : ¬ l = b := fun e => h e.symm
      simp [h, h']
@[simp] theorem dAdd_ii {i j : Int} : dAdd (.int i) (.int j) = some (.val (.int (i + j))) := rfl
@[simp] theorem dSub_ii {i j : Int} : dSub (.int i) (.int j) = some (.val (.int (i - j))) := rfl
@[simp] theorem dLt_ii {i j : Int} : dLt (.int i) (.int j) = some (.val (.bl (decide (i < j)))) := rfl
@[simp] theorem dGe_ii {i j : Int} : dGe (.int i) (.int j) = some (.val (.bl (decide (j ≤ i)))) := rfl
@[simp] theorem dGt_ii {i j : Int} : dGt (.int i) (.int j) = some (.val (.bl (decide (j < i)))) := rfl
@[simp] theorem dNeg_i {i : Int} : dNeg (.int i) = some (.val (.int (-i))) := rfl
@[simp] theorem dLen_l {ds : List D} : dLen (.lst ds) = some (.val (.int ds.length)) := rfl
@[simp] theorem dLen_t {ds : List D} : dLen (.tup ds) = some (.val (.int ds.length)) := rfl
@[simp] theorem truth_bl {b : Bool} : truth (.bl b) = some b := rfl
abbrev a7 (l : List Nat) : Prop := ∀ c ∈ l, c < 128
theorem a7.asc {l : List Nat} (h : a7 l) : asc l := fun c hc => by have := h c hc; omega
theorem dIx_any {z : Str} {i : Int} (P : Nat → Prop) (hP : ∀ c ∈ z.cps.toList, P c) (hz : z.cps.toList.length ≤ big) (h0 : 0 ≤ i) (h1 : i < z.cps.toList.length) : ∃ c, P c ∧ dIx (.str z) (.int i) = some (.val (dS [c])) :=
  ⟨_, hP _ (List.getElem_mem (by omega)), dIx_S (l := z.cps.toList) hz h0 h1⟩
def gC (c : Nat) : Prop := isL c = true ∨ isF c = true
def gW (l : List Nat) : Prop := ∃ c r, l = c :: r ∧ isL c = true ∧ ∀ x ∈ r, gC x
theorem abc7 : ∀ c ∈ abc, c < 128 := by decide +kernel
theorem figs7 : ∀ c ∈ figs, c < 128 := by decide +kernel
theorem gC7 {c : Nat} (h : gC c) : c < 128 := by
  rcases h with h | h
  · exact abc7 c (of_decide_eq_true h)
  · exact figs7 c (of_decide_eq_true h)
theorem gW7 {l : List Nat} (h : gW l) : a7 l := by
  obtain ⟨c, r, rfl, h1, h2⟩ := h
  intro x hx
  rcases List.mem_cons.mp hx with rfl | hx
  · exact gC7 (.inl h1)
  · exact gC7 (h2 x hx)
theorem gW_all {l : List Nat} (h : gW l) : ∀ x ∈ l, gC x := by
  obtain ⟨c, r, rfl, h1, h2⟩ := h
  intro x hx
  rcases List.mem_cons.mp hx with rfl | hx
  · exact .inl h1
  · exact h2 x hx
theorem gW_app {l m : List Nat} (h : gW l) (hm : ∀ x ∈ m, gC x) : gW (l ++ m) := by
  obtain ⟨c, r, rfl, h1, h2⟩ := h
  exact ⟨c, r ++ m, rfl, h1, fun x hx => (List.mem_append.mp hx).elim (h2 x) (hm x)⟩
theorem bad_none : ∀ (r : List Nat) (i : Nat), (∀ x ∈ r, gC x) → badAt (i + 1) r = none
  | [], i, h => rfl
  | c :: r, i, h => by
    unfold badAt
    have hc : (isL c || (i + 1 != 0 && isF c)) = true := by
      rcases h c List.mem_cons_self with e | e <;> simp [e]
    rw [if_pos hc]
    exact bad_none r (i + 1) fun x hx => h x (List.mem_cons_of_mem _ hx)
theorem gW_bad {l : List Nat} (h : gW l) : badAt 0 l = none := by
  obtain ⟨c, r, rfl, h1, h2⟩ := h
  unfold badAt
  rw [if_pos (by simp [h1])]
  exact bad_none r 0 h2
theorem due_good {l : List Nat} (h : gW l) (hb : l ∉ barred) (h1 : l.length ≤ 8) : due l = 100 + l.length := by
  have h0 : 0 < l.length := by obtain ⟨c, r, rfl, _⟩ := h; simp
  unfold due
  rw [if_neg (by omega), if_neg hb, gW_bad h]
theorem barred_q : ∀ w ∈ barred, w.getLast? ≠ some 113 := by decide +kernel
theorem c09 : ∀ c ∈ cp "09az", gC c := by unfold gC; decide +kernel
theorem cfig : ∀ c ∈ cp "0123456789", gC c := by unfold gC; decide +kernel
theorem ctail : ∀ c ∈ abc ++ figs, gC c := by unfold gC; decide +kernel
theorem cabc : ∀ c ∈ abc, gC c := by unfold gC; decide +kernel
theorem a71 {c : Nat} (h : c < 128) : a7 [c] := fun x hx => by rw [List.mem_singleton.mp hx]; exact h
theorem dAdd_any {x y : Str} (h : x.cps.toList.length + y.cps.toList.length ≤ big) : dAdd (.str x) (.str y) = some (.val (dS (x.cps.toList ++ y.cps.toList))) := dAdd_S h
abbrev sm (n : Nat) (l : List Nat) : Prop := a7 l ∧ l.length ≤ n
theorem sm_app {a b : List Nat} {n m : Nat} (ha : sm n a) (hb : sm m b) : sm (n + m) (a ++ b) := ⟨fun c hc => (List.mem_append.mp hc).elim (ha.1 c) (hb.1 c), by rw [List.length_append]; have := ha.2; have := hb.2; omega⟩
theorem sm.mono {n m : Nat} {l : List Nat} (h : sm n l) (hm : n ≤ m) : sm m l := ⟨h.1, by have := h.2; omega⟩
theorem sm1 {c : Nat} (h : c < 128) : sm 1 [c] := ⟨a71 h, by simp⟩
theorem sm_take {n k : Nat} {l : List Nat} (h : sm n l) : sm n (l.take k) := ⟨fun c hc => h.1 c (List.mem_of_mem_take hc), by rw [List.length_take]; have := h.2; omega⟩
theorem sm_drop {n k : Nat} {l : List Nat} (h : sm n l) : sm n (l.drop k) := ⟨fun c hc => h.1 c (List.mem_of_mem_drop hc), by rw [List.length_drop]; have := h.2; omega⟩
theorem chars_get {z : Str} {i : Nat} {d : D} (h : (chars z)[i]? = some d) : ∃ c, c ∈ z.cps.toList ∧ d = dS [c] ∧ i < z.cps.toList.length := by
  unfold chars at h
  rw [List.getElem?_map] at h
  cases e : z.cps.toList[i]? with
  | none => rw [e] at h; cases h
  | some c => rw [e] at h; exact ⟨c, List.mem_of_getElem? e, by simpa using h.symm, (List.getElem?_eq_some_iff.mp e).1⟩
@[simp] theorem Ex_yes {env : En} {Q : Bool → Jr → Prop} : Ex X (bYes env J) Q ↔ Q true J := Ex_ok
theorem barred_sm : ∀ w ∈ barred, sm 9 w := by decide +kernel
theorem barred_abc : ∀ w ∈ barred, ∀ c ∈ w, c ∈ abc := by decide +kernel
theorem barred_pos : ∀ w ∈ barred, 0 < w.length := by decide +kernel
theorem dUpper_S {l : List Nat} (h : l.length ≤ 1000) : dUpper (.str (S l)) = some (.val (.str (Txt.upper (S l)))) := by
  show (if (S l).length ≤ 5592405 then some (HV.val (.str (Txt.upper (S l)))) else none) = _
  rw [if_pos (show (S l).length ≤ 5592405 from (show l.length ≤ 5592405 by omega))]
theorem dAdd_ll {xs ys : List D} (h : xs.length + ys.length ≤ 16777216) : dAdd (.lst xs) (.lst ys) = some (.new (xs ++ ys)) := by
  show (if xs.length + ys.length ≤ big then some (HV.new (xs ++ ys)) else none) = _
  rw [if_pos h]
@[simp] theorem dNe_bl {a b : Bool} : dNe (.bl a) (.bl b) = some (.val (.bl (!(a == b)))) := rfl
@[simp] theorem dEq_bl {a b : Bool} : dEq (.bl a) (.bl b) = some (.val (.bl (a == b))) := rfl
end L2.Pz
set_option Elab.async false
set_option linter.all false
set_option maxRecDepth 100000
set_option maxHeartbeats 4000000
set_option autoImplicit false
/-! A list that holds a list that is changed: cells in cells. -/
namespace L2.Pz
open PySem PySem.Spec PyProof.Rows
/-! ### x[j], x a cell: a datum, or the cell that lies there -/
def elemH : D → HV
  | .lnk m => .jar m
  | d => .val d
def ixJEnd (J : Jr) (k : Nat) (j : Int) : R HV := match J[k]? with
  | some ds => (match atI ds j with
    | some d => .ok (elemH d) J
    | none => .stuck)
  | none => .stuck
def eIxJ (i : Nat) (g : EF) : EF := fun env J => match env[i]? with
  | some (some (.jar k)) => (g env J).bind fun h J1 => match h with
    | .val (.int j) => ixJEnd J1 k j
    | _ => .stuck
  | _ => .stuck
/-- name = [[..], ..], both lists will be changed -/
def sNewB (i : Nat) (f : EF) : SF := fun n env J => onS env (f env J) fun h J1 => match h with
  | .newB cs m => if n ≤ J1.length then .nx (env.set i (some (.jar m))) (J1 ++ cs) else .stuck
  | _ => .stuck
/-- [f, ..], f a fresh list -/
def eLstB (f : EF) (fs : List EF) : EF := fun env J => (f env J).bind fun h J1 => match h with
  | .new xs => (eItems fs env J1).bind fun ds J2 => if ds.length + 1 ≤ big then .ok (.newB [xs, .lnk J2.length :: ds] (J2.length + 1)) J2 else .stuck
  | _ => .stuck
def dIsB : F2
  | .bl a, .bl b => some (.val (.bl (decide (a = b))))
  | _, _ => none
section
variable {K : PySem.W.Frag} {H : Hp} {Y : Addr → Prop} {js : List Addr} {k : Nat}
theorem atI_repsC {ds : List D} {vs : List V} {i : Int} {d : D} (r : RepsC K H Y js k ds vs) (h : atI ds i = some d) : ∃ v, atI vs i = some v ∧ RepE K H Y js k d v := by
  unfold atI at h ⊢
  rw [repsC_len r]
  cases e : ixN ds.length i with
  | none => rw [e] at h; cases h
  | some j =>
    rw [e] at h
    exact repsC_get r h
theorem sem_isB : Sem2 K (fun x y H Q => ∃ a b, x = .bl a ∧ y = .bl b ∧ Q (.bl (decide (a = b))) H) dIsB := by
  intro H Y x y d e z Q hl hx hy hz q
  unfold dIsB at hz
  split at hz
  · cases hz
    exact ⟨_, _, top_bl hx, top_bl hy, q _ _ (po_val mk_bl)⟩
  · cases hz
end
section
variable {X : Cx} {W : WX} {n0 : Nat} {a b e : Expr} {es : List Expr} {f g : EF} {fs : List EF} {pos : Pos} {i : Nat} {Z : List Zx}
theorem pn_ixJ (ha : PE X a (tVar i)) (hb : PE X b (tD X.K Z W g)) (hs : PlainIx b) : PE X (.Subscript a b pos) (tN X.K Z W (eIxJ i g)) := pe_mono (pe_ix ix_list ha hb hs) fun σ H Q ⟨Xo, js, env, J, F, p⟩ => by
  unfold eIxJ at p
  cases hs : env[i]? with
  | none => rw [hs] at p; exact p.elim
  | some o =>
    cases o with
    | none => rw [hs] at p; exact p.elim
    | some z =>
      cases z with
      | val d => rw [hs] at p; exact p.elim
      | new d => rw [hs] at p; exact p.elim
      | exc k => rw [hs] at p; exact p.elim
      | newB _ _ => rw [hs] at p; exact p.elim
      | jar k =>
        rw [hs] at p
        obtain ⟨v, hv, a, ha, rfl⟩ := F.slot i _ hs
        refine ⟨_, hv, ?_⟩
        refine ⟨Xo, js, env, J, F, ?_⟩
        have p : PostN X.K Z W Xo js H σ env Q ((g env J).bind fun h J1 => match h with
          | .val (.int j) => ixJEnd J1 k j
          | _ => .stuck) := p
        cases r : g env J with
        | stuck => rw [r] at p; exact p.elim
        | err c fs J1 => rw [r] at p; exact p
        | ok h J1 =>
          rw [r] at p
          intro x H1 e1 F1 x1
          cases h with
          | jar k => exact p.elim
          | exc k => exact p.elim
          | newB _ _ => exact p.elim
          | new k => exact p.elim
          | val d0 =>
            cases d0 with
            | int j =>
              have p : PostN X.K Z W Xo js H σ env Q (ixJEnd J1 k j) := p
              unfold ixJEnd at p
              obtain ⟨ds, vs, hJ, hl, rs⟩ := F1.at ha
              rw [hJ] at p
              dsimp only at p
              cases hd : atI ds j with
              | none => rw [hd] at p; exact p.elim
              | some d =>
                rw [hd] at p
                obtain ⟨y, hy, ry⟩ := atI_repsC rs hd
                refine ⟨a, vs, j, y, rfl, rep_int (K := X.K) (H := H1) (Y := Yf Xo js) x1, SqL.of hl, hy, p y H1 e1 ?_⟩
                cases d with
                | lnk m =>
                  obtain ⟨_, b, b1, b2⟩ := ry
                  exact ⟨F1, b, b1, b2⟩
                | non => exact ⟨F1, ry⟩
                | bl _ => exact ⟨F1, ry⟩
                | int _ => exact ⟨F1, ry⟩
                | str _ => exact ⟨F1, ry⟩
                | tup _ => exact ⟨F1, ry⟩
                | lst _ => exact ⟨F1, ry⟩
            | _ => exact p.elim
theorem Fit.snoc {K : PySem.W.Frag} {Z : List Zx} {Xo : Addr → Prop} {js : List Addr} {H' : Hp} {σ : L2.St} {env : En} {J1 : Jr} {q : Addr} {us : List V} {ds : List D} (G : Fit K Z (With Xo q) js H' σ env J1) (hq : H' q = some (.lst us)) (nX : ¬ Xo q)
    (r : RepsC K H' (Yf Xo (js ++ [q])) (js ++ [q]) js.length ds us) : Fit K Z Xo (js ++ [q]) H' σ env (J1 ++ [ds]) := by
  have nq : q ∉ js := fun z => G.jx q z (.inr rfl)
  have yy : ∀ a, Yf Xo (js ++ [q]) a → Yf (With Xo q) js a := fun a y => by
    rcases y with y | y
    · exact .inl (.inl y)
    · rcases List.mem_append.mp y with y | y
      · exact .inr y
      · exact .inl (.inr (by simpa using y))
  refine ⟨fun a y => G.out a (.inl y), ?_, fun a ha => ?_, by rw [List.length_append, List.length_append, G.len]; rfl, G.slen, fun k a ds' h1 h2 => ?_, fun k h' e => ?_, fun z hz => (G.ez z hz).move (fun _ _ e _ => e) (fun a y => .inl (yy a y)) G.lists⟩
  · rw [List.nodup_append]
    exact ⟨G.nd, by simp, fun a ha b hb => by
      have : b = q := by simpa using hb
      rw [this]; exact fun z => nq (z ▸ ha)⟩
  · rcases List.mem_append.mp ha with ha | ha
    · exact fun z => G.jx a ha (.inl z)
    · have : a = q := by simpa using ha
      rw [this]; exact nX
  · by_cases hk : k < js.length
    · rw [List.getElem?_append_left hk] at h1
      rw [List.getElem?_append_left (by rw [← G.len]; exact hk)] at h2
      obtain ⟨us', u1, u2⟩ := G.jar k a ds' h1 h2
      exact ⟨us', u1, repsC_moveJ (fun _ _ e _ => e) (fun a y => .inl (yy a y)) G.lists (fun m b _ e => by rw [List.getElem?_append_left ((List.getElem?_eq_some_iff.mp e).1)]; exact e) u2⟩
    · rw [List.getElem?_append_right (by omega)] at h1
      rw [List.getElem?_append_right (by rw [← G.len]; omega), ← G.len] at h2
      have hk0 : k - js.length = 0 := by
        cases hh : k - js.length with
        | zero => rfl
        | succ m => rw [hh] at h1; simp at h1
      have hk1 : k = js.length := by omega
      rw [hk0] at h1 h2
      have e1 : q = a := by simpa using h1
      have e2 : ds = ds' := by simpa using h2
      subst e1; subst e2
      rw [hk1]
      exact ⟨us, hq, r⟩
  · obtain ⟨u, u1, u2⟩ := G.slot k h' e
    refine ⟨u, u1, ?_⟩
    have u3 := u2.move (fun _ _ e _ => e) (Y' := Yf Xo (js ++ [q])) (fun a y => .inl (yy a y)) G.lists
    cases h' with
    | val d => exact u3
    | new ds => exact u3
    | exc m => exact u3
    | newB _ _ => exact u3
    | jar m =>
      obtain ⟨a, ea, ev⟩ := u3
      exact ⟨a, by rw [List.getElem?_append_left ((List.getElem?_eq_some_iff.mp ea).1)]; exact ea, ev⟩
theorem two_cells {K : PySem.W.Frag} {Xo : Addr → Prop} {js : List Addr} {H' : Hp} {J1 : Jr} {q t : Addr} {us vs : List V} {xs ds : List D} (hqt : q ≠ t) (nX : ∀ a, a = q ∨ a = t → ¬ Xo a) (G : Fit K [] (With (With Xo t) q) js H' [] [] J1) (a4 : H' q = some (.lst (V.ref t :: vs))) (a5 : H' t = some (.lst us))
    (a6 : Reps K H' (Yf (With (With Xo t) q) js) xs us) (a7 : Reps K H' (Yf (With (With Xo t) q) js) ds vs) : Fit K [] Xo (js ++ [t, q]) H' [] [] (J1 ++ [xs, .lnk J1.length :: ds]) := by
  have nt : t ∉ js := fun z => G.jx t z (.inl (.inr rfl))
  have yq : ∀ a, With (With Xo q) t a → With (With Xo t) q a := fun a y => by
    rcases y with (y | y) | y
    · exact .inl (.inl y)
    · exact .inr y
    · exact .inl (.inr y)
  have y2 : ∀ a, Yf (With Xo q) (js ++ [t]) a → Yf (With (With Xo t) q) js a := fun a y => by
    rcases y with (y | y) | y
    · exact .inl (.inl (.inl y))
    · exact .inl (.inr y)
    · rcases List.mem_append.mp y with y | y
      · exact .inr y
      · exact .inl (.inl (.inr (by simpa using y)))
  have G1 : Fit K [] (With (With Xo q) t) js H' [] [] J1 := G.move (fun _ _ e => e) (fun a y => .inl (yq a y)) fun a y => G.out a (yq a y)
  have G2 : Fit K [] (With Xo q) (js ++ [t]) H' [] [] (J1 ++ [xs]) := G1.snoc a5 (fun y => y.elim (nX t (.inr rfl)) fun z => hqt z.symm) (repsC_of (reps_move (fun _ _ e _ => e) (fun a y => .inl (y2 a y)) G.lists _ _ a6))
  have y3 : ∀ a, Yf Xo (js ++ [t] ++ [q]) a → Yf (With Xo q) (js ++ [t]) a := fun a y => by
    rcases y with y | y
    · exact .inl (.inl y)
    · rcases List.mem_append.mp y with y | y
      · exact .inr y
      · exact .inl (.inr (by simpa using y))
  have G3 := G2.snoc (ds := .lnk J1.length :: ds) a4 (nX q (.inl rfl)) (repsC_cons ⟨by rw [List.length_append, G.len]; simp, t, by rw [List.append_assoc, List.getElem?_append_right (by rw [G.len]; omega), ← G.len]; simp, rfl⟩ (repsC_of (reps_move (fun _ _ e _ => e) (fun a y => .inl (y2 a (y3 a y))) G.lists _ _ a7)))
  rw [List.append_assoc, List.append_assoc] at G3
  exact G3
theorem Fit.grow {Xo : Addr → Prop} {js ps : List Addr} {H H' : Hp} {σ : L2.St} {env : En} {J J' : Jr} {K : PySem.W.Frag} (F : Fit K Z Xo js H σ env J) (e : Ext js H H') (hp : ∀ p ∈ ps, H p = none) (G : Fit K [] Xo (js ++ ps) H' [] [] J') : Fit K Z Xo (js ++ ps) H' σ env J' := by
  have hX : ∀ a, Yf Xo (js ++ ps) a → Yf Xo js a ∨ H a = none := fun a y => by
    rcases y with y | y
    · exact .inl (.inl y)
    · rcases List.mem_append.mp y with y | y
      · exact .inl (.inr y)
      · exact .inr (hp a y)
  have hE : ∀ a o, H a = some o → ¬ Yf Xo js a → H' a = some o := fun a o q n => e a o q fun z => n (.inr z)
  refine ⟨G.out, G.nd, G.jx, G.len, F.slen, G.jar, fun i h q => ?_, fun z hz => (F.ez z hz).move hE hX F.lists⟩
  obtain ⟨v, h1, h2⟩ := F.slot i h q
  refine ⟨v, h1, ?_⟩
  have h3 := h2.move hE hX F.lists
  cases h with
  | val d => exact h3
  | new ds => exact h3
  | exc m => exact h3
  | newB _ _ => exact h3
  | jar m =>
    obtain ⟨a, ea, ev⟩ := h3
    exact ⟨a, by rw [List.getElem?_append_left ((List.getElem?_eq_some_iff.mp ea).1)]; exact ea, ev⟩
theorem newB_read {i : Nat} {D : Ends} {σ : L2.St} {H : Hp} (w : tS X.K Z W n0 (sNewB i f) D σ H) : tAsg (tN X.K Z W f) (gName i) D σ H := by
  obtain ⟨Xo, js, env, J, F, p⟩ := w
  refine ⟨Xo, js, env, J, F, ?_⟩
  unfold sNewB at p
  cases r : f env J with
  | stuck => rw [r] at p; exact p.elim
  | err c fs J1 => rw [r] at p; exact flies_S p
  | ok h J1 =>
    rw [r] at p
    intro v H' e1 o
    cases h with
    | val d => exact p.elim
    | jar k => exact p.elim
    | exc k => exact p.elim
    | new ds => exact p.elim
    | newB cs m =>
      obtain ⟨ps, F1, a2, ⟨a, ha, ev⟩, G⟩ := o
      have p : PostS X.K Z W n0 Xo js H D (if n0 ≤ J1.length then .nx (env.set i (some (.jar m))) (J1 ++ cs) else .stuck) := p
      by_cases hn0 : n0 ≤ J1.length
      case neg => rw [if_neg hn0] at p; exact p.elim
      rw [if_pos hn0] at p
      have G2 := F.grow e1 a2 G
      refine p _ H' (js ++ ps) ⟨e1, fun a ha => ?_, List.prefix_append _ _, fun a h => none_back e1 F1.lists h⟩ (G2.set i (h := .jar m) ⟨a, ha, ev⟩)
      rcases List.mem_append.mp ha with ha | ha
      · exact .inl ha
      · exact .inr (a2 a ha)
theorem s_newB {i : Nat} {x : Str} {pos' : Pos} (hN : X.N.Nodup) (hi : X.N[i]? = some x) (hx : Loc X.env.scope x) (he : PE X e (tN X.K Z W f)) (hs : swapsWith e (some (.Name x pos')) pos.line X.env = pure false) (hf : X.fn x = true ∨ X.env.scope.names.lookup x = some .local) :
    PS X (.Assign [.Name x pos'] e pos) (tS X.K Z W n0 (sNewB i f)) := ps_mono (ps_set hN hi hx he hs hf) fun D σ H w => newB_read w
theorem pn_lstB (ha : PE X e (tN X.K Z W f)) (hb : PA X es (tI X.K Z W fs)) (hs : starEach (e :: es) X.env = (false, eval e X.env) :: starEach es X.env) : PE X (.List (e :: es) pos) (tN X.K Z W (eLstB f fs)) := pe_mono (pe_lst (pa_cons ha hb hs)) fun σ H Q ⟨Xo, js, env, J, F, p⟩ => by
  refine ⟨Xo, js, env, J, F, ?_⟩
  unfold eLstB at p
  cases hf : f env J with
  | stuck => rw [hf] at p; exact p.elim
  | err c fs J1 => rw [hf] at p; exact p
  | ok h J1 =>
    rw [hf] at p
    intro x H1 e1 o
    cases h with
    | val d => exact p.elim
    | jar k => exact p.elim
    | exc k => exact p.elim
    | newB _ _ => exact p.elim
    | new xs =>
      obtain ⟨q, us, rfl, a2, a3, F1, a5⟩ := o
      have p : PostN X.K Z W Xo js H σ env Q ((eItems fs env J1).bind fun ds J2 => if ds.length + 1 ≤ big then .ok (.newB [xs, .lnk J2.length :: ds] (J2.length + 1)) J2 else .stuck) := p
      refine ⟨With Xo q, js, env, J1, F1, ?_⟩
      cases hg : eItems fs env J1 with
      | stuck => rw [hg] at p; exact p.elim
      | err c fs J2 =>
        rw [hg] at p
        intro cls od H2 x2 e2 F2
        have F3 := F2.unlock
        refine p cls od H2 ?_ (e1.trans e2) F3
        exact x2.move (fun _ _ e _ => e) (fun a y => .inl (y.elim (fun y => .inl (.inl y)) .inr)) F2.lists
      | ok ds J2 =>
        rw [hg] at p
        intro vs H2 e2 F2 r2
        have p : PostN X.K Z W Xo js H σ env Q (if ds.length + 1 ≤ big then .ok (.newB [xs, .lnk J2.length :: ds] (J2.length + 1)) J2 else .stuck) := p
        by_cases hbg : ds.length + 1 ≤ big
        · rw [if_pos hbg] at p
          refine ⟨by rw [big_eq, List.length_cons, reps_len r2]; exact hbg, fun t ht => ?_⟩
          have nq : q ∉ js := fun z => F1.jx q z (.inr rfl)
          have q2 : H2 q = some (.lst us) := e2 q _ a3 nq
          have hqt : t ≠ q := fun z => by rw [z, q2] at ht; cases ht
          have sm : Same H2 (upd H2 t (.lst (V.ref q :: vs))) := same_upd ht
          have G := (F2.lock sm ht upd_same).bareZ
          have mv : ∀ {d es}, Reps X.K H2 (Yf (With Xo q) js) d es → Reps X.K (upd H2 t (.lst (V.ref q :: vs))) (Yf (With (With Xo q) t) js) d es := fun {d es} r =>
            reps_move (fun a o e _ => sm _ _ e) (fun a y => by
              rcases y with (y | y) | y
              · exact .inl (.inl y)
              · exact .inr (y ▸ ht)
              · exact .inl (.inr y)) F2.lists _ _ r
          have a5' : Reps X.K H2 (Yf (With Xo q) js) xs us := reps_move (fun a o q n => e2 a o q fun z => n (.inr z)) (fun _ y => .inl y) F1.lists _ _ a5
          have e12 : Ext js H H2 := e1.trans e2
          have nX : ∀ a, a = t ∨ a = q → ¬ Xo a := fun a ha y => by
            obtain ⟨xs, z⟩ := F.out a y
            rcases ha with rfl | rfl
            · rw [none_back e12 F2.unlock.lists ht] at z; cases z
            · rw [a2] at z; cases z
          refine p _ _ (e12.trans (.of sm)) ⟨[q, t], (F2.same sm).unlock, fun b hb => ?_, ⟨t, ?_, rfl⟩, two_cells hqt (fun a ha => nX a ha) G upd_same (sm _ _ q2) (mv a5') (mv r2)⟩
          · simp at hb
            rcases hb with rfl | rfl
            · exact a2
            · exact none_back e12 F2.unlock.lists ht
          · rw [← F2.len, List.getElem?_append_right (by omega)]; simp
        · rw [if_neg hbg] at p; exact p.elim
end
/-! ### their logic -/
section
variable {X : XP} {P : Po} {Q : HV → Jr → Prop} {J : Jr} {env : En} {n i : Nat} {f g : EF} {fs : List EF}
def newBQ (h : HV) (Q : List (List D) → Nat → Prop) : Prop := match h with
  | .newB a b => Q a b
  | _ => False
@[simp] theorem newBQ_newB {xs : List (List D)} {m : Nat} {Q : List (List D) → Nat → Prop} : newBQ (.newB xs m) Q ↔ Q xs m := Iff.rfl
@[simp] theorem elemH_lnk {m : Nat} : elemH (.lnk m) = .jar m := rfl
@[simp] theorem elemH_int {m : Int} : elemH (.int m) = .val (.int m) := rfl
@[simp] theorem elemH_bl {m : Bool} : elemH (.bl m) = .val (.bl m) := rfl
@[simp] theorem elemH_str {m : Str} : elemH (.str m) = .val (.str m) := rfl
@[simp] theorem elemH_tup {m : List D} : elemH (.tup m) = .val (.tup m) := rfl
@[simp] theorem elemH_lst {m : List D} : elemH (.lst m) = .val (.lst m) := rfl
@[simp] theorem elemH_non : elemH .non = .val .non := rfl
@[simp] theorem deref_newB {xs : List (List D)} {ds : Nat} : deref J (.newB xs ds) = none := rfl
@[simp] theorem toVal_newB {xs : List (List D)} {ds : Nat} : toVal (.newB xs ds) = none := rfl
@[simp] theorem norm_newB {xs : List (List D)} {ds : Nat} : norm (.newB xs ds) = .newB xs ds := rfl
@[simp] theorem outH_newB {m k : Nat} {cs : List (List D)} : outH m J (.newB cs k) = .ok (.newB (J.drop m ++ cs) k) (J.take m) := rfl
@[simp] theorem Ex_ixJ : Ex X (eIxJ i g env J) Q ↔ jarQ env[i]? fun k => Ex X (g env J) fun h J => intQ h fun j => OpQ J[k]? fun ds => OpQ (atI ds j) fun d => Q (elemH d) J := by
  unfold eIxJ
  cases e : env[i]? with
  | none => simp only [Ex_eq]; exact Iff.rfl
  | some o =>
    cases o with
    | none => simp only [Ex_eq]; exact Iff.rfl
    | some z =>
      cases z with
      | val d => simp only [Ex_eq]; exact Iff.rfl
      | new d => simp only [Ex_eq]; exact Iff.rfl
      | newB _ _ => simp only [Ex_eq]; exact Iff.rfl
      | exc k => simp only [Ex_eq]; exact Iff.rfl
      | jar k =>
        show Ex X ((g env J).bind _) Q ↔ _
        rw [Ex_bind]
        refine Ex_iff fun h J => ?_
        cases h with
        | val d =>
          cases d with
          | int j =>
            show Ex X (ixJEnd J k j) Q ↔ _
            unfold ixJEnd
            cases J[k]? with
            | none => simp only [Ex_eq]; exact Iff.rfl
            | some ds =>
              dsimp only
              show _ ↔ OpQ (atI ds j) fun d => Q (elemH d) J
              cases atI ds j with
              | none => simp only [Ex_eq]; exact Iff.rfl
              | some d => simp only [Ex_eq]; exact Iff.rfl
          | _ => first | exact Iff.rfl | (simp only [Ex_eq]; exact Iff.rfl)
        | _ => simp only [Ex_eq]; exact Iff.rfl
@[simp] theorem Sx_newB : Sx P (sNewB i f n env J) ↔ Ex (fun c fs J => P.er c fs env J) (f env J) fun h J => newBQ h fun cs m => n ≤ J.length ∧ P.nx (env.set i (some (.jar m))) (J ++ cs) := by
  unfold sNewB
  rw [Sx_on]
  refine Ex_iff fun x J => ?_
  cases x with
  | newB a b => exact Sx_ite
  | _ => first | exact Iff.rfl | (simp only [Ex_eq, Sx_eq]; exact Iff.rfl)
@[simp] theorem Ex_lstB : Ex X (eLstB f fs env J) Q ↔ Ex X (f env J) fun h J => newQ h fun xs => Ex X (eItems fs env J) fun ds J => ds.length + 1 ≤ big ∧ Q (.newB [xs, .lnk J.length :: ds] (J.length + 1)) J := by
  unfold eLstB
  rw [Ex_bind]
  refine Ex_iff fun x J => ?_
  cases x with
  | new xs =>
    show Ex X ((eItems fs env J).bind _) Q ↔ _
    rw [Ex_bind]
    exact Ex_iff fun y J => Ex_ite
  | _ => simp only [Ex_eq]; exact Iff.rfl
@[simp] theorem Ex_popX {i : Nat} {f : EF} {Q : HV → Jr → Prop} : Ex X (ePop i f env J) Q ↔ jarQ env[i]? fun k => Ex X (f env J) fun h J => intQ h fun j => Ex X (popEnd J k j) Q := by
  unfold ePop
  cases e : env[i]? with
  | none => simp only [Ex_eq]; exact Iff.rfl
  | some o =>
    cases o with
    | none => simp only [Ex_eq]; exact Iff.rfl
    | some z =>
      cases z with
      | val d => simp only [Ex_eq]; exact Iff.rfl
      | new d => simp only [Ex_eq]; exact Iff.rfl
      | newB _ _ => simp only [Ex_eq]; exact Iff.rfl
      | exc k => simp only [Ex_eq]; exact Iff.rfl
      | jar k =>
        show Ex X ((f env J).bind _) Q ↔ _
        rw [Ex_bind]
        refine Ex_iff fun h J => ?_
        cases h with
        | val d => cases d <;> first | exact Iff.rfl | (simp only [Ex_eq]; exact Iff.rfl)
        | jar k => simp only [Ex_eq]; exact Iff.rfl
        | exc k => simp only [Ex_eq]; exact Iff.rfl
        | newB _ _ => simp only [Ex_eq]; exact Iff.rfl
        | new k => simp only [Ex_eq]; exact Iff.rfl
/-- pop of a cell of data, the place within it -/
theorem popEnd_in {ds : List D} {j : Int} {k : Nat} (hJ : J[k]? = some ds) (h0 : 0 ≤ j) (h1 : j < ds.length) (hl : ds.length ≤ big) (hp : ds.all isP = true) : popEnd J k j = .ok (.val (ds[j.toNat]'(by omega))) (J.set k (ds.eraseIdx j.toNat)) := by
  have hi : j.toNat < ds.length := by omega
  have hb : ds.length ≤ 16777216 := hl
  unfold popEnd
  rw [hJ]
  dsimp only
  rw [if_pos ⟨by omega, by omega, hp⟩, seqIndex_of h0 h1]
  dsimp only
  rw [List.getElem?_eq_getElem hi]
end
end L2.Pz
set_option Elab.async false
set_option linter.all false
set_option maxRecDepth 100000
set_option maxHeartbeats 4000000
set_option autoImplicit false
namespace L2.Pz
open PySem PySem.Spec PyProof.Rows HT
/-! ### t[::-1] of a tuple -/
section
variable {prog : Program} {w : World} {A : Around} {E : Value → Shared → Prop} {s : Shared}
theorem sliceApplied_rev {sl : Addr} {vs : Value} {n : Nat} {Q : Int × Int × Nat → Shared → Prop} (hs : s.heap.IsSliceOf sl .none .none vs) (ps : IsPart vs (some (-1)))
    (h : Q ((n : Int) - 1, -1, n) s) : wpAny (model prog w) A (Builtin.Slice.sliceApplied (.ref sl) (pure (n : Int))) Q E s := by
  obtain ⟨os, hos, hcs, hds⟩ := id hs
  unfold Builtin.Slice.sliceApplied Builtin.Slice.sliceFields
  refine wpAny_bind (wpAny_bind (wpAny_field hos hds (x := .none) rfl (wpAny_bind (wpAny_field hos hds (x := .none) rfl (wpAny_bind (wpAny_field hos hds (x := vs) rfl (wpAny_pure ?_)))))))
  refine wpAny_bind (slicePart_ ps ?_)
  show wpAny _ _ (if ((-1 : Int) == 0) = true then _ else _) _ _ s
  rw [if_neg (by decide)]
  refine wpAny_bind (slicePart_ .none (wpAny_bind (slicePart_ .none (wpAny_bind (wpAny_pure ?_)))))
  show wpAny _ _ (pure ((n : Int) - 1, (-1 : Int), Builtin.Slice.slicePlaces ((n : Int) - 1) (-1) (-1))) _ _ s
  have e : Builtin.Slice.slicePlaces ((n : Int) - 1) (-1) (-1) = n := by
    unfold Builtin.Slice.slicePlaces
    have h1 : ¬ ((-1 : Int) > 0) := by omega
    simp only [h1, if_false, Int.neg_neg, Int.ediv_one]
    split <;> omega
  rw [e]
  exact wpAny_pure h
theorem pick_rev (xs : Array Value) : ((List.range xs.size).filterMap fun (m : Nat) => xs[(((xs.size : Int) - 1) + (m : Int) * (-1)).toNat]?).toArray = xs.toList.reverse.toArray := by
  congr 1
  apply List.ext_getElem?
  intro i
  have key : ∀ (l : List Nat), (∀ m ∈ l, m < xs.size) → l.filterMap (fun (m : Nat) => xs[(((xs.size : Int) - 1) + (m : Int) * (-1)).toNat]?) = l.map fun m => xs.toList.reverse.getD m .none := by
    intro l
    induction l with
    | nil => intro _; rfl
    | cons a l ih =>
      intro h
      have ha := h a (by simp)
      have e : (((xs.size : Int) - 1) + (a : Int) * (-1)).toNat = xs.size - 1 - a := by omega
      have e2 : xs[(((xs.size : Int) - 1) + (a : Int) * (-1)).toNat]? = some (xs.toList.reverse.getD a .none) := by
        rw [e]
        have h3 : xs.size - 1 - a < xs.size := by omega
        rw [Array.getElem?_eq_getElem h3, List.getD_eq_getElem?_getD, List.getElem?_reverse (by simpa using ha), Array.length_toList, Array.getElem?_toList, Array.getElem?_eq_getElem h3]
        rfl
      rw [List.filterMap_cons_some (f := fun (m : Nat) => xs[(((xs.size : Int) - 1) + (m : Int) * (-1)).toNat]?) e2, List.map_cons, ih fun m hm => h m (by simp [hm])]
  rw [key _ fun m hm => List.mem_range.mp hm]
  by_cases hi : i < xs.size
  · rw [List.getElem?_map, List.getElem?_range hi]
    show some (xs.toList.reverse.getD i .none) = _
    rw [List.getD_eq_getElem?_getD, List.getElem?_eq_getElem (by simpa using hi)]
    rfl
  · rw [List.getElem?_eq_none (by simpa using hi), List.getElem?_eq_none (by simpa using hi)]
theorem getItem_tuple_rev {t sl : Addr} {items : Array Value} {vs : Value} {Q : Value → Shared → Prop} (ht : IsTup s.heap t items) (hs : s.heap.IsSliceOf sl .none .none vs) (ps : IsPart vs (some (-1)))
    (h : Q (.ref s.heap.objs.size) { s with heap := s.heap.push { cls := .type "tuple", data := .seq items.toList.reverse.toArray } })
    (hsz : items.size ≤ sizeLine) : wpAny (model prog w) A (getItem (.ref t) (.ref sl)) Q E s := by
  have htake : sizeOk (.seq items.toList.reverse.toArray) := by
    show items.toList.reverse.toArray.size ≤ sizeLine
    rw [List.size_toArray, List.length_reverse, Array.length_toList]
    exact hsz
  obtain ⟨os, hos, hcs, hds⟩ := id hs
  have hTs : s.TypeIs (.ref sl) "slice" := ⟨os, hos, hcs⟩
  unfold getItem
  try with_reducible refine wpAny_holding ?_
  first | refine wpAny_bind (wpAny_pure ?_) | skip
  refine wpAny_bind (wpAny_sequenceKey ht.typeIs (by decide) ?_)
  refine wpAny_bind (wpAny_callSpecial?_slot (name := Str.ofString "__getitem__") ht.typeIs PyProof.Rows.slot_tuple_getitem
    (wpAny_call_entry PyProof.Rows.slot_tuple_getitem ht.typeIs entry_tuple_getitem ?_ (args_tuple_getitem _ _)))
  show wpAny _ _ (Builtin.Tuple.tupleItemsOf (.ref t) >>= _) _ _ s
  refine wpAny_bind (tupleItemsOf_ ht ?_)
  refine wpAny_bind (wpAny_typeOf hTs ?_)
  rw [if_pos (by decide)]
  refine wpAny_bind (sliceApplied_rev hs ps ?_)
  have hno : ¬ ((((items.size : Int) - 1) == 0 && (-1 : Int) == 1 && items.size == items.size) = true) := by
    intro q
    rw [Bool.and_eq_true, Bool.and_eq_true] at q
    exact absurd q.1.2 (by decide)
  show wpAny _ _ (if (((items.size : Int) - 1) == 0 && (-1 : Int) == 1 && items.size == items.size) = true then _ else _) _ _ s
  rw [if_neg hno, pick_rev]
  first
    | exact wpAny_bind (m := Builtin.Tuple.tupleExact _) (wpAny_newObj_type (wpAny_pure ⟨_, rfl, wpAny_pure h⟩) htake)
    | exact wpAny_bind (m := Builtin.Tuple.tupleExact _) (wpAny_newObj_type (wpAny_bind (wpAny_pure (wpAny_pure ⟨_, rfl, wpAny_pure h⟩))) htake)
    | exact wpAny_bind (wpAny_bind (m := Builtin.Tuple.tupleExact _) (wpAny_newObj_type (wpAny_pure (wpAny_pure ⟨_, rfl, wpAny_pure h⟩)) htake))
    | exact wpAny_bind (wpAny_bind (m := Builtin.Tuple.tupleExact _) (wpAny_newObj_type (wpAny_pure ⟨_, rfl, wpAny_pure h⟩) htake))
end
/-- x[::-1], x a list or a tuple -/
def tRevA (K : PySem.W.Frag) (te : TE) : TE := fun σ H Q => te σ H fun x H1 => ∃ a xs, x = .ref a ∧ ((SqL K H1 a xs ∧ ∀ p, H1 p = none → Q (.ref p) (upd H1 p (.lst xs.reverse))) ∨ (SqT K H1 a xs ∧ ∀ p, H1 p = none → Q (.ref p) (upd H1 p (.tup xs.reverse))))
theorem pe_revA {X : Cx} {e : Expr} {te : TE} {k : Nat} {p1 p2 p3 pos : Pos} (he : PE X e te) : PE X (.Subscript e (.Slice none none (some (.UnaryOp .USub (.Constant (.int 1) k p1) p2)) p3) pos) (tRevA X.K te) := by
  refine ⟨fun pins s σ H Q I h => ?_⟩
  refine Subscript_ (thn (he.run pins s σ H _ I h) fun v s1 ⟨x, H1, I1, r1, q1⟩ => ?_)
  obtain ⟨a, xs, ex, hq⟩ := q1
  subst ex
  cases r1
  have hst : PO X (some (.UnaryOp .USub (.Constant (.int 1) k p1) p2)) (tPart (tUn (rU fun i => .int (-i)) (tC (.int 1)))) := po_some (pe_un un_neg pe_int)
  refine wpAny_Slice (thn (po_none.run pins s1 σ H1 (fun o H2 => o = none ∧ H2 = H1) I1 ⟨rfl, rfl⟩) fun vl s2 ⟨l, H2, I2, pl, el, e2⟩ => ?_)
  subst el e2
  refine thn (po_none.run pins s2 σ H2 (fun o H3 => o = none ∧ H3 = H2) I2 ⟨rfl, rfl⟩) fun vu s3 ⟨u, H3, I3, pu, eu, e3⟩ => ?_
  subst eu e3
  refine thn (hst.run pins s3 σ H3 (fun o H4 => o = some (-1) ∧ H4 = H3) I3 ⟨1, rfl, -1, rfl, rfl, rfl⟩) fun vs s4 ⟨o, H4, I4, ps, eo, e4⟩ => ?_
  subst eo e4
  have I5 : Inv X pins σ H4 { s4 with heap := s4.heap.push { cls := .type "slice", data := .fields #[vl, vu, vs] } } := I4.kept (t' := s4.toks) fun b ob q => Heap.get?_push_of_some _ q
  show wpAny (model X.prog X.w) X.A (subscriptTail e (.Slice none none (some (.UnaryOp .USub (.Constant (.int 1) k p1) p2)) p3) (.ref a) (.ref s4.heap.objs.size)) (EP X pins σ Q) X.xe { s4 with heap := s4.heap.push { cls := .type "slice", data := .fields #[vl, vu, vs] } }
  rcases hq with ⟨hx, q⟩ | ⟨hx, q⟩
  · obtain ⟨its, r, ht, hz⟩ := I5.list hx
    have hlen := r.length
    refine tail_any (ops := [.ref a, .ref s4.heap.objs.size]) ht.isList.typeIs (PySem.slot_list_getitem.lookup) ?_ (by with_unfolding_all rfl)
    refine wpAny_getItem_list_slice ht.isList (Heap.IsSliceOf.new _ vl vu vs) pl pu ps (by decide) ?_ (by rw [List.size_toArray]; omega)
    rw [PySem.W.krv_pick]
    refine ⟨.ref _, _, I5.laid (t' := s4.toks) (o := .lst xs.reverse) (fun b ob q => Heap.get?_push_of_some _ q) (Nat.le_refl _) ?_, rfl, q _ (I5.hok.fresh (Nat.le_refl _))⟩
    exact ⟨by rw [List.length_reverse]; exact hz, _, 0, r.reverse, Heap.get?_push_size _ rfl⟩
  · obtain ⟨its, r, ht, hz⟩ := I5.tuple hx
    have hlen := r.length
    cases pl
    cases pu
    refine tail_any (ops := [.ref a, .ref s4.heap.objs.size]) ht.typeIs PyProof.Rows.slot_tuple_getitem.lookup ?_ (by with_unfolding_all rfl)
    refine getItem_tuple_rev ht (Heap.IsSliceOf.new _ .none .none vs) ps ?_ (by rw [List.size_toArray]; omega)
    refine ⟨.ref _, _, I5.laid (t' := s4.toks) (o := .tup xs.reverse) (fun b ob q => Heap.get?_push_of_some _ q) (Nat.le_refl _) ?_, rfl, q _ (I5.hok.fresh (Nat.le_refl _))⟩
    exact ⟨by rw [List.length_reverse]; exact hz, _, r.reverse, IsTup.new _ _⟩
def dRev : F1
  | .lst ds => some (.new ds.reverse)
  | .tup ds => some (.val (.tup ds.reverse))
  | _ => none
theorem reps_rev {K : PySem.W.Frag} {H : Hp} {Y : Addr → Prop} : ∀ {ds : List D} {vs : List V}, Reps K H Y ds vs → Reps K H Y ds.reverse vs.reverse
  | [], vs, h => by rw [reps_nil.mp h]; exact reps_nil.mpr rfl
  | d :: ds, vs, h => by
    obtain ⟨v, r, rfl, h1, h2⟩ := reps_cons.mp h
    rw [List.reverse_cons, List.reverse_cons]
    exact reps_append (reps_rev h2) (reps_cons.mpr ⟨v, [], rfl, h1, reps_nil.mpr rfl⟩)
theorem sem_rev {K : PySem.W.Frag} : Sem1 K (fun x H1 Q => ∃ a xs, x = V.ref a ∧ ((SqL K H1 a xs ∧ ∀ p, H1 p = none → Q (.ref p) (upd H1 p (.lst xs.reverse))) ∨ (SqT K H1 a xs ∧ ∀ p, H1 p = none → Q (.ref p) (upd H1 p (.tup xs.reverse))))) dRev := by
  intro H Y x d z Q hl hx hz q
  unfold dRev at hz
  split at hz
  · obtain ⟨a, vs, rfl, s, r⟩ := hx
    cases hz
    exact ⟨a, vs, rfl, .inl ⟨s, fun p hp => q _ _ (po_newl hl hp (reps_rev r))⟩⟩
  · obtain ⟨a, vs, rfl, s, r⟩ := top_tup hx
    cases hz
    exact ⟨a, vs, rfl, .inr ⟨s, fun p hp => q _ _ (po_newt hl hp (reps_rev r))⟩⟩
  · cases hz
theorem pn_rev {X : Cx} {W : WX} {Z : List Zx} {e : Expr} {f : EF} {k : Nat} {p1 p2 p3 pos : Pos} (he : PE X e (tD X.K Z W f)) : PE X (.Subscript e (.Slice none none (some (.UnaryOp .USub (.Constant (.int 1) k p1) p2)) p3) pos) (tN X.K Z W (eUn dRev f)) :=
  pe_mono (pe_revA he) fun σ H Q w => un_read (ta := tD X.K Z W f) sem_rev (fun _ _ _ z => z) w
/-! ### a walk over a cell: it is read as it stands at each turn -/
def loopC (t : TF) (body : SF) (n0 k : Nat) : Nat → Nat → En → Jr → RS
  | 0, _, _, _ => .stuck
  | m + 1, j, env, J => match J[k]? with
    | none => .stuck
    | some ds => match ds[j]? with
      | none => .nx env J
      | some d => if isP d = true then (match t d env with
        | none => .stuck
        | some e1 => match body n0 e1 J with
          | .nx e2 J2 => loopC t body n0 k m (j + 1) e2 J2
          | .ct e2 J2 => loopC t body n0 k m (j + 1) e2 J2
          | .bk e2 J2 => .nx e2 J2
          | r => r) else .stuck
def startC (t : TF) (body : SF) (n k : Nat) (env : En) (J : Jr) : Option (List D) → RS
  | some ds => loopC t body n k (ds.length + 1) 0 env J
  | none => .stuck
def sForC (i : Nat) (t : TF) (body : SF) : SF := fun n env J => match env[i]? with
  | some (some (.jar k)) => startC t body n k env J J[k]?
  | _ => .stuck
theorem pre_get {js js' : List Addr} (h : js <+: js') {m : Nat} {b : Addr} (e : js[m]? = some b) : js'[m]? = some b := by
  obtain ⟨r, rfl⟩ := h
  rw [List.getElem?_append_left (List.getElem?_eq_some_iff.mp e).1]
  exact e
section
variable {X : Cx} {W : WX} {n0 : Nat} {a : SF} {iter tg : Expr} {pos : Pos} {ta : List Stmt} {g : TG} {t : TF} {Z : List Zx}
theorem s_forC {i : Nat} (hp : PassesOwn (model X.prog X.w) X.A X.env X.xe) (hc : X.calm = true) (hv : PE X iter (tVar i)) (hg : PG X tg g) (htg : TgOk X.K Z g t) (hb : PSs X ta (tS X.K Z W n0 a)) (hs : ∀ x, foldedSetIterable iter X.env x = pure x) :
    PS X (.For tg iter ta [] pos) (tS X.K Z W n0 (sForC i t a)) := ps_mono (ps_for hp hc (pi_anyT hv) hg hb hs) fun D σ H ⟨Xo, js, env, J, F, p⟩ => by
  unfold sForC at p
  cases hs : env[i]? with
  | none => rw [hs] at p; exact p.elim
  | some o =>
    cases o with
    | none => rw [hs] at p; exact p.elim
    | some z =>
      cases z with
      | val d => rw [hs] at p; exact p.elim
      | new d => rw [hs] at p; exact p.elim
      | exc k => rw [hs] at p; exact p.elim
      | newB _ _ => rw [hs] at p; exact p.elim
      | jar k =>
        rw [hs] at p
        obtain ⟨v, hv', a', ha, rfl⟩ := F.slot i _ hs
        obtain ⟨ds, vs, hJ, hl, rs⟩ := F.at ha
        refine ⟨_, hv', .inl ⟨a', rfl, ⟨vs, SqL.of hl⟩, ?_⟩⟩
        have p : PostS X.K Z W n0 Xo js H D (startC t a n0 k env J J[k]?) := p
        rw [hJ] at p
        refine ⟨fun j m σ3 H3 => ∃ js3 env3 J3, Fit X.K Z Xo js3 H3 σ3 env3 J3 ∧ Stp n0 js js3 H H3 ∧ PostS X.K Z W n0 Xo js3 H3 D (loopC t a n0 k m j env3 J3), ⟨_, js, env, J, F, .refl, p⟩, ?_⟩
        rintro j m σ3 H3 ⟨js3, env3, J3, F3, s3, p3⟩
        have ha3 := pre_get s3.pre ha
        obtain ⟨ds3, vs3, hJ3, hl3, rs3⟩ := F3.at ha3
        cases m with
        | zero => exact p3.elim
        | succ m =>
          unfold loopC at p3
          rw [hJ3] at p3
          dsimp only at p3
          cases hd : ds3[j]? with
          | none =>
            rw [hd] at p3
            refine .inl ⟨⟨vs3, SqL.of hl3, ?_⟩, p3 σ3 H3 js3 .refl F3⟩
            rw [repsC_len rs3]
            exact List.getElem?_eq_none_iff.mp hd
          | some d =>
            rw [hd] at p3
            dsimp only at p3
            by_cases hpl : isP d = true
            case neg => rw [if_neg hpl] at p3; exact p3.elim
            rw [if_pos hpl] at p3
            obtain ⟨x, hx, rx⟩ := repsC_get rs3 hd
            refine .inr ⟨⟨vs3, x, SqL.of hl3, hx⟩, fun σ' H' => ∃ js4 env4 J4, Fit X.K Z Xo js4 H' σ' env4 J4 ∧ Stp n0 js js4 H H' ∧ PostS X.K Z W n0 Xo js4 H' D (loopC t a n0 k m (j + 1) env4 J4), fun σ' H' h => ⟨m, Nat.lt_succ_self _, h⟩, ?_⟩
            rintro y H4 ⟨rfl, hy⟩
            have ey := hy vs3 (SqL.of hl3)
            rw [hx] at ey
            cases ey
            cases ht : t d env3 with
            | none => rw [ht] at p3; exact p3.elim
            | some env4 =>
              rw [ht] at p3
              refine htg _ _ _ _ _ _ _ _ _ _ F3 (repE_rep rx hpl) ht fun σ5 F5 => ?_
              refine ⟨Xo, js3, env4, J3, F5, ?_⟩
              dsimp only at p3
              cases hr : a n0 env4 J3 with
              | nx e2 J2 =>
                rw [hr] at p3
                exact fun σ' H' js' s F' => ⟨js', e2, J2, F', s3.trans s, PostS.later s p3⟩
              | ct e2 J2 =>
                rw [hr] at p3
                exact fun σ' H' js' s F' => ⟨js', e2, J2, F', s3.trans s, PostS.later s p3⟩
              | bk e2 J2 =>
                rw [hr] at p3
                exact fun σ' H' js' s F' => p3 σ' H' js' s F'
              | rt h J2 => rw [hr] at p3; exact p3
              | err c fs e2 J2 => rw [hr] at p3; exact p3
              | stuck => rw [hr] at p3; exact p3.elim
/-! comprehensions over a cell -/
def lcLoopC (t : TF) (c : BF) (f : EF) (env : En) (k : Nat) : Nat → Nat → List D → Jr → R HV
  | 0, _, _, _ => .stuck
  | m + 1, j, acc, J => match J[k]? with
    | none => .stuck
    | some ds => match ds[j]? with
      | none => .ok (.new acc) J
      | some d => if isP d = true then (match t d env with
        | none => .stuck
        | some env1 => (c env1 J).bind fun b J1 => if b = true then (f env1 J1).bind fun h J2 => match toVal h with
            | some y => if acc.length < big then lcLoopC t c f env k m (j + 1) (acc ++ [y]) J2 else .stuck
            | none => .stuck
          else lcLoopC t c f env k m (j + 1) acc J1) else .stuck
def lcStartC (t : TF) (c : BF) (f : EF) (env : En) (k : Nat) (J : Jr) : Option (List D) → R HV
  | some ds => noErr (lcLoopC t c f env k (ds.length + 1) 0 [] J)
  | none => .stuck
def eLcC (i : Nat) (t : TF) (c : BF) (f : EF) (own : List Nat) : EF := fun env J => match env[i]? with
  | some (some (.jar k)) => lcStartC t c f (wipeE env own) k J J[k]?
  | _ => .stuck
variable {c : BF} {f : EF} {own : List (Str × Nat)}
theorem lc_readC {i : Nat} (htg : TgOk X.K Z g t) (hin : TgIn g (own.map (·.2))) {σ : L2.St} {H : Hp} {Q : VK} (w : tN X.K Z W (eLcC i t c f (own.map (·.2))) σ H Q) : tLc (iAnyT X.K (tVar i)) g (tT X.K Z W0 c) (tD X.K Z W0 f) (own.map (·.2)) σ H Q := by
  obtain ⟨Xo, js, env, J, F, p⟩ := w
  unfold eLcC at p
  cases hs : env[i]? with
  | none => rw [hs] at p; exact p.elim
  | some o =>
    cases o with
    | none => rw [hs] at p; exact p.elim
    | some z =>
      cases z with
      | val d => rw [hs] at p; exact p.elim
      | new d => rw [hs] at p; exact p.elim
      | exc k => rw [hs] at p; exact p.elim
      | newB _ _ => rw [hs] at p; exact p.elim
      | jar k =>
        rw [hs] at p
        obtain ⟨v, hv', a', ha, rfl⟩ := F.slot i _ hs
        obtain ⟨ds, vs, hJ, hl, rs⟩ := F.at ha
        refine ⟨_, hv', .inl ⟨a', rfl, ⟨vs, SqL.of hl⟩, fun D hD => ?_⟩⟩
        have p : PostN X.K Z W Xo js H σ env Q (lcStartC t c f (wipeE env (own.map (·.2))) k J J[k]?) := p
        rw [hJ] at p
        have p : PostN X.K Z W Xo js H σ env Q (noErr (lcLoopC t c f (wipeE env (own.map (·.2))) k (ds.length + 1) 0 [] J)) := p
        have F2 : Fit X.K Z (With Xo D) js (upd H D (.lst [])) σ env J := F.lock (same_upd hD) hD upd_same
        have hDj : D ∉ js := fun z => F2.jx D z (.inr rfl)
        refine ⟨fun i m H3 => ∃ acc vs J3, H3 D = some (.lst vs) ∧ Fit X.K Z (With Xo D) js H3 σ env J3 ∧ Reps X.K H3 (Yf (With Xo D) js) acc vs ∧
          PostN X.K Z W Xo js H σ env Q (noErr (lcLoopC t c f (wipeE env (own.map (·.2))) k m i acc J3)) ∧ Ext js H H3, ⟨_, [], [], J, upd_same, F2, reps_nil.mpr rfl, p, .of (same_upd hD)⟩, ?_⟩
        rintro j m H4 ⟨acc, vs, J3, h1, h2, h3, h5, h6⟩
        cases m with
        | zero => exact h5.elim
        | succ m =>
        obtain ⟨ds3, vs3, hJ3, hl3, rs3⟩ := h2.at ha
        unfold lcLoopC at h5
        rw [hJ3] at h5
        dsimp only at h5
        cases hd : ds3[j]? with
        | none =>
          rw [hd] at h5
          refine .inl ⟨⟨vs3, SqL.of hl3, ?_⟩, h5 (.ref D) H4 h6 ⟨D, vs, rfl, hD, h1, h2, h3⟩⟩
          rw [repsC_len rs3]
          exact List.getElem?_eq_none_iff.mp hd
        | some d =>
        rw [hd] at h5
        dsimp only at h5
        by_cases hpl : isP d = true
        case neg => rw [if_neg hpl] at h5; exact h5.elim
        rw [if_pos hpl] at h5
        obtain ⟨x, hx, rx⟩ := repsC_get rs3 hd
        refine .inr ⟨⟨vs3, x, SqL.of hl3, hx⟩, fun H' => ∃ acc vs J3, H' D = some (.lst vs) ∧ Fit X.K Z (With Xo D) js H' σ env J3 ∧ Reps X.K H' (Yf (With Xo D) js) acc vs ∧
          PostN X.K Z W Xo js H σ env Q (noErr (lcLoopC t c f (wipeE env (own.map (·.2))) k m (j + 1) acc J3)) ∧ Ext js H H', fun H' h => ⟨m, Nat.lt_succ_self _, h⟩, ?_⟩
        rintro y0 H5 ⟨rfl, hy⟩
        have ey := hy vs3 (SqL.of hl3)
        rw [hx] at ey
        cases ey
        cases ht : t d (wipeE env (own.map (·.2))) with
        | none => rw [ht] at h5; exact h5.elim
        | some env1 =>
          rw [ht] at h5
          have h5 : PostN X.K Z W Xo js H σ env Q (noErr ((c env1 J3).bind fun b J1 => if b = true then (f env1 J1).bind fun h J2 => match toVal h with
              | some y => if acc.length < big then lcLoopC t c f (wipeE env (own.map (·.2))) k m (j + 1) (acc ++ [y]) J2 else .stuck
              | none => .stuck
            else lcLoopC t c f (wipeE env (own.map (·.2))) k m (j + 1) acc J1)) := h5
          refine hin _ _ _ _ (htg _ _ _ _ _ _ _ _ _ _ (h2.wipe (own.map (·.2))) (repE_rep rx hpl) ht fun σ2 F5 => ?_)
          refine ⟨With Xo D, js, env1, J3, F5, ?_⟩
          cases hc : c env1 J3 with
          | stuck => rw [hc] at h5; exact h5.elim
          | err cc fs J5 => rw [hc] at h5; exact h5.elim
          | ok b J5 =>
            rw [hc] at h5
            intro H5 e5 F6
            have r4 := h3
            cases b with
            | false =>
              refine iteF ⟨acc, vs, J5, e5 _ _ h1 hDj, ?_, r4.ext F5 e5, h5, h6.trans e5⟩
              exact h2.renew e5 (fun _ h => .inl h) F6.bare
            | true =>
              refine iteT ⟨With Xo D, js, env1, J5, F6, ?_⟩
              have h5 : PostN X.K Z W Xo js H σ env Q (noErr ((f env1 J5).bind fun h J2 => match toVal h with
                | some y => if acc.length < big then lcLoopC t c f (wipeE env (own.map (·.2))) k m (j + 1) (acc ++ [y]) J2 else .stuck
                | none => .stuck)) := h5
              cases hf : f env1 J5 with
              | stuck => rw [hf] at h5; exact h5.elim
              | err cc fs J6 => rw [hf] at h5; exact h5.elim
              | ok h J6 =>
                rw [hf] at h5
                intro y H6 e6 F7 x7
                have h5 : PostN X.K Z W Xo js H σ env Q (noErr (match toVal h with
                  | some y => if acc.length < big then lcLoopC t c f (wipeE env (own.map (·.2))) k m (j + 1) (acc ++ [y]) J6 else .stuck
                  | none => .stuck)) := h5
                cases hv : toVal h with
                | none => rw [hv] at h5; exact h5.elim
                | some dy =>
                  rw [hv] at h5
                  have h5 : PostN X.K Z W Xo js H σ env Q (noErr (if acc.length < big then lcLoopC t c f (wipeE env (own.map (·.2))) k m (j + 1) (acc ++ [dy]) J6 else .stuck)) := h5
                  by_cases hb : acc.length < big
                  · rw [if_pos hb] at h5
                    have ry := val_rep x7 hv
                    have e46 : Ext js _ H6 := e5.trans e6
                    have hD6 : H6 D = some (.lst vs) := e46 _ _ h1 hDj
                    have r6 : Reps X.K H6 (Yf (With Xo D) js) acc vs := r4.ext F5 e46
                    have F8 : Fit X.K Z (With Xo D) js H6 σ env J6 := h2.renew e46 (fun _ h => .inl h) F7.bare
                    have up : ∀ a o, H6 a = some o → ¬ Yf (With Xo D) js a → upd H6 D (.lst (vs ++ [y])) a = some o := fun a o q n => by
                      rw [upd_ne fun z => n (.inl (.inr z))]; exact q
                    have ls : Lists (upd H6 D (.lst (vs ++ [y]))) (With Xo D) := fun a z => by
                      by_cases ha : a = D
                      · exact ⟨_, by rw [ha]; exact upd_same⟩
                      · rw [upd_ne ha]; exact F8.out a z
                    refine ⟨vs, hD6, by rw [big_eq, reps_len r6]; exact hb, acc ++ [dy], vs ++ [y], J6, upd_same, ?_, ?_, h5, ?_⟩
                    · refine ⟨ls, F8.nd, F8.jx, F8.len, F8.slen, fun k a ds' q1 q2 => ?_, fun k h' q => ?_, fun z hz => (F8.ez z hz).move up (fun _ y => .inl y) F8.lists⟩
                      · obtain ⟨us, u1, u2⟩ := F8.jar k a ds' q1 q2
                        have ha : a ≠ D := fun z => hDj (z ▸ List.mem_of_getElem? q1)
                        exact ⟨us, by rw [upd_ne ha]; exact u1, repsC_move up (fun _ y => .inl y) F8.lists _ _ u2⟩
                      · obtain ⟨u, u1, u2⟩ := F8.slot k h' q
                        exact ⟨u, u1, u2.move up (fun _ y => .inl y) F8.lists⟩
                    · exact reps_append (reps_move up (fun _ y => .inl y) F8.lists _ _ r6) (reps_cons.mpr ⟨y, [], rfl, rep_move up (fun _ y => .inl y) F8.lists _ _ ry, reps_nil.mpr rfl⟩)
                    · refine fun a o q n => ?_
                      have q3 := h6 a o q n
                      have ha : a ≠ D := fun z => by rw [z, hD] at q; cases q
                      rw [upd_ne ha]
                      exact e46 _ _ q3 n
                  · rw [if_neg hb] at h5; exact h5.elim
end
end L2.Pz
set_option Elab.async false
set_option linter.all false
set_option maxRecDepth 100000
set_option maxHeartbeats 4000000
set_option autoImplicit false
namespace L2.Pz
open PySem PySem.Spec PyProof.Rows
/-! ### reversed(x), x a list or a tuple -/
section
variable {K : PySem.W.Frag} {H : Hp} {Y : Addr → Prop}
theorem walk_revT {a : Addr} {xs : List V} : Walk (RT.ItvT K a xs.length) xs.length (fun H => SqT K H a xs) (fun i H x H' => H' = H ∧ xs[xs.length - 1 - i]? = some x) :=
  ⟨fun i _ hi q => ⟨hi, xs, xs[xs.length - 1 - i]'(by omega), q, by simp [show xs.length - 1 - i < xs.length by omega]⟩, fun _ _ => Nat.le_refl _, fun _ _ _ _ _ q y => ⟨y.1, y.2 xs q⟩⟩
theorem rev_at {ds : List D} {vs : List V} (r : Reps K H Y ds vs) {i : Nat} {x : V} (hi : i < ds.length) (e : vs[vs.length - 1 - i]? = some x) : ∃ d, ds.reverse[i]? = some d ∧ Rep K H Y d x := by
  rw [reps_len r] at e
  obtain ⟨d, h1, h2⟩ := reps_at r e
  exact ⟨d, by rw [List.getElem?_reverse hi]; exact h1, h2⟩
theorem walkD_revL {a : Addr} {vs : List V} {ds : List D} (hl : Lists H Y) (s : LsY K H Y a vs) (r : Reps K H Y ds vs) : WalkD K Y H (Itv K a vs.length) ds.reverse := by
  have w := walk_rev (K := K) (a := a) (xs := vs)
  have e : vs.length = ds.reverse.length := by rw [List.length_reverse, reps_len r]
  have e2 : ds.length = vs.length := (reps_len r).symm
  refine ⟨(fun H => SqL K H a vs), (fun i H x H' => H' = H ∧ vs[vs.length - 1 - i]? = some x), e ▸ w, fun H1 k => (lsY_move (Y' := Y) k (fun _ y => .inl y) s).sq, fun Y' hY i H1 x H' hi k _ y => ?_⟩
  obtain ⟨e, y⟩ := y
  subst e
  rw [List.length_reverse] at hi
  obtain ⟨d, h1, h2⟩ := rev_at r hi y
  exact ⟨Same.refl _, d, h1, rep_move k hY hl _ _ h2⟩
theorem walkD_revT {a : Addr} {vs : List V} {ds : List D} (hl : Lists H Y) (s : SqT K H a vs) (r : Reps K H Y ds vs) : WalkD K Y H (RT.ItvT K a vs.length) ds.reverse := by
  have w := walk_revT (K := K) (a := a) (xs := vs)
  have e : vs.length = ds.reverse.length := by rw [List.length_reverse, reps_len r]
  refine ⟨(fun H => SqT K H a vs), (fun i H x H' => H' = H ∧ vs[vs.length - 1 - i]? = some x), e ▸ w, fun H1 k => sqT_move k hl s, fun Y' hY i H1 x H' hi k _ y => ?_⟩
  obtain ⟨e, y⟩ := y
  subst e
  rw [List.length_reverse] at hi
  obtain ⟨d, h1, h2⟩ := rev_at r hi y
  exact ⟨Same.refl _, d, h1, rep_move k hY hl _ _ h2⟩
end
def rvOf : HV → Option (List D)
  | .val (.lst ds) => some ds.reverse
  | .val (.tup ds) => some ds.reverse
  | .new ds => some ds.reverse
  | _ => none
def iRevA (f : EF) : IF := fun env J => (f env J).bind fun h J1 => match rvOf h with
  | some ds => .ok ds J1
  | none => .stuck
section
variable {X : Cx} {W : WX} {Z : List Zx} {tg e : Expr} {f : EF} {p pos : Pos}
theorem pw_revA (hg : Gl X "reversed") (hm : X.mg "reversed" = none) (he : PE X e (tD X.K Z W f)) (hs : starEach [e] X.env = (false, eval e X.env) :: starEach [] X.env) : PI X tg (.Call (.Name "reversed" p) [e] [] pos) (tW X.K Z W (iRevA f)) := pi_mono (RT.pi_revA hg hm he hs) fun σ H Q ⟨Xo, js, env, J, F, p⟩ => by
  refine ⟨Xo, js, env, J, F, ?_⟩
  unfold iRevA at p
  cases hf : f env J with
  | stuck => rw [hf] at p; exact p.elim
  | err c fs J1 => rw [hf] at p; exact p
  | ok h J1 =>
    rw [hf] at p
    intro x H1 e1 F1 x1
    have p : PostW X.K Z W Xo js H σ env Q (match rvOf h with
      | some ds => .ok ds J1
      | none => .stuck) := p
    have lst : ∀ ds, norm h = .val (.lst ds) → rvOf h = some ds.reverse → (∃ (a : Addr) (xs : List V), x = .ref a ∧ ((SqL X.K H1 a xs ∧ Q (Itv X.K a xs.length) H1) ∨ (SqT X.K H1 a xs ∧ Q (RT.ItvT X.K a xs.length) H1))) := fun ds hn hi => by
      rw [hi] at p
      rw [hn] at x1
      obtain ⟨a, vs, e, s, r⟩ := rep_lst (K := X.K) (H := H1) (Y := Yf Xo js).mp x1
      exact ⟨a, vs, e, .inl ⟨s.sq, p _ _ e1 F1 (walkD_revL F1.lists s r)⟩⟩
    cases h with
    | jar k => exact p.elim
    | exc k => exact p.elim
    | newB _ _ => exact p.elim
    | new ds => exact lst ds rfl rfl
    | val d =>
      cases d with
      | lst ds => exact lst ds rfl rfl
      | tup ds =>
        obtain ⟨a, vs, e, s, r⟩ := rep_tup (K := X.K) (H := H1) (Y := Yf Xo js).mp x1
        exact ⟨a, vs, e, .inr ⟨s, p _ _ e1 F1 (walkD_revT F1.lists s r)⟩⟩
      | _ => exact p.elim
/-- tuple(reversed(e)), e a list -/
def dTupRev : F1
  | .lst ds => some (.val (.tup ds.reverse))
  | _ => none
theorem sem_tupRev {K : PySem.W.Frag} : Sem1 K (fun v H1 Q => ∃ (a : Addr) (xs : List V), v = .ref a ∧ SqL K H1 a xs ∧ ∀ q, H1 q = none → Q (.ref q) (upd H1 q (.tup xs.reverse))) dTupRev := by
  intro H Y x d z Q hl hx hz q
  unfold dTupRev at hz
  split at hz
  · obtain ⟨a, vs, rfl, s, r⟩ := hx
    cases hz
    exact ⟨a, vs, rfl, s, fun p hp => q _ _ (po_newt hl hp (reps_rev r))⟩
  · cases hz
theorem pn_tupRev {p2 pos2 : Pos} (hc : X.calm = true) (hg : Gl X "tuple") (hm : X.mg "tuple" = none) (hg2 : Gl X "reversed") (hm2 : X.mg "reversed" = none) (he : PE X e (tD X.K Z W f))
    (hs : starEach [e] X.env = (false, eval e X.env) :: starEach [] X.env)
    (hs2 : starEach [.Call (.Name "reversed" p2) [e] [] pos2] X.env = (false, eval (.Call (.Name "reversed" p2) [e] [] pos2) X.env) :: starEach [] X.env) :
    PE X (.Call (.Name "tuple" p) [.Call (.Name "reversed" p2) [e] [] pos2] [] pos) (tN X.K Z W (eUn dTupRev f)) :=
  pe_mono (RT.pe_tupRev hc hg hm hg2 hm2 he hs hs2) fun σ H Q w => un_read (ta := tD X.K Z W f) sem_tupRev (fun _ _ _ z => z) w
end
/-! ### comprehensions over a cell -/
section
variable {X : Cx} {tg iter elt : Expr} {ifs : List Expr} {scope : Scope} {own : List (Str × Nat)} {pos : Pos} {g : TG} {t : TF} {c : BF} {f : EF} {W : WX} {Z : List Zx} {n0 : Nat}
theorem pn_lcC {i : Nat} (hc : X.calm = true) (hN : X.N.Nodup) (hv : PE X iter (tVar i)) (ok : BlkOk X.N X.env.scope scope own)
    (hg : ∀ (s : Shared) (H : Hp) (C : Addr) (cl : List (Str × Addr)) (fp : List Addr), PG (X.blk s H scope (compEnvC scope cl C X.env) fp) tg g) (ht : ∀ (s : Shared) (H : Hp) (C : Addr) (cl : List (Str × Addr)) (fp : List Addr), PTs (X.blk s H scope (compEnvC scope cl C X.env) fp) ifs (tT X.K Z W0 c))
    (he : ∀ (s : Shared) (H : Hp) (C : Addr) (cl : List (Str × Addr)) (fp : List Addr), PE (X.blk s H scope (compEnvC scope cl C X.env) fp) elt (tD X.K Z W0 f)) (htg : TgOk X.K Z g t) (hin : TgIn g (own.map (·.2))) (hs : ∀ x, foldedSetIterable iter X.env x = pure x) :
    PE X (.ListComp elt [⟨tg, iter, ifs, 0⟩] scope pos) (tN X.K Z W (eLcC i t c f (own.map (·.2)))) :=
  pe_mono (pe_lc hc hN (pi_anyT hv) ok hg ht he hs) fun σ H Q w => lc_readC htg hin w
theorem s_setLcC {i k : Nat} {py spos : Pos} {y : Str} (htg : TgOk X.K Z g t) (hin : TgIn g (own.map (·.2)))
    (h : PS X (.Assign [.Name y py] (.ListComp elt [⟨tg, iter, ifs, 0⟩] scope pos) spos) (tAsg (tLc (iAnyT X.K (tVar k)) g (tT X.K Z W0 c) (tD X.K Z W0 f) (own.map (·.2))) (gName i))) :
    PS X (.Assign [.Name y py] (.ListComp elt [⟨tg, iter, ifs, 0⟩] scope pos) spos) (tS X.K Z W n0 (sSet i (eLcC k t c f (own.map (·.2))))) := ps_mono h fun D σ H w => lc_readC htg hin (set_read w)
theorem s_newLcC {i k : Nat} {py spos : Pos} {y : Str} (htg : TgOk X.K Z g t) (hin : TgIn g (own.map (·.2)))
    (h : PS X (.Assign [.Name y py] (.ListComp elt [⟨tg, iter, ifs, 0⟩] scope pos) spos) (tAsg (tLc (iAnyT X.K (tVar k)) g (tT X.K Z W0 c) (tD X.K Z W0 f) (own.map (·.2))) (gName i))) :
    PS X (.Assign [.Name y py] (.ListComp elt [⟨tg, iter, ifs, 0⟩] scope pos) spos) (tS X.K Z W n0 (sNew i (eLcC k t c f (own.map (·.2))))) := ps_mono h fun D σ H w => lc_readC htg hin (new_read w)
end
/-! ### isinstance(e, c) of the held exception, c any class; of a tuple of classes -/
section
variable {X : Cx} {z : Zx} {W : WX} {M : Str → Str → Option Bool}
theorem pn_isEV {cv : V} {cu : Value} {i : Nat} {x y n : Str} {p p1 p2 pos : Pos} (B : Bears X z) (hk : KitOk X.K M cu y) (hr : ∀ u, RelV cv u → u = cu) (hg : Gl X x) (hm : X.mg x = none) (hv : bootBuiltins x = some (.builtin "isinstance"))
    (he : PE X (.Name n p1) (tVar i)) (hy : PE X (.Name y p2) (tC cv))
    (hn : x ≠ "__name__") (hdb : (x == ("__debug__" : Str)) = false) (h1 : starEach [.Name n p1, .Name y p2] X.env = (false, eval (.Name n p1) X.env) :: starEach [.Name y p2] X.env) (h2 : starEach [.Name y p2] X.env = (false, eval (.Name y p2) X.env) :: starEach [] X.env) (hpl : (backTo pos (starEach [.Name y p2] X.env)).any (·.1) = false) :
    PE X (.Call (.Name x p) [.Name n p1, .Name y p2] [] pos) (tN X.K [z] W (eIsE M i y z.c)) :=
  pe_mono (pe_callB (call_isD B) hg hm hv (pa_cons he (pa_cons hy pa_nil h2) h1) hn hdb h1 hpl) fun σ H Q ⟨Xo, js, env, J, F, p⟩ => by
    unfold eIsE at p
    cases hs : env[i]? with
    | none => rw [hs] at p; exact p.elim
    | some o =>
      cases o with
      | none => rw [hs] at p; exact p.elim
      | some h =>
        cases h with
        | val d => rw [hs] at p; exact p.elim
        | new d => rw [hs] at p; exact p.elim
        | jar k => rw [hs] at p; exact p.elim
        | newB _ _ => rw [hs] at p; exact p.elim
        | exc k =>
          cases k with
          | succ k => rw [hs] at p; exact p.elim
          | zero =>
            rw [hs] at p
            have p : PostN X.K [z] W Xo js H σ env Q (match M z.c y with | some b => .ok (.val (.bl b)) J | none => .stuck) := p
            cases hM : M z.c y with
            | none => rw [hM] at p; exact p.elim
            | some b =>
              rw [hM] at p
              obtain ⟨v, hv', z', hz', rfl⟩ := F.slot i _ hs
              have ez : z = z' := by simpa using hz'
              subst ez
              obtain ⟨C', c1, c2, dd, us, d1, d2, d3, d4⟩ := F.ez z List.mem_cons_self
              obtain ⟨E, k1⟩ := hk _ _ hM _ c1
              exact ⟨_, hv', C', _, _, b, dd, us, rfl, hr, c2, d1, d2, E, k1, p (.bl b) H .refl (out_bl F)⟩
/-- the same of several classes -/
def rIsDT (K : PySem.W.Frag) (z : Zx) : List V → Hp → VK → Prop := fun xs H Q => ∃ (C : Addr) (tp : Addr) (cs : List V) (ts : List Value) (b : Bool) (dd : Addr) (us : List (Str × V)), xs = [.ref z.a, .ref tp] ∧ H tp = some (.tup cs) ∧ Paired ClsV cs ts ∧ z.cls = .ref C ∧ z.od = some dd ∧ H dd = some (.xd us) ∧ ExcC K C ∧ PySem.W.kitAny K (.ref C) ts = some b ∧ Q (.bl b) H
theorem call_isDT (B : Bears X z) : CallR X (.builtin "isinstance") (rIsDT X.K z) := by
  intro pins s σ H xs us Q I r h
  obtain ⟨oe, hmem, hz, vs, hv⟩ := B.ex
  obtain ⟨C, tp, cs, ts, b, dd, us', rfl, hT, k, ec, ed, ea, E, e, q⟩ := h
  obtain ⟨u1, u2, rfl, r1, r2⟩ := vals2 r
  cases r1
  cases (show u2 = Value.ref tp from r2)
  obtain ⟨hget, _⟩ := I.pin (z.a, oe) (List.mem_append_left _ hmem)
  have hx : ObjOk X.prog X.w H s.heap dd (.xd us') := I.hok dd _ ea
  obtain ⟨mA, hns, hr⟩ := hx
  obtain ⟨od, ho, hl⟩ := lookIn_ns hns
  have J : PySem.W.InstAt s.heap z.a oe C (some od) := ⟨hget, by rw [hz.1, ec], by unfold PySem.W.notCls; rw [hv] <;> rfl, by rw [hz.2, ed]; exact ho⟩
  obtain ⟨_, its, rv, o, h1, h2, n, h3⟩ := (show ObjOk X.prog X.w H s.heap tp (.tup cs) from I.hok tp _ hT)
  have e3 := ClsV.all k rv
  subst e3
  obtain ⟨oc, od2, dt, sl⟩ := o
  simp only at h2 h3
  subst h2 h3
  exact PySem.W.kia_tup (PySem.W.kitx_pz E.hg E.hk E.hs E.hd E.ha E.hn E.ht E.hm) I.kIn J h1 e (fun z => nomatch z) fun tk => ⟨.bl b, H, I.kept (t' := tk) fun _ _ z => z, rfl, q⟩
/-- some of the classes ys -/
def anyM (M : Str → Str → Option Bool) (k : Str) : List Str → Option Bool
  | [] => some false
  | y :: ys => match M k y with
    | some true => (match anyM M k ys with | some _ => some true | none => none)
    | some false => anyM M k ys
    | none => none
def eIsET (M : Str → Str → Option Bool) (i : Nat) (ys : List Str) (k : Str) : EF := fun env J => match env[i]? with
  | some (some (.exc 0)) => (match anyM M k ys with | some b => .ok (.val (.bl b)) J | none => .stuck)
  | _ => .stuck
/-- the classes of a tuple, what is known of them -/
inductive KitsOk (K : PySem.W.Frag) (M : Str → Str → Option Bool) : List Str → List V → List Value → Prop
  | nil : KitsOk K M [] [] []
  | cons {y : Str} {c : V} {u : Value} {ys : List Str} {cs : List V} {us : List Value} : ClsV c u → KitOk K M u y → KitsOk K M ys cs us → KitsOk K M (y :: ys) (c :: cs) (u :: us)
theorem kits_paired {K : PySem.W.Frag} {ys : List Str} {cs : List V} {us : List Value} (h : KitsOk K M ys cs us) : Paired ClsV cs us := by
  induction h with
  | nil => exact .nil
  | cons a _ _ ih => exact .cons a ih
theorem kits_any {K : PySem.W.Frag} {ys : List Str} {cs : List V} {us : List Value} (h : KitsOk K M ys cs us) : ∀ {k : Str} {b : Bool} {C : Addr}, anyM M k ys = some b → PySem.W.nsIn K mainGlobals k = some (some (.ref C)) → PySem.W.kitAny K (.ref C) us = some b := by
  induction h with
  | nil => intro k b C e _; cases e; rfl
  | @cons y c u ys cs us a hk hr ih =>
    intro k b C e hC
    unfold anyM at e
    cases hM : M k y with
    | none => rw [hM] at e; cases e
    | some m =>
      rw [hM] at e
      obtain ⟨_, k1⟩ := hk _ _ hM _ hC
      cases m with
      | true =>
        dsimp only at e
        cases hA : anyM M k ys with
        | none => rw [hA] at e; cases e
        | some b' =>
          rw [hA] at e
          cases e
          exact kitAny_cons k1 (fun z => nomatch z) fun _ => rfl
      | false => exact kitAny_cons k1 (fun _ => ih e hC) fun z => nomatch z
theorem pn_isET {cs : List V} {us : List Value} {i : Nat} {x n : Str} {ys : List Str} {elts : List Expr} {ta : TA} {tk : Nat} {p p1 tpos pos : Pos} (B : Bears X z) (hk : KitsOk X.K M ys cs us) (h0 : ∃ y r, ys = y :: r) (hb : cs.length ≤ big) (hg : Gl X x) (hm : X.mg x = none) (hv : bootBuiltins x = some (.builtin "isinstance"))
    (he : PE X (.Name n p1) (tVar i)) (hy : PA X elts ta) (hta : ∀ (σ : L2.St) (H : Hp) (R : List V → Hp → Prop), R cs H → ta σ H R)
    (hn : x ≠ "__name__") (hdb : (x == ("__debug__" : Str)) = false) (h1 : starEach [.Name n p1, .Tuple elts tk tpos] X.env = (false, eval (.Name n p1) X.env) :: starEach [.Tuple elts tk tpos] X.env) (h2 : starEach [.Tuple elts tk tpos] X.env = (false, eval (.Tuple elts tk tpos) X.env) :: starEach [] X.env) (hpl : (backTo pos (starEach [.Tuple elts tk tpos] X.env)).any (·.1) = false) :
    PE X (.Call (.Name x p) [.Name n p1, .Tuple elts tk tpos] [] pos) (tN X.K [z] W (eIsET M i ys z.c)) :=
  pe_mono (pe_callB (call_isDT B) hg hm hv (pa_cons he (pa_cons (pe_tup hy) pa_nil h2) h1) hn hdb h1 hpl) fun σ H Q ⟨Xo, js, env, J, F, p⟩ => by
    unfold eIsET at p
    cases hs : env[i]? with
    | none => rw [hs] at p; exact p.elim
    | some o =>
      cases o with
      | none => rw [hs] at p; exact p.elim
      | some h =>
        cases h with
        | val d => rw [hs] at p; exact p.elim
        | new d => rw [hs] at p; exact p.elim
        | jar k => rw [hs] at p; exact p.elim
        | newB _ _ => rw [hs] at p; exact p.elim
        | exc k =>
          cases k with
          | succ k => rw [hs] at p; exact p.elim
          | zero =>
            rw [hs] at p
            have p : PostN X.K [z] W Xo js H σ env Q (match anyM M z.c ys with | some b => .ok (.val (.bl b)) J | none => .stuck) := p
            cases hM : anyM M z.c ys with
            | none => rw [hM] at p; exact p.elim
            | some b =>
              rw [hM] at p
              obtain ⟨v, hv', z', hz', rfl⟩ := F.slot i _ hs
              have ez : z = z' := by simpa using hz'
              subst ez
              obtain ⟨C', c1, c2, dd, us', d1, d2, d3, d4⟩ := F.ez z List.mem_cons_self
              refine ⟨_, hv', hta _ _ _ ⟨by rw [big_eq]; exact hb, fun t ht => ?_⟩⟩
              have E : ExcC X.K C' := by
                obtain ⟨y, r, rfl⟩ := h0
                cases hk with
                | cons a hk hr =>
                  unfold anyM at hM
                  cases hM1 : M z.c y with
                  | none => rw [hM1] at hM; cases hM
                  | some m => exact (hk _ _ hM1 _ c1).1
              have s : Same H (upd H t (.tup cs)) := same_upd ht
              exact ⟨C', t, cs, us, b, dd, us', rfl, upd_same, kits_paired hk, c2, d1, s _ _ d2, E, kits_any hk hM c1, p (.bl b) _ (.of s) (out_bl (F.same s))⟩
end
/-! ### a fresh list some of whose items are cells -/
def toCell : HV → Option D
  | .val d => if isP d = true then some d else none
  | .new ds => some (.lst ds)
  | .jar k => some (.lnk k)
  | _ => none
def eItemsJ : List EF → En → Jr → R (List D)
  | [], _, J => .ok [] J
  | f :: fs, env, J => (f env J).bind fun h J1 => match toCell h with
    | some d => (eItemsJ fs env J1).bind fun ds J2 => .ok (d :: ds) J2
    | none => .stuck
def eLstJ (fs : List EF) : EF := fun env J => (eItemsJ fs env J).bind fun ds J1 => if ds.length ≤ big then .ok (.newB [ds] J1.length) J1 else .stuck
def PostJ (K : PySem.W.Frag) (Z : List Zx) (W : WX) (Xo : Addr → Prop) (js : List Addr) (H : Hp) (σ : L2.St) (env : En) (Q : List V → Hp → Prop) : R (List D) → Prop
  | .ok ds J => ∀ vs H', Ext js H H' → Fit K Z Xo js H' σ env J → RepsC K H' (Yf Xo js) js js.length ds vs → Q vs H'
  | .err c fs J => Flies K Z W Xo js H σ env c fs J
  | .stuck => False
def tJ (K : PySem.W.Frag) (Z : List Zx) (W : WX) (fs : List EF) : TA := fun σ H Q => ∃ Xo js env J, Fit K Z Xo js H σ env J ∧ PostJ K Z W Xo js H σ env Q (eItemsJ fs env J)
section
variable {X : Cx} {W : WX} {e : Expr} {es : List Expr} {f : EF} {fs : List EF} {pos : Pos} {Z : List Zx}
theorem pj_nil : PA X [] (tJ X.K Z W []) := pa_mono pa_nil fun σ H Q ⟨Xo, js, env, J, F, p⟩ => p [] H .refl F (repsC_of (reps_nil.mpr rfl))
theorem cell_rep {Xo : Addr → Prop} {js : List Addr} {H : Hp} {h : HV} {v : V} {d : D} (x : HRep X.K Z H (Yf Xo js) js (norm h) v) (e : toCell h = some d) : RepE X.K H (Yf Xo js) js js.length d v := by
  cases h with
  | val d' =>
    have e : (if isP d' = true then some d' else none) = some d := e
    by_cases hp : isP d' = true
    · rw [if_pos hp] at e; cases e; exact repE_of x
    · rw [if_neg hp] at e; cases e
  | new ds => cases e; exact repE_of (d := .lst ds) x
  | jar k =>
    cases e
    obtain ⟨a, ha, ev⟩ := x
    exact ⟨(List.getElem?_eq_some_iff.mp ha).1, a, ha, ev⟩
  | exc k => cases e
  | newB _ _ => cases e
theorem RepE.ext {K : PySem.W.Frag} {Xo : Addr → Prop} {js : List Addr} {H H1 : Hp} {σ : L2.St} {env : En} {J : Jr} {k : Nat} (F : Fit K Z Xo js H σ env J) (e : Ext js H H1) {d : D} {v : V} (x : RepE K H (Yf Xo js) js k d v) : RepE K H1 (Yf Xo js) js k d v :=
  repE_move (fun a o q n => e a o q fun z => n (.inr z)) (fun _ y => .inl y) F.lists (fun _ _ _ e => e) x
theorem pj_cons (ha : PE X e (tD X.K Z W f)) (hb : PA X es (tJ X.K Z W fs)) (hs : starEach (e :: es) X.env = (false, eval e X.env) :: starEach es X.env) : PA X (e :: es) (tJ X.K Z W (f :: fs)) :=
  pa_mono (pa_cons ha hb hs) fun σ H Q ⟨Xo, js, env, J, F, p⟩ => by
    refine ⟨Xo, js, env, J, F, ?_⟩
    unfold eItemsJ at p
    cases hf : f env J with
    | stuck => rw [hf] at p; exact p.elim
    | err c fs J1 => rw [hf] at p; exact p
    | ok h J1 =>
      rw [hf] at p
      intro x H1 e1 F1 x1
      have p : PostJ X.K Z W Xo js H σ env Q (match toCell h with
        | some d => (eItemsJ fs env J1).bind fun ds J2 => .ok (d :: ds) J2
        | none => .stuck) := p
      cases hd : toCell h with
      | none => rw [hd] at p; exact p.elim
      | some d =>
        rw [hd] at p
        have p : PostJ X.K Z W Xo js H σ env Q ((eItemsJ fs env J1).bind fun ds J2 => .ok (d :: ds) J2) := p
        refine ⟨Xo, js, env, J1, F1, ?_⟩
        cases hg : eItemsJ fs env J1 with
        | stuck => rw [hg] at p; exact p.elim
        | err c fs J2 => rw [hg] at p; exact p.later e1
        | ok ds J2 =>
          rw [hg] at p
          intro vs H2 e2 F2 r2
          exact p _ H2 (e1.trans e2) F2 (repsC_cons ((cell_rep x1 hd).ext F1 e2) r2)
theorem pn_lstJ (h : PA X es (tJ X.K Z W fs)) : PE X (.List es pos) (tN X.K Z W (eLstJ fs)) := pe_mono (pe_lst h) fun σ H Q ⟨Xo, js, env, J, F, p⟩ => by
  refine ⟨Xo, js, env, J, F, ?_⟩
  unfold eLstJ at p
  cases hg : eItemsJ fs env J with
  | stuck => rw [hg] at p; exact p.elim
  | err c fs J2 => rw [hg] at p; exact p
  | ok ds J2 =>
    rw [hg] at p
    intro vs H2 e2 F2 r2
    have p : PostN X.K Z W Xo js H σ env Q (if ds.length ≤ big then .ok (.newB [ds] J2.length) J2 else .stuck) := p
    by_cases hb : ds.length ≤ big
    · rw [if_pos hb] at p
      refine ⟨by rw [big_eq, repsC_len r2]; exact hb, fun t ht => ?_⟩
      have sm : Same H2 (upd H2 t (.lst vs)) := same_upd ht
      have nX : ¬ Xo t := fun y => by
        obtain ⟨xs, z⟩ := F2.out t y
        rw [ht] at z; cases z
      have yw : ∀ a, Yf Xo (js ++ [t]) a → Yf Xo js a ∨ H2 a = none := fun a y => by
        rcases y with y | y
        · exact .inl (.inl y)
        · rcases List.mem_append.mp y with y | y
          · exact .inl (.inr y)
          · have : a = t := by simpa using y
            exact .inr (this ▸ ht)
      have G := ((F2.lock sm ht upd_same).bareZ).snoc (ds := ds) upd_same nX (repsC_moveJ (fun a o e _ => sm _ _ e) yw F2.lists (fun m b _ e => by rw [List.getElem?_append_left ((List.getElem?_eq_some_iff.mp e).1)]; exact e) r2)
      refine p _ _ (e2.trans (.of sm)) ⟨[t], F2.same sm, fun b hb => ?_, ⟨t, ?_, rfl⟩, G⟩
      · rw [List.mem_singleton.mp hb]; exact none_back e2 F2.lists ht
      · rw [← F2.len, List.getElem?_append_right (by omega)]; simp
    · rw [if_neg hb] at p; exact p.elim
end
/-! ### the logic of these -/
section
variable {X : XP} {J : Jr} {env : En} {P : Po} {n : Nat} {a : SF} {t : TF} {c : BF} {f : EF}
@[simp] theorem Sx_forC {i : Nat} : Sx P (sForC i t a n env J) ↔ jarQ env[i]? fun k => OpQ J[k]? fun ds => Sx P (loopC t a n k (ds.length + 1) 0 env J) := by
  unfold sForC
  cases e : env[i]? with
  | none => simp only [Sx_eq]; exact Iff.rfl
  | some o =>
    cases o with
    | none => simp only [Sx_eq]; exact Iff.rfl
    | some z =>
      cases z with
      | jar k =>
        rw [jarQ_some]
        cases e2 : J[k]? with
        | none => simp only [startC, Sx_stuck, OpQ_none, e2]
        | some ds => simp only [startC, OpQ_some, e2]
      | _ => simp only [Sx_eq]; exact Iff.rfl
theorem Sx_loopC {k : Nat} {ds : List D} (I : Nat → En → Jr → Prop) (h0 : I 0 env J) (hJ : ∀ i env J, I i env J → J[k]? = some ds) (hp : ds.all isP = true)
    (hs : ∀ i d env J, ds[i]? = some d → I i env J → OpQ (t d env) fun e1 => Sx (P.lp I i) (a n e1 J)) (hd : ∀ env J, I ds.length env J → P.nx env J) : Sx P (loopC t a n k (ds.length + 1) 0 env J) := by
  have key : ∀ m j env J, j + m = ds.length + 1 → 0 < m → I j env J → Sx P (loopC t a n k m j env J) := by
    intro m
    induction m with
    | zero => intro j env J _ h _; exact absurd h (by omega)
    | succ m ih =>
      intro j env J hj _ hI
      unfold loopC
      rw [hJ _ _ _ hI]
      dsimp only
      cases hd2 : ds[j]? with
      | none =>
        have : j = ds.length := by have := List.getElem?_eq_none_iff.mp hd2; omega
        subst this
        exact Sx_nx.mpr (hd _ _ hI)
      | some d =>
        have hlt : j < ds.length := (List.getElem?_eq_some_iff.mp hd2).1
        dsimp only
        rw [if_pos (List.all_eq_true.mp hp d (List.mem_of_getElem? hd2))]
        have h2 := hs j d env J hd2 hI
        cases ht : t d env with
        | none => rw [ht] at h2; exact h2.elim
        | some e1 =>
          rw [ht] at h2
          have h2 : Sx (P.lp I j) (a n e1 J) := h2
          dsimp only
          cases r : a n e1 J with
          | nx e J2 => rw [r] at h2; exact ih (j + 1) e J2 (by omega) (by omega) (Sx_nx.mp h2)
          | ct e J2 => rw [r] at h2; exact ih (j + 1) e J2 (by omega) (by omega) (Sx_ct.mp h2)
          | bk e J2 => rw [r] at h2; exact Sx_nx.mpr (Sx_bk.mp h2)
          | rt h J2 => rw [r] at h2; exact ⟨h2.out⟩
          | err c fs e J2 => rw [r] at h2; exact ⟨h2.out⟩
          | stuck => rw [r] at h2; exact (Sx_stuck.mp h2).elim
  exact key _ 0 env J (by omega) (by omega) h0
theorem Ex_lcCX {i : Nat} {own : List Nat} {Q : HV → Jr → Prop} (h : jarQ env[i]? fun k => OpQ J[k]? fun ds => Ex nX (lcLoopC t c f (wipeE env own) k (ds.length + 1) 0 [] J) Q) : Ex X (eLcC i t c f own env J) Q := by
  unfold eLcC
  cases e : env[i]? with
  | none => rw [e] at h; exact h.elim
  | some o =>
    rw [e] at h
    cases o with
    | none => exact h.elim
    | some z =>
      cases z with
      | jar k =>
        have h : OpQ J[k]? fun ds => Ex nX (lcLoopC t c f (wipeE env own) k (ds.length + 1) 0 [] J) Q := h
        dsimp only
        cases e2 : J[k]? with
        | none => rw [e2] at h; exact h.elim
        | some ds =>
          rw [e2] at h
          have h : Ex nX (lcLoopC t c f (wipeE env own) k (ds.length + 1) 0 [] J) Q := h
          unfold lcStartC
          dsimp only
          cases e3 : lcLoopC t c f (wipeE env own) k (ds.length + 1) 0 [] J with
          | ok a J => rw [e3] at h; exact ⟨h.out⟩
          | err c fs J => rw [e3] at h; exact h.out.elim
          | stuck => rw [e3] at h; exact h.out.elim
      | val d => exact h.elim
      | new d => exact h.elim
      | exc d => exact h.elim
      | newB _ _ => exact h.elim
theorem Ex_lcLoopC {k : Nat} {ds : List D} {Q : HV → Jr → Prop} (I : Nat → List D → Jr → Prop) (h0 : I 0 [] J) (hJ : ∀ i acc J, I i acc J → J[k]? = some ds) (hp : ds.all isP = true)
    (hs : ∀ i d acc J, ds[i]? = some d → I i acc J → OpQ (t d env) fun e1 => Ex X (c e1 J) fun b J => if b = true then Ex X (f e1 J) fun h J => OpQ (toVal h) fun y => acc.length < big ∧ I (i + 1) (acc ++ [y]) J else I (i + 1) acc J) (hd : ∀ acc J, I ds.length acc J → Q (.new acc) J) : Ex X (lcLoopC t c f env k (ds.length + 1) 0 [] J) Q := by
  have key : ∀ m j acc J, j + m = ds.length + 1 → 0 < m → I j acc J → Ex X (lcLoopC t c f env k m j acc J) Q := by
    intro m
    induction m with
    | zero => intro j acc J _ h _; exact absurd h (by omega)
    | succ m ih =>
      intro j acc J hj _ hI
      unfold lcLoopC
      rw [hJ _ _ _ hI]
      dsimp only
      cases hd2 : ds[j]? with
      | none =>
        have : j = ds.length := by have := List.getElem?_eq_none_iff.mp hd2; omega
        subst this
        exact Ex_ok.mpr (hd _ _ hI)
      | some d =>
        have hlt : j < ds.length := (List.getElem?_eq_some_iff.mp hd2).1
        dsimp only
        rw [if_pos (List.all_eq_true.mp hp d (List.mem_of_getElem? hd2))]
        have h2 := hs j d acc J hd2 hI
        cases ht : t d env with
        | none => rw [ht] at h2; exact h2.elim
        | some e1 =>
          rw [ht] at h2
          have h2 : Ex X (c e1 J) fun b J => if b = true then Ex X (f e1 J) fun h J => OpQ (toVal h) fun y => acc.length < big ∧ I (j + 1) (acc ++ [y]) J else I (j + 1) acc J := h2
          dsimp only
          rw [Ex_bind]
          refine h2.mono fun b J h2 => ?_
          cases b with
          | false => exact ih (j + 1) acc J (by omega) (by omega) (by simpa using h2)
          | true =>
            rw [if_pos rfl] at h2 ⊢
            rw [Ex_bind]
            refine h2.mono fun h J q => ?_
            cases e : toVal h with
            | none => rw [e] at q; exact q.elim
            | some y =>
              rw [e] at q
              obtain ⟨hb, q⟩ := q
              dsimp only
              rw [if_pos hb]
              exact ih (j + 1) _ J (by omega) (by omega) q
  exact key _ 0 [] J (by omega) (by omega) h0
@[simp] theorem toCell_int {i : Int} : toCell (.val (.int i)) = some (.int i) := rfl
@[simp] theorem toCell_str {i : Str} : toCell (.val (.str i)) = some (.str i) := rfl
@[simp] theorem toCell_bl {i : Bool} : toCell (.val (.bl i)) = some (.bl i) := rfl
@[simp] theorem toCell_non : toCell (.val .non) = some .non := rfl
@[simp] theorem toCell_tup {i : List D} : toCell (.val (.tup i)) = some (.tup i) := rfl
@[simp] theorem toCell_lst {i : List D} : toCell (.val (.lst i)) = some (.lst i) := rfl
@[simp] theorem toCell_new {i : List D} : toCell (.new i) = some (.lst i) := rfl
@[simp] theorem toCell_jar {i : Nat} : toCell (.jar i) = some (.lnk i) := rfl
@[simp] theorem Ex_itemsJ0 {Q : List D → Jr → Prop} : Ex X (eItemsJ [] env J) Q ↔ Q [] J := by simp only [Ex_eq]; exact Iff.rfl
@[simp] theorem Ex_itemsJ1 {fs : List EF} {Q : List D → Jr → Prop} : Ex X (eItemsJ (f :: fs) env J) Q ↔ Ex X (f env J) fun h J => OpQ (toCell h) fun d => Ex X (eItemsJ fs env J) fun ds J => Q (d :: ds) J := by
  show Ex X ((f env J).bind _) Q ↔ _
  rw [Ex_bind]
  refine Ex_iff fun x J => ?_
  cases e : toCell x with
  | none => simp only [Ex_eq]; exact Iff.rfl
  | some d =>
    show Ex X ((eItemsJ fs env J).bind fun ds J2 => R.ok (d :: ds) J2) Q ↔ Ex X (eItemsJ fs env J) fun ds J => Q (d :: ds) J
    simp only [Ex_bind, Ex_ok]
@[simp] theorem Ex_lstJ {fs : List EF} {Q : HV → Jr → Prop} : Ex X (eLstJ fs env J) Q ↔ Ex X (eItemsJ fs env J) fun ds J => ds.length ≤ big ∧ Q (.newB [ds] J.length) J := by
  unfold eLstJ
  rw [Ex_bind]
  exact Ex_iff fun x J => Ex_ite
@[simp] theorem Ex_revA {Q : List D → Jr → Prop} : Ex X (iRevA f env J) Q ↔ Ex X (f env J) fun h J => OpQ (rvOf h) fun ds => Q ds J := by
  unfold iRevA
  rw [Ex_bind]
  refine Ex_iff fun x J => ?_
  cases e : rvOf x <;> simp [e]
@[simp] theorem rvOf_lst {ds : List D} : rvOf (.val (.lst ds)) = some ds.reverse := rfl
@[simp] theorem rvOf_tup {ds : List D} : rvOf (.val (.tup ds)) = some ds.reverse := rfl
@[simp] theorem rvOf_new {ds : List D} : rvOf (.new ds) = some ds.reverse := rfl
@[simp] theorem dRev_lst {ds : List D} : dRev (.lst ds) = some (.new ds.reverse) := rfl
@[simp] theorem dRev_tup {ds : List D} : dRev (.tup ds) = some (.val (.tup ds.reverse)) := rfl
@[simp] theorem dTupRev_lst {ds : List D} : dTupRev (.lst ds) = some (.val (.tup ds.reverse)) := rfl
@[simp] theorem Ex_isET {M : Str → Str → Option Bool} {i : Nat} {ys : List Str} {k : Str} {Q : HV → Jr → Prop} : Ex X (eIsET M i ys k env J) Q ↔ excQ env[i]? (OpQ (anyM M k ys) fun b => Q (.val (.bl b)) J) := by
  unfold eIsET
  cases h : env[i]? with
  | none => simp only [Ex_eq]; exact Iff.rfl
  | some y =>
    cases y with
    | none => simp only [Ex_eq]; exact Iff.rfl
    | some y =>
      cases y with
      | val d => simp only [Ex_eq]; exact Iff.rfl
      | jar d => simp only [Ex_eq]; exact Iff.rfl
      | new d => simp only [Ex_eq]; exact Iff.rfl
      | newB _ _ => simp only [Ex_eq]; exact Iff.rfl
      | exc k =>
        cases k with
        | succ k => simp only [Ex_eq]; exact Iff.rfl
        | zero =>
          rw [excQ_some]
          cases e2 : anyM M _ ys <;> simp [e2]
end
end L2.Pz
set_option Elab.async false
set_option linter.all false
set_option maxRecDepth 100000
set_option maxHeartbeats 4000000
set_option autoImplicit false
namespace L2.Pz
open PySem PySem.Spec PyProof.Rows
/-! ### return (e, cell, ..): the def's own cells are data from then on -/
def fzH (n : Nat) (J : Jr) : HV → Option D
  | .val d => some d
  | .jar k => if n ≤ k then derefC J[k]? else none
  | _ => none
def fzHs (n : Nat) (J : Jr) : List HV → Option (List D)
  | [] => some []
  | h :: hs => match fzH n J h with
    | some d => (match fzHs n J hs with | some ds => some (d :: ds) | none => none)
    | none => none
def zEnd (n : Nat) (J : Jr) : Option (List D) → RS
  | some ds => if ds.length ≤ big then (if n ≤ J.length then .rt (.val (.tup ds)) (J.take n) else .stuck) else .stuck
  | none => .stuck
def sRetZ (fs : List EF) : SF := fun n env J => onS env (eArgs fs env J) fun hs J1 => zEnd n J1 (fzHs n J1 hs)
section
variable {K : PySem.W.Frag} {Xo : Addr → Prop} {js : List Addr} {H : Hp} {J : Jr} {σ : L2.St} {env : En} {Z Z' : List Zx} {n : Nat}
theorem fzH_rep (F : Fit K Z Xo js H σ env J) {h : HV} {v : V} {d : D} (x : HRep K Z' H (Yf Xo js) js h v) (e : fzH n J h = some d) : Rep K H (Yf Xo (js.take n)) d v := by
  have yy : ∀ a, Yf Xo (js.take n) a → Yf Xo js a := fun a y => y.elim .inl fun y => .inr (List.mem_of_mem_take y)
  cases h with
  | val d' => cases e; exact rep_move (fun _ _ e _ => e) (fun a y => .inl (yy a y)) F.lists _ _ x
  | new ds => cases e
  | exc k => cases e
  | newB _ _ => cases e
  | jar k =>
    have e : (if n ≤ k then derefC J[k]? else none) = some d := e
    by_cases hk : n ≤ k
    case neg => rw [if_neg hk] at e; cases e
    rw [if_pos hk] at e
    obtain ⟨a, ha, rfl⟩ := x
    obtain ⟨ds, vs, hJ, hl, rs⟩ := F.at ha
    rw [hJ] at e
    have e : (if ds.all isP = true then some (D.lst ds) else none) = some d := e
    by_cases hp : ds.all isP = true
    case neg => rw [if_neg hp] at e; cases e
    rw [if_pos hp] at e
    cases e
    refine rep_lst.mpr ⟨a, vs, rfl, .inl ⟨.inl hl, fun y => ?_⟩, reps_move (fun _ _ e _ => e) (fun a y => .inl (yy a y)) F.lists _ _ (repsC_reps rs hp)⟩
    rcases y with y | y
    · exact F.jx a (List.mem_of_getElem? ha) y
    · obtain ⟨i, hi, ei⟩ := List.getElem_of_mem y
      have hi' : i < n := by rw [List.length_take] at hi; omega
      have hij : i < js.length := by rw [List.length_take] at hi; omega
      rw [List.getElem_take] at ei
      obtain ⟨b2, c2⟩ := List.getElem?_eq_some_iff.mp ha
      have := (List.getElem_inj F.nd).mp (ei.trans c2.symm)
      omega
theorem fzHs_rep (F : Fit K Z Xo js H σ env J) : ∀ {hs : List HV} {vs : List V} {ds : List D}, HReps K Z' H (Yf Xo js) js hs vs → fzHs n J hs = some ds → Reps K H (Yf Xo (js.take n)) ds vs
  | [], vs, ds, x, e => by
    cases e
    have x : vs = [] := x
    subst x
    exact reps_nil.mpr rfl
  | h :: hs, vs, ds, x, e => by
    obtain ⟨v, r, rfl, x1, x2⟩ := x
    unfold fzHs at e
    cases e1 : fzH n J h with
    | none => rw [e1] at e; cases e
    | some d =>
      rw [e1] at e
      cases e2 : fzHs n J hs with
      | none => rw [e2] at e; cases e
      | some ds' =>
        rw [e2] at e
        cases e
        exact reps_cons.mpr ⟨v, r, rfl, fzH_rep F x1 e1, fzHs_rep F x2 e2⟩
end
section
variable {X : Cx} {W : WX} {n0 : Nat} {es : List Expr} {fs : List EF} {tpos pos : Pos} {Z : List Zx} {k : Nat}
theorem s_retZ (h : PA X es (tH X.K Z W fs)) : PS X (.Return (some (.Tuple es k tpos)) pos) (tS X.K Z W n0 (sRetZ fs)) := ps_mono (ps_ret (pe_tup h)) fun D σ H ⟨Xo, js, env, J, F, p⟩ => by
  refine ⟨Xo, js, env, J, F, ?_⟩
  unfold sRetZ at p
  cases r : eArgs fs env J with
  | stuck => rw [r] at p; exact p.elim
  | err c gs J1 => rw [r] at p; exact flies_S p
  | ok hs J1 =>
    rw [r] at p
    intro vs H1 e1 F1 x1
    have p : PostS X.K Z W n0 Xo js H D (zEnd n0 J1 (fzHs n0 J1 hs)) := p
    cases e2 : fzHs n0 J1 hs with
    | none => rw [e2] at p; exact p.elim
    | some ds =>
      rw [e2] at p
      have p : PostS X.K Z W n0 Xo js H D (if ds.length ≤ big then (if n0 ≤ J1.length then .rt (.val (.tup ds)) (J1.take n0) else .stuck) else .stuck) := p
      by_cases hb : ds.length ≤ big
      case neg => rw [if_neg hb] at p; exact p.elim
      rw [if_pos hb] at p
      by_cases hn : n0 ≤ J1.length
      case neg => rw [if_neg hn] at p; exact p.elim
      rw [if_pos hn] at p
      have rr := fzHs_rep F1 x1 e2
      refine ⟨by rw [big_eq, reps_len rr]; exact hb, fun t ht => ?_⟩
      have sm : Same H1 (upd H1 t (.tup vs)) := same_upd ht
      have G := (F1.same sm).bare.trim n0
      refine p _ _ (js.take n0) ⟨e1.trans (.of sm), fun a ha => .inl (List.mem_of_mem_take ha), fun m b hm e => by rw [List.getElem?_take_of_lt hm]; exact e, fun a h => none_back e1 F1.lists (none_back (.of sm) (F1.same sm).lists h)⟩ ⟨G, rep_tup.mpr ⟨t, vs, rfl, .inl (.inl upd_same), ?_⟩⟩
      exact reps_move (fun a o e _ => sm _ _ e) (fun _ y => .inl y) (fun a y => F1.lists a (y.elim .inl fun y => .inr (List.mem_of_mem_take y))) _ _ rr
end
section
variable {X : XP} {J : Jr} {env : En} {P : Po} {n : Nat} {fs : List EF}
@[simp] theorem fzHs_nil : fzHs n J [] = some [] := rfl
@[simp] theorem fzHs_val {d : D} {hs : List HV} : fzHs n J (.val d :: hs) = (fzHs n J hs).map (d :: ·) := by
  conv => lhs; unfold fzHs
  cases fzHs n J hs <;> rfl
theorem fzHs_jar {k : Nat} {ds : List D} {hs : List HV} (hk : n ≤ k) (e : J[k]? = some ds) (hp : ds.all isP = true) : fzHs n J (.jar k :: hs) = (fzHs n J hs).map (D.lst ds :: ·) := by
  have : fzH n J (.jar k) = some (.lst ds) := by
    show (if n ≤ k then derefC J[k]? else none) = _
    rw [if_pos hk, e]
    exact if_pos hp
  conv => lhs; unfold fzHs
  rw [this]
  cases fzHs n J hs <;> rfl
theorem Ex_pop0 {i : Nat} {Q : HV → Jr → Prop} : Ex X (ePop0 i env J) Q ↔ jarQ env[i]? fun k => OpQ J[k]? fun ds => ds.all isP = true ∧ OpQ ds[ds.length - 1]? fun d => Q (.val d) (J.set k ds.dropLast) := by
  unfold ePop0
  cases e : env[i]? with
  | none => simp only [Ex_eq]; exact Iff.rfl
  | some o =>
    cases o with
    | none => simp only [Ex_eq]; exact Iff.rfl
    | some z =>
      cases z with
      | jar k =>
        rw [jarQ_some]
        dsimp only
        cases e2 : J[k]? with
        | none => simp
        | some ds =>
          dsimp only
          by_cases hp : ds.all isP = true
          · rw [if_pos hp, OpQ_some]
            cases e3 : ds[ds.length - 1]? with
            | none => simp [hp]
            | some d => simp only [Ex_ok, OpQ_some]; exact ⟨fun z => ⟨hp, z⟩, fun z => z.2⟩
          · rw [if_neg hp, OpQ_some]
            exact ⟨fun z => (Ex_stuck.mp z).elim, fun z => (hp z.1).elim⟩
      | _ => simp only [Ex_eq]; exact Iff.rfl
@[simp] theorem Sx_retZ : Sx P (sRetZ fs n env J) ↔ Ex (fun c fs J => P.er c fs env J) (eArgs fs env J) fun hs J => OpQ (fzHs n J hs) fun ds => ds.length ≤ big ∧ n ≤ J.length ∧ P.rt (.val (.tup ds)) (J.take n) := by
  unfold sRetZ
  rw [Sx_on]
  refine Ex_iff fun hs J => ?_
  cases e : fzHs n J hs with
  | none => simp [zEnd]
  | some ds =>
    show Sx P (if ds.length ≤ big then (if n ≤ J.length then .rt (.val (.tup ds)) (J.take n) else .stuck) else .stuck) ↔ _
    by_cases h1 : ds.length ≤ big
    · by_cases h2 : n ≤ J.length <;> simp [h1, h2]
    · simp [h1]
end
end L2.Pz
set_option Elab.async false
set_option linter.all false
set_option maxRecDepth 100000
set_option maxHeartbeats 4000000
set_option autoImplicit false
/-! plain lemmas that the laws share -/
namespace L2.Pz
open PySem
section
variable {X : XP} {Q : HV → Jr → Prop} {T J : Jr} {a r : List D} {env : En} {b : Nat} {ly : List (List D)} {x y : List D}
structure GBp (g : Int) : Prop where
  out : g.natAbs < 2 ^ 5000
theorem GBp.log2 {g : Int} (h : GBp g) : g.natAbs.log2 < 5000 := log2_lt' h.out (by decide)
theorem pos2000 : (0 : Int) < 2 ^ 2000 := by decide +kernel
theorem p25 : ((2 : Int) ^ 2000) < ((2 ^ 5000 : Nat) : Int) := by decide +kernel
theorem mod_GB {x : Int} : 0 ≤ x % 2 ^ 2000 ∧ GBp (x % 2 ^ 2000) := by
  have hp := pos2000
  have h1 := Int.emod_nonneg x (Int.ne_of_gt hp)
  have h2 := Int.emod_lt_of_pos x hp
  refine ⟨h1, ⟨?_⟩⟩
  have h3 : ((x % 2 ^ 2000).natAbs : Int) = x % 2 ^ 2000 := Int.natAbs_of_nonneg h1
  have h4 := p25
  generalize x % 2 ^ 2000 = r at h1 h2 h3
  generalize (2 : Int) ^ 2000 = P at h2 h4
  generalize (2 : Nat) ^ 5000 = M at h4
  omega
theorem GBp.div {g m : Int} (h : GBp g) (g0 : 0 ≤ g) (hm : 0 < m) : GBp (g / m) := by
  have e1 : g / m ≤ g := Int.ediv_le_self _ g0
  have e2 : 0 ≤ g / m := Int.ediv_nonneg g0 (by omega)
  refine ⟨Nat.lt_of_le_of_lt ?_ h.out⟩
  omega
theorem mul_sm {x y : Int} (hx : 0 ≤ x ∧ x < 2 ^ 64) (hy : 0 ≤ y ∧ y < 2 ^ 64) : dMul (.int x) (.int y) = some (.val (.int (x * y))) := by
  have h1 : x.natAbs.log2 < 64 := log2_lt' (by omega) (by decide)
  have h2 : y.natAbs.log2 < 64 := log2_lt' (by omega) (by decide)
  show (if decide (x.natAbs.log2 + y.natAbs.log2 < 1000000) = true then _ else _) = _
  rw [if_pos (decide_eq_true (by omega))]
theorem mod_sm {x y : Int} (hy : 0 < y) : dMod (.int x) (.int y) = some (.val (.int (x % y))) := by
  show (if decide (0 < y) = true then _ else _) = _
  rw [if_pos (decide_eq_true hy)]
theorem floor_sm {x y : Int} (hy : 0 < y ∧ y < 2 ^ 64) : dFloor (.int x) (.int y) = some (.val (.int (x / y))) := by
  have h2 : y.natAbs.log2 < 64 := log2_lt' (by omega) (by decide)
  show (if (decide (0 < y) && decide (y.natAbs.log2 < 9000)) = true then _ else _) = _
  rw [if_pos (by rw [decide_eq_true hy.1, decide_eq_true (by omega)]; rfl)]
theorem shl2000 : dShl (.int 1) (.int 2000) = some (.val (.int (2 ^ 2000))) := by with_unfolding_all rfl
theorem allP_int {ns : List Int} : (ns.map D.int).all isP = true := by simp [isP]
theorem toInt_i {i : Int} : dToInt (.int i) = some (.val (.int i)) := rfl
theorem ixM {ns : List Int} {i : Int} (h0 : 0 ≤ i) (h1 : i < ns.length) : dIx (.lst (ns.map D.int)) (.int i) = some (.val (.int (ns[i.toNat]'(by omega)))) := by
  show (atI (ns.map D.int) i).map HV.val = _
  rw [atI_in h0 (by rw [List.length_map]; exact h1), List.getElem_map]
  rfl
theorem eq_int {x y : Int} : dEq (.int x) (.int y) = some (.val (.bl (x == y))) := by
  simp
theorem ixMo {ns : List Int} {i v : Int} (h0 : 0 ≤ i) (h1 : i < ns.length) (e : ns[i.toNat]? = some v) : dIx (.lst (ns.map D.int)) (.int i) = some (.val (.int v)) := by
  rw [ixM h0 h1]
  rw [List.getElem?_eq_getElem (by omega)] at e
  cases e
  rfl
theorem map_erase {α β : Type} {f : α → β} : ∀ (l : List α) (i : Nat), (l.map f).eraseIdx i = (l.eraseIdx i).map f
  | [], i => rfl
  | x :: l, 0 => rfl
  | x :: l, i + 1 => by
    show f x :: (l.map f).eraseIdx i = f x :: (l.eraseIdx i).map f
    rw [map_erase l i]
theorem int_of {ns : List Int} {i : Nat} {d : D} (h : (ns.map D.int)[i]? = some d) : ∃ v, d = .int v ∧ v ∈ ns := by
  rw [List.getElem?_map] at h
  cases e : ns[i]? with
  | none => rw [e] at h; cases h
  | some v => rw [e] at h; exact ⟨v, by simpa using h.symm, List.mem_of_getElem? e⟩
abbrev pl (ds : List D) : Prop := ds.all isP = true
theorem pl_mem {ds : List D} : pl ds ↔ ∀ d ∈ ds, isP d = true := List.all_eq_true
theorem erase_perm {α : Type} : ∀ (l : List α) (i : Nat) (h : i < l.length), (l[i] :: l.eraseIdx i).Perm l
  | x :: l, 0, h => List.Perm.refl _
  | x :: l, i + 1, h => (List.Perm.swap x (l[i]'(by simpa using h)) (l.eraseIdx i)).trans ((erase_perm l i (by simpa using h)).cons x)
abbrev rT (rs : List Int) : D := .tup (rs.map D.int)
theorem ixR {rs : List Int} {p : Nat} (h : p < rs.length) : dIx (rT rs) (.int p) = some (.val (.int rs[p])) := by
  show (atI (rs.map D.int) p).map HV.val = _
  rw [atI_in (by omega) (by rw [List.length_map]; omega), List.getElem_map]
  rfl
theorem slT {ds : List D} {l u : Option Int} : dSl (.tup ds) l u = some (.val (.tup (cutD ds l u))) := rfl
theorem cut_to {ds : List D} {p : Nat} : cutD ds none (some (p : Int)) = ds.take p := by
  rw [cutD_to (by omega), Int.toNat_natCast]
theorem cut_from {ds : List D} {p : Nat} : cutD ds (some (p : Int)) none = ds.drop p := by
  rw [cutD_from (by omega), Int.toNat_natCast]
theorem cut_two {ds : List D} {p : Nat} : cutD ds (some (p : Int)) (some ((p : Int) + 2)) = (ds.drop p).take 2 := by
  have e : ((p : Int) + 2) = ((p + 2 : Nat) : Int) := by omega
  unfold cutD
  rw [e, HT.sIx_nat, HT.sIx_nat]
  by_cases h : p ≤ ds.length
  · rw [Nat.min_eq_left h]
    by_cases h2 : p + 2 ≤ ds.length
    · rw [Nat.min_eq_left h2]
      congr 1
      omega
    · rw [Nat.min_eq_right (by omega), List.take_of_length_le (by rw [List.length_drop]; omega), List.take_of_length_le (by rw [List.length_drop]; omega)]
  · rw [Nat.min_eq_right (by omega), Nat.min_eq_right (by omega), List.drop_of_length_le (by omega), List.drop_of_length_le (by omega)]
    simp
theorem dAdd_tt {xs ys : List D} (h : xs.length + ys.length ≤ 16777216) : dAdd (.tup xs) (.tup ys) = some (.val (.tup (xs ++ ys))) := by
  show (if xs.length + ys.length ≤ big then some (HV.val (.tup (xs ++ ys))) else none) = _
  rw [if_pos h]
theorem get_ge {rs : List Int} {p : Nat} (h : rs.length ≤ p) (v : Int) : ¬ rs[p]? = some v := by
  rw [List.getElem?_eq_none h]; exact fun z => by cases z
theorem one_big : 1 ≤ big := by decide
theorem two_big : 2 ≤ big := by decide
theorem cut_from1 {ds : List D} {p : Nat} : cutD ds (some ((p : Int) + 1)) none = ds.drop (p + 1) := cut_from (p := p + 1)
theorem cut_from2 {ds : List D} {p : Nat} : cutD ds (some ((p : Int) + 2)) none = ds.drop (p + 2) := cut_from (p := p + 2)
theorem ixR1 {rs : List Int} {p : Nat} (h : p + 1 < rs.length) : dIx (rT rs) (.int ((p : Int) + 1)) = some (.val (.int rs[p + 1])) := ixR (p := p + 1) h
theorem le_i {x y : Int} : dLe (.int x) (.int y) = some (.val (.bl (decide (x ≤ y)))) := rfl
theorem ixT {ds : List D} {n : Nat} (h : n < ds.length) : dIx (.tup ds) (.int n) = some (.val ds[n]) := by
  show (atI ds n).map HV.val = _
  rw [atI_in (by omega) (by omega)]
  rfl
theorem ix0 {x : D} {l : List D} : dIx (.tup (x :: l)) (.int 0) = some (.val x) := by
  show (atI _ (0 : Int)).map _ = _
  rw [atI_in (by decide) (by simp)]
  rfl
theorem ix1 {x y : D} {l : List D} : dIx (.tup (x :: y :: l)) (.int 1) = some (.val y) := by
  show (atI _ (1 : Int)).map _ = _
  rw [atI_in (by decide) (by simp; omega)]
  rfl
theorem ix2 {x y z : D} {l : List D} : dIx (.tup (x :: y :: z :: l)) (.int 2) = some (.val z) := by
  show (atI _ (2 : Int)).map _ = _
  rw [atI_in (by decide) (by simp; omega)]
  rfl
theorem gt_i {x y : Int} : dGt (.int x) (.int y) = some (.val (.bl (decide (y < x)))) := rfl
theorem dl_t {ds : List D} : dList (.tup ds) = some (.new ds) := rfl
theorem dt_l {ds : List D} : dTuple (.lst ds) = some (.val (.tup ds)) := rfl
theorem ix0l {x : D} {l : List D} : dIx (.lst (x :: l)) (.int 0) = some (.val x) := ix0 (x := x) (l := l)
theorem isn_v {d : D} : dIsN d = some (.val (.bl (match d with | .non => true | _ => false))) := by cases d <;> rfl
theorem isnn_v {d : D} : dNotN d = some (.val (.bl (match d with | .non => false | _ => true))) := by cases d <;> rfl
theorem jt (ds : List D) : isa "tuple" (.tup ds) = true := rfl
theorem ji (i : Int) : isa "int" (.int i) = true := rfl
theorem jb (i : Int) : isa "bool" (.int i) = false := rfl
theorem range_flat {f : Nat → List D} {i : Nat} : (List.range (i + 1)).flatMap f = (List.range i).flatMap f ++ f i := by
  rw [List.range_succ, List.flatMap_append]
  simp
theorem ixMem {ds : List D} {v : Int} (h0 : 0 ≤ v) (h1 : v < ds.length) : ∃ d ∈ ds, dIx (.lst ds) (.int v) = some (.val d) := by
  refine ⟨ds[v.toNat]'(by omega), List.getElem_mem _, ?_⟩
  show (atI ds v).map HV.val = _
  rw [atI_in h0 h1]
  rfl
theorem i0 {x y z : D} : dIx (.lst [x, y, z]) (.int 0) = some (.val x) := rfl
theorem i1 {x y z : D} : dIx (.lst [x, y, z]) (.int 1) = some (.val y) := rfl
theorem i2 {x y z : D} : dIx (.lst [x, y, z]) (.int 2) = some (.val z) := rfl
theorem max_i {x y : Int} : dMax (.int x) (.int y) = some (.val (.int (if x < y then y else x))) := rfl
theorem neg_i {x : Int} : dNeg (.int x) = some (.val (.int (-x))) := rfl
theorem dl_l {ds : List D} : dList (.lst ds) = some (.new ds) := rfl
theorem dsub {x y : Int} : dSub (.int x) (.int y) = some (.val (.int (x - y))) := rfl
theorem min_i {x y : Int} : dMin (.int x) (.int y) = some (.val (.int (if y < x then y else x))) := rfl
theorem cellG : (a :: r :: (T ++ (ly ++ [x])))[T.length + ly.length + 1 + 1]? = some x := by
  rw [List.getElem?_cons_succ, List.getElem?_cons_succ, List.getElem?_append_right (by omega), List.getElem?_append_right (by omega)]
  have : T.length + ly.length - T.length - ly.length = 0 := by omega
  rw [this]; rfl
theorem cellS : (a :: r :: (T ++ (ly ++ [x]))).set (T.length + ly.length + 1 + 1) y = a :: r :: (T ++ (ly ++ [y])) := by
  rw [List.set_cons_succ, List.set_cons_succ, List.set_append_right _ _ (by omega), List.set_append_right _ _ (by omega)]
  have : T.length + ly.length - T.length - ly.length = 0 := by omega
  rw [this]; rfl
theorem gtl {x y : Int} : dLt (.int x) (.int y) = some (.val (.bl (decide (x < y)))) := rfl
theorem ge_i {x y : Int} : dGe (.int x) (.int y) = some (.val (.bl (decide (x ≥ y)))) := rfl
theorem bigE : big = 16777216 := rfl
end
end L2.Pz
set_option Elab.async false
set_option linter.all false
set_option maxRecDepth 100000
set_option maxHeartbeats 4000000
set_option autoImplicit false
/-! changes and single steps, with no program in sight -/
namespace L2.Pz
open PySem
section
variable {X : XP} {Q : HV → Jr → Prop} {T J : Jr} {a r : List D} {env : En} {b : Nat}
theorem e_held_held : dEq (.str "held") (.str "held") = some (.val (.bl true)) := by with_unfolding_all rfl
theorem e_held_idle : dEq (.str "held") (.str "idle") = some (.val (.bl false)) := by with_unfolding_all rfl
theorem e_held_loose : dEq (.str "held") (.str "loose") = some (.val (.bl false)) := by with_unfolding_all rfl
theorem e_held_same : dEq (.str "held") (.str "same") = some (.val (.bl false)) := by with_unfolding_all rfl
theorem e_idle_held : dEq (.str "idle") (.str "held") = some (.val (.bl false)) := by with_unfolding_all rfl
theorem e_idle_idle : dEq (.str "idle") (.str "idle") = some (.val (.bl true)) := by with_unfolding_all rfl
theorem e_idle_loose : dEq (.str "idle") (.str "loose") = some (.val (.bl false)) := by with_unfolding_all rfl
theorem e_idle_same : dEq (.str "idle") (.str "same") = some (.val (.bl false)) := by with_unfolding_all rfl
theorem e_loose_held : dEq (.str "loose") (.str "held") = some (.val (.bl false)) := by with_unfolding_all rfl
theorem e_loose_idle : dEq (.str "loose") (.str "idle") = some (.val (.bl false)) := by with_unfolding_all rfl
theorem e_loose_loose : dEq (.str "loose") (.str "loose") = some (.val (.bl true)) := by with_unfolding_all rfl
theorem e_loose_same : dEq (.str "loose") (.str "same") = some (.val (.bl false)) := by with_unfolding_all rfl
theorem e_same_held : dEq (.str "same") (.str "held") = some (.val (.bl false)) := by with_unfolding_all rfl
theorem e_same_idle : dEq (.str "same") (.str "idle") = some (.val (.bl false)) := by with_unfolding_all rfl
theorem e_same_loose : dEq (.str "same") (.str "loose") = some (.val (.bl false)) := by with_unfolding_all rfl
theorem e_same_same : dEq (.str "same") (.str "same") = some (.val (.bl true)) := by with_unfolding_all rfl
inductive Ch where
  | held (s : Int) | idle (s : Int) | loose (s t : Int) | same (s t : Int)
def Ch.d : Ch → D
  | .held s => .tup [.str "held", .int s]
  | .idle s => .tup [.str "idle", .int s]
  | .loose s t => .tup [.str "loose", .int s, .int t]
  | .same s t => .tup [.str "same", .int s, .int t]
abbrev wI (w : Bool) : Int := if w = true then 1 else 0
def stP : Ch → List Int → Nat → Bool → Option (List Int)
  | .held s, row, p, w => if row[p]? = some s then (if w = true then some (row.take p ++ s :: row.drop p) else if row[p + 1]? = some s then some (row.take p ++ row.drop (p + 1)) else none) else none
  | .idle s, row, p, true => if p ≤ row.length then some (row.take p ++ s :: row.drop p) else none
  | .idle s, row, p, false => if row[p]? = some s then some (row.take p ++ row.drop (p + 1)) else none
  | .loose s t, row, p, w => if row[p]? = some (if w = true then s else t) ∧ row[p + 1]? = some (if w = true then t else s) then some (row.take p ++ (if w = true then t else s) :: (if w = true then s else t) :: row.drop (p + 2)) else none
  | .same s t, row, p, w => if row[p]? = some (if w = true then s else t) then some (row.take p ++ (if w = true then t else s) :: row.drop (p + 1)) else none
def optD : Option (List Int) → D
  | none => .non
  | some l => rT l
theorem fin {l : List Int} {ds : List D} (h : Q (.val (optD (some l))) J) (e : ds = l.map D.int) : Q (.val (.tup ds)) J := by
  subst e
  exact h
theorem ne2 {x y u v : Int} : dNe (.tup [.int x, .int y]) (.tup [.int u, .int v]) = some (.val (.bl (!(x == u && (y == v && true))))) := by with_unfolding_all rfl
theorem ne1 {x u v : Int} : dNe (.tup [.int x]) (.tup [.int u, .int v]) = some (.val (.bl true)) := by
  have : dNe (.tup [.int x]) (.tup [.int u, .int v]) = some (.val (.bl (!(x == u && false)))) := by with_unfolding_all rfl
  rw [this]; simp
theorem ne0 {u v : Int} : dNe (.tup []) (.tup [.int u, .int v]) = some (.val (.bl true)) := by with_unfolding_all rfl
abbrev chs (s : D) (cs : List Ch) : Prop := dIx s (.int 1) = some (.val (.tup (cs.map Ch.d)))
abbrev stD (n p : Nat) (w : Bool) : D := .tup [.int n, .int p, .int (wI w)]
theorem stP_far {c : Ch} {row : List Int} {p : Nat} {w : Bool} (h : row.length < p) : stP c row p w = none := by
  have g1 : ∀ v, ¬ row[p]? = some v := get_ge (by omega)
  have g2 : ¬ p ≤ row.length := by omega
  cases c with
  | held s => simp [stP, g1]
  | idle s => cases w <;> simp [stP, g1, g2]
  | loose s t => cases w <;> simp [stP, g1]
  | same s t => cases w <;> simp [stP, g1]
theorem stP_len {c : Ch} {row : List Int} {p : Nat} {w : Bool} (hl : row.length ≤ 1000) : ∀ l, stP c row p w = some l → l.length ≤ 2000 := by
  intro l h
  have key : l.length ≤ row.length + 2 := by
    cases c with
    | held s =>
      cases w
      · simp [stP] at h
        obtain ⟨_, _, rfl⟩ := h
        simp; omega
      · simp [stP] at h
        obtain ⟨_, rfl⟩ := h
        simp; omega
    | idle s =>
      cases w <;> (
        simp [stP] at h
        obtain ⟨_, rfl⟩ := h
        simp; omega)
    | loose s t =>
      cases w <;> (
        simp [stP] at h
        obtain ⟨_, rfl⟩ := h
        simp; omega)
    | same s t =>
      cases w <;> (
        simp [stP] at h
        obtain ⟨_, rfl⟩ := h
        simp; omega)
  omega
def isI : D → Bool
  | .int _ => true
  | _ => false
def inB (lo hi : Int) : D → Bool
  | .int i => decide (lo ≤ i) && decide (i ≤ hi)
  | _ => false
def posB : D → Bool
  | .int i => decide (0 ≤ i)
  | _ => false
def stB (m : Int) : D → Bool
  | .tup [x, y, z] => inB 0 (m - 1) x && (posB y && inB 0 1 z)
  | _ => false
def isT (n : Int) : D → Bool
  | .tup xs => decide ((xs.length : Int) = n)
  | _ => false
theorem stB_n {m : Int} {x y z : D} (h : inB 0 (m - 1) x = false) : stB m (.tup [x, y, z]) = false := by show (_ && _) = _; rw [h]; rfl
theorem stB_p {m : Int} {x y z : D} (h : posB y = false) : stB m (.tup [x, y, z]) = false := by show (_ && (_ && _)) = _; rw [h]; simp
theorem stB_w {m : Int} {x y z : D} (h : inB 0 1 z = false) : stB m (.tup [x, y, z]) = false := by show (_ && (_ && _)) = _; rw [h]; simp
def stE (e : Nat × Nat × Bool) : D := stD e.1 e.2.1 e.2.2
theorem isstE {cs : List Ch} {e : Nat × Nat × Bool} (h : e.1 < cs.length) : stB cs.length (stE e) = true := by
  obtain ⟨n, p, w⟩ := e
  have h : n < cs.length := h
  show ((decide ((0 : Int) ≤ n) && decide ((n : Int) ≤ cs.length - 1)) && (decide ((0 : Int) ≤ p) && (decide (0 ≤ wI w) && decide (wI w ≤ 1)))) = true
  rw [decide_eq_true (by omega), decide_eq_true (by omega), decide_eq_true (by omega)]
  cases w <;> rfl
theorem chs_of : ∀ {l : List D}, (∀ d ∈ l, ∃ c, d = Ch.d c) → ∃ cs : List Ch, l = cs.map Ch.d
  | [], _ => ⟨[], rfl⟩
  | d :: l, h => by
    obtain ⟨c, rfl⟩ := h d (by simp)
    obtain ⟨cs, rfl⟩ := chs_of (l := l) fun d hd => h d (by simp [hd])
    exact ⟨c :: cs, rfl⟩
theorem Ch_p (c : Ch) : isP c.d = true := by cases c <;> rfl
theorem chp {cs : List Ch} : (cs.map Ch.d).all isP = true := List.all_eq_true.mpr fun d hd => by
  obtain ⟨c, _, rfl⟩ := List.mem_map.mp hd
  exact Ch_p c
end
end L2.Pz
set_option Elab.async false
set_option linter.all false
set_option maxRecDepth 100000
set_option maxHeartbeats 4000000
set_option autoImplicit false
/-! equality of data; runs of steps -/
namespace L2.Pz
open PySem
/-- data that == and in may be asked of -/
structure ShK (k : Nat) (d : D) : Prop where
  can : PyData.canLay0 (toPy d) = true
  dep : PyData.depth (toPy d) ≤ k
theorem ShK.shp {k : Nat} {d : D} (h : ShK k d) (hk : k ≤ 64) : shp d = true := by
  unfold L2.Pz.shp SeqAt.shaped
  rw [h.can, decide_eq_true (Nat.le_trans h.dep hk)]
  rfl
theorem ShK.mono {k l : Nat} {d : D} (h : ShK k d) (hk : k ≤ l) : ShK l d := ⟨h.can, Nat.le_trans h.dep hk⟩
theorem shK_int {k : Nat} {i : Int} : ShK k (.int i) := ⟨rfl, by simp [toPy, PyData.depth]⟩
theorem shK_bl {k : Nat} {i : Bool} : ShK k (.bl i) := ⟨rfl, by simp [toPy, PyData.depth]⟩
theorem shK_non {k : Nat} : ShK k .non := ⟨rfl, by simp [toPy, PyData.depth]⟩
theorem shK_str {k : Nat} {x : Str} (h : PyData.strOk x = true) : ShK k (.str x) := ⟨h, by simp [toPy, PyData.depth]⟩
theorem shK_can {k : Nat} : ∀ {ds : List D}, (∀ d ∈ ds, ShK k d) → PyData.canLayAll0 (toPys ds) = true
  | [], _ => rfl
  | d :: ds, h => by
    show (PyData.canLay0 (toPy d) && PyData.canLayAll0 (toPys ds)) = true
    rw [(h d (by simp)).can, shK_can fun x hx => h x (List.mem_cons_of_mem _ hx)]
    rfl
theorem shK_dep {k : Nat} : ∀ {ds : List D}, (∀ d ∈ ds, ShK k d) → PyData.depthAll (toPys ds) ≤ k
  | [], _ => by show PyData.depthAll [] ≤ k; simp [PyData.depthAll]
  | d :: ds, h => by
    show PyData.depthAll (toPy d :: toPys ds) ≤ k
    have h1 := (h d (by simp)).dep
    have h2 := shK_dep (ds := ds) fun x hx => h x (List.mem_cons_of_mem _ hx)
    simp only [PyData.depthAll]
    omega
theorem shK_tup {k : Nat} {ds : List D} (h : ∀ d ∈ ds, ShK k d) : ShK (k + 1) (.tup ds) := ⟨shK_can h, by
  have := shK_dep h
  show PyData.depth (.tuple (toPys ds)) ≤ _
  simp only [PyData.depth]
  omega⟩
theorem shK_lst {k : Nat} {ds : List D} (h : ∀ d ∈ ds, ShK k d) : ShK (k + 1) (.lst ds) := ⟨shK_can h, by
  have := shK_dep h
  show PyData.depth (.list (toPys ds)) ≤ _
  simp only [PyData.depth]
  omega⟩
theorem dEq_of {d e : D} (hd : shp d = true) (he : shp e = true) : dEq d e = some (.val (.bl (deq d e))) := by
  unfold dEq; rw [hd, he]; rfl
theorem dNe_of {d e : D} (hd : shp d = true) (he : shp e = true) : dNe d e = some (.val (.bl (!deq d e))) := by
  unfold dNe; rw [hd, he]; rfl
theorem deq_refl {d : D} (h : shp d = true) : deq d d = true := PySem.SeqAt.eqv_refl _ (SeqAt.canLay_of_shaped h)
theorem dEq_refl {d : D} (h : shp d = true) : dEq d d = some (.val (.bl true)) := by rw [dEq_of h h, deq_refl h]
theorem dNe_refl {d : D} (h : shp d = true) : dNe d d = some (.val (.bl false)) := by rw [dNe_of h h, deq_refl h]; rfl
theorem shK_row {r : List Int} : ShK 1 (rT r) := shK_tup fun d hd => by
  obtain ⟨i, _, rfl⟩ := List.mem_map.mp hd
  exact shK_int
theorem shp_row {r : List Int} : shp (rT r) = true := shK_row.shp (by decide)
theorem eqv_rows : ∀ a b : List Int, PyData.eqvAll (toPys (a.map D.int)) (toPys (b.map D.int)) = decide (a = b)
  | [], [] => rfl
  | [], _ :: _ => rfl
  | _ :: _, [] => rfl
  | x :: a, y :: b => by
    show ((x == y) && PyData.eqvAll (toPys (a.map D.int)) (toPys (b.map D.int))) = _
    rw [eqv_rows a b]
    by_cases h : x = y
    · subst h; simp
    · simp [h]
theorem deq_rows {a b : List Int} : deq (rT a) (rT b) = decide (a = b) := eqv_rows a b
theorem dEq_rows {a b : List Int} : dEq (rT a) (rT b) = some (.val (.bl (decide (a = b)))) := by rw [dEq_of shp_row shp_row, deq_rows]
theorem dNe_rows {a b : List Int} : dNe (rT a) (rT b) = some (.val (.bl (!decide (a = b)))) := by rw [dNe_of shp_row shp_row, deq_rows]
theorem shK_st {e : Nat × Nat × Bool} : ShK 1 (stE e) := shK_tup fun d hd => by
  simp only [List.mem_cons, List.not_mem_nil, or_false] at hd
  rcases hd with rfl | rfl | rfl <;> exact shK_int
theorem shK_steps {es : List (Nat × Nat × Bool)} : ShK 2 (.lst (es.map stE)) := shK_lst fun d hd => by
  obtain ⟨i, _, rfl⟩ := List.mem_map.mp hd
  exact shK_st
/-! all([..]) -/
theorem asBls_f {f : D → Bool} : ∀ {ns : List D}, asBls (ns.map fun d => .bl (f d)) = some (ns.map f)
  | [] => rfl
  | d :: ns => by
    show (asBls (ns.map fun d => .bl (f d))).map (f d :: ·) = _
    rw [asBls_f]
    rfl
theorem dAll_f {f : D → Bool} {ns : List D} : dAll (.lst (ns.map fun d => .bl (f d))) = some (.val (.bl (ns.all f))) := by
  show (match asBls (ns.map fun d => D.bl (f d)) with
    | some bs => some (HV.val (.bl (bs.all id)))
    | none => none) = _
  rw [asBls_f]
  simp [List.all_map, Function.comp_def]
/-! ### runs -/
abbrev SE := Nat × Nat × Bool
def stepOf (cs : List Ch) (row : List Int) (e : SE) : Option (List Int) := match cs[e.1]? with
  | some c => stP c row e.2.1 e.2.2
  | none => none
theorem stepOf_at {cs : List Ch} {row : List Int} {e : SE} (h : e.1 < cs.length) : stepOf cs row e = stP cs[e.1] row e.2.1 e.2.2 := by
  unfold stepOf; rw [List.getElem?_eq_getElem h]
theorem stP_len1 {c : Ch} {row : List Int} {p : Nat} {w : Bool} {l : List Int} (h : stP c row p w = some l) : l.length ≤ row.length + 1 := by
  cases c with
  | held s =>
    cases w
    · simp [stP] at h
      obtain ⟨_, _, rfl⟩ := h
      simp; omega
    · simp [stP] at h
      obtain ⟨_, rfl⟩ := h
      simp; omega
  | idle s =>
    cases w <;> (
      simp [stP] at h
      obtain ⟨_, rfl⟩ := h
      simp; omega)
  | loose s t =>
    cases w <;> (
      simp [stP] at h
      obtain ⟨h, rfl⟩ := h
      have := (List.getElem?_eq_some_iff.mp h.2).1
      simp; omega)
  | same s t =>
    cases w <;> (
      simp [stP] at h
      obtain ⟨h, rfl⟩ := h
      have := (List.getElem?_eq_some_iff.mp h).1
      simp; omega)
theorem stepOf_len {cs : List Ch} {row : List Int} {e : SE} {l : List Int} (h : stepOf cs row e = some l) : l.length ≤ row.length + 1 := by
  unfold stepOf at h
  split at h
  · exact stP_len1 h
  · cases h
/-- the rows from the row on, as far as the steps can be done -/
def leads (cs : List Ch) : List Int → List SE → List (List Int)
  | row, [] => [row]
  | row, e :: es => row :: match stepOf cs row e with
    | some r => leads cs r es
    | none => []
/-- where the steps lead -/
def runs (cs : List Ch) : List Int → List SE → Option (List Int)
  | row, [] => some row
  | row, e :: es => match stepOf cs row e with
    | some r => runs cs r es
    | none => none
section
variable {cs : List Ch}
theorem leads_nil {row : List Int} : leads cs row [] = [row] := rfl
theorem leads_cons {row : List Int} {e : SE} {es : List SE} : leads cs row (e :: es) = row :: match stepOf cs row e with
    | some r => leads cs r es
    | none => [] := rfl
theorem runs_nil {row : List Int} : runs cs row [] = some row := rfl
theorem runs_cons {row : List Int} {e : SE} {es : List SE} : runs cs row (e :: es) = match stepOf cs row e with
    | some r => runs cs r es
    | none => none := rfl
theorem leads_pos : ∀ {row : List Int} {es : List SE}, 0 < (leads cs row es).length
  | row, [] => by simp [leads]
  | row, e :: es => by simp [leads]
theorem leads_le : ∀ {es : List SE} {row : List Int}, (leads cs row es).length ≤ es.length + 1
  | [], row => by simp [leads]
  | e :: es, row => by
    unfold leads
    cases stepOf cs row e with
    | none => simp
    | some r =>
      have := leads_le (es := es) (row := r)
      simp; omega
theorem leads_full : ∀ {es : List SE} {row : List Int}, ((leads cs row es).length = es.length + 1) ↔ (runs cs row es).isSome = true
  | [], row => by simp [leads, runs]
  | e :: es, row => by
    unfold leads runs
    cases h : stepOf cs row e with
    | none => simp
    | some r =>
      have := leads_full (es := es) (row := r)
      simp only [List.length_cons]
      exact ⟨fun z => this.mp (by omega), fun z => by have := this.mpr z; omega⟩
theorem leads_last : ∀ {es : List SE} {row end' : List Int}, runs cs row es = some end' → (leads cs row es)[es.length]? = some end'
  | [], row, e, h => by simp [runs] at h; simp [leads, h]
  | e :: es, row, en, h => by
    unfold runs at h
    unfold leads
    cases h2 : stepOf cs row e with
    | none => rw [h2] at h; cases h
    | some r =>
      rw [h2] at h
      simpa using leads_last (es := es) h
theorem leads_0 {es : List SE} {row : List Int} : (leads cs row es)[0]? = some row := by
  cases es <;> simp [leads]
theorem leads_len : ∀ {es : List SE} {row l : List Int}, l ∈ leads cs row es → l.length ≤ row.length + es.length
  | [], row, l, h => by simp [leads] at h; subst h; omega
  | e :: es, row, l, h => by
    unfold leads at h
    rcases List.mem_cons.mp h with rfl | h
    · omega
    · cases h2 : stepOf cs row e with
      | none => rw [h2] at h; cases h
      | some r =>
        rw [h2] at h
        have h1 := leads_len (es := es) h
        have := stepOf_len h2
        simp only [List.length_cons]
        omega
theorem runs_len : ∀ {es : List SE} {row l : List Int}, runs cs row es = some l → l.length ≤ row.length + es.length
  | [], row, l, h => by simp [runs] at h; subst h; omega
  | e :: es, row, l, h => by
    unfold runs at h
    cases h2 : stepOf cs row e with
    | none => rw [h2] at h; cases h
    | some r =>
      rw [h2] at h
      have h1 := runs_len (es := es) h
      have := stepOf_len h2
      simp only [List.length_cons]
      omega
theorem runs_app : ∀ {es fs : List SE} {row : List Int}, runs cs row (es ++ fs) = (runs cs row es).bind fun r => runs cs r fs
  | [], fs, row => rfl
  | e :: es, fs, row => by
    show (match stepOf cs row e with | some r => runs cs r (es ++ fs) | none => none) = _
    show _ = (match stepOf cs row e with | some r => runs cs r es | none => none).bind _
    cases stepOf cs row e with
    | none => rfl
    | some r => exact runs_app
/-- the row ahead of the i-th step -/
theorem leads_at : ∀ {es : List SE} {row : List Int} {i : Nat} {l : List Int}, (leads cs row es)[i]? = some l → runs cs row (es.take i) = some l
  | [], row, 0, l, h => by simpa [leads, runs] using h
  | [], row, i + 1, l, h => by simp [leads] at h
  | e :: es, row, 0, l, h => by simpa [leads, runs] using h
  | e :: es, row, i + 1, l, h => by
    unfold leads at h
    show (match stepOf cs row e with | some r => runs cs r (es.take i) | none => none) = _
    cases h2 : stepOf cs row e with
    | none => rw [h2] at h; simp at h
    | some r =>
      rw [h2] at h
      exact leads_at (by simpa using h)
/-! the way back -/
def turnE (e : SE) : SE := (e.1, e.2.1, !e.2.2)
theorem take_app {α : Type} {l : List α} {p : Nat} (h : p ≤ l.length) {x : List α} : (l.take p ++ x).take p = l.take p := by
  rw [List.take_append_of_le_length (by rw [List.length_take]; omega), List.take_take, Nat.min_self]
theorem drop_app {α : Type} {l : List α} {p k : Nat} (h : p ≤ l.length) {x : List α} : (l.take p ++ x).drop (p + k) = x.drop k := by
  have e : (l.take p).length = p := by rw [List.length_take]; omega
  rw [List.drop_append, e, List.drop_of_length_le (by omega), List.nil_append]
  congr 1; omega
theorem get_app {α : Type} {l : List α} {p k : Nat} (h : p ≤ l.length) {x : List α} : (l.take p ++ x)[p + k]? = x[k]? := by
  have e : (l.take p).length = p := by rw [List.length_take]; omega
  rw [List.getElem?_append_right (by omega), e]
  congr 1; omega
theorem get_app0 {α : Type} {l : List α} {p : Nat} (h : p ≤ l.length) {x : List α} : (l.take p ++ x)[p]? = x[0]? := get_app (k := 0) h
theorem drop_app0 {α : Type} {l : List α} {p : Nat} (h : p ≤ l.length) {x : List α} : (l.take p ++ x).drop p = x := drop_app (k := 0) h
theorem split_at {α : Type} {l : List α} {p : Nat} {v : α} (h : l[p]? = some v) : l.take p ++ v :: l.drop (p + 1) = l := by
  obtain ⟨hp, rfl⟩ := List.getElem?_eq_some_iff.mp h
  conv => rhs; rw [← List.take_append_drop p l]
  rw [List.drop_eq_getElem_cons hp]
theorem drop_cons' {α : Type} {l : List α} {p : Nat} {v : α} (h : l[p]? = some v) : l.drop p = v :: l.drop (p + 1) := by
  obtain ⟨hp, rfl⟩ := List.getElem?_eq_some_iff.mp h
  exact List.drop_eq_getElem_cons hp
theorem stP_back {c : Ch} {row r : List Int} {p : Nat} {w : Bool} (h : stP c row p w = some r) : stP c r p (!w) = some row := by
  cases c with
  | held s =>
    cases w
    · simp [stP] at h
      obtain ⟨h1, h2, rfl⟩ := h
      have hp : p ≤ row.length := Nat.le_of_lt (List.getElem?_eq_some_iff.mp h1).1
      have e0 : (row.take p ++ row.drop (p + 1))[p]? = some s := by
        rw [get_app0 hp, List.getElem?_drop]; exact h2
      simp only [stP, e0, Bool.not_false, if_true]
      rw [take_app hp]
      rw [drop_app0 hp, split_at h1]
    · simp [stP] at h
      obtain ⟨h1, rfl⟩ := h
      have hp : p ≤ row.length := Nat.le_of_lt (List.getElem?_eq_some_iff.mp h1).1
      have e0 : (row.take p ++ s :: row.drop p)[p]? = some s := by
        exact get_app0 hp
      have e1 : (row.take p ++ s :: row.drop p)[p + 1]? = some s := by
        rw [get_app hp, List.getElem?_cons_succ, List.getElem?_drop]; exact h1
      simp only [stP, e0, e1, Bool.not_true, if_true, Bool.false_eq_true, if_false]
      rw [take_app hp, drop_app hp]
      show some (row.take p ++ row.drop p) = _
      rw [List.take_append_drop]
  | idle s =>
    cases w
    · simp [stP] at h
      obtain ⟨h1, rfl⟩ := h
      have hp : p ≤ row.length := Nat.le_of_lt (List.getElem?_eq_some_iff.mp h1).1
      have hl : p ≤ (row.take p ++ row.drop (p + 1)).length := by simp; omega
      simp only [stP, Bool.not_false, if_pos hl]
      rw [take_app hp]
      rw [drop_app0 hp, split_at h1]
    · simp [stP] at h
      obtain ⟨hp, rfl⟩ := h
      have e0 : (row.take p ++ s :: row.drop p)[p]? = some s := by
        exact get_app0 hp
      simp only [stP, e0, Bool.not_true, if_true]
      rw [take_app hp, drop_app hp]
      show some (row.take p ++ row.drop p) = _
      rw [List.take_append_drop]
  | loose s t =>
    have key : ∀ u v : Int, row[p]? = some u → row[p + 1]? = some v → ((row.take p ++ v :: u :: row.drop (p + 2))[p]? = some v ∧ (row.take p ++ v :: u :: row.drop (p + 2))[p + 1]? = some u ∧ (row.take p ++ v :: u :: row.drop (p + 2)).take p ++ u :: v :: (row.take p ++ v :: u :: row.drop (p + 2)).drop (p + 2) = row) := by
      intro u v h1 h2
      have hp : p ≤ row.length := Nat.le_of_lt (List.getElem?_eq_some_iff.mp h1).1
      refine ⟨?_, ?_, ?_⟩
      · exact get_app0 hp
      · rw [get_app hp]; rfl
      · rw [take_app hp, drop_app hp]
        show row.take p ++ u :: v :: row.drop (p + 2) = row
        rw [← drop_cons' h2]
        exact split_at h1
    cases w
    · simp [stP] at h
      obtain ⟨⟨h1, h2⟩, rfl⟩ := h
      obtain ⟨k1, k2, k3⟩ := key _ _ h1 h2
      simp [stP, k1, k2, k3]
    · simp [stP] at h
      obtain ⟨⟨h1, h2⟩, rfl⟩ := h
      obtain ⟨k1, k2, k3⟩ := key _ _ h1 h2
      simp [stP, k1, k2, k3]
  | same s t =>
    have key : ∀ u v : Int, row[p]? = some u → ((row.take p ++ v :: row.drop (p + 1))[p]? = some v ∧ (row.take p ++ v :: row.drop (p + 1)).take p ++ u :: (row.take p ++ v :: row.drop (p + 1)).drop (p + 1) = row) := by
      intro u v h1
      have hp : p ≤ row.length := Nat.le_of_lt (List.getElem?_eq_some_iff.mp h1).1
      refine ⟨?_, ?_⟩
      · exact get_app0 hp
      · rw [take_app hp, drop_app hp]
        exact split_at h1
    cases w
    · simp [stP] at h
      obtain ⟨h1, rfl⟩ := h
      obtain ⟨k1, k2⟩ := key _ s h1
      simp [stP, k1, k2]
    · simp [stP] at h
      obtain ⟨h1, rfl⟩ := h
      obtain ⟨k1, k2⟩ := key _ t h1
      simp [stP, k1, k2]
theorem stepOf_back {row r : List Int} {e : SE} (h : stepOf cs row e = some r) : stepOf cs r (turnE e) = some row := by
  unfold stepOf at h ⊢
  show (match cs[e.1]? with | some c => stP c r e.2.1 (!e.2.2) | none => none) = _
  cases hc : cs[e.1]? with
  | none => rw [hc] at h; cases h
  | some c => rw [hc] at h; exact stP_back h
theorem runs_back : ∀ {es : List SE} {row r : List Int}, runs cs row es = some r → runs cs r (es.map turnE).reverse = some row
  | [], row, r, h => by simp [runs] at h; simp [runs, h]
  | e :: es, row, r, h => by
    unfold runs at h
    cases h2 : stepOf cs row e with
    | none => rw [h2] at h; cases h
    | some l =>
      rw [h2] at h
      have := runs_back (es := es) h
      rw [List.map_cons, List.reverse_cons, runs_app, this]
      show runs cs l [turnE e] = _
      unfold runs
      rw [stepOf_back h2]
      rfl
end
theorem take1_iff {α : Type} {l : List α} {p : Nat} {v : α} : (l.drop p).take 1 = [v] ↔ l[p]? = some v := by
  by_cases hp : p < l.length
  · rw [List.drop_eq_getElem_cons hp, List.getElem?_eq_getElem hp, List.take_succ_cons, List.take_zero]; simp
  · rw [List.drop_of_length_le (by omega), List.getElem?_eq_none (by omega)]; simp
theorem take2_iff {α : Type} {l : List α} {p : Nat} {u v : α} : (l.drop p).take 2 = [u, v] ↔ l[p]? = some u ∧ l[p + 1]? = some v := by
  by_cases hp : p < l.length
  · rw [List.drop_eq_getElem_cons hp, List.getElem?_eq_getElem hp, List.take_succ_cons]
    have := take1_iff (l := l) (p := p + 1) (v := v)
    rw [← this, List.cons.injEq, Option.some.injEq]
  · rw [List.drop_of_length_le (by omega), List.getElem?_eq_none (by omega)]; simp
theorem cut_pk {ds : List D} {p k : Nat} : cutD ds (some (p : Int)) (some ((p : Int) + (k : Int))) = (ds.drop p).take k := by
  have e : ((p : Int) + (k : Int)) = ((p + k : Nat) : Int) := by omega
  unfold cutD
  rw [e, HT.sIx_nat, HT.sIx_nat]
  by_cases h : p ≤ ds.length
  · rw [Nat.min_eq_left h]
    by_cases h2 : p + k ≤ ds.length
    · rw [Nat.min_eq_left h2]
      congr 1
      omega
    · rw [Nat.min_eq_right (by omega), List.take_of_length_le (by rw [List.length_drop]; omega), List.take_of_length_le (by rw [List.length_drop]; omega)]
  · rw [Nat.min_eq_right (by omega), Nat.min_eq_right (by omega), List.drop_of_length_le (by omega), List.drop_of_length_le (by omega)]
    simp
theorem cut_fromk {ds : List D} {p k : Nat} : cutD ds (some ((p : Int) + (k : Int))) none = ds.drop (p + k) := by
  have e : ((p : Int) + (k : Int)) = ((p + k : Nat) : Int) := by omega
  rw [e, cut_from]
/-- what stands at the place is replaced -/
def swapP (bf bh : List Int) (row : List Int) (p : Nat) : Option (List Int) := if p ≤ row.length ∧ (row.drop p).take bf.length = bf then some (row.take p ++ bh ++ row.drop (p + bf.length)) else none
theorem get_lt {row : List Int} {p : Nat} {v : Int} (h : row[p]? = some v) : p ≤ row.length := Nat.le_of_lt (List.getElem?_eq_some_iff.mp h).1
theorem swap_held {v : Int} {row : List Int} {p : Nat} {w : Bool} : stP (.held v) row p w = swapP (if w = true then [v] else [v, v]) (if w = true then [v, v] else [v]) row p := by
  cases w
  · unfold swapP stP
    simp only [Bool.false_eq_true, if_false, List.length_cons, List.length_nil, Nat.zero_add, Nat.reduceAdd, take2_iff]
    by_cases h1 : row[p]? = some v
    · by_cases h2 : row[p + 1]? = some v
      · rw [if_pos h1, if_pos h2, if_pos ⟨get_lt h1, h1, h2⟩, drop_cons' h2]
        simp
      · rw [if_pos h1, if_neg h2, if_neg fun z => h2 z.2.2]
    · rw [if_neg h1, if_neg fun z => h1 z.2.1]
  · unfold swapP stP
    simp only [if_true, List.length_cons, List.length_nil, Nat.zero_add, take1_iff]
    by_cases h1 : row[p]? = some v
    · rw [if_pos h1, if_pos ⟨get_lt h1, h1⟩, drop_cons' h1]
      simp
    · rw [if_neg h1, if_neg fun z => h1 z.2]
theorem swap_idle {v : Int} {row : List Int} {p : Nat} {w : Bool} : stP (.idle v) row p w = swapP (if w = true then [] else [v]) (if w = true then [v] else []) row p := by
  cases w
  · unfold swapP stP
    simp only [Bool.false_eq_true, if_false, List.length_cons, List.length_nil, Nat.zero_add, take1_iff]
    by_cases h1 : row[p]? = some v
    · rw [if_pos h1, if_pos ⟨get_lt h1, h1⟩]
      simp
    · rw [if_neg h1, if_neg fun z => h1 z.2]
  · unfold swapP stP
    simp
theorem swap_same {u v : Int} {row : List Int} {p : Nat} {w : Bool} : stP (.same u v) row p w = swapP [if w = true then u else v] [if w = true then v else u] row p := by
  unfold swapP stP
  simp only [List.length_cons, List.length_nil, Nat.zero_add, take1_iff]
  generalize (if w = true then u else v) = x
  generalize (if w = true then v else u) = y
  by_cases h1 : row[p]? = some x
  · rw [if_pos h1, if_pos ⟨get_lt h1, h1⟩]
    simp
  · rw [if_neg h1, if_neg fun z => h1 z.2]
theorem swap_loose {u v : Int} {row : List Int} {p : Nat} {w : Bool} : stP (.loose u v) row p w = swapP [if w = true then u else v, if w = true then v else u] [if w = true then v else u, if w = true then u else v] row p := by
  unfold swapP stP
  simp only [List.length_cons, List.length_nil, Nat.zero_add, Nat.reduceAdd, take2_iff]
  generalize (if w = true then u else v) = x
  generalize (if w = true then v else u) = y
  by_cases h1 : row[p]? = some x ∧ row[p + 1]? = some y
  · rw [if_pos h1, if_pos ⟨get_lt h1.1, h1⟩]
    simp
  · rw [if_neg h1, if_neg fun z => h1 z.2]
/-! things that may be paths -/
def seOf : D → SE
  | .tup [.int n, .int p, .int w] => (n.toNat, p.toNat, decide (w = 1))
  | _ => (0, 0, false)
theorem st_of {m : Nat} {d : D} (h : stB m d = true) : d = stE (seOf d) ∧ (seOf d).1 < m := by
  unfold stB at h
  split at h
  · rename_i x y z
    obtain ⟨h1, h⟩ := Bool.and_eq_true_iff.mp h
    obtain ⟨h2, h3⟩ := Bool.and_eq_true_iff.mp h
    cases x with
    | int n =>
      cases y with
      | int p =>
        cases z with
        | int w =>
          obtain ⟨a1, a2⟩ := Bool.and_eq_true_iff.mp h1
          obtain ⟨b1, b2⟩ := Bool.and_eq_true_iff.mp h3
          have a1 := of_decide_eq_true a1
          have a2 := of_decide_eq_true a2
          have b1 := of_decide_eq_true b1
          have b2 := of_decide_eq_true b2
          have c1 := of_decide_eq_true h2
          refine ⟨?_, show n.toNat < m by omega⟩
          show D.tup [.int n, .int p, .int w] = D.tup [.int n.toNat, .int p.toNat, .int (wI (decide (w = 1)))]
          have e1 : ((n.toNat : Nat) : Int) = n := by omega
          have e2 : ((p.toNat : Nat) : Int) = p := by omega
          have e3 : wI (decide (w = 1)) = w := by
            rcases (by omega : w = 0 ∨ w = 1) with rfl | rfl <;> rfl
          rw [e1, e2, e3]
        | _ => cases h3
      | _ => cases h2
    | _ => cases h1
  · cases h
theorem seOf_stE {e : SE} : seOf (stE e) = e := by
  obtain ⟨n, p, w⟩ := e
  cases w <;> rfl
/-- is_path of any value -/
def pathB (cs : List Ch) (row other : List Int) : D → Bool
  | .tup xs => xs.all (stB cs.length) && (runs cs row (xs.map seOf) == some other)
  | _ => false
theorem pathB_steps {cs : List Ch} {row other : List Int} {es : List SE} (h : ∀ e ∈ es, e.1 < cs.length) : pathB cs row other (.tup (es.map stE)) = (runs cs row es == some other) := by
  show ((es.map stE).all (stB cs.length) && (runs cs row ((es.map stE).map seOf) == some other)) = _
  have h1 : (es.map stE).all (stB cs.length) = true := List.all_eq_true.mpr fun d hd => by
    obtain ⟨e, he, rfl⟩ := List.mem_map.mp hd
    exact isstE (h e he)
  have h2 : (es.map stE).map seOf = es := by
    rw [List.map_map]
    conv => rhs; rw [← List.map_id es]
    exact List.map_congr_left fun e _ => seOf_stE
  rw [h1, h2]
  rfl
end L2.Pz
set_option Elab.async false
set_option linter.all false
set_option maxRecDepth 100000
set_option maxHeartbeats 4000000
set_option autoImplicit false
namespace K10
open PySem PySem.Spec PyProof.Rows L2 L2.Pz
/-! ### what the defs compute -/
def isM : Str → Str → Option Bool := excOf [("AskError", [("BadPath", false)]), ("TextError", [("BadPath", false)]), ("DataError", [("BadPath", false)]), ("BadStep", [("BadPath", false)]), ("CallError", [("BadPath", true)]), ("ValueError", [("BadPath", true)])]
def excM : Str → Str → Option Bool := excOf [("HeardError", [("BadPath", true)]), ("BadPath", [("BadPath", true)])]
def B_l_chest_7 : SF := (sSet 2 (eBin dMod (eUn dToInt (eBin dAdd (eBin dAdd (eBin dAdd (eBin dMul (eName 2) (eC (.int 65599))) (eBin dMod (eName 4) (eC (.int 4294967291)))) (eName 3)) (eC (.int 1)))) (eC (.int 4294967291))))
def B_l_chest_5 : SF := (sSeq (sIf (bCmp dGe (eName 4) (eBin dPow (eC (.int 10)) (eC (.int 18)))) (sApp 1 (eName 4)) sNext) B_l_chest_7)
def B_l_chest_4 : SF := (sSeq (sSet 4 (eBin dMod (eUn dAbs (eUn dToInt (eBin dIx (eName 0) (eName 3)))) (eBin dShl (eC (.int 1)) (eC (.int 2000))))) B_l_chest_5)
def B_l_chest_8 : SF := (sRet (eLstJ [(eName 1), (eName 2), (eC (.int 10))]))
def B_l_chest_3 : SF := (sSeq (sFor (iRange1 (eUn dLen (eName 0))) (tgName 3) B_l_chest_4) B_l_chest_8)
def B_l_chest_2 : SF := (sSeq (sSet 2 (eC (.int 0))) B_l_chest_3)
def B_l_chest : SF := (sSeq (sNew 1 (eLst [])) B_l_chest_2)
def F_l_chest : FT := mkF 5 B_l_chest
def B_l_lift_8 : SF := (sRet (eBin dMod (eName 3) (eName 1)))
def B_l_lift_6 : SF := (sSeq (sIf (bCmp dEq (eBin dFloor (eName 3) (eName 1)) (eC (.int 0))) (sExpr (ePop0 2)) sNext) B_l_lift_8)
def B_l_lift_5 : SF := (sSeq (sSetI 2 (eBin dSub (eUn dLen (eName 2)) (eC (.int 1))) (eBin dFloor (eName 3) (eName 1))) B_l_lift_6)
def B_l_lift_4 : SF := (sSeq (sSet 3 (eUn dToInt (eBin dIx (eName 2) (eBin dSub (eUn dLen (eName 2)) (eC (.int 1)))))) B_l_lift_5)
def B_l_lift_10 : SF := (sRet (eBin dMod (eUn dToInt (eBin dFloor (eIxJ 0 (eC (.int 1))) (eC (.int 19)))) (eName 1)))
def B_l_lift_9 : SF := (sSeq (sSetI 0 (eC (.int 1)) (eBin dMod (eUn dToInt (eBin dAdd (eBin dAdd (eBin dMul (eIxJ 0 (eC (.int 1))) (eC (.int 279470273))) (eBin dMul (eIxJ 0 (eC (.int 2))) (eC (.int 40503)))) (eC (.int 1)))) (eC (.int 4294967291)))) B_l_lift_10)
def B_l_lift_3 : SF := (sSeq (sIf (bCmp dGt (eUn dLen (eName 2)) (eC (.int 0))) B_l_lift_4 sNext) B_l_lift_9)
def B_l_lift_2 : SF := (sSeq (sSet 2 (eIxJ 0 (eC (.int 0)))) B_l_lift_3)
def B_l_lift : SF := (sSeq (sSetI 0 (eC (.int 2)) (eBin dAdd (eIxJ 0 (eC (.int 2))) (eC (.int 1)))) B_l_lift_2)
def F_l_lift : FT := mkF 4 B_l_lift
def B_l_setting_4 : SF := (sFor (iRange2 (eName 4) (eName 1)) (tgName 7) (sNew 3 (eBin dAdd (eBin dAdd (eName 3) (eLc (iAny (eSl (eName 2) none (some (eC (.int 2))))) (tgName 8) (bCmp dEq (eName 4) (eName 7)) (eTup [(eName 8), (eName 4)]) [8])) (eLc (iAny (eSl (eName 2) (some (eC (.int 2))) none)) (tgName 8) (bCmp dNe (eName 4) (eName 7)) (eTup [(eName 8), (eName 4), (eName 7)]) [8]))))
def B_l_setting_9 : SF := (sRet (eTup [(eUn dTuple (eSl (eLst [(eC (.str "x")), (eC (.str "y1")), (eC (.str "go")), (eC (.str "stop")), (eC (.str "hm"))]) none (some (eName 1)))), (eUn dTuple (eName 5))]))
def B_l_setting_7 : SF := (sSeq (sFor (iRange1 (eBin dMin (eUn dLen (eName 3)) (eBin dIx (eLst [(eC (.int 0)), (eC (.int 2)), (eC (.int 5)), (eC (.int 12)), (eC (.int 12))]) (eCall F_l_lift [(eName 0), (eC (.int 5))])))) (tgName 6) (sApp 5 (ePop 3 (eCall F_l_lift [(eName 0), (eUn dLen (eName 3))])))) B_l_setting_9)
def B_l_setting_6 : SF := (sSeq (sNew 5 (eLst [])) B_l_setting_7)
def B_l_setting_3 : SF := (sSeq (sFor (iRange1 (eName 1)) (tgName 4) B_l_setting_4) B_l_setting_6)
def B_l_setting_2 : SF := (sSeq (sNew 3 (eLst [])) B_l_setting_3)
def B_l_setting : SF := (sSeq (sSet 2 (eLst [(eC (.str "held")), (eC (.str "idle")), (eC (.str "loose")), (eC (.str "same"))])) B_l_setting_2)
def F_l_setting : FT := mkF 9 B_l_setting
def B_l_row : SF := (sRet (eUn dTuple (eLc (iRange1 (eName 2)) (tgName 3) bYes (eCall F_l_lift [(eName 0), (eName 1)]) [3])))
def F_l_row : FT := mkF 4 B_l_row
def B_held_step : SF := (sSeq (sIf (bOr (bCmp dGe (eName 2) (eUn dLen (eName 0))) (bCmp dNe (eBin dIx (eName 0) (eName 2)) (eName 1))) (sRet (eNorm (eC .non))) sNext)
  (sSeq (sIf (bCmp dEq (eName 3) (eC (.int 1))) (sRet (eBin dAdd (eBin dAdd (eSl (eName 0) none (some (eName 2))) (eTup [(eName 1)])) (eSl (eName 0) (some (eName 2)) none))) sNext)
  (sSeq (sIf (bOr (bCmp dGe (eBin dAdd (eName 2) (eC (.int 1))) (eUn dLen (eName 0))) (bCmp dNe (eBin dIx (eName 0) (eBin dAdd (eName 2) (eC (.int 1)))) (eName 1))) (sRet (eNorm (eC .non))) sNext)
  (sRet (eBin dAdd (eSl (eName 0) none (some (eName 2))) (eSl (eName 0) (some (eBin dAdd (eName 2) (eC (.int 1)))) none))))))
def F_held_step : FT := mkF 4 B_held_step
def B_idle_step : SF := (sSeq (sIf (bCmp dEq (eName 3) (eC (.int 1))) (sRet (eIf (bCmp dLe (eName 2) (eUn dLen (eName 0))) (eBin dAdd (eBin dAdd (eSl (eName 0) none (some (eName 2))) (eTup [(eName 1)])) (eSl (eName 0) (some (eName 2)) none)) (eNorm (eC .non)))) sNext)
  (sSeq (sIf (bOr (bCmp dGe (eName 2) (eUn dLen (eName 0))) (bCmp dNe (eBin dIx (eName 0) (eName 2)) (eName 1))) (sRet (eNorm (eC .non))) sNext)
  (sRet (eBin dAdd (eSl (eName 0) none (some (eName 2))) (eSl (eName 0) (some (eBin dAdd (eName 2) (eC (.int 1)))) none)))))
def F_idle_step : FT := mkF 4 B_idle_step
def B_loose_step : SF := (sSeq (sAsg (tgSeq [5, 6]) (eIf (bCmp dEq (eName 4) (eC (.int 1))) (eTup [(eName 1), (eName 2)]) (eTup [(eName 2), (eName 1)])))
  (sSeq (sIf (bCmp dNe (eSl (eName 0) (some (eName 3)) (some (eBin dAdd (eName 3) (eC (.int 2))))) (eTup [(eName 5), (eName 6)])) (sRet (eNorm (eC .non))) sNext)
  (sRet (eBin dAdd (eBin dAdd (eSl (eName 0) none (some (eName 3))) (eTup [(eName 6), (eName 5)])) (eSl (eName 0) (some (eBin dAdd (eName 3) (eC (.int 2)))) none)))))
def F_loose_step : FT := mkF 7 B_loose_step
def B_same_step : SF := (sSeq (sAsg (tgSeq [5, 6]) (eIf (bCmp dEq (eName 4) (eC (.int 1))) (eTup [(eName 1), (eName 2)]) (eTup [(eName 2), (eName 1)])))
  (sSeq (sIf (bOr (bCmp dGe (eName 3) (eUn dLen (eName 0))) (bCmp dNe (eBin dIx (eName 0) (eName 3)) (eName 5))) (sRet (eNorm (eC .non))) sNext)
  (sRet (eBin dAdd (eBin dAdd (eSl (eName 0) none (some (eName 3))) (eTup [(eName 6)])) (eSl (eName 0) (some (eBin dAdd (eName 3) (eC (.int 1)))) none)))))
def F_same_step : FT := mkF 7 B_same_step
def B_stepped : SF := (sSeq (sAsg (tgSeq [4, 5, 6]) (eName 2))
  (sSeq (sSet 3 (eBin dIx (eBin dIx (eName 0) (eC (.int 1))) (eName 4)))
  (sSeq (sIf (bCmp dEq (eBin dIx (eName 3) (eC (.int 0))) (eC (.str "held"))) (sRet (eCall F_held_step [(eName 1), (eBin dIx (eName 3) (eC (.int 1))), (eName 5), (eName 6)])) sNext)
  (sSeq (sIf (bCmp dEq (eBin dIx (eName 3) (eC (.int 0))) (eC (.str "idle"))) (sRet (eCall F_idle_step [(eName 1), (eBin dIx (eName 3) (eC (.int 1))), (eName 5), (eName 6)])) sNext)
  (sSeq (sIf (bCmp dEq (eBin dIx (eName 3) (eC (.int 0))) (eC (.str "loose"))) (sRet (eCall F_loose_step [(eName 1), (eBin dIx (eName 3) (eC (.int 1))), (eBin dIx (eName 3) (eC (.int 2))), (eName 5), (eName 6)])) sNext)
  (sRet (eCall F_same_step [(eName 1), (eBin dIx (eName 3) (eC (.int 1))), (eBin dIx (eName 3) (eC (.int 2))), (eName 5), (eName 6)])))))))
def F_stepped : FT := mkF 7 B_stepped
def B_run_steps : SF := (sSeq (sNew 3 (eLst [(eName 1)]))
  (sSeq (sFor (iEnumD (eName 2)) (tgSeq [4, 5]) (sSeq (sSet 1 (eCall F_stepped [(eName 0), (eName 1), (eName 5)]))
  (sSeq (sIf (fun env J => toB (eUn dIsN (eName 1) env J)) (sRaise "BadPath" ["at"] [(eName 4)]) sNext)
  (sApp 3 (eName 1)))))
  (sRet (eUn dTuple (eName 3)))))
def F_run_steps : FT := mkF 6 B_run_steps
def B_l_hear_4 : SF := (sSet 7 (eIf (bCmp dEq (eName 4) (eC (.int 1))) (eTup [(eBin dIx (eName 5) (eC (.int 1)))]) (eTup [])))
def B_l_hear_3 : SF := (sSeq (sSet 6 (eIf (bCmp dEq (eName 4) (eC (.int 1))) (eTup []) (eTup [(eBin dIx (eName 5) (eC (.int 1)))]))) B_l_hear_4)
def B_l_hear_7 : SF := (sSet 7 (eBin dRepT (eTup [(eBin dIx (eName 5) (eC (.int 1)))]) (eBin dAdd (eC (.int 1)) (eName 4))))
def B_l_hear_6 : SF := (sSeq (sSet 6 (eBin dRepT (eTup [(eBin dIx (eName 5) (eC (.int 1)))]) (eBin dSub (eC (.int 2)) (eName 4)))) B_l_hear_7)
def B_l_hear_10 : SF := (sSet 7 (eTup [(eBin dIx (eName 5) (eBin dAdd (eC (.int 1)) (eName 4)))]))
def B_l_hear_9 : SF := (sSeq (sSet 6 (eTup [(eBin dIx (eName 5) (eBin dSub (eC (.int 2)) (eName 4)))])) B_l_hear_10)
def B_l_hear_13 : SF := (sSet 7 (eTup [(eBin dIx (eName 5) (eBin dAdd (eC (.int 1)) (eName 4))), (eBin dIx (eName 5) (eBin dSub (eC (.int 2)) (eName 4)))]))
def B_l_hear_12 : SF := (sSeq (sSet 6 (eTup [(eBin dIx (eName 5) (eBin dSub (eC (.int 2)) (eName 4))), (eBin dIx (eName 5) (eBin dAdd (eC (.int 1)) (eName 4)))])) B_l_hear_13)
def B_l_hear_16 : SF := (sRet (eBin dAdd (eBin dAdd (eSl (eName 1) none (some (eName 3))) (eName 7)) (eSl (eName 1) (some (eBin dAdd (eName 3) (eUn dLen (eName 6)))) none)))
def B_l_hear_14 : SF := (sSeq (sIf (bOr (bCmp dGt (eName 3) (eUn dLen (eName 1))) (bCmp dNe (eSl (eName 1) (some (eName 3)) (some (eBin dAdd (eName 3) (eUn dLen (eName 6))))) (eName 6))) (sRet (eNorm (eC .non))) sNext) B_l_hear_16)
def B_l_hear_2 : SF := (sSeq (sIf (bCmp dEq (eBin dIx (eName 5) (eC (.int 0))) (eC (.str "idle"))) B_l_hear_3 (sIf (bCmp dEq (eBin dIx (eName 5) (eC (.int 0))) (eC (.str "held"))) B_l_hear_6 (sIf (bCmp dEq (eBin dIx (eName 5) (eC (.int 0))) (eC (.str "same"))) B_l_hear_9 B_l_hear_12))) B_l_hear_14)
def B_l_hear : SF := (sSeq (sSet 5 (eBin dIx (eBin dIx (eName 0) (eC (.int 1))) (eName 2))) B_l_hear_2)
def F_l_hear : FT := mkF 8 B_l_hear
def B_l_leads_6 : SF := (sApp 3 (eName 1))
def B_l_leads_4 : SF := (sSeq (sIf (fun env J => toB (eUn dIsN (eName 1) env J)) sBreak sNext) B_l_leads_6)
def B_l_leads_3 : SF := (sSeq (sSet 1 (eCall F_l_hear [(eName 0), (eName 1), (eBin dIx (eName 4) (eC (.int 0))), (eBin dIx (eName 4) (eC (.int 1))), (eBin dIx (eName 4) (eC (.int 2)))])) B_l_leads_4)
def B_l_leads_7 : SF := (sRet (eNorm (eName 3)))
def B_l_leads_2 : SF := (sSeq (sFor (iAny (eName 2)) (tgName 4) B_l_leads_3) B_l_leads_7)
def B_l_leads : SF := (sSeq (sNew 3 (eLst [(eName 1)])) B_l_leads_2)
def F_l_leads : FT := mkF 5 B_l_leads
def B_l_row_is_4 : SF := (sIf (bOr (bNot (bTruth (eUn (dIsa "int") (eBin dIx (eName 0) (eName 2))))) (bOr (bTruth (eUn (dIsa "bool") (eBin dIx (eName 0) (eName 2)))) (bCmp dNe (eBin dIx (eName 0) (eName 2)) (eBin dIx (eName 1) (eName 2))))) (sRet (eNorm (eC (.bl false)))) sNext)
def B_l_row_is_6 : SF := (sRet (eNorm (eC (.bl true))))
def B_l_row_is_3 : SF := (sSeq (sFor (iRange1 (eUn dLen (eName 1))) (tgName 2) B_l_row_is_4) B_l_row_is_6)
def B_l_row_is : SF := (sSeq (sIf (bOr (bNot (bTruth (eUn (dIsa "tuple") (eName 0)))) (bCmp dNe (eUn dLen (eName 0)) (eUn dLen (eName 1)))) (sRet (eNorm (eC (.bl false)))) sNext) B_l_row_is_3)
def F_l_row_is : FT := mkF 3 B_l_row_is
def B_l_rows_are_4 : SF := (sIf (bNot (bTruth (eCall F_l_row_is [(eBin dIx (eName 0) (eName 2)), (eBin dIx (eName 1) (eName 2))]))) (sRet (eNorm (eC (.bl false)))) sNext)
def B_l_rows_are_6 : SF := (sRet (eNorm (eC (.bl true))))
def B_l_rows_are_3 : SF := (sSeq (sFor (iRange1 (eUn dLen (eName 1))) (tgName 2) B_l_rows_are_4) B_l_rows_are_6)
def B_l_rows_are : SF := (sSeq (sIf (bOr (bNot (bTruth (eUn (dIsa "tuple") (eName 0)))) (bCmp dNe (eUn dLen (eName 0)) (eUn dLen (eName 1)))) (sRet (eNorm (eC (.bl false)))) sNext) B_l_rows_are_3)
def F_l_rows_are : FT := mkF 3 B_l_rows_are
def B_l_runs_12 : SF := (sRet (eAnd (eBin dEq (eUn dLen (eName 4)) (eBin dAdd (eUn dLen (eName 2)) (eC (.int 1)))) (eCall F_l_rows_are [(eName 5), (eName 4)])))
def B_l_runs_2 : SF := (sSeq (sTry excM (sSet 5 (eIf (bTruth (eName 3)) (eCallK F_run_steps [0, 1, 2] [(eName 0), (eName 1), (eName 2)]) (eCall F_run_steps [(eName 0), (eName 1), (eName 2)]))) [("BadPath", (some 6), fun c fs => (sFor1 "BadPath" c (sSeq (sIf (bOr (bTruth (eIsET isM 6 ["BadStep", "DataError", "TextError", "AskError"] c)) (bNot (bTruth (eIsE isM 6 "CallError" c)))) (sRet (eNorm (eC (.bl false)))) sNext)
  (sSeq (sIf (bOr (bNot (bTruth (eIsE isM 6 "ValueError" c))) (bOr (bNot (bTruth (eUn (dIsa "int") (eFld 6 "at" fs)))) (bTruth (eUn (dIsa "bool") (eFld 6 "at" fs))))) (sRet (eNorm (eC (.bl false)))) sNext)
  (sRet (eAnd (eBin dLe (eUn dLen (eName 4)) (eUn dLen (eName 2))) (eBin dEq (eFld 6 "at" fs) (eBin dSub (eUn dLen (eName 4)) (eC (.int 1)))))))))), ("HeardError", none, fun c fs => (sRet (eNorm (eC (.bl false)))))]) B_l_runs_12)
def B_l_runs : SF := (sSeq (sSet 4 (eCall F_l_leads [(eName 0), (eName 1), (eName 2)])) B_l_runs_2)
def F_l_runs : FT := mkF 7 B_l_runs
def B_is_integer : SF := (sRet (eAnd (eUn (dIsa "int") (eName 0)) (eNot (eUn (dIsa "bool") (eName 0)))))
def F_is_integer : FT := mkF 1 B_is_integer
def B_integer_within : SF := (sRet (eAnd (eCall F_is_integer [(eName 0)]) (eChain dLe dLe (eName 1) (eName 0) (eName 2))))
def F_integer_within : FT := mkF 3 B_integer_within
def B_is_number : SF := (sRet (eCall F_integer_within [(eName 0), (eC (.int 0)), (eBin dSub (eName 1) (eC (.int 1)))]))
def F_is_number : FT := mkF 2 B_is_number
def B_tuple_of : SF := (sRet (eAnd (eUn (dIsa "tuple") (eName 0)) (eBin dEq (eUn dLen (eName 0)) (eName 1))))
def F_tuple_of : FT := mkF 2 B_tuple_of
def B_is_step : SF := (sSeq (sIf (bOr (bNot (bTruth (eCall F_tuple_of [(eName 1), (eC (.int 3))]))) (bNot (bTruth (eCall F_is_number [(eBin dIx (eName 1) (eC (.int 0))), (eUn dLen (eBin dIx (eName 0) (eC (.int 1))))])))) (sRet (eNorm (eC (.bl false)))) sNext)
  (sRet (eAnd (eCall F_is_integer [(eBin dIx (eName 1) (eC (.int 1)))]) (eAnd (eBin dGe (eBin dIx (eName 1) (eC (.int 1))) (eC (.int 0))) (eCall F_integer_within [(eBin dIx (eName 1) (eC (.int 2))), (eC (.int 0)), (eC (.int 1))])))))
def F_is_step : FT := mkF 2 B_is_step
def B_is_path : SF := (sSeq (sIf (bOr (bNot (bTruth (eUn (dIsa "tuple") (eName 3)))) (bNot (bTruth (eUn dAll (eLc (iAny (eName 3)) (tgName 4) bYes (eCall F_is_step [(eName 0), (eName 4)]) [4]))))) (sRet (eNorm (eC (.bl false)))) sNext)
  (sSeq (sFor (iAny (eName 3)) (tgName 4) (sSeq (sSet 1 (eCall F_stepped [(eName 0), (eName 1), (eName 4)]))
  (sIf (fun env J => toB (eUn dIsN (eName 1) env J)) (sRet (eNorm (eC (.bl false)))) sNext)))
  (sRet (eBin dEq (eName 1) (eName 2)))))
def F_is_path : FT := mkF 5 B_is_path
def B_l_is_2 : SF := (sRet (eIf (bTruth (eName 4)) (eBin dIsB (eName 6) (eC (.bl true))) (eBin dIsB (eName 6) (eC (.bl false)))))
def B_l_is : SF := (sSeq (sSet 6 (eIf (bTruth (eName 5)) (eCallK F_is_path [0, 1, 2, 3] [(eName 0), (eName 1), (eName 2), (eName 3)]) (eCall F_is_path [(eName 0), (eName 1), (eName 2), (eName 3)]))) B_l_is_2)
def F_l_is : FT := mkF 7 B_l_is
def B_l_walk_12 : SF := (sIf (bAnd (fun env J => toB (eUn dNotN (eName 15) env J)) (bCmp dLe (eUn dLen (eName 15)) (eName 4))) (sApp 8 (eTup [(eName 12), (eName 14), (eName 13)])) sNext)
def B_l_walk_11 : SF := (sSeq (sSet 15 (eCall F_l_hear [(eName 1), (eName 2), (eName 12), (eName 14), (eName 13)])) B_l_walk_12)
def B_l_walk_14 : SF := (sIf (bCmp dGt (eUn dLen (eName 8)) (eC (.int 0))) sBreak sNext)
def B_l_walk_10 : SF := (sSeq (sFor (iRange1 (eBin dAdd (eUn dLen (eName 2)) (eC (.int 1)))) (tgName 14) B_l_walk_11) B_l_walk_14)
def B_l_walk_9 : SF := (sSeq (sSet 13 (eBin dMod (eUn dToInt (eBin dFloor (eBin dAdd (eName 10) (eName 11)) (eUn dLen (eBin dIx (eName 1) (eC (.int 1)))))) (eC (.int 2)))) B_l_walk_10)
def B_l_walk_8 : SF := (sSeq (sSet 12 (eBin dMod (eUn dToInt (eBin dAdd (eName 10) (eName 11))) (eUn dLen (eBin dIx (eName 1) (eC (.int 1)))))) B_l_walk_9)
def B_l_walk_7 : SF := (sFor (iRange1 (eBin dMul (eUn dLen (eBin dIx (eName 1) (eC (.int 1)))) (eC (.int 2)))) (tgName 11) B_l_walk_8)
def B_l_walk_6 : SF := (sSeq (sSet 10 (eCall F_l_lift [(eName 0), (eBin dMul (eUn dLen (eBin dIx (eName 1) (eC (.int 1)))) (eC (.int 2)))])) B_l_walk_7)
def B_l_walk_21 : SF := (sApp 6 (eName 2))
def B_l_walk_20 : SF := (sSeq (sApp 5 (eName 9)) B_l_walk_21)
def B_l_walk_19 : SF := (sSeq (sSet 2 (eCall F_l_hear [(eName 1), (eName 2), (eBin dIx (eName 9) (eC (.int 0))), (eBin dIx (eName 9) (eC (.int 1))), (eBin dIx (eName 9) (eC (.int 2)))])) B_l_walk_20)
def B_l_walk_18 : SF := (sSeq (sSet 9 (eBin dIx (eName 8) (eCall F_l_lift [(eName 0), (eUn dLen (eName 8))]))) B_l_walk_19)
def B_l_walk_16 : SF := (sSeq (sIf (bCmp dEq (eUn dLen (eName 8)) (eC (.int 0))) sBreak sNext) B_l_walk_18)
def B_l_walk_5 : SF := (sSeq (sIf (bCmp dGt (eUn dLen (eBin dIx (eName 1) (eC (.int 1)))) (eC (.int 0))) B_l_walk_6 sNext) B_l_walk_16)
def B_l_walk_4 : SF := (sSeq (sNew 8 (eLst [])) B_l_walk_5)
def B_l_walk_22 : SF := (sRetZ [(eUn dTuple (eName 5)), (eName 6)])
def B_l_walk_3 : SF := (sSeq (sFor (iRange1 (eName 3)) (tgName 7) B_l_walk_4) B_l_walk_22)
def B_l_walk_2 : SF := (sSeq (sNew 6 (eLst [(eName 2)])) B_l_walk_3)
def B_l_walk : SF := (sSeq (sNew 5 (eLst [])) B_l_walk_2)
def F_l_walk : FT := mkF 16 B_l_walk
def B_turned_step : SF := (sRet (eTup [(eBin dIx (eName 1) (eC (.int 0))), (eBin dIx (eName 1) (eC (.int 1))), (eBin dSub (eC (.int 1)) (eBin dIx (eName 1) (eC (.int 2))))]))
def F_turned_step : FT := mkF 2 B_turned_step
def B_turned_path : SF := (sRet (eUn dTuple (eLc (iAny (eUn dRev (eName 1))) (tgName 2) bYes (eCall F_turned_step [(eName 0), (eName 2)]) [2])))
def F_turned_path : FT := mkF 3 B_turned_path
def B_l_turns_7 : SF := (sIf (bNot (bTruth (eCall F_l_row_is [(eName 4), (eBin dIx (eName 3) (eBin dSub (eBin dSub (eUn dLen (eName 3)) (eC (.int 1))) (eName 5)))]))) (sRet (eNorm (eC (.bl false)))) sNext)
def B_l_turns_6 : SF := (sSeq (sSet 4 (eIf (bTruth (eName 2)) (eCallK F_turned_step [0, 1] [(eName 0), (eBin dIx (eName 1) (eName 5))]) (eCall F_turned_step [(eName 0), (eBin dIx (eName 1) (eName 5))]))) B_l_turns_7)
def B_l_turns_9 : SF := (sRet (eNorm (eC (.bl true))))
def B_l_turns_5 : SF := (sSeq (sFor (iRange1 (eBin dMin (eUn dLen (eName 1)) (eC (.int 12)))) (tgName 5) B_l_turns_6) B_l_turns_9)
def B_l_turns_3 : SF := (sSeq (sIf (bNot (bTruth (eCall F_l_rows_are [(eName 4), (eName 3)]))) (sRet (eNorm (eC (.bl false)))) sNext) B_l_turns_5)
def B_l_turns_2 : SF := (sSeq (sSet 4 (eIf (bTruth (eName 2)) (eCallK F_turned_path [0, 1] [(eName 0), (eName 1)]) (eCall F_turned_path [(eName 0), (eName 1)]))) B_l_turns_3)
def B_l_turns : SF := (sSeq (sSet 3 (eUn dTuple (eLc (iRevA (eUn dList (eName 1))) (tgName 6) bYes (eTup [(eBin dIx (eName 6) (eC (.int 0))), (eBin dIx (eName 6) (eC (.int 1))), (eBin dSub (eC (.int 1)) (eBin dIx (eName 6) (eC (.int 2))))]) [6]))) B_l_turns_2)
def F_l_turns : FT := mkF 7 B_l_turns
def B_l_broken_8 : SF := (sIf (fun env J => toB (eUn dIsN (eCall F_l_hear [(eName 1), (eName 7), (eName 9), (eName 12), (eName 11)]) env J)) (sApp 8 (eTup [(eName 9), (eName 12), (eName 11)])) sNext)
def B_l_broken_7 : SF := (sSeq (sSet 12 (eCall F_l_lift [(eName 0), (eBin dAdd (eUn dLen (eName 7)) (eC (.int 1)))])) B_l_broken_8)
def B_l_broken_6 : SF := (sFor (iRange1 (eC (.int 2))) (tgName 11) B_l_broken_7)
def B_l_broken_17 : SF := (sIf (bNot (bTruth (eCall F_l_is [(eName 1), (eName 2), (eName 7), (eBin dAdd (eSl (eName 3) none (some (eName 6))) (eTup [(eName 10)])), (eC (.bl false)), (eName 4)]))) (sRet (eNorm (eC (.bl false)))) sNext)
def B_l_broken_15 : SF := (sSeq (sIf (bNot (bTruth (eCall F_l_is [(eName 1), (eName 2), (eBin dIx (eName 5) (eBin dSub (eUn dLen (eName 5)) (eC (.int 1)))), (eBin dAdd (eBin dAdd (eSl (eName 3) none (some (eName 6))) (eTup [(eName 10)])) (eSl (eName 3) (some (eName 6)) none)), (eC (.bl false)), (eName 4)]))) (sRet (eNorm (eC (.bl false)))) sNext) B_l_broken_17)
def B_l_broken_13 : SF := (sSeq (sIf (bNot (bTruth (eCall F_l_runs [(eName 1), (eName 2), (eBin dAdd (eSl (eName 3) none (some (eName 6))) (eTup [(eName 10), (eName 10)])), (eName 4)]))) (sRet (eNorm (eC (.bl false)))) sNext) B_l_broken_15)
def B_l_broken_11 : SF := (sSeq (sIf (bNot (bTruth (eCall F_l_runs [(eName 1), (eName 2), (eBin dAdd (eBin dAdd (eSl (eName 3) none (some (eName 6))) (eTup [(eName 10)])) (eSl (eName 3) (some (eName 6)) none)), (eName 4)]))) (sRet (eNorm (eC (.bl false)))) sNext) B_l_broken_13)
def B_l_broken_19 : SF := (sRet (eNorm (eC (.bl true))))
def B_l_broken_10 : SF := (sSeq (sFor (iAny (eLst [(eBin dIx (eName 8) (eC (.int 0))), (eBin dIx (eName 8) (eCall F_l_lift [(eName 0), (eUn dLen (eName 8))])), (eBin dIx (eName 8) (eBin dSub (eUn dLen (eName 8)) (eC (.int 1)))), (eTup [(eC (.int 0)), (eBin dPow (eC (.int 10)) (eC (.int 4))), (eC (.int 1))])])) (tgName 10) B_l_broken_11) B_l_broken_19)
def B_l_broken_5 : SF := (sSeq (sFor (iRange1 (eUn dLen (eBin dIx (eName 1) (eC (.int 1))))) (tgName 9) B_l_broken_6) B_l_broken_10)
def B_l_broken_4 : SF := (sSeq (sNew 8 (eLst [(eTup [(eCall F_l_lift [(eName 0), (eUn dLen (eBin dIx (eName 1) (eC (.int 1))))]), (eBin dAdd (eBin dAdd (eUn dLen (eName 7)) (eC (.int 1))) (eCall F_l_lift [(eName 0), (eC (.int 5))])), (eCall F_l_lift [(eName 0), (eC (.int 2))])])])) B_l_broken_5)
def B_l_broken_3 : SF := (sSeq (sSet 7 (eBin dIx (eName 5) (eName 6))) B_l_broken_4)
def B_l_broken_2 : SF := (sSeq (sSet 6 (eCall F_l_lift [(eName 0), (eBin dAdd (eUn dLen (eName 3)) (eC (.int 1)))])) B_l_broken_3)
def B_l_broken : SF := (sSeq (sSet 5 (eCall F_l_leads [(eName 1), (eName 2), (eName 3)])) B_l_broken_2)
def F_l_broken : FT := mkF 13 B_l_broken
def B_l_judge_3 : SF := (sRet (eCall F_l_is [(eName 0), (eName 1), (eName 2), (eName 3), (eName 6), (eName 4)]))
def B_l_judge_2 : SF := (sSeq (sSet 6 (eAnd (eBin dEq (eUn dLen (eName 5)) (eBin dAdd (eUn dLen (eName 3)) (eC (.int 1)))) (eBin dEq (eBin dIx (eName 5) (eBin dSub (eUn dLen (eName 5)) (eC (.int 1)))) (eName 2)))) B_l_judge_3)
def B_l_judge : SF := (sSeq (sSet 5 (eCall F_l_leads [(eName 0), (eName 1), (eName 3)])) B_l_judge_2)
def F_l_judge : FT := mkF 7 B_l_judge
def B_l_faults_16 : SF := (sIf (bNot (bTruth (eCall F_l_is [(eName 1), (eName 2), (eName 7), (eBin dAdd (eBin dAdd (eSl (eName 3) none (some (eName 8))) (eTup [(eName 13)])) (eSl (eName 3) (some (eBin dAdd (eName 8) (eC (.int 1)))) none)), (eC (.bl false)), (eName 4)]))) (sRet (eNorm (eC (.bl false)))) sNext)
def B_l_faults_19 : SF := (sIf (bNot (bTruth (eCall F_l_is [(eName 1), (eName 2), (eName 7), (eName 14), (eC (.bl false)), (eName 4)]))) (sRet (eNorm (eC (.bl false)))) sNext)
def B_l_faults_29 : SF := (sIf (bNot (bTruth (eCall F_l_judge [(eName 1), (eName 2), (eName 7), (eName 14), (eName 4)]))) (sRet (eNorm (eC (.bl false)))) sNext)
def B_l_faults_32 : SF := (sIf (bOr (bNot (bTruth (eCall F_l_judge [(eName 1), (eName 2), (eName 7), (eName 14), (eName 4)]))) (bNot (bTruth (eCall F_l_judge [(eName 1), (eName 7), (eName 2), (eName 14), (eName 4)])))) (sRet (eNorm (eC (.bl false)))) sNext)
def B_l_faults_35 : SF := (sIf (bAnd (bCmp dLe (eUn dLen (eName 18)) (eC (.int 12))) (bNot (bTruth (eCall F_l_judge [(eName 1), (eName 2), (eName 18), (eName 3), (eName 4)])))) (sRet (eNorm (eC (.bl false)))) sNext)
def B_l_faults_37 : SF := (sRet (eNorm (eC (.bl true))))
def B_l_faults_34 : SF := (sSeq (sFor (iAny (eLst [(eName 2), (eBin dAdd (eName 7) (eTup [(eC (.int 0))])), (eSl (eName 7) (some (eC (.int 1))) none), (eBin dIx (eName 6) (eName 8)), (eBin dAdd (eSl (eName 7) none (some (eUn dNeg (eC (.int 1))))) (eTup [(eC (.int 0))])), (eUn dTupRev (eUn dList (eName 7)))])) (tgName 18) B_l_faults_35) B_l_faults_37)
def B_l_faults_31 : SF := (sSeq (sFor (iAny (eLst [(eBin dAdd (eBin dAdd (eSl (eName 3) none (some (eName 8))) (eTup [(eName 17)])) (eSl (eName 3) (some (eBin dAdd (eName 8) (eC (.int 1)))) none)), (eBin dAdd (eBin dAdd (eSl (eName 3) none (some (eBin dAdd (eName 8) (eC (.int 1))))) (eTup [(eName 17), (eName 9)])) (eSl (eName 3) (some (eBin dAdd (eName 8) (eC (.int 1)))) none)), (eBin dAdd (eTup [(eName 9)]) (eName 3))])) (tgName 14) B_l_faults_32) B_l_faults_34)
def B_l_faults_28 : SF := (sSeq (sFor (iAny (eLst [(eBin dAdd (eSl (eName 3) none (some (eName 8))) (eSl (eName 3) (some (eBin dAdd (eName 8) (eC (.int 1)))) none)), (eSl (eName 3) none (some (eUn dNeg (eC (.int 1))))), (eSl (eName 3) (some (eC (.int 1))) none), (eBin dAdd (eName 3) (eTup [(eName 9)])), (eBin dAdd (eName 3) (eName 3)), (eUn dTuple (eName 16)), (eTup [])])) (tgName 14) B_l_faults_29) B_l_faults_31)
def B_l_faults_27 : SF := (sSeq (sSet 17 (eTup [(eBin dIx (eName 9) (eC (.int 0))), (eBin dIx (eName 9) (eC (.int 1))), (eBin dSub (eC (.int 1)) (eBin dIx (eName 9) (eC (.int 2))))])) B_l_faults_28)
def B_l_faults_26 : SF := (sSeq (sSetI 16 (eName 15) (eName 9)) B_l_faults_27)
def B_l_faults_25 : SF := (sSeq (sSetI 16 (eName 8) (eBin dIx (eName 3) (eName 15))) B_l_faults_26)
def B_l_faults_24 : SF := (sSeq (sNew 16 (eUn dList (eName 3))) B_l_faults_25)
def B_l_faults_23 : SF := (sSeq (sSet 15 (eBin dMod (eUn dToInt (eBin dAdd (eName 8) (eC (.int 1)))) (eUn dLen (eName 3)))) B_l_faults_24)
def B_l_faults_21 : SF := (sSeq (sIf (bOr (bCmp dNe (eBin dIx (eName 11) (eC (.int 0))) (eUn dList (eName 3))) (bOr (bCmp dNe (eBin dIx (eName 11) (eC (.int 1))) (eUn dList (eBin dIx (eName 3) (eC (.int 0))))) (bCmp dNe (eUn dLen (eName 11)) (eC (.int 2))))) (sRet (eNorm (eC (.bl false)))) sNext) B_l_faults_23)
def B_l_faults_18 : SF := (sSeq (sFor (iAny (eLst [(eBin dIx (eName 11) (eC (.int 0))), (eC .non), (eC (.bl false)), (eC (.int 0)), (eC (.int 1)), (eC (.str "")), (eC (.str "0 0 1")), (eLst []), (eLst [(eBin dIx (eName 11) (eC (.int 0)))]), (eTup [(eName 3)]), (eName 9), (eUn dList (eName 9)), (eUn dNeg (eC (.int 1)))])) (tgName 14) B_l_faults_19) B_l_faults_21)
def B_l_faults_15 : SF := (sSeq (sForC 12 (tgName 13) B_l_faults_16) B_l_faults_18)
def B_l_faults_13 : SF := (sSeq (sIf (bCmp dLt (eBin dIx (eName 9) (eC (.int 1))) (eC (.int 2))) (sApp 12 (eTup [(eBin dIx (eName 9) (eC (.int 0))), (eBin dEq (eBin dIx (eName 9) (eC (.int 1))) (eC (.int 1))), (eBin dIx (eName 9) (eC (.int 2)))])) sNext) B_l_faults_15)
def B_l_faults_11 : SF := (sSeq (sIf (bCmp dLt (eBin dIx (eName 9) (eC (.int 0))) (eC (.int 2))) (sApp 12 (eTup [(eBin dEq (eBin dIx (eName 9) (eC (.int 0))) (eC (.int 1))), (eBin dIx (eName 9) (eC (.int 1))), (eBin dIx (eName 9) (eC (.int 2)))])) sNext) B_l_faults_13)
def B_l_faults_10 : SF := (sSeq (sNew 12 (eBin dAdd (eName 12) (eLst [(eTup [(eBin dIx (eName 9) (eC (.int 0))), (eBin dIx (eName 9) (eC (.int 1))), (eBin dEq (eBin dIx (eName 9) (eC (.int 2))) (eC (.int 1)))]), (eTup [(eName 10), (eBin dIx (eName 9) (eC (.int 1))), (eBin dIx (eName 9) (eC (.int 2)))]), (eTup [(eBin dIx (eName 9) (eC (.int 0))), (eName 10), (eBin dIx (eName 9) (eC (.int 2)))]), (eUn dList (eName 9))]))) B_l_faults_11)
def B_l_faults_9 : SF := (sSeq (sNew 12 (eBin dAdd (eName 12) (eLst [(eTup [(eBin dIx (eName 9) (eC (.int 0))), (eBin dIx (eName 9) (eC (.int 1))), (eC (.int 2))]), (eTup [(eBin dIx (eName 9) (eC (.int 0))), (eUn dNeg (eC (.int 1))), (eBin dIx (eName 9) (eC (.int 2)))]), (eTup [(eBin dIx (eName 9) (eC (.int 0))), (eBin dIx (eName 9) (eC (.int 1))), (eUn dNeg (eC (.int 1)))]), (eTup [(eBin dIx (eName 9) (eC (.int 0))), (eBin dIx (eName 9) (eC (.int 1))), (eC .non)])]))) B_l_faults_10)
def B_l_faults_8 : SF := (sSeq (sNew 12 (eLst [(eBin dIx (eName 11) (eC (.int 1))), (eSl (eName 9) none (some (eC (.int 2)))), (eBin dAdd (eName 9) (eTup [(eC (.int 0))])), (eTup []), (eC .non), (eC (.bl true)), (eC (.int 0)), (eC (.str "0 0 1")), (eTup [(eName 9)]), (eTup [(eName 5), (eBin dIx (eName 9) (eC (.int 1))), (eBin dIx (eName 9) (eC (.int 2)))]), (eTup [(eUn dNeg (eC (.int 1))), (eBin dIx (eName 9) (eC (.int 1))), (eC (.int 1))])])) B_l_faults_9)
def B_l_faults_7 : SF := (sSeq (sSet 11 (eLst [(eUn dList (eName 3)), (eUn dList (eBin dIx (eName 3) (eC (.int 0))))])) B_l_faults_8)
def B_l_faults_6 : SF := (sSeq (sSet 10 (eBin dSub (eBin dMul (eBin dPow (eC (.int 10)) (eC (.int 45))) (eBin dPow (eC (.int 10)) (eC (.int 45)))) (eC (.int 1)))) B_l_faults_7)
def B_l_faults_5 : SF := (sSeq (sSet 9 (eBin dIx (eName 3) (eName 8))) B_l_faults_6)
def B_l_faults_4 : SF := (sSeq (sSet 8 (eCall F_l_lift [(eName 0), (eUn dLen (eName 3))])) B_l_faults_5)
def B_l_faults_3 : SF := (sSeq (sSet 7 (eBin dIx (eName 6) (eBin dSub (eUn dLen (eName 6)) (eC (.int 1))))) B_l_faults_4)
def B_l_faults_2 : SF := (sSeq (sSet 6 (eCall F_l_leads [(eName 1), (eName 2), (eName 3)])) B_l_faults_3)
def B_l_faults : SF := (sSeq (sSet 5 (eUn dLen (eBin dIx (eName 1) (eC (.int 1))))) B_l_faults_2)
def F_l_faults : FT := mkF 19 B_l_faults
def B_l_path_15 : SF := (sRet (eOr (eBin dEq (eUn dLen (eBin dIx (eName 1) (eC (.int 1)))) (eC (.int 0))) (eCall F_l_broken [(eName 0), (eName 1), (eName 2), (eName 8), (eName 4)])))
def B_l_path_13 : SF := (sSeq (sIf (bAnd (bCmp dGt (eUn dLen (eName 8)) (eC (.int 0))) (bNot (bTruth (eCall F_l_faults [(eName 0), (eName 1), (eName 2), (eSl (eName 8) none (some (eC (.int 12)))), (eName 4)])))) (sRet (eNorm (eC (.bl false)))) sNext) B_l_path_15)
def B_l_path_11 : SF := (sSeq (sIf (bOr (bNot (bTruth (eCall F_l_is [(eName 1), (eName 2), (eName 2), (eBin dAdd (eName 8) (eName 6)), (eC (.bl true)), (eName 4)]))) (bNot (bTruth (eCall F_l_is [(eName 1), (eName 2), (eName 7), (eBin dAdd (eName 8) (eName 6)), (eC (.bl false)), (eName 4)])))) (sRet (eNorm (eC (.bl false)))) sNext) B_l_path_13)
def B_l_path_10 : SF := (sSeq (sSet 7 (eIf (bCmp dGt (eUn dLen (eName 2)) (eC (.int 8))) (eSl (eName 2) (some (eC (.int 1))) none) (eBin dAdd (eName 2) (eTup [(eC (.int 0))])))) B_l_path_11)
def B_l_path_8 : SF := (sSeq (sIf (bOr (bNot (bTruth (eCall F_l_is [(eName 1), (eName 5), (eName 2), (eName 6), (eC (.bl true)), (eName 4)]))) (bNot (bTruth (eCall F_l_turns [(eName 1), (eName 6), (eName 4)])))) (sRet (eNorm (eC (.bl false)))) sNext) B_l_path_10)
def B_l_path_6 : SF := (sSeq (sIf (bOr (bNot (bTruth (eCall F_l_turns [(eName 1), (eName 8), (eName 4)]))) (bNot (bTruth (eCall F_l_runs [(eName 1), (eName 5), (eName 6), (eName 4)])))) (sRet (eNorm (eC (.bl false)))) sNext) B_l_path_8)
def B_l_path_5 : SF := (sSeq (sSet 6 (eUn dTuple (eLc (iRevA (eUn dList (eName 8))) (tgName 10) bYes (eTup [(eBin dIx (eName 10) (eC (.int 0))), (eBin dIx (eName 10) (eC (.int 1))), (eBin dSub (eC (.int 1)) (eBin dIx (eName 10) (eC (.int 2))))]) [10]))) B_l_path_6)
def B_l_path_3 : SF := (sSeq (sIf (bOr (bNot (bTruth (eCall F_l_runs [(eName 1), (eName 2), (eName 8), (eName 4)]))) (bNot (bTruth (eCall F_l_is [(eName 1), (eName 2), (eName 5), (eName 8), (eC (.bl true)), (eName 4)])))) (sRet (eNorm (eC (.bl false)))) sNext) B_l_path_5)
def B_l_path_2 : SF := (sSeq (sSet 5 (eBin dIx (eName 9) (eBin dSub (eUn dLen (eName 9)) (eC (.int 1))))) B_l_path_3)
def B_l_path : SF := (sSeq (sAsg (tgSeq [8, 9]) (eCall F_l_walk [(eName 0), (eName 1), (eName 2), (eName 3), (eC (.int 12))])) B_l_path_2)
def F_l_path : FT := mkF 11 B_l_path
def B_l_by_hand_16 : SF := (sIf (bNot (bTruth (eCall F_l_is [(eName 7), (eTup [(eName 5), (eName 6)]), (eName 11), (eName 8), (eC (.bl false)), (eName 1)]))) (sRet (eNorm (eC (.bl false)))) sNext)
def B_l_by_hand_26 : SF := (sRet (eAnd (eCall F_l_is [(eName 7), (eTup [(eName 4)]), (eTup [(eName 4)]), (eTup []), (eC (.bl true)), (eName 1)]) (eCall F_l_is [(eName 7), (eTup [(eName 4)]), (eTup [(eName 4), (eName 4)]), (eTup []), (eC (.bl false)), (eName 1)])))
def B_l_by_hand_24 : SF := (sSeq (sIf (bOr (bNot (bTruth (eCall F_l_is [(eName 7), (eTup [(eName 4)]), (eTup []), (eTup [(eTup [(eC (.int 2)), (eC (.int 0)), (eC (.bl false))])]), (eC (.bl false)), (eName 1)]))) (bNot (bTruth (eCall F_l_is [(eName 7), (eTup [(eName 4)]), (eTup []), (eTup [(eTup [(eC (.int 2)), (eC (.int 0)), (eC (.int 0))])]), (eC (.bl true)), (eName 1)])))) (sRet (eNorm (eC (.bl false)))) sNext) B_l_by_hand_26)
def B_l_by_hand_22 : SF := (sSeq (sIf (bNot (bTruth (eCall F_l_faults [(eName 0), (eName 7), (eTup [(eName 5), (eName 6)]), (eSl (eName 8) none (some (eBin dAdd (eC (.int 1)) (eCall F_l_lift [(eName 0), (eC (.int 7))])))), (eName 1)]))) (sRet (eNorm (eC (.bl false)))) sNext) B_l_by_hand_24)
def B_l_by_hand_20 : SF := (sSeq (sIf (bNot (bTruth (eCall F_l_runs [(eName 7), (eTup [(eName 4), (eName 5)]), (eTup [(eTup [(eC (.int 2)), (eC (.int 0)), (eC (.int 0))]), (eTup [(eC (.int 2)), (eC (.int 1)), (eC (.int 1))]), (eTup [(eC (.int 1)), (eC (.int 0)), (eC (.int 1))]), (eTup [(eC (.int 2)), (eC (.int 1)), (eC (.int 0))])]), (eName 1)]))) (sRet (eNorm (eC (.bl false)))) sNext) B_l_by_hand_22)
def B_l_by_hand_18 : SF := (sSeq (sIf (bNot (bTruth (eCall F_l_is [(eName 7), (eTup [(eName 5), (eName 6)]), (eTup [(eName 6), (eName 4), (eName 5)]), (eSl (eName 8) none (some (eC (.int 6)))), (eC (.bl true)), (eName 1)]))) (sRet (eNorm (eC (.bl false)))) sNext) B_l_by_hand_20)
def B_l_by_hand_15 : SF := (sSeq (sFor (iAny (eLst [(eTup [(eName 6), (eName 4), (eName 5)]), (eTup [(eName 5), (eName 4), (eName 4), (eName 6)]), (eTup [(eName 6), (eName 4), (eName 4), (eName 6)]), (eTup [(eName 6), (eName 4), (eName 4)]), (eTup []), (eTup [(eName 5), (eName 6)])])) (tgName 11) B_l_by_hand_16) B_l_by_hand_18)
def B_l_by_hand_13 : SF := (sSeq (sIf (bNot (bTruth (eCall F_l_is [(eName 7), (eTup [(eName 5), (eName 6)]), (eTup [(eName 6), (eName 4), (eName 4), (eName 5)]), (eName 8), (eC (.bl true)), (eName 1)]))) (sRet (eNorm (eC (.bl false)))) sNext) B_l_by_hand_15)
def B_l_by_hand_11 : SF := (sSeq (sIf (bOr (bNot (bTruth (eCall F_l_rows_are [(eName 10), (eName 9)]))) (bNot (bTruth (eCall F_l_turns [(eName 7), (eName 8), (eName 1)])))) (sRet (eNorm (eC (.bl false)))) sNext) B_l_by_hand_13)
def B_l_by_hand_10 : SF := (sSeq (sSet 10 (eIf (bTruth (eName 1)) (eCallK F_run_steps [0, 1, 2] [(eName 7), (eTup [(eName 5), (eName 6)]), (eName 8)]) (eCall F_run_steps [(eName 7), (eTup [(eName 5), (eName 6)]), (eName 8)]))) B_l_by_hand_11)
def B_l_by_hand_9 : SF := (sSeq (sApp 9 (eTup [(eName 6), (eName 4), (eName 4), (eName 5)])) B_l_by_hand_10)
def B_l_by_hand_8 : SF := (sSeq (sNew 9 (eLst [(eTup [(eName 5), (eName 6)]), (eTup [(eName 6), (eName 5)]), (eTup [(eName 6), (eName 4), (eName 5)]), (eTup [(eName 6), (eName 4), (eName 4), (eName 5)]), (eTup [(eName 5), (eName 4), (eName 4), (eName 5)]), (eTup [(eName 5), (eName 4), (eName 5)]), (eTup [(eName 6), (eName 4), (eName 5)])])) B_l_by_hand_9)
def B_l_by_hand_7 : SF := (sSeq (sSet 8 (eTup [(eTup [(eC (.int 1)), (eC (.int 0)), (eC (.int 1))]), (eTup [(eC (.int 2)), (eC (.int 1)), (eC (.int 1))]), (eTup [(eC (.int 0)), (eC (.int 1)), (eC (.int 1))]), (eTup [(eC (.int 3)), (eC (.int 0)), (eC (.int 0))]), (eTup [(eC (.int 2)), (eC (.int 2)), (eC (.int 0))]), (eTup [(eC (.int 3)), (eC (.int 0)), (eC (.int 1))]), (eTup [(eC (.int 0)), (eC (.int 1)), (eC (.int 1))])])) B_l_by_hand_8)
def B_l_by_hand_6 : SF := (sSeq (sSet 7 (eTup [(eTup [(eC (.str "a")), (eC (.str "b")), (eC (.str "c"))]), (eTup [(eTup [(eC (.str "held")), (eName 4)]), (eTup [(eC (.str "loose")), (eName 5), (eName 6)]), (eTup [(eC (.str "idle")), (eName 4)]), (eTup [(eC (.str "same")), (eName 5), (eName 6)])])])) B_l_by_hand_7)
def B_l_by_hand_5 : SF := (sSeq (sSet 6 (eBin dMax (eName 2) (eName 3))) B_l_by_hand_6)
def B_l_by_hand_4 : SF := (sSeq (sSet 5 (eBin dMin (eName 2) (eName 3))) B_l_by_hand_5)
def B_l_by_hand_3 : SF := (sSeq (sSet 4 (eBin dSub (eBin dSub (eC (.int 3)) (eName 2)) (eName 3))) B_l_by_hand_4)
def B_l_by_hand_2 : SF := (sSeq (sSet 3 (eBin dMod (eUn dToInt (eBin dAdd (eBin dAdd (eName 2) (eC (.int 1))) (eCall F_l_lift [(eName 0), (eC (.int 2))]))) (eC (.int 3)))) B_l_by_hand_3)
def B_l_by_hand : SF := (sSeq (sSet 2 (eCall F_l_lift [(eName 0), (eC (.int 3))])) B_l_by_hand_2)
def F_l_by_hand : FT := mkF 12 B_l_by_hand
def B_l_path_ends_6 : SF := (sRet (eAnd (eCall F_l_is [(eName 0), (eName 1), (eName 5), (eName 2), (eC (.bl true)), (eName 3)]) (eCall F_l_is [(eName 0), (eName 1), (eName 6), (eName 2), (eC (.bl false)), (eName 3)])))
def B_l_path_ends_5 : SF := (sSeq (sSet 6 (eIf (bCmp dGt (eUn dLen (eName 5)) (eC (.int 0))) (eBin dAdd (eSl (eName 5) none (some (eUn dNeg (eC (.int 1))))) (eTup [(eBin dSub (eC (.int 1)) (eBin dIx (eName 5) (eUn dNeg (eC (.int 1)))))])) (eTup [(eC (.int 0))]))) B_l_path_ends_6)
def B_l_path_ends_3 : SF := (sSeq (sIf (bOr (bCmp dNe (eUn dLen (eName 4)) (eBin dAdd (eUn dLen (eName 2)) (eC (.int 1)))) (bOr (bNot (bTruth (eCall F_l_runs [(eName 0), (eName 1), (eName 2), (eName 3)]))) (bNot (bTruth (eCall F_l_turns [(eName 0), (eName 2), (eName 3)]))))) (sRet (eNorm (eC (.bl false)))) sNext) B_l_path_ends_5)
def B_l_path_ends_2 : SF := (sSeq (sSet 5 (eBin dIx (eName 4) (eBin dSub (eUn dLen (eName 4)) (eC (.int 1))))) B_l_path_ends_3)
def B_l_path_ends : SF := (sSeq (sSet 4 (eCall F_l_leads [(eName 0), (eName 1), (eName 2)])) B_l_path_ends_2)
def F_l_path_ends : FT := mkF 7 B_l_path_ends
def B_l_long_7 : SF := (sRet (eAnd (eCall F_l_path_ends [(eName 3), (eName 4), (eName 6), (eName 1)]) (eCall F_l_runs [(eName 3), (eName 4), (eBin dAdd (eSl (eName 6) none (some (eC (.int 199)))) (eTup [(eTup [(eC (.int 0)), (eC (.int 60)), (eC (.int 1))])])), (eName 1)])))
def B_l_long_6 : SF := (sSeq (sSet 6 (eBin dAdd (eName 6) (eBin dRepT (eName 5) (eUn dToInt (eBin dFloor (eBin dSub (eC (.int 200)) (eUn dLen (eName 6))) (eC (.int 2))))))) B_l_long_7)
def B_l_long_14 : SF := (sRet (eAnd (eCall F_l_is [(eName 3), (eName 4), (eName 7), (eName 9), (eC (.bl false)), (eName 1)]) (eCall F_l_judge [(eName 3), (eName 4), (eName 7), (eSl (eName 6) (some (eC (.int 1))) none), (eName 1)])))
def B_l_long_13 : SF := (sSeq (sSet 9 (eBin dAdd (eSl (eName 6) none (some (eBin dSub (eUn dLen (eName 6)) (eC (.int 1))))) (eTup [(eTup [(eC (.int 2)), (eC (.int 50)), (eC (.int 0))])]))) B_l_long_14)
def B_l_long_11 : SF := (sSeq (sIf (bOr (bNot (bTruth (eCall F_l_is [(eName 3), (eName 4), (eName 7), (eName 6), (eC (.bl true)), (eName 1)]))) (bNot (bTruth (eCall F_l_is [(eName 3), (eName 4), (eName 8), (eName 6), (eC (.bl false)), (eName 1)])))) (sRet (eNorm (eC (.bl false)))) sNext) B_l_long_13)
def B_l_long_10 : SF := (sSeq (sSet 8 (eIf (bCmp dGt (eUn dLen (eName 7)) (eC (.int 8))) (eSl (eName 7) (some (eC (.int 1))) none) (eBin dAdd (eName 7) (eTup [(eC (.int 0))])))) B_l_long_11)
def B_l_long_9 : SF := (sSeq (sSet 7 (eBin dIx (eName 10) (eBin dSub (eUn dLen (eName 10)) (eC (.int 1))))) B_l_long_10)
def B_l_long_8 : SF := (sSeq (sSet 6 (eBin dAdd (eBin dRepT (eName 5) (eUn dToInt (eBin dFloor (eBin dSub (eName 2) (eUn dLen (eName 6))) (eC (.int 2))))) (eName 6))) B_l_long_9)
def B_l_long_5 : SF := (sSeq (sIf (bCmp dEq (eName 2) (eC (.int 200))) B_l_long_6 sNext) B_l_long_8)
def B_l_long_4 : SF := (sSeq (sSet 5 (eTup [(eTup [(eC (.int 1)), (eC (.int 0)), (eC (.int 1))]), (eTup [(eC (.int 1)), (eC (.int 0)), (eC (.int 0))])])) B_l_long_5)
def B_l_long_3 : SF := (sSeq (sAsg (tgSeq [6, 10]) (eCall F_l_walk [(eName 0), (eName 3), (eName 4), (eC (.int 40)), (eC (.int 12))])) B_l_long_4)
def B_l_long_2 : SF := (sSeq (sSet 4 (eCall F_l_row [(eName 0), (eC (.int 2)), (eBin dAdd (eC (.int 3)) (eCall F_l_lift [(eName 0), (eC (.int 6))]))])) B_l_long_3)
def B_l_long : SF := (sSeq (sSet 3 (eTup [(eTup [(eC (.str "p")), (eC (.str "q"))]), (eTup [(eTup [(eC (.str "held")), (eC (.int 0))]), (eTup [(eC (.str "idle")), (eC (.int 1))]), (eTup [(eC (.str "loose")), (eC (.int 0)), (eC (.int 1))]), (eTup [(eC (.str "same")), (eC (.int 0)), (eC (.int 1))])])])) B_l_long_2)
def F_l_long : FT := mkF 11 B_l_long
def B_law_13 : SF := (sIf (bNot (bTruth (eCall F_l_path [(eName 1), (eName 10), (eName 7), (eBin dIx (eLst [(eC (.int 1)), (eC (.int 3)), (eC (.int 6)), (eC (.int 12))]) (eCall F_l_lift [(eName 1), (eC (.int 4))])), (eName 4)]))) (sRet (eNorm (eC (.bl false)))) sNext)
def B_law_12 : SF := (sSeq (sSet 7 (eCall F_l_row [(eName 1), (eName 9), (eIf (bAnd (bTruth (eName 2)) (bCmp dEq (eName 5) (eC (.int 1)))) (eNorm (eC (.int 12))) (eCall F_l_lift [(eName 1), (eC (.int 9))]))])) B_law_13)
def B_law_11 : SF := (sSeq (sSet 10 (eCall F_l_setting [(eName 1), (eName 9)])) B_law_12)
def B_law_9 : SF := (sSeq (sIf (bAnd (bTruth (eName 2)) (bCmp dEq (eName 5) (eC (.int 1)))) (sSet 9 (eC (.int 5))) sNext) B_law_11)
def B_law_8 : SF := (sSeq (sSet 9 (eBin dAdd (eC (.int 1)) (eCall F_l_lift [(eName 1), (eC (.int 5))]))) B_law_9)
def B_law_26 : SF := (sRet (eCall F_l_by_hand [(eName 1), (eNot (eNorm (eName 4)))]))
def B_law_24 : SF := (sSeq (sIf (bAnd (bTruth (eName 2)) (bNot (bTruth (eCall F_l_long [(eName 1), (eName 4), (eC (.int 200))])))) (sRet (eNorm (eC (.bl false)))) sNext) B_law_26)
def B_law_22 : SF := (sSeq (sIf (bAnd (bTruth (eName 3)) (bNot (bTruth (eCall F_l_long [(eName 1), (eName 4), (eC (.int 1000))])))) (sRet (eNorm (eC (.bl false)))) sNext) B_law_24)
def B_law_20 : SF := (sSeq (sIf (bOr (bNot (bTruth (eCall F_l_is [(eTup [(eTup [(eC (.str "a"))]), (eTup [])]), (eTup [(eC (.int 0)), (eC (.int 0))]), (eTup [(eC (.int 0)), (eC (.int 0))]), (eTup []), (eC (.bl true)), (eName 4)]))) (bNot (bTruth (eCall F_l_is [(eTup [(eTup [(eC (.str "a"))]), (eTup [])]), (eTup [(eC (.int 0))]), (eTup [(eC (.int 0))]), (eTup [(eTup [(eC (.int 0)), (eC (.int 0)), (eC (.int 1))])]), (eC (.bl false)), (eName 4)])))) (sRet (eNorm (eC (.bl false)))) sNext) B_law_22)
def B_law_18 : SF := (sSeq (sIf (bOr (bNot (bTruth (eCall F_l_runs [(eName 6), (eName 7), (eName 8), (eName 4)]))) (bNot (bTruth (eCall F_l_runs [(eTup [(eTup [(eC (.str "a"))]), (eTup [])]), (eTup [(eC (.int 0)), (eC (.int 0))]), (eTup []), (eName 4)])))) (sRet (eNorm (eC (.bl false)))) sNext) B_law_20)
def B_law_17 : SF := (sSeq (sSet 8 (eUn dTuple (eLc (iRange1 (eBin dAdd (eC (.int 12)) (eCall F_l_lift [(eName 1), (eC (.int 9))]))) (tgName 5) bYes (eTup [(eBin dMul (eCall F_l_lift [(eName 1), (eC (.int 2))]) (eC (.int 2))), (eCall F_l_lift [(eName 1), (eBin dAdd (eC (.int 3)) (eName 5))]), (eC (.int 1))]) [5]))) B_law_18)
def B_law_16 : SF := (sSeq (sSet 7 (eCall F_l_row [(eName 1), (eC (.int 2)), (eC (.int 2))])) B_law_17)
def B_law_15 : SF := (sSeq (sSet 6 (eTup [(eTup [(eC (.str "a")), (eC (.str "b"))]), (eTup [(eTup [(eC (.str "idle")), (eC (.int 0))]), (eTup [(eC (.str "held")), (eC (.int 1))]), (eTup [(eC (.str "idle")), (eC (.int 1))])])])) B_law_16)
def B_law_7 : SF := (sSeq (sFor (iRange1 (eC (.int 3))) (tgName 5) B_law_8) B_law_15)
def B_law_5 : SF := (sSeq (sIf (bNot (bTruth (eCall F_l_by_hand [(eName 1), (eName 4)]))) (sRet (eNorm (eC (.bl false)))) sNext) B_law_7)
def B_law_4 : SF := (sSeq (sSet 4 (eBin dEq (eCall F_l_lift [(eName 1), (eC (.int 2))]) (eC (.int 1)))) B_law_5)
def B_law_3 : SF := (sSeq (sSet 3 (eBin dEq (eCall F_l_lift [(eName 1), (eC (.int 7))]) (eC (.int 3)))) B_law_4)
def B_law_2 : SF := (sSeq (sSet 2 (eBin dEq (eCall F_l_lift [(eName 1), (eC (.int 7))]) (eC (.int 6)))) B_law_3)
def B_law : SF := (sSeq (sNewB 1 (eCall F_l_chest [(eName 0)])) B_law_2)
def F_law : FT := mkF 11 B_law
end K10
set_option Elab.async false
set_option linter.all false
set_option maxRecDepth 100000
set_option maxHeartbeats 4000000
set_option autoImplicit false
/-! what stepped and is_step do -/
namespace K10
open PySem L2 L2.Pz
variable {X : XP} {Q : HV → Jr → Prop} {T J : Jr} {a r : List D} {env : En} {b : Nat}
theorem held_spec {row : List Int} {s : Int} {p : Nat} {w : Bool} (hl : row.length ≤ 100000) (q : Q (.val (optD (stP (.held s) row p w))) J) : Ex X (F_held_step [.val (rT row), .val (.int s), .val (.int p), .val (.int (wI w))] J) Q := by
  unfold F_held_step B_held_step
  rw [Ex_mkF]
  simp [startE, slT, cut_to, cut_from, cut_from1]
  by_cases h1 : row.length ≤ p
  · simp [h1]
    have e : stP (.held s) row p w = none := by simp [stP, get_ge h1]
    rw [e] at q
    exact q
  · have h1' : p < row.length := by omega
    simp [h1, ixR h1']
    by_cases h2 : row[p] = s
    · subst h2
      cases w
      · simp
        by_cases h3 : row.length ≤ p + 1
        · have e : stP (.held row[p]) row p false = none := by simp [stP, h1', get_ge h3]
          rw [e] at q
          rw [if_pos (by omega)]
          exact q
        · have h3' : p + 1 < row.length := by omega
          rw [if_neg (by omega), ixR1 h3']
          simp
          by_cases h4 : row[p + 1] = row[p]
          · have e : stP (.held row[p]) row p false = some (row.take p ++ row.drop (p + 1)) := by simp [stP, h1', h3', h4]
            rw [e] at q
            simp [h4]
            rw [dAdd_tt (by simp; omega)]
            simp
            exact fin q (by simp [List.map_take, List.map_drop])
          · have e : stP (.held row[p]) row p false = none := by simp [stP, h1', h3', h4]
            rw [e] at q
            simp [h4]
            exact q
      · have e : stP (.held row[p]) row p true = some (row.take p ++ row[p] :: row.drop p) := by simp only [stP, List.getElem?_eq_getElem h1', if_true]
        rw [e] at q
        simp
        rw [dAdd_tt (by simp; omega)]
        simp
        rw [dAdd_tt (by simp; omega)]
        simp
        exact ⟨one_big, fin q (by simp [List.map_take, List.map_drop])⟩
    · simp [h2]
      have e : stP (.held s) row p w = none := by simp [stP, h1', h2]
      rw [e] at q
      exact q
theorem idle_spec {row : List Int} {s : Int} {p : Nat} {w : Bool} (hl : row.length ≤ 100000) (q : Q (.val (optD (stP (.idle s) row p w))) J) : Ex X (F_idle_step [.val (rT row), .val (.int s), .val (.int p), .val (.int (wI w))] J) Q := by
  unfold F_idle_step B_idle_step
  rw [Ex_mkF]
  cases w
  · simp [startE, slT, cut_to, cut_from, cut_from1]
    by_cases h1 : row.length ≤ p
    · simp [h1]
      have e : stP (.idle s) row p false = none := by simp [stP, get_ge h1]
      rw [e] at q
      exact q
    · have h1' : p < row.length := by omega
      simp [h1, ixR h1']
      by_cases h2 : row[p] = s
      · have e : stP (.idle s) row p false = some (row.take p ++ row.drop (p + 1)) := by simp [stP, h1', h2]
        rw [e] at q
        simp [h2]
        rw [dAdd_tt (by simp; omega)]
        simp
        exact fin q (by simp [List.map_take, List.map_drop])
      · simp [h2]
        have e : stP (.idle s) row p false = none := by simp [stP, h1', h2]
        rw [e] at q
        exact q
  · simp [startE, slT, cut_to, cut_from, cut_from1]
    rw [le_i]
    simp
    by_cases h1 : p ≤ row.length
    · have e : stP (.idle s) row p true = some (row.take p ++ s :: row.drop p) := by simp only [stP, if_pos h1]
      rw [e] at q
      simp [h1]
      rw [dAdd_tt (by simp; omega)]
      simp
      rw [dAdd_tt (by simp; omega)]
      simp
      exact ⟨one_big, fin q (by simp [List.map_take, List.map_drop])⟩
    · have e : stP (.idle s) row p true = none := by simp only [stP, if_neg h1]
      rw [e] at q
      simp [h1]
      exact q
theorem same_spec {row : List Int} {s t : Int} {p : Nat} {w : Bool} (hl : row.length ≤ 100000) (q : Q (.val (optD (stP (.same s t) row p w))) J) : Ex X (F_same_step [.val (rT row), .val (.int s), .val (.int t), .val (.int p), .val (.int (wI w))] J) Q := by
  unfold F_same_step B_same_step
  rw [Ex_mkF]
  cases w
  · simp [startE, tgSeq, tgs, slT, cut_to, cut_from, cut_from1]
    by_cases h1 : row.length ≤ p
    · simp [h1]
      simp only [stP] at q
      rw [if_neg (get_ge h1 _)] at q
      exact ⟨two_big, q⟩
    · have h1' : p < row.length := by omega
      simp only [stP] at q
      rw [List.getElem?_eq_getElem h1'] at q
      simp [h1, ixR h1']
      by_cases h2 : row[p] = t
      · rw [if_pos (by rw [h2]; rfl)] at q
        simp [h2]
        rw [dAdd_tt (by simp; omega)]
        simp
        rw [dAdd_tt (by simp; omega)]
        simp
        exact ⟨two_big, one_big, fin q (by simp [List.map_take, List.map_drop])⟩
      · rw [if_neg (by simpa using h2)] at q
        simp [h2]
        exact ⟨two_big, q⟩
  · simp [startE, tgSeq, tgs, slT, cut_to, cut_from, cut_from1]
    by_cases h1 : row.length ≤ p
    · simp [h1]
      simp only [stP] at q
      rw [if_neg (get_ge h1 _)] at q
      exact ⟨two_big, q⟩
    · have h1' : p < row.length := by omega
      simp only [stP] at q
      rw [List.getElem?_eq_getElem h1'] at q
      simp [h1, ixR h1']
      by_cases h2 : row[p] = s
      · rw [if_pos (by rw [h2]; rfl)] at q
        simp [h2]
        rw [dAdd_tt (by simp; omega)]
        simp
        rw [dAdd_tt (by simp; omega)]
        simp
        exact ⟨two_big, one_big, fin q (by simp [List.map_take, List.map_drop])⟩
      · rw [if_neg (by simpa using h2)] at q
        simp [h2]
        exact ⟨two_big, q⟩
theorem loose_spec {row : List Int} {s t : Int} {p : Nat} {w : Bool} (hl : row.length ≤ 100000) (q : Q (.val (optD (stP (.loose s t) row p w))) J) : Ex X (F_loose_step [.val (rT row), .val (.int s), .val (.int t), .val (.int p), .val (.int (wI w))] J) Q := by
  unfold F_loose_step B_loose_step
  rw [Ex_mkF]
  cases w
  · simp [startE, tgSeq, tgs, slT, cut_to, cut_from, cut_from2, cut_two]
    have q : Q (.val (optD (if row[p]? = some t ∧ row[p + 1]? = some s then some (row.take p ++ s :: t :: row.drop (p + 2)) else none))) J := q
    by_cases h1 : row[p]? = some t ∧ row[p + 1]? = some s
    · obtain ⟨h1a, h1b⟩ := h1
      have l1 : p + 1 < row.length := (List.getElem?_eq_some_iff.mp h1b).1
      have g1 : row[p]'(by omega) = t := (List.getElem?_eq_some_iff.mp h1a).2
      have g2 : row[p + 1]'(by omega) = s := (List.getElem?_eq_some_iff.mp h1b).2
      have e : List.take 2 (List.drop p (row.map D.int)) = [.int t, .int s] := by
        rw [List.drop_eq_getElem_cons (by simp; omega), List.drop_eq_getElem_cons (by simp; omega)]
        simp [g1, g2]
      rw [if_pos ⟨h1a, h1b⟩] at q
      rw [e, ne2]
      simp
      rw [dAdd_tt (by simp; omega)]
      simp
      rw [dAdd_tt (by simp; omega)]
      simp
      exact ⟨two_big, fin q (by simp [List.map_take, List.map_drop])⟩
    · rw [if_neg h1] at q
      have e : dNe (D.tup (List.take 2 (List.drop p (List.map D.int row)))) (D.tup [D.int t, D.int s]) = some (.val (.bl true)) := by
        by_cases l0 : row.length ≤ p
        · rw [List.drop_of_length_le (by simp; omega)]
          exact ne0
        · by_cases l1 : row.length ≤ p + 1
          · rw [List.drop_eq_getElem_cons (by simp; omega), List.drop_of_length_le (by simp; omega), List.getElem_map]
            exact ne1
          · rw [List.drop_eq_getElem_cons (by simp; omega), List.drop_eq_getElem_cons (by simp; omega), List.getElem_map, List.getElem_map]
            refine ne2.trans ?_
            rw [List.getElem?_eq_getElem (by omega), List.getElem?_eq_getElem (by omega)] at h1
            congr 3
            have : ¬(row[p]'(by omega) = t ∧ row[p + 1]'(by omega) = s) := fun z => h1 ⟨by rw [z.1], by rw [z.2]⟩
            simp at this ⊢
            exact (Classical.em _).elim (fun z => .inr (this z)) .inl
      rw [e]
      simp
      exact ⟨two_big, q⟩
  · simp [startE, tgSeq, tgs, slT, cut_to, cut_from, cut_from2, cut_two]
    have q : Q (.val (optD (if row[p]? = some s ∧ row[p + 1]? = some t then some (row.take p ++ t :: s :: row.drop (p + 2)) else none))) J := q
    by_cases h1 : row[p]? = some s ∧ row[p + 1]? = some t
    · obtain ⟨h1a, h1b⟩ := h1
      have l1 : p + 1 < row.length := (List.getElem?_eq_some_iff.mp h1b).1
      have g1 : row[p]'(by omega) = s := (List.getElem?_eq_some_iff.mp h1a).2
      have g2 : row[p + 1]'(by omega) = t := (List.getElem?_eq_some_iff.mp h1b).2
      have e : List.take 2 (List.drop p (row.map D.int)) = [.int s, .int t] := by
        rw [List.drop_eq_getElem_cons (by simp; omega), List.drop_eq_getElem_cons (by simp; omega)]
        simp [g1, g2]
      rw [if_pos ⟨h1a, h1b⟩] at q
      rw [e, ne2]
      simp
      rw [dAdd_tt (by simp; omega)]
      simp
      rw [dAdd_tt (by simp; omega)]
      simp
      exact ⟨two_big, fin q (by simp [List.map_take, List.map_drop])⟩
    · rw [if_neg h1] at q
      have e : dNe (D.tup (List.take 2 (List.drop p (List.map D.int row)))) (D.tup [D.int s, D.int t]) = some (.val (.bl true)) := by
        by_cases l0 : row.length ≤ p
        · rw [List.drop_of_length_le (by simp; omega)]
          exact ne0
        · by_cases l1 : row.length ≤ p + 1
          · rw [List.drop_eq_getElem_cons (by simp; omega), List.drop_of_length_le (by simp; omega), List.getElem_map]
            exact ne1
          · rw [List.drop_eq_getElem_cons (by simp; omega), List.drop_eq_getElem_cons (by simp; omega), List.getElem_map, List.getElem_map]
            refine ne2.trans ?_
            rw [List.getElem?_eq_getElem (by omega), List.getElem?_eq_getElem (by omega)] at h1
            congr 3
            have : ¬(row[p]'(by omega) = s ∧ row[p + 1]'(by omega) = t) := fun z => h1 ⟨by rw [z.1], by rw [z.2]⟩
            simp at this ⊢
            exact (Classical.em _).elim (fun z => .inr (this z)) .inl
      rw [e]
      simp
      exact ⟨two_big, q⟩
theorem stepped_spec {s : D} {cs : List Ch} {row : List Int} {n p : Nat} {w : Bool} (hs : chs s cs) (hn : n < cs.length) (hl : row.length ≤ 100000) (q : Q (.val (optD (stP (cs[n]'hn) row p w))) J) :
    Ex X (F_stepped [.val s, .val (rT row), .val (stD n p w)] J) Q := by
  have ic : dIx (.tup (cs.map Ch.d)) (.int n) = some (.val (cs[n]'hn).d) := by
    rw [ixT (by rw [List.length_map]; exact hn), List.getElem_map]
  unfold F_stepped B_stepped
  rw [Ex_mkF]
  simp [startE, tgSeq, tgs, hs, ic]
  generalize cs[n]'hn = c at q
  cases c with
  | held s =>
    simp [Ch.d, ix0, ix1, e_held_held]
    refine held_spec hl ?_
    simp
    cases h : stP (.held s) row p w <;> (rw [h] at q; exact q)
  | idle s =>
    simp [Ch.d, ix0, ix1, e_idle_held, e_idle_idle]
    refine idle_spec hl ?_
    simp
    exact q
  | loose s t =>
    simp [Ch.d, ix0, ix1, ix2, e_loose_held, e_loose_idle, e_loose_loose]
    refine loose_spec hl ?_
    simp
    exact q
  | same s t =>
    simp [Ch.d, ix0, ix1, ix2, e_same_held, e_same_idle, e_same_loose]
    refine same_spec hl ?_
    simp
    exact q
theorem isint_spec {d : D} (q : Q (.val (.bl (isI d))) J) : Ex X (F_is_integer [.val d] J) Q := by
  unfold F_is_integer B_is_integer
  rw [Ex_mkF]
  cases d <;> (simp [startE, dIsa, isa, isaS, tyName]; exact q)
theorem within_spec {d : D} {lo hi : Int} (q : Q (.val (.bl (inB lo hi d))) J) : Ex X (F_integer_within [.val d, .val (.int lo), .val (.int hi)] J) Q := by
  unfold F_integer_within B_integer_within
  rw [Ex_mkF]
  simp [startE]
  refine isint_spec ?_
  cases d with
  | int i =>
    simp [isI, eChain, le_i]
    by_cases h : lo ≤ i
    · simp [h, le_i]
      simpa [inB, h] using q
    · simp [h]
      simpa [inB, h] using q
  | _ => simp [isI]; exact q
theorem number_spec {d : D} {m : Int} (q : Q (.val (.bl (inB 0 (m - 1) d))) J) : Ex X (F_is_number [.val d, .val (.int m)] J) Q := by
  unfold F_is_number B_is_number
  rw [Ex_mkF]
  simp [startE]
  refine within_spec ?_
  simp
  exact q
theorem tupof_spec {d : D} {n : Int} (q : Q (.val (.bl (isT n d))) J) : Ex X (F_tuple_of [.val d, .val (.int n)] J) Q := by
  unfold F_tuple_of B_tuple_of
  rw [Ex_mkF]
  cases d with
  | tup xs =>
    simp [startE, dIsa, isa, isaS, tyName]
    have e : ((xs.length : Int) == n) = decide ((xs.length : Int) = n) := by by_cases h : (xs.length : Int) = n <;> simp [h]
    rw [e]
    exact q
  | _ => simp [startE, dIsa, isa, isaS, tyName]; exact q
theorem isstep_spec {s d : D} {cs : List Ch} (hs : chs s cs) (q : Q (.val (.bl (stB cs.length d))) J) : Ex X (F_is_step [.val s, .val d] J) Q := by
  unfold F_is_step B_is_step
  rw [Ex_mkF]
  simp [startE]
  refine tupof_spec ?_
  by_cases h3 : ∃ x y z, d = .tup [x, y, z]
  · obtain ⟨x, y, z, rfl⟩ := h3
    have e : stB cs.length (.tup [x, y, z]) = (inB 0 ((cs.length : Int) - 1) x && (posB y && inB 0 1 z)) := rfl
    rw [e] at q
    simp [ix0, ix1, ix2, hs]
    refine number_spec ?_
    cases hx : inB 0 ((cs.length : Int) - 1) x
    · rw [hx] at q
      simp
      exact q
    · rw [hx] at q
      simp
      refine isint_spec ?_
      cases y with
      | int i =>
        have ge : dGe (.int i) (.int 0) = some (.val (.bl (decide (0 ≤ i)))) := rfl
        simp [isI, ge]
        by_cases hi : 0 ≤ i
        · simp [hi]
          refine within_spec ?_
          simpa [posB, hi] using q
        · simp [hi]
          simpa [posB, hi] using q
      | _ => simp [isI]; simpa [posB] using q
  · have e : stB cs.length d = false := by
      unfold stB
      split
      · exact (h3 ⟨_, _, _, rfl⟩).elim
      · rfl
    have e2 : isT 3 d = false := by
      cases d with
      | tup xs =>
        match xs, h3 with
        | [], _ => rfl
        | [_], _ => rfl
        | [_, _], _ => rfl
        | [x, y, z], h3 => exact (h3 ⟨x, y, z, rfl⟩).elim
        | x :: y :: z :: u :: l, _ => simp [isT]; omega
      | _ => rfl
    rw [e] at q
    rw [e2]
    simp
    exact q
end K10
set_option Elab.async false
set_option linter.all false
set_option maxRecDepth 100000
set_option maxHeartbeats 4000000
set_option autoImplicit false
/-! what run_steps, is_path, turned_path do -/
namespace K10
open PySem L2 L2.Pz
variable {X : XP} {Q : HV → Jr → Prop} {T J : Jr} {a r : List D} {env : En} {b : Nat} {s : D} {cs : List Ch}
theorem stepped_at {row : List Int} {e : SE} (hs : chs s cs) (hn : e.1 < cs.length) (hl : row.length ≤ 100000) (q : Q (.val (optD (stepOf cs row e))) J) : Ex X (F_stepped [.val s, .val (rT row), .val (stE e)] J) Q := by
  refine stepped_spec (n := e.1) (p := e.2.1) (w := e.2.2) hs hn hl ?_
  rw [stepOf_at hn] at q
  exact q
theorem optD_isN {o : Option (List Int)} : dIsN (optD o) = some (.val (.bl (!o.isSome))) := by cases o <;> rfl
theorem rows_pl {rs : List (List Int)} : (rs.map rT).all isP = true := by simp [isP]
theorem run_steps_spec {row : List Int} {es : List SE} (hs : chs s cs) (he : ∀ e ∈ es, e.1 < cs.length) (hl : row.length + es.length ≤ 90000)
    (q1 : (runs cs row es).isSome = true → Q (.val (.tup ((leads cs row es).map rT))) J) (q2 : (runs cs row es).isSome = false → X "BadPath" [("at", .int (((leads cs row es).length : Int) - 1))] J) :
    Ex X (F_run_steps [.val s, .val (rT row), .val (.tup (es.map stE))] J) Q := by
  unfold F_run_steps B_run_steps
  rw [Ex_mkF]
  simp [startE, big]
  refine Sx_loopP (fun i env J' => ∃ pre r x4 x5, env = [some (.val s), some (.val (rT r)), some (.val (.tup (es.map stE))), some (.jar J.length), x4, x5] ∧ J' = J ++ [(pre ++ [r]).map rT] ∧ leads cs row es = pre ++ leads cs r (es.drop i) ∧ pre.length = i ∧ runs cs row es = runs cs r (es.drop i) ∧ r.length ≤ row.length + i) ⟨[], row, _, _, rfl, rfl, by simp, rfl, by simp, by omega⟩ ?_ ?_
  · rintro i d env J' P' hP hd ⟨pre, r, x4, x5, rfl, rfl, hld, hpre, hrn, hrl⟩
    have hi : i < es.length := by
      have := (List.getElem?_eq_some_iff.mp hd).1
      rwa [pairUp_len, List.length_map] at this
    have hd2 := pairUp_get (es.map stE) 0 i (stE es[i]) (by rw [List.getElem?_map, List.getElem?_eq_getElem hi]; rfl)
    rw [hd2] at hd
    cases hd
    have hdrop : es.drop i = es[i] :: es.drop (i + 1) := List.drop_eq_getElem_cons hi
    rw [hdrop, leads_cons] at hld
    rw [hdrop, runs_cons] at hrn
    simp [tgSeq, tgs]
    refine stepped_at hs (he _ (List.getElem_mem hi)) (by omega) ?_
    cases hst : stepOf cs r es[i] with
    | none =>
      rw [hst] at hld hrn
      simp [optD, isn_v]
      rw [hP.er]
      have e1 : (((0 + i : Nat) : Int)) = ((leads cs row es).length : Int) - 1 := by rw [hld]; simp; omega
      have := q2 (by rw [hrn]; rfl)
      rw [← e1] at this
      simpa using this
    | some r' =>
      rw [hst] at hld hrn
      have hl2 := stepOf_len hst
      simp [optD, isn_v]
      refine ⟨show _ < 16777216 by omega, hP.nx ⟨pre ++ [r], r', _, _, rfl, by simp, by simp [hld], by simp [hpre], hrn, by omega⟩⟩
  · rintro env J' ⟨pre, r, x4, x5, rfl, rfl, hld, hpre, hrn, hrl⟩
    rw [pairUp_len, List.length_map, List.drop_length] at hld hrn
    rw [leads_nil] at hld
    rw [runs_nil] at hrn
    have hp := rows_pl (rs := pre ++ [r])
    rw [← hld] at hp ⊢
    have := q1 (by rw [hrn]; rfl)
    generalize (leads cs row es).map rT = L at hp this
    simp [dt_l]
    exact ⟨List.all_eq_true.mp hp, this⟩
theorem lc_isstep {xs : List D} {e0 e1 e2 e4 : Option HV} (hs : chs s cs) (hx : xs.length ≤ 90000) (q : Q (.new (xs.map fun d => .bl (stB cs.length d))) J) :
    Ex X (eLc (iAny (eName 3)) (tgName 4) bYes (eCall F_is_step [eName 0, eName 4]) [4] [some (.val s), e1, e2, some (.val (.tup xs)), e4] J) Q := by
  refine Ex_lcX ?_
  simp [wipeE]
  refine Ex_lcLoop (fun i acc J' => acc = (xs.take i).map (fun d => .bl (stB cs.length d)) ∧ J' = J) ⟨rfl, rfl⟩ ?_ ?_
  · rintro i d acc J' hd ⟨rfl, rfl⟩
    have hi : i < xs.length := (List.getElem?_eq_some_iff.mp hd).1
    simp [tgName]
    refine isstep_spec hs ?_
    simp
    refine ⟨show _ < 16777216 by omega, ?_⟩
    rw [List.take_succ, List.getElem?_map, hd]
    rfl
  · rintro acc J' ⟨rfl, rfl⟩
    rw [List.take_length]
    exact q
theorem is_path_spec {row other : List Int} {d : D} (hs : chs s cs) (hd : ∀ xs, d = .tup xs → xs.length + row.length ≤ 90000) (q : Q (.val (.bl (pathB cs row other d))) J) : Ex X (F_is_path [.val s, .val (rT row), .val (rT other), .val d] J) Q := by
  unfold F_is_path B_is_path
  rw [Ex_mkF]
  by_cases ht : ∃ xs, d = .tup xs
  · obtain ⟨xs, rfl⟩ := ht
    have hx := hd xs rfl
    simp [startE, dIsa, jt]
    refine lc_isstep (e0 := none) hs (by omega) ?_
    simp [dAll_f]
    have eP : pathB cs row other (.tup xs) = (xs.all (stB cs.length) && (runs cs row (xs.map seOf) == some other)) := rfl
    rw [eP] at q
    by_cases ha : xs.all (stB cs.length) = true
    · have ha' := List.all_eq_true.mp ha
      rw [ha, Bool.true_and] at q
      rw [if_pos ha']
      refine Sx_loopP (fun i env J' => ∃ r x4, env = [some (.val s), some (.val (rT r)), some (.val (rT other)), some (.val (.tup xs)), x4] ∧ J' = J ∧ runs cs row (xs.map seOf) = runs cs r ((xs.drop i).map seOf) ∧ r.length ≤ row.length + i) ⟨row, _, rfl, rfl, rfl, by omega⟩ ?_ ?_
      · rintro i d env J' P' hP hd ⟨r, x4, rfl, rfl, hrn, hrl⟩
        have hi : i < xs.length := (List.getElem?_eq_some_iff.mp hd).1
        obtain ⟨e1, e2⟩ := st_of (ha' d (List.mem_of_getElem? hd))
        rw [drop_cons' hd, List.map_cons, runs_cons] at hrn
        generalize seOf d = e at e1 e2 hrn
        subst e1
        simp [tgName]
        refine stepped_at hs e2 (by omega) ?_
        cases hst : stepOf cs r e with
        | none =>
          rw [hst] at hrn
          simp [optD, isn_v]
          rw [hP.rt]
          rw [hrn] at q
          simp
          exact q
        | some r' =>
          rw [hst] at hrn
          have hl2 := stepOf_len hst
          simp [optD, isn_v]
          exact hP.nx ⟨r', _, rfl, rfl, hrn, by omega⟩
      · rintro env J' ⟨r, x4, rfl, rfl, hrn, hrl⟩
        rw [List.drop_length] at hrn
        rw [hrn] at q
        have e : (runs cs r ([].map seOf) == some other) = decide (r = other) := by
          show (some r == some other) = _
          by_cases h : r = other <;> simp [h]
        rw [e] at q
        simp [dEq_rows]
        exact q
    · have ha : xs.all (stB cs.length) = false := by simpa using ha
      rw [ha, Bool.false_and] at q
      simp only [List.all_eq_false] at ha
      obtain ⟨x, h1, h2⟩ := ha
      have : ¬ ∀ x ∈ xs, stB cs.length x = true := fun z => h2 (z x h1)
      rw [if_neg this]
      exact q
  · have e1 : isa "tuple" d = false := by
      cases d with
      | tup xs => exact (ht ⟨xs, rfl⟩).elim
      | _ => rfl
    have e2 : pathB cs row other d = false := by
      cases d with
      | tup xs => exact (ht ⟨xs, rfl⟩).elim
      | _ => rfl
    rw [e2] at q
    simp [startE, dIsa, e1]
    exact q
theorem one_sub {w : Bool} : (1 : Int) - wI w = wI (!w) := by cases w <;> rfl
theorem turned_step_spec {e : SE} (q : Q (.val (stE (turnE e))) J) : Ex X (F_turned_step [.val s, .val (stE e)] J) Q := by
  unfold F_turned_step B_turned_step
  rw [Ex_mkF]
  have q : Q (.val (.tup [.int e.1, .int e.2.1, .int (wI (!e.2.2))])) J := q
  simp [startE, stE, ix0, ix1, ix2, dsub, big]
  rw [one_sub]
  exact q
theorem turned_path_spec {es : List SE} (hl : es.length ≤ 90000) (q : Q (.val (.tup ((es.map turnE).reverse.map stE))) J) : Ex X (F_turned_path [.val s, .val (.tup (es.map stE))] J) Q := by
  unfold F_turned_path B_turned_path
  rw [Ex_mkF]
  simp [startE]
  refine Ex_lcX ?_
  simp [wipeE]
  have eR : (es.map stE).reverse = es.reverse.map stE := List.map_reverse.symm
  rw [eR]
  refine Ex_lcLoop (fun i acc J' => acc = ((es.reverse.take i).map turnE).map stE ∧ J' = J) ⟨rfl, rfl⟩ ?_ ?_
  · rintro i d acc J' hd ⟨rfl, rfl⟩
    have hi : i < es.reverse.length := by
      have := (List.getElem?_eq_some_iff.mp hd).1
      rwa [List.length_map] at this
    rw [List.getElem?_map, List.getElem?_eq_getElem hi] at hd
    cases hd
    simp [tgName]
    refine turned_step_spec ?_
    simp
    rw [List.length_reverse] at hi
    refine ⟨show _ < 16777216 by omega, ?_⟩
    rw [List.take_succ, List.getElem?_eq_getElem (by simpa using hi)]
    simp
  · rintro acc J' ⟨rfl, rfl⟩
    rw [List.length_map, List.take_length]
    rw [← List.map_reverse] at q
    generalize (es.reverse.map turnE).map stE = L at q
    simp [dt_l]
    exact q
end K10
set_option Elab.async false
set_option linter.all false
set_option maxRecDepth 100000
set_option maxHeartbeats 4000000
set_option autoImplicit false
namespace K10
open PySem L2 L2.Pz
variable {X : XP} {Q : HV → Jr → Prop} {T J : Jr} {a r : List D} {env : En} {b : Nat} {s : D} {cs : List Ch}
abbrev LIM : Nat := 1000000000
structure Rb (b : Nat) (a r : List D) : Prop where
  out : ∃ (ns : List Int) (s c : Int), a = ns.map D.int ∧ r = [.lnk 0, .int s, .int c] ∧ (∀ n ∈ ns, 0 ≤ n ∧ GBp n) ∧ ns.length ≤ 63 ∧ 0 ≤ s ∧ s < 4294967291 ∧ 0 ≤ c ∧ c ≤ b
theorem Rb.mono {b b' : Nat} (h : Rb b a r) (hb : b ≤ b') : Rb b' a r := by
  obtain ⟨ns, s, c, e1, e2, h1, h2, h3, h4, h5, h6⟩ := h.out
  exact ⟨ns, s, c, e1, e2, h1, h2, h3, h4, h5, by omega⟩
theorem lift_spec {m : Int} (hj : Rb b a r) (hb : b < LIM) (hm : 0 < m) (hm2 : m < 2 ^ 64) (h : ∀ v a' r', 0 ≤ v → v < m → Rb (b + 1) a' r' → Q (.val (.int v)) (a' :: r' :: T)) : Ex X (F_l_lift [.jar 1, .val (.int m)] (a :: r :: T)) Q := by
  obtain ⟨ns, s, c, rfl, rfl, g0, gl, s0, s1, c0, c1⟩ := hj.out
  have hL : (LIM : Nat) = 1000000000 := rfl
  unfold F_l_lift B_l_lift
  rw [Ex_mkF]
  simp [startE, atI, ixN]
  simp [B_l_lift_2, atI, ixN]
  simp [B_l_lift_3]
  by_cases hn : 0 < ns.length
  · rw [if_pos hn]
    have k0 : (0 : Int) ≤ (ns.length : Int) - 1 := by omega
    have k1 : (ns.length : Int) - 1 < ns.length := by omega
    have ek : ((ns.length : Int) - 1).toNat = ns.length - 1 := by omega
    obtain ⟨z0, z1⟩ := g0 _ (List.getElem_mem (l := ns) (n := ns.length - 1) (by omega))
    simp [B_l_lift_4, dsub]
    rw [ixM k0 k1]
    have eg : ns[((ns.length : Int) - 1).toNat]'(by omega) = ns[ns.length - 1]'(by omega) := by congr 1
    rw [eg]
    generalize hz : ns[ns.length - 1]'(by omega) = z at z0 z1
    simp [toInt_i]
    simp [B_l_lift_5, dsub]
    rw [floor_sm ⟨hm, hm2⟩]
    simp
    rw [ixN_in k0 k1, ek]
    obtain ⟨ns', e1, g0', gl', hq⟩ : ∃ ns' : List Int, (ns.map D.int).set (ns.length - 1) (.int (z / m)) = ns'.map D.int ∧ (∀ n ∈ ns', 0 ≤ n ∧ GBp n) ∧ ns'.length = ns.length ∧ True := by
      refine ⟨ns.set (ns.length - 1) (z / m), by rw [List.map_set], fun n hn => ?_, List.length_set, trivial⟩
      rcases List.mem_or_eq_of_mem_set hn with hn | rfl
      · exact g0 n hn
      · exact ⟨Int.ediv_nonneg z0 (by omega), z1.div z0 hm⟩
    simp [e1]
    simp [B_l_lift_6, floor_sm ⟨hm, hm2⟩]
    have v0 := Int.emod_nonneg z (Int.ne_of_gt hm)
    have v1 := Int.emod_lt_of_pos z hm
    by_cases hq0 : z / m = 0
    · rw [if_pos hq0]
      have hl2 : (ns'.map D.int)[(ns'.map D.int).length - 1]? = some (.int (ns'[ns'.length - 1]'(by omega))) := by
        rw [List.length_map, List.getElem?_map, List.getElem?_eq_getElem (by omega)]; rfl
      have hdl : (ns'.map D.int).dropLast = ns'.dropLast.map D.int := by rw [List.map_dropLast]
      have hpl := allP_int (ns := ns')
      rw [Ex_pop0]
      simp only [List.getElem?_cons_succ, List.getElem?_cons_zero, jarQ_some, OpQ_some, hl2, hdl]
      refine ⟨hpl, ?_⟩
      simp [B_l_lift_8, mod_sm hm]
      exact h _ _ _ v0 v1 ⟨⟨ns'.dropLast, s, c + 1, hdl, rfl, fun n hn => g0' n ((List.dropLast_sublist _).subset hn), by simp; omega, s0, s1, by omega, by omega⟩⟩
    · rw [if_neg hq0]
      simp [B_l_lift_8, mod_sm hm]
      exact h _ _ _ v0 v1 ⟨⟨ns', s, c + 1, rfl, rfl, g0', by omega, s0, s1, by omega, by omega⟩⟩
  · rw [if_neg hn]
    simp [B_l_lift_9, atI, ixN]
    rw [mul_sm ⟨s0, by omega⟩ (by decide), mul_sm (by omega) (by decide)]
    simp [toInt_i]
    rw [mod_sm (by decide)]
    simp [B_l_lift_10, atI, ixN]
    rw [floor_sm (by decide)]
    simp [toInt_i]
    rw [mod_sm hm]
    simp
    exact h _ _ _ (Int.emod_nonneg _ (Int.ne_of_gt hm)) (Int.emod_lt_of_pos _ hm) ⟨⟨ns, _, c + 1, rfl, rfl, g0, gl, Int.emod_nonneg _ (by decide), Int.emod_lt_of_pos _ (by decide), by omega, by omega⟩⟩
theorem chest_spec (ns : List Int) (hn : ns.length ≤ 63) (q : ∀ a r, Rb 63 a r → Q (.newB [a, r] 1) []) : Ex X (F_l_chest [.val (.lst (ns.map D.int))] []) Q := by
  have e0 : rgOk (ns.length : Int) = true := by unfold rgOk; simp; omega
  unfold F_l_chest B_l_chest
  rw [Ex_mkF]
  simp [startE]
  simp [B_l_chest_2]
  simp [B_l_chest_3, e0]
  refine Sx_loopP (fun i env J => ∃ x3 x4, ∃ (ps : List Int) (st : Int), env = [some (.val (.lst (ns.map D.int))), some (.jar 0), some (.val (.int st)), x3, x4] ∧ J = [ps.map D.int] ∧ (∀ n ∈ ps, 0 ≤ n ∧ GBp n) ∧ ps.length ≤ i ∧ 0 ≤ st ∧ st < 4294967291) ⟨_, _, [], 0, rfl, rfl, by simp, by simp, by decide, by decide⟩ ?_ ?_
  · rintro i d env J P' hP hd ⟨x3, x4, ps, st, rfl, rfl, hps, hpl, t0, t1⟩
    obtain ⟨rfl, hi⟩ := rgD_get hd
    have hi : i < ns.length := by simpa using hi
    simp [tgName]
    have hg : dIx (.lst (ns.map D.int)) (.int i) = some (.val (.int (ns[i]'hi))) := by
      rw [ixM (by omega) (by omega)]; rfl
    obtain ⟨m1, m2⟩ := mod_GB (x := if ns[i]'hi < 0 then -(ns[i]'hi) else ns[i]'hi)
    simp [B_l_chest_4, hg, toInt_i, shl2000, dAbs, dInt2, -Int.reducePow]
    rw [mod_sm pos2000]
    generalize (if ns[i]'hi < 0 then -(ns[i]'hi) else ns[i]'hi) % 2 ^ 2000 = x at m1 m2
    have p18 : dPow (.int 10) (.int 18) = some (.val (.int 1000000000000000000)) := by with_unfolding_all rfl
    have fin : ∀ ps : List Int, (∀ n ∈ ps, 0 ≤ n ∧ GBp n) → ps.length ≤ i + 1 → Sx P' (B_l_chest_7 0 [some (.val (.lst (ns.map D.int))), some (.jar 0), some (.val (.int st)), some (.val (.int i)), some (.val (.int x))] [ps.map D.int]) := by
      intro ps hps hpl
      simp [B_l_chest_7]
      rw [mul_sm ⟨t0, by omega⟩ (by decide), mod_sm (by decide)]
      simp [toInt_i]
      rw [mod_sm (by decide)]
      simp
      exact hP.nx ⟨_, _, ps, _, rfl, rfl, hps, hpl, Int.emod_nonneg _ (by decide), Int.emod_lt_of_pos _ (by decide)⟩
    simp [B_l_chest_5, p18, ge_i]
    by_cases hx : (1000000000000000000 : Int) ≤ x
    · rw [if_pos hx]
      refine ⟨show _ < 16777216 by omega, ?_⟩
      have := fin (ps ++ [x]) (fun n hn => by
        rcases List.mem_append.mp hn with hn | hn
        · exact hps n hn
        · rw [List.mem_singleton.mp hn]; exact ⟨m1, m2⟩) (by simp; omega)
      rw [List.map_append] at this
      exact this
    · rw [if_neg hx]
      exact fin ps hps (by omega)
  · rintro env J ⟨x3, x4, ps, st, rfl, rfl, hps, hpl, t0, t1⟩
    rw [rgD_len] at hpl
    simp [B_l_chest_8, big]
    exact q _ _ ⟨⟨ps, st, 10, rfl, rfl, hps, by omega, t0, t1, by decide, by decide⟩⟩
theorem hear_spec {row : List Int} {e : SE} (hs : chs s cs) (hn : e.1 < cs.length) (hl : row.length ≤ 100000) (q : Q (.val (optD (stepOf cs row e))) J) : Ex X (F_l_hear [.val s, .val (rT row), .val (.int e.1), .val (.int e.2.1), .val (.int (wI e.2.2))] J) Q := by
  have ic : dIx (.tup (cs.map Ch.d)) (.int e.1) = some (.val (cs[e.1]'hn).d) := by
    rw [ixT (by rw [List.length_map]; exact hn), List.getElem_map]
  rw [stepOf_at hn] at q
  obtain ⟨n, p, w⟩ := e
  dsimp only at ic q hn ⊢
  unfold F_l_hear B_l_hear
  rw [Ex_mkF]
  simp [startE, hs, ic]
  generalize cs[n]'hn = c at q
  have fin : ∀ (bf bh : List Int) (x0 x2 : Option HV), bf.length ≤ 2 → bh.length ≤ 2 → Q (.val (optD (swapP bf bh row p))) J →
      Sx (dfX X J.length Q) (B_l_hear_14 J.length [x0, some (.val (rT row)), x2, some (.val (.int p)), some (.val (.int (wI w))), some (.val c.d), some (.val (rT bf)), some (.val (rT bh))] J) := by
    intro bf bh x0 x2 h1 h2 q
    unfold swapP at q
    have e1 : D.tup (cutD (row.map D.int) (some (p : Int)) (some ((p : Int) + (bf.length : Int)))) = rT ((row.drop p).take bf.length) := by
      rw [cut_pk]; simp [List.map_take, List.map_drop]
    simp [B_l_hear_14, gt_i, slT]
    by_cases hp : row.length < p
    · rw [if_neg (fun z => absurd z.1 (by omega))] at q
      rw [if_pos (by omega)]
      exact q
    · rw [if_neg (by omega), e1, dNe_rows]
      simp
      by_cases hb : (row.drop p).take bf.length = bf
      · rw [if_pos ⟨by omega, hb⟩] at q
        rw [if_pos hb]
        simp [B_l_hear_16, slT, cut_to, cut_fromk]
        rw [dAdd_tt (by simp; omega)]
        simp
        rw [dAdd_tt (by simp; omega)]
        simp
        exact fin q (by simp [List.map_take, List.map_drop])
      · rw [if_neg fun z => hb z.2] at q
        rw [if_neg hb]
        exact q
  have rep1 : ∀ v : Int, dRepT (.tup [.int v]) (.int 1) = some (.val (.tup [.int v])) := fun v => rfl
  have rep2 : ∀ v : Int, dRepT (.tup [.int v]) (.int 2) = some (.val (.tup [.int v, .int v])) := fun v => rfl
  cases c with
  | held v =>
    rw [swap_held] at q
    cases w
    · simp [B_l_hear_2, Ch.d, ix0, e_held_idle, e_held_held, B_l_hear_6, ix1, dsub, rep2, big]
      simp [B_l_hear_7, ix1, rep1, big, Ch.d]
      exact fin [v, v] [v] _ _ (by simp) (by simp) q
    · simp [B_l_hear_2, Ch.d, ix0, e_held_idle, e_held_held, B_l_hear_6, ix1, dsub, rep1, big]
      simp [B_l_hear_7, ix1, rep2, big, Ch.d]
      exact fin [v] [v, v] _ _ (by simp) (by simp) q
  | idle v =>
    rw [swap_idle] at q
    cases w
    · simp [B_l_hear_2, Ch.d, ix0, e_idle_idle, B_l_hear_3, ix1, big]
      simp [B_l_hear_4, ix1, big, Ch.d]
      exact fin [v] [] _ _ (by simp) (by simp) q
    · simp [B_l_hear_2, Ch.d, ix0, e_idle_idle, B_l_hear_3, ix1, big]
      simp [B_l_hear_4, ix1, big, Ch.d]
      exact fin [] [v] _ _ (by simp) (by simp) q
  | loose u v =>
    rw [swap_loose] at q
    cases w
    · simp [B_l_hear_2, Ch.d, ix0, e_loose_idle, e_loose_held, e_loose_same, B_l_hear_12, ix1, ix2, dsub, big]
      simp [B_l_hear_13, ix1, ix2, dsub, big, Ch.d]
      exact fin [v, u] [u, v] _ _ (by simp) (by simp) q
    · simp [B_l_hear_2, Ch.d, ix0, e_loose_idle, e_loose_held, e_loose_same, B_l_hear_12, ix1, ix2, dsub, big]
      simp [B_l_hear_13, ix1, ix2, dsub, big, Ch.d]
      exact fin [u, v] [v, u] _ _ (by simp) (by simp) q
  | same u v =>
    rw [swap_same] at q
    cases w
    · simp [B_l_hear_2, Ch.d, ix0, e_same_idle, e_same_held, e_same_same, B_l_hear_9, ix1, ix2, dsub, big]
      simp [B_l_hear_10, ix1, ix2, dsub, big, Ch.d]
      exact fin [v] [u] _ _ (by simp) (by simp) q
    · simp [B_l_hear_2, Ch.d, ix0, e_same_idle, e_same_held, e_same_same, B_l_hear_9, ix1, ix2, dsub, big]
      simp [B_l_hear_10, ix1, ix2, dsub, big, Ch.d]
      exact fin [u] [v] _ _ (by simp) (by simp) q
end K10
set_option Elab.async false
set_option linter.all false
set_option maxRecDepth 100000
set_option maxHeartbeats 4000000
set_option autoImplicit false
namespace K10
open PySem L2 L2.Pz
variable {X : XP} {Q : HV → Jr → Prop} {T J : Jr} {a r : List D} {env : En} {b : Nat} {s : D} {cs : List Ch}
theorem hear_at {row : List Int} {e : SE} (hs : chs s cs) (hn : e.1 < cs.length) (hl : row.length ≤ 100000) (q : Q (.val (optD (stepOf cs row e))) J) : Ex X (F_l_hear [.val s, .val (rT row), .val (.int e.1), .val (.int e.2.1), .val (.int (wI e.2.2))] J) Q := hear_spec hs hn hl q
theorem ste0 {e : SE} : dIx (stE e) (.int 0) = some (.val (.int e.1)) := ix0
theorem ste1 {e : SE} : dIx (stE e) (.int 1) = some (.val (.int e.2.1)) := ix1
theorem ste2 {e : SE} : dIx (stE e) (.int 2) = some (.val (.int (wI e.2.2))) := ix2
theorem leads_spec {row : List Int} {es : List SE} (hs : chs s cs) (he : ∀ e ∈ es, e.1 < cs.length) (hl : row.length + es.length ≤ 90000) (q : Q (.new ((leads cs row es).map rT)) J) :
    Ex X (F_l_leads [.val s, .val (rT row), .val (.tup (es.map stE))] J) Q := by
  unfold F_l_leads B_l_leads
  rw [Ex_mkF]
  simp [startE, big]
  simp [B_l_leads_2]
  have fin : ∀ env, env[3]? = some (some (.jar J.length)) → Sx (dfX X J.length Q) (B_l_leads_7 J.length env (J ++ [(leads cs row es).map rT])) := by
    intro env e3
    have hp := rows_pl (rs := leads cs row es)
    generalize (leads cs row es).map rT = L at hp q
    simp [B_l_leads_7, e3]
    rw [outH_jar (ds := L) (Nat.le_refl _) (by simp) hp]
    simp
    exact q
  refine Sx_loopP (fun i env J' => ∃ pre r x4, env = [some (.val s), some (.val (rT r)), some (.val (.tup (es.map stE))), some (.jar J.length), x4] ∧ J' = J ++ [(pre ++ [r]).map rT] ∧ leads cs row es = pre ++ leads cs r (es.drop i) ∧ pre.length = i ∧ r.length ≤ row.length + i) ⟨[], row, _, rfl, rfl, by simp, rfl, by omega⟩ ?_ ?_
  · rintro i d env J' P' hP hd ⟨pre, r, x4, rfl, rfl, hld, hpre, hrl⟩
    have hi : i < es.length := by
      have := (List.getElem?_eq_some_iff.mp hd).1
      rwa [List.length_map] at this
    rw [List.getElem?_map, List.getElem?_eq_getElem hi] at hd
    cases hd
    rw [List.drop_eq_getElem_cons hi, leads_cons] at hld
    simp [tgName]
    simp [B_l_leads_3, ste0, ste1, ste2]
    refine hear_at hs (he _ (List.getElem_mem hi)) (by omega) ?_
    cases hst : stepOf cs r es[i] with
    | none =>
      rw [hst] at hld
      simp [optD, B_l_leads_4, isn_v]
      have := fin [some (.val s), some (.val .non), some (.val (.tup (es.map stE))), some (.jar J.length), some (.val (stE es[i]))] rfl
      refine hP.bk ?_
      simp
      rw [hld] at this
      simpa using this
    | some r' =>
      rw [hst] at hld
      have hl2 := stepOf_len hst
      simp [optD, B_l_leads_4, isn_v, B_l_leads_6]
      exact ⟨show _ < 16777216 by omega, hP.nx ⟨pre ++ [r], r', _, rfl, by simp, by simp [hld], by simp [hpre], by omega⟩⟩
  · rintro env J' ⟨pre, r, x4, rfl, rfl, hld, hpre, hrl⟩
    rw [List.length_map, List.drop_length, leads_nil] at hld
    have := fin [some (.val s), some (.val (rT r)), some (.val (.tup (es.map stE))), some (.jar J.length), x4] rfl
    rw [hld] at this
    simpa using this
theorem rowis_spec {l : List Int} (hl : l.length ≤ 100000) (q : Q (.val (.bl true)) J) : Ex X (F_l_row_is [.val (rT l), .val (rT l)] J) Q := by
  unfold F_l_row_is B_l_row_is
  rw [Ex_mkF]
  have e0 : rgOk (l.length : Int) = true := by unfold rgOk; simp; omega
  simp [startE, dIsa, jt]
  simp [B_l_row_is_3, e0]
  refine Sx_loopP (fun i env J' => ∃ x2, env = [some (.val (rT l)), some (.val (rT l)), x2] ∧ J' = J) ⟨_, rfl, rfl⟩ ?_ ?_
  · rintro i d env J' P' hP hd ⟨x2, rfl, rfl⟩
    obtain ⟨rfl, hi⟩ := rgD_get hd
    have hi : i < l.length := by simpa using hi
    simp [tgName, B_l_row_is_4, ixR hi, dIsa, ji, jb]
    exact hP.nx ⟨_, rfl, rfl⟩
  · rintro env J' ⟨x2, rfl, rfl⟩
    simp [B_l_row_is_6]
    exact q
theorem rowsare_spec {ls : List (List Int)} {dl : D} (hd : dl = .tup (ls.map rT) ∨ dl = .lst (ls.map rT)) (hl : ∀ l ∈ ls, l.length ≤ 100000) (hn : ls.length ≤ 100000) (q : Q (.val (.bl true)) J) : Ex X (F_l_rows_are [.val (.tup (ls.map rT)), .val dl] J) Q := by
  unfold F_l_rows_are B_l_rows_are
  rw [Ex_mkF]
  have e0 : rgOk (ls.length : Int) = true := by unfold rgOk; simp; omega
  have el : dLen dl = some (.val (.int ls.length)) := by rcases hd with rfl | rfl <;> simp [dLen]
  have ei : ∀ i : Nat, ∀ hi : i < ls.length, dIx dl (.int i) = some (.val (rT ls[i])) := fun i hi => by
    have := ixT (ds := ls.map rT) (n := i) (by simpa using hi)
    rw [List.getElem_map] at this
    rcases hd with rfl | rfl <;> exact this
  have et : ∀ i : Nat, ∀ hi : i < ls.length, dIx (.tup (ls.map rT)) (.int i) = some (.val (rT ls[i])) := fun i hi => by
    have := ixT (ds := ls.map rT) (n := i) (by simpa using hi)
    rw [List.getElem_map] at this
    exact this
  have e1 : dLen (.tup (ls.map rT)) = some (.val (.int ls.length)) := by simp [dLen]
  have e2 : isa "tuple" (.tup (ls.map rT)) = true := rfl
  generalize D.tup (ls.map rT) = L at et e1 e2
  simp [startE, dIsa, e1, e2, el]
  simp [B_l_rows_are_3, el, e0]
  refine Sx_loopP (fun i env J' => ∃ x2, env = [some (.val L), some (.val dl), x2] ∧ J' = J) ⟨_, rfl, rfl⟩ ?_ ?_
  · rintro i d env J' P' hP hd ⟨x2, rfl, rfl⟩
    obtain ⟨rfl, hi⟩ := rgD_get hd
    have hi : i < ls.length := by simpa using hi
    simp [tgName, B_l_rows_are_4, et i hi, ei i hi]
    refine rowis_spec (hl _ (List.getElem_mem hi)) ?_
    simp
    exact hP.nx ⟨_, rfl, rfl⟩
  · rintro env J' ⟨x2, rfl, rfl⟩
    simp [B_l_rows_are_6]
    exact q
theorem runs_spec {row : List Int} {es : List SE} {nm : Bool} (hs : chs s cs) (he : ∀ e ∈ es, e.1 < cs.length) (hl : row.length + es.length ≤ 40000) (q : Q (.val (.bl true)) J) :
    Ex X (F_l_runs [.val s, .val (rT row), .val (.tup (es.map stE)), .val (.bl nm)] J) Q := by
  unfold F_l_runs B_l_runs
  rw [Ex_mkF]
  simp [startE]
  refine leads_spec hs he (by omega) ?_
  have hle := leads_le (cs := cs) (es := es) (row := row)
  have hpos := leads_pos (cs := cs) (es := es) (row := row)
  have hfu := leads_full (cs := cs) (es := es) (row := row)
  have hll : ∀ l ∈ leads cs row es, l.length ≤ 100000 := fun l h => by have := leads_len h; omega
  have key : ∀ {Q : HV → Jr → Prop} {X : XP} {J : Jr}, ((runs cs row es).isSome = true → Q (.val (.tup ((leads cs row es).map rT))) J) → ((runs cs row es).isSome = false → X "BadPath" [("at", .int (((leads cs row es).length : Int) - 1))] J) →
    Ex X (F_run_steps [.val s, .val (rT row), .val (.tup (es.map stE))] J) Q := fun a b => run_steps_spec hs he (by omega) a b
  generalize hL : leads cs row es = L at *
  have e1 : dLen (.lst (L.map rT)) = some (.val (.int L.length)) := by simp [dLen]
  have e2 : dLen (.tup (es.map stE)) = some (.val (.int es.length)) := by simp [dLen]
  generalize hS : D.tup (es.map stE) = S at *
  simp only [norm_new]
  have m1 : anyM isM "BadPath" ["BadStep", "DataError", "TextError", "AskError"] = some false := by with_unfolding_all rfl
  have m2 : isM "BadPath" "CallError" = some true := by with_unfolding_all rfl
  have m3 : isM "BadPath" "ValueError" = some true := by with_unfolding_all rfl
  cases nm <;> (
    simp [B_l_runs_2, permute]
    refine key (fun h => ?_) (fun h => ?_)
    · have hf := hfu.mpr h
      have hra := fun {Q : HV → Jr → Prop} {X : XP} {J : Jr} (q : Q (.val (.bl true)) J) => rowsare_spec (X := X) (Q := Q) (J := J) (ls := L) (dl := .lst (L.map rT)) (.inr rfl) hll (by omega) q
      simp
      generalize D.lst (L.map rT) = LL at *
      generalize D.tup (L.map rT) = LT at *
      simp [B_l_runs_12, e1, e2, hf]
      refine hra ?_
      simp
      exact q
    · have hn : ¬ L.length = es.length + 1 := fun z => by rw [hfu.mp z] at h; cases h
      rw [Sx_hit (show excM "BadPath" "BadPath" = some true by with_unfolding_all rfl)]
      generalize D.lst (L.map rT) = LL at *
      simp [sFor1, sufP, onE, m1, m2, m3, List.lookup, dIsa, ji, jb, e1, e2, le_i, dsub]
      rw [if_pos (by omega)]
      exact q)
theorem isB {c : Bool} : dIsB (.bl c) (.bl c) = some (.val (.bl true)) := by cases c <;> rfl
theorem is_spec {row other : List Int} {d : D} {due nm : Bool} (hs : chs s cs) (hd : ∀ xs, d = .tup xs → xs.length + row.length ≤ 90000) (e : pathB cs row other d = due) (q : Q (.val (.bl true)) J) :
    Ex X (F_l_is [.val s, .val (rT row), .val (rT other), .val d, .val (.bl due), .val (.bl nm)] J) Q := by
  unfold F_l_is B_l_is
  rw [Ex_mkF]
  cases nm <;> (
    simp [startE, permute]
    refine is_path_spec hs hd ?_
    rw [e]
    cases due <;> (simp [B_l_is_2, isB]; exact q))
theorem judge_spec {row other : List Int} {es : List SE} {nm : Bool} (hs : chs s cs) (he : ∀ e ∈ es, e.1 < cs.length) (hl : row.length + es.length ≤ 40000) (q : Q (.val (.bl true)) J) :
    Ex X (F_l_judge [.val s, .val (rT row), .val (rT other), .val (.tup (es.map stE)), .val (.bl nm)] J) Q := by
  unfold F_l_judge B_l_judge
  rw [Ex_mkF]
  simp [startE]
  refine leads_spec hs he (by omega) ?_
  have hle := leads_le (cs := cs) (es := es) (row := row)
  have hpos := leads_pos (cs := cs) (es := es) (row := row)
  have hfu := leads_full (cs := cs) (es := es) (row := row)
  have hpb := pathB_steps (row := row) (other := other) he
  have hla := fun e h => leads_last (cs := cs) (es := es) (row := row) (end' := e) h
  have his := fun {due : Bool} {X : XP} {Q : HV → Jr → Prop} (e : pathB cs row other (.tup (es.map stE)) = due) (q : Q (.val (.bl true)) J) => is_spec (X := X) (Q := Q) (J := J) (nm := nm) hs (fun xs h => by cases h; rw [List.length_map]; omega) e q
  generalize hL : leads cs row es = L at *
  have e1 : dLen (.lst (L.map rT)) = some (.val (.int L.length)) := by simp [dLen]
  have e2 : dLen (.tup (es.map stE)) = some (.val (.int es.length)) := by simp [dLen]
  have e3 : ∀ e, L[es.length]? = some e → dIx (.lst (L.map rT)) (.int ((L.length : Int) - 1)) = some (.val (rT e)) := fun e h => by
    have hlt := (List.getElem?_eq_some_iff.mp h).1
    have hL1 : es.length + 1 = L.length := by omega
    have e0 : ((L.length : Int) - 1) = ((es.length : Nat) : Int) := by omega
    rw [e0]
    have := ixT (ds := L.map rT) (n := es.length) (by simpa using hlt)
    rw [List.getElem_map, (List.getElem?_eq_some_iff.mp h).2] at this
    exact this
  generalize hS : D.tup (es.map stE) = S at *
  simp [B_l_judge_2, e1, e2, dsub]
  by_cases h : L.length = es.length + 1
  · obtain ⟨en, hen⟩ := Option.isSome_iff_exists.mp (hfu.mp h)
    rw [if_pos (by omega), e3 en (hla en hen)]
    simp [dEq_rows, B_l_judge_3]
    refine his (by rw [hpb, hen]; by_cases h : en = other <;> simp [h]) ?_
    simp
    exact q
  · have hn : runs cs row es = none := by
      cases h2 : runs cs row es with
      | none => rfl
      | some x => exact (h (hfu.mpr (by rw [h2]; rfl))).elim
    rw [if_neg (by omega)]
    simp [B_l_judge_3]
    refine his (by rw [hpb, hn]; rfl) ?_
    simp
    exact q
theorem turns_spec {es : List SE} {nm : Bool} (hl : es.length ≤ 40000) (q : Q (.val (.bl true)) J) :
    Ex X (F_l_turns [.val s, .val (.tup (es.map stE)), .val (.bl nm)] J) Q := by
  unfold F_l_turns B_l_turns
  rw [Ex_mkF]
  simp [startE, dl_t]
  have lc : ∀ {Q : HV → Jr → Prop} {X : XP} {e0 e2 e3 e4 e5 e6 : Option HV}, Q (.new ((es.map turnE).reverse.map stE)) J → Ex X (eLc (iRevA (eUn dList (eName 1))) (tgName 6) bYes (eTup [eBin dIx (eName 6) (eC (.int 0)), eBin dIx (eName 6) (eC (.int 1)), eBin dSub (eC (.int 1)) (eBin dIx (eName 6) (eC (.int 2)))]) [6] [e0, some (.val (.tup (es.map stE))), e2, e3, e4, e5, e6] J) Q := by
    intro Q X e0 e2 e3 e4 e5 e6 q
    refine Ex_lcX ?_
    simp [wipeE, dl_t]
    have eR : (es.map stE).reverse = es.reverse.map stE := List.map_reverse.symm
    rw [eR]
    refine Ex_lcLoop (fun i acc J' => acc = ((es.reverse.take i).map turnE).map stE ∧ J' = J) ⟨rfl, rfl⟩ ?_ ?_
    · rintro i d acc J' hd ⟨rfl, rfl⟩
      have hi : i < es.reverse.length := by
        have := (List.getElem?_eq_some_iff.mp hd).1
        rwa [List.length_map] at this
      rw [List.getElem?_map, List.getElem?_eq_getElem hi] at hd
      cases hd
      simp [tgName, ste0, ste1, ste2, dsub, big]
      rw [List.length_reverse] at hi
      refine ⟨show _ < 16777216 by omega, ?_⟩
      rw [one_sub, List.take_succ, List.getElem?_eq_getElem (by simpa using hi)]
      simp
      rfl
    · rintro acc J' ⟨rfl, rfl⟩
      rw [List.length_map, List.take_length]
      rw [← List.map_reverse] at q
      exact q
  refine lc ?_
  have ht := fun {Q : HV → Jr → Prop} {X : XP} {J : Jr} (q : Q (.val (.tup ((es.map turnE).reverse.map stE))) J) => turned_path_spec (s := s) (X := X) (Q := Q) (J := J) (es := es) (by omega) q
  have hgl : ((es.map turnE).reverse.map stE).length = es.length := by simp
  have eD : (es.map turnE).reverse.map stE = ((es.map turnE).reverse.map fun e => [(e.1 : Int), (e.2.1 : Int), wI e.2.2]).map rT := by
    rw [List.map_map]; rfl
  have hra := fun {Q : HV → Jr → Prop} {X : XP} {J : Jr} (q : Q (.val (.bl true)) J) => rowsare_spec (X := X) (Q := Q) (J := J) (ls := (es.map turnE).reverse.map fun e => [(e.1 : Int), (e.2.1 : Int), wI e.2.2]) (dl := .tup ((es.map turnE).reverse.map stE)) (.inl (by rw [eD])) (fun l h => by
    obtain ⟨e, _, rfl⟩ := List.mem_map.mp h
    simp) (by simp; omega) q
  rw [← eD] at hra
  have hat : ∀ i : Nat, ∀ hi : i < es.length, dIx (.tup ((es.map turnE).reverse.map stE)) (.int ((es.length : Int) - 1 - i)) = some (.val (stE (turnE es[i]))) := fun i hi => by
    have e0 : ((es.length : Int) - 1 - i) = ((es.length - 1 - i : Nat) : Int) := by omega
    rw [e0, ixT (by simp; omega)]
    simp
    congr 4
    omega
  have hst : ∀ i : Nat, ∀ hi : i < es.length, dIx (.tup (es.map stE)) (.int i) = some (.val (stE es[i])) := fun i hi => by
    rw [ixT (by simpa using hi), List.getElem_map]
  have e1 : dLen (.tup (es.map stE)) = some (.val (.int es.length)) := by simp [dLen]
  have e2 : dLen (.tup ((es.map turnE).reverse.map stE)) = some (.val (.int es.length)) := by simp [dLen]
  generalize hS : D.tup (es.map stE) = S at *
  simp only [norm_new, deref_new, OpQ_some, dt_l, norm_val]
  generalize hTT : D.tup ((es.map turnE).reverse.map stE) = TT at *
  obtain ⟨m, hm, m0, m1⟩ : ∃ m : Int, dMin (.int es.length) (.int 12) = some (.val (.int m)) ∧ 0 ≤ m ∧ m ≤ es.length := by
    refine ⟨_, min_i, ?_, ?_⟩ <;> (split <;> omega)
  have e0 : rgOk m = true := by unfold rgOk; simp; omega
  have key : ∀ nm : Bool, Sx (dfX X J.length Q) (B_l_turns_3 J.length [some (.val s), some (.val S), some (.val (.bl nm)), some (.val TT), some (.val TT), none, none] J) := by
    intro nm
    simp [B_l_turns_3]
    refine hra ?_
    simp [B_l_turns_5, e1, hm, e0]
    refine Sx_loopP (fun i env J' => ∃ x4 x5, env = [some (.val s), some (.val S), some (.val (.bl nm)), some (.val TT), x4, x5, none] ∧ J' = J) ⟨_, _, rfl, rfl⟩ ?_ ?_
    · rintro i d env J' P' hP hd ⟨x4, x5, rfl, rfl⟩
      obtain ⟨rfl, hi⟩ := rgD_get hd
      have hi : i < es.length := by omega
      cases nm <;> (
        simp [tgName, B_l_turns_6, permute, hst i hi]
        refine turned_step_spec ?_
        simp [B_l_turns_7, e2, dsub, hat i hi]
        refine rowis_spec (l := [((turnE es[i]).1 : Int), ((turnE es[i]).2.1 : Int), wI (turnE es[i]).2.2]) (by simp) ?_
        simp
        exact hP.nx ⟨_, _, rfl, rfl⟩)
    · rintro env J' ⟨x4, x5, rfl, rfl⟩
      simp [B_l_turns_9]
      exact q
  cases nm <;> (
    simp [B_l_turns_2, permute]
    refine ht ?_
    simp
    exact key _)
end K10
set_option Elab.async false
set_option linter.all false
set_option maxRecDepth 100000
set_option maxHeartbeats 4000000
set_option autoImplicit false
namespace K10
open PySem L2 L2.Pz
variable {X : XP} {Q : HV → Jr → Prop} {T J : Jr} {a r : List D} {env : En} {b : Nat} {s : D} {cs : List Ch}
theorem pathB_bad {row other : List Int} {xs : List D} {d : D} (h : d ∈ xs) (hb : stB cs.length d = false) : pathB cs row other (.tup xs) = false := by
  have : xs.all (stB cs.length) = false := by
    rw [List.all_eq_false]
    exact ⟨d, h, by rw [hb]; simp⟩
  show (xs.all (stB cs.length) && _) = false
  rw [this]; rfl
theorem runs_stuck {row : List Int} {pre post : List SE} {e : SE} (h : ∀ r, runs cs row pre = some r → stepOf cs r e = none) : runs cs row (pre ++ e :: post) = none := by
  rw [runs_app]
  cases h2 : runs cs row pre with
  | none => rfl
  | some r =>
    show runs cs r (e :: post) = none
    rw [runs_cons, h r h2]
theorem stepOf_far {row : List Int} {e : SE} (h : row.length < e.2.1) : stepOf cs row e = none := by
  unfold stepOf
  split
  · exact stP_far h
  · rfl
theorem stB_no3 {m : Int} {d : D} (h : ∀ x y z, d ≠ .tup [x, y, z]) : stB m d = false := by
  unfold stB
  split
  · exact (h _ _ _ rfl).elim
  · rfl
/-- no step that can be done -/
def NoSt (m : Nat) (d : D) : Prop := isP d = true ∧ (stB m d = false ∨ ∃ e : SE, d = stE e ∧ e.1 < m ∧ 200000 ≤ e.2.1)
theorem nost_path {row other : List Int} {es : List SE} {i : Nat} {d : D} (he : ∀ e ∈ es, e.1 < cs.length) (hl : row.length + es.length ≤ 40000) (h : NoSt cs.length d) : pathB cs row other (.tup ((es.map stE).take i ++ d :: (es.map stE).drop (i + 1))) = false := by
  rcases h.2 with h | ⟨e, rfl, h1, h2⟩
  · exact pathB_bad (d := d) (by simp) h
  · have e1 : (es.map stE).take i ++ stE e :: (es.map stE).drop (i + 1) = (es.take i ++ e :: es.drop (i + 1)).map stE := by simp [List.map_take, List.map_drop]
    rw [e1, pathB_steps, runs_stuck]
    · rfl
    · intro r hr
      have := runs_len hr
      rw [List.length_take] at this
      exact stepOf_far (by omega)
    · intro x hx
      rcases List.mem_append.mp hx with hx | hx
      · exact he x (List.mem_of_mem_take hx)
      · rcases List.mem_cons.mp hx with rfl | hx
        · exact h1
        · exact he x (List.mem_of_mem_drop hx)
theorem cut_to_neg {ds : List D} (h : 0 < ds.length) : cutD ds none (some (-1)) = ds.dropLast := by
  unfold cutD
  rw [HT.sIx_none, List.drop_zero, Nat.sub_zero]
  have : HT.sIx ds.length ds.length (some (-1)) = ds.length - 1 := by
    simp [HT.sIx]
    omega
  rw [this, List.dropLast_eq_take]
theorem cut_to1 {ds : List D} {p : Nat} : cutD ds none (some ((p : Int) + 1)) = ds.take (p + 1) := cut_to (p := p + 1)
theorem cut_to_neg0 : cutD [] none (some (-1)) = [] := rfl
abbrev evF (s : D) (row : List Int) (E : List D) (nm : Bool) (m : Int) (L : List (List Int)) (en : List Int) (i : Nat) (l : List (Option HV)) : En := some (.jar 1) :: some (.val s) :: some (.val (rT row)) :: some (.val (.tup E)) :: some (.val (.bl nm)) :: some (.val (.int m)) :: some (.val (.lst (L.map rT))) :: some (.val (rT en)) :: some (.val (.int i)) :: l
theorem goals_spec {row en : List Int} {es : List SE} {nm : Bool} {L : List (List Int)} {i n : Nat} {x9 x10 x11 x12 x13 x14 x15 x16 x17 x18 : Option HV} {J' : Jr} {P : Po} (hs : chs s cs) (he : ∀ e ∈ es, e.1 < cs.length) (hl : row.length + es.length ≤ 30000) (hen : en.length ≤ 60000) (hi : i < L.length)
    (q : P.rt (.val (.bl true)) J') : Sx P (B_l_faults_34 n (evF s row (es.map stE) nm cs.length L en i [x9, x10, x11, x12, x13, x14, x15, x16, x17, x18]) J') := by
  have hix : dIx (.lst (L.map rT)) (.int i) = some (.val (rT L[i])) := by
    have := ixT (ds := L.map rT) (n := i) (by simpa using hi)
    rw [List.getElem_map] at this
    exact this
  have hto : cutD (en.map D.int) none (some (-1)) = en.dropLast.map D.int := by
    by_cases h0 : 0 < en.length
    · rw [cut_to_neg (by simpa using h0), List.map_dropLast]
    · have : en = [] := List.eq_nil_of_length_eq_zero (by omega)
      subst this; rfl
  have hfr : cutD (en.map D.int) (some 1) none = (en.drop 1).map D.int := by
    rw [cutD_from (by decide)]; simp [List.map_drop]
  have hju := fun {X : XP} {Q : HV → Jr → Prop} {J : Jr} (g : List Int) (q : Q (.val (.bl true)) J) => judge_spec (X := X) (Q := Q) (J := J) (row := row) (es := es) (nm := nm) (other := g) hs he (by omega) q
  generalize hE : es.map stE = E at *
  have e1 : ∀ l : List Int, l.length ≤ 60000 → dAdd (rT l) (.tup [.int 0]) = some (.val (rT (l ++ [0]))) := fun l h => by
    rw [dAdd_tt (by simp; omega)]; simp
  simp [B_l_faults_34, big, slT, hto, hfr, hix, neg_i, dl_t]
  have e3 : dAdd (.tup (en.map D.int).dropLast) (.tup [.int 0]) = some (.val (rT (en.dropLast ++ [0]))) := by
    rw [dAdd_tt (by simp; omega)]; simp [List.map_dropLast]
  have e2 := e1 en hen
  simp [e2, e3]
  refine Sx_loopP (fun j env J => ∃ x18, env = evF s row E nm cs.length L en i [x9, x10, x11, x12, x13, x14, x15, x16, x17, x18] ∧ J = J') ⟨_, rfl, rfl⟩ ?_ ?_
  · rintro j d env J P' hP hd ⟨x18, rfl, rfl⟩
    have hm := List.mem_of_getElem? hd
    obtain ⟨g, rfl⟩ : ∃ g : List Int, d = rT g := by
      simp only [List.mem_cons, List.not_mem_nil, or_false] at hm
      rcases hm with rfl | rfl | rfl | rfl | rfl | rfl
      · exact ⟨_, rfl⟩
      · exact ⟨_, rfl⟩
      · exact ⟨en.tail, by show D.tup _ = D.tup (en.tail.map D.int); rw [List.map_tail]⟩
      · exact ⟨_, rfl⟩
      · exact ⟨_, rfl⟩
      · exact ⟨en.reverse, by show D.tup _ = D.tup (en.reverse.map D.int); rw [List.map_reverse]⟩
    simp [tgName, B_l_faults_35, le_i]
    by_cases h12 : (g.length : Int) ≤ 12
    · rw [if_pos h12]
      refine hju g ?_
      simp
      exact hP.nx ⟨_, rfl, rfl⟩
    · rw [if_neg h12]
      exact hP.nx ⟨_, rfl, rfl⟩
  · rintro env J ⟨x18, rfl, rfl⟩
    simp [B_l_faults_37]
    exact q
/-- a tuple of steps -/
def IsSt (m k : Nat) (d : D) : Prop := ∃ es : List SE, d = .tup (es.map stE) ∧ (∀ e ∈ es, e.1 < m) ∧ es.length ≤ k
theorem more_spec {row en : List Int} {es : List SE} {nm : Bool} {L : List (List Int)} {i n : Nat} {x10 x11 x12 x13 x14 x17 x18 : Option HV} {J' : Jr} {P : Po} (hs : chs s cs) (he : ∀ e ∈ es, e.1 < cs.length) (hl : row.length + es.length ≤ 10000) (hen : en.length ≤ 10000) (hi : i < L.length) (hi2 : i < es.length)
    (hn : n ≤ J'.length) (q : ∀ J2, P.rt (.val (.bl true)) (J' ++ J2)) : Sx P (B_l_faults_23 n (evF s row (es.map stE) nm cs.length L en i [some (.val (stE es[i])), x10, x11, x12, x13, x14, none, none, x17, x18]) J') := by
  have e0 : dLen (.tup (es.map stE)) = some (.val (.int es.length)) := by simp [dLen]
  obtain ⟨k, hmod, hk⟩ : ∃ k : Nat, dMod (.int ((i : Int) + 1)) (.int es.length) = some (.val (.int k)) ∧ k < es.length := by
    refine ⟨(i + 1) % es.length, ?_, Nat.mod_lt _ (by omega)⟩
    rw [mod_sm (by omega)]; simp
  simp [B_l_faults_23, e0, toInt_i, hmod]
  have hgk : dIx (.tup (es.map stE)) (.int k) = some (.val (stE es[k])) := by rw [ixT (by simpa using hk), List.getElem_map]
  have ek : ixN es.length (k : Int) = some k := ixN_in (by omega) (by omega)
  have ei : ixN es.length (i : Int) = some i := ixN_in (by omega) (by omega)
  simp [B_l_faults_24, dl_t]
  refine ⟨hn, ?_⟩
  simp [B_l_faults_25, hgk, ei]
  simp [B_l_faults_26, ek]
  simp [B_l_faults_27, ste0, ste1, ste2, dsub, big]
  rw [one_sub]
  have hsw : ((es.map stE).set i (stE es[k])).set k (stE es[i]) = ((es.set i es[k]).set k es[i]).map stE := by simp [List.map_set]
  rw [hsw]
  have hto : cutD (es.map stE) none (some (-1)) = es.dropLast.map stE := by rw [cut_to_neg (by simp; omega), List.map_dropLast]
  have hfr : cutD (es.map stE) (some 1) none = (es.drop 1).map stE := by rw [cutD_from (by decide)]; simp [List.map_drop]
  simp [B_l_faults_28, big, slT, cut_to, cut_from1, hto, hfr, dt_l]
  rw [dAdd_tt (by simp; omega)]
  simp
  rw [dAdd_tt (by simp; omega)]
  simp
  rw [dAdd_tt (by simp; omega)]
  simp
  have hme : ∀ e, (e ∈ es ∨ e = turnE es[i]) → e.1 < cs.length := fun e h => by
    rcases h with h | rfl
    · exact he e h
    · exact (show es[i].1 < cs.length from he _ (List.getElem_mem hi2))
  have hju := fun {X : XP} {Q : HV → Jr → Prop} {J : Jr} (r g : List Int) (fs : List SE) (hr : r.length ≤ 10000) (h : ∀ e ∈ fs, e ∈ es ∨ e = turnE es[i]) (hf : fs.length ≤ 2 * es.length + 3) (q : Q (.val (.bl true)) J) => judge_spec (X := X) (Q := Q) (J := J) (row := r) (es := fs) (nm := nm) (other := g) hs (fun e h' => hme e (h e h')) (by omega) q
  refine ⟨fun x hx => ?_, ?_⟩
  · rcases List.mem_or_eq_of_mem_set hx with hx | rfl
    · rcases List.mem_or_eq_of_mem_set hx with hx | rfl
      · obtain ⟨e, _, rfl⟩ := List.mem_map.mp hx
        rfl
      · rfl
    · rfl
  generalize hJ3 : J' ++ [((es.map stE).set i (stE es[k])).set k (stE es[i])] = J3
  have q' : P.rt (.val (.bl true)) J3 := by rw [← hJ3]; exact q _
  have hD : D.tup [.int es[i].1, .int es[i].2.1, .int (wI (!es[i].2.2))] = stE (turnE es[i]) := rfl
  rw [hD]
  refine Sx_loopP (fun j env J => ∃ x14, env = evF s row (es.map stE) nm cs.length L en i [some (.val (stE es[i])), x10, x11, x12, x13, x14, some (.val (.int k)), some (.jar J'.length), some (.val (stE (turnE es[i]))), x18] ∧ J = J3) ⟨_, rfl, rfl⟩ ?_ ?_
  · rintro j d env J P' hP hd ⟨x14, rfl, rfl⟩
    have hm := List.mem_of_getElem? hd
    obtain ⟨fs, rfl, hf1, hf2⟩ : ∃ fs : List SE, d = .tup (fs.map stE) ∧ (∀ e ∈ fs, e ∈ es ∨ e = turnE es[i]) ∧ fs.length ≤ 2 * es.length + 3 := by
      simp only [List.mem_cons, List.not_mem_nil, or_false] at hm
      rcases hm with rfl | rfl | rfl | rfl | rfl | rfl | rfl
      · refine ⟨es.take i ++ es.drop (i + 1), by simp [List.map_take, List.map_drop], fun e h => .inl ?_, by simp; omega⟩
        rcases List.mem_append.mp h with h | h
        · exact List.mem_of_mem_take h
        · exact List.mem_of_mem_drop h
      · exact ⟨es.dropLast, by simp [List.map_dropLast], fun e h => .inl ((List.dropLast_sublist _).subset h), by simp; omega⟩
      · exact ⟨es.tail, by simp [List.map_tail], fun e h => .inl (List.mem_of_mem_tail h), by simp; omega⟩
      · refine ⟨es ++ [es[i]], by simp, fun e h => .inl ?_, by simp; omega⟩
        rcases List.mem_append.mp h with h | h
        · exact h
        · rw [List.mem_singleton.mp h]; exact List.getElem_mem hi2
      · refine ⟨es ++ es, by simp, fun e h => .inl ?_, by simp; omega⟩
        rcases List.mem_append.mp h with h | h <;> exact h
      · refine ⟨(es.set i es[k]).set k es[i], by rw [hsw], fun e h => .inl ?_, by simp; omega⟩
        rcases List.mem_or_eq_of_mem_set h with h | rfl
        · rcases List.mem_or_eq_of_mem_set h with h | rfl
          · exact h
          · exact List.getElem_mem hk
        · exact List.getElem_mem hi2
      · refine ⟨[], rfl, ?_, ?_⟩ <;> simp
    simp [tgName, B_l_faults_29]
    refine hju row en fs (by omega) hf1 hf2 ?_
    simp
    exact hP.nx ⟨_, rfl, rfl⟩
  · rintro env J ⟨x14, rfl, rfl⟩
    simp [B_l_faults_31, big, slT, cut_to, cut_to1, cut_from1]
    rw [dAdd_tt (by simp; omega)]
    simp
    rw [dAdd_tt (by simp; omega)]
    simp
    rw [dAdd_tt (by simp; omega)]
    simp
    rw [dAdd_tt (by simp; omega)]
    simp
    rw [dAdd_tt (by simp; omega)]
    simp
    refine Sx_loopP (fun j env J4 => ∃ x14, env = evF s row (es.map stE) nm cs.length L en i [some (.val (stE es[i])), x10, x11, x12, x13, x14, some (.val (.int k)), some (.jar J'.length), some (.val (stE (turnE es[i]))), x18] ∧ J4 = J) ⟨_, rfl, rfl⟩ ?_ ?_
    · rintro j d env J P' hP hd ⟨x14, rfl, rfl⟩
      have hm := List.mem_of_getElem? hd
      obtain ⟨fs, rfl, hf1, hf2⟩ : ∃ fs : List SE, d = .tup (fs.map stE) ∧ (∀ e ∈ fs, e ∈ es ∨ e = turnE es[i]) ∧ fs.length ≤ 2 * es.length + 3 := by
        simp only [List.mem_cons, List.not_mem_nil, or_false] at hm
        rcases hm with rfl | rfl | rfl
        · refine ⟨es.take i ++ turnE es[i] :: es.drop (i + 1), by simp [List.map_take, List.map_drop], fun e h => ?_, by simp; omega⟩
          rcases List.mem_append.mp h with h | h
          · exact .inl (List.mem_of_mem_take h)
          · rcases List.mem_cons.mp h with rfl | h
            · exact .inr rfl
            · exact .inl (List.mem_of_mem_drop h)
        · refine ⟨es.take (i + 1) ++ turnE es[i] :: es[i] :: es.drop (i + 1), by
            simp [List.map_take, List.map_drop]
            exact (drop_cons' (by rw [List.getElem?_map, List.getElem?_eq_getElem hi2]; rfl)).symm, fun e h => ?_, by simp; omega⟩
          rcases List.mem_append.mp h with h | h
          · exact .inl (List.mem_of_mem_take h)
          · rcases List.mem_cons.mp h with rfl | h
            · exact .inr rfl
            · rcases List.mem_cons.mp h with rfl | h
              · exact .inl (List.getElem_mem hi2)
              · exact .inl (List.mem_of_mem_drop h)
        · refine ⟨es[i] :: es, by simp, fun e h => .inl ?_, by simp; omega⟩
          rcases List.mem_cons.mp h with rfl | h
          · exact List.getElem_mem hi2
          · exact h
      simp [tgName, B_l_faults_32]
      refine hju row en fs (by omega) hf1 hf2 ?_
      simp
      refine hju en row fs hen hf1 hf2 ?_
      simp
      exact hP.nx ⟨_, rfl, rfl⟩
    · rintro env J ⟨x14, rfl, rfl⟩
      exact goals_spec hs he (by omega) (by omega) hi q'
theorem G_ge : ∃ G : Int, 10 ^ 45 * 10 ^ 45 - 1 = G ∧ 1000000 ≤ G := ⟨_, rfl, by decide⟩
theorem great_e : dMul (.int (10 ^ 45)) (.int (10 ^ 45)) = some (.val (.int (10 ^ 45 * 10 ^ 45))) := by with_unfolding_all rfl
theorem pow_e : dPow (.int 10) (.int 45) = some (.val (.int (10 ^ 45))) := by with_unfolding_all rfl
theorem stB_tt {m : Int} {es : List SE} : stB m (.tup (es.map stE)) = false := by
  unfold stB
  split
  · rename_i x y z h
    match es, h with
    | [e1, e2, e3], h =>
      simp at h
      obtain ⟨rfl, rfl, rfl⟩ := h
      rfl
  · rfl
theorem things_no {row en : List Int} {es : List SE} {e : SE} {m0 : List D} {d : D} (h : d ∈ [.lst (es.map stE), .non, .bl false, .int 0, .int 1, .str "", .str "0 0 1", .lst [], .lst [.lst (es.map stE)], .tup [.tup (es.map stE)], stE e, .lst m0, .int (-1)]) : pathB cs row en d = false := by
  simp only [List.mem_cons, List.not_mem_nil, or_false] at h
  rcases h with rfl | rfl | rfl | rfl | rfl | rfl | rfl | rfl | rfl | rfl | rfl | rfl | rfl
  · rfl
  · rfl
  · rfl
  · rfl
  · rfl
  · rfl
  · rfl
  · rfl
  · rfl
  · exact pathB_bad (d := .tup (es.map stE)) (by simp) stB_tt
  · exact pathB_bad (xs := [.int e.1, .int e.2.1, .int (wI e.2.2)]) (d := .int e.1) (by simp) rfl
  · rfl
  · rfl
theorem f11_spec {row en : List Int} {es : List SE} {nm : Bool} {L : List (List Int)} {i n : Nat} {G : D} {BL : List D} {ly : List (List D)} {P : Po} (hs : chs s cs) (he : ∀ e ∈ es, e.1 < cs.length) (hl : row.length + es.length ≤ 5000) (hen : en.length ≤ 5000) (hi : i < L.length) (hi2 : i < es.length) (h0 : 0 < es.length)
    (hn : n ≤ T.length + 1 + 1) (hB : ∀ d ∈ BL, NoSt cs.length d) (hBl : BL.length ≤ 100) (q : ∀ J2, P.rt (.val (.bl true)) (a :: r :: (T ++ J2))) :
    Sx P (B_l_faults_11 n (evF s row (es.map stE) nm cs.length L en i [some (.val (stE es[i])), some (.val G), some (.val (.lst [.lst (es.map stE), .lst [.int es[0].1, .int es[0].2.1, .int (wI es[0].2.2)]])), some (.jar (T.length + ly.length + 1 + 1)), none, none, none, none, none, none]) (a :: r :: (T ++ (ly ++ [BL])))) := by
  have ii1 : ∀ x y : D, dIx (.lst [x, y]) (.int 1) = some (.val y) := fun _ _ => rfl
  have ii0 : ∀ x y : D, dIx (.lst [x, y]) (.int 0) = some (.val x) := fun _ _ => rfl
  have dls : ∀ e : SE, dList (stE e) = some (.new [.int e.1, .int e.2.1, .int (wI e.2.2)]) := fun e => rfl
  have hg0 : dIx (.tup (es.map stE)) (.int 0) = some (.val (stE es[0])) := by
    have := ixT (ds := es.map stE) (n := 0) (by simpa using h0)
    rw [List.getElem_map] at this
    exact this
  have last : ∀ (BL : List D), (∀ d ∈ BL, NoSt cs.length d) → BL.length ≤ 200 → Sx P (B_l_faults_15 n (evF s row (es.map stE) nm cs.length L en i [some (.val (stE es[i])), some (.val G), some (.val (.lst [.lst (es.map stE), .lst [.int es[0].1, .int es[0].2.1, .int (wI es[0].2.2)]])), some (.jar (T.length + ly.length + 1 + 1)), none, none, none, none, none, none]) (a :: r :: (T ++ (ly ++ [BL])))) := by
    intro BL hB hBl
    simp [B_l_faults_15, cellG]
    refine Sx_loopC (ds := BL) (fun j env J => ∃ x13, env = evF s row (es.map stE) nm cs.length L en i [some (.val (stE es[i])), some (.val G), some (.val (.lst [.lst (es.map stE), .lst [.int es[0].1, .int es[0].2.1, .int (wI es[0].2.2)]])), some (.jar (T.length + ly.length + 1 + 1)), x13, none, none, none, none, none] ∧ J = a :: r :: (T ++ (ly ++ [BL]))) ⟨_, rfl, rfl⟩ ?_ ?_ ?_ ?_
    · rintro j env J ⟨x13, rfl, rfl⟩
      exact cellG
    · exact List.all_eq_true.mpr fun d hd => (hB d hd).1
    · rintro j d env J hd ⟨x13, rfl, rfl⟩
      have hno := nost_path (row := row) (other := en) (i := i) he (by omega) (hB d (List.mem_of_getElem? hd))
      simp [tgName, B_l_faults_16, slT, cut_to, cut_from1, big]
      rw [dAdd_tt (by simp; omega)]
      simp
      rw [dAdd_tt (by simp; omega)]
      simp
      refine is_spec hs (fun xs h => by cases h; simp; omega) hno ?_
      simp
    · rintro env J ⟨x13, rfl, rfl⟩
      simp [B_l_faults_18, ii0, dls, neg_i, big]
      refine Sx_loopP (fun j env J => ∃ x14, env = evF s row (es.map stE) nm cs.length L en i [some (.val (stE es[i])), some (.val G), some (.val (.lst [.lst (es.map stE), .lst [.int es[0].1, .int es[0].2.1, .int (wI es[0].2.2)]])), some (.jar (T.length + ly.length + 1 + 1)), x13, x14, none, none, none, none] ∧ J = a :: r :: (T ++ (ly ++ [BL]))) ⟨_, rfl, rfl⟩ ?_ ?_
      · rintro j d env J P' hP hd ⟨x14, rfl, rfl⟩
        have hm := List.mem_of_getElem? hd
        have hno := things_no (cs := cs) (row := row) (en := en) hm
        have hsz : ∀ xs, d = .tup xs → xs.length ≤ 3 := by
          intro xs hx
          simp only [List.mem_cons, List.not_mem_nil, or_false] at hm
          subst hx
          rcases hm with h | h | h | h | h | h | h | h | h | h | h | h | h <;> cases h <;> simp
        simp [tgName, B_l_faults_19]
        refine is_spec hs (fun xs h => by have := hsz xs h; omega) hno ?_
        simp
        exact hP.nx ⟨_, rfl, rfl⟩
      · rintro env J ⟨x14, rfl, rfl⟩
        have n1 := dNe_refl ((shK_steps (es := es)).shp (by decide))
        have n2 : dNe (.lst [.int es[0].1, .int es[0].2.1, .int (wI es[0].2.2)]) (.lst [.int es[0].1, .int es[0].2.1, .int (wI es[0].2.2)]) = some (.val (.bl false)) := dNe_refl ((shK_lst (k := 0) (fun d hd => by
          simp only [List.mem_cons, List.not_mem_nil, or_false] at hd
          rcases hd with rfl | rfl | rfl <;> exact shK_int)).shp (by decide))
        simp [B_l_faults_21, ii0, ii1, dl_t, hg0, dls, n1, n2]
        exact more_spec hs he (by omega) (by omega) hi hi2 (by simp; omega) fun J2 => by
          have := q (ly ++ [BL] ++ J2)
          simpa using this
  have h13 : ∀ (BL : List D), (∀ d ∈ BL, NoSt cs.length d) → BL.length ≤ 150 → Sx P (B_l_faults_13 n (evF s row (es.map stE) nm cs.length L en i [some (.val (stE es[i])), some (.val G), some (.val (.lst [.lst (es.map stE), .lst [.int es[0].1, .int es[0].2.1, .int (wI es[0].2.2)]])), some (.jar (T.length + ly.length + 1 + 1)), none, none, none, none, none, none]) (a :: r :: (T ++ (ly ++ [BL])))) := by
    intro BL hB hBl
    simp [B_l_faults_13, ste0, ste1, ste2, gtl, big, cellG, cellS]
    by_cases h2 : (es[i].2.1 : Int) < 2
    · rw [if_pos h2]
      refine ⟨by omega, last _ (fun d hd => ?_) (by simp; omega)⟩
      rcases List.mem_append.mp hd with hd | hd
      · exact hB d hd
      · rw [List.mem_singleton.mp hd]
        exact ⟨rfl, .inl (stB_p rfl)⟩
    · rw [if_neg h2]
      exact last BL hB (by omega)
  simp [B_l_faults_11, ste0, ste1, ste2, gtl, big, cellG, cellS]
  by_cases h2 : (es[i].1 : Int) < 2
  · rw [if_pos h2]
    refine ⟨by omega, h13 _ (fun d hd => ?_) (by simp; omega)⟩
    rcases List.mem_append.mp hd with hd | hd
    · exact hB d hd
    · rw [List.mem_singleton.mp hd]
      exact ⟨rfl, .inl (stB_n rfl)⟩
  · rw [if_neg h2]
    exact h13 BL hB (by omega)
theorem faults_spec {row en : List Int} {es : List SE} {nm : Bool} (hs : chs s cs) (hc : cs.length ≤ 100) (he : ∀ e ∈ es, e.1 < cs.length) (hl : row.length + es.length ≤ 5000) (h0 : 0 < es.length) (hen : runs cs row es = some en) (hj : Rb b a r) (hb : b + 1 ≤ LIM)
    (q : ∀ a' r', Rb (b + 1) a' r' → Q (.val (.bl true)) (a' :: r' :: T)) : Ex X (F_l_faults [.jar 1, .val s, .val (rT row), .val (.tup (es.map stE)), .val (.bl nm)] (a :: r :: T)) Q := by
  have hL : (LIM : Nat) = 1000000000 := rfl
  have e0 : dLen (.tup (es.map stE)) = some (.val (.int es.length)) := by simp [dLen]
  have hfl := leads_full.mpr (show (runs cs row es).isSome = true by rw [hen]; rfl)
  have hla := leads_last hen
  have henl := runs_len hen
  unfold F_l_faults B_l_faults
  rw [Ex_mkF]
  simp [startE, hs]
  simp [B_l_faults_2]
  refine leads_spec hs he (by omega) ?_
  generalize leads cs row es = L at *
  have hix : dIx (.lst (L.map rT)) (.int ((L.length : Int) - 1)) = some (.val (rT en)) := by
    have hlt := (List.getElem?_eq_some_iff.mp hla).1
    have e1 : ((L.length : Int) - 1) = ((es.length : Nat) : Int) := by omega
    rw [e1]
    have := ixT (ds := L.map rT) (n := es.length) (by simpa using hlt)
    rw [List.getElem_map, (List.getElem?_eq_some_iff.mp hla).2] at this
    exact this
  simp [B_l_faults_3, dsub, hix]
  simp [B_l_faults_4, e0]
  refine lift_spec hj (by omega) (by omega) (by omega) fun v a1 r1 v0 v1 hj1 => ?_
  obtain ⟨i, rfl⟩ := Int.eq_ofNat_of_zero_le v0
  have hi : i < es.length := by omega
  have hgi : dIx (.tup (es.map stE)) (.int i) = some (.val (stE es[i])) := by rw [ixT (by simpa using hi), List.getElem_map]
  have hg0 : dIx (.tup (es.map stE)) (.int 0) = some (.val (stE es[0])) := by
    have := ixT (ds := es.map stE) (n := 0) (by simpa using h0)
    rw [List.getElem_map] at this
    exact this
  have hei := he _ (List.getElem_mem hi)
  obtain ⟨G, hG, hG2⟩ := G_ge
  simp [B_l_faults_5, hgi]
  simp [B_l_faults_6, pow_e, great_e, dsub, hG, -Int.reducePow, -Int.reduceMul, -Int.reduceSub]
  have dls : ∀ e : SE, dList (stE e) = some (.new [.int e.1, .int e.2.1, .int (wI e.2.2)]) := fun e => rfl
  simp [B_l_faults_7, dl_t, hg0, dls, big]
  have hcut : cutD [.int es[i].1, .int es[i].2.1, .int (wI es[i].2.2)] none (some 2) = [.int es[i].1, .int es[i].2.1] := rfl
  have hsl : dSl (stE es[i]) none (some 2) = some (.val (.tup [.int es[i].1, .int es[i].2.1])) := rfl
  have had : dAdd (stE es[i]) (.tup [.int 0]) = some (.val (.tup [.int es[i].1, .int es[i].2.1, .int (wI es[i].2.2), .int 0])) := rfl
  simp [B_l_faults_8, big, hsl, had, ste0, ste1, ste2, neg_i]
  have ii1 : ∀ x y : D, dIx (.lst [x, y]) (.int 1) = some (.val y) := fun _ _ => rfl
  have ii0 : ∀ x y : D, dIx (.lst [x, y]) (.int 0) = some (.val x) := fun _ _ => rfl
  have eqb : ∀ x : Int, dEq (.int x) (.int 1) = some (.val (.bl (x == 1))) := fun x => by simp
  simp [ii1]
  simp [B_l_faults_9, big, ste0, ste1, ste2, neg_i, isP, dAdd_ll]
  simp [B_l_faults_10, big, ste0, ste1, ste2, neg_i, isP, dAdd_ll, dls, eqb]
  refine f11_spec (T := T) (ly := [_, _]) hs he hl (by omega) (by omega) hi h0 (Nat.le_refl _) ?_ (by simp) fun J2 => ?_
  · intro d hd
    simp only [List.mem_cons, List.not_mem_nil, or_false] at hd
    have p0 : (0 : Int) ≤ es[i].2.1 := by omega
    rcases hd with rfl | rfl | rfl | rfl | rfl | rfl | rfl | rfl | rfl | rfl | rfl | rfl | rfl | rfl | rfl | rfl | rfl | rfl | rfl
    · exact ⟨rfl, .inl rfl⟩
    · exact ⟨rfl, .inl rfl⟩
    · exact ⟨rfl, .inl rfl⟩
    · exact ⟨rfl, .inl rfl⟩
    · exact ⟨rfl, .inl rfl⟩
    · exact ⟨rfl, .inl rfl⟩
    · exact ⟨rfl, .inl rfl⟩
    · exact ⟨rfl, .inl rfl⟩
    · exact ⟨rfl, .inl rfl⟩
    · exact ⟨rfl, .inl (stB_n (by simp [inB]; omega))⟩
    · exact ⟨rfl, .inl (stB_n (by simp [inB]))⟩
    · exact ⟨rfl, .inl (stB_w rfl)⟩
    · exact ⟨rfl, .inl (stB_p rfl)⟩
    · exact ⟨rfl, .inl (stB_w rfl)⟩
    · exact ⟨rfl, .inl (stB_w rfl)⟩
    · exact ⟨rfl, .inl (stB_w rfl)⟩
    · exact ⟨rfl, .inl (stB_n (by simp [inB]; omega))⟩
    · refine ⟨rfl, .inr ⟨(es[i].1, G.toNat, es[i].2.2), ?_, hei, show 200000 ≤ G.toNat by omega⟩⟩
      show _ = D.tup [.int es[i].1, .int G.toNat, .int (wI es[i].2.2)]
      rw [show ((G.toNat : Nat) : Int) = G by omega]
    · exact ⟨rfl, .inl rfl⟩
  · simp
    exact q _ _ hj1
end K10
set_option Elab.async false
set_option linter.all false
set_option maxRecDepth 100000
set_option maxHeartbeats 4000000
set_option autoImplicit false
namespace K10
open PySem L2 L2.Pz
variable {X : XP} {Q : HV → Jr → Prop} {T J : Jr} {a r : List D} {env : En} {b : Nat} {s : D} {cs : List Ch}
section
variable {ly w : List (List D)} {x y S R : List D} {k : Nat}
theorem cellGk (hk : k = T.length + ly.length + 2) : (a :: r :: (T ++ (ly ++ [x])))[k]? = some x := by subst hk; exact cellG
theorem cellSk (hk : k = T.length + ly.length + 2) : (a :: r :: (T ++ (ly ++ [x]))).set k y = a :: r :: (T ++ (ly ++ [y])) := by subst hk; exact cellS
theorem cell2G : (a :: r :: (T ++ (S :: w)))[T.length + 1 + 1]? = some S := by simp
theorem cell2S : (a :: r :: (T ++ (S :: w))).set (T.length + 1 + 1) y = a :: r :: (T ++ (y :: w)) := by simp
theorem cell3G : (a :: r :: (T ++ (S :: R :: w)))[T.length + 1 + 1 + 1]? = some R := by
  have : T.length + 1 + 1 + 1 = (T ++ [S]).length + 1 + 1 := by simp
  rw [show T ++ S :: R :: w = (T ++ [S]) ++ R :: w by simp, this]
  exact cell2G
theorem cell3S : (a :: r :: (T ++ (S :: R :: w))).set (T.length + 1 + 1 + 1) y = a :: r :: (T ++ (S :: y :: w)) := by
  have : T.length + 1 + 1 + 1 = (T ++ [S]).length + 1 + 1 := by simp
  rw [show T ++ S :: R :: w = (T ++ [S]) ++ R :: w by simp, this, cell2S]
  simp
end
theorem st_pl {es : List SE} : (es.map stE).all isP = true := by
  exact List.all_eq_true.mpr fun d hd => by
    obtain ⟨e, _, rfl⟩ := List.mem_map.mp hd
    rfl
theorem runs_snoc {row cur nx : List Int} {es : List SE} {e : SE} (h : runs cs row es = some cur) (h2 : stepOf cs cur e = some nx) : runs cs row (es ++ [e]) = some nx := by
  rw [runs_app, h]
  show runs cs cur [e] = _
  rw [runs_cons, h2]; rfl
theorem leads_snoc : ∀ {es : List SE} {row cur nx : List Int} {e : SE}, runs cs row es = some cur → stepOf cs cur e = some nx → leads cs row (es ++ [e]) = leads cs row es ++ [nx]
  | [], row, cur, nx, e, h, h2 => by
    cases h
    show leads cs row [e] = [row] ++ [nx]
    rw [leads_cons, h2]; rfl
  | x :: es, row, cur, nx, e, h, h2 => by
    rw [runs_cons] at h
    show leads cs row (x :: (es ++ [e])) = _
    rw [leads_cons, leads_cons]
    cases h3 : stepOf cs row x with
    | none => rw [h3] at h; cases h
    | some l =>
      rw [h3] at h
      show row :: leads cs l (es ++ [e]) = row :: leads cs l es ++ [nx]
      rw [leads_snoc h h2]; rfl
theorem walk_fin {row cur : List Int} {es : List SE} {w : List (List D)} {x2 x3 x4 x7 x8 x9 x10 x11 x12 x13 x14 x15 : Option HV} (he : es.length ≤ 5000) (q : Q (.val (.tup [.tup (es.map stE), .lst ((leads cs row es).map rT)])) (a :: r :: T)) :
    Sx (dfX X (T.length + 1 + 1) Q) (B_l_walk_22 (T.length + 1 + 1) [some (.jar 1), some (.val s), x2, x3, x4, some (.jar (T.length + 1 + 1)), some (.jar (T.length + 1 + 1 + 1)), x7, x8, x9, x10, x11, x12, x13, x14, x15] (a :: r :: (T ++ ((es.map stE) :: ((leads cs row es).map rT) :: w)))) := by
  have h1 := st_pl (es := es)
  have h2 := rows_pl (rs := leads cs row es)
  generalize es.map stE = S at h1 q
  generalize (leads cs row es).map rT = R at h2 q
  have h1' := List.all_eq_true.mp h1
  simp [B_l_walk_22, cell2G, dt_l, -List.getElem?_append, -List.getElem?_cons_succ]
  refine ⟨h1', ?_⟩
  rw [fzHs_jar (ds := R) (by omega) cell3G h2]
  simp [big]
  exact q
def Good (cs : List Ch) (cur : List Int) (fs : List SE) : Prop := ∀ e ∈ fs, e.1 < cs.length ∧ (stepOf cs cur e).isSome = true
theorem place_spec {cur : List Int} {fs : List SE} {ly : List (List D)} {k8 n nb most : Nat} {w : Bool} {x0 x3 x5 x6 x7 x9 x10 x11 x14 x15 : Option HV} {P : Po} (hs : chs s cs) (hl : cur.length ≤ 10000) (hk : k8 = T.length + ly.length + 2) (hn : nb < cs.length) (hg : Good cs cur fs) (hf : fs.length ≤ 1000000)
    (q : ∀ fs' x14 x15, Good cs cur fs' → fs'.length ≤ fs.length + (cur.length + 1) → Sx P (B_l_walk_14 n [x0, some (.val s), some (.val (rT cur)), x3, some (.val (.int most)), x5, x6, x7, some (.jar k8), x9, x10, x11, some (.val (.int nb)), some (.val (.int (wI w))), x14, x15] (a :: r :: (T ++ (ly ++ [fs'.map stE]))))) :
    Sx P (B_l_walk_10 n [x0, some (.val s), some (.val (rT cur)), x3, some (.val (.int most)), x5, x6, x7, some (.jar k8), x9, x10, x11, some (.val (.int nb)), some (.val (.int (wI w))), x14, x15] (a :: r :: (T ++ (ly ++ [fs.map stE])))) := by
  have e1 : rgOk ((cur.length : Int) + 1) = true := by unfold rgOk; simp; omega
  simp [B_l_walk_10, e1]
  refine Sx_loopP (fun i env J => ∃ fs' x14 x15, env = [x0, some (.val s), some (.val (rT cur)), x3, some (.val (.int most)), x5, x6, x7, some (.jar k8), x9, x10, x11, some (.val (.int nb)), some (.val (.int (wI w))), x14, x15] ∧ J = a :: r :: (T ++ (ly ++ [fs'.map stE])) ∧ Good cs cur fs' ∧ fs'.length ≤ fs.length + i) ⟨fs, _, _, rfl, rfl, hg, by omega⟩ ?_ ?_
  · rintro i d env J P' hP hd ⟨fs', x14, x15, rfl, rfl, hg', hf'⟩
    obtain ⟨rfl, hi⟩ := rgD_get hd
    have hi : i < cur.length + 1 := by omega
    simp [tgName, B_l_walk_11]
    refine hear_at (e := (nb, i, w)) hs hn (by omega) ?_
    cases hst : stepOf cs cur (nb, i, w) with
    | none =>
      simp [B_l_walk_12, optD, isnn_v]
      exact hP.nx ⟨fs', _, _, rfl, rfl, hg', by omega⟩
    | some l =>
      simp [B_l_walk_12, optD, isnn_v, le_i]
      by_cases hm : l.length ≤ most
      · rw [if_pos hm]
        simp only [big, cellGk hk, cellSk hk, OpQ_some, List.length_map]
        refine ⟨by decide, show _ < 16777216 by omega, hP.nx ⟨fs' ++ [(nb, i, w)], _, _, rfl, by rw [List.map_append]; rfl, fun e he => ?_, by simp; omega⟩⟩
        rcases List.mem_append.mp he with he | he
        · exact hg' e he
        · rw [List.mem_singleton.mp he]
          exact ⟨hn, by rw [hst]; rfl⟩
      · rw [if_neg hm]
        exact hP.nx ⟨fs', _, _, rfl, rfl, hg', by omega⟩
  · rintro env J ⟨fs', x14, x15, rfl, rfl, hg', hf'⟩
    rw [rgD_len] at hf'
    simp
    exact q fs' _ _ hg' (by omega)
theorem ways_spec {cur : List Int} {ly : List (List D)} {k8 n most : Nat} {x3 x5 x6 x7 x9 x10 x11 x12 x13 x14 x15 : Option HV} {P : Po} (hs : chs s cs) (hl : cur.length ≤ 10000) (hk : k8 = T.length + ly.length + 2) (hc : 0 < cs.length ∧ cs.length ≤ 40) (hj : Rb b a r) (hb : b + 1 ≤ LIM)
    (q : ∀ fs x10 x11 x12 x13 x14 x15 a r, Rb (b + 1) a r → Good cs cur fs → fs.length ≤ 1000000 → P.nx [some (.jar 1), some (.val s), some (.val (rT cur)), x3, some (.val (.int most)), x5, x6, x7, some (.jar k8), x9, x10, x11, x12, x13, x14, x15] (a :: r :: (T ++ (ly ++ [fs.map stE])))) :
    Sx P (B_l_walk_6 n [some (.jar 1), some (.val s), some (.val (rT cur)), x3, some (.val (.int most)), x5, x6, x7, some (.jar k8), x9, x10, x11, x12, x13, x14, x15] (a :: r :: (T ++ (ly ++ [[]])))) := by
  have hL : (LIM : Nat) = 1000000000 := rfl
  have e0 : dMul (.int cs.length) (.int 2) = some (.val (.int ((cs.length : Int) * 2))) := mul_sm (by omega) (by decide)
  have e1 : rgOk ((cs.length : Int) * 2) = true := by unfold rgOk; simp; omega
  simp [B_l_walk_6, hs, e0]
  refine lift_spec hj (by omega) (by omega) (by omega) fun f a1 r1 f0 f1 hj1 => ?_
  simp [B_l_walk_7, hs, e0, e1]
  refine Sx_loopP (fun i env J => ∃ (fs : List SE), ∃ x11 x12 x13 x14 x15, env = [some (.jar 1), some (.val s), some (.val (rT cur)), x3, some (.val (.int most)), x5, x6, x7, some (.jar k8), x9, some (.val (.int f)), x11, x12, x13, x14, x15] ∧ J = a1 :: r1 :: (T ++ (ly ++ [fs.map stE])) ∧ Good cs cur fs ∧ fs.length ≤ 10001 * i) ⟨[], _, _, _, _, _, rfl, rfl, (fun e he => nomatch he), Nat.zero_le _⟩ ?_ ?_
  · rintro i d env J P' hP hd ⟨fs, x11, x12, x13, x14, x15, rfl, rfl, hg, hf⟩
    obtain ⟨rfl, hi⟩ := rgD_get hd
    have hi : i < cs.length * 2 := by omega
    obtain ⟨nb, hnb, hn2⟩ : ∃ nb : Nat, dMod (.int (f + i)) (.int cs.length) = some (.val (.int nb)) ∧ nb < cs.length := by
      refine ⟨((f + i) % cs.length).toNat, ?_, ?_⟩
      · rw [mod_sm (by omega)]
        have := Int.emod_nonneg (f + i) (show (cs.length : Int) ≠ 0 by omega)
        rw [show (((f + i) % (cs.length : Int)).toNat : Int) = (f + i) % cs.length by omega]
      · have := Int.emod_lt_of_pos (f + i) (show (0 : Int) < cs.length by omega)
        omega
    obtain ⟨w, hw⟩ : ∃ w : Bool, dMod (.int ((f + i) / cs.length)) (.int 2) = some (.val (.int (wI w))) := by
      rw [mod_sm (by decide)]
      rcases (by omega : (f + i) / (cs.length : Int) % 2 = 0 ∨ (f + i) / (cs.length : Int) % 2 = 1) with h | h
      · exact ⟨false, by rw [h]; rfl⟩
      · exact ⟨true, by rw [h]; rfl⟩
    have hfl : dFloor (.int (f + i)) (.int cs.length) = some (.val (.int ((f + i) / cs.length))) := floor_sm (by omega)
    simp [tgName, B_l_walk_8, hs, toInt_i, hnb]
    simp [B_l_walk_9, hs, toInt_i, hfl, hw]
    refine place_spec hs hl hk hn2 hg (by omega) fun fs' x14 x15 hg' hf' => ?_
    have hpl := st_pl (es := fs')
    have hl2 : (fs'.map stE).length = fs'.length := List.length_map _
    have hfin := hP.bk (q fs' (some (.val (.int f))) (some (.val (.int i))) (some (.val (.int nb))) (some (.val (.int (wI w)))) x14 x15 a1 r1 hj1 hg' (by omega))
    have hfin2 : P'.nx _ _ := hP.nx ⟨fs', some (.val (.int i)), some (.val (.int nb)), some (.val (.int (wI w))), x14, x15, rfl, rfl, hg', by omega⟩
    generalize fs'.map stE = W at hpl hl2 hfin hfin2
    have hpl' := List.all_eq_true.mp hpl
    simp [B_l_walk_14, cellGk hk, gt_i]
    refine ⟨hpl', ?_⟩
    by_cases h0 : 0 < W.length
    · rw [if_pos h0]; exact hfin
    · rw [if_neg h0]; exact hfin2
  · rintro env J ⟨fs, x11, x12, x13, x14, x15, rfl, rfl, hg, hf⟩
    rw [rgD_len] at hf
    exact q fs _ _ _ _ _ _ _ _ hj1 hg (by omega)
theorem walk_spec {row : List Int} {laps most : Nat} (hs : chs s cs) (hc : cs.length ≤ 40) (hl : row.length + laps ≤ 5000) (hj : Rb b a r) (hb : b + 3 * laps + 3 ≤ LIM)
    (q : ∀ (es : List SE) (en : List Int) a' r', (∀ e ∈ es, e.1 < cs.length) → es.length ≤ laps → runs cs row es = some en → Rb (b + 3 * laps) a' r' → Q (.val (.tup [.tup (es.map stE), .lst ((leads cs row es).map rT)])) (a' :: r' :: T)) :
    Ex X (F_l_walk [.jar 1, .val s, .val (rT row), .val (.int laps), .val (.int most)] (a :: r :: T)) Q := by
  have hL : (LIM : Nat) = 1000000000 := rfl
  have e0 : rgOk (laps : Int) = true := by unfold rgOk; simp; omega
  unfold F_l_walk B_l_walk
  rw [Ex_mkF]
  simp [startE]
  simp [B_l_walk_2, big]
  simp [B_l_walk_3, e0]
  have fin : ∀ (es : List SE) cur a r w x7 x8 x9 x10 x11 x12 x13 x14 x15, (∀ e ∈ es, e.1 < cs.length) → es.length ≤ laps → runs cs row es = some cur → Rb (b + 3 * laps) a r →
      Sx (dfX X (T.length + 1 + 1) Q) (B_l_walk_22 (T.length + 1 + 1) [some (.jar 1), some (.val s), some (.val (rT cur)), some (.val (.int laps)), some (.val (.int most)), some (.jar (T.length + 1 + 1)), some (.jar (T.length + 1 + 1 + 1)), x7, x8, x9, x10, x11, x12, x13, x14, x15] (a :: r :: (T ++ ((es.map stE) :: ((leads cs row es).map rT) :: w)))) :=
    fun es cur a r w x7 x8 x9 x10 x11 x12 x13 x14 x15 h1 h2 h3 h4 => walk_fin (cur := cur) (by omega) (q es cur a r h1 h2 h3 h4)
  refine Sx_loopP (fun i env J => ∃ (es : List SE), ∃ cur a r w x7 x8 x9 x10 x11 x12 x13 x14 x15, env = [some (.jar 1), some (.val s), some (.val (rT cur)), some (.val (.int laps)), some (.val (.int most)), some (.jar (T.length + 1 + 1)), some (.jar (T.length + 1 + 1 + 1)), x7, x8, x9, x10, x11, x12, x13, x14, x15] ∧
      J = a :: r :: (T ++ ((es.map stE) :: ((leads cs row es).map rT) :: w)) ∧ (∀ e ∈ es, e.1 < cs.length) ∧ es.length ≤ i ∧ runs cs row es = some cur ∧ Rb (b + 3 * i) a r)
    ⟨[], row, a, r, [], _, _, _, _, _, _, _, _, _, rfl, rfl, (fun e he => nomatch he), Nat.le_refl _, rfl, hj⟩ ?_ ?_
  · rintro i d env J P' hP hd ⟨es, cur, a, r, w, x7, x8, x9, x10, x11, x12, x13, x14, x15, rfl, rfl, h1, h2, h3, hj⟩
    obtain ⟨rfl, hi⟩ := rgD_get hd
    have hi : i < laps := by omega
    have hcl := runs_len h3
    simp [tgName, B_l_walk_4]
    have key : ∀ (fs : List SE) a r x10 x11 x12 x13 x14 x15, Rb (b + 3 * i + 1) a r → Good cs cur fs → fs.length ≤ 1000000 →
        Sx P' (B_l_walk_16 (T.length + 1 + 1) [some (.jar 1), some (.val s), some (.val (rT cur)), some (.val (.int laps)), some (.val (.int most)), some (.jar (T.length + 1 + 1)), some (.jar (T.length + 1 + 1 + 1)), some (.val (.int i)), some (.jar (T.length + (w.length + 1 + 1) + 1 + 1)), x9, x10, x11, x12, x13, x14, x15] (a :: r :: (T ++ (((es.map stE) :: ((leads cs row es).map rT) :: w) ++ [fs.map stE])))) := by
      intro fs a r x10 x11 x12 x13 x14 x15 hj hg hf
      have hk : T.length + (w.length + 1 + 1) + 1 + 1 = T.length + ((es.map stE) :: ((leads cs row es).map rT) :: w).length + 2 := by simp
      have hpl := st_pl (es := fs)
      have hl2 : (fs.map stE).length = fs.length := List.length_map _
      have hG := cellGk (a := a) (r := r) (x := fs.map stE) hk
      have hgx : ∀ (k : Nat) (hk : k < fs.length), dIx (.lst (fs.map stE)) (.int k) = some (.val (stE fs[k])) := fun k hk => by
        have := ixT (ds := fs.map stE) (n := k) (by simpa using hk)
        rw [List.getElem_map] at this
        exact this
      have hbk := hP.bk (fin es cur a r (w ++ [fs.map stE]) (some (.val (.int i))) (some (.jar (T.length + (w.length + 1 + 1) + 1 + 1))) x9 x10 x11 x12 x13 x14 x15 h1 (by omega) h3 (hj.mono (by omega)))
      have hJe : (a :: r :: (T ++ (((es.map stE) :: ((leads cs row es).map rT) :: w) ++ [fs.map stE]))) = (a :: r :: (T ++ ((es.map stE) :: ((leads cs row es).map rT) :: (w ++ [fs.map stE])))) := rfl
      rw [hJe] at hG ⊢
      generalize fs.map stE = W at *
      have hpl' := List.all_eq_true.mp hpl
      simp [B_l_walk_16, hG, -List.getElem?_cons_succ, -List.getElem?_append_right]
      refine ⟨hpl', ?_⟩
      by_cases h0 : W = []
      · rw [if_pos (by simp [h0])]; exact hbk
      · have h0' : 0 < fs.length := by
          cases W with
          | nil => exact (h0 rfl).elim
          | cons x W => rw [← hl2]; simp
        rw [if_neg (by simp [h0])]
        simp [B_l_walk_18, hG, -List.getElem?_cons_succ]
        refine ⟨hpl', ?_⟩
        rw [hl2]
        refine lift_spec hj (by omega) (by omega) (by omega) fun v a1 r1 v0 v1 hj1 => ?_
        obtain ⟨k, rfl⟩ := Int.eq_ofNat_of_zero_le v0
        have hk2 : k < fs.length := by omega
        have hG1 : (a1 :: r1 :: (T ++ ((es.map stE) :: ((leads cs row es).map rT) :: (w ++ [W]))))[T.length + (w.length + 1 + 1) + 1 + 1]? = some W := by
          have := cellGk (T := T) (ly := (es.map stE) :: ((leads cs row es).map rT) :: w) (a := a1) (r := r1) (x := W) hk
          exact this
        obtain ⟨g1, g2⟩ := hg _ (List.getElem_mem hk2)
        obtain ⟨nx, hnx⟩ := Option.isSome_iff_exists.mp g2
        simp [hG1, hgx k hk2, -List.getElem?_cons_succ]
        refine ⟨hpl', ?_⟩
        simp [B_l_walk_19, ste0, ste1, ste2]
        refine hear_at hs g1 (by omega) ?_
        rw [hnx]
        simp only [optD, norm_val]
        have hsa := List.length_map (f := stE) (as := es)
        have hle := leads_le (cs := cs) (es := es) (row := row)
        simp [B_l_walk_20]
        refine ⟨show _ < 16777216 by omega, ?_⟩
        simp only [B_l_walk_21, Sx_app, Ex_name, List.getElem?_cons_succ, List.getElem?_cons_zero, jarQ_some, nmQ_some, toVal_val, OpQ_some, cell3G, cell3S]
        have e3 := cell3G (a := a1) (r := r1) (T := T) (S := es.map stE ++ [stE fs[k]]) (R := (leads cs row es).map rT) (w := w ++ [W])
        have e3' : (T ++ (es.map stE ++ [stE fs[k]]) :: (leads cs row es).map rT :: (w ++ [W]))[T.length + 1]? = some ((leads cs row es).map rT) := e3
        rw [e3', OpQ_some, List.length_map]
        refine ⟨show _ < 16777216 by omega, hP.nx ⟨es ++ [fs[k]], nx, a1, r1, w ++ [W], _, _, _, _, _, _, _, _, _, rfl, ?_, fun e he => ?_, by simp; omega, runs_snoc h3 hnx, hj1.mono (by omega)⟩⟩
        · rw [leads_snoc h3 hnx]; simp
        · rcases List.mem_append.mp he with he | he
          · exact h1 e he
          · rw [List.mem_singleton.mp he]; exact g1
    by_cases h0 : 0 < cs.length
    · simp [B_l_walk_5, hs, gt_i, h0]
      have hJe : (a :: r :: (T ++ ((es.map stE) :: ((leads cs row es).map rT) :: (w ++ [[]])))) = (a :: r :: (T ++ (((es.map stE) :: ((leads cs row es).map rT) :: w) ++ [[]]))) := rfl
      rw [hJe]
      refine ways_spec hs (by omega) (by simp) ⟨h0, hc⟩ hj (by omega) fun fs x10 x11 x12 x13 x14 x15 a r hj hg hf => ?_
      simp only [th_nx]
      exact key fs a r _ _ _ _ _ _ hj hg hf
    · simp [B_l_walk_5, hs, gt_i, h0]
      exact key [] a r _ _ _ _ _ _ (hj.mono (by omega)) (fun e he => nomatch he) (by simp)
  · rintro env J ⟨es, cur, a, r, w, x7, x8, x9, x10, x11, x12, x13, x14, x15, rfl, rfl, h1, h2, h3, hj⟩
    rw [rgD_len] at h2 hj
    simp
    exact fin es cur a r w _ _ _ _ _ _ _ _ _ h1 (by omega) h3 (hj.mono (by omega))
end K10
set_option Elab.async false
set_option linter.all false
set_option maxRecDepth 100000
set_option maxHeartbeats 4000000
set_option autoImplicit false
namespace K10
open PySem L2 L2.Pz
variable {X : XP} {Q : HV → Jr → Prop} {T J : Jr} {a r : List D} {env : En} {b : Nat} {s : D} {cs : List Ch}
/-- steps that cannot be done here -/
def Bk (cs : List Ch) (here : List Int) (e : SE) : Prop := e.1 < cs.length ∧ stepOf cs here e = none
theorem p104 : dPow (.int 10) (.int 4) = some (.val (.int 10000)) := by with_unfolding_all rfl
theorem bad_one {row here g : List Int} {es : List SE} {nm : Bool} {L : List (List Int)} {i n : Nat} {e : SE} {x0 x8 x9 x11 x12 : Option HV} {P : Po} (hs : chs s cs) (he : ∀ e ∈ es, e.1 < cs.length) (hl : row.length + es.length ≤ 5000) (hi : i ≤ es.length) (hh : runs cs row (es.take i) = some here) (hb : Bk cs here e)
    (hg : dIx (.lst (L.map rT)) (.int ((L.length : Int) - 1)) = some (.val (rT g))) (q : P.nx [x0, some (.val s), some (.val (rT row)), some (.val (.tup (es.map stE))), some (.val (.bl nm)), some (.val (.lst (L.map rT))), some (.val (.int i)), some (.val (rT here)), x8, x9, some (.val (stE e)), x11, x12] J) :
    Sx P (B_l_broken_11 n [x0, some (.val s), some (.val (rT row)), some (.val (.tup (es.map stE))), some (.val (.bl nm)), some (.val (.lst (L.map rT))), some (.val (.int i)), some (.val (rT here)), x8, x9, some (.val (stE e)), x11, x12] J) := by
  have h1 : ∀ r, runs cs row (es.take i) = some r → stepOf cs r e = none := fun r hr => by
    rw [hh] at hr; cases hr; exact hb.2
  have hm : ∀ (post : List SE), (∀ x ∈ post, x ∈ es ∨ x = e) → ∀ x ∈ es.take i ++ e :: post, x.1 < cs.length := fun post hp x hx => by
    rcases List.mem_append.mp hx with hx | hx
    · exact he x (List.mem_of_mem_take hx)
    · rcases List.mem_cons.mp hx with rfl | hx
      · exact hb.1
      · rcases hp x hx with h | rfl
        · exact he x h
        · exact hb.1
  have hnp : ∀ (post : List SE) (o : List Int), (∀ x ∈ post, x ∈ es ∨ x = e) → pathB cs row o (.tup ((es.take i ++ e :: post).map stE)) = false := fun post o hp => by
    rw [pathB_steps (hm post hp), runs_stuck h1]; rfl
  have m1 := hm (es.drop i) fun x hx => .inl (List.mem_of_mem_drop hx)
  have m2 := hm [e] fun x hx => .inr (List.mem_singleton.mp hx)
  have l1 : (es.take i ++ e :: es.drop i).length ≤ es.length + 1 := by simp; omega
  have l2 : (es.take i ++ e :: [e]).length ≤ es.length + 2 := by simp; omega
  have l3 : (es.take i ++ e :: []).length ≤ es.length + 1 := by simp; omega
  have t1 : D.tup ((es.map stE).take i ++ stE e :: (es.map stE).drop i) = .tup ((es.take i ++ e :: es.drop i).map stE) := by simp [List.map_take, List.map_drop]
  have t2 : D.tup ((es.map stE).take i ++ [stE e, stE e]) = .tup ((es.take i ++ e :: [e]).map stE) := by simp [List.map_take]
  have t3 : D.tup ((es.map stE).take i ++ [stE e]) = .tup ((es.take i ++ e :: []).map stE) := by simp [List.map_take]
  have e1 : dLen (.lst (L.map rT)) = some (.val (.int L.length)) := by simp [dLen]
  simp [B_l_broken_11, slT, cut_to, cut_from, big]
  rw [dAdd_tt (by simp; omega)]
  simp
  rw [dAdd_tt (by simp; omega)]
  simp
  rw [t1]
  refine runs_spec hs m1 (by omega) ?_
  simp [B_l_broken_13, slT, cut_to, big]
  rw [dAdd_tt (by simp; omega)]
  simp
  rw [t2]
  refine runs_spec hs m2 (by omega) ?_
  simp [B_l_broken_15, slT, cut_to, cut_from, big, dsub, hg]
  rw [dAdd_tt (by simp; omega)]
  simp
  rw [dAdd_tt (by simp; omega)]
  simp
  rw [t1]
  refine is_spec hs (fun xs h => by cases h; rw [List.length_map]; omega) (hnp _ _ fun x hx => .inl (List.mem_of_mem_drop hx)) ?_
  simp [B_l_broken_17, slT, cut_to, big]
  rw [dAdd_tt (by simp; omega)]
  simp
  rw [t3]
  refine is_spec hs (fun xs h => by cases h; rw [List.length_map]; omega) (hnp _ _ fun x hx => nomatch hx) ?_
  simp
  exact q
theorem broken_spec {row en : List Int} {es : List SE} {nm : Bool} (hs : chs s cs) (hc : 0 < cs.length ∧ cs.length ≤ 40) (he : ∀ e ∈ es, e.1 < cs.length) (hl : row.length + es.length ≤ 5000) (hen : runs cs row es = some en) (hj : Rb b a r) (hb : b + 500 ≤ LIM)
    (q : ∀ a' r', Rb (b + 500) a' r' → Q (.val (.bl true)) (a' :: r' :: T)) : Ex X (F_l_broken [.jar 1, .val s, .val (rT row), .val (.tup (es.map stE)), .val (.bl nm)] (a :: r :: T)) Q := by
  have hL : (LIM : Nat) = 1000000000 := rfl
  have e0 : dLen (.tup (es.map stE)) = some (.val (.int es.length)) := by simp [dLen]
  have hfl := leads_full.mpr (show (runs cs row es).isSome = true by rw [hen]; rfl)
  have hla := leads_last hen
  have hat := fun i l h => leads_at (cs := cs) (row := row) (es := es) (i := i) (l := l) h
  have e1 : rgOk (cs.length : Int) = true := by unfold rgOk; simp; omega
  unfold F_l_broken B_l_broken
  rw [Ex_mkF]
  simp [startE]
  refine leads_spec hs he (by omega) ?_
  generalize leads cs row es = L at *
  have hix : dIx (.lst (L.map rT)) (.int ((L.length : Int) - 1)) = some (.val (rT en)) := by
    have hlt := (List.getElem?_eq_some_iff.mp hla).1
    have e1 : ((L.length : Int) - 1) = ((es.length : Nat) : Int) := by omega
    rw [e1]
    have := ixT (ds := L.map rT) (n := es.length) (by simpa using hlt)
    rw [List.getElem_map, (List.getElem?_eq_some_iff.mp hla).2] at this
    exact this
  simp [B_l_broken_2, e0]
  refine lift_spec hj (by omega) (by omega) (by omega) fun v a1 r1 v0 v1 hj1 => ?_
  obtain ⟨i, rfl⟩ := Int.eq_ofNat_of_zero_le v0
  have hi : i < L.length := by omega
  have hgi : dIx (.lst (L.map rT)) (.int i) = some (.val (rT L[i])) := by
    have := ixT (ds := L.map rT) (n := i) (by simpa using hi)
    rw [List.getElem_map] at this
    exact this
  have hh := hat i _ (List.getElem?_eq_getElem hi)
  have hhl := runs_len hh
  rw [List.length_take] at hhl
  simp [B_l_broken_3, hgi]
  generalize L[i] = here at hh hhl
  simp [B_l_broken_4, hs, big]
  refine lift_spec hj1 (by omega) (by omega) (by omega) fun v a2 r2 v0 v1 hj2 => ?_
  obtain ⟨nb, rfl⟩ := Int.eq_ofNat_of_zero_le v0
  simp
  refine lift_spec hj2 (by omega) (by decide) (by decide) fun v a3 r3 p0 p1 hj3 => ?_
  obtain ⟨p, rfl⟩ := Int.eq_ofNat_of_zero_le p0
  simp
  refine lift_spec hj3 (by omega) (by decide) (by decide) fun v a4 r4 w0 w1 hj4 => ?_
  obtain ⟨w, rfl⟩ : ∃ w : Bool, v = wI w := by
    rcases (by omega : v = 0 ∨ v = 1) with rfl | rfl
    · exact ⟨false, rfl⟩
    · exact ⟨true, rfl⟩
  simp
  have hD : D.tup [.int nb, .int ((here.length : Int) + 1 + p), .int (wI w)] = stE (nb, here.length + 1 + p, w) := rfl
  rw [hD]
  have hb0 : Bk cs here (nb, here.length + 1 + p, w) := ⟨show nb < cs.length by omega, stepOf_far (show here.length < here.length + 1 + p by omega)⟩
  simp [B_l_broken_5, hs, e1]
  refine Sx_loopP (fun j env J => ∃ (fs : List SE), ∃ x9 x10 x11 x12 a r, env = [some (.jar 1), some (.val s), some (.val (rT row)), some (.val (.tup (es.map stE))), some (.val (.bl nm)), some (.val (.lst (L.map rT))), some (.val (.int i)), some (.val (rT here)), some (.jar (T.length + 1 + 1)), x9, x10, x11, x12] ∧ J = a :: r :: (T ++ [fs.map stE]) ∧
    (∀ e ∈ fs, Bk cs here e) ∧ 0 < fs.length ∧ fs.length ≤ 1 + 2 * j ∧ Rb (b + 10 + 2 * j) a r) ⟨[(nb, here.length + 1 + p, w)], _, _, _, _, a4, r4, rfl, rfl, fun e he => by rw [List.mem_singleton.mp he]; exact hb0, by simp, by simp, hj4.mono (by omega)⟩ ?_ ?_
  · rintro j d env J P' hP hd ⟨fs, x9, x10, x11, x12, a, r, rfl, rfl, hf, hf0, hfl2, hj⟩
    obtain ⟨rfl, hj2⟩ := rgD_get hd
    have hj2 : j < cs.length := by omega
    simp [tgName, B_l_broken_6]
    refine ⟨by decide, ?_⟩
    refine Sx_loopP (fun k env J => ∃ (fs : List SE), ∃ x11 x12 a r, env = [some (.jar 1), some (.val s), some (.val (rT row)), some (.val (.tup (es.map stE))), some (.val (.bl nm)), some (.val (.lst (L.map rT))), some (.val (.int i)), some (.val (rT here)), some (.jar (T.length + 1 + 1)), some (.val (.int j)), x10, x11, x12] ∧ J = a :: r :: (T ++ [fs.map stE]) ∧
      (∀ e ∈ fs, Bk cs here e) ∧ 0 < fs.length ∧ fs.length ≤ 1 + 2 * j + k ∧ Rb (b + 10 + 2 * j + k) a r) ⟨fs, _, _, a, r, rfl, rfl, hf, hf0, hfl2, hj⟩ ?_ ?_
    · rintro k d env J P2 hP2 hd ⟨fs, x11, x12, a, r, rfl, rfl, hf, hf0, hfl2, hj⟩
      obtain ⟨rfl, hk⟩ := rgD_get hd
      have hk : k < 2 := hk
      obtain ⟨w, hw⟩ : ∃ w : Bool, ((0 : Int) + (k : Nat)) = wI w := by
        rcases (by omega : k = 0 ∨ k = 1) with rfl | rfl
        · exact ⟨false, rfl⟩
        · exact ⟨true, rfl⟩
      rw [hw]
      simp [tgName, B_l_broken_7]
      refine lift_spec hj (by omega) (by omega) (by omega) fun v a2 r2 v0 v1 hj2' => ?_
      obtain ⟨p, rfl⟩ := Int.eq_ofNat_of_zero_le v0
      simp [B_l_broken_8]
      refine hear_at (e := (j, p, w)) hs hj2 (by omega) ?_
      simp [optD_isN]
      cases hst : stepOf cs here (j, p, w) with
      | none =>
        simp [big]
        refine ⟨show _ < 16777216 by omega, hP2.nx ⟨fs ++ [(j, p, w)], _, _, a2, r2, rfl, by simp; rfl, fun e he => ?_, by simp, by simp; omega, hj2'.mono (by omega)⟩⟩
        rcases List.mem_append.mp he with he | he
        · exact hf e he
        · rw [List.mem_singleton.mp he]; exact ⟨hj2, hst⟩
      | some l =>
        simp
        exact hP2.nx ⟨fs, _, _, a2, r2, rfl, rfl, hf, hf0, by omega, hj2'.mono (by omega)⟩
    · rintro env J ⟨fs, x11, x12, a, r, rfl, rfl, hf, hf0, hfl2, hj⟩
      exact hP.nx ⟨fs, _, _, _, _, a, r, rfl, rfl, hf, hf0, by have : (rgD 0 2).length = 2 := rfl; omega, hj.mono (by have : (rgD 0 2).length = 2 := rfl; omega)⟩
  · rintro env J ⟨fs, x9, x10, x11, x12, a, r, rfl, rfl, hf, hf0, hfl2, hj⟩
    rw [rgD_len] at hfl2 hj
    have hpl := st_pl (es := fs)
    have hgx : ∀ (k : Nat) (hk : k < fs.length), dIx (.lst (fs.map stE)) (.int k) = some (.val (stE fs[k])) := fun k hk => by
      have := ixT (ds := fs.map stE) (n := k) (by simpa using hk)
      rw [List.getElem_map] at this
      exact this
    have hg0 : dIx (.lst (fs.map stE)) (.int 0) = some (.val (stE fs[0])) := hgx 0 hf0
    have hgl : dIx (.lst (fs.map stE)) (.int ((fs.length : Int) - 1)) = some (.val (stE (fs[fs.length - 1]'(by omega)))) := by
      have := hgx (fs.length - 1) (by omega)
      rw [show (((fs.length - 1 : Nat)) : Int) = (fs.length : Int) - 1 by omega] at this
      exact this
    have hl2 : (fs.map stE).length = fs.length := List.length_map _
    have hnil : ∀ W : List D, (a :: r :: (T ++ [W]))[T.length + 1 + 1]? = some W := fun W => by simp
    generalize hW : fs.map stE = W at *
    have hpl' := List.all_eq_true.mp hpl
    simp [B_l_broken_10, hg0, big, p104]
    rw [hl2]
    refine ⟨hpl', lift_spec hj (by omega) (by omega) (by omega) fun v a2 r2 v0 v1 hj2 => ?_⟩
    obtain ⟨k, rfl⟩ := Int.eq_ofNat_of_zero_le v0
    have hk : k < fs.length := by omega
    simp [hgx k hk, hl2, dsub, hgl]
    refine ⟨hpl', ?_⟩
    have hD2 : D.tup [.int 0, .int 10000, .int 1] = stE (0, 10000, true) := rfl
    rw [hD2]
    refine Sx_loopP (fun j env J => ∃ x10, env = [some (.jar 1), some (.val s), some (.val (rT row)), some (.val (.tup (es.map stE))), some (.val (.bl nm)), some (.val (.lst (L.map rT))), some (.val (.int i)), some (.val (rT here)), some (.jar (T.length + 1 + 1)), x9, x10, x11, x12] ∧ J = a2 :: r2 :: (T ++ [W])) ⟨_, rfl, rfl⟩ ?_ ?_
    · rintro j d env J P' hP hd ⟨x10, rfl, rfl⟩
      have hm := List.mem_of_getElem? hd
      obtain ⟨e, rfl, hbe⟩ : ∃ e : SE, d = stE e ∧ Bk cs here e := by
        simp only [List.mem_cons, List.not_mem_nil, or_false] at hm
        rcases hm with rfl | rfl | rfl | rfl
        · exact ⟨_, rfl, hf _ (List.getElem_mem _)⟩
        · exact ⟨_, rfl, hf _ (List.getElem_mem _)⟩
        · exact ⟨_, rfl, hf _ (List.getElem_mem _)⟩
        · exact ⟨_, rfl, hc.1, stepOf_far (show here.length < 10000 by omega)⟩
      simp [tgName]
      exact bad_one hs he hl (by omega) hh hbe hix (hP.nx ⟨_, rfl, rfl⟩)
    · rintro env J ⟨x10, rfl, rfl⟩
      simp [B_l_broken_19]
      exact q _ _ (hj2.mono (by simp; omega))
end K10
set_option Elab.async false
set_option linter.all false
set_option maxRecDepth 100000
set_option maxHeartbeats 4000000
set_option autoImplicit false
namespace K10
open PySem L2 L2.Pz
variable {X : XP} {Q : HV → Jr → Prop} {T J : Jr} {a r : List D} {env : En} {b : Nat} {s : D} {cs : List Ch}
def backE (es : List SE) : List SE := (es.map turnE).reverse
theorem back_mem {es : List SE} (he : ∀ e ∈ es, e.1 < cs.length) : ∀ e ∈ backE es, e.1 < cs.length := fun e h => by
  unfold backE at h
  rw [List.mem_reverse] at h
  obtain ⟨x, hx, rfl⟩ := List.mem_map.mp h
  exact he x hx
theorem back_len {es : List SE} : (backE es).length = es.length := by simp [backE]
theorem lcB {es : List SE} {e0 e1 e2 e3 e4 e5 e6 e7 e9 e10 : Option HV} (hl : es.length ≤ 5000) (q : Q (.new ((backE es).map stE)) J) :
    Ex X (eLc (iRevA (eUn dList (eName 8))) (tgName 10) bYes (eTup [eBin dIx (eName 10) (eC (.int 0)), eBin dIx (eName 10) (eC (.int 1)), eBin dSub (eC (.int 1)) (eBin dIx (eName 10) (eC (.int 2)))]) [10] [e0, e1, e2, e3, e4, e5, e6, e7, some (.val (.tup (es.map stE))), e9, e10] J) Q := by
  refine Ex_lcX ?_
  simp [wipeE, dl_t]
  have eR : (es.map stE).reverse = es.reverse.map stE := List.map_reverse.symm
  rw [eR]
  refine Ex_lcLoop (fun i acc J' => acc = ((es.reverse.take i).map turnE).map stE ∧ J' = J) ⟨rfl, rfl⟩ ?_ ?_
  · rintro i d acc J' hd ⟨rfl, rfl⟩
    have hi : i < es.reverse.length := by
      have := (List.getElem?_eq_some_iff.mp hd).1
      rwa [List.length_map] at this
    rw [List.getElem?_map, List.getElem?_eq_getElem hi] at hd
    cases hd
    simp [tgName, ste0, ste1, ste2, dsub, big]
    rw [List.length_reverse] at hi
    refine ⟨show _ < 16777216 by omega, ?_⟩
    rw [one_sub, List.take_succ, List.getElem?_eq_getElem (by simpa using hi)]
    simp
    rfl
  · rintro acc J' ⟨rfl, rfl⟩
    rw [List.length_map, List.take_length]
    unfold backE at q
    rw [← List.map_reverse] at q
    exact q
theorem runs_take {row en : List Int} {es : List SE} (h : runs cs row es = some en) (i : Nat) : ∃ l, runs cs row (es.take i) = some l := by
  rw [← List.take_append_drop i es, runs_app] at h
  cases h2 : runs cs row (es.take i) with
  | none => rw [h2] at h; cases h
  | some l => exact ⟨l, rfl⟩
theorem beq_some {x y : List Int} : (some x == some y) = decide (x = y) := by by_cases h : x = y <;> simp [h]
theorem path_spec {row : List Int} {laps : Nat} {nm : Bool} (hs : chs s cs) (hc : cs.length ≤ 40) (hl : row.length ≤ 100) (hlp : laps ≤ 100) (hj : Rb b a r) (hb : b + 1000 ≤ LIM) (q : ∀ a' r', Rb (b + 1000) a' r' → Q (.val (.bl true)) (a' :: r' :: T)) :
    Ex X (F_l_path [.jar 1, .val s, .val (rT row), .val (.int laps), .val (.bl nm)] (a :: r :: T)) Q := by
  have hL : (LIM : Nat) = 1000000000 := rfl
  unfold F_l_path B_l_path
  rw [Ex_mkF]
  simp [startE]
  refine walk_spec (most := 12) hs hc (by omega) hj (by omega) fun es en a1 r1 he hel hen hj1 => ?_
  have hla := leads_last hen
  have henl := runs_len hen
  have hfl := leads_full.mpr (show (runs cs row es).isSome = true by rw [hen]; rfl)
  have hbk := runs_back hen
  have hbl := back_len (es := es)
  have hbm := back_mem he
  generalize leads cs row es = L at *
  have hix : dIx (.lst (L.map rT)) (.int ((L.length : Int) - 1)) = some (.val (rT en)) := by
    have hlt := (List.getElem?_eq_some_iff.mp hla).1
    have e1 : ((L.length : Int) - 1) = ((es.length : Nat) : Int) := by omega
    rw [e1]
    have := ixT (ds := L.map rT) (n := es.length) (by simpa using hlt)
    rw [List.getElem_map, (List.getElem?_eq_some_iff.mp hla).2] at this
    exact this
  have p1 : pathB cs row en (.tup (es.map stE)) = true := by rw [pathB_steps he, hen]; simp
  have p2 : pathB cs en row (.tup ((backE es).map stE)) = true := by rw [pathB_steps hbm]; unfold backE; rw [hbk]; simp
  have hm3 : ∀ e ∈ es ++ backE es, e.1 < cs.length := fun e h => by
    rcases List.mem_append.mp h with h | h
    · exact he e h
    · exact hbm e h
  have p3 : ∀ o, pathB cs row o (.tup ((es ++ backE es).map stE)) = decide (row = o) := fun o => by
    rw [pathB_steps hm3, runs_app, hen]
    show (runs cs en (backE es) == some o) = _
    unfold backE
    rw [hbk]
    exact beq_some
  have hsz : ∀ {fs : List SE} {n : Nat}, fs.length ≤ 1000 → n ≤ 1000 → ∀ xs, D.tup (fs.map stE) = .tup xs → xs.length + n ≤ 90000 := fun h hn xs hx => by
    cases hx; rw [List.length_map]; omega
  have e0 : dLen (.tup (es.map stE)) = some (.val (.int es.length)) := by simp [dLen]
  simp [tgSeq, tgs]
  simp [B_l_path_2, dsub, hix]
  simp [B_l_path_3]
  refine runs_spec hs he (by omega) ?_
  simp
  refine is_spec hs (hsz (by omega) (by omega)) p1 ?_
  simp [B_l_path_5]
  refine lcB (by omega) ?_
  simp [dt_l, B_l_path_6]
  refine turns_spec (by omega) ?_
  simp
  have hr2 := fun {X : XP} {Q : HV → Jr → Prop} {J : Jr} (q : Q (.val (.bl true)) J) => runs_spec (X := X) (Q := Q) (J := J) (row := en) (es := backE es) (nm := nm) hs hbm (by omega) q
  have hi2 := fun {X : XP} {Q : HV → Jr → Prop} {J : Jr} (q : Q (.val (.bl true)) J) => is_spec (X := X) (Q := Q) (J := J) (nm := nm) hs (hsz (fs := backE es) (n := en.length) (by omega) (by omega)) p2 q
  have ht2 := fun {X : XP} {Q : HV → Jr → Prop} {J : Jr} (q : Q (.val (.bl true)) J) => turns_spec (X := X) (Q := Q) (J := J) (s := s) (es := backE es) (nm := nm) (by omega) q
  have had : dAdd (.tup (es.map stE)) (.tup ((backE es).map stE)) = some (.val (.tup ((es ++ backE es).map stE))) := by
    rw [dAdd_tt (by simp; omega)]; simp
  have hi3 := fun {X : XP} {Q : HV → Jr → Prop} {J : Jr} (o : List Int) (d : Bool) (e : decide (row = o) = d) (q : Q (.val (.bl true)) J) => is_spec (X := X) (Q := Q) (J := J) (nm := nm) (other := o) hs (hsz (fs := es ++ backE es) (n := row.length) (by simp; omega) (by omega)) ((p3 o).trans e) q
  generalize D.tup ((es ++ backE es).map stE) = BB at *
  generalize D.tup ((backE es).map stE) = BK at *
  refine hr2 ?_
  simp [B_l_path_8]
  refine hi2 ?_
  simp
  refine ht2 ?_
  have last : ∀ o, row ≠ o → Sx (dfX X (T.length + 1 + 1) Q) (B_l_path_11 (T.length + 1 + 1) [some (.jar 1), some (.val s), some (.val (rT row)), some (.val (.int laps)), some (.val (.bl nm)), some (.val (rT en)), some (.val BK), some (.val (rT o)), some (.val (.tup (es.map stE))), some (.val (.lst (L.map rT))), none] (a1 :: r1 :: T)) := by
    intro o ho
    simp [B_l_path_11, had]
    refine hi3 row true (by simp) ?_
    simp
    refine hi3 o false (by simp [ho]) ?_
    have hbr : ∀ a r, Rb (b + 400) a r → Sx (dfX X (T.length + 1 + 1) Q) (B_l_path_15 (T.length + 1 + 1) [some (.jar 1), some (.val s), some (.val (rT row)), some (.val (.int laps)), some (.val (.bl nm)), some (.val (rT en)), some (.val BK), some (.val (rT o)), some (.val (.tup (es.map stE))), some (.val (.lst (L.map rT))), none] (a :: r :: T)) := by
      intro a r hj
      simp [B_l_path_15, hs]
      by_cases h0 : cs = []
      · subst h0
        simp
        exact q _ _ (hj.mono (by omega))
      · have h0' : 0 < cs.length := List.length_pos_iff.mpr h0
        simp [h0]
        refine broken_spec hs ⟨h0', hc⟩ he (by omega) hen hj (by omega) fun a r hj => ?_
        simp
        exact q _ _ (hj.mono (by omega))
    simp [B_l_path_13, e0, gt_i]
    by_cases h0 : 0 < es.length
    · obtain ⟨l12, h12⟩ := runs_take hen 12
      have ht12 : cutD (es.map stE) none (some 12) = (es.take 12).map stE := by rw [cutD_to (by decide), List.map_take]; rfl
      rw [if_pos h0]
      simp [slT, ht12]
      rw [← List.map_take]
      refine faults_spec (es := es.take 12) hs (by omega) (fun e h => he e (List.mem_of_mem_take h)) (by simp; omega) (by simp; omega) h12 hj1 (by omega) fun a r hj => ?_
      simp
      exact hbr _ _ (hj.mono (by omega))
    · rw [if_neg h0]
      exact hbr _ _ (hj1.mono (by omega))
  simp [B_l_path_10, gt_i, slT]
  by_cases h8 : (8 : Int) < row.length
  · rw [if_pos h8]
    have : cutD (row.map D.int) (some 1) none = (row.drop 1).map D.int := by rw [cutD_from (by decide)]; simp [List.map_drop]
    rw [this]
    exact last (row.drop 1) fun z => by have := congrArg List.length z; rw [List.length_drop] at this; omega
  · rw [if_neg h8, dAdd_tt (by simp; omega)]
    have := last (row ++ [0]) fun z => by have := congrArg List.length z; rw [List.length_append] at this; simp at this
    rw [show rT (row ++ [0]) = D.tup (row.map D.int ++ [D.int 0]) by simp [rT]] at this
    simp; exact ⟨by decide, this⟩
end K10
set_option Elab.async false
set_option linter.all false
set_option maxRecDepth 100000
set_option maxHeartbeats 4000000
set_option autoImplicit false
namespace K10
open PySem L2 L2.Pz
variable {X : XP} {Q : HV → Jr → Prop} {T J : Jr} {a r : List D} {env : En} {b : Nat} {s : D} {cs : List Ch}
theorem len1 {α : Type} {l : List α} {i : Nat} {x : α} (h : l.length = i) : (l ++ [x]).length = i + 1 := by rw [List.length_append, h]; rfl
theorem len1' {α : Type} {l : List α} {i : Nat} {x : α} (h : l.length ≤ i) : (l ++ [x]).length ≤ i + 1 := by rw [List.length_append]; exact Nat.succ_le_succ h
theorem row_spec {m : Int} {n : Nat} (hm : 0 < m) (hm2 : m < 2 ^ 64) (hn : n ≤ 1000) (hj : Rb b a r) (hb : b + n ≤ LIM)
    (q : ∀ (row : List Int) a' r', row.length = n → (∀ v ∈ row, 0 ≤ v ∧ v < m) → Rb (b + n) a' r' → Q (.val (rT row)) (a' :: r' :: T)) : Ex X (F_l_row [.jar 1, .val (.int m), .val (.int n)] (a :: r :: T)) Q := by
  have e0 : rgOk (n : Int) = true := by unfold rgOk; simp; omega
  have hL : (LIM : Nat) = 1000000000 := rfl
  unfold F_l_row B_l_row
  rw [Ex_mkF]
  simp [startE]
  refine Ex_lcX ?_
  simp [wipeE, e0]
  refine Ex_lcLoop (fun i acc J' => ∃ (row : List Int), ∃ a r, acc = row.map D.int ∧ J' = a :: r :: T ∧ row.length = i ∧ (∀ v ∈ row, 0 ≤ v ∧ v < m) ∧ Rb (b + i) a r) ⟨[], a, r, rfl, rfl, rfl, (fun e he => nomatch he), hj⟩ ?_ ?_
  · rintro i d acc J' hd ⟨row, a, r, rfl, rfl, hl, hv, hj⟩
    obtain ⟨rfl, hi⟩ := rgD_get hd
    simp [tgName]
    refine lift_spec hj (by omega) hm hm2 fun v a' r' v0 v1 hj => ?_
    simp [big]
    refine ⟨show _ < 16777216 by omega, row ++ [v], by simp, _, _, ⟨rfl, rfl⟩, len1 hl, fun w hw => ?_, hj.mono (by omega)⟩
    rcases List.mem_append.mp hw with hw | hw
    · exact hv w hw
    · rw [List.mem_singleton.mp hw]; exact ⟨v0, v1⟩
  · rintro acc J' ⟨row, a, r, rfl, rfl, hl, hv, hj⟩
    rw [rgD_len] at hl hj
    simp [dt_l]
    exact q row a r (by omega) hv (hj.mono (by omega))
theorem ne_int {x y : Int} : dNe (.int x) (.int y) = some (.val (.bl (x != y))) := by
  show some (HV.val (D.bl (!(x == y)))) = _
  rfl
theorem two_of {ds : List D} {z : List D} (h : z = [.str "held", .str "idle"] ∨ z = [.str "loose", .str "same"]) {i : Nat} {d : D} (hd : z[i]? = some d) : i < 2 := by
  have := (List.getElem?_eq_some_iff.mp hd).1
  rcases h with rfl | rfl <;> exact this
theorem one_pool {u v : Int} {e0 e1 e3 e5 e6 e8 : Option HV} {J : Jr} {Q : HV → Jr → Prop} (q : ∀ cs : List Ch, cs.length ≤ 2 → Q (.new (cs.map Ch.d)) J) :
    Ex X (eLc (iAny (eSl (eName 2) none (some (eC (.int 2))))) (tgName 8) (bCmp dEq (eName 4) (eName 7)) (eTup [(eName 8), (eName 4)]) [8] [e0, e1, some (.val (.lst [.str "held", .str "idle", .str "loose", .str "same"])), e3, some (.val (.int u)), e5, e6, some (.val (.int v)), e8] J) Q := by
  refine Ex_lcX ?_
  have e : dSl (.lst [.str "held", .str "idle", .str "loose", .str "same"]) none (some 2) = some (.new [.str "held", .str "idle"]) := rfl
  simp [wipeE, e]
  refine Ex_lcLoop (fun i acc J' => ∃ cs : List Ch, acc = cs.map Ch.d ∧ cs.length ≤ i ∧ J' = J) ⟨[], rfl, by simp, rfl⟩ ?_ ?_
  · rintro i d acc J' hd ⟨cs, rfl, hl, rfl⟩
    have hi := two_of (ds := []) (.inl rfl) hd
    simp [tgName, eq_int]
    by_cases huv : u = v
    · rw [if_pos huv]
      simp [big]
      refine ⟨show _ < 16777216 by omega, ?_⟩
      rcases (by omega : i = 0 ∨ i = 1) with rfl | rfl <;> cases hd
      · exact ⟨cs ++ [.held u], by simp [Ch.d], len1' hl⟩
      · exact ⟨cs ++ [.idle u], by simp [Ch.d], len1' hl⟩
    · rw [if_neg huv]
      exact ⟨cs, rfl, by omega⟩
  · rintro acc J' ⟨cs, rfl, hl, rfl⟩
    exact q cs hl
theorem two_pool {u v : Int} {e0 e1 e3 e5 e6 e8 : Option HV} {J : Jr} {Q : HV → Jr → Prop} (q : ∀ cs : List Ch, cs.length ≤ 2 → Q (.new (cs.map Ch.d)) J) :
    Ex X (eLc (iAny (eSl (eName 2) (some (eC (.int 2))) none)) (tgName 8) (bCmp dNe (eName 4) (eName 7)) (eTup [(eName 8), (eName 4), (eName 7)]) [8] [e0, e1, some (.val (.lst [.str "held", .str "idle", .str "loose", .str "same"])), e3, some (.val (.int u)), e5, e6, some (.val (.int v)), e8] J) Q := by
  refine Ex_lcX ?_
  have e : dSl (.lst [.str "held", .str "idle", .str "loose", .str "same"]) (some 2) none = some (.new [.str "loose", .str "same"]) := rfl
  simp [wipeE, e]
  refine Ex_lcLoop (fun i acc J' => ∃ cs : List Ch, acc = cs.map Ch.d ∧ cs.length ≤ i ∧ J' = J) ⟨[], rfl, by simp, rfl⟩ ?_ ?_
  · rintro i d acc J' hd ⟨cs, rfl, hl, rfl⟩
    have hi := two_of (ds := []) (.inr rfl) hd
    simp [tgName, ne_int]
    by_cases huv : u = v
    · rw [if_pos huv]
      exact ⟨cs, rfl, by omega⟩
    · rw [if_neg huv]
      simp [big]
      refine ⟨show _ < 16777216 by omega, ?_⟩
      rcases (by omega : i = 0 ∨ i = 1) with rfl | rfl <;> cases hd
      · exact ⟨cs ++ [.loose u v], by simp [Ch.d], len1' hl⟩
      · exact ⟨cs ++ [.same u v], by simp [Ch.d], len1' hl⟩
  · rintro acc J' ⟨cs, rfl, hl, rfl⟩
    exact q cs hl
abbrev ordD : D := .lst [.str "held", .str "idle", .str "loose", .str "same"]
theorem cell0G {k : Nat} {ly : Jr} {x : List D} (hk : k = T.length + ly.length + 2) : (a :: r :: (T ++ (ly ++ [x])))[k]? = some x := by subst hk; exact cellG
theorem pool_in {m u : Nat} {ly : List (List D)} {cs : List Ch} {k n : Nat} {x5 x6 x7 x8 : Option HV} {P : Po} (hm : m ≤ 5) (hu : u < m) (hn : n ≤ T.length + 2) (hk : k = T.length + ly.length + 2) (hcs : cs.length ≤ 20 * u)
    (q : ∀ ly k x7 x8 (cs : List Ch), k = T.length + ly.length + 2 → cs.length ≤ 20 * (u + 1) → P.nx [some (.jar 1), some (.val (.int m)), some (.val ordD), some (.jar k), some (.val (.int u)), x5, x6, x7, x8] (a :: r :: (T ++ (ly ++ [cs.map Ch.d])))) :
    Sx P (B_l_setting_4 n [some (.jar 1), some (.val (.int m)), some (.val ordD), some (.jar k), some (.val (.int u)), x5, x6, x7, x8] (a :: r :: (T ++ (ly ++ [cs.map Ch.d])))) := by
  have e1 : rgOk (m : Int) = true := by unfold rgOk; simp; omega
  have e2 : rgOk (u : Int) = true := by unfold rgOk; simp; omega
  simp [B_l_setting_4, e1, e2]
  refine Sx_loopP (fun i env J => ∃ ly k x7 x8, ∃ cs : List Ch, env = [some (.jar 1), some (.val (.int m)), some (.val ordD), some (.jar k), some (.val (.int u)), x5, x6, x7, x8] ∧ J = a :: r :: (T ++ (ly ++ [cs.map Ch.d])) ∧ k = T.length + ly.length + 2 ∧ cs.length ≤ 20 * u + 4 * i) ⟨ly, k, _, _, cs, rfl, rfl, hk, by omega⟩ ?_ ?_
  · rintro i d env J P' hP hd ⟨ly, k, x7, x8, cs, rfl, rfl, hk, hc⟩
    obtain ⟨rfl, hi⟩ := rgD_get hd
    simp [tgName]
    refine one_pool fun c1 h1 => ?_
    simp [cell0G hk]
    rw [dAdd_ll (by simp; omega)]
    simp
    refine ⟨fun c _ => Ch_p c, two_pool fun c2 h2 => ?_⟩
    simp
    rw [dAdd_ll (by simp; omega)]
    simp
    refine ⟨by omega, hP.nx ⟨ly ++ [cs.map Ch.d], _, _, _, cs ++ c1 ++ c2, rfl, by simp, by (simp; try omega), by simp only [List.length_append]; omega⟩⟩
  · rintro env J ⟨ly, k, x7, x8, cs, rfl, rfl, hk, hc⟩
    rw [rgD_len] at hc
    exact q ly k _ _ cs hk (by omega)
theorem pick_n {v : Int} (v0 : 0 ≤ v) (v1 : v < 5) : ∃ n : Nat, n ≤ 12 ∧ dIx (.lst [.int 0, .int 2, .int 5, .int 12, .int 12]) (.int v) = some (.val (.int n)) := by
  rcases (by omega : v = 0 ∨ v = 1 ∨ v = 2 ∨ v = 3 ∨ v = 4) with rfl | rfl | rfl | rfl | rfl
  · exact ⟨0, by decide, rfl⟩
  · exact ⟨2, by decide, rfl⟩
  · exact ⟨5, by decide, rfl⟩
  · exact ⟨12, by decide, rfl⟩
  · exact ⟨12, by decide, rfl⟩
theorem names_n {m : Nat} : ∃ nmz, dSl (.lst [.str "x", .str "y1", .str "go", .str "stop", .str "hm"]) none (some m) = some (.new nmz) ∧ nmz.length ≤ 5 ∧ nmz.all isP = true := by
  refine ⟨_, rfl, ?_, ?_⟩
  · rw [cut_to]; simp; omega
  · rw [cut_to, List.all_eq_true]
    intro d hd
    have := List.mem_of_mem_take hd
    simp only [List.mem_cons, List.not_mem_nil, or_false] at this
    rcases this with rfl | rfl | rfl | rfl | rfl <;> rfl
theorem cellP {k : Nat} {ly : Jr} {x y : List D} (hk : k = T.length + ly.length + 2) : (a :: r :: (T ++ (ly ++ [x, y])))[k]? = some x := by
  subst hk
  rw [show T.length + ly.length + 2 = (T.length + (ly.length + 0)) + 1 + 1 by omega, List.getElem?_cons_succ, List.getElem?_cons_succ, List.getElem?_append_right (by omega), Nat.add_sub_cancel_left, List.getElem?_append_right (by omega)]
  simp
theorem cellC {k : Nat} {ly : Jr} {x y : List D} (hk : k = T.length + ly.length + 3) : (a :: r :: (T ++ (ly ++ [x, y])))[k]? = some y := by
  subst hk
  rw [show T.length + ly.length + 3 = (T.length + (ly.length + 1)) + 1 + 1 by omega, List.getElem?_cons_succ, List.getElem?_cons_succ, List.getElem?_append_right (by omega), Nat.add_sub_cancel_left, List.getElem?_append_right (by omega)]
  simp
theorem cellPs {k : Nat} {ly : Jr} {x y z : List D} (hk : k = T.length + ly.length + 2) : (a :: r :: (T ++ (ly ++ [x, y]))).set k z = a :: r :: (T ++ (ly ++ [z, y])) := by
  subst hk
  rw [show T.length + ly.length + 2 = (T.length + (ly.length + 0)) + 1 + 1 by omega, List.set_cons_succ, List.set_cons_succ, List.set_append_right _ _ (by omega), Nat.add_sub_cancel_left, List.set_append_right _ _ (by omega)]
  simp
theorem cellCs {k : Nat} {ly : Jr} {x y z : List D} (hk : k = T.length + ly.length + 3) : (a :: r :: (T ++ (ly ++ [x, y]))).set k z = a :: r :: (T ++ (ly ++ [x, z])) := by
  subst hk
  rw [show T.length + ly.length + 3 = (T.length + (ly.length + 1)) + 1 + 1 by omega, List.set_cons_succ, List.set_cons_succ, List.set_append_right _ _ (by omega), Nat.add_sub_cancel_left, List.set_append_right _ _ (by omega)]
  simp
theorem setting_spec {m : Nat} (hm : 0 < m ∧ m ≤ 5) (hj : Rb b a r) (hb : b + 20 ≤ LIM)
    (q : ∀ nmz (cs : List Ch) a' r', cs.length ≤ 12 → Rb (b + 20) a' r' → Q (.val (.tup [nmz, .tup (cs.map Ch.d)])) (a' :: r' :: T)) : Ex X (F_l_setting [.jar 1, .val (.int m)] (a :: r :: T)) Q := by
  have e0 : rgOk (m : Int) = true := by unfold rgOk; simp; omega
  have hL : (LIM : Nat) = 1000000000 := rfl
  unfold F_l_setting B_l_setting
  rw [Ex_mkF]
  simp [startE, B_l_setting_2, B_l_setting_3, e0]
  refine ⟨by decide, ?_⟩
  refine Sx_loopP (fun i env J => ∃ ly k x4 x7 x8, ∃ cs : List Ch, env = [some (.jar 1), some (.val (.int m)), some (.val ordD), some (.jar k), x4, none, none, x7, x8] ∧ J = a :: r :: (T ++ (ly ++ [cs.map Ch.d])) ∧ k = T.length + ly.length + 2 ∧ cs.length ≤ 20 * i) ⟨[], _, _, _, _, [], rfl, rfl, rfl, Nat.zero_le _⟩ ?_ ?_
  · rintro i d env J P' hP hd ⟨ly, k, x4, x7, x8, cs, rfl, rfl, hk, hc⟩
    obtain ⟨rfl, hi⟩ := rgD_get hd
    simp [tgName]
    refine pool_in hm.2 (by omega) (by omega) hk hc fun ly k x7 x8 cs hk hc => ?_
    exact hP.nx ⟨ly, k, _, x7, x8, cs, rfl, rfl, hk, hc⟩
  · rintro env J ⟨ly, k, x4, x7, x8, cs, rfl, rfl, hk, hc⟩
    rw [rgD_len] at hc
    simp [B_l_setting_6]
    obtain ⟨j, hj2⟩ : ∃ j, j = T.length + ly.length + 3 := ⟨_, rfl⟩
    rw [show T.length + (ly.length + 1) + 1 + 1 = j by omega]
    have hpl : ((cs.map Ch.d).all isP = true) := chp
    simp [B_l_setting_7, cellP hk]
    refine ⟨fun c _ => Ch_p c, by decide, ?_⟩
    refine lift_spec (T := T ++ (ly ++ [cs.map Ch.d, []])) hj (by omega) (by decide) (by decide) fun v a1 r1 v0 v1 hj1 => ?_
    obtain ⟨n, hn, en⟩ := pick_n v0 v1
    simp [en, min_i]
    have hmin : ∃ g : Nat, (if n < cs.length then (n : Int) else cs.length) = g ∧ g ≤ cs.length ∧ g ≤ 12 := by
      by_cases h : n < cs.length
      · exact ⟨n, by rw [if_pos (by omega)], by omega, hn⟩
      · exact ⟨cs.length, by rw [if_neg (by omega)], by omega, by omega⟩
    obtain ⟨g, eg, g1, g2⟩ := hmin
    rw [eg]
    have er : rgOk (g : Int) = true := by unfold rgOk; simp; omega
    simp [er]
    refine Sx_loopP (fun i env J => ∃ x6, ∃ ps ds : List Ch, ∃ a r, env = [some (.jar 1), some (.val (.int m)), some (.val ordD), some (.jar k), x4, some (.jar j), x6, x7, x8] ∧ J = a :: r :: (T ++ (ly ++ [ps.map Ch.d, ds.map Ch.d])) ∧ ps.length + i = cs.length ∧ ds.length = i ∧ Rb (b + 1 + i) a r) ⟨_, cs, [], _, _, rfl, rfl, rfl, rfl, hj1⟩ ?_ ?_
    · rintro i d env J P' hP hd ⟨x6, ps, ds, a, r, rfl, rfl, hp, hd2, hj⟩
      obtain ⟨rfl, hi⟩ := rgD_get hd
      simp [tgName, cellP hk]
      refine ⟨fun c _ => Ch_p c, ?_⟩
      refine lift_spec (T := T ++ (ly ++ [ps.map Ch.d, ds.map Ch.d])) hj (by omega) (by omega) (by omega) fun v a1 r1 v0 v1 hj1 => ?_
      simp
      rw [popEnd_in (cellP hk) v0 (by simp; omega) (show _ ≤ 16777216 by simp; omega) chp]
      simp [cellPs hk, cellC hj2, cellCs hj2]
      have hv : v.toNat < ps.length := by omega
      refine ⟨show _ < 16777216 by omega, hP.nx ⟨_, ps.eraseIdx v.toNat, ds ++ [ps[v.toNat]'hv], a1, r1, rfl, by simp [map_erase], by rw [List.length_eraseIdx_of_lt hv]; omega, len1 hd2, hj1.mono (by omega)⟩⟩
    · rintro env J ⟨x6, ps, ds, a, r, rfl, rfl, hp, hd2, hj⟩
      rw [rgD_len] at hd2 hj
      obtain ⟨nmz, e9, l9, p9⟩ := names_n (m := m)
      simp [B_l_setting_9, e9, cellC hj2, dt_l]
      exact ⟨by decide, fun c _ => Ch_p c, by decide, q (.tup nmz) ds a r (by omega) (hj.mono (by omega))⟩
end K10
set_option Elab.async false
set_option linter.all false
set_option maxRecDepth 100000
set_option maxHeartbeats 4000000
set_option autoImplicit false
namespace K10
open PySem L2 L2.Pz
variable {X : XP} {Q : HV → Jr → Prop} {T J : Jr} {a r : List D} {env : En} {b : Nat} {s : D} {cs : List Ch}
def hC (c lo tp : Int) : List Ch := [.held c, .loose lo tp, .idle c, .same lo tp]
def hE : List SE := [(1, 0, true), (2, 1, true), (0, 1, true), (3, 0, false), (2, 2, false), (3, 0, true), (0, 1, true)]
def hW (c lo tp : Int) : List (List Int) := [[lo, tp], [tp, lo], [tp, c, lo], [tp, c, c, lo], [lo, c, c, lo], [lo, c, lo], [tp, c, lo], [tp, c, c, lo]]
def hO (c lo tp : Int) : List (List Int) := [[tp, c, lo], [lo, c, c, tp], [tp, c, c, tp], [tp, c, c], [], [lo, tp]]
def hChk (c lo tp : Int) : Bool :=
  (leads (hC c lo tp) [lo, tp] hE == hW c lo tp) && (runs (hC c lo tp) [lo, tp] hE == some [tp, c, c, lo]) && (runs (hC c lo tp) [lo, tp] (hE.take 6) == some [tp, c, lo]) &&
  (runs (hC c lo tp) [c] [(2, 0, false)] == some []) && ((hO c lo tp).all fun l => !(runs (hC c lo tp) [lo, tp] hE == some l))
theorem hC_l {c lo tp : Int} : (hC c lo tp).length = 4 := rfl
theorem hE_ok {c lo tp : Int} : ∀ e ∈ hE, e.1 < (hC c lo tp).length := by rw [hC_l]; decide
theorem hE_cut {k : Nat} : cutD (hE.map stE) none (some (k : Int)) = (hE.take k).map stE := by rw [cut_to, List.map_take]
theorem by12 {c lo tp : Int} {S : D} {nm : Bool} {x2 x3 x9 x10 x11 : Option HV} {w : Jr} (hs : chs S (hC c lo tp)) (hk : hChk c lo tp = true) (hj : Rb b a r) (hb : b + 10 ≤ LIM)
    (q : ∀ a' r', Rb (b + 10) a' r' → Q (.val (.bl true)) (a' :: r' :: T)) :
    Sx (dfX X (T.length + 1 + 1) Q) (B_l_by_hand_20 (T.length + 1 + 1) [some (.jar 1), some (.val (.bl nm)), x2, x3, some (.val (.int c)), some (.val (.int lo)), some (.val (.int tp)), some (.val S), some (.val (.tup (hE.map stE))), x9, x10, x11] (a :: r :: (T ++ w))) := by
  have hL : (LIM : Nat) = 1000000000 := rfl
  unfold hChk at hk
  simp only [Bool.and_eq_true, beq_iff_eq] at hk
  obtain ⟨⟨⟨⟨k1, k2⟩, k3⟩, k4⟩, k5⟩ := hk
  simp [B_l_by_hand_20, big]
  refine runs_spec (row := [c, lo]) (es := [(2, 0, false), (2, 1, true), (1, 0, true), (2, 1, false)]) hs (by rw [hC_l]; decide) (by simp) ?_
  simp [B_l_by_hand_22, big]
  refine lift_spec (T := T ++ w) hj (by omega) (by decide) (by decide) fun v a1 r1 v0 v1 hj1 => ?_
  simp [slT]
  have e : (1 + v) = ((1 + v.toNat : Nat) : Int) := by omega
  rw [e, hE_cut]
  obtain ⟨l, hl⟩ := runs_take k2 (1 + v.toNat)
  refine faults_spec (T := T ++ w) (row := [lo, tp]) hs (by rw [hC_l]; decide) (fun e h => hE_ok e (List.mem_of_mem_take h)) (by simp [hE]; omega) (by simp [hE]; omega) hl hj1 (by omega) fun a2 r2 hj2 => ?_
  simp [B_l_by_hand_24, big]
  refine is_spec (row := [c]) (other := []) hs (by intro xs h; cases h; simp) (by rfl) ?_
  simp
  refine is_spec (row := [c]) (other := []) (d := .tup ([(2, 0, false)].map stE)) hs (by intro xs h; cases h; simp) (by rw [pathB_steps (by rw [hC_l]; decide), k4]; rfl) ?_
  simp [B_l_by_hand_26, big]
  refine is_spec (row := [c]) (other := [c]) (d := .tup []) hs (by intro xs h; cases h; simp) (by show (true && (some [c] == some [c])) = true; simp) ?_
  simp
  refine is_spec (row := [c]) (other := [c, c]) (d := .tup []) hs (by intro xs h; cases h; simp) (by show (true && (some [c] == some [c, c])) = false; simp) ?_
  simp
  exact q _ _ (hj2.mono (by omega))
theorem rowsare_jar {ls : List (List Int)} {k : Nat} (hk : J[k]? = some (ls.map rT)) (hl : ∀ l ∈ ls, l.length ≤ 100000) (hn : ls.length ≤ 100000) (q : Q (.val (.bl true)) J) : Ex X (F_l_rows_are [.val (.tup (ls.map rT)), .jar k] J) Q := by
  unfold F_l_rows_are B_l_rows_are
  rw [Ex_mkF]
  have e0 : rgOk (ls.length : Int) = true := by unfold rgOk; simp; omega
  have hder : derefC J[k]? = some (.lst (ls.map rT)) := by
    rw [hk]
    have hp := rows_pl (rs := ls)
    generalize ls.map rT = R at hp
    simp [derefC, hp]
  have el : dLen (.lst (ls.map rT)) = some (.val (.int ls.length)) := by simp [dLen]
  have et : ∀ i : Nat, ∀ hi : i < ls.length, dIx (.tup (ls.map rT)) (.int i) = some (.val (rT ls[i])) := fun i hi => by
    have := ixT (ds := ls.map rT) (n := i) (by simpa using hi)
    rw [List.getElem_map] at this
    exact this
  have ei : ∀ i : Nat, ∀ hi : i < ls.length, dIx (.lst (ls.map rT)) (.int i) = some (.val (rT ls[i])) := et
  have e1 : dLen (.tup (ls.map rT)) = some (.val (.int ls.length)) := by simp [dLen]
  have e2 : isa "tuple" (.tup (ls.map rT)) = true := rfl
  generalize D.tup (ls.map rT) = L at et e1 e2
  generalize D.lst (ls.map rT) = dl at ei el hder
  simp [startE, dIsa, e1, e2, el, hder]
  simp [B_l_rows_are_3, el, e0, hder]
  refine Sx_loopP (fun i env J' => ∃ x2, env = [some (.val L), some (.jar k), x2] ∧ J' = J) ⟨_, rfl, rfl⟩ ?_ ?_
  · rintro i d env J' P' hP hd ⟨x2, rfl, rfl⟩
    obtain ⟨rfl, hi⟩ := rgD_get hd
    have hi : i < ls.length := by simpa using hi
    simp [tgName, B_l_rows_are_4, et i hi, ei i hi, hder]
    refine rowis_spec (hl _ (List.getElem_mem hi)) ?_
    simp
    exact hP.nx ⟨_, rfl, rfl⟩
  · rintro env J' ⟨x2, rfl, rfl⟩
    simp [B_l_rows_are_6]
    exact q
theorem by8 {c lo tp : Int} {S : D} {nm : Bool} {x2 x3 : Option HV} (hs : chs S (hC c lo tp)) (hk : hChk c lo tp = true) (hj : Rb b a r) (hb : b + 10 ≤ LIM)
    (q : ∀ a' r', Rb (b + 10) a' r' → Q (.val (.bl true)) (a' :: r' :: T)) :
    Sx (dfX X (T.length + 1 + 1) Q) (B_l_by_hand_8 (T.length + 1 + 1) [some (.jar 1), some (.val (.bl nm)), x2, x3, some (.val (.int c)), some (.val (.int lo)), some (.val (.int tp)), some (.val S), some (.val (.tup (hE.map stE))), none, none, none] (a :: r :: T)) := by
  have hL : (LIM : Nat) = 1000000000 := rfl
  have hk' := hk
  unfold hChk at hk
  simp only [Bool.and_eq_true, beq_iff_eq, List.all_eq_true] at hk
  obtain ⟨⟨⟨⟨k1, k2⟩, k3⟩, k4⟩, k5⟩ := hk
  simp [B_l_by_hand_8, big]
  simp [B_l_by_hand_9, big]
  have key : Sx (dfX X (T.length + 1 + 1) Q) (B_l_by_hand_11 (T.length + 1 + 1) [some (.jar 1), some (.val (.bl nm)), x2, x3, some (.val (.int c)), some (.val (.int lo)), some (.val (.int tp)), some (.val S), some (.val (.tup (hE.map stE))), some (.jar (T.length + 1 + 1)), some (.val (.tup ((hW c lo tp).map rT))), none] (a :: r :: (T ++ [(hW c lo tp).map rT]))) := by
    have hpl := rows_pl (rs := hW c lo tp)
    have hra := fun {X : XP} {Q : HV → Jr → Prop} {J : Jr} (k : Nat) (hk : J[k]? = some ((hW c lo tp).map rT)) (q : Q (.val (.bl true)) J) => rowsare_jar (X := X) (Q := Q) (J := J) (ls := hW c lo tp) (k := k) hk (by simp [hW]) (by simp [hW]) q
    generalize (hW c lo tp).map rT = R at hpl hra
    have hpl' := List.all_eq_true.mp hpl
    simp [B_l_by_hand_11, -List.getElem?_cons_succ, cell2G]
    refine hra _ cell2G ?_
    simp
    refine turns_spec (by decide) ?_
    simp [B_l_by_hand_13, big]
    refine is_spec (row := [lo, tp]) (other := [tp, c, c, lo]) hs (by intro xs h; cases h; simp [hE]) (by rw [pathB_steps hE_ok, k2]; simp) ?_
    simp [B_l_by_hand_15, big]
    refine Sx_loopP (fun i env J => ∃ x11, env = [some (.jar 1), some (.val (.bl nm)), x2, x3, some (.val (.int c)), some (.val (.int lo)), some (.val (.int tp)), some (.val S), some (.val (.tup (hE.map stE))), some (.jar (T.length + 1 + 1)), some (.val (.tup R)), x11] ∧ J = a :: r :: (T ++ [R])) ⟨_, rfl, rfl⟩ ?_ ?_
    · rintro i d env J P' hP hd ⟨x11, rfl, rfl⟩
      obtain ⟨l, hl, rfl⟩ : ∃ l ∈ hO c lo tp, d = rT l := by
        have : (hO c lo tp |>.map rT)[i]? = some d := hd
        rw [List.getElem?_map] at this
        cases h : (hO c lo tp)[i]? with
        | none => rw [h] at this; cases this
        | some l => rw [h] at this; cases this; exact ⟨l, List.mem_of_getElem? h, rfl⟩
      simp [tgName, B_l_by_hand_16, big]
      have e5 := k5 l hl
      refine is_spec (row := [lo, tp]) (other := l) hs (by intro xs h; cases h; simp [hE]) (by rw [pathB_steps hE_ok]; simpa using e5) ?_
      simp
      exact hP.nx ⟨_, rfl, rfl⟩
    · rintro env J ⟨x11, rfl, rfl⟩
      simp [B_l_by_hand_18, big, slT]
      rw [show (6 : Int) = ((6 : Nat) : Int) from rfl, hE_cut]
      refine is_spec (row := [lo, tp]) (other := [tp, c, lo]) hs (by intro xs h; cases h; simp [hE]) (by rw [pathB_steps (fun e h => hE_ok e (List.mem_of_mem_take h)), k3]; simp) ?_
      simp
      exact by12 hs hk' hj hb q
  have hrs := fun {X : XP} {Q : HV → Jr → Prop} {J : Jr} (q : Q (.val (.tup ((hW c lo tp).map rT))) J) => run_steps_spec (X := X) (Q := Q) (J := J) (row := [lo, tp]) (es := hE) hs hE_ok (by simp [hE]) (fun _ => by rw [k1]; exact q) (fun h => by rw [k2] at h; cases h)
  simp [B_l_by_hand_10, big]
  cases nm <;> (
    simp
    refine hrs ?_
    simp
    exact key)
theorem by_hand_spec {nm : Bool} (hj : Rb b a r) (hb : b + 20 ≤ LIM) (q : ∀ a' r', Rb (b + 20) a' r' → Q (.val (.bl true)) (a' :: r' :: T)) : Ex X (F_l_by_hand [.jar 1, .val (.bl nm)] (a :: r :: T)) Q := by
  have hL : (LIM : Nat) = 1000000000 := rfl
  unfold F_l_by_hand B_l_by_hand
  rw [Ex_mkF]
  simp [startE]
  refine lift_spec hj (by omega) (by decide) (by decide) fun u a1 r1 u0 u1 hj1 => ?_
  simp [B_l_by_hand_2]
  refine lift_spec hj1 (by omega) (by decide) (by decide) fun v a2 r2 v0 v1 hj2 => ?_
  rcases (by omega : u = 0 ∨ u = 1 ∨ u = 2) with rfl | rfl | rfl <;> rcases (by omega : v = 0 ∨ v = 1) with rfl | rfl <;> (
    simp [toInt_i, mod_sm, B_l_by_hand_3, dsub, B_l_by_hand_4, min_i, B_l_by_hand_5, max_i, B_l_by_hand_6, B_l_by_hand_7, big]
    refine by8 (S := _) rfl (by decide +kernel) hj2 (by omega) fun a r hj => q _ _ (hj.mono (by omega)))
end K10
set_option Elab.async false
set_option linter.all false
set_option maxRecDepth 100000
set_option maxHeartbeats 4000000
set_option autoImplicit false
namespace K10
open PySem L2 L2.Pz
variable {X : XP} {Q : HV → Jr → Prop} {T J : Jr} {a r : List D} {env : En} {b : Nat} {s : D} {cs : List Ch}
theorem leads_ix {row en : List Int} {es : List SE} (hen : runs cs row es = some en) : dIx (.lst ((leads cs row es).map rT)) (.int (((leads cs row es).length : Int) - 1)) = some (.val (rT en)) := by
  have hla := leads_last hen
  have hfl := leads_full.mpr (show (runs cs row es).isSome = true by rw [hen]; rfl)
  generalize leads cs row es = L at *
  have hlt := (List.getElem?_eq_some_iff.mp hla).1
  have e1 : ((L.length : Int) - 1) = ((es.length : Nat) : Int) := by omega
  rw [e1]
  have := ixT (ds := L.map rT) (n := es.length) (by simpa using hlt)
  rw [List.getElem_map, (List.getElem?_eq_some_iff.mp hla).2] at this
  exact this
theorem ix_last {en : List Int} (h : 0 < en.length) : ∃ v, dIx (rT en) (.int (-1)) = some (.val (.int v)) ∧ en = en.dropLast ++ [v] := by
  refine ⟨en[en.length - 1]'(by omega), ?_, ?_⟩
  · show dIx (.tup (en.map D.int)) (.int (-1)) = _
    have e : atI (en.map D.int) (-1) = some (.int (en[en.length - 1]'(by omega))) := by
      unfold atI
      have : ixN (en.map D.int).length (-1) = some (en.length - 1) := by
        unfold ixN
        rw [if_neg (by decide), List.length_map, if_pos (by omega)]
        congr 1
        omega
      rw [this]
      show (en.map D.int)[en.length - 1]? = _
      rw [List.getElem?_map, List.getElem?_eq_getElem (by omega)]
      rfl
    show (atI (en.map D.int) (-1)).map HV.val = _
    rw [e]; rfl
  · have := List.dropLast_concat_getLast (l := en) (by intro z; rw [z] at h; exact absurd h (by decide))
    rw [List.getLast_eq_getElem] at this
    exact this.symm
theorem path_ends_spec {row en : List Int} {es : List SE} {nm : Bool} (hs : chs s cs) (he : ∀ e ∈ es, e.1 < cs.length) (hl : row.length + es.length ≤ 5000) (hen : runs cs row es = some en) (q : Q (.val (.bl true)) J) :
    Ex X (F_l_path_ends [.val s, .val (rT row), .val (.tup (es.map stE)), .val (.bl nm)] J) Q := by
  unfold F_l_path_ends B_l_path_ends
  rw [Ex_mkF]
  simp [startE]
  refine leads_spec hs he (by omega) ?_
  have hix := leads_ix hen
  have hfl := leads_full.mpr (show (runs cs row es).isSome = true by rw [hen]; rfl)
  have henl := runs_len hen
  generalize leads cs row es = L at *
  have e0 : dLen (.tup (es.map stE)) = some (.val (.int es.length)) := by simp [dLen]
  simp [B_l_path_ends_2, dsub, hix]
  have hr := fun {X : XP} {Q : HV → Jr → Prop} {J : Jr} (q : Q (.val (.bl true)) J) => runs_spec (X := X) (Q := Q) (J := J) (row := row) (es := es) (nm := nm) hs he (by omega) q
  have ht := fun {X : XP} {Q : HV → Jr → Prop} {J : Jr} (q : Q (.val (.bl true)) J) => turns_spec (X := X) (Q := Q) (J := J) (s := s) (es := es) (nm := nm) (by omega) q
  have hi := fun {X : XP} {Q : HV → Jr → Prop} {J : Jr} (o : List Int) (d : Bool) (e : decide (en = o) = d) (q : Q (.val (.bl true)) J) => is_spec (X := X) (Q := Q) (J := J) (nm := nm) (row := row) (other := o) (d := .tup (es.map stE)) (due := d) hs (fun xs h => by cases h; rw [List.length_map]; omega) (by rw [pathB_steps he, hen, beq_some]; exact e) q
  generalize D.tup (es.map stE) = E at *
  simp [B_l_path_ends_3, e0, hfl]
  refine hr ?_
  simp
  refine ht ?_
  simp [B_l_path_ends_5, gt_i]
  have fin : ∀ o : List Int, en ≠ o → Sx (dfX X J.length Q) (B_l_path_ends_6 J.length [some (.val s), some (.val (rT row)), some (.val E), some (.val (.bl nm)), some (.val (.lst (L.map rT))), some (.val (rT en)), some (.val (rT o))] J) := fun o ho => by
    simp [B_l_path_ends_6]
    refine hi en true (by simp) ?_
    simp
    refine hi o false (by simp [ho]) ?_
    simp
    exact q
  by_cases h0 : 0 < en.length
  · rw [if_pos h0]
    obtain ⟨v, hv, hev⟩ := ix_last h0
    have hto : cutD (en.map D.int) none (some (-1)) = en.dropLast.map D.int := by rw [cut_to_neg (by simpa using h0), List.map_dropLast]
    have had : dAdd (.tup (en.dropLast.map D.int)) (.tup [.int (1 - v)]) = some (.val (rT (en.dropLast ++ [1 - v]))) := by
      rw [dAdd_tt (by simp; omega)]; simp
    have hne : en ≠ en.dropLast ++ [1 - v] := fun z => by
      have z2 := hev.symm.trans z
      have := List.append_cancel_left z2
      simp at this
      omega
    simp [hv, slT, hto, dsub, big]
    rw [show (en.map D.int).dropLast = en.dropLast.map D.int from List.map_dropLast.symm, had]
    exact fin _ hne
  · rw [if_neg h0]
    exact ⟨by decide, fin [0] fun z => h0 (by rw [z]; decide)⟩
def lC : List Ch := [.held 0, .idle 1, .loose 0 1, .same 0 1]
def half : List SE := [(1, 0, true), (1, 0, false)]
def halfs (n : Nat) : List SE := (List.replicate n half).flatten
theorem lC_l : lC.length = 4 := rfl
theorem halfs_succ {n : Nat} : halfs (n + 1) = half ++ halfs n := rfl
theorem halfs_l {n : Nat} : (halfs n).length = 2 * n := by
  induction n with
  | zero => rfl
  | succ n ih => rw [halfs_succ, List.length_append, ih]; show 2 + 2 * n = _; omega
theorem half_ok : ∀ e ∈ half, e.1 < lC.length := by rw [lC_l]; decide
theorem halfs_ok {n : Nat} : ∀ e ∈ halfs n, e.1 < lC.length := by
  induction n with
  | zero => intro e h; cases h
  | succ n ih =>
    intro e h
    rw [halfs_succ] at h
    rcases List.mem_append.mp h with h | h
    · exact half_ok e h
    · exact ih e h
theorem half_runs {row : List Int} : runs lC row half = some row := by
  simp [runs, half, stepOf, lC, stP]
theorem halfs_runs {row : List Int} {n : Nat} : runs lC row (halfs n) = some row := by
  induction n with
  | zero => rfl
  | succ n ih => rw [halfs_succ, runs_app, half_runs]; exact ih
theorem rep_half {k : Int} (h0 : 0 ≤ k) (h1 : k ≤ 1000) : dRepT (.tup (half.map stE)) (.int k) = some (.val (.tup ((halfs k.toNat).map stE))) := by
  show (if -(2 ^ 62) < k ∧ k < 2 ^ 62 ∧ (half.map stE).length * k.toNat ≤ 1000000 then some (HV.val (.tup (List.replicate k.toNat (half.map stE)).flatten)) else none) = _
  have hl : (half.map stE).length = 2 := rfl
  rw [if_pos (by rw [hl]; omega)]
  unfold halfs
  rw [List.map_flatten, List.map_replicate]
theorem long6 {row en : List Int} {es : List SE} {S : D} {nm : Bool} {x7 x8 x9 x10 : Option HV} {m : Nat} {P : Po} (hs : chs S lC) (he : ∀ e ∈ es, e.1 < lC.length) (hl : row.length ≤ 8) (hel : es.length ≤ 40) (hen : runs lC row es = some en)
    (q : P.rt (.val (.bl true)) J) : Sx P (B_l_long_6 m [some (.jar 1), some (.val (.bl nm)), some (.val (.int 200)), some (.val S), some (.val (rT row)), some (.val (.tup (half.map stE))), some (.val (.tup (es.map stE))), x7, x8, x9, x10] J) := by
  have hk : ∃ k : Nat, ((200 - (es.length : Int)) / 2) = (k : Int) ∧ k ≤ 100 := ⟨((200 - (es.length : Int)) / 2).toNat, by omega, by omega⟩
  obtain ⟨k, hk, hk2⟩ := hk
  have e1 := rep_half (k := (k : Int)) (by omega) (by omega)
  have hes : ∀ e ∈ es ++ halfs k, e.1 < lC.length := fun e h => by
    rcases List.mem_append.mp h with h | h
    · exact he e h
    · exact halfs_ok e h
  have e2 : dAdd (.tup (es.map stE)) (.tup ((halfs k).map stE)) = some (.val (.tup ((es ++ halfs k).map stE))) := by
    rw [dAdd_tt (by simp [halfs_l]; omega)]; simp
  have hrn : runs lC row (es ++ halfs k) = some en := by rw [runs_app, hen]; exact halfs_runs
  have hlen : (es ++ halfs k).length ≤ 240 := by rw [List.length_append, halfs_l]; omega
  simp [B_l_long_6, dsub, floor_sm, toInt_i]
  rw [hk]
  simp only [Int.toNat_natCast] at e1
  simp [e1, e2]
  rw [← List.map_append]
  generalize es ++ halfs k = fs at *
  have e3 : cutD (fs.map stE) none (some 199) = (fs.take 199).map stE := by rw [show (199 : Int) = ((199 : Nat) : Int) from rfl, cut_to, List.map_take]
  have e4 : dAdd (.tup ((fs.take 199).map stE)) (.tup [.tup [.int 0, .int 60, .int 1]]) = some (.val (.tup ((fs.take 199 ++ [(0, 60, true)]).map stE))) := by
    rw [dAdd_tt (by simp; omega), List.map_append]; rfl
  have hes2 : ∀ e ∈ fs.take 199 ++ [(0, 60, true)], e.1 < lC.length := fun e h => by
    rcases List.mem_append.mp h with h | h
    · exact hes e (List.mem_of_mem_take h)
    · rw [List.mem_singleton.mp h, lC_l]; decide
  have hpe := fun {X : XP} {Q : HV → Jr → Prop} {J : Jr} (q : Q (.val (.bl true)) J) => path_ends_spec (X := X) (Q := Q) (J := J) (nm := nm) (row := row) hs hes (by omega) hrn q
  have hru := fun {X : XP} {Q : HV → Jr → Prop} {J : Jr} (q : Q (.val (.bl true)) J) => runs_spec (X := X) (Q := Q) (J := J) (nm := nm) (row := row) hs hes2 (by simp; omega) q
  simp [B_l_long_7, slT, big]
  generalize (fs.take 199 ++ [(0, 60, true)]).map stE = F2 at *
  generalize fs.map stE = F1 at *
  rw [e3]
  generalize (fs.take 199).map stE = F3 at *
  refine hpe ?_
  simp [e4]
  refine hru ?_
  exact q
theorem drop_last_app {α : Type} {l m : List α} {x : α} : (l ++ m).dropLast = if m = [] then l.dropLast else l ++ m.dropLast := by
  by_cases h : m = []
  · subst h; simp
  · rw [if_neg h, List.dropLast_append_of_ne_nil h]
theorem halfs_snoc {n : Nat} : halfs (n + 1) = halfs n ++ half := by
  unfold halfs
  rw [List.replicate_succ', List.flatten_append]; simp
theorem long8 {row en : List Int} {es : List SE} {S : D} {nm : Bool} {x7 x8 x9 : Option HV} {m : Nat} (hm : m ≤ J.length) (hs : chs S lC) (he : ∀ e ∈ es, e.1 < lC.length) (hl : row.length ≤ 8) (hel : es.length ≤ 40) (hen : runs lC row es = some en)
    (q : Q (.val (.bl true)) (J.take m)) : Sx (dfX X m Q) (B_l_long_8 m [some (.jar 1), some (.val (.bl nm)), some (.val (.int 1000)), some (.val S), some (.val (rT row)), some (.val (.tup (half.map stE))), some (.val (.tup (es.map stE))), x7, x8, x9, some (.val (.lst ((leads lC row es).map rT)))] J) := by
  obtain ⟨n, hk, hk2, k, hnk⟩ : ∃ n : Nat, ((1000 - (es.length : Int)) / 2) = (n : Int) ∧ n ≤ 600 ∧ ∃ k, n = k + 1 := ⟨((1000 - (es.length : Int)) / 2).toNat, by omega, by omega, ((1000 - (es.length : Int)) / 2).toNat - 1, by omega⟩
  have e1 := rep_half (k := (n : Int)) (by omega) (by omega)
  simp only [Int.toNat_natCast] at e1
  have hes : ∀ e ∈ halfs n ++ es, e.1 < lC.length := fun e h => by
    rcases List.mem_append.mp h with h | h
    · exact halfs_ok e h
    · exact he e h
  have e2 : dAdd (.tup ((halfs n).map stE)) (.tup (es.map stE)) = some (.val (.tup ((halfs n ++ es).map stE))) := by
    rw [dAdd_tt (by simp [halfs_l]; omega)]; simp
  have hrn : runs lC row (halfs n ++ es) = some en := by rw [runs_app, halfs_runs]; exact hen
  have hlen : (halfs n ++ es).length ≤ 1300 := by rw [List.length_append, halfs_l]; omega
  have hpos : 0 < (halfs n ++ es).length := by rw [List.length_append, halfs_l]; omega
  have henl := runs_len hen
  have hst : ∀ r, runs lC row ((halfs n ++ es).take ((halfs n ++ es).length - 1)) = some r → r.length < 50 := by
    intro r hr
    by_cases h0 : es = []
    · subst h0
      have : (halfs n ++ []).take ((halfs n ++ []).length - 1) = halfs k ++ [(1, 0, true)] := by
        rw [List.append_nil, hnk, halfs_snoc, List.length_append]
        show (halfs k ++ half).take ((halfs k).length + 2 - 1) = _
        rw [show (halfs k).length + 2 - 1 = (halfs k).length + 1 by omega, List.take_length_add_append]
        rfl
      rw [this, runs_app, halfs_runs] at hr
      have := runs_len (show runs lC row [(1, 0, true)] = some r from hr)
      simp at this
      omega
    · have hp := List.length_pos_iff.mpr h0
      rw [List.length_append, Nat.add_sub_assoc hp, List.take_length_add_append, runs_app, halfs_runs] at hr
      have := runs_len (show runs lC row (es.take (es.length - 1)) = some r from hr)
      rw [List.length_take] at this
      omega
  have hix := leads_ix hen
  have e5 : dLen (.lst ((leads lC row es).map rT)) = some (.val (.int (leads lC row es).length)) := by simp [dLen]
  simp [B_l_long_8, dsub, floor_sm, toInt_i]
  rw [hk]
  generalize leads lC row es = L at *
  generalize D.lst (L.map rT) = DL at *
  simp [e1, e2]
  rw [← List.map_append]
  generalize halfs n ++ es = fs at *
  have hbad : runs lC row (fs.take (fs.length - 1) ++ [(2, 50, false)]) = none := runs_stuck fun r hr => stepOf_far (hst r hr)
  have hes2 : ∀ e ∈ fs.take (fs.length - 1) ++ [(2, 50, false)], e.1 < lC.length := fun e h => by
    rcases List.mem_append.mp h with h | h
    · exact hes e (List.mem_of_mem_take h)
    · rw [List.mem_singleton.mp h, lC_l]; decide
  have hes3 : ∀ e ∈ fs.drop 1, e.1 < lC.length := fun e h => hes e (List.mem_of_mem_drop h)
  have e4 : dAdd (.tup ((fs.take (fs.length - 1)).map stE)) (.tup [.tup [.int 2, .int 50, .int 0]]) = some (.val (.tup ((fs.take (fs.length - 1) ++ [(2, 50, false)]).map stE))) := by
    rw [dAdd_tt (by simp; omega), List.map_append]; rfl
  have e3 : cutD (fs.map stE) none (some ((fs.length : Int) - 1)) = (fs.take (fs.length - 1)).map stE := by
    rw [show (fs.length : Int) - 1 = ((fs.length - 1 : Nat) : Int) by omega, cut_to, List.map_take]
  have e6 : cutD (fs.map stE) (some 1) none = (fs.drop 1).map stE := by rw [cutD_from (by decide)]; simp [List.map_drop]
  have hi := fun {X : XP} {Q : HV → Jr → Prop} {J : Jr} (o : List Int) (d : Bool) (e : decide (en = o) = d) (q : Q (.val (.bl true)) J) => is_spec (X := X) (Q := Q) (J := J) (nm := nm) (row := row) (other := o) (d := .tup (fs.map stE)) (due := d) hs (fun xs h => by cases h; rw [List.length_map]; omega) (by rw [pathB_steps hes, hrn, beq_some]; exact e) q
  have hi2 := fun {X : XP} {Q : HV → Jr → Prop} {J : Jr} (q : Q (.val (.bl true)) J) => is_spec (X := X) (Q := Q) (J := J) (nm := nm) (row := row) (other := en) (d := .tup ((fs.take (fs.length - 1) ++ [(2, 50, false)]).map stE)) (due := false) hs (fun xs h => by cases h; rw [List.length_map]; simp; omega) (by rw [pathB_steps hes2, hbad]; rfl) q
  have hju := fun {X : XP} {Q : HV → Jr → Prop} {J : Jr} (q : Q (.val (.bl true)) J) => judge_spec (X := X) (Q := Q) (J := J) (row := row) (es := fs.drop 1) (nm := nm) (other := en) hs hes3 (by simp; omega) q
  have e7 : dLen (.tup (fs.map stE)) = some (.val (.int fs.length)) := by simp [dLen]
  generalize (fs.take (fs.length - 1) ++ [(2, 50, false)]).map stE = F2 at *
  generalize (fs.take (fs.length - 1)).map stE = F3 at *
  generalize (fs.drop 1).map stE = F4 at *
  generalize fs.map stE = F1 at *
  have last : ∀ o, en ≠ o → Sx (dfX X m Q) (B_l_long_11 m [some (.jar 1), some (.val (.bl nm)), some (.val (.int 1000)), some (.val S), some (.val (rT row)), some (.val (.tup (half.map stE))), some (.val (.tup F1)), some (.val (rT en)), some (.val (rT o)), x9, some (.val DL)] J) := by
    intro o ho
    simp [B_l_long_11]
    refine hi en true (by simp) ?_
    simp
    refine hi o false (by simp [ho]) ?_
    simp [B_l_long_13, e7, dsub, slT, big]
    rw [e3]
    simp [e4]
    simp [B_l_long_14]
    refine hi2 ?_
    simp [slT]
    rw [e6]
    refine hju ?_
    simp
    exact ⟨hm, q⟩
  simp [B_l_long_9, e5, dsub, hix]
  simp [B_l_long_10, gt_i, slT]
  by_cases h8 : (8 : Int) < en.length
  · rw [if_pos h8]
    have : cutD (en.map D.int) (some 1) none = (en.drop 1).map D.int := by rw [cutD_from (by decide)]; simp [List.map_drop]
    rw [this]
    exact last (en.drop 1) fun z => by have := congrArg List.length z; rw [List.length_drop] at this; omega
  · rw [if_neg h8, dAdd_tt (by simp; omega)]
    have := last (en ++ [0]) fun z => by have := congrArg List.length z; rw [List.length_append] at this; simp at this
    rw [show rT (en ++ [0]) = D.tup (en.map D.int ++ [D.int 0]) by simp [rT]] at this
    simp
    exact ⟨by decide, this⟩
theorem long_spec {nm : Bool} {laps : Int} (hla : laps = 200 ∨ laps = 1000) (hj : Rb b a r) (hb : b + 300 ≤ LIM) (q : ∀ a' r', Rb (b + 300) a' r' → Q (.val (.bl true)) (a' :: r' :: T)) : Ex X (F_l_long [.jar 1, .val (.bl nm), .val (.int laps)] (a :: r :: T)) Q := by
  have hL : (LIM : Nat) = 1000000000 := rfl
  unfold F_l_long B_l_long
  rw [Ex_mkF]
  have key : ∀ S, chs S lC → Sx (dfX X (T.length + 1 + 1) Q) (B_l_long_2 (T.length + 1 + 1) [some (.jar 1), some (.val (.bl nm)), some (.val (.int laps)), some (.val S), none, none, none, none, none, none, none] (a :: r :: T)) := by
    intro S hs
    simp [B_l_long_2]
    refine lift_spec hj (by omega) (by decide) (by decide) fun v a1 r1 v0 v1 hj1 => ?_
    have e : (3 + v) = ((3 + v.toNat : Nat) : Int) := by omega
    simp
    rw [e]
    refine row_spec (by decide) (by decide) (by omega) hj1 (by omega) fun row a2 r2 hl hv hj2 => ?_
    simp [B_l_long_3]
    refine walk_spec (laps := 40) (most := 12) hs (by rw [lC_l]; decide) (by omega) hj2 (by omega) fun es en a3 r3 he hel hen hj3 => ?_
    simp [tgSeq, tgs]
    simp [B_l_long_4, big]
    rcases hla with rfl | rfl
    · simp [B_l_long_5]
      refine long6 hs he (by omega) hel hen ?_
      · simp
        exact q _ _ (hj3.mono (by omega))
    · simp [B_l_long_5]
      refine long8 ?_ hs he (by omega) hel hen ?_
      · simp
      · simp
        exact q _ _ (hj3.mono (by omega))
  simp [startE, big]
  exact key _ rfl
end K10
set_option Elab.async false
set_option linter.all false
set_option maxRecDepth 100000
set_option maxHeartbeats 4000000
set_option autoImplicit false
namespace K10
open PySem L2 L2.Pz
variable {X : XP} {Q : HV → Jr → Prop} {T J : Jr} {a r : List D} {env : En} {b : Nat} {s : D} {cs : List Ch}
theorem pick4 {v : Int} (v0 : 0 ≤ v) (v1 : v < 4) : ∃ n : Nat, n ≤ 12 ∧ dIx (.lst [.int 1, .int 3, .int 6, .int 12]) (.int v) = some (.val (.int n)) := by
  rcases (by omega : v = 0 ∨ v = 1 ∨ v = 2 ∨ v = 3) with rfl | rfl | rfl | rfl
  · exact ⟨1, by decide, rfl⟩
  · exact ⟨3, by decide, rfl⟩
  · exact ⟨6, by decide, rfl⟩
  · exact ⟨12, by decide, rfl⟩
theorem lw12 {wd nm : Bool} {sc s : D} {k m : Nat} {x3 x6 x7 x8 : Option HV} {P : Po} (hs : chs s cs) (hc : cs.length ≤ 40) (hm : 0 < m ∧ m ≤ 5) (hj : Rb b a r) (hb : b + 1100 ≤ LIM)
    (q : ∀ x7 a' r', Rb (b + 1100) a' r' → P.nx [some (.val sc), some (.jar 1), some (.val (.bl wd)), x3, some (.val (.bl nm)), some (.val (.int k)), x6, x7, x8, some (.val (.int m)), some (.val s)] [a', r']) :
    Sx P (B_law_12 0 [some (.val sc), some (.jar 1), some (.val (.bl wd)), x3, some (.val (.bl nm)), some (.val (.int k)), x6, x7, x8, some (.val (.int m)), some (.val s)] [a, r]) := by
  have hL : (LIM : Nat) = 1000000000 := rfl
  have key : ∀ (row : List Int) a r, row.length ≤ 12 → Rb (b + 50) a r → Sx P (B_law_13 0 [some (.val sc), some (.jar 1), some (.val (.bl wd)), x3, some (.val (.bl nm)), some (.val (.int k)), x6, some (.val (rT row)), x8, some (.val (.int m)), some (.val s)] [a, r]) := by
    intro row a r hl hj
    simp [B_law_13, big]
    refine lift_spec (T := []) hj (by omega) (by decide) (by decide) fun v a1 r1 v0 v1 hj1 => ?_
    obtain ⟨n, hn, en⟩ := pick4 v0 v1
    simp [en]
    refine path_spec (T := []) hs hc (by omega) (by omega) hj1 (by omega) fun a r hj => ?_
    simp
    exact q _ _ _ (hj.mono (by omega))
  have rw12 : ∀ {Q : HV → Jr → Prop} {X : XP}, (∀ (row : List Int) a' r', row.length ≤ 12 → Rb (b + 50) a' r' → Q (.val (rT row)) [a', r']) → Ex X (F_l_row [.jar 1, .val (.int m), .val (.int 12)] [a, r]) Q := fun {Q X} q => by
    have := row_spec (X := X) (Q := Q) (T := []) (m := m) (n := 12) (by omega) (by omega) (by decide) hj (by omega) fun row a' r' h _ hj => q row a' r' (by omega) (hj.mono (by omega))
    exact this
  have rwN : ∀ {Q : HV → Jr → Prop} {X : XP}, (∀ (row : List Int) a' r', row.length ≤ 12 → Rb (b + 50) a' r' → Q (.val (rT row)) [a', r']) → Ex X (F_l_lift [.jar 1, .val (.int 9)] [a, r]) fun h J => isExc h = false ∧ Ex X (F_l_row [.jar 1, .val (.int m), norm h] J) Q := fun {Q X} q => by
    refine lift_spec (T := []) hj (by omega) (by decide) (by decide) fun v a1 r1 v0 v1 hj1 => ⟨rfl, ?_⟩
    have e : v = ((v.toNat : Nat) : Int) := by omega
    rw [e]
    exact row_spec (X := X) (Q := Q) (T := []) (m := m) (n := v.toNat) (by omega) (by omega) (by omega) hj1 (by omega) fun row a' r' h _ hj => q row a' r' (by omega) (hj.mono (by omega))
  simp [B_law_12, eq_int]
  by_cases hw : wd = true
  · rw [if_pos hw]
    by_cases hk : (k : Int) = 1
    · rw [if_pos hk]
      exact rw12 fun row a' r' h hj => key row a' r' h hj
    · rw [if_neg hk]
      exact rwN fun row a' r' h hj => key row a' r' h hj
  · rw [if_neg hw]
    exact rwN fun row a' r' h hj => key row a' r' h hj
theorem lw8 {wd nm : Bool} {sc : D} {k : Nat} {x3 x6 x7 x8 x9 x10 : Option HV} {P : Po} (hj : Rb b a r) (hb : b + 1200 ≤ LIM)
    (q : ∀ x7 x9 x10 a' r', Rb (b + 1200) a' r' → P.nx [some (.val sc), some (.jar 1), some (.val (.bl wd)), x3, some (.val (.bl nm)), some (.val (.int k)), x6, x7, x8, x9, x10] [a', r']) :
    Sx P (B_law_8 0 [some (.val sc), some (.jar 1), some (.val (.bl wd)), x3, some (.val (.bl nm)), some (.val (.int k)), x6, x7, x8, x9, x10] [a, r]) := by
  have hL : (LIM : Nat) = 1000000000 := rfl
  simp [B_law_8]
  refine lift_spec (T := []) hj (by omega) (by decide) (by decide) fun v a1 r1 v0 v1 hj1 => ?_
  have key : ∀ m : Nat, 0 < m ∧ m ≤ 5 → Sx P (B_law_11 0 [some (.val sc), some (.jar 1), some (.val (.bl wd)), x3, some (.val (.bl nm)), some (.val (.int k)), x6, x7, x8, some (.val (.int m)), x10] [a1, r1]) := by
    intro m hm
    simp [B_law_11]
    refine setting_spec (T := []) hm hj1 (by omega) fun nmz cs a r hc hj => ?_
    simp
    exact lw12 (cs := cs) rfl (by omega) hm hj (by omega) fun x7 a' r' hj => q _ _ _ _ _ (hj.mono (by omega))
  obtain ⟨m, em, hm⟩ : ∃ m : Nat, 1 + v = (m : Int) ∧ 0 < m ∧ m ≤ 5 := ⟨1 + v.toNat, by omega, by omega⟩
  simp
  rw [em]
  simp [B_law_9, eq_int]
  have k1 := key m hm
  have k2 := key 5 (by decide)
  by_cases hw : wd = true
  · rw [if_pos hw]
    by_cases hk : (k : Int) = 1
    · rw [if_pos hk]; exact k2
    · rw [if_neg hk]; exact k1
  · rw [if_neg hw]; exact k1
def Eo (m : Nat) (es : List SE) : Prop := ∀ e ∈ es, e.1 < m
abbrev gC : List Ch := [.idle 0, .held 1, .idle 1]
theorem law17 {wd gr nm : Bool} {sc S : D} {row : List Int} {x5 x9 x10 : Option HV} (hs : chs S gC) (hl : row.length ≤ 10) (hj : Rb b a r) (hb : b + 2000 ≤ LIM)
    {P : Po} (q : ∀ a r, P.rt (.val (.bl true)) [a, r]) :
    Sx P (B_law_17 0 [some (.val sc), some (.jar 1), some (.val (.bl wd)), some (.val (.bl gr)), some (.val (.bl nm)), x5, some (.val S), some (.val (rT row)), none, x9, x10] [a, r]) := by
  have hL : (LIM : Nat) = 1000000000 := rfl
  have key : ∀ (es : List SE) a r, (∀ e ∈ es, e.1 < gC.length) → es.length ≤ 30 → Rb (b + 200) a r → Sx P (B_law_18 0 [some (.val sc), some (.jar 1), some (.val (.bl wd)), some (.val (.bl gr)), some (.val (.bl nm)), x5, some (.val S), some (.val (rT row)), some (.val (.tup (es.map stE))), x9, x10] [a, r]) := by
    intro es a r he hel hj
    simp [B_law_18, big]
    refine runs_spec hs he (by omega) ?_
    simp
    refine runs_spec (cs := []) (row := [0, 0]) (es := []) rfl (fun e he => nomatch he) (by decide) ?_
    simp [B_law_20, big]
    refine is_spec (cs := []) (row := [0, 0]) (other := [0, 0]) rfl (by intro xs h; cases h; decide) (by rfl) ?_
    simp
    refine is_spec (cs := []) (row := [0]) (other := [0]) rfl (by intro xs h; cases h; decide) (by rfl) ?_
    simp
    have e26 : ∀ a r, Rb (b + 1500) a r → Sx P (B_law_26 0 [some (.val sc), some (.jar 1), some (.val (.bl wd)), some (.val (.bl gr)), some (.val (.bl nm)), x5, some (.val S), some (.val (rT row)), some (.val (.tup (es.map stE))), x9, x10] [a, r]) := by
      intro a r hj
      simp [B_law_26]
      refine by_hand_spec (T := []) hj (by omega) fun a r hj => ?_
      exact q _ _
    have e24 : ∀ a r, Rb (b + 1000) a r → Sx P (B_law_24 0 [some (.val sc), some (.jar 1), some (.val (.bl wd)), some (.val (.bl gr)), some (.val (.bl nm)), x5, some (.val S), some (.val (rT row)), some (.val (.tup (es.map stE))), x9, x10] [a, r]) := by
      intro a r hj
      simp [B_law_24]
      by_cases hw : wd = true
      · rw [if_pos hw]
        refine long_spec (T := []) (.inl rfl) hj (by omega) fun a r hj => ?_
        simp
        exact e26 _ _ (hj.mono (by omega))
      · rw [if_neg hw]
        exact e26 _ _ (hj.mono (by omega))
    simp [B_law_22]
    by_cases hg : gr = true
    · rw [if_pos hg]
      refine long_spec (T := []) (.inr rfl) hj (by omega) fun a r hj => ?_
      simp
      exact e24 _ _ (hj.mono (by omega))
    · rw [if_neg hg]
      exact e24 _ _ (hj.mono (by omega))
  simp [B_law_17]
  refine Ex_lcX ?_
  simp [wipeE]
  refine lift_spec (T := []) hj (by omega) (by decide) (by decide) fun v a1 r1 v0 v1 hj1 => ?_
  have e : (12 + v) = ((12 + v.toNat : Nat) : Int) := by omega
  simp
  rw [e]
  have er : rgOk ((12 + v.toNat : Nat) : Int) = true := by unfold rgOk; simp; omega
  refine ⟨er, ?_⟩
  simp only [Int.toNat_natCast]
  refine Ex_lcLoop (fun i acc J' => ∃ (es : List SE), ∃ a r, acc = es.map stE ∧ J' = [a, r] ∧ Eo gC.length es ∧ es.length = i ∧ Rb (b + 1 + 2 * i) a r) ⟨[], _, _, rfl, rfl, (fun e he => nomatch he), rfl, hj1⟩ ?_ ?_
  · rintro i d acc J' hd ⟨es, a, r, rfl, rfl, he, hel, hj⟩
    obtain ⟨rfl, hi⟩ := rgD_get hd
    simp [tgName]
    refine lift_spec (T := []) hj (by omega) (by decide) (by decide) fun u a r u0 u1 hj => ?_
    have eu : dMul (.int u) (.int 2) = some (.val (.int (u * 2))) := mul_sm (by omega) (by decide)
    simp [eu]
    refine lift_spec (T := []) hj (by omega) (by omega) (by omega) fun p a r p0 p1 hj => ?_
    simp [big]
    refine ⟨show _ < 16777216 by omega, es ++ [((u * 2).toNat, p.toNat, true)], ?_, _, _, ⟨rfl, rfl⟩, fun e h => ?_, len1 hel, hj.mono (by omega)⟩
    · rw [List.map_append]
      show _ = es.map stE ++ [D.tup [.int (((u * 2).toNat : Nat) : Int), .int ((p.toNat : Nat) : Int), .int 1]]
      rw [Int.toNat_of_nonneg (by omega), Int.toNat_of_nonneg p0]
    · rcases List.mem_append.mp h with h | h
      · exact he e h
      · rw [List.mem_singleton.mp h]
        show (u * 2).toNat < 3
        omega
  · rintro acc J' ⟨es, a, r, rfl, rfl, he, hel, hj⟩
    rw [rgD_len] at hel hj
    simp [dt_l]
    exact key es a r he (by omega) (hj.mono (by omega))
theorem law_spec (ns : List Int) (hn : ns.length ≤ 63) : Ex nX (F_law [.val (.lst (ns.map D.int))] []) fun h J => h = .val (.bl true) ∧ J = [] := by
  have hL : (LIM : Nat) = 1000000000 := rfl
  unfold F_law B_law
  rw [Ex_mkF]
  simp [startE]
  refine chest_spec ns hn fun a r hj => ?_
  simp
  simp [B_law_2]
  refine lift_spec (T := []) hj (by omega) (by decide) (by decide) fun v a1 r1 v0 v1 hj1 => ?_
  simp [eq_int, B_law_3]
  refine lift_spec (T := []) hj1 (by omega) (by decide) (by decide) fun u a2 r2 u0 u1 hj2 => ?_
  simp [eq_int, B_law_4]
  refine lift_spec (T := []) hj2 (by omega) (by decide) (by decide) fun w a3 r3 w0 w1 hj3 => ?_
  simp [eq_int]
  generalize (v == 6) = wd
  generalize (u == 3) = gr
  generalize (w == 1) = nm
  simp [B_law_5]
  refine by_hand_spec (T := []) hj3 (by omega) fun a4 r4 hj4 => ?_
  simp
  simp [B_law_7]
  refine ⟨by decide, ?_⟩
  refine Sx_loopP (fun i env J => ∃ x5 x7 x9 x10 a r, env = [some (.val (.lst (ns.map D.int))), some (.jar 1), some (.val (.bl wd)), some (.val (.bl gr)), some (.val (.bl nm)), x5, none, x7, none, x9, x10] ∧ J = [a, r] ∧ Rb (63 + 3 + 20 + 1200 * i) a r) ⟨_, _, _, _, _, _, rfl, rfl, hj4.mono (by omega)⟩ ?_ ?_
  · rintro i d env J P' hP hd ⟨x5, x7, x9, x10, a, r, rfl, rfl, hj⟩
    obtain ⟨rfl, hi⟩ := rgD_get hd
    have hi : i < 3 := hi
    simp [tgName]
    refine lw8 hj (by omega) fun x7 x9 x10 a r hj => ?_
    exact hP.nx ⟨_, x7, x9, x10, a, r, rfl, rfl, hj.mono (by omega)⟩
  · rintro env J ⟨x5, x7, x9, x10, a, r, rfl, rfl, hj⟩
    rw [show (rgD 0 3).length = 3 from rfl] at hj
    simp [B_law_15, big]
    have k16 : ∀ S, chs S gC → Sx (dfX nX 0 fun h J => h = .val (.bl true) ∧ J = []) (B_law_16 0 [some (.val (.lst (ns.map D.int))), some (.jar 1), some (.val (.bl wd)), some (.val (.bl gr)), some (.val (.bl nm)), x5, some (.val S), x7, none, x9, x10] [a, r]) := by
      intro S hs
      simp [B_law_16]
      refine row_spec (T := []) (m := 2) (n := 2) (by decide) (by decide) (by decide) hj (by omega) fun row a r hl hv hj => ?_
      simp
      exact law17 hs (by omega) hj (by omega) fun a r => by simp
    exact k16 _ rfl
theorem law_true (ns : List Int) (h : ns.length ≤ 63) : F_law [.val (.lst (ns.map D.int))] [] = .ok (.val (.bl true)) [] := by
  have e := law_spec ns h
  generalize F_law [.val (.lst (ns.map D.int))] [] = R at e ⊢
  rw [Ex_eq] at e
  cases R with
  | ok a J =>
    obtain ⟨rfl, rfl⟩ := e
    rfl
  | err c fs J => exact e.elim
  | stuck => exact e.elim
end K10
set_option Elab.async false
set_option linter.all false
set_option maxRecDepth 100000
set_option maxHeartbeats 4000000
set_option autoImplicit false
namespace K10
open PySem PySem.Spec PyProof.Rows L2 L2.Pz
def top (i : Nat) : Stmt := PySem.Challenge.pw_howeverheard_k10_paths_of_steps.main.body.getD i (.Pass ⟨0, 0, 0, 0⟩)
abbrev s_l_chest : Stmt := top 25
abbrev s_l_lift : Stmt := top 26
abbrev s_l_setting : Stmt := top 27
abbrev s_l_row : Stmt := top 28
abbrev s_held_step : Stmt := top 15
abbrev s_idle_step : Stmt := top 16
abbrev s_loose_step : Stmt := top 17
abbrev s_same_step : Stmt := top 18
abbrev s_stepped : Stmt := top 19
abbrev s_run_steps : Stmt := top 20
abbrev s_l_hear : Stmt := top 29
abbrev s_l_leads : Stmt := top 31
abbrev s_l_row_is : Stmt := top 32
abbrev s_l_rows_are : Stmt := top 33
abbrev s_l_runs : Stmt := top 34
abbrev s_is_integer : Stmt := top 9
abbrev s_integer_within : Stmt := top 10
abbrev s_is_number : Stmt := top 11
abbrev s_tuple_of : Stmt := top 12
abbrev s_is_step : Stmt := top 14
abbrev s_is_path : Stmt := top 21
abbrev s_l_is : Stmt := top 35
abbrev s_l_walk : Stmt := top 30
abbrev s_turned_step : Stmt := top 22
abbrev s_turned_path : Stmt := top 23
abbrev s_l_turns : Stmt := top 37
abbrev s_l_broken : Stmt := top 38
abbrev s_l_judge : Stmt := top 36
abbrev s_l_faults : Stmt := top 39
abbrev s_l_path : Stmt := top 40
abbrev s_l_by_hand : Stmt := top 41
abbrev s_l_path_ends : Stmt := top 43
abbrev s_l_long : Stmt := top 42
abbrev s_law : Stmt := top 44
structure Tx (Pr : Program) (K : PySem.W.Frag) (mg : Str → Option Value) where
  a_l_chest : Addr
  d_l_chest : FuncData
  p_l_chest : FnF K mg "_law_chest" s_l_chest a_l_chest d_l_chest ["script"]
  a_l_lift : Addr
  d_l_lift : FuncData
  p_l_lift : FnF K mg "_law_lift" s_l_lift a_l_lift d_l_lift ["chest", "many"]
  a_l_setting : Addr
  d_l_setting : FuncData
  p_l_setting : FnF K mg "_law_setting" s_l_setting a_l_setting d_l_setting ["chest", "many"]
  a_l_row : Addr
  d_l_row : FuncData
  p_l_row : FnF K mg "_law_row" s_l_row a_l_row d_l_row ["chest", "many", "length"]
  a_held_step : Addr
  d_held_step : FuncData
  p_held_step : FnF K mg "held_step" s_held_step a_held_step d_held_step ["row", "sign", "place", "way"]
  a_idle_step : Addr
  d_idle_step : FuncData
  p_idle_step : FnF K mg "idle_step" s_idle_step a_idle_step d_idle_step ["row", "sign", "place", "way"]
  a_loose_step : Addr
  d_loose_step : FuncData
  p_loose_step : FnF K mg "loose_step" s_loose_step a_loose_step d_loose_step ["row", "one", "other", "place", "way"]
  a_same_step : Addr
  d_same_step : FuncData
  p_same_step : FnF K mg "same_step" s_same_step a_same_step d_same_step ["row", "one", "other", "place", "way"]
  a_stepped : Addr
  d_stepped : FuncData
  p_stepped : FnF K mg "stepped" s_stepped a_stepped d_stepped ["setting", "row", "step"]
  a_run_steps : Addr
  d_run_steps : FuncData
  p_run_steps : FnF K mg "run_steps" s_run_steps a_run_steps d_run_steps ["setting", "row", "steps"]
  a_l_hear : Addr
  d_l_hear : FuncData
  p_l_hear : FnF K mg "_law_hear" s_l_hear a_l_hear d_l_hear ["setting", "row", "number", "place", "way"]
  a_l_leads : Addr
  d_l_leads : FuncData
  p_l_leads : FnF K mg "_law_leads" s_l_leads a_l_leads d_l_leads ["setting", "row", "steps"]
  a_l_row_is : Addr
  d_l_row_is : FuncData
  p_l_row_is : FnF K mg "_law_row_is" s_l_row_is a_l_row_is d_l_row_is ["told", "due"]
  a_l_rows_are : Addr
  d_l_rows_are : FuncData
  p_l_rows_are : FnF K mg "_law_rows_are" s_l_rows_are a_l_rows_are d_l_rows_are ["told", "due"]
  a_l_runs : Addr
  d_l_runs : FuncData
  p_l_runs : FnF K mg "_law_runs" s_l_runs a_l_runs d_l_runs ["setting", "row", "steps", "named"]
  a_is_integer : Addr
  d_is_integer : FuncData
  p_is_integer : FnF K mg "is_integer" s_is_integer a_is_integer d_is_integer ["thing"]
  a_integer_within : Addr
  d_integer_within : FuncData
  p_integer_within : FnF K mg "integer_within" s_integer_within a_integer_within d_integer_within ["thing", "low", "high"]
  a_is_number : Addr
  d_is_number : FuncData
  p_is_number : FnF K mg "is_number" s_is_number a_is_number d_is_number ["thing", "many"]
  a_tuple_of : Addr
  d_tuple_of : FuncData
  p_tuple_of : FnF K mg "tuple_of" s_tuple_of a_tuple_of d_tuple_of ["thing", "many"]
  a_is_step : Addr
  d_is_step : FuncData
  p_is_step : FnF K mg "is_step" s_is_step a_is_step d_is_step ["setting", "thing"]
  a_is_path : Addr
  d_is_path : FuncData
  p_is_path : FnF K mg "is_path" s_is_path a_is_path d_is_path ["setting", "row", "other", "thing"]
  a_l_is : Addr
  d_l_is : FuncData
  p_l_is : FnF K mg "_law_is" s_l_is a_l_is d_l_is ["setting", "row", "other", "thing", "due", "named"]
  a_l_walk : Addr
  d_l_walk : FuncData
  p_l_walk : FnF K mg "_law_walk" s_l_walk a_l_walk d_l_walk ["chest", "setting", "row", "laps", "most"]
  a_turned_step : Addr
  d_turned_step : FuncData
  p_turned_step : FnF K mg "turned_step" s_turned_step a_turned_step d_turned_step ["setting", "step"]
  a_turned_path : Addr
  d_turned_path : FuncData
  p_turned_path : FnF K mg "turned_path" s_turned_path a_turned_path d_turned_path ["setting", "steps"]
  a_l_turns : Addr
  d_l_turns : FuncData
  p_l_turns : FnF K mg "_law_turns" s_l_turns a_l_turns d_l_turns ["setting", "steps", "named"]
  a_l_broken : Addr
  d_l_broken : FuncData
  p_l_broken : FnF K mg "_law_broken" s_l_broken a_l_broken d_l_broken ["chest", "setting", "row", "steps", "named"]
  a_l_judge : Addr
  d_l_judge : FuncData
  p_l_judge : FnF K mg "_law_judge" s_l_judge a_l_judge d_l_judge ["setting", "row", "other", "steps", "named"]
  a_l_faults : Addr
  d_l_faults : FuncData
  p_l_faults : FnF K mg "_law_faults" s_l_faults a_l_faults d_l_faults ["chest", "setting", "row", "steps", "named"]
  a_l_path : Addr
  d_l_path : FuncData
  p_l_path : FnF K mg "_law_path" s_l_path a_l_path d_l_path ["chest", "setting", "row", "laps", "named"]
  a_l_by_hand : Addr
  d_l_by_hand : FuncData
  p_l_by_hand : FnF K mg "_law_by_hand" s_l_by_hand a_l_by_hand d_l_by_hand ["chest", "named"]
  a_l_path_ends : Addr
  d_l_path_ends : FuncData
  p_l_path_ends : FnF K mg "_law_path_ends" s_l_path_ends a_l_path_ends d_l_path_ends ["setting", "row", "steps", "named"]
  a_l_long : Addr
  d_l_long : FuncData
  p_l_long : FnF K mg "_law_long" s_l_long a_l_long d_l_long ["chest", "named", "laps"]
  a_law : Addr
  d_law : FuncData
  p_law : FnF K mg "law" s_law a_law d_law ["script"]
  z_ValueError : mg "ValueError" = none
  z_abs : mg "abs" = none
  z_all : mg "all" = none
  z_bool : mg "bool" = none
  z_enumerate : mg "enumerate" = none
  z_int : mg "int" = none
  z_isinstance : mg "isinstance" = none
  z_len : mg "len" = none
  z_list : mg "list" = none
  z_max : mg "max" = none
  z_min : mg "min" = none
  z_range : mg "range" = none
  z_reversed : mg "reversed" = none
  z_tuple : mg "tuple" = none
  c_HeardError : Addr
  c_AskError : Addr
  c_TextError : Addr
  c_DataError : Addr
  c_BadStep : Addr
  c_CallError : Addr
  c_BadPath : Addr
  i_BadPath : Addr
  q_BadPath : Str
  sx_BadPath : PySem.SxX.SxC Pr K mg "BadPath" c_BadPath i_BadPath [("at" : Str)]
  fn_BadPath : PySem.SxX.Fn_at Pr K c_BadPath i_BadPath q_BadPath
  n_BadPath : PySem.W.nsIn K mainGlobals "BadPath" = some (some (.ref c_BadPath))
  gx_HeardError : mg "HeardError" = some (.ref c_HeardError)
  gx_BadPath : mg "BadPath" = some (.ref c_BadPath)
  gx_AskError : mg "AskError" = some (.ref c_AskError)
  gx_TextError : mg "TextError" = some (.ref c_TextError)
  gx_DataError : mg "DataError" = some (.ref c_DataError)
  gx_BadStep : mg "BadStep" = some (.ref c_BadStep)
  gx_CallError : mg "CallError" = some (.ref c_CallError)
  xm_HeardError : ColOk K excM (.ref c_HeardError) "HeardError"
  xm_BadPath : ColOk K excM (.ref c_BadPath) "BadPath"
  km_AskError : KitOk K isM (.ref c_AskError) "AskError"
  km_TextError : KitOk K isM (.ref c_TextError) "TextError"
  km_DataError : KitOk K isM (.ref c_DataError) "DataError"
  km_BadStep : KitOk K isM (.ref c_BadStep) "BadStep"
  km_CallError : KitOk K isM (.ref c_CallError) "CallError"
  km_ValueError : KitOk K isM (.type "ValueError") "ValueError"
  xf_BadPath : XfC K c_BadPath
section
variable {Pr : Program} {w : World} {K : PySem.W.Frag} {mg : Str → Option Value} {base : Heap}
theorem sc_l_chest : FnScope ["script", "piles", "stir", "k", "size"] ["script"] (defScope s_l_chest) := ⟨rfl, rfl, rfl, by decide +kernel, rfl, by decide +kernel, by decide +kernel⟩
theorem ok_l_chest (T : Tx Pr K mg) : FnOk Pr w K mg base (L2.CX Pr w) 1 T.a_l_chest T.d_l_chest ["script"] (spF K (["script"] : List Str).length F_l_chest) :=
  fn_ok (k := 0) T.p_l_chest.F sc_l_chest fun cdv A outer s H E n0 hr => by
    have S := sc_l_chest
    exact (ss_cons (s_new (i := 1) S.nd rfl (by first | exact Or.inl rfl | exact Or.inr rfl) (pn_lst pi_nilD) (by rfl) (by first | exact Or.inl rfl | exact Or.inr rfl))
    (ss_cons (s_set (i := 2) S.nd rfl (by first | exact Or.inl rfl | exact Or.inr rfl) pd_int (by rfl) (by first | exact Or.inl rfl | exact Or.inr rfl))
    (ss_cons (s_for (passes_of rfl) rfl (pw_range1 rfl T.z_range (toD (pn_b1 call_lenAny sem_len rfl T.z_len (by rfl) (pd_name (pv 0)) (by decide) (by decide) (by rfl) (by rfl))) (by rfl) (by rfl)) (pg_name (i := 3) S.nd rfl (by first | exact Or.inl rfl | exact Or.inr rfl)) tgok_name (ss_cons (s_set (i := 4) S.nd rfl (by first | exact Or.inl rfl | exact Or.inr rfl) (toD (pn_bin op_mod sem_mod (toD (pn_b1 call_abs sem_abs rfl T.z_abs (by rfl) (toD (pn_t1 call_int1 sem_toInt rfl T.z_int (by rfl) (toD (pn_ix ix_seq sem_ix (pd_name (pv 0)) (pd_name (pv 3)) (fun _ _ => rfl))) (by decide) (by decide) (by rfl) (by rfl))) (by decide) (by decide) (by rfl) (by rfl))) (toD (pn_bin op_shl sem_shl pd_int pd_int)))) (by rfl) (by first | exact Or.inl rfl | exact Or.inr rfl))
    (ss_cons (s_if (pt_cmpD op_ge sem_ge (pd_name (pv 4)) (toD (pn_bin op_pow sem_pow pd_int pd_int)) (by rfl)) (ss_one (s_app (ps_expr (pe_bm PySem.F.plainAttrs_list PySem.F.slot_list_append PySem.F.type_list_append mt_append (pv 1) (pa_cons (pd_name (pv 4)) pa_nil))))) ss_nil)
    (ss_one (s_set (i := 2) S.nd rfl (by first | exact Or.inl rfl | exact Or.inr rfl) (toD (pn_bin op_mod sem_mod (toD (pn_t1 call_int1 sem_toInt rfl T.z_int (by rfl) (toD (pn_bin op_addAny sem_add (toD (pn_bin op_addAny sem_add (toD (pn_bin op_addAny sem_add (toD (pn_bin op_mulW sem_mul (pd_name (pv 2)) pd_int)) (toD (pn_bin op_mod sem_mod (pd_name (pv 4)) pd_int)))) (pd_name (pv 3)))) pd_int)) (by decide) (by decide) (by rfl) (by rfl))) pd_int)) (by rfl) (by first | exact Or.inl rfl | exact Or.inr rfl))))) (fun _ => rfl))
    (ss_one (s_ret (pn_lstJ (pj_cons (pd_name (pv 1)) (pj_cons (pd_name (pv 2)) (pj_cons pd_int pj_nil (by rfl)) (by rfl)) (by rfl))))))))
theorem sc_l_lift : FnScope ["chest", "many", "piles", "size"] ["chest", "many"] (defScope s_l_lift) := ⟨rfl, rfl, rfl, by decide +kernel, rfl, by decide +kernel, by decide +kernel⟩
theorem ok_l_lift (T : Tx Pr K mg) : FnOk Pr w K mg base (L2.CX Pr w) 1 T.a_l_lift T.d_l_lift ["chest", "many"] (spF K (["chest", "many"] : List Str).length F_l_lift) :=
  fn_ok (k := 0) T.p_l_lift.F sc_l_lift fun cdv A outer s H E n0 hr => by
    have S := sc_l_lift
    exact (ss_cons (s_setI (ps_asg (toD (pn_bin op_addAny sem_add (toD (pn_ixJ (pv 0) pd_int (fun _ _ => rfl))) pd_int)) (pg_sub (pv 0) pd_int set_list)))
    (ss_cons (s_set (i := 2) S.nd rfl (by first | exact Or.inl rfl | exact Or.inr rfl) (toD (pn_ixJ (pv 0) pd_int (fun _ _ => rfl))) (by rfl) (by first | exact Or.inl rfl | exact Or.inr rfl))
    (ss_cons (s_if (pt_cmpD op_gt sem_gt (toD (pn_b1 call_lenAny sem_len rfl T.z_len (by rfl) (pd_name (pv 2)) (by decide) (by decide) (by rfl) (by rfl))) pd_int (by rfl)) (ss_cons (s_set (i := 3) S.nd rfl (by first | exact Or.inl rfl | exact Or.inr rfl) (toD (pn_t1 call_int1 sem_toInt rfl T.z_int (by rfl) (toD (pn_ix ix_seq sem_ix (pd_name (pv 2)) (toD (pn_bin op_sub sem_sub (toD (pn_b1 call_lenAny sem_len rfl T.z_len (by rfl) (pd_name (pv 2)) (by decide) (by decide) (by rfl) (by rfl))) pd_int)) (fun _ _ => rfl))) (by decide) (by decide) (by rfl) (by rfl))) (by rfl) (by first | exact Or.inl rfl | exact Or.inr rfl))
    (ss_cons (s_setI (ps_asg (toD (pn_bin op_fdivW sem_floor (pd_name (pv 3)) (pd_name (pv 1)))) (pg_sub (pv 2) (toD (pn_bin op_sub sem_sub (toD (pn_b1 call_lenAny sem_len rfl T.z_len (by rfl) (pd_name (pv 2)) (by decide) (by decide) (by rfl) (by rfl))) pd_int)) set_list)))
    (ss_cons (s_if (pt_cmpD (op_eqD hr.units) sem_eq (toD (pn_bin op_fdivW sem_floor (pd_name (pv 3)) (pd_name (pv 1)))) pd_int (by rfl)) (ss_one (s_expr (toD (pn_pop0 (pe_bm0 PySem.F.plainAttrs_list PySem.F.slot_list_pop PySem.F.type_list_pop mt_pop (pv 2)))) (by rfl))) ss_nil)
    (ss_one (s_ret (pn_bin op_mod sem_mod (pd_name (pv 3)) (pd_name (pv 1)))))))) ss_nil)
    (ss_cons (s_setI (ps_asg (toD (pn_bin op_mod sem_mod (toD (pn_t1 call_int1 sem_toInt rfl T.z_int (by rfl) (toD (pn_bin op_addAny sem_add (toD (pn_bin op_addAny sem_add (toD (pn_bin op_mulW sem_mul (toD (pn_ixJ (pv 0) pd_int (fun _ _ => rfl))) pd_int)) (toD (pn_bin op_mulW sem_mul (toD (pn_ixJ (pv 0) pd_int (fun _ _ => rfl))) pd_int)))) pd_int)) (by decide) (by decide) (by rfl) (by rfl))) pd_int)) (pg_sub (pv 0) pd_int set_list)))
    (ss_one (s_ret (pn_bin op_mod sem_mod (toD (pn_t1 call_int1 sem_toInt rfl T.z_int (by rfl) (toD (pn_bin op_fdivW sem_floor (toD (pn_ixJ (pv 0) pd_int (fun _ _ => rfl))) pd_int)) (by decide) (by decide) (by rfl) (by rfl))) (pd_name (pv 1)))))))))
theorem sc_l_setting : FnScope ["chest", "many", "order", "pool", "s", "changes", "k", "t", "kind"] ["chest", "many"] (defScope s_l_setting) := ⟨rfl, rfl, rfl, by decide +kernel, rfl, by decide +kernel, by decide +kernel⟩
theorem ok_l_setting (T : Tx Pr K mg) : FnOk Pr w K mg base (L2.CX Pr w) 2 T.a_l_setting T.d_l_setting ["chest", "many"] (spF K (["chest", "many"] : List Str).length F_l_setting) :=
  fn_ok (k := 1) T.p_l_setting.F sc_l_setting fun cdv A outer s H E n0 hr => by
    have S := sc_l_setting
    exact (ss_cons (s_set (i := 2) S.nd rfl (by first | exact Or.inl rfl | exact Or.inr rfl) (toD (pn_lst (pi_consD pd_str (pi_consD pd_str (pi_consD pd_str (pi_consD pd_str pi_nilD (by rfl)) (by rfl)) (by rfl)) (by rfl)))) (by rfl) (by first | exact Or.inl rfl | exact Or.inr rfl))
    (ss_cons (s_new (i := 3) S.nd rfl (by first | exact Or.inl rfl | exact Or.inr rfl) (pn_lst pi_nilD) (by rfl) (by first | exact Or.inl rfl | exact Or.inr rfl))
    (ss_cons (s_for (passes_of rfl) rfl (pw_range1 rfl T.z_range (pd_name (pv 1)) (by rfl) (by rfl)) (pg_name (i := 4) S.nd rfl (by first | exact Or.inl rfl | exact Or.inr rfl)) tgok_name (ss_one (s_for (passes_of rfl) rfl (pw_range2 rfl T.z_range (pd_name (pv 4)) (pd_name (pv 1)) (by rfl) (by rfl) (by rfl) (by rfl)) (pg_name (i := 7) S.nd rfl (by first | exact Or.inl rfl | exact Or.inr rfl)) tgok_name (ss_one (s_new (i := 3) S.nd rfl (by first | exact Or.inl rfl | exact Or.inr rfl) (pn_bin op_addAny sem_add (toD (pn_bin op_addAny sem_add (pd_name (pv 3)) (toD (pn_lc (own := [("kind", 8)]) (t := (tgName 8)) (c := (bCmp dEq (eName 4) (eName 7))) rfl S.nd (pw_any (toD (pn_slice (pd_name (pv 2)) po_noneD (po_someD pd_int)))) (blkOk_by (N := ["chest", "many", "order", "pool", "s", "changes", "k", "t", "kind"]) (sc := defScope s_l_setting) (by decide +kernel)) (fun _ _ _ _ _ => (pg_name (i := 8) S.nd rfl (by first | exact Or.inl rfl | exact Or.inr rfl))) (fun _ _ _ _ _ => (pts_oneD (pt_cmpD (op_eqD hr.units) sem_eq (pd_name (pv 4)) (pd_name (pv 7)) (by rfl)))) (fun _ _ _ _ _ => (toD (pn_tup (pi_consD (pd_name (pv 8)) (pi_consD (pd_name (pv 4)) pi_nilD (by rfl)) (by rfl))))) tgok_name (tgin_name (by decide)) (fun _ => rfl))))) (toD (pn_lc (own := [("kind", 8)]) (t := (tgName 8)) (c := (bCmp dNe (eName 4) (eName 7))) rfl S.nd (pw_any (toD (pn_slice (pd_name (pv 2)) (po_someD pd_int) po_noneD))) (blkOk_by (N := ["chest", "many", "order", "pool", "s", "changes", "k", "t", "kind"]) (sc := defScope s_l_setting) (by decide +kernel)) (fun _ _ _ _ _ => (pg_name (i := 8) S.nd rfl (by first | exact Or.inl rfl | exact Or.inr rfl))) (fun _ _ _ _ _ => (pts_oneD (pt_cmpD (op_neD hr.units) sem_ne (pd_name (pv 4)) (pd_name (pv 7)) (by rfl)))) (fun _ _ _ _ _ => (toD (pn_tup (pi_consD (pd_name (pv 8)) (pi_consD (pd_name (pv 4)) (pi_consD (pd_name (pv 7)) pi_nilD (by rfl)) (by rfl)) (by rfl))))) tgok_name (tgin_name (by decide)) (fun _ => rfl)))) (by rfl) (by first | exact Or.inl rfl | exact Or.inr rfl))) (fun _ => rfl))) (fun _ => rfl))
    (ss_cons (s_new (i := 5) S.nd rfl (by first | exact Or.inl rfl | exact Or.inr rfl) (pn_lst pi_nilD) (by rfl) (by first | exact Or.inl rfl | exact Or.inr rfl))
    (ss_cons (s_for (passes_of rfl) rfl (pw_range1 rfl T.z_range (toD (pn_b2 (call_min2 rfl) sem_min rfl T.z_min (by rfl) (toD (pn_b1 call_lenAny sem_len rfl T.z_len (by rfl) (pd_name (pv 3)) (by decide) (by decide) (by rfl) (by rfl))) (toD (pn_ix ix_seq sem_ix (toD (pn_lst (pi_consD pd_int (pi_consD pd_int (pi_consD pd_int (pi_consD pd_int (pi_consD pd_int pi_nilD (by rfl)) (by rfl)) (by rfl)) (by rfl)) (by rfl)))) (toD (pn_call (ok_l_lift T) (takes_of rfl rfl rfl rfl) (hr.mono (by decide)) rfl T.p_l_lift.g T.p_l_lift.F.kp T.p_l_lift.b (ph_cons (pd_name (pv 0)) (ph_cons pd_int ph_nil (by rfl)) (by rfl)) (by rfl) (by decide) (by rfl) (by rfl))) (fun _ _ => rfl))) (by decide) (by decide) (by rfl) (by rfl) (by rfl))) (by rfl) (by rfl)) (pg_name (i := 6) S.nd rfl (by first | exact Or.inl rfl | exact Or.inr rfl)) tgok_name (ss_one (s_app (ps_expr (pe_bm PySem.F.plainAttrs_list PySem.F.slot_list_append PySem.F.type_list_append mt_append (pv 5) (pa_cons (toD (pn_pop (pe_bm PySem.F.plainAttrs_list PySem.F.slot_list_pop PySem.F.type_list_pop mt_popAt (pv 3) (pa_cons (toD (pn_call (ok_l_lift T) (takes_of rfl rfl rfl rfl) (hr.mono (by decide)) rfl T.p_l_lift.g T.p_l_lift.F.kp T.p_l_lift.b (ph_cons (pd_name (pv 0)) (ph_cons (toD (pn_b1 call_lenAny sem_len rfl T.z_len (by rfl) (pd_name (pv 3)) (by decide) (by decide) (by rfl) (by rfl))) ph_nil (by rfl)) (by rfl)) (by rfl) (by decide) (by rfl) (by rfl))) pa_nil)))) pa_nil))))) (fun _ => rfl))
    (ss_one (s_ret (pn_tup (pi_consD (toD (pn_t1 call_tuple_of sem_tuple rfl T.z_tuple (by rfl) (toD (pn_slice (toD (pn_lst (pi_consD pd_str (pi_consD pd_str (pi_consD pd_str (pi_consD pd_str (pi_consD pd_str pi_nilD (by rfl)) (by rfl)) (by rfl)) (by rfl)) (by rfl)))) po_noneD (po_someD (pd_name (pv 1))))) (by decide) (by decide) (by rfl) (by rfl))) (pi_consD (toD (pn_t1 call_tuple_of sem_tuple rfl T.z_tuple (by rfl) (pd_name (pv 5)) (by decide) (by decide) (by rfl) (by rfl))) pi_nilD (by rfl)) (by rfl))))))))))
theorem sc_l_row : FnScope ["chest", "many", "length", "k"] ["chest", "many", "length"] (defScope s_l_row) := ⟨rfl, rfl, rfl, by decide +kernel, rfl, by decide +kernel, by decide +kernel⟩
theorem ok_l_row (T : Tx Pr K mg) : FnOk Pr w K mg base (L2.CX Pr w) 2 T.a_l_row T.d_l_row ["chest", "many", "length"] (spF K (["chest", "many", "length"] : List Str).length F_l_row) :=
  fn_ok (k := 1) T.p_l_row.F sc_l_row fun cdv A outer s H E n0 hr => by
    have S := sc_l_row
    exact (ss_one (s_ret (pn_t1 call_tuple_of sem_tuple rfl T.z_tuple (by rfl) (toD (pn_lc (own := [("k", 3)]) (t := (tgName 3)) (c := bYes) rfl S.nd (pw_range1 rfl T.z_range (pd_name (pv 2)) (by rfl) (by rfl)) (blkOk_by (N := ["chest", "many", "length", "k"]) (sc := defScope s_l_row) (by decide +kernel)) (fun _ _ _ _ _ => (pg_name (i := 3) S.nd rfl (by first | exact Or.inl rfl | exact Or.inr rfl))) (fun _ _ _ _ _ => pts_yes) (fun _ _ _ _ _ => (toD (pn_call0 (ok_l_lift T) (hr.mono (by decide)) rfl T.p_l_lift.g T.p_l_lift.F.kp T.p_l_lift.b (ph_cons (pd_name (pv 0)) (ph_cons (pd_name (pv 1)) ph_nil (by rfl)) (by rfl)) (by rfl) (by decide) (by rfl) (by rfl)))) tgok_name (tgin_name (by decide)) (fun _ => rfl))) (by decide) (by decide) (by rfl) (by rfl))))
theorem sc_held_step : FnScope ["row", "sign", "place", "way"] ["row", "sign", "place", "way"] (defScope s_held_step) := ⟨rfl, rfl, rfl, by decide +kernel, rfl, by decide +kernel, by decide +kernel⟩
theorem ok_held_step (T : Tx Pr K mg) : FnOk Pr w K mg base (L2.CX Pr w) 1 T.a_held_step T.d_held_step ["row", "sign", "place", "way"] (spF K (["row", "sign", "place", "way"] : List Str).length F_held_step) :=
  fn_ok (k := 0) T.p_held_step.F sc_held_step fun cdv A outer s H E n0 hr => by
    have S := sc_held_step
    exact (ss_cons (s_if (PW.pt (pw_orD (pt_cmpD op_ge sem_ge (pd_name (pv 2)) (toD (pn_b1 call_lenAny sem_len rfl T.z_len (by rfl) (pd_name (pv 0)) (by decide) (by decide) (by rfl) (by rfl))) (by rfl)) (pw_or1 (pt_cmpD (op_neD hr.units) sem_ne (toD (pn_ix ix_seq sem_ix (pd_name (pv 0)) (pd_name (pv 2)) (fun _ _ => rfl))) (pd_name (pv 1)) (by rfl))))) (ss_one (s_ret (toN' pd_non))) ss_nil)
    (ss_cons (s_if (pt_cmpD (op_eqD hr.units) sem_eq (pd_name (pv 3)) pd_int (by rfl)) (ss_one (s_ret (pn_bin op_addAny sem_add (toD (pn_bin op_addAny sem_add (toD (pn_slice (pd_name (pv 0)) po_noneD (po_someD (pd_name (pv 2))))) (toD (pn_tup (pi_consD (pd_name (pv 1)) pi_nilD (by rfl)))))) (toD (pn_slice (pd_name (pv 0)) (po_someD (pd_name (pv 2))) po_noneD))))) ss_nil)
    (ss_cons (s_if (PW.pt (pw_orD (pt_cmpD op_ge sem_ge (toD (pn_bin op_addAny sem_add (pd_name (pv 2)) pd_int)) (toD (pn_b1 call_lenAny sem_len rfl T.z_len (by rfl) (pd_name (pv 0)) (by decide) (by decide) (by rfl) (by rfl))) (by rfl)) (pw_or1 (pt_cmpD (op_neD hr.units) sem_ne (toD (pn_ix ix_seq sem_ix (pd_name (pv 0)) (toD (pn_bin op_addAny sem_add (pd_name (pv 2)) pd_int)) (fun _ _ => rfl))) (pd_name (pv 1)) (by rfl))))) (ss_one (s_ret (toN' pd_non))) ss_nil)
    (ss_one (s_ret (pn_bin op_addAny sem_add (toD (pn_slice (pd_name (pv 0)) po_noneD (po_someD (pd_name (pv 2))))) (toD (pn_slice (pd_name (pv 0)) (po_someD (toD (pn_bin op_addAny sem_add (pd_name (pv 2)) pd_int))) po_noneD))))))))
theorem sc_idle_step : FnScope ["row", "sign", "place", "way"] ["row", "sign", "place", "way"] (defScope s_idle_step) := ⟨rfl, rfl, rfl, by decide +kernel, rfl, by decide +kernel, by decide +kernel⟩
theorem ok_idle_step (T : Tx Pr K mg) : FnOk Pr w K mg base (L2.CX Pr w) 1 T.a_idle_step T.d_idle_step ["row", "sign", "place", "way"] (spF K (["row", "sign", "place", "way"] : List Str).length F_idle_step) :=
  fn_ok (k := 0) T.p_idle_step.F sc_idle_step fun cdv A outer s H E n0 hr => by
    have S := sc_idle_step
    exact (ss_cons (s_if (pt_cmpD (op_eqD hr.units) sem_eq (pd_name (pv 3)) pd_int (by rfl)) (ss_one (s_ret (pn_if (pt_cmpD op_le sem_le (pd_name (pv 2)) (toD (pn_b1 call_lenAny sem_len rfl T.z_len (by rfl) (pd_name (pv 0)) (by decide) (by decide) (by rfl) (by rfl))) (by rfl)) (pn_bin op_addAny sem_add (toD (pn_bin op_addAny sem_add (toD (pn_slice (pd_name (pv 0)) po_noneD (po_someD (pd_name (pv 2))))) (toD (pn_tup (pi_consD (pd_name (pv 1)) pi_nilD (by rfl)))))) (toD (pn_slice (pd_name (pv 0)) (po_someD (pd_name (pv 2))) po_noneD))) (toN' pd_non)))) ss_nil)
    (ss_cons (s_if (PW.pt (pw_orD (pt_cmpD op_ge sem_ge (pd_name (pv 2)) (toD (pn_b1 call_lenAny sem_len rfl T.z_len (by rfl) (pd_name (pv 0)) (by decide) (by decide) (by rfl) (by rfl))) (by rfl)) (pw_or1 (pt_cmpD (op_neD hr.units) sem_ne (toD (pn_ix ix_seq sem_ix (pd_name (pv 0)) (pd_name (pv 2)) (fun _ _ => rfl))) (pd_name (pv 1)) (by rfl))))) (ss_one (s_ret (toN' pd_non))) ss_nil)
    (ss_one (s_ret (pn_bin op_addAny sem_add (toD (pn_slice (pd_name (pv 0)) po_noneD (po_someD (pd_name (pv 2))))) (toD (pn_slice (pd_name (pv 0)) (po_someD (toD (pn_bin op_addAny sem_add (pd_name (pv 2)) pd_int))) po_noneD)))))))
theorem sc_loose_step : FnScope ["row", "one", "other", "place", "way", "first", "last"] ["row", "one", "other", "place", "way"] (defScope s_loose_step) := ⟨rfl, rfl, rfl, by decide +kernel, rfl, by decide +kernel, by decide +kernel⟩
theorem ok_loose_step (T : Tx Pr K mg) : FnOk Pr w K mg base (L2.CX Pr w) 1 T.a_loose_step T.d_loose_step ["row", "one", "other", "place", "way"] (spF K (["row", "one", "other", "place", "way"] : List Str).length F_loose_step) :=
  fn_ok (k := 0) T.p_loose_step.F sc_loose_step fun cdv A outer s H E n0 hr => by
    have S := sc_loose_step
    exact (ss_cons (s_asg (tgok_any (tgsok_cons (i := 5) (tgsok_cons (i := 6) tgsok_nil)) rfl) (ps_asg (toD (pn_if (pt_cmpD (op_eqD hr.units) sem_eq (pd_name (pv 4)) pd_int (by rfl)) (pn_tup (pi_consD (pd_name (pv 1)) (pi_consD (pd_name (pv 2)) pi_nilD (by rfl)) (by rfl))) (pn_tup (pi_consD (pd_name (pv 2)) (pi_consD (pd_name (pv 1)) pi_nilD (by rfl)) (by rfl))))) (pg_any (n := 2) rfl (pgs_cons (pg_name (i := 5) S.nd rfl (by first | exact Or.inl rfl | exact Or.inr rfl)) (pgs_cons (pg_name (i := 6) S.nd rfl (by first | exact Or.inl rfl | exact Or.inr rfl)) pgs_nil)))))
    (ss_cons (s_if (pt_cmpD (op_neD hr.units) sem_ne (toD (pn_slice (pd_name (pv 0)) (po_someD (pd_name (pv 3))) (po_someD (toD (pn_bin op_addAny sem_add (pd_name (pv 3)) pd_int))))) (toD (pn_tup (pi_consD (pd_name (pv 5)) (pi_consD (pd_name (pv 6)) pi_nilD (by rfl)) (by rfl)))) (by rfl)) (ss_one (s_ret (toN' pd_non))) ss_nil)
    (ss_one (s_ret (pn_bin op_addAny sem_add (toD (pn_bin op_addAny sem_add (toD (pn_slice (pd_name (pv 0)) po_noneD (po_someD (pd_name (pv 3))))) (toD (pn_tup (pi_consD (pd_name (pv 6)) (pi_consD (pd_name (pv 5)) pi_nilD (by rfl)) (by rfl)))))) (toD (pn_slice (pd_name (pv 0)) (po_someD (toD (pn_bin op_addAny sem_add (pd_name (pv 3)) pd_int))) po_noneD)))))))
theorem sc_same_step : FnScope ["row", "one", "other", "place", "way", "first", "last"] ["row", "one", "other", "place", "way"] (defScope s_same_step) := ⟨rfl, rfl, rfl, by decide +kernel, rfl, by decide +kernel, by decide +kernel⟩
theorem ok_same_step (T : Tx Pr K mg) : FnOk Pr w K mg base (L2.CX Pr w) 1 T.a_same_step T.d_same_step ["row", "one", "other", "place", "way"] (spF K (["row", "one", "other", "place", "way"] : List Str).length F_same_step) :=
  fn_ok (k := 0) T.p_same_step.F sc_same_step fun cdv A outer s H E n0 hr => by
    have S := sc_same_step
    exact (ss_cons (s_asg (tgok_any (tgsok_cons (i := 5) (tgsok_cons (i := 6) tgsok_nil)) rfl) (ps_asg (toD (pn_if (pt_cmpD (op_eqD hr.units) sem_eq (pd_name (pv 4)) pd_int (by rfl)) (pn_tup (pi_consD (pd_name (pv 1)) (pi_consD (pd_name (pv 2)) pi_nilD (by rfl)) (by rfl))) (pn_tup (pi_consD (pd_name (pv 2)) (pi_consD (pd_name (pv 1)) pi_nilD (by rfl)) (by rfl))))) (pg_any (n := 2) rfl (pgs_cons (pg_name (i := 5) S.nd rfl (by first | exact Or.inl rfl | exact Or.inr rfl)) (pgs_cons (pg_name (i := 6) S.nd rfl (by first | exact Or.inl rfl | exact Or.inr rfl)) pgs_nil)))))
    (ss_cons (s_if (PW.pt (pw_orD (pt_cmpD op_ge sem_ge (pd_name (pv 3)) (toD (pn_b1 call_lenAny sem_len rfl T.z_len (by rfl) (pd_name (pv 0)) (by decide) (by decide) (by rfl) (by rfl))) (by rfl)) (pw_or1 (pt_cmpD (op_neD hr.units) sem_ne (toD (pn_ix ix_seq sem_ix (pd_name (pv 0)) (pd_name (pv 3)) (fun _ _ => rfl))) (pd_name (pv 5)) (by rfl))))) (ss_one (s_ret (toN' pd_non))) ss_nil)
    (ss_one (s_ret (pn_bin op_addAny sem_add (toD (pn_bin op_addAny sem_add (toD (pn_slice (pd_name (pv 0)) po_noneD (po_someD (pd_name (pv 3))))) (toD (pn_tup (pi_consD (pd_name (pv 6)) pi_nilD (by rfl)))))) (toD (pn_slice (pd_name (pv 0)) (po_someD (toD (pn_bin op_addAny sem_add (pd_name (pv 3)) pd_int))) po_noneD)))))))
theorem sc_stepped : FnScope ["setting", "row", "step", "change", "number", "place", "way"] ["setting", "row", "step"] (defScope s_stepped) := ⟨rfl, rfl, rfl, by decide +kernel, rfl, by decide +kernel, by decide +kernel⟩
theorem ok_stepped (T : Tx Pr K mg) : FnOk Pr w K mg base (L2.CX Pr w) 2 T.a_stepped T.d_stepped ["setting", "row", "step"] (spF K (["setting", "row", "step"] : List Str).length F_stepped) :=
  fn_ok (k := 1) T.p_stepped.F sc_stepped fun cdv A outer s H E n0 hr => by
    have S := sc_stepped
    exact (ss_cons (s_asg (tgok_any (tgsok_cons (i := 4) (tgsok_cons (i := 5) (tgsok_cons (i := 6) tgsok_nil))) rfl) (ps_asg (pd_name (pv 2)) (pg_any (n := 3) rfl (pgs_cons (pg_name (i := 4) S.nd rfl (by first | exact Or.inl rfl | exact Or.inr rfl)) (pgs_cons (pg_name (i := 5) S.nd rfl (by first | exact Or.inl rfl | exact Or.inr rfl)) (pgs_cons (pg_name (i := 6) S.nd rfl (by first | exact Or.inl rfl | exact Or.inr rfl)) pgs_nil))))))
    (ss_cons (s_set (i := 3) S.nd rfl (by first | exact Or.inl rfl | exact Or.inr rfl) (toD (pn_ix ix_seq sem_ix (toD (pn_ix ix_seq sem_ix (pd_name (pv 0)) pd_int (fun _ _ => rfl))) (pd_name (pv 4)) (fun _ _ => rfl))) (by rfl) (by first | exact Or.inl rfl | exact Or.inr rfl))
    (ss_cons (s_if (pt_cmpD (op_eqD hr.units) sem_eq (toD (pn_ix ix_seq sem_ix (pd_name (pv 3)) pd_int (fun _ _ => rfl))) pd_str (by rfl)) (ss_one (s_ret (pn_call (ok_held_step T) (takes_of rfl rfl rfl rfl) (hr.mono (by decide)) rfl T.p_held_step.g T.p_held_step.F.kp T.p_held_step.b (ph_cons (pd_name (pv 1)) (ph_cons (toD (pn_ix ix_seq sem_ix (pd_name (pv 3)) pd_int (fun _ _ => rfl))) (ph_cons (pd_name (pv 5)) (ph_cons (pd_name (pv 6)) ph_nil (by rfl)) (by rfl)) (by rfl)) (by rfl)) (by rfl) (by decide) (by rfl) (by rfl)))) ss_nil)
    (ss_cons (s_if (pt_cmpD (op_eqD hr.units) sem_eq (toD (pn_ix ix_seq sem_ix (pd_name (pv 3)) pd_int (fun _ _ => rfl))) pd_str (by rfl)) (ss_one (s_ret (pn_call (ok_idle_step T) (takes_of rfl rfl rfl rfl) (hr.mono (by decide)) rfl T.p_idle_step.g T.p_idle_step.F.kp T.p_idle_step.b (ph_cons (pd_name (pv 1)) (ph_cons (toD (pn_ix ix_seq sem_ix (pd_name (pv 3)) pd_int (fun _ _ => rfl))) (ph_cons (pd_name (pv 5)) (ph_cons (pd_name (pv 6)) ph_nil (by rfl)) (by rfl)) (by rfl)) (by rfl)) (by rfl) (by decide) (by rfl) (by rfl)))) ss_nil)
    (ss_cons (s_if (pt_cmpD (op_eqD hr.units) sem_eq (toD (pn_ix ix_seq sem_ix (pd_name (pv 3)) pd_int (fun _ _ => rfl))) pd_str (by rfl)) (ss_one (s_ret (pn_call (ok_loose_step T) (takes_of rfl rfl rfl rfl) (hr.mono (by decide)) rfl T.p_loose_step.g T.p_loose_step.F.kp T.p_loose_step.b (ph_cons (pd_name (pv 1)) (ph_cons (toD (pn_ix ix_seq sem_ix (pd_name (pv 3)) pd_int (fun _ _ => rfl))) (ph_cons (toD (pn_ix ix_seq sem_ix (pd_name (pv 3)) pd_int (fun _ _ => rfl))) (ph_cons (pd_name (pv 5)) (ph_cons (pd_name (pv 6)) ph_nil (by rfl)) (by rfl)) (by rfl)) (by rfl)) (by rfl)) (by rfl) (by decide) (by rfl) (by rfl)))) ss_nil)
    (ss_one (s_ret (pn_call (ok_same_step T) (takes_of rfl rfl rfl rfl) (hr.mono (by decide)) rfl T.p_same_step.g T.p_same_step.F.kp T.p_same_step.b (ph_cons (pd_name (pv 1)) (ph_cons (toD (pn_ix ix_seq sem_ix (pd_name (pv 3)) pd_int (fun _ _ => rfl))) (ph_cons (toD (pn_ix ix_seq sem_ix (pd_name (pv 3)) pd_int (fun _ _ => rfl))) (ph_cons (pd_name (pv 5)) (ph_cons (pd_name (pv 6)) ph_nil (by rfl)) (by rfl)) (by rfl)) (by rfl)) (by rfl)) (by rfl) (by decide) (by rfl) (by rfl)))))))))
theorem sc_run_steps : FnScope ["setting", "row", "steps", "found", "at", "step"] ["setting", "row", "steps"] (defScope s_run_steps) := ⟨rfl, rfl, rfl, by decide +kernel, rfl, by decide +kernel, by decide +kernel⟩
theorem ok_run_steps (T : Tx Pr K mg) : FnOk Pr w K mg base (L2.CX Pr w) 3 T.a_run_steps T.d_run_steps ["setting", "row", "steps"] (spF K (["setting", "row", "steps"] : List Str).length F_run_steps) :=
  fn_ok (k := 2) T.p_run_steps.F sc_run_steps fun cdv A outer s H E n0 hr => by
    have S := sc_run_steps
    exact (ss_cons (s_new (i := 3) S.nd rfl (by first | exact Or.inl rfl | exact Or.inr rfl) (pn_lst (pi_consD (pd_name (pv 1)) pi_nilD (by rfl))) (by rfl) (by first | exact Or.inl rfl | exact Or.inr rfl))
    (ss_cons (s_for (passes_of rfl) rfl (pw_enum rfl T.z_enumerate (pd_name (pv 2)) (by rfl)) (pg_any (n := 2) rfl (pgs_cons (pg_name (i := 4) S.nd rfl (by first | exact Or.inl rfl | exact Or.inr rfl)) (pgs_cons (pg_name (i := 5) S.nd rfl (by first | exact Or.inl rfl | exact Or.inr rfl)) pgs_nil))) (tgok_any (tgsok_cons (i := 4) (tgsok_cons (i := 5) tgsok_nil)) rfl) (ss_cons (s_set (i := 1) S.nd rfl (by first | exact Or.inl rfl | exact Or.inr rfl) (toD (pn_call (ok_stepped T) (takes_of rfl rfl rfl rfl) (hr.mono (by decide)) rfl T.p_stepped.g T.p_stepped.F.kp T.p_stepped.b (ph_cons (pd_name (pv 0)) (ph_cons (pd_name (pv 1)) (ph_cons (pd_name (pv 5)) ph_nil (by rfl)) (by rfl)) (by rfl)) (by rfl) (by decide) (by rfl) (by rfl))) (by rfl) (by first | exact Or.inl rfl | exact Or.inr rfl))
    (ss_cons (s_if (pt_isN (pd_name (pv 1))) (ss_one (s_raise_at T.sx_BadPath T.fn_BadPath T.n_BadPath hr (takes_of rfl rfl rfl rfl) rfl (pi_consD (pd_name (pv 4)) pi_nilD (by rfl)) (by rfl) (by decide) (by rfl) (by rfl))) ss_nil)
    (ss_one (s_app (ps_expr (pe_bm PySem.F.plainAttrs_list PySem.F.slot_list_append PySem.F.type_list_append mt_append (pv 3) (pa_cons (pd_name (pv 1)) pa_nil))))))) (fun _ => rfl))
    (ss_one (s_ret (pn_t1 call_tuple_of sem_tuple rfl T.z_tuple (by rfl) (pd_name (pv 3)) (by decide) (by decide) (by rfl) (by rfl))))))
theorem kb_run_steps_setting_row_steps (T : Tx Pr K mg) : KBinds K T.d_run_steps ["setting", "row", "steps"] ["setting", "row", "steps"] (fun us ws => if us.isEmpty then permute [0, 1, 2] ws else []) (fun us ws => if us.isEmpty then permute [0, 1, 2] ws else []) :=
  kbinds_mk T.p_run_steps.F (fun kV doc pm an cdv ct ws hl => by
    rcases ws with _ | ⟨x, _ | ⟨x, _ | ⟨x, r⟩⟩⟩
    · simp [permute] at hl
    · simp [permute] at hl
    · simp [permute] at hl
    · rfl) (by simp)
theorem sc_l_hear : FnScope ["setting", "row", "number", "place", "way", "change", "before", "behind"] ["setting", "row", "number", "place", "way"] (defScope s_l_hear) := ⟨rfl, rfl, rfl, by decide +kernel, rfl, by decide +kernel, by decide +kernel⟩
theorem ok_l_hear (T : Tx Pr K mg) : FnOk Pr w K mg base (L2.CX Pr w) 1 T.a_l_hear T.d_l_hear ["setting", "row", "number", "place", "way"] (spF K (["setting", "row", "number", "place", "way"] : List Str).length F_l_hear) :=
  fn_ok (k := 0) T.p_l_hear.F sc_l_hear fun cdv A outer s H E n0 hr => by
    have S := sc_l_hear
    exact (ss_cons (s_set (i := 5) S.nd rfl (by first | exact Or.inl rfl | exact Or.inr rfl) (toD (pn_ix ix_seq sem_ix (toD (pn_ix ix_seq sem_ix (pd_name (pv 0)) pd_int (fun _ _ => rfl))) (pd_name (pv 2)) (fun _ _ => rfl))) (by rfl) (by first | exact Or.inl rfl | exact Or.inr rfl))
    (ss_cons (s_if (pt_cmpD (op_eqD hr.units) sem_eq (toD (pn_ix ix_seq sem_ix (pd_name (pv 5)) pd_int (fun _ _ => rfl))) pd_str (by rfl)) (ss_cons (s_set (i := 6) S.nd rfl (by first | exact Or.inl rfl | exact Or.inr rfl) (toD (pn_if (pt_cmpD (op_eqD hr.units) sem_eq (pd_name (pv 4)) pd_int (by rfl)) (pn_tup pi_nilD) (pn_tup (pi_consD (toD (pn_ix ix_seq sem_ix (pd_name (pv 5)) pd_int (fun _ _ => rfl))) pi_nilD (by rfl))))) (by rfl) (by first | exact Or.inl rfl | exact Or.inr rfl))
    (ss_one (s_set (i := 7) S.nd rfl (by first | exact Or.inl rfl | exact Or.inr rfl) (toD (pn_if (pt_cmpD (op_eqD hr.units) sem_eq (pd_name (pv 4)) pd_int (by rfl)) (pn_tup (pi_consD (toD (pn_ix ix_seq sem_ix (pd_name (pv 5)) pd_int (fun _ _ => rfl))) pi_nilD (by rfl))) (pn_tup pi_nilD))) (by rfl) (by first | exact Or.inl rfl | exact Or.inr rfl)))) (ss_one (s_if (pt_cmpD (op_eqD hr.units) sem_eq (toD (pn_ix ix_seq sem_ix (pd_name (pv 5)) pd_int (fun _ _ => rfl))) pd_str (by rfl)) (ss_cons (s_set (i := 6) S.nd rfl (by first | exact Or.inl rfl | exact Or.inr rfl) (toD (pn_bin op_repTW sem_repT (toD (pn_tup (pi_consD (toD (pn_ix ix_seq sem_ix (pd_name (pv 5)) pd_int (fun _ _ => rfl))) pi_nilD (by rfl)))) (toD (pn_bin op_sub sem_sub pd_int (pd_name (pv 4)))))) (by rfl) (by first | exact Or.inl rfl | exact Or.inr rfl))
    (ss_one (s_set (i := 7) S.nd rfl (by first | exact Or.inl rfl | exact Or.inr rfl) (toD (pn_bin op_repTW sem_repT (toD (pn_tup (pi_consD (toD (pn_ix ix_seq sem_ix (pd_name (pv 5)) pd_int (fun _ _ => rfl))) pi_nilD (by rfl)))) (toD (pn_bin op_addAny sem_add pd_int (pd_name (pv 4)))))) (by rfl) (by first | exact Or.inl rfl | exact Or.inr rfl)))) (ss_one (s_if (pt_cmpD (op_eqD hr.units) sem_eq (toD (pn_ix ix_seq sem_ix (pd_name (pv 5)) pd_int (fun _ _ => rfl))) pd_str (by rfl)) (ss_cons (s_set (i := 6) S.nd rfl (by first | exact Or.inl rfl | exact Or.inr rfl) (toD (pn_tup (pi_consD (toD (pn_ix ix_seq sem_ix (pd_name (pv 5)) (toD (pn_bin op_sub sem_sub pd_int (pd_name (pv 4)))) (fun _ _ => rfl))) pi_nilD (by rfl)))) (by rfl) (by first | exact Or.inl rfl | exact Or.inr rfl))
    (ss_one (s_set (i := 7) S.nd rfl (by first | exact Or.inl rfl | exact Or.inr rfl) (toD (pn_tup (pi_consD (toD (pn_ix ix_seq sem_ix (pd_name (pv 5)) (toD (pn_bin op_addAny sem_add pd_int (pd_name (pv 4)))) (fun _ _ => rfl))) pi_nilD (by rfl)))) (by rfl) (by first | exact Or.inl rfl | exact Or.inr rfl)))) (ss_cons (s_set (i := 6) S.nd rfl (by first | exact Or.inl rfl | exact Or.inr rfl) (toD (pn_tup (pi_consD (toD (pn_ix ix_seq sem_ix (pd_name (pv 5)) (toD (pn_bin op_sub sem_sub pd_int (pd_name (pv 4)))) (fun _ _ => rfl))) (pi_consD (toD (pn_ix ix_seq sem_ix (pd_name (pv 5)) (toD (pn_bin op_addAny sem_add pd_int (pd_name (pv 4)))) (fun _ _ => rfl))) pi_nilD (by rfl)) (by rfl)))) (by rfl) (by first | exact Or.inl rfl | exact Or.inr rfl))
    (ss_one (s_set (i := 7) S.nd rfl (by first | exact Or.inl rfl | exact Or.inr rfl) (toD (pn_tup (pi_consD (toD (pn_ix ix_seq sem_ix (pd_name (pv 5)) (toD (pn_bin op_addAny sem_add pd_int (pd_name (pv 4)))) (fun _ _ => rfl))) (pi_consD (toD (pn_ix ix_seq sem_ix (pd_name (pv 5)) (toD (pn_bin op_sub sem_sub pd_int (pd_name (pv 4)))) (fun _ _ => rfl))) pi_nilD (by rfl)) (by rfl)))) (by rfl) (by first | exact Or.inl rfl | exact Or.inr rfl)))))))))
    (ss_cons (s_if (PW.pt (pw_orD (pt_cmpD op_gt sem_gt (pd_name (pv 3)) (toD (pn_b1 call_lenAny sem_len rfl T.z_len (by rfl) (pd_name (pv 1)) (by decide) (by decide) (by rfl) (by rfl))) (by rfl)) (pw_or1 (pt_cmpD (op_neD hr.units) sem_ne (toD (pn_slice (pd_name (pv 1)) (po_someD (pd_name (pv 3))) (po_someD (toD (pn_bin op_addAny sem_add (pd_name (pv 3)) (toD (pn_b1 call_lenAny sem_len rfl T.z_len (by rfl) (pd_name (pv 6)) (by decide) (by decide) (by rfl) (by rfl)))))))) (pd_name (pv 6)) (by rfl))))) (ss_one (s_ret (toN' pd_non))) ss_nil)
    (ss_one (s_ret (pn_bin op_addAny sem_add (toD (pn_bin op_addAny sem_add (toD (pn_slice (pd_name (pv 1)) po_noneD (po_someD (pd_name (pv 3))))) (pd_name (pv 7)))) (toD (pn_slice (pd_name (pv 1)) (po_someD (toD (pn_bin op_addAny sem_add (pd_name (pv 3)) (toD (pn_b1 call_lenAny sem_len rfl T.z_len (by rfl) (pd_name (pv 6)) (by decide) (by decide) (by rfl) (by rfl)))))) po_noneD))))))))
theorem sc_l_leads : FnScope ["setting", "row", "steps", "rows", "step"] ["setting", "row", "steps"] (defScope s_l_leads) := ⟨rfl, rfl, rfl, by decide +kernel, rfl, by decide +kernel, by decide +kernel⟩
theorem ok_l_leads (T : Tx Pr K mg) : FnOk Pr w K mg base (L2.CX Pr w) 2 T.a_l_leads T.d_l_leads ["setting", "row", "steps"] (spF K (["setting", "row", "steps"] : List Str).length F_l_leads) :=
  fn_ok (k := 1) T.p_l_leads.F sc_l_leads fun cdv A outer s H E n0 hr => by
    have S := sc_l_leads
    exact (ss_cons (s_new (i := 3) S.nd rfl (by first | exact Or.inl rfl | exact Or.inr rfl) (pn_lst (pi_consD (pd_name (pv 1)) pi_nilD (by rfl))) (by rfl) (by first | exact Or.inl rfl | exact Or.inr rfl))
    (ss_cons (s_for (passes_of rfl) rfl (pw_any (pd_name (pv 2))) (pg_name (i := 4) S.nd rfl (by first | exact Or.inl rfl | exact Or.inr rfl)) tgok_name (ss_cons (s_set (i := 1) S.nd rfl (by first | exact Or.inl rfl | exact Or.inr rfl) (toD (pn_call (ok_l_hear T) (takes_of rfl rfl rfl rfl) (hr.mono (by decide)) rfl T.p_l_hear.g T.p_l_hear.F.kp T.p_l_hear.b (ph_cons (pd_name (pv 0)) (ph_cons (pd_name (pv 1)) (ph_cons (toD (pn_ix ix_seq sem_ix (pd_name (pv 4)) pd_int (fun _ _ => rfl))) (ph_cons (toD (pn_ix ix_seq sem_ix (pd_name (pv 4)) pd_int (fun _ _ => rfl))) (ph_cons (toD (pn_ix ix_seq sem_ix (pd_name (pv 4)) pd_int (fun _ _ => rfl))) ph_nil (by rfl)) (by rfl)) (by rfl)) (by rfl)) (by rfl)) (by rfl) (by decide) (by rfl) (by rfl))) (by rfl) (by first | exact Or.inl rfl | exact Or.inr rfl))
    (ss_cons (s_if (pt_isN (pd_name (pv 1))) (ss_one s_break) ss_nil)
    (ss_one (s_app (ps_expr (pe_bm PySem.F.plainAttrs_list PySem.F.slot_list_append PySem.F.type_list_append mt_append (pv 3) (pa_cons (pd_name (pv 1)) pa_nil))))))) (fun _ => rfl))
    (ss_one (s_ret (toN' (pd_name (pv 3)))))))
theorem sc_l_row_is : FnScope ["told", "due", "k"] ["told", "due"] (defScope s_l_row_is) := ⟨rfl, rfl, rfl, by decide +kernel, rfl, by decide +kernel, by decide +kernel⟩
theorem ok_l_row_is (T : Tx Pr K mg) : FnOk Pr w K mg base (L2.CX Pr w) 1 T.a_l_row_is T.d_l_row_is ["told", "due"] (spF K (["told", "due"] : List Str).length F_l_row_is) :=
  fn_ok (k := 0) T.p_l_row_is.F sc_l_row_is fun cdv A outer s H E n0 hr => by
    have S := sc_l_row_is
    exact (ss_cons (s_if (PW.pt (pw_orD (pt_notD (pt_truthD (toD (pn_isi call_isi (sem_isa isa_tuple) rfl T.z_isinstance (by rfl) (pd_name (pv 0)) (pe_bltn rfl T.z_tuple (by rfl) rfl) (by decide) (by decide) (by rfl) (by rfl) (by rfl))) (fun _ => rfl))) (pw_or1 (pt_cmpD (op_neD hr.units) sem_ne (toD (pn_b1 call_lenAny sem_len rfl T.z_len (by rfl) (pd_name (pv 0)) (by decide) (by decide) (by rfl) (by rfl))) (toD (pn_b1 call_lenAny sem_len rfl T.z_len (by rfl) (pd_name (pv 1)) (by decide) (by decide) (by rfl) (by rfl))) (by rfl))))) (ss_one (s_ret (toN' pd_bl))) ss_nil)
    (ss_cons (s_for (passes_of rfl) rfl (pw_range1 rfl T.z_range (toD (pn_b1 call_lenAny sem_len rfl T.z_len (by rfl) (pd_name (pv 1)) (by decide) (by decide) (by rfl) (by rfl))) (by rfl) (by rfl)) (pg_name (i := 2) S.nd rfl (by first | exact Or.inl rfl | exact Or.inr rfl)) tgok_name (ss_one (s_if (PW.pt (pw_orD (pt_notD (pt_truthD (toD (pn_isi call_isi (sem_isa isa_int) rfl T.z_isinstance (by rfl) (toD (pn_ix ix_seq sem_ix (pd_name (pv 0)) (pd_name (pv 2)) (fun _ _ => rfl))) (pe_bltn rfl T.z_int (by rfl) rfl) (by decide) (by decide) (by rfl) (by rfl) (by rfl))) (fun _ => rfl))) (pw_orD (pt_truthD (toD (pn_isi call_isi (sem_isa isa_bool) rfl T.z_isinstance (by rfl) (toD (pn_ix ix_seq sem_ix (pd_name (pv 0)) (pd_name (pv 2)) (fun _ _ => rfl))) (pe_bltn rfl T.z_bool (by rfl) rfl) (by decide) (by decide) (by rfl) (by rfl) (by rfl))) (fun _ => rfl)) (pw_or1 (pt_cmpD (op_neD hr.units) sem_ne (toD (pn_ix ix_seq sem_ix (pd_name (pv 0)) (pd_name (pv 2)) (fun _ _ => rfl))) (toD (pn_ix ix_seq sem_ix (pd_name (pv 1)) (pd_name (pv 2)) (fun _ _ => rfl))) (by rfl)))))) (ss_one (s_ret (toN' pd_bl))) ss_nil)) (fun _ => rfl))
    (ss_one (s_ret (toN' pd_bl)))))
theorem sc_l_rows_are : FnScope ["told", "due", "k"] ["told", "due"] (defScope s_l_rows_are) := ⟨rfl, rfl, rfl, by decide +kernel, rfl, by decide +kernel, by decide +kernel⟩
theorem ok_l_rows_are (T : Tx Pr K mg) : FnOk Pr w K mg base (L2.CX Pr w) 2 T.a_l_rows_are T.d_l_rows_are ["told", "due"] (spF K (["told", "due"] : List Str).length F_l_rows_are) :=
  fn_ok (k := 1) T.p_l_rows_are.F sc_l_rows_are fun cdv A outer s H E n0 hr => by
    have S := sc_l_rows_are
    exact (ss_cons (s_if (PW.pt (pw_orD (pt_notD (pt_truthD (toD (pn_isi call_isi (sem_isa isa_tuple) rfl T.z_isinstance (by rfl) (pd_name (pv 0)) (pe_bltn rfl T.z_tuple (by rfl) rfl) (by decide) (by decide) (by rfl) (by rfl) (by rfl))) (fun _ => rfl))) (pw_or1 (pt_cmpD (op_neD hr.units) sem_ne (toD (pn_b1 call_lenAny sem_len rfl T.z_len (by rfl) (pd_name (pv 0)) (by decide) (by decide) (by rfl) (by rfl))) (toD (pn_b1 call_lenAny sem_len rfl T.z_len (by rfl) (pd_name (pv 1)) (by decide) (by decide) (by rfl) (by rfl))) (by rfl))))) (ss_one (s_ret (toN' pd_bl))) ss_nil)
    (ss_cons (s_for (passes_of rfl) rfl (pw_range1 rfl T.z_range (toD (pn_b1 call_lenAny sem_len rfl T.z_len (by rfl) (pd_name (pv 1)) (by decide) (by decide) (by rfl) (by rfl))) (by rfl) (by rfl)) (pg_name (i := 2) S.nd rfl (by first | exact Or.inl rfl | exact Or.inr rfl)) tgok_name (ss_one (s_if (pt_notD (pt_truthD (toD (pn_call (ok_l_row_is T) (takes_of rfl rfl rfl rfl) (hr.mono (by decide)) rfl T.p_l_row_is.g T.p_l_row_is.F.kp T.p_l_row_is.b (ph_cons (toD (pn_ix ix_seq sem_ix (pd_name (pv 0)) (pd_name (pv 2)) (fun _ _ => rfl))) (ph_cons (toD (pn_ix ix_seq sem_ix (pd_name (pv 1)) (pd_name (pv 2)) (fun _ _ => rfl))) ph_nil (by rfl)) (by rfl)) (by rfl) (by decide) (by rfl) (by rfl))) (fun _ => rfl))) (ss_one (s_ret (toN' pd_bl))) ss_nil)) (fun _ => rfl))
    (ss_one (s_ret (toN' pd_bl)))))
theorem sc_l_runs : FnScope ["setting", "row", "steps", "named", "rows", "told", "e"] ["setting", "row", "steps", "named"] (defScope s_l_runs) := ⟨rfl, rfl, rfl, by decide +kernel, rfl, by decide +kernel, by decide +kernel⟩
theorem ok_l_runs (T : Tx Pr K mg) : FnOk Pr w K mg base (L2.CX Pr w) 4 T.a_l_runs T.d_l_runs ["setting", "row", "steps", "named"] (spF K (["setting", "row", "steps", "named"] : List Str).length F_l_runs) :=
  fn_ok (k := 3) T.p_l_runs.F sc_l_runs fun cdv A outer s H E n0 hr => by
    have S := sc_l_runs
    exact (ss_cons (s_set (i := 4) S.nd rfl (by first | exact Or.inl rfl | exact Or.inr rfl) (toD (pn_call (ok_l_leads T) (takes_of rfl rfl rfl rfl) (hr.mono (by decide)) rfl T.p_l_leads.g T.p_l_leads.F.kp T.p_l_leads.b (ph_cons (pd_name (pv 0)) (ph_cons (pd_name (pv 1)) (ph_cons (pd_name (pv 2)) ph_nil (by rfl)) (by rfl)) (by rfl)) (by rfl) (by decide) (by rfl) (by rfl))) (by rfl) (by first | exact Or.inl rfl | exact Or.inr rfl))
    (ss_cons (s_try (M := excM) (cs := [((.ref T.c_BadPath : Value), "BadPath", (some 6), fun c fs => (sFor1 "BadPath" c (sSeq (sIf (bOr (bTruth (eIsET isM 6 ["BadStep", "DataError", "TextError", "AskError"] c)) (bNot (bTruth (eIsE isM 6 "CallError" c)))) (sRet (eNorm (eC (.bl false)))) sNext)
  (sSeq (sIf (bOr (bNot (bTruth (eIsE isM 6 "ValueError" c))) (bOr (bNot (bTruth (eUn (dIsa "int") (eFld 6 "at" fs)))) (bTruth (eUn (dIsa "bool") (eFld 6 "at" fs))))) (sRet (eNorm (eC (.bl false)))) sNext)
  (sRet (eAnd (eBin dLe (eUn dLen (eName 4)) (eUn dLen (eName 2))) (eBin dEq (eFld 6 "at" fs) (eBin dSub (eUn dLen (eName 4)) (eC (.int 1)))))))))), ((.ref T.c_HeardError : Value), "HeardError", none, fun c fs => (sRet (eNorm (eC (.bl false)))))]) rfl rfl (takes_of rfl rfl rfl rfl) S.nd (fun W pn xe tk hp => (ss_one (s_set (i := 5) S.nd rfl (by first | exact Or.inl rfl | exact Or.inr rfl) (toD (pn_if (pt_truthD (pd_name (pv 3)) (fun _ => rfl)) (pn_callKS (ok_run_steps T) tk (hr.mono (by decide)) rfl T.p_run_steps.g T.p_run_steps.F.kp (kb_run_steps_setting_row_steps T) (pk_consD (pd_name (pv 0)) (pk_consD (pd_name (pv 1)) (pk_consD (pd_name (pv 2)) pk_nilD))) (by decide) (by rfl) (by rfl) (by rfl) (by decide) (by rfl)) (pn_call (ok_run_steps T) tk (hr.mono (by decide)) rfl T.p_run_steps.g T.p_run_steps.F.kp T.p_run_steps.b (ph_cons (pd_name (pv 0)) (ph_cons (pd_name (pv 1)) (ph_cons (pd_name (pv 2)) ph_nil (by rfl)) (by rfl)) (by rfl)) (by rfl) (by decide) (by rfl) (by rfl)))) (by rfl) (by first | exact Or.inl rfl | exact Or.inr rfl)))) (.consAs rfl rfl ⟨rfl, by decide, .inl T.gx_BadPath⟩ (su_all fun z oe pn hz hf => (su_if fun ez => (ss_cons (s_if (PW.pt (pw_orD (pt_truthD (toD (pn_isET ⟨⟨oe, List.mem_cons_self, hz, hf⟩⟩ (.cons (.own _) T.km_BadStep (.cons (.own _) T.km_DataError (.cons (.own _) T.km_TextError (.cons (.own _) T.km_AskError .nil)))) ⟨_, _, rfl⟩ (Nat.le_of_ble_eq_true rfl) rfl T.z_isinstance (by rfl) (pv 6) (pa_cons (te := tC (.ref T.c_BadStep)) (pe_glob (by rfl) T.gx_BadStep rfl (by decide)) (pa_cons (te := tC (.ref T.c_DataError)) (pe_glob (by rfl) T.gx_DataError rfl (by decide)) (pa_cons (te := tC (.ref T.c_TextError)) (pe_glob (by rfl) T.gx_TextError rfl (by decide)) (pa_cons (te := tC (.ref T.c_AskError)) (pe_glob (by rfl) T.gx_AskError rfl (by decide)) pa_nil (by rfl)) (by rfl)) (by rfl)) (by rfl)) (fun _ _ _ q => q) (by decide) (by decide) (by rfl) (by rfl) (by rfl))) (fun _ => rfl)) (pw_or1 (pt_notD (pt_truthD (toD (pn_isE ⟨⟨oe, List.mem_cons_self, hz, hf⟩⟩ T.km_CallError rfl T.z_isinstance (by rfl) (pv 6) (pe_glob (by rfl) T.gx_CallError rfl (by decide)) (by decide) (by decide) (by rfl) (by rfl) (by rfl))) (fun _ => rfl)))))) (ss_one (s_ret (toN' pd_bl))) ss_nil)
    (ss_cons (s_if (PW.pt (pw_orD (pt_notD (pt_truthD (toD (pn_isEV (cv := .ty "ValueError") (cu := .type "ValueError") ⟨⟨oe, List.mem_cons_self, hz, hf⟩⟩ T.km_ValueError (fun _ r => r) rfl T.z_isinstance (by rfl) (pv 6) (pe_bltn rfl T.z_ValueError (by rfl) rfl) (by decide) (by decide) (by rfl) (by rfl) (by rfl))) (fun _ => rfl))) (pw_orD (pt_notD (pt_truthD (toD (pn_isi call_isi (sem_isa isa_int) rfl T.z_isinstance (by rfl) (toD (pn_fld T.xf_BadPath (T.sx_BadPath.noN _ (by decide)) (by rw [ez]; exact T.n_BadPath) hz hf (pv 6) (by rfl))) (pe_bltn rfl T.z_int (by rfl) rfl) (by decide) (by decide) (by rfl) (by rfl) (by rfl))) (fun _ => rfl))) (pw_or1 (pt_truthD (toD (pn_isi call_isi (sem_isa isa_bool) rfl T.z_isinstance (by rfl) (toD (pn_fld T.xf_BadPath (T.sx_BadPath.noN _ (by decide)) (by rw [ez]; exact T.n_BadPath) hz hf (pv 6) (by rfl))) (pe_bltn rfl T.z_bool (by rfl) rfl) (by decide) (by decide) (by rfl) (by rfl) (by rfl))) (fun _ => rfl)))))) (ss_one (s_ret (toN' pd_bl))) ss_nil)
    (ss_one (s_ret (pn_and (pn_cmp op_le sem_le (toD (pn_b1 call_lenAny sem_len rfl T.z_len (by rfl) (pd_name (pv 4)) (by decide) (by decide) (by rfl) (by rfl))) (toD (pn_b1 call_lenAny sem_len rfl T.z_len (by rfl) (pd_name (pv 2)) (by decide) (by decide) (by rfl) (by rfl))) (by rfl)) (pn_one (pn_cmp (op_eqD hr.units) sem_eq (toD (pn_fld T.xf_BadPath (T.sx_BadPath.noN _ (by decide)) (by rw [ez]; exact T.n_BadPath) hz hf (pv 6) (by rfl))) (toD (pn_bin op_sub sem_sub (toD (pn_b1 call_lenAny sem_len rfl T.z_len (by rfl) (pd_name (pv 4)) (by decide) (by decide) (by rfl) (by rfl))) pd_int)) (by rfl)))))))))) (.cons ⟨rfl, by decide, .inl T.gx_HeardError⟩ (su_all fun z oe pn hz hf => (ss_one (s_ret (toN' pd_bl)))) .nil)) (cols_cons T.xm_BadPath (cols_cons T.xm_HeardError cols_nil)))
    (ss_one (s_ret (pn_and (pn_cmp (op_eqD hr.units) sem_eq (toD (pn_b1 call_lenAny sem_len rfl T.z_len (by rfl) (pd_name (pv 4)) (by decide) (by decide) (by rfl) (by rfl))) (toD (pn_bin op_addAny sem_add (toD (pn_b1 call_lenAny sem_len rfl T.z_len (by rfl) (pd_name (pv 2)) (by decide) (by decide) (by rfl) (by rfl))) pd_int)) (by rfl)) (pn_one (pn_call (ok_l_rows_are T) (takes_of rfl rfl rfl rfl) (hr.mono (by decide)) rfl T.p_l_rows_are.g T.p_l_rows_are.F.kp T.p_l_rows_are.b (ph_cons (pd_name (pv 5)) (ph_cons (pd_name (pv 4)) ph_nil (by rfl)) (by rfl)) (by rfl) (by decide) (by rfl) (by rfl))))))))
theorem sc_is_integer : FnScope ["thing"] ["thing"] (defScope s_is_integer) := ⟨rfl, rfl, rfl, by decide +kernel, rfl, by decide +kernel, by decide +kernel⟩
theorem ok_is_integer (T : Tx Pr K mg) : FnOk Pr w K mg base (L2.CX Pr w) 1 T.a_is_integer T.d_is_integer ["thing"] (spF K (["thing"] : List Str).length F_is_integer) :=
  fn_ok (k := 0) T.p_is_integer.F sc_is_integer fun cdv A outer s H E n0 hr => by
    have S := sc_is_integer
    exact (ss_one (s_ret (pn_and (pn_isi call_isi (sem_isa isa_int) rfl T.z_isinstance (by rfl) (pd_name (pv 0)) (pe_bltn rfl T.z_int (by rfl) rfl) (by decide) (by decide) (by rfl) (by rfl) (by rfl)) (pn_one (pn_not (pn_isi call_isi (sem_isa isa_bool) rfl T.z_isinstance (by rfl) (pd_name (pv 0)) (pe_bltn rfl T.z_bool (by rfl) rfl) (by decide) (by decide) (by rfl) (by rfl) (by rfl)))))))
theorem sc_integer_within : FnScope ["thing", "low", "high"] ["thing", "low", "high"] (defScope s_integer_within) := ⟨rfl, rfl, rfl, by decide +kernel, rfl, by decide +kernel, by decide +kernel⟩
theorem ok_integer_within (T : Tx Pr K mg) : FnOk Pr w K mg base (L2.CX Pr w) 2 T.a_integer_within T.d_integer_within ["thing", "low", "high"] (spF K (["thing", "low", "high"] : List Str).length F_integer_within) :=
  fn_ok (k := 1) T.p_integer_within.F sc_integer_within fun cdv A outer s H E n0 hr => by
    have S := sc_integer_within
    exact (ss_one (s_ret (pn_and (pn_call (ok_is_integer T) (takes_of rfl rfl rfl rfl) (hr.mono (by decide)) rfl T.p_is_integer.g T.p_is_integer.F.kp T.p_is_integer.b (ph_cons (pd_name (pv 0)) ph_nil (by rfl)) (by rfl) (by decide) (by rfl) (by rfl)) (pn_one (pn_chainD op_le op_le sem_le sem_le (pd_name (pv 1)) (pd_name (pv 0)) (pd_name (pv 2)) (by with_unfolding_all rfl))))))
theorem sc_is_number : FnScope ["thing", "many"] ["thing", "many"] (defScope s_is_number) := ⟨rfl, rfl, rfl, by decide +kernel, rfl, by decide +kernel, by decide +kernel⟩
theorem ok_is_number (T : Tx Pr K mg) : FnOk Pr w K mg base (L2.CX Pr w) 3 T.a_is_number T.d_is_number ["thing", "many"] (spF K (["thing", "many"] : List Str).length F_is_number) :=
  fn_ok (k := 2) T.p_is_number.F sc_is_number fun cdv A outer s H E n0 hr => by
    have S := sc_is_number
    exact (ss_one (s_ret (pn_call (ok_integer_within T) (takes_of rfl rfl rfl rfl) (hr.mono (by decide)) rfl T.p_integer_within.g T.p_integer_within.F.kp T.p_integer_within.b (ph_cons (pd_name (pv 0)) (ph_cons pd_int (ph_cons (toD (pn_bin op_sub sem_sub (pd_name (pv 1)) pd_int)) ph_nil (by rfl)) (by rfl)) (by rfl)) (by rfl) (by decide) (by rfl) (by rfl))))
theorem sc_tuple_of : FnScope ["thing", "many"] ["thing", "many"] (defScope s_tuple_of) := ⟨rfl, rfl, rfl, by decide +kernel, rfl, by decide +kernel, by decide +kernel⟩
theorem ok_tuple_of (T : Tx Pr K mg) : FnOk Pr w K mg base (L2.CX Pr w) 1 T.a_tuple_of T.d_tuple_of ["thing", "many"] (spF K (["thing", "many"] : List Str).length F_tuple_of) :=
  fn_ok (k := 0) T.p_tuple_of.F sc_tuple_of fun cdv A outer s H E n0 hr => by
    have S := sc_tuple_of
    exact (ss_one (s_ret (pn_and (pn_isi call_isi (sem_isa isa_tuple) rfl T.z_isinstance (by rfl) (pd_name (pv 0)) (pe_bltn rfl T.z_tuple (by rfl) rfl) (by decide) (by decide) (by rfl) (by rfl) (by rfl)) (pn_one (pn_cmp (op_eqD hr.units) sem_eq (toD (pn_b1 call_lenAny sem_len rfl T.z_len (by rfl) (pd_name (pv 0)) (by decide) (by decide) (by rfl) (by rfl))) (pd_name (pv 1)) (by rfl))))))
theorem sc_is_step : FnScope ["setting", "thing"] ["setting", "thing"] (defScope s_is_step) := ⟨rfl, rfl, rfl, by decide +kernel, rfl, by decide +kernel, by decide +kernel⟩
theorem ok_is_step (T : Tx Pr K mg) : FnOk Pr w K mg base (L2.CX Pr w) 4 T.a_is_step T.d_is_step ["setting", "thing"] (spF K (["setting", "thing"] : List Str).length F_is_step) :=
  fn_ok (k := 3) T.p_is_step.F sc_is_step fun cdv A outer s H E n0 hr => by
    have S := sc_is_step
    exact (ss_cons (s_if (PW.pt (pw_orD (pt_notD (pt_truthD (toD (pn_call (ok_tuple_of T) (takes_of rfl rfl rfl rfl) (hr.mono (by decide)) rfl T.p_tuple_of.g T.p_tuple_of.F.kp T.p_tuple_of.b (ph_cons (pd_name (pv 1)) (ph_cons pd_int ph_nil (by rfl)) (by rfl)) (by rfl) (by decide) (by rfl) (by rfl))) (fun _ => rfl))) (pw_or1 (pt_notD (pt_truthD (toD (pn_call (ok_is_number T) (takes_of rfl rfl rfl rfl) (hr.mono (by decide)) rfl T.p_is_number.g T.p_is_number.F.kp T.p_is_number.b (ph_cons (toD (pn_ix ix_seq sem_ix (pd_name (pv 1)) pd_int (fun _ _ => rfl))) (ph_cons (toD (pn_b1 call_lenAny sem_len rfl T.z_len (by rfl) (toD (pn_ix ix_seq sem_ix (pd_name (pv 0)) pd_int (fun _ _ => rfl))) (by decide) (by decide) (by rfl) (by rfl))) ph_nil (by rfl)) (by rfl)) (by rfl) (by decide) (by rfl) (by rfl))) (fun _ => rfl)))))) (ss_one (s_ret (toN' pd_bl))) ss_nil)
    (ss_one (s_ret (pn_and (pn_call (ok_is_integer T) (takes_of rfl rfl rfl rfl) (hr.mono (by decide)) rfl T.p_is_integer.g T.p_is_integer.F.kp T.p_is_integer.b (ph_cons (toD (pn_ix ix_seq sem_ix (pd_name (pv 1)) pd_int (fun _ _ => rfl))) ph_nil (by rfl)) (by rfl) (by decide) (by rfl) (by rfl)) (pn_and (pn_cmp op_ge sem_ge (toD (pn_ix ix_seq sem_ix (pd_name (pv 1)) pd_int (fun _ _ => rfl))) pd_int (by rfl)) (pn_one (pn_call (ok_integer_within T) (takes_of rfl rfl rfl rfl) (hr.mono (by decide)) rfl T.p_integer_within.g T.p_integer_within.F.kp T.p_integer_within.b (ph_cons (toD (pn_ix ix_seq sem_ix (pd_name (pv 1)) pd_int (fun _ _ => rfl))) (ph_cons pd_int (ph_cons pd_int ph_nil (by rfl)) (by rfl)) (by rfl)) (by rfl) (by decide) (by rfl) (by rfl))))))))
theorem sc_is_path : FnScope ["setting", "row", "other", "thing", "step"] ["setting", "row", "other", "thing"] (defScope s_is_path) := ⟨rfl, rfl, rfl, by decide +kernel, rfl, by decide +kernel, by decide +kernel⟩
theorem ok_is_path (T : Tx Pr K mg) : FnOk Pr w K mg base (L2.CX Pr w) 5 T.a_is_path T.d_is_path ["setting", "row", "other", "thing"] (spF K (["setting", "row", "other", "thing"] : List Str).length F_is_path) :=
  fn_ok (k := 4) T.p_is_path.F sc_is_path fun cdv A outer s H E n0 hr => by
    have S := sc_is_path
    exact (ss_cons (s_if (PW.pt (pw_orD (pt_notD (pt_truthD (toD (pn_isi call_isi (sem_isa isa_tuple) rfl T.z_isinstance (by rfl) (pd_name (pv 3)) (pe_bltn rfl T.z_tuple (by rfl) rfl) (by decide) (by decide) (by rfl) (by rfl) (by rfl))) (fun _ => rfl))) (pw_or1 (pt_notD (pt_truthD (toD (pn_b1 (cr_all rfl) sem_all rfl T.z_all (by rfl) (toD (pn_lc (own := [("step", 4)]) (t := (tgName 4)) (c := bYes) rfl S.nd (pw_any (pd_name (pv 3))) (blkOk_by (N := ["setting", "row", "other", "thing", "step"]) (sc := defScope s_is_path) (by decide +kernel)) (fun _ _ _ _ _ => (pg_name (i := 4) S.nd rfl (by first | exact Or.inl rfl | exact Or.inr rfl))) (fun _ _ _ _ _ => pts_yes) (fun _ _ _ _ _ => (toD (pn_call0 (ok_is_step T) (hr.mono (by decide)) rfl T.p_is_step.g T.p_is_step.F.kp T.p_is_step.b (ph_cons (pd_name (pv 0)) (ph_cons (pd_name (pv 4)) ph_nil (by rfl)) (by rfl)) (by rfl) (by decide) (by rfl) (by rfl)))) tgok_name (tgin_name (by decide)) (fun _ => rfl))) (by decide) (by decide) (by rfl) (by rfl))) (fun _ => rfl)))))) (ss_one (s_ret (toN' pd_bl))) ss_nil)
    (ss_cons (s_for (passes_of rfl) rfl (pw_any (pd_name (pv 3))) (pg_name (i := 4) S.nd rfl (by first | exact Or.inl rfl | exact Or.inr rfl)) tgok_name (ss_cons (s_set (i := 1) S.nd rfl (by first | exact Or.inl rfl | exact Or.inr rfl) (toD (pn_call (ok_stepped T) (takes_of rfl rfl rfl rfl) (hr.mono (by decide)) rfl T.p_stepped.g T.p_stepped.F.kp T.p_stepped.b (ph_cons (pd_name (pv 0)) (ph_cons (pd_name (pv 1)) (ph_cons (pd_name (pv 4)) ph_nil (by rfl)) (by rfl)) (by rfl)) (by rfl) (by decide) (by rfl) (by rfl))) (by rfl) (by first | exact Or.inl rfl | exact Or.inr rfl))
    (ss_one (s_if (pt_isN (pd_name (pv 1))) (ss_one (s_ret (toN' pd_bl))) ss_nil))) (fun _ => rfl))
    (ss_one (s_ret (pn_cmp (op_eqD hr.units) sem_eq (pd_name (pv 1)) (pd_name (pv 2)) (by rfl))))))
theorem kb_is_path_setting_row_other_thing (T : Tx Pr K mg) : KBinds K T.d_is_path ["setting", "row", "other", "thing"] ["setting", "row", "other", "thing"] (fun us ws => if us.isEmpty then permute [0, 1, 2, 3] ws else []) (fun us ws => if us.isEmpty then permute [0, 1, 2, 3] ws else []) :=
  kbinds_mk T.p_is_path.F (fun kV doc pm an cdv ct ws hl => by
    rcases ws with _ | ⟨x, _ | ⟨x, _ | ⟨x, _ | ⟨x, r⟩⟩⟩⟩
    · simp [permute] at hl
    · simp [permute] at hl
    · simp [permute] at hl
    · simp [permute] at hl
    · rfl) (by simp)
theorem sc_l_is : FnScope ["setting", "row", "other", "thing", "due", "named", "told"] ["setting", "row", "other", "thing", "due", "named"] (defScope s_l_is) := ⟨rfl, rfl, rfl, by decide +kernel, rfl, by decide +kernel, by decide +kernel⟩
theorem ok_l_is (T : Tx Pr K mg) : FnOk Pr w K mg base (L2.CX Pr w) 6 T.a_l_is T.d_l_is ["setting", "row", "other", "thing", "due", "named"] (spF K (["setting", "row", "other", "thing", "due", "named"] : List Str).length F_l_is) :=
  fn_ok (k := 5) T.p_l_is.F sc_l_is fun cdv A outer s H E n0 hr => by
    have S := sc_l_is
    exact (ss_cons (s_set (i := 6) S.nd rfl (by first | exact Or.inl rfl | exact Or.inr rfl) (toD (pn_if (pt_truthD (pd_name (pv 5)) (fun _ => rfl)) (pn_callK (ok_is_path T) (takes_of rfl rfl rfl rfl) (hr.mono (by decide)) rfl T.p_is_path.g T.p_is_path.F.kp (kb_is_path_setting_row_other_thing T) (pk_consD (pd_name (pv 0)) (pk_consD (pd_name (pv 1)) (pk_consD (pd_name (pv 2)) (pk_consD (pd_name (pv 3)) pk_nilD)))) (by decide) (by rfl) (by rfl) (by rfl) (by decide) (by rfl)) (pn_call (ok_is_path T) (takes_of rfl rfl rfl rfl) (hr.mono (by decide)) rfl T.p_is_path.g T.p_is_path.F.kp T.p_is_path.b (ph_cons (pd_name (pv 0)) (ph_cons (pd_name (pv 1)) (ph_cons (pd_name (pv 2)) (ph_cons (pd_name (pv 3)) ph_nil (by rfl)) (by rfl)) (by rfl)) (by rfl)) (by rfl) (by decide) (by rfl) (by rfl)))) (by rfl) (by first | exact Or.inl rfl | exact Or.inr rfl))
    (ss_one (s_ret (pn_if (pt_truthD (pd_name (pv 4)) (fun _ => rfl)) (pn_cmp op_is_bl sem_isB (pd_name (pv 6)) pd_bl (by rfl)) (pn_cmp op_is_bl sem_isB (pd_name (pv 6)) pd_bl (by rfl))))))
theorem sc_l_walk : FnScope ["chest", "setting", "row", "laps", "most", "steps", "rows", "lap", "ways", "step", "first", "k", "number", "way", "place", "told"] ["chest", "setting", "row", "laps", "most"] (defScope s_l_walk) := ⟨rfl, rfl, rfl, by decide +kernel, rfl, by decide +kernel, by decide +kernel⟩
theorem ok_l_walk (T : Tx Pr K mg) : FnOk Pr w K mg base (L2.CX Pr w) 2 T.a_l_walk T.d_l_walk ["chest", "setting", "row", "laps", "most"] (spF K (["chest", "setting", "row", "laps", "most"] : List Str).length F_l_walk) :=
  fn_ok (k := 1) T.p_l_walk.F sc_l_walk fun cdv A outer s H E n0 hr => by
    have S := sc_l_walk
    exact (ss_cons (s_new (i := 5) S.nd rfl (by first | exact Or.inl rfl | exact Or.inr rfl) (pn_lst pi_nilD) (by rfl) (by first | exact Or.inl rfl | exact Or.inr rfl))
    (ss_cons (s_new (i := 6) S.nd rfl (by first | exact Or.inl rfl | exact Or.inr rfl) (pn_lst (pi_consD (pd_name (pv 2)) pi_nilD (by rfl))) (by rfl) (by first | exact Or.inl rfl | exact Or.inr rfl))
    (ss_cons (s_for (passes_of rfl) rfl (pw_range1 rfl T.z_range (pd_name (pv 3)) (by rfl) (by rfl)) (pg_name (i := 7) S.nd rfl (by first | exact Or.inl rfl | exact Or.inr rfl)) tgok_name (ss_cons (s_new (i := 8) S.nd rfl (by first | exact Or.inl rfl | exact Or.inr rfl) (pn_lst pi_nilD) (by rfl) (by first | exact Or.inl rfl | exact Or.inr rfl))
    (ss_cons (s_if (pt_cmpD op_gt sem_gt (toD (pn_b1 call_lenAny sem_len rfl T.z_len (by rfl) (toD (pn_ix ix_seq sem_ix (pd_name (pv 1)) pd_int (fun _ _ => rfl))) (by decide) (by decide) (by rfl) (by rfl))) pd_int (by rfl)) (ss_cons (s_set (i := 10) S.nd rfl (by first | exact Or.inl rfl | exact Or.inr rfl) (toD (pn_call (ok_l_lift T) (takes_of rfl rfl rfl rfl) (hr.mono (by decide)) rfl T.p_l_lift.g T.p_l_lift.F.kp T.p_l_lift.b (ph_cons (pd_name (pv 0)) (ph_cons (toD (pn_bin op_mulW sem_mul (toD (pn_b1 call_lenAny sem_len rfl T.z_len (by rfl) (toD (pn_ix ix_seq sem_ix (pd_name (pv 1)) pd_int (fun _ _ => rfl))) (by decide) (by decide) (by rfl) (by rfl))) pd_int)) ph_nil (by rfl)) (by rfl)) (by rfl) (by decide) (by rfl) (by rfl))) (by rfl) (by first | exact Or.inl rfl | exact Or.inr rfl))
    (ss_one (s_for (passes_of rfl) rfl (pw_range1 rfl T.z_range (toD (pn_bin op_mulW sem_mul (toD (pn_b1 call_lenAny sem_len rfl T.z_len (by rfl) (toD (pn_ix ix_seq sem_ix (pd_name (pv 1)) pd_int (fun _ _ => rfl))) (by decide) (by decide) (by rfl) (by rfl))) pd_int)) (by rfl) (by rfl)) (pg_name (i := 11) S.nd rfl (by first | exact Or.inl rfl | exact Or.inr rfl)) tgok_name (ss_cons (s_set (i := 12) S.nd rfl (by first | exact Or.inl rfl | exact Or.inr rfl) (toD (pn_bin op_mod sem_mod (toD (pn_t1 call_int1 sem_toInt rfl T.z_int (by rfl) (toD (pn_bin op_addAny sem_add (pd_name (pv 10)) (pd_name (pv 11)))) (by decide) (by decide) (by rfl) (by rfl))) (toD (pn_b1 call_lenAny sem_len rfl T.z_len (by rfl) (toD (pn_ix ix_seq sem_ix (pd_name (pv 1)) pd_int (fun _ _ => rfl))) (by decide) (by decide) (by rfl) (by rfl))))) (by rfl) (by first | exact Or.inl rfl | exact Or.inr rfl))
    (ss_cons (s_set (i := 13) S.nd rfl (by first | exact Or.inl rfl | exact Or.inr rfl) (toD (pn_bin op_mod sem_mod (toD (pn_t1 call_int1 sem_toInt rfl T.z_int (by rfl) (toD (pn_bin op_fdivW sem_floor (toD (pn_bin op_addAny sem_add (pd_name (pv 10)) (pd_name (pv 11)))) (toD (pn_b1 call_lenAny sem_len rfl T.z_len (by rfl) (toD (pn_ix ix_seq sem_ix (pd_name (pv 1)) pd_int (fun _ _ => rfl))) (by decide) (by decide) (by rfl) (by rfl))))) (by decide) (by decide) (by rfl) (by rfl))) pd_int)) (by rfl) (by first | exact Or.inl rfl | exact Or.inr rfl))
    (ss_cons (s_for (passes_of rfl) rfl (pw_range1 rfl T.z_range (toD (pn_bin op_addAny sem_add (toD (pn_b1 call_lenAny sem_len rfl T.z_len (by rfl) (pd_name (pv 2)) (by decide) (by decide) (by rfl) (by rfl))) pd_int)) (by rfl) (by rfl)) (pg_name (i := 14) S.nd rfl (by first | exact Or.inl rfl | exact Or.inr rfl)) tgok_name (ss_cons (s_set (i := 15) S.nd rfl (by first | exact Or.inl rfl | exact Or.inr rfl) (toD (pn_call (ok_l_hear T) (takes_of rfl rfl rfl rfl) (hr.mono (by decide)) rfl T.p_l_hear.g T.p_l_hear.F.kp T.p_l_hear.b (ph_cons (pd_name (pv 1)) (ph_cons (pd_name (pv 2)) (ph_cons (pd_name (pv 12)) (ph_cons (pd_name (pv 14)) (ph_cons (pd_name (pv 13)) ph_nil (by rfl)) (by rfl)) (by rfl)) (by rfl)) (by rfl)) (by rfl) (by decide) (by rfl) (by rfl))) (by rfl) (by first | exact Or.inl rfl | exact Or.inr rfl))
    (ss_one (s_if (PW.pt (pw_andD (pt_notNn (pd_name (pv 15))) (pw_and1 (pt_cmpD op_le sem_le (toD (pn_b1 call_lenAny sem_len rfl T.z_len (by rfl) (pd_name (pv 15)) (by decide) (by decide) (by rfl) (by rfl))) (pd_name (pv 4)) (by rfl))))) (ss_one (s_app (ps_expr (pe_bm PySem.F.plainAttrs_list PySem.F.slot_list_append PySem.F.type_list_append mt_append (pv 8) (pa_cons (toD (pn_tup (pi_consD (pd_name (pv 12)) (pi_consD (pd_name (pv 14)) (pi_consD (pd_name (pv 13)) pi_nilD (by rfl)) (by rfl)) (by rfl)))) pa_nil))))) ss_nil))) (fun _ => rfl))
    (ss_one (s_if (pt_cmpD op_gt sem_gt (toD (pn_b1 call_lenAny sem_len rfl T.z_len (by rfl) (pd_name (pv 8)) (by decide) (by decide) (by rfl) (by rfl))) pd_int (by rfl)) (ss_one s_break) ss_nil))))) (fun _ => rfl)))) ss_nil)
    (ss_cons (s_if (pt_cmpD (op_eqD hr.units) sem_eq (toD (pn_b1 call_lenAny sem_len rfl T.z_len (by rfl) (pd_name (pv 8)) (by decide) (by decide) (by rfl) (by rfl))) pd_int (by rfl)) (ss_one s_break) ss_nil)
    (ss_cons (s_set (i := 9) S.nd rfl (by first | exact Or.inl rfl | exact Or.inr rfl) (toD (pn_ix ix_seq sem_ix (pd_name (pv 8)) (toD (pn_call (ok_l_lift T) (takes_of rfl rfl rfl rfl) (hr.mono (by decide)) rfl T.p_l_lift.g T.p_l_lift.F.kp T.p_l_lift.b (ph_cons (pd_name (pv 0)) (ph_cons (toD (pn_b1 call_lenAny sem_len rfl T.z_len (by rfl) (pd_name (pv 8)) (by decide) (by decide) (by rfl) (by rfl))) ph_nil (by rfl)) (by rfl)) (by rfl) (by decide) (by rfl) (by rfl))) (fun _ _ => rfl))) (by rfl) (by first | exact Or.inl rfl | exact Or.inr rfl))
    (ss_cons (s_set (i := 2) S.nd rfl (by first | exact Or.inl rfl | exact Or.inr rfl) (toD (pn_call (ok_l_hear T) (takes_of rfl rfl rfl rfl) (hr.mono (by decide)) rfl T.p_l_hear.g T.p_l_hear.F.kp T.p_l_hear.b (ph_cons (pd_name (pv 1)) (ph_cons (pd_name (pv 2)) (ph_cons (toD (pn_ix ix_seq sem_ix (pd_name (pv 9)) pd_int (fun _ _ => rfl))) (ph_cons (toD (pn_ix ix_seq sem_ix (pd_name (pv 9)) pd_int (fun _ _ => rfl))) (ph_cons (toD (pn_ix ix_seq sem_ix (pd_name (pv 9)) pd_int (fun _ _ => rfl))) ph_nil (by rfl)) (by rfl)) (by rfl)) (by rfl)) (by rfl)) (by rfl) (by decide) (by rfl) (by rfl))) (by rfl) (by first | exact Or.inl rfl | exact Or.inr rfl))
    (ss_cons (s_app (ps_expr (pe_bm PySem.F.plainAttrs_list PySem.F.slot_list_append PySem.F.type_list_append mt_append (pv 5) (pa_cons (pd_name (pv 9)) pa_nil))))
    (ss_one (s_app (ps_expr (pe_bm PySem.F.plainAttrs_list PySem.F.slot_list_append PySem.F.type_list_append mt_append (pv 6) (pa_cons (pd_name (pv 2)) pa_nil))))))))))) (fun _ => rfl))
    (ss_one (s_retZ (ph_cons (toD (pn_t1 call_tuple_of sem_tuple rfl T.z_tuple (by rfl) (pd_name (pv 5)) (by decide) (by decide) (by rfl) (by rfl))) (ph_cons (pd_name (pv 6)) ph_nil (by rfl)) (by rfl)))))))
theorem sc_turned_step : FnScope ["setting", "step"] ["setting", "step"] (defScope s_turned_step) := ⟨rfl, rfl, rfl, by decide +kernel, rfl, by decide +kernel, by decide +kernel⟩
theorem ok_turned_step (T : Tx Pr K mg) : FnOk Pr w K mg base (L2.CX Pr w) 1 T.a_turned_step T.d_turned_step ["setting", "step"] (spF K (["setting", "step"] : List Str).length F_turned_step) :=
  fn_ok (k := 0) T.p_turned_step.F sc_turned_step fun cdv A outer s H E n0 hr => by
    have S := sc_turned_step
    exact (ss_one (s_ret (pn_tup (pi_consD (toD (pn_ix ix_seq sem_ix (pd_name (pv 1)) pd_int (fun _ _ => rfl))) (pi_consD (toD (pn_ix ix_seq sem_ix (pd_name (pv 1)) pd_int (fun _ _ => rfl))) (pi_consD (toD (pn_bin op_sub sem_sub pd_int (toD (pn_ix ix_seq sem_ix (pd_name (pv 1)) pd_int (fun _ _ => rfl))))) pi_nilD (by rfl)) (by rfl)) (by rfl)))))
theorem kb_turned_step_setting_step (T : Tx Pr K mg) : KBinds K T.d_turned_step ["setting", "step"] ["setting", "step"] (fun us ws => if us.isEmpty then permute [0, 1] ws else []) (fun us ws => if us.isEmpty then permute [0, 1] ws else []) :=
  kbinds_mk T.p_turned_step.F (fun kV doc pm an cdv ct ws hl => by
    rcases ws with _ | ⟨x, _ | ⟨x, r⟩⟩
    · simp [permute] at hl
    · simp [permute] at hl
    · rfl) (by simp)
theorem sc_turned_path : FnScope ["setting", "steps", "step"] ["setting", "steps"] (defScope s_turned_path) := ⟨rfl, rfl, rfl, by decide +kernel, rfl, by decide +kernel, by decide +kernel⟩
theorem ok_turned_path (T : Tx Pr K mg) : FnOk Pr w K mg base (L2.CX Pr w) 2 T.a_turned_path T.d_turned_path ["setting", "steps"] (spF K (["setting", "steps"] : List Str).length F_turned_path) :=
  fn_ok (k := 1) T.p_turned_path.F sc_turned_path fun cdv A outer s H E n0 hr => by
    have S := sc_turned_path
    exact (ss_one (s_ret (pn_t1 call_tuple_of sem_tuple rfl T.z_tuple (by rfl) (toD (pn_lc (own := [("step", 2)]) (t := (tgName 2)) (c := bYes) rfl S.nd (pw_any (toD (pn_rev (pd_name (pv 1))))) (blkOk_by (N := ["setting", "steps", "step"]) (sc := defScope s_turned_path) (by decide +kernel)) (fun _ _ _ _ _ => (pg_name (i := 2) S.nd rfl (by first | exact Or.inl rfl | exact Or.inr rfl))) (fun _ _ _ _ _ => pts_yes) (fun _ _ _ _ _ => (toD (pn_call0 (ok_turned_step T) (hr.mono (by decide)) rfl T.p_turned_step.g T.p_turned_step.F.kp T.p_turned_step.b (ph_cons (pd_name (pv 0)) (ph_cons (pd_name (pv 2)) ph_nil (by rfl)) (by rfl)) (by rfl) (by decide) (by rfl) (by rfl)))) tgok_name (tgin_name (by decide)) (fun _ => rfl))) (by decide) (by decide) (by rfl) (by rfl))))
theorem kb_turned_path_setting_steps (T : Tx Pr K mg) : KBinds K T.d_turned_path ["setting", "steps"] ["setting", "steps"] (fun us ws => if us.isEmpty then permute [0, 1] ws else []) (fun us ws => if us.isEmpty then permute [0, 1] ws else []) :=
  kbinds_mk T.p_turned_path.F (fun kV doc pm an cdv ct ws hl => by
    rcases ws with _ | ⟨x, _ | ⟨x, r⟩⟩
    · simp [permute] at hl
    · simp [permute] at hl
    · rfl) (by simp)
theorem sc_l_turns : FnScope ["setting", "steps", "named", "due", "told", "k", "step"] ["setting", "steps", "named"] (defScope s_l_turns) := ⟨rfl, rfl, rfl, by decide +kernel, rfl, by decide +kernel, by decide +kernel⟩
theorem ok_l_turns (T : Tx Pr K mg) : FnOk Pr w K mg base (L2.CX Pr w) 3 T.a_l_turns T.d_l_turns ["setting", "steps", "named"] (spF K (["setting", "steps", "named"] : List Str).length F_l_turns) :=
  fn_ok (k := 2) T.p_l_turns.F sc_l_turns fun cdv A outer s H E n0 hr => by
    have S := sc_l_turns
    exact (ss_cons (s_set (i := 3) S.nd rfl (by first | exact Or.inl rfl | exact Or.inr rfl) (toD (pn_t1 call_tuple_of sem_tuple rfl T.z_tuple (by rfl) (toD (pn_lc (own := [("step", 6)]) (t := (tgName 6)) (c := bYes) rfl S.nd (pw_revA rfl T.z_reversed (toD (pn_t1 call_list_of sem_list rfl T.z_list (by rfl) (pd_name (pv 1)) (by decide) (by decide) (by rfl) (by rfl))) (by rfl)) (blkOk_by (N := ["setting", "steps", "named", "due", "told", "k", "step"]) (sc := defScope s_l_turns) (by decide +kernel)) (fun _ _ _ _ _ => (pg_name (i := 6) S.nd rfl (by first | exact Or.inl rfl | exact Or.inr rfl))) (fun _ _ _ _ _ => pts_yes) (fun _ _ _ _ _ => (toD (pn_tup (pi_consD (toD (pn_ix ix_seq sem_ix (pd_name (pv 6)) pd_int (fun _ _ => rfl))) (pi_consD (toD (pn_ix ix_seq sem_ix (pd_name (pv 6)) pd_int (fun _ _ => rfl))) (pi_consD (toD (pn_bin op_sub sem_sub pd_int (toD (pn_ix ix_seq sem_ix (pd_name (pv 6)) pd_int (fun _ _ => rfl))))) pi_nilD (by rfl)) (by rfl)) (by rfl))))) tgok_name (tgin_name (by decide)) (fun _ => rfl))) (by decide) (by decide) (by rfl) (by rfl))) (by rfl) (by first | exact Or.inl rfl | exact Or.inr rfl))
    (ss_cons (s_set (i := 4) S.nd rfl (by first | exact Or.inl rfl | exact Or.inr rfl) (toD (pn_if (pt_truthD (pd_name (pv 2)) (fun _ => rfl)) (pn_callK (ok_turned_path T) (takes_of rfl rfl rfl rfl) (hr.mono (by decide)) rfl T.p_turned_path.g T.p_turned_path.F.kp (kb_turned_path_setting_steps T) (pk_consD (pd_name (pv 0)) (pk_consD (pd_name (pv 1)) pk_nilD)) (by decide) (by rfl) (by rfl) (by rfl) (by decide) (by rfl)) (pn_call (ok_turned_path T) (takes_of rfl rfl rfl rfl) (hr.mono (by decide)) rfl T.p_turned_path.g T.p_turned_path.F.kp T.p_turned_path.b (ph_cons (pd_name (pv 0)) (ph_cons (pd_name (pv 1)) ph_nil (by rfl)) (by rfl)) (by rfl) (by decide) (by rfl) (by rfl)))) (by rfl) (by first | exact Or.inl rfl | exact Or.inr rfl))
    (ss_cons (s_if (pt_notD (pt_truthD (toD (pn_call (ok_l_rows_are T) (takes_of rfl rfl rfl rfl) (hr.mono (by decide)) rfl T.p_l_rows_are.g T.p_l_rows_are.F.kp T.p_l_rows_are.b (ph_cons (pd_name (pv 4)) (ph_cons (pd_name (pv 3)) ph_nil (by rfl)) (by rfl)) (by rfl) (by decide) (by rfl) (by rfl))) (fun _ => rfl))) (ss_one (s_ret (toN' pd_bl))) ss_nil)
    (ss_cons (s_for (passes_of rfl) rfl (pw_range1 rfl T.z_range (toD (pn_b2 (call_min2 rfl) sem_min rfl T.z_min (by rfl) (toD (pn_b1 call_lenAny sem_len rfl T.z_len (by rfl) (pd_name (pv 1)) (by decide) (by decide) (by rfl) (by rfl))) pd_int (by decide) (by decide) (by rfl) (by rfl) (by rfl))) (by rfl) (by rfl)) (pg_name (i := 5) S.nd rfl (by first | exact Or.inl rfl | exact Or.inr rfl)) tgok_name (ss_cons (s_set (i := 4) S.nd rfl (by first | exact Or.inl rfl | exact Or.inr rfl) (toD (pn_if (pt_truthD (pd_name (pv 2)) (fun _ => rfl)) (pn_callK (ok_turned_step T) (takes_of rfl rfl rfl rfl) (hr.mono (by decide)) rfl T.p_turned_step.g T.p_turned_step.F.kp (kb_turned_step_setting_step T) (pk_consD (pd_name (pv 0)) (pk_consD (toD (pn_ix ix_seq sem_ix (pd_name (pv 1)) (pd_name (pv 5)) (fun _ _ => rfl))) pk_nilD)) (by decide) (by rfl) (by rfl) (by rfl) (by decide) (by rfl)) (pn_call (ok_turned_step T) (takes_of rfl rfl rfl rfl) (hr.mono (by decide)) rfl T.p_turned_step.g T.p_turned_step.F.kp T.p_turned_step.b (ph_cons (pd_name (pv 0)) (ph_cons (toD (pn_ix ix_seq sem_ix (pd_name (pv 1)) (pd_name (pv 5)) (fun _ _ => rfl))) ph_nil (by rfl)) (by rfl)) (by rfl) (by decide) (by rfl) (by rfl)))) (by rfl) (by first | exact Or.inl rfl | exact Or.inr rfl))
    (ss_one (s_if (pt_notD (pt_truthD (toD (pn_call (ok_l_row_is T) (takes_of rfl rfl rfl rfl) (hr.mono (by decide)) rfl T.p_l_row_is.g T.p_l_row_is.F.kp T.p_l_row_is.b (ph_cons (pd_name (pv 4)) (ph_cons (toD (pn_ix ix_seq sem_ix (pd_name (pv 3)) (toD (pn_bin op_sub sem_sub (toD (pn_bin op_sub sem_sub (toD (pn_b1 call_lenAny sem_len rfl T.z_len (by rfl) (pd_name (pv 3)) (by decide) (by decide) (by rfl) (by rfl))) pd_int)) (pd_name (pv 5)))) (fun _ _ => rfl))) ph_nil (by rfl)) (by rfl)) (by rfl) (by decide) (by rfl) (by rfl))) (fun _ => rfl))) (ss_one (s_ret (toN' pd_bl))) ss_nil))) (fun _ => rfl))
    (ss_one (s_ret (toN' pd_bl)))))))
theorem sc_l_broken : FnScope ["chest", "setting", "row", "steps", "named", "rows", "at", "here", "bads", "number", "bad", "way", "place"] ["chest", "setting", "row", "steps", "named"] (defScope s_l_broken) := ⟨rfl, rfl, rfl, by decide +kernel, rfl, by decide +kernel, by decide +kernel⟩
theorem ok_l_broken (T : Tx Pr K mg) : FnOk Pr w K mg base (L2.CX Pr w) 7 T.a_l_broken T.d_l_broken ["chest", "setting", "row", "steps", "named"] (spF K (["chest", "setting", "row", "steps", "named"] : List Str).length F_l_broken) :=
  fn_ok (k := 6) T.p_l_broken.F sc_l_broken fun cdv A outer s H E n0 hr => by
    have S := sc_l_broken
    exact (ss_cons (s_set (i := 5) S.nd rfl (by first | exact Or.inl rfl | exact Or.inr rfl) (toD (pn_call (ok_l_leads T) (takes_of rfl rfl rfl rfl) (hr.mono (by decide)) rfl T.p_l_leads.g T.p_l_leads.F.kp T.p_l_leads.b (ph_cons (pd_name (pv 1)) (ph_cons (pd_name (pv 2)) (ph_cons (pd_name (pv 3)) ph_nil (by rfl)) (by rfl)) (by rfl)) (by rfl) (by decide) (by rfl) (by rfl))) (by rfl) (by first | exact Or.inl rfl | exact Or.inr rfl))
    (ss_cons (s_set (i := 6) S.nd rfl (by first | exact Or.inl rfl | exact Or.inr rfl) (toD (pn_call (ok_l_lift T) (takes_of rfl rfl rfl rfl) (hr.mono (by decide)) rfl T.p_l_lift.g T.p_l_lift.F.kp T.p_l_lift.b (ph_cons (pd_name (pv 0)) (ph_cons (toD (pn_bin op_addAny sem_add (toD (pn_b1 call_lenAny sem_len rfl T.z_len (by rfl) (pd_name (pv 3)) (by decide) (by decide) (by rfl) (by rfl))) pd_int)) ph_nil (by rfl)) (by rfl)) (by rfl) (by decide) (by rfl) (by rfl))) (by rfl) (by first | exact Or.inl rfl | exact Or.inr rfl))
    (ss_cons (s_set (i := 7) S.nd rfl (by first | exact Or.inl rfl | exact Or.inr rfl) (toD (pn_ix ix_seq sem_ix (pd_name (pv 5)) (pd_name (pv 6)) (fun _ _ => rfl))) (by rfl) (by first | exact Or.inl rfl | exact Or.inr rfl))
    (ss_cons (s_new (i := 8) S.nd rfl (by first | exact Or.inl rfl | exact Or.inr rfl) (pn_lst (pi_consD (toD (pn_tup (pi_consD (toD (pn_call (ok_l_lift T) (takes_of rfl rfl rfl rfl) (hr.mono (by decide)) rfl T.p_l_lift.g T.p_l_lift.F.kp T.p_l_lift.b (ph_cons (pd_name (pv 0)) (ph_cons (toD (pn_b1 call_lenAny sem_len rfl T.z_len (by rfl) (toD (pn_ix ix_seq sem_ix (pd_name (pv 1)) pd_int (fun _ _ => rfl))) (by decide) (by decide) (by rfl) (by rfl))) ph_nil (by rfl)) (by rfl)) (by rfl) (by decide) (by rfl) (by rfl))) (pi_consD (toD (pn_bin op_addAny sem_add (toD (pn_bin op_addAny sem_add (toD (pn_b1 call_lenAny sem_len rfl T.z_len (by rfl) (pd_name (pv 7)) (by decide) (by decide) (by rfl) (by rfl))) pd_int)) (toD (pn_call (ok_l_lift T) (takes_of rfl rfl rfl rfl) (hr.mono (by decide)) rfl T.p_l_lift.g T.p_l_lift.F.kp T.p_l_lift.b (ph_cons (pd_name (pv 0)) (ph_cons pd_int ph_nil (by rfl)) (by rfl)) (by rfl) (by decide) (by rfl) (by rfl))))) (pi_consD (toD (pn_call (ok_l_lift T) (takes_of rfl rfl rfl rfl) (hr.mono (by decide)) rfl T.p_l_lift.g T.p_l_lift.F.kp T.p_l_lift.b (ph_cons (pd_name (pv 0)) (ph_cons pd_int ph_nil (by rfl)) (by rfl)) (by rfl) (by decide) (by rfl) (by rfl))) pi_nilD (by rfl)) (by rfl)) (by rfl)))) pi_nilD (by rfl))) (by rfl) (by first | exact Or.inl rfl | exact Or.inr rfl))
    (ss_cons (s_for (passes_of rfl) rfl (pw_range1 rfl T.z_range (toD (pn_b1 call_lenAny sem_len rfl T.z_len (by rfl) (toD (pn_ix ix_seq sem_ix (pd_name (pv 1)) pd_int (fun _ _ => rfl))) (by decide) (by decide) (by rfl) (by rfl))) (by rfl) (by rfl)) (pg_name (i := 9) S.nd rfl (by first | exact Or.inl rfl | exact Or.inr rfl)) tgok_name (ss_one (s_for (passes_of rfl) rfl (pw_range1 rfl T.z_range pd_int (by rfl) (by rfl)) (pg_name (i := 11) S.nd rfl (by first | exact Or.inl rfl | exact Or.inr rfl)) tgok_name (ss_cons (s_set (i := 12) S.nd rfl (by first | exact Or.inl rfl | exact Or.inr rfl) (toD (pn_call (ok_l_lift T) (takes_of rfl rfl rfl rfl) (hr.mono (by decide)) rfl T.p_l_lift.g T.p_l_lift.F.kp T.p_l_lift.b (ph_cons (pd_name (pv 0)) (ph_cons (toD (pn_bin op_addAny sem_add (toD (pn_b1 call_lenAny sem_len rfl T.z_len (by rfl) (pd_name (pv 7)) (by decide) (by decide) (by rfl) (by rfl))) pd_int)) ph_nil (by rfl)) (by rfl)) (by rfl) (by decide) (by rfl) (by rfl))) (by rfl) (by first | exact Or.inl rfl | exact Or.inr rfl))
    (ss_one (s_if (pt_isN (toD (pn_call (ok_l_hear T) (takes_of rfl rfl rfl rfl) (hr.mono (by decide)) rfl T.p_l_hear.g T.p_l_hear.F.kp T.p_l_hear.b (ph_cons (pd_name (pv 1)) (ph_cons (pd_name (pv 7)) (ph_cons (pd_name (pv 9)) (ph_cons (pd_name (pv 12)) (ph_cons (pd_name (pv 11)) ph_nil (by rfl)) (by rfl)) (by rfl)) (by rfl)) (by rfl)) (by rfl) (by decide) (by rfl) (by rfl)))) (ss_one (s_app (ps_expr (pe_bm PySem.F.plainAttrs_list PySem.F.slot_list_append PySem.F.type_list_append mt_append (pv 8) (pa_cons (toD (pn_tup (pi_consD (pd_name (pv 9)) (pi_consD (pd_name (pv 12)) (pi_consD (pd_name (pv 11)) pi_nilD (by rfl)) (by rfl)) (by rfl)))) pa_nil))))) ss_nil))) (fun _ => rfl))) (fun _ => rfl))
    (ss_cons (s_for (passes_of rfl) rfl (pw_any (toD (pn_lst (pi_consD (toD (pn_ix ix_seq sem_ix (pd_name (pv 8)) pd_int (fun _ _ => rfl))) (pi_consD (toD (pn_ix ix_seq sem_ix (pd_name (pv 8)) (toD (pn_call (ok_l_lift T) (takes_of rfl rfl rfl rfl) (hr.mono (by decide)) rfl T.p_l_lift.g T.p_l_lift.F.kp T.p_l_lift.b (ph_cons (pd_name (pv 0)) (ph_cons (toD (pn_b1 call_lenAny sem_len rfl T.z_len (by rfl) (pd_name (pv 8)) (by decide) (by decide) (by rfl) (by rfl))) ph_nil (by rfl)) (by rfl)) (by rfl) (by decide) (by rfl) (by rfl))) (fun _ _ => rfl))) (pi_consD (toD (pn_ix ix_seq sem_ix (pd_name (pv 8)) (toD (pn_bin op_sub sem_sub (toD (pn_b1 call_lenAny sem_len rfl T.z_len (by rfl) (pd_name (pv 8)) (by decide) (by decide) (by rfl) (by rfl))) pd_int)) (fun _ _ => rfl))) (pi_consD (toD (pn_tup (pi_consD pd_int (pi_consD (toD (pn_bin op_pow sem_pow pd_int pd_int)) (pi_consD pd_int pi_nilD (by rfl)) (by rfl)) (by rfl)))) pi_nilD (by rfl)) (by rfl)) (by rfl)) (by rfl))))) (pg_name (i := 10) S.nd rfl (by first | exact Or.inl rfl | exact Or.inr rfl)) tgok_name (ss_cons (s_if (pt_notD (pt_truthD (toD (pn_call (ok_l_runs T) (takes_of rfl rfl rfl rfl) (hr.mono (by decide)) rfl T.p_l_runs.g T.p_l_runs.F.kp T.p_l_runs.b (ph_cons (pd_name (pv 1)) (ph_cons (pd_name (pv 2)) (ph_cons (toD (pn_bin op_addAny sem_add (toD (pn_bin op_addAny sem_add (toD (pn_slice (pd_name (pv 3)) po_noneD (po_someD (pd_name (pv 6))))) (toD (pn_tup (pi_consD (pd_name (pv 10)) pi_nilD (by rfl)))))) (toD (pn_slice (pd_name (pv 3)) (po_someD (pd_name (pv 6))) po_noneD)))) (ph_cons (pd_name (pv 4)) ph_nil (by rfl)) (by rfl)) (by rfl)) (by rfl)) (by rfl) (by decide) (by rfl) (by rfl))) (fun _ => rfl))) (ss_one (s_ret (toN' pd_bl))) ss_nil)
    (ss_cons (s_if (pt_notD (pt_truthD (toD (pn_call (ok_l_runs T) (takes_of rfl rfl rfl rfl) (hr.mono (by decide)) rfl T.p_l_runs.g T.p_l_runs.F.kp T.p_l_runs.b (ph_cons (pd_name (pv 1)) (ph_cons (pd_name (pv 2)) (ph_cons (toD (pn_bin op_addAny sem_add (toD (pn_slice (pd_name (pv 3)) po_noneD (po_someD (pd_name (pv 6))))) (toD (pn_tup (pi_consD (pd_name (pv 10)) (pi_consD (pd_name (pv 10)) pi_nilD (by rfl)) (by rfl)))))) (ph_cons (pd_name (pv 4)) ph_nil (by rfl)) (by rfl)) (by rfl)) (by rfl)) (by rfl) (by decide) (by rfl) (by rfl))) (fun _ => rfl))) (ss_one (s_ret (toN' pd_bl))) ss_nil)
    (ss_cons (s_if (pt_notD (pt_truthD (toD (pn_call (ok_l_is T) (takes_of rfl rfl rfl rfl) (hr.mono (by decide)) rfl T.p_l_is.g T.p_l_is.F.kp T.p_l_is.b (ph_cons (pd_name (pv 1)) (ph_cons (pd_name (pv 2)) (ph_cons (toD (pn_ix ix_seq sem_ix (pd_name (pv 5)) (toD (pn_bin op_sub sem_sub (toD (pn_b1 call_lenAny sem_len rfl T.z_len (by rfl) (pd_name (pv 5)) (by decide) (by decide) (by rfl) (by rfl))) pd_int)) (fun _ _ => rfl))) (ph_cons (toD (pn_bin op_addAny sem_add (toD (pn_bin op_addAny sem_add (toD (pn_slice (pd_name (pv 3)) po_noneD (po_someD (pd_name (pv 6))))) (toD (pn_tup (pi_consD (pd_name (pv 10)) pi_nilD (by rfl)))))) (toD (pn_slice (pd_name (pv 3)) (po_someD (pd_name (pv 6))) po_noneD)))) (ph_cons pd_bl (ph_cons (pd_name (pv 4)) ph_nil (by rfl)) (by rfl)) (by rfl)) (by rfl)) (by rfl)) (by rfl)) (by rfl) (by decide) (by rfl) (by rfl))) (fun _ => rfl))) (ss_one (s_ret (toN' pd_bl))) ss_nil)
    (ss_one (s_if (pt_notD (pt_truthD (toD (pn_call (ok_l_is T) (takes_of rfl rfl rfl rfl) (hr.mono (by decide)) rfl T.p_l_is.g T.p_l_is.F.kp T.p_l_is.b (ph_cons (pd_name (pv 1)) (ph_cons (pd_name (pv 2)) (ph_cons (pd_name (pv 7)) (ph_cons (toD (pn_bin op_addAny sem_add (toD (pn_slice (pd_name (pv 3)) po_noneD (po_someD (pd_name (pv 6))))) (toD (pn_tup (pi_consD (pd_name (pv 10)) pi_nilD (by rfl)))))) (ph_cons pd_bl (ph_cons (pd_name (pv 4)) ph_nil (by rfl)) (by rfl)) (by rfl)) (by rfl)) (by rfl)) (by rfl)) (by rfl) (by decide) (by rfl) (by rfl))) (fun _ => rfl))) (ss_one (s_ret (toN' pd_bl))) ss_nil))))) (fun _ => rfl))
    (ss_one (s_ret (toN' pd_bl)))))))))
theorem sc_l_judge : FnScope ["setting", "row", "other", "steps", "named", "rows", "due"] ["setting", "row", "other", "steps", "named"] (defScope s_l_judge) := ⟨rfl, rfl, rfl, by decide +kernel, rfl, by decide +kernel, by decide +kernel⟩
theorem ok_l_judge (T : Tx Pr K mg) : FnOk Pr w K mg base (L2.CX Pr w) 7 T.a_l_judge T.d_l_judge ["setting", "row", "other", "steps", "named"] (spF K (["setting", "row", "other", "steps", "named"] : List Str).length F_l_judge) :=
  fn_ok (k := 6) T.p_l_judge.F sc_l_judge fun cdv A outer s H E n0 hr => by
    have S := sc_l_judge
    exact (ss_cons (s_set (i := 5) S.nd rfl (by first | exact Or.inl rfl | exact Or.inr rfl) (toD (pn_call (ok_l_leads T) (takes_of rfl rfl rfl rfl) (hr.mono (by decide)) rfl T.p_l_leads.g T.p_l_leads.F.kp T.p_l_leads.b (ph_cons (pd_name (pv 0)) (ph_cons (pd_name (pv 1)) (ph_cons (pd_name (pv 3)) ph_nil (by rfl)) (by rfl)) (by rfl)) (by rfl) (by decide) (by rfl) (by rfl))) (by rfl) (by first | exact Or.inl rfl | exact Or.inr rfl))
    (ss_cons (s_set (i := 6) S.nd rfl (by first | exact Or.inl rfl | exact Or.inr rfl) (toD (pn_and (pn_cmp (op_eqD hr.units) sem_eq (toD (pn_b1 call_lenAny sem_len rfl T.z_len (by rfl) (pd_name (pv 5)) (by decide) (by decide) (by rfl) (by rfl))) (toD (pn_bin op_addAny sem_add (toD (pn_b1 call_lenAny sem_len rfl T.z_len (by rfl) (pd_name (pv 3)) (by decide) (by decide) (by rfl) (by rfl))) pd_int)) (by rfl)) (pn_one (pn_cmp (op_eqD hr.units) sem_eq (toD (pn_ix ix_seq sem_ix (pd_name (pv 5)) (toD (pn_bin op_sub sem_sub (toD (pn_b1 call_lenAny sem_len rfl T.z_len (by rfl) (pd_name (pv 5)) (by decide) (by decide) (by rfl) (by rfl))) pd_int)) (fun _ _ => rfl))) (pd_name (pv 2)) (by rfl))))) (by rfl) (by first | exact Or.inl rfl | exact Or.inr rfl))
    (ss_one (s_ret (pn_call (ok_l_is T) (takes_of rfl rfl rfl rfl) (hr.mono (by decide)) rfl T.p_l_is.g T.p_l_is.F.kp T.p_l_is.b (ph_cons (pd_name (pv 0)) (ph_cons (pd_name (pv 1)) (ph_cons (pd_name (pv 2)) (ph_cons (pd_name (pv 3)) (ph_cons (pd_name (pv 6)) (ph_cons (pd_name (pv 4)) ph_nil (by rfl)) (by rfl)) (by rfl)) (by rfl)) (by rfl)) (by rfl)) (by rfl) (by decide) (by rfl) (by rfl))))))
theorem sc_l_faults : FnScope ["chest", "setting", "row", "steps", "named", "many", "rows", "end", "at", "step", "great", "listed", "bads", "bad", "thing", "other", "swapped", "turned", "goal"] ["chest", "setting", "row", "steps", "named"] (defScope s_l_faults) := ⟨rfl, rfl, rfl, by decide +kernel, rfl, by decide +kernel, by decide +kernel⟩
theorem ok_l_faults (T : Tx Pr K mg) : FnOk Pr w K mg base (L2.CX Pr w) 8 T.a_l_faults T.d_l_faults ["chest", "setting", "row", "steps", "named"] (spF K (["chest", "setting", "row", "steps", "named"] : List Str).length F_l_faults) :=
  fn_ok (k := 7) T.p_l_faults.F sc_l_faults fun cdv A outer s H E n0 hr => by
    have S := sc_l_faults
    exact (ss_cons (s_set (i := 5) S.nd rfl (by first | exact Or.inl rfl | exact Or.inr rfl) (toD (pn_b1 call_lenAny sem_len rfl T.z_len (by rfl) (toD (pn_ix ix_seq sem_ix (pd_name (pv 1)) pd_int (fun _ _ => rfl))) (by decide) (by decide) (by rfl) (by rfl))) (by rfl) (by first | exact Or.inl rfl | exact Or.inr rfl))
    (ss_cons (s_set (i := 6) S.nd rfl (by first | exact Or.inl rfl | exact Or.inr rfl) (toD (pn_call (ok_l_leads T) (takes_of rfl rfl rfl rfl) (hr.mono (by decide)) rfl T.p_l_leads.g T.p_l_leads.F.kp T.p_l_leads.b (ph_cons (pd_name (pv 1)) (ph_cons (pd_name (pv 2)) (ph_cons (pd_name (pv 3)) ph_nil (by rfl)) (by rfl)) (by rfl)) (by rfl) (by decide) (by rfl) (by rfl))) (by rfl) (by first | exact Or.inl rfl | exact Or.inr rfl))
    (ss_cons (s_set (i := 7) S.nd rfl (by first | exact Or.inl rfl | exact Or.inr rfl) (toD (pn_ix ix_seq sem_ix (pd_name (pv 6)) (toD (pn_bin op_sub sem_sub (toD (pn_b1 call_lenAny sem_len rfl T.z_len (by rfl) (pd_name (pv 6)) (by decide) (by decide) (by rfl) (by rfl))) pd_int)) (fun _ _ => rfl))) (by rfl) (by first | exact Or.inl rfl | exact Or.inr rfl))
    (ss_cons (s_set (i := 8) S.nd rfl (by first | exact Or.inl rfl | exact Or.inr rfl) (toD (pn_call (ok_l_lift T) (takes_of rfl rfl rfl rfl) (hr.mono (by decide)) rfl T.p_l_lift.g T.p_l_lift.F.kp T.p_l_lift.b (ph_cons (pd_name (pv 0)) (ph_cons (toD (pn_b1 call_lenAny sem_len rfl T.z_len (by rfl) (pd_name (pv 3)) (by decide) (by decide) (by rfl) (by rfl))) ph_nil (by rfl)) (by rfl)) (by rfl) (by decide) (by rfl) (by rfl))) (by rfl) (by first | exact Or.inl rfl | exact Or.inr rfl))
    (ss_cons (s_set (i := 9) S.nd rfl (by first | exact Or.inl rfl | exact Or.inr rfl) (toD (pn_ix ix_seq sem_ix (pd_name (pv 3)) (pd_name (pv 8)) (fun _ _ => rfl))) (by rfl) (by first | exact Or.inl rfl | exact Or.inr rfl))
    (ss_cons (s_set (i := 10) S.nd rfl (by first | exact Or.inl rfl | exact Or.inr rfl) (toD (pn_bin op_sub sem_sub (toD (pn_bin op_mulW sem_mul (toD (pn_bin op_pow sem_pow pd_int pd_int)) (toD (pn_bin op_pow sem_pow pd_int pd_int)))) pd_int)) (by rfl) (by first | exact Or.inl rfl | exact Or.inr rfl))
    (ss_cons (s_set (i := 11) S.nd rfl (by first | exact Or.inl rfl | exact Or.inr rfl) (toD (pn_lst (pi_consD (toD (pn_t1 call_list_of sem_list rfl T.z_list (by rfl) (pd_name (pv 3)) (by decide) (by decide) (by rfl) (by rfl))) (pi_consD (toD (pn_t1 call_list_of sem_list rfl T.z_list (by rfl) (toD (pn_ix ix_seq sem_ix (pd_name (pv 3)) pd_int (fun _ _ => rfl))) (by decide) (by decide) (by rfl) (by rfl))) pi_nilD (by rfl)) (by rfl)))) (by rfl) (by first | exact Or.inl rfl | exact Or.inr rfl))
    (ss_cons (s_new (i := 12) S.nd rfl (by first | exact Or.inl rfl | exact Or.inr rfl) (pn_lst (pi_consD (toD (pn_ix ix_seq sem_ix (pd_name (pv 11)) pd_int (fun _ _ => rfl))) (pi_consD (toD (pn_slice (pd_name (pv 9)) po_noneD (po_someD pd_int))) (pi_consD (toD (pn_bin op_addAny sem_add (pd_name (pv 9)) (toD (pn_tup (pi_consD pd_int pi_nilD (by rfl)))))) (pi_consD (toD (pn_tup pi_nilD)) (pi_consD pd_non (pi_consD pd_bl (pi_consD pd_int (pi_consD pd_str (pi_consD (toD (pn_tup (pi_consD (pd_name (pv 9)) pi_nilD (by rfl)))) (pi_consD (toD (pn_tup (pi_consD (pd_name (pv 5)) (pi_consD (toD (pn_ix ix_seq sem_ix (pd_name (pv 9)) pd_int (fun _ _ => rfl))) (pi_consD (toD (pn_ix ix_seq sem_ix (pd_name (pv 9)) pd_int (fun _ _ => rfl))) pi_nilD (by rfl)) (by rfl)) (by rfl)))) (pi_consD (toD (pn_tup (pi_consD (toD (pn_un un_neg sem_neg pd_int)) (pi_consD (toD (pn_ix ix_seq sem_ix (pd_name (pv 9)) pd_int (fun _ _ => rfl))) (pi_consD pd_int pi_nilD (by rfl)) (by rfl)) (by rfl)))) pi_nilD (by rfl)) (by rfl)) (by rfl)) (by rfl)) (by rfl)) (by rfl)) (by rfl)) (by rfl)) (by rfl)) (by rfl)) (by rfl))) (by rfl) (by first | exact Or.inl rfl | exact Or.inr rfl))
    (ss_cons (s_new (i := 12) S.nd rfl (by first | exact Or.inl rfl | exact Or.inr rfl) (pn_bin op_addAny sem_add (pd_name (pv 12)) (toD (pn_lst (pi_consD (toD (pn_tup (pi_consD (toD (pn_ix ix_seq sem_ix (pd_name (pv 9)) pd_int (fun _ _ => rfl))) (pi_consD (toD (pn_ix ix_seq sem_ix (pd_name (pv 9)) pd_int (fun _ _ => rfl))) (pi_consD pd_int pi_nilD (by rfl)) (by rfl)) (by rfl)))) (pi_consD (toD (pn_tup (pi_consD (toD (pn_ix ix_seq sem_ix (pd_name (pv 9)) pd_int (fun _ _ => rfl))) (pi_consD (toD (pn_un un_neg sem_neg pd_int)) (pi_consD (toD (pn_ix ix_seq sem_ix (pd_name (pv 9)) pd_int (fun _ _ => rfl))) pi_nilD (by rfl)) (by rfl)) (by rfl)))) (pi_consD (toD (pn_tup (pi_consD (toD (pn_ix ix_seq sem_ix (pd_name (pv 9)) pd_int (fun _ _ => rfl))) (pi_consD (toD (pn_ix ix_seq sem_ix (pd_name (pv 9)) pd_int (fun _ _ => rfl))) (pi_consD (toD (pn_un un_neg sem_neg pd_int)) pi_nilD (by rfl)) (by rfl)) (by rfl)))) (pi_consD (toD (pn_tup (pi_consD (toD (pn_ix ix_seq sem_ix (pd_name (pv 9)) pd_int (fun _ _ => rfl))) (pi_consD (toD (pn_ix ix_seq sem_ix (pd_name (pv 9)) pd_int (fun _ _ => rfl))) (pi_consD pd_non pi_nilD (by rfl)) (by rfl)) (by rfl)))) pi_nilD (by rfl)) (by rfl)) (by rfl)) (by rfl))))) (by rfl) (by first | exact Or.inl rfl | exact Or.inr rfl))
    (ss_cons (s_new (i := 12) S.nd rfl (by first | exact Or.inl rfl | exact Or.inr rfl) (pn_bin op_addAny sem_add (pd_name (pv 12)) (toD (pn_lst (pi_consD (toD (pn_tup (pi_consD (toD (pn_ix ix_seq sem_ix (pd_name (pv 9)) pd_int (fun _ _ => rfl))) (pi_consD (toD (pn_ix ix_seq sem_ix (pd_name (pv 9)) pd_int (fun _ _ => rfl))) (pi_consD (toD (pn_cmp (op_eqD hr.units) sem_eq (toD (pn_ix ix_seq sem_ix (pd_name (pv 9)) pd_int (fun _ _ => rfl))) pd_int (by rfl))) pi_nilD (by rfl)) (by rfl)) (by rfl)))) (pi_consD (toD (pn_tup (pi_consD (pd_name (pv 10)) (pi_consD (toD (pn_ix ix_seq sem_ix (pd_name (pv 9)) pd_int (fun _ _ => rfl))) (pi_consD (toD (pn_ix ix_seq sem_ix (pd_name (pv 9)) pd_int (fun _ _ => rfl))) pi_nilD (by rfl)) (by rfl)) (by rfl)))) (pi_consD (toD (pn_tup (pi_consD (toD (pn_ix ix_seq sem_ix (pd_name (pv 9)) pd_int (fun _ _ => rfl))) (pi_consD (pd_name (pv 10)) (pi_consD (toD (pn_ix ix_seq sem_ix (pd_name (pv 9)) pd_int (fun _ _ => rfl))) pi_nilD (by rfl)) (by rfl)) (by rfl)))) (pi_consD (toD (pn_t1 call_list_of sem_list rfl T.z_list (by rfl) (pd_name (pv 9)) (by decide) (by decide) (by rfl) (by rfl))) pi_nilD (by rfl)) (by rfl)) (by rfl)) (by rfl))))) (by rfl) (by first | exact Or.inl rfl | exact Or.inr rfl))
    (ss_cons (s_if (pt_cmpD op_lt sem_lt (toD (pn_ix ix_seq sem_ix (pd_name (pv 9)) pd_int (fun _ _ => rfl))) pd_int (by rfl)) (ss_one (s_app (ps_expr (pe_bm PySem.F.plainAttrs_list PySem.F.slot_list_append PySem.F.type_list_append mt_append (pv 12) (pa_cons (toD (pn_tup (pi_consD (toD (pn_cmp (op_eqD hr.units) sem_eq (toD (pn_ix ix_seq sem_ix (pd_name (pv 9)) pd_int (fun _ _ => rfl))) pd_int (by rfl))) (pi_consD (toD (pn_ix ix_seq sem_ix (pd_name (pv 9)) pd_int (fun _ _ => rfl))) (pi_consD (toD (pn_ix ix_seq sem_ix (pd_name (pv 9)) pd_int (fun _ _ => rfl))) pi_nilD (by rfl)) (by rfl)) (by rfl)))) pa_nil))))) ss_nil)
    (ss_cons (s_if (pt_cmpD op_lt sem_lt (toD (pn_ix ix_seq sem_ix (pd_name (pv 9)) pd_int (fun _ _ => rfl))) pd_int (by rfl)) (ss_one (s_app (ps_expr (pe_bm PySem.F.plainAttrs_list PySem.F.slot_list_append PySem.F.type_list_append mt_append (pv 12) (pa_cons (toD (pn_tup (pi_consD (toD (pn_ix ix_seq sem_ix (pd_name (pv 9)) pd_int (fun _ _ => rfl))) (pi_consD (toD (pn_cmp (op_eqD hr.units) sem_eq (toD (pn_ix ix_seq sem_ix (pd_name (pv 9)) pd_int (fun _ _ => rfl))) pd_int (by rfl))) (pi_consD (toD (pn_ix ix_seq sem_ix (pd_name (pv 9)) pd_int (fun _ _ => rfl))) pi_nilD (by rfl)) (by rfl)) (by rfl)))) pa_nil))))) ss_nil)
    (ss_cons (s_forC (passes_of rfl) rfl (pv 12) (pg_name (i := 13) S.nd rfl (by first | exact Or.inl rfl | exact Or.inr rfl)) tgok_name (ss_one (s_if (pt_notD (pt_truthD (toD (pn_call (ok_l_is T) (takes_of rfl rfl rfl rfl) (hr.mono (by decide)) rfl T.p_l_is.g T.p_l_is.F.kp T.p_l_is.b (ph_cons (pd_name (pv 1)) (ph_cons (pd_name (pv 2)) (ph_cons (pd_name (pv 7)) (ph_cons (toD (pn_bin op_addAny sem_add (toD (pn_bin op_addAny sem_add (toD (pn_slice (pd_name (pv 3)) po_noneD (po_someD (pd_name (pv 8))))) (toD (pn_tup (pi_consD (pd_name (pv 13)) pi_nilD (by rfl)))))) (toD (pn_slice (pd_name (pv 3)) (po_someD (toD (pn_bin op_addAny sem_add (pd_name (pv 8)) pd_int))) po_noneD)))) (ph_cons pd_bl (ph_cons (pd_name (pv 4)) ph_nil (by rfl)) (by rfl)) (by rfl)) (by rfl)) (by rfl)) (by rfl)) (by rfl) (by decide) (by rfl) (by rfl))) (fun _ => rfl))) (ss_one (s_ret (toN' pd_bl))) ss_nil)) (fun _ => rfl))
    (ss_cons (s_for (passes_of rfl) rfl (pw_any (toD (pn_lst (pi_consD (toD (pn_ix ix_seq sem_ix (pd_name (pv 11)) pd_int (fun _ _ => rfl))) (pi_consD pd_non (pi_consD pd_bl (pi_consD pd_int (pi_consD pd_int (pi_consD pd_str (pi_consD pd_str (pi_consD (toD (pn_lst pi_nilD)) (pi_consD (toD (pn_lst (pi_consD (toD (pn_ix ix_seq sem_ix (pd_name (pv 11)) pd_int (fun _ _ => rfl))) pi_nilD (by rfl)))) (pi_consD (toD (pn_tup (pi_consD (pd_name (pv 3)) pi_nilD (by rfl)))) (pi_consD (pd_name (pv 9)) (pi_consD (toD (pn_t1 call_list_of sem_list rfl T.z_list (by rfl) (pd_name (pv 9)) (by decide) (by decide) (by rfl) (by rfl))) (pi_consD (toD (pn_un un_neg sem_neg pd_int)) pi_nilD (by rfl)) (by rfl)) (by rfl)) (by rfl)) (by rfl)) (by rfl)) (by rfl)) (by rfl)) (by rfl)) (by rfl)) (by rfl)) (by rfl)) (by rfl))))) (pg_name (i := 14) S.nd rfl (by first | exact Or.inl rfl | exact Or.inr rfl)) tgok_name (ss_one (s_if (pt_notD (pt_truthD (toD (pn_call (ok_l_is T) (takes_of rfl rfl rfl rfl) (hr.mono (by decide)) rfl T.p_l_is.g T.p_l_is.F.kp T.p_l_is.b (ph_cons (pd_name (pv 1)) (ph_cons (pd_name (pv 2)) (ph_cons (pd_name (pv 7)) (ph_cons (pd_name (pv 14)) (ph_cons pd_bl (ph_cons (pd_name (pv 4)) ph_nil (by rfl)) (by rfl)) (by rfl)) (by rfl)) (by rfl)) (by rfl)) (by rfl) (by decide) (by rfl) (by rfl))) (fun _ => rfl))) (ss_one (s_ret (toN' pd_bl))) ss_nil)) (fun _ => rfl))
    (ss_cons (s_if (PW.pt (pw_orD (pt_cmpD (op_neD hr.units) sem_ne (toD (pn_ix ix_seq sem_ix (pd_name (pv 11)) pd_int (fun _ _ => rfl))) (toD (pn_t1 call_list_of sem_list rfl T.z_list (by rfl) (pd_name (pv 3)) (by decide) (by decide) (by rfl) (by rfl))) (by rfl)) (pw_orD (pt_cmpD (op_neD hr.units) sem_ne (toD (pn_ix ix_seq sem_ix (pd_name (pv 11)) pd_int (fun _ _ => rfl))) (toD (pn_t1 call_list_of sem_list rfl T.z_list (by rfl) (toD (pn_ix ix_seq sem_ix (pd_name (pv 3)) pd_int (fun _ _ => rfl))) (by decide) (by decide) (by rfl) (by rfl))) (by rfl)) (pw_or1 (pt_cmpD (op_neD hr.units) sem_ne (toD (pn_b1 call_lenAny sem_len rfl T.z_len (by rfl) (pd_name (pv 11)) (by decide) (by decide) (by rfl) (by rfl))) pd_int (by rfl)))))) (ss_one (s_ret (toN' pd_bl))) ss_nil)
    (ss_cons (s_set (i := 15) S.nd rfl (by first | exact Or.inl rfl | exact Or.inr rfl) (toD (pn_bin op_mod sem_mod (toD (pn_t1 call_int1 sem_toInt rfl T.z_int (by rfl) (toD (pn_bin op_addAny sem_add (pd_name (pv 8)) pd_int)) (by decide) (by decide) (by rfl) (by rfl))) (toD (pn_b1 call_lenAny sem_len rfl T.z_len (by rfl) (pd_name (pv 3)) (by decide) (by decide) (by rfl) (by rfl))))) (by rfl) (by first | exact Or.inl rfl | exact Or.inr rfl))
    (ss_cons (s_new (i := 16) S.nd rfl (by first | exact Or.inl rfl | exact Or.inr rfl) (pn_t1 call_list_of sem_list rfl T.z_list (by rfl) (pd_name (pv 3)) (by decide) (by decide) (by rfl) (by rfl)) (by rfl) (by first | exact Or.inl rfl | exact Or.inr rfl))
    (ss_cons (s_setI (ps_asg (toD (pn_ix ix_seq sem_ix (pd_name (pv 3)) (pd_name (pv 15)) (fun _ _ => rfl))) (pg_sub (pv 16) (pd_name (pv 8)) set_list)))
    (ss_cons (s_setI (ps_asg (pd_name (pv 9)) (pg_sub (pv 16) (pd_name (pv 15)) set_list)))
    (ss_cons (s_set (i := 17) S.nd rfl (by first | exact Or.inl rfl | exact Or.inr rfl) (toD (pn_tup (pi_consD (toD (pn_ix ix_seq sem_ix (pd_name (pv 9)) pd_int (fun _ _ => rfl))) (pi_consD (toD (pn_ix ix_seq sem_ix (pd_name (pv 9)) pd_int (fun _ _ => rfl))) (pi_consD (toD (pn_bin op_sub sem_sub pd_int (toD (pn_ix ix_seq sem_ix (pd_name (pv 9)) pd_int (fun _ _ => rfl))))) pi_nilD (by rfl)) (by rfl)) (by rfl)))) (by rfl) (by first | exact Or.inl rfl | exact Or.inr rfl))
    (ss_cons (s_for (passes_of rfl) rfl (pw_any (toD (pn_lst (pi_consD (toD (pn_bin op_addAny sem_add (toD (pn_slice (pd_name (pv 3)) po_noneD (po_someD (pd_name (pv 8))))) (toD (pn_slice (pd_name (pv 3)) (po_someD (toD (pn_bin op_addAny sem_add (pd_name (pv 8)) pd_int))) po_noneD)))) (pi_consD (toD (pn_slice (pd_name (pv 3)) po_noneD (po_someD (toD (pn_un un_neg sem_neg pd_int))))) (pi_consD (toD (pn_slice (pd_name (pv 3)) (po_someD pd_int) po_noneD)) (pi_consD (toD (pn_bin op_addAny sem_add (pd_name (pv 3)) (toD (pn_tup (pi_consD (pd_name (pv 9)) pi_nilD (by rfl)))))) (pi_consD (toD (pn_bin op_addAny sem_add (pd_name (pv 3)) (pd_name (pv 3)))) (pi_consD (toD (pn_t1 call_tuple_of sem_tuple rfl T.z_tuple (by rfl) (pd_name (pv 16)) (by decide) (by decide) (by rfl) (by rfl))) (pi_consD (toD (pn_tup pi_nilD)) pi_nilD (by rfl)) (by rfl)) (by rfl)) (by rfl)) (by rfl)) (by rfl)) (by rfl))))) (pg_name (i := 14) S.nd rfl (by first | exact Or.inl rfl | exact Or.inr rfl)) tgok_name (ss_one (s_if (pt_notD (pt_truthD (toD (pn_call (ok_l_judge T) (takes_of rfl rfl rfl rfl) (hr.mono (by decide)) rfl T.p_l_judge.g T.p_l_judge.F.kp T.p_l_judge.b (ph_cons (pd_name (pv 1)) (ph_cons (pd_name (pv 2)) (ph_cons (pd_name (pv 7)) (ph_cons (pd_name (pv 14)) (ph_cons (pd_name (pv 4)) ph_nil (by rfl)) (by rfl)) (by rfl)) (by rfl)) (by rfl)) (by rfl) (by decide) (by rfl) (by rfl))) (fun _ => rfl))) (ss_one (s_ret (toN' pd_bl))) ss_nil)) (fun _ => rfl))
    (ss_cons (s_for (passes_of rfl) rfl (pw_any (toD (pn_lst (pi_consD (toD (pn_bin op_addAny sem_add (toD (pn_bin op_addAny sem_add (toD (pn_slice (pd_name (pv 3)) po_noneD (po_someD (pd_name (pv 8))))) (toD (pn_tup (pi_consD (pd_name (pv 17)) pi_nilD (by rfl)))))) (toD (pn_slice (pd_name (pv 3)) (po_someD (toD (pn_bin op_addAny sem_add (pd_name (pv 8)) pd_int))) po_noneD)))) (pi_consD (toD (pn_bin op_addAny sem_add (toD (pn_bin op_addAny sem_add (toD (pn_slice (pd_name (pv 3)) po_noneD (po_someD (toD (pn_bin op_addAny sem_add (pd_name (pv 8)) pd_int))))) (toD (pn_tup (pi_consD (pd_name (pv 17)) (pi_consD (pd_name (pv 9)) pi_nilD (by rfl)) (by rfl)))))) (toD (pn_slice (pd_name (pv 3)) (po_someD (toD (pn_bin op_addAny sem_add (pd_name (pv 8)) pd_int))) po_noneD)))) (pi_consD (toD (pn_bin op_addAny sem_add (toD (pn_tup (pi_consD (pd_name (pv 9)) pi_nilD (by rfl)))) (pd_name (pv 3)))) pi_nilD (by rfl)) (by rfl)) (by rfl))))) (pg_name (i := 14) S.nd rfl (by first | exact Or.inl rfl | exact Or.inr rfl)) tgok_name (ss_one (s_if (PW.pt (pw_orD (pt_notD (pt_truthD (toD (pn_call (ok_l_judge T) (takes_of rfl rfl rfl rfl) (hr.mono (by decide)) rfl T.p_l_judge.g T.p_l_judge.F.kp T.p_l_judge.b (ph_cons (pd_name (pv 1)) (ph_cons (pd_name (pv 2)) (ph_cons (pd_name (pv 7)) (ph_cons (pd_name (pv 14)) (ph_cons (pd_name (pv 4)) ph_nil (by rfl)) (by rfl)) (by rfl)) (by rfl)) (by rfl)) (by rfl) (by decide) (by rfl) (by rfl))) (fun _ => rfl))) (pw_or1 (pt_notD (pt_truthD (toD (pn_call (ok_l_judge T) (takes_of rfl rfl rfl rfl) (hr.mono (by decide)) rfl T.p_l_judge.g T.p_l_judge.F.kp T.p_l_judge.b (ph_cons (pd_name (pv 1)) (ph_cons (pd_name (pv 7)) (ph_cons (pd_name (pv 2)) (ph_cons (pd_name (pv 14)) (ph_cons (pd_name (pv 4)) ph_nil (by rfl)) (by rfl)) (by rfl)) (by rfl)) (by rfl)) (by rfl) (by decide) (by rfl) (by rfl))) (fun _ => rfl)))))) (ss_one (s_ret (toN' pd_bl))) ss_nil)) (fun _ => rfl))
    (ss_cons (s_for (passes_of rfl) rfl (pw_any (toD (pn_lst (pi_consD (pd_name (pv 2)) (pi_consD (toD (pn_bin op_addAny sem_add (pd_name (pv 7)) (toD (pn_tup (pi_consD pd_int pi_nilD (by rfl)))))) (pi_consD (toD (pn_slice (pd_name (pv 7)) (po_someD pd_int) po_noneD)) (pi_consD (toD (pn_ix ix_seq sem_ix (pd_name (pv 6)) (pd_name (pv 8)) (fun _ _ => rfl))) (pi_consD (toD (pn_bin op_addAny sem_add (toD (pn_slice (pd_name (pv 7)) po_noneD (po_someD (toD (pn_un un_neg sem_neg pd_int))))) (toD (pn_tup (pi_consD pd_int pi_nilD (by rfl)))))) (pi_consD (toD (pn_tupRev rfl rfl T.z_tuple rfl T.z_reversed (toD (pn_t1 call_list_of sem_list rfl T.z_list (by rfl) (pd_name (pv 7)) (by decide) (by decide) (by rfl) (by rfl))) (by rfl) (by rfl))) pi_nilD (by rfl)) (by rfl)) (by rfl)) (by rfl)) (by rfl)) (by rfl))))) (pg_name (i := 18) S.nd rfl (by first | exact Or.inl rfl | exact Or.inr rfl)) tgok_name (ss_one (s_if (PW.pt (pw_andD (pt_cmpD op_le sem_le (toD (pn_b1 call_lenAny sem_len rfl T.z_len (by rfl) (pd_name (pv 18)) (by decide) (by decide) (by rfl) (by rfl))) pd_int (by rfl)) (pw_and1 (pt_notD (pt_truthD (toD (pn_call (ok_l_judge T) (takes_of rfl rfl rfl rfl) (hr.mono (by decide)) rfl T.p_l_judge.g T.p_l_judge.F.kp T.p_l_judge.b (ph_cons (pd_name (pv 1)) (ph_cons (pd_name (pv 2)) (ph_cons (pd_name (pv 18)) (ph_cons (pd_name (pv 3)) (ph_cons (pd_name (pv 4)) ph_nil (by rfl)) (by rfl)) (by rfl)) (by rfl)) (by rfl)) (by rfl) (by decide) (by rfl) (by rfl))) (fun _ => rfl)))))) (ss_one (s_ret (toN' pd_bl))) ss_nil)) (fun _ => rfl))
    (ss_one (s_ret (toN' pd_bl))))))))))))))))))))))))))
theorem sc_l_path : FnScope ["chest", "setting", "row", "laps", "named", "end", "back", "other", "steps", "rows", "step"] ["chest", "setting", "row", "laps", "named"] (defScope s_l_path) := ⟨rfl, rfl, rfl, by decide +kernel, rfl, by decide +kernel, by decide +kernel⟩
theorem ok_l_path (T : Tx Pr K mg) : FnOk Pr w K mg base (L2.CX Pr w) 9 T.a_l_path T.d_l_path ["chest", "setting", "row", "laps", "named"] (spF K (["chest", "setting", "row", "laps", "named"] : List Str).length F_l_path) :=
  fn_ok (k := 8) T.p_l_path.F sc_l_path fun cdv A outer s H E n0 hr => by
    have S := sc_l_path
    exact (ss_cons (s_asg (tgok_any (tgsok_cons (i := 8) (tgsok_cons (i := 9) tgsok_nil)) rfl) (ps_asg (toD (pn_call (ok_l_walk T) (takes_of rfl rfl rfl rfl) (hr.mono (by decide)) rfl T.p_l_walk.g T.p_l_walk.F.kp T.p_l_walk.b (ph_cons (pd_name (pv 0)) (ph_cons (pd_name (pv 1)) (ph_cons (pd_name (pv 2)) (ph_cons (pd_name (pv 3)) (ph_cons pd_int ph_nil (by rfl)) (by rfl)) (by rfl)) (by rfl)) (by rfl)) (by rfl) (by decide) (by rfl) (by rfl))) (pg_any (n := 2) rfl (pgs_cons (pg_name (i := 8) S.nd rfl (by first | exact Or.inl rfl | exact Or.inr rfl)) (pgs_cons (pg_name (i := 9) S.nd rfl (by first | exact Or.inl rfl | exact Or.inr rfl)) pgs_nil)))))
    (ss_cons (s_set (i := 5) S.nd rfl (by first | exact Or.inl rfl | exact Or.inr rfl) (toD (pn_ix ix_seq sem_ix (pd_name (pv 9)) (toD (pn_bin op_sub sem_sub (toD (pn_b1 call_lenAny sem_len rfl T.z_len (by rfl) (pd_name (pv 9)) (by decide) (by decide) (by rfl) (by rfl))) pd_int)) (fun _ _ => rfl))) (by rfl) (by first | exact Or.inl rfl | exact Or.inr rfl))
    (ss_cons (s_if (PW.pt (pw_orD (pt_notD (pt_truthD (toD (pn_call (ok_l_runs T) (takes_of rfl rfl rfl rfl) (hr.mono (by decide)) rfl T.p_l_runs.g T.p_l_runs.F.kp T.p_l_runs.b (ph_cons (pd_name (pv 1)) (ph_cons (pd_name (pv 2)) (ph_cons (pd_name (pv 8)) (ph_cons (pd_name (pv 4)) ph_nil (by rfl)) (by rfl)) (by rfl)) (by rfl)) (by rfl) (by decide) (by rfl) (by rfl))) (fun _ => rfl))) (pw_or1 (pt_notD (pt_truthD (toD (pn_call (ok_l_is T) (takes_of rfl rfl rfl rfl) (hr.mono (by decide)) rfl T.p_l_is.g T.p_l_is.F.kp T.p_l_is.b (ph_cons (pd_name (pv 1)) (ph_cons (pd_name (pv 2)) (ph_cons (pd_name (pv 5)) (ph_cons (pd_name (pv 8)) (ph_cons pd_bl (ph_cons (pd_name (pv 4)) ph_nil (by rfl)) (by rfl)) (by rfl)) (by rfl)) (by rfl)) (by rfl)) (by rfl) (by decide) (by rfl) (by rfl))) (fun _ => rfl)))))) (ss_one (s_ret (toN' pd_bl))) ss_nil)
    (ss_cons (s_set (i := 6) S.nd rfl (by first | exact Or.inl rfl | exact Or.inr rfl) (toD (pn_t1 call_tuple_of sem_tuple rfl T.z_tuple (by rfl) (toD (pn_lc (own := [("step", 10)]) (t := (tgName 10)) (c := bYes) rfl S.nd (pw_revA rfl T.z_reversed (toD (pn_t1 call_list_of sem_list rfl T.z_list (by rfl) (pd_name (pv 8)) (by decide) (by decide) (by rfl) (by rfl))) (by rfl)) (blkOk_by (N := ["chest", "setting", "row", "laps", "named", "end", "back", "other", "steps", "rows", "step"]) (sc := defScope s_l_path) (by decide +kernel)) (fun _ _ _ _ _ => (pg_name (i := 10) S.nd rfl (by first | exact Or.inl rfl | exact Or.inr rfl))) (fun _ _ _ _ _ => pts_yes) (fun _ _ _ _ _ => (toD (pn_tup (pi_consD (toD (pn_ix ix_seq sem_ix (pd_name (pv 10)) pd_int (fun _ _ => rfl))) (pi_consD (toD (pn_ix ix_seq sem_ix (pd_name (pv 10)) pd_int (fun _ _ => rfl))) (pi_consD (toD (pn_bin op_sub sem_sub pd_int (toD (pn_ix ix_seq sem_ix (pd_name (pv 10)) pd_int (fun _ _ => rfl))))) pi_nilD (by rfl)) (by rfl)) (by rfl))))) tgok_name (tgin_name (by decide)) (fun _ => rfl))) (by decide) (by decide) (by rfl) (by rfl))) (by rfl) (by first | exact Or.inl rfl | exact Or.inr rfl))
    (ss_cons (s_if (PW.pt (pw_orD (pt_notD (pt_truthD (toD (pn_call (ok_l_turns T) (takes_of rfl rfl rfl rfl) (hr.mono (by decide)) rfl T.p_l_turns.g T.p_l_turns.F.kp T.p_l_turns.b (ph_cons (pd_name (pv 1)) (ph_cons (pd_name (pv 8)) (ph_cons (pd_name (pv 4)) ph_nil (by rfl)) (by rfl)) (by rfl)) (by rfl) (by decide) (by rfl) (by rfl))) (fun _ => rfl))) (pw_or1 (pt_notD (pt_truthD (toD (pn_call (ok_l_runs T) (takes_of rfl rfl rfl rfl) (hr.mono (by decide)) rfl T.p_l_runs.g T.p_l_runs.F.kp T.p_l_runs.b (ph_cons (pd_name (pv 1)) (ph_cons (pd_name (pv 5)) (ph_cons (pd_name (pv 6)) (ph_cons (pd_name (pv 4)) ph_nil (by rfl)) (by rfl)) (by rfl)) (by rfl)) (by rfl) (by decide) (by rfl) (by rfl))) (fun _ => rfl)))))) (ss_one (s_ret (toN' pd_bl))) ss_nil)
    (ss_cons (s_if (PW.pt (pw_orD (pt_notD (pt_truthD (toD (pn_call (ok_l_is T) (takes_of rfl rfl rfl rfl) (hr.mono (by decide)) rfl T.p_l_is.g T.p_l_is.F.kp T.p_l_is.b (ph_cons (pd_name (pv 1)) (ph_cons (pd_name (pv 5)) (ph_cons (pd_name (pv 2)) (ph_cons (pd_name (pv 6)) (ph_cons pd_bl (ph_cons (pd_name (pv 4)) ph_nil (by rfl)) (by rfl)) (by rfl)) (by rfl)) (by rfl)) (by rfl)) (by rfl) (by decide) (by rfl) (by rfl))) (fun _ => rfl))) (pw_or1 (pt_notD (pt_truthD (toD (pn_call (ok_l_turns T) (takes_of rfl rfl rfl rfl) (hr.mono (by decide)) rfl T.p_l_turns.g T.p_l_turns.F.kp T.p_l_turns.b (ph_cons (pd_name (pv 1)) (ph_cons (pd_name (pv 6)) (ph_cons (pd_name (pv 4)) ph_nil (by rfl)) (by rfl)) (by rfl)) (by rfl) (by decide) (by rfl) (by rfl))) (fun _ => rfl)))))) (ss_one (s_ret (toN' pd_bl))) ss_nil)
    (ss_cons (s_set (i := 7) S.nd rfl (by first | exact Or.inl rfl | exact Or.inr rfl) (toD (pn_if (pt_cmpD op_gt sem_gt (toD (pn_b1 call_lenAny sem_len rfl T.z_len (by rfl) (pd_name (pv 2)) (by decide) (by decide) (by rfl) (by rfl))) pd_int (by rfl)) (pn_slice (pd_name (pv 2)) (po_someD pd_int) po_noneD) (pn_bin op_addAny sem_add (pd_name (pv 2)) (toD (pn_tup (pi_consD pd_int pi_nilD (by rfl))))))) (by rfl) (by first | exact Or.inl rfl | exact Or.inr rfl))
    (ss_cons (s_if (PW.pt (pw_orD (pt_notD (pt_truthD (toD (pn_call (ok_l_is T) (takes_of rfl rfl rfl rfl) (hr.mono (by decide)) rfl T.p_l_is.g T.p_l_is.F.kp T.p_l_is.b (ph_cons (pd_name (pv 1)) (ph_cons (pd_name (pv 2)) (ph_cons (pd_name (pv 2)) (ph_cons (toD (pn_bin op_addAny sem_add (pd_name (pv 8)) (pd_name (pv 6)))) (ph_cons pd_bl (ph_cons (pd_name (pv 4)) ph_nil (by rfl)) (by rfl)) (by rfl)) (by rfl)) (by rfl)) (by rfl)) (by rfl) (by decide) (by rfl) (by rfl))) (fun _ => rfl))) (pw_or1 (pt_notD (pt_truthD (toD (pn_call (ok_l_is T) (takes_of rfl rfl rfl rfl) (hr.mono (by decide)) rfl T.p_l_is.g T.p_l_is.F.kp T.p_l_is.b (ph_cons (pd_name (pv 1)) (ph_cons (pd_name (pv 2)) (ph_cons (pd_name (pv 7)) (ph_cons (toD (pn_bin op_addAny sem_add (pd_name (pv 8)) (pd_name (pv 6)))) (ph_cons pd_bl (ph_cons (pd_name (pv 4)) ph_nil (by rfl)) (by rfl)) (by rfl)) (by rfl)) (by rfl)) (by rfl)) (by rfl) (by decide) (by rfl) (by rfl))) (fun _ => rfl)))))) (ss_one (s_ret (toN' pd_bl))) ss_nil)
    (ss_cons (s_if (PW.pt (pw_andD (pt_cmpD op_gt sem_gt (toD (pn_b1 call_lenAny sem_len rfl T.z_len (by rfl) (pd_name (pv 8)) (by decide) (by decide) (by rfl) (by rfl))) pd_int (by rfl)) (pw_and1 (pt_notD (pt_truthD (toD (pn_call (ok_l_faults T) (takes_of rfl rfl rfl rfl) (hr.mono (by decide)) rfl T.p_l_faults.g T.p_l_faults.F.kp T.p_l_faults.b (ph_cons (pd_name (pv 0)) (ph_cons (pd_name (pv 1)) (ph_cons (pd_name (pv 2)) (ph_cons (toD (pn_slice (pd_name (pv 8)) po_noneD (po_someD pd_int))) (ph_cons (pd_name (pv 4)) ph_nil (by rfl)) (by rfl)) (by rfl)) (by rfl)) (by rfl)) (by rfl) (by decide) (by rfl) (by rfl))) (fun _ => rfl)))))) (ss_one (s_ret (toN' pd_bl))) ss_nil)
    (ss_one (s_ret (pn_or (pn_cmp (op_eqD hr.units) sem_eq (toD (pn_b1 call_lenAny sem_len rfl T.z_len (by rfl) (toD (pn_ix ix_seq sem_ix (pd_name (pv 1)) pd_int (fun _ _ => rfl))) (by decide) (by decide) (by rfl) (by rfl))) pd_int (by rfl)) (pn_one (pn_call (ok_l_broken T) (takes_of rfl rfl rfl rfl) (hr.mono (by decide)) rfl T.p_l_broken.g T.p_l_broken.F.kp T.p_l_broken.b (ph_cons (pd_name (pv 0)) (ph_cons (pd_name (pv 1)) (ph_cons (pd_name (pv 2)) (ph_cons (pd_name (pv 8)) (ph_cons (pd_name (pv 4)) ph_nil (by rfl)) (by rfl)) (by rfl)) (by rfl)) (by rfl)) (by rfl) (by decide) (by rfl) (by rfl)))))))))))))))
theorem sc_l_by_hand : FnScope ["chest", "named", "a", "b", "c", "low", "top", "setting", "steps", "rows", "told", "other"] ["chest", "named"] (defScope s_l_by_hand) := ⟨rfl, rfl, rfl, by decide +kernel, rfl, by decide +kernel, by decide +kernel⟩
theorem ok_l_by_hand (T : Tx Pr K mg) : FnOk Pr w K mg base (L2.CX Pr w) 9 T.a_l_by_hand T.d_l_by_hand ["chest", "named"] (spF K (["chest", "named"] : List Str).length F_l_by_hand) :=
  fn_ok (k := 8) T.p_l_by_hand.F sc_l_by_hand fun cdv A outer s H E n0 hr => by
    have S := sc_l_by_hand
    exact (ss_cons (s_set (i := 2) S.nd rfl (by first | exact Or.inl rfl | exact Or.inr rfl) (toD (pn_call (ok_l_lift T) (takes_of rfl rfl rfl rfl) (hr.mono (by decide)) rfl T.p_l_lift.g T.p_l_lift.F.kp T.p_l_lift.b (ph_cons (pd_name (pv 0)) (ph_cons pd_int ph_nil (by rfl)) (by rfl)) (by rfl) (by decide) (by rfl) (by rfl))) (by rfl) (by first | exact Or.inl rfl | exact Or.inr rfl))
    (ss_cons (s_set (i := 3) S.nd rfl (by first | exact Or.inl rfl | exact Or.inr rfl) (toD (pn_bin op_mod sem_mod (toD (pn_t1 call_int1 sem_toInt rfl T.z_int (by rfl) (toD (pn_bin op_addAny sem_add (toD (pn_bin op_addAny sem_add (pd_name (pv 2)) pd_int)) (toD (pn_call (ok_l_lift T) (takes_of rfl rfl rfl rfl) (hr.mono (by decide)) rfl T.p_l_lift.g T.p_l_lift.F.kp T.p_l_lift.b (ph_cons (pd_name (pv 0)) (ph_cons pd_int ph_nil (by rfl)) (by rfl)) (by rfl) (by decide) (by rfl) (by rfl))))) (by decide) (by decide) (by rfl) (by rfl))) pd_int)) (by rfl) (by first | exact Or.inl rfl | exact Or.inr rfl))
    (ss_cons (s_set (i := 4) S.nd rfl (by first | exact Or.inl rfl | exact Or.inr rfl) (toD (pn_bin op_sub sem_sub (toD (pn_bin op_sub sem_sub pd_int (pd_name (pv 2)))) (pd_name (pv 3)))) (by rfl) (by first | exact Or.inl rfl | exact Or.inr rfl))
    (ss_cons (s_set (i := 5) S.nd rfl (by first | exact Or.inl rfl | exact Or.inr rfl) (toD (pn_b2 (call_min2 rfl) sem_min rfl T.z_min (by rfl) (pd_name (pv 2)) (pd_name (pv 3)) (by decide) (by decide) (by rfl) (by rfl) (by rfl))) (by rfl) (by first | exact Or.inl rfl | exact Or.inr rfl))
    (ss_cons (s_set (i := 6) S.nd rfl (by first | exact Or.inl rfl | exact Or.inr rfl) (toD (pn_b2 (call_max2 rfl) sem_max rfl T.z_max (by rfl) (pd_name (pv 2)) (pd_name (pv 3)) (by decide) (by decide) (by rfl) (by rfl) (by rfl))) (by rfl) (by first | exact Or.inl rfl | exact Or.inr rfl))
    (ss_cons (s_set (i := 7) S.nd rfl (by first | exact Or.inl rfl | exact Or.inr rfl) (toD (pn_tup (pi_consD (toD (pn_tup (pi_consD pd_str (pi_consD pd_str (pi_consD pd_str pi_nilD (by rfl)) (by rfl)) (by rfl)))) (pi_consD (toD (pn_tup (pi_consD (toD (pn_tup (pi_consD pd_str (pi_consD (pd_name (pv 4)) pi_nilD (by rfl)) (by rfl)))) (pi_consD (toD (pn_tup (pi_consD pd_str (pi_consD (pd_name (pv 5)) (pi_consD (pd_name (pv 6)) pi_nilD (by rfl)) (by rfl)) (by rfl)))) (pi_consD (toD (pn_tup (pi_consD pd_str (pi_consD (pd_name (pv 4)) pi_nilD (by rfl)) (by rfl)))) (pi_consD (toD (pn_tup (pi_consD pd_str (pi_consD (pd_name (pv 5)) (pi_consD (pd_name (pv 6)) pi_nilD (by rfl)) (by rfl)) (by rfl)))) pi_nilD (by rfl)) (by rfl)) (by rfl)) (by rfl)))) pi_nilD (by rfl)) (by rfl)))) (by rfl) (by first | exact Or.inl rfl | exact Or.inr rfl))
    (ss_cons (s_set (i := 8) S.nd rfl (by first | exact Or.inl rfl | exact Or.inr rfl) (toD (pn_tup (pi_consD (toD (pn_tup (pi_consD pd_int (pi_consD pd_int (pi_consD pd_int pi_nilD (by rfl)) (by rfl)) (by rfl)))) (pi_consD (toD (pn_tup (pi_consD pd_int (pi_consD pd_int (pi_consD pd_int pi_nilD (by rfl)) (by rfl)) (by rfl)))) (pi_consD (toD (pn_tup (pi_consD pd_int (pi_consD pd_int (pi_consD pd_int pi_nilD (by rfl)) (by rfl)) (by rfl)))) (pi_consD (toD (pn_tup (pi_consD pd_int (pi_consD pd_int (pi_consD pd_int pi_nilD (by rfl)) (by rfl)) (by rfl)))) (pi_consD (toD (pn_tup (pi_consD pd_int (pi_consD pd_int (pi_consD pd_int pi_nilD (by rfl)) (by rfl)) (by rfl)))) (pi_consD (toD (pn_tup (pi_consD pd_int (pi_consD pd_int (pi_consD pd_int pi_nilD (by rfl)) (by rfl)) (by rfl)))) (pi_consD (toD (pn_tup (pi_consD pd_int (pi_consD pd_int (pi_consD pd_int pi_nilD (by rfl)) (by rfl)) (by rfl)))) pi_nilD (by rfl)) (by rfl)) (by rfl)) (by rfl)) (by rfl)) (by rfl)) (by rfl)))) (by rfl) (by first | exact Or.inl rfl | exact Or.inr rfl))
    (ss_cons (s_new (i := 9) S.nd rfl (by first | exact Or.inl rfl | exact Or.inr rfl) (pn_lst (pi_consD (toD (pn_tup (pi_consD (pd_name (pv 5)) (pi_consD (pd_name (pv 6)) pi_nilD (by rfl)) (by rfl)))) (pi_consD (toD (pn_tup (pi_consD (pd_name (pv 6)) (pi_consD (pd_name (pv 5)) pi_nilD (by rfl)) (by rfl)))) (pi_consD (toD (pn_tup (pi_consD (pd_name (pv 6)) (pi_consD (pd_name (pv 4)) (pi_consD (pd_name (pv 5)) pi_nilD (by rfl)) (by rfl)) (by rfl)))) (pi_consD (toD (pn_tup (pi_consD (pd_name (pv 6)) (pi_consD (pd_name (pv 4)) (pi_consD (pd_name (pv 4)) (pi_consD (pd_name (pv 5)) pi_nilD (by rfl)) (by rfl)) (by rfl)) (by rfl)))) (pi_consD (toD (pn_tup (pi_consD (pd_name (pv 5)) (pi_consD (pd_name (pv 4)) (pi_consD (pd_name (pv 4)) (pi_consD (pd_name (pv 5)) pi_nilD (by rfl)) (by rfl)) (by rfl)) (by rfl)))) (pi_consD (toD (pn_tup (pi_consD (pd_name (pv 5)) (pi_consD (pd_name (pv 4)) (pi_consD (pd_name (pv 5)) pi_nilD (by rfl)) (by rfl)) (by rfl)))) (pi_consD (toD (pn_tup (pi_consD (pd_name (pv 6)) (pi_consD (pd_name (pv 4)) (pi_consD (pd_name (pv 5)) pi_nilD (by rfl)) (by rfl)) (by rfl)))) pi_nilD (by rfl)) (by rfl)) (by rfl)) (by rfl)) (by rfl)) (by rfl)) (by rfl))) (by rfl) (by first | exact Or.inl rfl | exact Or.inr rfl))
    (ss_cons (s_app (ps_expr (pe_bm PySem.F.plainAttrs_list PySem.F.slot_list_append PySem.F.type_list_append mt_append (pv 9) (pa_cons (toD (pn_tup (pi_consD (pd_name (pv 6)) (pi_consD (pd_name (pv 4)) (pi_consD (pd_name (pv 4)) (pi_consD (pd_name (pv 5)) pi_nilD (by rfl)) (by rfl)) (by rfl)) (by rfl)))) pa_nil))))
    (ss_cons (s_set (i := 10) S.nd rfl (by first | exact Or.inl rfl | exact Or.inr rfl) (toD (pn_if (pt_truthD (pd_name (pv 1)) (fun _ => rfl)) (pn_callK (ok_run_steps T) (takes_of rfl rfl rfl rfl) (hr.mono (by decide)) rfl T.p_run_steps.g T.p_run_steps.F.kp (kb_run_steps_setting_row_steps T) (pk_consD (pd_name (pv 7)) (pk_consD (toD (pn_tup (pi_consD (pd_name (pv 5)) (pi_consD (pd_name (pv 6)) pi_nilD (by rfl)) (by rfl)))) (pk_consD (pd_name (pv 8)) pk_nilD))) (by decide) (by rfl) (by rfl) (by rfl) (by decide) (by rfl)) (pn_call (ok_run_steps T) (takes_of rfl rfl rfl rfl) (hr.mono (by decide)) rfl T.p_run_steps.g T.p_run_steps.F.kp T.p_run_steps.b (ph_cons (pd_name (pv 7)) (ph_cons (toD (pn_tup (pi_consD (pd_name (pv 5)) (pi_consD (pd_name (pv 6)) pi_nilD (by rfl)) (by rfl)))) (ph_cons (pd_name (pv 8)) ph_nil (by rfl)) (by rfl)) (by rfl)) (by rfl) (by decide) (by rfl) (by rfl)))) (by rfl) (by first | exact Or.inl rfl | exact Or.inr rfl))
    (ss_cons (s_if (PW.pt (pw_orD (pt_notD (pt_truthD (toD (pn_call (ok_l_rows_are T) (takes_of rfl rfl rfl rfl) (hr.mono (by decide)) rfl T.p_l_rows_are.g T.p_l_rows_are.F.kp T.p_l_rows_are.b (ph_cons (pd_name (pv 10)) (ph_cons (pd_name (pv 9)) ph_nil (by rfl)) (by rfl)) (by rfl) (by decide) (by rfl) (by rfl))) (fun _ => rfl))) (pw_or1 (pt_notD (pt_truthD (toD (pn_call (ok_l_turns T) (takes_of rfl rfl rfl rfl) (hr.mono (by decide)) rfl T.p_l_turns.g T.p_l_turns.F.kp T.p_l_turns.b (ph_cons (pd_name (pv 7)) (ph_cons (pd_name (pv 8)) (ph_cons (pd_name (pv 1)) ph_nil (by rfl)) (by rfl)) (by rfl)) (by rfl) (by decide) (by rfl) (by rfl))) (fun _ => rfl)))))) (ss_one (s_ret (toN' pd_bl))) ss_nil)
    (ss_cons (s_if (pt_notD (pt_truthD (toD (pn_call (ok_l_is T) (takes_of rfl rfl rfl rfl) (hr.mono (by decide)) rfl T.p_l_is.g T.p_l_is.F.kp T.p_l_is.b (ph_cons (pd_name (pv 7)) (ph_cons (toD (pn_tup (pi_consD (pd_name (pv 5)) (pi_consD (pd_name (pv 6)) pi_nilD (by rfl)) (by rfl)))) (ph_cons (toD (pn_tup (pi_consD (pd_name (pv 6)) (pi_consD (pd_name (pv 4)) (pi_consD (pd_name (pv 4)) (pi_consD (pd_name (pv 5)) pi_nilD (by rfl)) (by rfl)) (by rfl)) (by rfl)))) (ph_cons (pd_name (pv 8)) (ph_cons pd_bl (ph_cons (pd_name (pv 1)) ph_nil (by rfl)) (by rfl)) (by rfl)) (by rfl)) (by rfl)) (by rfl)) (by rfl) (by decide) (by rfl) (by rfl))) (fun _ => rfl))) (ss_one (s_ret (toN' pd_bl))) ss_nil)
    (ss_cons (s_for (passes_of rfl) rfl (pw_any (toD (pn_lst (pi_consD (toD (pn_tup (pi_consD (pd_name (pv 6)) (pi_consD (pd_name (pv 4)) (pi_consD (pd_name (pv 5)) pi_nilD (by rfl)) (by rfl)) (by rfl)))) (pi_consD (toD (pn_tup (pi_consD (pd_name (pv 5)) (pi_consD (pd_name (pv 4)) (pi_consD (pd_name (pv 4)) (pi_consD (pd_name (pv 6)) pi_nilD (by rfl)) (by rfl)) (by rfl)) (by rfl)))) (pi_consD (toD (pn_tup (pi_consD (pd_name (pv 6)) (pi_consD (pd_name (pv 4)) (pi_consD (pd_name (pv 4)) (pi_consD (pd_name (pv 6)) pi_nilD (by rfl)) (by rfl)) (by rfl)) (by rfl)))) (pi_consD (toD (pn_tup (pi_consD (pd_name (pv 6)) (pi_consD (pd_name (pv 4)) (pi_consD (pd_name (pv 4)) pi_nilD (by rfl)) (by rfl)) (by rfl)))) (pi_consD (toD (pn_tup pi_nilD)) (pi_consD (toD (pn_tup (pi_consD (pd_name (pv 5)) (pi_consD (pd_name (pv 6)) pi_nilD (by rfl)) (by rfl)))) pi_nilD (by rfl)) (by rfl)) (by rfl)) (by rfl)) (by rfl)) (by rfl))))) (pg_name (i := 11) S.nd rfl (by first | exact Or.inl rfl | exact Or.inr rfl)) tgok_name (ss_one (s_if (pt_notD (pt_truthD (toD (pn_call (ok_l_is T) (takes_of rfl rfl rfl rfl) (hr.mono (by decide)) rfl T.p_l_is.g T.p_l_is.F.kp T.p_l_is.b (ph_cons (pd_name (pv 7)) (ph_cons (toD (pn_tup (pi_consD (pd_name (pv 5)) (pi_consD (pd_name (pv 6)) pi_nilD (by rfl)) (by rfl)))) (ph_cons (pd_name (pv 11)) (ph_cons (pd_name (pv 8)) (ph_cons pd_bl (ph_cons (pd_name (pv 1)) ph_nil (by rfl)) (by rfl)) (by rfl)) (by rfl)) (by rfl)) (by rfl)) (by rfl) (by decide) (by rfl) (by rfl))) (fun _ => rfl))) (ss_one (s_ret (toN' pd_bl))) ss_nil)) (fun _ => rfl))
    (ss_cons (s_if (pt_notD (pt_truthD (toD (pn_call (ok_l_is T) (takes_of rfl rfl rfl rfl) (hr.mono (by decide)) rfl T.p_l_is.g T.p_l_is.F.kp T.p_l_is.b (ph_cons (pd_name (pv 7)) (ph_cons (toD (pn_tup (pi_consD (pd_name (pv 5)) (pi_consD (pd_name (pv 6)) pi_nilD (by rfl)) (by rfl)))) (ph_cons (toD (pn_tup (pi_consD (pd_name (pv 6)) (pi_consD (pd_name (pv 4)) (pi_consD (pd_name (pv 5)) pi_nilD (by rfl)) (by rfl)) (by rfl)))) (ph_cons (toD (pn_slice (pd_name (pv 8)) po_noneD (po_someD pd_int))) (ph_cons pd_bl (ph_cons (pd_name (pv 1)) ph_nil (by rfl)) (by rfl)) (by rfl)) (by rfl)) (by rfl)) (by rfl)) (by rfl) (by decide) (by rfl) (by rfl))) (fun _ => rfl))) (ss_one (s_ret (toN' pd_bl))) ss_nil)
    (ss_cons (s_if (pt_notD (pt_truthD (toD (pn_call (ok_l_runs T) (takes_of rfl rfl rfl rfl) (hr.mono (by decide)) rfl T.p_l_runs.g T.p_l_runs.F.kp T.p_l_runs.b (ph_cons (pd_name (pv 7)) (ph_cons (toD (pn_tup (pi_consD (pd_name (pv 4)) (pi_consD (pd_name (pv 5)) pi_nilD (by rfl)) (by rfl)))) (ph_cons (toD (pn_tup (pi_consD (toD (pn_tup (pi_consD pd_int (pi_consD pd_int (pi_consD pd_int pi_nilD (by rfl)) (by rfl)) (by rfl)))) (pi_consD (toD (pn_tup (pi_consD pd_int (pi_consD pd_int (pi_consD pd_int pi_nilD (by rfl)) (by rfl)) (by rfl)))) (pi_consD (toD (pn_tup (pi_consD pd_int (pi_consD pd_int (pi_consD pd_int pi_nilD (by rfl)) (by rfl)) (by rfl)))) (pi_consD (toD (pn_tup (pi_consD pd_int (pi_consD pd_int (pi_consD pd_int pi_nilD (by rfl)) (by rfl)) (by rfl)))) pi_nilD (by rfl)) (by rfl)) (by rfl)) (by rfl)))) (ph_cons (pd_name (pv 1)) ph_nil (by rfl)) (by rfl)) (by rfl)) (by rfl)) (by rfl) (by decide) (by rfl) (by rfl))) (fun _ => rfl))) (ss_one (s_ret (toN' pd_bl))) ss_nil)
    (ss_cons (s_if (pt_notD (pt_truthD (toD (pn_call (ok_l_faults T) (takes_of rfl rfl rfl rfl) (hr.mono (by decide)) rfl T.p_l_faults.g T.p_l_faults.F.kp T.p_l_faults.b (ph_cons (pd_name (pv 0)) (ph_cons (pd_name (pv 7)) (ph_cons (toD (pn_tup (pi_consD (pd_name (pv 5)) (pi_consD (pd_name (pv 6)) pi_nilD (by rfl)) (by rfl)))) (ph_cons (toD (pn_slice (pd_name (pv 8)) po_noneD (po_someD (toD (pn_bin op_addAny sem_add pd_int (toD (pn_call (ok_l_lift T) (takes_of rfl rfl rfl rfl) (hr.mono (by decide)) rfl T.p_l_lift.g T.p_l_lift.F.kp T.p_l_lift.b (ph_cons (pd_name (pv 0)) (ph_cons pd_int ph_nil (by rfl)) (by rfl)) (by rfl) (by decide) (by rfl) (by rfl)))))))) (ph_cons (pd_name (pv 1)) ph_nil (by rfl)) (by rfl)) (by rfl)) (by rfl)) (by rfl)) (by rfl) (by decide) (by rfl) (by rfl))) (fun _ => rfl))) (ss_one (s_ret (toN' pd_bl))) ss_nil)
    (ss_cons (s_if (PW.pt (pw_orD (pt_notD (pt_truthD (toD (pn_call (ok_l_is T) (takes_of rfl rfl rfl rfl) (hr.mono (by decide)) rfl T.p_l_is.g T.p_l_is.F.kp T.p_l_is.b (ph_cons (pd_name (pv 7)) (ph_cons (toD (pn_tup (pi_consD (pd_name (pv 4)) pi_nilD (by rfl)))) (ph_cons (toD (pn_tup pi_nilD)) (ph_cons (toD (pn_tup (pi_consD (toD (pn_tup (pi_consD pd_int (pi_consD pd_int (pi_consD pd_bl pi_nilD (by rfl)) (by rfl)) (by rfl)))) pi_nilD (by rfl)))) (ph_cons pd_bl (ph_cons (pd_name (pv 1)) ph_nil (by rfl)) (by rfl)) (by rfl)) (by rfl)) (by rfl)) (by rfl)) (by rfl) (by decide) (by rfl) (by rfl))) (fun _ => rfl))) (pw_or1 (pt_notD (pt_truthD (toD (pn_call (ok_l_is T) (takes_of rfl rfl rfl rfl) (hr.mono (by decide)) rfl T.p_l_is.g T.p_l_is.F.kp T.p_l_is.b (ph_cons (pd_name (pv 7)) (ph_cons (toD (pn_tup (pi_consD (pd_name (pv 4)) pi_nilD (by rfl)))) (ph_cons (toD (pn_tup pi_nilD)) (ph_cons (toD (pn_tup (pi_consD (toD (pn_tup (pi_consD pd_int (pi_consD pd_int (pi_consD pd_int pi_nilD (by rfl)) (by rfl)) (by rfl)))) pi_nilD (by rfl)))) (ph_cons pd_bl (ph_cons (pd_name (pv 1)) ph_nil (by rfl)) (by rfl)) (by rfl)) (by rfl)) (by rfl)) (by rfl)) (by rfl) (by decide) (by rfl) (by rfl))) (fun _ => rfl)))))) (ss_one (s_ret (toN' pd_bl))) ss_nil)
    (ss_one (s_ret (pn_and (pn_call (ok_l_is T) (takes_of rfl rfl rfl rfl) (hr.mono (by decide)) rfl T.p_l_is.g T.p_l_is.F.kp T.p_l_is.b (ph_cons (pd_name (pv 7)) (ph_cons (toD (pn_tup (pi_consD (pd_name (pv 4)) pi_nilD (by rfl)))) (ph_cons (toD (pn_tup (pi_consD (pd_name (pv 4)) pi_nilD (by rfl)))) (ph_cons (toD (pn_tup pi_nilD)) (ph_cons pd_bl (ph_cons (pd_name (pv 1)) ph_nil (by rfl)) (by rfl)) (by rfl)) (by rfl)) (by rfl)) (by rfl)) (by rfl) (by decide) (by rfl) (by rfl)) (pn_one (pn_call (ok_l_is T) (takes_of rfl rfl rfl rfl) (hr.mono (by decide)) rfl T.p_l_is.g T.p_l_is.F.kp T.p_l_is.b (ph_cons (pd_name (pv 7)) (ph_cons (toD (pn_tup (pi_consD (pd_name (pv 4)) pi_nilD (by rfl)))) (ph_cons (toD (pn_tup (pi_consD (pd_name (pv 4)) (pi_consD (pd_name (pv 4)) pi_nilD (by rfl)) (by rfl)))) (ph_cons (toD (pn_tup pi_nilD)) (ph_cons pd_bl (ph_cons (pd_name (pv 1)) ph_nil (by rfl)) (by rfl)) (by rfl)) (by rfl)) (by rfl)) (by rfl)) (by rfl) (by decide) (by rfl) (by rfl)))))))))))))))))))))))
theorem sc_l_path_ends : FnScope ["setting", "row", "steps", "named", "rows", "end", "other"] ["setting", "row", "steps", "named"] (defScope s_l_path_ends) := ⟨rfl, rfl, rfl, by decide +kernel, rfl, by decide +kernel, by decide +kernel⟩
theorem ok_l_path_ends (T : Tx Pr K mg) : FnOk Pr w K mg base (L2.CX Pr w) 7 T.a_l_path_ends T.d_l_path_ends ["setting", "row", "steps", "named"] (spF K (["setting", "row", "steps", "named"] : List Str).length F_l_path_ends) :=
  fn_ok (k := 6) T.p_l_path_ends.F sc_l_path_ends fun cdv A outer s H E n0 hr => by
    have S := sc_l_path_ends
    exact (ss_cons (s_set (i := 4) S.nd rfl (by first | exact Or.inl rfl | exact Or.inr rfl) (toD (pn_call (ok_l_leads T) (takes_of rfl rfl rfl rfl) (hr.mono (by decide)) rfl T.p_l_leads.g T.p_l_leads.F.kp T.p_l_leads.b (ph_cons (pd_name (pv 0)) (ph_cons (pd_name (pv 1)) (ph_cons (pd_name (pv 2)) ph_nil (by rfl)) (by rfl)) (by rfl)) (by rfl) (by decide) (by rfl) (by rfl))) (by rfl) (by first | exact Or.inl rfl | exact Or.inr rfl))
    (ss_cons (s_set (i := 5) S.nd rfl (by first | exact Or.inl rfl | exact Or.inr rfl) (toD (pn_ix ix_seq sem_ix (pd_name (pv 4)) (toD (pn_bin op_sub sem_sub (toD (pn_b1 call_lenAny sem_len rfl T.z_len (by rfl) (pd_name (pv 4)) (by decide) (by decide) (by rfl) (by rfl))) pd_int)) (fun _ _ => rfl))) (by rfl) (by first | exact Or.inl rfl | exact Or.inr rfl))
    (ss_cons (s_if (PW.pt (pw_orD (pt_cmpD (op_neD hr.units) sem_ne (toD (pn_b1 call_lenAny sem_len rfl T.z_len (by rfl) (pd_name (pv 4)) (by decide) (by decide) (by rfl) (by rfl))) (toD (pn_bin op_addAny sem_add (toD (pn_b1 call_lenAny sem_len rfl T.z_len (by rfl) (pd_name (pv 2)) (by decide) (by decide) (by rfl) (by rfl))) pd_int)) (by rfl)) (pw_orD (pt_notD (pt_truthD (toD (pn_call (ok_l_runs T) (takes_of rfl rfl rfl rfl) (hr.mono (by decide)) rfl T.p_l_runs.g T.p_l_runs.F.kp T.p_l_runs.b (ph_cons (pd_name (pv 0)) (ph_cons (pd_name (pv 1)) (ph_cons (pd_name (pv 2)) (ph_cons (pd_name (pv 3)) ph_nil (by rfl)) (by rfl)) (by rfl)) (by rfl)) (by rfl) (by decide) (by rfl) (by rfl))) (fun _ => rfl))) (pw_or1 (pt_notD (pt_truthD (toD (pn_call (ok_l_turns T) (takes_of rfl rfl rfl rfl) (hr.mono (by decide)) rfl T.p_l_turns.g T.p_l_turns.F.kp T.p_l_turns.b (ph_cons (pd_name (pv 0)) (ph_cons (pd_name (pv 2)) (ph_cons (pd_name (pv 3)) ph_nil (by rfl)) (by rfl)) (by rfl)) (by rfl) (by decide) (by rfl) (by rfl))) (fun _ => rfl))))))) (ss_one (s_ret (toN' pd_bl))) ss_nil)
    (ss_cons (s_set (i := 6) S.nd rfl (by first | exact Or.inl rfl | exact Or.inr rfl) (toD (pn_if (pt_cmpD op_gt sem_gt (toD (pn_b1 call_lenAny sem_len rfl T.z_len (by rfl) (pd_name (pv 5)) (by decide) (by decide) (by rfl) (by rfl))) pd_int (by rfl)) (pn_bin op_addAny sem_add (toD (pn_slice (pd_name (pv 5)) po_noneD (po_someD (toD (pn_un un_neg sem_neg pd_int))))) (toD (pn_tup (pi_consD (toD (pn_bin op_sub sem_sub pd_int (toD (pn_ix ix_seq sem_ix (pd_name (pv 5)) (toD (pn_un un_neg sem_neg pd_int)) (fun _ _ => rfl))))) pi_nilD (by rfl))))) (pn_tup (pi_consD pd_int pi_nilD (by rfl))))) (by rfl) (by first | exact Or.inl rfl | exact Or.inr rfl))
    (ss_one (s_ret (pn_and (pn_call (ok_l_is T) (takes_of rfl rfl rfl rfl) (hr.mono (by decide)) rfl T.p_l_is.g T.p_l_is.F.kp T.p_l_is.b (ph_cons (pd_name (pv 0)) (ph_cons (pd_name (pv 1)) (ph_cons (pd_name (pv 5)) (ph_cons (pd_name (pv 2)) (ph_cons pd_bl (ph_cons (pd_name (pv 3)) ph_nil (by rfl)) (by rfl)) (by rfl)) (by rfl)) (by rfl)) (by rfl)) (by rfl) (by decide) (by rfl) (by rfl)) (pn_one (pn_call (ok_l_is T) (takes_of rfl rfl rfl rfl) (hr.mono (by decide)) rfl T.p_l_is.g T.p_l_is.F.kp T.p_l_is.b (ph_cons (pd_name (pv 0)) (ph_cons (pd_name (pv 1)) (ph_cons (pd_name (pv 6)) (ph_cons (pd_name (pv 2)) (ph_cons pd_bl (ph_cons (pd_name (pv 3)) ph_nil (by rfl)) (by rfl)) (by rfl)) (by rfl)) (by rfl)) (by rfl)) (by rfl) (by decide) (by rfl) (by rfl))))))))))
theorem sc_l_long : FnScope ["chest", "named", "laps", "setting", "row", "half", "steps", "end", "other", "spoilt", "rows"] ["chest", "named", "laps"] (defScope s_l_long) := ⟨rfl, rfl, rfl, by decide +kernel, rfl, by decide +kernel, by decide +kernel⟩
theorem ok_l_long (T : Tx Pr K mg) : FnOk Pr w K mg base (L2.CX Pr w) 8 T.a_l_long T.d_l_long ["chest", "named", "laps"] (spF K (["chest", "named", "laps"] : List Str).length F_l_long) :=
  fn_ok (k := 7) T.p_l_long.F sc_l_long fun cdv A outer s H E n0 hr => by
    have S := sc_l_long
    exact (ss_cons (s_set (i := 3) S.nd rfl (by first | exact Or.inl rfl | exact Or.inr rfl) (toD (pn_tup (pi_consD (toD (pn_tup (pi_consD pd_str (pi_consD pd_str pi_nilD (by rfl)) (by rfl)))) (pi_consD (toD (pn_tup (pi_consD (toD (pn_tup (pi_consD pd_str (pi_consD pd_int pi_nilD (by rfl)) (by rfl)))) (pi_consD (toD (pn_tup (pi_consD pd_str (pi_consD pd_int pi_nilD (by rfl)) (by rfl)))) (pi_consD (toD (pn_tup (pi_consD pd_str (pi_consD pd_int (pi_consD pd_int pi_nilD (by rfl)) (by rfl)) (by rfl)))) (pi_consD (toD (pn_tup (pi_consD pd_str (pi_consD pd_int (pi_consD pd_int pi_nilD (by rfl)) (by rfl)) (by rfl)))) pi_nilD (by rfl)) (by rfl)) (by rfl)) (by rfl)))) pi_nilD (by rfl)) (by rfl)))) (by rfl) (by first | exact Or.inl rfl | exact Or.inr rfl))
    (ss_cons (s_set (i := 4) S.nd rfl (by first | exact Or.inl rfl | exact Or.inr rfl) (toD (pn_call (ok_l_row T) (takes_of rfl rfl rfl rfl) (hr.mono (by decide)) rfl T.p_l_row.g T.p_l_row.F.kp T.p_l_row.b (ph_cons (pd_name (pv 0)) (ph_cons pd_int (ph_cons (toD (pn_bin op_addAny sem_add pd_int (toD (pn_call (ok_l_lift T) (takes_of rfl rfl rfl rfl) (hr.mono (by decide)) rfl T.p_l_lift.g T.p_l_lift.F.kp T.p_l_lift.b (ph_cons (pd_name (pv 0)) (ph_cons pd_int ph_nil (by rfl)) (by rfl)) (by rfl) (by decide) (by rfl) (by rfl))))) ph_nil (by rfl)) (by rfl)) (by rfl)) (by rfl) (by decide) (by rfl) (by rfl))) (by rfl) (by first | exact Or.inl rfl | exact Or.inr rfl))
    (ss_cons (s_asg (tgok_any (tgsok_cons (i := 6) (tgsok_cons (i := 10) tgsok_nil)) rfl) (ps_asg (toD (pn_call (ok_l_walk T) (takes_of rfl rfl rfl rfl) (hr.mono (by decide)) rfl T.p_l_walk.g T.p_l_walk.F.kp T.p_l_walk.b (ph_cons (pd_name (pv 0)) (ph_cons (pd_name (pv 3)) (ph_cons (pd_name (pv 4)) (ph_cons pd_int (ph_cons pd_int ph_nil (by rfl)) (by rfl)) (by rfl)) (by rfl)) (by rfl)) (by rfl) (by decide) (by rfl) (by rfl))) (pg_any (n := 2) rfl (pgs_cons (pg_name (i := 6) S.nd rfl (by first | exact Or.inl rfl | exact Or.inr rfl)) (pgs_cons (pg_name (i := 10) S.nd rfl (by first | exact Or.inl rfl | exact Or.inr rfl)) pgs_nil)))))
    (ss_cons (s_set (i := 5) S.nd rfl (by first | exact Or.inl rfl | exact Or.inr rfl) (toD (pn_tup (pi_consD (toD (pn_tup (pi_consD pd_int (pi_consD pd_int (pi_consD pd_int pi_nilD (by rfl)) (by rfl)) (by rfl)))) (pi_consD (toD (pn_tup (pi_consD pd_int (pi_consD pd_int (pi_consD pd_int pi_nilD (by rfl)) (by rfl)) (by rfl)))) pi_nilD (by rfl)) (by rfl)))) (by rfl) (by first | exact Or.inl rfl | exact Or.inr rfl))
    (ss_cons (s_if (pt_cmpD (op_eqD hr.units) sem_eq (pd_name (pv 2)) pd_int (by rfl)) (ss_cons (s_set (i := 6) S.nd rfl (by first | exact Or.inl rfl | exact Or.inr rfl) (toD (pn_bin op_addAny sem_add (pd_name (pv 6)) (toD (pn_bin op_repTW sem_repT (pd_name (pv 5)) (toD (pn_t1 call_int1 sem_toInt rfl T.z_int (by rfl) (toD (pn_bin op_fdivW sem_floor (toD (pn_bin op_sub sem_sub pd_int (toD (pn_b1 call_lenAny sem_len rfl T.z_len (by rfl) (pd_name (pv 6)) (by decide) (by decide) (by rfl) (by rfl))))) pd_int)) (by decide) (by decide) (by rfl) (by rfl))))))) (by rfl) (by first | exact Or.inl rfl | exact Or.inr rfl))
    (ss_one (s_ret (pn_and (pn_call (ok_l_path_ends T) (takes_of rfl rfl rfl rfl) (hr.mono (by decide)) rfl T.p_l_path_ends.g T.p_l_path_ends.F.kp T.p_l_path_ends.b (ph_cons (pd_name (pv 3)) (ph_cons (pd_name (pv 4)) (ph_cons (pd_name (pv 6)) (ph_cons (pd_name (pv 1)) ph_nil (by rfl)) (by rfl)) (by rfl)) (by rfl)) (by rfl) (by decide) (by rfl) (by rfl)) (pn_one (pn_call (ok_l_runs T) (takes_of rfl rfl rfl rfl) (hr.mono (by decide)) rfl T.p_l_runs.g T.p_l_runs.F.kp T.p_l_runs.b (ph_cons (pd_name (pv 3)) (ph_cons (pd_name (pv 4)) (ph_cons (toD (pn_bin op_addAny sem_add (toD (pn_slice (pd_name (pv 6)) po_noneD (po_someD pd_int))) (toD (pn_tup (pi_consD (toD (pn_tup (pi_consD pd_int (pi_consD pd_int (pi_consD pd_int pi_nilD (by rfl)) (by rfl)) (by rfl)))) pi_nilD (by rfl)))))) (ph_cons (pd_name (pv 1)) ph_nil (by rfl)) (by rfl)) (by rfl)) (by rfl)) (by rfl) (by decide) (by rfl) (by rfl))))))) ss_nil)
    (ss_cons (s_set (i := 6) S.nd rfl (by first | exact Or.inl rfl | exact Or.inr rfl) (toD (pn_bin op_addAny sem_add (toD (pn_bin op_repTW sem_repT (pd_name (pv 5)) (toD (pn_t1 call_int1 sem_toInt rfl T.z_int (by rfl) (toD (pn_bin op_fdivW sem_floor (toD (pn_bin op_sub sem_sub (pd_name (pv 2)) (toD (pn_b1 call_lenAny sem_len rfl T.z_len (by rfl) (pd_name (pv 6)) (by decide) (by decide) (by rfl) (by rfl))))) pd_int)) (by decide) (by decide) (by rfl) (by rfl))))) (pd_name (pv 6)))) (by rfl) (by first | exact Or.inl rfl | exact Or.inr rfl))
    (ss_cons (s_set (i := 7) S.nd rfl (by first | exact Or.inl rfl | exact Or.inr rfl) (toD (pn_ix ix_seq sem_ix (pd_name (pv 10)) (toD (pn_bin op_sub sem_sub (toD (pn_b1 call_lenAny sem_len rfl T.z_len (by rfl) (pd_name (pv 10)) (by decide) (by decide) (by rfl) (by rfl))) pd_int)) (fun _ _ => rfl))) (by rfl) (by first | exact Or.inl rfl | exact Or.inr rfl))
    (ss_cons (s_set (i := 8) S.nd rfl (by first | exact Or.inl rfl | exact Or.inr rfl) (toD (pn_if (pt_cmpD op_gt sem_gt (toD (pn_b1 call_lenAny sem_len rfl T.z_len (by rfl) (pd_name (pv 7)) (by decide) (by decide) (by rfl) (by rfl))) pd_int (by rfl)) (pn_slice (pd_name (pv 7)) (po_someD pd_int) po_noneD) (pn_bin op_addAny sem_add (pd_name (pv 7)) (toD (pn_tup (pi_consD pd_int pi_nilD (by rfl))))))) (by rfl) (by first | exact Or.inl rfl | exact Or.inr rfl))
    (ss_cons (s_if (PW.pt (pw_orD (pt_notD (pt_truthD (toD (pn_call (ok_l_is T) (takes_of rfl rfl rfl rfl) (hr.mono (by decide)) rfl T.p_l_is.g T.p_l_is.F.kp T.p_l_is.b (ph_cons (pd_name (pv 3)) (ph_cons (pd_name (pv 4)) (ph_cons (pd_name (pv 7)) (ph_cons (pd_name (pv 6)) (ph_cons pd_bl (ph_cons (pd_name (pv 1)) ph_nil (by rfl)) (by rfl)) (by rfl)) (by rfl)) (by rfl)) (by rfl)) (by rfl) (by decide) (by rfl) (by rfl))) (fun _ => rfl))) (pw_or1 (pt_notD (pt_truthD (toD (pn_call (ok_l_is T) (takes_of rfl rfl rfl rfl) (hr.mono (by decide)) rfl T.p_l_is.g T.p_l_is.F.kp T.p_l_is.b (ph_cons (pd_name (pv 3)) (ph_cons (pd_name (pv 4)) (ph_cons (pd_name (pv 8)) (ph_cons (pd_name (pv 6)) (ph_cons pd_bl (ph_cons (pd_name (pv 1)) ph_nil (by rfl)) (by rfl)) (by rfl)) (by rfl)) (by rfl)) (by rfl)) (by rfl) (by decide) (by rfl) (by rfl))) (fun _ => rfl)))))) (ss_one (s_ret (toN' pd_bl))) ss_nil)
    (ss_cons (s_set (i := 9) S.nd rfl (by first | exact Or.inl rfl | exact Or.inr rfl) (toD (pn_bin op_addAny sem_add (toD (pn_slice (pd_name (pv 6)) po_noneD (po_someD (toD (pn_bin op_sub sem_sub (toD (pn_b1 call_lenAny sem_len rfl T.z_len (by rfl) (pd_name (pv 6)) (by decide) (by decide) (by rfl) (by rfl))) pd_int))))) (toD (pn_tup (pi_consD (toD (pn_tup (pi_consD pd_int (pi_consD pd_int (pi_consD pd_int pi_nilD (by rfl)) (by rfl)) (by rfl)))) pi_nilD (by rfl)))))) (by rfl) (by first | exact Or.inl rfl | exact Or.inr rfl))
    (ss_one (s_ret (pn_and (pn_call (ok_l_is T) (takes_of rfl rfl rfl rfl) (hr.mono (by decide)) rfl T.p_l_is.g T.p_l_is.F.kp T.p_l_is.b (ph_cons (pd_name (pv 3)) (ph_cons (pd_name (pv 4)) (ph_cons (pd_name (pv 7)) (ph_cons (pd_name (pv 9)) (ph_cons pd_bl (ph_cons (pd_name (pv 1)) ph_nil (by rfl)) (by rfl)) (by rfl)) (by rfl)) (by rfl)) (by rfl)) (by rfl) (by decide) (by rfl) (by rfl)) (pn_one (pn_call (ok_l_judge T) (takes_of rfl rfl rfl rfl) (hr.mono (by decide)) rfl T.p_l_judge.g T.p_l_judge.F.kp T.p_l_judge.b (ph_cons (pd_name (pv 3)) (ph_cons (pd_name (pv 4)) (ph_cons (pd_name (pv 7)) (ph_cons (toD (pn_slice (pd_name (pv 6)) (po_someD pd_int) po_noneD)) (ph_cons (pd_name (pv 1)) ph_nil (by rfl)) (by rfl)) (by rfl)) (by rfl)) (by rfl)) (by rfl) (by decide) (by rfl) (by rfl))))))))))))))))
theorem sc_law : FnScope ["script", "chest", "wide", "great", "named", "k", "grown", "row", "steps", "many", "setting"] ["script"] (defScope s_law) := ⟨rfl, rfl, rfl, by decide +kernel, rfl, by decide +kernel, by decide +kernel⟩
theorem ok_law (T : Tx Pr K mg) : FnOk Pr w K mg base (L2.CX Pr w) 10 T.a_law T.d_law ["script"] (spF K (["script"] : List Str).length F_law) :=
  fn_ok (k := 9) T.p_law.F sc_law fun cdv A outer s H E n0 hr => by
    have S := sc_law
    exact (ss_cons (s_newB (i := 1) S.nd rfl (by first | exact Or.inl rfl | exact Or.inr rfl) (pn_call (ok_l_chest T) (takes_of rfl rfl rfl rfl) (hr.mono (by decide)) rfl T.p_l_chest.g T.p_l_chest.F.kp T.p_l_chest.b (ph_cons (pd_name (pv 0)) ph_nil (by rfl)) (by rfl) (by decide) (by rfl) (by rfl)) (by rfl) (by first | exact Or.inl rfl | exact Or.inr rfl))
    (ss_cons (s_set (i := 2) S.nd rfl (by first | exact Or.inl rfl | exact Or.inr rfl) (toD (pn_cmp (op_eqD hr.units) sem_eq (toD (pn_call (ok_l_lift T) (takes_of rfl rfl rfl rfl) (hr.mono (by decide)) rfl T.p_l_lift.g T.p_l_lift.F.kp T.p_l_lift.b (ph_cons (pd_name (pv 1)) (ph_cons pd_int ph_nil (by rfl)) (by rfl)) (by rfl) (by decide) (by rfl) (by rfl))) pd_int (by rfl))) (by rfl) (by first | exact Or.inl rfl | exact Or.inr rfl))
    (ss_cons (s_set (i := 3) S.nd rfl (by first | exact Or.inl rfl | exact Or.inr rfl) (toD (pn_cmp (op_eqD hr.units) sem_eq (toD (pn_call (ok_l_lift T) (takes_of rfl rfl rfl rfl) (hr.mono (by decide)) rfl T.p_l_lift.g T.p_l_lift.F.kp T.p_l_lift.b (ph_cons (pd_name (pv 1)) (ph_cons pd_int ph_nil (by rfl)) (by rfl)) (by rfl) (by decide) (by rfl) (by rfl))) pd_int (by rfl))) (by rfl) (by first | exact Or.inl rfl | exact Or.inr rfl))
    (ss_cons (s_set (i := 4) S.nd rfl (by first | exact Or.inl rfl | exact Or.inr rfl) (toD (pn_cmp (op_eqD hr.units) sem_eq (toD (pn_call (ok_l_lift T) (takes_of rfl rfl rfl rfl) (hr.mono (by decide)) rfl T.p_l_lift.g T.p_l_lift.F.kp T.p_l_lift.b (ph_cons (pd_name (pv 1)) (ph_cons pd_int ph_nil (by rfl)) (by rfl)) (by rfl) (by decide) (by rfl) (by rfl))) pd_int (by rfl))) (by rfl) (by first | exact Or.inl rfl | exact Or.inr rfl))
    (ss_cons (s_if (pt_notD (pt_truthD (toD (pn_call (ok_l_by_hand T) (takes_of rfl rfl rfl rfl) (hr.mono (by decide)) rfl T.p_l_by_hand.g T.p_l_by_hand.F.kp T.p_l_by_hand.b (ph_cons (pd_name (pv 1)) (ph_cons (pd_name (pv 4)) ph_nil (by rfl)) (by rfl)) (by rfl) (by decide) (by rfl) (by rfl))) (fun _ => rfl))) (ss_one (s_ret (toN' pd_bl))) ss_nil)
    (ss_cons (s_for (passes_of rfl) rfl (pw_range1 rfl T.z_range pd_int (by rfl) (by rfl)) (pg_name (i := 5) S.nd rfl (by first | exact Or.inl rfl | exact Or.inr rfl)) tgok_name (ss_cons (s_set (i := 9) S.nd rfl (by first | exact Or.inl rfl | exact Or.inr rfl) (toD (pn_bin op_addAny sem_add pd_int (toD (pn_call (ok_l_lift T) (takes_of rfl rfl rfl rfl) (hr.mono (by decide)) rfl T.p_l_lift.g T.p_l_lift.F.kp T.p_l_lift.b (ph_cons (pd_name (pv 1)) (ph_cons pd_int ph_nil (by rfl)) (by rfl)) (by rfl) (by decide) (by rfl) (by rfl))))) (by rfl) (by first | exact Or.inl rfl | exact Or.inr rfl))
    (ss_cons (s_if (PW.pt (pw_andD (pt_truthD (pd_name (pv 2)) (fun _ => rfl)) (pw_and1 (pt_cmpD (op_eqD hr.units) sem_eq (pd_name (pv 5)) pd_int (by rfl))))) (ss_one (s_set (i := 9) S.nd rfl (by first | exact Or.inl rfl | exact Or.inr rfl) pd_int (by rfl) (by first | exact Or.inl rfl | exact Or.inr rfl))) ss_nil)
    (ss_cons (s_set (i := 10) S.nd rfl (by first | exact Or.inl rfl | exact Or.inr rfl) (toD (pn_call (ok_l_setting T) (takes_of rfl rfl rfl rfl) (hr.mono (by decide)) rfl T.p_l_setting.g T.p_l_setting.F.kp T.p_l_setting.b (ph_cons (pd_name (pv 1)) (ph_cons (pd_name (pv 9)) ph_nil (by rfl)) (by rfl)) (by rfl) (by decide) (by rfl) (by rfl))) (by rfl) (by first | exact Or.inl rfl | exact Or.inr rfl))
    (ss_cons (s_set (i := 7) S.nd rfl (by first | exact Or.inl rfl | exact Or.inr rfl) (toD (pn_call (ok_l_row T) (takes_of rfl rfl rfl rfl) (hr.mono (by decide)) rfl T.p_l_row.g T.p_l_row.F.kp T.p_l_row.b (ph_cons (pd_name (pv 1)) (ph_cons (pd_name (pv 9)) (ph_cons (toD (pn_if (PW.pt (pw_andD (pt_truthD (pd_name (pv 2)) (fun _ => rfl)) (pw_and1 (pt_cmpD (op_eqD hr.units) sem_eq (pd_name (pv 5)) pd_int (by rfl))))) (toN' pd_int) (pn_call (ok_l_lift T) (takes_of rfl rfl rfl rfl) (hr.mono (by decide)) rfl T.p_l_lift.g T.p_l_lift.F.kp T.p_l_lift.b (ph_cons (pd_name (pv 1)) (ph_cons pd_int ph_nil (by rfl)) (by rfl)) (by rfl) (by decide) (by rfl) (by rfl)))) ph_nil (by rfl)) (by rfl)) (by rfl)) (by rfl) (by decide) (by rfl) (by rfl))) (by rfl) (by first | exact Or.inl rfl | exact Or.inr rfl))
    (ss_one (s_if (pt_notD (pt_truthD (toD (pn_call (ok_l_path T) (takes_of rfl rfl rfl rfl) (hr.mono (by decide)) rfl T.p_l_path.g T.p_l_path.F.kp T.p_l_path.b (ph_cons (pd_name (pv 1)) (ph_cons (pd_name (pv 10)) (ph_cons (pd_name (pv 7)) (ph_cons (toD (pn_ix ix_seq sem_ix (toD (pn_lst (pi_consD pd_int (pi_consD pd_int (pi_consD pd_int (pi_consD pd_int pi_nilD (by rfl)) (by rfl)) (by rfl)) (by rfl)))) (toD (pn_call (ok_l_lift T) (takes_of rfl rfl rfl rfl) (hr.mono (by decide)) rfl T.p_l_lift.g T.p_l_lift.F.kp T.p_l_lift.b (ph_cons (pd_name (pv 1)) (ph_cons pd_int ph_nil (by rfl)) (by rfl)) (by rfl) (by decide) (by rfl) (by rfl))) (fun _ _ => rfl))) (ph_cons (pd_name (pv 4)) ph_nil (by rfl)) (by rfl)) (by rfl)) (by rfl)) (by rfl)) (by rfl) (by decide) (by rfl) (by rfl))) (fun _ => rfl))) (ss_one (s_ret (toN' pd_bl))) ss_nil)))))) (fun _ => rfl))
    (ss_cons (s_set (i := 6) S.nd rfl (by first | exact Or.inl rfl | exact Or.inr rfl) (toD (pn_tup (pi_consD (toD (pn_tup (pi_consD pd_str (pi_consD pd_str pi_nilD (by rfl)) (by rfl)))) (pi_consD (toD (pn_tup (pi_consD (toD (pn_tup (pi_consD pd_str (pi_consD pd_int pi_nilD (by rfl)) (by rfl)))) (pi_consD (toD (pn_tup (pi_consD pd_str (pi_consD pd_int pi_nilD (by rfl)) (by rfl)))) (pi_consD (toD (pn_tup (pi_consD pd_str (pi_consD pd_int pi_nilD (by rfl)) (by rfl)))) pi_nilD (by rfl)) (by rfl)) (by rfl)))) pi_nilD (by rfl)) (by rfl)))) (by rfl) (by first | exact Or.inl rfl | exact Or.inr rfl))
    (ss_cons (s_set (i := 7) S.nd rfl (by first | exact Or.inl rfl | exact Or.inr rfl) (toD (pn_call (ok_l_row T) (takes_of rfl rfl rfl rfl) (hr.mono (by decide)) rfl T.p_l_row.g T.p_l_row.F.kp T.p_l_row.b (ph_cons (pd_name (pv 1)) (ph_cons pd_int (ph_cons pd_int ph_nil (by rfl)) (by rfl)) (by rfl)) (by rfl) (by decide) (by rfl) (by rfl))) (by rfl) (by first | exact Or.inl rfl | exact Or.inr rfl))
    (ss_cons (s_set (i := 8) S.nd rfl (by first | exact Or.inl rfl | exact Or.inr rfl) (toD (pn_t1 call_tuple_of sem_tuple rfl T.z_tuple (by rfl) (toD (pn_lc (own := [("k", 5)]) (t := (tgName 5)) (c := bYes) rfl S.nd (pw_range1 rfl T.z_range (toD (pn_bin op_addAny sem_add pd_int (toD (pn_call (ok_l_lift T) (takes_of rfl rfl rfl rfl) (hr.mono (by decide)) rfl T.p_l_lift.g T.p_l_lift.F.kp T.p_l_lift.b (ph_cons (pd_name (pv 1)) (ph_cons pd_int ph_nil (by rfl)) (by rfl)) (by rfl) (by decide) (by rfl) (by rfl))))) (by rfl) (by rfl)) (blkOk_by (N := ["script", "chest", "wide", "great", "named", "k", "grown", "row", "steps", "many", "setting"]) (sc := defScope s_law) (by decide +kernel)) (fun _ _ _ _ _ => (pg_name (i := 5) S.nd rfl (by first | exact Or.inl rfl | exact Or.inr rfl))) (fun _ _ _ _ _ => pts_yes) (fun _ _ _ _ _ => (toD (pn_tup (pi_consD (toD (pn_bin op_mulW sem_mul (toD (pn_call0 (ok_l_lift T) (hr.mono (by decide)) rfl T.p_l_lift.g T.p_l_lift.F.kp T.p_l_lift.b (ph_cons (pd_name (pv 1)) (ph_cons pd_int ph_nil (by rfl)) (by rfl)) (by rfl) (by decide) (by rfl) (by rfl))) pd_int)) (pi_consD (toD (pn_call0 (ok_l_lift T) (hr.mono (by decide)) rfl T.p_l_lift.g T.p_l_lift.F.kp T.p_l_lift.b (ph_cons (pd_name (pv 1)) (ph_cons (toD (pn_bin op_addAny sem_add pd_int (pd_name (pv 5)))) ph_nil (by rfl)) (by rfl)) (by rfl) (by decide) (by rfl) (by rfl))) (pi_consD pd_int pi_nilD (by rfl)) (by rfl)) (by rfl))))) tgok_name (tgin_name (by decide)) (fun _ => rfl))) (by decide) (by decide) (by rfl) (by rfl))) (by rfl) (by first | exact Or.inl rfl | exact Or.inr rfl))
    (ss_cons (s_if (PW.pt (pw_orD (pt_notD (pt_truthD (toD (pn_call (ok_l_runs T) (takes_of rfl rfl rfl rfl) (hr.mono (by decide)) rfl T.p_l_runs.g T.p_l_runs.F.kp T.p_l_runs.b (ph_cons (pd_name (pv 6)) (ph_cons (pd_name (pv 7)) (ph_cons (pd_name (pv 8)) (ph_cons (pd_name (pv 4)) ph_nil (by rfl)) (by rfl)) (by rfl)) (by rfl)) (by rfl) (by decide) (by rfl) (by rfl))) (fun _ => rfl))) (pw_or1 (pt_notD (pt_truthD (toD (pn_call (ok_l_runs T) (takes_of rfl rfl rfl rfl) (hr.mono (by decide)) rfl T.p_l_runs.g T.p_l_runs.F.kp T.p_l_runs.b (ph_cons (toD (pn_tup (pi_consD (toD (pn_tup (pi_consD pd_str pi_nilD (by rfl)))) (pi_consD (toD (pn_tup pi_nilD)) pi_nilD (by rfl)) (by rfl)))) (ph_cons (toD (pn_tup (pi_consD pd_int (pi_consD pd_int pi_nilD (by rfl)) (by rfl)))) (ph_cons (toD (pn_tup pi_nilD)) (ph_cons (pd_name (pv 4)) ph_nil (by rfl)) (by rfl)) (by rfl)) (by rfl)) (by rfl) (by decide) (by rfl) (by rfl))) (fun _ => rfl)))))) (ss_one (s_ret (toN' pd_bl))) ss_nil)
    (ss_cons (s_if (PW.pt (pw_orD (pt_notD (pt_truthD (toD (pn_call (ok_l_is T) (takes_of rfl rfl rfl rfl) (hr.mono (by decide)) rfl T.p_l_is.g T.p_l_is.F.kp T.p_l_is.b (ph_cons (toD (pn_tup (pi_consD (toD (pn_tup (pi_consD pd_str pi_nilD (by rfl)))) (pi_consD (toD (pn_tup pi_nilD)) pi_nilD (by rfl)) (by rfl)))) (ph_cons (toD (pn_tup (pi_consD pd_int (pi_consD pd_int pi_nilD (by rfl)) (by rfl)))) (ph_cons (toD (pn_tup (pi_consD pd_int (pi_consD pd_int pi_nilD (by rfl)) (by rfl)))) (ph_cons (toD (pn_tup pi_nilD)) (ph_cons pd_bl (ph_cons (pd_name (pv 4)) ph_nil (by rfl)) (by rfl)) (by rfl)) (by rfl)) (by rfl)) (by rfl)) (by rfl) (by decide) (by rfl) (by rfl))) (fun _ => rfl))) (pw_or1 (pt_notD (pt_truthD (toD (pn_call (ok_l_is T) (takes_of rfl rfl rfl rfl) (hr.mono (by decide)) rfl T.p_l_is.g T.p_l_is.F.kp T.p_l_is.b (ph_cons (toD (pn_tup (pi_consD (toD (pn_tup (pi_consD pd_str pi_nilD (by rfl)))) (pi_consD (toD (pn_tup pi_nilD)) pi_nilD (by rfl)) (by rfl)))) (ph_cons (toD (pn_tup (pi_consD pd_int pi_nilD (by rfl)))) (ph_cons (toD (pn_tup (pi_consD pd_int pi_nilD (by rfl)))) (ph_cons (toD (pn_tup (pi_consD (toD (pn_tup (pi_consD pd_int (pi_consD pd_int (pi_consD pd_int pi_nilD (by rfl)) (by rfl)) (by rfl)))) pi_nilD (by rfl)))) (ph_cons pd_bl (ph_cons (pd_name (pv 4)) ph_nil (by rfl)) (by rfl)) (by rfl)) (by rfl)) (by rfl)) (by rfl)) (by rfl) (by decide) (by rfl) (by rfl))) (fun _ => rfl)))))) (ss_one (s_ret (toN' pd_bl))) ss_nil)
    (ss_cons (s_if (PW.pt (pw_andD (pt_truthD (pd_name (pv 3)) (fun _ => rfl)) (pw_and1 (pt_notD (pt_truthD (toD (pn_call (ok_l_long T) (takes_of rfl rfl rfl rfl) (hr.mono (by decide)) rfl T.p_l_long.g T.p_l_long.F.kp T.p_l_long.b (ph_cons (pd_name (pv 1)) (ph_cons (pd_name (pv 4)) (ph_cons pd_int ph_nil (by rfl)) (by rfl)) (by rfl)) (by rfl) (by decide) (by rfl) (by rfl))) (fun _ => rfl)))))) (ss_one (s_ret (toN' pd_bl))) ss_nil)
    (ss_cons (s_if (PW.pt (pw_andD (pt_truthD (pd_name (pv 2)) (fun _ => rfl)) (pw_and1 (pt_notD (pt_truthD (toD (pn_call (ok_l_long T) (takes_of rfl rfl rfl rfl) (hr.mono (by decide)) rfl T.p_l_long.g T.p_l_long.F.kp T.p_l_long.b (ph_cons (pd_name (pv 1)) (ph_cons (pd_name (pv 4)) (ph_cons pd_int ph_nil (by rfl)) (by rfl)) (by rfl)) (by rfl) (by decide) (by rfl) (by rfl))) (fun _ => rfl)))))) (ss_one (s_ret (toN' pd_bl))) ss_nil)
    (ss_one (s_ret (pn_call (ok_l_by_hand T) (takes_of rfl rfl rfl rfl) (hr.mono (by decide)) rfl T.p_l_by_hand.g T.p_l_by_hand.F.kp T.p_l_by_hand.b (ph_cons (pd_name (pv 1)) (ph_cons (toD (pn_not (toN' (pd_name (pv 4))))) ph_nil (by rfl)) (by rfl)) (by rfl) (by decide) (by rfl) (by rfl)))))))))))))))))
end
/-! ### what the top has written -/
def tx_mk {Pr : Program} {K : PySem.W.Frag} {h : Heap} {mg : Str → Option Value} (X : K.In h) (G : h.Ns mainGlobals mg)
    {f_l_chest : Addr} {o_l_chest n_l_chest : Option Addr} {v_l_chest : Array (Option Value)} {c_l_chest k_l_chest e_l_chest m_l_chest r_l_chest t_l_chest : Value}
    (xa_l_chest : PySem.W.nsIn K mainGlobals "_law_chest" = some (some (.ref f_l_chest))) (xl_l_chest : K.lookup f_l_chest = some ⟨c_l_chest, o_l_chest, .func (PySem.W.fnOf "_law_chest" "_law_chest" (defArgs s_l_chest) (defBody s_l_chest) (defScope s_l_chest) .none k_l_chest e_l_chest m_l_chest n_l_chest r_l_chest t_l_chest), v_l_chest⟩) (xc_l_chest : PySem.W.codeIn K r_l_chest "_law_chest" = true) (xk_l_chest : PySem.W.keepIn K (.ref f_l_chest) = true)
    {f_l_lift : Addr} {o_l_lift n_l_lift : Option Addr} {v_l_lift : Array (Option Value)} {c_l_lift k_l_lift e_l_lift m_l_lift r_l_lift t_l_lift : Value}
    (xa_l_lift : PySem.W.nsIn K mainGlobals "_law_lift" = some (some (.ref f_l_lift))) (xl_l_lift : K.lookup f_l_lift = some ⟨c_l_lift, o_l_lift, .func (PySem.W.fnOf "_law_lift" "_law_lift" (defArgs s_l_lift) (defBody s_l_lift) (defScope s_l_lift) .none k_l_lift e_l_lift m_l_lift n_l_lift r_l_lift t_l_lift), v_l_lift⟩) (xc_l_lift : PySem.W.codeIn K r_l_lift "_law_lift" = true) (xk_l_lift : PySem.W.keepIn K (.ref f_l_lift) = true)
    {f_l_setting : Addr} {o_l_setting n_l_setting : Option Addr} {v_l_setting : Array (Option Value)} {c_l_setting k_l_setting e_l_setting m_l_setting r_l_setting t_l_setting : Value}
    (xa_l_setting : PySem.W.nsIn K mainGlobals "_law_setting" = some (some (.ref f_l_setting))) (xl_l_setting : K.lookup f_l_setting = some ⟨c_l_setting, o_l_setting, .func (PySem.W.fnOf "_law_setting" "_law_setting" (defArgs s_l_setting) (defBody s_l_setting) (defScope s_l_setting) .none k_l_setting e_l_setting m_l_setting n_l_setting r_l_setting t_l_setting), v_l_setting⟩) (xc_l_setting : PySem.W.codeIn K r_l_setting "_law_setting" = true) (xk_l_setting : PySem.W.keepIn K (.ref f_l_setting) = true)
    {f_l_row : Addr} {o_l_row n_l_row : Option Addr} {v_l_row : Array (Option Value)} {c_l_row k_l_row e_l_row m_l_row r_l_row t_l_row : Value}
    (xa_l_row : PySem.W.nsIn K mainGlobals "_law_row" = some (some (.ref f_l_row))) (xl_l_row : K.lookup f_l_row = some ⟨c_l_row, o_l_row, .func (PySem.W.fnOf "_law_row" "_law_row" (defArgs s_l_row) (defBody s_l_row) (defScope s_l_row) .none k_l_row e_l_row m_l_row n_l_row r_l_row t_l_row), v_l_row⟩) (xc_l_row : PySem.W.codeIn K r_l_row "_law_row" = true) (xk_l_row : PySem.W.keepIn K (.ref f_l_row) = true)
    {f_held_step : Addr} {o_held_step n_held_step : Option Addr} {v_held_step : Array (Option Value)} {c_held_step k_held_step e_held_step m_held_step r_held_step t_held_step : Value}
    (xa_held_step : PySem.W.nsIn K mainGlobals "held_step" = some (some (.ref f_held_step))) (xl_held_step : K.lookup f_held_step = some ⟨c_held_step, o_held_step, .func (PySem.W.fnOf "held_step" "held_step" (defArgs s_held_step) (defBody s_held_step) (defScope s_held_step) .none k_held_step e_held_step m_held_step n_held_step r_held_step t_held_step), v_held_step⟩) (xc_held_step : PySem.W.codeIn K r_held_step "held_step" = true) (xk_held_step : PySem.W.keepIn K (.ref f_held_step) = true)
    {f_idle_step : Addr} {o_idle_step n_idle_step : Option Addr} {v_idle_step : Array (Option Value)} {c_idle_step k_idle_step e_idle_step m_idle_step r_idle_step t_idle_step : Value}
    (xa_idle_step : PySem.W.nsIn K mainGlobals "idle_step" = some (some (.ref f_idle_step))) (xl_idle_step : K.lookup f_idle_step = some ⟨c_idle_step, o_idle_step, .func (PySem.W.fnOf "idle_step" "idle_step" (defArgs s_idle_step) (defBody s_idle_step) (defScope s_idle_step) .none k_idle_step e_idle_step m_idle_step n_idle_step r_idle_step t_idle_step), v_idle_step⟩) (xc_idle_step : PySem.W.codeIn K r_idle_step "idle_step" = true) (xk_idle_step : PySem.W.keepIn K (.ref f_idle_step) = true)
    {f_loose_step : Addr} {o_loose_step n_loose_step : Option Addr} {v_loose_step : Array (Option Value)} {c_loose_step k_loose_step e_loose_step m_loose_step r_loose_step t_loose_step : Value}
    (xa_loose_step : PySem.W.nsIn K mainGlobals "loose_step" = some (some (.ref f_loose_step))) (xl_loose_step : K.lookup f_loose_step = some ⟨c_loose_step, o_loose_step, .func (PySem.W.fnOf "loose_step" "loose_step" (defArgs s_loose_step) (defBody s_loose_step) (defScope s_loose_step) .none k_loose_step e_loose_step m_loose_step n_loose_step r_loose_step t_loose_step), v_loose_step⟩) (xc_loose_step : PySem.W.codeIn K r_loose_step "loose_step" = true) (xk_loose_step : PySem.W.keepIn K (.ref f_loose_step) = true)
    {f_same_step : Addr} {o_same_step n_same_step : Option Addr} {v_same_step : Array (Option Value)} {c_same_step k_same_step e_same_step m_same_step r_same_step t_same_step : Value}
    (xa_same_step : PySem.W.nsIn K mainGlobals "same_step" = some (some (.ref f_same_step))) (xl_same_step : K.lookup f_same_step = some ⟨c_same_step, o_same_step, .func (PySem.W.fnOf "same_step" "same_step" (defArgs s_same_step) (defBody s_same_step) (defScope s_same_step) .none k_same_step e_same_step m_same_step n_same_step r_same_step t_same_step), v_same_step⟩) (xc_same_step : PySem.W.codeIn K r_same_step "same_step" = true) (xk_same_step : PySem.W.keepIn K (.ref f_same_step) = true)
    {f_stepped : Addr} {o_stepped n_stepped : Option Addr} {v_stepped : Array (Option Value)} {c_stepped k_stepped e_stepped m_stepped r_stepped t_stepped : Value}
    (xa_stepped : PySem.W.nsIn K mainGlobals "stepped" = some (some (.ref f_stepped))) (xl_stepped : K.lookup f_stepped = some ⟨c_stepped, o_stepped, .func (PySem.W.fnOf "stepped" "stepped" (defArgs s_stepped) (defBody s_stepped) (defScope s_stepped) .none k_stepped e_stepped m_stepped n_stepped r_stepped t_stepped), v_stepped⟩) (xc_stepped : PySem.W.codeIn K r_stepped "stepped" = true) (xk_stepped : PySem.W.keepIn K (.ref f_stepped) = true)
    {f_run_steps : Addr} {o_run_steps n_run_steps : Option Addr} {v_run_steps : Array (Option Value)} {c_run_steps k_run_steps e_run_steps m_run_steps r_run_steps t_run_steps : Value}
    (xa_run_steps : PySem.W.nsIn K mainGlobals "run_steps" = some (some (.ref f_run_steps))) (xl_run_steps : K.lookup f_run_steps = some ⟨c_run_steps, o_run_steps, .func (PySem.W.fnOf "run_steps" "run_steps" (defArgs s_run_steps) (defBody s_run_steps) (defScope s_run_steps) .none k_run_steps e_run_steps m_run_steps n_run_steps r_run_steps t_run_steps), v_run_steps⟩) (xc_run_steps : PySem.W.codeIn K r_run_steps "run_steps" = true) (xk_run_steps : PySem.W.keepIn K (.ref f_run_steps) = true)
    {f_l_hear : Addr} {o_l_hear n_l_hear : Option Addr} {v_l_hear : Array (Option Value)} {c_l_hear k_l_hear e_l_hear m_l_hear r_l_hear t_l_hear : Value}
    (xa_l_hear : PySem.W.nsIn K mainGlobals "_law_hear" = some (some (.ref f_l_hear))) (xl_l_hear : K.lookup f_l_hear = some ⟨c_l_hear, o_l_hear, .func (PySem.W.fnOf "_law_hear" "_law_hear" (defArgs s_l_hear) (defBody s_l_hear) (defScope s_l_hear) .none k_l_hear e_l_hear m_l_hear n_l_hear r_l_hear t_l_hear), v_l_hear⟩) (xc_l_hear : PySem.W.codeIn K r_l_hear "_law_hear" = true) (xk_l_hear : PySem.W.keepIn K (.ref f_l_hear) = true)
    {f_l_leads : Addr} {o_l_leads n_l_leads : Option Addr} {v_l_leads : Array (Option Value)} {c_l_leads k_l_leads e_l_leads m_l_leads r_l_leads t_l_leads : Value}
    (xa_l_leads : PySem.W.nsIn K mainGlobals "_law_leads" = some (some (.ref f_l_leads))) (xl_l_leads : K.lookup f_l_leads = some ⟨c_l_leads, o_l_leads, .func (PySem.W.fnOf "_law_leads" "_law_leads" (defArgs s_l_leads) (defBody s_l_leads) (defScope s_l_leads) .none k_l_leads e_l_leads m_l_leads n_l_leads r_l_leads t_l_leads), v_l_leads⟩) (xc_l_leads : PySem.W.codeIn K r_l_leads "_law_leads" = true) (xk_l_leads : PySem.W.keepIn K (.ref f_l_leads) = true)
    {f_l_row_is : Addr} {o_l_row_is n_l_row_is : Option Addr} {v_l_row_is : Array (Option Value)} {c_l_row_is k_l_row_is e_l_row_is m_l_row_is r_l_row_is t_l_row_is : Value}
    (xa_l_row_is : PySem.W.nsIn K mainGlobals "_law_row_is" = some (some (.ref f_l_row_is))) (xl_l_row_is : K.lookup f_l_row_is = some ⟨c_l_row_is, o_l_row_is, .func (PySem.W.fnOf "_law_row_is" "_law_row_is" (defArgs s_l_row_is) (defBody s_l_row_is) (defScope s_l_row_is) .none k_l_row_is e_l_row_is m_l_row_is n_l_row_is r_l_row_is t_l_row_is), v_l_row_is⟩) (xc_l_row_is : PySem.W.codeIn K r_l_row_is "_law_row_is" = true) (xk_l_row_is : PySem.W.keepIn K (.ref f_l_row_is) = true)
    {f_l_rows_are : Addr} {o_l_rows_are n_l_rows_are : Option Addr} {v_l_rows_are : Array (Option Value)} {c_l_rows_are k_l_rows_are e_l_rows_are m_l_rows_are r_l_rows_are t_l_rows_are : Value}
    (xa_l_rows_are : PySem.W.nsIn K mainGlobals "_law_rows_are" = some (some (.ref f_l_rows_are))) (xl_l_rows_are : K.lookup f_l_rows_are = some ⟨c_l_rows_are, o_l_rows_are, .func (PySem.W.fnOf "_law_rows_are" "_law_rows_are" (defArgs s_l_rows_are) (defBody s_l_rows_are) (defScope s_l_rows_are) .none k_l_rows_are e_l_rows_are m_l_rows_are n_l_rows_are r_l_rows_are t_l_rows_are), v_l_rows_are⟩) (xc_l_rows_are : PySem.W.codeIn K r_l_rows_are "_law_rows_are" = true) (xk_l_rows_are : PySem.W.keepIn K (.ref f_l_rows_are) = true)
    {f_l_runs : Addr} {o_l_runs n_l_runs : Option Addr} {v_l_runs : Array (Option Value)} {c_l_runs k_l_runs e_l_runs m_l_runs r_l_runs t_l_runs : Value}
    (xa_l_runs : PySem.W.nsIn K mainGlobals "_law_runs" = some (some (.ref f_l_runs))) (xl_l_runs : K.lookup f_l_runs = some ⟨c_l_runs, o_l_runs, .func (PySem.W.fnOf "_law_runs" "_law_runs" (defArgs s_l_runs) (defBody s_l_runs) (defScope s_l_runs) .none k_l_runs e_l_runs m_l_runs n_l_runs r_l_runs t_l_runs), v_l_runs⟩) (xc_l_runs : PySem.W.codeIn K r_l_runs "_law_runs" = true) (xk_l_runs : PySem.W.keepIn K (.ref f_l_runs) = true)
    {f_is_integer : Addr} {o_is_integer n_is_integer : Option Addr} {v_is_integer : Array (Option Value)} {c_is_integer k_is_integer e_is_integer m_is_integer r_is_integer t_is_integer : Value}
    (xa_is_integer : PySem.W.nsIn K mainGlobals "is_integer" = some (some (.ref f_is_integer))) (xl_is_integer : K.lookup f_is_integer = some ⟨c_is_integer, o_is_integer, .func (PySem.W.fnOf "is_integer" "is_integer" (defArgs s_is_integer) (defBody s_is_integer) (defScope s_is_integer) .none k_is_integer e_is_integer m_is_integer n_is_integer r_is_integer t_is_integer), v_is_integer⟩) (xc_is_integer : PySem.W.codeIn K r_is_integer "is_integer" = true) (xk_is_integer : PySem.W.keepIn K (.ref f_is_integer) = true)
    {f_integer_within : Addr} {o_integer_within n_integer_within : Option Addr} {v_integer_within : Array (Option Value)} {c_integer_within k_integer_within e_integer_within m_integer_within r_integer_within t_integer_within : Value}
    (xa_integer_within : PySem.W.nsIn K mainGlobals "integer_within" = some (some (.ref f_integer_within))) (xl_integer_within : K.lookup f_integer_within = some ⟨c_integer_within, o_integer_within, .func (PySem.W.fnOf "integer_within" "integer_within" (defArgs s_integer_within) (defBody s_integer_within) (defScope s_integer_within) .none k_integer_within e_integer_within m_integer_within n_integer_within r_integer_within t_integer_within), v_integer_within⟩) (xc_integer_within : PySem.W.codeIn K r_integer_within "integer_within" = true) (xk_integer_within : PySem.W.keepIn K (.ref f_integer_within) = true)
    {f_is_number : Addr} {o_is_number n_is_number : Option Addr} {v_is_number : Array (Option Value)} {c_is_number k_is_number e_is_number m_is_number r_is_number t_is_number : Value}
    (xa_is_number : PySem.W.nsIn K mainGlobals "is_number" = some (some (.ref f_is_number))) (xl_is_number : K.lookup f_is_number = some ⟨c_is_number, o_is_number, .func (PySem.W.fnOf "is_number" "is_number" (defArgs s_is_number) (defBody s_is_number) (defScope s_is_number) .none k_is_number e_is_number m_is_number n_is_number r_is_number t_is_number), v_is_number⟩) (xc_is_number : PySem.W.codeIn K r_is_number "is_number" = true) (xk_is_number : PySem.W.keepIn K (.ref f_is_number) = true)
    {f_tuple_of : Addr} {o_tuple_of n_tuple_of : Option Addr} {v_tuple_of : Array (Option Value)} {c_tuple_of k_tuple_of e_tuple_of m_tuple_of r_tuple_of t_tuple_of : Value}
    (xa_tuple_of : PySem.W.nsIn K mainGlobals "tuple_of" = some (some (.ref f_tuple_of))) (xl_tuple_of : K.lookup f_tuple_of = some ⟨c_tuple_of, o_tuple_of, .func (PySem.W.fnOf "tuple_of" "tuple_of" (defArgs s_tuple_of) (defBody s_tuple_of) (defScope s_tuple_of) .none k_tuple_of e_tuple_of m_tuple_of n_tuple_of r_tuple_of t_tuple_of), v_tuple_of⟩) (xc_tuple_of : PySem.W.codeIn K r_tuple_of "tuple_of" = true) (xk_tuple_of : PySem.W.keepIn K (.ref f_tuple_of) = true)
    {f_is_step : Addr} {o_is_step n_is_step : Option Addr} {v_is_step : Array (Option Value)} {c_is_step k_is_step e_is_step m_is_step r_is_step t_is_step : Value}
    (xa_is_step : PySem.W.nsIn K mainGlobals "is_step" = some (some (.ref f_is_step))) (xl_is_step : K.lookup f_is_step = some ⟨c_is_step, o_is_step, .func (PySem.W.fnOf "is_step" "is_step" (defArgs s_is_step) (defBody s_is_step) (defScope s_is_step) .none k_is_step e_is_step m_is_step n_is_step r_is_step t_is_step), v_is_step⟩) (xc_is_step : PySem.W.codeIn K r_is_step "is_step" = true) (xk_is_step : PySem.W.keepIn K (.ref f_is_step) = true)
    {f_is_path : Addr} {o_is_path n_is_path : Option Addr} {v_is_path : Array (Option Value)} {c_is_path k_is_path e_is_path m_is_path r_is_path t_is_path : Value}
    (xa_is_path : PySem.W.nsIn K mainGlobals "is_path" = some (some (.ref f_is_path))) (xl_is_path : K.lookup f_is_path = some ⟨c_is_path, o_is_path, .func (PySem.W.fnOf "is_path" "is_path" (defArgs s_is_path) (defBody s_is_path) (defScope s_is_path) .none k_is_path e_is_path m_is_path n_is_path r_is_path t_is_path), v_is_path⟩) (xc_is_path : PySem.W.codeIn K r_is_path "is_path" = true) (xk_is_path : PySem.W.keepIn K (.ref f_is_path) = true)
    {f_l_is : Addr} {o_l_is n_l_is : Option Addr} {v_l_is : Array (Option Value)} {c_l_is k_l_is e_l_is m_l_is r_l_is t_l_is : Value}
    (xa_l_is : PySem.W.nsIn K mainGlobals "_law_is" = some (some (.ref f_l_is))) (xl_l_is : K.lookup f_l_is = some ⟨c_l_is, o_l_is, .func (PySem.W.fnOf "_law_is" "_law_is" (defArgs s_l_is) (defBody s_l_is) (defScope s_l_is) .none k_l_is e_l_is m_l_is n_l_is r_l_is t_l_is), v_l_is⟩) (xc_l_is : PySem.W.codeIn K r_l_is "_law_is" = true) (xk_l_is : PySem.W.keepIn K (.ref f_l_is) = true)
    {f_l_walk : Addr} {o_l_walk n_l_walk : Option Addr} {v_l_walk : Array (Option Value)} {c_l_walk k_l_walk e_l_walk m_l_walk r_l_walk t_l_walk : Value}
    (xa_l_walk : PySem.W.nsIn K mainGlobals "_law_walk" = some (some (.ref f_l_walk))) (xl_l_walk : K.lookup f_l_walk = some ⟨c_l_walk, o_l_walk, .func (PySem.W.fnOf "_law_walk" "_law_walk" (defArgs s_l_walk) (defBody s_l_walk) (defScope s_l_walk) .none k_l_walk e_l_walk m_l_walk n_l_walk r_l_walk t_l_walk), v_l_walk⟩) (xc_l_walk : PySem.W.codeIn K r_l_walk "_law_walk" = true) (xk_l_walk : PySem.W.keepIn K (.ref f_l_walk) = true)
    {f_turned_step : Addr} {o_turned_step n_turned_step : Option Addr} {v_turned_step : Array (Option Value)} {c_turned_step k_turned_step e_turned_step m_turned_step r_turned_step t_turned_step : Value}
    (xa_turned_step : PySem.W.nsIn K mainGlobals "turned_step" = some (some (.ref f_turned_step))) (xl_turned_step : K.lookup f_turned_step = some ⟨c_turned_step, o_turned_step, .func (PySem.W.fnOf "turned_step" "turned_step" (defArgs s_turned_step) (defBody s_turned_step) (defScope s_turned_step) .none k_turned_step e_turned_step m_turned_step n_turned_step r_turned_step t_turned_step), v_turned_step⟩) (xc_turned_step : PySem.W.codeIn K r_turned_step "turned_step" = true) (xk_turned_step : PySem.W.keepIn K (.ref f_turned_step) = true)
    {f_turned_path : Addr} {o_turned_path n_turned_path : Option Addr} {v_turned_path : Array (Option Value)} {c_turned_path k_turned_path e_turned_path m_turned_path r_turned_path t_turned_path : Value}
    (xa_turned_path : PySem.W.nsIn K mainGlobals "turned_path" = some (some (.ref f_turned_path))) (xl_turned_path : K.lookup f_turned_path = some ⟨c_turned_path, o_turned_path, .func (PySem.W.fnOf "turned_path" "turned_path" (defArgs s_turned_path) (defBody s_turned_path) (defScope s_turned_path) .none k_turned_path e_turned_path m_turned_path n_turned_path r_turned_path t_turned_path), v_turned_path⟩) (xc_turned_path : PySem.W.codeIn K r_turned_path "turned_path" = true) (xk_turned_path : PySem.W.keepIn K (.ref f_turned_path) = true)
    {f_l_turns : Addr} {o_l_turns n_l_turns : Option Addr} {v_l_turns : Array (Option Value)} {c_l_turns k_l_turns e_l_turns m_l_turns r_l_turns t_l_turns : Value}
    (xa_l_turns : PySem.W.nsIn K mainGlobals "_law_turns" = some (some (.ref f_l_turns))) (xl_l_turns : K.lookup f_l_turns = some ⟨c_l_turns, o_l_turns, .func (PySem.W.fnOf "_law_turns" "_law_turns" (defArgs s_l_turns) (defBody s_l_turns) (defScope s_l_turns) .none k_l_turns e_l_turns m_l_turns n_l_turns r_l_turns t_l_turns), v_l_turns⟩) (xc_l_turns : PySem.W.codeIn K r_l_turns "_law_turns" = true) (xk_l_turns : PySem.W.keepIn K (.ref f_l_turns) = true)
    {f_l_broken : Addr} {o_l_broken n_l_broken : Option Addr} {v_l_broken : Array (Option Value)} {c_l_broken k_l_broken e_l_broken m_l_broken r_l_broken t_l_broken : Value}
    (xa_l_broken : PySem.W.nsIn K mainGlobals "_law_broken" = some (some (.ref f_l_broken))) (xl_l_broken : K.lookup f_l_broken = some ⟨c_l_broken, o_l_broken, .func (PySem.W.fnOf "_law_broken" "_law_broken" (defArgs s_l_broken) (defBody s_l_broken) (defScope s_l_broken) .none k_l_broken e_l_broken m_l_broken n_l_broken r_l_broken t_l_broken), v_l_broken⟩) (xc_l_broken : PySem.W.codeIn K r_l_broken "_law_broken" = true) (xk_l_broken : PySem.W.keepIn K (.ref f_l_broken) = true)
    {f_l_judge : Addr} {o_l_judge n_l_judge : Option Addr} {v_l_judge : Array (Option Value)} {c_l_judge k_l_judge e_l_judge m_l_judge r_l_judge t_l_judge : Value}
    (xa_l_judge : PySem.W.nsIn K mainGlobals "_law_judge" = some (some (.ref f_l_judge))) (xl_l_judge : K.lookup f_l_judge = some ⟨c_l_judge, o_l_judge, .func (PySem.W.fnOf "_law_judge" "_law_judge" (defArgs s_l_judge) (defBody s_l_judge) (defScope s_l_judge) .none k_l_judge e_l_judge m_l_judge n_l_judge r_l_judge t_l_judge), v_l_judge⟩) (xc_l_judge : PySem.W.codeIn K r_l_judge "_law_judge" = true) (xk_l_judge : PySem.W.keepIn K (.ref f_l_judge) = true)
    {f_l_faults : Addr} {o_l_faults n_l_faults : Option Addr} {v_l_faults : Array (Option Value)} {c_l_faults k_l_faults e_l_faults m_l_faults r_l_faults t_l_faults : Value}
    (xa_l_faults : PySem.W.nsIn K mainGlobals "_law_faults" = some (some (.ref f_l_faults))) (xl_l_faults : K.lookup f_l_faults = some ⟨c_l_faults, o_l_faults, .func (PySem.W.fnOf "_law_faults" "_law_faults" (defArgs s_l_faults) (defBody s_l_faults) (defScope s_l_faults) .none k_l_faults e_l_faults m_l_faults n_l_faults r_l_faults t_l_faults), v_l_faults⟩) (xc_l_faults : PySem.W.codeIn K r_l_faults "_law_faults" = true) (xk_l_faults : PySem.W.keepIn K (.ref f_l_faults) = true)
    {f_l_path : Addr} {o_l_path n_l_path : Option Addr} {v_l_path : Array (Option Value)} {c_l_path k_l_path e_l_path m_l_path r_l_path t_l_path : Value}
    (xa_l_path : PySem.W.nsIn K mainGlobals "_law_path" = some (some (.ref f_l_path))) (xl_l_path : K.lookup f_l_path = some ⟨c_l_path, o_l_path, .func (PySem.W.fnOf "_law_path" "_law_path" (defArgs s_l_path) (defBody s_l_path) (defScope s_l_path) .none k_l_path e_l_path m_l_path n_l_path r_l_path t_l_path), v_l_path⟩) (xc_l_path : PySem.W.codeIn K r_l_path "_law_path" = true) (xk_l_path : PySem.W.keepIn K (.ref f_l_path) = true)
    {f_l_by_hand : Addr} {o_l_by_hand n_l_by_hand : Option Addr} {v_l_by_hand : Array (Option Value)} {c_l_by_hand k_l_by_hand e_l_by_hand m_l_by_hand r_l_by_hand t_l_by_hand : Value}
    (xa_l_by_hand : PySem.W.nsIn K mainGlobals "_law_by_hand" = some (some (.ref f_l_by_hand))) (xl_l_by_hand : K.lookup f_l_by_hand = some ⟨c_l_by_hand, o_l_by_hand, .func (PySem.W.fnOf "_law_by_hand" "_law_by_hand" (defArgs s_l_by_hand) (defBody s_l_by_hand) (defScope s_l_by_hand) .none k_l_by_hand e_l_by_hand m_l_by_hand n_l_by_hand r_l_by_hand t_l_by_hand), v_l_by_hand⟩) (xc_l_by_hand : PySem.W.codeIn K r_l_by_hand "_law_by_hand" = true) (xk_l_by_hand : PySem.W.keepIn K (.ref f_l_by_hand) = true)
    {f_l_path_ends : Addr} {o_l_path_ends n_l_path_ends : Option Addr} {v_l_path_ends : Array (Option Value)} {c_l_path_ends k_l_path_ends e_l_path_ends m_l_path_ends r_l_path_ends t_l_path_ends : Value}
    (xa_l_path_ends : PySem.W.nsIn K mainGlobals "_law_path_ends" = some (some (.ref f_l_path_ends))) (xl_l_path_ends : K.lookup f_l_path_ends = some ⟨c_l_path_ends, o_l_path_ends, .func (PySem.W.fnOf "_law_path_ends" "_law_path_ends" (defArgs s_l_path_ends) (defBody s_l_path_ends) (defScope s_l_path_ends) .none k_l_path_ends e_l_path_ends m_l_path_ends n_l_path_ends r_l_path_ends t_l_path_ends), v_l_path_ends⟩) (xc_l_path_ends : PySem.W.codeIn K r_l_path_ends "_law_path_ends" = true) (xk_l_path_ends : PySem.W.keepIn K (.ref f_l_path_ends) = true)
    {f_l_long : Addr} {o_l_long n_l_long : Option Addr} {v_l_long : Array (Option Value)} {c_l_long k_l_long e_l_long m_l_long r_l_long t_l_long : Value}
    (xa_l_long : PySem.W.nsIn K mainGlobals "_law_long" = some (some (.ref f_l_long))) (xl_l_long : K.lookup f_l_long = some ⟨c_l_long, o_l_long, .func (PySem.W.fnOf "_law_long" "_law_long" (defArgs s_l_long) (defBody s_l_long) (defScope s_l_long) .none k_l_long e_l_long m_l_long n_l_long r_l_long t_l_long), v_l_long⟩) (xc_l_long : PySem.W.codeIn K r_l_long "_law_long" = true) (xk_l_long : PySem.W.keepIn K (.ref f_l_long) = true)
    {f_law : Addr} {o_law n_law : Option Addr} {v_law : Array (Option Value)} {c_law k_law e_law m_law r_law t_law : Value}
    (xa_law : PySem.W.nsIn K mainGlobals "law" = some (some (.ref f_law))) (xl_law : K.lookup f_law = some ⟨c_law, o_law, .func (PySem.W.fnOf "law" "law" (defArgs s_law) (defBody s_law) (defScope s_law) .none k_law e_law m_law n_law r_law t_law), v_law⟩) (xc_law : PySem.W.codeIn K r_law "law" = true) (xk_law : PySem.W.keepIn K (.ref f_law) = true)
    (xz_ValueError : PySem.W.nsIn K mainGlobals "ValueError" = some none)
    (xz_abs : PySem.W.nsIn K mainGlobals "abs" = some none)
    (xz_all : PySem.W.nsIn K mainGlobals "all" = some none)
    (xz_bool : PySem.W.nsIn K mainGlobals "bool" = some none)
    (xz_enumerate : PySem.W.nsIn K mainGlobals "enumerate" = some none)
    (xz_int : PySem.W.nsIn K mainGlobals "int" = some none)
    (xz_isinstance : PySem.W.nsIn K mainGlobals "isinstance" = some none)
    (xz_len : PySem.W.nsIn K mainGlobals "len" = some none)
    (xz_list : PySem.W.nsIn K mainGlobals "list" = some none)
    (xz_max : PySem.W.nsIn K mainGlobals "max" = some none)
    (xz_min : PySem.W.nsIn K mainGlobals "min" = some none)
    (xz_range : PySem.W.nsIn K mainGlobals "range" = some none)
    (xz_reversed : PySem.W.nsIn K mainGlobals "reversed" = some none)
    (xz_tuple : PySem.W.nsIn K mainGlobals "tuple" = some none)
    {c_BadPath : Addr} (ya_BadPath : PySem.W.nsIn K mainGlobals "BadPath" = some (some (.ref c_BadPath)))
    {c_HeardError : Addr} (ya_HeardError : PySem.W.nsIn K mainGlobals "HeardError" = some (some (.ref c_HeardError)))
    {c_AskError : Addr} (ya_AskError : PySem.W.nsIn K mainGlobals "AskError" = some (some (.ref c_AskError)))
    {c_TextError : Addr} (ya_TextError : PySem.W.nsIn K mainGlobals "TextError" = some (some (.ref c_TextError)))
    {c_DataError : Addr} (ya_DataError : PySem.W.nsIn K mainGlobals "DataError" = some (some (.ref c_DataError)))
    {c_BadStep : Addr} (ya_BadStep : PySem.W.nsIn K mainGlobals "BadStep" = some (some (.ref c_BadStep)))
    {c_CallError : Addr} (ya_CallError : PySem.W.nsIn K mainGlobals "CallError" = some (some (.ref c_CallError)))
    {i_BadPath : Addr} {q_BadPath : Str} (yi_BadPath : PySem.W.findIn K (.ref c_BadPath) "__init__" = some (some (.ref i_BadPath))) (yb_BadPath : SxK Pr K c_BadPath i_BadPath [("at" : Str)]) (yf_BadPath : PySem.SxX.Fn_at Pr K c_BadPath i_BadPath q_BadPath)
    (yq : PySem.W.nsIn K cStatics "thirdparty.any" = some none) (yS : PySem.W.nsIn K mainGlobals "super" = some none) (yT : (Pr.main.scope.names.lookup ("super" : Str)).isSome = false)
    (ze_HeardError_BadPath : PySem.W.exmOne K (.ref c_BadPath) (.ref c_HeardError) = some true)
    (ze_BadPath_BadPath : PySem.W.exmOne K (.ref c_BadPath) (.ref c_BadPath) = some true)
    (zx_BadPath : excB K c_BadPath = true)
    (zk_AskError_BadPath : PySem.W.kitOne K (.ref c_BadPath) (.ref c_AskError) = some false)
    (zk_TextError_BadPath : PySem.W.kitOne K (.ref c_BadPath) (.ref c_TextError) = some false)
    (zk_DataError_BadPath : PySem.W.kitOne K (.ref c_BadPath) (.ref c_DataError) = some false)
    (zk_BadStep_BadPath : PySem.W.kitOne K (.ref c_BadPath) (.ref c_BadStep) = some false)
    (zk_CallError_BadPath : PySem.W.kitOne K (.ref c_BadPath) (.ref c_CallError) = some true)
    (zk_ValueError_BadPath : PySem.W.kitOne K (.ref c_BadPath) (.type "ValueError") = some true)
    (yx_BadPath : xfB K c_BadPath = true) : Tx Pr K mg where
  a_l_chest := f_l_chest
  d_l_chest := _
  p_l_chest := ⟨fun_mk (st := s_l_chest) xl_l_chest xc_l_chest xk_l_chest, (fun_mk (st := s_l_chest) xl_l_chest xc_l_chest xk_l_chest).binds (ps := ["script"]) fun _ _ _ _ _ _ us hl => match us, hl with | [_], _ => rfl, PySem.W.mg_of X G xa_l_chest⟩
  a_l_lift := f_l_lift
  d_l_lift := _
  p_l_lift := ⟨fun_mk (st := s_l_lift) xl_l_lift xc_l_lift xk_l_lift, (fun_mk (st := s_l_lift) xl_l_lift xc_l_lift xk_l_lift).binds (ps := ["chest", "many"]) fun _ _ _ _ _ _ us hl => match us, hl with | [_, _], _ => rfl, PySem.W.mg_of X G xa_l_lift⟩
  a_l_setting := f_l_setting
  d_l_setting := _
  p_l_setting := ⟨fun_mk (st := s_l_setting) xl_l_setting xc_l_setting xk_l_setting, (fun_mk (st := s_l_setting) xl_l_setting xc_l_setting xk_l_setting).binds (ps := ["chest", "many"]) fun _ _ _ _ _ _ us hl => match us, hl with | [_, _], _ => rfl, PySem.W.mg_of X G xa_l_setting⟩
  a_l_row := f_l_row
  d_l_row := _
  p_l_row := ⟨fun_mk (st := s_l_row) xl_l_row xc_l_row xk_l_row, (fun_mk (st := s_l_row) xl_l_row xc_l_row xk_l_row).binds (ps := ["chest", "many", "length"]) fun _ _ _ _ _ _ us hl => match us, hl with | [_, _, _], _ => rfl, PySem.W.mg_of X G xa_l_row⟩
  a_held_step := f_held_step
  d_held_step := _
  p_held_step := ⟨fun_mk (st := s_held_step) xl_held_step xc_held_step xk_held_step, (fun_mk (st := s_held_step) xl_held_step xc_held_step xk_held_step).binds (ps := ["row", "sign", "place", "way"]) fun _ _ _ _ _ _ us hl => match us, hl with | [_, _, _, _], _ => rfl, PySem.W.mg_of X G xa_held_step⟩
  a_idle_step := f_idle_step
  d_idle_step := _
  p_idle_step := ⟨fun_mk (st := s_idle_step) xl_idle_step xc_idle_step xk_idle_step, (fun_mk (st := s_idle_step) xl_idle_step xc_idle_step xk_idle_step).binds (ps := ["row", "sign", "place", "way"]) fun _ _ _ _ _ _ us hl => match us, hl with | [_, _, _, _], _ => rfl, PySem.W.mg_of X G xa_idle_step⟩
  a_loose_step := f_loose_step
  d_loose_step := _
  p_loose_step := ⟨fun_mk (st := s_loose_step) xl_loose_step xc_loose_step xk_loose_step, (fun_mk (st := s_loose_step) xl_loose_step xc_loose_step xk_loose_step).binds (ps := ["row", "one", "other", "place", "way"]) fun _ _ _ _ _ _ us hl => match us, hl with | [_, _, _, _, _], _ => rfl, PySem.W.mg_of X G xa_loose_step⟩
  a_same_step := f_same_step
  d_same_step := _
  p_same_step := ⟨fun_mk (st := s_same_step) xl_same_step xc_same_step xk_same_step, (fun_mk (st := s_same_step) xl_same_step xc_same_step xk_same_step).binds (ps := ["row", "one", "other", "place", "way"]) fun _ _ _ _ _ _ us hl => match us, hl with | [_, _, _, _, _], _ => rfl, PySem.W.mg_of X G xa_same_step⟩
  a_stepped := f_stepped
  d_stepped := _
  p_stepped := ⟨fun_mk (st := s_stepped) xl_stepped xc_stepped xk_stepped, (fun_mk (st := s_stepped) xl_stepped xc_stepped xk_stepped).binds (ps := ["setting", "row", "step"]) fun _ _ _ _ _ _ us hl => match us, hl with | [_, _, _], _ => rfl, PySem.W.mg_of X G xa_stepped⟩
  a_run_steps := f_run_steps
  d_run_steps := _
  p_run_steps := ⟨fun_mk (st := s_run_steps) xl_run_steps xc_run_steps xk_run_steps, (fun_mk (st := s_run_steps) xl_run_steps xc_run_steps xk_run_steps).binds (ps := ["setting", "row", "steps"]) fun _ _ _ _ _ _ us hl => match us, hl with | [_, _, _], _ => rfl, PySem.W.mg_of X G xa_run_steps⟩
  a_l_hear := f_l_hear
  d_l_hear := _
  p_l_hear := ⟨fun_mk (st := s_l_hear) xl_l_hear xc_l_hear xk_l_hear, (fun_mk (st := s_l_hear) xl_l_hear xc_l_hear xk_l_hear).binds (ps := ["setting", "row", "number", "place", "way"]) fun _ _ _ _ _ _ us hl => match us, hl with | [_, _, _, _, _], _ => rfl, PySem.W.mg_of X G xa_l_hear⟩
  a_l_leads := f_l_leads
  d_l_leads := _
  p_l_leads := ⟨fun_mk (st := s_l_leads) xl_l_leads xc_l_leads xk_l_leads, (fun_mk (st := s_l_leads) xl_l_leads xc_l_leads xk_l_leads).binds (ps := ["setting", "row", "steps"]) fun _ _ _ _ _ _ us hl => match us, hl with | [_, _, _], _ => rfl, PySem.W.mg_of X G xa_l_leads⟩
  a_l_row_is := f_l_row_is
  d_l_row_is := _
  p_l_row_is := ⟨fun_mk (st := s_l_row_is) xl_l_row_is xc_l_row_is xk_l_row_is, (fun_mk (st := s_l_row_is) xl_l_row_is xc_l_row_is xk_l_row_is).binds (ps := ["told", "due"]) fun _ _ _ _ _ _ us hl => match us, hl with | [_, _], _ => rfl, PySem.W.mg_of X G xa_l_row_is⟩
  a_l_rows_are := f_l_rows_are
  d_l_rows_are := _
  p_l_rows_are := ⟨fun_mk (st := s_l_rows_are) xl_l_rows_are xc_l_rows_are xk_l_rows_are, (fun_mk (st := s_l_rows_are) xl_l_rows_are xc_l_rows_are xk_l_rows_are).binds (ps := ["told", "due"]) fun _ _ _ _ _ _ us hl => match us, hl with | [_, _], _ => rfl, PySem.W.mg_of X G xa_l_rows_are⟩
  a_l_runs := f_l_runs
  d_l_runs := _
  p_l_runs := ⟨fun_mk (st := s_l_runs) xl_l_runs xc_l_runs xk_l_runs, (fun_mk (st := s_l_runs) xl_l_runs xc_l_runs xk_l_runs).binds (ps := ["setting", "row", "steps", "named"]) fun _ _ _ _ _ _ us hl => match us, hl with | [_, _, _, _], _ => rfl, PySem.W.mg_of X G xa_l_runs⟩
  a_is_integer := f_is_integer
  d_is_integer := _
  p_is_integer := ⟨fun_mk (st := s_is_integer) xl_is_integer xc_is_integer xk_is_integer, (fun_mk (st := s_is_integer) xl_is_integer xc_is_integer xk_is_integer).binds (ps := ["thing"]) fun _ _ _ _ _ _ us hl => match us, hl with | [_], _ => rfl, PySem.W.mg_of X G xa_is_integer⟩
  a_integer_within := f_integer_within
  d_integer_within := _
  p_integer_within := ⟨fun_mk (st := s_integer_within) xl_integer_within xc_integer_within xk_integer_within, (fun_mk (st := s_integer_within) xl_integer_within xc_integer_within xk_integer_within).binds (ps := ["thing", "low", "high"]) fun _ _ _ _ _ _ us hl => match us, hl with | [_, _, _], _ => rfl, PySem.W.mg_of X G xa_integer_within⟩
  a_is_number := f_is_number
  d_is_number := _
  p_is_number := ⟨fun_mk (st := s_is_number) xl_is_number xc_is_number xk_is_number, (fun_mk (st := s_is_number) xl_is_number xc_is_number xk_is_number).binds (ps := ["thing", "many"]) fun _ _ _ _ _ _ us hl => match us, hl with | [_, _], _ => rfl, PySem.W.mg_of X G xa_is_number⟩
  a_tuple_of := f_tuple_of
  d_tuple_of := _
  p_tuple_of := ⟨fun_mk (st := s_tuple_of) xl_tuple_of xc_tuple_of xk_tuple_of, (fun_mk (st := s_tuple_of) xl_tuple_of xc_tuple_of xk_tuple_of).binds (ps := ["thing", "many"]) fun _ _ _ _ _ _ us hl => match us, hl with | [_, _], _ => rfl, PySem.W.mg_of X G xa_tuple_of⟩
  a_is_step := f_is_step
  d_is_step := _
  p_is_step := ⟨fun_mk (st := s_is_step) xl_is_step xc_is_step xk_is_step, (fun_mk (st := s_is_step) xl_is_step xc_is_step xk_is_step).binds (ps := ["setting", "thing"]) fun _ _ _ _ _ _ us hl => match us, hl with | [_, _], _ => rfl, PySem.W.mg_of X G xa_is_step⟩
  a_is_path := f_is_path
  d_is_path := _
  p_is_path := ⟨fun_mk (st := s_is_path) xl_is_path xc_is_path xk_is_path, (fun_mk (st := s_is_path) xl_is_path xc_is_path xk_is_path).binds (ps := ["setting", "row", "other", "thing"]) fun _ _ _ _ _ _ us hl => match us, hl with | [_, _, _, _], _ => rfl, PySem.W.mg_of X G xa_is_path⟩
  a_l_is := f_l_is
  d_l_is := _
  p_l_is := ⟨fun_mk (st := s_l_is) xl_l_is xc_l_is xk_l_is, (fun_mk (st := s_l_is) xl_l_is xc_l_is xk_l_is).binds (ps := ["setting", "row", "other", "thing", "due", "named"]) fun _ _ _ _ _ _ us hl => match us, hl with | [_, _, _, _, _, _], _ => rfl, PySem.W.mg_of X G xa_l_is⟩
  a_l_walk := f_l_walk
  d_l_walk := _
  p_l_walk := ⟨fun_mk (st := s_l_walk) xl_l_walk xc_l_walk xk_l_walk, (fun_mk (st := s_l_walk) xl_l_walk xc_l_walk xk_l_walk).binds (ps := ["chest", "setting", "row", "laps", "most"]) fun _ _ _ _ _ _ us hl => match us, hl with | [_, _, _, _, _], _ => rfl, PySem.W.mg_of X G xa_l_walk⟩
  a_turned_step := f_turned_step
  d_turned_step := _
  p_turned_step := ⟨fun_mk (st := s_turned_step) xl_turned_step xc_turned_step xk_turned_step, (fun_mk (st := s_turned_step) xl_turned_step xc_turned_step xk_turned_step).binds (ps := ["setting", "step"]) fun _ _ _ _ _ _ us hl => match us, hl with | [_, _], _ => rfl, PySem.W.mg_of X G xa_turned_step⟩
  a_turned_path := f_turned_path
  d_turned_path := _
  p_turned_path := ⟨fun_mk (st := s_turned_path) xl_turned_path xc_turned_path xk_turned_path, (fun_mk (st := s_turned_path) xl_turned_path xc_turned_path xk_turned_path).binds (ps := ["setting", "steps"]) fun _ _ _ _ _ _ us hl => match us, hl with | [_, _], _ => rfl, PySem.W.mg_of X G xa_turned_path⟩
  a_l_turns := f_l_turns
  d_l_turns := _
  p_l_turns := ⟨fun_mk (st := s_l_turns) xl_l_turns xc_l_turns xk_l_turns, (fun_mk (st := s_l_turns) xl_l_turns xc_l_turns xk_l_turns).binds (ps := ["setting", "steps", "named"]) fun _ _ _ _ _ _ us hl => match us, hl with | [_, _, _], _ => rfl, PySem.W.mg_of X G xa_l_turns⟩
  a_l_broken := f_l_broken
  d_l_broken := _
  p_l_broken := ⟨fun_mk (st := s_l_broken) xl_l_broken xc_l_broken xk_l_broken, (fun_mk (st := s_l_broken) xl_l_broken xc_l_broken xk_l_broken).binds (ps := ["chest", "setting", "row", "steps", "named"]) fun _ _ _ _ _ _ us hl => match us, hl with | [_, _, _, _, _], _ => rfl, PySem.W.mg_of X G xa_l_broken⟩
  a_l_judge := f_l_judge
  d_l_judge := _
  p_l_judge := ⟨fun_mk (st := s_l_judge) xl_l_judge xc_l_judge xk_l_judge, (fun_mk (st := s_l_judge) xl_l_judge xc_l_judge xk_l_judge).binds (ps := ["setting", "row", "other", "steps", "named"]) fun _ _ _ _ _ _ us hl => match us, hl with | [_, _, _, _, _], _ => rfl, PySem.W.mg_of X G xa_l_judge⟩
  a_l_faults := f_l_faults
  d_l_faults := _
  p_l_faults := ⟨fun_mk (st := s_l_faults) xl_l_faults xc_l_faults xk_l_faults, (fun_mk (st := s_l_faults) xl_l_faults xc_l_faults xk_l_faults).binds (ps := ["chest", "setting", "row", "steps", "named"]) fun _ _ _ _ _ _ us hl => match us, hl with | [_, _, _, _, _], _ => rfl, PySem.W.mg_of X G xa_l_faults⟩
  a_l_path := f_l_path
  d_l_path := _
  p_l_path := ⟨fun_mk (st := s_l_path) xl_l_path xc_l_path xk_l_path, (fun_mk (st := s_l_path) xl_l_path xc_l_path xk_l_path).binds (ps := ["chest", "setting", "row", "laps", "named"]) fun _ _ _ _ _ _ us hl => match us, hl with | [_, _, _, _, _], _ => rfl, PySem.W.mg_of X G xa_l_path⟩
  a_l_by_hand := f_l_by_hand
  d_l_by_hand := _
  p_l_by_hand := ⟨fun_mk (st := s_l_by_hand) xl_l_by_hand xc_l_by_hand xk_l_by_hand, (fun_mk (st := s_l_by_hand) xl_l_by_hand xc_l_by_hand xk_l_by_hand).binds (ps := ["chest", "named"]) fun _ _ _ _ _ _ us hl => match us, hl with | [_, _], _ => rfl, PySem.W.mg_of X G xa_l_by_hand⟩
  a_l_path_ends := f_l_path_ends
  d_l_path_ends := _
  p_l_path_ends := ⟨fun_mk (st := s_l_path_ends) xl_l_path_ends xc_l_path_ends xk_l_path_ends, (fun_mk (st := s_l_path_ends) xl_l_path_ends xc_l_path_ends xk_l_path_ends).binds (ps := ["setting", "row", "steps", "named"]) fun _ _ _ _ _ _ us hl => match us, hl with | [_, _, _, _], _ => rfl, PySem.W.mg_of X G xa_l_path_ends⟩
  a_l_long := f_l_long
  d_l_long := _
  p_l_long := ⟨fun_mk (st := s_l_long) xl_l_long xc_l_long xk_l_long, (fun_mk (st := s_l_long) xl_l_long xc_l_long xk_l_long).binds (ps := ["chest", "named", "laps"]) fun _ _ _ _ _ _ us hl => match us, hl with | [_, _, _], _ => rfl, PySem.W.mg_of X G xa_l_long⟩
  a_law := f_law
  d_law := _
  p_law := ⟨fun_mk (st := s_law) xl_law xc_law xk_law, (fun_mk (st := s_law) xl_law xc_law xk_law).binds (ps := ["script"]) fun _ _ _ _ _ _ us hl => match us, hl with | [_], _ => rfl, PySem.W.mg_of X G xa_law⟩
  z_ValueError := PySem.W.mg_none_of X G xz_ValueError
  z_abs := PySem.W.mg_none_of X G xz_abs
  z_all := PySem.W.mg_none_of X G xz_all
  z_bool := PySem.W.mg_none_of X G xz_bool
  z_enumerate := PySem.W.mg_none_of X G xz_enumerate
  z_int := PySem.W.mg_none_of X G xz_int
  z_isinstance := PySem.W.mg_none_of X G xz_isinstance
  z_len := PySem.W.mg_none_of X G xz_len
  z_list := PySem.W.mg_none_of X G xz_list
  z_max := PySem.W.mg_none_of X G xz_max
  z_min := PySem.W.mg_none_of X G xz_min
  z_range := PySem.W.mg_none_of X G xz_range
  z_reversed := PySem.W.mg_none_of X G xz_reversed
  z_tuple := PySem.W.mg_none_of X G xz_tuple
  c_HeardError := c_HeardError
  c_AskError := c_AskError
  c_TextError := c_TextError
  c_DataError := c_DataError
  c_BadStep := c_BadStep
  c_CallError := c_CallError
  c_BadPath := c_BadPath
  i_BadPath := i_BadPath
  q_BadPath := q_BadPath
  sx_BadPath := sxc_mk X G ya_BadPath yi_BadPath yb_BadPath yq yS yT
  fn_BadPath := yf_BadPath
  n_BadPath := ya_BadPath
  gx_HeardError := PySem.W.mg_of X G ya_HeardError
  gx_BadPath := PySem.W.mg_of X G ya_BadPath
  gx_AskError := PySem.W.mg_of X G ya_AskError
  gx_TextError := PySem.W.mg_of X G ya_TextError
  gx_DataError := PySem.W.mg_of X G ya_DataError
  gx_BadStep := PySem.W.mg_of X G ya_BadStep
  gx_CallError := PySem.W.mg_of X G ya_CallError
  xm_HeardError := col_mk rfl (xcol_cons ya_BadPath ze_HeardError_BadPath xcol_nil)
  xm_BadPath := col_mk rfl (xcol_cons ya_BadPath ze_BadPath_BadPath xcol_nil)
  km_AskError := kit_mk rfl (kcol_cons ya_BadPath (excB_ok zx_BadPath) zk_AskError_BadPath kcol_nil)
  km_TextError := kit_mk rfl (kcol_cons ya_BadPath (excB_ok zx_BadPath) zk_TextError_BadPath kcol_nil)
  km_DataError := kit_mk rfl (kcol_cons ya_BadPath (excB_ok zx_BadPath) zk_DataError_BadPath kcol_nil)
  km_BadStep := kit_mk rfl (kcol_cons ya_BadPath (excB_ok zx_BadPath) zk_BadStep_BadPath kcol_nil)
  km_CallError := kit_mk rfl (kcol_cons ya_BadPath (excB_ok zx_BadPath) zk_CallError_BadPath kcol_nil)
  km_ValueError := kit_mk rfl (kcol_cons ya_BadPath (excB_ok zx_BadPath) zk_ValueError_BadPath kcol_nil)
  xf_BadPath := xfB_ok yx_BadPath
theorem all_mk {l : PySem.W.OpenLaw} {w : World} {K : PySem.W.Frag} {h : Heap} {mg : Str → Option Value} {fa : Addr} (X : K.In h) (G : h.Ns mainGlobals mg) (hfa : mg "law" = some (.ref fa))
    {f_l_chest : Addr} {o_l_chest n_l_chest : Option Addr} {v_l_chest : Array (Option Value)} {c_l_chest k_l_chest e_l_chest m_l_chest r_l_chest t_l_chest : Value}
    (xa_l_chest : PySem.W.nsIn K mainGlobals "_law_chest" = some (some (.ref f_l_chest))) (xl_l_chest : K.lookup f_l_chest = some ⟨c_l_chest, o_l_chest, .func (PySem.W.fnOf "_law_chest" "_law_chest" (defArgs s_l_chest) (defBody s_l_chest) (defScope s_l_chest) .none k_l_chest e_l_chest m_l_chest n_l_chest r_l_chest t_l_chest), v_l_chest⟩) (xc_l_chest : PySem.W.codeIn K r_l_chest "_law_chest" = true) (xk_l_chest : PySem.W.keepIn K (.ref f_l_chest) = true)
    {f_l_lift : Addr} {o_l_lift n_l_lift : Option Addr} {v_l_lift : Array (Option Value)} {c_l_lift k_l_lift e_l_lift m_l_lift r_l_lift t_l_lift : Value}
    (xa_l_lift : PySem.W.nsIn K mainGlobals "_law_lift" = some (some (.ref f_l_lift))) (xl_l_lift : K.lookup f_l_lift = some ⟨c_l_lift, o_l_lift, .func (PySem.W.fnOf "_law_lift" "_law_lift" (defArgs s_l_lift) (defBody s_l_lift) (defScope s_l_lift) .none k_l_lift e_l_lift m_l_lift n_l_lift r_l_lift t_l_lift), v_l_lift⟩) (xc_l_lift : PySem.W.codeIn K r_l_lift "_law_lift" = true) (xk_l_lift : PySem.W.keepIn K (.ref f_l_lift) = true)
    {f_l_setting : Addr} {o_l_setting n_l_setting : Option Addr} {v_l_setting : Array (Option Value)} {c_l_setting k_l_setting e_l_setting m_l_setting r_l_setting t_l_setting : Value}
    (xa_l_setting : PySem.W.nsIn K mainGlobals "_law_setting" = some (some (.ref f_l_setting))) (xl_l_setting : K.lookup f_l_setting = some ⟨c_l_setting, o_l_setting, .func (PySem.W.fnOf "_law_setting" "_law_setting" (defArgs s_l_setting) (defBody s_l_setting) (defScope s_l_setting) .none k_l_setting e_l_setting m_l_setting n_l_setting r_l_setting t_l_setting), v_l_setting⟩) (xc_l_setting : PySem.W.codeIn K r_l_setting "_law_setting" = true) (xk_l_setting : PySem.W.keepIn K (.ref f_l_setting) = true)
    {f_l_row : Addr} {o_l_row n_l_row : Option Addr} {v_l_row : Array (Option Value)} {c_l_row k_l_row e_l_row m_l_row r_l_row t_l_row : Value}
    (xa_l_row : PySem.W.nsIn K mainGlobals "_law_row" = some (some (.ref f_l_row))) (xl_l_row : K.lookup f_l_row = some ⟨c_l_row, o_l_row, .func (PySem.W.fnOf "_law_row" "_law_row" (defArgs s_l_row) (defBody s_l_row) (defScope s_l_row) .none k_l_row e_l_row m_l_row n_l_row r_l_row t_l_row), v_l_row⟩) (xc_l_row : PySem.W.codeIn K r_l_row "_law_row" = true) (xk_l_row : PySem.W.keepIn K (.ref f_l_row) = true)
    {f_held_step : Addr} {o_held_step n_held_step : Option Addr} {v_held_step : Array (Option Value)} {c_held_step k_held_step e_held_step m_held_step r_held_step t_held_step : Value}
    (xa_held_step : PySem.W.nsIn K mainGlobals "held_step" = some (some (.ref f_held_step))) (xl_held_step : K.lookup f_held_step = some ⟨c_held_step, o_held_step, .func (PySem.W.fnOf "held_step" "held_step" (defArgs s_held_step) (defBody s_held_step) (defScope s_held_step) .none k_held_step e_held_step m_held_step n_held_step r_held_step t_held_step), v_held_step⟩) (xc_held_step : PySem.W.codeIn K r_held_step "held_step" = true) (xk_held_step : PySem.W.keepIn K (.ref f_held_step) = true)
    {f_idle_step : Addr} {o_idle_step n_idle_step : Option Addr} {v_idle_step : Array (Option Value)} {c_idle_step k_idle_step e_idle_step m_idle_step r_idle_step t_idle_step : Value}
    (xa_idle_step : PySem.W.nsIn K mainGlobals "idle_step" = some (some (.ref f_idle_step))) (xl_idle_step : K.lookup f_idle_step = some ⟨c_idle_step, o_idle_step, .func (PySem.W.fnOf "idle_step" "idle_step" (defArgs s_idle_step) (defBody s_idle_step) (defScope s_idle_step) .none k_idle_step e_idle_step m_idle_step n_idle_step r_idle_step t_idle_step), v_idle_step⟩) (xc_idle_step : PySem.W.codeIn K r_idle_step "idle_step" = true) (xk_idle_step : PySem.W.keepIn K (.ref f_idle_step) = true)
    {f_loose_step : Addr} {o_loose_step n_loose_step : Option Addr} {v_loose_step : Array (Option Value)} {c_loose_step k_loose_step e_loose_step m_loose_step r_loose_step t_loose_step : Value}
    (xa_loose_step : PySem.W.nsIn K mainGlobals "loose_step" = some (some (.ref f_loose_step))) (xl_loose_step : K.lookup f_loose_step = some ⟨c_loose_step, o_loose_step, .func (PySem.W.fnOf "loose_step" "loose_step" (defArgs s_loose_step) (defBody s_loose_step) (defScope s_loose_step) .none k_loose_step e_loose_step m_loose_step n_loose_step r_loose_step t_loose_step), v_loose_step⟩) (xc_loose_step : PySem.W.codeIn K r_loose_step "loose_step" = true) (xk_loose_step : PySem.W.keepIn K (.ref f_loose_step) = true)
    {f_same_step : Addr} {o_same_step n_same_step : Option Addr} {v_same_step : Array (Option Value)} {c_same_step k_same_step e_same_step m_same_step r_same_step t_same_step : Value}
    (xa_same_step : PySem.W.nsIn K mainGlobals "same_step" = some (some (.ref f_same_step))) (xl_same_step : K.lookup f_same_step = some ⟨c_same_step, o_same_step, .func (PySem.W.fnOf "same_step" "same_step" (defArgs s_same_step) (defBody s_same_step) (defScope s_same_step) .none k_same_step e_same_step m_same_step n_same_step r_same_step t_same_step), v_same_step⟩) (xc_same_step : PySem.W.codeIn K r_same_step "same_step" = true) (xk_same_step : PySem.W.keepIn K (.ref f_same_step) = true)
    {f_stepped : Addr} {o_stepped n_stepped : Option Addr} {v_stepped : Array (Option Value)} {c_stepped k_stepped e_stepped m_stepped r_stepped t_stepped : Value}
    (xa_stepped : PySem.W.nsIn K mainGlobals "stepped" = some (some (.ref f_stepped))) (xl_stepped : K.lookup f_stepped = some ⟨c_stepped, o_stepped, .func (PySem.W.fnOf "stepped" "stepped" (defArgs s_stepped) (defBody s_stepped) (defScope s_stepped) .none k_stepped e_stepped m_stepped n_stepped r_stepped t_stepped), v_stepped⟩) (xc_stepped : PySem.W.codeIn K r_stepped "stepped" = true) (xk_stepped : PySem.W.keepIn K (.ref f_stepped) = true)
    {f_run_steps : Addr} {o_run_steps n_run_steps : Option Addr} {v_run_steps : Array (Option Value)} {c_run_steps k_run_steps e_run_steps m_run_steps r_run_steps t_run_steps : Value}
    (xa_run_steps : PySem.W.nsIn K mainGlobals "run_steps" = some (some (.ref f_run_steps))) (xl_run_steps : K.lookup f_run_steps = some ⟨c_run_steps, o_run_steps, .func (PySem.W.fnOf "run_steps" "run_steps" (defArgs s_run_steps) (defBody s_run_steps) (defScope s_run_steps) .none k_run_steps e_run_steps m_run_steps n_run_steps r_run_steps t_run_steps), v_run_steps⟩) (xc_run_steps : PySem.W.codeIn K r_run_steps "run_steps" = true) (xk_run_steps : PySem.W.keepIn K (.ref f_run_steps) = true)
    {f_l_hear : Addr} {o_l_hear n_l_hear : Option Addr} {v_l_hear : Array (Option Value)} {c_l_hear k_l_hear e_l_hear m_l_hear r_l_hear t_l_hear : Value}
    (xa_l_hear : PySem.W.nsIn K mainGlobals "_law_hear" = some (some (.ref f_l_hear))) (xl_l_hear : K.lookup f_l_hear = some ⟨c_l_hear, o_l_hear, .func (PySem.W.fnOf "_law_hear" "_law_hear" (defArgs s_l_hear) (defBody s_l_hear) (defScope s_l_hear) .none k_l_hear e_l_hear m_l_hear n_l_hear r_l_hear t_l_hear), v_l_hear⟩) (xc_l_hear : PySem.W.codeIn K r_l_hear "_law_hear" = true) (xk_l_hear : PySem.W.keepIn K (.ref f_l_hear) = true)
    {f_l_leads : Addr} {o_l_leads n_l_leads : Option Addr} {v_l_leads : Array (Option Value)} {c_l_leads k_l_leads e_l_leads m_l_leads r_l_leads t_l_leads : Value}
    (xa_l_leads : PySem.W.nsIn K mainGlobals "_law_leads" = some (some (.ref f_l_leads))) (xl_l_leads : K.lookup f_l_leads = some ⟨c_l_leads, o_l_leads, .func (PySem.W.fnOf "_law_leads" "_law_leads" (defArgs s_l_leads) (defBody s_l_leads) (defScope s_l_leads) .none k_l_leads e_l_leads m_l_leads n_l_leads r_l_leads t_l_leads), v_l_leads⟩) (xc_l_leads : PySem.W.codeIn K r_l_leads "_law_leads" = true) (xk_l_leads : PySem.W.keepIn K (.ref f_l_leads) = true)
    {f_l_row_is : Addr} {o_l_row_is n_l_row_is : Option Addr} {v_l_row_is : Array (Option Value)} {c_l_row_is k_l_row_is e_l_row_is m_l_row_is r_l_row_is t_l_row_is : Value}
    (xa_l_row_is : PySem.W.nsIn K mainGlobals "_law_row_is" = some (some (.ref f_l_row_is))) (xl_l_row_is : K.lookup f_l_row_is = some ⟨c_l_row_is, o_l_row_is, .func (PySem.W.fnOf "_law_row_is" "_law_row_is" (defArgs s_l_row_is) (defBody s_l_row_is) (defScope s_l_row_is) .none k_l_row_is e_l_row_is m_l_row_is n_l_row_is r_l_row_is t_l_row_is), v_l_row_is⟩) (xc_l_row_is : PySem.W.codeIn K r_l_row_is "_law_row_is" = true) (xk_l_row_is : PySem.W.keepIn K (.ref f_l_row_is) = true)
    {f_l_rows_are : Addr} {o_l_rows_are n_l_rows_are : Option Addr} {v_l_rows_are : Array (Option Value)} {c_l_rows_are k_l_rows_are e_l_rows_are m_l_rows_are r_l_rows_are t_l_rows_are : Value}
    (xa_l_rows_are : PySem.W.nsIn K mainGlobals "_law_rows_are" = some (some (.ref f_l_rows_are))) (xl_l_rows_are : K.lookup f_l_rows_are = some ⟨c_l_rows_are, o_l_rows_are, .func (PySem.W.fnOf "_law_rows_are" "_law_rows_are" (defArgs s_l_rows_are) (defBody s_l_rows_are) (defScope s_l_rows_are) .none k_l_rows_are e_l_rows_are m_l_rows_are n_l_rows_are r_l_rows_are t_l_rows_are), v_l_rows_are⟩) (xc_l_rows_are : PySem.W.codeIn K r_l_rows_are "_law_rows_are" = true) (xk_l_rows_are : PySem.W.keepIn K (.ref f_l_rows_are) = true)
    {f_l_runs : Addr} {o_l_runs n_l_runs : Option Addr} {v_l_runs : Array (Option Value)} {c_l_runs k_l_runs e_l_runs m_l_runs r_l_runs t_l_runs : Value}
    (xa_l_runs : PySem.W.nsIn K mainGlobals "_law_runs" = some (some (.ref f_l_runs))) (xl_l_runs : K.lookup f_l_runs = some ⟨c_l_runs, o_l_runs, .func (PySem.W.fnOf "_law_runs" "_law_runs" (defArgs s_l_runs) (defBody s_l_runs) (defScope s_l_runs) .none k_l_runs e_l_runs m_l_runs n_l_runs r_l_runs t_l_runs), v_l_runs⟩) (xc_l_runs : PySem.W.codeIn K r_l_runs "_law_runs" = true) (xk_l_runs : PySem.W.keepIn K (.ref f_l_runs) = true)
    {f_is_integer : Addr} {o_is_integer n_is_integer : Option Addr} {v_is_integer : Array (Option Value)} {c_is_integer k_is_integer e_is_integer m_is_integer r_is_integer t_is_integer : Value}
    (xa_is_integer : PySem.W.nsIn K mainGlobals "is_integer" = some (some (.ref f_is_integer))) (xl_is_integer : K.lookup f_is_integer = some ⟨c_is_integer, o_is_integer, .func (PySem.W.fnOf "is_integer" "is_integer" (defArgs s_is_integer) (defBody s_is_integer) (defScope s_is_integer) .none k_is_integer e_is_integer m_is_integer n_is_integer r_is_integer t_is_integer), v_is_integer⟩) (xc_is_integer : PySem.W.codeIn K r_is_integer "is_integer" = true) (xk_is_integer : PySem.W.keepIn K (.ref f_is_integer) = true)
    {f_integer_within : Addr} {o_integer_within n_integer_within : Option Addr} {v_integer_within : Array (Option Value)} {c_integer_within k_integer_within e_integer_within m_integer_within r_integer_within t_integer_within : Value}
    (xa_integer_within : PySem.W.nsIn K mainGlobals "integer_within" = some (some (.ref f_integer_within))) (xl_integer_within : K.lookup f_integer_within = some ⟨c_integer_within, o_integer_within, .func (PySem.W.fnOf "integer_within" "integer_within" (defArgs s_integer_within) (defBody s_integer_within) (defScope s_integer_within) .none k_integer_within e_integer_within m_integer_within n_integer_within r_integer_within t_integer_within), v_integer_within⟩) (xc_integer_within : PySem.W.codeIn K r_integer_within "integer_within" = true) (xk_integer_within : PySem.W.keepIn K (.ref f_integer_within) = true)
    {f_is_number : Addr} {o_is_number n_is_number : Option Addr} {v_is_number : Array (Option Value)} {c_is_number k_is_number e_is_number m_is_number r_is_number t_is_number : Value}
    (xa_is_number : PySem.W.nsIn K mainGlobals "is_number" = some (some (.ref f_is_number))) (xl_is_number : K.lookup f_is_number = some ⟨c_is_number, o_is_number, .func (PySem.W.fnOf "is_number" "is_number" (defArgs s_is_number) (defBody s_is_number) (defScope s_is_number) .none k_is_number e_is_number m_is_number n_is_number r_is_number t_is_number), v_is_number⟩) (xc_is_number : PySem.W.codeIn K r_is_number "is_number" = true) (xk_is_number : PySem.W.keepIn K (.ref f_is_number) = true)
    {f_tuple_of : Addr} {o_tuple_of n_tuple_of : Option Addr} {v_tuple_of : Array (Option Value)} {c_tuple_of k_tuple_of e_tuple_of m_tuple_of r_tuple_of t_tuple_of : Value}
    (xa_tuple_of : PySem.W.nsIn K mainGlobals "tuple_of" = some (some (.ref f_tuple_of))) (xl_tuple_of : K.lookup f_tuple_of = some ⟨c_tuple_of, o_tuple_of, .func (PySem.W.fnOf "tuple_of" "tuple_of" (defArgs s_tuple_of) (defBody s_tuple_of) (defScope s_tuple_of) .none k_tuple_of e_tuple_of m_tuple_of n_tuple_of r_tuple_of t_tuple_of), v_tuple_of⟩) (xc_tuple_of : PySem.W.codeIn K r_tuple_of "tuple_of" = true) (xk_tuple_of : PySem.W.keepIn K (.ref f_tuple_of) = true)
    {f_is_step : Addr} {o_is_step n_is_step : Option Addr} {v_is_step : Array (Option Value)} {c_is_step k_is_step e_is_step m_is_step r_is_step t_is_step : Value}
    (xa_is_step : PySem.W.nsIn K mainGlobals "is_step" = some (some (.ref f_is_step))) (xl_is_step : K.lookup f_is_step = some ⟨c_is_step, o_is_step, .func (PySem.W.fnOf "is_step" "is_step" (defArgs s_is_step) (defBody s_is_step) (defScope s_is_step) .none k_is_step e_is_step m_is_step n_is_step r_is_step t_is_step), v_is_step⟩) (xc_is_step : PySem.W.codeIn K r_is_step "is_step" = true) (xk_is_step : PySem.W.keepIn K (.ref f_is_step) = true)
    {f_is_path : Addr} {o_is_path n_is_path : Option Addr} {v_is_path : Array (Option Value)} {c_is_path k_is_path e_is_path m_is_path r_is_path t_is_path : Value}
    (xa_is_path : PySem.W.nsIn K mainGlobals "is_path" = some (some (.ref f_is_path))) (xl_is_path : K.lookup f_is_path = some ⟨c_is_path, o_is_path, .func (PySem.W.fnOf "is_path" "is_path" (defArgs s_is_path) (defBody s_is_path) (defScope s_is_path) .none k_is_path e_is_path m_is_path n_is_path r_is_path t_is_path), v_is_path⟩) (xc_is_path : PySem.W.codeIn K r_is_path "is_path" = true) (xk_is_path : PySem.W.keepIn K (.ref f_is_path) = true)
    {f_l_is : Addr} {o_l_is n_l_is : Option Addr} {v_l_is : Array (Option Value)} {c_l_is k_l_is e_l_is m_l_is r_l_is t_l_is : Value}
    (xa_l_is : PySem.W.nsIn K mainGlobals "_law_is" = some (some (.ref f_l_is))) (xl_l_is : K.lookup f_l_is = some ⟨c_l_is, o_l_is, .func (PySem.W.fnOf "_law_is" "_law_is" (defArgs s_l_is) (defBody s_l_is) (defScope s_l_is) .none k_l_is e_l_is m_l_is n_l_is r_l_is t_l_is), v_l_is⟩) (xc_l_is : PySem.W.codeIn K r_l_is "_law_is" = true) (xk_l_is : PySem.W.keepIn K (.ref f_l_is) = true)
    {f_l_walk : Addr} {o_l_walk n_l_walk : Option Addr} {v_l_walk : Array (Option Value)} {c_l_walk k_l_walk e_l_walk m_l_walk r_l_walk t_l_walk : Value}
    (xa_l_walk : PySem.W.nsIn K mainGlobals "_law_walk" = some (some (.ref f_l_walk))) (xl_l_walk : K.lookup f_l_walk = some ⟨c_l_walk, o_l_walk, .func (PySem.W.fnOf "_law_walk" "_law_walk" (defArgs s_l_walk) (defBody s_l_walk) (defScope s_l_walk) .none k_l_walk e_l_walk m_l_walk n_l_walk r_l_walk t_l_walk), v_l_walk⟩) (xc_l_walk : PySem.W.codeIn K r_l_walk "_law_walk" = true) (xk_l_walk : PySem.W.keepIn K (.ref f_l_walk) = true)
    {f_turned_step : Addr} {o_turned_step n_turned_step : Option Addr} {v_turned_step : Array (Option Value)} {c_turned_step k_turned_step e_turned_step m_turned_step r_turned_step t_turned_step : Value}
    (xa_turned_step : PySem.W.nsIn K mainGlobals "turned_step" = some (some (.ref f_turned_step))) (xl_turned_step : K.lookup f_turned_step = some ⟨c_turned_step, o_turned_step, .func (PySem.W.fnOf "turned_step" "turned_step" (defArgs s_turned_step) (defBody s_turned_step) (defScope s_turned_step) .none k_turned_step e_turned_step m_turned_step n_turned_step r_turned_step t_turned_step), v_turned_step⟩) (xc_turned_step : PySem.W.codeIn K r_turned_step "turned_step" = true) (xk_turned_step : PySem.W.keepIn K (.ref f_turned_step) = true)
    {f_turned_path : Addr} {o_turned_path n_turned_path : Option Addr} {v_turned_path : Array (Option Value)} {c_turned_path k_turned_path e_turned_path m_turned_path r_turned_path t_turned_path : Value}
    (xa_turned_path : PySem.W.nsIn K mainGlobals "turned_path" = some (some (.ref f_turned_path))) (xl_turned_path : K.lookup f_turned_path = some ⟨c_turned_path, o_turned_path, .func (PySem.W.fnOf "turned_path" "turned_path" (defArgs s_turned_path) (defBody s_turned_path) (defScope s_turned_path) .none k_turned_path e_turned_path m_turned_path n_turned_path r_turned_path t_turned_path), v_turned_path⟩) (xc_turned_path : PySem.W.codeIn K r_turned_path "turned_path" = true) (xk_turned_path : PySem.W.keepIn K (.ref f_turned_path) = true)
    {f_l_turns : Addr} {o_l_turns n_l_turns : Option Addr} {v_l_turns : Array (Option Value)} {c_l_turns k_l_turns e_l_turns m_l_turns r_l_turns t_l_turns : Value}
    (xa_l_turns : PySem.W.nsIn K mainGlobals "_law_turns" = some (some (.ref f_l_turns))) (xl_l_turns : K.lookup f_l_turns = some ⟨c_l_turns, o_l_turns, .func (PySem.W.fnOf "_law_turns" "_law_turns" (defArgs s_l_turns) (defBody s_l_turns) (defScope s_l_turns) .none k_l_turns e_l_turns m_l_turns n_l_turns r_l_turns t_l_turns), v_l_turns⟩) (xc_l_turns : PySem.W.codeIn K r_l_turns "_law_turns" = true) (xk_l_turns : PySem.W.keepIn K (.ref f_l_turns) = true)
    {f_l_broken : Addr} {o_l_broken n_l_broken : Option Addr} {v_l_broken : Array (Option Value)} {c_l_broken k_l_broken e_l_broken m_l_broken r_l_broken t_l_broken : Value}
    (xa_l_broken : PySem.W.nsIn K mainGlobals "_law_broken" = some (some (.ref f_l_broken))) (xl_l_broken : K.lookup f_l_broken = some ⟨c_l_broken, o_l_broken, .func (PySem.W.fnOf "_law_broken" "_law_broken" (defArgs s_l_broken) (defBody s_l_broken) (defScope s_l_broken) .none k_l_broken e_l_broken m_l_broken n_l_broken r_l_broken t_l_broken), v_l_broken⟩) (xc_l_broken : PySem.W.codeIn K r_l_broken "_law_broken" = true) (xk_l_broken : PySem.W.keepIn K (.ref f_l_broken) = true)
    {f_l_judge : Addr} {o_l_judge n_l_judge : Option Addr} {v_l_judge : Array (Option Value)} {c_l_judge k_l_judge e_l_judge m_l_judge r_l_judge t_l_judge : Value}
    (xa_l_judge : PySem.W.nsIn K mainGlobals "_law_judge" = some (some (.ref f_l_judge))) (xl_l_judge : K.lookup f_l_judge = some ⟨c_l_judge, o_l_judge, .func (PySem.W.fnOf "_law_judge" "_law_judge" (defArgs s_l_judge) (defBody s_l_judge) (defScope s_l_judge) .none k_l_judge e_l_judge m_l_judge n_l_judge r_l_judge t_l_judge), v_l_judge⟩) (xc_l_judge : PySem.W.codeIn K r_l_judge "_law_judge" = true) (xk_l_judge : PySem.W.keepIn K (.ref f_l_judge) = true)
    {f_l_faults : Addr} {o_l_faults n_l_faults : Option Addr} {v_l_faults : Array (Option Value)} {c_l_faults k_l_faults e_l_faults m_l_faults r_l_faults t_l_faults : Value}
    (xa_l_faults : PySem.W.nsIn K mainGlobals "_law_faults" = some (some (.ref f_l_faults))) (xl_l_faults : K.lookup f_l_faults = some ⟨c_l_faults, o_l_faults, .func (PySem.W.fnOf "_law_faults" "_law_faults" (defArgs s_l_faults) (defBody s_l_faults) (defScope s_l_faults) .none k_l_faults e_l_faults m_l_faults n_l_faults r_l_faults t_l_faults), v_l_faults⟩) (xc_l_faults : PySem.W.codeIn K r_l_faults "_law_faults" = true) (xk_l_faults : PySem.W.keepIn K (.ref f_l_faults) = true)
    {f_l_path : Addr} {o_l_path n_l_path : Option Addr} {v_l_path : Array (Option Value)} {c_l_path k_l_path e_l_path m_l_path r_l_path t_l_path : Value}
    (xa_l_path : PySem.W.nsIn K mainGlobals "_law_path" = some (some (.ref f_l_path))) (xl_l_path : K.lookup f_l_path = some ⟨c_l_path, o_l_path, .func (PySem.W.fnOf "_law_path" "_law_path" (defArgs s_l_path) (defBody s_l_path) (defScope s_l_path) .none k_l_path e_l_path m_l_path n_l_path r_l_path t_l_path), v_l_path⟩) (xc_l_path : PySem.W.codeIn K r_l_path "_law_path" = true) (xk_l_path : PySem.W.keepIn K (.ref f_l_path) = true)
    {f_l_by_hand : Addr} {o_l_by_hand n_l_by_hand : Option Addr} {v_l_by_hand : Array (Option Value)} {c_l_by_hand k_l_by_hand e_l_by_hand m_l_by_hand r_l_by_hand t_l_by_hand : Value}
    (xa_l_by_hand : PySem.W.nsIn K mainGlobals "_law_by_hand" = some (some (.ref f_l_by_hand))) (xl_l_by_hand : K.lookup f_l_by_hand = some ⟨c_l_by_hand, o_l_by_hand, .func (PySem.W.fnOf "_law_by_hand" "_law_by_hand" (defArgs s_l_by_hand) (defBody s_l_by_hand) (defScope s_l_by_hand) .none k_l_by_hand e_l_by_hand m_l_by_hand n_l_by_hand r_l_by_hand t_l_by_hand), v_l_by_hand⟩) (xc_l_by_hand : PySem.W.codeIn K r_l_by_hand "_law_by_hand" = true) (xk_l_by_hand : PySem.W.keepIn K (.ref f_l_by_hand) = true)
    {f_l_path_ends : Addr} {o_l_path_ends n_l_path_ends : Option Addr} {v_l_path_ends : Array (Option Value)} {c_l_path_ends k_l_path_ends e_l_path_ends m_l_path_ends r_l_path_ends t_l_path_ends : Value}
    (xa_l_path_ends : PySem.W.nsIn K mainGlobals "_law_path_ends" = some (some (.ref f_l_path_ends))) (xl_l_path_ends : K.lookup f_l_path_ends = some ⟨c_l_path_ends, o_l_path_ends, .func (PySem.W.fnOf "_law_path_ends" "_law_path_ends" (defArgs s_l_path_ends) (defBody s_l_path_ends) (defScope s_l_path_ends) .none k_l_path_ends e_l_path_ends m_l_path_ends n_l_path_ends r_l_path_ends t_l_path_ends), v_l_path_ends⟩) (xc_l_path_ends : PySem.W.codeIn K r_l_path_ends "_law_path_ends" = true) (xk_l_path_ends : PySem.W.keepIn K (.ref f_l_path_ends) = true)
    {f_l_long : Addr} {o_l_long n_l_long : Option Addr} {v_l_long : Array (Option Value)} {c_l_long k_l_long e_l_long m_l_long r_l_long t_l_long : Value}
    (xa_l_long : PySem.W.nsIn K mainGlobals "_law_long" = some (some (.ref f_l_long))) (xl_l_long : K.lookup f_l_long = some ⟨c_l_long, o_l_long, .func (PySem.W.fnOf "_law_long" "_law_long" (defArgs s_l_long) (defBody s_l_long) (defScope s_l_long) .none k_l_long e_l_long m_l_long n_l_long r_l_long t_l_long), v_l_long⟩) (xc_l_long : PySem.W.codeIn K r_l_long "_law_long" = true) (xk_l_long : PySem.W.keepIn K (.ref f_l_long) = true)
    {f_law : Addr} {o_law n_law : Option Addr} {v_law : Array (Option Value)} {c_law k_law e_law m_law r_law t_law : Value}
    (xa_law : PySem.W.nsIn K mainGlobals "law" = some (some (.ref f_law))) (xl_law : K.lookup f_law = some ⟨c_law, o_law, .func (PySem.W.fnOf "law" "law" (defArgs s_law) (defBody s_law) (defScope s_law) .none k_law e_law m_law n_law r_law t_law), v_law⟩) (xc_law : PySem.W.codeIn K r_law "law" = true) (xk_law : PySem.W.keepIn K (.ref f_law) = true)
    (xz_ValueError : PySem.W.nsIn K mainGlobals "ValueError" = some none)
    (xz_abs : PySem.W.nsIn K mainGlobals "abs" = some none)
    (xz_all : PySem.W.nsIn K mainGlobals "all" = some none)
    (xz_bool : PySem.W.nsIn K mainGlobals "bool" = some none)
    (xz_enumerate : PySem.W.nsIn K mainGlobals "enumerate" = some none)
    (xz_int : PySem.W.nsIn K mainGlobals "int" = some none)
    (xz_isinstance : PySem.W.nsIn K mainGlobals "isinstance" = some none)
    (xz_len : PySem.W.nsIn K mainGlobals "len" = some none)
    (xz_list : PySem.W.nsIn K mainGlobals "list" = some none)
    (xz_max : PySem.W.nsIn K mainGlobals "max" = some none)
    (xz_min : PySem.W.nsIn K mainGlobals "min" = some none)
    (xz_range : PySem.W.nsIn K mainGlobals "range" = some none)
    (xz_reversed : PySem.W.nsIn K mainGlobals "reversed" = some none)
    (xz_tuple : PySem.W.nsIn K mainGlobals "tuple" = some none)
    {c_BadPath : Addr} (ya_BadPath : PySem.W.nsIn K mainGlobals "BadPath" = some (some (.ref c_BadPath)))
    {c_HeardError : Addr} (ya_HeardError : PySem.W.nsIn K mainGlobals "HeardError" = some (some (.ref c_HeardError)))
    {c_AskError : Addr} (ya_AskError : PySem.W.nsIn K mainGlobals "AskError" = some (some (.ref c_AskError)))
    {c_TextError : Addr} (ya_TextError : PySem.W.nsIn K mainGlobals "TextError" = some (some (.ref c_TextError)))
    {c_DataError : Addr} (ya_DataError : PySem.W.nsIn K mainGlobals "DataError" = some (some (.ref c_DataError)))
    {c_BadStep : Addr} (ya_BadStep : PySem.W.nsIn K mainGlobals "BadStep" = some (some (.ref c_BadStep)))
    {c_CallError : Addr} (ya_CallError : PySem.W.nsIn K mainGlobals "CallError" = some (some (.ref c_CallError)))
    {i_BadPath : Addr} {q_BadPath : Str} (yi_BadPath : PySem.W.findIn K (.ref c_BadPath) "__init__" = some (some (.ref i_BadPath))) (yb_BadPath : SxK l.prog K c_BadPath i_BadPath [("at" : Str)]) (yf_BadPath : PySem.SxX.Fn_at l.prog K c_BadPath i_BadPath q_BadPath)
    (yq : PySem.W.nsIn K cStatics "thirdparty.any" = some none) (yS : PySem.W.nsIn K mainGlobals "super" = some none) (yT : (l.prog.main.scope.names.lookup ("super" : Str)).isSome = false)
    (ze_HeardError_BadPath : PySem.W.exmOne K (.ref c_BadPath) (.ref c_HeardError) = some true)
    (ze_BadPath_BadPath : PySem.W.exmOne K (.ref c_BadPath) (.ref c_BadPath) = some true)
    (zx_BadPath : excB K c_BadPath = true)
    (zk_AskError_BadPath : PySem.W.kitOne K (.ref c_BadPath) (.ref c_AskError) = some false)
    (zk_TextError_BadPath : PySem.W.kitOne K (.ref c_BadPath) (.ref c_TextError) = some false)
    (zk_DataError_BadPath : PySem.W.kitOne K (.ref c_BadPath) (.ref c_DataError) = some false)
    (zk_BadStep_BadPath : PySem.W.kitOne K (.ref c_BadPath) (.ref c_BadStep) = some false)
    (zk_CallError_BadPath : PySem.W.kitOne K (.ref c_BadPath) (.ref c_CallError) = some true)
    (zk_ValueError_BadPath : PySem.W.kitOne K (.ref c_BadPath) (.type "ValueError") = some true)
    (yx_BadPath : xfB K c_BadPath = true) :
    ∃ fd : FuncData, (∀ (s : Shared) (v : Value), BindsTo s fd ⟨[v], []⟩ [("script", v)]) ∧ ∀ base : Heap, K.In base → base.Ns mainGlobals mg → FnOk l.prog w K mg base (L2.CX l.prog w) 10 fa fd ["script"] (spF K 1 F_law) := by
  have e := hfa.symm.trans (PySem.W.mg_of X G xa_law)
  cases e
  exact ⟨_, fun s v => .of_eq rfl, fun base _ _ => ok_law (tx_mk X G xa_l_chest xl_l_chest xc_l_chest xk_l_chest xa_l_lift xl_l_lift xc_l_lift xk_l_lift xa_l_setting xl_l_setting xc_l_setting xk_l_setting xa_l_row xl_l_row xc_l_row xk_l_row xa_held_step xl_held_step xc_held_step xk_held_step xa_idle_step xl_idle_step xc_idle_step xk_idle_step xa_loose_step xl_loose_step xc_loose_step xk_loose_step xa_same_step xl_same_step xc_same_step xk_same_step xa_stepped xl_stepped xc_stepped xk_stepped xa_run_steps xl_run_steps xc_run_steps xk_run_steps xa_l_hear xl_l_hear xc_l_hear xk_l_hear xa_l_leads xl_l_leads xc_l_leads xk_l_leads xa_l_row_is xl_l_row_is xc_l_row_is xk_l_row_is xa_l_rows_are xl_l_rows_are xc_l_rows_are xk_l_rows_are xa_l_runs xl_l_runs xc_l_runs xk_l_runs xa_is_integer xl_is_integer xc_is_integer xk_is_integer xa_integer_within xl_integer_within xc_integer_within xk_integer_within xa_is_number xl_is_number xc_is_number xk_is_number xa_tuple_of xl_tuple_of xc_tuple_of xk_tuple_of xa_is_step xl_is_step xc_is_step xk_is_step xa_is_path xl_is_path xc_is_path xk_is_path xa_l_is xl_l_is xc_l_is xk_l_is xa_l_walk xl_l_walk xc_l_walk xk_l_walk xa_turned_step xl_turned_step xc_turned_step xk_turned_step xa_turned_path xl_turned_path xc_turned_path xk_turned_path xa_l_turns xl_l_turns xc_l_turns xk_l_turns xa_l_broken xl_l_broken xc_l_broken xk_l_broken xa_l_judge xl_l_judge xc_l_judge xk_l_judge xa_l_faults xl_l_faults xc_l_faults xk_l_faults xa_l_path xl_l_path xc_l_path xk_l_path xa_l_by_hand xl_l_by_hand xc_l_by_hand xk_l_by_hand xa_l_path_ends xl_l_path_ends xc_l_path_ends xk_l_path_ends xa_l_long xl_l_long xc_l_long xk_l_long xa_law xl_law xc_law xk_law xz_ValueError xz_abs xz_all xz_bool xz_enumerate xz_int xz_isinstance xz_len xz_list xz_max xz_min xz_range xz_reversed xz_tuple ya_BadPath ya_HeardError ya_AskError ya_TextError ya_DataError ya_BadStep ya_CallError yi_BadPath yb_BadPath yf_BadPath yq yS yT ze_HeardError_BadPath ze_BadPath_BadPath zx_BadPath zk_AskError_BadPath zk_TextError_BadPath zk_DataError_BadPath zk_BadStep_BadPath zk_CallError_BadPath zk_ValueError_BadPath yx_BadPath)⟩
theorem start_law {K : PySem.W.Frag} {H : Hp} {a : Addr} {ns : List Int} (hS : SqL K H a (ns.map V.int)) {E : XK} (hF : F_law [.val (.lst (ns.map D.int))] [] = .ok (.val (.bl true)) []) : spF K 1 F_law [.ref a] H (fun v _ => v = .bl true) E :=
  spF_start hS hF
theorem walk {l : PySem.W.OpenLaw} {q : Program} {loose : List Str} {XP : (Str → Option Value) → Heap → Prop} {YP : World → Heap → Prop} {d : DefRec} {K : Params → PySem.W.Frag} (hn : l.most = some 63) (hdf : d.params.defaults = [])
    (hL : ∀ ns : List Int, ns.length ≤ 63 → F_law [.val (.lst (ns.map D.int))] [] = .ok (.val (.bl true)) [])
    (hY : ∀ (w : World) (h : Heap), YP w h → (K w.params).In h)
    (F : ∀ (w : World) (mg : Str → Option Value) (fa : Addr) (h : Heap), (K w.params).In h → h.Ns mainGlobals mg → mg d.name = some (.ref fa) →
      ∃ fd : FuncData, (∀ (s : Shared) (u : Value), BindsTo s fd ⟨[u], []⟩ [("script", u)]) ∧ ∀ base : Heap, (K w.params).In base → base.Ns mainGlobals mg → FnOk l.prog w (K w.params) mg base (L2.CX l.prog w) 10 fa fd ["script"] (spF (K w.params) 1 F_law)) :
    PySem.W.WalkO q loose XP YP l.row.toRowW d [] (fun f vs => PySem.call f vs) :=
  L2.walk_of (n := 63) (k := 10) (x := "script") (CX := fun w => L2.CX l.prog w) (sp := fun w => spF (K w.params) 1 F_law) hn (by decide) hdf ⟨rfl, by decide, by decide⟩ hY F (fun _ _ a ns hl _ hS => start_law hS (hL ns hl)) (fun w H s e s' z => cx_no z)
end K10
open PySem PySem.W PyProof.Rows in
set_option maxRecDepth 100000 in
set_option maxHeartbeats 0 in
theorem PySem.Challenge.cw_howeverheard_k10_paths_of_steps_holds : PySem.Challenge.rw_howeverheard_k10_paths_of_steps.Holds := by
  w_on; o_law; k_head; (case hw => w_witness2)
  k_fill
  refine K10.walk (l := PySem.Challenge.rw_howeverheard_k10_paths_of_steps) rfl rfl K10.law_true (fun w h Y => PySem.W.kIn_of Y) ?F
  case F =>
    intro w mg fa h KX G hmg
    refine' K10.all_mk KX G hmg ?xa_l_chest ?xl_l_chest ?xc_l_chest ?xk_l_chest ?xa_l_lift ?xl_l_lift ?xc_l_lift ?xk_l_lift ?xa_l_setting ?xl_l_setting ?xc_l_setting ?xk_l_setting ?xa_l_row ?xl_l_row ?xc_l_row ?xk_l_row ?xa_held_step ?xl_held_step ?xc_held_step ?xk_held_step ?xa_idle_step ?xl_idle_step ?xc_idle_step ?xk_idle_step ?xa_loose_step ?xl_loose_step ?xc_loose_step ?xk_loose_step ?xa_same_step ?xl_same_step ?xc_same_step ?xk_same_step ?xa_stepped ?xl_stepped ?xc_stepped ?xk_stepped ?xa_run_steps ?xl_run_steps ?xc_run_steps ?xk_run_steps ?xa_l_hear ?xl_l_hear ?xc_l_hear ?xk_l_hear ?xa_l_leads ?xl_l_leads ?xc_l_leads ?xk_l_leads ?xa_l_row_is ?xl_l_row_is ?xc_l_row_is ?xk_l_row_is ?xa_l_rows_are ?xl_l_rows_are ?xc_l_rows_are ?xk_l_rows_are ?xa_l_runs ?xl_l_runs ?xc_l_runs ?xk_l_runs ?xa_is_integer ?xl_is_integer ?xc_is_integer ?xk_is_integer ?xa_integer_within ?xl_integer_within ?xc_integer_within ?xk_integer_within ?xa_is_number ?xl_is_number ?xc_is_number ?xk_is_number ?xa_tuple_of ?xl_tuple_of ?xc_tuple_of ?xk_tuple_of ?xa_is_step ?xl_is_step ?xc_is_step ?xk_is_step ?xa_is_path ?xl_is_path ?xc_is_path ?xk_is_path ?xa_l_is ?xl_l_is ?xc_l_is ?xk_l_is ?xa_l_walk ?xl_l_walk ?xc_l_walk ?xk_l_walk ?xa_turned_step ?xl_turned_step ?xc_turned_step ?xk_turned_step ?xa_turned_path ?xl_turned_path ?xc_turned_path ?xk_turned_path ?xa_l_turns ?xl_l_turns ?xc_l_turns ?xk_l_turns ?xa_l_broken ?xl_l_broken ?xc_l_broken ?xk_l_broken ?xa_l_judge ?xl_l_judge ?xc_l_judge ?xk_l_judge ?xa_l_faults ?xl_l_faults ?xc_l_faults ?xk_l_faults ?xa_l_path ?xl_l_path ?xc_l_path ?xk_l_path ?xa_l_by_hand ?xl_l_by_hand ?xc_l_by_hand ?xk_l_by_hand ?xa_l_path_ends ?xl_l_path_ends ?xc_l_path_ends ?xk_l_path_ends ?xa_l_long ?xl_l_long ?xc_l_long ?xk_l_long ?xa_law ?xl_law ?xc_law ?xk_law ?xz_ValueError ?xz_abs ?xz_all ?xz_bool ?xz_enumerate ?xz_int ?xz_isinstance ?xz_len ?xz_list ?xz_max ?xz_min ?xz_range ?xz_reversed ?xz_tuple ?ya_BadPath ?ya_HeardError ?ya_AskError ?ya_TextError ?ya_DataError ?ya_BadStep ?ya_CallError ?yi_BadPath ?yb_BadPath ?yf_BadPath ?yq ?yS ?yT ?ze_HeardError_BadPath ?ze_BadPath_BadPath ?zx_BadPath ?zk_AskError_BadPath ?zk_TextError_BadPath ?zk_DataError_BadPath ?zk_BadStep_BadPath ?zk_CallError_BadPath ?zk_ValueError_BadPath ?yx_BadPath
    (case xa_l_chest => k_is)
    (case xl_l_chest => k_is)
    (case xc_l_chest => k_is)
    (case xk_l_chest => k_is)
    (case xa_l_lift => k_is)
    (case xl_l_lift => k_is)
    (case xc_l_lift => k_is)
    (case xk_l_lift => k_is)
    (case xa_l_setting => k_is)
    (case xl_l_setting => k_is)
    (case xc_l_setting => k_is)
    (case xk_l_setting => k_is)
    (case xa_l_row => k_is)
    (case xl_l_row => k_is)
    (case xc_l_row => k_is)
    (case xk_l_row => k_is)
    (case xa_held_step => k_is)
    (case xl_held_step => k_is)
    (case xc_held_step => k_is)
    (case xk_held_step => k_is)
    (case xa_idle_step => k_is)
    (case xl_idle_step => k_is)
    (case xc_idle_step => k_is)
    (case xk_idle_step => k_is)
    (case xa_loose_step => k_is)
    (case xl_loose_step => k_is)
    (case xc_loose_step => k_is)
    (case xk_loose_step => k_is)
    (case xa_same_step => k_is)
    (case xl_same_step => k_is)
    (case xc_same_step => k_is)
    (case xk_same_step => k_is)
    (case xa_stepped => k_is)
    (case xl_stepped => k_is)
    (case xc_stepped => k_is)
    (case xk_stepped => k_is)
    (case xa_run_steps => k_is)
    (case xl_run_steps => k_is)
    (case xc_run_steps => k_is)
    (case xk_run_steps => k_is)
    (case xa_l_hear => k_is)
    (case xl_l_hear => k_is)
    (case xc_l_hear => k_is)
    (case xk_l_hear => k_is)
    (case xa_l_leads => k_is)
    (case xl_l_leads => k_is)
    (case xc_l_leads => k_is)
    (case xk_l_leads => k_is)
    (case xa_l_row_is => k_is)
    (case xl_l_row_is => k_is)
    (case xc_l_row_is => k_is)
    (case xk_l_row_is => k_is)
    (case xa_l_rows_are => k_is)
    (case xl_l_rows_are => k_is)
    (case xc_l_rows_are => k_is)
    (case xk_l_rows_are => k_is)
    (case xa_l_runs => k_is)
    (case xl_l_runs => k_is)
    (case xc_l_runs => k_is)
    (case xk_l_runs => k_is)
    (case xa_is_integer => k_is)
    (case xl_is_integer => k_is)
    (case xc_is_integer => k_is)
    (case xk_is_integer => k_is)
    (case xa_integer_within => k_is)
    (case xl_integer_within => k_is)
    (case xc_integer_within => k_is)
    (case xk_integer_within => k_is)
    (case xa_is_number => k_is)
    (case xl_is_number => k_is)
    (case xc_is_number => k_is)
    (case xk_is_number => k_is)
    (case xa_tuple_of => k_is)
    (case xl_tuple_of => k_is)
    (case xc_tuple_of => k_is)
    (case xk_tuple_of => k_is)
    (case xa_is_step => k_is)
    (case xl_is_step => k_is)
    (case xc_is_step => k_is)
    (case xk_is_step => k_is)
    (case xa_is_path => k_is)
    (case xl_is_path => k_is)
    (case xc_is_path => k_is)
    (case xk_is_path => k_is)
    (case xa_l_is => k_is)
    (case xl_l_is => k_is)
    (case xc_l_is => k_is)
    (case xk_l_is => k_is)
    (case xa_l_walk => k_is)
    (case xl_l_walk => k_is)
    (case xc_l_walk => k_is)
    (case xk_l_walk => k_is)
    (case xa_turned_step => k_is)
    (case xl_turned_step => k_is)
    (case xc_turned_step => k_is)
    (case xk_turned_step => k_is)
    (case xa_turned_path => k_is)
    (case xl_turned_path => k_is)
    (case xc_turned_path => k_is)
    (case xk_turned_path => k_is)
    (case xa_l_turns => k_is)
    (case xl_l_turns => k_is)
    (case xc_l_turns => k_is)
    (case xk_l_turns => k_is)
    (case xa_l_broken => k_is)
    (case xl_l_broken => k_is)
    (case xc_l_broken => k_is)
    (case xk_l_broken => k_is)
    (case xa_l_judge => k_is)
    (case xl_l_judge => k_is)
    (case xc_l_judge => k_is)
    (case xk_l_judge => k_is)
    (case xa_l_faults => k_is)
    (case xl_l_faults => k_is)
    (case xc_l_faults => k_is)
    (case xk_l_faults => k_is)
    (case xa_l_path => k_is)
    (case xl_l_path => k_is)
    (case xc_l_path => k_is)
    (case xk_l_path => k_is)
    (case xa_l_by_hand => k_is)
    (case xl_l_by_hand => k_is)
    (case xc_l_by_hand => k_is)
    (case xk_l_by_hand => k_is)
    (case xa_l_path_ends => k_is)
    (case xl_l_path_ends => k_is)
    (case xc_l_path_ends => k_is)
    (case xk_l_path_ends => k_is)
    (case xa_l_long => k_is)
    (case xl_l_long => k_is)
    (case xc_l_long => k_is)
    (case xk_l_long => k_is)
    (case xa_law => k_is)
    (case xl_law => k_is)
    (case xc_law => k_is)
    (case xk_law => k_is)
    (case xz_ValueError => k_is)
    (case xz_abs => k_is)
    (case xz_all => k_is)
    (case xz_bool => k_is)
    (case xz_enumerate => k_is)
    (case xz_int => k_is)
    (case xz_isinstance => k_is)
    (case xz_len => k_is)
    (case xz_list => k_is)
    (case xz_max => k_is)
    (case xz_min => k_is)
    (case xz_range => k_is)
    (case xz_reversed => k_is)
    (case xz_tuple => k_is)
    (case ya_BadPath => k_is)
    (case ya_HeardError => k_is)
    (case ya_AskError => k_is)
    (case ya_TextError => k_is)
    (case ya_DataError => k_is)
    (case ya_BadStep => k_is)
    (case ya_CallError => k_is)
    (case yi_BadPath => k_is)
    (case yb_BadPath => refine' ⟨⟨_, _, _, _, _, _, _, _, _, _, _, _, _, _, _, ?a, ?b⟩, ?c, L2.Pz.no1 ?d0, ?e, ?f, ?g, ?h, ?i, ?j, ?k⟩; (case a => refine (Eq.trans (b := some _) (by k_is) ?_); exact rfl); (case b => kernel_rfl); (case c => k_is); (case d0 => k_is); (case e => k_is); (case f => k_is); (case g => k_is); (case h => k_is); (case i => k_is); (case k => k_is); (case j => kernel_rfl))
    (case yf_BadPath => refine' ⟨⟨_, _, _, _, _, _, _, _, _, _, _, _, _, _, _, _, _, _, _, _, _, _, _, _, _, _, _, _, _, _, _, ?a, ?b, ?c, ?d, ?e, ?f, ?g⟩⟩; (case a => refine (Eq.trans (b := some _) (by k_is) ?_); exact rfl); (case b => k_is); (case c => refine (Eq.trans (b := some _) (by k_is) ?_); exact rfl); (case d => exact rfl); (case e => kernel_rfl); (case f => refine (Eq.trans (b := some _) (by k_is) ?_); exact rfl); (case g => exact rfl))
    (case yq => k_is)
    (case yS => k_is)
    (case yT => kernel_rfl)
    (case ze_HeardError_BadPath => kernel_rfl)
    (case ze_BadPath_BadPath => kernel_rfl)
    (case zx_BadPath => kernel_rfl)
    (case zk_AskError_BadPath => kernel_rfl)
    (case zk_TextError_BadPath => kernel_rfl)
    (case zk_DataError_BadPath => kernel_rfl)
    (case zk_BadStep_BadPath => kernel_rfl)
    (case zk_CallError_BadPath => kernel_rfl)
    (case zk_ValueError_BadPath => kernel_rfl)
    (case yx_BadPath => kernel_rfl)
