import PyProof.Rows.All
import Wide.All
import OpenK.AllK
import Wide.FinOn
import HandS.ForMost
import HandS.Wide
import HandS.TupAny
import HandS.IsInst
import HandS.Conv
import HandS.Deep
import HandS.Exc
import HandS.WordsExc
import HandS.Walk
import KE.GoesEnum
import HandS.TryOnly
import KE.KExcSuper
import HandS.ExcInit
import HandS.ExcField
import HandS.ExcIs
import HandS.TryMany
import HandS.HotCalls
import HandS.Rev
import HandS.TupMul
import HandS.TupLe
import PySem.Challenge.RW_howeverheard_k09_single_steps
set_option Elab.async false
set_option linter.all false
set_option maxRecDepth 100000
set_option maxHeartbeats 4000000
set_option autoImplicit false
/-! A pure layer over HandS: values as data D, mutable lists as numbered cells; every def becomes a plain Lean function. -/
namespace L2.Pz
open PySem PySem.Spec PyProof.Rows

/-! ### data -/
inductive D where
  | non | bl (b : Bool) | int (i : Int) | str (x : Str) | tup (xs : List D) | lst (xs : List D) | lnk (m : Nat)
/-- an exception that a suite holds: where, its class, its fields, its dict -/
structure Zx where
  a : Addr
  c : Str
  fs : List (Str × D)
  cls : Value
  od : Option Addr
/-- what an expression hands on: data, the k-th cell, a fresh list -/
inductive HV where
  | val (d : D) | jar (k : Nat) | new (ds : List D) | exc (k : Nat) | newB (xs ds : List D)
abbrev En := List (Option HV)
abbrev Jr := List (List D)
inductive R (α : Type) where
  | ok (a : α) (J : Jr) | err (c : Str) (fs : List (Str × D)) (J : Jr) | stuck
def R.bind {α β : Type} (r : R α) (f : α → Jr → R β) : R β := match r with
  | .ok a J => f a J
  | .err c fs J => .err c fs J
  | .stuck => .stuck
abbrev EF := En → Jr → R HV
abbrev big : Nat := 16777216
theorem big_eq : sizeLine = big := sizeLine_eq

section
variable (K : PySem.W.Frag)
/-- a list that is read: of the heap and not locked, or of the written part -/
def LsY (H : Hp) (Y : Addr → Prop) (a : Addr) (vs : List V) : Prop := (Rd H a (.lst vs) ∧ ¬ Y a) ∨ SqL K (fun _ => none) a vs
mutual
def Rep (H : Hp) (Y : Addr → Prop) : D → V → Prop
  | .non, v => v = .non
  | .bl b, v => v = .bl b
  | .int i, v => v = .int i
  | .str x, v => v = .str x
  | .tup ds, v => ∃ a vs, v = .ref a ∧ SqT K H a vs ∧ Reps H Y ds vs
  | .lst ds, v => ∃ a vs, v = .ref a ∧ LsY K H Y a vs ∧ Reps H Y ds vs
  | .lnk _, _ => False
def Reps (H : Hp) (Y : Addr → Prop) : List D → List V → Prop
  | [], vs => vs = []
  | d :: ds, vs => ∃ v r, vs = v :: r ∧ Rep H Y d v ∧ Reps H Y ds r
end
end
section
variable {K : PySem.W.Frag} {H H' : Hp} {Y Y' : Addr → Prop} {Z : List Zx}
theorem sqL_none {a : Addr} {vs : List V} (h : SqL K (fun _ => none) a vs) : SqL K H a vs := by
  rcases h with (h | ⟨o, h⟩) | h
  · cases h
  · cases h
  · exact .inr h
theorem LsY.sq {a : Addr} {vs : List V} (h : LsY K H Y a vs) : SqL K H a vs := by
  rcases h with ⟨h, _⟩ | h
  · exact .inl h
  · exact sqL_none h
/-- Y holds lists alone -/
abbrev Lists (H : Hp) (Y : Addr → Prop) : Prop := ∀ a, Y a → ∃ xs, H a = some (.lst xs)
theorem sqT_move (hE : ∀ a o, H a = some o → ¬ Y a → H' a = some o) (hl : Lists H Y) {a : Addr} {vs : List V} (h : SqT K H a vs) : SqT K H' a vs := by
  rcases h with (h | ⟨o, h⟩) | h
  · refine .inl (.inl (hE _ _ h fun y => ?_))
    obtain ⟨xs, e⟩ := hl _ y
    rw [h] at e; cases e
  · refine .inl (.inr ⟨o, hE _ _ h fun y => ?_⟩)
    obtain ⟨xs, e⟩ := hl _ y
    rw [h] at e; cases e
  · exact .inr h
theorem lsY_move (hE : ∀ a o, H a = some o → ¬ Y a → H' a = some o) (hY : ∀ a, Y' a → Y a ∨ H a = none) {a : Addr} {vs : List V} (h : LsY K H Y a vs) : LsY K H' Y' a vs := by
  rcases h with ⟨h, n⟩ | h
  · refine .inl ?_
    rcases h with h | ⟨o, h⟩
    · exact ⟨.inl (hE _ _ h n), fun y => (hY _ y).elim n fun e => by rw [h] at e; cases e⟩
    · exact ⟨.inr ⟨o, hE _ _ h n⟩, fun y => (hY _ y).elim n fun e => by rw [h] at e; cases e⟩
  · exact .inr h
mutual
theorem rep_move (hE : ∀ a o, H a = some o → ¬ Y a → H' a = some o) (hY : ∀ a, Y' a → Y a ∨ H a = none) (hl : Lists H Y) : ∀ (d : D) (v : V), Rep K H Y d v → Rep K H' Y' d v
  | .non, v, h => by unfold Rep at h ⊢; exact h
  | .bl b, v, h => by unfold Rep at h ⊢; exact h
  | .int i, v, h => by unfold Rep at h ⊢; exact h
  | .str x, v, h => by unfold Rep at h ⊢; exact h
  | .tup ds, v, h => by
    unfold Rep at h ⊢
    obtain ⟨a, vs, e, s, r⟩ := h
    exact ⟨a, vs, e, sqT_move hE hl s, reps_move hE hY hl ds vs r⟩
  | .lst ds, v, h => by
    unfold Rep at h ⊢
    obtain ⟨a, vs, e, s, r⟩ := h
    exact ⟨a, vs, e, lsY_move hE hY s, reps_move hE hY hl ds vs r⟩
  | .lnk m, v, h => by unfold Rep at h; exact h.elim
theorem reps_move (hE : ∀ a o, H a = some o → ¬ Y a → H' a = some o) (hY : ∀ a, Y' a → Y a ∨ H a = none) (hl : Lists H Y) : ∀ (ds : List D) (vs : List V), Reps K H Y ds vs → Reps K H' Y' ds vs
  | [], vs, h => by unfold Reps at h ⊢; exact h
  | d :: ds, vs, h => by
    unfold Reps at h ⊢
    obtain ⟨v, r, e, h1, h2⟩ := h
    exact ⟨v, r, e, rep_move hE hY hl d v h1, reps_move hE hY hl ds r h2⟩
end
theorem reps_nil {vs : List V} : Reps K H Y [] vs ↔ vs = [] := by unfold Reps; exact Iff.rfl
theorem reps_cons {d : D} {ds : List D} {vs : List V} : Reps K H Y (d :: ds) vs ↔ ∃ v r, vs = v :: r ∧ Rep K H Y d v ∧ Reps K H Y ds r := by
  constructor
  · intro h; unfold Reps at h; exact h
  · intro h; unfold Reps; exact h
theorem reps_len : ∀ {ds : List D} {vs : List V}, Reps K H Y ds vs → vs.length = ds.length
  | [], vs, h => by rw [reps_nil.mp h]; rfl
  | d :: ds, vs, h => by
    obtain ⟨v, r, e, _, h2⟩ := reps_cons.mp h
    rw [e, List.length_cons, List.length_cons, reps_len h2]
theorem reps_append : ∀ {ds es : List D} {vs us : List V}, Reps K H Y ds vs → Reps K H Y es us → Reps K H Y (ds ++ es) (vs ++ us)
  | [], es, vs, us, h, g => by rw [reps_nil.mp h]; exact g
  | d :: ds, es, vs, us, h, g => by
    obtain ⟨v, r, e, h1, h2⟩ := reps_cons.mp h
    subst e
    exact reps_cons.mpr ⟨v, r ++ us, rfl, h1, reps_append h2 g⟩
theorem reps_take : ∀ {ds : List D} {vs : List V} (n : Nat), Reps K H Y ds vs → Reps K H Y (ds.take n) (vs.take n)
  | _, _, 0, _ => by rw [List.take_zero, List.take_zero]; exact reps_nil.mpr rfl
  | [], vs, n + 1, h => by rw [reps_nil.mp h]; exact reps_nil.mpr rfl
  | d :: ds, vs, n + 1, h => by
    obtain ⟨v, r, e, h1, h2⟩ := reps_cons.mp h
    subst e
    exact reps_cons.mpr ⟨v, r.take n, rfl, h1, reps_take n h2⟩
theorem reps_drop : ∀ {ds : List D} {vs : List V} (n : Nat), Reps K H Y ds vs → Reps K H Y (ds.drop n) (vs.drop n)
  | _, _, 0, h => h
  | [], vs, n + 1, h => by rw [reps_nil.mp h]; exact reps_nil.mpr rfl
  | d :: ds, vs, n + 1, h => by
    obtain ⟨v, r, e, h1, h2⟩ := reps_cons.mp h
    subst e
    exact reps_drop n h2
theorem reps_get : ∀ {ds : List D} {vs : List V} {i : Nat} {d : D}, Reps K H Y ds vs → ds[i]? = some d → ∃ v, vs[i]? = some v ∧ Rep K H Y d v
  | [], vs, i, d, h, e => by simp at e
  | c :: ds, vs, 0, d, h, e => by
    obtain ⟨v, r, e2, h1, _⟩ := reps_cons.mp h
    subst e2
    simp at e; subst e
    exact ⟨v, rfl, h1⟩
  | c :: ds, vs, i + 1, d, h, e => by
    obtain ⟨v, r, e2, _, h2⟩ := reps_cons.mp h
    subst e2
    obtain ⟨u, e3, h3⟩ := reps_get (i := i) h2 (by simpa using e)
    exact ⟨u, by simpa using e3, h3⟩
theorem reps_at : ∀ {ds : List D} {vs : List V} {i : Nat} {v : V}, Reps K H Y ds vs → vs[i]? = some v → ∃ d, ds[i]? = some d ∧ Rep K H Y d v
  | [], vs, i, v, h, e => by rw [reps_nil.mp h] at e; simp at e
  | c :: ds, vs, 0, v, h, e => by
    obtain ⟨u, r, e2, h1, _⟩ := reps_cons.mp h
    subst e2
    simp at e; subst e
    exact ⟨c, rfl, h1⟩
  | c :: ds, vs, i + 1, v, h, e => by
    obtain ⟨u, r, e2, _, h2⟩ := reps_cons.mp h
    subst e2
    obtain ⟨d, e3, h3⟩ := reps_at (i := i) h2 (by simpa using e)
    exact ⟨d, by simpa using e3, h3⟩
theorem reps_set : ∀ {ds : List D} {vs : List V} {i : Nat} {d : D} {v : V}, Reps K H Y ds vs → Rep K H Y d v → Reps K H Y (ds.set i d) (vs.set i v)
  | [], vs, i, d, v, h, g => by rw [reps_nil.mp h]; exact reps_nil.mpr rfl
  | c :: ds, vs, 0, d, v, h, g => by
    obtain ⟨u, r, e2, h1, h2⟩ := reps_cons.mp h
    subst e2
    exact reps_cons.mpr ⟨v, r, rfl, g, h2⟩
  | c :: ds, vs, i + 1, d, v, h, g => by
    obtain ⟨u, r, e2, h1, h2⟩ := reps_cons.mp h
    subst e2
    exact reps_cons.mpr ⟨u, r.set i v, rfl, h1, reps_set h2 g⟩
theorem reps_ints : ∀ {ns : List Int} {vs : List V}, Reps K H Y (ns.map D.int) vs → vs = ns.map V.int
  | [], vs, h => reps_nil.mp h
  | n :: ns, vs, h => by
    obtain ⟨v, r, e, h1, h2⟩ := reps_cons.mp h
    unfold Rep at h1
    rw [e, h1, reps_ints h2]; rfl
theorem reps_of_ints : ∀ {ns : List Int}, Reps K H Y (ns.map D.int) (ns.map V.int)
  | [] => reps_nil.mpr rfl
  | n :: ns => reps_cons.mpr ⟨_, _, rfl, by unfold Rep; rfl, reps_of_ints⟩
theorem rep_int {i : Int} {v : V} (h : Rep K H Y (.int i) v) : v = .int i := by unfold Rep at h; exact h
theorem rep_bl {i : Bool} {v : V} (h : Rep K H Y (.bl i) v) : v = .bl i := by unfold Rep at h; exact h
theorem rep_str {i : Str} {v : V} (h : Rep K H Y (.str i) v) : v = .str i := by unfold Rep at h; exact h
theorem rep_non {v : V} (h : Rep K H Y .non v) : v = .non := by unfold Rep at h; exact h
theorem mk_int {i : Int} : Rep K H Y (.int i) (.int i) := by unfold Rep; rfl
theorem mk_bl {i : Bool} : Rep K H Y (.bl i) (.bl i) := by unfold Rep; rfl
theorem mk_str {i : Str} : Rep K H Y (.str i) (.str i) := by unfold Rep; rfl
theorem mk_non : Rep K H Y .non .non := by unfold Rep; rfl
theorem rep_tup {ds : List D} {v : V} : Rep K H Y (.tup ds) v ↔ ∃ a vs, v = .ref a ∧ SqT K H a vs ∧ Reps K H Y ds vs := by
  constructor
  · intro h; unfold Rep at h; exact h
  · intro h; unfold Rep; exact h
theorem rep_lst {ds : List D} {v : V} : Rep K H Y (.lst ds) v ↔ ∃ a vs, v = .ref a ∧ LsY K H Y a vs ∧ Reps K H Y ds vs := by
  constructor
  · intro h; unfold Rep at h; exact h
  · intro h; unfold Rep; exact h
end

/-! ### a cell's parts: data, or another cell ahead of it -/
def isP : D → Bool
  | .lnk _ => false
  | _ => true
def RepE (K : PySem.W.Frag) (H : Hp) (Y : Addr → Prop) (js : List Addr) (k : Nat) : D → V → Prop
  | .lnk m, v => m < k ∧ ∃ b, js[m]? = some b ∧ v = .ref b
  | d, v => Rep K H Y d v
def RepsC (K : PySem.W.Frag) (H : Hp) (Y : Addr → Prop) (js : List Addr) (k : Nat) (ds : List D) (vs : List V) : Prop :=
  vs.length = ds.length ∧ ∀ (i : Nat) (d : D) (v : V), ds[i]? = some d → vs[i]? = some v → RepE K H Y js k d v
section
variable {K : PySem.W.Frag} {H H' : Hp} {Y Y' : Addr → Prop} {js js' : List Addr} {k : Nat} {ds es : List D} {vs us : List V}
theorem rep_lnk {m : Nat} {v : V} (h : Rep K H Y (.lnk m) v) : False := by unfold Rep at h; exact h
theorem repE_of {d : D} {v : V} (h : Rep K H Y d v) : RepE K H Y js k d v := by
  cases d with
  | lnk m => exact (rep_lnk h).elim
  | _ => exact h
theorem repE_rep {d : D} {v : V} (h : RepE K H Y js k d v) (hp : isP d = true) : Rep K H Y d v := by
  cases d with
  | lnk m => cases hp
  | _ => exact h
theorem repsC_of (h : Reps K H Y ds vs) : RepsC K H Y js k ds vs := ⟨reps_len h, fun i d v e1 e2 => by
  obtain ⟨u, u1, u2⟩ := reps_get h e1
  rw [e2] at u1
  cases u1
  exact repE_of u2⟩
theorem reps_idx : ∀ {ds : List D} {vs : List V}, vs.length = ds.length → (∀ (i : Nat) (d : D) (v : V), ds[i]? = some d → vs[i]? = some v → Rep K H Y d v) → Reps K H Y ds vs
  | [], vs, h, _ => reps_nil.mpr (List.eq_nil_of_length_eq_zero h)
  | d :: ds, [], h, _ => by simp at h
  | d :: ds, v :: vs, h, g => reps_cons.mpr ⟨v, vs, rfl, g 0 d v rfl rfl, reps_idx (by simpa using h) fun i e u e1 e2 => g (i + 1) e u (by simpa using e1) (by simpa using e2)⟩
theorem repsC_reps (h : RepsC K H Y js k ds vs) (hp : ds.all isP = true) : Reps K H Y ds vs :=
  reps_idx h.1 fun i d v e1 e2 => repE_rep (h.2 i d v e1 e2) (List.all_eq_true.mp hp d (List.mem_of_getElem? e1))
theorem repE_move (hE : ∀ a o, H a = some o → ¬ Y a → H' a = some o) (hY : ∀ a, Y' a → Y a ∨ H a = none) (hl : Lists H Y) (hj : ∀ m b, m < k → js[m]? = some b → js'[m]? = some b) {d : D} {v : V} (h : RepE K H Y js k d v) : RepE K H' Y' js' k d v := by
  cases d with
  | lnk m =>
    obtain ⟨h1, b, h2, h3⟩ := h
    exact ⟨h1, b, hj m b h1 h2, h3⟩
  | non => exact rep_move hE hY hl _ v h
  | bl _ => exact rep_move hE hY hl _ v h
  | int _ => exact rep_move hE hY hl _ v h
  | str _ => exact rep_move hE hY hl _ v h
  | tup _ => exact rep_move hE hY hl _ v h
  | lst _ => exact rep_move hE hY hl _ v h
theorem repsC_moveJ (hE : ∀ a o, H a = some o → ¬ Y a → H' a = some o) (hY : ∀ a, Y' a → Y a ∨ H a = none) (hl : Lists H Y) (hj : ∀ m b, m < k → js[m]? = some b → js'[m]? = some b) (h : RepsC K H Y js k ds vs) : RepsC K H' Y' js' k ds vs :=
  ⟨h.1, fun i d v e1 e2 => repE_move hE hY hl hj (h.2 i d v e1 e2)⟩
theorem repsC_move (hE : ∀ a o, H a = some o → ¬ Y a → H' a = some o) (hY : ∀ a, Y' a → Y a ∨ H a = none) (hl : Lists H Y) (ds : List D) (vs : List V) (h : RepsC K H Y js k ds vs) : RepsC K H' Y' js k ds vs :=
  repsC_moveJ hE hY hl (fun _ _ _ e => e) h
theorem repsC_len (h : RepsC K H Y js k ds vs) : vs.length = ds.length := h.1
theorem repsC_append (h : RepsC K H Y js k ds vs) (g : RepsC K H Y js k es us) : RepsC K H Y js k (ds ++ es) (vs ++ us) := by
  refine ⟨by rw [List.length_append, List.length_append, h.1, g.1], fun i d v e1 e2 => ?_⟩
  by_cases hi : i < ds.length
  · rw [List.getElem?_append_left hi] at e1
    rw [List.getElem?_append_left (by rw [h.1]; exact hi)] at e2
    exact h.2 i d v e1 e2
  · rw [List.getElem?_append_right (by omega)] at e1
    rw [List.getElem?_append_right (by rw [h.1]; omega), h.1] at e2
    exact g.2 _ d v e1 e2
theorem repsC_set {i : Nat} {d : D} {v : V} (h : RepsC K H Y js k ds vs) (g : Rep K H Y d v) : RepsC K H Y js k (ds.set i d) (vs.set i v) := by
  refine ⟨by rw [List.length_set, List.length_set, h.1], fun j e u e1 e2 => ?_⟩
  by_cases hj : i = j
  · subst hj
    rw [List.getElem?_set] at e1 e2
    simp only [if_true] at e1 e2
    split at e1
    · cases e1
      split at e2
      · cases e2; exact repE_of g
      · cases e2
    · cases e1
  · rw [List.getElem?_set_ne hj] at e1 e2
    exact h.2 j e u e1 e2
theorem repsC_get {i : Nat} {d : D} (h : RepsC K H Y js k ds vs) (e : ds[i]? = some d) : ∃ v, vs[i]? = some v ∧ RepE K H Y js k d v := by
  have hi : i < vs.length := by rw [h.1]; exact (List.getElem?_eq_some_iff.mp e).1
  exact ⟨vs[i], List.getElem?_eq_getElem hi, h.2 i d _ e (List.getElem?_eq_getElem hi)⟩
theorem repsC_cons {d : D} {v : V} (g : RepE K H Y js k d v) (h : RepsC K H Y js k ds vs) : RepsC K H Y js k (d :: ds) (v :: vs) :=
  ⟨by simp [h.1], fun i e u e1 e2 => by
    cases i with
    | zero => simp at e1 e2; subst e1; subst e2; exact g
    | succ i => exact h.2 i e u (by simpa using e1) (by simpa using e2)⟩
end
/-! ### the state -/
abbrev Yf (Xo : Addr → Prop) (js : List Addr) : Addr → Prop := fun a => Xo a ∨ a ∈ js
abbrev With (Xo : Addr → Prop) (p : Addr) : Addr → Prop := fun a => Xo a ∨ a = p
/-- how an exception lies: its class, its fields -/
def ExcAt (K : PySem.W.Frag) (Xo : Addr → Prop) (js : List Addr) (c : Str) (fs : List (Str × D)) (cls : Value) (od : Option Addr) (H : Hp) : Prop :=
  ∃ C, PySem.W.nsIn K mainGlobals c = some (some (.ref C)) ∧ cls = .ref C ∧ ∃ d us, od = some d ∧ H d = some (.xd us) ∧ us.map (·.1) = fs.map (·.1) ∧ Reps K H (Yf Xo js) (fs.map (·.2)) (us.map (·.2))
def HRep (K : PySem.W.Frag) (Z : List Zx) (H : Hp) (Y : Addr → Prop) (js : List Addr) : HV → V → Prop
  | .val d, v => Rep K H Y d v
  | .jar k, v => ∃ a, js[k]? = some a ∧ v = .ref a
  | .new _, _ => False
  | .exc k, v => ∃ z, Z[k]? = some z ∧ v = .ref z.a
  | .newB _ _, _ => True
def norm : HV → HV
  | .new ds => .val (.lst ds)
  | h => h
structure Fit (K : PySem.W.Frag) (Z : List Zx) (Xo : Addr → Prop) (js : List Addr) (H : Hp) (σ : St) (env : En) (J : Jr) : Prop where
  out : Lists H Xo
  nd : js.Nodup
  jx : ∀ a ∈ js, ¬ Xo a
  len : js.length = J.length
  slen : σ.length = env.length
  jar : ∀ (k : Nat) (a : Addr) (ds : List D), js[k]? = some a → J[k]? = some ds → ∃ vs, H a = some (.lst vs) ∧ RepsC K H (Yf Xo js) js k ds vs
  slot : ∀ (i : Nat) (h : HV), env[i]? = some (some h) → ∃ v, σ[i]? = some (some v) ∧ HRep K Z H (Yf Xo js) js h v
  ez : ∀ z ∈ Z, ExcAt K Xo js z.c z.fs z.cls z.od H
section
variable {K : PySem.W.Frag} {Xo Xo' : Addr → Prop} {js : List Addr} {H H' : Hp} {σ : St} {env : En} {J : Jr} {Z : List Zx}
theorem Fit.at (F : Fit K Z Xo js H σ env J) {k : Nat} {a : Addr} (e : js[k]? = some a) : ∃ ds vs, J[k]? = some ds ∧ H a = some (.lst vs) ∧ RepsC K H (Yf Xo js) js k ds vs := by
  have hk : k < js.length := (List.getElem?_eq_some_iff.mp e).1
  obtain ⟨ds, h⟩ : ∃ ds, J[k]? = some ds := ⟨J[k]'(by rw [← F.len]; exact hk), List.getElem?_eq_getElem _⟩
  obtain ⟨vs, h1, h2⟩ := F.jar k a ds e h
  exact ⟨ds, vs, h, h1, h2⟩
theorem Fit.lists (F : Fit K Z Xo js H σ env J) : Lists H (Yf Xo js) := fun a h => by
  rcases h with h | h
  · exact F.out a h
  · obtain ⟨k, hk, e⟩ := List.getElem_of_mem h
    obtain ⟨ds, vs, _, h1, _⟩ := F.at (k := k) (a := a) (by rw [List.getElem?_eq_getElem hk, e])
    exact ⟨vs, h1⟩
theorem HRep.move {Y Y' : Addr → Prop} (hE : ∀ a o, H a = some o → ¬ Y a → H' a = some o) (hY : ∀ a, Y' a → Y a ∨ H a = none) (hl : Lists H Y) {h : HV} {v : V} (x : HRep K Z H Y js h v) : HRep K Z H' Y' js h v := by
  cases h with
  | val d => exact rep_move hE hY hl d v x
  | jar k => exact x
  | new ds => exact x
  | exc k => exact x
  | newB i r => exact x
/-- another heap, other locks -/
theorem ExcAt.move {js' : List Addr} {c : Str} {fs : List (Str × D)} {cls : Value} {od : Option Addr} (x : ExcAt K Xo js c fs cls od H) (hE : ∀ a o, H a = some o → ¬ Yf Xo js a → H' a = some o) (hY : ∀ a, Yf Xo' js' a → Yf Xo js a ∨ H a = none) (hl : Lists H (Yf Xo js)) : ExcAt K Xo' js' c fs cls od H' := by
  obtain ⟨C, c1, c2, d, us, d1, d2, d3, d4⟩ := x
  refine ⟨C, c1, c2, d, us, d1, hE d _ d2 fun y => ?_, d3, reps_move hE hY hl _ _ d4⟩
  obtain ⟨xs, e⟩ := hl d y
  rw [d2] at e; cases e
theorem Fit.move (F : Fit K Z Xo js H σ env J) (hE : ∀ a o, H a = some o → H' a = some o) (hX : ∀ a, Xo' a → Xo a ∨ H a = none) (ho : Lists H' Xo') : Fit K Z Xo' js H' σ env J := by
  have hl := F.lists
  have hY : ∀ a, Yf Xo' js a → Yf Xo js a ∨ H a = none := fun a h => by
    rcases h with h | h
    · rcases hX a h with z | z
      · exact .inl (.inl z)
      · exact .inr z
    · exact .inl (.inr h)
  refine ⟨ho, F.nd, fun a ha z => ?_, F.len, F.slen, fun k a ds e1 e2 => ?_, fun i h e => ?_, fun z hz => (F.ez z hz).move (fun a o q _ => hE a o q) hY hl⟩
  · rcases hX a z with z | z
    · exact F.jx a ha z
    · obtain ⟨xs, q⟩ := hl a (.inr ha)
      rw [q] at z; cases z
  · obtain ⟨vs, h1, h2⟩ := F.jar k a ds e1 e2
    exact ⟨vs, hE _ _ h1, repsC_move (fun a o q _ => hE a o q) hY hl _ _ h2⟩
  · obtain ⟨v, h1, h2⟩ := F.slot i h e
    exact ⟨v, h1, h2.move (fun a o q _ => hE a o q) hY hl⟩
theorem Fit.same (F : Fit K Z Xo js H σ env J) (hE : Same H H') : Fit K Z Xo js H' σ env J :=
  F.move hE (fun _ h => .inl h) fun a h => let ⟨xs, e⟩ := F.out a h; ⟨xs, hE _ _ e⟩
theorem Fit.lock (F : Fit K Z Xo js H σ env J) (hE : Same H H') {p : Addr} {vs : List V} (hp : H p = none) (e : H' p = some (.lst vs)) : Fit K Z (With Xo p) js H' σ env J :=
  F.move hE (fun a h => h.elim .inl fun z => .inr (z ▸ hp)) fun a h => h.elim (fun h => let ⟨xs, e⟩ := F.out a h; ⟨xs, hE _ _ e⟩) fun z => ⟨vs, z ▸ e⟩
theorem Fit.unlock {p : Addr} (F : Fit K Z (With Xo p) js H σ env J) : Fit K Z Xo js H σ env J :=
  F.move (fun _ _ e => e) (fun _ h => .inl (.inl h)) fun a h => F.out a (.inl h)
theorem same_upd {H : Hp} {p : Addr} {o : HO} (h : H p = none) : Same H (upd H p o) := fun b x e => by
  rw [upd_ne (ne_of_none e h)]
  exact e
end

/-! ### readings of expressions -/
abbrev Ext (js : List Addr) (H H' : Hp) : Prop := ∀ a o, H a = some o → a ∉ js → H' a = some o
theorem Ext.of {js : List Addr} {H H' : Hp} (s : Same H H') : Ext js H H' := fun a o e _ => s a o e
theorem Ext.trans {js : List Addr} {H H1 H2 : Hp} (a : Ext js H H1) (b : Ext js H1 H2) : Ext js H H2 := fun c o e n => b c o (a c o e n) n
theorem Ext.refl {js : List Addr} {H : Hp} : Ext js H H := fun _ _ e _ => e
def OutN (K : PySem.W.Frag) (Z : List Zx) (Xo : Addr → Prop) (js : List Addr) (H H' : Hp) (σ : St) (env : En) (J : Jr) (h : HV) (v : V) : Prop := match h with
  | .new ds => ∃ p vs, v = .ref p ∧ H p = none ∧ H' p = some (.lst vs) ∧ Fit K Z (With Xo p) js H' σ env J ∧ Reps K H' (Yf (With Xo p) js) ds vs
  | .newB xs ds => ∃ p q us vs, v = .ref p ∧ p ≠ q ∧ H p = none ∧ H q = none ∧ H' p = some (.lst (.ref q :: vs)) ∧ H' q = some (.lst us) ∧ Fit K Z (With (With Xo q) p) js H' σ env J ∧ Reps K H' (Yf (With (With Xo q) p) js) xs us ∧ Reps K H' (Yf (With (With Xo q) p) js) ds vs
  | h => Fit K Z Xo js H' σ env J ∧ HRep K Z H' (Yf Xo js) js h v
def Flies (K : PySem.W.Frag) (Z : List Zx) (W : WX) (Xo : Addr → Prop) (js : List Addr) (H : Hp) (σ : St) (env : En) (c : Str) (fs : List (Str × D)) (J : Jr) : Prop :=
  ∀ cls od H', ExcAt K Xo js c fs cls od H' → Ext js H H' → Fit K Z Xo js H' σ env J → W cls od σ H'
/-- raw: fresh lists are told -/
def PostN (K : PySem.W.Frag) (Z : List Zx) (W : WX) (Xo : Addr → Prop) (js : List Addr) (H : Hp) (σ : St) (env : En) (Q : VK) : R HV → Prop
  | .ok h J => ∀ v H', Ext js H H' → OutN K Z Xo js H H' σ env J h v → Q v H'
  | .err c fs J => Flies K Z W Xo js H σ env c fs J
  | .stuck => False
def PostD (K : PySem.W.Frag) (Z : List Zx) (W : WX) (Xo : Addr → Prop) (js : List Addr) (H : Hp) (σ : St) (env : En) (Q : VK) : R HV → Prop
  | .ok h J => ∀ v H', Ext js H H' → Fit K Z Xo js H' σ env J → HRep K Z H' (Yf Xo js) js (norm h) v → Q v H'
  | .err c fs J => Flies K Z W Xo js H σ env c fs J
  | .stuck => False
def PostB (K : PySem.W.Frag) (Z : List Zx) (W : WX) (Xo : Addr → Prop) (js : List Addr) (H : Hp) (σ : St) (env : En) (Q : Bool → Hp → Prop) : R Bool → Prop
  | .ok b J => ∀ H', Ext js H H' → Fit K Z Xo js H' σ env J → Q b H'
  | .err c fs J => Flies K Z W Xo js H σ env c fs J
  | .stuck => False
def tN (K : PySem.W.Frag) (Z : List Zx) (W : WX) (f : EF) : TE := fun σ H Q => ∃ Xo js env J, Fit K Z Xo js H σ env J ∧ PostN K Z W Xo js H σ env Q (f env J)
def tD (K : PySem.W.Frag) (Z : List Zx) (W : WX) (f : EF) : TE := fun σ H Q => ∃ Xo js env J, Fit K Z Xo js H σ env J ∧ PostD K Z W Xo js H σ env Q (f env J)
abbrev BF := En → Jr → R Bool
def tT (K : PySem.W.Frag) (Z : List Zx) (W : WX) (f : BF) : TT := fun σ H Q => ∃ Xo js env J, Fit K Z Xo js H σ env J ∧ PostB K Z W Xo js H σ env Q (f env J)
theorem Flies.later {K : PySem.W.Frag} {Z : List Zx} {W : WX} {Xo : Addr → Prop} {js : List Addr} {H H1 : Hp} {σ : St} {env : En} {c : Str} {fs : List (Str × D)} {J : Jr} (h : Flies K Z W Xo js H σ env c fs J) (e : Ext js H H1) : Flies K Z W Xo js H1 σ env c fs J :=
  fun cls od H' x y z => h cls od H' x (e.trans y) z

theorem pe_mono {X : Cx} {e : Expr} {t t' : TE} (h : PE X e t) (m : ∀ σ H Q, t' σ H Q → t σ H Q) : PE X e t' := ⟨fun pins s σ H Q I w => h.run pins s σ H Q I (m σ H Q w)⟩
theorem pt_mono {X : Cx} {e : Expr} {t t' : TT} (h : PT X e t) (m : ∀ σ H Q, t' σ H Q → t σ H Q) : PT X e t' := ⟨fun pins s σ H Q I w => h.run pins s σ H Q I (m σ H Q w)⟩
theorem ps_mono {X : Cx} {e : Stmt} {t t' : TS} (h : PS X e t) (m : ∀ D σ H, t' D σ H → t D σ H) : PS X e t' := ⟨fun pins s σ H D I w => h.run pins s σ H D I (m D σ H w)⟩
theorem pss_mono {X : Cx} {e : List Stmt} {t t' : TS} (h : PSs X e t) (m : ∀ D σ H, t' D σ H → t D σ H) : PSs X e t' := ⟨fun pins s σ H D I w => h.run pins s σ H D I (m D σ H w)⟩

theorem outN_norm {K : PySem.W.Frag} {Z : List Zx} {Xo : Addr → Prop} {js : List Addr} {H H' : Hp} {σ : St} {env : En} {J : Jr} {h : HV} {v : V} (hl : Lists H Xo) (o : OutN K Z Xo js H H' σ env J h v) : Fit K Z Xo js H' σ env J ∧ HRep K Z H' (Yf Xo js) js (norm h) v := by
  cases h with
  | val d => exact o
  | jar k => exact o
  | exc k => exact o
  | newB xs ds =>
    obtain ⟨p, q, us, vs, e, hn, hp, hq, h1, h2, F, r1, r2⟩ := o
    exact ⟨F.unlock.unlock, trivial⟩
  | new ds =>
    obtain ⟨p, vs, e, hp, hq, F, r⟩ := o
    refine ⟨F.unlock, rep_lst.mpr ⟨p, vs, e, .inl ⟨.inl hq, fun y => ?_⟩, ?_⟩⟩
    · rcases y with y | y
      · obtain ⟨xs, z⟩ := hl p y
        rw [hp] at z; cases z
      · exact F.jx p y (.inr rfl)
    · exact reps_move (fun _ _ e _ => e) (fun a y => .inl (y.elim (fun y => .inl (.inl y)) .inr)) F.lists _ _ r
end L2.Pz
set_option Elab.async false
set_option linter.all false
set_option maxRecDepth 100000
set_option maxHeartbeats 4000000
set_option autoImplicit false
namespace L2.Pz
open PySem PySem.Spec PyProof.Rows

/-! ### evaluation: names, constants, operators -/
def eName (i : Nat) : EF := fun env J => match env[i]? with
  | some (some h) => .ok h J
  | _ => .stuck
def eC (d : D) : EF := fun _ J => .ok (.val d) J
/-- a cell as a list: of data alone -/
def derefC : Option (List D) → Option D
  | some ds => if ds.all isP = true then some (.lst ds) else none
  | none => none
def deref (J : Jr) : HV → Option D
  | .val d => some d
  | .new ds => some (.lst ds)
  | .jar k => derefC J[k]?
  | .exc _ => none
  | .newB _ _ => none
abbrev F1 := D → Option HV
abbrev F2 := D → D → Option HV
def give (J : Jr) : Option HV → R HV
  | some z => .ok z J
  | none => .stuck
def app1 (fo : F1) (J : Jr) (h1 : HV) : R HV := match deref J h1 with
  | some d => give J (fo d)
  | none => .stuck
def app2 (fo : F2) (J : Jr) (h1 h2 : HV) : R HV := match deref J h1, deref J h2 with
  | some d, some e => give J (fo d e)
  | _, _ => .stuck
def eUn (fo : F1) (f : EF) : EF := fun env J => (f env J).bind fun h1 J1 => app1 fo J1 h1
def eBin (fo : F2) (f g : EF) : EF := fun env J => (f env J).bind fun h1 J1 => (g env J1).bind fun h2 J2 => app2 fo J2 h1 h2
def toB : R HV → R Bool := fun r => r.bind fun h J => match h with
  | .val (.bl b) => .ok b J
  | _ => .stuck
def truth : D → Option Bool
  | .non => some false
  | .bl b => some b
  | .int i => some (i != 0)
  | .str y => if y.length ≤ big then some ((y.length : Int) != 0) else none
  | .tup xs => some (!xs.isEmpty)
  | .lst xs => some (!xs.isEmpty)
  | .lnk _ => none
def bTruth (f : EF) : BF := fun env J => (f env J).bind fun h J1 => match deref J1 h with
  | some d => (match truth d with | some b => .ok b J1 | none => .stuck)
  | none => .stuck
def bCmp (fo : F2) (f g : EF) : BF := fun env J => toB (eBin fo f g env J)
def bNot (c : BF) : BF := fun env J => (c env J).bind fun b J1 => .ok (!b) J1
def bAnd (c d : BF) : BF := fun env J => (c env J).bind fun b J1 => if b = true then d env J1 else .ok false J1
def bOr (c d : BF) : BF := fun env J => (c env J).bind fun b J1 => if b = true then .ok true J1 else d env J1
def eNot (f : EF) : EF := fun env J => (toB (f env J)).bind fun b J1 => .ok (.val (.bl (!b))) J1
def eAnd (f g : EF) : EF := fun env J => (toB (f env J)).bind fun b J1 => if b = true then g env J1 else .ok (.val (.bl false)) J1
def eOr (f g : EF) : EF := fun env J => (toB (f env J)).bind fun b J1 => if b = true then .ok (.val (.bl true)) J1 else g env J1
def eIf (c : BF) (f g : EF) : EF := fun env J => (c env J).bind fun b J1 => if b = true then f env J1 else g env J1
/-- a < b < c -/
def eChain (fo go : F2) (f g k : EF) : EF := fun env J => (f env J).bind fun h1 J1 => (g env J1).bind fun h2 J2 => (toB (app2 fo J2 h1 h2)).bind fun b J3 =>
  if b = true then (k env J3).bind fun h3 J4 => app2 go J4 h2 h3 else .ok (.val (.bl false)) J3

def RepTop (K : PySem.W.Frag) (H : Hp) (Y : Addr → Prop) : D → V → Prop
  | .lst ds, v => ∃ a vs, v = .ref a ∧ SqL K H a vs ∧ Reps K H Y ds vs
  | d, v => Rep K H Y d v
def PureOut (K : PySem.W.Frag) (Y : Addr → Prop) (H H' : Hp) (z : HV) (v : V) : Prop := Same H H' ∧ match z with
  | .val d => Rep K H' Y d v
  | .new ds => ∃ p vs, v = .ref p ∧ H p = none ∧ H' p = some (.lst vs) ∧ Reps K H' (fun a => Y a ∨ a = p) ds vs
  | .jar _ => False
  | .exc _ => False
  | .newB _ _ => False
def Sem1 (K : PySem.W.Frag) (r : V → Hp → VK → Prop) (fo : F1) : Prop := ∀ (H : Hp) (Y : Addr → Prop) (x : V) (d : D) (z : HV) (Q : VK), Lists H Y → RepTop K H Y d x → fo d = some z → (∀ v H', PureOut K Y H H' z v → Q v H') → r x H Q
def Sem2 (K : PySem.W.Frag) (r : R2) (fo : F2) : Prop := ∀ (H : Hp) (Y : Addr → Prop) (x y : V) (d e : D) (z : HV) (Q : VK), Lists H Y → RepTop K H Y d x → RepTop K H Y e y → fo d e = some z → (∀ v H', PureOut K Y H H' z v → Q v H') → r x y H Q

section
variable {K : PySem.W.Frag} {H : Hp} {Y : Addr → Prop} {v : V} {Z : List Zx}
theorem top_non (h : RepTop K H Y .non v) : v = .non := rep_non (K := K) (H := H) (Y := Y) h
theorem top_bl {b : Bool} (h : RepTop K H Y (.bl b) v) : v = .bl b := rep_bl (K := K) (H := H) (Y := Y) h
theorem top_int {b : Int} (h : RepTop K H Y (.int b) v) : v = .int b := rep_int (K := K) (H := H) (Y := Y) h
theorem top_str {b : Str} (h : RepTop K H Y (.str b) v) : v = .str b := rep_str (K := K) (H := H) (Y := Y) h
theorem top_lnk {m : Nat} (h : RepTop K H Y (.lnk m) v) : False := by
  have h : Rep K H Y (.lnk m) v := h
  exact rep_lnk h
theorem top_tup {b : List D} (h : RepTop K H Y (.tup b) v) : ∃ a vs, v = .ref a ∧ SqT K H a vs ∧ Reps K H Y b vs := rep_tup (K := K) (H := H) (Y := Y).mp h
end
section
variable {K : PySem.W.Frag} {W : WX} {Xo : Addr → Prop} {js : List Addr} {H H1 H2 H' : Hp} {σ : L2.St} {env : En} {J J1 J2 : Jr} {Z : List Zx}
theorem deref_top (F : Fit K Z Xo js H σ env J) {h : HV} {v : V} {d : D} (x : HRep K Z H (Yf Xo js) js (norm h) v) (e : deref J h = some d) : RepTop K H (Yf Xo js) d v := by
  have val : ∀ d, Rep K H (Yf Xo js) d v → RepTop K H (Yf Xo js) d v := fun d r => by
    cases d with
    | lst ds =>
      obtain ⟨a, vs, e, s, q⟩ := rep_lst.mp r
      exact ⟨a, vs, e, s.sq, q⟩
    | _ => exact r
  cases h with
  | val d' =>
    cases e
    exact val _ x
  | new ds =>
    cases e
    exact val _ x
  | exc k => cases e
  | jar k =>
    obtain ⟨a, ea, ev⟩ := x
    obtain ⟨ds, vs, h1, h2, h3⟩ := F.at ea
    have e' : derefC J[k]? = some d := e
    rw [h1] at e'
    have e' : (if ds.all isP = true then some (D.lst ds) else none) = some d := e'
    by_cases hp : ds.all isP = true
    · rw [if_pos hp] at e'
      cases e'
      exact ⟨a, vs, ev, .of h2, repsC_reps h3 hp⟩
    · rw [if_neg hp] at e'; cases e'
  | newB i r => cases e
theorem none_back (e : Ext js H H2) (hl : Lists H2 (Yf Xo js)) {p : Addr} (h : H2 p = none) : H p = none := by
  cases q : H p with
  | none => rfl
  | some o =>
    by_cases hp : p ∈ js
    · obtain ⟨xs, z⟩ := hl p (.inr hp)
      rw [h] at z; cases z
    · rw [e p o q hp] at h; cases h
theorem HRep.ext (F : Fit K Z Xo js H σ env J) (e : Ext js H H1) {h : HV} {v : V} (x : HRep K Z H (Yf Xo js) js h v) : HRep K Z H1 (Yf Xo js) js h v :=
  x.move (fun a o q n => e a o q fun z => n (.inr z)) (fun _ y => .inl y) F.lists
theorem Rep.ext (F : Fit K Z Xo js H σ env J) (e : Ext js H H1) {d : D} {v : V} (x : Rep K H (Yf Xo js) d v) : Rep K H1 (Yf Xo js) d v :=
  rep_move (fun a o q n => e a o q fun z => n (.inr z)) (fun _ y => .inl y) F.lists _ _ x
theorem Reps.ext (F : Fit K Z Xo js H σ env J) (e : Ext js H H1) {d : List D} {v : List V} (x : Reps K H (Yf Xo js) d v) : Reps K H1 (Yf Xo js) d v :=
  reps_move (fun a o q n => e a o q fun z => n (.inr z)) (fun _ y => .inl y) F.lists _ _ x
/-- a pure operation's end -/
theorem pure_out (F : Fit K Z Xo js H σ env J) (e0 : Ext js H1 H) {z : HV} {v : V} (p : PureOut K (Yf Xo js) H H' z v) : Ext js H1 H' ∧ OutN K Z Xo js H1 H' σ env J z v := by
  obtain ⟨s, q⟩ := p
  refine ⟨e0.trans (.of s), ?_⟩
  cases z with
  | val d => exact ⟨F.same s, q⟩
  | jar k => exact q.elim
  | exc k => exact q.elim
  | newB i r => exact q.elim
  | new ds =>
    obtain ⟨p, vs, e, hp, hq, r⟩ := q
    have G := F.lock s hp hq
    refine ⟨p, vs, e, none_back e0 F.lists hp, hq, G, reps_move (fun _ _ e _ => e) (fun a y => .inl ?_) (fun a y => ?_) _ _ r⟩
    · rcases y with (y | y) | y
      · exact .inl (.inl y)
      · exact .inr y
      · exact .inl (.inr y)
    · rcases y with (y | y) | y
      · exact G.lists a (.inl (.inl y))
      · exact G.lists a (.inr y)
      · exact G.lists a (.inl (.inr y))
theorem postD_of {Q : VK} {r : R HV} (F : Fit K Z Xo js H σ env J) (p : PostD K Z W Xo js H σ env Q r) : PostN K Z W Xo js H σ env Q r := by
  cases r with
  | ok h J1 => exact fun v H' e o => let ⟨G, x⟩ := outN_norm F.out o; p v H' e G x
  | err c fs J1 => exact p
  | stuck => exact p
end

section
variable {X : Cx} {W : WX} {e a b c : Expr} {f g k : EF} {pos : Pos} {rest : List Expr} {cb db : BF} {Z : List Zx}
theorem toD (h : PE X e (tN X.K Z W f)) : PE X e (tD X.K Z W f) := pe_mono h fun σ H Q ⟨Xo, js, env, J, F, p⟩ => ⟨Xo, js, env, J, F, postD_of F p⟩
theorem pd_name {i : Nat} {x : Str} (h : PE X (.Name x pos) (tVar i)) : PE X (.Name x pos) (tD X.K Z W (eName i)) := pe_mono h fun σ H Q ⟨Xo, js, env, J, F, p⟩ => by
  unfold eName at p
  cases r : env[i]? with
  | none => rw [r] at p; exact p.elim
  | some o =>
    cases o with
    | none => rw [r] at p; exact p.elim
    | some z =>
      rw [r] at p
      obtain ⟨v, e1, x⟩ := F.slot i z r
      refine ⟨v, e1, p v H .refl F ?_⟩
      cases z with
      | new ds => exact x.elim
      | _ => exact x
theorem nn_name {i : Nat} : True := trivial
theorem pd_c {t : TE} {d : D} {v : V} (h : PE X e (tC v)) (hr : ∀ H Y, Rep X.K H Y d v) : PE X e (tD X.K Z W (eC d)) := pe_mono h fun σ H Q ⟨Xo, js, env, J, F, p⟩ => p v H .refl F (hr _ _)
theorem pd_int {i j} : PE X (.Constant (.int i) j pos) (tD X.K Z W (eC (.int i))) := pd_c (t := tC (.int i)) pe_int fun _ _ => mk_int
theorem pd_bl {i j} : PE X (.Constant (.bool i) j pos) (tD X.K Z W (eC (.bl i))) := pd_c (t := tC (.bl i)) pe_bl fun _ _ => mk_bl
theorem pd_str {i j} : PE X (.Constant (.str i) j pos) (tD X.K Z W (eC (.str i))) := pd_c (t := tC (.str i)) pe_str fun _ _ => mk_str
theorem pd_non {j} : PE X (.Constant .none j pos) (tD X.K Z W (eC .non)) := pd_c (t := tC .non) pe_non fun _ _ => mk_non

theorem un_read {r : V → Hp → VK → Prop} {fo : F1} {ta : TE} (sem : Sem1 X.K r fo) (m : ∀ σ H Q, tD X.K Z W f σ H Q → ta σ H Q) {σ : L2.St} {H : Hp} {Q : VK} (w : tN X.K Z W (eUn fo f) σ H Q) : ta σ H fun x H1 => r x H1 Q := by
  obtain ⟨Xo, js, env, J, F, p⟩ := w
  refine m _ _ _ ⟨Xo, js, env, J, F, ?_⟩
  unfold eUn at p
  cases hf : f env J with
  | stuck => rw [hf] at p; exact p.elim
  | err c fs J1 => rw [hf] at p; exact p
  | ok h1 J1 =>
    rw [hf] at p
    intro x H1 e1 F1 x1
    have p : PostN X.K Z W Xo js H σ env Q (app1 fo J1 h1) := p
    unfold app1 at p
    cases hd : deref J1 h1 with
    | none => rw [hd] at p; exact p.elim
    | some d =>
      rw [hd] at p
      have p : PostN X.K Z W Xo js H σ env Q (give J1 (fo d)) := p
      cases hz : fo d with
      | none => rw [hz] at p; exact p.elim
      | some z =>
        rw [hz] at p
        refine sem H1 (Yf Xo js) x d z Q F1.lists (deref_top F1 x1 hd) hz fun v H' o => ?_
        obtain ⟨e2, o2⟩ := pure_out F1 e1 o
        exact p v H' e2 o2
theorem app2_read {r : R2} {fo : F2} (sem : Sem2 X.K r fo) {Xo : Addr → Prop} {js : List Addr} {H H2 : Hp} {σ : L2.St} {env : En} {J2 : Jr} {h1 h2 : HV} {x y : V} {Q : VK} (e02 : Ext js H H2) (F2 : Fit X.K Z Xo js H2 σ env J2)
    (x1 : HRep X.K Z H2 (Yf Xo js) js (norm h1) x) (y2 : HRep X.K Z H2 (Yf Xo js) js (norm h2) y) (p : PostN X.K Z W Xo js H σ env Q (app2 fo J2 h1 h2)) : r x y H2 Q := by
  unfold app2 at p
  cases hd : deref J2 h1 with
  | none => rw [hd] at p; exact p.elim
  | some d =>
    cases he : deref J2 h2 with
    | none => rw [hd, he] at p; exact p.elim
    | some e =>
      rw [hd, he] at p
      have p : PostN X.K Z W Xo js H σ env Q (give J2 (fo d e)) := p
      cases hz : fo d e with
      | none => rw [hz] at p; exact p.elim
      | some z =>
        rw [hz] at p
        refine sem H2 (Yf Xo js) x y d e z Q F2.lists (deref_top F2 x1 hd) (deref_top F2 y2 he) hz fun v H' o => ?_
        obtain ⟨e3, o2⟩ := pure_out F2 e02 o
        exact p v H' e3 o2
theorem bin_read {r : R2} {fo : F2} (sem : Sem2 X.K r fo) {σ : L2.St} {H : Hp} {Q : VK} (w : tN X.K Z W (eBin fo f g) σ H Q) : tOp r (tD X.K Z W f) (tD X.K Z W g) σ H Q := by
  obtain ⟨Xo, js, env, J, F, p⟩ := w
  refine ⟨Xo, js, env, J, F, ?_⟩
  unfold eBin at p
  cases hf : f env J with
  | stuck => rw [hf] at p; exact p.elim
  | err c fs J1 => rw [hf] at p; exact p
  | ok h1 J1 =>
    rw [hf] at p
    intro x H1 e1 F1 x1
    have p : PostN X.K Z W Xo js H σ env Q ((g env J1).bind fun h2 J2 => app2 fo J2 h1 h2) := p
    refine ⟨Xo, js, env, J1, F1, ?_⟩
    cases hg : g env J1 with
    | stuck => rw [hg] at p; exact p.elim
    | err c fs J2 => rw [hg] at p; exact p.later e1
    | ok h2 J2 =>
      rw [hg] at p
      intro y H2 e2 F2 y2
      exact app2_read sem (e1.trans e2) F2 (x1.ext F1 e2) y2 p
theorem pn_bin {op : Operator} {r : R2} {fo : F2} (ho : OpR X (binaryOp op) r) (sem : Sem2 X.K r fo) (ha : PE X a (tD X.K Z W f)) (hb : PE X b (tD X.K Z W g)) : PE X (.BinOp a op b pos) (tN X.K Z W (eBin fo f g)) :=
  pe_mono (pe_op ho ha hb) fun σ H Q w => bin_read sem w
theorem pn_cmp {op : CmpOp} {r : R2} {fo : F2} (ho : OpR X (compareOp op) r) (sem : Sem2 X.K r fo) (ha : PE X a (tD X.K Z W f)) (hb : PE X b (tD X.K Z W g)) (hm : behindInMarks op b = false) : PE X (.Compare a [op] [b] pos) (tN X.K Z W (eBin fo f g)) :=
  pe_mono (pe_cmpR ho ha hb hm) fun σ H Q w => bin_read sem w
theorem pn_un {op : UnaryOp} {r : V → Hp → VK → Prop} {fo : F1} (ho : UnR X (unaryOp op) r) (sem : Sem1 X.K r fo) (ha : PE X a (tD X.K Z W f)) : PE X (.UnaryOp op a pos) (tN X.K Z W (eUn fo f)) :=
  pe_mono (pe_un ho ha) fun σ H Q w => un_read sem (fun _ _ _ z => z) w
theorem pn_ix {r : R2} {fo : F2} (ho : IxR X r) (sem : Sem2 X.K r fo) (ha : PE X a (tD X.K Z W f)) (hb : PE X b (tD X.K Z W g)) (hs : PlainIx b) : PE X (.Subscript a b pos) (tN X.K Z W (eBin fo f g)) :=
  pe_mono (pe_ix ho ha hb hs) fun σ H Q w => bin_read sem w
/-- a built-in of one, of two arguments -/
theorem pn_b1 {x : Str} {id : String} {p : Pos} {r : List V → Hp → VK → Prop} {fo : F1} (hc : CallR X (.builtin id) r) (sem : Sem1 X.K (fun x H Q => r [x] H Q) fo) (hg : Gl X x) (hm : X.mg x = none) (hv : bootBuiltins x = some (.builtin id)) (ha : PE X a (tD X.K Z W f))
    (hn : x ≠ "__name__") (hdb : (x == ("__debug__" : Str)) = false) (h1 : starEach [a] X.env = (false, eval a X.env) :: starEach [] X.env) (hpl : (backTo pos (starEach [] X.env)).any (·.1) = false) : PE X (.Call (.Name x p) [a] [] pos) (tN X.K Z W (eUn fo f)) :=
  pe_mono (pe_callB hc hg hm hv (pa_cons ha pa_nil h1) hn hdb h1 hpl) fun σ H Q w => un_read (ta := tD X.K Z W f) sem (fun _ _ _ z => z) w
theorem pn_t1 {x : Str} {T : String} {p : Pos} {r : List V → Hp → VK → Prop} {fo : F1} (hc : CallR X (.type T) r) (sem : Sem1 X.K (fun x H Q => r [x] H Q) fo) (hg : Gl X x) (hm : X.mg x = none) (hv : bootBuiltins x = some (.type T)) (ha : PE X a (tD X.K Z W f))
    (hn : x ≠ "__name__") (hdb : (x == ("__debug__" : Str)) = false) (h1 : starEach [a] X.env = (false, eval a X.env) :: starEach [] X.env) (hpl : (backTo pos (starEach [] X.env)).any (·.1) = false) : PE X (.Call (.Name x p) [a] [] pos) (tN X.K Z W (eUn fo f)) :=
  pe_mono (pe_callTy hc hg hm hv (pa_cons ha pa_nil h1) hn hdb h1 hpl) fun σ H Q w => un_read (ta := tD X.K Z W f) sem (fun _ _ _ z => z) w
theorem pn_b2 {x : Str} {id : String} {p : Pos} {r : List V → Hp → VK → Prop} {fo : F2} (hc : CallR X (.builtin id) r) (sem : Sem2 X.K (fun x y H Q => r [x, y] H Q) fo) (hg : Gl X x) (hm : X.mg x = none) (hv : bootBuiltins x = some (.builtin id)) (ha : PE X a (tD X.K Z W f)) (hb : PE X b (tD X.K Z W g))
    (hn : x ≠ "__name__") (hdb : (x == ("__debug__" : Str)) = false) (h1 : starEach [a, b] X.env = (false, eval a X.env) :: starEach [b] X.env) (h2 : starEach [b] X.env = (false, eval b X.env) :: starEach [] X.env) (hpl : (backTo pos (starEach [b] X.env)).any (·.1) = false) : PE X (.Call (.Name x p) [a, b] [] pos) (tN X.K Z W (eBin fo f g)) :=
  pe_mono (pe_callB hc hg hm hv (pa_cons ha (pa_cons hb pa_nil h2) h1) hn hdb h1 hpl) fun σ H Q w => bin_read sem w
/-- isinstance(x, T), T a name of a built-in class -/
theorem pn_isi {x : Str} {n : String} {p p2 : Pos} {y : Str} {r : List V → Hp → VK → Prop} {fo : F1} (hc : CallR X (.builtin "isinstance") r) (sem : Sem1 X.K (fun x H Q => r [x, .ty n] H Q) fo) (hg : Gl X x) (hm : X.mg x = none) (hv : bootBuiltins x = some (.builtin "isinstance")) (ha : PE X a (tD X.K Z W f))
    (hy : PE X (.Name y p2) (tC (.ty n)))
    (hn : x ≠ "__name__") (hdb : (x == ("__debug__" : Str)) = false) (h1 : starEach [a, .Name y p2] X.env = (false, eval a X.env) :: starEach [.Name y p2] X.env) (h2 : starEach [.Name y p2] X.env = (false, eval (.Name y p2) X.env) :: starEach [] X.env) (hpl : (backTo pos (starEach [.Name y p2] X.env)).any (·.1) = false) :
    PE X (.Call (.Name x p) [a, .Name y p2] [] pos) (tN X.K Z W (eUn fo f)) :=
  pe_mono (pe_callB hc hg hm hv (pa_cons ha (pa_cons hy pa_nil h2) h1) hn hdb h1 hpl) fun σ H Q w => un_read (ta := tD X.K Z W f) sem (fun _ _ _ z => z) w

/-! ### tests -/
theorem outN_bl {Xo : Addr → Prop} {js : List Addr} {H H' : Hp} {σ : L2.St} {env : En} {J : Jr} {b : Bool} {v : V} (o : OutN X.K Z Xo js H H' σ env J (.val (.bl b)) v) : v = .bl b :=
  rep_bl (K := X.K) (H := H') (Y := Yf Xo js) o.2
theorem out_val {Xo : Addr → Prop} {js : List Addr} {H H' : Hp} {σ : L2.St} {env : En} {J : Jr} {d : D} {v : V} (G : Fit X.K Z Xo js H' σ env J) (r : Rep X.K H' (Yf Xo js) d v) : OutN X.K Z Xo js H H' σ env J (.val d) v := ⟨G, r⟩
theorem out_bl {Xo : Addr → Prop} {js : List Addr} {H H' : Hp} {σ : L2.St} {env : En} {J : Jr} {b : Bool} (G : Fit X.K Z Xo js H' σ env J) : OutN X.K Z Xo js H H' σ env J (.val (.bl b)) (.bl b) := out_val G mk_bl
theorem toB_read {f : EF} {σ : L2.St} {H : Hp} {Q : Bool → Hp → Prop} (w : tT X.K Z W (fun env J => toB (f env J)) σ H Q) : tN X.K Z W f σ H fun x H' => ∃ k, x = .bl k ∧ Q k H' := by
  obtain ⟨Xo, js, env, J, F, p⟩ := w
  refine ⟨Xo, js, env, J, F, ?_⟩
  unfold toB at p
  dsimp only at p
  cases hf : f env J with
  | stuck => rw [hf] at p; exact p.elim
  | err c fs J1 => rw [hf] at p; exact p
  | ok z J1 =>
    rw [hf] at p
    intro v H' e o
    cases z with
    | jar k => exact p.elim
    | exc k => exact p.elim
    | newB i r => exact p.elim
    | new ds => exact p.elim
    | val d =>
      cases d with
      | bl b => exact ⟨b, outN_bl o, p H' e o.1⟩
      | _ => exact p.elim
theorem pt_cmpD {op : CmpOp} {r : R2} {fo : F2} (ho : OpR X (compareOp op) r) (sem : Sem2 X.K r fo) (ha : PE X a (tD X.K Z W f)) (hb : PE X b (tD X.K Z W g)) (hm : behindInMarks op b = false) : PT X (.Compare a [op] [b] pos) (tT X.K Z W (bCmp fo f g)) :=
  pt_mono (pt_cmpR ho ha hb hm) fun σ H Q w => bin_read sem (toB_read w)
theorem top_truth {H : Hp} {Y : Addr → Prop} {d : D} {v : V} {k : Bool} (x : RepTop X.K H Y d v) (h : truth d = some k) : TruV X.K v H k := by
  cases d with
  | non => cases top_non x; cases h; rfl
  | bl b => cases top_bl x; cases h; rfl
  | int i => cases top_int x; cases h; rfl
  | lnk m => cases h
  | str y =>
    cases top_str x
    have h : (if y.length ≤ big then some ((y.length : Int) != 0) else none) = some k := h
    by_cases hy : y.length ≤ big
    · rw [if_pos hy] at h
      cases h
      exact ⟨by rw [big_eq]; exact hy, rfl⟩
    · rw [if_neg hy] at h
      cases h
  | tup ds =>
    obtain ⟨a, vs, e, s, q⟩ := top_tup x
    cases e
    cases h
    refine .inr (.inl ⟨vs, s, ?_⟩)
    have := reps_len q
    cases ds <;> cases vs <;> simp_all
  | lst ds =>
    obtain ⟨a, vs, e, s, q⟩ := x
    cases e
    cases h
    refine .inl ⟨vs, s, ?_⟩
    have := reps_len q
    cases ds <;> cases vs <;> simp_all
theorem pt_truthD (ha : PE X a (tD X.K Z W f)) (he : ∀ whole, isTrue a X.env whole = (do let v ← whole; standAt a.pos; holding [v] (truthy v))) : PT X a (tT X.K Z W (bTruth f)) :=
  pt_mono (pt_truth ha he) fun σ H Q ⟨Xo, js, env, J, F, p⟩ => by
    refine ⟨Xo, js, env, J, F, ?_⟩
    unfold bTruth at p
    cases hf : f env J with
    | stuck => rw [hf] at p; exact p.elim
    | err c fs J1 => rw [hf] at p; exact p
    | ok z J1 =>
      rw [hf] at p
      intro v H' e F1 o
      have p : PostB X.K Z W Xo js H σ env Q (match deref J1 z with
        | some d => (match truth d with | some b => .ok b J1 | none => .stuck)
        | none => .stuck) := p
      cases hd : deref J1 z with
      | none => rw [hd] at p; exact p.elim
      | some d =>
        rw [hd] at p
        have p : PostB X.K Z W Xo js H σ env Q (match truth d with | some b => .ok b J1 | none => .stuck) := p
        cases ht : truth d with
        | none => rw [ht] at p; exact p.elim
        | some k =>
          rw [ht] at p
          exact ⟨k, top_truth (deref_top F1 o hd) ht, p H' e F1⟩
theorem pt_notD (ha : PT X a (tT X.K Z W cb)) : PT X (.UnaryOp .Not a pos) (tT X.K Z W (bNot cb)) := pt_mono (pt_not ha) fun σ H Q ⟨Xo, js, env, J, F, p⟩ => by
  refine ⟨Xo, js, env, J, F, ?_⟩
  unfold bNot at p
  cases hf : cb env J with
  | stuck => rw [hf] at p; exact p.elim
  | err c fs J1 => rw [hf] at p; exact p
  | ok z J1 => rw [hf] at p; exact fun H' e G => p H' e G
theorem pw_mono {X : Cx} {e : Expr} {t t' : TT} (h : PW X e t) (m : ∀ σ H Q, t' σ H Q → t σ H Q) : PW X e t' := ⟨fun wh pins s σ H Q I w => h.run wh pins s σ H Q I (m σ H Q w)⟩
theorem pw_andD (ha : PT X a (tT X.K Z W cb)) (hb : PW X (.BoolOp .And (b :: rest) pos) (tT X.K Z W db)) : PW X (.BoolOp .And (a :: b :: rest) pos) (tT X.K Z W (bAnd cb db)) := pw_mono (pw_and ha hb) fun σ H Q ⟨Xo, js, env, J, F, p⟩ => by
  refine ⟨Xo, js, env, J, F, ?_⟩
  unfold bAnd at p
  cases hf : cb env J with
  | stuck => rw [hf] at p; exact p.elim
  | err c fs J1 => rw [hf] at p; exact p
  | ok z J1 =>
    rw [hf] at p
    intro H' e G
    cases z with
    | false => exact iteF (p H' e G)
    | true =>
      refine iteT ⟨Xo, js, env, J1, G, ?_⟩
      have p : PostB X.K Z W Xo js H σ env Q (db env J1) := p
      cases hd : db env J1 with
      | stuck => rw [hd] at p; exact p.elim
      | err c fs J2 => rw [hd] at p; exact p.later e
      | ok y J2 => rw [hd] at p; exact fun H2 e2 G2 => p H2 (e.trans e2) G2
theorem pw_orD (ha : PT X a (tT X.K Z W cb)) (hb : PW X (.BoolOp .Or (b :: rest) pos) (tT X.K Z W db)) : PW X (.BoolOp .Or (a :: b :: rest) pos) (tT X.K Z W (bOr cb db)) := pw_mono (pw_or ha hb) fun σ H Q ⟨Xo, js, env, J, F, p⟩ => by
  refine ⟨Xo, js, env, J, F, ?_⟩
  unfold bOr at p
  cases hf : cb env J with
  | stuck => rw [hf] at p; exact p.elim
  | err c fs J1 => rw [hf] at p; exact p
  | ok z J1 =>
    rw [hf] at p
    intro H' e G
    cases z with
    | true => exact iteT (p H' e G)
    | false =>
      refine iteF ⟨Xo, js, env, J1, G, ?_⟩
      have p : PostB X.K Z W Xo js H σ env Q (db env J1) := p
      cases hd : db env J1 with
      | stuck => rw [hd] at p; exact p.elim
      | err c fs J2 => rw [hd] at p; exact p.later e
      | ok y J2 => rw [hd] at p; exact fun H2 e2 G2 => p H2 (e.trans e2) G2
/-! ### not, and, or as values of bools; a if t else b -/
theorem later_N {Xo : Addr → Prop} {js : List Addr} {H H1 : Hp} {σ : L2.St} {env : En} {Q : VK} {r : R HV} (F : Lists H1 (Yf Xo js)) (e : Ext js H H1) (p : PostN X.K Z W Xo js H σ env Q r) : PostN X.K Z W Xo js H1 σ env Q r := by
  cases r with
  | stuck => exact p
  | err c fs J => exact p.later e
  | ok h J =>
    intro v H' e2 o
    refine p v H' (e.trans e2) ?_
    cases h with
    | val d => exact o
    | jar k => exact o
    | exc k => exact o
    | newB i r =>
      obtain ⟨p, q, us, vs, a1, a2, a3, a4, a5⟩ := o
      exact ⟨p, q, us, vs, a1, a2, none_back e F a3, none_back e F a4, a5⟩
    | new ds =>
      obtain ⟨p, vs, a1, a2, a3⟩ := o
      exact ⟨p, vs, a1, none_back e F a2, a3⟩
theorem pn_not (ha : PE X a (tN X.K Z W f)) : PE X (.UnaryOp .Not a pos) (tN X.K Z W (eNot f)) := pe_mono (pe_not ha) fun σ H Q ⟨Xo, js, env, J, F, p⟩ => by
  refine toB_read (Q := fun k H' => Q (.bl (!k)) H') ⟨Xo, js, env, J, F, (?_ : PostB X.K Z W Xo js H σ env _ (toB (f env J)))⟩
  unfold eNot at p
  cases hf : toB (f env J) with
  | stuck => rw [hf] at p; exact p.elim
  | err c fs J1 => rw [hf] at p; exact p
  | ok z J1 => rw [hf] at p; exact fun H' e G => p (.bl (!z)) H' e (out_bl G)
theorem pn_one {op} (h : PE X a (tN X.K Z W f)) : PE X (.BoolOp op [a] pos) (tN X.K Z W f) := pe_one h
theorem pn_and (ha : PE X a (tN X.K Z W f)) (hb : PE X (.BoolOp .And (b :: rest) pos) (tN X.K Z W g)) : PE X (.BoolOp .And (a :: b :: rest) pos) (tN X.K Z W (eAnd f g)) := pe_mono (pe_and ha hb) fun σ H Q ⟨Xo, js, env, J, F, p⟩ => by
  refine toB_read (Q := fun k H' => if k = true then tN X.K Z W g σ H' Q else Q (.bl false) H') ⟨Xo, js, env, J, F, (?_ : PostB X.K Z W Xo js H σ env _ (toB (f env J)))⟩
  unfold eAnd at p
  cases hf : toB (f env J) with
  | stuck => rw [hf] at p; exact p.elim
  | err c fs J1 => rw [hf] at p; exact p
  | ok z J1 =>
    rw [hf] at p
    intro H' e G
    cases z with
    | false => exact iteF (p (.bl false) H' e (out_bl G))
    | true => exact iteT ⟨Xo, js, env, J1, G, later_N G.lists e p⟩
theorem pn_or (ha : PE X a (tN X.K Z W f)) (hb : PE X (.BoolOp .Or (b :: rest) pos) (tN X.K Z W g)) : PE X (.BoolOp .Or (a :: b :: rest) pos) (tN X.K Z W (eOr f g)) := pe_mono (pe_or ha hb) fun σ H Q ⟨Xo, js, env, J, F, p⟩ => by
  refine toB_read (Q := fun k H' => if k = true then Q (.bl true) H' else tN X.K Z W g σ H' Q) ⟨Xo, js, env, J, F, (?_ : PostB X.K Z W Xo js H σ env _ (toB (f env J)))⟩
  unfold eOr at p
  cases hf : toB (f env J) with
  | stuck => rw [hf] at p; exact p.elim
  | err c fs J1 => rw [hf] at p; exact p
  | ok z J1 =>
    rw [hf] at p
    intro H' e G
    cases z with
    | true => exact iteT (p (.bl true) H' e (out_bl G))
    | false => exact iteF ⟨Xo, js, env, J1, G, later_N G.lists e p⟩
theorem pn_if (hc : PT X c (tT X.K Z W cb)) (ha : PE X a (tN X.K Z W f)) (hb : PE X b (tN X.K Z W g)) : PE X (.IfExp c a b pos) (tN X.K Z W (eIf cb f g)) := pe_mono (pe_ifExp hc ha hb) fun σ H Q ⟨Xo, js, env, J, F, p⟩ => by
  refine ⟨Xo, js, env, J, F, ?_⟩
  unfold eIf at p
  cases hf : cb env J with
  | stuck => rw [hf] at p; exact p.elim
  | err c fs J1 => rw [hf] at p; exact p
  | ok z J1 =>
    rw [hf] at p
    intro H' e G
    cases z with
    | true => exact iteT ⟨Xo, js, env, J1, G, later_N G.lists e p⟩
    | false => exact iteF ⟨Xo, js, env, J1, G, later_N G.lists e p⟩
theorem pn_chain {op op' : CmpOp} {r r' : R2} {fo go : F2} {pos : Pos} (ho : OpR X (compareOp op) r) (ho' : OpR X (compareOp op') r') (sem : Sem2 X.K r fo) (sem' : Sem2 X.K r' go) (ha : PE X a (tD X.K Z W f)) (hb : PE X b (tD X.K Z W g)) (hc : PE X c (tD X.K Z W k))
    (w : PE X e (tChain r r' (tD X.K Z W f) (tD X.K Z W g) (tD X.K Z W k))) : PE X e (tN X.K Z W (eChain fo go f g k)) := pe_mono w fun σ H Q ⟨Xo, js, env, J, F, p⟩ => by
  refine ⟨Xo, js, env, J, F, ?_⟩
  unfold eChain at p
  cases hf : f env J with
  | stuck => rw [hf] at p; exact p.elim
  | err c fs J1 => rw [hf] at p; exact p
  | ok h1 J1 =>
    rw [hf] at p
    intro x H1 e1 F1 x1
    refine ⟨Xo, js, env, J1, F1, ?_⟩
    have p : PostN X.K Z W Xo js H σ env Q ((g env J1).bind fun h2 J2 => (toB (app2 fo J2 h1 h2)).bind fun b J3 => if b = true then (k env J3).bind fun h3 J4 => app2 go J4 h2 h3 else .ok (.val (.bl false)) J3) := p
    cases hg : g env J1 with
    | stuck => rw [hg] at p; exact p.elim
    | err c fs J2 => rw [hg] at p; exact p.later e1
    | ok h2 J2 =>
      rw [hg] at p
      intro y H2 e2 F2 y2
      refine app2_read (W := W) sem (H := H2) .refl F2 (x1.ext F1 e2) y2 ?_
      have p : PostN X.K Z W Xo js H σ env Q ((toB (app2 fo J2 h1 h2)).bind fun b J3 => if b = true then (k env J3).bind fun h3 J4 => app2 go J4 h2 h3 else .ok (.val (.bl false)) J3) := p
      cases hr : app2 fo J2 h1 h2 with
      | stuck => rw [hr] at p; exact p.elim
      | err c fs J3 => rw [hr] at p; exact p.later (e1.trans e2)
      | ok z J3 =>
        rw [hr] at p
        intro v H3 e3 o
        have e03 := (e1.trans e2).trans e3
        cases z with
        | jar k => exact p.elim
        | exc k => exact p.elim
        | newB i r => exact p.elim
        | new ds => exact p.elim
        | val d =>
          cases d with
          | bl q =>
            refine ⟨q, outN_bl o, ?_⟩
            cases q with
            | false => exact iteF (p (.bl false) H3 e03 (out_bl o.1))
            | true =>
              refine iteT ⟨Xo, js, env, J3, o.1, ?_⟩
              have p : PostN X.K Z W Xo js H σ env Q ((k env J3).bind fun h3 J4 => app2 go J4 h2 h3) := p
              cases hk : k env J3 with
              | stuck => rw [hk] at p; exact p.elim
              | err c fs J4 => rw [hk] at p; exact p.later e03
              | ok h3 J4 =>
                rw [hk] at p
                intro u H4 e4 F4 u4
                exact app2_read sem' (e03.trans e4) F4 ((y2.ext F2 e3).ext o.1 e4) u4 p
          | _ => exact p.elim
end
end L2.Pz
set_option Elab.async false
set_option linter.all false
set_option maxRecDepth 100000
set_option maxHeartbeats 4000000
set_option autoImplicit false
namespace L2.Pz
open PySem PySem.Spec PyProof.Rows

/-! ### what operators do with data -/
def dAdd : F2
  | .int i, .int j => some (.val (.int (i + j)))
  | .str x, .str y => if x.length + y.length ≤ big then some (.val (.str (x ++ y))) else none
  | .tup xs, .tup ys => if xs.length + ys.length ≤ big then some (.val (.tup (xs ++ ys))) else none
  | .lst xs, .lst ys => if xs.length + ys.length ≤ big then some (.new (xs ++ ys)) else none
  | _, _ => none
def dInt2 (C : Int → Int → Bool) (g : Int → Int → D) : F2
  | .int i, .int j => if C i j = true then some (.val (g i j)) else none
  | _, _ => none
def yes2 : Int → Int → Bool := fun _ _ => true
def dSub : F2 := dInt2 yes2 fun i j => .int (i - j)
def dMul : F2 := dInt2 (fun i j => decide (i.natAbs.log2 + j.natAbs.log2 < 1000000)) fun i j => .int (i * j)
def dMod : F2 := dInt2 (fun _ j => decide (0 < j)) fun i j => .int (i % j)
def dFloor : F2 := dInt2 (fun _ j => decide (0 < j) && decide (j.natAbs.log2 < 9000)) fun i j => .int (i / j)
def dShl : F2 := dInt2 (fun i j => decide (0 ≤ j) && (decide (j ≤ 1000000) && decide (i.natAbs < 2 ^ 64))) fun i j => .int (i * 2 ^ j.toNat)
def dPow : F2 := dInt2 (fun i j => decide (0 ≤ j) && (decide (j ≤ 1000000) && decide (i.natAbs < 2 ^ 64))) fun i j => .int (i ^ j.toNat)
def dShr : F2 := dInt2 (fun _ j => decide (0 ≤ j)) fun i j => .int (i / 2 ^ j.toNat)
def dXor : F2 := dInt2 yes2 fun i j => .int (Builtin.bitXor i j)
def dLt : F2 := dInt2 yes2 fun i j => .bl (decide (i < j))
def dLe : F2 := dInt2 yes2 fun i j => .bl (decide (i ≤ j))
def dGt : F2 := dInt2 yes2 fun i j => .bl (decide (j < i))
def dGe : F2 := dInt2 yes2 fun i j => .bl (decide (j ≤ i))
def dNeg : F1
  | .int i => some (.val (.int (-i)))
  | _ => none
mutual
def toPy : D → PyData
  | .non => .none
  | .bl b => .bool b
  | .int i => .int i
  | .str x => .str x
  | .tup ds => .tuple (toPys ds)
  | .lst ds => .list (toPys ds)
  | .lnk _ => .none
def toPys : List D → List PyData
  | [] => []
  | d :: ds => toPy d :: toPys ds
end
def shp (d : D) : Bool := SeqAt.shaped (toPy d)
def deq (d e : D) : Bool := PyData.eqv (toPy d) (toPy e)
def dEq : F2 := fun d e => if (shp d && shp e) = true then some (.val (.bl (deq d e))) else none
def dNe : F2 := fun d e => if (shp d && shp e) = true then some (.val (.bl (!deq d e))) else none
def dIsN : F1
  | .non => some (.val (.bl true))
  | _ => some (.val (.bl false))
def dNotN : F1
  | .non => some (.val (.bl false))
  | _ => some (.val (.bl true))
def inAny (d : D) (ds : List D) : Bool := ds.any fun z => deq z d
def dInS : D → Str → Option HV
  | .str x, y => match x.cps.toList with
    | [c] => some (.val (.bl (decide (c ∈ y.cps.toList))))
    | _ => none
  | _, _ => none
def dIn : F2 := fun d e => match e with
  | .str y => dInS d y
  | .lst ds => if (shp d && shp (.lst ds)) = true then some (.val (.bl (inAny d ds))) else none
  | .tup ds => if (shp d && shp (.tup ds)) = true then some (.val (.bl (inAny d ds))) else none
  | _ => none
def dNotIn : F2 := fun d e => match dIn d e with
  | some (.val (.bl b)) => some (.val (.bl (!b)))
  | _ => none
def dIx : F2
  | .lst ds, .int i => (atI ds i).map HV.val
  | .tup ds, .int i => (atI ds i).map HV.val
  | .str z, .int i => if z.length ≤ big then (atI z.cps.toList i).map fun c => .val (.str ⟨#[c]⟩) else none
  | _, _ => none
def dLen : F1
  | .lst ds => some (.val (.int ds.length))
  | .tup ds => some (.val (.int ds.length))
  | .str z => if z.length ≤ big then some (.val (.int z.length)) else none
  | _ => none
def dList : F1
  | .lst ds => some (.new ds)
  | .tup ds => some (.new ds)
  | _ => none
def dTuple : F1
  | .lst ds => some (.val (.tup ds))
  | .tup ds => some (.val (.tup ds))
  | _ => none
def dAbs : F1
  | .int i => some (.val (.int (if i < 0 then -i else i)))
  | _ => none
def dToInt : F1
  | .int i => some (.val (.int i))
  | .bl b => some (.val (.int (if b then 1 else 0)))
  | _ => none
def dMax : F2 := dInt2 yes2 fun i j => .int (if j > i then j else i)
def dMin : F2 := dInt2 yes2 fun i j => .int (if j < i then j else i)
def tyName : D → String
  | .non => "NoneType"
  | .bl _ => "bool"
  | .int _ => "int"
  | .str _ => "str"
  | .tup _ => "tuple"
  | .lst _ => "list"
  | .lnk _ => "NoneType"
def isaS (T n : String) : Bool := decide (n = T) || (decide (T = "int") && decide (n = "bool"))
def isa (T : String) (d : D) : Bool := isaS T (tyName d)
def dIsa (T : String) : F1 := fun d => some (.val (.bl (isa T d)))
def asInts : List D → Option (List Int)
  | [] => some []
  | .int i :: r => (asInts r).map (i :: ·)
  | _ => none
def insI (i : Int) : List Int → List Int
  | [] => [i]
  | j :: r => if i ≤ j then i :: j :: r else j :: insI i r
def isort : List Int → List Int
  | [] => []
  | i :: r => insI i (isort r)
def dSorted : F1
  | .lst ds => match asInts ds with
    | some ns => if ns.length < 64 then some (.new ((isort ns).map D.int)) else none
    | none => none
  | _ => none

section
variable {K : PySem.W.Frag} {H H' : Hp} {Y : Addr → Prop} {v x y : V} {Z : List Zx}
theorem po_val {d : D} (r : Rep K H Y d v) : PureOut K Y H H (.val d) v := ⟨Same.refl H, r⟩
theorem po_newt {ds : List D} {vs : List V} {p : Addr} (hl : Lists H Y) (hp : H p = none) (r : Reps K H Y ds vs) : PureOut K Y H (upd H p (.tup vs)) (.val (.tup ds)) (.ref p) :=
  ⟨same_upd hp, rep_tup.mpr ⟨p, vs, rfl, .of upd_same, reps_move (fun a o e _ => same_upd hp _ _ e) (fun _ y => .inl y) hl _ _ r⟩⟩
theorem po_newl {ds : List D} {vs : List V} {p : Addr} (hl : Lists H Y) (hp : H p = none) (r : Reps K H Y ds vs) : PureOut K Y H (upd H p (.lst vs)) (.new ds) (.ref p) :=
  ⟨same_upd hp, p, vs, rfl, hp, upd_same, reps_move (fun a o e _ => same_upd hp _ _ e) (fun a y => y.elim .inl fun z => .inr (z ▸ hp)) hl _ _ r⟩
theorem sem_int2 {C : Int → Int → Bool} {g : Int → Int → D} {C' : Int → Int → Prop} {gV : Int → Int → V} (hC : ∀ i j, C i j = true → C' i j) (hg : ∀ i j H Y, Rep K H Y (g i j) (gV i j)) : Sem2 K (rI C' gV) (dInt2 C g) := by
  intro H Y x y d e z Q hl hx hy hz q
  unfold dInt2 at hz
  split at hz
  · rename_i i j
    by_cases h : C i j = true
    · rw [if_pos h] at hz
      cases hz
      exact ⟨i, j, top_int hx, top_int hy, hC i j h, q _ _ (po_val (hg i j _ _))⟩
    · rw [if_neg h] at hz; cases hz
  · cases hz
theorem sem_int20 {g : Int → Int → D} {gV : Int → Int → V} (hg : ∀ i j H Y, Rep K H Y (g i j) (gV i j)) : Sem2 K (rI0 gV) (dInt2 yes2 g) := by
  intro H Y x y d e z Q hl hx hy hz q
  obtain ⟨i, j, a, b, _, c⟩ := sem_int2 (C' := fun _ _ => True) (fun _ _ _ => trivial) hg H Y x y d e z Q hl hx hy hz q
  exact ⟨i, j, a, b, c⟩
theorem sem_sub : Sem2 K (rI0 fun i j => .int (i - j)) dSub := sem_int20 fun _ _ _ _ => mk_int
theorem sem_mul : Sem2 K (rI CMulW fun i j => .int (i * j)) dMul := sem_int2 (fun i j h => show i.natAbs.log2 + j.natAbs.log2 < 1000000 from of_decide_eq_true h) fun _ _ _ _ => mk_int
theorem sem_mod : Sem2 K (rI (fun _ j => 0 < j) fun i j => .int (i % j)) dMod := sem_int2 (fun _ _ h => of_decide_eq_true h) fun _ _ _ _ => mk_int
theorem sem_floor : Sem2 K (rI CDivW fun i j => .int (i / j)) dFloor := sem_int2 (fun _ _ h => by rw [Bool.and_eq_true] at h; exact ⟨of_decide_eq_true h.1, of_decide_eq_true h.2⟩) fun _ _ _ _ => mk_int
theorem sem_shl : Sem2 K (rI CPow fun i j => .int (i * 2 ^ j.toNat)) dShl := sem_int2 (fun _ _ h => by rw [Bool.and_eq_true, Bool.and_eq_true] at h; exact ⟨of_decide_eq_true h.1, of_decide_eq_true h.2.1, of_decide_eq_true h.2.2⟩) fun _ _ _ _ => mk_int
theorem sem_pow : Sem2 K (rI CPow fun i j => .int (i ^ j.toNat)) dPow := sem_int2 (fun _ _ h => by rw [Bool.and_eq_true, Bool.and_eq_true] at h; exact ⟨of_decide_eq_true h.1, of_decide_eq_true h.2.1, of_decide_eq_true h.2.2⟩) fun _ _ _ _ => mk_int
theorem sem_shr : Sem2 K (rI (fun _ j => 0 ≤ j) fun i j => .int (i / 2 ^ j.toNat)) dShr := sem_int2 (fun _ _ h => of_decide_eq_true h) fun _ _ _ _ => mk_int
theorem sem_xor : Sem2 K (rI0 fun i j => .int (Builtin.bitXor i j)) dXor := sem_int20 fun _ _ _ _ => mk_int
theorem sem_lt : Sem2 K (rI0 fun i j => .bl (decide (i < j))) dLt := sem_int20 fun _ _ _ _ => mk_bl
theorem sem_le : Sem2 K (rI0 fun i j => .bl (decide (i ≤ j))) dLe := sem_int20 fun _ _ _ _ => mk_bl
theorem sem_gt : Sem2 K (rI0 fun i j => .bl (decide (j < i))) dGt := sem_int20 fun _ _ _ _ => mk_bl
theorem sem_ge : Sem2 K (rI0 fun i j => .bl (decide (j ≤ i))) dGe := sem_int20 fun _ _ _ _ => mk_bl
theorem sem_neg : Sem1 K (rU fun i => .int (-i)) dNeg := by
  intro H Y x d z Q hl hx hz q
  unfold dNeg at hz
  split at hz
  · cases hz; exact ⟨_, top_int hx, q _ _ (po_val mk_int)⟩
  · cases hz
/-! ### + -/
def rCatL (K : PySem.W.Frag) : R2 := fun x y H Q => ∃ a b xs zs, x = .ref a ∧ y = .ref b ∧ SqL K H a xs ∧ SqL K H b zs ∧ xs.length + zs.length ≤ sizeLine ∧ ∀ p, H p = none → Q (.ref p) (upd H p (.lst (xs ++ zs)))
theorem op_catL {X : Cx} : OpR X (binaryOp .Add) (rCatL X.K) := by
  intro pins s σ H x y v u Q I rx ry h
  obtain ⟨l, b, xs, zs, rfl, rfl, hH, hB, hz, q⟩ := h
  cases rx
  cases ry
  obtain ⟨its, r, pl, z⟩ := I.list hH
  obtain ⟨its2, r2, pl2, z2⟩ := I.list hB
  obtain ⟨⟨cls, dd, data, sl⟩, ho, hc, n, hd⟩ := pl.isList
  obtain ⟨⟨cls2, dd2, data2, sl2⟩, ho2, hc2, n2, hd2⟩ := pl2.isList
  simp only at hc hd hc2 hd2
  subst hc hd hc2 hd2
  have e : its.toArray ++ its2.toArray = (its ++ its2).toArray := by simp
  have h1 := r.length
  have h2 := r2.length
  refine concat_meets ⟨_, ho, rfl⟩ ⟨_, ho2, rfl⟩ noFill_list_add seq_list_add PySem.F.slot_list_add PySem.F.entry_list_add (PySem.F.args_list_add_2 _ _) (list_addW l b its.toArray its2.toArray n n2 dd dd2 sl sl2 (by simp; omega)) ⟨ho, ho2, ?_⟩
  rw [e]
  exact ⟨.ref _, _, I.lnew (t' := s.toks) (r.append r2) (by rw [List.length_append]; omega), rfl, q _ I.fresh⟩
abbrev rStrCat : R2 := fun x y H Q => ∃ i j, x = .str i ∧ y = .str j ∧ i.length + j.length ≤ sizeLine ∧ Q (.str (i ++ j)) H
def rAddAny (K : PySem.W.Frag) : R2 := fun x y H Q => rI0 (fun i j => .int (i + j)) x y H Q ∨ (rStrCat x y H Q ∨ (rCatA K x y H Q ∨ rCatL K x y H Q))
theorem op_addAny {X : Cx} : OpR X (binaryOp .Add) (rAddAny X.K) := op_add.or (op_add_str.or (op_catA.or op_catL))
theorem sem_add : Sem2 K (rAddAny K) dAdd := by
  intro H Y x y d e z Q hl hx hy hz q
  unfold dAdd at hz
  split at hz
  · cases hz
    exact .inl ⟨_, _, top_int hx, top_int hy, q _ _ (po_val mk_int)⟩
  · rename_i a b
    by_cases h : a.length + b.length ≤ big
    · rw [if_pos h] at hz
      cases hz
      exact .inr (.inl ⟨_, _, top_str hx, top_str hy, by rw [big_eq]; exact h, q _ _ (po_val mk_str)⟩)
    · rw [if_neg h] at hz; cases hz
  · rename_i xs ys
    by_cases h : xs.length + ys.length ≤ big
    · rw [if_pos h] at hz
      cases hz
      obtain ⟨a, vs, rfl, s1, r1⟩ := top_tup hx
      obtain ⟨b, us, rfl, s2, r2⟩ := top_tup hy
      have l1 := reps_len r1
      have l2 := reps_len r2
      refine .inr (.inr (.inl ⟨a, b, vs, us, rfl, rfl, s1, s2, by rw [big_eq, l1, l2]; exact h, fun e => ?_, fun _ e => ?_, fun _ _ p hp => q _ _ (po_newt hl hp (reps_append r1 r2))⟩))
      · have : xs = [] := by cases xs with | nil => rfl | cons c r => rw [e] at l1; simp at l1
        subst this
        exact q _ _ (po_val (rep_tup.mpr ⟨b, us, rfl, s2, r2⟩))
      · have : ys = [] := by cases ys with | nil => rfl | cons c r => rw [e] at l2; simp at l2
        subst this
        rw [List.append_nil] at q
        exact q _ _ (po_val (rep_tup.mpr ⟨a, vs, rfl, s1, r1⟩))
    · rw [if_neg h] at hz; cases hz
  · rename_i xs ys
    by_cases h : xs.length + ys.length ≤ big
    · rw [if_pos h] at hz
      cases hz
      obtain ⟨a, vs, rfl, s1, r1⟩ := hx
      obtain ⟨b, us, rfl, s2, r2⟩ := hy
      have l1 := reps_len r1
      have l2 := reps_len r2
      exact .inr (.inr (.inr ⟨a, b, vs, us, rfl, rfl, s1, s2, by rw [big_eq, l1, l2]; exact h, fun p hp => q _ _ (po_newl hl hp (reps_append r1 r2))⟩))
    · rw [if_neg h] at hz; cases hz
  · cases hz
/-! ### ==, in -/
mutual
theorem rep_dp : ∀ (d : D) (v : V), Rep K H Y d v → Dp K H v (toPy d)
  | .non, v, h => by rw [rep_non h]; unfold toPy; exact .non
  | .bl b, v, h => by rw [rep_bl h]; unfold toPy; exact .bl b
  | .int b, v, h => by rw [rep_int h]; unfold toPy; exact .int b
  | .str b, v, h => by rw [rep_str h]; unfold toPy; exact .str b
  | .tup ds, v, h => by
    obtain ⟨a, vs, e, s, r⟩ := rep_tup.mp h
    rw [e]; unfold toPy
    exact .tup s (reps_dp ds vs r)
  | .lst ds, v, h => by
    obtain ⟨a, vs, e, s, r⟩ := rep_lst.mp h
    rw [e]; unfold toPy
    exact .lst s.sq (reps_dp ds vs r)
theorem reps_dp : ∀ (ds : List D) (vs : List V), Reps K H Y ds vs → DpAll K H vs (toPys ds)
  | [], vs, h => by rw [reps_nil.mp h]; unfold toPys; exact .nil
  | d :: ds, vs, h => by
    obtain ⟨v, r, e, h1, h2⟩ := reps_cons.mp h
    rw [e]; unfold toPys
    exact .cons (rep_dp d v h1) (reps_dp ds r h2)
end
theorem top_dp {d : D} (h : RepTop K H Y d v) : Dp K H v (toPy d) := by
  cases d with
  | lst ds =>
    obtain ⟨a, vs, e, s, r⟩ := h
    rw [e]; unfold toPy
    exact .lst s (reps_dp ds vs r)
  | non => exact rep_dp (K := K) (H := H) (Y := Y) _ _ h
  | bl b => exact rep_dp (K := K) (H := H) (Y := Y) _ _ h
  | int b => exact rep_dp (K := K) (H := H) (Y := Y) _ _ h
  | str b => exact rep_dp (K := K) (H := H) (Y := Y) _ _ h
  | tup b => exact rep_dp (K := K) (H := H) (Y := Y) _ _ h
  | lnk m => exact (top_lnk h).elim
theorem sem_eq : Sem2 K (rEqD K) dEq := by
  intro H Y x y d e z Q hl hx hy hz q
  unfold dEq at hz
  by_cases h : (shp d && shp e) = true
  · rw [if_pos h] at hz
    cases hz
    rw [Bool.and_eq_true] at h
    exact ⟨toPy d, toPy e, top_dp hx, top_dp hy, h.1, h.2, q _ _ (po_val mk_bl)⟩
  · rw [if_neg h] at hz; cases hz
theorem sem_ne : Sem2 K (rNeD K) dNe := by
  intro H Y x y d e z Q hl hx hy hz q
  unfold dNe at hz
  by_cases h : (shp d && shp e) = true
  · rw [if_pos h] at hz
    cases hz
    rw [Bool.and_eq_true] at h
    exact ⟨toPy d, toPy e, top_dp hx, top_dp hy, h.1, h.2, q _ _ (po_val mk_bl)⟩
  · rw [if_neg h] at hz; cases hz
theorem toPys_any {d : D} : ∀ ds : List D, ((toPys ds).any fun z => PyData.eqv z (toPy d)) = inAny d ds
  | [] => by unfold toPys inAny; rfl
  | e :: ds => by
    unfold toPys
    rw [List.any_cons, toPys_any ds]
    rfl
end
/-! ### in: one sign in a text; an item in a list, a tuple -/
section
variable {X : Cx} {K : PySem.W.Frag} {Z : List Zx}
def rInT (K : PySem.W.Frag) (neg : Bool) : R2 := fun x y H Q => ∃ d ds, Dp K H x d ∧ Dp K H y (.tuple ds) ∧ SeqAt.shaped d = true ∧ SeqAt.shaped (.tuple ds) = true ∧ Q (.bl (if neg then !(ds.any fun z => PyData.eqv z d) else ds.any fun z => PyData.eqv z d)) H
theorem canLays_of {ds : List PyData} (h : SeqAt.shaped (.tuple ds) = true) : PyData.canLayAll0 ds = true := by
  have := SeqAt.canLay_of_shaped h
  unfold PyData.canLay0 at this
  exact this
theorem room_inT {A : Around} {d : PyData} {ds : List PyData} (h : SeqAt.shaped d = true) (hu : A.units + 200 < cLine) : A.units + 1 + min (PyData.depthAll ds) d.depth < cLine := by
  have h1 := SeqAt.depth_of_shaped h
  have h2 : min (PyData.depthAll ds) d.depth ≤ d.depth := Nat.min_le_right _ _
  omega
theorem op_inT (hu : X.A.units + 200 < cLine) : OpR X (compareOp .In) (rInT X.K false) := by
  intro pins s σ H x y v u Q I rx ry h
  obtain ⟨d, ds, hd, he, sd, se, q⟩ := h
  obtain ⟨as, r1⟩ := Dp.reads I d x v hd rx
  obtain ⟨bs, r2⟩ := Dp.reads I (.tuple ds) y u he ry
  exact SeqAt.in_tuple_reads r2 r1 (canLays_of se) (SeqAt.canLay_of_shaped sd) (room_inT sd hu) ⟨.bl _, H, I, rfl, q⟩
theorem op_notInT (hu : X.A.units + 200 < cLine) : OpR X (compareOp .NotIn) (rInT X.K true) := by
  intro pins s σ H x y v u Q I rx ry h
  obtain ⟨d, ds, hd, he, sd, se, q⟩ := h
  obtain ⟨as, r1⟩ := Dp.reads I d x v hd rx
  obtain ⟨bs, r2⟩ := Dp.reads I (.tuple ds) y u he ry
  exact SeqAt.notIn_tuple_reads r2 r1 (canLays_of se) (SeqAt.canLay_of_shaped sd) (room_inT sd hu) ⟨.bl _, H, I, rfl, q⟩
abbrev rInS (neg : Bool) : R2 := fun x y H Q => ∃ (c : Nat) (z : Str), x = .str ⟨#[c]⟩ ∧ y = .str z ∧ Q (.bl (if neg then !decide (c ∈ z.cps.toList) else decide (c ∈ z.cps.toList))) H
def rInAny (K : PySem.W.Frag) : R2 := fun x y H Q => rInS false x y H Q ∨ (rInD K x y H Q ∨ rInT K false x y H Q)
def rNotInAny (K : PySem.W.Frag) : R2 := fun x y H Q => rInS true x y H Q ∨ (rNotInD K x y H Q ∨ rInT K true x y H Q)
theorem op_inAny (hu : X.A.units + 200 < cLine) : OpR X (compareOp .In) (rInAny X.K) := OpR.or (r := rInS false) op_in_sign ((op_inD (by omega)).or (op_inT hu))
theorem op_notInAny (hu : X.A.units + 200 < cLine) : OpR X (compareOp .NotIn) (rNotInAny X.K) := OpR.or (r := rInS true) op_notIn_sign ((op_notInD (by omega)).or (op_notInT hu))
theorem str_one {x : Str} {c : Nat} (h : x.cps.toList = [c]) : x = ⟨#[c]⟩ := by
  cases x with
  | mk cps =>
    have h : cps.toList = [c] := h
    have : cps = #[c] := by
      apply Array.toList_inj.mp
      rw [h]
    rw [this]
theorem in_cases {H : Hp} {Y : Addr → Prop} {x y : V} {d e : D} {b : Bool} (hx : RepTop K H Y d x) (hy : RepTop K H Y e y) (h : dIn d e = some (.val (.bl b))) :
    (∃ (c : Nat) (z : Str), x = .str ⟨#[c]⟩ ∧ y = .str z ∧ b = decide (c ∈ z.cps.toList)) ∨
    (∃ ds, Dp K H x (toPy d) ∧ Dp K H y (.list ds) ∧ SeqAt.shaped (toPy d) = true ∧ SeqAt.shaped (.list ds) = true ∧ b = ds.any fun z => PyData.eqv z (toPy d)) ∨
    (∃ ds, Dp K H x (toPy d) ∧ Dp K H y (.tuple ds) ∧ SeqAt.shaped (toPy d) = true ∧ SeqAt.shaped (.tuple ds) = true ∧ b = ds.any fun z => PyData.eqv z (toPy d)) := by
  unfold dIn at h
  cases e with
  | non => cases h
  | lnk m => cases h
  | bl b => cases h
  | int b => cases h
  | str z =>
    have h : dInS d z = some (.val (.bl b)) := h
    unfold dInS at h
    cases d with
    | str a =>
      dsimp only at h
      split at h
      · rename_i c hc
        cases h
        exact .inl ⟨c, z, by rw [top_str hx, str_one hc], top_str hy, rfl⟩
      · cases h
    | _ => cases h
  | lst ds =>
    have h : (if (shp d && shp (.lst ds)) = true then some (HV.val (.bl (inAny d ds))) else none) = some (.val (.bl b)) := h
    by_cases hs : (shp d && shp (.lst ds)) = true
    · rw [if_pos hs] at h
      cases h
      rw [Bool.and_eq_true] at hs
      have h2 := hs.2
      unfold shp toPy at h2
      have hp := top_dp hy
      unfold toPy at hp
      exact .inr (.inl ⟨toPys ds, top_dp hx, hp, hs.1, h2, (toPys_any ds).symm⟩)
    · rw [if_neg hs] at h; cases h
  | tup ds =>
    have h : (if (shp d && shp (.tup ds)) = true then some (HV.val (.bl (inAny d ds))) else none) = some (.val (.bl b)) := h
    by_cases hs : (shp d && shp (.tup ds)) = true
    · rw [if_pos hs] at h
      cases h
      rw [Bool.and_eq_true] at hs
      have h2 := hs.2
      unfold shp toPy at h2
      have hp := top_dp hy
      unfold toPy at hp
      exact .inr (.inr ⟨toPys ds, top_dp hx, hp, hs.1, h2, (toPys_any ds).symm⟩)
    · rw [if_neg hs] at h; cases h
theorem dIn_bl {d e : D} {z : HV} (h : dIn d e = some z) : ∃ b, z = .val (.bl b) := by
  unfold dIn at h
  cases e with
  | non => cases h
  | lnk m => cases h
  | bl b => cases h
  | int b => cases h
  | str z =>
    have h : dInS d z = some _ := h
    unfold dInS at h
    cases d with
    | str a =>
      dsimp only at h
      split at h
      · cases h; exact ⟨_, rfl⟩
      · cases h
    | _ => cases h
  | lst ds =>
    dsimp only at h
    split at h
    · cases h; exact ⟨_, rfl⟩
    · cases h
  | tup ds =>
    dsimp only at h
    split at h
    · cases h; exact ⟨_, rfl⟩
    · cases h
theorem sem_in : Sem2 K (rInAny K) dIn := by
  intro H Y x y d e z Q hl hx hy hz q
  obtain ⟨b, rfl⟩ := dIn_bl hz
  have fin := q (.bl b) H (po_val mk_bl)
  rcases in_cases hx hy hz with ⟨c, z, h1, h2, h3⟩ | ⟨ds, h1, h2, h3, h4, h5⟩ | ⟨ds, h1, h2, h3, h4, h5⟩
  · subst h3; exact .inl ⟨c, z, h1, h2, fin⟩
  · subst h5; exact .inr (.inl ⟨_, ds, h1, h2, h3, h4, fin⟩)
  · subst h5; exact .inr (.inr ⟨_, ds, h1, h2, h3, h4, fin⟩)
theorem sem_notIn : Sem2 K (rNotInAny K) dNotIn := by
  intro H Y x y d e z Q hl hx hy hz q
  unfold dNotIn at hz
  split at hz
  · rename_i b hb
    cases hz
    have fin := q (.bl (!b)) H (po_val mk_bl)
    rcases in_cases hx hy hb with ⟨c, z, h1, h2, h3⟩ | ⟨ds, h1, h2, h3, h4, h5⟩ | ⟨ds, h1, h2, h3, h4, h5⟩
    · subst h3; exact .inl ⟨c, z, h1, h2, fin⟩
    · subst h5; exact .inr (.inl ⟨_, ds, h1, h2, h3, h4, fin⟩)
    · subst h5; exact .inr (.inr ⟨_, ds, h1, h2, h3, h4, fin⟩)
  · cases hz
/-! ### is None -/
theorem pn_isN {W : WX} {a : Expr} {f : EF} {j pos pos'} (ha : PE X a (tD X.K Z W f)) : PE X (.Compare a [.Is] [.Constant .none j pos'] pos) (tN X.K Z W (eUn dIsN f)) :=
  pe_mono (pe_cmp (pc_isN ha) rfl) fun σ H Q w => un_read (ta := tD X.K Z W f) (r := fun x H Q => Q (.bl (decide (x = .non))) H) (fo := dIsN) (fun H Y x d z Q hl hx hz q => by
    cases d with
    | non => cases hz; rw [top_non hx]; exact q _ _ (po_val mk_bl)
    | bl b => cases hz; rw [top_bl hx]; exact q _ _ (po_val mk_bl)
    | int b => cases hz; rw [top_int hx]; exact q _ _ (po_val mk_bl)
    | str b => cases hz; rw [top_str hx]; exact q _ _ (po_val mk_bl)
    | tup ds => obtain ⟨a, vs, rfl, _⟩ := top_tup hx; cases hz; exact q _ _ (po_val mk_bl)
    | lnk m => exact (top_lnk hx).elim
    | lst ds => obtain ⟨a, vs, rfl, _⟩ := hx; cases hz; exact q _ _ (po_val mk_bl)) (fun _ _ _ z => z) w
theorem pn_notN {W : WX} {a : Expr} {f : EF} {j pos pos'} (ha : PE X a (tD X.K Z W f)) : PE X (.Compare a [.IsNot] [.Constant .none j pos'] pos) (tN X.K Z W (eUn dNotN f)) :=
  pe_mono (pe_cmp (pc_notN ha) rfl) fun σ H Q w => un_read (ta := tD X.K Z W f) (r := fun x H Q => Q (.bl (!decide (x = .non))) H) (fo := dNotN) (fun H Y x d z Q hl hx hz q => by
    cases d with
    | non => cases hz; rw [top_non hx]; exact q _ _ (po_val mk_bl)
    | bl b => cases hz; rw [top_bl hx]; exact q _ _ (po_val mk_bl)
    | int b => cases hz; rw [top_int hx]; exact q _ _ (po_val mk_bl)
    | str b => cases hz; rw [top_str hx]; exact q _ _ (po_val mk_bl)
    | tup ds => obtain ⟨a, vs, rfl, _⟩ := top_tup hx; cases hz; exact q _ _ (po_val mk_bl)
    | lnk m => exact (top_lnk hx).elim
    | lst ds => obtain ⟨a, vs, rfl, _⟩ := hx; cases hz; exact q _ _ (po_val mk_bl)) (fun _ _ _ z => z) w
end
/-! ### x[i], len, list, tuple, abs, int, max, min, isinstance, sorted -/
section
variable {X : Cx} {K : PySem.W.Frag} {H : Hp} {Y : Addr → Prop} {Z : List Zx}
theorem atI_reps {ds : List D} {vs : List V} {i : Int} {d : D} (r : Reps K H Y ds vs) (h : atI ds i = some d) : ∃ v, atI vs i = some v ∧ Rep K H Y d v := by
  unfold atI at h ⊢
  rw [reps_len r]
  cases e : ixN ds.length i with
  | none => rw [e] at h; cases h
  | some j =>
    rw [e] at h
    exact reps_get r h
theorem sem_ix : Sem2 K (rIx K) dIx := by
  intro H Y x y d e z Q hl hx hy hz q
  unfold dIx at hz
  split at hz
  · rename_i ds i
    obtain ⟨a, vs, rfl, s, r⟩ := hx
    cases h : atI ds i with
    | none => rw [h] at hz; cases hz
    | some d =>
      rw [h] at hz; cases hz
      obtain ⟨v, h1, h2⟩ := atI_reps r h
      exact .inl ⟨a, vs, i, v, rfl, top_int hy, s, h1, q _ _ (po_val h2)⟩
  · rename_i ds i
    obtain ⟨a, vs, rfl, s, r⟩ := top_tup hx
    cases h : atI ds i with
    | none => rw [h] at hz; cases hz
    | some d =>
      rw [h] at hz; cases hz
      obtain ⟨v, h1, h2⟩ := atI_reps r h
      exact .inr (.inl ⟨a, vs, i, v, rfl, top_int hy, s, h1, q _ _ (po_val h2)⟩)
  · rename_i zz i
    by_cases hb : zz.length ≤ big
    · rw [if_pos hb] at hz
      cases h : atI zz.cps.toList i with
      | none => rw [h] at hz; cases hz
      | some c =>
        rw [h] at hz; cases hz
        exact .inr (.inr ⟨zz, i, c, top_str hx, top_int hy, by rw [big_eq]; exact hb, h, q _ _ (po_val mk_str)⟩)
    · rw [if_neg hb] at hz; cases hz
  · cases hz
def rLenAny (K : PySem.W.Frag) : List V → Hp → VK → Prop := fun xs H Q => (∃ p ys, xs = [.ref p] ∧ (SqL K H p ys ∨ SqT K H p ys) ∧ Q (.int ys.length) H) ∨ ∃ z, xs = [.str z] ∧ z.length ≤ sizeLine ∧ Q (.int z.length) H
theorem call_lenAny : CallR X (.builtin "len") (rLenAny X.K) := call_len_seq.or call_len_str
theorem sem_len : Sem1 K (fun x H Q => rLenAny K [x] H Q) dLen := by
  intro H Y x d z Q hl hx hz q
  unfold dLen at hz
  split at hz
  · obtain ⟨a, vs, rfl, s, r⟩ := hx
    cases hz
    exact .inl ⟨a, vs, rfl, .inl s, by rw [reps_len r]; exact q _ _ (po_val mk_int)⟩
  · obtain ⟨a, vs, rfl, s, r⟩ := top_tup hx
    cases hz
    exact .inl ⟨a, vs, rfl, .inr s, by rw [reps_len r]; exact q _ _ (po_val mk_int)⟩
  · rename_i zz
    by_cases hb : zz.length ≤ big
    · rw [if_pos hb] at hz
      cases hz
      exact .inr ⟨zz, by rw [top_str hx], by rw [big_eq]; exact hb, q _ _ (po_val mk_int)⟩
    · rw [if_neg hb] at hz; cases hz
  · cases hz
abbrev rListOf (K : PySem.W.Frag) : List V → Hp → VK → Prop := fun xs H Q => ∃ p ys, xs = [.ref p] ∧ (SqL K H p ys ∨ SqT K H p ys) ∧ ∀ l, H l = none → Q (.ref l) (upd H l (.lst ys))
theorem sem_list : Sem1 K (fun x H Q => rListOf K [x] H Q) dList := by
  intro H Y x d z Q hl hx hz q
  unfold dList at hz
  split at hz
  · obtain ⟨a, vs, rfl, s, r⟩ := hx
    cases hz
    exact ⟨a, vs, rfl, .inl s, fun p hp => q _ _ (po_newl hl hp r)⟩
  · obtain ⟨a, vs, rfl, s, r⟩ := top_tup hx
    cases hz
    exact ⟨a, vs, rfl, .inr s, fun p hp => q _ _ (po_newl hl hp r)⟩
  · cases hz
abbrev rTupOf (K : PySem.W.Frag) : List V → Hp → VK → Prop := fun xs H Q => ∃ p ys, xs = [.ref p] ∧ ((SqL K H p ys ∧ ∀ l, H l = none → Q (.ref l) (upd H l (.tup ys))) ∨ (SqT K H p ys ∧ Q (.ref p) H))
theorem sem_tuple : Sem1 K (fun x H Q => rTupOf K [x] H Q) dTuple := by
  intro H Y x d z Q hl hx hz q
  unfold dTuple at hz
  split at hz
  · obtain ⟨a, vs, rfl, s, r⟩ := hx
    cases hz
    exact ⟨a, vs, rfl, .inl ⟨s, fun p hp => q _ _ (po_newt hl hp r)⟩⟩
  · obtain ⟨a, vs, rfl, s, r⟩ := top_tup hx
    cases hz
    exact ⟨a, vs, rfl, .inr ⟨s, q _ _ (po_val (rep_tup.mpr ⟨a, vs, rfl, s, r⟩))⟩⟩
  · cases hz
abbrev rAbs : List V → Hp → VK → Prop := fun xs H Q => ∃ i, xs = [.int i] ∧ Q (.int (if i < 0 then -i else i)) H
theorem sem_abs : Sem1 K (fun x H Q => rAbs [x] H Q) dAbs := by
  intro H Y x d z Q hl hx hz q
  unfold dAbs at hz
  split at hz
  · cases hz; exact ⟨_, by rw [top_int hx], q _ _ (po_val mk_int)⟩
  · cases hz
abbrev rToInt : List V → Hp → VK → Prop := fun xs H Q => (∃ i, xs = [.int i] ∧ Q (.int i) H) ∨ ∃ k, xs = [.bl k] ∧ Q (.int (if k then 1 else 0)) H
theorem sem_toInt : Sem1 K (fun x H Q => rToInt [x] H Q) dToInt := by
  intro H Y x d z Q hl hx hz q
  unfold dToInt at hz
  split at hz
  · cases hz; exact .inl ⟨_, by rw [top_int hx], q _ _ (po_val mk_int)⟩
  · cases hz; exact .inr ⟨_, by rw [top_bl hx], q _ _ (po_val mk_int)⟩
  · cases hz
abbrev rMax2 : List V → Hp → VK → Prop := fun xs H Q => ∃ i j, xs = [.int i, .int j] ∧ Q (.int (if j > i then j else i)) H
abbrev rMin2 : List V → Hp → VK → Prop := fun xs H Q => ∃ i j, xs = [.int i, .int j] ∧ Q (.int (if j < i then j else i)) H
theorem sem_max : Sem2 K (fun x y H Q => rMax2 [x, y] H Q) dMax := by
  intro H Y x y d e z Q hl hx hy hz q
  obtain ⟨i, j, a, b, c⟩ := sem_int20 (K := K) (g := fun i j => .int (if j > i then j else i)) (gV := fun i j => .int (if j > i then j else i)) (fun _ _ _ _ => mk_int) H Y x y d e z Q hl hx hy hz q
  exact ⟨i, j, by rw [a, b], c⟩
theorem sem_min : Sem2 K (fun x y H Q => rMin2 [x, y] H Q) dMin := by
  intro H Y x y d e z Q hl hx hy hz q
  obtain ⟨i, j, a, b, c⟩ := sem_int20 (K := K) (g := fun i j => .int (if j < i then j else i)) (gV := fun i j => .int (if j < i then j else i)) (fun _ _ _ _ => mk_int) H Y x y d e z Q hl hx hy hz q
  exact ⟨i, j, by rw [a, b], c⟩
/-- the class of a value that data stand for -/
theorem tyx_of {d : D} {v : V} (h : RepTop K H Y d v) : TyX K H v (.type (tyName d)) := by
  have tl : ∀ {a : Addr} {vs : List V}, SqL K H a vs → TyX K H (.ref a) (.type "list") := fun {a vs} s => by
    rcases s with (s | ⟨o, s⟩) | ⟨o, its, n, hk, hc, _⟩
    · exact .base (.lst s)
    · exact .base (.frz s)
    · exact .kList hk hc
  cases d with
  | non => rw [top_non h]; exact .base .non
  | bl b => rw [top_bl h]; exact .base (.bl b)
  | int b => rw [top_int h]; exact .base (.int b)
  | str b => rw [top_str h]; exact .base (.str b)
  | lnk m => exact (top_lnk h).elim
  | lst ds =>
    obtain ⟨a, vs, rfl, s, _⟩ := h
    exact tl s
  | tup ds =>
    obtain ⟨a, vs, rfl, s, _⟩ := top_tup h
    rcases s with (s | ⟨o, s⟩) | ⟨o, its, n, hk, hc, _⟩
    · exact .base (.tup s)
    · exact .fTuple s
    · exact .kTuple hk hc
/-- T is one of the classes that data have -/
def IsaOk (T : String) : Prop := ∀ d : D, kitB (tyName d) T = some (isa T d)
theorem sem_isa {T : String} (hT : IsaOk T) : Sem1 K (fun x H Q => rIsi K [x, .ty T] H Q) (dIsa T) := by
  intro H Y x d z Q hl hx hz q
  cases hz
  exact ⟨x, .ty T, _, _, _, rfl, .ty T, tyx_of hx, kit_ty (hT d), q _ _ (po_val mk_bl)⟩
theorem isaOk_of {T : String} (h1 : kitB "NoneType" T = some (isaS T "NoneType")) (h2 : kitB "bool" T = some (isaS T "bool")) (h3 : kitB "int" T = some (isaS T "int")) (h4 : kitB "str" T = some (isaS T "str")) (h5 : kitB "tuple" T = some (isaS T "tuple")) (h6 : kitB "list" T = some (isaS T "list")) : IsaOk T := fun d => by
  cases d
  · exact h1
  · exact h2
  · exact h3
  · exact h4
  · exact h5
  · exact h6
  · exact h1
theorem isa_int : IsaOk "int" := isaOk_of (by decide +kernel) (by decide +kernel) (by decide +kernel) (by decide +kernel) (by decide +kernel) (by decide +kernel)
theorem isa_bool : IsaOk "bool" := isaOk_of (by decide +kernel) (by decide +kernel) (by decide +kernel) (by decide +kernel) (by decide +kernel) (by decide +kernel)
theorem isa_str : IsaOk "str" := isaOk_of (by decide +kernel) (by decide +kernel) (by decide +kernel) (by decide +kernel) (by decide +kernel) (by decide +kernel)
theorem isa_tuple : IsaOk "tuple" := isaOk_of (by decide +kernel) (by decide +kernel) (by decide +kernel) (by decide +kernel) (by decide +kernel) (by decide +kernel)
theorem isa_list : IsaOk "list" := isaOk_of (by decide +kernel) (by decide +kernel) (by decide +kernel) (by decide +kernel) (by decide +kernel) (by decide +kernel)
theorem asInts_map : ∀ {ds : List D} {ns : List Int}, asInts ds = some ns → ds = ns.map D.int
  | [], ns, h => by cases h; rfl
  | .int i :: r, ns, h => by
    unfold asInts at h
    cases e : asInts r with
    | none => rw [e] at h; cases h
    | some ms =>
      rw [e] at h
      cases h
      rw [asInts_map e]; rfl
  | .non :: r, ns, h => by cases h
  | .bl _ :: r, ns, h => by cases h
  | .str _ :: r, ns, h => by cases h
  | .tup _ :: r, ns, h => by cases h
  | .lst _ :: r, ns, h => by cases h
theorem insI_perm (i : Int) : ∀ l : List Int, (insI i l).Perm (i :: l)
  | [] => .refl _
  | j :: r => by
    unfold insI
    split
    · exact .refl _
    · exact ((insI_perm i r).cons j).trans (.swap i j r)
theorem isort_perm : ∀ l : List Int, (isort l).Perm l
  | [] => .refl _
  | i :: r => (insI_perm i (isort r)).trans ((isort_perm r).cons i)
theorem insI_sorted (i : Int) : ∀ {l : List Int}, l.Pairwise (· ≤ ·) → (insI i l).Pairwise (· ≤ ·)
  | [], _ => List.pairwise_singleton _ _
  | j :: r, h => by
    have h2 := List.pairwise_cons.mp h
    unfold insI
    split
    · rename_i hij
      refine List.pairwise_cons.mpr ⟨fun a ha => ?_, h⟩
      rcases List.mem_cons.mp ha with rfl | ha
      · exact hij
      · exact Int.le_trans hij (h2.1 a ha)
    · rename_i hij
      refine List.pairwise_cons.mpr ⟨fun a ha => ?_, insI_sorted i h2.2⟩
      rcases List.mem_cons.mp ((insI_perm i r).mem_iff.mp ha) with rfl | ha
      · omega
      · exact h2.1 a ha
theorem isort_sorted : ∀ l : List Int, (isort l).Pairwise (· ≤ ·)
  | [] => .nil
  | i :: r => insI_sorted i (isort_sorted r)
theorem sem_sorted : Sem1 K (fun x H Q => rSorted K [x] H Q) dSorted := by
  intro H Y x d z Q hl hx hz q
  unfold dSorted at hz
  split at hz
  · rename_i ds
    split at hz
    · rename_i ns hn
      by_cases h64 : ns.length < 64
      · rw [if_pos h64] at hz
        cases hz
        obtain ⟨a, vs, rfl, s, r⟩ := hx
        rw [asInts_map hn] at r
        have e := reps_ints r
        subst e
        refine ⟨a, ns, rfl, s, h64, fun ns' p h1 h2 hp => ?_⟩
        have e : ns' = isort ns := PySem.W.ksm_same (h1.trans (isort_perm ns).symm) h2 (isort_sorted ns)
        subst e
        exact q _ _ (po_newl hl hp reps_of_ints)
      · rw [if_neg h64] at hz; cases hz
    · cases hz
  · cases hz
end
end L2.Pz
set_option Elab.async false
set_option linter.all false
set_option maxRecDepth 100000
set_option maxHeartbeats 4000000
set_option autoImplicit false
namespace L2.Pz
open PySem PySem.Spec PyProof.Rows

/-! ### displays -/
def toVal : HV → Option D
  | .val d => some d
  | .new ds => some (.lst ds)
  | .jar _ => none
  | .exc _ => none
  | .newB _ _ => none
def eItems : List EF → En → Jr → R (List D)
  | [], _, J => .ok [] J
  | f :: fs, env, J => (f env J).bind fun h J1 => match toVal h with
    | some d => (eItems fs env J1).bind fun ds J2 => .ok (d :: ds) J2
    | none => .stuck
def eTup (fs : List EF) : EF := fun env J => (eItems fs env J).bind fun ds J1 => if ds.length ≤ big then .ok (.val (.tup ds)) J1 else .stuck
def eLst (fs : List EF) : EF := fun env J => (eItems fs env J).bind fun ds J1 => if ds.length ≤ big then .ok (.new ds) J1 else .stuck
def PostI (K : PySem.W.Frag) (Z : List Zx) (W : WX) (Xo : Addr → Prop) (js : List Addr) (H : Hp) (σ : L2.St) (env : En) (Q : List V → Hp → Prop) : R (List D) → Prop
  | .ok ds J => ∀ vs H', Ext js H H' → Fit K Z Xo js H' σ env J → Reps K H' (Yf Xo js) ds vs → Q vs H'
  | .err c fs J => Flies K Z W Xo js H σ env c fs J
  | .stuck => False
def tI (K : PySem.W.Frag) (Z : List Zx) (W : WX) (fs : List EF) : TA := fun σ H Q => ∃ Xo js env J, Fit K Z Xo js H σ env J ∧ PostI K Z W Xo js H σ env Q (eItems fs env J)
theorem pa_mono {X : Cx} {es : List Expr} {t t' : TA} (h : PA X es t) (m : ∀ σ H Q, t' σ H Q → t σ H Q) : PA X es t' := ⟨fun pos pins s σ H Q I w => h.run pos pins s σ H Q I (m σ H Q w)⟩
section
variable {X : Cx} {W : WX} {e : Expr} {es : List Expr} {f : EF} {fs : List EF} {pos : Pos} {Z : List Zx}
theorem val_rep {Xo : Addr → Prop} {js : List Addr} {H : Hp} {h : HV} {v : V} {d : D} (x : HRep X.K Z H (Yf Xo js) js (norm h) v) (e : toVal h = some d) : Rep X.K H (Yf Xo js) d v := by
  cases h with
  | val d' => cases e; exact x
  | new ds => cases e; exact x
  | jar k => cases e
  | exc k => cases e
  | newB i r => cases e
theorem pi_nilD : PA X [] (tI X.K Z W []) := pa_mono pa_nil fun σ H Q ⟨Xo, js, env, J, F, p⟩ => p [] H .refl F (reps_nil.mpr rfl)
theorem pi_consD (ha : PE X e (tD X.K Z W f)) (hb : PA X es (tI X.K Z W fs)) (hs : starEach (e :: es) X.env = (false, eval e X.env) :: starEach es X.env) : PA X (e :: es) (tI X.K Z W (f :: fs)) :=
  pa_mono (pa_cons ha hb hs) fun σ H Q ⟨Xo, js, env, J, F, p⟩ => by
    refine ⟨Xo, js, env, J, F, ?_⟩
    unfold eItems at p
    cases hf : f env J with
    | stuck => rw [hf] at p; exact p.elim
    | err c fs J1 => rw [hf] at p; exact p
    | ok h J1 =>
      rw [hf] at p
      intro x H1 e1 F1 x1
      have p : PostI X.K Z W Xo js H σ env Q (match toVal h with
        | some d => (eItems fs env J1).bind fun ds J2 => .ok (d :: ds) J2
        | none => .stuck) := p
      cases ht : toVal h with
      | none => rw [ht] at p; exact p.elim
      | some d =>
        rw [ht] at p
        have r1 := val_rep x1 ht
        refine ⟨Xo, js, env, J1, F1, ?_⟩
        have p : PostI X.K Z W Xo js H σ env Q ((eItems fs env J1).bind fun ds J2 => .ok (d :: ds) J2) := p
        cases hg : eItems fs env J1 with
        | stuck => rw [hg] at p; exact p.elim
        | err c fs J2 => rw [hg] at p; exact p.later e1
        | ok ds J2 =>
          rw [hg] at p
          intro vs H2 e2 F2 r2
          exact p (x :: vs) H2 (e1.trans e2) F2 (reps_cons.mpr ⟨x, vs, rfl, r1.ext F1 e2, r2⟩)
theorem pn_tup {x1} (h : PA X es (tI X.K Z W fs)) : PE X (.Tuple es x1 pos) (tN X.K Z W (eTup fs)) := pe_mono (pe_tup h) fun σ H Q ⟨Xo, js, env, J, F, p⟩ => by
  refine ⟨Xo, js, env, J, F, ?_⟩
  unfold eTup at p
  cases hg : eItems fs env J with
  | stuck => rw [hg] at p; exact p.elim
  | err c fs J2 => rw [hg] at p; exact p
  | ok ds J2 =>
    rw [hg] at p
    intro vs H2 e2 F2 r2
    have p : PostN X.K Z W Xo js H σ env Q (if ds.length ≤ big then .ok (.val (.tup ds)) J2 else .stuck) := p
    by_cases hb : ds.length ≤ big
    · rw [if_pos hb] at p
      refine ⟨by rw [big_eq, reps_len r2]; exact hb, fun q hq => ?_⟩
      obtain ⟨e3, o⟩ := pure_out F2 e2 (po_newt F2.lists hq r2)
      exact p _ _ e3 o
    · rw [if_neg hb] at p; exact p.elim
theorem pn_lst (h : PA X es (tI X.K Z W fs)) : PE X (.List es pos) (tN X.K Z W (eLst fs)) := pe_mono (pe_lst h) fun σ H Q ⟨Xo, js, env, J, F, p⟩ => by
  refine ⟨Xo, js, env, J, F, ?_⟩
  unfold eLst at p
  cases hg : eItems fs env J with
  | stuck => rw [hg] at p; exact p.elim
  | err c fs J2 => rw [hg] at p; exact p
  | ok ds J2 =>
    rw [hg] at p
    intro vs H2 e2 F2 r2
    have p : PostN X.K Z W Xo js H σ env Q (if ds.length ≤ big then .ok (.new ds) J2 else .stuck) := p
    by_cases hb : ds.length ≤ big
    · rw [if_pos hb] at p
      refine ⟨by rw [big_eq, reps_len r2]; exact hb, fun q hq => ?_⟩
      obtain ⟨e3, o⟩ := pure_out F2 e2 (po_newl F2.lists hq r2)
      exact p _ _ e3 o
    · rw [if_neg hb] at p; exact p.elim
/-- [c] * n -/
def repOk (n : Nat) (k : Int) : Bool := decide (-(2 ^ 63) ≤ k) && (decide (k < 2 ^ 63) && decide (n * k.toNat ≤ big))
def repEnd (J : Jr) : HV → Option D → R HV
  | .new ds, some (.int k) => if repOk ds.length k = true then .ok (.new (List.replicate k.toNat ds).flatten) J else .stuck
  | _, _ => .stuck
def eRep (f g : EF) : EF := fun env J => (f env J).bind fun h1 J1 => (g env J1).bind fun h2 J2 => repEnd J2 h1 (deref J2 h2)
theorem reps_rep {K : PySem.W.Frag} {H : Hp} {Y : Addr → Prop} {ds : List D} {vs : List V} (r : Reps K H Y ds vs) : ∀ n : Nat, Reps K H Y (List.replicate n ds).flatten (List.replicate n vs).flatten
  | 0 => reps_nil.mpr rfl
  | n + 1 => by
    rw [List.replicate_succ, List.replicate_succ, List.flatten_cons, List.flatten_cons]
    exact reps_append r (reps_rep r n)
theorem pn_rep {a b : Expr} {g : EF} (ha : PE X a (tN X.K Z W f)) (hb : PE X b (tD X.K Z W g)) : PE X (.BinOp a .Mult b pos) (tN X.K Z W (eRep f g)) := pe_mono (pe_op op_rep ha hb) fun σ H Q ⟨Xo, js, env, J, F, p⟩ => by
  refine ⟨Xo, js, env, J, F, ?_⟩
  unfold eRep at p
  cases hf : f env J with
  | stuck => rw [hf] at p; exact p.elim
  | err c fs J1 => rw [hf] at p; exact p
  | ok h1 J1 =>
    rw [hf] at p
    intro x H1 e1 o1
    have p : PostN X.K Z W Xo js H σ env Q ((g env J1).bind fun h2 J2 => repEnd J2 h1 (deref J2 h2)) := p
    obtain ⟨F1, x1⟩ := outN_norm F.out o1
    cases h1 with
    | val d => 
      refine ⟨Xo, js, env, J1, F1, ?_⟩
      cases hg : g env J1 with
      | stuck => rw [hg] at p; exact p.elim
      | err c fs J2 => rw [hg] at p; exact p.later e1
      | ok h2 J2 => rw [hg] at p; exact p.elim
    | newB d r => 
      refine ⟨Xo, js, env, J1, F1, ?_⟩
      cases hg : g env J1 with
      | stuck => rw [hg] at p; exact p.elim
      | err c fs J2 => rw [hg] at p; exact p.later e1
      | ok h2 J2 => rw [hg] at p; exact p.elim
    | jar d => 
      refine ⟨Xo, js, env, J1, F1, ?_⟩
      cases hg : g env J1 with
      | stuck => rw [hg] at p; exact p.elim
      | err c fs J2 => rw [hg] at p; exact p.later e1
      | ok h2 J2 => rw [hg] at p; exact p.elim
    | exc d => 
      refine ⟨Xo, js, env, J1, F1, ?_⟩
      cases hg : g env J1 with
      | stuck => rw [hg] at p; exact p.elim
      | err c fs J2 => rw [hg] at p; exact p.later e1
      | ok h2 J2 => rw [hg] at p; exact p.elim
    | new ds =>
      obtain ⟨q, vs, rfl, hq0, hq, G1, r1⟩ := o1
      have nq : q ∉ js := fun z => G1.jx q z (.inr rfl)
      refine ⟨Xo, js, env, J1, F1, ?_⟩
      cases hg : g env J1 with
      | stuck => rw [hg] at p; exact p.elim
      | err c fs J2 => rw [hg] at p; exact p.later e1
      | ok h2 J2 =>
        rw [hg] at p
        intro y H2 e2 F2 y2
        have p : PostN X.K Z W Xo js H σ env Q (repEnd J2 (.new ds) (deref J2 h2)) := p
        cases hd : deref J2 h2 with
        | none => rw [hd] at p; exact p.elim
        | some d =>
          rw [hd] at p
          cases d with
          | int k =>
            have p : PostN X.K Z W Xo js H σ env Q (if repOk ds.length k = true then .ok (.new (List.replicate k.toNat ds).flatten) J2 else .stuck) := p
            split at p
            · rename_i hb
              unfold repOk at hb
              rw [Bool.and_eq_true, Bool.and_eq_true] at hb
              have r2 : Reps X.K H1 (Yf Xo js) ds vs := reps_move (fun _ _ e _ => e) (fun a y => .inl (y.elim (fun y => .inl (.inl y)) .inr)) G1.lists _ _ r1
              refine ⟨q, k, vs, rfl, top_int (deref_top F2 y2 hd), e2 _ _ hq nq, of_decide_eq_true hb.1, of_decide_eq_true hb.2.1, by rw [big_eq, reps_len r1]; exact of_decide_eq_true hb.2.2, fun u hu => ?_⟩
              obtain ⟨e3, o⟩ := pure_out F2 (e1.trans e2) (po_newl F2.lists hu (reps_rep (r2.ext F1 e2) k.toNat))
              exact p _ _ e3 o
            · exact p.elim
          | _ => exact p.elim
end

/-! ### slices -/
def partV : Option EF → En → Jr → R (Option Int)
  | none, _, J => .ok none J
  | some f, env, J => (f env J).bind fun h J1 => match h with
    | .val (.int i) => .ok (some i) J1
    | _ => .stuck
def cutD (ds : List D) (lo hi : Option Int) : List D := (ds.drop (HT.sIx ds.length 0 lo)).take (HT.sIx ds.length ds.length hi - HT.sIx ds.length 0 lo)
def dSl : D → Option Int → Option Int → Option HV
  | .lst ds, lo, hi => some (.new (cutD ds lo hi))
  | .tup ds, lo, hi => some (.val (.tup (cutD ds lo hi)))
  | .str z, lo, hi => if z.length ≤ big then some (.val (.str (cutS z lo hi))) else none
  | _, _, _ => none
def eSl (f : EF) (lo hi : Option EF) : EF := fun env J => (f env J).bind fun h J1 => (partV lo env J1).bind fun l J2 => (partV hi env J2).bind fun u J3 => match deref J3 h with
  | some d => give J3 (dSl d l u)
  | none => .stuck
def PostO (K : PySem.W.Frag) (Z : List Zx) (W : WX) (Xo : Addr → Prop) (js : List Addr) (H : Hp) (σ : L2.St) (env : En) (Q : Option Int → Hp → Prop) : R (Option Int) → Prop
  | .ok i J => ∀ H', Ext js H H' → Fit K Z Xo js H' σ env J → Q i H'
  | .err c fs J => Flies K Z W Xo js H σ env c fs J
  | .stuck => False
def tO (K : PySem.W.Frag) (Z : List Zx) (W : WX) (f : Option EF) : TO := fun σ H Q => ∃ Xo js env J, Fit K Z Xo js H σ env J ∧ PostO K Z W Xo js H σ env Q (partV f env J)
section
variable {X : Cx} {W : WX} {e : Expr} {lo hi : Option Expr} {f : EF} {fl fh : Option EF} {pos p2 : Pos} {Z : List Zx}
theorem po_mono {e : Option Expr} {t t' : TO} (h : PO X e t) (m : ∀ σ H Q, t' σ H Q → t σ H Q) : PO X e t' := ⟨fun pins s σ H Q I w => h.run pins s σ H Q I (m σ H Q w)⟩
theorem po_noneD : PO X none (tO X.K Z W none) := po_mono po_none fun σ H Q ⟨Xo, js, env, J, F, p⟩ => p H .refl F
theorem po_someD (h : PE X e (tD X.K Z W f)) : PO X (some e) (tO X.K Z W (some f)) := po_mono (po_some h) fun σ H Q ⟨Xo, js, env, J, F, p⟩ => by
  refine ⟨Xo, js, env, J, F, ?_⟩
  unfold partV at p
  dsimp only at p
  cases hf : f env J with
  | stuck => rw [hf] at p; exact p.elim
  | err c fs J1 => rw [hf] at p; exact p
  | ok h J1 =>
    rw [hf] at p
    intro v H' e1 G x
    cases h with
    | jar k => exact p.elim
    | exc k => exact p.elim
    | newB i r => exact p.elim
    | new ds => exact p.elim
    | val d =>
      cases d with
      | int i => exact ⟨i, rep_int (K := X.K) (H := H') (Y := Yf Xo js) x, p H' e1 G⟩
      | _ => exact p.elim
def rSlAny (K : PySem.W.Frag) : V → Option Int → Option Int → Hp → VK → Prop := fun x lo hi H Q => rSlL K x lo hi H Q ∨ (rSlA K x lo hi H Q ∨ rSlS x lo hi H Q)
theorem sl_any : SlR X (rSlAny X.K) := sl_list.or (sl_tupA.or sl_str)
theorem cutD_all {ds : List D} {lo hi : Option Int} (h : HT.sIx ds.length 0 lo = 0 ∧ HT.sIx ds.length ds.length hi = ds.length) : cutD ds lo hi = ds := by
  unfold cutD
  rw [h.1, h.2, List.drop_zero, Nat.sub_zero, List.take_length]
theorem sem_sl {K : PySem.W.Frag} {H : Hp} {Y : Addr → Prop} {x : V} {d : D} {z : HV} {Q : VK} {l u : Option Int} (hl : Lists H Y) (hx : RepTop K H Y d x) (hz : dSl d l u = some z) (q : ∀ v H', PureOut K Y H H' z v → Q v H') : rSlAny K x l u H Q := by
  cases d with
  | lnk m => exact (top_lnk hx).elim
  | lst ds =>
    obtain ⟨a, vs, rfl, s, r⟩ := hx
    cases hz
    refine .inl ⟨a, vs, rfl, s, fun p hp => ?_⟩
    have := po_newl hl hp (reps_take (HT.sIx vs.length vs.length u - HT.sIx vs.length 0 l) (reps_drop (HT.sIx vs.length 0 l) r))
    refine q _ _ ?_
    unfold cutD cutV
    rw [reps_len r] at this
    rw [reps_len r]
    exact this
  | tup ds =>
    obtain ⟨a, vs, rfl, s, r⟩ := top_tup hx
    cases hz
    refine .inr (.inl ⟨a, vs, rfl, s, fun h => ?_, fun _ p hp => ?_⟩)
    · rw [reps_len r] at h
      refine q _ _ ?_
      rw [cutD_all h]
      exact po_val (rep_tup.mpr ⟨a, vs, rfl, s, r⟩)
    · have := po_newt hl hp (reps_take (HT.sIx vs.length vs.length u - HT.sIx vs.length 0 l) (reps_drop (HT.sIx vs.length 0 l) r))
      refine q _ _ ?_
      unfold cutD cutV
      rw [reps_len r] at this
      rw [reps_len r]
      exact this
  | str zz =>
    have hz : (if zz.length ≤ big then some (HV.val (.str (cutS zz l u))) else none) = some z := hz
    by_cases hb : zz.length ≤ big
    · rw [if_pos hb] at hz
      cases hz
      exact .inr (.inr ⟨zz, top_str hx, by rw [big_eq]; exact hb, q _ _ (po_val mk_str)⟩)
    · rw [if_neg hb] at hz; cases hz
  | non => cases hz
  | bl b => cases hz
  | int b => cases hz
theorem pn_slice (he : PE X e (tD X.K Z W f)) (hl : PO X lo (tO X.K Z W fl)) (hu : PO X hi (tO X.K Z W fh)) : PE X (.Subscript e (.Slice lo hi none p2) pos) (tN X.K Z W (eSl f fl fh)) := pe_mono (pe_slice sl_any he hl hu) fun σ H Q ⟨Xo, js, env, J, F, p⟩ => by
  refine ⟨Xo, js, env, J, F, ?_⟩
  unfold eSl at p
  cases hf : f env J with
  | stuck => rw [hf] at p; exact p.elim
  | err c fs J1 => rw [hf] at p; exact p
  | ok h J1 =>
    rw [hf] at p
    intro x H1 e1 F1 x1
    refine ⟨Xo, js, env, J1, F1, ?_⟩
    have p : PostN X.K Z W Xo js H σ env Q ((partV fl env J1).bind fun l J2 => (partV fh env J2).bind fun u J3 => match deref J3 h with
      | some d => give J3 (dSl d l u)
      | none => .stuck) := p
    cases hl : partV fl env J1 with
    | stuck => rw [hl] at p; exact p.elim
    | err c fs J2 => rw [hl] at p; exact p.later e1
    | ok l J2 =>
      rw [hl] at p
      intro H2 e2 F2
      refine ⟨Xo, js, env, J2, F2, ?_⟩
      have p : PostN X.K Z W Xo js H σ env Q ((partV fh env J2).bind fun u J3 => match deref J3 h with
        | some d => give J3 (dSl d l u)
        | none => .stuck) := p
      cases hu : partV fh env J2 with
      | stuck => rw [hu] at p; exact p.elim
      | err c fs J3 => rw [hu] at p; exact p.later (e1.trans e2)
      | ok u J3 =>
        rw [hu] at p
        intro H3 e3 F3
        have p : PostN X.K Z W Xo js H σ env Q (match deref J3 h with
          | some d => give J3 (dSl d l u)
          | none => .stuck) := p
        cases hd : deref J3 h with
        | none => rw [hd] at p; exact p.elim
        | some d =>
          rw [hd] at p
          have p : PostN X.K Z W Xo js H σ env Q (give J3 (dSl d l u)) := p
          cases hz : dSl d l u with
          | none => rw [hz] at p; exact p.elim
          | some z =>
            rw [hz] at p
            refine sem_sl F3.lists (deref_top F3 ((x1.ext F1 e2).ext F2 e3) hd) hz fun v H' o => ?_
            obtain ⟨e4, o2⟩ := pure_out F3 ((e1.trans e2).trans e3) o
            exact p v H' e4 o2
end

/-! ### calls -/
abbrev FT := List HV → Jr → R HV
def HReps (K : PySem.W.Frag) (Z : List Zx) (H : Hp) (Y : Addr → Prop) (js : List Addr) : List HV → List V → Prop
  | [], vs => vs = []
  | h :: hs, vs => ∃ v r, vs = v :: r ∧ HRep K Z H Y js h v ∧ HReps K Z H Y js hs r
def isExc : HV → Bool
  | .exc _ => true
  | .newB _ _ => true
  | _ => false
def eArgs : List EF → En → Jr → R (List HV)
  | [], _, J => .ok [] J
  | f :: fs, env, J => (f env J).bind fun h J1 => (eArgs fs env J1).bind fun hs J2 => if isExc h = true then .stuck else .ok (norm h :: hs) J2
def eCall (F : FT) (fs : List EF) : EF := fun env J => (eArgs fs env J).bind fun hs J1 => F hs J1
def PostH (K : PySem.W.Frag) (Z : List Zx) (W : WX) (Xo : Addr → Prop) (js : List Addr) (H : Hp) (σ : L2.St) (env : En) (Q : List V → Hp → Prop) : R (List HV) → Prop
  | .ok hs J => ∀ vs H', Ext js H H' → Fit K Z Xo js H' σ env J → HReps K [] H' (Yf Xo js) js hs vs → Q vs H'
  | .err c fs J => Flies K Z W Xo js H σ env c fs J
  | .stuck => False
def tH (K : PySem.W.Frag) (Z : List Zx) (W : WX) (fs : List EF) : TA := fun σ H Q => ∃ Xo js env J, Fit K Z Xo js H σ env J ∧ PostH K Z W Xo js H σ env Q (eArgs fs env J)
/-- a call's end -/
def PostC (K : PySem.W.Frag) (Z : List Zx) (Xo : Addr → Prop) (js : List Addr) (H : Hp) (Q : VK) (E : XK) : R HV → Prop
  | .ok h J => ∀ v H', Ext js H H' → OutN K Z Xo js H H' [] [] J h v → Q v H'
  | .err c fs J => ∀ cls od H', ExcAt K Xo js c fs cls od H' → Ext js H H' → Fit K Z Xo js H' [] [] J → E cls od H'
  | .stuck => False
/-- the promise of a def: it is F -/
def spF (K : PySem.W.Frag) (n : Nat) (F : FT) : Sp := fun vs H Q E => ∃ Xo js J hs, Fit K [] Xo js H [] [] J ∧ hs.length = n ∧ HReps K [] H (Yf Xo js) js hs vs ∧ PostC K [] Xo js H Q E (F hs J)
section
variable {X : Cx} {W : WX} {e : Expr} {es : List Expr} {f : EF} {fs : List EF} {pos : Pos} {K : PySem.W.Frag} {Xo : Addr → Prop} {js : List Addr} {H H' : Hp} {σ : L2.St} {env : En} {J J' : Jr} {Z : List Zx}
theorem hreps_len {Y : Addr → Prop} : ∀ {hs : List HV} {vs : List V}, HReps K Z H Y js hs vs → vs.length = hs.length
  | [], vs, h => by unfold HReps at h; rw [h]; rfl
  | d :: ds, vs, h => by
    unfold HReps at h
    obtain ⟨v, r, e, _, h2⟩ := h
    rw [e, List.length_cons, List.length_cons, hreps_len h2]
theorem spF_len {n : Nat} {F : FT} (vs : List V) (H : Hp) (Q : VK) (E : XK) (h : spF K n F vs H Q E) : vs.length = n := by
  obtain ⟨Xo, js, J, hs, _, hl, hr, _⟩ := h
  rw [hreps_len hr, hl]
theorem eArgs_len : ∀ {fs : List EF} {env : En} {J J' : Jr} {hs : List HV}, eArgs fs env J = .ok hs J' → hs.length = fs.length
  | [], env, J, J', hs, h => by cases h; rfl
  | f :: fs, env, J, J', hs, h => by
    unfold eArgs at h
    cases hf : f env J with
    | stuck => rw [hf] at h; cases h
    | err c fs J1 => rw [hf] at h; cases h
    | ok z J1 =>
      rw [hf] at h
      have h : ((eArgs fs env J1).bind fun hs J2 => if isExc z = true then R.stuck else R.ok (norm z :: hs) J2) = .ok hs J' := h
      cases hg : eArgs fs env J1 with
      | stuck => rw [hg] at h; cases h
      | err c fs J1 => rw [hg] at h; cases h
      | ok zs J2 =>
        rw [hg] at h
        have h : (if isExc z = true then R.stuck else R.ok (norm z :: zs) J2) = .ok hs J' := h
        by_cases hz : isExc z = true
        · rw [if_pos hz] at h; cases h
        rw [if_neg hz] at h
        cases h
        rw [List.length_cons, List.length_cons, eArgs_len hg]
theorem hrep_drop {Y : Addr → Prop} {h : HV} {v : V} (hz : ¬ isExc h = true) (x : HRep K Z H Y js (norm h) v) : HRep K [] H Y js (norm h) v := by
  cases h with
  | val d => exact x
  | jar k => exact x
  | new ds => exact x
  | exc k => exact absurd rfl hz
  | newB i r => exact absurd rfl hz
theorem Fit.bare (F : Fit K Z Xo js H σ env J) : Fit K Z Xo js H [] [] J := ⟨F.out, F.nd, F.jx, F.len, rfl, F.jar, fun i h e => (by simp at e), F.ez⟩
theorem Fit.bareZ (F : Fit K Z Xo js H σ env J) : Fit K [] Xo js H [] [] J := ⟨F.out, F.nd, F.jx, F.len, rfl, F.jar, fun i h e => (by simp at e), fun z hz => (by simp at hz)⟩
/-- behind a call: the slots as they were -/
theorem Fit.renew {Z' : List Zx} (F : Fit K Z Xo js H σ env J) (e : Ext js H H') {Xo' : Addr → Prop} (hX : ∀ a, Xo' a → Xo a ∨ H a = none) (G : Fit K Z' Xo' js H' [] [] J') : Fit K Z Xo' js H' σ env J' :=
  ⟨G.out, G.nd, G.jx, G.len, F.slen, G.jar, fun i h q => by
    obtain ⟨v, h1, h2⟩ := F.slot i h q
    exact ⟨v, h1, h2.move (fun a o q n => e a o q fun z => n (.inr z)) (fun a y => y.elim (fun y => (hX a y).elim (fun z => .inl (.inl z)) .inr) fun y => .inl (.inr y)) F.lists⟩, fun z hz => (F.ez z hz).move (fun a o q n => e a o q fun z => n (.inr z)) (fun a y => y.elim (fun y => (hX a y).elim (fun z => .inl (.inl z)) .inr) fun y => .inl (.inr y)) F.lists⟩
theorem ph_nil : PA X [] (tH X.K Z W []) := pa_mono pa_nil fun σ H Q ⟨Xo, js, env, J, F, p⟩ => p [] H .refl F rfl
theorem ph_cons (ha : PE X e (tD X.K Z W f)) (hb : PA X es (tH X.K Z W fs)) (hs : starEach (e :: es) X.env = (false, eval e X.env) :: starEach es X.env) : PA X (e :: es) (tH X.K Z W (f :: fs)) :=
  pa_mono (pa_cons ha hb hs) fun σ H Q ⟨Xo, js, env, J, F, p⟩ => by
    refine ⟨Xo, js, env, J, F, ?_⟩
    unfold eArgs at p
    cases hf : f env J with
    | stuck => rw [hf] at p; exact p.elim
    | err c fs J1 => rw [hf] at p; exact p
    | ok h J1 =>
      rw [hf] at p
      intro x H1 e1 F1 x1
      refine ⟨Xo, js, env, J1, F1, ?_⟩
      have p : PostH X.K Z W Xo js H σ env Q ((eArgs fs env J1).bind fun hs J2 => if isExc h = true then .stuck else .ok (norm h :: hs) J2) := p
      cases hg : eArgs fs env J1 with
      | stuck => rw [hg] at p; exact p.elim
      | err c fs J2 => rw [hg] at p; exact p.later e1
      | ok ds J2 =>
        rw [hg] at p
        intro vs H2 e2 F2 r2
        have p : PostH X.K Z W Xo js H σ env Q (if isExc h = true then .stuck else .ok (norm h :: ds) J2) := p
        by_cases hz : isExc h = true
        · rw [if_pos hz] at p; exact p.elim
        rw [if_neg hz] at p
        exact p (x :: vs) H2 (e1.trans e2) F2 ⟨x, vs, rfl, hrep_drop hz (x1.ext F1 e2), r2⟩
theorem call_read {n : Nat} {F : FT} {t : TA} (hn : fs.length = n) (m : ∀ σ H Q, tH X.K Z W fs σ H Q → t σ H Q) {σ : L2.St} {H : Hp} {Q : VK} {E : XK} (hE : ∀ cls od H, W cls od σ H → E cls od H) (w : tN X.K Z W (eCall F fs) σ H Q) : t σ H fun vs H1 => spF X.K n F vs H1 Q E := by
  obtain ⟨Xo, js, env, J, Fi, p⟩ := w
  refine m _ _ _ ⟨Xo, js, env, J, Fi, ?_⟩
  unfold eCall at p
  cases hf : eArgs fs env J with
  | stuck => rw [hf] at p; exact p.elim
  | err c fs J1 => rw [hf] at p; exact p
  | ok hs J1 =>
    rw [hf] at p
    intro vs H1 e1 F1 r1
    refine ⟨Xo, js, J1, hs, F1.bareZ, (eArgs_len hf).trans hn, r1, ?_⟩
    have p : PostN X.K Z W Xo js H σ env Q (F hs J1) := p
    cases hr : F hs J1 with
    | stuck => rw [hr] at p; exact p.elim
    | err c fs J2 => rw [hr] at p; exact fun cls od H2 x e2 G => hE _ _ _ (p cls od H2 x (e1.trans e2) (F1.renew e2 (fun _ h => .inl h) G))
    | ok h J2 =>
      rw [hr] at p
      intro v H2 e2 o
      refine p v H2 (e1.trans e2) ?_
      cases h with
      | val d => exact ⟨F1.renew e2 (fun _ h => .inl h) o.1, o.2⟩
      | jar k => exact ⟨F1.renew e2 (fun _ h => .inl h) o.1, o.2⟩
      | exc k =>
        obtain ⟨_, a, ha, _⟩ := o
        simp at ha
      | newB xs ds =>
        obtain ⟨q, r, us, vs, a1, a2, a3, a4, a5, a6, a7, a8⟩ := o
        exact ⟨q, r, us, vs, a1, a2, none_back e1 F1.lists a3, none_back e1 F1.lists a4, a5, a6, F1.renew e2 (fun a h => h.elim (fun h => h.elim .inl fun z => .inr (z ▸ a4)) fun z => .inr (z ▸ a3)) a7, a8⟩
      | new ds =>
        obtain ⟨q, us, a1, a2, a3, a4, a5⟩ := o
        exact ⟨q, us, a1, none_back e1 F1.lists a2, a3, F1.renew e2 (fun a h => h.elim .inl fun z => .inr (z ▸ a2)) a4, a5⟩
variable {k : Nat} {g : Addr} {fd : FuncData} {ps : List Str} {x : Str} {p : Pos} {F : FT}
/-- f(e, ..), f a def of the text -/
theorem pn_call (G : FnOk X.prog X.w X.K X.mg X.base (L2.CX X.prog X.w) k g fd ps (spF X.K ps.length F)) (tk : Takes X W) (hr : Room k X.A) (hg : Gl X x) (hm : X.mg x = some (.ref g)) (hk : PySem.W.keepIn X.K (.ref g) = true) (hb : Binds X.K fd ps [])
    (ha : PA X (e :: es) (tH X.K Z W fs)) (hn : fs.length = ps.length) (hdb : (x == ("__debug__" : Str)) = false) (he : starEach (e :: es) X.env = (false, eval e X.env) :: starEach es X.env) (hpl : (backTo pos (starEach es X.env)).any (·.1) = false) :
    PE X (.Call (.Name x p) (e :: es) [] pos) (tN X.K Z W (eCall F fs)) :=
  pe_mono (pe_callS G hr hg hm hk hb (fun σ => passAt tk σ) ha hdb he hpl) fun σ H Q w => call_read hn (fun _ _ _ z => z) (fun _ _ _ z => z) w
/-- within a comprehension: nothing is let out -/
abbrev W0 : WX := fun _ _ _ _ => False
theorem pn_call0 (G : FnOk X.prog X.w X.K X.mg X.base (L2.CX X.prog X.w) k g fd ps (spF X.K ps.length F)) (hr : Room k X.A) (hg : Gl X x) (hm : X.mg x = some (.ref g)) (hk : PySem.W.keepIn X.K (.ref g) = true) (hb : Binds X.K fd ps [])
    (ha : PA X (e :: es) (tH X.K Z W0 fs)) (hn : fs.length = ps.length) (hdb : (x == ("__debug__" : Str)) = false) (he : starEach (e :: es) X.env = (false, eval e X.env) :: starEach es X.env) (hpl : (backTo pos (starEach es X.env)).any (·.1) = false) :
    PE X (.Call (.Name x p) (e :: es) [] pos) (tN X.K Z W0 (eCall F fs)) :=
  pe_mono (pe_call G hr hg hm hk hb .nil passL ha hdb he hpl) fun σ H Q w => by
    have := call_read (X := X) (W := W0) (t := tH X.K Z W0 fs) (E := E0) hn (fun _ _ _ z => z) (fun _ _ _ z => z) w
    unfold tCall
    simp only [List.append_nil]
    exact this
end
end L2.Pz
set_option Elab.async false
set_option linter.all false
set_option maxRecDepth 100000
set_option maxHeartbeats 4000000
set_option autoImplicit false
namespace L2.Pz
open PySem PySem.Spec PyProof.Rows

/-! ### what is walked -/
abbrev IF := En → Jr → R (List D)
def Keeps (Y : Addr → Prop) (H0 H : Hp) : Prop := ∀ a o, H0 a = some o → ¬ Y a → H a = some o
structure WalkD (K : PySem.W.Frag) (Y : Addr → Prop) (H0 : Hp) (J : It) (ds : List D) : Prop where
  ex : ∃ (G : Hp → Prop) (Yl : Nat → Hp → V → Hp → Prop), Walk J ds.length G Yl ∧ (∀ H, Keeps Y H0 H → G H) ∧
    ∀ Y' : Addr → Prop, (∀ a, Y' a → Y a ∨ H0 a = none) → ∀ i H x H', i < ds.length → Keeps Y H0 H → Lists H Y' → Yl i H x H' → Same H H' ∧ ∃ d, ds[i]? = some d ∧ Rep K H' Y' d x
def chars (z : Str) : List D := z.cps.toList.map fun c => .str ⟨#[c]⟩
def itemsOf : HV → Option (List D)
  | .val (.lst ds) => some ds
  | .val (.tup ds) => some ds
  | .new ds => some ds
  | .val (.str z) => some (chars z)
  | _ => none
def iAny (f : EF) : IF := fun env J => (f env J).bind fun h J1 => match itemsOf h with
  | some ds => .ok ds J1
  | none => .stuck
def rgD (lo : Int) (n : Nat) : List D := (List.range n).map fun i => .int (lo + (i : Nat))
def rgOk (i : Int) : Bool := decide (-(2 ^ 62) ≤ i) && decide (i < 2 ^ 62)
def iRange1 (f : EF) : IF := fun env J => (f env J).bind fun h J1 => match h with
  | .val (.int n) => if rgOk n = true then .ok (rgD 0 n.toNat) J1 else .stuck
  | _ => .stuck
def rg2End (J : Jr) : HV → HV → R (List D)
  | .val (.int m), .val (.int n) => if (rgOk m && rgOk n) = true then .ok (rgD m (n - m).toNat) J else .stuck
  | _, _ => .stuck
def iRange2 (f g : EF) : IF := fun env J => (f env J).bind fun h J1 => (g env J1).bind fun h2 J2 => rg2End J2 h h2
def PostW (K : PySem.W.Frag) (Z : List Zx) (W : WX) (Xo : Addr → Prop) (js : List Addr) (H : Hp) (σ : L2.St) (env : En) (Q : It → Hp → Prop) : R (List D) → Prop
  | .ok ds J => ∀ I H', Ext js H H' → Fit K Z Xo js H' σ env J → WalkD K (Yf Xo js) H' I ds → Q I H'
  | .err c fs J => Flies K Z W Xo js H σ env c fs J
  | .stuck => False
def tW (K : PySem.W.Frag) (Z : List Zx) (W : WX) (f : IF) : TI := fun σ H Q => ∃ Xo js env J, Fit K Z Xo js H σ env J ∧ PostW K Z W Xo js H σ env Q (f env J)
theorem pi_mono {X : Cx} {tg e : Expr} {t t' : TI} (h : PI X tg e t) (m : ∀ σ H Q, t' σ H Q → t σ H Q) : PI X tg e t' := ⟨fun pins s σ H Q I w => h.run pins s σ H Q I (m σ H Q w)⟩
section
variable {X : Cx} {tg e : Expr} {te : TE} {Z : List Zx}
def iAnyT (K : PySem.W.Frag) (tl : TE) : TI := fun σ H R => tl σ H fun x H1 => (∃ a, x = .ref a ∧ (∃ xs, SqL K H1 a xs) ∧ R (Itl K a) H1) ∨ (∃ a, x = .ref a ∧ (∃ xs, SqT K H1 a xs) ∧ R (Itt K a) H1) ∨ ∃ z, x = .str z ∧ R (Its z) H1
theorem pi_anyT (hl : PE X e te) : PI X tg e (iAnyT X.K te) := by
  refine ⟨fun pins s σ H R I h => ?_⟩
  refine thn (hl.run pins s σ H _ I h) fun v s1 ⟨x, H1, I1, r1, q1⟩ => ?_
  rcases q1 with ⟨a, e, ⟨xs, hq⟩, q⟩ | ⟨a, e, ⟨xs, hq⟩, q⟩ | ⟨z, e, q⟩
  · subst e
    cases r1
    obtain ⟨its, rv, p, hz⟩ := I1.list hq
    refine wpAny_pyIter_list p.isList ?_
    exact pi_one (tk := s1.toks) I1 _ (turn_list a _) ⟨_, Heap.get?_push_size _ rfl, rfl, rfl⟩ q
  · subst e
    cases r1
    obtain ⟨its, rv, p, hz⟩ := I1.tuple hq
    refine wpAny_pyIter_tuple (show s1.heap.IsTuple a its.toArray from p) ?_
    exact pi_one (tk := s1.toks) I1 _ (turn_tuple a _) ⟨_, Heap.get?_push_size _ rfl, rfl, rfl⟩ q
  · subst e
    obtain ⟨t, rfl⟩ := r1
    cases ha : z.cps.all (· < 128)
    · exact wpAny_pyIter_wide ha (pi_one (tk := s1.toks) I1 _ (turn_str _ z t "str_iterator" (.inr rfl)) ⟨_, Heap.get?_push_size _ rfl, rfl, rfl⟩ q)
    · exact wpAny_pyIter_ascii ha (pi_one (tk := s1.toks) I1 _ (turn_str _ z t "str_ascii_iterator" (.inl rfl)) ⟨_, Heap.get?_push_size _ rfl, rfl, rfl⟩ q)
end
section
variable {K : PySem.W.Frag} {H : Hp} {Y : Addr → Prop} {Z : List Zx}
theorem walkD_list {a : Addr} {vs : List V} {ds : List D} (hl : Lists H Y) (s : LsY K H Y a vs) (r : Reps K H Y ds vs) : WalkD K Y H (Itl K a) ds := by
  have w := walk_list (K := K) (a := a) (xs := vs)
  rw [reps_len r] at w
  refine ⟨_, _, w, fun H1 k => (lsY_move (Y' := Y) k (fun _ y => .inl y) s).sq, fun Y' hY i H1 x H' hi k _ y => ?_⟩
  obtain ⟨e, y⟩ := y
  subst e
  obtain ⟨d, h1, h2⟩ := reps_at r y
  exact ⟨Same.refl _, d, h1, rep_move k hY hl _ _ h2⟩
theorem walkD_tup {a : Addr} {vs : List V} {ds : List D} (hl : Lists H Y) (s : SqT K H a vs) (r : Reps K H Y ds vs) : WalkD K Y H (Itt K a) ds := by
  have w := walk_tup (K := K) (a := a) (xs := vs)
  rw [reps_len r] at w
  refine ⟨_, _, w, fun H1 k => sqT_move k hl s, fun Y' hY i H1 x H' hi k _ y => ?_⟩
  obtain ⟨e, y⟩ := y
  subst e
  obtain ⟨d, h1, h2⟩ := reps_at r y
  exact ⟨Same.refl _, d, h1, rep_move k hY hl _ _ h2⟩
theorem walkD_str {z : Str} : WalkD K Y H (Its z) (chars z) := by
  have w := walk_str (z := z)
  have e : z.cps.size = (chars z).length := by unfold chars; simp
  rw [e] at w
  refine ⟨_, _, w, fun _ _ => trivial, fun Y' hY i H1 x H' hi k _ y => ?_⟩
  obtain ⟨e, c, hc, hx⟩ := y
  subst e
  refine ⟨Same.refl _, .str ⟨#[c]⟩, ?_, by rw [hx]; exact mk_str⟩
  unfold chars
  rw [List.getElem?_map]
  simp [hc]
theorem walkD_range {lo : Int} {n : Nat} : WalkD K Y H (Itr lo n) (rgD lo n) := by
  have w := walk_range (lo := lo) (n := n)
  have e : n = (rgD lo n).length := by unfold rgD; simp
  refine ⟨fun _ => True, YFn fun i => .int (lo + i), ?_, fun _ _ => trivial, fun Y' hY i H1 x H' hi k _ y => ?_⟩
  · have : Walk (Itr lo n) n (fun _ => True) (YFn fun i => .int (lo + i)) := w
    exact e ▸ this
  · obtain ⟨e2, hx⟩ := y
    subst e2
    rw [← e] at hi
    refine ⟨Same.refl _, .int (lo + i), ?_, by rw [hx]; exact mk_int⟩
    unfold rgD
    rw [List.getElem?_map, List.getElem?_range hi]
    rfl
end
section
variable {X : Cx} {W : WX} {tg e a b : Expr} {f g : EF} {p pos : Pos} {Z : List Zx}
theorem pw_any (he : PE X e (tD X.K Z W f)) : PI X tg e (tW X.K Z W (iAny f)) := pi_mono (pi_anyT he) fun σ H Q ⟨Xo, js, env, J, F, p⟩ => by
  refine ⟨Xo, js, env, J, F, ?_⟩
  unfold iAny at p
  cases hf : f env J with
  | stuck => rw [hf] at p; exact p.elim
  | err c fs J1 => rw [hf] at p; exact p
  | ok h J1 =>
    rw [hf] at p
    intro x H1 e1 F1 x1
    have p : PostW X.K Z W Xo js H σ env Q (match itemsOf h with
      | some ds => .ok ds J1
      | none => .stuck) := p
    have lst : ∀ ds, norm h = .val (.lst ds) → itemsOf h = some ds → (∃ a, x = .ref a ∧ (∃ xs, SqL X.K H1 a xs) ∧ Q (Itl X.K a) H1) := fun ds hn hi => by
      rw [hi] at p
      rw [hn] at x1
      obtain ⟨a, vs, e, s, r⟩ := rep_lst (K := X.K) (H := H1) (Y := Yf Xo js).mp x1
      exact ⟨a, e, ⟨vs, s.sq⟩, p _ _ e1 F1 (walkD_list F1.lists s r)⟩
    cases h with
    | jar k => exact p.elim
    | exc k => exact p.elim
    | newB _ _ => exact p.elim
    | new ds => exact .inl (lst ds rfl rfl)
    | val d =>
      cases d with
      | lst ds => exact .inl (lst ds rfl rfl)
      | tup ds =>
        obtain ⟨a, vs, e, s, r⟩ := rep_tup (K := X.K) (H := H1) (Y := Yf Xo js).mp x1
        exact .inr (.inl ⟨a, e, ⟨vs, s⟩, p _ _ e1 F1 (walkD_tup F1.lists s r)⟩)
      | str z => exact .inr (.inr ⟨z, rep_str (K := X.K) (H := H1) (Y := Yf Xo js) x1, p _ _ e1 F1 walkD_str⟩)
      | non => exact p.elim
      | lnk m => exact p.elim
      | bl b => exact p.elim
      | int b => exact p.elim
theorem pw_range1 (hg : Gl X "range") (hm : X.mg "range" = none) (he : PE X a (tD X.K Z W f)) (h1 : starEach [a] X.env = (false, eval a X.env) :: starEach [] X.env) (hs : starEach [a] X.env = [(false, eval a X.env)]) : PI X tg (.Call (.Name "range" p) [a] [] pos) (tW X.K Z W (iRange1 f)) :=
  pi_mono (pi_range1 hg hm (pa_cons he pa_nil h1) hs) fun σ H Q ⟨Xo, js, env, J, F, p⟩ => by
    show tD X.K Z W f σ H fun x H1 => tNil σ H1 fun xs H2 => _
    refine ⟨Xo, js, env, J, F, ?_⟩
    unfold iRange1 at p
    cases hf : f env J with
    | stuck => rw [hf] at p; exact p.elim
    | err c fs J1 => rw [hf] at p; exact p
    | ok h J1 =>
      rw [hf] at p
      intro x H1 e1 F1 x1
      cases h with
      | jar k => exact p.elim
      | exc k => exact p.elim
      | newB _ _ => exact p.elim
      | new ds => exact p.elim
      | val d =>
        cases d with
        | int n =>
          have p : PostW X.K Z W Xo js H σ env Q (if rgOk n = true then .ok (rgD 0 n.toNat) J1 else .stuck) := p
          split at p
          · rename_i h
            unfold rgOk at h
            rw [Bool.and_eq_true] at h
            refine ⟨n, by rw [rep_int (K := X.K) (H := H1) (Y := Yf Xo js) x1], of_decide_eq_true h.1, of_decide_eq_true h.2, p _ _ e1 F1 walkD_range⟩
          · exact p.elim
        | _ => exact p.elim
theorem pw_range2 (hg : Gl X "range") (hm : X.mg "range" = none) (ha : PE X a (tD X.K Z W f)) (hb : PE X b (tD X.K Z W g)) (h1 : starEach [a, b] X.env = (false, eval a X.env) :: starEach [b] X.env) (h2 : starEach [b] X.env = (false, eval b X.env) :: starEach [] X.env)
    (hs : starEach [a, b] X.env = [(false, eval a X.env), (false, eval b X.env)]) (hs2 : starEach [b] X.env = [(false, eval b X.env)]) : PI X tg (.Call (.Name "range" p) [a, b] [] pos) (tW X.K Z W (iRange2 f g)) :=
  pi_mono (pi_range2 hg hm (pa_cons ha (pa_cons hb pa_nil h2) h1) hs hs2) fun σ H Q ⟨Xo, js, env, J, F, p⟩ => by
    show tD X.K Z W f σ H fun x H1 => tD X.K Z W g σ H1 fun y H2 => _
    refine ⟨Xo, js, env, J, F, ?_⟩
    unfold iRange2 at p
    cases hf : f env J with
    | stuck => rw [hf] at p; exact p.elim
    | err c fs J1 => rw [hf] at p; exact p
    | ok h J1 =>
      rw [hf] at p
      intro x H1 e1 F1 x1
      have p : PostW X.K Z W Xo js H σ env Q ((g env J1).bind fun h2 J2 => rg2End J2 h h2) := p
      refine ⟨Xo, js, env, J1, F1, ?_⟩
      cases hg : g env J1 with
      | stuck => rw [hg] at p; exact p.elim
      | err c fs J2 => rw [hg] at p; exact p.later e1
      | ok h2 J2 =>
        rw [hg] at p
        intro y H2 e2 F2 y2
        have x2 := x1.ext F1 e2
        cases h with
        | jar k => exact p.elim
        | exc k => exact p.elim
        | newB _ _ => exact p.elim
        | new ds => exact p.elim
        | val d =>
          cases d with
          | int m =>
            cases h2 with
            | jar k => exact p.elim
            | exc k => exact p.elim
            | newB _ _ => exact p.elim
            | new ds => exact p.elim
            | val d =>
              cases d with
              | int n =>
                have p : PostW X.K Z W Xo js H σ env Q (if (rgOk m && rgOk n) = true then .ok (rgD m (n - m).toNat) J2 else .stuck) := p
                split at p
                · rename_i h
                  unfold rgOk at h
                  rw [Bool.and_eq_true, Bool.and_eq_true, Bool.and_eq_true] at h
                  refine ⟨m, n, by rw [rep_int (K := X.K) (H := H2) (Y := Yf Xo js) x2, rep_int (K := X.K) (H := H2) (Y := Yf Xo js) y2], ⟨of_decide_eq_true h.1.1, of_decide_eq_true h.1.2, of_decide_eq_true h.2.1, of_decide_eq_true h.2.2⟩, p _ _ (e1.trans e2) F2 walkD_range⟩
                · exact p.elim
              | _ => exact p.elim
          | _ => exact p.elim
end

/-! ### targets -/
abbrev TF := D → En → Option En
def tgName (i : Nat) : TF := fun d env => some (env.set i (some (.val d)))
def tgs : List Nat → List D → En → Option En
  | [], [], env => some env
  | i :: is, d :: ds, env => tgs is ds (env.set i (some (.val d)))
  | _, _, _ => none
def tgTup (is : List Nat) : TF := fun d env => match d with
  | .tup ds => tgs is ds env
  | .lst ds => none
  | _ => none
/-- a target's reading: data of d come to slots -/
def TgOk (K : PySem.W.Frag) (Z : List Zx) (g : TG) (t : TF) : Prop := ∀ (Xo : Addr → Prop) (js : List Addr) (H : Hp) (σ : L2.St) (env env' : En) (J : Jr) (d : D) (v : V) (Q : L2.St → Hp → Prop), Fit K Z Xo js H σ env J → Rep K H (Yf Xo js) d v → t d env = some env' →
  (∀ σ', Fit K Z Xo js H σ' env' J → Q σ' H) → g v σ H Q
section
variable {K : PySem.W.Frag} {Xo : Addr → Prop} {js : List Addr} {H H' : Hp} {σ : L2.St} {env : En} {J : Jr} {Z : List Zx}
theorem Fit.set (F : Fit K Z Xo js H σ env J) (i : Nat) {h : HV} {v : V} (x : HRep K Z H (Yf Xo js) js h v) : Fit K Z Xo js H (σ.set i (some v)) (env.set i (some h)) J :=
  ⟨F.out, F.nd, F.jx, F.len, by rw [List.length_set, List.length_set]; exact F.slen, F.jar, fun j h' e => by
    by_cases hj : i = j
    · subst hj
      have hi : i < env.length := by
        have := (List.getElem?_eq_some_iff.mp e).1
        rw [List.length_set] at this
        exact this
      rw [List.getElem?_set_self hi] at e
      cases e
      exact ⟨v, List.getElem?_set_self (by rw [F.slen]; exact hi), x⟩
    · rw [List.getElem?_set_ne hj] at e
      obtain ⟨u, h1, h2⟩ := F.slot j h' e
      exact ⟨u, by rw [List.getElem?_set_ne hj]; exact h1, h2⟩, F.ez⟩
theorem tgok_name {i : Nat} : TgOk K Z (gName i) (tgName i) := fun Xo js H σ env env' J d v Q F r e q => by
  cases e
  exact q _ (F.set i (h := .val d) r)
def TgsOk (K : PySem.W.Frag) (Z : List Zx) (g : TGs) (is : List Nat) : Prop := ∀ (Xo : Addr → Prop) (js : List Addr) (H : Hp) (σ : L2.St) (env env' : En) (J : Jr) (ds : List D) (vs : List V) (Q : L2.St → Hp → Prop), Fit K Z Xo js H σ env J → Reps K H (Yf Xo js) ds vs → tgs is ds env = some env' →
  (∀ σ', Fit K Z Xo js H σ' env' J → Q σ' H) → g vs σ H Q
theorem tgsok_nil : TgsOk K Z gNil [] := fun Xo js H σ env env' J ds vs Q F r e q => by
  cases ds with
  | nil => cases e; exact ⟨reps_nil.mp r, q _ F⟩
  | cons d ds => cases e
theorem tgsok_cons {i : Nat} {is : List Nat} {u : TGs} (h : TgsOk K Z u is) : TgsOk K Z (gCons (gName i) u) (i :: is) := fun Xo js H σ env env' J ds vs Q F r e q => by
  cases ds with
  | nil => cases e
  | cons d ds =>
    obtain ⟨v, r', e1, h1, h2⟩ := reps_cons.mp r
    exact ⟨v, r', e1, h Xo js H _ _ _ J ds r' Q (F.set i (h := .val d) h1) h2 e q⟩
theorem tgs_len : ∀ {is : List Nat} {ds : List D} {env env' : En}, tgs is ds env = some env' → ds.length = is.length
  | [], [], _, _, _ => rfl
  | [], _ :: _, _, _, h => by cases h
  | _ :: _, [], _, _, h => by cases h
  | i :: is, d :: ds, env, env', h => by
    rw [List.length_cons, List.length_cons, tgs_len (is := is) (ds := ds) (env := env.set i (some (.val d))) h]
theorem tgok_tup {n : Nat} {is : List Nat} {u : TGs} (h : TgsOk K Z u is) (hn : is.length = n) : TgOk K Z (gTup K n u) (tgTup is) := fun Xo js H σ env env' J d v Q F r e q => by
  cases d with
  | tup ds =>
    obtain ⟨a, vs, e1, s, r1⟩ := rep_tup.mp r
    exact ⟨a, vs, e1, s, by rw [reps_len r1, ← hn]; exact tgs_len e, h Xo js H σ env env' J ds vs Q F r1 e q⟩
  | _ => cases e
end

/-! ### comprehensions -/
def wipeE (env : En) : List Nat → En
  | [] => env
  | v :: vs => (wipeE env vs).set v none
def lcLoop (t : TF) (c : BF) (f : EF) (env : En) : List D → List D → Jr → R HV
  | [], acc, J => .ok (.new acc) J
  | d :: ds, acc, J => match t d env with
    | none => .stuck
    | some env1 => (c env1 J).bind fun b J1 => if b = true then (f env1 J1).bind fun h J2 => match toVal h with
        | some y => if acc.length < big then lcLoop t c f env ds (acc ++ [y]) J2 else .stuck
        | none => .stuck
      else lcLoop t c f env ds acc J1
/-- nothing is let out of the loop's parts -/
def noErr {α : Type} : R α → R α
  | .err _ _ _ => .stuck
  | r => r
def bYes : BF := fun _ J => .ok true J
def eLc (it : IF) (t : TF) (c : BF) (f : EF) (own : List Nat) : EF := fun env J => (it env J).bind fun ds J1 => noErr (lcLoop t c f (wipeE env own) ds [] J1)
section
variable {K : PySem.W.Frag} {Xo : Addr → Prop} {js : List Addr} {H H' : Hp} {σ : L2.St} {env : En} {J : Jr} {Z : List Zx}
theorem Fit.wipe (F : Fit K Z Xo js H σ env J) : ∀ vs : List Nat, Fit K Z Xo js H (L2.wipe σ vs) (wipeE env vs) J
  | [] => F
  | v :: vs => by
    have G := F.wipe vs
    refine ⟨G.out, G.nd, G.jx, G.len, by unfold L2.wipe wipeE; rw [List.length_set, List.length_set]; exact G.slen, G.jar, fun i h e => ?_, G.ez⟩
    unfold wipeE at e
    by_cases hi : v = i
    · subst hi
      have hl : v < (wipeE env vs).length := by
        have := (List.getElem?_eq_some_iff.mp e).1
        rw [List.length_set] at this
        exact this
      rw [List.getElem?_set_self hl] at e
      cases e
    · rw [List.getElem?_set_ne hi] at e
      obtain ⟨u, h1, h2⟩ := G.slot i h e
      refine ⟨u, ?_, h2⟩
      unfold L2.wipe
      rw [List.getElem?_set_ne hi]
      exact h1
/-- the target's slots are the block's own -/
def TgIn (g : TG) (own : List Nat) : Prop := ∀ v (σ : L2.St) (H : Hp) (Q : L2.St → Hp → Prop), g v (L2.wipe σ own) H Q → g v (L2.wipe σ own) H fun σ2 H2 => L2.wipe σ2 own = L2.wipe σ own ∧ Q σ2 H2
end
section
variable {X : Cx} {tg e elt : Expr} {ifs : List Expr} {scope : Scope} {own : List (Str × Nat)} {pos : Pos} {g : TG} {t : TF} {it : IF} {c : BF} {f : EF} {W : WX} {Z : List Zx}
theorem lc_read (htg : TgOk X.K Z g t) (hin : TgIn g (own.map (·.2))) {σ : L2.St} {H : Hp} {Q : VK} (w : tN X.K Z W (eLc it t c f (own.map (·.2))) σ H Q) : tLc (tW X.K Z W it) g (tT X.K Z W0 c) (tD X.K Z W0 f) (own.map (·.2)) σ H Q := by
  obtain ⟨Xo, js, env, J, F, p⟩ := w
  refine ⟨Xo, js, env, J, F, ?_⟩
  unfold eLc at p
  cases hi : it env J with
  | stuck => rw [hi] at p; exact p.elim
  | err c fs J1 => rw [hi] at p; exact p
  | ok ds J1 =>
    rw [hi] at p
    have p : PostN X.K Z W Xo js H σ env Q (noErr (lcLoop t c f (wipeE env (own.map (·.2))) ds [] J1)) := p
    intro I H1 e1 F1 wd D hD
    obtain ⟨G, Yl, wk, hG, hY⟩ := wd.ex
    -- the new list at D is locked meanwhile
    have F2 : Fit X.K Z (With Xo D) js (upd H1 D (.lst [])) σ env J1 := F1.lock (same_upd hD) hD upd_same
    have hDj : D ∉ js := fun z => F2.jx D z (.inr rfl)
    have kp : ∀ {H2 : Hp}, Keeps (Yf (With Xo D) js) (upd H1 D (.lst [])) H2 → Keeps (Yf Xo js) H1 H2 := fun {H2} k a o q n => by
      have ne : a ≠ D := fun z => by rw [z, hD] at q; cases q
      exact k a o (by rw [upd_ne ne]; exact q) fun y => y.elim (fun y => y.elim (fun y => n (.inl y)) fun z => ne z) fun y => n (.inr y)
    refine lc_it wk (fun i H3 => ∃ acc vs J3, H3 D = some (.lst vs) ∧ Fit X.K Z (With Xo D) js H3 σ env J3 ∧ Reps X.K H3 (Yf (With Xo D) js) acc vs ∧ Keeps (Yf (With Xo D) js) (upd H1 D (.lst [])) H3 ∧
        PostN X.K Z W Xo js H σ env Q (noErr (lcLoop t c f (wipeE env (own.map (·.2))) (ds.drop i) acc J3)) ∧ Ext js H H3) ?_ ?_ ?_ ?_
    · exact ⟨[], [], J1, upd_same, F2, reps_nil.mpr rfl, fun a o q _ => q, p, e1.trans (.of (same_upd hD))⟩
    · rintro i H3 hi ⟨acc, vs, J3, h1, h2, h3, h4, h5, h6⟩
      exact hG H3 (kp h4)
    · rintro i x H3 H4 hi ⟨acc, vs, J3, h1, h2, h3, h4, h5, h6⟩ y
      obtain ⟨sm, d, hd, rd'⟩ := hY (Yf (With Xo D) js) (fun a z => z.elim (fun z => z.elim (fun z => .inl (.inl z)) fun z => .inr (z ▸ hD)) fun z => .inl (.inr z)) i H3 x H4 hi (kp h4) h2.lists y
      have hdrop : ds.drop i = d :: ds.drop (i + 1) := by
        obtain ⟨hl, he⟩ := List.getElem?_eq_some_iff.mp hd
        rw [← he]
        exact List.drop_eq_getElem_cons hl
      rw [hdrop] at h5
      unfold lcLoop at h5
      cases ht : t d (wipeE env (own.map (·.2))) with
      | none => rw [ht] at h5; exact h5.elim
      | some env1 =>
        rw [ht] at h5
        have h5 : PostN X.K Z W Xo js H σ env Q (noErr ((c env1 J3).bind fun b J1 => if b = true then (f env1 J1).bind fun h J2 => match toVal h with
            | some y => if acc.length < big then lcLoop t c f (wipeE env (own.map (·.2))) (ds.drop (i + 1)) (acc ++ [y]) J2 else .stuck
            | none => .stuck
          else lcLoop t c f (wipeE env (own.map (·.2))) (ds.drop (i + 1)) acc J1)) := h5
        have F4 : Fit X.K Z (With Xo D) js H4 σ env J3 := h2.same sm
        refine hin _ _ _ _ (htg _ _ _ _ _ _ _ _ _ _ (F4.wipe (own.map (·.2))) rd' ht fun σ2 F5 => ?_)
        refine ⟨With Xo D, js, env1, J3, F5, ?_⟩
        cases hc : c env1 J3 with
        | stuck => rw [hc] at h5; exact h5.elim
        | err cc fs J5 => rw [hc] at h5; exact h5.elim
        | ok b J5 =>
          rw [hc] at h5
          intro H5 e5 F6
          have hD4 : H4 D = some (.lst vs) := sm _ _ h1
          have r4 : Reps X.K H4 (Yf (With Xo D) js) acc vs := reps_move (fun a o q _ => sm _ _ q) (fun _ y => .inl y) h2.lists _ _ h3
          cases b with
          | false =>
            refine iteF ⟨acc, vs, J5, e5 _ _ hD4 hDj, ?_, r4.ext F5 e5, fun a o q n => e5 _ _ (sm _ _ (h4 a o q n)) fun z => n (.inr z), h5, (h6.trans (.of sm)).trans e5⟩
            exact F4.renew e5 (fun _ h => .inl h) F6.bare
          | true =>
            refine iteT ⟨With Xo D, js, env1, J5, F6, ?_⟩
            have h5 : PostN X.K Z W Xo js H σ env Q (noErr ((f env1 J5).bind fun h J2 => match toVal h with
              | some y => if acc.length < big then lcLoop t c f (wipeE env (own.map (·.2))) (ds.drop (i + 1)) (acc ++ [y]) J2 else .stuck
              | none => .stuck)) := h5
            cases hf : f env1 J5 with
            | stuck => rw [hf] at h5; exact h5.elim
            | err cc fs J6 => rw [hf] at h5; exact h5.elim
            | ok h J6 =>
              rw [hf] at h5
              intro y H6 e6 F7 x7
              have h5 : PostN X.K Z W Xo js H σ env Q (noErr (match toVal h with
                | some y => if acc.length < big then lcLoop t c f (wipeE env (own.map (·.2))) (ds.drop (i + 1)) (acc ++ [y]) J6 else .stuck
                | none => .stuck)) := h5
              cases hv : toVal h with
              | none => rw [hv] at h5; exact h5.elim
              | some dy =>
                rw [hv] at h5
                have h5 : PostN X.K Z W Xo js H σ env Q (noErr (if acc.length < big then lcLoop t c f (wipeE env (own.map (·.2))) (ds.drop (i + 1)) (acc ++ [dy]) J6 else .stuck)) := h5
                by_cases hb : acc.length < big
                · rw [if_pos hb] at h5
                  have ry := val_rep x7 hv
                  have e46 : Ext js H4 H6 := e5.trans e6
                  have hD6 : H6 D = some (.lst vs) := e46 _ _ hD4 hDj
                  have r6 : Reps X.K H6 (Yf (With Xo D) js) acc vs := r4.ext F5 e46
                  have F8 : Fit X.K Z (With Xo D) js H6 σ env J6 := F4.renew e46 (fun _ h => .inl h) F7.bare
                  have up : ∀ a o, H6 a = some o → ¬ Yf (With Xo D) js a → upd H6 D (.lst (vs ++ [y])) a = some o := fun a o q n => by
                    rw [upd_ne fun z => n (.inl (.inr z))]; exact q
                  have ls : Lists (upd H6 D (.lst (vs ++ [y]))) (With Xo D) := fun a z => by
                    by_cases ha : a = D
                    · exact ⟨_, by rw [ha]; exact upd_same⟩
                    · rw [upd_ne ha]; exact F8.out a z
                  refine ⟨vs, hD6, by rw [big_eq, reps_len r6]; exact hb, acc ++ [dy], vs ++ [y], J6, upd_same, ?_, ?_, fun a o q n => up _ _ (e46 _ _ (sm _ _ (h4 a o q n)) fun z => n (.inr z)) n, h5, ?_⟩
                  · refine ⟨ls, F8.nd, F8.jx, F8.len, F8.slen, fun k a ds' q1 q2 => ?_, fun k h' q => ?_, fun z hz => (F8.ez z hz).move up (fun _ y => .inl y) F8.lists⟩
                    · obtain ⟨us, u1, u2⟩ := F8.jar k a ds' q1 q2
                      have ha : a ≠ D := fun z => hDj (z ▸ List.mem_of_getElem? q1)
                      exact ⟨us, by rw [upd_ne ha]; exact u1, repsC_move up (fun _ y => .inl y) F8.lists _ _ u2⟩
                    · obtain ⟨u, u1, u2⟩ := F8.slot k h' q
                      exact ⟨u, u1, u2.move up (fun _ y => .inl y) F8.lists⟩
                  · exact reps_append (reps_move up (fun _ y => .inl y) F8.lists _ _ r6) (reps_cons.mpr ⟨y, [], rfl, rep_move up (fun _ y => .inl y) F8.lists _ _ ry, reps_nil.mpr rfl⟩)
                  · refine fun a o q n => ?_
                    have q3 := h6 a o q n
                    have ha : a ≠ D := fun z => by
                      have hD0 : H D = none := none_back e1 F1.lists hD
                      rw [z, hD0] at q; cases q
                    rw [upd_ne ha]
                    exact e46 _ _ (sm _ _ q3) n
                · rw [if_neg hb] at h5; exact h5.elim
    · rintro H3 ⟨acc, vs, J3, h1, h2, h3, h4, h5, h6⟩
      rw [List.drop_length] at h5
      exact h5 (.ref D) H3 h6 ⟨D, vs, rfl, none_back e1 F1.lists hD, h1, h2, h3⟩
end
end L2.Pz
set_option Elab.async false
set_option linter.all false
set_option maxRecDepth 100000
set_option maxHeartbeats 4000000
set_option autoImplicit false
namespace L2.Pz
open PySem PySem.Spec PyProof.Rows

/-! ### comprehensions as a rule -/
theorem wipe_at (σ : L2.St) : ∀ (vs : List Nat) (j : Nat), (L2.wipe σ vs)[j]? = if j ∈ vs then (σ[j]?.map fun _ => none) else σ[j]?
  | [], j => by unfold L2.wipe; simp
  | v :: vs, j => by
    unfold L2.wipe
    by_cases h : v = j
    · subst h
      rw [if_pos List.mem_cons_self]
      by_cases hl : v < (L2.wipe σ vs).length
      · rw [List.getElem?_set_self hl]
        rw [L2.wipe_length] at hl
        rw [List.getElem?_eq_getElem hl]; rfl
      · rw [List.getElem?_eq_none (by rw [List.length_set]; omega)]
        rw [L2.wipe_length] at hl
        rw [List.getElem?_eq_none (by omega)]; rfl
    · rw [List.getElem?_set_ne h, wipe_at σ vs j]
      have : (j ∈ v :: vs) ↔ j ∈ vs := by
        constructor
        · intro q
          rcases List.mem_cons.mp q with e | q
          · exact (h e.symm).elim
          · exact q
        · exact List.mem_cons_of_mem _
      by_cases hj : j ∈ vs
      · rw [if_pos hj, if_pos (this.mpr hj)]
      · rw [if_neg hj, if_neg fun q => hj (this.mp q)]
theorem wipe_wset (σ : L2.St) {own : List Nat} {i : Nat} (h : i ∈ own) (x : Option V) {τ : L2.St} (ht : L2.wipe τ own = L2.wipe σ own) : L2.wipe (τ.set i x) own = L2.wipe σ own := by
  rw [← ht]
  refine List.ext_getElem? fun j => ?_
  rw [wipe_at, wipe_at]
  by_cases hj : j ∈ own
  · rw [if_pos hj, if_pos hj]
    by_cases hi : i = j
    · subst hi
      by_cases hl : i < τ.length
      · rw [List.getElem?_set_self hl, List.getElem?_eq_getElem hl]; rfl
      · rw [List.getElem?_eq_none (by rw [List.length_set]; omega), List.getElem?_eq_none (by omega)]
    · rw [List.getElem?_set_ne hi]
  · rw [if_neg hj, if_neg hj, List.getElem?_set_ne fun e => hj (by rw [← e]; exact h)]
theorem wipe_wipe (σ : L2.St) (own : List Nat) : L2.wipe (L2.wipe σ own) own = L2.wipe σ own := by
  refine List.ext_getElem? fun j => ?_
  rw [wipe_at, wipe_at]
  by_cases hj : j ∈ own
  · rw [if_pos hj, if_pos hj]
    cases σ[j]? <;> rfl
  · rw [if_neg hj, if_neg hj]
theorem tgin_name {own : List Nat} {i : Nat} (h : i ∈ own) : TgIn (gName i) own := fun v σ H Q q => ⟨wipe_wset σ h _ (wipe_wipe σ own), q⟩
def TgsIn (u : TGs) (own : List Nat) : Prop := ∀ vs (σ τ : L2.St) (H : Hp) (Q : L2.St → Hp → Prop), L2.wipe τ own = L2.wipe σ own → u vs τ H Q → u vs τ H fun σ2 H2 => L2.wipe σ2 own = L2.wipe σ own ∧ Q σ2 H2
theorem tgsin_nil {own : List Nat} : TgsIn gNil own := fun vs σ τ H Q e ⟨q1, q2⟩ => ⟨q1, e, q2⟩
theorem tgsin_cons {own : List Nat} {i : Nat} {u : TGs} (h : i ∈ own) (hu : TgsIn u own) : TgsIn (gCons (gName i) u) own := fun vs σ τ H Q e ⟨v, r, e1, q⟩ => ⟨v, r, e1, hu r σ _ H Q (wipe_wset σ h _ e) q⟩
theorem tgin_tup {K : PySem.W.Frag} {own : List Nat} {n : Nat} {u : TGs} (hu : TgsIn u own) : TgIn (gTup K n u) own := fun v σ H Q ⟨a, xs, e, s, l, q⟩ => ⟨a, xs, e, s, l, hu xs σ _ H Q (wipe_wipe σ own) q⟩
section
variable {X : Cx} {tg iter elt : Expr} {ifs : List Expr} {scope : Scope} {own : List (Str × Nat)} {pos : Pos} {g : TG} {t : TF} {it : IF} {c : BF} {f : EF} {W : WX} {Z : List Zx}
theorem pn_lc (hc : X.calm = true) (hN : X.N.Nodup) (hi : PI X tg iter (tW X.K Z W it)) (ok : BlkOk X.N X.env.scope scope own)
    (hg : ∀ (s : Shared) (H : Hp) (C : Addr) (cl : List (Str × Addr)) (fp : List Addr), PG (X.blk s H scope (compEnvC scope cl C X.env) fp) tg g) (ht : ∀ (s : Shared) (H : Hp) (C : Addr) (cl : List (Str × Addr)) (fp : List Addr), PTs (X.blk s H scope (compEnvC scope cl C X.env) fp) ifs (tT X.K Z W0 c))
    (he : ∀ (s : Shared) (H : Hp) (C : Addr) (cl : List (Str × Addr)) (fp : List Addr), PE (X.blk s H scope (compEnvC scope cl C X.env) fp) elt (tD X.K Z W0 f)) (htg : TgOk X.K Z g t) (hin : TgIn g (own.map (·.2))) (hs : ∀ x, foldedSetIterable iter X.env x = pure x) :
    PE X (.ListComp elt [⟨tg, iter, ifs, 0⟩] scope pos) (tN X.K Z W (eLc it t c f (own.map (·.2)))) :=
  pe_mono (pe_lc hc hN hi ok hg ht he hs) fun σ H Q w => lc_read htg hin w
theorem pts_yes : PTs X [] (tT X.K Z W0 bYes) := ⟨fun pins s σ H Q I ⟨Xo, js, env, J, F, p⟩ => pts_nil.run pins s σ H Q I (p H .refl F)⟩
theorem pts_oneD {e : Expr} (h : PT X e (tT X.K Z W0 c)) : PTs X [e] (tT X.K Z W0 c) := pts_one h
end

/-! ### statements -/
inductive RS where
  | nx (env : En) (J : Jr) | rt (h : HV) (J : Jr) | bk (env : En) (J : Jr) | ct (env : En) (J : Jr) | err (c : Str) (fs : List (Str × D)) (env : En) (J : Jr) | stuck
abbrev SF := Nat → En → Jr → RS
structure Stp (n0 : Nat) (js js' : List Addr) (H H' : Hp) : Prop where
  ext : Ext js H H'
  new : ∀ a ∈ js', a ∈ js ∨ H a = none
  pre : js'.take n0 = js.take n0
  back : ∀ a, H' a = none → H a = none
theorem Stp.refl {n0 : Nat} {js : List Addr} {H : Hp} : Stp n0 js js H H := ⟨.refl, fun _ h => .inl h, rfl, fun _ h => h⟩
theorem Stp.trans {n0 : Nat} {js js1 js2 : List Addr} {H H1 H2 : Hp} (a : Stp n0 js js1 H H1) (b : Stp n0 js1 js2 H1 H2) : Stp n0 js js2 H H2 where
  ext := fun c o e n => b.ext c o (a.ext c o e n) fun z => (a.new c z).elim n fun w => by rw [e] at w; cases w
  new := fun c h => by
    rcases b.new c h with z | z
    · exact a.new c z
    · exact .inr (a.back c z)
  pre := b.pre.trans a.pre
  back := fun c h => a.back c (b.back c h)
section
variable {K : PySem.W.Frag} {W : WX} {Xo : Addr → Prop} {js js' : List Addr} {H H' : Hp} {σ : L2.St} {env : En} {J : Jr} {n0 : Nat} {Z : List Zx}
theorem Stp.of_ext (F : Fit K Z Xo js H' σ env J) (e : Ext js H H') : Stp n0 js js H H' := ⟨e, fun _ h => .inl h, rfl, fun a h => none_back e F.lists h⟩
end
def PostS (K : PySem.W.Frag) (Z : List Zx) (W : WX) (n0 : Nat) (Xo : Addr → Prop) (js : List Addr) (H : Hp) (D : Ends) : RS → Prop
  | .nx env J => ∀ σ' H' js', Stp n0 js js' H H' → Fit K Z Xo js' H' σ' env J → D.nx σ' H'
  | .bk env J => ∀ σ' H' js', Stp n0 js js' H H' → Fit K Z Xo js' H' σ' env J → D.bk σ' H'
  | .ct env J => ∀ σ' H' js', Stp n0 js js' H H' → Fit K Z Xo js' H' σ' env J → D.ct σ' H'
  | .rt h J => ∀ v H' js', Stp n0 js js' H H' → OutN K Z Xo js' H H' [] [] J h v → D.rt v H'
  | .err c fs env J => ∀ cls od σ' H' js', ExcAt K Xo js' c fs cls od H' → Stp n0 js js' H H' → Fit K Z Xo js' H' σ' env J → W cls od σ' H'
  | .stuck => False
def tS (K : PySem.W.Frag) (Z : List Zx) (W : WX) (n0 : Nat) (g : SF) : TS := fun D σ H => ∃ Xo js env J, Fit K Z Xo js H σ env J ∧ PostS K Z W n0 Xo js H D (g n0 env J)
/-- an expression's outcome within a statement -/
def onS {α : Type} (env : En) (r : R α) (k : α → Jr → RS) : RS := match r with
  | .ok a J => k a J
  | .err c fs J => .err c fs env J
  | .stuck => .stuck
def sSeq (a b : SF) : SF := fun n env J => match a n env J with
  | .nx e1 J1 => b n e1 J1
  | r => r
def sNext : SF := fun _ env J => .nx env J
def sBreak : SF := fun _ env J => .bk env J
def sCont : SF := fun _ env J => .ct env J
def sExpr (f : EF) : SF := fun _ env J => onS env (f env J) fun _ J1 => .nx env J1
def sRet (f : EF) : SF := fun _ env J => onS env (f env J) fun h J1 => .rt h J1
def sRetN : SF := fun _ env J => .rt (.val .non) J
def sSet (i : Nat) (f : EF) : SF := fun _ env J => onS env (f env J) fun h J1 => .nx (env.set i (some (norm h))) J1
/-- name = a fresh list that will be changed -/
def sNew (i : Nat) (f : EF) : SF := fun n env J => onS env (f env J) fun h J1 => match h with
  | .new ds => if n ≤ J1.length then .nx (env.set i (some (.jar J1.length))) (J1 ++ [ds]) else .stuck
  | _ => .stuck
def sAsg (t : TF) (f : EF) : SF := fun _ env J => onS env (f env J) fun h J1 => match toVal h with
  | some d => (match t d env with | some e1 => .nx e1 J1 | none => .stuck)
  | none => .stuck
def sIf (c : BF) (a b : SF) : SF := fun n env J => onS env (c env J) fun k J1 => if k = true then a n env J1 else b n env J1
def loopD (t : TF) (body : SF) (n0 : Nat) : List D → En → Jr → RS
  | [], env, J => .nx env J
  | d :: ds, env, J => match t d env with
    | none => .stuck
    | some e1 => match body n0 e1 J with
      | .nx e2 J2 => loopD t body n0 ds e2 J2
      | .ct e2 J2 => loopD t body n0 ds e2 J2
      | .bk e2 J2 => .nx e2 J2
      | r => r
def sFor (it : IF) (t : TF) (body : SF) : SF := fun n env J => onS env (it env J) fun ds J1 => loopD t body n ds env J1
/-- x.append(e), x a cell -/
def sAppend (i : Nat) (f : EF) : SF := fun _ env J => onS env (f env J) fun h J1 => match env[i]?, toVal h with
  | some (some (.jar k)), some d => (match J1[k]? with
    | some ds => if ds.length < big then .nx env (J1.set k (ds ++ [d])) else .stuck
    | none => .stuck)
  | _, _ => .stuck
/-- x[j] = e, x a cell -/
def sSetIx (i : Nat) (ix f : EF) : SF := fun _ env J => onS env (f env J) fun h J1 => onS env (ix env J1) fun hj J2 => match env[i]?, toVal h, hj with
  | some (some (.jar k)), some d, .val (.int j) => (match J2[k]? with
    | some ds => (match ixN ds.length j with | some m => .nx env (J2.set k (ds.set m d)) | none => .stuck)
    | none => .stuck)
  | _, _, _ => .stuck
section
variable {K : PySem.W.Frag} {W : WX} {Xo : Addr → Prop} {js js' : List Addr} {H H1 H' : Hp} {σ : L2.St} {env : En} {J : Jr} {n0 : Nat} {Dn : Ends} {Z : List Zx}
theorem PostS.later {r : RS} (s : Stp n0 js js' H H1) (p : PostS K Z W n0 Xo js H Dn r) : PostS K Z W n0 Xo js' H1 Dn r := by
  cases r with
  | nx env J => exact fun σ' H' js2 s2 F => p σ' H' js2 (s.trans s2) F
  | bk env J => exact fun σ' H' js2 s2 F => p σ' H' js2 (s.trans s2) F
  | ct env J => exact fun σ' H' js2 s2 F => p σ' H' js2 (s.trans s2) F
  | rt h J =>
    intro v H' js2 s2 o
    refine p v H' js2 (s.trans s2) ?_
    cases h with
    | val d => exact o
    | jar k => exact o
    | exc k => exact o
    | newB xs ds =>
      obtain ⟨q, r, us, vs, a1, a2, a3, a4, a5⟩ := o
      exact ⟨q, r, us, vs, a1, a2, s.back q a3, s.back r a4, a5⟩
    | new ds =>
      obtain ⟨q, us, a1, a2, a3⟩ := o
      exact ⟨q, us, a1, s.back q a2, a3⟩
  | err c fs env J => exact fun cls od σ' H' js2 x s2 F => p cls od σ' H' js2 x (s.trans s2) F
  | stuck => exact p
theorem flies_S {c : Str} {fs : List (Str × D)} (p : PostS K Z W n0 Xo js H Dn (.err c fs env J)) : Flies K Z W Xo js H σ env c fs J :=
  fun cls od H' x e F => p cls od σ H' js x (.of_ext F e) F
end
section
variable {X : Cx} {W : WX} {n0 : Nat} {st : Stmt} {rest : List Stmt} {a b : SF} {f : EF} {c : BF} {e tg iter : Expr} {pos : Pos} {ta tb : List Stmt} {Z : List Zx}
theorem ss_nil : PSs X [] (tS X.K Z W n0 sNext) := pss_mono pss_nil fun D σ H ⟨Xo, js, env, J, F, p⟩ => p σ H js .refl F
theorem ss_one (h : PS X st (tS X.K Z W n0 a)) : PSs X [st] (tS X.K Z W n0 a) := pss_one h
theorem ss_cons (h1 : PS X st (tS X.K Z W n0 a)) (h2 : PSs X rest (tS X.K Z W n0 b)) : PSs X (st :: rest) (tS X.K Z W n0 (sSeq a b)) := pss_mono (pss_cons h1 h2) fun D σ H ⟨Xo, js, env, J, F, p⟩ => by
  refine ⟨Xo, js, env, J, F, ?_⟩
  unfold sSeq at p
  cases r : a n0 env J with
  | nx e1 J1 =>
    rw [r] at p
    exact fun σ' H' js' s F' => ⟨Xo, js', e1, J1, F', p.later s⟩
  | bk e1 J1 => rw [r] at p; exact p
  | ct e1 J1 => rw [r] at p; exact p
  | rt h J1 => rw [r] at p; exact p
  | err c fs e1 J1 => rw [r] at p; exact p
  | stuck => rw [r] at p; exact p
theorem s_pass : PS X (.Pass pos) (tS X.K Z W n0 sNext) := ps_mono ps_pass fun D σ H ⟨Xo, js, env, J, F, p⟩ => p σ H js .refl F
theorem s_break : PS X (.Break pos) (tS X.K Z W n0 sBreak) := ps_mono ps_break fun D σ H ⟨Xo, js, env, J, F, p⟩ => p σ H js .refl F
theorem s_cont : PS X (.Continue pos) (tS X.K Z W n0 sCont) := ps_mono ps_continue fun D σ H ⟨Xo, js, env, J, F, p⟩ => p σ H js .refl F
theorem s_expr (he : PE X e (tD X.K Z W f)) (hs : swapsWith e none pos.line X.env = pure false) : PS X (.Expr e pos) (tS X.K Z W n0 (sExpr f)) := ps_mono (ps_expr he hs) fun D σ H ⟨Xo, js, env, J, F, p⟩ => by
  refine ⟨Xo, js, env, J, F, ?_⟩
  unfold sExpr at p
  cases r : f env J with
  | stuck => rw [r] at p; exact p.elim
  | err c fs J1 => rw [r] at p; exact flies_S p
  | ok h J1 => rw [r] at p; exact fun v H' e1 G _ => p σ H' js (.of_ext G e1) G
theorem s_ret (he : PE X e (tN X.K Z W f)) : PS X (.Return (some e) pos) (tS X.K Z W n0 (sRet f)) := ps_mono (ps_ret he) fun D σ H ⟨Xo, js, env, J, F, p⟩ => by
  refine ⟨Xo, js, env, J, F, ?_⟩
  unfold sRet at p
  cases r : f env J with
  | stuck => rw [r] at p; exact p.elim
  | err c fs J1 => rw [r] at p; exact flies_S p
  | ok h J1 =>
    rw [r] at p
    intro v H' e1 o
    obtain ⟨G, _⟩ := outN_norm F.out o
    refine p v H' js (.of_ext G e1) ?_
    cases h with
    | val d => exact ⟨G.bare, o.2⟩
    | jar k => exact ⟨G.bare, o.2⟩
    | exc k => exact ⟨G.bare, o.2⟩
    | newB xs ds =>
      obtain ⟨q, r, us, vs, a1, a2, a3, a4, a5, a6, a7, a8, a9⟩ := o
      exact ⟨q, r, us, vs, a1, a2, a3, a4, a5, a6, a7.bare, a8, a9⟩
    | new ds =>
      obtain ⟨q, us, a1, a2, a3, a4, a5⟩ := o
      exact ⟨q, us, a1, a2, a3, a4.bare, a5⟩
theorem s_retN : PS X (.Return none pos) (tS X.K Z W n0 sRetN) := ps_mono ps_retN fun D σ H ⟨Xo, js, env, J, F, p⟩ => p .non H js .refl (out_val F.bare (mk_non (K := X.K) (H := H) (Y := Yf Xo js)))
theorem s_set {i : Nat} {x : Str} {pos' : Pos} (hN : X.N.Nodup) (hi : X.N[i]? = some x) (hx : Loc X.env.scope x) (he : PE X e (tD X.K Z W f)) (hs : swapsWith e (some (.Name x pos')) pos.line X.env = pure false) (hf : X.fn x = true ∨ X.env.scope.names.lookup x = some .local) :
    PS X (.Assign [.Name x pos'] e pos) (tS X.K Z W n0 (sSet i f)) := ps_mono (ps_set hN hi hx he hs hf) fun D σ H ⟨Xo, js, env, J, F, p⟩ => by
  refine ⟨Xo, js, env, J, F, ?_⟩
  unfold sSet at p
  cases r : f env J with
  | stuck => rw [r] at p; exact p.elim
  | err c fs J1 => rw [r] at p; exact flies_S p
  | ok h J1 => rw [r] at p; exact fun v H' e1 G x => p _ H' js (.of_ext G e1) (G.set i x)
theorem new_read {i : Nat} {D : Ends} {σ : L2.St} {H : Hp} (w : tS X.K Z W n0 (sNew i f) D σ H) : tAsg (tN X.K Z W f) (gName i) D σ H := by
  obtain ⟨Xo, js, env, J, F, p⟩ := w
  refine ⟨Xo, js, env, J, F, ?_⟩
  unfold sNew at p
  cases r : f env J with
  | stuck => rw [r] at p; exact p.elim
  | err c fs J1 => rw [r] at p; exact flies_S p
  | ok h J1 =>
    rw [r] at p
    intro v H' e1 o
    cases h with
    | val d => exact p.elim
    | jar k => exact p.elim
    | exc k => exact p.elim
    | newB _ _ => exact p.elim
    | new ds =>
      obtain ⟨q, us, a1, a2, a3, a4, a5⟩ := o
      have p : PostS X.K Z W n0 Xo js H D (if n0 ≤ J1.length then .nx (env.set i (some (.jar J1.length))) (J1 ++ [ds]) else .stuck) := p
      by_cases hn0 : n0 ≤ J1.length
      case neg => rw [if_neg hn0] at p; exact p.elim
      rw [if_pos hn0] at p
      have nq : q ∉ js := fun z => a4.jx q z (.inr rfl)
      have yy : ∀ a, Yf Xo (js ++ [q]) a → Yf (With Xo q) js a := fun a y => by
        rcases y with y | y
        · exact .inl (.inl y)
        · rcases List.mem_append.mp y with y | y
          · exact .inr y
          · exact .inl (.inr (by simpa using y))
      have hout : Lists H' Xo := fun a y => a4.out a (.inl y)
      have nX : ¬ Xo q := fun y => by
        obtain ⟨xs, z⟩ := F.out q y
        rw [a2] at z; cases z
      have G : Fit X.K Z Xo (js ++ [q]) H' σ env (J1 ++ [ds]) := by
        refine ⟨hout, ?_, fun a ha => ?_, by rw [List.length_append, List.length_append, a4.len]; rfl, a4.slen, fun k a ds' h1 h2 => ?_, fun k h' e => ?_, fun z hz => (a4.ez z hz).move (fun _ _ e _ => e) (fun a y => .inl (yy a y)) a4.lists⟩
        · rw [List.nodup_append]
          exact ⟨a4.nd, by simp, fun a ha b hb => by
            have : b = q := by simpa using hb
            rw [this]; exact fun z => nq (z ▸ ha)⟩
        · rcases List.mem_append.mp ha with ha | ha
          · exact fun z => a4.jx a ha (.inl z)
          · have : a = q := by simpa using ha
            rw [this]; exact nX
        · by_cases hk : k < js.length
          · rw [List.getElem?_append_left hk] at h1
            rw [List.getElem?_append_left (by rw [← a4.len]; exact hk)] at h2
            obtain ⟨us', u1, u2⟩ := a4.jar k a ds' h1 h2
            exact ⟨us', u1, repsC_moveJ (fun _ _ e _ => e) (fun a y => .inl (yy a y)) a4.lists (fun m b _ e => by rw [List.getElem?_append_left ((List.getElem?_eq_some_iff.mp e).1)]; exact e) u2⟩
          · rw [List.getElem?_append_right (by omega)] at h1
            rw [List.getElem?_append_right (by rw [← a4.len]; omega), ← a4.len] at h2
            have hk0 : k - js.length = 0 := by
              cases hh : k - js.length with
              | zero => rfl
              | succ m => rw [hh] at h1; simp at h1
            rw [hk0] at h1 h2
            have e1 : q = a := by simpa using h1
            have e2 : ds = ds' := by simpa using h2
            subst e1; subst e2
            exact ⟨us, a3, repsC_of (reps_move (fun _ _ e _ => e) (fun a y => .inl (yy a y)) a4.lists _ _ a5)⟩
        · obtain ⟨u, u1, u2⟩ := a4.slot k h' e
          refine ⟨u, u1, ?_⟩
          have u3 := u2.move (fun _ _ e _ => e) (Y' := Yf Xo (js ++ [q])) (fun a y => .inl (yy a y)) a4.lists
          cases h' with
          | val d => exact u3
          | new ds => exact u3
          | exc m => exact u3
          | newB _ _ => exact u3
          | jar m =>
            obtain ⟨a, ea, ev⟩ := u3
            exact ⟨a, by rw [List.getElem?_append_left ((List.getElem?_eq_some_iff.mp ea).1)]; exact ea, ev⟩
      refine p _ H' (js ++ [q]) ⟨e1, fun a ha => ?_, ?_, fun a h => none_back e1 a4.unlock.lists h⟩ (G.set i (h := .jar J1.length) ?_)
      · rcases List.mem_append.mp ha with ha | ha
        · exact .inl ha
        · have : a = q := by simpa using ha
          rw [this]; exact .inr a2
      · rw [List.take_append_of_le_length (by rw [a4.len]; exact hn0)]
      · exact ⟨q, by rw [← a4.len]; simp, a1⟩
end
end L2.Pz
set_option Elab.async false
set_option linter.all false
set_option maxRecDepth 100000
set_option maxHeartbeats 4000000
set_option autoImplicit false
namespace L2.Pz
open PySem PySem.Spec PyProof.Rows

section
variable {K : PySem.W.Frag} {W : WX} {Xo : Addr → Prop} {js js' : List Addr} {H H1 H' : Hp} {σ : L2.St} {env : En} {J : Jr} {n0 : Nat} {Z : List Zx}
/-- a cell is written -/
theorem Fit.write (F : Fit K Z Xo js H σ env J) {k : Nat} {a : Addr} {ds : List D} {vs : List V} (e : js[k]? = some a) (r : RepsC K H (Yf Xo js) js k ds vs) :
    Fit K Z Xo js (upd H a (.lst vs)) σ env (J.set k ds) ∧ Ext js H (upd H a (.lst vs)) := by
  have ha : a ∈ js := List.mem_of_getElem? e
  have up : ∀ b o, H b = some o → ¬ Yf Xo js b → upd H a (.lst vs) b = some o := fun b o q n => by
    rw [upd_ne (b := b) (a := a) fun z => n (.inr (by rw [z]; exact ha))]; exact q
  have hk : k < js.length := (List.getElem?_eq_some_iff.mp e).1
  have ls : ∀ b, (∃ xs, H b = some (.lst xs)) → ∃ xs, upd H a (.lst vs) b = some (.lst xs) := fun b ⟨xs, q⟩ => by
    by_cases hb : b = a
    · exact ⟨_, by rw [hb]; exact upd_same⟩
    · exact ⟨xs, by rw [upd_ne hb]; exact q⟩
  refine ⟨⟨fun b z => ls b (F.out b z), F.nd, F.jx, by rw [List.length_set]; exact F.len, F.slen, fun m b ds' q1 q2 => ?_, fun i h q => ?_, fun z hz => (F.ez z hz).move up (fun _ y => .inl y) F.lists⟩, fun b o q n => ?_⟩
  · by_cases hm : k = m
    · subst hm
      rw [e] at q1
      cases q1
      rw [List.getElem?_set_self (by rw [← F.len]; exact hk)] at q2
      cases q2
      exact ⟨vs, upd_same, repsC_move up (fun _ y => .inl y) F.lists _ _ r⟩
    · rw [List.getElem?_set_ne hm] at q2
      obtain ⟨us, u1, u2⟩ := F.jar m b ds' q1 q2
      have hb : b ≠ a := fun z => by
        subst z
        obtain ⟨h1, e1⟩ := List.getElem?_eq_some_iff.mp e
        obtain ⟨h2, e2⟩ := List.getElem?_eq_some_iff.mp q1
        exact hm ((List.getElem_inj F.nd).mp (e1.trans e2.symm))
      exact ⟨us, by rw [upd_ne hb]; exact u1, repsC_move up (fun _ y => .inl y) F.lists _ _ u2⟩
  · obtain ⟨u, u1, u2⟩ := F.slot i h q
    exact ⟨u, u1, u2.move up (fun _ y => .inl y) F.lists⟩
  · rw [upd_ne (b := b) (a := a) fun z => n (by rw [z]; exact ha)]; exact q
/-- the cells behind the n-th are let go -/
theorem Fit.trim (F : Fit K Z Xo js H [] [] J) (n : Nat) : Fit K Z Xo (js.take n) H [] [] (J.take n) := by
  have yy : ∀ a, Yf Xo (js.take n) a → Yf Xo js a := fun a y => y.elim .inl fun y => .inr (List.mem_of_mem_take y)
  refine ⟨F.out, F.nd.sublist (List.take_sublist _ _), fun a ha => F.jx a (List.mem_of_mem_take ha), by rw [List.length_take, List.length_take, F.len], rfl, fun k a ds h1 h2 => ?_, fun i h e => (by simp at e), fun z hz => (F.ez z hz).move (fun _ _ e _ => e) (fun a y => .inl (yy a y)) F.lists⟩
  have hk : k < n := by
    have := (List.getElem?_eq_some_iff.mp h1).1
    rw [List.length_take] at this
    omega
  rw [List.getElem?_take_of_lt hk] at h1 h2
  obtain ⟨vs, u1, u2⟩ := F.jar k a ds h1 h2
  exact ⟨vs, u1, repsC_moveJ (fun _ _ e _ => e) (fun a y => .inl (yy a y)) F.lists (fun m b hm e => by rw [List.getElem?_take_of_lt (by omega)]; exact e) u2⟩
end
section
variable {X : Cx} {W : WX} {n0 : Nat} {st : Stmt} {a b : SF} {f ix : EF} {c : BF} {e tg iter : Expr} {pos : Pos} {ta tb : List Stmt} {g : TG} {t : TF} {it : IF} {Z : List Zx}
theorem s_new {i : Nat} {x : Str} {pos' : Pos} (hN : X.N.Nodup) (hi : X.N[i]? = some x) (hx : Loc X.env.scope x) (he : PE X e (tN X.K Z W f)) (hs : swapsWith e (some (.Name x pos')) pos.line X.env = pure false) (hf : X.fn x = true ∨ X.env.scope.names.lookup x = some .local) :
    PS X (.Assign [.Name x pos'] e pos) (tS X.K Z W n0 (sNew i f)) := ps_mono (ps_set hN hi hx he hs hf) fun D σ H w => new_read w
theorem set_read {i : Nat} {D : Ends} {σ : L2.St} {H : Hp} (w : tS X.K Z W n0 (sSet i f) D σ H) : tAsg (tN X.K Z W f) (gName i) D σ H := by
  obtain ⟨Xo, js, env, J, F, p⟩ := w
  refine ⟨Xo, js, env, J, F, ?_⟩
  unfold sSet at p
  cases r : f env J with
  | stuck => rw [r] at p; exact p.elim
  | err c fs J1 => rw [r] at p; exact flies_S p
  | ok h J1 =>
    rw [r] at p
    intro v H' e1 o
    obtain ⟨G, x⟩ := outN_norm F.out o
    exact p _ H' js (.of_ext G e1) (G.set i x)
/-- name = [..] -/
theorem s_setLc {i : Nat} {elt : Expr} {ifs : List Expr} {scope : Scope} {own : List (Str × Nat)} {py spos : Pos} {y : Str} (htg : TgOk X.K Z g t) (hin : TgIn g (own.map (·.2)))
    (h : PS X (.Assign [.Name y py] (.ListComp elt [⟨tg, iter, ifs, 0⟩] scope pos) spos) (tAsg (tLc (tW X.K Z W it) g (tT X.K Z W0 c) (tD X.K Z W0 f) (own.map (·.2))) (gName i))) :
    PS X (.Assign [.Name y py] (.ListComp elt [⟨tg, iter, ifs, 0⟩] scope pos) spos) (tS X.K Z W n0 (sSet i (eLc it t c f (own.map (·.2))))) := ps_mono h fun D σ H w => lc_read htg hin (set_read w)
theorem s_newLc {i : Nat} {elt : Expr} {ifs : List Expr} {scope : Scope} {own : List (Str × Nat)} {py spos : Pos} {y : Str} (htg : TgOk X.K Z g t) (hin : TgIn g (own.map (·.2)))
    (h : PS X (.Assign [.Name y py] (.ListComp elt [⟨tg, iter, ifs, 0⟩] scope pos) spos) (tAsg (tLc (tW X.K Z W it) g (tT X.K Z W0 c) (tD X.K Z W0 f) (own.map (·.2))) (gName i))) :
    PS X (.Assign [.Name y py] (.ListComp elt [⟨tg, iter, ifs, 0⟩] scope pos) spos) (tS X.K Z W n0 (sNew i (eLc it t c f (own.map (·.2))))) := ps_mono h fun D σ H w => lc_read htg hin (new_read w)
/-- a, b = e -/
theorem s_asg (htg : TgOk X.K Z g t) (h : PS X st (tAsg (tD X.K Z W f) g)) : PS X st (tS X.K Z W n0 (sAsg t f)) := ps_mono h fun D σ H ⟨Xo, js, env, J, F, p⟩ => by
  refine ⟨Xo, js, env, J, F, ?_⟩
  unfold sAsg at p
  cases r : f env J with
  | stuck => rw [r] at p; exact p.elim
  | err c fs J1 => rw [r] at p; exact flies_S p
  | ok h J1 =>
    rw [r] at p
    intro v H' e1 G x
    have p : PostS X.K Z W n0 Xo js H D (match toVal h with
      | some d => (match t d env with | some e1 => .nx e1 J1 | none => .stuck)
      | none => .stuck) := p
    cases hv : toVal h with
    | none => rw [hv] at p; exact p.elim
    | some d =>
      rw [hv] at p
      have p : PostS X.K Z W n0 Xo js H D (match t d env with | some e1 => .nx e1 J1 | none => .stuck) := p
      cases ht : t d env with
      | none => rw [ht] at p; exact p.elim
      | some e2 =>
        rw [ht] at p
        exact htg _ _ _ _ _ _ _ _ _ _ G (val_rep x hv) ht fun σ' F' => p σ' H' js (.of_ext F' e1) F'
theorem s_if (hc : PT X e (tT X.K Z W c)) (ha : PSs X ta (tS X.K Z W n0 a)) (hb : PSs X tb (tS X.K Z W n0 b)) : PS X (.If e ta tb pos) (tS X.K Z W n0 (sIf c a b)) := ps_mono (ps_if hc ha hb) fun D σ H ⟨Xo, js, env, J, F, p⟩ => by
  refine ⟨Xo, js, env, J, F, ?_⟩
  unfold sIf at p
  cases r : c env J with
  | stuck => rw [r] at p; exact p.elim
  | err c fs J1 => rw [r] at p; exact flies_S p
  | ok k J1 =>
    rw [r] at p
    intro H' e1 G
    have p : PostS X.K Z W n0 Xo js H D (if k = true then a n0 env J1 else b n0 env J1) := p
    cases k with
    | true => exact iteT ⟨Xo, js, env, J1, G, PostS.later (.of_ext G e1) p⟩
    | false => exact iteF ⟨Xo, js, env, J1, G, PostS.later (.of_ext G e1) p⟩
theorem s_for (hp : PassesOwn (model X.prog X.w) X.A X.env X.xe) (hc : X.calm = true) (hi : PI X tg iter (tW X.K Z W it)) (hg : PG X tg g) (htg : TgOk X.K Z g t) (hb : PSs X ta (tS X.K Z W n0 a)) (hs : ∀ x, foldedSetIterable iter X.env x = pure x) :
    PS X (.For tg iter ta [] pos) (tS X.K Z W n0 (sFor it t a)) := ps_mono (ps_for hp hc hi hg hb hs) fun D σ H ⟨Xo, js, env, J, F, p⟩ => by
  refine ⟨Xo, js, env, J, F, ?_⟩
  unfold sFor at p
  cases r : it env J with
  | stuck => rw [r] at p; exact p.elim
  | err c fs J1 => rw [r] at p; exact flies_S p
  | ok ds J1 =>
    rw [r] at p
    have p : PostS X.K Z W n0 Xo js H D (loopD t a n0 ds env J1) := p
    intro I H1 e1 F1 wd
    obtain ⟨G, Yl, wk, hG, hY⟩ := wd.ex
    have kp : ∀ {js3 : List Addr} {H3 : Hp}, Stp n0 js js3 H1 H3 → Keeps (Yf Xo js) H1 H3 := fun {js3 H3} s a o q n => s.ext a o q fun z => n (.inr z)
    refine for_it wk (fun i σ3 H3 => ∃ js3 env3 J3, Fit X.K Z Xo js3 H3 σ3 env3 J3 ∧ Stp n0 js js3 H1 H3 ∧ PostS X.K Z W n0 Xo js3 H3 D (loopD t a n0 (ds.drop i) env3 J3)) ?_ ?_ ?_ ?_
    · exact ⟨js, env, J1, F1, .refl, PostS.later (.of_ext F1 e1) p⟩
    · rintro i σ3 H3 hi ⟨js3, env3, J3, F3, s3, p3⟩
      exact hG H3 (kp s3)
    · rintro i x σ3 H3 H4 hi ⟨js3, env3, J3, F3, s3, p3⟩ y
      obtain ⟨sm, d, hd, rd⟩ := hY (Yf Xo js3) (fun a z => z.elim (fun z => .inl (.inl z)) fun z => (s3.new a z).elim (fun z => .inl (.inr z)) .inr) i H3 x H4 hi (kp s3) F3.lists y
      have hdrop : ds.drop i = d :: ds.drop (i + 1) := by
        obtain ⟨hl, he⟩ := List.getElem?_eq_some_iff.mp hd
        rw [← he]
        exact List.drop_eq_getElem_cons hl
      rw [hdrop] at p3
      unfold loopD at p3
      have F4 : Fit X.K Z Xo js3 H4 σ3 env3 J3 := F3.same sm
      have s4 : Stp n0 js3 js3 H3 H4 := .of_ext F4 (.of sm)
      cases ht : t d env3 with
      | none => rw [ht] at p3; exact p3.elim
      | some env4 =>
        rw [ht] at p3
        refine htg _ _ _ _ _ _ _ _ _ _ F4 rd ht fun σ5 F5 => ?_
        refine ⟨Xo, js3, env4, J3, F5, ?_⟩
        have p3 : PostS X.K Z W n0 Xo js3 H3 D (match a n0 env4 J3 with
          | .nx e2 J2 => loopD t a n0 (ds.drop (i + 1)) e2 J2
          | .ct e2 J2 => loopD t a n0 (ds.drop (i + 1)) e2 J2
          | .bk e2 J2 => .nx e2 J2
          | r => r) := p3
        cases hr : a n0 env4 J3 with
        | nx e2 J2 =>
          rw [hr] at p3
          exact fun σ' H' js' s F' => ⟨js', e2, J2, F', (s3.trans s4).trans s, PostS.later (s4.trans s) p3⟩
        | ct e2 J2 =>
          rw [hr] at p3
          exact fun σ' H' js' s F' => ⟨js', e2, J2, F', (s3.trans s4).trans s, PostS.later (s4.trans s) p3⟩
        | bk e2 J2 =>
          rw [hr] at p3
          exact fun σ' H' js' s F' => p3 σ' H' js' (s4.trans s) F'
        | rt h J2 => rw [hr] at p3; exact PostS.later (r := .rt h J2) s4 p3
        | err c fs e2 J2 => rw [hr] at p3; exact PostS.later (r := .err c fs e2 J2) s4 p3
        | stuck => rw [hr] at p3; exact p3.elim
    · rintro σ3 H3 ⟨js3, env3, J3, F3, s3, p3⟩
      rw [List.drop_length] at p3
      exact p3 σ3 H3 js3 .refl F3
end

/-! ### cells: append, x[i] = e -/
def appEnd (env : En) (J : Jr) (k : Nat) : Option D → RS
  | some d => (match J[k]? with
    | some ds => if ds.length < big then .nx env (J.set k (ds ++ [d])) else .stuck
    | none => .stuck)
  | none => .stuck
def sApp (i : Nat) (f : EF) : SF := fun _ env J => match env[i]? with
  | some (some (.jar k)) => onS env (f env J) fun h J1 => appEnd env J1 k (toVal h)
  | _ => .stuck
def setEnd (env : En) (J : Jr) (k : Nat) : Option D → HV → RS
  | some d, .val (.int j) => (match J[k]? with
    | some ds => (match ixN ds.length j with | some m => .nx env (J.set k (ds.set m d)) | none => .stuck)
    | none => .stuck)
  | _, _ => .stuck
def sSetI (i : Nat) (ix f : EF) : SF := fun _ env J => match env[i]? with
  | some (some (.jar k)) => onS env (f env J) fun h J1 => onS env (ix env J1) fun hj J2 => setEnd env J2 k (toVal h) hj
  | _ => .stuck
section
variable {X : Cx} {W : WX} {n0 : Nat} {st : Stmt} {f ix : EF} {i : Nat} {Z : List Zx}
theorem s_app (h : PS X st (tDrop (tBM X.K "list" rAppend (tVar i) (tCons (tD X.K Z W f) tNil)))) : PS X st (tS X.K Z W n0 (sApp i f)) := ps_mono h fun D σ H ⟨Xo, js, env, J, F, p⟩ => by
  unfold sApp at p
  cases hs : env[i]? with
  | none => rw [hs] at p; exact p.elim
  | some o =>
    cases o with
    | none => rw [hs] at p; exact p.elim
    | some z =>
      cases z with
      | val d => rw [hs] at p; exact p.elim
      | new d => rw [hs] at p; exact p.elim
      | exc k => rw [hs] at p; exact p.elim
      | newB _ _ => rw [hs] at p; exact p.elim
      | jar k =>
        rw [hs] at p
        obtain ⟨v, hv, a, ha, rfl⟩ := F.slot i _ hs
        obtain ⟨ds0, vs0, _, hl0, _⟩ := F.at ha
        refine ⟨_, hv, .inl ⟨rfl, _, SqL.of hl0⟩, ?_⟩
        show tD X.K Z W f σ H fun x H1 => _
        refine ⟨Xo, js, env, J, F, ?_⟩
        have p : PostS X.K Z W n0 Xo js H D (onS env (f env J) fun h J1 => appEnd env J1 k (toVal h)) := p
        cases r : f env J with
        | stuck => rw [r] at p; exact p.elim
        | err c fs J1 => rw [r] at p; exact flies_S p
        | ok h J1 =>
          rw [r] at p
          intro x H1 e1 F1 x1
          have p : PostS X.K Z W n0 Xo js H D (appEnd env J1 k (toVal h)) := p
          cases hd : toVal h with
          | none => rw [hd] at p; exact p.elim
          | some d =>
            rw [hd] at p
            obtain ⟨ds, vs, hJ, hl, rs⟩ := F1.at ha
            have p : PostS X.K Z W n0 Xo js H D (match J1[k]? with
              | some ds => if ds.length < big then .nx env (J1.set k (ds ++ [d])) else .stuck
              | none => .stuck) := p
            rw [hJ] at p
            have p : PostS X.K Z W n0 Xo js H D (if ds.length < big then .nx env (J1.set k (ds ++ [d])) else .stuck) := p
            by_cases hb : ds.length < big
            · rw [if_pos hb] at p
              have r2 := repsC_append rs (repsC_of (reps_cons.mpr ⟨x, [], rfl, val_rep x1 hd, reps_nil.mpr rfl⟩))
              obtain ⟨F2, e2⟩ := F1.write ha r2
              exact ⟨a, vs, x, rfl, rfl, hl, by rw [big_eq, repsC_len rs]; exact hb, p _ _ js (.of_ext F2 (e1.trans e2)) F2⟩
            · rw [if_neg hb] at p; exact p.elim
theorem s_setI (h : PS X st (tAsg (tD X.K Z W f) (gSub (tVar i) (tD X.K Z W ix) rSetL))) : PS X st (tS X.K Z W n0 (sSetI i ix f)) := ps_mono h fun D σ H ⟨Xo, js, env, J, F, p⟩ => by
  unfold sSetI at p
  cases hs : env[i]? with
  | none => rw [hs] at p; exact p.elim
  | some o =>
    cases o with
    | none => rw [hs] at p; exact p.elim
    | some z =>
      cases z with
      | val d => rw [hs] at p; exact p.elim
      | new d => rw [hs] at p; exact p.elim
      | exc k => rw [hs] at p; exact p.elim
      | newB _ _ => rw [hs] at p; exact p.elim
      | jar k =>
        rw [hs] at p
        obtain ⟨v, hv, a, ha, rfl⟩ := F.slot i _ hs
        refine ⟨Xo, js, env, J, F, ?_⟩
        have p : PostS X.K Z W n0 Xo js H D (onS env (f env J) fun h J1 => onS env (ix env J1) fun hj J2 => setEnd env J2 k (toVal h) hj) := p
        cases r : f env J with
        | stuck => rw [r] at p; exact p.elim
        | err c fs J1 => rw [r] at p; exact flies_S p
        | ok h J1 =>
          rw [r] at p
          intro x H1 e1 F1 x1
          refine ⟨_, hv, ?_⟩
          refine ⟨Xo, js, env, J1, F1, ?_⟩
          have p : PostS X.K Z W n0 Xo js H D (onS env (ix env J1) fun hj J2 => setEnd env J2 k (toVal h) hj) := p
          cases r2 : ix env J1 with
          | stuck => rw [r2] at p; exact p.elim
          | err c fs J2 => rw [r2] at p; exact (flies_S (σ := σ) p).later e1
          | ok hj J2 =>
            rw [r2] at p
            intro y H2 e2 F2 y2
            have p : PostS X.K Z W n0 Xo js H D (setEnd env J2 k (toVal h) hj) := p
            cases hd : toVal h with
            | none => rw [hd] at p; exact p.elim
            | some d =>
              rw [hd] at p
              cases hj with
              | jar _ => exact p.elim
              | exc _ => exact p.elim
              | newB _ _ => exact p.elim
              | new _ => exact p.elim
              | val dj =>
                cases dj with
                | int j =>
                  obtain ⟨ds, vs, hJ, hl, rs⟩ := F2.at ha
                  have p : PostS X.K Z W n0 Xo js H D (match J2[k]? with
                    | some ds => (match ixN ds.length j with | some m => .nx env (J2.set k (ds.set m d)) | none => .stuck)
                    | none => .stuck) := p
                  rw [hJ] at p
                  have p : PostS X.K Z W n0 Xo js H D (match ixN ds.length j with | some m => .nx env (J2.set k (ds.set m d)) | none => .stuck) := p
                  cases hm : ixN ds.length j with
                  | none => rw [hm] at p; exact p.elim
                  | some m =>
                    rw [hm] at p
                    have rx := (val_rep x1 hd).ext F1 e2
                    obtain ⟨F3, e3⟩ := F2.write ha (repsC_set (i := m) rs rx)
                    exact ⟨a, vs, j, m, rfl, rep_int (K := X.K) (H := H2) (Y := Yf Xo js) y2, hl, by rw [repsC_len rs]; exact hm, p _ _ js (.of_ext F3 ((e1.trans e2).trans e3)) F3⟩
                | _ => exact p.elim
end

/-! ### defs -/
def startE (m : Nat) (hs : List HV) : En := hs.map some ++ List.replicate (m - hs.length) none
def outH (n : Nat) (J : Jr) : HV → R HV
  | .jar k => if k < n then .ok (.jar k) (J.take n) else match J[k]? with
    | some ds => if ds.all isP = true then .ok (.new ds) (J.take n) else .stuck
    | none => .stuck
  | h => .ok h (J.take n)
def endR (n : Nat) : RS → R HV
  | .rt h J => if n ≤ J.length then outH n J h else .stuck
  | .nx _ J => if n ≤ J.length then .ok (.val .non) (J.take n) else .stuck
  | .err c fs _ J => if n ≤ J.length then .err c fs (J.take n) else .stuck
  | _ => .stuck
def mkF (m : Nat) (g : SF) : FT := fun hs J => endR J.length (g J.length (startE m hs) J)
section
variable {P : Program} {w : World} {K : PySem.W.Frag} {mg : Str → Option Value} {base : Heap} {Xo : Addr → Prop} {js js' : List Addr} {H H' : Hp} {J J' : Jr} {env : En} {Z : List Zx}
theorem fit_start (F : Fit K Z Xo js H [] [] J) {N : List Str} : ∀ {hs : List HV} {vs : List V}, HReps K Z H (Yf Xo js) js hs vs → Fit K Z Xo js H (start N vs) (startE N.length hs) J := fun {hs vs} r => by
  refine ⟨F.out, F.nd, F.jx, F.len, ?_, F.jar, fun i h e => ?_, F.ez⟩
  · unfold start startE
    rw [List.length_append, List.length_append, List.length_map, List.length_map, List.length_replicate, List.length_replicate, hreps_len r]
  · unfold startE at e
    by_cases hi : i < hs.length
    · rw [List.getElem?_append_left (by simpa using hi), List.getElem?_map] at e
      have key : ∀ {hs : List HV} {vs : List V} {i : Nat} {h : HV}, HReps K Z H (Yf Xo js) js hs vs → hs[i]? = some h → ∃ v, vs[i]? = some v ∧ HRep K Z H (Yf Xo js) js h v := by
        intro hs
        induction hs with
        | nil => intro vs i h r e; simp at e
        | cons z zs ih =>
          intro vs i h r e
          obtain ⟨v, us, e1, h1, h2⟩ := r
          subst e1
          cases i with
          | zero => simp at e; subst e; exact ⟨v, rfl, h1⟩
          | succ i =>
            obtain ⟨u, u1, u2⟩ := ih h2 (i := i) (by simpa using e)
            exact ⟨u, by simpa using u1, u2⟩
      cases q : hs[i]? with
      | none => rw [q] at e; cases e
      | some z =>
        rw [q] at e
        cases e
        obtain ⟨v, h1, h2⟩ := key r q
        refine ⟨v, ?_, h2⟩
        unfold start
        rw [List.getElem?_append_left (by rw [List.length_map, hreps_len r]; exact hi), List.getElem?_map, h1]
        rfl
    · rw [List.getElem?_append_right (by simpa using hi), List.getElem?_replicate] at e
      split at e <;> cases e
theorem take_js (F : Fit K Z Xo js H [] [] J) (s : Stp J.length js js' H H') : js'.take J.length = js := by
  rw [s.pre, ← F.len, List.take_length]
/-- a def's promise, by its body -/
theorem fn_ok {x qual : Str} {st : Stmt} {f : Addr} {fd : FuncData} {N ps : List Str} {k : Nat} {g : SF} (F : Fun K x qual st f fd) (S : FnScope N ps (defScope st))
    (hb : ∀ (cdv : Value) (A : Around) (outer : List Env) (s : Shared) (H : Hp) (E : XK) (n0 : Nat), Room k (A.deeper (envOfC qual (defScope st) s.heap.objs.size f cdv)) →
      PSs (cxOf (L2.CX P w) P w K mg base N qual (defScope st) f cdv A outer s H E) (defBody st) (tS K [] (fun cls d _ H => E cls d H) n0 g)) : FnOk P w K mg base (L2.CX P w) (k + 1) f fd ps (spF K ps.length (mkF N.length g)) := by
  refine F.okX S spF_len fun cdv A outer s H vs Q E hr h => ?_
  obtain ⟨Xo, js, J, hs, Fi, hl, hrr, pc⟩ := h
  refine ⟨_, hb cdv A outer s H E J.length hr, Xo, js, startE N.length hs, J, fit_start Fi hrr, ?_⟩
  have pc : PostC K [] Xo js H Q E (endR J.length (g J.length (startE N.length hs) J)) := pc
  cases r : g J.length (startE N.length hs) J with
  | stuck => rw [r] at pc; exact pc
  | bk e1 J1 => rw [r] at pc; exact pc.elim
  | ct e1 J1 => rw [r] at pc; exact pc.elim
  | nx e1 J1 =>
    rw [r] at pc
    intro σ' H' js' s F'
    have pc : PostC K [] Xo js H Q E (if J.length ≤ J1.length then .ok (.val .non) (J1.take J.length) else .stuck) := pc
    by_cases hn : J.length ≤ J1.length
    · rw [if_pos hn] at pc
      have G := F'.bare.trim J.length
      rw [take_js Fi s] at G
      exact pc .non H' s.ext ⟨G, mk_non (K := K) (H := H') (Y := Yf Xo js)⟩
    · rw [if_neg hn] at pc; exact pc.elim
  | err c fs e1 J1 =>
    rw [r] at pc
    intro cls od σ' H' js' x s F'
    have pc : PostC K [] Xo js H Q E (if J.length ≤ J1.length then .err c fs (J1.take J.length) else .stuck) := pc
    by_cases hn : J.length ≤ J1.length
    · rw [if_pos hn] at pc
      have G := F'.bare.trim J.length
      have ej := take_js Fi s
      rw [ej] at G
      obtain ⟨C, c1, c2, d, us, d1, d2, d3, d4⟩ := x
      refine pc cls od H' ⟨C, c1, c2, d, us, d1, d2, d3, ?_⟩ s.ext G
      exact reps_move (fun _ _ e _ => e) (fun a y => .inl (y.elim .inl fun y => .inr (by rw [← ej] at y; exact List.mem_of_mem_take y))) F'.lists _ _ d4
    · rw [if_neg hn] at pc; exact pc.elim
  | rt h J1 =>
    rw [r] at pc
    intro v H' js' s o
    have pc : PostC K [] Xo js H Q E (if J.length ≤ J1.length then outH J.length J1 h else .stuck) := pc
    by_cases hn : J.length ≤ J1.length
    · rw [if_pos hn] at pc
      have ej := take_js Fi s
      have yy : ∀ a, Yf Xo js a → Yf Xo js' a := fun a y => y.elim .inl fun y => .inr (by rw [← ej] at y; exact List.mem_of_mem_take y)
      cases h with
      | val d =>
        have G := o.1.trim J.length
        rw [ej] at G
        exact pc v H' s.ext ⟨G, rep_move (fun _ _ e _ => e) (fun a y => .inl (yy a y)) o.1.lists _ _ o.2⟩
      | new ds =>
        obtain ⟨q, us, a1, a2, a3, a4, a5⟩ := o
        have G := a4.trim J.length
        rw [ej] at G
        refine pc v H' s.ext ⟨q, us, a1, a2, a3, G, reps_move (fun _ _ e _ => e) (fun a y => .inl ?_) a4.lists _ _ a5⟩
        rcases y with y | y
        · exact .inl y
        · rw [← ej] at y; exact .inr (List.mem_of_mem_take y)
      | exc m =>
        obtain ⟨_, a, ha, _⟩ := o
        simp at ha
      | newB xs ds =>
        obtain ⟨q, r, us, vs, a1, a2, a3, a4, a5, a6, a7, a8, a9⟩ := o
        have G := a7.trim J.length
        rw [ej] at G
        have yw : ∀ a, Yf (With (With Xo r) q) js a → Yf (With (With Xo r) q) js' a := fun a y => y.elim .inl fun y => .inr (by rw [← ej] at y; exact List.mem_of_mem_take y)
        exact pc v H' s.ext ⟨q, r, us, vs, a1, a2, a3, a4, a5, a6, G, reps_move (fun _ _ e _ => e) (fun a y => .inl (yw a y)) a7.lists _ _ a8, reps_move (fun _ _ e _ => e) (fun a y => .inl (yw a y)) a7.lists _ _ a9⟩
      | jar m =>
        obtain ⟨F', a, ha, e⟩ := o
        have G := F'.trim J.length
        rw [ej] at G
        have pc : PostC K [] Xo js H Q E (if m < J.length then .ok (.jar m) (J1.take J.length) else match J1[m]? with
          | some ds => if ds.all isP = true then .ok (.new ds) (J1.take J.length) else .stuck
          | none => .stuck) := pc
        by_cases hm : m < J.length
        · rw [if_pos hm] at pc
          exact pc v H' s.ext ⟨G, a, by rw [← ej, List.getElem?_take_of_lt hm]; exact ha, e⟩
        · rw [if_neg hm] at pc
          obtain ⟨ds, us, hJ, hl, rs⟩ := F'.at ha
          rw [hJ] at pc
          have pc : PostC K [] Xo js H Q E (if ds.all isP = true then .ok (.new ds) (J1.take J.length) else .stuck) := pc
          by_cases hpl : ds.all isP = true
          case neg => rw [if_neg hpl] at pc; exact pc.elim
          rw [if_pos hpl] at pc
          have rs := repsC_reps rs hpl
          have haj : a ∉ js := fun z => by
            obtain ⟨i, hi, ei⟩ := List.getElem_of_mem z
            have h1 : js'[i]? = some a := by
              have : (js'.take J.length)[i]? = some a := by rw [ej, List.getElem?_eq_getElem hi, ei]
              rw [List.getElem?_take_of_lt (by rw [← Fi.len]; exact hi)] at this
              exact this
            obtain ⟨b1, c1⟩ := List.getElem?_eq_some_iff.mp h1
            obtain ⟨b2, c2⟩ := List.getElem?_eq_some_iff.mp ha
            have := (List.getElem_inj F'.nd).mp (c1.trans c2.symm)
            rw [Fi.len] at hi
            omega
          have hnone : H a = none := (s.new a (List.mem_of_getElem? ha)).resolve_left haj
          have yw : ∀ b, Yf (With Xo a) js b → Yf Xo js' b := fun b y => by
            rcases y with (y | y) | y
            · exact .inl y
            · exact .inr (y ▸ List.mem_of_getElem? ha)
            · exact yy b (.inr y)
          refine pc v H' s.ext ⟨a, us, e, hnone, hl, ⟨fun b y => F'.lists b (yw b (.inl y)), G.nd, fun b hb y => ?_, G.len, rfl, fun k b ds' h1 h2 => ?_, fun i h e => (by simp at e), fun z hz => (by simp at hz)⟩, reps_move (fun _ _ e _ => e) (fun b y => .inl (yw b y)) F'.lists _ _ rs⟩
          · rcases y with y | y
            · exact G.jx b hb y
            · exact haj (y ▸ hb)
          · have hk : k < J.length := by rw [← Fi.len]; exact (List.getElem?_eq_some_iff.mp h1).1
            rw [← ej, List.getElem?_take_of_lt hk] at h1
            rw [List.getElem?_take_of_lt hk] at h2
            obtain ⟨zs, z1, z2⟩ := F'.jar k b ds' h1 h2
            exact ⟨zs, z1, repsC_moveJ (fun _ _ e _ => e) (fun b y => .inl (yw b y)) F'.lists (fun m b hm e => by rw [← ej, List.getElem?_take_of_lt (by omega)]; exact e) z2⟩
    · rw [if_neg hn] at pc; exact pc.elim
end
end L2.Pz
set_option Elab.async false
set_option linter.all false
set_option maxRecDepth 100000
set_option maxHeartbeats 4000000
set_option autoImplicit false
namespace PySem.PzW
open Sem (wp)
set_option maxHeartbeats 8000000 in
theorem meets_enumerate_newB1 {v : Value} {o : Obj} {H : Heap → Prop} (B : Begins v o H) :
    Meets (Builtin.«enumerate.__new__» ⟨[.type "enumerate", v], []⟩) (fun _ R s => H s.heap ∧
      R (.ok (.ret (.ref (s.heap.push o).objs.size))) { s with heap := (s.heap.push o).push { cls := .type "enumerate", data := .fields #[.none, .bool false, .ref s.heap.objs.size, rawInt 0, .none, .none] } }) :=
  .of_wp fun prog w A R s h => by
    obtain ⟨hp, g, d, tk, os⟩ := s; obtain ⟨h1, h⟩ := h
    have hsub := sub_enumerate
    have q1 : ∀ {A' : Around} {E : Value → Shared → Prop} {Q : Value → Shared → Prop}, Q (.ref hp.objs.size) ⟨hp.push o, g, d, tk, os⟩ → wpAny (model prog w) A' (pyIter v) Q E ⟨hp, g, d, tk, os⟩ :=
      fun q => B.iter prog w _ _ ⟨hp, g, d, tk, os⟩ _ h1 q
    wp_walk using q1
    refine wpAny_stack_any fun st => wpAny_pure ?_
    split
    · rename_i c _ _ _ _ _
      cases (c == Value.type "enumerate")
      · wp_walk using q1
        exact ⟨_, rfl, h⟩
      · wp_walk using q1
        exact ⟨_, rfl, h⟩
    · wp_walk using q1
      exact ⟨_, rfl, h⟩
section
variable {prog : Program} {w : World} {A : Around} {E : Value → Shared → Prop} {s : Shared}
theorem enum_begins1 {v : Value} {o : Obj} {H : Heap → Prop} {Q : Value → Shared → Prop} (B : Begins v o H) (h1 : H s.heap)
    (h : ∀ h', IsEnum h' (s.heap.objs.size + 1) s.heap.objs.size 0 .none → h'.get? s.heap.objs.size = some o → h'.objs.size = s.heap.objs.size + 2 →
      (∀ b o, s.heap.get? b = some o → h'.get? b = some o) → Q (.ref (s.heap.objs.size + 1)) { s with heap := h' }) :
    wpAny (model prog w) A (call (.type "enumerate") [v]) Q E s := by
  refine callType_new F.called_enumerate (by decide) (F.typeCall_enumerate_1 _) (F.newCall_enumerate_1 _) (fun obj => F.args_object_init_2 obj _) F.entry_enumerate_new
    (meets_enumerate_newB1 B) ⟨h1, ?_⟩
  have hz : (s.heap.push o).objs.size = s.heap.objs.size + 1 := Heap.size_push ..
  show _ ∧ _
  rw [hz]
  have he : IsEnum ((s.heap.push o).push { cls := .type "enumerate", data := .fields #[.none, .bool false, .ref s.heap.objs.size, rawInt 0, .none, .none] }) (s.heap.objs.size + 1) s.heap.objs.size 0 .none := by
    have := Heap.get?_push_size (s.heap.push o) (o := { cls := .type "enumerate", data := .fields #[.none, .bool false, .ref s.heap.objs.size, rawInt 0, .none, .none] }) rfl
    rw [hz] at this; exact this
  refine ⟨⟨_, he, rfl⟩, h _ he (Heap.get?_push_of_some _ (Heap.get?_push_size _ B.free)) (by rw [Heap.size_push, hz]) fun b o x => Heap.get?_push_of_some _ (Heap.get?_push_of_some _ x)⟩
end
end PySem.PzW
namespace L2.Pz
open PySem PySem.Spec PyProof.Rows
/-- pairs of a place and an item; what is walked stands while ok holds -/
def Itp (ok : Hp → Prop) (vs : List V) : It :=
  ⟨fun i H => ok H ∧ i < vs.length, fun i H v H' => ∃ T x, v = .ref T ∧ H T = none ∧ H' = upd H T (.tup [.int (i : Nat), x]) ∧ vs[i]? = some x, fun i H => ok H ∧ i = vs.length⟩
/-- enumerate over an iterator that draws -/
theorem turn_enumD {P : Program} {w : World} {K : PySem.W.Frag} {elts : List Expr} {kk : Nat} {tpos : Pos} {ok : Hp → Prop} {vs : List V} {St' : Nat → Heap → Prop} (e it : Addr)
    (hobj : ∀ i h, St' i h → ∃ o, h.get? it = some o ∧ ∀ v, o.data ≠ .cell v) (hkeep : ∀ i h h', St' i h → (∀ o, h.get? it = some o → h'.get? it = some o) → St' i h')
    (hst : ∀ (X : Cx) (pins : List (Addr × Obj)) (σ : L2.St) (H : Hp) (s : Shared) (i : Nat), X.prog = P → X.w = w → X.K = K → Inv X pins σ H s → ok H → St' i s.heap → X.A.handled = none →
      ∃ (St : Nat → Heap → Prop) (Pv : Nat → Value → Prop) (fp : List Addr), e ∉ fp ∧ St i s.heap ∧ (∀ j h, St j h → St' j h) ∧ (∀ j u, Pv j u → ∃ x, vs[j]? = some x ∧ RelV x u) ∧ Draws X.prog X.w X.A.in1 it fp vs.length Pv St) :
    Turn P w K (.Tuple elts kk tpos) (Itp ok vs) [e, it] e (fun i h => (∃ old, IsEnum h e it ((i : Nat) : Int) old) ∧ St' i h ∧ e ≠ it) where
  mem := by simp
  obj := fun i h st b hb => by
    obtain ⟨⟨old, he⟩, hs, _⟩ := st
    have e' : b = e ∨ b = it := by simpa using hb
    rcases e' with z | z
    · rw [z]; exact ⟨_, he, fun v q => nomatch q⟩
    · rw [z]; exact hobj i h hs
  keep := fun i h h' st k => let ⟨⟨old, he⟩, hs, hne⟩ := st; ⟨⟨old, k e (by simp) _ he⟩, hkeep i h h' hs fun o q => k it (by simp) o q, hne⟩
  item := by
    intro X hP hw hK hc i pins s σ H E I hf st hg
    have hh := I.ok.hd hc
    obtain ⟨⟨old, he⟩, hs', hne⟩ := st
    obtain ⟨St, Pv, fp, hfp, hs, hdown, hv, Dr⟩ := hst X pins σ H s i hP hw hK I hg.1 hs' hh
    subst hP hw hK
    have hel : e < s.heap.objs.size := Heap.lt_size he
    have hil : it < s.heap.objs.size := by obtain ⟨_, q⟩ := Dr.live _ _ hs; exact Heap.lt_size q
    refine wpAny_pyNext_enum_itemD Dr he hs hg.2 hne hfp fun u h' tk hp ho hit' hT hsz hk => ?_
    obtain ⟨x, hx, ru⟩ := hv i u hp
    refine ⟨_, rfl, wpAny_letOwnedTupleGo_enum (s := { s with heap := h', toks := tk + 1 }) ho fun h'' he' sb => ?_⟩
    have hT2 : h''.get? s.heap.objs.size = some { cls := .type "tuple", data := .seq #[.int i tk, u] } := (sb.2 _ (Nat.ne_of_gt hel)).trans hT
    have new : ObjOk X.prog X.w (upd H s.heap.objs.size (.tup [.int (i : Nat), x])) h'' s.heap.objs.size (.tup [.int (i : Nat), x]) :=
      ⟨by show 2 ≤ sizeLine; decide, [.int i tk, u], .cons ⟨_, rfl⟩ (.cons ru .nil), ⟨_, hT2, rfl, _, rfl⟩⟩
    have I1 : Inv X pins σ (upd H s.heap.objs.size (.tup [.int (i : Nat), x])) { s with heap := h'', toks := tk + 1 } :=
      I.turnedNew (ch := [e, it]) (fun b ob hb q => (sb.2 b (fun z => hb (by simp [z]))).trans (hk b ob (fun z => hb (by simp [z])) (fun z => hb (by simp [z])) q)) hf (Nat.le_refl _) new
    refine ⟨.ref s.heap.objs.size, _, I1, rfl, ⟨_, x, rfl, I.hok.fresh (Nat.le_refl _), rfl, hx⟩, ⟨⟨u, ?_⟩, hkeep _ _ _ (hdown _ _ hit') fun o q => (sb.2 it (Ne.symm hne)).trans q, hne⟩, fun b hb => ?_⟩
    · have e1 : ((i + 1 : Nat) : Int) = (i : Int) + 1 := by omega
      rw [e1]; exact he'
    · have hb' : b < s.heap.objs.size := by
        have e' : b = e ∨ b = it := by simpa using hb
        rcases e' with z | z
        · rw [z]; exact hel
        · rw [z]; exact hil
      rw [upd_ne (Nat.ne_of_lt hb')]
      exact (hf b hb).1
  done := by
    intro X hP hw hK hc i pins s σ H E I hf st hg
    have hh := I.ok.hd hc
    obtain ⟨⟨old, he⟩, hs', hne⟩ := st
    obtain ⟨St, Pv, fp, hfp, hs, hdown, hv, Dr⟩ := hst X pins σ H s i hP hw hK I hg.1 hs' hh
    subst hP hw hK
    obtain ⟨f0, f1, f2, f3, f4, f5⟩ := hf it (by simp)
    have hi : i = vs.length := hg.2
    subst hi
    exact wpAny_pyNext_enum_endD Dr he hs fun h' eb => ⟨rfl, I.turned (t' := s.toks) (fun b o hb q => eb b o hb q) f0 f1 f3 f4 f5⟩
  self := fun A i s Q E st h => let ⟨⟨_, he⟩, _⟩ := st; wpAny_pyIter_enum he h
section
variable {X : Cx} {elts : List Expr} {kk : Nat} {tpos : Pos} {e : Expr} {te : TE} {p pos : Pos} {Z : List Zx}
def iEnumT (K : PySem.W.Frag) (tl : TE) : TI := fun σ H R => tl σ H fun x H1 => (∃ a xs, x = .ref a ∧ SqL K H1 a xs ∧ R (Ite K a) H1) ∨ (∃ a xs, x = .ref a ∧ SqT K H1 a xs ∧ R (Itp (fun H => SqT K H a xs) xs) H1) ∨ ∃ z, x = .str z ∧ R (Itp (fun _ => True) (z.cps.toList.map fun c => V.str ⟨#[c]⟩)) H1
theorem tuple_ne {h : Heap} {a it : Addr} {items : Array Value} {i : Nat} (ht : h.IsTuple a items) (hi : h.IsTupleIter it a i) : a ≠ it := by
  intro z
  subst z
  obtain ⟨o, h1, h2, _⟩ := ht
  obtain ⟨o', h1', h2', _⟩ := hi
  rw [h1] at h1'; cases h1'
  rw [h2] at h2'
  injection h2' with e
  exact absurd e (by decide)
theorem pi_enumT (he : PE X e te) (hg : Gl X "enumerate") (hm : X.mg "enumerate" = none) (h1 : starEach [e] X.env = (false, eval e X.env) :: starEach [] X.env) : PI X (.Tuple elts kk tpos) (.Call (.Name "enumerate" p) [e] [] pos) (iEnumT X.K te) := by
  refine ⟨fun pins s σ H R I h => ?_⟩
  refine Call_ (ld_blt I hg hm boot_enumerate (PyProof.Rows.callWith_type1 (one_arg he I h (fun v s1 x H1 I1 r1 q1 => ?_) h1) h1))
  have fin : ∀ (h' : Heap) (J : It) (tn : Nat → Heap → Prop), Turn X.prog X.w X.K (.Tuple elts kk tpos) J [s1.heap.objs.size + 1, s1.heap.objs.size] (s1.heap.objs.size + 1) tn → tn 0 h' → (∀ b o, s1.heap.get? b = some o → h'.get? b = some o) → R J H1 →
      IsEnum h' (s1.heap.objs.size + 1) s1.heap.objs.size 0 .none → wpAny (model X.prog X.w) X.A (pyIter (.ref (s1.heap.objs.size + 1))) (PIE X pins σ (.Tuple elts kk tpos) R) X.xe { s1 with heap := h' } := fun h' J tn T st hk q hen => by
    refine wpAny_pyIter_enum hen ?_
    have I2 : Inv X pins σ H1 { s1 with heap := h' } := I1.kept (t' := s1.toks) hk
    refine ⟨s1.heap.objs.size + 1, [s1.heap.objs.size + 1, s1.heap.objs.size], _, J, H1, rfl, I2, T, st, fun b hb => ?_, q⟩
    have e' : b = s1.heap.objs.size + 1 ∨ b = s1.heap.objs.size := by simpa using hb
    have hle : s1.heap.objs.size ≤ b := by
      rcases e' with z | z
      · rw [z]; exact Nat.le_add_right _ _
      · rw [z]; exact Nat.le_refl _
    exact I1.fpOk hle (I1.hok.fresh hle)
  rcases q1 with ⟨a, xs, ex, hq, q⟩ | ⟨a, xs, ex, hq, q⟩ | ⟨z, ex, q⟩
  · subst ex
    cases r1
    obtain ⟨its, rv, p', hz⟩ := I1.list hq
    exact call_enumerate_list p'.isList fun h' he hit hsz hk => fin h' _ _ (turn_enum a (s1.heap.objs.size + 1) s1.heap.objs.size) ⟨⟨.none, he⟩, hit, Nat.succ_ne_self _⟩ hk q he
  · subst ex
    cases r1
    obtain ⟨its, rv, p', hz⟩ := I1.tuple hq
    refine PzW.enum_begins1 (begins_tuple a its.toArray) (show s1.heap.IsTuple a its.toArray from p') fun h' he hit hsz hk => ?_
    have hlt : a < s1.heap.objs.size := p'.lt
    refine fin h' _ _ (turn_enumD (ok := fun H => SqT X.K H a xs) (vs := xs) (St' := fun i h => h.IsTupleIter s1.heap.objs.size a i) (s1.heap.objs.size + 1) s1.heap.objs.size ?_ ?_ ?_)
      ⟨⟨.none, he⟩, ⟨_, hit, rfl, rfl⟩, Nat.succ_ne_self _⟩ hk q he
    · intro i h st
      obtain ⟨o, ho, hc, hd⟩ := st
      exact ⟨o, ho, fun v q => by rw [hd] at q; cases q⟩
    · intro i h h' st k
      exact st.at k
    · intro X' pins' σ' H' s' i hP hw hK I' hok st hh
      obtain ⟨its', rv', p2, hz'⟩ := I'.tuple (a := a) (xs := xs) (by rw [hK]; exact hok)
      refine ⟨fun i h => h.IsTupleIter s1.heap.objs.size a i ∧ h.IsTuple a its'.toArray, fun i v => its'.toArray[i]? = some v, [s1.heap.objs.size, a], ?_, ⟨st, p2⟩, fun _ _ z => z.1, ?_, ?_⟩
      · intro z
        have z' : s1.heap.objs.size + 1 = s1.heap.objs.size ∨ s1.heap.objs.size + 1 = a := by simpa using z
        rcases z' with z | z
        · exact absurd z (Nat.succ_ne_self _)
        · exact absurd hlt (by rw [← z]; exact Nat.not_lt.mpr (Nat.le_succ _))
      · intro i u hu
        have hu' : its'[i]? = some u := by simpa using hu
        have hi : i < xs.length := by rw [rv'.length]; exact (List.getElem?_eq_some_iff.mp hu').1
        obtain ⟨u', e1, r⟩ := rv'.get (List.getElem?_eq_getElem hi)
        rw [hu'] at e1; cases e1
        exact ⟨_, List.getElem?_eq_getElem hi, r⟩
      · have := Draws.tuple (prog := X'.prog) (w := X'.w) (A := X'.A.in1) (show X'.A.in1.handled = none from hh) s1.heap.objs.size a (tuple_ne (show s'.heap.IsTuple a its'.toArray from p2) st) its'.toArray
        have el : its'.toArray.size = xs.length := by rw [List.size_toArray, rv'.length]
        rw [el] at this
        exact this
  · subst ex
    obtain ⟨t, rfl⟩ := r1
    refine PzW.enum_begins1 (begins_text z t) trivial fun h' he hit hsz hk => ?_
    refine fin h' _ _ (turn_enumD (ok := fun _ => True) (vs := z.cps.toList.map fun c => V.str ⟨#[c]⟩) (St' := fun i h => h.IsStrIter s1.heap.objs.size (strIterType z) z t i) (s1.heap.objs.size + 1) s1.heap.objs.size ?_ ?_ ?_)
      ⟨⟨.none, he⟩, ⟨_, hit, rfl, rfl⟩, Nat.succ_ne_self _⟩ hk q he
    · intro i h st
      obtain ⟨o, ho, hc, hd⟩ := st
      exact ⟨o, ho, fun v q => by rw [hd] at q; cases q⟩
    · intro i h h' st k
      obtain ⟨o, ho, r⟩ := st
      exact ⟨o, k o ho, r⟩
    · intro X' pins' σ' H' s' i hP hw hK I' hok st hh
      refine ⟨_, fun i v => ∃ c u, z.cps[i]? = some c ∧ v = .str ⟨#[c]⟩ u, [s1.heap.objs.size], by simp, st, fun _ _ z => z, ?_, ?_⟩
      · rintro i u ⟨c, u', hc, rfl⟩
        exact ⟨.str ⟨#[c]⟩, by rw [List.getElem?_map]; simp [hc], ⟨u', rfl⟩⟩
      · have e0 : (z.cps.toList.map fun c => V.str ⟨#[c]⟩).length = z.cps.size := by simp
        rw [e0]
        exact Draws.text (A := X'.A.in1) (show X'.A.in1.handled = none from hh) _ z t
end
/-! ### enumerate over data -/
def pairUp : Nat → List D → List D
  | _, [] => []
  | i, d :: ds => .tup [.int (i : Nat), d] :: pairUp (i + 1) ds
theorem pairUp_len : ∀ (ds : List D) (k : Nat), (pairUp k ds).length = ds.length
  | [], _ => rfl
  | d :: ds, k => by unfold pairUp; rw [List.length_cons, List.length_cons, pairUp_len ds]
theorem pairUp_get : ∀ (ds : List D) (k i : Nat) (d : D), ds[i]? = some d → (pairUp k ds)[i]? = some (.tup [.int ((k + i : Nat) : Int), d])
  | [], _, _, _, h => by simp at h
  | c :: ds, k, 0, d, h => by simp at h; subst h; rfl
  | c :: ds, k, i + 1, d, h => by
    have := pairUp_get ds (k + 1) i d (by simpa using h)
    unfold pairUp
    rw [List.getElem?_cons_succ, this]
    congr 4
    omega
def iEnumD (f : EF) : IF := fun env J => (f env J).bind fun h J1 => match itemsOf h with
  | some ds => .ok (pairUp 0 ds) J1
  | none => .stuck
section
variable {K : PySem.W.Frag} {H : Hp} {Y : Addr → Prop} {Z : List Zx}
theorem pair_rep {Y' : Addr → Prop} {i : Nat} {d : D} {x : V} {H1 : Hp} {T : Addr} (hl : ∀ a, Y' a → ∃ xs, H1 a = some (.lst xs)) (hT : H1 T = none) (r : Rep K H1 Y' d x) : Rep K (upd H1 T (.tup [.int (i : Nat), x])) Y' (.tup [.int (i : Nat), d]) (.ref T) :=
  rep_tup.mpr ⟨T, _, rfl, .of upd_same, reps_cons.mpr ⟨_, _, rfl, mk_int, reps_cons.mpr ⟨_, _, rfl, rep_move (fun a o e _ => same_upd hT _ _ e) (fun _ y => .inl y) hl _ _ r, reps_nil.mpr rfl⟩⟩⟩
theorem walkD_of {J : It} {ds : List D} {n : Nat} {G : Hp → Prop} {Yl : Nat → Hp → V → Hp → Prop} (hn : n = ds.length) (w : Walk J n G Yl) (hG : ∀ H1, Keeps Y H H1 → G H1)
    (hY : ∀ Y' : Addr → Prop, (∀ a, Y' a → Y a ∨ H a = none) → ∀ i H1 x H', i < ds.length → Keeps Y H H1 → Lists H1 Y' → Yl i H1 x H' → Same H1 H' ∧ ∃ d, ds[i]? = some d ∧ Rep K H' Y' d x) : WalkD K Y H J ds := by
  subst hn
  exact ⟨G, Yl, w, hG, hY⟩
theorem walkD_itp {ok : Hp → Prop} {vs : List V} {ds : List D} (hl : Lists H Y) (hok : ∀ H1, Keeps Y H H1 → ok H1) (r : Reps K H Y ds vs) : WalkD K Y H (Itp ok vs) (pairUp 0 ds) := by
  have hlen := reps_len r
  refine walkD_of (n := vs.length) (G := ok) (Yl := fun i H v H' => ∃ T x, v = .ref T ∧ H T = none ∧ H' = upd H T (.tup [.int (i : Nat), x]) ∧ vs[i]? = some x) (by rw [pairUp_len, hlen]) ⟨fun i H hi h => ⟨h, hi⟩, fun H h => ⟨h, rfl⟩, fun i H x H' _ _ y => y⟩ hok ?_
  rintro Y' hY i H1 x H' hi k l ⟨T, x', rfl, hT, rfl, hx⟩
  obtain ⟨d, h1, h2⟩ := reps_at r hx
  have := pairUp_get ds 0 i d h1
  rw [Nat.zero_add] at this
  exact ⟨same_upd hT, _, this, pair_rep l hT (rep_move k hY hl _ _ h2)⟩
theorem walkD_ite {a : Addr} {vs : List V} {ds : List D} (hl : Lists H Y) (s : LsY K H Y a vs) (r : Reps K H Y ds vs) : WalkD K Y H (Ite K a) (pairUp 0 ds) := by
  have hlen := reps_len r
  refine walkD_of (n := vs.length) (G := fun H => SqL K H a vs) (Yl := fun i H v H' => ∃ T x, v = .ref T ∧ H T = none ∧ H' = upd H T (.tup [.int (i : Nat), x]) ∧ vs[i]? = some x) (by rw [pairUp_len, hlen])
    ⟨fun i H hi h => ⟨vs, vs[i], h, List.getElem?_eq_getElem hi⟩, fun H h => ⟨vs, h, Nat.le_refl _⟩, fun i H x H' _ h y => ?_⟩ (fun H1 k => (lsY_move (Y' := Y) k (fun _ y => .inl y) s).sq) ?_
  · obtain ⟨T, x', e1, e2, e3, e4⟩ := y
    exact ⟨T, x', e1, e2, e3, e4 vs h⟩
  · rintro Y' hY i H1 x H' hi k l ⟨T, x', rfl, hT, rfl, hx⟩
    obtain ⟨d, h1, h2⟩ := reps_at r hx
    have := pairUp_get ds 0 i d h1
    rw [Nat.zero_add] at this
    exact ⟨same_upd hT, _, this, pair_rep l hT (rep_move k hY hl _ _ h2)⟩
theorem reps_chars {z : Str} : Reps K H Y (chars z) (z.cps.toList.map fun c => V.str ⟨#[c]⟩) := by
  unfold chars
  induction z.cps.toList with
  | nil => exact reps_nil.mpr rfl
  | cons c r ih => exact reps_cons.mpr ⟨_, _, rfl, mk_str, ih⟩
end
section
variable {X : Cx} {W : WX} {e : Expr} {f : EF} {p pos tpos : Pos} {elts : List Expr} {kk : Nat} {Z : List Zx}
theorem pw_enum (hg : Gl X "enumerate") (hm : X.mg "enumerate" = none) (he : PE X e (tD X.K Z W f)) (h1 : starEach [e] X.env = (false, eval e X.env) :: starEach [] X.env) : PI X (.Tuple elts kk tpos) (.Call (.Name "enumerate" p) [e] [] pos) (tW X.K Z W (iEnumD f)) := pi_mono (pi_enumT he hg hm h1) fun σ H Q ⟨Xo, js, env, J, F, p⟩ => by
  refine ⟨Xo, js, env, J, F, ?_⟩
  unfold iEnumD at p
  cases hf : f env J with
  | stuck => rw [hf] at p; exact p.elim
  | err c fs J1 => rw [hf] at p; exact p
  | ok h J1 =>
    rw [hf] at p
    intro x H1 e1 F1 x1
    have p : PostW X.K Z W Xo js H σ env Q (match itemsOf h with
      | some ds => .ok (pairUp 0 ds) J1
      | none => .stuck) := p
    have lst : ∀ ds, norm h = .val (.lst ds) → itemsOf h = some ds → (∃ a xs, x = .ref a ∧ SqL X.K H1 a xs ∧ Q (Ite X.K a) H1) := fun ds hn hi => by
      rw [hi] at p
      rw [hn] at x1
      obtain ⟨a, vs, e, s, r⟩ := rep_lst (K := X.K) (H := H1) (Y := Yf Xo js).mp x1
      exact ⟨a, vs, e, s.sq, p _ _ e1 F1 (walkD_ite F1.lists s r)⟩
    cases h with
    | jar k => exact p.elim
    | exc k => exact p.elim
    | newB _ _ => exact p.elim
    | new ds => exact .inl (lst ds rfl rfl)
    | val d =>
      cases d with
      | lst ds => exact .inl (lst ds rfl rfl)
      | tup ds =>
        obtain ⟨a, vs, e, s, r⟩ := rep_tup (K := X.K) (H := H1) (Y := Yf Xo js).mp x1
        exact .inr (.inl ⟨a, vs, e, s, p _ _ e1 F1 (walkD_itp F1.lists (fun H2 k => sqT_move k F1.lists s) r)⟩)
      | str z => exact .inr (.inr ⟨z, rep_str (K := X.K) (H := H1) (Y := Yf Xo js) x1, p _ _ e1 F1 (walkD_itp F1.lists (fun _ _ => trivial) reps_chars)⟩)
      | non => exact p.elim
      | lnk m => exact p.elim
      | bl b => exact p.elim
      | int b => exact p.elim
end

/-! ### calls by keywords alone -/
section
variable {X : Cx} {CX : CXT} {k : Nat} {f : Addr} {fd : FuncData} {ps ks : List Str} {sp : Sp} {E : XK} {x : Str} {p pos : Pos} {kws : List Keyword} {tk : TA} {g : List Value → List Value → List Value} {gV : List V → List V → List V} {Z : List Zx}
theorem pe_callK0 (F : FnOk X.prog X.w X.K X.mg X.base CX k f fd ps sp) (hr : Room k X.A) (hg : Gl X x) (hm : X.mg x = some (.ref f)) (hk : PySem.W.keepIn X.K (.ref f) = true) (hb : KBinds X.K fd ps ks g gV) (hx : Passes CX X E)
    (hkw : PK X kws tk) (hall : (backToKw pos (keywordEach kws X.env)).all (·.1.isSome) = true) (hks : (backToKw pos (keywordEach kws X.env)).filterMap (·.1) = ks)
    (hdb : (x == ("__debug__" : Str)) = false) (hpl : ((backTo pos (starEach [] X.env)).any (·.1) || (backToKw pos (keywordEach kws X.env)).any (·.1.isNone)) = false) :
    PE X (.Call (.Name x p) [] kws pos) (fun σ H Q => tk σ H fun zs H2 => sp (gV [] zs) H2 Q E) := by
  refine ⟨fun pins s σ H Q I h => ?_⟩
  refine wpAny_Call_Name_kw (ld_glob I hg hm ?_ hdb)
  refine PySem.W.callWith_KW0 (h₀ := X.base) I.ok.mod.kin hk hall (thn (hkw.run pos pins s σ H _ I h) fun ws s2 ⟨zs, H2, I2, rz, q2⟩ => ⟨I2.kIn, ?_⟩) hpl
  rw [hks]
  exact run_fnk (us := []) (vs := []) F hr hb hx I2 .nil rz q2
end
/-- the arguments by keyword put in the parameters' order -/
def permute {α : Type} (ix : List Nat) (xs : List α) : List α := ix.filterMap fun i => xs[i]?
def eCallK (F : FT) (ix : List Nat) (fs : List EF) : EF := fun env J => (eArgs fs env J).bind fun hs J1 => F (permute ix hs) J1
section
variable {X : Cx} {K : PySem.W.Frag} {H : Hp} {Y : Addr → Prop} {js : List Addr} {W : WX} {fs : List EF} {Z : List Zx}
theorem hreps_get : ∀ {hs : List HV} {vs : List V} {i : Nat}, HReps K Z H Y js hs vs → (∀ h, hs[i]? = some h → ∃ v, vs[i]? = some v ∧ HRep K Z H Y js h v) ∧ (hs[i]? = none → vs[i]? = none)
  | [], vs, i, r => by unfold HReps at r; subst r; exact ⟨fun h e => by simp at e, fun _ => by simp⟩
  | z :: zs, vs, 0, r => by
    obtain ⟨v, us, e, h1, h2⟩ := r
    subst e
    exact ⟨fun h e => by simp at e; subst e; exact ⟨v, rfl, h1⟩, fun e => by simp at e⟩
  | z :: zs, vs, i + 1, r => by
    obtain ⟨v, us, e, h1, h2⟩ := r
    subst e
    simpa using hreps_get (i := i) h2
theorem hreps_permute {hs : List HV} {vs : List V} (r : HReps K Z H Y js hs vs) : ∀ ix : List Nat, HReps K Z H Y js (permute ix hs) (permute ix vs)
  | [] => rfl
  | i :: ix => by
    have ih := hreps_permute r ix
    have q := hreps_get (i := i) r
    unfold permute at ih ⊢
    cases e : hs[i]? with
    | none => rw [List.filterMap_cons_none e, List.filterMap_cons_none (q.2 e)]; exact ih
    | some h =>
      obtain ⟨v, e1, h1⟩ := q.1 h e
      rw [List.filterMap_cons_some e, List.filterMap_cons_some e1]
      exact ⟨v, _, rfl, h1, ih⟩
theorem permute_len {α : Type} {xs : List α} : ∀ ix : List Nat, (∀ i ∈ ix, i < xs.length) → (permute ix xs).length = ix.length
  | [], _ => rfl
  | i :: ix, h => by
    have ih := permute_len ix fun j hj => h j (List.mem_cons_of_mem _ hj)
    unfold permute at ih ⊢
    rw [List.filterMap_cons_some (List.getElem?_eq_getElem (h i List.mem_cons_self)), List.length_cons, List.length_cons, ih]
theorem callK_read {n : Nat} {F : FT} {t : TA} {ix : List Nat} (hn : ∀ i ∈ ix, i < fs.length) (hx : ix.length = n) (m : ∀ σ H Q, tH X.K Z W fs σ H Q → t σ H Q) {σ : L2.St} {H : Hp} {Q : VK} {E : XK} (hE : ∀ cls od H, W cls od σ H → E cls od H) (w : tN X.K Z W (eCallK F ix fs) σ H Q) :
    t σ H fun vs H1 => spF X.K n F (permute ix vs) H1 Q E := by
  obtain ⟨Xo, js, env, J, Fi, p⟩ := w
  refine m _ _ _ ⟨Xo, js, env, J, Fi, ?_⟩
  unfold eCallK at p
  cases hf : eArgs fs env J with
  | stuck => rw [hf] at p; exact p.elim
  | err c fs J1 => rw [hf] at p; exact p
  | ok hs J1 =>
    rw [hf] at p
    intro vs H1 e1 F1 r1
    have hl : (permute ix hs).length = n := by rw [permute_len ix (by rw [eArgs_len hf]; exact hn), hx]
    refine ⟨Xo, js, J1, permute ix hs, F1.bareZ, hl, hreps_permute r1 ix, ?_⟩
    have p : PostN X.K Z W Xo js H σ env Q (F (permute ix hs) J1) := p
    cases hr : F (permute ix hs) J1 with
    | stuck => rw [hr] at p; exact p.elim
    | err c fs J2 => rw [hr] at p; exact fun cls od H2 x e2 G => hE _ _ _ (p cls od H2 x (e1.trans e2) (F1.renew e2 (fun _ h => .inl h) G))
    | ok h J2 =>
      rw [hr] at p
      intro v H2 e2 o
      refine p v H2 (e1.trans e2) ?_
      cases h with
      | val d => exact ⟨F1.renew e2 (fun _ h => .inl h) o.1, o.2⟩
      | jar k => exact ⟨F1.renew e2 (fun _ h => .inl h) o.1, o.2⟩
      | exc k =>
        obtain ⟨_, a, ha, _⟩ := o
        simp at ha
      | newB xs ds =>
        obtain ⟨q, r, us, vs, a1, a2, a3, a4, a5, a6, a7, a8⟩ := o
        exact ⟨q, r, us, vs, a1, a2, none_back e1 F1.lists a3, none_back e1 F1.lists a4, a5, a6, F1.renew e2 (fun a h => h.elim (fun h => h.elim .inl fun z => .inr (z ▸ a4)) fun z => .inr (z ▸ a3)) a7, a8⟩
      | new ds =>
        obtain ⟨q, us, a1, a2, a3, a4, a5⟩ := o
        exact ⟨q, us, a1, none_back e1 F1.lists a2, a3, F1.renew e2 (fun a h => h.elim .inl fun z => .inr (z ▸ a2)) a4, a5⟩
/-- the keywords' values -/
theorem pk_nilD : PK X [] (tH X.K Z W []) := ⟨fun pos pins s σ H Q I ⟨Xo, js, env, J, F, p⟩ => pk_nil.run pos pins s σ H Q I (p [] H .refl F rfl)⟩
theorem pk_consD {e : Expr} {f : EF} {nm : Option Str} {kpos : Pos} {kws : List Keyword} (ha : PE X e (tD X.K Z W f)) (hb : PK X kws (tH X.K Z W fs)) : PK X (⟨nm, e, kpos⟩ :: kws) (tH X.K Z W (f :: fs)) :=
  ⟨fun pos pins s σ H Q I ⟨Xo, js, env, J, F, p⟩ => (pk_cons ha hb).run pos pins s σ H Q I (by
    refine ⟨Xo, js, env, J, F, ?_⟩
    unfold eArgs at p
    cases hf : f env J with
    | stuck => rw [hf] at p; exact p.elim
    | err c fs J1 => rw [hf] at p; exact p
    | ok h J1 =>
      rw [hf] at p
      intro x H1 e1 F1 x1
      refine ⟨Xo, js, env, J1, F1, ?_⟩
      have p : PostH X.K Z W Xo js H σ env Q ((eArgs fs env J1).bind fun hs J2 => if isExc h = true then .stuck else .ok (norm h :: hs) J2) := p
      cases hg : eArgs fs env J1 with
      | stuck => rw [hg] at p; exact p.elim
      | err c fs J2 => rw [hg] at p; exact p.later e1
      | ok ds J2 =>
        rw [hg] at p
        intro vs H2 e2 F2 r2
        have p : PostH X.K Z W Xo js H σ env Q (if isExc h = true then .stuck else .ok (norm h :: ds) J2) := p
        by_cases hz : isExc h = true
        · rw [if_pos hz] at p; exact p.elim
        rw [if_neg hz] at p
        exact p (x :: vs) H2 (e1.trans e2) F2 ⟨x, vs, rfl, hrep_drop hz (x1.ext F1 e2), r2⟩)⟩
theorem vals_permute {vs : List V} {us : List Value} (r : Vals vs us) : ∀ ix : List Nat, Vals (permute ix vs) (permute ix us)
  | [] => .nil
  | i :: ix => by
    have ih := vals_permute r ix
    unfold permute at ih ⊢
    cases e : vs[i]? with
    | none => rw [List.filterMap_cons_none e, List.filterMap_cons_none (Vals.none_of r e)]; exact ih
    | some v =>
      obtain ⟨u, e1, h1⟩ := r.get e
      rw [List.filterMap_cons_some e, List.filterMap_cons_some e1]
      exact .cons h1 ih
/-- how such a call binds -/
theorem kbinds_mk {K : PySem.W.Frag} {x qual : Str} {st : Stmt} {f : Addr} {fd : FuncData} {ps ks : List Str} {ix : List Nat} (F : Fun K x qual st f fd)
    (h : ∀ (kV doc pm : Value) (an : Option Addr) (cdv ct : Value) (ws : List Value), (permute ix ws).length = ps.length → bindArgs (PySem.W.fnOf x qual (defArgs st) (defBody st) (defScope st) .none kV doc pm an cdv ct) ⟨[], ks.zip ws⟩ = pure (ps.zip (permute ix ws))) (hne : ps ≠ []) :
    KBinds K fd ps ks (fun us ws => if us.isEmpty then permute ix ws else []) (fun us ws => if us.isEmpty then permute ix ws else []) := by
  obtain ⟨oc, od, kV, doc, pm, an, cdv, ct, osl, rfl, lk, hcd⟩ := F.ex
  refine ⟨fun s us ws _ hl => ?_, fun {vs us zs ws} r1 r2 => ?_⟩
  · cases us with
    | nil => exact .of_eq (h kV doc pm an cdv ct ws hl)
    | cons u us =>
      have : ([] : List Value).length = ps.length := hl
      cases ps with
      | nil => exact (hne rfl).elim
      | cons _ _ => cases this
  · cases r1 with
    | nil => exact vals_permute r2 ix
    | cons _ _ => exact .nil
variable {k : Nat} {g : Addr} {fd : FuncData} {ps ks : List Str} {x : Str} {p pos : Pos} {F : FT} {E : XK} {kws : List Keyword} {ix : List Nat}
theorem pn_callK (G : FnOk X.prog X.w X.K X.mg X.base (L2.CX X.prog X.w) k g fd ps (spF X.K ps.length F)) (tk : Takes X (fun cls d _ H => E cls d H)) (hr : Room k X.A) (hg : Gl X x) (hm : X.mg x = some (.ref g)) (hk : PySem.W.keepIn X.K (.ref g) = true)
    (hb : KBinds X.K fd ps ks (fun us ws => if us.isEmpty then permute ix ws else []) (fun us ws => if us.isEmpty then permute ix ws else [])) (hkw : PK X kws (tH X.K Z (fun cls d _ H => E cls d H) fs)) (hn : ∀ i ∈ ix, i < fs.length) (hx : ix.length = ps.length)
    (hall : (backToKw pos (keywordEach kws X.env)).all (·.1.isSome) = true) (hks : (backToKw pos (keywordEach kws X.env)).filterMap (·.1) = ks)
    (hdb : (x == ("__debug__" : Str)) = false) (hpl : ((backTo pos (starEach [] X.env)).any (·.1) || (backToKw pos (keywordEach kws X.env)).any (·.1.isNone)) = false) :
    PE X (.Call (.Name x p) [] kws pos) (tN X.K Z (fun cls d _ H => E cls d H) (eCallK F ix fs)) :=
  pe_mono (pe_callK0 G hr hg hm hk hb (passes_call tk fun _ _ _ _ h => h) hkw hall hks hdb hpl) fun σ H Q w => callK_read (E := E) hn hx (fun _ _ _ z => z) (fun _ _ _ z => z) w
end
end L2.Pz
set_option Elab.async false
set_option linter.all false
set_option maxRecDepth 100000
set_option maxHeartbeats 4000000
set_option autoImplicit false
namespace L2.Pz
open PySem PySem.Spec PyProof.Rows
theorem hu200 {k : Nat} {A : Around} (hr : Room k A) : A.units + 200 < cLine := by
  have := hr.un
  omega
/-- no nested list that is handed on -/
def okB : HV → Bool
  | .newB _ _ => false
  | _ => true
def eNorm (f : EF) : EF := fun env J => (f env J).bind fun h J1 => if okB h = true then .ok (norm h) J1 else .stuck
def rgBig (a b : Int) : Bool := rgOk a && (rgOk b && decide ((b - a).toNat ≤ 16777216))
def eRg (mk : List D → HV) (it : IF) : EF := fun env J => (it env J).bind fun ds J1 => if ds.length ≤ 16777216 then .ok (mk ds) J1 else .stuck
section
variable {X : Cx} {W : WX} {e a b : Expr} {f g : EF} {p q pos : Pos} {Z : List Zx}
theorem toN' (h : PE X e (tD X.K Z W f)) : PE X e (tN X.K Z W (eNorm f)) := pe_mono h fun σ H Q ⟨Xo, js, env, J, F, p⟩ => by
  refine ⟨Xo, js, env, J, F, ?_⟩
  unfold eNorm at p
  cases r : f env J with
  | ok z J1 =>
    rw [r] at p
    intro v H' e1 G x
    have p : PostN X.K Z W Xo js H σ env Q (if okB z = true then .ok (norm z) J1 else .stuck) := p
    cases z with
    | newB _ _ => exact p.elim
    | val d => exact p v H' e1 ⟨G, x⟩
    | jar k => exact p v H' e1 ⟨G, x⟩
    | exc k => exact p v H' e1 ⟨G, x⟩
    | new ds => exact p v H' e1 ⟨G, x⟩
  | err c fs J1 => rw [r] at p; exact p
  | stuck => rw [r] at p; exact p
/-- a comparison with None, as a test -/
theorem pt_ofN (h : PT X e (tB (fun σ H Q => tN X.K Z W f σ H Q))) : PT X e (tT X.K Z W fun env J => toB (f env J)) := pt_mono h fun σ H Q w => toB_read w
theorem pt_isN {j pos'} (ha : PE X a (tD X.K Z W f)) : PT X (.Compare a [.Is] [.Constant .none j pos'] pos) (tT X.K Z W fun env J => toB (eUn dIsN f env J)) :=
  pt_mono (pt_cmp (pc_isN ha) rfl) fun σ H Q w => un_read (ta := tD X.K Z W f) (r := fun x H Q => Q (.bl (decide (x = .non))) H) (fo := dIsN) (fun H Y x d z Q hl hx hz q => by
    cases d with
    | non => cases hz; rw [top_non hx]; exact q _ _ (po_val mk_bl)
    | bl b => cases hz; rw [top_bl hx]; exact q _ _ (po_val mk_bl)
    | int b => cases hz; rw [top_int hx]; exact q _ _ (po_val mk_bl)
    | str b => cases hz; rw [top_str hx]; exact q _ _ (po_val mk_bl)
    | tup ds => obtain ⟨a, vs, rfl, _⟩ := top_tup hx; cases hz; exact q _ _ (po_val mk_bl)
    | lnk m => exact (top_lnk hx).elim
    | lst ds => obtain ⟨a, vs, rfl, _⟩ := hx; cases hz; exact q _ _ (po_val mk_bl)) (fun _ _ _ z => z) (toB_read w)
theorem pt_notNn {j pos'} (ha : PE X a (tD X.K Z W f)) : PT X (.Compare a [.IsNot] [.Constant .none j pos'] pos) (tT X.K Z W fun env J => toB (eUn dNotN f env J)) :=
  pt_mono (pt_cmp (pc_notN ha) rfl) fun σ H Q w => un_read (ta := tD X.K Z W f) (r := fun x H Q => Q (.bl (!decide (x = .non))) H) (fo := dNotN) (fun H Y x d z Q hl hx hz q => by
    cases d with
    | non => cases hz; rw [top_non hx]; exact q _ _ (po_val mk_bl)
    | bl b => cases hz; rw [top_bl hx]; exact q _ _ (po_val mk_bl)
    | int b => cases hz; rw [top_int hx]; exact q _ _ (po_val mk_bl)
    | str b => cases hz; rw [top_str hx]; exact q _ _ (po_val mk_bl)
    | tup ds => obtain ⟨a, vs, rfl, _⟩ := top_tup hx; cases hz; exact q _ _ (po_val mk_bl)
    | lnk m => exact (top_lnk hx).elim
    | lst ds => obtain ⟨a, vs, rfl, _⟩ := hx; cases hz; exact q _ _ (po_val mk_bl)) (fun _ _ _ z => z) (toB_read w)
theorem reps_rg {K : PySem.W.Frag} {H : Hp} {Y : Addr → Prop} (a : Int) (n : Nat) : Reps K H Y (rgD a n) ((List.range n).map fun i => V.int (a + (i : Nat))) := by
  unfold rgD
  induction List.range n with
  | nil => exact reps_nil.mpr rfl
  | cons i r ih => exact reps_cons.mpr ⟨_, _, rfl, mk_int, ih⟩
/-- list(range(n)), tuple(range(n)), with one bound or two -/
theorem rg1_read {mk : List D → HV} {σ : L2.St} {H : Hp} {Q : VK} (w : tN X.K Z W (eRg mk (iRange1 f)) σ H Q) (fin : ∀ (Xo : Addr → Prop) (js : List Addr) (H1 : Hp) (q : Addr), Lists H1 (Yf Xo js) → H1 q = none → ∀ a b, ∃ o v, PureOut X.K (Yf Xo js) H1 (upd H1 q o) (mk (rgD a (b - a).toNat)) v ∧ ∀ Q : VK, Q v (upd H1 q o) → Q (.ref q) (upd H1 q o)) : True := trivial
end
section
variable {X : Cx} {W : WX} {a b : Expr} {f g : EF} {p q pos : Pos} {Z : List Zx}
theorem rgok_of {n : Int} (h : rgOk n = true) (hb : (rgD 0 n.toNat).length ≤ 16777216) : RgOk 0 n := by
  unfold rgOk at h
  rw [Bool.and_eq_true] at h
  have h1 : -(2 ^ 62) ≤ n := of_decide_eq_true h.1
  have h2 : n < 2 ^ 62 := of_decide_eq_true h.2
  unfold rgD at hb
  rw [List.length_map, List.length_range] at hb
  exact ⟨by omega, by omega, h1, h2, by omega⟩
theorem rgok2_of {m n : Int} (h : (rgOk m && rgOk n) = true) (hb : (rgD m (n - m).toNat).length ≤ 16777216) : RgOk m n := by
  unfold rgOk at h
  rw [Bool.and_eq_true, Bool.and_eq_true, Bool.and_eq_true] at h
  have h1 : -(2 ^ 62) ≤ m := of_decide_eq_true h.1.1
  have h2 : m < 2 ^ 62 := of_decide_eq_true h.1.2
  have h3 : -(2 ^ 62) ≤ n := of_decide_eq_true h.2.1
  have h4 : n < 2 ^ 62 := of_decide_eq_true h.2.2
  unfold rgD at hb
  rw [List.length_map, List.length_range] at hb
  exact ⟨h1, h2, h3, h4, by omega⟩
theorem rg1_go {σ : L2.St} {H : Hp} {Q : VK} {mk : List D → HV} (w : tN X.K Z W (eRg mk (iRange1 f)) σ H Q) (k : Int → Int → Hp → Prop)
    (fin : ∀ (Xo : Addr → Prop) (js : List Addr) (env : En) (J : Jr) (H1 : Hp) (n : Int), Fit X.K Z Xo js H1 σ env J → Ext js H H1 → rgOk n = true → (rgD 0 n.toNat).length ≤ 16777216 → PostN X.K Z W Xo js H σ env Q (.ok (mk (rgD 0 n.toNat)) J) → k 0 n H1) : tRg1 (tD X.K Z W f) σ H k := by
  obtain ⟨Xo, js, env, J, F, p⟩ := w
  refine ⟨Xo, js, env, J, F, ?_⟩
  unfold eRg iRange1 at p
  cases hf : f env J with
  | stuck => rw [hf] at p; exact p.elim
  | err c fs J1 => rw [hf] at p; exact p
  | ok h J1 =>
    rw [hf] at p
    intro x H1 e1 F1 x1
    cases h with
    | jar k => exact p.elim
    | exc k => exact p.elim
    | newB _ _ => exact p.elim
    | new ds => exact p.elim
    | val d =>
      cases d with
      | int n =>
        refine ⟨n, rep_int (K := X.K) (H := H1) (Y := Yf Xo js) x1, ?_⟩
        have p : PostN X.K Z W Xo js H σ env Q ((if rgOk n = true then R.ok (rgD 0 n.toNat) J1 else .stuck).bind fun ds J1 => if ds.length ≤ 16777216 then .ok (mk ds) J1 else .stuck) := p
        by_cases h1 : rgOk n = true
        · rw [if_pos h1] at p
          have p : PostN X.K Z W Xo js H σ env Q (if (rgD 0 n.toNat).length ≤ 16777216 then .ok (mk (rgD 0 n.toNat)) J1 else .stuck) := p
          by_cases h2 : (rgD 0 n.toNat).length ≤ 16777216
          · rw [if_pos h2] at p
            exact fin Xo js env J1 H1 n F1 e1 h1 h2 p
          · rw [if_neg h2] at p; exact p.elim
        · rw [if_neg h1] at p; exact p.elim
      | _ => exact p.elim
theorem rg2_go {σ : L2.St} {H : Hp} {Q : VK} {mk : List D → HV} (w : tN X.K Z W (eRg mk (iRange2 f g)) σ H Q) (k : Int → Int → Hp → Prop)
    (fin : ∀ (Xo : Addr → Prop) (js : List Addr) (env : En) (J : Jr) (H1 : Hp) (m n : Int), Fit X.K Z Xo js H1 σ env J → Ext js H H1 → (rgOk m && rgOk n) = true → (rgD m (n - m).toNat).length ≤ 16777216 → PostN X.K Z W Xo js H σ env Q (.ok (mk (rgD m (n - m).toNat)) J) → k m n H1) : tRg2 (tD X.K Z W f) (tD X.K Z W g) σ H k := by
  obtain ⟨Xo, js, env, J, F, p⟩ := w
  refine ⟨Xo, js, env, J, F, ?_⟩
  unfold eRg iRange2 at p
  cases hf : f env J with
  | stuck => rw [hf] at p; exact p.elim
  | err c fs J1 => rw [hf] at p; exact p
  | ok h J1 =>
    rw [hf] at p
    intro x H1 e1 F1 x1
    refine ⟨Xo, js, env, J1, F1, ?_⟩
    have p : PostN X.K Z W Xo js H σ env Q (((g env J1).bind fun h2 J2 => rg2End J2 h h2).bind fun ds J1 => if ds.length ≤ 16777216 then .ok (mk ds) J1 else .stuck) := p
    cases hg : g env J1 with
    | stuck => rw [hg] at p; exact p.elim
    | err c fs J2 => rw [hg] at p; exact p.later e1
    | ok h2 J2 =>
      rw [hg] at p
      intro y H2 e2 F2 y2
      have x2 := x1.ext F1 e2
      have p : PostN X.K Z W Xo js H σ env Q ((rg2End J2 h h2).bind fun ds J1 => if ds.length ≤ 16777216 then .ok (mk ds) J1 else .stuck) := p
      cases h with
      | jar k => exact p.elim
      | exc k => exact p.elim
      | newB _ _ => exact p.elim
      | new ds => exact p.elim
      | val d =>
        cases d with
        | int m =>
          cases h2 with
          | jar k => exact p.elim
          | exc k => exact p.elim
          | newB _ _ => exact p.elim
          | new ds => exact p.elim
          | val d =>
            cases d with
            | int n =>
              refine ⟨m, n, rep_int (K := X.K) (H := H2) (Y := Yf Xo js) x2, rep_int (K := X.K) (H := H2) (Y := Yf Xo js) y2, ?_⟩
              have p : PostN X.K Z W Xo js H σ env Q ((if (rgOk m && rgOk n) = true then R.ok (rgD m (n - m).toNat) J2 else .stuck).bind fun ds J1 => if ds.length ≤ 16777216 then .ok (mk ds) J1 else .stuck) := p
              by_cases h1 : (rgOk m && rgOk n) = true
              · rw [if_pos h1] at p
                have p : PostN X.K Z W Xo js H σ env Q (if (rgD m (n - m).toNat).length ≤ 16777216 then .ok (mk (rgD m (n - m).toNat)) J2 else .stuck) := p
                by_cases h2 : (rgD m (n - m).toNat).length ≤ 16777216
                · rw [if_pos h2] at p
                  exact fin Xo js env J2 H2 m n F2 (e1.trans e2) h1 h2 p
                · rw [if_neg h2] at p; exact p.elim
              · rw [if_neg h1] at p; exact p.elim
            | _ => exact p.elim
        | _ => exact p.elim
abbrev mkL : List D → HV := HV.new
abbrev mkT : List D → HV := fun ds => .val (.tup ds)
theorem pn_listRg1 (hg : Gl X "list") (hm : X.mg "list" = none) (hc : X.calm = true) (he : PRg X a (tRg1 (tD X.K Z W f))) (na : starEach [a] X.env = (false, eval a X.env) :: starEach [] X.env) : PE X (.Call (.Name "list" p) [a] [] pos) (tN X.K Z W (eRg mkL (iRange1 f))) :=
  pe_mono (pe_listRg hc hg hm he na) fun σ H Q w => rg1_go w _ fun Xo js env J H1 n F1 e1 h1 h2 p => ⟨rgok_of h1 h2, fun q hq => by
    obtain ⟨e2, o⟩ := pure_out F1 e1 (po_newl F1.lists hq (reps_rg 0 n.toNat))
    have := p _ _ e2 o
    unfold rgV
    rw [Int.sub_zero]
    exact this⟩
theorem pn_tupRg1 (hg : Gl X "tuple") (hm : X.mg "tuple" = none) (hc : X.calm = true) (he : PRg X a (tRg1 (tD X.K Z W f))) (na : starEach [a] X.env = (false, eval a X.env) :: starEach [] X.env) : PE X (.Call (.Name "tuple" p) [a] [] pos) (tN X.K Z W (eRg mkT (iRange1 f))) :=
  pe_mono (pe_tupRg hc hg hm he na) fun σ H Q w => rg1_go w _ fun Xo js env J H1 n F1 e1 h1 h2 p => ⟨rgok_of h1 h2, fun q hq => by
    obtain ⟨e2, o⟩ := pure_out F1 e1 (po_newt F1.lists hq (reps_rg 0 n.toNat))
    have := p _ _ e2 o
    unfold rgV
    rw [Int.sub_zero]
    exact this⟩
theorem pn_listRg2 (hg : Gl X "list") (hm : X.mg "list" = none) (hc : X.calm = true) (he : PRg X a (tRg2 (tD X.K Z W f) (tD X.K Z W g))) (na : starEach [a] X.env = (false, eval a X.env) :: starEach [] X.env) : PE X (.Call (.Name "list" p) [a] [] pos) (tN X.K Z W (eRg mkL (iRange2 f g))) :=
  pe_mono (pe_listRg hc hg hm he na) fun σ H Q w => rg2_go w _ fun Xo js env J H1 m n F1 e1 h1 h2 p => ⟨rgok2_of h1 h2, fun q hq => by
    obtain ⟨e2, o⟩ := pure_out F1 e1 (po_newl F1.lists hq (reps_rg m (n - m).toNat))
    exact p _ _ e2 o⟩
theorem pn_tupRg2 (hg : Gl X "tuple") (hm : X.mg "tuple" = none) (hc : X.calm = true) (he : PRg X a (tRg2 (tD X.K Z W f) (tD X.K Z W g))) (na : starEach [a] X.env = (false, eval a X.env) :: starEach [] X.env) : PE X (.Call (.Name "tuple" p) [a] [] pos) (tN X.K Z W (eRg mkT (iRange2 f g))) :=
  pe_mono (pe_tupRg hc hg hm he na) fun σ H Q w => rg2_go w _ fun Xo js env J H1 m n F1 e1 h1 h2 p => ⟨rgok2_of h1 h2, fun q hq => by
    obtain ⟨e2, o⟩ := pure_out F1 e1 (po_newt F1.lists hq (reps_rg m (n - m).toNat))
    exact p _ _ e2 o⟩
end
end L2.Pz
set_option Elab.async false
set_option linter.all false
set_option maxRecDepth 100000
set_option maxHeartbeats 4000000
set_option autoImplicit false
namespace L2.Pz
open PySem PySem.Spec PyProof.Rows
/-! ### a, b = a tuple or a list -/
def tgSeq (is : List Nat) : TF := fun d env => match d with
  | .tup ds => tgs is ds env
  | .lst ds => tgs is ds env
  | _ => none
def gAny (K : PySem.W.Frag) (n : Nat) (t : TGs) : TG := fun v σ H Q => gTup K n t v σ H Q ∨ gLst K n t v σ H Q
theorem pg_any {X : Cx} {pos : Pos} {es : List Expr} {k : Nat} {t : TGs} {n : Nat} (hc : X.calm = true) (h : PGs X es t)
    (hn : (assignEach es X.env).length = n := by rfl) (hst : (assignEach es X.env).findIdx? (·.1) = none := by rfl) : PG X (.Tuple es k pos) (gAny X.K n t) :=
  ⟨fun pins s σ H v u Q I r hw => hw.elim ((pg_tup hc h hn hst).run pins s σ H v u Q I r) ((pg_lst hc h hn hst).run pins s σ H v u Q I r)⟩
theorem tgok_any {K : PySem.W.Frag} {Z : List Zx} {n : Nat} {is : List Nat} {u : TGs} (h : TgsOk K Z u is) (hn : is.length = n) : TgOk K Z (gAny K n u) (tgSeq is) := fun Xo js H σ env env' J d v Q F r e q => by
  cases d with
  | tup ds =>
    obtain ⟨a, vs, e1, s, r1⟩ := rep_tup.mp r
    exact .inl ⟨a, vs, e1, s, by rw [reps_len r1, ← hn]; exact tgs_len e, h Xo js H σ env env' J ds vs Q F r1 e q⟩
  | lst ds =>
    obtain ⟨a, vs, e1, s, r1⟩ := rep_lst.mp r
    exact .inr ⟨a, vs, e1, s.sq, by rw [reps_len r1, ← hn]; exact tgs_len e, h Xo js H σ env env' J ds vs Q F r1 e q⟩
  | _ => cases e
theorem tgin_any {K : PySem.W.Frag} {own : List Nat} {n : Nat} {u : TGs} (hu : TgsIn u own) : TgIn (gAny K n u) own := fun v σ H Q w => w.elim
  (fun ⟨a, xs, e, s, l, q⟩ => .inl ⟨a, xs, e, s, l, hu xs σ _ H Q (wipe_wipe σ own) q⟩) (fun ⟨a, xs, e, s, l, q⟩ => .inr ⟨a, xs, e, s, l, hu xs σ _ H Q (wipe_wipe σ own) q⟩)
/-! ### a def's facts -/
structure FnF (K : PySem.W.Frag) (mg : Str → Option Value) (x : Str) (st : Stmt) (f : Addr) (fd : FuncData) (ps : List Str) : Prop where
  F : Fun K x x st f fd
  b : Binds K fd ps []
  g : mg x = some (.ref f)
end L2.Pz
set_option Elab.async false
set_option linter.all false
set_option maxRecDepth 100000
set_option maxHeartbeats 4000000
set_option autoImplicit false
namespace L2.Pz
open PySem PySem.Spec PyProof.Rows
section
variable {X : Cx} {k : Nat} {g : Addr} {fd : FuncData} {ps : List Str} {x : Str} {p pos : Pos} {F : FT} {E : XK} {Z : List Zx}
/-- f(), f a def of the text -/
theorem pn_call00 (G : FnOk X.prog X.w X.K X.mg X.base (L2.CX X.prog X.w) k g fd ps (spF X.K ps.length F)) (tk : Takes X (fun cls d _ H => E cls d H)) (hr : Room k X.A) (hg : Gl X x) (hm : X.mg x = some (.ref g)) (hk : PySem.W.keepIn X.K (.ref g) = true) (hb : Binds X.K fd ps [])
    (hn : ([] : List EF).length = ps.length) (hdb : (x == ("__debug__" : Str)) = false) : PE X (.Call (.Name x p) [] [] pos) (tN X.K Z (fun cls d _ H => E cls d H) (eCall F [])) :=
  pe_mono (pe_call0 G hr hg hm hk hb .nil (passes_call tk fun _ _ _ _ h => h) hdb) fun σ H Q w => by
    have := call_read (X := X) (W := fun cls d _ H => E cls d H) (t := tNil) (E := E) hn (fun σ H Q ⟨Xo, js, env, J, Fi, p⟩ => p [] H .refl Fi rfl) (fun _ _ _ z => z) w
    unfold tCall
    simp only [List.append_nil]
    exact this
theorem pn_call000 (G : FnOk X.prog X.w X.K X.mg X.base (L2.CX X.prog X.w) k g fd ps (spF X.K ps.length F)) (hr : Room k X.A) (hg : Gl X x) (hm : X.mg x = some (.ref g)) (hk : PySem.W.keepIn X.K (.ref g) = true) (hb : Binds X.K fd ps [])
    (hn : ([] : List EF).length = ps.length) (hdb : (x == ("__debug__" : Str)) = false) : PE X (.Call (.Name x p) [] [] pos) (tN X.K Z W0 (eCall F [])) :=
  pe_mono (pe_call0 G hr hg hm hk hb .nil passL hdb) fun σ H Q w => by
    have := call_read (X := X) (W := W0) (t := tNil) (E := E0) hn (fun σ H Q ⟨Xo, js, env, J, Fi, p⟩ => p [] H .refl Fi rfl) (fun _ _ _ z => z) w
    unfold tCall
    simp only [List.append_nil]
    exact this
end
theorem fn_none {P : Program} {w : World} {K : PySem.W.Frag} {mg : Str → Option Value} {base : Heap} {CX : CXT} {k : Nat} {f : Addr} {fd : FuncData} {ps : List Str} {n : Nat} (hn : n = ps.length) : FnOk P w K mg base CX k f fd ps (spF K n fun _ _ => .stuck) :=
  ⟨fun vs H Q E h => by rw [← hn]; exact spF_len vs H Q E h, fun A outer s H args us vs Q E hr he hb hv ⟨Xo, js, J, hs, _, _, _, p⟩ => p.elim⟩
theorem cx_no {P : Program} {w : World} {H : Hp} {s : Shared} {e : Value} {s' : Shared} (h : L2.CX P w [] H s (fun _ _ _ => False) e s') : False := by
  obtain ⟨_, _, _, _, _, _, _, _, _, _, _, _, h⟩ := h
  exact h
theorem spF_start {K : PySem.W.Frag} {H : Hp} {a : Addr} {ns : List Int} {F : FT} {E : XK} (hS : SqL K H a (ns.map V.int)) (hF : F [.val (.lst (ns.map D.int))] [] = .ok (.val (.bl true)) []) : spF K 1 F [.ref a] H (fun v _ => v = .bl true) E := by
  have Fi : Fit K [] (fun _ => False) [] H [] [] [] := { out := fun _ h => h.elim, nd := List.nodup_nil, jx := (by intro a h; simp at h), len := rfl, slen := rfl, jar := (by intro k a ds h; simp at h), slot := (by intro i h e; simp at e), ez := (by intro z hz; simp at hz) }
  refine ⟨fun _ => False, [], [], [.val (.lst (ns.map D.int))], Fi, rfl, ⟨.ref a, [], rfl, ?_, rfl⟩, ?_⟩
  · refine rep_lst.mpr ⟨a, _, rfl, ?_, reps_of_ints⟩
    rcases hS with h | h
    · exact .inl ⟨h, fun y => y.elim id fun y => by simp at y⟩
    · exact .inr (.inr h)
  · rw [hF]
    exact fun v H' _ o => rep_bl (K := K) (H := H') (Y := Yf (fun _ => False) []) o.2
end L2.Pz
set_option Elab.async false
set_option linter.all false
set_option maxRecDepth 100000
set_option maxHeartbeats 4000000
set_option autoImplicit false
namespace L2.Pz
open PySem
/-! ### the logic of the pure layer: Ex (of expressions), Sx (of statements) -/
abbrev XP := Str → List (Str × D) → Jr → Prop
abbrev nX : XP := fun _ _ _ => False
def ExM {α : Type} (X : XP) (r : R α) (Q : α → Jr → Prop) : Prop := match r with
  | .ok a J => Q a J
  | .err c fs J => X c fs J
  | .stuck => False
/-- a wrapper: nothing unfolds it by itself -/
structure Ex {α : Type} (X : XP) (r : R α) (Q : α → Jr → Prop) : Prop where
  out : ExM X r Q
theorem Ex_eq {α : Type} {X : XP} {r : R α} {Q : α → Jr → Prop} : Ex X r Q = ExM X r Q := propext ⟨Ex.out, Ex.mk⟩
structure Po where
  nx : En → Jr → Prop
  rt : HV → Jr → Prop
  bk : En → Jr → Prop
  ct : En → Jr → Prop
  er : Str → List (Str × D) → En → Jr → Prop
def SxM (P : Po) (r : RS) : Prop := match r with
  | .nx e J => P.nx e J
  | .rt h J => P.rt h J
  | .bk e J => P.bk e J
  | .ct e J => P.ct e J
  | .err c fs e J => P.er c fs e J
  | .stuck => False
structure Sx (P : Po) (r : RS) : Prop where
  out : SxM P r
theorem Sx_eq {P : Po} {r : RS} : Sx P r = SxM P r := propext ⟨Sx.out, Sx.mk⟩
def OpQ {α : Type} (o : Option α) (Q : α → Prop) : Prop := match o with
  | some a => Q a
  | none => False
def nmQ (o : Option (Option HV)) (Q : HV → Prop) : Prop := match o with
  | some (some h) => Q h
  | _ => False
def jarQ (o : Option (Option HV)) (Q : Nat → Prop) : Prop := match o with
  | some (some (.jar k)) => Q k
  | _ => False
def blQ (h : HV) (Q : Bool → Prop) : Prop := match h with
  | .val (.bl b) => Q b
  | _ => False
def intQ (h : HV) (Q : Int → Prop) : Prop := match h with
  | .val (.int b) => Q b
  | _ => False
def newQ (h : HV) (Q : List D → Prop) : Prop := match h with
  | .new b => Q b
  | _ => False
@[simp] theorem OpQ_some {α : Type} {a : α} {Q : α → Prop} : OpQ (some a) Q ↔ Q a := Iff.rfl
@[simp] theorem OpQ_none {α : Type} {Q : α → Prop} : OpQ none Q ↔ False := Iff.rfl
@[simp] theorem OpQ_ite {α : Type} {a : α} {Q : α → Prop} {c : Prop} [Decidable c] : OpQ (if c then some a else none) Q ↔ c ∧ Q a := by by_cases h : c <;> simp [h, OpQ]
@[simp] theorem OpQ_map {α β : Type} {o : Option α} {f : α → β} {Q : β → Prop} : OpQ (o.map f) Q ↔ OpQ o fun a => Q (f a) := by cases o <;> exact Iff.rfl
@[simp] theorem nmQ_some {h : HV} {Q : HV → Prop} : nmQ (some (some h)) Q ↔ Q h := Iff.rfl
@[simp] theorem jarQ_some {k : Nat} {Q : Nat → Prop} : jarQ (some (some (.jar k))) Q ↔ Q k := Iff.rfl
@[simp] theorem blQ_bl {b : Bool} {Q : Bool → Prop} : blQ (.val (.bl b)) Q ↔ Q b := Iff.rfl
@[simp] theorem intQ_int {b : Int} {Q : Int → Prop} : intQ (.val (.int b)) Q ↔ Q b := Iff.rfl
@[simp] theorem newQ_new {b : List D} {Q : List D → Prop} : newQ (.new b) Q ↔ Q b := Iff.rfl
section
variable {α β : Type} {X : XP} {Q : α → Jr → Prop} {QB : β → Jr → Prop} {J : Jr} {env : En} {f g k : EF} {c d : BF} {P : Po} {n : Nat} {a b : SF}
@[simp] theorem Ex_ok {x : α} : Ex X (.ok x J) Q ↔ Q x J := by simp only [Ex_eq, Sx_eq]; exact Iff.rfl
@[simp] theorem Ex_err {cl : Str} {fs : List (Str × D)} : Ex X (.err cl fs J : R α) Q ↔ X cl fs J := by simp only [Ex_eq, Sx_eq]; exact Iff.rfl
@[simp] theorem Ex_stuck : Ex X (.stuck : R α) Q ↔ False := by simp only [Ex_eq, Sx_eq]; exact Iff.rfl
@[simp] theorem Ex_bind {r : R α} {h : α → Jr → R β} : Ex X (r.bind h) QB ↔ Ex X r fun x J => Ex X (h x J) QB := by cases r <;> first | exact Iff.rfl | (simp only [Ex_eq, Sx_eq]; exact Iff.rfl)
theorem Ex.mono {r : R α} {Q' : α → Jr → Prop} (h : Ex X r Q) (m : ∀ x J, Q x J → Q' x J) : Ex X r Q' := by
  rw [Ex_eq] at h ⊢
  cases r with
  | ok x J => exact m _ _ h
  | err c fs J => exact h
  | stuck => exact h
@[simp] theorem Ex_name {i : Nat} {Q : HV → Jr → Prop} : Ex X (eName i env J) Q ↔ nmQ env[i]? fun h => Q h J := by
  unfold eName
  cases h : env[i]? with
  | none => first | exact Iff.rfl | (simp only [Ex_eq, Sx_eq]; exact Iff.rfl)
  | some o => cases o <;> first | exact Iff.rfl | (simp only [Ex_eq, Sx_eq]; exact Iff.rfl)
@[simp] theorem Ex_c {d : D} {Q : HV → Jr → Prop} : Ex X (eC d env J) Q ↔ Q (.val d) J := by simp only [Ex_eq, Sx_eq]; exact Iff.rfl
@[simp] theorem Ex_give {o : Option HV} {Q : HV → Jr → Prop} : Ex X (give J o) Q ↔ OpQ o fun z => Q z J := by cases o <;> first | exact Iff.rfl | (simp only [Ex_eq, Sx_eq]; exact Iff.rfl)
@[simp] theorem Ex_app1 {fo : F1} {h : HV} {Q : HV → Jr → Prop} : Ex X (app1 fo J h) Q ↔ OpQ (deref J h) fun d => OpQ (fo d) fun z => Q z J := by
  unfold app1
  cases e : deref J h with
  | none => first | exact Iff.rfl | (simp only [Ex_eq, Sx_eq]; exact Iff.rfl)
  | some d => exact Ex_give
@[simp] theorem Ex_app2 {fo : F2} {h h2 : HV} {Q : HV → Jr → Prop} : Ex X (app2 fo J h h2) Q ↔ OpQ (deref J h) fun d => OpQ (deref J h2) fun e => OpQ (fo d e) fun z => Q z J := by
  unfold app2
  cases e : deref J h with
  | none => first | exact Iff.rfl | (simp only [Ex_eq, Sx_eq]; exact Iff.rfl)
  | some d =>
    cases e' : deref J h2 with
    | none => first | exact Iff.rfl | (simp only [Ex_eq, Sx_eq]; exact Iff.rfl)
    | some d' => exact Ex_give
@[simp] theorem Ex_un {fo : F1} {Q : HV → Jr → Prop} : Ex X (eUn fo f env J) Q ↔ Ex X (f env J) fun h J => OpQ (deref J h) fun d => OpQ (fo d) fun z => Q z J := by
  unfold eUn
  simp only [Ex_bind, Ex_app1]
@[simp] theorem Ex_bin {fo : F2} {Q : HV → Jr → Prop} : Ex X (eBin fo f g env J) Q ↔ Ex X (f env J) fun h J => Ex X (g env J) fun h2 J => OpQ (deref J h) fun d => OpQ (deref J h2) fun e => OpQ (fo d e) fun z => Q z J := by
  unfold eBin
  simp only [Ex_bind, Ex_app2]
theorem Ex_iff {r : R α} {Q' : α → Jr → Prop} (h : ∀ x J, Q x J ↔ Q' x J) : Ex X r Q ↔ Ex X r Q' := by
  have : Q = Q' := funext fun x => funext fun J => propext (h x J)
  rw [this]
@[simp] theorem Ex_toB {r : R HV} {Q : Bool → Jr → Prop} : Ex X (toB r) Q ↔ Ex X r fun h J => blQ h fun b => Q b J := by
  unfold toB
  rw [Ex_bind]
  refine Ex_iff fun h J => ?_
  cases h with
  | val d => cases d <;> first | exact Iff.rfl | (simp only [Ex_eq, Sx_eq]; exact Iff.rfl)
  | jar k => first | exact Iff.rfl | (simp only [Ex_eq, Sx_eq]; exact Iff.rfl)
  | exc k => first | exact Iff.rfl | (simp only [Ex_eq, Sx_eq]; exact Iff.rfl)
  | newB _ _ => first | exact Iff.rfl | (simp only [Ex_eq, Sx_eq]; exact Iff.rfl)
  | new ds => first | exact Iff.rfl | (simp only [Ex_eq, Sx_eq]; exact Iff.rfl)
@[simp] theorem Ex_cmp {fo : F2} {Q : Bool → Jr → Prop} : Ex X (bCmp fo f g env J) Q ↔ Ex X (eBin fo f g env J) fun h J => blQ h fun b => Q b J := Ex_toB
@[simp] theorem Ex_truth {Q : Bool → Jr → Prop} : Ex X (bTruth f env J) Q ↔ Ex X (f env J) fun h J => OpQ (deref J h) fun d => OpQ (truth d) fun b => Q b J := by
  unfold bTruth
  rw [Ex_bind]
  refine Ex_iff fun x J => ?_
  cases e : deref J x with
  | none => first | exact Iff.rfl | (simp only [Ex_eq, Sx_eq]; exact Iff.rfl)
  | some d =>
    dsimp only [OpQ_some]
    cases e2 : truth d <;> simp [e2]
@[simp] theorem Ex_bnot {Q : Bool → Jr → Prop} : Ex X (bNot c env J) Q ↔ Ex X (c env J) fun b J => Q (!b) J := by
  unfold bNot
  simp only [Ex_bind, Ex_ok]
@[simp] theorem Ex_band {Q : Bool → Jr → Prop} : Ex X (bAnd c d env J) Q ↔ Ex X (c env J) fun b J => if b = true then Ex X (d env J) Q else Q false J := by
  unfold bAnd
  rw [Ex_bind]
  refine Ex_iff fun x J => ?_
  cases x <;> first | exact Iff.rfl | (simp only [Ex_eq, Sx_eq]; exact Iff.rfl)
@[simp] theorem Ex_bor {Q : Bool → Jr → Prop} : Ex X (bOr c d env J) Q ↔ Ex X (c env J) fun b J => if b = true then Q true J else Ex X (d env J) Q := by
  unfold bOr
  rw [Ex_bind]
  refine Ex_iff fun x J => ?_
  cases x <;> first | exact Iff.rfl | (simp only [Ex_eq, Sx_eq]; exact Iff.rfl)
@[simp] theorem Ex_not {Q : HV → Jr → Prop} : Ex X (eNot f env J) Q ↔ Ex X (f env J) fun h J => blQ h fun b => Q (.val (.bl (!b))) J := by
  unfold eNot
  rw [Ex_bind, Ex_toB]
  first | exact Iff.rfl | (simp only [Ex_eq, Sx_eq]; exact Iff.rfl)
@[simp] theorem Ex_and {Q : HV → Jr → Prop} : Ex X (eAnd f g env J) Q ↔ Ex X (f env J) fun h J => blQ h fun b => if b = true then Ex X (g env J) Q else Q (.val (.bl false)) J := by
  unfold eAnd
  rw [Ex_bind, Ex_toB]
  refine Ex_iff fun x J => ?_
  have : ∀ b : Bool, Ex X (if b = true then g env J else .ok (.val (.bl false)) J) Q ↔ if b = true then Ex X (g env J) Q else Q (.val (.bl false)) J := fun b => by cases b <;> first | exact Iff.rfl | (simp only [Ex_eq, Sx_eq]; exact Iff.rfl)
  simp only [this]
@[simp] theorem Ex_or {Q : HV → Jr → Prop} : Ex X (eOr f g env J) Q ↔ Ex X (f env J) fun h J => blQ h fun b => if b = true then Q (.val (.bl true)) J else Ex X (g env J) Q := by
  unfold eOr
  rw [Ex_bind, Ex_toB]
  refine Ex_iff fun x J => ?_
  have : ∀ b : Bool, Ex X (if b = true then .ok (.val (.bl true)) J else g env J) Q ↔ if b = true then Q (.val (.bl true)) J else Ex X (g env J) Q := fun b => by cases b <;> first | exact Iff.rfl | (simp only [Ex_eq, Sx_eq]; exact Iff.rfl)
  simp only [this]
@[simp] theorem Ex_if {Q : HV → Jr → Prop} : Ex X (eIf c f g env J) Q ↔ Ex X (c env J) fun b J => if b = true then Ex X (f env J) Q else Ex X (g env J) Q := by
  unfold eIf
  rw [Ex_bind]
  refine Ex_iff fun x J => ?_
  cases x <;> first | exact Iff.rfl | (simp only [Ex_eq, Sx_eq]; exact Iff.rfl)
@[simp] theorem Ex_norm {Q : HV → Jr → Prop} : Ex X (eNorm f env J) Q ↔ Ex X (f env J) fun h J => okB h = true ∧ Q (norm h) J := by
  unfold eNorm
  rw [Ex_bind]
  refine Ex_iff fun x J => ?_
  by_cases h : okB x = true <;> simp [h]
@[simp] theorem okB_val {d : D} : okB (.val d) = true := rfl
@[simp] theorem okB_jar {k : Nat} : okB (.jar k) = true := rfl
@[simp] theorem okB_new {ds : List D} : okB (.new ds) = true := rfl
@[simp] theorem okB_exc {k : Nat} : okB (.exc k) = true := rfl
@[simp] theorem norm_val {d : D} : norm (.val d) = .val d := rfl
@[simp] theorem norm_exc {k : Nat} : norm (.exc k) = .exc k := rfl
@[simp] theorem norm_jar {k : Nat} : norm (.jar k) = .jar k := rfl
@[simp] theorem norm_new {ds : List D} : norm (.new ds) = .val (.lst ds) := rfl
@[simp] theorem deref_val {d : D} : deref J (.val d) = some d := rfl
@[simp] theorem deref_new {ds : List D} : deref J (.new ds) = some (.lst ds) := rfl
@[simp] theorem deref_exc {k : Nat} : deref J (.exc k) = none := rfl
@[simp] theorem deref_jar {k : Nat} : deref J (.jar k) = derefC J[k]? := rfl
@[simp] theorem derefC_none : derefC none = none := rfl
@[simp] theorem OpQ_derefC {ds : List D} {Q : D → Prop} : OpQ (derefC (some ds)) Q ↔ ds.all isP = true ∧ Q (.lst ds) := by
  show OpQ (if ds.all isP = true then some (D.lst ds) else none) Q ↔ _
  by_cases h : ds.all isP = true
  · rw [if_pos h]; exact ⟨fun z => ⟨h, z⟩, fun z => z.2⟩
  · rw [if_neg h]; exact ⟨fun z => z.elim, fun z => (h z.1).elim⟩
@[simp] theorem isP_non : isP .non = true := rfl
@[simp] theorem isP_bl {b : Bool} : isP (.bl b) = true := rfl
@[simp] theorem isP_int {b : Int} : isP (.int b) = true := rfl
@[simp] theorem isP_str {b : Str} : isP (.str b) = true := rfl
@[simp] theorem isP_tup {b : List D} : isP (.tup b) = true := rfl
@[simp] theorem isP_lst {b : List D} : isP (.lst b) = true := rfl
@[simp] theorem isP_lnk {b : Nat} : isP (.lnk b) = false := rfl
@[simp] theorem toVal_val {d : D} : toVal (.val d) = some d := rfl
@[simp] theorem toVal_new {ds : List D} : toVal (.new ds) = some (.lst ds) := rfl
@[simp] theorem toVal_exc {k : Nat} : toVal (.exc k) = none := rfl
@[simp] theorem toVal_jar {k : Nat} : toVal (.jar k) = none := rfl
@[simp] theorem Ex_items0 {Q : List D → Jr → Prop} : Ex X (eItems [] env J) Q ↔ Q [] J := by simp only [Ex_eq, Sx_eq]; exact Iff.rfl
@[simp] theorem Ex_items1 {fs : List EF} {Q : List D → Jr → Prop} : Ex X (eItems (f :: fs) env J) Q ↔ Ex X (f env J) fun h J => OpQ (toVal h) fun d => Ex X (eItems fs env J) fun ds J => Q (d :: ds) J := by
  show Ex X ((f env J).bind _) Q ↔ _
  rw [Ex_bind]
  refine Ex_iff fun x J => ?_
  cases e : toVal x with
  | none => first | exact Iff.rfl | (simp only [Ex_eq, Sx_eq]; exact Iff.rfl)
  | some d =>
    show Ex X ((eItems fs env J).bind fun ds J2 => R.ok (d :: ds) J2) Q ↔ Ex X (eItems fs env J) fun ds J => Q (d :: ds) J
    simp only [Ex_bind, Ex_ok]
theorem Ex_ite {c : Prop} [Decidable c] {x : α} : Ex X (if c then .ok x J else .stuck) Q ↔ c ∧ Q x J := by by_cases h : c <;> simp [h]
@[simp] theorem Ex_tup {fs : List EF} {Q : HV → Jr → Prop} : Ex X (eTup fs env J) Q ↔ Ex X (eItems fs env J) fun ds J => ds.length ≤ big ∧ Q (.val (.tup ds)) J := by
  unfold eTup
  rw [Ex_bind]
  exact Ex_iff fun x J => Ex_ite
@[simp] theorem Ex_lst {fs : List EF} {Q : HV → Jr → Prop} : Ex X (eLst fs env J) Q ↔ Ex X (eItems fs env J) fun ds J => ds.length ≤ big ∧ Q (.new ds) J := by
  unfold eLst
  rw [Ex_bind]
  exact Ex_iff fun x J => Ex_ite
@[simp] theorem Ex_args0 {Q : List HV → Jr → Prop} : Ex X (eArgs [] env J) Q ↔ Q [] J := by simp only [Ex_eq, Sx_eq]; exact Iff.rfl
@[simp] theorem isExc_val {d : D} : isExc (.val d) = false := rfl
@[simp] theorem isExc_new {ds : List D} : isExc (.new ds) = false := rfl
@[simp] theorem isExc_jar {k : Nat} : isExc (.jar k) = false := rfl
@[simp] theorem Ex_args1 {fs : List EF} {Q : List HV → Jr → Prop} : Ex X (eArgs (f :: fs) env J) Q ↔ Ex X (f env J) fun h J => Ex X (eArgs fs env J) fun hs J => isExc h = false ∧ Q (norm h :: hs) J := by
  show Ex X ((f env J).bind _) Q ↔ _
  simp only [Ex_bind]
  refine Ex_iff fun h J => Ex_iff fun hs J => ?_
  cases isExc h <;> simp
@[simp] theorem Ex_call {F : FT} {fs : List EF} {Q : HV → Jr → Prop} : Ex X (eCall F fs env J) Q ↔ Ex X (eArgs fs env J) fun hs J => Ex X (F hs J) Q := Ex_bind
@[simp] theorem Ex_callK {F : FT} {ix : List Nat} {fs : List EF} {Q : HV → Jr → Prop} : Ex X (eCallK F ix fs env J) Q ↔ Ex X (eArgs fs env J) fun hs J => Ex X (F (permute ix hs) J) Q := Ex_bind
@[simp] theorem Ex_rep {Q : HV → Jr → Prop} : Ex X (eRep f g env J) Q ↔ Ex X (f env J) fun h J => Ex X (g env J) fun h2 J => Ex X (repEnd J h (deref J h2)) Q := by
  unfold eRep
  simp only [Ex_bind]
@[simp] theorem Ex_repEnd {ds : List D} {k : Int} {Q : HV → Jr → Prop} : Ex X (repEnd J (.new ds) (some (.int k))) Q ↔ repOk ds.length k = true ∧ Q (.new (List.replicate k.toNat ds).flatten) J := Ex_ite
@[simp] theorem Ex_part0 {Q : Option Int → Jr → Prop} : Ex X (partV none env J) Q ↔ Q none J := by simp only [Ex_eq, Sx_eq]; exact Iff.rfl
@[simp] theorem Ex_part1 {Q : Option Int → Jr → Prop} : Ex X (partV (some f) env J) Q ↔ Ex X (f env J) fun h J => intQ h fun i => Q (some i) J := by
  show Ex X ((f env J).bind _) Q ↔ _
  rw [Ex_bind]
  refine Ex_iff fun x J => ?_
  cases x with
  | val d => cases d <;> first | exact Iff.rfl | (simp only [Ex_eq, Sx_eq]; exact Iff.rfl)
  | jar k => first | exact Iff.rfl | (simp only [Ex_eq, Sx_eq]; exact Iff.rfl)
  | exc k => first | exact Iff.rfl | (simp only [Ex_eq, Sx_eq]; exact Iff.rfl)
  | newB _ _ => first | exact Iff.rfl | (simp only [Ex_eq, Sx_eq]; exact Iff.rfl)
  | new ds => first | exact Iff.rfl | (simp only [Ex_eq, Sx_eq]; exact Iff.rfl)
@[simp] theorem Ex_sl {lo hi : Option EF} {Q : HV → Jr → Prop} : Ex X (eSl f lo hi env J) Q ↔ Ex X (f env J) fun h J => Ex X (partV lo env J) fun l J => Ex X (partV hi env J) fun u J => OpQ (deref J h) fun d => OpQ (dSl d l u) fun z => Q z J := by
  unfold eSl
  simp only [Ex_bind]
  refine Ex_iff fun h J => Ex_iff fun l J => Ex_iff fun u J => ?_
  cases e : deref J h with
  | none => first | exact Iff.rfl | (simp only [Ex_eq, Sx_eq]; exact Iff.rfl)
  | some d => exact Ex_give
@[simp] theorem Ex_iAny {Q : List D → Jr → Prop} : Ex X (iAny f env J) Q ↔ Ex X (f env J) fun h J => OpQ (itemsOf h) fun ds => Q ds J := by
  unfold iAny
  rw [Ex_bind]
  refine Ex_iff fun x J => ?_
  cases e : itemsOf x <;> first | exact Iff.rfl | (simp only [Ex_eq, Sx_eq]; exact Iff.rfl)
@[simp] theorem Ex_iEnum {Q : List D → Jr → Prop} : Ex X (iEnumD f env J) Q ↔ Ex X (f env J) fun h J => OpQ (itemsOf h) fun ds => Q (pairUp 0 ds) J := by
  unfold iEnumD
  rw [Ex_bind]
  refine Ex_iff fun x J => ?_
  cases e : itemsOf x <;> first | exact Iff.rfl | (simp only [Ex_eq, Sx_eq]; exact Iff.rfl)
@[simp] theorem Ex_range1 {Q : List D → Jr → Prop} : Ex X (iRange1 f env J) Q ↔ Ex X (f env J) fun h J => intQ h fun n => rgOk n = true ∧ Q (rgD 0 n.toNat) J := by
  unfold iRange1
  rw [Ex_bind]
  refine Ex_iff fun x J => ?_
  cases x with
  | val d =>
    cases d with
    | int n => exact Ex_ite
    | _ => first | exact Iff.rfl | (simp only [Ex_eq, Sx_eq]; exact Iff.rfl)
  | _ => first | exact Iff.rfl | (simp only [Ex_eq, Sx_eq]; exact Iff.rfl)
@[simp] theorem Ex_range2 {Q : List D → Jr → Prop} : Ex X (iRange2 f g env J) Q ↔ Ex X (f env J) fun h J => Ex X (g env J) fun h2 J => intQ h fun m => intQ h2 fun n => (rgOk m && rgOk n) = true ∧ Q (rgD m (n - m).toNat) J := by
  unfold iRange2
  simp only [Ex_bind]
  refine Ex_iff fun x J => Ex_iff fun y J => ?_
  cases x with
  | val d =>
    cases d with
    | int m =>
      cases y with
      | val d =>
        cases d with
        | int n => exact Ex_ite
        | _ => first | exact Iff.rfl | (simp only [Ex_eq, Sx_eq]; exact Iff.rfl)
      | _ => first | exact Iff.rfl | (simp only [Ex_eq, Sx_eq]; exact Iff.rfl)
    | _ => first | exact Iff.rfl | (simp only [Ex_eq, Sx_eq]; exact Iff.rfl)
  | _ => first | exact Iff.rfl | (simp only [Ex_eq, Sx_eq]; exact Iff.rfl)
@[simp] theorem Ex_rg {mk : List D → HV} {it : IF} {Q : HV → Jr → Prop} : Ex X (eRg mk it env J) Q ↔ Ex X (it env J) fun ds J => ds.length ≤ 16777216 ∧ Q (mk ds) J := by
  unfold eRg
  rw [Ex_bind]
  exact Ex_iff fun x J => Ex_ite
@[simp] theorem items_lst {ds : List D} : itemsOf (.val (.lst ds)) = some ds := rfl
@[simp] theorem items_tup {ds : List D} : itemsOf (.val (.tup ds)) = some ds := rfl
@[simp] theorem items_new {ds : List D} : itemsOf (.new ds) = some ds := rfl
@[simp] theorem items_str {z : Str} : itemsOf (.val (.str z)) = some (chars z) := rfl

/-! statements -/
@[simp] theorem Sx_nx : Sx P (.nx env J) ↔ P.nx env J := by simp only [Ex_eq, Sx_eq]; exact Iff.rfl
@[simp] theorem Sx_rt {h : HV} : Sx P (.rt h J) ↔ P.rt h J := by simp only [Ex_eq, Sx_eq]; exact Iff.rfl
@[simp] theorem Sx_bk : Sx P (.bk env J) ↔ P.bk env J := by simp only [Ex_eq, Sx_eq]; exact Iff.rfl
@[simp] theorem Sx_ct : Sx P (.ct env J) ↔ P.ct env J := by simp only [Ex_eq, Sx_eq]; exact Iff.rfl
@[simp] theorem Sx_stuck : Sx P .stuck ↔ False := by simp only [Ex_eq, Sx_eq]; exact Iff.rfl
@[simp] theorem Sx_err {cl : Str} {fs : List (Str × D)} : Sx P (.err cl fs env J) ↔ P.er cl fs env J := by simp only [Ex_eq, Sx_eq]; exact Iff.rfl
@[simp] theorem Sx_on {r : R α} {h : α → Jr → RS} : Sx P (onS env r h) ↔ Ex (fun c fs J => P.er c fs env J) r fun x J => Sx P (h x J) := by cases r <;> first | exact Iff.rfl | (simp only [Ex_eq, Sx_eq]; exact Iff.rfl)
/-- a continuation that simp does not open ahead of time -/
def Po.th (P : Po) (b : SF) (n : Nat) : Po := { P with nx := fun e J => Sx P (b n e J) }
@[simp] theorem th_nx : (P.th b n).nx env J = Sx P (b n env J) := rfl
@[simp] theorem th_rt : (P.th b n).rt = P.rt := rfl
@[simp] theorem th_bk : (P.th b n).bk = P.bk := rfl
@[simp] theorem th_ct : (P.th b n).ct = P.ct := rfl
@[simp] theorem th_er : (P.th b n).er = P.er := rfl
/-- what a loop's body has to lead to -/
def Po.lp (P : Po) (I : Nat → En → Jr → Prop) (i : Nat) : Po := { nx := I (i + 1), rt := P.rt, bk := P.nx, ct := I (i + 1), er := P.er }
@[simp] theorem lp_nx {I : Nat → En → Jr → Prop} {i : Nat} : (P.lp I i).nx env J = I (i + 1) env J := rfl
@[simp] theorem lp_rt {I : Nat → En → Jr → Prop} {i : Nat} : (P.lp I i).rt = P.rt := rfl
@[simp] theorem lp_bk {I : Nat → En → Jr → Prop} {i : Nat} : (P.lp I i).bk env J = P.nx env J := rfl
@[simp] theorem lp_ct {I : Nat → En → Jr → Prop} {i : Nat} : (P.lp I i).ct env J = I (i + 1) env J := rfl
@[simp] theorem lp_er {I : Nat → En → Jr → Prop} {i : Nat} : (P.lp I i).er = P.er := rfl
@[simp] theorem Sx_seq : Sx P (sSeq a b n env J) ↔ Sx (P.th b n) (a n env J) := by
  unfold sSeq Po.th
  cases a n env J <;> first | exact Iff.rfl | (simp only [Ex_eq, Sx_eq]; exact Iff.rfl)
@[simp] theorem Sx_next : Sx P (sNext n env J) ↔ P.nx env J := by simp only [Ex_eq, Sx_eq]; exact Iff.rfl
@[simp] theorem Sx_break : Sx P (sBreak n env J) ↔ P.bk env J := by simp only [Ex_eq, Sx_eq]; exact Iff.rfl
@[simp] theorem Sx_cont : Sx P (sCont n env J) ↔ P.ct env J := by simp only [Ex_eq, Sx_eq]; exact Iff.rfl
@[simp] theorem Sx_expr : Sx P (sExpr f n env J) ↔ Ex (fun c fs J => P.er c fs env J) (f env J) fun _ J => P.nx env J := by
  unfold sExpr
  simp only [Sx_on, Sx_nx]
@[simp] theorem Sx_ret : Sx P (sRet f n env J) ↔ Ex (fun c fs J => P.er c fs env J) (f env J) fun h J => P.rt h J := by
  unfold sRet
  simp only [Sx_on, Sx_rt]
@[simp] theorem Sx_retN : Sx P (sRetN n env J) ↔ P.rt (.val .non) J := by simp only [Ex_eq, Sx_eq]; exact Iff.rfl
@[simp] theorem Sx_set {i : Nat} : Sx P (sSet i f n env J) ↔ Ex (fun c fs J => P.er c fs env J) (f env J) fun h J => P.nx (env.set i (some (norm h))) J := by
  unfold sSet
  simp only [Sx_on, Sx_nx]
theorem Sx_ite {c : Prop} [Decidable c] : Sx P (if c then .nx env J else .stuck) ↔ c ∧ P.nx env J := by by_cases h : c <;> simp [h]
@[simp] theorem Sx_new {i : Nat} : Sx P (sNew i f n env J) ↔ Ex (fun c fs J => P.er c fs env J) (f env J) fun h J => newQ h fun ds => n ≤ J.length ∧ P.nx (env.set i (some (.jar J.length))) (J ++ [ds]) := by
  unfold sNew
  rw [Sx_on]
  refine Ex_iff fun x J => ?_
  cases x with
  | val d => first | exact Iff.rfl | (simp only [Ex_eq, Sx_eq]; exact Iff.rfl)
  | jar k => first | exact Iff.rfl | (simp only [Ex_eq, Sx_eq]; exact Iff.rfl)
  | exc k => first | exact Iff.rfl | (simp only [Ex_eq, Sx_eq]; exact Iff.rfl)
  | newB _ _ => first | exact Iff.rfl | (simp only [Ex_eq, Sx_eq]; exact Iff.rfl)
  | new ds => exact Sx_ite
@[simp] theorem Sx_asg {t : TF} : Sx P (sAsg t f n env J) ↔ Ex (fun c fs J => P.er c fs env J) (f env J) fun h J => OpQ (toVal h) fun d => OpQ (t d env) fun e1 => P.nx e1 J := by
  unfold sAsg
  rw [Sx_on]
  refine Ex_iff fun x J => ?_
  cases e : toVal x with
  | none => first | exact Iff.rfl | (simp only [Ex_eq, Sx_eq]; exact Iff.rfl)
  | some d =>
    show Sx P (match t d env with | some e1 => .nx e1 J | none => .stuck) ↔ OpQ (t d env) fun e1 => P.nx e1 J
    cases e2 : t d env <;> first | exact Iff.rfl | (simp only [Ex_eq, Sx_eq]; exact Iff.rfl)
@[simp] theorem Sx_if : Sx P (sIf c a b n env J) ↔ Ex (fun c fs J => P.er c fs env J) (c env J) fun k J => if k = true then Sx P (a n env J) else Sx P (b n env J) := by
  unfold sIf
  rw [Sx_on]
  refine Ex_iff fun x J => ?_
  cases x <;> first | exact Iff.rfl | (simp only [Ex_eq, Sx_eq]; exact Iff.rfl)
theorem Sx_for {it : IF} {t : TF} : Sx P (sFor it t a n env J) ↔ Ex (fun c fs J => P.er c fs env J) (it env J) fun ds J => Sx P (loopD t a n ds env J) := Sx_on
@[simp] theorem Sx_app {i : Nat} : Sx P (sApp i f n env J) ↔ jarQ env[i]? fun k => Ex (fun c fs J => P.er c fs env J) (f env J) fun h J => OpQ (toVal h) fun d => OpQ J[k]? fun ds => ds.length < big ∧ P.nx env (J.set k (ds ++ [d])) := by
  unfold sApp
  cases e : env[i]? with
  | none => first | exact Iff.rfl | (simp only [Ex_eq, Sx_eq]; exact Iff.rfl)
  | some o =>
    cases o with
    | none => first | exact Iff.rfl | (simp only [Ex_eq, Sx_eq]; exact Iff.rfl)
    | some z =>
      cases z with
      | val d => first | exact Iff.rfl | (simp only [Ex_eq, Sx_eq]; exact Iff.rfl)
      | new d => first | exact Iff.rfl | (simp only [Ex_eq, Sx_eq]; exact Iff.rfl)
      | exc k => first | exact Iff.rfl | (simp only [Ex_eq, Sx_eq]; exact Iff.rfl)
      | newB _ _ => first | exact Iff.rfl | (simp only [Ex_eq, Sx_eq]; exact Iff.rfl)
      | jar k =>
        rw [Sx_on]
        refine Ex_iff fun x J => ?_
        cases e1 : toVal x with
        | none => first | exact Iff.rfl | (simp only [Ex_eq, Sx_eq]; exact Iff.rfl)
        | some d =>
          unfold appEnd
          dsimp only [OpQ_some]
          cases e2 : J[k]? with
          | none => first | exact Iff.rfl | (simp only [Ex_eq, Sx_eq]; exact Iff.rfl)
          | some ds => exact Sx_ite
@[simp] theorem Sx_setI {i : Nat} {ix : EF} : Sx P (sSetI i ix f n env J) ↔ jarQ env[i]? fun k => Ex (fun c fs J => P.er c fs env J) (f env J) fun h J => Ex (fun c fs J => P.er c fs env J) (ix env J) fun hj J =>
    OpQ (toVal h) fun d => intQ hj fun j => OpQ J[k]? fun ds => OpQ (ixN ds.length j) fun m => P.nx env (J.set k (ds.set m d)) := by
  unfold sSetI
  cases e : env[i]? with
  | none => first | exact Iff.rfl | (simp only [Ex_eq, Sx_eq]; exact Iff.rfl)
  | some o =>
    cases o with
    | none => first | exact Iff.rfl | (simp only [Ex_eq, Sx_eq]; exact Iff.rfl)
    | some z =>
      cases z with
      | val d => first | exact Iff.rfl | (simp only [Ex_eq, Sx_eq]; exact Iff.rfl)
      | new d => first | exact Iff.rfl | (simp only [Ex_eq, Sx_eq]; exact Iff.rfl)
      | exc k => first | exact Iff.rfl | (simp only [Ex_eq, Sx_eq]; exact Iff.rfl)
      | newB _ _ => first | exact Iff.rfl | (simp only [Ex_eq, Sx_eq]; exact Iff.rfl)
      | jar k =>
        dsimp only
        simp only [Sx_on]
        refine Ex_iff fun x J => Ex_iff fun y J => ?_
        cases e1 : toVal x with
        | none => first | exact Iff.rfl | (simp only [Ex_eq, Sx_eq]; exact Iff.rfl)
        | some d =>
          cases y with
          | jar _ => first | exact Iff.rfl | (simp only [Ex_eq, Sx_eq]; exact Iff.rfl)
          | exc _ => first | exact Iff.rfl | (simp only [Ex_eq, Sx_eq]; exact Iff.rfl)
          | newB _ _ => first | exact Iff.rfl | (simp only [Ex_eq, Sx_eq]; exact Iff.rfl)
          | new _ => first | exact Iff.rfl | (simp only [Ex_eq, Sx_eq]; exact Iff.rfl)
          | val dj =>
            cases dj with
            | int j =>
              show Sx P (match J[k]? with
                | some ds => (match ixN ds.length j with | some m => .nx env (J.set k (ds.set m d)) | none => .stuck)
                | none => .stuck) ↔ OpQ J[k]? fun ds => OpQ (ixN ds.length j) fun m => P.nx env (J.set k (ds.set m d))
              cases e2 : J[k]? with
              | none => first | exact Iff.rfl | (simp only [Ex_eq, Sx_eq]; exact Iff.rfl)
              | some ds =>
                show Sx P (match ixN ds.length j with | some m => .nx env (J.set k (ds.set m d)) | none => .stuck) ↔ OpQ (ixN ds.length j) fun m => P.nx env (J.set k (ds.set m d))
                cases e3 : ixN ds.length j <;> first | exact Iff.rfl | (simp only [Ex_eq, Sx_eq]; exact Iff.rfl)
            | _ => first | exact Iff.rfl | (simp only [Ex_eq, Sx_eq]; exact Iff.rfl)
theorem Sx.mono {r : RS} {P' : Po} (h : Sx P r) (m1 : ∀ e J, P.nx e J → P'.nx e J) (m2 : ∀ h J, P.rt h J → P'.rt h J) (m3 : ∀ e J, P.bk e J → P'.bk e J) (m4 : ∀ e J, P.ct e J → P'.ct e J) (m5 : ∀ c fs e J, P.er c fs e J → P'.er c fs e J) : Sx P' r := by
  rw [Sx_eq] at h ⊢
  cases r with
  | nx e J => exact m1 _ _ h
  | rt h' J => exact m2 _ _ h
  | bk e J => exact m3 _ _ h
  | ct e J => exact m4 _ _ h
  | err c fs e J => exact m5 _ _ _ _ h
  | stuck => exact h
/-- a loop, by an invariant -/
theorem Sx_loop {t : TF} {ds : List D} (I : Nat → En → Jr → Prop) (h0 : I 0 env J)
    (hs : ∀ i d env J, ds[i]? = some d → I i env J → OpQ (t d env) fun e1 => Sx (P.lp I i) (a n e1 J)) (hd : ∀ env J, I ds.length env J → P.nx env J) : Sx P (loopD t a n ds env J) := by
  induction ds generalizing env J I with
  | nil => exact Sx_nx.mpr (hd _ _ h0)
  | cons d ds ih =>
    have h2 := hs 0 d env J rfl h0
    unfold loopD
    cases ht : t d env with
    | none => rw [ht] at h2; exact h2.elim
    | some e1 =>
    rw [ht] at h2
    have h2 : Sx (P.lp I 0) (a n e1 J) := h2
    dsimp only
    cases r : a n e1 J with
    | nx e J2 => rw [r] at h2; exact ih (fun i => I (i + 1)) (Sx_nx.mp h2) (fun i d env J e => hs (i + 1) d env J e) hd
    | ct e J2 => rw [r] at h2; exact ih (fun i => I (i + 1)) (Sx_ct.mp h2) (fun i d env J e => hs (i + 1) d env J e) hd
    | bk e J2 => rw [r] at h2; exact Sx_nx.mpr (Sx_bk.mp h2)
    | rt h J2 => rw [r] at h2; exact ⟨h2.out⟩
    | err c fs e J2 => rw [r] at h2; exact ⟨h2.out⟩
    | stuck => rw [r] at h2; exact (Sx_stuck.mp h2).elim
/-- a comprehension, by an invariant -/
theorem Ex_lcX {it : IF} {t : TF} {own : List Nat} {Q : HV → Jr → Prop} (h : Ex X (it env J) fun ds J => Ex nX (lcLoop t c f (wipeE env own) ds [] J) Q) : Ex X (eLc it t c f own env J) Q := by
  unfold eLc
  rw [Ex_bind]
  refine h.mono fun x J z => ?_
  cases e : lcLoop t c f (wipeE env own) x [] J with
  | ok a J => rw [e] at z; exact ⟨z.out⟩
  | err c fs J => rw [e] at z; exact z.out.elim
  | stuck => rw [e] at z; exact z.out.elim
theorem Ex_lcLoop {t : TF} {ds : List D} {Q : HV → Jr → Prop} {acc : List D} (I : Nat → List D → Jr → Prop) (h0 : I 0 acc J)
    (hs : ∀ i d acc J, ds[i]? = some d → I i acc J → OpQ (t d env) fun e1 => Ex X (c e1 J) fun b J => if b = true then Ex X (f e1 J) fun h J => OpQ (toVal h) fun y => acc.length < big ∧ I (i + 1) (acc ++ [y]) J else I (i + 1) acc J) (hd : ∀ acc J, I ds.length acc J → Q (.new acc) J) : Ex X (lcLoop t c f env ds acc J) Q := by
  induction ds generalizing acc J I with
  | nil => exact Ex_ok.mpr (hd _ _ h0)
  | cons d ds ih =>
    have h2 := hs 0 d acc J rfl h0
    unfold lcLoop
    cases ht : t d env with
    | none => rw [ht] at h2; exact h2.elim
    | some e1 =>
    rw [ht] at h2
    have h2 : Ex X (c e1 J) fun b J => if b = true then Ex X (f e1 J) fun h J => OpQ (toVal h) fun y => acc.length < big ∧ I 1 (acc ++ [y]) J else I 1 acc J := h2
    dsimp only
    rw [Ex_bind]
    refine h2.mono fun b J h2 => ?_
    cases b with
    | false => exact ih (fun i => I (i + 1)) (by simpa using h2) (fun i d acc J e => hs (i + 1) d acc J e) hd
    | true =>
      rw [if_pos rfl] at h2 ⊢
      rw [Ex_bind]
      refine h2.mono fun h J q => ?_
      cases e : toVal h with
      | none => rw [e] at q; exact q.elim
      | some y =>
      rw [e] at q
      obtain ⟨hb, q⟩ := q
      dsimp only
      rw [if_pos hb]
      exact ih (fun i => I (i + 1)) q (fun i d acc J e => hs (i + 1) d acc J e) hd
/-- a def -/
def dfX (X : XP) (m : Nat) (Q : HV → Jr → Prop) : Po where
  nx := fun _ J1 => m ≤ J1.length ∧ Q (.val .non) (J1.take m)
  rt := fun h J1 => m ≤ J1.length ∧ Ex X (outH m J1 h) Q
  bk := fun _ _ => False
  ct := fun _ _ => False
  er := fun c fs _ J1 => m ≤ J1.length ∧ X c fs (J1.take m)
theorem Ex_mkF {m : Nat} {hs : List HV} {Q : HV → Jr → Prop} : Ex X (mkF m a hs J) Q ↔ Sx (dfX X J.length Q) (a J.length (startE m hs) J) := by
  unfold mkF
  cases r : a J.length (startE m hs) J with
  | nx e J1 =>
    rw [Sx_nx]
    show Ex X (if J.length ≤ J1.length then .ok (.val .non) (J1.take J.length) else .stuck) Q ↔ (J.length ≤ J1.length ∧ _)
    by_cases hc : J.length ≤ J1.length
    · rw [if_pos hc]; exact ⟨fun z => ⟨hc, by first | exact z | exact z.out⟩, fun z => by first | exact z.2 | exact ⟨z.2⟩⟩
    · rw [if_neg hc]; exact ⟨fun z => z.out.elim, fun z => (hc z.1).elim⟩
  | rt h J1 =>
    rw [Sx_rt]
    show Ex X (if J.length ≤ J1.length then outH J.length J1 h else .stuck) Q ↔ (J.length ≤ J1.length ∧ _)
    by_cases hc : J.length ≤ J1.length
    · rw [if_pos hc]; exact ⟨fun z => ⟨hc, by first | exact z | exact z.out⟩, fun z => by first | exact z.2 | exact ⟨z.2⟩⟩
    · rw [if_neg hc]; exact ⟨fun z => z.out.elim, fun z => (hc z.1).elim⟩
  | bk e J1 => first | exact Iff.rfl | (simp only [Ex_eq, Sx_eq]; exact Iff.rfl)
  | ct e J1 => first | exact Iff.rfl | (simp only [Ex_eq, Sx_eq]; exact Iff.rfl)
  | err c fs e J1 =>
    rw [Sx_err]
    show Ex X (if J.length ≤ J1.length then .err c fs (J1.take J.length) else .stuck) Q ↔ (J.length ≤ J1.length ∧ _)
    by_cases hc : J.length ≤ J1.length
    · rw [if_pos hc]; exact ⟨fun z => ⟨hc, by first | exact z | exact z.out⟩, fun z => by first | exact z.2 | exact ⟨z.2⟩⟩
    · rw [if_neg hc]; exact ⟨fun z => z.out.elim, fun z => (hc z.1).elim⟩
  | stuck => first | exact Iff.rfl | (simp only [Ex_eq, Sx_eq]; exact Iff.rfl)
@[simp] theorem dfX_rt {m : Nat} {Q : HV → Jr → Prop} {h : HV} : (dfX X m Q).rt h J = (m ≤ J.length ∧ Ex X (outH m J h) Q) := rfl
@[simp] theorem dfX_nx {m : Nat} {Q : HV → Jr → Prop} : (dfX X m Q).nx env J = (m ≤ J.length ∧ Q (.val .non) (J.take m)) := rfl
@[simp] theorem dfX_er {m : Nat} {Q : HV → Jr → Prop} {cl : Str} {fs : List (Str × D)} : (dfX X m Q).er cl fs env J = (m ≤ J.length ∧ X cl fs (J.take m)) := rfl
@[simp] theorem outH_val {m : Nat} {d : D} : outH m J (.val d) = .ok (.val d) (J.take m) := rfl
@[simp] theorem outH_new {m : Nat} {ds : List D} : outH m J (.new ds) = .ok (.new ds) (J.take m) := rfl
theorem outH_jar {m k : Nat} {ds : List D} (h1 : m ≤ k) (h2 : J[k]? = some ds) (h3 : ds.all isP = true) : outH m J (.jar k) = .ok (.new ds) (J.take m) := by
  have : ¬ k < m := by omega
  unfold outH
  dsimp only
  rw [if_neg this, h2]
  exact if_pos h3
end
end L2.Pz
set_option Elab.async false
set_option linter.all false
set_option maxRecDepth 100000
set_option maxHeartbeats 4000000
set_option autoImplicit false
namespace L2.Pz
open PySem
theorem log2_lt' {n k : Nat} (h : n < 2 ^ k) (hk : 0 < k) : n.log2 < k := by
  by_cases h0 : n = 0
  · subst h0; simpa using hk
  · exact (Nat.log2_lt h0).mpr h
theorem rgD_len {lo : Int} {n : Nat} : (rgD lo n).length = n := by unfold rgD; simp
theorem rgD_get {lo : Int} {n i : Nat} {d : D} (h : (rgD lo n)[i]? = some d) : d = .int (lo + (i : Nat)) ∧ i < n := by
  unfold rgD at h
  rw [List.getElem?_map] at h
  by_cases hi : i < n
  · rw [List.getElem?_range hi] at h
    simp at h
    exact ⟨h.symm, hi⟩
  · rw [List.getElem?_eq_none (by simpa using hi)] at h
    cases h
theorem sIx_to {n : Nat} {i : Int} (h0 : 0 ≤ i) : HT.sIx n n (some i) = min i.toNat n := by
  obtain ⟨k, rfl⟩ := Int.eq_ofNat_of_zero_le h0
  exact HT.sIx_nat n n k
theorem sIx_from {n d : Nat} {i : Int} (h0 : 0 ≤ i) : HT.sIx n d (some i) = min i.toNat n := by
  obtain ⟨k, rfl⟩ := Int.eq_ofNat_of_zero_le h0
  exact HT.sIx_nat n d k
theorem cutD_to {ds : List D} {i : Int} (h0 : 0 ≤ i) : cutD ds none (some i) = ds.take i.toNat := by
  unfold cutD
  rw [HT.sIx_none, sIx_to h0, List.drop_zero, Nat.sub_zero]
  by_cases h : i.toNat ≤ ds.length
  · rw [Nat.min_eq_left h]
  · rw [Nat.min_eq_right (by omega), List.take_length, List.take_of_length_le (by omega)]
theorem cutD_from {ds : List D} {i : Int} (h0 : 0 ≤ i) : cutD ds (some i) none = ds.drop i.toNat := by
  unfold cutD
  rw [HT.sIx_none, sIx_from h0]
  by_cases h : i.toNat ≤ ds.length
  · rw [Nat.min_eq_left h, List.take_of_length_le (by rw [List.length_drop]; exact Nat.le_refl _)]
  · rw [Nat.min_eq_right (by omega), Nat.sub_self, List.take_zero, List.drop_of_length_le (by omega)]
theorem atI_in {α : Type} {xs : List α} {i : Int} (h0 : 0 ≤ i) (h1 : i < xs.length) : atI xs i = some (xs[i.toNat]'(by omega)) := by
  obtain ⟨k, rfl⟩ := Int.eq_ofNat_of_zero_le h0
  have hk : k < xs.length := by omega
  exact atI_nat (by simp)
theorem ixN_in {n : Nat} {i : Int} (h0 : 0 ≤ i) (h1 : i < n) : ixN n i = some i.toNat := by
  unfold ixN
  rw [if_pos h0, if_pos h1]
theorem shp_int {i : Int} : shp (.int i) = true := rfl
theorem shp_str {x : Str} : shp (.str x) = PyData.strOk x := by
  unfold shp toPy SeqAt.shaped PyData.canLay0 PyData.depth
  simp
@[simp] theorem dEq_int {i j : Int} : dEq (.int i) (.int j) = some (.val (.bl (i == j))) := by
  unfold dEq
  rw [shp_int, shp_int]
  rfl
@[simp] theorem dNe_int {i j : Int} : dNe (.int i) (.int j) = some (.val (.bl (!(i == j)))) := by
  unfold dNe
  rw [shp_int, shp_int]
  rfl
theorem dEq_str {x y : Str} (hx : PyData.strOk x = true) (hy : PyData.strOk y = true) : dEq (.str x) (.str y) = some (.val (.bl (x == y))) := by
  unfold dEq
  rw [shp_str, shp_str, hx, hy]
  rfl
section
variable {jc : List D} {T : Jr} {x y z : List D}
@[simp] theorem cell_get1 : (jc :: (T ++ [x]))[T.length + 1]? = some x := by simp
@[simp] theorem cell_set1 : (jc :: (T ++ [x])).set (T.length + 1) y = jc :: (T ++ [y]) := by simp
end
end L2.Pz
set_option Elab.async false
set_option linter.all false
set_option maxRecDepth 100000
set_option maxHeartbeats 4000000
set_option autoImplicit false
/-! own exceptions whose __init__ says super().__init__(..) and keeps its arguments -/
namespace PySem
namespace SxX
open PySem.W PySem.Calls PyProof.Rows PySem.HandSPX
/-- what the written part says of the class at C and of its __init__ at fI, whose cell of __class__ is at cc, whose code at cda -/
structure SxC (P : Program) (K : Frag) (mg : Str → Option Value) (x : Str) (C fI : Addr) (ns : List Str) : Prop where
  gC : mg x = some (.ref C)
  cls : ∃ nm q N bs bm sn sub ab col dd k0 k1 k2 k3 k5, K.lookup C = some (excClassObj nm q C N bs bm true sn sub ab col dd k0 k1 k2 k3 k5 "ValueError.__new__") ∧ refsVE bm = true
  sa : findIn K (.ref C) "__setattr__" = some (some (.builtin "object.__setattr__"))
  noN : ∀ n ∈ ns, findIn K (.ref C) n = some none
  iC : findIn K (.ref C) "__init__" = some (some (.ref fI))
  tI : typeIn K (.ref fI) = some (.type "function")
  kC : keepIn K (.ref C) = true
  exC : subIn K (.ref C) (.type "BaseException") = some true
  veC : subIn K (.ref C) (.type "ValueError") = some true
  tyC : typeIn K (.ref C) = some (.type "type")
  sup : ks_superIn K C C "__init__" = some (some (.builtin "ValueError.__init__"))
  own : mroIn K C (.ref C) = some true
  opq : nsIn K cStatics "thirdparty.any" = some none
  gS : mg "super" = none
  top : (P.main.scope.names.lookup ("super" : Str)).isSome = false
theorem one_size (v : Value) : [v].length ≤ sizeLine := by
  rw [sizeLine_eq]
  exact (by decide : 1 ≤ 16777216)
theorem two_size (v u : Value) : [v, u].length ≤ sizeLine := by
  rw [sizeLine_eq]
  exact (by decide : 2 ≤ 16777216)
section
variable {prog : Program} {w : World} {A : Around} {E : Value → Shared → Prop} {h : Heap} {g : Array GenState} {d : Drawn} {t : Nat} {os : OsState} {K : Frag}
/-- super().__init__(..) bound: called -/
theorem call_mw {C e t0 u : Addr} {rest : List Value} {Q : Value → Shared → Prop}
    (hC : ∃ nm q N bs bm sn sub ab col dd k0 k1 k2 k3 k5, K.lookup C = some (excClassObj nm q C N bs bm true sn sub ab col dd k0 k1 k2 k3 k5 "ValueError.__new__") ∧ refsVE bm = true) (X : K.In h)
    (he : h.get? e = some (excO C t0)) (hu : h.get? u = some (kxs_mw "ValueError.__init__" e)) (hrest : rest.length ≤ sizeLine)
    (hq : ∀ h' t1, (∀ b o, b ≠ e → h.get? b = some o → h'.get? b = some o) → h'.get? e = some (excO C t1) → Q .none ⟨h', g, d, t, os⟩) :
    wpAny (model prog w) A (call (.ref u) rest) Q E ⟨h, g, d, t, os⟩ := by
  obtain ⟨nm, q, N, bs, bm, sn, sub, ab, col, dd, k0, k1, k2, k3, k5, hC, hbm⟩ := hC
  have hC := X _ _ hC
  have FB := F.excBase_ValueError
  refine wpAny_call (codeAny_of_tree ?_)
  show wpAny _ A.in1 (callAny (.ref u) ⟨rest, []⟩) _ _ _
  simp only [callAny]
  refine wpAny_bind (wpAny_load hu ?_)
  simp only [kxs_mw, show (Value.type "method-wrapper" == Value.type "method" || Value.type "method-wrapper" == Value.type "builtin_function_or_method" || Value.type "method-wrapper" == Value.type "method-wrapper") = true by decide, if_true]
  refine KFB.if_so (by decide) ?_
  refine wpAny_bind (check_bound_init FB.toExcCallFacts hC he rfl ?_)
  refine wpAny_bind (wpAny_pure (wpAny_pure ?_))
  refine ⟨plainId_quiet FB.init.plain _, codeAny_builtin FB.initEntry ?_⟩
  rw [Around.under_plainId FB.init.plain _]
  wp_walk
  refine hq _ h.objs.size (fun b o hb ho => ?_) ?_
  · rw [Heap.get?_update_other _ _ (Ne.symm hb)]
    exact Heap.get?_push_of_some _ ho
  · rw [Heap.get?_update_self _ (Heap.get?_push_of_some _ he) rfl]
    rfl
end
section
variable {prog : Program} {w : World} {A : Around} {R : Result → Shared → Prop} {s : Shared} {K : Frag} {mg : Str → Option Value}
structure InitEnd (h h' : Heap) (x C dx : Addr) (m : Str → Option Value) : Prop where
  keep : ∀ b o, b ≠ x → h.get? b = some o → h'.get? b = some o
  obj : ∃ t1 : Addr, h'.get? x = some { cls := .ref C, dict := some dx, data := .fields #[.ref t1, .none, .none, .none, .bool false, .none] }
  dbig : h.objs.size ≤ dx
  dne : dx ≠ x
  ns : h'.Ns1 dx m
/-- a made exception -/
structure OwnMade (h h' : Heap) (e C d : Addr) (m : Str → Option Value) : Prop where
  keep : ∀ b o, h.get? b = some o → h'.get? b = some o
  new : h.objs.size ≤ e
  obj : ∃ oe vs, h'.get? e = some oe ∧ oe.cls = .ref C ∧ oe.dict = some d ∧ oe.data = .fields vs ∧ vs[1]? = some .none
  dbig : h.objs.size ≤ d
  dne : d ≠ e
  ns : h'.Ns1 d m
theorem ldE {M : Model} {env : Env} {E : Value → Shared → Prop} {m : Str → Option Value} {x : Str} {pos : Pos} {v : Value} {Q : Value → Shared → Prop} (hn : s.heap.Ns env.locals m) (hv : m x = some v) (h : Q v s)
    (hk : env.scope.kind = .function) (hl : env.kindOf x = some .local) (hd : (x == ("__debug__" : Str)) = false) : wpAny M A (eval (.Name x pos) env) Q E s := wpAny_Name (wpAny_loadName_local hk hl hn hv h) hd
theorem in_but {h h' : Heap} {x : Addr} (X : K.In h) (hx : K.lookup x = none) (k : ∀ b o, b ≠ x → h.get? b = some o → h'.get? b = some o) : K.In h' := fun a o z =>
  k a o (fun y => by rw [y, hx] at z; cases z) (X a o z)
theorem cw1 {M : Model} {E : Value → Shared → Prop} {pos : Pos} {env : Env} {a : Expr} {rest : List Expr} {u x : Addr} {i : String} {Q : Value → Shared → Prop}
    (h : wpAny M A (spliced (backTo pos (starEach (a :: rest) env))) (fun vs s₁ => KxsAt i u x s₁.heap ∧ wpAny M A (call (.ref u) vs) Q E s₁) E s)
    (he : starEach (a :: rest) env = (false, eval a env) :: starEach rest env) (hplain : (backTo pos (starEach rest env)).any (·.1) = false) :
    wpAny M A (callWith pos (.ref u) [] (backTo pos (starEach (a :: rest) env)) []) Q E s := by
  rw [he] at h ⊢
  refine kxs_callWith (i := i) (x := x) (by show (false || (backTo pos (starEach rest env)).any (·.1)) = false; rw [hplain]; rfl) ?_
  exact evalArgs_plain h
theorem mc_eq {o : Expr} {name : Str} {apos pos : Pos} {args : List Expr} {env : Env} (hp : (apos.endLine == pos.line) = true) (hf : methodCallForm (args.length + 0) (backTo pos (starEach args env)) [] = true) :
    eval (.Call (.Attribute o name apos) args [] pos) env = (do
      let ov ← attributeBase o name env (eval o env)
      standAt apos.atName
      let (f, first) ← holding [ov] (getMethod ov name (do return (← importBound o env).getD true))
      callWith pos f first (backTo pos (starEach args env)) []) := by
  show (do
    let ov ← attributeBase o name env (eval o env)
    standAt apos.atName
    methodCall o name apos pos env ov (args.length + 0) (backTo pos (starEach args env)) []) = _
  have hm : methodCallPos (methodCallForm (args.length + 0) (backTo pos (starEach args env)) []) o env apos pos = pure pos := by
    unfold methodCallPos
    rw [if_pos (by rw [hp, Bool.or_true])]
  unfold methodCall
  rw [hm, hf]
  rfl
end
def iA_at (p1 p2 : Pos) : Arguments := { posonlyargs := [], args := [{ arg := "self", annotation := none, pos := p1 }, { arg := "at", annotation := none, pos := p2 }], vararg := none, kwonlyargs := [], kw_defaults := [], kwarg := none, defaults := [] }
def iB_at (b0 b1 b2 b3 b4 a0 c0 d0 e0 f0 : Pos) : List Stmt := [.Expr (.Call (.Attribute (.Call (.Name "super" b0) [] [] b1) "__init__" b2) [.Name "at" a0] [] b3) b4, .Assign [.Attribute (.Name "self" c0) "at" d0] (.Name "at" e0) f0]
def iS_at : Scope := { kind := .function, names := [(PySem.Str.ofString "self", .local), (PySem.Str.ofString "at", .local), (PySem.Str.ofString "__class__", .free), (PySem.Str.ofString "super", .globalImplicit)], isGenerator := false, isCoroutine := false, more := [] }
/-- what the written part says of its __init__ -/
structure Fn_at (P : Program) (K : Frag) (C fI : Addr) (qual : Str) : Prop where
  ex : ∃ (cc cda : Addr) (p1 p2 b0 b1 b2 b3 b4 a0 c0 d0 e0 f0 : Pos) (oc kV doc pm ct ccl cl : Value) (od an cdd cld : Option Addr) (osl ccs csl : Array (Option Value)) (vs : Array Value) (file : Str) (tf : Tok),
    K.lookup fI = some ⟨oc, od, .func (ksFn "__init__" qual (iA_at p1 p2) (iB_at b0 b1 b2 b3 b4 a0 c0 d0 e0 f0) iS_at .none kV doc pm an (.ref cda) ct cc), osl⟩ ∧ codeIn K (.ref cda) qual = true ∧ K.lookup cda = some ⟨ccl, cdd, .fields vs, ccs⟩ ∧ vs[2]? = some (.str file tf) ∧ ((P.main.file : Str) == file) = true ∧
    K.lookup cc = some ⟨cl, cld, .cell (some (.ref C)), csl⟩ ∧ (b2.endLine == b3.line) = true
section
variable {prog : Program} {w : World} {A : Around} {R : Result → Shared → Prop} {s : Shared} {K : Frag} {mg : Str → Option Value}
theorem init_at {C fI e t0 : Addr} {u0 : Value} {qual x : Str} (T : SxC prog K mg x C fI [("at" : Str)]) (FI : Fn_at prog K C fI qual)
    (X : K.In s.heap) (G : s.heap.Ns mainGlobals mg) (Gb : ∃ mb, s.heap.Ns builtinsNs mb ∧ ∀ x : Str, x ≠ "__name__" → mb x = bootBuiltins x) (hlim : s.heap.NoLimit) (hx : s.heap.get? e = some (excO C t0)) (hnx : K.lookup e = none) (hroom : A.depth < recursionLimit)
    (hq : ∀ h' tk dx, InitEnd s.heap h' e C dx (fun y : Str => if y = "at" then some u0 else none) → R (.ok (.ret .none)) { s with heap := h', toks := tk }) : codeAny (model prog w) A (.call (.ref fI) ⟨[.ref e, u0], []⟩) R s := by
  obtain ⟨cc, cda, p1, p2, b0, b1, b2, b3, b4, a0, c0, d0, e0, f0, oc, kV, doc, pm, ct, ccl, cl, od, an, cdd, cld, osl, ccs, csl, vs, file, tf, hf, hcd, hcode, hvs, hfile, hcell, hp⟩ := FI.ex
  have hT := T.cls
  obtain ⟨nm, q, N, bs, bm, sn, sub, ab, col, dd, k0, k1, k2, k3, k5, hC, hbm⟩ := T.cls
  have hcl : clsIn K C = some { name := nm, bases := bs, mro := .ref C :: bm, ns := N, qualname := q, hasDict := true, slotNames := sn, subclasses := sub, abstract := ab, collection := col, hasDel := false } := by unfold clsIn; rw [hC] <;> rfl
  obtain ⟨mb, Gb1, Gb2⟩ := Gb
  have hne : e ≠ C := fun z => by rw [z, hC] at hnx; cases hnx
  refine ks_codeAny_call_defAt (fd := ksFn "__init__" qual (iA_at p1 p2) (iB_at b0 b1 b2 b3 b4 a0 c0 d0 e0 f0) iS_at .none kV doc pm an (.ref cda) ct cc) (body := iB_at b0 b1 b2 b3 b4 a0 c0 d0 e0 f0) (binds := [(("self" : Str), Value.ref e), (("at" : Str), u0)]) hroom (X _ _ hf) rfl hlim (codeRec_of X hcd) rfl (BindsTo.of_eq (by first | rfl | with_unfolding_all rfl)) (show ∀ x ∈ iS_at.names, x.2 ≠ .cell by decide) (by intro y hy; have hy : y = (("self" : Str), Value.ref e) ∨ y = (("at" : Str), u0) := (by simpa using hy); (rcases hy with rfl | rfl <;> rfl)) (fun h₁ hns hk₁ => ?_)
  have X1 : K.In h₁ := X.keeps hk₁
  have hx1 := hk₁ _ _ hx
  have hxL : s.heap.objs.size ≠ e := Nat.ne_of_gt (Heap.lt_size hx)
  refine ks_wpAt_execs_cons (ks_wpAt_Expr_any (ks_wpAt_MethodCall ?_ (mc_eq hp rfl)))
  refine ks_wpAt_super_base (env := ksEnv qual iS_at s.heap.objs.size fI (.ref cda) cc) rfl rfl (by decide +kernel) rfl (X1 _ _ hf) rfl rfl rfl (X1 _ _ hcode) rfl hvs hfile T.top ?_
  refine ks_loadName_global rfl rfl (loadGlobal_builtin (env := ksEnv qual iS_at s.heap.objs.size fI (.ref cda) cc) (G.keeps hk₁) T.gS (Gb1.keeps hk₁) ((Gb2 _ (by decide +kernel)).trans (by first | rfl | kernel_rfl)) ⟨rfl, ?_⟩)
  refine wpAny_loadName_free rfl rfl rfl ⟨_, X1 _ _ hcell, rfl⟩ ?_
  refine wpAny_loadName_local rfl rfl hns rfl ?_
  refine ks_wpAny_isType_cls (X1 _ _ hC) rfl ⟨rfl, ?_⟩
  refine ks_wpAny_call_super (X1 _ _ hC) rfl hx1 rfl (fun c z => by cases z) (looks_mroIn X1 T.own) (fun h2 e2 k2 => ?_)
  have X2 : K.In h2 := X1.keeps k2
  have hx2 := k2 _ _ hx1
  have I2 : InstAt h2 e (excO C t0) C none := ⟨hx2, rfl, rfl, trivial⟩
  have hm := T.sup
  unfold ks_superIn at hm
  rw [hcl] at hm
  refine kxs_getMethod kxs_ValueError e2 (looks_opaque X2 T.opq) (l₀ := .ref C :: bm) ((looks_clsIn X2 hcl).andThen .now) rfl X2 hm (I2.type.andThen (looks_subIn X2 T.veC)) hne (by decide +kernel) ?_
  have k3 : ∀ b o, h2.get? b = some o → (h2.push (kxs_mw "ValueError.__init__" e)).get? b = some o := fun b o z => Heap.get?_push_of_some _ z
  have hu3 : (h2.push (kxs_mw "ValueError.__init__" e)).get? h2.objs.size = some (kxs_mw "ValueError.__init__" e) := Heap.get?_push_at rfl rfl
  have hn3 := (hns.keeps k2).keeps k3
  have X3 := X2.keeps k3
  have hx3 := k3 _ _ hx2
  show wpAny _ _ (callWith b3 (.ref h2.objs.size) [] (backTo b3 (starEach [.Name "at" a0] _)) []) _ _ _
  refine cw1 (i := "ValueError.__init__") (x := e) (spliced_more (ldE hn3 rfl (spliced_none ⟨hu3, ?_⟩) rfl rfl (by decide +kernel)) rfl) rfl rfl
  refine call_mw hT X3 hx3 hu3 (one_size _) fun h4 t1 k4 hx4 => ?_
  have k4' : ∀ b o, b ≠ e → s.heap.get? b = some o → h4.get? b = some o := fun b o hb z => k4 b o hb (k3 b o (k2 b o (hk₁ b o z)))
  have X4 : K.In h4 := in_but X hnx k4'
  have hn4 : h4.Ns s.heap.objs.size (fun x => List.lookup x ([(("self" : Str), Value.ref e), (("at" : Str), u0)]).reverse) := by
    exact hn3.at fun o q => k4 _ _ hxL q
  show wpAt _ _ _ (execs _ _) _ _ _
  refine wpAt_of_wpAny (wpAny_execs_cons (plainObj_wpAny_Assign_Attribute ?_))
  refine ldE hn4 rfl (ldE hn4 rfl ?_ rfl rfl (by decide +kernel)) rfl rfl (by decide +kernel)
  refine set_plain X4 (ox := excO C t1) (od := none) ⟨hx4, rfl, rfl, trivial⟩ T.sa ?_
  refine exc_osa X4 hx4 hcl (show refsVE (.ref C :: bm) = true from hbm) rfl (T.noN _ (by simp)) (fun h5 tk5 dx k5 dn dne hx5 hn5 => ?_)
  show wpAny _ _ (execs _ _) _ _ _
  have hbig : s.heap.objs.size ≤ dx := Nat.le_of_lt (Nat.lt_of_lt_of_le hn4.lt dn)
  exact wpAny_execs_nil (hq h5 tk5 dx ⟨fun b o hb z => k5 b o hb (k4' b o hb z), ⟨t1, hx5⟩, hbig, dne, hn5⟩)
theorem made_at {C fI : Addr} {u0 : Value} {qual x : Str} (T : SxC prog K mg x C fI [("at" : Str)]) (FI : Fn_at prog K C fI qual) (X : K.In s.heap) (G : s.heap.Ns mainGlobals mg)
    (Gb : ∃ mb, s.heap.Ns builtinsNs mb ∧ ∀ x : Str, x ≠ "__name__" → mb x = bootBuiltins x) (hlim : s.heap.NoLimit) (hroom : A.depth + 1 < recursionLimit)
    (hq : ∀ h' tk e d, OwnMade s.heap h' e C d (fun y : Str => if y = "at" then some u0 else none) → R (.ok (.ret (.ref e))) { s with heap := h', toks := tk }) : codeAny (model prog w) A (.call (.ref C) ⟨[u0], []⟩) R s := by
  obtain ⟨nm, q, N, bs, bm, sn, sub, ab, col, dd, k0, k1, k2, k3, k5, hC, hbm⟩ := T.cls
  obtain ⟨hp, g, dr, tk, os⟩ := s
  have k : ∀ b o, hp.get? b = some o → ((hp.push (kdv_tup [u0])).push (excO C hp.objs.size)).get? b = some o := fun b o e => Heap.get?_push_of_some _ (Heap.get?_push_of_some _ e)
  have hget : ((hp.push (kdv_tup [u0])).push (excO C hp.objs.size)).get? (hp.objs.size + 1) = some (excO C hp.objs.size) := by heap_get
  have hnx : K.lookup (hp.objs.size + 1) = none := by
    cases e : K.lookup (hp.objs.size + 1) with
    | none => rfl
    | some o =>
      have z : hp.get? (hp.objs.size + 1) = some o := X _ _ e
      exact absurd (Nat.lt_of_succ_lt (Heap.lt_size z)) (Nat.lt_irrefl _)
  obtain ⟨mb, Gb1, Gb2⟩ := Gb
  refine call_own F.excBase_ValueError (fun X => refsVE_contains X bm hbm) (X _ _ hC) (looks_findIn X T.iC) (fun self => bind_fn X self T.tI) (one_size _) ?_
  refine init_at (s := ⟨(hp.push (kdv_tup [u0])).push (excO C hp.objs.size), g, dr, tk, os⟩) T FI (X.keeps k) (G.keeps k) ⟨mb, Gb1.keeps k, Gb2⟩ (hlim.keeps k) hget hnx ?_ fun h' tk' dx IE => ?_
  · show A.depth + 1 < recursionLimit
    exact hroom
  · have old : ∀ b o, hp.get? b = some o → h'.get? b = some o := fun b o e => IE.keep b o (Nat.ne_of_lt (Nat.lt_succ_of_lt (Heap.lt_size e))) (k b o e)
    obtain ⟨t1, hx⟩ := IE.obj
    have z : hp.objs.size + 1 + 1 ≤ dx := by
      have dn := IE.dbig
      first
        | (simpa only [Heap.size_push] using dn)
        | exact dn
    exact ⟨rfl, hq h' tk' (hp.objs.size + 1) dx ⟨old, Nat.le_succ _, ⟨_, _, hx, rfl, rfl, rfl, rfl⟩, Nat.le_trans (Nat.le_trans (Nat.le_succ _) (Nat.le_succ _)) z, IE.dne, IE.ns⟩⟩
end

def iA_at_word (p1 p2 p3 : Pos) : Arguments := { posonlyargs := [], args := [{ arg := "self", annotation := none, pos := p1 }, { arg := "at", annotation := none, pos := p2 }, { arg := "word", annotation := none, pos := p3 }], vararg := none, kwonlyargs := [], kw_defaults := [], kwarg := none, defaults := [] }
def iB_at_word (b0 b1 b2 b3 b4 a0 a1 c0 d0 e0 f0 c1 d1 e1 f1 : Pos) : List Stmt := [.Expr (.Call (.Attribute (.Call (.Name "super" b0) [] [] b1) "__init__" b2) [.Name "at" a0, .Name "word" a1] [] b3) b4, .Assign [.Attribute (.Name "self" c0) "at" d0] (.Name "at" e0) f0, .Assign [.Attribute (.Name "self" c1) "word" d1] (.Name "word" e1) f1]
def iS_at_word : Scope := { kind := .function, names := [(PySem.Str.ofString "self", .local), (PySem.Str.ofString "at", .local), (PySem.Str.ofString "word", .local), (PySem.Str.ofString "__class__", .free), (PySem.Str.ofString "super", .globalImplicit)], isGenerator := false, isCoroutine := false, more := [] }
/-- what the written part says of its __init__ -/
structure Fn_at_word (P : Program) (K : Frag) (C fI : Addr) (qual : Str) : Prop where
  ex : ∃ (cc cda : Addr) (p1 p2 p3 b0 b1 b2 b3 b4 a0 a1 c0 d0 e0 f0 c1 d1 e1 f1 : Pos) (oc kV doc pm ct ccl cl : Value) (od an cdd cld : Option Addr) (osl ccs csl : Array (Option Value)) (vs : Array Value) (file : Str) (tf : Tok),
    K.lookup fI = some ⟨oc, od, .func (ksFn "__init__" qual (iA_at_word p1 p2 p3) (iB_at_word b0 b1 b2 b3 b4 a0 a1 c0 d0 e0 f0 c1 d1 e1 f1) iS_at_word .none kV doc pm an (.ref cda) ct cc), osl⟩ ∧ codeIn K (.ref cda) qual = true ∧ K.lookup cda = some ⟨ccl, cdd, .fields vs, ccs⟩ ∧ vs[2]? = some (.str file tf) ∧ ((P.main.file : Str) == file) = true ∧
    K.lookup cc = some ⟨cl, cld, .cell (some (.ref C)), csl⟩ ∧ (b2.endLine == b3.line) = true
section
variable {prog : Program} {w : World} {A : Around} {R : Result → Shared → Prop} {s : Shared} {K : Frag} {mg : Str → Option Value}
theorem init_at_word {C fI e t0 : Addr} {u0 u1 : Value} {qual x : Str} (T : SxC prog K mg x C fI [("at" : Str), ("word" : Str)]) (FI : Fn_at_word prog K C fI qual)
    (X : K.In s.heap) (G : s.heap.Ns mainGlobals mg) (Gb : ∃ mb, s.heap.Ns builtinsNs mb ∧ ∀ x : Str, x ≠ "__name__" → mb x = bootBuiltins x) (hlim : s.heap.NoLimit) (hx : s.heap.get? e = some (excO C t0)) (hnx : K.lookup e = none) (hroom : A.depth < recursionLimit)
    (hq : ∀ h' tk dx, InitEnd s.heap h' e C dx (fun y : Str => if y = "word" then some u1 else if y = "at" then some u0 else none) → R (.ok (.ret .none)) { s with heap := h', toks := tk }) : codeAny (model prog w) A (.call (.ref fI) ⟨[.ref e, u0, u1], []⟩) R s := by
  obtain ⟨cc, cda, p1, p2, p3, b0, b1, b2, b3, b4, a0, a1, c0, d0, e0, f0, c1, d1, e1, f1, oc, kV, doc, pm, ct, ccl, cl, od, an, cdd, cld, osl, ccs, csl, vs, file, tf, hf, hcd, hcode, hvs, hfile, hcell, hp⟩ := FI.ex
  have hT := T.cls
  obtain ⟨nm, q, N, bs, bm, sn, sub, ab, col, dd, k0, k1, k2, k3, k5, hC, hbm⟩ := T.cls
  have hcl : clsIn K C = some { name := nm, bases := bs, mro := .ref C :: bm, ns := N, qualname := q, hasDict := true, slotNames := sn, subclasses := sub, abstract := ab, collection := col, hasDel := false } := by unfold clsIn; rw [hC] <;> rfl
  obtain ⟨mb, Gb1, Gb2⟩ := Gb
  have hne : e ≠ C := fun z => by rw [z, hC] at hnx; cases hnx
  refine ks_codeAny_call_defAt (fd := ksFn "__init__" qual (iA_at_word p1 p2 p3) (iB_at_word b0 b1 b2 b3 b4 a0 a1 c0 d0 e0 f0 c1 d1 e1 f1) iS_at_word .none kV doc pm an (.ref cda) ct cc) (body := iB_at_word b0 b1 b2 b3 b4 a0 a1 c0 d0 e0 f0 c1 d1 e1 f1) (binds := [(("self" : Str), Value.ref e), (("at" : Str), u0), (("word" : Str), u1)]) hroom (X _ _ hf) rfl hlim (codeRec_of X hcd) rfl (BindsTo.of_eq (by first | rfl | with_unfolding_all rfl)) (show ∀ x ∈ iS_at_word.names, x.2 ≠ .cell by decide) (by intro y hy; have hy : y = (("self" : Str), Value.ref e) ∨ y = (("at" : Str), u0) ∨ y = (("word" : Str), u1) := (by simpa using hy); (rcases hy with rfl | rfl | rfl <;> rfl)) (fun h₁ hns hk₁ => ?_)
  have X1 : K.In h₁ := X.keeps hk₁
  have hx1 := hk₁ _ _ hx
  have hxL : s.heap.objs.size ≠ e := Nat.ne_of_gt (Heap.lt_size hx)
  refine ks_wpAt_execs_cons (ks_wpAt_Expr_any (ks_wpAt_MethodCall ?_ (mc_eq hp rfl)))
  refine ks_wpAt_super_base (env := ksEnv qual iS_at_word s.heap.objs.size fI (.ref cda) cc) rfl rfl (by decide +kernel) rfl (X1 _ _ hf) rfl rfl rfl (X1 _ _ hcode) rfl hvs hfile T.top ?_
  refine ks_loadName_global rfl rfl (loadGlobal_builtin (env := ksEnv qual iS_at_word s.heap.objs.size fI (.ref cda) cc) (G.keeps hk₁) T.gS (Gb1.keeps hk₁) ((Gb2 _ (by decide +kernel)).trans (by first | rfl | kernel_rfl)) ⟨rfl, ?_⟩)
  refine wpAny_loadName_free rfl rfl rfl ⟨_, X1 _ _ hcell, rfl⟩ ?_
  refine wpAny_loadName_local rfl rfl hns rfl ?_
  refine ks_wpAny_isType_cls (X1 _ _ hC) rfl ⟨rfl, ?_⟩
  refine ks_wpAny_call_super (X1 _ _ hC) rfl hx1 rfl (fun c z => by cases z) (looks_mroIn X1 T.own) (fun h2 e2 k2 => ?_)
  have X2 : K.In h2 := X1.keeps k2
  have hx2 := k2 _ _ hx1
  have I2 : InstAt h2 e (excO C t0) C none := ⟨hx2, rfl, rfl, trivial⟩
  have hm := T.sup
  unfold ks_superIn at hm
  rw [hcl] at hm
  refine kxs_getMethod kxs_ValueError e2 (looks_opaque X2 T.opq) (l₀ := .ref C :: bm) ((looks_clsIn X2 hcl).andThen .now) rfl X2 hm (I2.type.andThen (looks_subIn X2 T.veC)) hne (by decide +kernel) ?_
  have k3 : ∀ b o, h2.get? b = some o → (h2.push (kxs_mw "ValueError.__init__" e)).get? b = some o := fun b o z => Heap.get?_push_of_some _ z
  have hu3 : (h2.push (kxs_mw "ValueError.__init__" e)).get? h2.objs.size = some (kxs_mw "ValueError.__init__" e) := Heap.get?_push_at rfl rfl
  have hn3 := (hns.keeps k2).keeps k3
  have X3 := X2.keeps k3
  have hx3 := k3 _ _ hx2
  show wpAny _ _ (callWith b3 (.ref h2.objs.size) [] (backTo b3 (starEach [.Name "at" a0, .Name "word" a1] _)) []) _ _ _
  refine cw1 (i := "ValueError.__init__") (x := e) (spliced_more (ldE hn3 rfl (spliced_more (ldE hn3 rfl (spliced_none ⟨hu3, ?_⟩) rfl rfl (by decide +kernel)) rfl) rfl rfl (by decide +kernel)) rfl) rfl rfl
  refine call_mw hT X3 hx3 hu3 (two_size _ _) fun h4 t1 k4 hx4 => ?_
  have k4' : ∀ b o, b ≠ e → s.heap.get? b = some o → h4.get? b = some o := fun b o hb z => k4 b o hb (k3 b o (k2 b o (hk₁ b o z)))
  have X4 : K.In h4 := in_but X hnx k4'
  have hn4 : h4.Ns s.heap.objs.size (fun x => List.lookup x ([(("self" : Str), Value.ref e), (("at" : Str), u0), (("word" : Str), u1)]).reverse) := by
    exact hn3.at fun o q => k4 _ _ hxL q
  show wpAt _ _ _ (execs _ _) _ _ _
  refine wpAt_of_wpAny (wpAny_execs_cons (plainObj_wpAny_Assign_Attribute ?_))
  refine ldE hn4 rfl (ldE hn4 rfl ?_ rfl rfl (by decide +kernel)) rfl rfl (by decide +kernel)
  refine set_plain X4 (ox := excO C t1) (od := none) ⟨hx4, rfl, rfl, trivial⟩ T.sa ?_
  refine exc_osa X4 hx4 hcl (show refsVE (.ref C :: bm) = true from hbm) rfl (T.noN _ (by simp)) (fun h5 tk5 dx k5 dn dne hx5 hn5 => ?_)
  show wpAny _ _ (execs _ _) _ _ _
  have hbig : s.heap.objs.size ≤ dx := Nat.le_of_lt (Nat.lt_of_lt_of_le hn4.lt dn)
  have X5 : K.In h5 := in_but X hnx fun b o hb z => k5 b o hb (k4' b o hb z)
  have hnL := hn4.at fun o q => k5 _ _ hxL q
  have hw : Within (fun y : Str => if y = "at" then some u0 else none) ["at"] := by
    intro y hy
    by_cases z : y = "at"
    · simp [z]
    · exact absurd (if_neg z) hy
  obtain ⟨oD, esD, epD, hoD, hdD, hcD⟩ := hn5.count hw
  refine wpAny_execs_cons (plainObj_wpAny_Assign_Attribute ?_)
  refine ldE hnL rfl (ldE hnL rfl ?_ rfl rfl (by decide +kernel)) rfl rfl (by decide +kernel)
  refine set_plain X5 (ox := { cls := .ref C, dict := some dx, data := .fields #[.ref t1, .none, .none, .none, .bool false, .none] }) (od := some oD) ⟨hx5, rfl, rfl, hoD⟩ T.sa ?_
  refine PySem.OEX.osa_old X5 hx5 hn5 hw (by decide) hcl (show refsVE (.ref C :: bm) = true from hbm) rfl (T.noN _ (by simp)) (fun h6 tk6 k6 hn6 => ?_)
  show wpAny _ _ (execs _ _) _ _ _
  exact wpAny_execs_nil (hq h6 tk6 dx ⟨fun b o hb z => k6 b o (Nat.ne_of_lt (Nat.lt_of_lt_of_le (Heap.lt_size z) hbig)) (k5 b o hb (k4' b o hb z)), ⟨t1, k6 _ _ (Ne.symm dne) hx5⟩, hbig, dne, hn6⟩)
theorem made_at_word {C fI : Addr} {u0 u1 : Value} {qual x : Str} (T : SxC prog K mg x C fI [("at" : Str), ("word" : Str)]) (FI : Fn_at_word prog K C fI qual) (X : K.In s.heap) (G : s.heap.Ns mainGlobals mg)
    (Gb : ∃ mb, s.heap.Ns builtinsNs mb ∧ ∀ x : Str, x ≠ "__name__" → mb x = bootBuiltins x) (hlim : s.heap.NoLimit) (hroom : A.depth + 1 < recursionLimit)
    (hq : ∀ h' tk e d, OwnMade s.heap h' e C d (fun y : Str => if y = "word" then some u1 else if y = "at" then some u0 else none) → R (.ok (.ret (.ref e))) { s with heap := h', toks := tk }) : codeAny (model prog w) A (.call (.ref C) ⟨[u0, u1], []⟩) R s := by
  obtain ⟨nm, q, N, bs, bm, sn, sub, ab, col, dd, k0, k1, k2, k3, k5, hC, hbm⟩ := T.cls
  obtain ⟨hp, g, dr, tk, os⟩ := s
  have k : ∀ b o, hp.get? b = some o → ((hp.push (kdv_tup [u0, u1])).push (excO C hp.objs.size)).get? b = some o := fun b o e => Heap.get?_push_of_some _ (Heap.get?_push_of_some _ e)
  have hget : ((hp.push (kdv_tup [u0, u1])).push (excO C hp.objs.size)).get? (hp.objs.size + 1) = some (excO C hp.objs.size) := by heap_get
  have hnx : K.lookup (hp.objs.size + 1) = none := by
    cases e : K.lookup (hp.objs.size + 1) with
    | none => rfl
    | some o =>
      have z : hp.get? (hp.objs.size + 1) = some o := X _ _ e
      exact absurd (Nat.lt_of_succ_lt (Heap.lt_size z)) (Nat.lt_irrefl _)
  obtain ⟨mb, Gb1, Gb2⟩ := Gb
  refine call_own F.excBase_ValueError (fun X => refsVE_contains X bm hbm) (X _ _ hC) (looks_findIn X T.iC) (fun self => bind_fn X self T.tI) (two_size _ _) ?_
  refine init_at_word (s := ⟨(hp.push (kdv_tup [u0, u1])).push (excO C hp.objs.size), g, dr, tk, os⟩) T FI (X.keeps k) (G.keeps k) ⟨mb, Gb1.keeps k, Gb2⟩ (hlim.keeps k) hget hnx ?_ fun h' tk' dx IE => ?_
  · show A.depth + 1 < recursionLimit
    exact hroom
  · have old : ∀ b o, hp.get? b = some o → h'.get? b = some o := fun b o e => IE.keep b o (Nat.ne_of_lt (Nat.lt_succ_of_lt (Heap.lt_size e))) (k b o e)
    obtain ⟨t1, hx⟩ := IE.obj
    have z : hp.objs.size + 1 + 1 ≤ dx := by
      have dn := IE.dbig
      first
        | (simpa only [Heap.size_push] using dn)
        | exact dn
    exact ⟨rfl, hq h' tk' (hp.objs.size + 1) dx ⟨old, Nat.le_succ _, ⟨_, _, hx, rfl, rfl, rfl, rfl⟩, Nat.le_trans (Nat.le_trans (Nat.le_succ _) (Nat.le_succ _)) z, IE.dne, IE.ns⟩⟩
end

end SxX
end PySem
set_option Elab.async false
set_option linter.all false
set_option maxRecDepth 100000
set_option maxHeartbeats 4000000
set_option autoImplicit false
namespace L2
open PySem PySem.Spec PyProof.Rows
theorem relO_at {v0 : V} {u0 : Value} (r0 : RelV v0 u0) (f : Str) : RelO (List.lookup f [(("at" : Str), v0)]) ((fun y : Str => if y = "at" then some u0 else none) f) := by
  by_cases h0 : f = "at"
  · subst h0
    have q : List.lookup ("at" : Str) [(("at" : Str), v0)] = some v0 := by with_unfolding_all rfl
    rw [q]
    show RelO (some v0) ((fun y : Str => if y = "at" then some u0 else none) "at")
    have z : (fun y : Str => if y = "at" then some u0 else none) "at" = some u0 := by with_unfolding_all rfl
    rw [z]
    exact r0
  have z : (fun y : Str => if y = "at" then some u0 else none) f = none := by show (if f = "at" then some u0 else none) = none; rw [if_neg h0]
  rw [z]
  have b0 : (f == ("at" : Str)) = false := by simpa using h0
  have q : List.lookup f [(("at" : Str), v0)] = none := by simp [List.lookup, b0]
  rw [q]
  trivial
def tMk_at (C : Addr) (ta : TA) : St → Hp → XK → Prop := fun σ H Q => ta σ H fun vs H1 => ∃ v0, vs = [v0] ∧ ∀ d, H1 d = none → Q (.ref C) (some d) (upd H1 d (.xd [(("at" : Str), v0)]))
theorem pmk_at {X : Cx} {C fI : Addr} {x qual : Str} {x0 : Expr} {ta : TA} {p pos : Pos} {k : Nat} (T : PySem.SxX.SxC X.prog X.K X.mg x C fI [("at" : Str)]) (FI : PySem.SxX.Fn_at X.prog X.K C fI qual) (hr : Room k X.A) (ha : PA X [x0] ta) (hg : Gl X x) (hdb : (x == ("__debug__" : Str)) = false)
    (he : starEach [x0] X.env = (false, eval x0 X.env) :: starEach [] X.env) (hpl : (backTo pos (starEach [] X.env)).any (·.1) = false) :
    PMk X (.Call (.Name x p) [x0] [] pos) (tMk_at C ta) := by
  intro pins s σ H Q I h
  refine wpAny_Call_Name_kw (ld_glob I hg T.gC ?_ hdb)
  refine PySem.W.callWith_K (h₀ := X.base) I.ok.mod.kin T.kC (thn (ha.run pos pins s σ H _ I h) fun us s1 hh => ?_) he hpl
  obtain ⟨vs, H1, I1, r1, v0, ev, qq⟩ := hh
  subst ev
  refine ⟨I1.kIn, ?_⟩
  cases r1 with
  | cons q0 rn0 =>
    rename_i u0 us0
    cases rn0
    show wpAny _ _ (call (.ref C) [u0]) _ _ _
    have hlim := I1.nolimit
    have G1 := I1.mod.glob.keeps I1.bk
    obtain ⟨mb, Gb1, Gb2⟩ := I1.mod.blt
    have Gb := Gb1.keeps I1.bk
    obtain ⟨hp, g, dr, tk, os⟩ := s1
    refine wpAny_call (PySem.SxX.made_at T FI I1.kIn G1 ⟨mb, Gb, Gb2⟩ hlim (by have := hr.dp; omega) fun h' tk' e d M => ?_)
    show MkP X pins σ Q (.ref e) ⟨h', g, dr, tk', os⟩
    obtain ⟨oe, fv, hoe, hc, hd, hdat, h1⟩ := M.obj
    have hns := M.ns
    obtain ⟨G', g1, g2⟩ := restrict h' fun b => decide (b ≠ e)
    have gk : ∀ b, b ≠ e → G'.get? b = h'.get? b := fun b hb => g1 b (decide_eq_true hb)
    have ge : G'.get? e = none := g2 e (by simp)
    have old : ∀ b o, hp.get? b = some o → G'.get? b = some o := fun b o q => (gk b (Nat.ne_of_lt (Nat.lt_of_lt_of_le (Heap.lt_size q) M.new))).trans (M.keep b o q)
    have ob : ObjOk X.prog X.w (upd H1 d (.xd [(("at" : Str), v0)])) G' d (.xd [(("at" : Str), v0)]) :=
      ⟨_, hns.at (fun o q => (gk d M.dne).trans q), fun f => relO_at q0 f⟩
    have J : Inv X pins σ (upd H1 d (.xd [(("at" : Str), v0)])) ⟨G', g, dr, tk', os⟩ := I1.laid (t' := tk') old M.dbig ob
    refine ⟨e, oe, fv, ⟨G', g, dr, tk', os⟩, _, .ref C, some d, rfl, J, fun b o q => ?_, ge, hoe, ⟨hc, hd⟩, hdat, h1, ?_, rfl, I1.bare, raises_own T.exC T.tyC, qq d (I1.hok.fresh M.dbig)⟩
    · by_cases hb : b = e
      · have q' : G'.get? b = some o := q
        rw [hb, ge] at q'; cases q'
      · exact (gk b hb).symm.trans q
    · rw [upd_ne (Ne.symm M.dne)]
      exact I1.hok.fresh M.new

theorem relO_at_word {v0 v1 : V} {u0 u1 : Value} (r0 : RelV v0 u0) (r1 : RelV v1 u1) (f : Str) : RelO (List.lookup f [(("at" : Str), v0), (("word" : Str), v1)]) ((fun y : Str => if y = "word" then some u1 else if y = "at" then some u0 else none) f) := by
  by_cases h1 : f = "word"
  · subst h1
    have q : List.lookup ("word" : Str) [(("at" : Str), v0), (("word" : Str), v1)] = some v1 := by with_unfolding_all rfl
    rw [q]
    show RelO (some v1) ((fun y : Str => if y = "word" then some u1 else if y = "at" then some u0 else none) "word")
    have z : (fun y : Str => if y = "word" then some u1 else if y = "at" then some u0 else none) "word" = some u1 := by with_unfolding_all rfl
    rw [z]
    exact r1
  by_cases h0 : f = "at"
  · subst h0
    have q : List.lookup ("at" : Str) [(("at" : Str), v0), (("word" : Str), v1)] = some v0 := by with_unfolding_all rfl
    rw [q]
    show RelO (some v0) ((fun y : Str => if y = "word" then some u1 else if y = "at" then some u0 else none) "at")
    have z : (fun y : Str => if y = "word" then some u1 else if y = "at" then some u0 else none) "at" = some u0 := by with_unfolding_all rfl
    rw [z]
    exact r0
  have z : (fun y : Str => if y = "word" then some u1 else if y = "at" then some u0 else none) f = none := by show (if f = "word" then some u1 else if f = "at" then some u0 else none) = none; rw [if_neg h1, if_neg h0]
  rw [z]
  have b1 : (f == ("word" : Str)) = false := by simpa using h1
  have b0 : (f == ("at" : Str)) = false := by simpa using h0
  have q : List.lookup f [(("at" : Str), v0), (("word" : Str), v1)] = none := by simp [List.lookup, b1, b0]
  rw [q]
  trivial
def tMk_at_word (C : Addr) (ta : TA) : St → Hp → XK → Prop := fun σ H Q => ta σ H fun vs H1 => ∃ v0 v1, vs = [v0, v1] ∧ ∀ d, H1 d = none → Q (.ref C) (some d) (upd H1 d (.xd [(("at" : Str), v0), (("word" : Str), v1)]))
theorem pmk_at_word {X : Cx} {C fI : Addr} {x qual : Str} {x0 x1 : Expr} {ta : TA} {p pos : Pos} {k : Nat} (T : PySem.SxX.SxC X.prog X.K X.mg x C fI [("at" : Str), ("word" : Str)]) (FI : PySem.SxX.Fn_at_word X.prog X.K C fI qual) (hr : Room k X.A) (ha : PA X [x0, x1] ta) (hg : Gl X x) (hdb : (x == ("__debug__" : Str)) = false)
    (he : starEach [x0, x1] X.env = (false, eval x0 X.env) :: starEach [x1] X.env) (hpl : (backTo pos (starEach [x1] X.env)).any (·.1) = false) :
    PMk X (.Call (.Name x p) [x0, x1] [] pos) (tMk_at_word C ta) := by
  intro pins s σ H Q I h
  refine wpAny_Call_Name_kw (ld_glob I hg T.gC ?_ hdb)
  refine PySem.W.callWith_K (h₀ := X.base) I.ok.mod.kin T.kC (thn (ha.run pos pins s σ H _ I h) fun us s1 hh => ?_) he hpl
  obtain ⟨vs, H1, I1, r1, v0, v1, ev, qq⟩ := hh
  subst ev
  refine ⟨I1.kIn, ?_⟩
  cases r1 with
  | cons q0 rn0 =>
    rename_i u0 us0
    cases rn0 with
    | cons q1 rn1 =>
      rename_i u1 us1
      cases rn1
      show wpAny _ _ (call (.ref C) [u0, u1]) _ _ _
      have hlim := I1.nolimit
      have G1 := I1.mod.glob.keeps I1.bk
      obtain ⟨mb, Gb1, Gb2⟩ := I1.mod.blt
      have Gb := Gb1.keeps I1.bk
      obtain ⟨hp, g, dr, tk, os⟩ := s1
      refine wpAny_call (PySem.SxX.made_at_word T FI I1.kIn G1 ⟨mb, Gb, Gb2⟩ hlim (by have := hr.dp; omega) fun h' tk' e d M => ?_)
      show MkP X pins σ Q (.ref e) ⟨h', g, dr, tk', os⟩
      obtain ⟨oe, fv, hoe, hc, hd, hdat, h1⟩ := M.obj
      have hns := M.ns
      obtain ⟨G', g1, g2⟩ := restrict h' fun b => decide (b ≠ e)
      have gk : ∀ b, b ≠ e → G'.get? b = h'.get? b := fun b hb => g1 b (decide_eq_true hb)
      have ge : G'.get? e = none := g2 e (by simp)
      have old : ∀ b o, hp.get? b = some o → G'.get? b = some o := fun b o q => (gk b (Nat.ne_of_lt (Nat.lt_of_lt_of_le (Heap.lt_size q) M.new))).trans (M.keep b o q)
      have ob : ObjOk X.prog X.w (upd H1 d (.xd [(("at" : Str), v0), (("word" : Str), v1)])) G' d (.xd [(("at" : Str), v0), (("word" : Str), v1)]) :=
        ⟨_, hns.at (fun o q => (gk d M.dne).trans q), fun f => relO_at_word q0 q1 f⟩
      have J : Inv X pins σ (upd H1 d (.xd [(("at" : Str), v0), (("word" : Str), v1)])) ⟨G', g, dr, tk', os⟩ := I1.laid (t' := tk') old M.dbig ob
      refine ⟨e, oe, fv, ⟨G', g, dr, tk', os⟩, _, .ref C, some d, rfl, J, fun b o q => ?_, ge, hoe, ⟨hc, hd⟩, hdat, h1, ?_, rfl, I1.bare, raises_own T.exC T.tyC, qq d (I1.hok.fresh M.dbig)⟩
      · by_cases hb : b = e
        · have q' : G'.get? b = some o := q
          rw [hb, ge] at q'; cases q'
        · exact (gk b hb).symm.trans q
      · rw [upd_ne (Ne.symm M.dne)]
        exact I1.hok.fresh M.new

end L2
namespace L2.Pz
open PySem PySem.Spec PyProof.Rows
theorem tI_mono {K : PySem.W.Frag} {Z : List Zx} {W : WX} {fs : List EF} {σ : L2.St} {H : Hp} {Q Q' : List V → Hp → Prop} (m : ∀ vs H, Q vs H → Q' vs H) : tI K Z W fs σ H Q → tI K Z W fs σ H Q' := fun ⟨Xo, js, env, J, F, p⟩ => by
  refine ⟨Xo, js, env, J, F, ?_⟩
  cases r : eItems fs env J with
  | ok ds J1 => rw [r] at p; exact fun vs H1 e1 F1 r1 => m _ _ (p vs H1 e1 F1 r1)
  | err c fs J1 => rw [r] at p; exact p
  | stuck => rw [r] at p; exact p
/-! ### raise C(e, ..) -/
def sRaise (c : Str) (ns : List Str) (fs : List EF) : SF := fun _ env J => onS env (eItems fs env J) fun ds J1 => if ds.length = ns.length then .err c (ns.zip ds) env J1 else .stuck
section
variable {X : Cx} {n0 : Nat} {E : XK} {c : Str} {C : Addr} {es : List Expr} {fs : List EF} {pos : Pos} {e : Expr} {Z : List Zx}
theorem raise_read {ns : List Str} {t : St → Hp → XK → Prop} (hC : PySem.W.nsIn X.K mainGlobals c = some (some (.ref C)))
    (m : ∀ (σ : St) (H : Hp) (Q : XK), tI X.K Z (fun cls d _ H => E cls d H) fs σ H (fun vs H1 => vs.length = ns.length ∧ ∀ d, H1 d = none → Q (.ref C) (some d) (upd H1 d (.xd (ns.zip vs)))) → t σ H Q)
    (tk : Takes X (fun cls d _ H => E cls d H)) (hc : X.calm = true) (h : PMk X e t) : PS X (.Raise (some e) none pos) (tS X.K Z (fun cls d _ H => E cls d H) n0 (sRaise c ns fs)) :=
  ps_mono (ps_raise hc tk h) fun D σ H ⟨Xo, js, env, J, F, p⟩ => by
    refine m _ _ _ ⟨Xo, js, env, J, F, ?_⟩
    unfold sRaise at p
    cases r : eItems fs env J with
    | stuck => rw [r] at p; exact p.elim
    | err c fs J1 => rw [r] at p; exact flies_S p
    | ok ds J1 =>
      rw [r] at p
      have p : PostS X.K Z (fun cls d _ H => E cls d H) n0 Xo js H D (if ds.length = ns.length then .err c (ns.zip ds) env J1 else .stuck) := p
      intro vs H1 e1 F1 r1
      by_cases hl : ds.length = ns.length
      · rw [if_pos hl] at p
        have hv : vs.length = ns.length := by rw [reps_len r1, hl]
        refine ⟨hv, fun d hd => ?_⟩
        have sm : Same H1 (upd H1 d (.xd (ns.zip vs))) := same_upd hd
        have F2 := F1.same sm
        have e2 : Ext js H (upd H1 d (.xd (ns.zip vs))) := e1.trans (.of sm)
        refine p (.ref C) (some d) σ _ js ⟨C, hC, rfl, d, ns.zip vs, rfl, upd_same, ?_, ?_⟩ (.of_ext F2 e2) F2
        · rw [List.map_fst_zip (by omega), List.map_fst_zip (by omega)]
        · rw [List.map_snd_zip (by omega), List.map_snd_zip (by omega)]
          exact Reps.ext F1 (.of sm) r1
      · rw [if_neg hl] at p; exact p.elim
end
section
variable {X : Cx} {n0 : Nat} {E : XK} {c qual : Str} {C fI : Addr} {x0 : Expr} {fs : List EF} {p pos pos2 : Pos} {k : Nat} {Z : List Zx}
theorem s_raise_at (T : PySem.SxX.SxC X.prog X.K X.mg c C fI [("at" : Str)]) (FI : PySem.SxX.Fn_at X.prog X.K C fI qual) (hC : PySem.W.nsIn X.K mainGlobals c = some (some (.ref C))) (hr : Room k X.A) (tk : Takes X (fun cls d _ H => E cls d H)) (hc : X.calm = true)
    (ha : PA X [x0] (tI X.K Z (fun cls d _ H => E cls d H) fs)) (hg : Gl X c) (hdb : (c == ("__debug__" : Str)) = false) (he : starEach [x0] X.env = (false, eval x0 X.env) :: starEach [] X.env) (hpl : (backTo pos (starEach [] X.env)).any (·.1) = false) :
    PS X (.Raise (some (.Call (.Name c p) [x0] [] pos)) none pos2) (tS X.K Z (fun cls d _ H => E cls d H) n0 (sRaise c [("at" : Str)] fs)) := by
  refine raise_read (C := C) hC (fun σ H Q w => ?_) tk hc (pmk_at T FI hr ha hg hdb he hpl)
  refine tI_mono (fun vs H1 ⟨hl, q⟩ => ?_) w
  rcases vs with _ | ⟨v0, r⟩
  · simp at hl
  · rcases r with _ | ⟨z, r⟩
    · exact ⟨v0, rfl, fun d hd => q d hd⟩
    · simp at hl
end

section
variable {X : Cx} {n0 : Nat} {E : XK} {c qual : Str} {C fI : Addr} {x0 x1 : Expr} {fs : List EF} {p pos pos2 : Pos} {k : Nat} {Z : List Zx}
theorem s_raise_at_word (T : PySem.SxX.SxC X.prog X.K X.mg c C fI [("at" : Str), ("word" : Str)]) (FI : PySem.SxX.Fn_at_word X.prog X.K C fI qual) (hC : PySem.W.nsIn X.K mainGlobals c = some (some (.ref C))) (hr : Room k X.A) (tk : Takes X (fun cls d _ H => E cls d H)) (hc : X.calm = true)
    (ha : PA X [x0, x1] (tI X.K Z (fun cls d _ H => E cls d H) fs)) (hg : Gl X c) (hdb : (c == ("__debug__" : Str)) = false) (he : starEach [x0, x1] X.env = (false, eval x0 X.env) :: starEach [x1] X.env) (hpl : (backTo pos (starEach [x1] X.env)).any (·.1) = false) :
    PS X (.Raise (some (.Call (.Name c p) [x0, x1] [] pos)) none pos2) (tS X.K Z (fun cls d _ H => E cls d H) n0 (sRaise c [("at" : Str), ("word" : Str)] fs)) := by
  refine raise_read (C := C) hC (fun σ H Q w => ?_) tk hc (pmk_at_word T FI hr ha hg hdb he hpl)
  refine tI_mono (fun vs H1 ⟨hl, q⟩ => ?_) w
  rcases vs with _ | ⟨v0, _ | ⟨v1, r⟩⟩
  · simp at hl
  · simp at hl
  · rcases r with _ | ⟨z, r⟩
    · exact ⟨v0, v1, rfl, fun d hd => q d hd⟩
    · simp at hl
end

end L2.Pz
set_option Elab.async false
set_option linter.all false
set_option maxRecDepth 100000
set_option maxHeartbeats 4000000
set_option autoImplicit false
/-! several except clauses, with or without a name -/
namespace L2.Pz
open PySem PySem.Spec PyProof.Rows
abbrev Cl := Value × Option Nat × (Addr → Value → Option Addr → TS)
/-- the suite's ends with the name unbound -/
def off (D : Ends) (i : Nat) : Ends := { nx := fun σ' H' => D.nx (σ'.set i none) H', rt := D.rt, bk := fun σ' H' => D.bk (σ'.set i none) H', ct := fun σ' H' => D.ct (σ'.set i none) H' }
def atCl (D : Ends) (a : Addr) (cls : Value) (d : Option Addr) (σ : L2.St) (H : Hp) (ts : Addr → Value → Option Addr → TS) : Option Nat → Prop
  | none => ts a cls d D σ H
  | some i => ts a cls d (off D i) (σ.set i (some (.ref a))) H
def wAll (K : PySem.W.Frag) (Wout : WX) (D : Ends) : List Cl → WX
  | [] => Wout
  | (c, o, ts) :: r => fun cls d σ H => ∃ b, PySem.W.exmOne K cls c = some b ∧ (b = true → ∀ a, H a = none → atCl D a cls d σ H ts o) ∧ (b = false → wAll K Wout D r cls d σ H)
inductive Hds2 (X : Cx) : List ExceptHandler → List Cl → Prop
  | nil : Hds2 X [] []
  | cons {x : Str} {c : Value} {ts : Addr → Value → Option Addr → TS} {b₀ : Stmt} {suite : List Stmt} {np pos' : Pos} {hds : List ExceptHandler} {l : List Cl} (hc : Names X x c)
      (hsu : ∀ (a : Addr) (oe : Obj) (cls : Value) (d : Option Addr) (pn : List (Addr × Obj)), Zc cls d oe → (∃ vs, oe.data = .fields vs) → PSs (X.suite a ((a, oe) :: pn)) (b₀ :: suite) (ts a cls d)) (r : Hds2 X hds l) :
      Hds2 X (.ExceptHandler (some (.Name x np)) none (b₀ :: suite) pos' :: hds) ((c, none, ts) :: l)
  | consAs {x n : Str} {c : Value} {i : Nat} {ts : Addr → Value → Option Addr → TS} {b₀ : Stmt} {suite : List Stmt} {np pos' : Pos} {hds : List ExceptHandler} {l : List Cl} (hi : X.N[i]? = some n) (hln : X.env.kindOf n = some .local) (hc : Names X x c)
      (hsu : ∀ (a : Addr) (oe : Obj) (cls : Value) (d : Option Addr) (pn : List (Addr × Obj)), Zc cls d oe → (∃ vs, oe.data = .fields vs) → PSs (X.suite a ((a, oe) :: pn)) (b₀ :: suite) (ts a cls d)) (r : Hds2 X hds l) :
      Hds2 X (.ExceptHandler (some (.Name x np)) (some n) (b₀ :: suite) pos' :: hds) ((c, some i, ts) :: l)
/-- the exception at a has come down: it lies in t, which is otherwise as the body left it -/
structure Caught (X : Cx) (pins : List (Addr × Obj)) (a : Addr) (cls : Value) (d : Option Addr) (σ : L2.St) (H : Hp) (t : Shared) : Prop where
  ex : ∃ (B : Heap) (u : Shared), Inv X pins σ H u ∧ (∀ b o, u.heap.get? b = some o → b ∉ frs X.stack → B.get? b = some o) ∧ u.heap.UpToSlots t.heap ∧ HandSPX.FlyingZ B (X.env :: X.outer) a (Zc cls d) t.heap ∧ t.os = u.os ∧ AllBare t.gens
  gone : H a = none
section
variable {X : Cx} {pins : List (Addr × Obj)} {a : Addr} {cls : Value} {d : Option Addr} {σ : L2.St} {H : Hp} {t : Shared} {D : Ends} {Wout : WX}
theorem Caught.inv (c : Caught X pins a cls d σ H t) : Inv X pins σ H t := by
  obtain ⟨B, u, I, nb, up, fl, os, ag⟩ := c.ex
  exact I.landed nb fl.1 up os ag
theorem Caught.lies (c : Caught X pins a cls d σ H t) (hf : X.env.frame = some X.env.locals) : ∃ oe : Obj, (∃ vs, oe.data = .fields vs) ∧ t.heap.get? a = some oe ∧ Zc cls d oe ∧ Inv (X.suite a ((a, oe) :: (X.pn ++ pins))) [] σ H t := by
  obtain ⟨B, u, I, nb, up, fl, os, ag⟩ := c.ex
  obtain ⟨oe, vs, he, hz, hd⟩ := fl.there
  have out : ∀ b ∈ frs (X.env :: X.outer), a ≠ b := fun b hb z => by
    obtain ⟨_, o, e, n⟩ := fl.2.2.1.mem hb
    rw [← z, he] at e
    cases e
    exact n _ hd
  have n1 : a ≠ X.env.locals := out _ (List.mem_filterMap.mpr ⟨X.env, List.mem_cons_self, hf⟩)
  have n2 : a ∉ X.fs := fun hm => by
    obtain ⟨v, hv, q⟩ := List.mem_filterMap.mp hm
    exact out a (List.mem_filterMap.mpr ⟨v, List.mem_cons_of_mem _ hv, q⟩) rfl
  exact ⟨oe, ⟨vs, hd⟩, he, hz, c.inv.suite he hd c.gone n1 n2⟩
theorem Caught.again {M : Model} {A : Around} {E : Value → Shared → Prop} {Q : Unit → Shared → Prop} (c : Caught X pins a cls d σ H t) (q : ∀ h', Caught X pins a cls d σ H { t with heap := h' } → Q () { t with heap := h' }) : wpAny M A (setFlight (.ref a) none) Q E t := by
  obtain ⟨B, u, I, nb, up, fl, os, ag⟩ := c.ex
  exact HandSPX.lands_againZ fl fun h' f' u' => q h' ⟨⟨B, u, I, nb, up.trans u', f', os, ag⟩, c.gone⟩
/-- no clause has it -/
theorem Caught.on (c : Caught X pins a cls d σ H t) (hs : X.stack = X.env :: X.outer) (hf : X.env.frame = some X.env.locals) (tk : Takes X Wout) (w : Wout cls d σ H) : wpAny (model X.prog X.w) X.A (handleBy (.ref a) X.env []) (SP X pins D) X.xe t := by
  obtain ⟨B, u, I, nb, up, fl, os, ag⟩ := c.ex
  have up0 : wpAny (model X.prog X.w) X.A (setFlight (.ref a) X.env.frame) (fun _ s4 => wpAny (model X.prog X.w) X.A (throw (.ref a) : Sem Flow) (SP X pins D) X.xe s4) X.xe t := by
    rw [hf]
    exact HandSPX.setFlight_upZ fl fun h' held u' => wpAny_throw (tk _ _ ⟨a, B, u, pins, σ, H, cls, d, rfl, I, nb, up.trans u', .inr (.inr (by rw [hs]; exact held)), c.gone, os, ag, w⟩)
  refine wpAny_handleBy_nil ?_
  obtain ⟨_, _, _, _, vs, T, _, _, he, _, hd, h1, _⟩ := id fl
  have ne : ¬ ((Value.ref T == Value.none) = true) := by simp
  unfold PySem.passOn
  refine wpAny_bind (wpAny_field he hd h1 ?_)
  rw [if_neg ne]
  first
    | exact wpAny_bind (wpAny_pure (wpAny_bind up0))
    | exact wpAny_bind up0
/-- a clause's class is asked -/
theorem Caught.asked {x : Str} {c : Value} {np : Pos} {b : Bool} {A : Around} {Q : Bool → Shared → Prop} {E E' : Value → Shared → Prop} (k : Caught X pins a cls d σ H t) (hf : X.env.frame = some X.env.locals) (hA : A = X.A.mark (some (.ref a))) (hc : Names X x c) (hb : PySem.W.exmOne X.K cls c = some b) (q : Q b t) :
    wpAny (model X.prog X.w) A (eval (.Name x np) X.env) (fun u s1 => wpAny (model X.prog X.w) A (excMatches (.ref a) u) Q E' s1) E t := by
  obtain ⟨oe, ⟨vs, hd⟩, he, hz, S⟩ := k.lies hf
  have ty : PySem.W.Looks (model X.prog X.w) t.heap (typeOf (.ref a)) cls := fun A Q E s kk q => wpAny_typeOf_ref (kk _ _ he) (by rw [hz.1]; exact q)
  have m := (PySem.W.exm_one (M := model X.prog X.w) k.inv.kIn ty hb).here (A := A) (E := E') (Q := Q) q
  subst hA
  obtain ⟨hg, hdb, r | ⟨r, v, nn⟩⟩ := hc
  · exact ld_glob (X := X.suite a ((a, oe) :: (X.pn ++ pins))) S hg r m hdb
  · exact ld_blt (X := X.suite a ((a, oe) :: (X.pn ++ pins))) S hg r v m nn hdb
theorem Caught.run (hs : X.stack = X.env :: X.outer) (hf : X.env.frame = some X.env.locals) (hN : X.N.Nodup) (ok : X.Ok) (tk : Takes X Wout) {hds : List ExceptHandler} {l : List Cl} (hh : Hds2 X hds l) :
    ∀ {t : Shared}, Caught X pins a cls d σ H t → wAll X.K Wout D l cls d σ H → wpAny (model X.prog X.w) X.A (handleBy (.ref a) X.env hds) (SP X pins D) X.xe t := by
  induction hh with
  | nil => exact fun k w => k.on hs hf tk w
  | cons hc hsu r ih =>
    intro t k w
    obtain ⟨b, hb, yes, no⟩ := w
    refine wpAny_handleBy_cons (codeAny_handlers_test (k.asked hf rfl hc hb ?_)) (by intro z; cases z)
    cases b with
    | false => exact ih k (no rfl)
    | true =>
      refine codeAny_handlers_suite (k.again fun h' k' => ?_)
      obtain ⟨oe, hd, he, hz, S⟩ := k'.lies hf
      refine wpAny_mono ((hsu a oe cls d (X.pn ++ pins) hz hd).run [] _ _ H _ S (yes rfl a k.gone)) (fun f s6 p => ?_) (fun _ _ z => z.elim)
      cases f with
      | ret u => exact let ⟨v, σ6, H6, S6, r6, q6⟩ := p; ⟨v, σ6, H6, S6.unsuite ok, r6, q6⟩
      | _ => exact let ⟨σ6, H6, S6, q6⟩ := p; ⟨σ6, H6, S6.unsuite ok, q6⟩
  | @consAs x n c i ts b₀ suite np pos' hds2 l2 hi hln hc hsu r ih =>
    intro t k w
    obtain ⟨b, hb, yes, no⟩ := w
    refine wpAny_handleBy_cons (codeAny_handlers_test (k.asked hf rfl hc hb ?_)) (by intro z; cases z)
    cases b with
    | false => exact ih k (no rfl)
    | true =>
      refine codeAny_handlers_suite_as (k.again fun h' k' => ?_)
      obtain ⟨oe, hd, he, hz, S⟩ := k'.lies hf
      refine store_ok (X := X.suite a ((a, oe) :: (X.pn ++ pins))) (v := .ref a) S hN hi (.inl hln) rfl (fun s5 S5 => ?_) (.inr hln)
      refine wpAny_mono ((hsu a oe cls d (X.pn ++ pins) hz hd).run [] s5 _ H _ S5 (yes rfl a k.gone)) (fun f s6 p => ?_) (fun _ _ z => z.elim)
      cases f with
      | ret u => exact let ⟨v, σ6, H6, S6, r6, q6⟩ := p; gone_ok (S6.unsuite ok) hN hi hln fun s7 J7 => ⟨v, _, H6, J7, r6, q6⟩
      | _ => exact let ⟨σ6, H6, S6, q6⟩ := p; gone_ok (S6.unsuite ok) hN hi hln fun s7 J7 => ⟨_, H6, J7, q6⟩
variable {body : List Stmt} {h₀ : ExceptHandler} {hds : List ExceptHandler} {l : List Cl} {pos : Pos} {tb : WX → TS}
/-- try: body, except clauses with or without a name -/
theorem try_all (hs : X.stack = X.env :: X.outer) (hf : X.env.frame = some X.env.locals) (tk : Takes X Wout) (hN : X.N.Nodup)
    (hb : ∀ (W : WX) (pn : List (Addr × Obj)) (xe : Value → Shared → Prop), Takes (X.tr pn xe) W → PassesOwn (model X.prog X.w) X.A X.env xe → PSs (X.tr pn xe) body (tb W)) (hh : Hds2 X (h₀ :: hds) l) :
    PS X (.Try body (h₀ :: hds) [] [] pos) (fun D σ H => tb (wAll X.K Wout D l) D σ H) := by
  refine ⟨fun pins s σ H D I w => wpAny_Try_except ?_⟩
  have ok := I.ok
  have fr : X.A.frames = some (X.env :: X.outer) := by rw [ok.frames, hs]
  have inner := hb (wAll X.K Wout D l) (X.pn ++ pins) (fun e s1 => wpAny (model X.prog X.w) X.A (noteFrame e X.env) (fun _ s2 => wpAny (model X.prog X.w) X.A (setFlight e none) (fun _ s3 => wpAny (model X.prog X.w) X.A (handleBy e X.env (h₀ :: hds)) (SP X pins D) X.xe s3) X.xe s2) X.xe s1)
    (fun u s1 x => by
      obtain ⟨a, B, sI, pins', σ1, H1, cls, d, rfl, J, nb, up, sky, na, os, ag, w1⟩ := x
      have sky1 : Sky B (X.env :: X.outer) a (Zc cls d) X.env.locals s1.heap := hs ▸ sky
      exact Sky.land Zc.steady fr hf sky1 fun h' fl u' => Caught.run hs hf hN ok tk hh ⟨⟨B, sI, J.ofTry ok, nb, up.trans u', fl, os, ag⟩, na⟩ w1) PassesOwn.looking
  refine wpAny_mono (inner.run [] s σ H D (I.toTry _) w) (fun f s1 p => ?_) (fun _ _ z => z)
  cases f with
  | next => exact let ⟨σ1, H1, J, q⟩ := p; wpAny_execs_nil ⟨σ1, H1, J.ofTry ok, q⟩
  | ret u => exact let ⟨v, σ1, H1, J, r, q⟩ := p; ⟨v, σ1, H1, J.ofTry ok, r, q⟩
  | brk => exact let ⟨σ1, H1, J, q⟩ := p; ⟨σ1, H1, J.ofTry ok, q⟩
  | cont => exact let ⟨σ1, H1, J, q⟩ := p; ⟨σ1, H1, J.ofTry ok, q⟩
end
end L2.Pz
set_option Elab.async false
set_option linter.all false
set_option maxRecDepth 100000
set_option maxHeartbeats 4000000
set_option autoImplicit false
namespace L2.Pz
open PySem PySem.Spec PyProof.Rows
/-! ### what a try computes -/
abbrev PCl := Str × Option Nat × (Str → List (Str × D) → SF)
def onE : Option Nat → En → En
  | none, e => e
  | some i, e => e.set i (some (.exc 0))
def offE : Option Nat → En → En
  | none, e => e
  | some i, e => e.set i none
def noExc (e : En) : Bool := e.all fun h => match h with
  | some (.exc _) => false
  | _ => true
def offR (o : Option Nat) : RS → RS
  | .nx e J => if noExc (offE o e) = true then .nx (offE o e) J else .stuck
  | .bk e J => if noExc (offE o e) = true then .bk (offE o e) J else .stuck
  | .ct e J => if noExc (offE o e) = true then .ct (offE o e) J else .stuck
  | .rt h J => if isExc h = true then .stuck else .rt h J
  | _ => .stuck
def sHand (M : Str → Str → Option Bool) : List PCl → Str → List (Str × D) → SF
  | [], c, fs => fun _ env J => .err c fs env J
  | (x, o, h) :: r, c, fs => fun n env J => match M c x with
    | some true => offR o (h c fs n (onE o env) J)
    | some false => sHand M r c fs n env J
    | none => .stuck
def sTry (M : Str → Str → Option Bool) (body : SF) (hs : List PCl) : SF := fun n env J => match body n env J with
  | .err c fs e1 J1 => sHand M hs c fs n e1 J1
  | r => r
/-- name.m, the name of a held exception in slot i -/
def eFld (i : Nat) (m : Str) (fs : List (Str × D)) : EF := fun env J => match env[i]? with
  | some (some (.exc 0)) => (match fs.lookup m with | some d => .ok (.val d) J | none => .stuck)
  | _ => .stuck
section
variable {K : PySem.W.Frag} {Z : List Zx} {Xo : Addr → Prop} {js js' : List Addr} {H H' : Hp} {σ : L2.St} {env : En} {J : Jr} {W : WX} {n0 : Nat} {D : Ends}
theorem Fit.addZ (F : Fit K [] Xo js H σ env J) {z : Zx} (x : ExcAt K Xo js z.c z.fs z.cls z.od H) : Fit K [z] Xo js H σ env J :=
  ⟨F.out, F.nd, F.jx, F.len, F.slen, F.jar, fun i h e => by
    obtain ⟨v, h1, h2⟩ := F.slot i h e
    refine ⟨v, h1, ?_⟩
    cases h with
    | exc k => obtain ⟨z, hz, _⟩ := h2; simp at hz
    | newB _ _ => exact h2
    | val d => exact h2
    | jar k => exact h2
    | new ds => exact h2, fun y hy => by rw [List.mem_singleton.mp hy]; exact x⟩
theorem Fit.dropZ (F : Fit K Z Xo js H σ env J) (ne : noExc env = true) : Fit K [] Xo js H σ env J :=
  ⟨F.out, F.nd, F.jx, F.len, F.slen, F.jar, fun i h e => by
    obtain ⟨v, h1, h2⟩ := F.slot i h e
    refine ⟨v, h1, ?_⟩
    cases h with
    | exc k =>
      have := (List.all_eq_true.mp ne) _ (List.mem_of_getElem? e)
      cases this
    | newB _ _ => exact h2
    | val d => exact h2
    | jar k => exact h2
    | new ds => exact h2, fun y hy => by simp at hy⟩
theorem Fit.unset (F : Fit K Z Xo js H σ env J) (i : Nat) : Fit K Z Xo js H (σ.set i none) (env.set i none) J :=
  ⟨F.out, F.nd, F.jx, F.len, by rw [List.length_set, List.length_set]; exact F.slen, F.jar, fun j h e => by
    by_cases hj : i = j
    · subst hj
      by_cases hl : i < env.length
      · rw [List.getElem?_set_self hl] at e; cases e
      · rw [List.getElem?_eq_none (by rw [List.length_set]; omega)] at e; cases e
    · rw [List.getElem?_set_ne hj] at e ⊢
      exact F.slot j h e, F.ez⟩
theorem outN_drop {h : HV} {v : V} (ne : ¬ isExc h = true) (o : OutN K Z Xo js H H' [] [] J h v) : OutN K [] Xo js H H' [] [] J h v := by
  cases h with
  | exc k => exact absurd rfl ne
  | newB _ _ => exact absurd rfl ne
  | val d => exact ⟨o.1.bareZ, o.2⟩
  | jar k => exact ⟨o.1.bareZ, o.2⟩
  | new ds =>
    obtain ⟨p, vs, a1, a2, a3, a4, a5⟩ := o
    exact ⟨p, vs, a1, a2, a3, a4.bareZ, a5⟩
/-- the suite's end is the statement's -/
theorem post_off {z : Zx} {o : Option Nat} {r : RS} (s : Stp n0 js js' H H') (p : PostS K [] W n0 Xo js H D (offR o r)) : PostS K [z] W0 n0 Xo js' H' (match o with | none => D | some i => off D i) r := by
  have fit : ∀ {σ2 : L2.St} {js2 : List Addr} {H2 : Hp} {e : En} {J : Jr}, noExc (offE o e) = true → Fit K [z] Xo js2 H2 σ2 e J → Fit K [] Xo js2 H2 (match o with | none => σ2 | some i => σ2.set i none) (offE o e) J := by
    intro σ2 js2 H2 e J ne F
    cases o with
    | none => exact F.dropZ ne
    | some i => exact (F.unset i).dropZ ne
  cases r with
  | nx e J =>
    have p : PostS K [] W n0 Xo js H D (if noExc (offE o e) = true then .nx (offE o e) J else .stuck) := p
    by_cases ne : noExc (offE o e) = true
    · rw [if_pos ne] at p
      intro σ2 H2 js2 s2 F2
      have := p _ H2 js2 (s.trans s2) (fit ne F2)
      cases o <;> exact this
    · rw [if_neg ne] at p; exact p.elim
  | bk e J =>
    have p : PostS K [] W n0 Xo js H D (if noExc (offE o e) = true then .bk (offE o e) J else .stuck) := p
    by_cases ne : noExc (offE o e) = true
    · rw [if_pos ne] at p
      intro σ2 H2 js2 s2 F2
      have := p _ H2 js2 (s.trans s2) (fit ne F2)
      cases o <;> exact this
    · rw [if_neg ne] at p; exact p.elim
  | ct e J =>
    have p : PostS K [] W n0 Xo js H D (if noExc (offE o e) = true then .ct (offE o e) J else .stuck) := p
    by_cases ne : noExc (offE o e) = true
    · rw [if_pos ne] at p
      intro σ2 H2 js2 s2 F2
      have := p _ H2 js2 (s.trans s2) (fit ne F2)
      cases o <;> exact this
    · rw [if_neg ne] at p; exact p.elim
  | rt h J =>
    have p : PostS K [] W n0 Xo js H D (if isExc h = true then .stuck else .rt h J) := p
    by_cases ne : isExc h = true
    · rw [if_pos ne] at p; exact p.elim
    · rw [if_neg ne] at p
      intro v H2 js2 s2 o2
      have o3 : OutN K [z] Xo js2 H H2 [] [] J h v := by
        cases h with
        | val d => exact o2
        | jar k => exact o2
        | exc k => exact o2
        | newB _ _ => exact absurd rfl ne
        | new ds =>
          obtain ⟨q, us, a1, a2, a3⟩ := o2
          exact ⟨q, us, a1, s.back q a2, a3⟩
      have := p v H2 js2 (s.trans s2) (outN_drop ne o3)
      cases o <;> exact this
  | err c fs e J => exact p.elim
  | stuck => exact p.elim
end
/-- a suite's reading: some exception is held -/
def tSu (K : PySem.W.Frag) (n0 : Nat) (h : Str → List (Str × D) → SF) : Addr → Value → Option Addr → TS := fun a cls d Dn σ H => ∃ c fs, tS K [⟨a, c, fs, cls, d⟩] W0 n0 (h c fs) Dn σ H
section
variable {X : Cx} {n0 : Nat}
theorem su_all {h : Str → List (Str × D) → SF} {suite : List Stmt} (hsu : ∀ (z : Zx) (oe : Obj) (pn : List (Addr × Obj)), Zc z.cls z.od oe → (∃ vs, oe.data = .fields vs) → PSs (X.suite z.a ((z.a, oe) :: pn)) suite (tS X.K [z] W0 n0 (h z.c z.fs)))
    (a : Addr) (oe : Obj) (cls : Value) (d : Option Addr) (pn : List (Addr × Obj)) (hz : Zc cls d oe) (hf : ∃ vs, oe.data = .fields vs) : PSs (X.suite a ((a, oe) :: pn)) suite (tSu X.K n0 h a cls d) :=
  ⟨fun pins s σ H Dn I ⟨c, fs, w⟩ => (hsu ⟨a, c, fs, cls, d⟩ oe pn hz hf).run pins s σ H Dn I w⟩
abbrev mkCl (K : PySem.W.Frag) (n0 : Nat) (cs : List (Value × PCl)) : List Cl := cs.map fun p => (p.1, p.2.2.1, tSu K n0 p.2.2.2)
theorem hand_ok {W : WX} {M : Str → Str → Option Bool} {D0 : Ends} {Xo : Addr → Prop} {js js' : List Addr} {H H' : Hp} {σ' : L2.St} {e1 : En} {J1 : Jr} {c : Str} {fs : List (Str × D)} {cls : Value} {od : Option Addr} (F : Fit X.K [] Xo js' H' σ' e1 J1) (x : ExcAt X.K Xo js' c fs cls od H') (s : Stp n0 js js' H H') :
    ∀ (cs : List (Value × PCl)), (∀ p ∈ cs, ∀ c b, M c p.2.1 = some b → ∀ C, PySem.W.nsIn X.K mainGlobals c = some (some (.ref C)) → PySem.W.exmOne X.K (.ref C) p.1 = some b) → PostS X.K [] W n0 Xo js H D0 (sHand M (cs.map (·.2)) c fs n0 e1 J1) → wAll X.K W D0 (mkCl X.K n0 cs) cls od σ' H'
  | [], _, p => p cls od σ' H' js' x s F
  | (cv, xn, o, h) :: r, hM, p => by
    have p : PostS X.K [] W n0 Xo js H D0 (match M c xn with
      | some true => offR o (h c fs n0 (onE o e1) J1)
      | some false => sHand M (r.map (·.2)) c fs n0 e1 J1
      | none => .stuck) := p
    cases m : M c xn with
    | none => rw [m] at p; exact p.elim
    | some b =>
      rw [m] at p
      obtain ⟨C, c1, c2, _⟩ := id x
      have hm := hM _ List.mem_cons_self c b m C c1
      refine ⟨b, by rw [c2]; exact hm, fun hb a ha => ?_, fun hb => ?_⟩
      · subst hb
        have Fz : Fit X.K [⟨a, c, fs, cls, od⟩] Xo js' H' σ' e1 J1 := F.addZ (z := ⟨a, c, fs, cls, od⟩) x
        have q := post_off (z := ⟨a, c, fs, cls, od⟩) s p
        cases o with
        | none => exact ⟨c, fs, Xo, js', e1, J1, Fz, q⟩
        | some i => exact ⟨c, fs, Xo, js', _, J1, Fz.set i (h := .exc 0) (v := .ref a) ⟨⟨a, c, fs, cls, od⟩, rfl, rfl⟩, q⟩
      · subst hb
        exact hand_ok F x s r (fun q hq => hM q (List.mem_cons_of_mem _ hq)) p
theorem s_try {W : WX} {M : Str → Str → Option Bool} {body : List Stmt} {h₀ : ExceptHandler} {hds : List ExceptHandler} {cs : List (Value × PCl)} {pos : Pos} {f : SF} (hs : X.stack = X.env :: X.outer) (hf : X.env.frame = some X.env.locals) (tk : Takes X W) (hN : X.N.Nodup)
    (hb : ∀ (W : WX) (pn : List (Addr × Obj)) (xe : Value → Shared → Prop), Takes (X.tr pn xe) W → PassesOwn (model X.prog X.w) X.A X.env xe → PSs (X.tr pn xe) body (tS X.K [] W n0 f))
    (hh : Hds2 X (h₀ :: hds) (mkCl X.K n0 cs)) (hM : ∀ p ∈ cs, ∀ c b, M c p.2.1 = some b → ∀ C, PySem.W.nsIn X.K mainGlobals c = some (some (.ref C)) → PySem.W.exmOne X.K (.ref C) p.1 = some b) :
    PS X (.Try body (h₀ :: hds) [] [] pos) (tS X.K [] W n0 (sTry M f (cs.map (·.2)))) :=
  ps_mono (try_all hs hf tk hN (tb := fun W => tS X.K [] W n0 f) hb hh) fun D0 σ H ⟨Xo, js, env, J, F, p⟩ => by
    refine ⟨Xo, js, env, J, F, ?_⟩
    unfold sTry at p
    cases r : f n0 env J with
    | err c fs e1 J1 =>
      rw [r] at p
      exact fun cls od σ' H' js' x s F' => hand_ok F' x s cs hM p
    | nx e J => rw [r] at p; exact p
    | bk e J => rw [r] at p; exact p
    | ct e J => rw [r] at p; exact p
    | rt h J => rw [r] at p; exact p
    | stuck => rw [r] at p; exact p
theorem look_fld {K : PySem.W.Frag} {H : Hp} {Y : Addr → Prop} {m : Str} {d : D} : ∀ {fs : List (Str × D)} {us : List (Str × V)}, us.map (·.1) = fs.map (·.1) → Reps K H Y (fs.map (·.2)) (us.map (·.2)) → fs.lookup m = some d → ∃ v, us.lookup m = some v ∧ Rep K H Y d v
  | [], us, h1, h2, h3 => by cases h3
  | (a, e) :: fs, [], h1, h2, h3 => by cases h1
  | (a, e) :: fs, (b, u) :: us, h1, h2, h3 => by
    obtain ⟨v, r, e1, r1, r2⟩ := reps_cons.mp h2
    simp only [List.map_cons, List.cons.injEq] at h1 e1
    obtain ⟨hb, h1⟩ := h1
    have hb : b = a := hb
    subst hb
    cases hm : m == b with
    | true =>
      simp only [List.lookup_cons, hm] at h3 ⊢
      cases h3
      exact ⟨u, rfl, by rw [e1.1]; exact r1⟩
    | false =>
      simp only [List.lookup_cons, hm] at h3 ⊢
      exact look_fld h1 (by rw [e1.2]; exact r2) h3
theorem pn_fld {z : Zx} {W : WX} {C : Addr} {oe : Obj} {pn : List (Addr × Obj)} {i : Nat} {n m : Str} {p pos : Pos} (T : XfC X.K C) (hno : PySem.W.findIn X.K (.ref C) m = some none) (hC : PySem.W.nsIn X.K mainGlobals z.c = some (some (.ref C)))
    (hz : Zc z.cls z.od oe) (hf : ∃ vs, oe.data = .fields vs) (he : PE (X.suite z.a ((z.a, oe) :: pn)) (.Name n p) (tVar i)) (hb : attributeBase (.Name n p) m X.env (eval (.Name n p) X.env) = eval (.Name n p) X.env) :
    PE (X.suite z.a ((z.a, oe) :: pn)) (.Attribute (.Name n p) m pos) (tN X.K [z] W (eFld i m z.fs)) := pe_mono (pe_xf T hno hz hf he hb) fun σ H Q ⟨Xo, js, env, J, F, p⟩ => by
  unfold eFld at p
  cases hs : env[i]? with
  | none => rw [hs] at p; exact p.elim
  | some o =>
    cases o with
    | none => rw [hs] at p; exact p.elim
    | some y =>
      cases y with
      | val d => rw [hs] at p; exact p.elim
      | new d => rw [hs] at p; exact p.elim
      | jar k => rw [hs] at p; exact p.elim
      | newB _ _ => rw [hs] at p; exact p.elim
      | exc k =>
        cases k with
        | succ k => rw [hs] at p; exact p.elim
        | zero =>
          rw [hs] at p
          have p : PostN X.K [z] W Xo js H σ env Q (match z.fs.lookup m with | some d => .ok (.val d) J | none => .stuck) := p
          cases hl : z.fs.lookup m with
          | none => rw [hl] at p; exact p.elim
          | some d =>
            rw [hl] at p
            obtain ⟨v, hv, z', hz', rfl⟩ := F.slot i _ hs
            have ez : z = z' := by simpa using hz'
            subst ez
            obtain ⟨C', c1, c2, dd, us, d1, d2, d3, d4⟩ := F.ez z List.mem_cons_self
            have eC : C' = C := by rw [c1] at hC; injection hC with e; injection e with e; injection e
            subst eC
            obtain ⟨u, hu, ru⟩ := look_fld d3 d4 hl
            exact ⟨_, hv, rfl, c2, dd, us, u, d1, d2, hu, p u H .refl ⟨F, ru⟩⟩
end
end L2.Pz
set_option Elab.async false
set_option linter.all false
set_option maxRecDepth 100000
set_option maxHeartbeats 4000000
set_option autoImplicit false
namespace L2.Pz
open PySem PySem.Spec PyProof.Rows
/-! ### calls that may raise within a try: the wish hangs on the slots -/
section
variable {X : Cx} {k : Nat} {g : Addr} {fd : FuncData} {ps ks : List Str} {sp : Sp} {W : WX} {x : Str} {p pos : Pos} {kws : List Keyword} {tkw : TA} {gg : List Value → List Value → List Value} {gV : List V → List V → List V} {Z : List Zx} {F : FT} {fs : List EF} {ix : List Nat}
theorem end_S {pins : List (Addr × Obj)} {σ : L2.St} {H : Hp} {s : Shared} {Q : VK} (tk : Takes X W) (I : Inv X pins σ H s) {r : Result} {s' : Shared} (h : CR (L2.CX X.prog X.w) X.stack X.prog X.w H s Q (fun cls d H => W cls d σ H) r s') :
    (match r with | .ok (.ret v) => EP X pins σ Q v s' | .ok _ => False | .error e => X.xe e s') := by
  rcases r with e | f
  · exact passAt tk σ pins H s e s' I h
  · cases f with
    | ret v => exact I.after h
    | next => exact False.elim h
    | brk => exact False.elim h
    | cont => exact False.elim h
theorem pe_callKS (G : FnOk X.prog X.w X.K X.mg X.base (L2.CX X.prog X.w) k g fd ps sp) (tk : Takes X W) (hr : Room k X.A) (hg : Gl X x) (hm : X.mg x = some (.ref g)) (hk : PySem.W.keepIn X.K (.ref g) = true) (hb : KBinds X.K fd ps ks gg gV)
    (hkw : PK X kws tkw) (hall : (backToKw pos (keywordEach kws X.env)).all (·.1.isSome) = true) (hks : (backToKw pos (keywordEach kws X.env)).filterMap (·.1) = ks)
    (hdb : (x == ("__debug__" : Str)) = false) (hpl : ((backTo pos (starEach [] X.env)).any (·.1) || (backToKw pos (keywordEach kws X.env)).any (·.1.isNone)) = false) :
    PE X (.Call (.Name x p) [] kws pos) (fun σ H Q => tkw σ H fun zs H2 => sp (gV [] zs) H2 Q (fun cls d H => W cls d σ H)) := by
  refine ⟨fun pins s σ H Q I h => wpAny_Call_Name_kw (ld_glob I hg hm ?_ hdb)⟩
  refine PySem.W.callWith_KW0 (h₀ := X.base) I.ok.mod.kin hk hall (thn (hkw.run pos pins s σ H _ I h) fun ws s2 ⟨zs, H2, J, rz, q⟩ => ⟨J.kIn, ?_⟩) hpl
  rw [hks]
  have r2 := hb.rel .nil rz
  have hl : (gg [] ws).length = ps.length := by rw [← r2.length]; exact G.len _ _ _ _ q
  refine wpAny_call (codeAny_mono (G.run X.A X.stack s2 H2 ⟨[], ks.zip ws⟩ (gg [] ws) (gV [] zs) Q _ hr J.env0 (hb.to s2 [] ws J.kIn hl) r2 q) fun r s' c => ?_)
  have e := end_S tk J c
  rcases r with r | f
  · exact e
  · cases f <;> exact e
theorem pn_callKS (G : FnOk X.prog X.w X.K X.mg X.base (L2.CX X.prog X.w) k g fd ps (spF X.K ps.length F)) (tk : Takes X W) (hr : Room k X.A) (hg : Gl X x) (hm : X.mg x = some (.ref g)) (hk : PySem.W.keepIn X.K (.ref g) = true)
    (hb : KBinds X.K fd ps ks (fun us ws => if us.isEmpty then permute ix ws else []) (fun us ws => if us.isEmpty then permute ix ws else [])) (hkw : PK X kws (tH X.K Z W fs)) (hn : ∀ i ∈ ix, i < fs.length) (hx : ix.length = ps.length)
    (hall : (backToKw pos (keywordEach kws X.env)).all (·.1.isSome) = true) (hks : (backToKw pos (keywordEach kws X.env)).filterMap (·.1) = ks)
    (hdb : (x == ("__debug__" : Str)) = false) (hpl : ((backTo pos (starEach [] X.env)).any (·.1) || (backToKw pos (keywordEach kws X.env)).any (·.1.isNone)) = false) :
    PE X (.Call (.Name x p) [] kws pos) (tN X.K Z W (eCallK F ix fs)) :=
  pe_mono (pe_callKS G tk hr hg hm hk hb hkw hall hks hdb hpl) fun σ H Q w => callK_read (E := fun cls d H => W cls d σ H) hn hx (fun _ _ _ z => z) (fun _ _ _ z => z) w
theorem pn_call0S (G : FnOk X.prog X.w X.K X.mg X.base (L2.CX X.prog X.w) k g fd ps (spF X.K ps.length F)) (tk : Takes X W) (hr : Room k X.A) (hg : Gl X x) (hm : X.mg x = some (.ref g)) (hk : PySem.W.keepIn X.K (.ref g) = true) (hb : Binds X.K fd ps [])
    (hn : ([] : List EF).length = ps.length) (hdb : (x == ("__debug__" : Str)) = false) : PE X (.Call (.Name x p) [] [] pos) (tN X.K Z W (eCall F [])) := by
  refine ⟨fun pins s σ H Q I h => wpAny_Call_Name_kw (ld_glob I hg hm ?_ hdb)⟩
  have q := call_read (X := X) (W := W) (t := tNil) (E := fun cls d H => W cls d σ H) hn (fun σ H Q ⟨Xo, js, env, J, Fi, p⟩ => p [] H .refl Fi rfl) (fun _ _ _ z => z) h
  have b := hb s [] I.kIn (by simpa using hn)
  refine PySem.W.callWith_K0 I.kIn hk (wpAny_call (codeAny_mono (G.run X.A X.stack s H ⟨[], []⟩ [] [] Q _ hr I.env0 (by simpa using b) .nil q) fun r s' c => ?_))
  have e := end_S tk I c
  rcases r with r | f
  · exact e
  · cases f <;> exact e
end
end L2.Pz
set_option Elab.async false
set_option linter.all false
set_option maxRecDepth 100000
set_option maxHeartbeats 4000000
set_option autoImplicit false
namespace L2.Pz
open PySem
/-! ### the logic: raise, try, a held exception's field -/
def excQ (o : Option (Option HV)) (Q : Prop) : Prop := match o with
  | some (some (.exc 0)) => Q
  | _ => False
@[simp] theorem excQ_some {Q : Prop} : excQ (some (some (.exc 0))) Q ↔ Q := Iff.rfl
def sufP (o : Option Nat) (P : Po) : Po where
  nx := fun e J => noExc (offE o e) = true ∧ P.nx (offE o e) J
  rt := fun h J => isExc h = false ∧ P.rt h J
  bk := fun e J => noExc (offE o e) = true ∧ P.bk (offE o e) J
  ct := fun e J => noExc (offE o e) = true ∧ P.ct (offE o e) J
  er := fun _ _ _ _ => False
section
variable {α : Type} {X : XP} {J : Jr} {env : En} {P : Po} {n : Nat} {M : Str → Str → Option Bool} {hs : List PCl} {c x m : Str} {fs : List (Str × D)} {o : Option Nat} {h : Str → List (Str × D) → SF} {f : SF} {ns : List Str} {es : List EF}
@[simp] theorem Ex_fld {i : Nat} {Q : HV → Jr → Prop} : Ex X (eFld i m fs env J) Q ↔ excQ env[i]? (OpQ (fs.lookup m) fun d => Q (.val d) J) := by
  unfold eFld
  cases h : env[i]? with
  | none => simp only [Ex_eq]; exact Iff.rfl
  | some y =>
    cases y with
    | none => simp only [Ex_eq]; exact Iff.rfl
    | some y =>
      cases y with
      | val d => simp only [Ex_eq]; exact Iff.rfl
      | jar d => simp only [Ex_eq]; exact Iff.rfl
      | new d => simp only [Ex_eq]; exact Iff.rfl
      | newB _ _ => simp only [Ex_eq]; exact Iff.rfl
      | exc k =>
        cases k with
        | succ k => simp only [Ex_eq]; exact Iff.rfl
        | zero =>
          show Ex X (match fs.lookup m with | some d => .ok (.val d) J | none => .stuck) Q ↔ OpQ (fs.lookup m) fun d => Q (.val d) J
          cases fs.lookup m <;> (simp only [Ex_eq]; exact Iff.rfl)
@[simp] theorem Sx_raise : Sx P (sRaise c ns es n env J) ↔ Ex (fun c fs J => P.er c fs env J) (eItems es env J) fun ds J => ds.length = ns.length ∧ P.er c (ns.zip ds) env J := by
  unfold sRaise
  rw [Sx_on]
  refine Ex_iff fun ds J1 => ?_
  by_cases hl : ds.length = ns.length
  · simp [hl]
  · simp [hl]
@[simp] theorem Sx_try : Sx P (sTry M f hs n env J) ↔ Sx { P with er := fun c fs e J => Sx P (sHand M hs c fs n e J) } (f n env J) := by
  unfold sTry
  cases f n env J <;> (simp only [Sx_eq]; exact Iff.rfl)
@[simp] theorem Sx_hand0 : Sx P (sHand M [] c fs n env J) ↔ P.er c fs env J := Sx_err
theorem Sx_off {r : RS} : Sx P (offR o r) ↔ Sx (sufP o P) r := by
  cases r with
  | nx e J =>
    show Sx P (if noExc (offE o e) = true then .nx (offE o e) J else .stuck) ↔ _
    by_cases h : noExc (offE o e) = true <;> simp [h, sufP]
  | bk e J =>
    show Sx P (if noExc (offE o e) = true then .bk (offE o e) J else .stuck) ↔ _
    by_cases h : noExc (offE o e) = true <;> simp [h, sufP]
  | ct e J =>
    show Sx P (if noExc (offE o e) = true then .ct (offE o e) J else .stuck) ↔ _
    by_cases h : noExc (offE o e) = true <;> simp [h, sufP]
  | rt y J =>
    show Sx P (if isExc y = true then .stuck else .rt y J) ↔ _
    by_cases h : isExc y = true <;> simp [h, sufP]
  | err c fs e J => simp [offR, sufP]
  | stuck => simp [offR]
theorem Sx_hit (hm : M c x = some true) : Sx P (sHand M ((x, o, h) :: hs) c fs n env J) ↔ Sx (sufP o P) (h c fs n (onE o env) J) := by
  show Sx P (match M c x with
    | some true => offR o (h c fs n (onE o env) J)
    | some false => sHand M hs c fs n env J
    | none => .stuck) ↔ _
  rw [hm]
  exact Sx_off
theorem Sx_miss (hm : M c x = some false) : Sx P (sHand M ((x, o, h) :: hs) c fs n env J) ↔ Sx P (sHand M hs c fs n env J) := by
  show Sx P (match M c x with
    | some true => offR o (h c fs n (onE o env) J)
    | some false => sHand M hs c fs n env J
    | none => .stuck) ↔ _
  rw [hm]
end
end L2.Pz
set_option Elab.async false
set_option linter.all false
set_option maxRecDepth 100000
set_option maxHeartbeats 4000000
set_option autoImplicit false
namespace L2.Pz
open PySem PySem.Spec PyProof.Rows
/-! ### a module's constant -/
def mapO {α β : Type} (f : α → Option β) : List α → Option (List β)
  | [] => some []
  | u :: us => match f u, mapO f us with
    | some d, some ds => some (d :: ds)
    | _, _ => none
def plainD : Value → Option D
  | .none => some .non
  | .bool b => some (.bl b)
  | .int i _ => some (.int i)
  | .str x _ => some (.str x)
  | _ => none
/-- the datum that a value of the written part stands for (tuples within) -/
def readD (K : PySem.W.Frag) : Nat → Value → Option D
  | 0, u => plainD u
  | k + 1, .ref a => match K.lookup a with
    | some ⟨.type "tuple", _, .seq its _, _⟩ => if its.size ≤ 16777216 then (mapO (readD K k) its.toList).map D.tup else none
    | _ => none
  | k + 1, u => plainD u
theorem plain_ok {K : PySem.W.Frag} {u : Value} {d : D} (h : plainD u = some d) : ∃ v, RelV v u ∧ ∀ H Y, Rep K H Y d v := by
  cases u <;> first | cases h | skip
  · exact ⟨.non, rfl, fun _ _ => mk_non⟩
  · exact ⟨.bl _, rfl, fun _ _ => mk_bl⟩
  · exact ⟨.int _, ⟨_, rfl⟩, fun _ _ => mk_int⟩
  · exact ⟨.str _, ⟨_, rfl⟩, fun _ _ => mk_str⟩
theorem mapO_ok {K : PySem.W.Frag} {f : Value → Option D} (hf : ∀ u d, f u = some d → ∃ v, RelV v u ∧ ∀ H Y, Rep K H Y d v) : ∀ (us : List Value) (ds : List D), mapO f us = some ds → ∃ vs, Vals vs us ∧ ∀ H Y, Reps K H Y ds vs
  | [], ds, h => by cases h; exact ⟨[], .nil, fun _ _ => reps_nil.mpr rfl⟩
  | u :: us, ds, h => by
    unfold mapO at h
    cases h1 : f u with
    | none => rw [h1] at h; cases h
    | some d =>
      cases h2 : mapO f us with
      | none => rw [h1, h2] at h; cases h
      | some es =>
        rw [h1, h2] at h
        cases h
        obtain ⟨v, r, q⟩ := hf u d h1
        obtain ⟨vs, rs, qs⟩ := mapO_ok hf us es h2
        exact ⟨v :: vs, .cons r rs, fun H Y => reps_cons.mpr ⟨v, vs, rfl, q H Y, qs H Y⟩⟩
theorem readD_ok {K : PySem.W.Frag} : ∀ (k : Nat) (u : Value) (d : D), readD K k u = some d → ∃ v, RelV v u ∧ ∀ H Y, Rep K H Y d v
  | 0, u, d, h => plain_ok h
  | k + 1, u, d, h => by
    cases u with
    | ref a =>
      have h : (match K.lookup a with
        | some ⟨.type "tuple", _, .seq its _, _⟩ => if its.size ≤ 16777216 then (mapO (readD K k) its.toList).map D.tup else none
        | _ => none) = some d := h
      split at h
      · rename_i od its n sl e
        split at h
        · rename_i hs
          cases hm : mapO (readD K k) its.toList with
          | none => rw [hm] at h; cases h
          | some ds =>
            rw [hm] at h
            cases h
            obtain ⟨vs, rs, qs⟩ := mapO_ok (readD_ok k) _ _ hm
            exact ⟨.ref a, rfl, fun H Y => rep_tup.mpr ⟨a, vs, rfl, .inr ⟨_, its, n, e, rfl, rfl, by rw [sizeLine_eq]; exact hs, rs⟩, qs H Y⟩⟩
        · cases h
      · cases h
    | _ => exact plain_ok h
theorem pd_glob {X : Cx} {Z : List Zx} {W : WX} {x : Str} {u : Value} {d : D} {k : Nat} {pos : Pos} (hg : Gl X x) (hm : X.mg x = some u) (hr : readD X.K k u = some d) (hd : (x == ("__debug__" : Str)) = false) : PE X (.Name x pos) (tD X.K Z W (eC d)) := by
  obtain ⟨v, r, q⟩ := readD_ok k u d hr
  exact pd_c (t := tC v) (pe_glob hg hm r hd) q
end L2.Pz
set_option Elab.async false
set_option linter.all false
set_option maxRecDepth 100000
set_option maxHeartbeats 4000000
set_option autoImplicit false
namespace L2.Pz
open PySem PySem.Spec PyProof.Rows
/-! ### what a handler knows of the held exception -/
/-- a suite that is written for the class c0 alone -/
def sFor1 (c0 c : Str) (f : SF) : SF := if c = c0 then f else fun _ _ _ => .stuck
theorem su_if {X : Cx} {n0 : Nat} {Z : List Zx} {W : WX} {suite : List Stmt} {c0 c : Str} {f : SF} (h : c = c0 → PSs X suite (tS X.K Z W n0 f)) : PSs X suite (tS X.K Z W n0 (sFor1 c0 c f)) := by
  unfold sFor1
  by_cases e : c = c0
  · rw [if_pos e]; exact h e
  · rw [if_neg e]; exact ⟨fun pins s σ H Dn I ⟨Xo, js, env, J, F, p⟩ => p.elim⟩
/-- which class is caught by which: one handler's column -/
abbrev Xcol := List (Str × Bool)
def excOf (l : List (Str × Xcol)) (c x : Str) : Option Bool := (l.lookup x).bind fun r => r.lookup c
theorem xcol_ok {K : PySem.W.Frag} {v : Value} : ∀ (r : Xcol), (∀ p ∈ r, ∃ C, PySem.W.nsIn K mainGlobals p.1 = some (some (.ref C)) ∧ PySem.W.exmOne K (.ref C) v = some p.2) → ∀ c b, r.lookup c = some b → ∀ C, PySem.W.nsIn K mainGlobals c = some (some (.ref C)) → PySem.W.exmOne K (.ref C) v = some b
  | [], _, c, b, h => by cases h
  | (c0, b0) :: r, hr, c, b, h => by
    intro C hC
    by_cases e : (c == c0) = true
    · simp only [List.lookup_cons, e] at h
      cases h
      have e := eq_of_beq e
      subst e
      obtain ⟨C', h1, h2⟩ := hr _ List.mem_cons_self
      have h1 : PySem.W.nsIn K mainGlobals c = some (some (.ref C')) := h1
      rw [h1] at hC
      cases hC
      exact h2
    · rw [Bool.not_eq_true] at e
      simp only [List.lookup_cons, e] at h
      exact xcol_ok r (fun p hp => hr p (List.mem_cons_of_mem _ hp)) c b h C hC
theorem xcol_cons {K : PySem.W.Frag} {v : Value} {c : Str} {b : Bool} {C : Addr} {r : Xcol} (h1 : PySem.W.nsIn K mainGlobals c = some (some (.ref C))) (h2 : PySem.W.exmOne K (.ref C) v = some b)
    (hr : ∀ p ∈ r, ∃ C, PySem.W.nsIn K mainGlobals p.1 = some (some (.ref C)) ∧ PySem.W.exmOne K (.ref C) v = some p.2) : ∀ p ∈ (c, b) :: r, ∃ C, PySem.W.nsIn K mainGlobals p.1 = some (some (.ref C)) ∧ PySem.W.exmOne K (.ref C) v = some p.2
  | p, hp => by
    rcases List.mem_cons.mp hp with rfl | hp
    · exact ⟨C, h1, h2⟩
    · exact hr p hp
theorem xcol_nil {K : PySem.W.Frag} {v : Value} : ∀ p ∈ ([] : Xcol), ∃ C, PySem.W.nsIn K mainGlobals p.1 = some (some (.ref C)) ∧ PySem.W.exmOne K (.ref C) v = some p.2 := fun p hp => by cases hp
/-- the clauses, one by one -/
abbrev ColOk (K : PySem.W.Frag) (M : Str → Str → Option Bool) (v : Value) (x : Str) : Prop := ∀ c b, M c x = some b → ∀ C, PySem.W.nsIn K mainGlobals c = some (some (.ref C)) → PySem.W.exmOne K (.ref C) v = some b
theorem cols_nil {K : PySem.W.Frag} {M : Str → Str → Option Bool} : ∀ p ∈ ([] : List (Value × PCl)), ColOk K M p.1 p.2.1 := fun p hp => by cases hp
theorem cols_cons {K : PySem.W.Frag} {M : Str → Str → Option Bool} {v : Value} {q : PCl} {cs : List (Value × PCl)} (h : ColOk K M v q.1) (hr : ∀ p ∈ cs, ColOk K M p.1 p.2.1) : ∀ p ∈ (v, q) :: cs, ColOk K M p.1 p.2.1
  | p, hp => by
    rcases List.mem_cons.mp hp with rfl | hp
    · exact h
    · exact hr p hp
section
variable {X : Cx} {Z : List Zx} {W : WX} {f g k : EF}
theorem chain_read {r r' : R2} {fo go : F2} {σ : L2.St} {H : Hp} {Q : V → Hp → Prop} (sem : Sem2 X.K r fo) (sem' : Sem2 X.K r' go) : tN X.K Z W (eChain fo go f g k) σ H Q → tChain r r' (tD X.K Z W f) (tD X.K Z W g) (tD X.K Z W k) σ H Q := fun ⟨Xo, js, env, J, F, p⟩ => by
  refine ⟨Xo, js, env, J, F, ?_⟩
  unfold eChain at p
  cases hf : f env J with
  | stuck => rw [hf] at p; exact p.elim
  | err c fs J1 => rw [hf] at p; exact p
  | ok h1 J1 =>
    rw [hf] at p
    intro x H1 e1 F1 x1
    refine ⟨Xo, js, env, J1, F1, ?_⟩
    have p : PostN X.K Z W Xo js H σ env Q ((g env J1).bind fun h2 J2 => (toB (app2 fo J2 h1 h2)).bind fun b J3 => if b = true then (k env J3).bind fun h3 J4 => app2 go J4 h2 h3 else .ok (.val (.bl false)) J3) := p
    cases hg : g env J1 with
    | stuck => rw [hg] at p; exact p.elim
    | err c fs J2 => rw [hg] at p; exact p.later e1
    | ok h2 J2 =>
      rw [hg] at p
      intro y H2 e2 F2 y2
      refine app2_read (W := W) sem (H := H2) .refl F2 (x1.ext F1 e2) y2 ?_
      have p : PostN X.K Z W Xo js H σ env Q ((toB (app2 fo J2 h1 h2)).bind fun b J3 => if b = true then (k env J3).bind fun h3 J4 => app2 go J4 h2 h3 else .ok (.val (.bl false)) J3) := p
      cases hr : app2 fo J2 h1 h2 with
      | stuck => rw [hr] at p; exact p.elim
      | err c fs J3 => rw [hr] at p; exact p.later (e1.trans e2)
      | ok z J3 =>
        rw [hr] at p
        intro v H3 e3 o
        have e03 := (e1.trans e2).trans e3
        cases z with
        | jar k => exact p.elim
        | exc k => exact p.elim
        | newB _ _ => exact p.elim
        | new ds => exact p.elim
        | val d =>
          cases d with
          | bl q =>
            refine ⟨q, outN_bl o, ?_⟩
            cases q with
            | false => exact iteF (p (.bl false) H3 e03 (out_bl o.1))
            | true =>
              refine iteT ⟨Xo, js, env, J3, o.1, ?_⟩
              have p : PostN X.K Z W Xo js H σ env Q ((k env J3).bind fun h3 J4 => app2 go J4 h2 h3) := p
              cases hk : k env J3 with
              | stuck => rw [hk] at p; exact p.elim
              | err c fs J4 => rw [hk] at p; exact p.later e03
              | ok h3 J4 =>
                rw [hk] at p
                intro u H4 e4 F4 u4
                exact app2_read sem' (e03.trans e4) F4 ((y2.ext F2 e3).ext o.1 e4) u4 p
          | _ => exact p.elim
/-- a op1 b op2 c, the expression known -/
theorem pn_chainD {a b c : Expr} {op op' : CmpOp} {r r' : R2} {fo go : F2} {pos : Pos} (ho : OpR X (compareOp op) r) (ho' : OpR X (compareOp op') r') (sem : Sem2 X.K r fo) (sem' : Sem2 X.K r' go) (ha : PE X a (tD X.K Z W f)) (hb : PE X b (tD X.K Z W g)) (hc : PE X c (tD X.K Z W k))
    (hm : lastMarks [op, op'] [b, c] = false) : PE X (.Compare a [op, op'] [b, c] pos) (tN X.K Z W (eChain fo go f g k)) := pe_mono (pe_chain ho ho' ha hb hc hm) fun σ H Q w => chain_read sem sem' w
def bChain (fo go : F2) (f g k : EF) : BF := fun env J => toB (eChain fo go f g k env J)
theorem pt_chainD {a b c : Expr} {op op' : CmpOp} {r r' : R2} {fo go : F2} {pos : Pos} (ho : OpR X (compareOp op) r) (ho' : OpR X (compareOp op') r') (sem : Sem2 X.K r fo) (sem' : Sem2 X.K r' go) (ha : PE X a (tD X.K Z W f)) (hb : PE X b (tD X.K Z W g)) (hc : PE X c (tD X.K Z W k))
    (hm : lastMarks [op, op'] [b, c] = false) : PT X (.Compare a [op, op'] [b, c] pos) (tT X.K Z W (bChain fo go f g k)) := pt_mono (pt_chain ho ho' ha hb hc hm) fun σ H Q w => chain_read sem sem' (toB_read w)
end
end L2.Pz
set_option Elab.async false
set_option linter.all false
set_option maxRecDepth 100000
set_option maxHeartbeats 4000000
set_option autoImplicit false
namespace L2.Pz
open PySem PySem.Spec PyProof.Rows
/-! ### more builtins -/
def asBls : List D → Option (List Bool)
  | [] => some []
  | .bl b :: r => (asBls r).map (b :: ·)
  | _ => none
def dAll : F1
  | .lst ds => match asBls ds with
    | some bs => some (.val (.bl (bs.all id)))
    | none => none
  | _ => none
theorem asBls_map : ∀ {ds : List D} {bs : List Bool}, asBls ds = some bs → ds = bs.map D.bl
  | [], ns, h => by cases h; rfl
  | .bl i :: r, ns, h => by
    unfold asBls at h
    cases e : asBls r with
    | none => rw [e] at h; cases h
    | some ms =>
      rw [e] at h
      cases h
      rw [asBls_map e]; rfl
  | .non :: r, _, h => by cases h
  | .int _ :: r, _, h => by cases h
  | .str _ :: r, _, h => by cases h
  | .tup _ :: r, _, h => by cases h
  | .lst _ :: r, _, h => by cases h
section
variable {K : PySem.W.Frag} {H H' : Hp} {Y : Addr → Prop} {v x y : V} {Z : List Zx}
theorem reps_bls : ∀ {bs : List Bool} {vs : List V}, Reps K H Y (bs.map D.bl) vs → vs = bs.map V.bl
  | [], vs, h => reps_nil.mp h
  | b :: bs, vs, h => by
    obtain ⟨v, r, e, h1, h2⟩ := reps_cons.mp h
    subst e
    rw [reps_bls h2]
    cases h1
    rfl
theorem sem_all : Sem1 K (fun x H Q => rAll K [x] H Q) dAll := by
  intro H Y x d z Q hl hx hz q
  unfold dAll at hz
  split at hz
  · rename_i ds
    split at hz
    · rename_i bs hn
      cases hz
      obtain ⟨a, vs, rfl, s, r⟩ := hx
      rw [asBls_map hn] at r
      have e := reps_bls r
      subst e
      exact ⟨a, bs, rfl, s, q _ _ (po_val mk_bl)⟩
    · cases hz
  · cases hz
end
end L2.Pz
namespace L2.Pz
open PySem PySem.Spec PyProof.Rows
def asStrs : List D → Option (List Str)
  | [] => some []
  | .str b :: r => (asStrs r).map (b :: ·)
  | _ => none
/-- sep.join(a list or tuple of texts) -/
def dJoin (a : Str) : F1
  | .lst ds => match asStrs ds with
    | some ys => if (ys.map (·.length)).sum + ys.length * a.length ≤ 16777216 then some (.val (.str (Txt.join a ys))) else none
    | none => none
  | .tup ds => match asStrs ds with
    | some ys => if (ys.map (·.length)).sum + ys.length * a.length ≤ 16777216 then some (.val (.str (Txt.join a ys))) else none
    | none => none
  | _ => none
def dUpper : F1
  | .str a => if a.length ≤ 5592405 then some (.val (.str (Txt.upper a))) else none
  | _ => none
def dLower : F1
  | .str a => if a.length ≤ 5592405 then some (.val (.str (Txt.lower a))) else none
  | _ => none
theorem asStrs_map : ∀ {ds : List D} {bs : List Str}, asStrs ds = some bs → ds = bs.map D.str
  | [], ns, h => by cases h; rfl
  | .str i :: r, ns, h => by
    unfold asStrs at h
    cases e : asStrs r with
    | none => rw [e] at h; cases h
    | some ms =>
      rw [e] at h
      cases h
      rw [asStrs_map e]; rfl
  | .non :: r, _, h => by cases h
  | .int _ :: r, _, h => by cases h
  | .bl _ :: r, _, h => by cases h
  | .tup _ :: r, _, h => by cases h
  | .lst _ :: r, _, h => by cases h
section
variable {X : Cx} {Z : List Zx} {W : WX} {f : EF} {K : PySem.W.Frag} {H H' : Hp} {Y : Addr → Prop} {v x y : V}
theorem reps_strs : ∀ {bs : List Str} {vs : List V}, Reps K H Y (bs.map D.str) vs → vs = bs.map V.str
  | [], vs, h => reps_nil.mp h
  | b :: bs, vs, h => by
    obtain ⟨v, r, e, h1, h2⟩ := reps_cons.mp h
    subst e
    rw [reps_strs h2]
    cases h1
    rfl
theorem sem_join {a : Str} : Sem1 K (fun x H Q => ∃ b p, ∃ ys : List Str, V.str a = .str b ∧ [x] = [.ref p] ∧ (SqL K H p (ys.map V.str) ∨ SqT K H p (ys.map V.str)) ∧ (ys.map (·.length)).sum + ys.length * b.length ≤ 16777216 ∧ Q (.str (Txt.join b ys)) H) (dJoin a) := by
  intro H Y x d z Q hl hx hz q
  unfold dJoin at hz
  split at hz
  · split at hz
    · rename_i ys hn
      split at hz
      · rename_i hs
        cases hz
        obtain ⟨p, vs, rfl, s, r⟩ := hx
        rw [asStrs_map hn] at r
        have e := reps_strs r
        subst e
        exact ⟨a, p, ys, rfl, rfl, .inl s, hs, q _ _ (po_val mk_str)⟩
      · cases hz
    · cases hz
  · split at hz
    · rename_i ys hn
      split at hz
      · rename_i hs
        cases hz
        obtain ⟨p, vs, rfl, s, r⟩ := top_tup hx
        rw [asStrs_map hn] at r
        have e := reps_strs r
        subst e
        exact ⟨a, p, ys, rfl, rfl, .inr s, hs, q _ _ (po_val mk_str)⟩
      · cases hz
    · cases hz
  · cases hz
theorem sem_upper : Sem1 K (fun x H Q => (∃ a, x = .str a) ∧ ∃ a, x = .str a ∧ ([] : List V) = [] ∧ a.length ≤ 5592405 ∧ Q (.str (Txt.upper a)) H) dUpper := by
  intro H Y x d z Q hl hx hz q
  unfold dUpper at hz
  split at hz
  · split at hz
    · rename_i hs
      cases hz
      have e := top_str hx
      subst e
      exact ⟨⟨_, rfl⟩, _, rfl, rfl, hs, q _ _ (po_val mk_str)⟩
    · cases hz
  · cases hz
theorem sem_lower : Sem1 K (fun x H Q => (∃ a, x = .str a) ∧ ∃ a, x = .str a ∧ ([] : List V) = [] ∧ a.length ≤ 5592405 ∧ Q (.str (Txt.lower a)) H) dLower := by
  intro H Y x d z Q hl hx hz q
  unfold dLower at hz
  split at hz
  · split at hz
    · rename_i hs
      cases hz
      have e := top_str hx
      subst e
      exact ⟨⟨_, rfl⟩, _, rfl, rfl, hs, q _ _ (po_val mk_str)⟩
    · cases hz
  · cases hz
theorem pn_upper {o : Expr} {apos pos : Pos} (ho : PE X o (tD X.K Z W f)) (hbase : attributeBase o "upper" X.env (eval o X.env) = eval o X.env) (hline : (apos.endLine == pos.line) = true) :
    PE X (.Call (.Attribute o "upper" apos) [] [] pos) (tN X.K Z W (eUn dUpper f)) := pe_mono (pe_upper ho hbase hline) fun σ H Q w => un_read sem_upper (fun _ _ _ z => z) w
theorem pn_lower {o : Expr} {apos pos : Pos} (ho : PE X o (tD X.K Z W f)) (hbase : attributeBase o "lower" X.env (eval o X.env) = eval o X.env) (hline : (apos.endLine == pos.line) = true) :
    PE X (.Call (.Attribute o "lower" apos) [] [] pos) (tN X.K Z W (eUn dLower f)) := pe_mono (pe_lower ho hbase hline) fun σ H Q w => un_read sem_lower (fun _ _ _ z => z) w
theorem pn_join {o e : Expr} {a : Str} {apos pos : Pos} (ho : PE X o (tC (.str a))) (he : PE X e (tD X.K Z W f)) (hs : starEach [e] X.env = [(false, eval e X.env)]) (hbase : attributeBase o "join" X.env (eval o X.env) = eval o X.env) (hline : (apos.endLine == pos.line) = true) :
    PE X (.Call (.Attribute o "join" apos) [e] [] pos) (tN X.K Z W (eUn (dJoin a) f)) := pe_mono (pe_join ho he hs hbase hline) fun σ H Q w => ⟨⟨a, rfl⟩, un_read sem_join (fun _ _ _ z => z) w⟩
end
end L2.Pz
namespace L2.Pz
open PySem PySem.Spec PyProof.Rows
/-- str(an int) -/
def dStrI : F1
  | .int i => if i.natAbs.log2 < 1920 then some (.val (.str (toString i))) else none
  | _ => none
theorem sem_strI {K : PySem.W.Frag} : Sem1 K (fun x H Q => ∃ i, [x] = [V.int i] ∧ i.natAbs.log2 < 1920 ∧ Q (.str (toString i)) H) dStrI := by
  intro H Y x d z Q hl hx hz q
  unfold dStrI at hz
  split at hz
  · split at hz
    · rename_i hs
      cases hz
      have e := top_int hx
      subst e
      exact ⟨_, rfl, hs, q _ _ (po_val mk_str)⟩
    · cases hz
  · cases hz
end L2.Pz
namespace L2.Pz
open PySem PySem.Spec PyProof.Rows
/-- a.split() and a.split(b) -/
def dWords : F1
  | .str a => if a.length + 2 ≤ big then some (.new ((Txt.words a).map D.str)) else none
  | _ => none
theorem reps_of_strs {K : PySem.W.Frag} {H : Hp} {Y : Addr → Prop} : ∀ {ys : List Str}, Reps K H Y (ys.map D.str) (ys.map V.str)
  | [] => reps_nil.mpr rfl
  | y :: ys => reps_cons.mpr ⟨_, _, rfl, mk_str, reps_of_strs⟩
theorem sem_words {K : PySem.W.Frag} : Sem1 K (fun x H Q => (∃ a, x = .str a) ∧ ∃ a, x = .str a ∧ ([] : List V) = [] ∧ a.length + 2 ≤ sizeLine ∧ rNewStrs (Txt.words a) H Q) dWords := by
  intro H Y x d z Q hl hx hz q
  unfold dWords at hz
  split at hz
  · split at hz
    · rename_i hs
      cases hz
      have e := top_str hx
      subst e
      exact ⟨⟨_, rfl⟩, _, rfl, rfl, by rw [sizeLine_eq]; exact hs, fun p hp => q _ _ (po_newl hl hp reps_of_strs)⟩
    · cases hz
  · cases hz
section
variable {X : Cx} {Z : List Zx} {W : WX} {f : EF}
theorem pn_words {o : Expr} {apos pos : Pos} (ho : PE X o (tD X.K Z W f)) (hbase : attributeBase o "split" X.env (eval o X.env) = eval o X.env) (hline : (apos.endLine == pos.line) = true) :
    PE X (.Call (.Attribute o "split" apos) [] [] pos) (tN X.K Z W (eUn dWords f)) := pe_mono (pe_words ho hbase hline) fun σ H Q w => un_read sem_words (fun _ _ _ z => z) w
end
end L2.Pz
namespace L2.Pz
open PySem PySem.Spec PyProof.Rows
def dSplit (b : Str) : F1
  | .str a => if (b.length == 0) = false ∧ a.length + 2 ≤ big then some (.new ((Txt.split a b).map D.str)) else none
  | _ => none
theorem sem_split {K : PySem.W.Frag} {b : Str} : Sem1 K (fun x H Q => (∃ a, x = .str a) ∧ ∃ a c, x = .str a ∧ [V.str b] = [.str c] ∧ (c.length == 0) = false ∧ a.length + 2 ≤ sizeLine ∧ rNewStrs (Txt.split a c) H Q) (dSplit b) := by
  intro H Y x d z Q hl hx hz q
  unfold dSplit at hz
  split at hz
  · split at hz
    · rename_i hs
      cases hz
      have e := top_str hx
      subst e
      exact ⟨⟨_, rfl⟩, _, _, rfl, rfl, hs.1, by rw [sizeLine_eq]; exact hs.2, fun p hp => q _ _ (po_newl hl hp reps_of_strs)⟩
    · cases hz
  · cases hz
section
variable {X : Cx} {Z : List Zx} {W : WX} {f : EF}
theorem pn_split {o e : Expr} {b : Str} {apos pos : Pos} (ho : PE X o (tD X.K Z W f)) (he : PE X e (tC (.str b))) (hs : starEach [e] X.env = [(false, eval e X.env)]) (hbase : attributeBase o "split" X.env (eval o X.env) = eval o X.env) (hline : (apos.endLine == pos.line) = true) :
    PE X (.Call (.Attribute o "split" apos) [e] [] pos) (tN X.K Z W (eUn (dSplit b) f)) := pe_mono (pe_split ho he hs hbase hline) fun σ H Q w => un_read sem_split (fun _ _ _ z => z) w
end
end L2.Pz
set_option Elab.async false
set_option linter.all false
set_option maxRecDepth 100000
set_option maxHeartbeats 4000000
set_option autoImplicit false
/-! isinstance of a held exception that keeps attributes; a def that asks a held exception, called in a suite -/
namespace PySem.W
open PySem PySem.Spec PySem.Calls PyProof.Rows
section
variable {prog : Program} {w : World} {A : Around} {E : Value → Shared → Prop} {s : Shared} {K : Frag} {x D : Addr} {ox : Obj} {od : Option Obj}
theorem findObj_data_pz {C : Addr} {name : Str} {a g : Value} (hc : (clsIn K C).isSome = true) (ha : findIn K (.ref C) name = some (some a)) (hg : specialIn K a "__get__" = some (some g)) (ht : takesIn K a = some true) : findObj K C od name = some (.bind g a) := by
  obtain ⟨cd, hc⟩ := Option.isSome_iff_exists.mp hc
  unfold findObj
  rw [hc, Option.bind_some, ha, Option.bind_some]
  simp [hg, ht]
theorem kin_class_pz {Q : Option Value → Shared → Prop} (hga : findIn K (.ref D) "__getattribute__" = some (some (.builtin "BaseException.__getattribute__"))) (hgt : findIn K (.ref D) "__getattr__" = some none) (hsub : subIn K (.ref D) (.type "BaseException") = some true)
    (hdct : hasDictIn K D = true) (ha : findIn K (.ref D) "__class__" = some (some (.builtin "object.__class__")))
    (hn : specialIn K (.builtin "object.__class__") "__get__" = some (some (.builtin "getset_descriptor.__get__"))) (htk : takesIn K (.builtin "object.__class__") = some true) (hm : mroIn K D (.type "object") = some true)
    (X : K.In s.heap) (I : InstAt s.heap x ox D od) (h : Q (some (.ref D)) { s with toks := s.toks + 1 }) : wpAny (model prog w) A (getAttr? (.ref x) "__class__") Q E s := by
  have hf : findObj K D od "__class__" = some (.bind (.builtin "getset_descriptor.__get__") (.builtin "object.__class__")) := findObj_data_pz (by obtain ⟨cd, hc, _⟩ := any_some hdct; rw [hc]; rfl) ha hn htk
  obtain ⟨hp, g, d, t, os⟩ := s
  have L0 := I.type (M := model prog w)
  have L1 := looks_findIn (M := model prog w) X hga
  have L2 := looks_findIn (M := model prog w) X hgt
  have L3 := looks_find (M := model prog w) X I hf
  have sub : Looks (model prog w) hp (isInstance (.ref x) (.type "BaseException")) true := L0.andThen (looks_subIn X hsub)
  have hx0 : (false && onTheHeap (Value.builtin "BaseException.__getattribute__")) = false := rfl
  have hx2 : (Value.builtin "BaseException.__getattribute__" == Value.builtin "object.__getattribute__") = false := by decide +kernel
  have hx1 : (onTheHeap (Value.ref D) && Value.builtin "BaseException.__getattribute__" == Value.builtin "object.__getattribute__") = false := by rw [hx2]; rfl
  unfold getAttr? getAttrBy? getAttrBy
  refine wpAny_bind (wpAny_mkText (wpAny_bind (wpAny_attempt (wpAny_holding (wpAny_bind (L0.at (wpAny_bind (L1.at ?_))))))))
  show wpAny _ _ (if (onTheHeap (Value.ref D) && Value.builtin "BaseException.__getattribute__" == Value.builtin "object.__getattribute__") = true then _ else _) _ _ _
  rw [hx1, if_neg Bool.false_ne_true]
  unfold getAttrByItsOwn hookBefore
  refine wpAny_bind ?_
  rw [if_pos (show onTheHeap (Value.ref D) = true from rfl)]
  refine L2.at ?_
  refine wpAny_bind (wpAny_attempt (wpAny_holding ?_))
  unfold callGetattribute
  rw [hx0, if_neg Bool.false_ne_true]
  unfold boundAndCalled
  rw [PySem.F.excAttr_ValueError.ga.bind (.ref x)]
  refine wpAny_bind (wpAny_pure ?_)
  show wpAny _ _ (call (.builtin "BaseException.__getattribute__") [.ref x, .str "__class__" t]) _ _ _
  refine wpAny_call (codeAny_call_builtin PySem.F.excAttr_ValueError.ga.plain PySem.F.entry_bexc_ga ?_)
  refine @check_slot (model prog w) _ _ ⟨hp, g, d, t + 1, os⟩ "BaseException.__getattribute__" "BaseException" "__getattribute__" (.ref x) [.str "__class__" t] [] _ (by decide +kernel) (by decide +kernel) sub (PySem.F.args_bexc_ga (.ref x) (.str "__class__" t)) ?_
  unfold Builtin.«object.__getattribute__»
  refine wpAny_bind (wpAny_of_eq (a := ((Value.ref x : Value), [Value.str "__class__" t])) (by first | rfl | (simp only [slotArgs]; rfl)) ?_)
  refine wpAny_bind (wpAny_pure (wpAny_bind (L0.at (wpAny_bind (L3.at ?_)))))
  show wpAny _ _ (holding [Value.builtin "object.__class__"] (call (.builtin "getset_descriptor.__get__") [.builtin "object.__class__", .ref x, .ref D]) >>= ret) _ _ _
  refine wpAny_bind (wpAny_holding (wpAny_call (class_get (s := ⟨hp, g, d, t + 1, os⟩) (ox := ox) (od := od) X I hm ?_)))
  refine wpAny_pure ?_
  show wpAny _ _ (handedOut (.ref D)) _ _ _
  rw [handedOut_of (v := .ref D) rfl]
  first
    | exact wpAny_pure (wpAny_pure h)
    | exact wpAny_pure h
    | exact wpAny_pure (wpAny_bind (wpAny_pure (wpAny_pure h)))
theorem kitx_pz (hga : findIn K (.ref D) "__getattribute__" = some (some (.builtin "BaseException.__getattribute__"))) (hgt : findIn K (.ref D) "__getattr__" = some none) (hsub : subIn K (.ref D) (.type "BaseException") = some true) (hdct : hasDictIn K D = true) (ha : findIn K (.ref D) "__class__" = some (some (.builtin "object.__class__")))
    (hn : specialIn K (.builtin "object.__class__") "__get__" = some (some (.builtin "getset_descriptor.__get__"))) (htk : takesIn K (.builtin "object.__class__") = some true) (hm : mroIn K D (.type "object") = some true) :
    KitX K (.ref x) (.ref D) (fun h => InstAt h x ox D od) where
  ty := fun _ _ _ I => I.type
  it := fun _ _ X _ => by
    obtain ⟨cdD, hcD, _⟩ := any_some hdct
    unfold clsIn at hcD
    split at hcD
    · rename_i c' d' cd' sl' ho
      intro A' Q' E' s' k q
      unfold isType loadHead
      exact wpAny_bind (wpAny_loadPart (k _ _ (X _ _ ho)) (wpAny_pure q))
    · cases hcD
  ne := fun h tp dd its n sl X htp => by
    obtain ⟨cdD, hcD, _⟩ := any_some hdct
    refine Bool.eq_false_iff.mpr fun q => ?_
    have e : D = tp := Value.ref.inj (beq_iff_eq.mp q)
    subst e
    unfold clsIn at hcD
    split at hcD
    · rename_i c' d' cd' sl' ho
      have z := (X _ _ ho).symm.trans htp
      cases z
    · cases hcD
  ca := fun X I k => kin_class_pz hga hgt hsub hdct ha hn htk hm X I k
end
end PySem.W
namespace L2.Pz
open PySem PySem.Spec PyProof.Rows
/-- what isinstance wants of the exception's class, as one test -/
def excB (K : PySem.W.Frag) (D : Addr) : Bool := decide (PySem.W.findIn K (.ref D) "__getattribute__" = some (some (.builtin "BaseException.__getattribute__"))) && (decide (PySem.W.findIn K (.ref D) "__getattr__" = some none) && (decide (PySem.W.subIn K (.ref D) (.type "BaseException") = some true) && (PySem.W.hasDictIn K D && (decide (PySem.W.findIn K (.ref D) "__class__" = some (some (.builtin "object.__class__"))) &&
  (decide (PySem.W.specialIn K (.builtin "object.__class__") "__get__" = some (some (.builtin "getset_descriptor.__get__"))) && (decide (PySem.W.takesIn K (.builtin "object.__class__") = some true) && decide (PySem.W.mroIn K D (.type "object") = some true)))))))
theorem excB_ok {K : PySem.W.Frag} {D : Addr} (h : excB K D = true) : ExcC K D := by
  obtain ⟨h1, h⟩ := Bool.and_eq_true_iff.mp h
  obtain ⟨h2, h⟩ := Bool.and_eq_true_iff.mp h
  obtain ⟨h3, h⟩ := Bool.and_eq_true_iff.mp h
  obtain ⟨h4, h⟩ := Bool.and_eq_true_iff.mp h
  obtain ⟨h5, h⟩ := Bool.and_eq_true_iff.mp h
  obtain ⟨h6, h⟩ := Bool.and_eq_true_iff.mp h
  obtain ⟨h7, h8⟩ := Bool.and_eq_true_iff.mp h
  exact ⟨of_decide_eq_true h1, of_decide_eq_true h2, of_decide_eq_true h3, h4, of_decide_eq_true h5, of_decide_eq_true h6, of_decide_eq_true h7, of_decide_eq_true h8⟩
/-- one class asked of several exceptions -/
abbrev KitOk (K : PySem.W.Frag) (M : Str → Str → Option Bool) (v : Value) (x : Str) : Prop := ∀ c b, M c x = some b → ∀ C, PySem.W.nsIn K mainGlobals c = some (some (.ref C)) → ExcC K C ∧ PySem.W.kitOne K (.ref C) v = some b
theorem kcol_ok {K : PySem.W.Frag} {v : Value} : ∀ (r : Xcol), (∀ p ∈ r, ∃ C, PySem.W.nsIn K mainGlobals p.1 = some (some (.ref C)) ∧ ExcC K C ∧ PySem.W.kitOne K (.ref C) v = some p.2) → ∀ c b, r.lookup c = some b → ∀ C, PySem.W.nsIn K mainGlobals c = some (some (.ref C)) → ExcC K C ∧ PySem.W.kitOne K (.ref C) v = some b
  | [], _, c, b, h => by cases h
  | (c0, b0) :: r, hr, c, b, h => by
    intro C hC
    by_cases e : (c == c0) = true
    · simp only [List.lookup_cons, e] at h
      cases h
      have e := eq_of_beq e
      subst e
      obtain ⟨C', h1, h2⟩ := hr _ List.mem_cons_self
      have h1 : PySem.W.nsIn K mainGlobals c = some (some (.ref C')) := h1
      rw [h1] at hC
      cases hC
      exact h2
    · rw [Bool.not_eq_true] at e
      simp only [List.lookup_cons, e] at h
      exact kcol_ok r (fun p hp => hr p (List.mem_cons_of_mem _ hp)) c b h C hC
theorem kcol_cons {K : PySem.W.Frag} {v : Value} {c : Str} {b : Bool} {C : Addr} {r : Xcol} (h1 : PySem.W.nsIn K mainGlobals c = some (some (.ref C))) (h0 : ExcC K C) (h2 : PySem.W.kitOne K (.ref C) v = some b)
    (hr : ∀ p ∈ r, ∃ C, PySem.W.nsIn K mainGlobals p.1 = some (some (.ref C)) ∧ ExcC K C ∧ PySem.W.kitOne K (.ref C) v = some p.2) : ∀ p ∈ (c, b) :: r, ∃ C, PySem.W.nsIn K mainGlobals p.1 = some (some (.ref C)) ∧ ExcC K C ∧ PySem.W.kitOne K (.ref C) v = some p.2
  | p, hp => by
    rcases List.mem_cons.mp hp with rfl | hp
    · exact ⟨C, h1, h0, h2⟩
    · exact hr p hp
theorem kcol_nil {K : PySem.W.Frag} {v : Value} : ∀ p ∈ ([] : Xcol), ∃ C, PySem.W.nsIn K mainGlobals p.1 = some (some (.ref C)) ∧ ExcC K C ∧ PySem.W.kitOne K (.ref C) v = some p.2 := fun p hp => by cases hp
/-- isinstance(e, c), e the held exception in slot i, its class k -/
def eIsE (M : Str → Str → Option Bool) (i : Nat) (x k : Str) : EF := fun env J => match env[i]? with
  | some (some (.exc 0)) => (match M k x with | some b => .ok (.val (.bl b)) J | none => .stuck)
  | _ => .stuck
/-- the context bears z -/
structure Bears (X : Cx) (z : Zx) : Prop where
  ex : ∃ oe, (z.a, oe) ∈ X.pn ∧ Zc z.cls z.od oe ∧ ∃ vs, oe.data = .fields vs
theorem bears_su {X : Cx} {z : Zx} {oe : Obj} {pn : List (Addr × Obj)} (hz : Zc z.cls z.od oe) (hf : ∃ vs, oe.data = .fields vs) : Bears (X.suite z.a ((z.a, oe) :: pn)) z := ⟨oe, List.mem_cons_self, hz, hf⟩
/-- isinstance of it: read -/
def rIsD (K : PySem.W.Frag) (z : Zx) : List V → Hp → VK → Prop := fun xs H Q => ∃ (C : Addr) (c : V) (cv : Value) (b : Bool) (dd : Addr) (us : List (Str × V)), xs = [.ref z.a, c] ∧ (∀ u, RelV c u → u = cv) ∧ z.cls = .ref C ∧ z.od = some dd ∧ H dd = some (.xd us) ∧ ExcC K C ∧ PySem.W.kitOne K (.ref C) cv = some b ∧ Q (.bl b) H
theorem call_isD {X : Cx} {z : Zx} (B : Bears X z) : CallR X (.builtin "isinstance") (rIsD X.K z) := by
  intro pins s σ H xs us Q I r h
  obtain ⟨oe, hmem, hz, vs, hv⟩ := B.ex
  obtain ⟨C, c, cv, b, dd, us', rfl, hcv, ec, ed, ea, E, e, q⟩ := h
  cases r with
  | cons rx rr =>
    cases rr with
    | cons rt rr =>
      cases rr
      cases rx
      have ecv := hcv _ rt
      subst ecv
      obtain ⟨hget, _⟩ := I.pin (z.a, oe) (List.mem_append_left _ hmem)
      have hx : ObjOk X.prog X.w H s.heap dd (.xd us') := I.hok dd _ ea
      obtain ⟨mA, hns, hr⟩ := hx
      obtain ⟨od, ho, hl⟩ := lookIn_ns hns
      have J : PySem.W.InstAt s.heap z.a oe C (some od) := ⟨hget, by rw [hz.1, ec], by unfold PySem.W.notCls; rw [hv] <;> rfl, by rw [hz.2, ed]; exact ho⟩
      exact PySem.W.kia_one (PySem.W.kitx_pz E.hg E.hk E.hs E.hd E.ha E.hn E.ht E.hm) I.kIn J e (fun z => nomatch z) fun tk => ⟨.bl b, H, I.kept (t' := tk) fun _ _ z => z, rfl, q⟩
theorem pn_isE {X : Cx} {z : Zx} {W : WX} {M : Str → Str → Option Bool} {C : Addr} {i : Nat} {x y n : Str} {p p1 p2 pos : Pos} (B : Bears X z) (hk : KitOk X.K M (.ref C) y) (hg : Gl X x) (hm : X.mg x = none) (hv : bootBuiltins x = some (.builtin "isinstance"))
    (he : PE X (.Name n p1) (tVar i)) (hy : PE X (.Name y p2) (tC (.ref C)))
    (hn : x ≠ "__name__") (hdb : (x == ("__debug__" : Str)) = false) (h1 : starEach [.Name n p1, .Name y p2] X.env = (false, eval (.Name n p1) X.env) :: starEach [.Name y p2] X.env) (h2 : starEach [.Name y p2] X.env = (false, eval (.Name y p2) X.env) :: starEach [] X.env) (hpl : (backTo pos (starEach [.Name y p2] X.env)).any (·.1) = false) :
    PE X (.Call (.Name x p) [.Name n p1, .Name y p2] [] pos) (tN X.K [z] W (eIsE M i y z.c)) :=
  pe_mono (pe_callB (call_isD B) hg hm hv (pa_cons he (pa_cons hy pa_nil h2) h1) hn hdb h1 hpl) fun σ H Q ⟨Xo, js, env, J, F, p⟩ => by
    unfold eIsE at p
    cases hs : env[i]? with
    | none => rw [hs] at p; exact p.elim
    | some o =>
      cases o with
      | none => rw [hs] at p; exact p.elim
      | some h =>
        cases h with
        | val d => rw [hs] at p; exact p.elim
        | new d => rw [hs] at p; exact p.elim
        | jar k => rw [hs] at p; exact p.elim
        | newB _ _ => rw [hs] at p; exact p.elim
        | exc k =>
          cases k with
          | succ k => rw [hs] at p; exact p.elim
          | zero =>
            rw [hs] at p
            have p : PostN X.K [z] W Xo js H σ env Q (match M z.c y with | some b => .ok (.val (.bl b)) J | none => .stuck) := p
            cases hM : M z.c y with
            | none => rw [hM] at p; exact p.elim
            | some b =>
              rw [hM] at p
              obtain ⟨v, hv', z', hz', rfl⟩ := F.slot i _ hs
              have ez : z = z' := by simpa using hz'
              subst ez
              obtain ⟨C', c1, c2, dd, us, d1, d2, d3, d4⟩ := F.ez z List.mem_cons_self
              obtain ⟨E, k1⟩ := hk _ _ hM _ c1
              exact ⟨_, hv', C', _, _, b, dd, us, rfl, fun u r => r, c2, d1, d2, E, k1, p (.bl b) H .refl (out_bl F)⟩
end L2.Pz
set_option Elab.async false
set_option linter.all false
set_option maxRecDepth 100000
set_option maxHeartbeats 4000000
set_option autoImplicit false
/-! a def that asks the held exception, called in a suite -/
namespace L2.Pz
open PySem PySem.Spec PyProof.Rows
section
variable {P : Program} {w : World} {K : PySem.W.Frag} {mg : Str → Option Value} {base : Heap}
theorem roomS {j k : Nat} {A : Around} {m : Option Value} (hr : Room k A) (h : j ≤ k) : L2H.RoomH j (A.mark m) := ⟨(hr.mono h).dp, (hr.mono h).un⟩
structure KinOk (P : Program) (w : World) (K : PySem.W.Frag) (mg : Str → Option Value) (base : Heap) (k : Nat) (f : Addr) (fd : FuncData) (ps : List Str) (F : Str → FT) : Prop where
  run : ∀ (A : Around) (outer : List Env) (s : Shared) (H : Hp) (args : Args) (us : List Value) (Q : VK) (E : XK) (z : Zx) (oe : Obj) (Xo : Addr → Prop) (js : List Addr) (J J1 : Jr) (d : D), L2H.RoomH k A → L2H.PinOk outer H s (z.a, oe) → Zc z.cls z.od oe → (∃ vs, oe.data = .fields vs) → Env0 P w K mg base A outer s H → BindsTo s fd args (ps.zip us) → Vals [.ref z.a] us →
    Fit K [z] Xo js H [] [] J → F z.c [.exc 0] J = .ok (.val d) J1 → (∀ v H', Ext js H H' → Fit K [z] Xo js H' [] [] J1 → Rep K H' (Yf Xo js) d v → Q v H') → codeAny (model P w) A (.call (.ref f) args) (CR (L2.CX P w) outer P w H s Q E) s
theorem kin_ok {x qual : Str} {st : Stmt} {f : Addr} {fd : FuncData} {N ps : List Str} {k : Nat} {g : Str → SF} (Fd : Fun K x qual st f fd) (S : FnScope N ps (defScope st)) (hp : ps.length = 1)
    (hb : ∀ (cdv : Value) (A : Around) (outer : List Env) (s : Shared) (H : Hp) (E : XK) (n0 : Nat) (z : Zx) (oe : Obj), Zc z.cls z.od oe → (∃ vs, oe.data = .fields vs) → L2H.RoomH k (A.deeper (envOfC qual (defScope st) s.heap.objs.size f cdv)) →
      PSs (L2H.cxH (L2.CX P w) P w K mg base N qual (defScope st) f cdv A outer s H E (z.a, oe)) (defBody st) (tS K [z] W0 n0 (g z.c))) : KinOk P w K mg base (k + 1) f fd ps (fun c => mkF N.length (g c)) := by
  obtain ⟨oc, od, kV, doc, pm, an, cdv, ct, osl, rfl, lk, hcd⟩ := Fd.ex
  refine ⟨fun A outer s H args us Q E z oe Xo js J J1 d hr hpin hz hf e0 hbd r Fi hF hQ => ?_⟩
  have hl : [V.ref z.a].length = ps.length := hp.symm
  have KX : K.In s.heap := e0.mod.kin.keeps fun b o e => (e0.bs b o e).1
  have lim : s.heap.NoLimit := e0.mod.nolimit.keeps fun b o e => (e0.bs b o e).1
  have hkind : ∀ y ∈ ps.zip us, (defScope st).names.lookup y.1 = some .local ∨ ((defScope st).names.lookup y.1 = some .cell ∧ ((cellsFrom (s.heap.objs.size + 1) (defScope st).names []).lookup y.1).isSome = true) := fun ⟨n, v⟩ hy => by
    rcases S.par n (List.of_mem_zip hy).1 with q | q
    · exact .inl q
    · exact .inr ⟨q, PySem.W.cellsFrom_some _ _ _ (.inl q)⟩
  refine codeAny_call_function hr.depth (KX _ _ lk) rfl S.co S.gen rfl (PySem.W.codeRec_of KX hcd) (hbd _ _ _ _ ?_)
  refine wpAny_newFunctionEnv_cells S.kind hkind fun env he s1 x => ?_
  subst he
  refine ⟨lim.keeps x.toInCall.keep, codeAny_func ?_⟩
  have ht := hb cdv A outer s H E J.length z oe hz hf (hr.deeper _)
  have I : Inv (L2H.cxH (L2.CX P w) P w K mg base N qual (defScope st) f cdv A outer s H E (z.a, oe)) [] (L2.start N [.ref z.a]) H s1 := L2H.inv_startH S hpin e0 hl r x
  have hrr : HReps K [z] H (Yf Xo js) js [.exc 0] [.ref z.a] := ⟨.ref z.a, [], rfl, ⟨z, rfl, rfl⟩, rfl⟩
  have hq : tS K [z] W0 J.length (g z.c) { nx := fun _ H' => Q .non H', rt := Q } (L2.start N [.ref z.a]) H := by
    refine ⟨Xo, js, startE N.length [.exc 0], J, fit_start Fi hrr, ?_⟩
    have hF : endR J.length (g z.c J.length (startE N.length [.exc 0]) J) = .ok (.val d) J1 := hF
    cases r : g z.c J.length (startE N.length [.exc 0]) J with
    | stuck => rw [r] at hF; cases hF
    | bk e1 J2 => rw [r] at hF; cases hF
    | ct e1 J2 => rw [r] at hF; cases hF
    | err c fs e1 J2 =>
      rw [r] at hF
      have hF : (if J.length ≤ J2.length then R.err c fs (J2.take J.length) else R.stuck) = R.ok (HV.val d) J1 := hF
      split at hF <;> cases hF
    | nx e1 J2 =>
      rw [r] at hF
      have hF : (if J.length ≤ J2.length then R.ok (HV.val .non) (J2.take J.length) else R.stuck) = R.ok (HV.val d) J1 := hF
      split at hF
      · cases hF
        intro σ' H' js' s F'
        have G := F'.bare.trim J.length
        rw [take_js Fi s] at G
        exact hQ .non H' s.ext G (mk_non (K := K) (H := H') (Y := Yf Xo js))
      · cases hF
    | rt h J2 =>
      rw [r] at hF
      have hF : (if J.length ≤ J2.length then outH J.length J2 h else R.stuck) = R.ok (HV.val d) J1 := hF
      split at hF
      · cases h with
        | val d' =>
          cases hF
          intro v H' js' s o
          have ej := take_js Fi s
          have yy : ∀ a, Yf Xo js a → Yf Xo js' a := fun a y => y.elim .inl fun y => .inr (by rw [← ej] at y; exact List.mem_of_mem_take y)
          have G := o.1.trim J.length
          rw [ej] at G
          exact hQ v H' s.ext G (rep_move (fun _ _ e _ => e) (fun a y => .inl (yy a y)) o.1.lists _ _ o.2)
        | new ds => cases hF
        | exc m => cases hF
        | newB _ _ => cases hF
        | jar m =>
          have hF : (if m < J.length then R.ok (HV.jar m) (J2.take J.length) else match J2[m]? with
            | some ds => if ds.all isP = true then R.ok (HV.new ds) (J2.take J.length) else R.stuck
            | none => R.stuck) = R.ok (HV.val d) J1 := hF
          split at hF
          · cases hF
          · split at hF
            · split at hF <;> cases hF
            · cases hF
      · cases hF
  refine wpAny_mono (ht.run [] s1 (L2.start N [.ref z.a]) H _ I hq) (fun fl s' hs => ?_) fun e s' hs => hs
  have fin : ∀ {σ' : L2.St} {H' : Hp} {v : V} {u : Value}, Inv (L2H.cxH (L2.CX P w) P w K mg base N qual (defScope st) f cdv A outer s H E (z.a, oe)) [] σ' H' s' → RelV v u → Q v H' → CE outer P w H s Q u s' :=
    fun {σ' H' v u} J rv q => ⟨v, H', J.os, J.bare, J.base, J.hok, rv, q⟩
  cases fl with
  | ret u =>
    obtain ⟨v, σ', H', J, rv, q⟩ := hs
    exact fin J rv q
  | next =>
    obtain ⟨σ', H', J, q⟩ := hs
    exact fin (v := V.non) (u := Value.none) J rfl q
  | brk =>
    obtain ⟨_, _, _, q⟩ := hs
    exact False.elim q
  | cont =>
    obtain ⟨_, _, _, q⟩ := hs
    exact False.elim q
end
/-- f(e), e the held exception in slot i, its class k -/
def eKin (F : Str → FT) (i : Nat) (k : Str) : EF := fun env J => match env[i]? with
  | some (some (.exc 0)) => (match F k [.exc 0] J with | .ok (.val d) J1 => .ok (.val d) J1 | _ => .stuck)
  | _ => .stuck
theorem pn_kin {X : Cx} {z : Zx} {W : WX} {F : Str → FT} {k i : Nat} {f : Addr} {fd : FuncData} {ps : List Str} {n x : Str} {p p1 pos : Pos} (G : KinOk X.prog X.w X.K X.mg X.base k f fd ps F) (B : Bears X z) (hr : L2H.RoomH k X.A) (hg : Gl X x) (hm : X.mg x = some (.ref f)) (hk : PySem.W.keepIn X.K (.ref f) = true)
    (hb : Binds X.K fd ps []) (hp : ps.length = 1) (he : PE X (.Name n p1) (tVar i)) (hdb : (x == ("__debug__" : Str)) = false) (hst : starEach [.Name n p1] X.env = (false, eval (.Name n p1) X.env) :: starEach [] X.env) (hpl : (backTo pos (starEach [] X.env)).any (·.1) = false) :
    PE X (.Call (.Name x p) [.Name n p1] [] pos) (tN X.K [z] W (eKin F i z.c)) := by
  refine ⟨fun pins s σ H Q I ⟨Xo, js, env, J, Fi, p⟩ => ?_⟩
  unfold eKin at p
  cases hs : env[i]? with
  | none => rw [hs] at p; exact p.elim
  | some o =>
    cases o with
    | none => rw [hs] at p; exact p.elim
    | some h =>
      cases h with
      | val d => rw [hs] at p; exact p.elim
      | new d => rw [hs] at p; exact p.elim
      | jar k => rw [hs] at p; exact p.elim
      | newB _ _ => rw [hs] at p; exact p.elim
      | exc kk =>
        cases kk with
        | succ k => rw [hs] at p; exact p.elim
        | zero =>
          rw [hs] at p
          have p : PostN X.K [z] W Xo js H σ env Q (match F z.c [.exc 0] J with | .ok (.val d) J1 => .ok (.val d) J1 | _ => .stuck) := p
          cases hF : F z.c [.exc 0] J with
          | stuck => rw [hF] at p; exact p.elim
          | err c fs J1 => rw [hF] at p; exact p.elim
          | ok h J1 =>
            rw [hF] at p
            cases h with
            | jar k => exact p.elim
            | new k => exact p.elim
            | exc k => exact p.elim
            | newB _ _ => exact p.elim
            | val d =>
              have p : PostN X.K [z] W Xo js H σ env Q (.ok (.val d) J1) := p
              obtain ⟨v, hv', z', hz', rfl⟩ := Fi.slot i _ hs
              have ez : z = z' := by simpa using hz'
              subst ez
              obtain ⟨oe, hmem, hz, hf⟩ := B.ex
              refine wpAny_Call_Name_kw (ld_glob I hg hm ?_ hdb)
              refine PySem.W.callWith_K (h₀ := X.base) I.ok.mod.kin hk (thn ((pa_cons he pa_nil hst).run pos pins s σ H (fun vs H1 => vs = [.ref z.a] ∧ H1 = H) I ⟨_, hv', rfl, rfl⟩) fun us s1 ⟨vs, H1, I1, r, e1, e2⟩ => ⟨I1.kIn, ?_⟩) hst hpl
              subst e1 e2
              have hl : us.length = ps.length := by rw [← r.length]; exact hp.symm
              have b := hb s1 us I1.kIn (by rw [List.append_nil]; exact hl)
              rw [List.append_nil] at b
              have P1 := I1.pin (z.a, oe) (List.mem_append_left _ hmem)
              have hpin : L2H.PinOk X.stack H1 s1 (z.a, oe) := ⟨P1.1, P1.2.1, fun hm => (List.mem_cons.mp (I1.stkSub z.a hm)).elim P1.2.2.1 P1.2.2.2.1, P1.2.2.2.2⟩
              refine wpAny_call (codeAny_mono (G.run X.A X.stack s1 H1 ⟨us, []⟩ us Q E0 z oe Xo js J J1 d hr hpin hz hf I1.env0 b r Fi.bare hF (fun v H' ex G rd => p v H' ex (out_val (Fi.renew ex (fun _ h => .inl h) G) rd))) fun r s' hq => ?_)
              cases r with
              | error e => exact passL pins σ H1 s1 e s' I1 hq
              | ok fl =>
                cases fl with
                | ret u => exact I1.after hq
                | next => exact False.elim hq
                | brk => exact False.elim hq
                | cont => exact False.elim hq
end L2.Pz
set_option Elab.async false
set_option linter.all false
set_option maxRecDepth 100000
set_option maxHeartbeats 4000000
set_option autoImplicit false
/-! reversed(a text) -/
namespace RvS
open PySem PySem.Spec PyProof.Rows RT
theorem norev_str : typeLookup (.type "str") "__reversed__" = pure none := by rw [typeLookup_type, builtinLookup_eq_fast]; kernel_rfl
theorem get_str : typeLookup (.type "str") "__getitem__" = pure (some (.builtin "str.__getitem__")) := by rw [typeLookup_type, builtinLookup_eq_fast]; kernel_rfl
theorem sub_str_dict : isSubtype (.type "str") (.type "dict") = pure false := by rw [isSubtype_type]; kernel_rfl
def rsObj (x : Str) (t : Tok) (i : Int) : Obj := { cls := .type "reversed", data := .fields #[.str x t, rawInt i] }
/-- reversed(x), the next place i -/
def IsRs (h : Heap) (a : Addr) (x : Str) (t : Tok) (i : Int) : Prop := ∃ o, h.get? a = some o ∧ o.cls = .type "reversed" ∧ o.data = .fields #[.str x t, rawInt i]
section
variable {prog : Program} {w : World} {A : Around} {E : Value → Shared → Prop} {s : Shared} {x : Str} {t : Tok}
theorem IsRs.typeIs {a : Addr} {i : Int} (y : IsRs s.heap a x t i) : s.TypeIs (.ref a) "reversed" := let ⟨o, ho, hc, _⟩ := y; ⟨o, ho, hc⟩
theorem code_reversed_str {Q₁ : Value → Shared → Prop} (hlen : ¬ (x.length : Int) ≥ 2 ^ 63)
    (h : Q₁ (.ref s.heap.objs.size) { s with heap := s.heap.push (rsObj x t ((x.length : Int) - 1)), toks := s.toks + 1 + 1 }) :
    codeAny (model prog w) A (.call (.builtin "reversed.__new__") ⟨[.type "reversed", .str x t], []⟩) (wants Q₁ E) s := by
  have hT : s.TypeIs (.str x t) "str" := typeIs_str s x t
  refine codeAny_of_tree ?_
  show wpAny _ A.in1 (do checkBuiltinCall "reversed.__new__" ⟨[.type "reversed", .str x t], []⟩; again (.builtin "reversed.__new__" ⟨[.type "reversed", .str x t], []⟩)) _ _ s
  refine wpAny_bind (wpAny_of_eq (F.newCall_reversed_1 _) (wpAny_pure ⟨plainId_quiet F.plain_reversed_new _, codeAny_builtin F.entry_reversed_new ?_⟩))
  rw [Around.under_plainId F.plain_reversed_new _]
  unfold Builtin.«reversed.__new__»
  refine wpAny_bind (wpAny_of_eq (newClass_reversed _) ?_)
  try dsimp only
  refine wpAny_bind (wpAny_of_eq (a := ()) (by first | rfl | kernel_rfl) ?_)
  try dsimp only
  refine wpAny_bind (wpAny_of_eq (a := ()) (by first | rfl | kernel_rfl) ?_)
  try dsimp only
  refine wpAny_bind (wpAny_specialOf hT norev_str ?_)
  try dsimp only
  refine wpAny_bind ?_
  wp_delta
  refine wpAny_bind (wpAny_isInstance (T := "str") (U := "dict") (b := false) hT sub_str_dict ?_)
  try dsimp only
  try rw [if_neg Bool.false_ne_true]
  try dsimp only
  refine wpAny_bind (wpAny_specialOf hT get_str ?_)
  try dsimp only
  try rw [if_pos (by decide +kernel)]
  refine wpAny_pure ?_
  try dsimp only
  try rw [if_neg (by decide)]
  try dsimp only
  refine wpAny_bind (len_str hlen ?_)
  refine wpAny_bind (wpAny_of_eq (a := some ((x.length : Nat) : Int)) rfl ?_)
  try dsimp only
  refine wpAny_bind ?_
  show wpAny _ _ (newObj (.type "reversed") (.fields #[.str x t, rawInt ((x.length : Int) - 1)])) _ _ _
  refine wpAny_newObj_type ?_
  exact wpAny_pure h
theorem call_reversed_str {Q : Value → Shared → Prop} (hlen : ¬ (x.length : Int) ≥ 2 ^ 63)
    (h : Q (.ref s.heap.objs.size) { s with heap := s.heap.push (rsObj x t ((x.length : Int) - 1)), toks := s.toks + 1 + 1 }) : wpAny (model prog w) A (call (.type "reversed") [.str x t]) Q E s := by
  refine callType_codes (Q₁ := fun obj s₁ => s₁.TypeIs obj "reversed" ∧ Q obj s₁) called_rt (F.typeCall_reversed_1 _) F.entry_object_init
    (code_reversed_str (A := A.in1) hlen ⟨⟨_, Heap.get?_push_size _ rfl, rfl⟩, h⟩) fun obj s₁ h₁ => ?_
  exact ⟨h₁.1, F.args_object_init_2 obj _, object_init_meets called_rt.init.lookup called_rt.made (by decide) prog w A.in1 _ s₁ ⟨h₁.1, rfl, h₁.2⟩⟩
theorem next_rs_item {it : Addr} {i : Nat} {c : Nat} {Q : Option Value → Shared → Prop} (hit : IsRs s.heap it x t (i : Int)) (hx : x.cps[i]? = some c) (hsz : x.length < 2 ^ 62)
    (hQ : ∀ h' tk u, IsRs h' it x t ((i : Int) - 1) → Heap.SameBut it s.heap h' → Q (some (.str ⟨#[c]⟩ u)) { s with heap := h', toks := tk }) : wpAny (model prog w) A (pyNext (.ref it)) Q E s := by
  obtain ⟨o, ho, hc, hd⟩ := id hit
  have hi : i < x.cps.size := (Array.getElem?_eq_some_iff.mp hx).1
  have hi2 : i < x.length := hi
  have hT : s.TypeIs (.str x t) "str" := typeIs_str s x t
  unfold pyNext
  refine wpAny_bind (wpAny_attempt (wpAny_callSpecial?_slot (name := Str.ofString "__next__") hit.typeIs slot_rt_next
    (wpAny_call_entry slot_rt_next hit.typeIs entry_rt_next ?_ (args_rt_next _))))
  unfold Builtin.«reversed.__next__»
  refine wpAny_bind (wpAny_of_eq (a := (Value.ref it, [])) rfl ?_)
  try dsimp only
  refine wpAny_bind (wpAny_field ho hd (x := .str x t) rfl ?_)
  try dsimp only
  refine wpAny_bind (wpAny_field ho hd (x := rawInt (i : Int)) rfl ?_)
  show wpAny _ _ (if (i : Int) < 0 then _ else _) _ _ s
  rw [if_neg (by omega)]
  try dsimp only
  refine wpAny_bind (wpAny_specialOf hT get_str ?_)
  try dsimp only
  try rw [if_neg (by decide)]
  try dsimp only
  refine wpAny_bind (wpAny_mkInt ?_)
  refine wpAny_bind (wpAny_attempt ?_)
  have fin : seqIndex? (i : Int) x.length = some i := seqIndex_of (by omega) (by omega)
  refine PyProof.Rows.getItem_str (s := { s with toks := s.toks + 1 }) (c := c) (by simp only [Bool.or_eq_false_iff, decide_eq_false_iff_not]; omega) (by rw [fin]; exact hx) ?_
  try dsimp only
  refine wpAny_bind (wpAny_field (s := { s with toks := s.toks + 1 + 1 }) ho hd (x := rawInt (i : Int)) rfl ?_)
  try dsimp only
  refine wpAny_bind (wpAny_setField (s := { s with toks := s.toks + 1 + 1 }) ho hd (by simp) ?_)
  first
  | refine wpAny_pure ⟨_, rfl, wpAny_pure (hQ _ _ _ ?_ (Heap.SameBut.update ..))⟩
  | refine wpAny_bind (wpAny_pure (wpAny_pure ⟨_, rfl, wpAny_pure (hQ _ _ _ ?_ (Heap.SameBut.update ..))⟩))
  exact ⟨_, Heap.get?_update_self _ ho (Obj.isFreed_of_fields (Obj.data_mapFields hd _)), (Obj.cls_mapFields ..).trans hc, by
    rw [Obj.data_mapFields hd]; simp⟩
theorem next_rs_end {it : Addr} {Q : Option Value → Shared → Prop} (hh : A.handled = none) (hit : IsRs s.heap it x t (-1))
    (hQ : ∀ h', Heap.ExtBut it s.heap h' → Q none { s with heap := h' }) : wpAny (model prog w) A (pyNext (.ref it)) Q E s := by
  obtain ⟨o, ho, hc, hd⟩ := id hit
  unfold pyNext
  refine wpAny_bind (wpAny_attempt (wpAny_callSpecial?_slot (name := Str.ofString "__next__") hit.typeIs slot_rt_next
    (wpAny_call_entry slot_rt_next hit.typeIs entry_rt_next ?_ (args_rt_next _))))
  unfold Builtin.«reversed.__next__»
  refine wpAny_bind (wpAny_of_eq (a := (Value.ref it, [])) rfl ?_)
  try dsimp only
  refine wpAny_bind (wpAny_field ho hd (x := .str x t) rfl ?_)
  try dsimp only
  refine wpAny_bind (wpAny_field ho hd (x := rawInt (-1)) rfl ?_)
  show wpAny _ _ (if (-1 : Int) < 0 then _ else _) _ _ s
  rw [if_pos (by decide)]
  try dsimp only
  refine wpAny_bind (wpAny_rule ?_)
  refine wpAny_bind ?_
  wp_delta
  refine wpAny_bind (wpAny_setField ho hd (by simp) ?_)
  have ho2 := Heap.get?_update_self (Obj.mapFields (·.setIfInBounds 1 (rawInt (-1)))) ho (Obj.isFreed_of_fields (Obj.data_mapFields hd _))
  refine wpAny_setField (s := { s with heap := s.heap.update it (Obj.mapFields (·.setIfInBounds 1 (rawInt (-1)))) }) ho2 (Obj.data_mapFields hd _) (by simp) ?_
  try dsimp only
  first
  | show wpAny _ _ (newExc (.type "StopIteration") [] >>= _) _ _ _
  | (refine wpAny_bind ?_; show wpAny _ _ (newExc (.type "StopIteration") [] >>= _) _ _ _)
  | (refine wpAny_bind ?_; wp_delta; show wpAny _ _ (newExc (.type "StopIteration") [] >>= _) _ _ _)
  refine wpAny_bind ?_
  simp only [newExc, newTuple]
  refine wpAny_bind (wpAny_newObj_type ?_ (by size_fits))
  refine wpAny_bind (m := firstArgMember _ _) (wpAny_of_eq (a := Value.none) (by first | rfl | (simp only [firstArgMember]; rfl)) ?_)
  refine wpAny_newObj_type ?_ (by size_fits)
  simp only [raiseNew]
  refine wpAny_bind (wpAny_handled ?_)
  first | rw [show A.in1.handled = none from hh] | rw [hh]
  refine wpAny_bind (wpAny_pure (wpAny_throw ?_))
  refine wpAny_bind (wpAny_isInstance (T := "StopIteration") (b := true) ⟨_, Heap.get?_push_size _ rfl, rfl⟩ isSubtype_stop ?_)
  refine wpAny_pure (hQ _ ?_)
  refine ((?_ : Heap.ExtBut it s.heap _).push _).push _
  exact fun b ob hb e => (Heap.get?_update_other _ _ (Ne.symm hb)).trans ((Heap.get?_update_other _ _ (Ne.symm hb)).trans e)
theorem iter_rs {it : Addr} {i : Int} {Q : Value → Shared → Prop} (hit : IsRs s.heap it x t i) (h : Q (.ref it) s) : wpAny (model prog w) A (pyIter (.ref it)) Q E s := by
  refine wpAny_pyIter_slot hit.typeIs slot_rt_iter (wpAny_call_entry slot_rt_iter hit.typeIs entry_rt_iter ?_ (args_rt_iter _))
  show wpAny _ _ (ret (.ref it)) _ _ s
  exact wpAny_pure ⟨_, rfl, "reversed", _, hit.typeIs, slot_rt_next.lookup, h⟩
end
end RvS
namespace L2.Pz
open PySem PySem.Spec PyProof.Rows RvS
def ItsR (x : Str) : It := ⟨fun i _ => i < x.cps.size, fun i H v H' => H' = H ∧ ∃ c, x.cps[x.cps.size - 1 - i]? = some c ∧ v = .str ⟨#[c]⟩, fun i _ => x.cps.size ≤ i⟩
theorem turn_rs {P : Program} {w : World} {K : PySem.W.Frag} {tg : Expr} (it : Addr) (x : Str) (t : Tok) (hsz : x.cps.size < 2 ^ 62) :
    Turn P w K tg (ItsR x) [it] it (fun i h => i ≤ x.cps.size ∧ IsRs h it x t ((x.cps.size : Int) - 1 - (i : Nat))) where
  mem := by simp
  obj := fun i h st b hb => by
    have e : b = it := by simpa using hb
    subst e
    obtain ⟨_, o, e, c, d⟩ := st
    exact ⟨o, e, fun v z => by rw [d] at z; cases z⟩
  keep := fun i h h' st k => let ⟨hi, o, ho, r⟩ := st; ⟨hi, o, k it (by simp) o ho, r⟩
  item := by
    intro X hP hw hK hc i pins s σ H E I hf st hg
    subst hP hw hK
    obtain ⟨f0, f1, f2, f3, f4, f5⟩ := hf it (by simp)
    have hg : i < x.cps.size := hg
    obtain ⟨_, hit⟩ := st
    have e1 : (x.cps.size : Int) - 1 - ((i : Nat) : Int) = ((x.cps.size - 1 - i : Nat) : Int) := by omega
    rw [e1] at hit
    obtain ⟨c, hx⟩ : ∃ c, x.cps[x.cps.size - 1 - i]? = some c := ⟨x.cps[x.cps.size - 1 - i]'(by omega), Array.getElem?_eq_getElem _⟩
    refine next_rs_item hit hx hsz fun h' tk u st' sb => ?_
    have e2 : ((x.cps.size - 1 - i : Nat) : Int) - 1 = (x.cps.size : Int) - 1 - ((i + 1 : Nat) : Int) := by omega
    rw [e2] at st'
    have I1 : Inv X pins σ H { s with heap := h', toks := tk } := I.turned (t' := tk) (fun b o hb e => (sb.2 b hb).trans e) f0 f1 f3 f4 f5
    obtain ⟨o, e, cc, d⟩ := id st'
    exact ⟨_, rfl, go_of (s := { s with heap := h', toks := tk }) e cc d (by decide) ⟨.str ⟨#[c]⟩, H, I1, ⟨u, rfl⟩, ⟨rfl, c, hx, rfl⟩, ⟨hg, st'⟩, fun b hb => (hf b hb).1⟩⟩
  done := by
    intro X hP hw hK hc i pins s σ H E I hf st hg
    subst hP hw hK
    obtain ⟨f0, f1, f2, f3, f4, f5⟩ := hf it (by simp)
    obtain ⟨hin, hit⟩ := st
    have hge : x.cps.size ≤ i := hg
    have e1 : (x.cps.size : Int) - 1 - ((i : Nat) : Int) = -1 := by omega
    rw [e1] at hit
    exact next_rs_end (I.ok.hd hc) hit fun h' eb => ⟨rfl, I.turned (t' := s.toks) (fun b o hb e => eb b o hb e) f0 f1 f3 f4 f5⟩
  self := fun A i s Q E st h => iter_rs st.2 h
section
variable {X : Cx} {tg e : Expr} {te : TE} {p pos : Pos} {K : PySem.W.Frag} {H : Hp} {Y : Addr → Prop} {Z : List Zx} {W : WX} {f : EF}
def iRevT (te : TE) : TI := fun σ H R => te σ H fun v H1 => ∃ x, v = .str x ∧ x.cps.size < 2 ^ 62 ∧ R (ItsR x) H1
theorem pi_revT (he : PE X e te) (hg : Gl X "reversed") (hm : X.mg "reversed" = none) (hs : starEach [e] X.env = (false, eval e X.env) :: starEach [] X.env) : PI X tg (.Call (.Name "reversed" p) [e] [] pos) (iRevT te) := by
  refine ⟨fun pins s σ H R I h => ?_⟩
  refine Call_ (ld_blt I hg hm PyProof.Rows.boot_reversed (PyProof.Rows.callWith_type1 (args_cons (thn (he.run pins s σ H _ I h) fun u s1 ⟨v, H1, I1, r1, q1⟩ => args_nil ?_) hs) hs rfl))
  obtain ⟨x, ev, hsz, q⟩ := q1
  subst ev
  obtain ⟨t, rfl⟩ := r1
  refine call_reversed_str (show ¬ ((x.cps.size : Nat) : Int) ≥ 2 ^ 63 by omega) (iter_rs (x := x) (t := t) (i := (x.cps.size : Int) - 1) ⟨_, Heap.get?_push_size _ rfl, rfl, rfl⟩ ?_)
  refine pi_one (tk := s1.toks + 1 + 1) I1 _ (turn_rs _ x t hsz) ⟨Nat.zero_le _, ?_⟩ q
  have e1 : (x.cps.size : Int) - 1 = (x.cps.size : Int) - 1 - ((0 : Nat) : Int) := by simp
  rw [← e1]
  exact ⟨_, Heap.get?_push_size _ rfl, rfl, rfl⟩
theorem walk_rs {z : Str} : Walk (ItsR z) z.cps.size (fun _ => True) (fun i H v H' => H' = H ∧ ∃ c, z.cps[z.cps.size - 1 - i]? = some c ∧ v = .str ⟨#[c]⟩) :=
  ⟨fun i H hi _ => hi, fun H _ => Nat.le_refl _, fun i H x H' _ _ y => y⟩
theorem walkD_rs {z : Str} : WalkD K Y H (ItsR z) (chars z).reverse := by
  have w := walk_rs (z := z)
  have e : z.cps.size = (chars z).reverse.length := by unfold chars; simp
  rw [show (ItsR z) = ItsR z from rfl] at w
  refine ⟨fun _ => True, fun i H v H' => H' = H ∧ ∃ c, z.cps[z.cps.size - 1 - i]? = some c ∧ v = .str ⟨#[c]⟩, e ▸ w, fun _ _ => trivial, fun Y' hY i H1 x H' hi k _ y => ?_⟩
  obtain ⟨e2, c, hc, hx⟩ := y
  subst e2
  rw [← e] at hi
  refine ⟨Same.refl _, .str ⟨#[c]⟩, ?_, by rw [hx]; exact mk_str⟩
  have hl : (chars z).length = z.cps.size := by unfold chars; simp
  rw [List.getElem?_reverse (by rw [hl]; exact hi), hl]
  unfold chars
  rw [List.getElem?_map]
  simp [hc]
/-- reversed(a text) -/
def iRevS (f : EF) : IF := fun env J => (f env J).bind fun h J1 => match h with
  | .val (.str z) => if z.cps.size < 2 ^ 62 then .ok (chars z).reverse J1 else .stuck
  | _ => .stuck
theorem pw_revS (hg : Gl X "reversed") (hm : X.mg "reversed" = none) (he : PE X e (tD X.K Z W f)) (hs : starEach [e] X.env = (false, eval e X.env) :: starEach [] X.env) : PI X tg (.Call (.Name "reversed" p) [e] [] pos) (tW X.K Z W (iRevS f)) := pi_mono (pi_revT he hg hm hs) fun σ H Q ⟨Xo, js, env, J, F, p⟩ => by
  refine ⟨Xo, js, env, J, F, ?_⟩
  unfold iRevS at p
  cases hf : f env J with
  | stuck => rw [hf] at p; exact p.elim
  | err c fs J1 => rw [hf] at p; exact p
  | ok h J1 =>
    rw [hf] at p
    intro x H1 e1 F1 x1
    cases h with
    | jar k => exact p.elim
    | exc k => exact p.elim
    | newB _ _ => exact p.elim
    | new ds => exact p.elim
    | val d =>
      cases d with
      | str z =>
        have p : PostW X.K Z W Xo js H σ env Q (if z.cps.size < 2 ^ 62 then .ok (chars z).reverse J1 else .stuck) := p
        split at p
        · rename_i h
          exact ⟨z, rep_str (K := X.K) (H := H1) (Y := Yf Xo js) x1, h, p _ _ e1 F1 walkD_rs⟩
        · exact p.elim
      | _ => exact p.elim
end
/-! the logic of these -/
section
variable {X : XP} {J : Jr} {env : En} {f : EF}
end
end L2.Pz
set_option Elab.async false
set_option linter.all false
set_option maxRecDepth 100000
set_option maxHeartbeats 4000000
set_option autoImplicit false
/-! the facts of own exceptions, gathered from the written part; the logic of the last forms -/
namespace L2.Pz
open PySem PySem.Spec PyProof.Rows PySem.W PySem.HandSPX
/-- the class facts but for names -/
structure SxK (P : Program) (K : Frag) (C fI : Addr) (ns : List Str) : Prop where
  cls : ∃ nm q N bs bm sn sub ab col dd k0 k1 k2 k3 k5, K.lookup C = some (excClassObj nm q C N bs bm true sn sub ab col dd k0 k1 k2 k3 k5 "ValueError.__new__") ∧ refsVE bm = true
  sa : findIn K (.ref C) "__setattr__" = some (some (.builtin "object.__setattr__"))
  noN : ∀ n ∈ ns, findIn K (.ref C) n = some none
  tI : typeIn K (.ref fI) = some (.type "function")
  kC : keepIn K (.ref C) = true
  exC : subIn K (.ref C) (.type "BaseException") = some true
  veC : subIn K (.ref C) (.type "ValueError") = some true
  tyC : typeIn K (.ref C) = some (.type "type")
  sup : ks_superIn K C C "__init__" = some (some (.builtin "ValueError.__init__"))
  own : mroIn K C (.ref C) = some true
theorem sxc_mk {P : Program} {K : Frag} {h : Heap} {mg : Str → Option Value} {x : Str} {C fI : Addr} {ns : List Str} (X : K.In h) (G : h.Ns mainGlobals mg) (n : nsIn K mainGlobals x = some (some (.ref C))) (iC : findIn K (.ref C) "__init__" = some (some (.ref fI))) (S : SxK P K C fI ns)
    (opq : nsIn K cStatics "thirdparty.any" = some none) (gS : nsIn K mainGlobals "super" = some none) (top : (P.main.scope.names.lookup ("super" : Str)).isSome = false) : PySem.SxX.SxC P K mg x C fI ns :=
  ⟨mg_of X G n, S.cls, S.sa, S.noN, iC, S.tI, S.kC, S.exC, S.veC, S.tyC, S.sup, S.own, opq, mg_none_of X G gS, top⟩
theorem no1 {K : Frag} {C : Addr} {a : Str} (h : findIn K (.ref C) a = some none) : ∀ n ∈ [a], findIn K (.ref C) n = some none := fun n hn => by rw [List.mem_singleton.mp hn]; exact h
theorem no2 {K : Frag} {C : Addr} {a b : Str} (h : findIn K (.ref C) a = some none) (h2 : findIn K (.ref C) b = some none) : ∀ n ∈ [a, b], findIn K (.ref C) n = some none := fun n hn => by
  rcases List.mem_cons.mp hn with e | hn
  · rw [e]; exact h
  · rw [List.mem_singleton.mp hn]; exact h2
theorem col_mk {K : Frag} {v : Value} {x : Str} {l : List (Str × Xcol)} {r : Xcol} (e : l.lookup x = some r) (h : ∀ p ∈ r, ∃ C, nsIn K mainGlobals p.1 = some (some (.ref C)) ∧ exmOne K (.ref C) v = some p.2) : ColOk K (excOf l) v x := fun c b hc => by
  unfold excOf at hc
  rw [e] at hc
  exact xcol_ok r h c b hc
theorem kit_mk {K : Frag} {v : Value} {x : Str} {l : List (Str × Xcol)} {r : Xcol} (e : l.lookup x = some r) (h : ∀ p ∈ r, ∃ C, nsIn K mainGlobals p.1 = some (some (.ref C)) ∧ ExcC K C ∧ kitOne K (.ref C) v = some p.2) : KitOk K (excOf l) v x := fun c b hc => by
  unfold excOf at hc
  rw [e] at hc
  exact kcol_ok r h c b hc
/-! ### the logic -/
def strQ (h : HV) (Q : Str → Prop) : Prop := match h with
  | .val (.str z) => Q z
  | _ => False
@[simp] theorem strQ_str {z : Str} {Q : Str → Prop} : strQ (.val (.str z)) Q ↔ Q z := Iff.rfl
section
variable {X : XP} {J J1 : Jr} {env : En} {f : EF} {M : Str → Str → Option Bool} {i : Nat} {x k : Str}
@[simp] theorem Ex_isE {Q : HV → Jr → Prop} : Ex X (eIsE M i x k env J) Q ↔ excQ env[i]? (OpQ (M k x) fun b => Q (.val (.bl b)) J) := by
  unfold eIsE
  cases h : env[i]? with
  | none => simp only [Ex_eq]; exact Iff.rfl
  | some y =>
    cases y with
    | none => simp only [Ex_eq]; exact Iff.rfl
    | some y =>
      cases y with
      | val d => simp only [Ex_eq]; exact Iff.rfl
      | jar d => simp only [Ex_eq]; exact Iff.rfl
      | new d => simp only [Ex_eq]; exact Iff.rfl
      | newB _ _ => simp only [Ex_eq]; exact Iff.rfl
      | exc z =>
        cases z with
        | succ z => simp only [Ex_eq]; exact Iff.rfl
        | zero =>
          show Ex X (match M k x with | some b => .ok (.val (.bl b)) J | none => .stuck) Q ↔ OpQ (M k x) fun b => Q (.val (.bl b)) J
          cases M k x <;> (simp only [Ex_eq]; exact Iff.rfl)
theorem Ex_kin {F : Str → FT} {Q : HV → Jr → Prop} {d : D} (h : F k [.exc 0] J = .ok (.val d) J1) : Ex X (eKin F i k env J) Q ↔ excQ env[i]? (Q (.val d) J1) := by
  unfold eKin
  cases h' : env[i]? with
  | none => simp only [Ex_eq]; exact Iff.rfl
  | some y =>
    cases y with
    | none => simp only [Ex_eq]; exact Iff.rfl
    | some y =>
      cases y with
      | val d => simp only [Ex_eq]; exact Iff.rfl
      | jar d => simp only [Ex_eq]; exact Iff.rfl
      | new d => simp only [Ex_eq]; exact Iff.rfl
      | newB _ _ => simp only [Ex_eq]; exact Iff.rfl
      | exc z =>
        cases z with
        | succ z => simp only [Ex_eq]; exact Iff.rfl
        | zero =>
          show Ex X (match F k [.exc 0] J with | .ok (.val d) J1 => .ok (.val d) J1 | _ => .stuck) Q ↔ Q (.val d) J1
          rw [h]
          exact Ex_ok
@[simp] theorem Ex_revS {Q : List D → Jr → Prop} : Ex X (iRevS f env J) Q ↔ Ex X (f env J) fun h J => strQ h fun z => z.cps.size < 2 ^ 62 ∧ Q (chars z).reverse J := by
  unfold iRevS
  rw [Ex_bind]
  refine Ex_iff fun h J => ?_
  cases h with
  | val d =>
    cases d with
    | str n => exact Ex_ite
    | _ => first | exact Iff.rfl | (simp only [Ex_eq, Sx_eq]; exact Iff.rfl)
  | _ => first | exact Iff.rfl | (simp only [Ex_eq, Sx_eq]; exact Iff.rfl)
end
end L2.Pz
set_option Elab.async false
set_option linter.all false
set_option maxRecDepth 100000
set_option maxHeartbeats 4000000
set_option autoImplicit false
namespace L2.Pz
open PySem
/-! ### texts as lists of code points -/
abbrev S (l : List Nat) : Str := ⟨⟨l⟩⟩
abbrev dS (l : List Nat) : D := .str (S l)
theorem S_eta (s : Str) : s = S s.cps.toList := rfl
@[simp] theorem S_len {l : List Nat} : (S l).length = l.length := rfl
@[simp] theorem S_lenI {l : List Nat} : Str.length (S l) = l.length := rfl
theorem S_app {a b : List Nat} : S a ++ S b = S (a ++ b) := by
  show (⟨(⟨a⟩ : Array Nat) ++ ⟨b⟩⟩ : Str) = _
  simp
theorem S_inj {a b : List Nat} : (S a = S b) ↔ a = b := ⟨fun h => by injection h with h; injection h, fun h => by rw [h]⟩
theorem dAdd_S {a b : List Nat} (h : a.length + b.length ≤ big) : dAdd (.str (S a)) (.str (S b)) = some (.val (.str (S (a ++ b)))) := by
  show (if (S a).length + (S b).length ≤ big then some (HV.val (.str (S a ++ S b))) else none) = _
  rw [if_pos (show (S a).length + (S b).length ≤ big from h), S_app]
theorem dLen_S {l : List Nat} (h : l.length ≤ big) : dLen (.str (S l)) = some (.val (.int l.length)) := by
  show (if (S l).length ≤ big then some (HV.val (.int (S l).length)) else none) = _
  rw [if_pos (show (S l).length ≤ big from h)]
  rfl
theorem dIx_S {l : List Nat} {i : Int} (h : l.length ≤ big) (h0 : 0 ≤ i) (h1 : i < l.length) : dIx (.str (S l)) (.int i) = some (.val (.str (S [l[i.toNat]'(by omega)]))) := by
  show (if (S l).length ≤ big then (atI (S l).cps.toList i).map fun c => HV.val (.str ⟨#[c]⟩) else none) = _
  rw [if_pos (show (S l).length ≤ big from h)]
  show (atI l i).map _ = _
  rw [atI_in h0 h1]
  rfl
theorem cutS_to {l : List Nat} {i : Int} (h0 : 0 ≤ i) : cutS (S l) none (some i) = S (l.take i.toNat) := by
  unfold cutS
  show S _ = _
  rw [S_inj, S_len, HT.sIx_none, sIx_to h0]
  show List.take _ (List.drop 0 l) = _
  rw [List.drop_zero, Nat.sub_zero]
  by_cases h : i.toNat ≤ l.length
  · rw [Nat.min_eq_left h]
  · rw [Nat.min_eq_right (by omega), List.take_length, List.take_of_length_le (by omega)]
theorem cutS_from {l : List Nat} {i : Int} (h0 : 0 ≤ i) : cutS (S l) (some i) none = S (l.drop i.toNat) := by
  unfold cutS
  show S _ = _
  rw [S_inj, S_len, HT.sIx_none, sIx_from h0]
  show List.take _ (List.drop _ l) = _
  by_cases h : i.toNat ≤ l.length
  · rw [Nat.min_eq_left h, List.take_of_length_le (by rw [List.length_drop]; exact Nat.le_refl _)]
  · rw [Nat.min_eq_right (by omega), Nat.sub_self, List.take_zero, List.drop_of_length_le (by omega)]
theorem cutS_mid {l : List Nat} {i j : Int} (h0 : 0 ≤ i) (h1 : 0 ≤ j) : cutS (S l) (some i) (some j) = S ((l.drop (min i.toNat l.length)).take (min j.toNat l.length - min i.toNat l.length)) := by
  unfold cutS
  show S _ = _
  rw [S_inj, S_len, sIx_to h1, sIx_from h0]
theorem dSl_to {l : List Nat} {i : Int} (h : l.length ≤ big) (h0 : 0 ≤ i) : dSl (.str (S l)) none (some i) = some (.val (.str (S (l.take i.toNat)))) := by
  show (if (S l).length ≤ big then some (HV.val (.str (cutS (S l) none (some i)))) else none) = _
  rw [if_pos (show (S l).length ≤ big from h), cutS_to h0]
theorem dSl_from {l : List Nat} {i : Int} (h : l.length ≤ big) (h0 : 0 ≤ i) : dSl (.str (S l)) (some i) none = some (.val (.str (S (l.drop i.toNat)))) := by
  show (if (S l).length ≤ big then some (HV.val (.str (cutS (S l) (some i) none))) else none) = _
  rw [if_pos (show (S l).length ≤ big from h), cutS_from h0]
theorem dSl_mid {l : List Nat} {i j : Int} (h : l.length ≤ big) (h0 : 0 ≤ i) (h1 : 0 ≤ j) : dSl (.str (S l)) (some i) (some j) = some (.val (.str (S ((l.drop (min i.toNat l.length)).take (min j.toNat l.length - min i.toNat l.length))))) := by
  show (if (S l).length ≤ big then some (HV.val (.str (cutS (S l) (some i) (some j)))) else none) = _
  rw [if_pos (show (S l).length ≤ big from h), cutS_mid h0 h1]
theorem dIn_S {c : Nat} {l : List Nat} : dIn (.str (S [c])) (.str (S l)) = some (.val (.bl (decide (c ∈ l)))) := rfl
theorem dNotIn_S {c : Nat} {l : List Nat} : dNotIn (.str (S [c])) (.str (S l)) = some (.val (.bl (!decide (c ∈ l)))) := rfl
theorem chars_S {l : List Nat} : chars (S l) = l.map fun c => dS [c] := rfl
theorem strOk_S {l : List Nat} (h : ∀ c ∈ l, c < 1114112) : PyData.strOk (S l) = true := by
  unfold PyData.strOk
  rw [← Array.all_toList]
  simp only [List.all_eq_true, decide_eq_true_eq]
  exact h
theorem beq_S {a b : List Nat} : (S a == S b) = decide (a = b) := by
  by_cases h : a = b
  · subst h; simp
  · rw [decide_eq_false h]
    exact beq_eq_false_iff_ne.mpr fun e => h (S_inj.mp e)
theorem dEq_S {a b : List Nat} (ha : ∀ c ∈ a, c < 1114112) (hb : ∀ c ∈ b, c < 1114112) : dEq (.str (S a)) (.str (S b)) = some (.val (.bl (decide (a = b)))) := by
  rw [dEq_str (strOk_S ha) (strOk_S hb), beq_S]
theorem asStrs_S : ∀ {l : List (List Nat)}, asStrs (l.map dS) = some (l.map S)
  | [] => rfl
  | a :: l => by
    show (asStrs (l.map dS)).map (S a :: ·) = _
    rw [asStrs_S]
    rfl
theorem sjoin_S : ∀ {l : List (List Nat)}, Str.join "" (l.map S) = S l.flatten
  | [] => rfl
  | [a] => by show S a = _; simp
  | a :: b :: r => by
    have ih := sjoin_S (l := b :: r)
    show S a ++ S [] ++ Str.join "" ((b :: r).map S) = _
    rw [ih, S_app, S_app]
    simp
theorem join_S {l : List (List Nat)} : Txt.join "" (l.map S) = S l.flatten := (StrLaws.glued_eq_join _ _).trans sjoin_S
theorem dJoin_S {l : List (List Nat)} (h : (l.map (·.length)).sum ≤ 16777216) : dJoin "" (.lst (l.map dS)) = some (.val (.str (S l.flatten))) := by
  show (match asStrs (l.map dS) with
    | some ys => if (ys.map Str.length).sum + ys.length * Str.length "" ≤ 16777216 then some (HV.val (.str (Txt.join "" ys))) else none
    | none => none) = _
  rw [asStrs_S]
  dsimp only
  rw [if_pos, join_S]
  have e : (l.map S).map Str.length = l.map (·.length) := by rw [List.map_map]; rfl
  rw [e]
  show _ + _ * 0 ≤ _
  omega
theorem dJoin_chr {l : List Nat} (h : l.length ≤ 16777216) : dJoin "" (.lst (l.map fun c => dS [c])) = some (.val (.str (S l))) := by
  have e : (l.map fun c => dS [c]) = (l.map fun c => [c]).map dS := by rw [List.map_map]; rfl
  have e2 : ∀ l : List Nat, (l.map fun c => [c]).flatten = l := fun l => by induction l with
    | nil => rfl
    | cons a l ih => simp [ih]
  have e3 : ∀ l : List Nat, ((l.map fun c => [c]).map (·.length)).sum = l.length := fun l => by induction l with
    | nil => rfl
    | cons a l ih => rw [List.map_cons, List.map_cons, List.sum_cons, ih, List.length_cons]; simp; omega
  rw [e, dJoin_S (by rw [e3]; exact h), e2]
end L2.Pz
set_option Elab.async false
set_option linter.all false
set_option maxRecDepth 100000
set_option maxHeartbeats 4000000
set_option autoImplicit false
namespace L2
open PySem PySem.Spec PyProof.Rows
/-! ### tuple * int, any small int -/
theorem tuple_mul_one (l : Addr) (items : Array Value) (n : Nat) (dd : Option Addr) (sl : Array (Option Value)) (x : Int) (u : Tok) (c0 : (decide (x < -(2 ^ 63)) || decide (x ≥ 2 ^ 63)) = false) (c1 : (items.isEmpty || x == 1) = true) :
    Meets (Builtin.«tuple.__mul__» ⟨[.ref l, .int x u], []⟩) (fun _ R s => s.heap.get? l = some { cls := .type "tuple", dict := dd, data := .seq items n, slots := sl } ∧ R (.ok (.ret (Value.ref l))) s) :=
  .of_wp fun prog w A R s h => by
    obtain ⟨hp, g, d, tk, os⟩ := s
    obtain ⟨hl, h⟩ := h
    have f1 := AutoSeq1.idx_int
    wp_walk using wpAny_loadPart' hl
    repeat (first
      | (refine wpAny_ite_false (decide_eq_false (by rw [c0]; exact Bool.false_ne_true)) ?_; wp_walk using wpAny_loadPart' hl)
      | (refine wpAny_ite_true (decide_eq_true c1) ?_; wp_walk using wpAny_loadPart' hl))
    exact ⟨_, rfl, h⟩
theorem tuple_mul_none (l : Addr) (items : Array Value) (n : Nat) (dd : Option Addr) (sl : Array (Option Value)) (x : Int) (u : Tok) (c0 : (decide (x < -(2 ^ 63)) || decide (x ≥ 2 ^ 63)) = false) (c1 : (items.isEmpty || x == 1) = false) (c2 : (decide (x ≤ 0) || items.isEmpty) = true) :
    Meets (Builtin.«tuple.__mul__» ⟨[.ref l, .int x u], []⟩) (fun _ R s => s.heap.get? l = some { cls := .type "tuple", dict := dd, data := .seq items n, slots := sl } ∧
      R (.ok (.ret (Value.ref s.heap.objs.size))) { s with heap := s.heap.push { cls := Value.type "tuple", data := Data.seq #[] }, toks := s.toks }) :=
  .of_wp fun prog w A R s h => by
    obtain ⟨hp, g, d, tk, os⟩ := s
    obtain ⟨hl, h⟩ := h
    have f1 := AutoSeq1.idx_int
    wp_walk using wpAny_loadPart' hl
    repeat (first
      | (refine wpAny_ite_false (decide_eq_false (by rw [c0]; exact Bool.false_ne_true)) ?_; wp_walk using wpAny_loadPart' hl)
      | (refine wpAny_ite_false (decide_eq_false (by rw [c1]; exact Bool.false_ne_true)) ?_; wp_walk using wpAny_loadPart' hl)
      | (refine wpAny_ite_true (decide_eq_true c2) ?_; wp_walk using wpAny_loadPart' hl))
    exact ⟨_, rfl, h⟩
def rRepTW (K : PySem.W.Frag) : R2 := fun x y H Q => ∃ l k xs, x = .ref l ∧ y = .int k ∧ SqT K H l xs ∧ -(2 ^ 62) < k ∧ k < 2 ^ 62 ∧ xs.length * k.toNat ≤ 1000000 ∧
  (((xs = [] ∨ k = 1) ∧ Q (.ref l) H) ∨ (¬ (xs = [] ∨ k = 1) ∧ ∀ p, H p = none → Q (.ref p) (upd H p (.tup (List.replicate k.toNat xs).flatten))))
theorem op_repTW {X : Cx} : OpR X (binaryOp .Mult) (rRepTW X.K) := by
  intro pins s σ H x y v u Q I rx ry h
  obtain ⟨l, k, xs, rfl, rfl, hT, h1, h2, hm, q⟩ := h
  cases rx
  obtain ⟨t, rfl⟩ := ry
  obtain ⟨its, r, ⟨⟨cls, dd, data, sl⟩, ho, hc, n, hd⟩, hs⟩ := I.tuple hT
  simp only at hc hd
  subst hc hd
  have hle : its.length = xs.length := r.length.symm
  have hsz0 : its.toArray.size = xs.length := by rw [List.size_toArray, hle]
  have c0 : (decide (k < -(2 ^ 63)) || decide (k ≥ 2 ^ 63)) = false := by
    rw [decide_eq_false (by omega), decide_eq_false (by omega)] <;> rfl
  have hemp : its.toArray.isEmpty = decide (xs = []) := by
    cases its with
    | nil =>
      have : xs = [] := List.eq_nil_of_length_eq_zero (by simpa using hle.symm)
      rw [this]; rfl
    | cons a b =>
      cases xs with
      | nil => simp at hle
      | cons c d => rfl
  rcases q with ⟨hq, q⟩ | ⟨hq, q⟩
  · have c1 : (its.toArray.isEmpty || k == 1) = true := by
      rw [hemp]
      rcases hq with e | e
      · rw [decide_eq_true e]; rfl
      · rw [e]; simp
    exact wpAny_binaryOp_repeat_ref (T := "tuple") (U := "int") (by decide) ⟨_, ho, rfl⟩ (fun s' => typeIs_int s' k t) noFill_tuple_mul F.fills_int_mul F.slot_int_rmul repeat_tuple F.slot_int_index.lookup
      (call_meets F.slot_int_rmul (typeIs_int s k t) F.entry_int_rmul (F.args_int_rmul_2 _ _) (int_rmul_tuple k t l its.toArray n dd sl)
        ⟨ho, rfl, ⟨_, ho, rfl⟩, call_meets F.slot_tuple_mul ⟨_, ho, rfl⟩ F.entry_tuple_mul (F.args_tuple_mul_2 _ _) (tuple_mul_one l its.toArray n dd sl k t c0 c1) ⟨ho, .ref l, H, I, rfl, q⟩⟩)
  · rw [not_or] at hq
    obtain ⟨hq1, hq2⟩ := hq
    have c1 : (its.toArray.isEmpty || k == 1) = false := by
      rw [hemp, decide_eq_false hq1, Bool.false_or]
      exact beq_eq_false_iff_ne.mpr hq2
    by_cases hk : k ≤ 0
    · have c2 : (decide (k ≤ 0) || its.toArray.isEmpty) = true := by rw [decide_eq_true hk]; rfl
      have e0 : k.toNat = 0 := by omega
      refine wpAny_binaryOp_repeat_ref (T := "tuple") (U := "int") (by decide) ⟨_, ho, rfl⟩ (fun s' => typeIs_int s' k t) noFill_tuple_mul F.fills_int_mul F.slot_int_rmul repeat_tuple F.slot_int_index.lookup
        (call_meets F.slot_int_rmul (typeIs_int s k t) F.entry_int_rmul (F.args_int_rmul_2 _ _) (int_rmul_tuple k t l its.toArray n dd sl)
          ⟨ho, rfl, ⟨_, ho, rfl⟩, call_meets F.slot_tuple_mul ⟨_, ho, rfl⟩ F.entry_tuple_mul (F.args_tuple_mul_2 _ _) (tuple_mul_none l its.toArray n dd sl k t c0 c1 c2) ⟨ho, ?_⟩⟩)
      rw [e0] at q
      refine ⟨.ref s.heap.objs.size, _, I.laid (t' := s.toks) (o := .tup []) (fun b ob q => Heap.get?_push_of_some _ q) (Nat.le_refl _) ?_, rfl, q _ (I.hok.fresh (Nat.le_refl _))⟩
      exact ⟨by rw [sizeLine_eq]; decide, [], .nil, IsTup.new _ _⟩
    · have hi : its.toArray.isEmpty = false := by rw [hemp]; exact decide_eq_false hq1
      have c2 : (decide (k ≤ 0) || its.toArray.isEmpty) = false := by
        rw [hi, Bool.or_false]
        exact decide_eq_false (by omega)
      have hmi : ((its.toArray.size : Nat) : Int) * k ≤ 1000000 := by
        rw [hsz0]
        have e : k = (k.toNat : Int) := by omega
        rw [e, ← Int.natCast_mul]
        omega
      have c4 : Builtin.Tuple.tupleTooMany (((its.toArray.size : Nat) : Int) * k) = false := by
        unfold Builtin.Tuple.tupleTooMany
        rw [sizeLine_eq]
        exact decide_eq_false (by omega)
      have flen : (List.replicate k.toNat its).flatten.length ≤ sizeLine := by
        rw [PyProof.Rows.lm_len_rep_flat, hle, sizeLine_eq, Nat.mul_comm]
        omega
      refine wpAny_binaryOp_repeat_ref (T := "tuple") (U := "int") (by decide) ⟨_, ho, rfl⟩ (fun s' => typeIs_int s' k t) noFill_tuple_mul F.fills_int_mul F.slot_int_rmul repeat_tuple F.slot_int_index.lookup
        (call_meets F.slot_int_rmul (typeIs_int s k t) F.entry_int_rmul (F.args_int_rmul_2 _ _) (int_rmul_tuple k t l its.toArray n dd sl)
          ⟨ho, rfl, ⟨_, ho, rfl⟩, call_meets F.slot_tuple_mul ⟨_, ho, rfl⟩ F.entry_tuple_mul (F.args_tuple_mul_2 _ _) (tuple_mulW l its.toArray n dd sl k t c0 c1 c2 (by omega) c4 (by rw [size_rep, List.size_toArray]; exact flen)) ⟨ho, ?_⟩⟩)
      rw [size_rep]
      refine ⟨.ref s.heap.objs.size, _, I.laid (t' := s.toks) (o := .tup (List.replicate k.toNat xs).flatten) (fun b ob q => Heap.get?_push_of_some _ q) (Nat.le_refl _) ?_, rfl, q _ (I.hok.fresh (Nat.le_refl _))⟩
      exact ⟨by rw [PyProof.Rows.lm_len_rep_flat, sizeLine_eq, Nat.mul_comm]; omega, _, r.rep k.toNat, IsTup.new _ _⟩
end L2
namespace L2.Pz
open PySem PySem.Spec PyProof.Rows
def dRepT : F2
  | .tup ds, .int k => if -(2 ^ 62) < k ∧ k < 2 ^ 62 ∧ ds.length * k.toNat ≤ 1000000 then some (.val (.tup (List.replicate k.toNat ds).flatten)) else none
  | _, _ => none
theorem sem_repT {K : PySem.W.Frag} : Sem2 K (rRepTW K) dRepT := by
  intro H Y x y d e z Q hl hx hy hz q
  unfold dRepT at hz
  split at hz
  · rename_i ds k
    split at hz
    · rename_i hb
      cases hz
      obtain ⟨a, vs, rfl, s, r⟩ := top_tup hx
      have hlen := reps_len r
      refine ⟨a, k, vs, rfl, top_int hy, s, hb.1, hb.2.1, by rw [hlen]; exact hb.2.2, ?_⟩
      by_cases h : vs = [] ∨ k = 1
      · refine .inl ⟨h, q _ _ (po_val ?_)⟩
        have e : (List.replicate k.toNat ds).flatten = ds := by
          rcases h with h | h
          · have : ds = [] := List.eq_nil_of_length_eq_zero (by rw [← hlen, h]; rfl)
            rw [this]
            simp
          · rw [h]
            show (List.replicate 1 ds).flatten = ds
            simp
        rw [e]
        exact rep_tup.mpr ⟨a, vs, rfl, s, r⟩
      · exact .inr ⟨h, fun p hp => q _ _ (po_newt hl hp (reps_rep r _))⟩
    · cases hz
  · cases hz
end L2.Pz
set_option Elab.async false
set_option linter.all false
set_option maxRecDepth 100000
set_option maxHeartbeats 4000000
set_option autoImplicit false
namespace L2.Pz
open PySem PySem.Spec PyProof.Rows
/-! ### xs.pop(i), xs.pop() of a cell -/
def popEnd (J : Jr) (k : Nat) (j : Int) : R HV := match J[k]? with
  | some ds => if -(2 ^ 62) ≤ j ∧ j < 2 ^ 62 ∧ ds.all isP = true then (match seqIndex? j ds.length with
      | some m => (match ds[m]? with
        | some d => .ok (.val d) (J.set k (ds.eraseIdx m))
        | none => .stuck)
      | none => .stuck) else .stuck
  | none => .stuck
def ePop (i : Nat) (f : EF) : EF := fun env J => match env[i]? with
  | some (some (.jar k)) => (f env J).bind fun h J1 => match h with
    | .val (.int j) => popEnd J1 k j
    | _ => .stuck
  | _ => .stuck
def ePop0 (i : Nat) : EF := fun env J => match env[i]? with
  | some (some (.jar k)) => (match J[k]? with
    | some ds => if ds.all isP = true then (match ds[ds.length - 1]? with
      | some d => .ok (.val d) (J.set k ds.dropLast)
      | none => .stuck) else .stuck
    | none => .stuck)
  | _ => .stuck
theorem reps_erase {K : PySem.W.Frag} {H : Hp} {Y : Addr → Prop} : ∀ {ds : List D} {vs : List V} (m : Nat), Reps K H Y ds vs → Reps K H Y (ds.eraseIdx m) (vs.eraseIdx m)
  | [], vs, m, h => by rw [reps_nil.mp h]; exact reps_nil.mpr rfl
  | c :: ds, vs, 0, h => by
    obtain ⟨u, r, e2, h1, h2⟩ := reps_cons.mp h
    subst e2
    exact h2
  | c :: ds, vs, m + 1, h => by
    obtain ⟨u, r, e2, h1, h2⟩ := reps_cons.mp h
    subst e2
    exact reps_cons.mpr ⟨u, r.eraseIdx m, rfl, h1, reps_erase m h2⟩
theorem reps_last {K : PySem.W.Frag} {H : Hp} {Y : Addr → Prop} {ds : List D} {vs : List V} (h : Reps K H Y ds vs) : Reps K H Y ds.dropLast vs.dropLast := by
  rw [List.dropLast_eq_take, List.dropLast_eq_take, reps_len h]
  exact reps_take _ h
section
variable {X : Cx} {W : WX} {e : Expr} {f : EF} {i : Nat} {Z : List Zx}
theorem pn_pop (h : PE X e (tBM X.K "list" rPopAt (tVar i) (tCons (tD X.K Z W f) tNil))) : PE X e (tN X.K Z W (ePop i f)) := pe_mono h fun σ H Q ⟨Xo, js, env, J, F, p⟩ => by
  unfold ePop at p
  cases hs : env[i]? with
  | none => rw [hs] at p; exact p.elim
  | some o =>
    cases o with
    | none => rw [hs] at p; exact p.elim
    | some z =>
      cases z with
      | val d => rw [hs] at p; exact p.elim
      | new d => rw [hs] at p; exact p.elim
      | exc k => rw [hs] at p; exact p.elim
      | newB _ _ => rw [hs] at p; exact p.elim
      | jar k =>
        rw [hs] at p
        obtain ⟨v, hv, a, ha, rfl⟩ := F.slot i _ hs
        obtain ⟨ds0, vs0, _, hl0, _⟩ := F.at ha
        refine ⟨_, hv, .inl ⟨rfl, _, SqL.of hl0⟩, ?_⟩
        show tD X.K Z W f σ H fun x H1 => _
        refine ⟨Xo, js, env, J, F, ?_⟩
        have p : PostN X.K Z W Xo js H σ env Q ((f env J).bind fun h J1 => match h with
          | .val (.int j) => popEnd J1 k j
          | _ => .stuck) := p
        cases r : f env J with
        | stuck => rw [r] at p; exact p.elim
        | err c fs J1 => rw [r] at p; exact p
        | ok h J1 =>
          rw [r] at p
          intro x H1 e1 F1 x1
          cases h with
          | jar k => exact p.elim
          | exc k => exact p.elim
          | newB _ _ => exact p.elim
          | new k => exact p.elim
          | val d0 =>
            cases d0 with
            | int j =>
              have p : PostN X.K Z W Xo js H σ env Q (popEnd J1 k j) := p
              unfold popEnd at p
              obtain ⟨ds, vs, hJ, hl, rs⟩ := F1.at ha
              rw [hJ] at p
              dsimp only at p
              split at p
              · rename_i hb
                have rs := repsC_reps rs hb.2.2
                have hlen := reps_len rs
                cases hm : seqIndex? j ds.length with
                | none => rw [hm] at p; exact p.elim
                | some m =>
                  rw [hm] at p
                  dsimp only at p
                  cases hd : ds[m]? with
                  | none => rw [hd] at p; exact p.elim
                  | some d =>
                    rw [hd] at p
                    dsimp only at p
                    obtain ⟨y, hy, ry⟩ := reps_get rs hd
                    obtain ⟨F2, e2⟩ := F1.write ha (repsC_of (reps_erase m rs))
                    have y2 := HRep.ext (h := .val d) (v := y) F1 e2 ry
                    exact ⟨a, vs, j, m, y, rfl, by rw [rep_int (K := X.K) (H := H1) (Y := Yf Xo js) x1], hl, by omega, by omega, by rw [hlen]; exact hm, hy, p y _ (e1.trans e2) (out_val F2 y2)⟩
              · exact p.elim
            | _ => exact p.elim
        done
theorem pn_pop0 (h : PE X e (tBM0 X.K "list" rPop (tVar i))) : PE X e (tN X.K Z W (ePop0 i)) := pe_mono h fun σ H Q ⟨Xo, js, env, J, F, p⟩ => by
  unfold ePop0 at p
  cases hs : env[i]? with
  | none => rw [hs] at p; exact p.elim
  | some o =>
    cases o with
    | none => rw [hs] at p; exact p.elim
    | some z =>
      cases z with
      | val d => rw [hs] at p; exact p.elim
      | new d => rw [hs] at p; exact p.elim
      | exc k => rw [hs] at p; exact p.elim
      | newB _ _ => rw [hs] at p; exact p.elim
      | jar k =>
        rw [hs] at p
        obtain ⟨v, hv, a, ha, rfl⟩ := F.slot i _ hs
        obtain ⟨ds, vs, hJ, hl, rs⟩ := F.at ha
        refine ⟨_, hv, .inl ⟨rfl, _, SqL.of hl⟩, ?_⟩
        dsimp only at p
        rw [hJ] at p
        dsimp only at p
        by_cases hpl : ds.all isP = true
        case neg => rw [if_neg hpl] at p; exact p.elim
        rw [if_pos hpl] at p
        have rs := repsC_reps rs hpl
        have hlen := reps_len rs
        cases hd : ds[ds.length - 1]? with
        | none => rw [hd] at p; exact p.elim
        | some d =>
          rw [hd] at p
          dsimp only at p
          obtain ⟨y, hy, ry⟩ := reps_get rs hd
          obtain ⟨F2, e2⟩ := F.write ha (repsC_of (reps_last rs))
          have y2 := HRep.ext (h := .val d) (v := y) F e2 ry
          exact ⟨a, vs, y, rfl, rfl, hl, by rw [hlen]; exact hy, p y _ e2 (out_val F2 y2)⟩
end
/-! ### isinstance(x, (T, U)), built-in classes -/
def dIsa2 (T U : String) : F1 := fun d => some (.val (.bl (isa T d || isa U d)))
theorem top_same {K : PySem.W.Frag} {H H' : Hp} {Y : Addr → Prop} {d : D} {v : V} (s : Same H H') (hl : Lists H Y) (h : RepTop K H Y d v) : RepTop K H' Y d v := by
  have mv : ∀ d v, Rep K H Y d v → Rep K H' Y d v := fun d v r => rep_move (fun a o e _ => s a o e) (fun _ y => .inl y) hl _ _ r
  cases d with
  | lst ds =>
    obtain ⟨a, vs, e, q, r⟩ := h
    refine ⟨a, vs, e, ?_, reps_move (fun a o e _ => s a o e) (fun _ y => .inl y) hl _ _ r⟩
    rcases q with (q | ⟨o, q⟩) | q
    · exact .inl (.inl (s _ _ q))
    · exact .inl (.inr ⟨o, s _ _ q⟩)
    · exact .inr q
  | non => exact mv _ _ h
  | bl b => exact mv _ _ h
  | int b => exact mv _ _ h
  | str b => exact mv _ _ h
  | tup b => exact mv _ _ h
  | lnk b => exact mv _ _ h
theorem kit2 {K : PySem.W.Frag} {t a b : Value} {x y : Bool} (h1 : PySem.W.kitOne K t a = some x) (h2 : PySem.W.kitOne K t b = some y) : PySem.W.kitAny K t [a, b] = some (x || y) := by
  unfold PySem.W.kitAny
  rw [h1]
  cases x
  · unfold PySem.W.kitAny
    rw [h2]
    cases y <;> rfl
  · rfl
theorem sem_isa2 {K : PySem.W.Frag} {T U : String} (hT : IsaOk T) (hU : IsaOk U) : Sem1 K (fun x H Q => [V.ty T, V.ty U].length ≤ sizeLine ∧ ∀ p, H p = none → rIsiT K [x, .ref p] (upd H p (.tup [.ty T, .ty U])) Q) (dIsa2 T U) := by
  intro H Y x d z Q hl hx hz q
  cases hz
  refine ⟨by rw [sizeLine_eq]; show 2 ≤ 16777216; decide, fun p hp => ?_⟩
  have s : Same H (upd H p (.tup [.ty T, .ty U])) := same_upd hp
  exact ⟨x, p, _, _, [.type T, .type U], _, rfl, upd_same, .cons (.ty T) (.cons (.ty U) .nil), tyx_of (top_same s hl hx), kit2 (kit_ty (hT d)) (kit_ty (hU d)), q _ _ ⟨s, mk_bl⟩⟩
/-- isinstance(x, (T, U)) -/
theorem pn_isi2 {X : Cx} {W : WX} {a : Expr} {f : EF} {Z : List Zx} {x : Str} {m n : String} {p p2 p3 tpos pos : Pos} {tk : Nat} {y z : Str} (sem : Sem1 X.K (fun x H Q => [V.ty m, V.ty n].length ≤ sizeLine ∧ ∀ p, H p = none → rIsiT X.K [x, .ref p] (upd H p (.tup [.ty m, .ty n])) Q) (dIsa2 m n))
    (hg : Gl X x) (hm : X.mg x = none) (hv : bootBuiltins x = some (.builtin "isinstance")) (ha : PE X a (tD X.K Z W f)) (hy : PE X (.Name y p2) (tC (.ty m))) (hz : PE X (.Name z p3) (tC (.ty n)))
    (hn : x ≠ "__name__") (hdb : (x == ("__debug__" : Str)) = false) (h1 : starEach [a, .Tuple [.Name y p2, .Name z p3] tk tpos] X.env = (false, eval a X.env) :: starEach [.Tuple [.Name y p2, .Name z p3] tk tpos] X.env)
    (h2 : starEach [.Tuple [.Name y p2, .Name z p3] tk tpos] X.env = (false, eval (.Tuple [.Name y p2, .Name z p3] tk tpos) X.env) :: starEach [] X.env) (h3 : starEach [.Name y p2, .Name z p3] X.env = (false, eval (.Name y p2) X.env) :: starEach [.Name z p3] X.env) (h4 : starEach [.Name z p3] X.env = (false, eval (.Name z p3) X.env) :: starEach [] X.env)
    (hpl : (backTo pos (starEach [.Tuple [.Name y p2, .Name z p3] tk tpos] X.env)).any (·.1) = false) :
    PE X (.Call (.Name x p) [a, .Tuple [.Name y p2, .Name z p3] tk tpos] [] pos) (tN X.K Z W (eUn (dIsa2 m n) f)) :=
  pe_mono (pe_callB call_isiT hg hm hv (pa_cons ha (pa_cons (pe_tup (pa_cons hy (pa_cons hz pa_nil h4) h3)) pa_nil h2) h1) hn hdb h1 hpl) fun σ H Q w => un_read (ta := tD X.K Z W f) sem (fun _ _ _ z => z) w
end L2.Pz
set_option Elab.async false
set_option linter.all false
set_option maxRecDepth 100000
set_option maxHeartbeats 4000000
set_option autoImplicit false
namespace L2.Pz
open PySem
variable {X : XP} {Q : HV → Jr → Prop} {T J : Jr} {jc : List D} {env : En}
/-! ### names, small texts: for many laws -/
abbrev cp (s : Str) : List Nat := s.cps.toList
def abc : List Nat := cp "abcdefghijklmnopqrstuvwxyz"
def figs : List Nat := cp "0123456789"
theorem figs_lit : D.str (Str.ofString "0123456789") = dS figs := by with_unfolding_all rfl
def barred : List (List Nat) := ([("sign" : Str), "held", "idle", "loose", "same", "state", "flag", "count", "on", "if", "and", "do", "no", "least", "below", "raise", "clear", "add", "drop", "tell", "path", "machine", "program", "rows"] : List Str).map fun s : Str => cp s
def isL (c : Nat) : Bool := decide (c ∈ abc)
def isF (c : Nat) : Bool := decide (c ∈ figs)
def badAt : Nat → List Nat → Option Nat
  | _, [] => none
  | i, c :: r => if (isL c || (i != 0 && isF c)) = true then badAt (i + 1) r else some i
def due (l : List Nat) : Int := if l.length < 1 ∨ 8 < l.length then -1 else if l ∈ barred then -1 else match badAt 0 l with
  | some i => i
  | none => 100 + l.length
abbrev asc (l : List Nat) : Prop := ∀ c ∈ l, c < 1114112
theorem barred_asc : ∀ w ∈ barred, asc w := by decide +kernel
theorem badAt_ge : ∀ (l : List Nat) (i k : Nat), badAt i l = some k → i ≤ k ∧ k < i + l.length
  | [], i, k, h => by cases h
  | c :: r, i, k, h => by
    unfold badAt at h
    split at h
    · have := badAt_ge r (i + 1) k h
      rw [List.length_cons]; omega
    · cases h
      rw [List.length_cons]; omega
theorem due_small {l : List Nat} (h : due l < 100) : due l < 8 := by
  unfold due at h ⊢
  split
  · decide
  · split
    · decide
    · rename_i h1 h2
      rw [if_neg h1, if_neg h2] at h
      cases e : badAt 0 l with
      | none => rw [e] at h; dsimp only at h; omega
      | some k =>
        have := badAt_ge _ _ _ e
        dsimp only
        omega
theorem due_big {l : List Nat} (h : ¬ due l < 100) : due l = 100 + l.length := by
  unfold due at h ⊢
  split
  · rename_i h1; rw [if_pos h1] at h; omega
  · split
    · rename_i h1 h2; rw [if_neg h1, if_pos h2] at h; omega
    · rename_i h1 h2
      rw [if_neg h1, if_neg h2] at h
      cases e : badAt 0 l with
      | none => rfl
      | some k =>
        have := badAt_ge _ _ _ e
        rw [e] at h
        dsimp only at h
        omega
@[simp] theorem yes2_t {i j : Int} : yes2 i j = true := rfl
theorem Ex_bChain {fo go : F2} {f g k : EF} {Q : Bool → Jr → Prop} : Ex X (bChain fo go f g k env J) Q ↔ Ex X (f env J) fun h1 J1 => Ex X (g env J1) fun h2 J2 => Ex X (app2 fo J2 h1 h2) fun z J3 => blQ z fun b => if b = true then Ex X (k env J3) fun h3 J4 => Ex X (app2 go J4 h2 h3) fun y J5 => blQ y fun b => Q b J5 else Q false J3 := by
  unfold bChain eChain
  simp only [Ex_toB, Ex_bind]
  refine Ex_iff fun h1 J1 => Ex_iff fun h2 J2 => Ex_iff fun z J3 => ?_
  cases z with
  | val d =>
    cases d with
    | bl b =>
      cases b
      · simp
      · simp
    | _ => simp [blQ]
  | _ => simp [blQ]
theorem pair_get {ds : List D} {k i : Nat} {d : D} (h : (pairUp k ds)[i]? = some d) : ∃ e, ds[i]? = some e ∧ d = .tup [.int ((k + i : Nat) : Int), e] := by
  have hi : i < ds.length := by
    have := (List.getElem?_eq_some_iff.mp h).1
    rw [pairUp_len] at this
    exact this
  have := pairUp_get ds k i ds[i] (List.getElem?_eq_getElem hi)
  rw [h] at this
  exact ⟨ds[i], List.getElem?_eq_getElem hi, by simpa using this⟩
theorem shp_barred : shp (.tup (barred.map dS)) = true := by decide +kernel
theorem shp_S {l : List Nat} (h : asc l) : shp (dS l) = true := by rw [shp_str]; exact strOk_S h
theorem in_barred {l : List Nat} : ∀ bs : List (List Nat), inAny (dS l) (bs.map dS) = decide (l ∈ bs)
  | [] => by simp [inAny]
  | b :: bs => by
    have ih := in_barred (l := l) bs
    unfold inAny at ih ⊢
    rw [List.map_cons, List.any_cons, ih]
    have e : deq (dS b) (dS l) = decide (b = l) := (show deq (dS b) (dS l) = (S b == S l) from rfl).trans beq_S
    rw [e]
    by_cases h : b = l
    · subst h; simp
    · have h' : ¬ l = b := fun e => h e.symm
      simp [h, h']
@[simp] theorem dAdd_ii {i j : Int} : dAdd (.int i) (.int j) = some (.val (.int (i + j))) := rfl
@[simp] theorem dSub_ii {i j : Int} : dSub (.int i) (.int j) = some (.val (.int (i - j))) := rfl
@[simp] theorem dLt_ii {i j : Int} : dLt (.int i) (.int j) = some (.val (.bl (decide (i < j)))) := rfl
@[simp] theorem dGe_ii {i j : Int} : dGe (.int i) (.int j) = some (.val (.bl (decide (j ≤ i)))) := rfl
@[simp] theorem dGt_ii {i j : Int} : dGt (.int i) (.int j) = some (.val (.bl (decide (j < i)))) := rfl
@[simp] theorem dNeg_i {i : Int} : dNeg (.int i) = some (.val (.int (-i))) := rfl
@[simp] theorem dLen_l {ds : List D} : dLen (.lst ds) = some (.val (.int ds.length)) := rfl
@[simp] theorem dLen_t {ds : List D} : dLen (.tup ds) = some (.val (.int ds.length)) := rfl
@[simp] theorem truth_bl {b : Bool} : truth (.bl b) = some b := rfl
abbrev a7 (l : List Nat) : Prop := ∀ c ∈ l, c < 128
theorem a7.asc {l : List Nat} (h : a7 l) : asc l := fun c hc => by have := h c hc; omega
theorem dIx_any {z : Str} {i : Int} (P : Nat → Prop) (hP : ∀ c ∈ z.cps.toList, P c) (hz : z.cps.toList.length ≤ big) (h0 : 0 ≤ i) (h1 : i < z.cps.toList.length) : ∃ c, P c ∧ dIx (.str z) (.int i) = some (.val (dS [c])) :=
  ⟨_, hP _ (List.getElem_mem (by omega)), dIx_S (l := z.cps.toList) hz h0 h1⟩
def gC (c : Nat) : Prop := isL c = true ∨ isF c = true
def gW (l : List Nat) : Prop := ∃ c r, l = c :: r ∧ isL c = true ∧ ∀ x ∈ r, gC x
theorem abc7 : ∀ c ∈ abc, c < 128 := by decide +kernel
theorem figs7 : ∀ c ∈ figs, c < 128 := by decide +kernel
theorem gC7 {c : Nat} (h : gC c) : c < 128 := by
  rcases h with h | h
  · exact abc7 c (of_decide_eq_true h)
  · exact figs7 c (of_decide_eq_true h)
theorem gW7 {l : List Nat} (h : gW l) : a7 l := by
  obtain ⟨c, r, rfl, h1, h2⟩ := h
  intro x hx
  rcases List.mem_cons.mp hx with rfl | hx
  · exact gC7 (.inl h1)
  · exact gC7 (h2 x hx)
theorem gW_all {l : List Nat} (h : gW l) : ∀ x ∈ l, gC x := by
  obtain ⟨c, r, rfl, h1, h2⟩ := h
  intro x hx
  rcases List.mem_cons.mp hx with rfl | hx
  · exact .inl h1
  · exact h2 x hx
theorem gW_app {l m : List Nat} (h : gW l) (hm : ∀ x ∈ m, gC x) : gW (l ++ m) := by
  obtain ⟨c, r, rfl, h1, h2⟩ := h
  exact ⟨c, r ++ m, rfl, h1, fun x hx => (List.mem_append.mp hx).elim (h2 x) (hm x)⟩
theorem bad_none : ∀ (r : List Nat) (i : Nat), (∀ x ∈ r, gC x) → badAt (i + 1) r = none
  | [], i, h => rfl
  | c :: r, i, h => by
    unfold badAt
    have hc : (isL c || (i + 1 != 0 && isF c)) = true := by
      rcases h c List.mem_cons_self with e | e <;> simp [e]
    rw [if_pos hc]
    exact bad_none r (i + 1) fun x hx => h x (List.mem_cons_of_mem _ hx)
theorem gW_bad {l : List Nat} (h : gW l) : badAt 0 l = none := by
  obtain ⟨c, r, rfl, h1, h2⟩ := h
  unfold badAt
  rw [if_pos (by simp [h1])]
  exact bad_none r 0 h2
theorem due_good {l : List Nat} (h : gW l) (hb : l ∉ barred) (h1 : l.length ≤ 8) : due l = 100 + l.length := by
  have h0 : 0 < l.length := by obtain ⟨c, r, rfl, _⟩ := h; simp
  unfold due
  rw [if_neg (by omega), if_neg hb, gW_bad h]
theorem barred_q : ∀ w ∈ barred, w.getLast? ≠ some 113 := by decide +kernel
theorem c09 : ∀ c ∈ cp "09az", gC c := by unfold gC; decide +kernel
theorem cfig : ∀ c ∈ cp "0123456789", gC c := by unfold gC; decide +kernel
theorem ctail : ∀ c ∈ abc ++ figs, gC c := by unfold gC; decide +kernel
theorem cabc : ∀ c ∈ abc, gC c := by unfold gC; decide +kernel
theorem a71 {c : Nat} (h : c < 128) : a7 [c] := fun x hx => by rw [List.mem_singleton.mp hx]; exact h
theorem dAdd_any {x y : Str} (h : x.cps.toList.length + y.cps.toList.length ≤ big) : dAdd (.str x) (.str y) = some (.val (dS (x.cps.toList ++ y.cps.toList))) := dAdd_S h
abbrev sm (n : Nat) (l : List Nat) : Prop := a7 l ∧ l.length ≤ n
theorem sm_app {a b : List Nat} {n m : Nat} (ha : sm n a) (hb : sm m b) : sm (n + m) (a ++ b) := ⟨fun c hc => (List.mem_append.mp hc).elim (ha.1 c) (hb.1 c), by rw [List.length_append]; have := ha.2; have := hb.2; omega⟩
theorem sm.mono {n m : Nat} {l : List Nat} (h : sm n l) (hm : n ≤ m) : sm m l := ⟨h.1, by have := h.2; omega⟩
theorem sm1 {c : Nat} (h : c < 128) : sm 1 [c] := ⟨a71 h, by simp⟩
theorem sm_take {n k : Nat} {l : List Nat} (h : sm n l) : sm n (l.take k) := ⟨fun c hc => h.1 c (List.mem_of_mem_take hc), by rw [List.length_take]; have := h.2; omega⟩
theorem sm_drop {n k : Nat} {l : List Nat} (h : sm n l) : sm n (l.drop k) := ⟨fun c hc => h.1 c (List.mem_of_mem_drop hc), by rw [List.length_drop]; have := h.2; omega⟩
theorem chars_get {z : Str} {i : Nat} {d : D} (h : (chars z)[i]? = some d) : ∃ c, c ∈ z.cps.toList ∧ d = dS [c] ∧ i < z.cps.toList.length := by
  unfold chars at h
  rw [List.getElem?_map] at h
  cases e : z.cps.toList[i]? with
  | none => rw [e] at h; cases h
  | some c => rw [e] at h; exact ⟨c, List.mem_of_getElem? e, by simpa using h.symm, (List.getElem?_eq_some_iff.mp e).1⟩
@[simp] theorem Ex_yes {env : En} {Q : Bool → Jr → Prop} : Ex X (bYes env J) Q ↔ Q true J := Ex_ok
theorem barred_sm : ∀ w ∈ barred, sm 9 w := by decide +kernel
theorem barred_abc : ∀ w ∈ barred, ∀ c ∈ w, c ∈ abc := by decide +kernel
theorem barred_pos : ∀ w ∈ barred, 0 < w.length := by decide +kernel
theorem dUpper_S {l : List Nat} (h : l.length ≤ 1000) : dUpper (.str (S l)) = some (.val (.str (Txt.upper (S l)))) := by
  show (if (S l).length ≤ 5592405 then some (HV.val (.str (Txt.upper (S l)))) else none) = _
  rw [if_pos (show (S l).length ≤ 5592405 from (show l.length ≤ 5592405 by omega))]
theorem dAdd_ll {xs ys : List D} (h : xs.length + ys.length ≤ 16777216) : dAdd (.lst xs) (.lst ys) = some (.new (xs ++ ys)) := by
  show (if xs.length + ys.length ≤ big then some (HV.new (xs ++ ys)) else none) = _
  rw [if_pos h]
@[simp] theorem dNe_bl {a b : Bool} : dNe (.bl a) (.bl b) = some (.val (.bl (!(a == b)))) := rfl
@[simp] theorem dEq_bl {a b : Bool} : dEq (.bl a) (.bl b) = some (.val (.bl (a == b))) := rfl
end L2.Pz
set_option Elab.async false
set_option linter.all false
set_option maxRecDepth 100000
set_option maxHeartbeats 4000000
set_option autoImplicit false
/-! A list that holds a list that is changed: cells in cells. -/
namespace L2.Pz
open PySem PySem.Spec PyProof.Rows
/-! ### x[j], x a cell: a datum, or the cell that lies there -/
def elemH : D → HV
  | .lnk m => .jar m
  | d => .val d
def ixJEnd (J : Jr) (k : Nat) (j : Int) : R HV := match J[k]? with
  | some ds => (match atI ds j with
    | some d => .ok (elemH d) J
    | none => .stuck)
  | none => .stuck
def eIxJ (i : Nat) (g : EF) : EF := fun env J => match env[i]? with
  | some (some (.jar k)) => (g env J).bind fun h J1 => match h with
    | .val (.int j) => ixJEnd J1 k j
    | _ => .stuck
  | _ => .stuck
/-- name = [[..], ..], both lists will be changed -/
def sNewB (i : Nat) (f : EF) : SF := fun n env J => onS env (f env J) fun h J1 => match h with
  | .newB xs ds => if n ≤ J1.length then .nx (env.set i (some (.jar (J1.length + 1)))) (J1 ++ [xs, .lnk J1.length :: ds]) else .stuck
  | _ => .stuck
/-- [f, ..], f a fresh list -/
def eLstB (f : EF) (fs : List EF) : EF := fun env J => (f env J).bind fun h J1 => match h with
  | .new xs => (eItems fs env J1).bind fun ds J2 => if ds.length + 1 ≤ big then .ok (.newB xs ds) J2 else .stuck
  | _ => .stuck
def dIsB : F2
  | .bl a, .bl b => some (.val (.bl (decide (a = b))))
  | _, _ => none
section
variable {K : PySem.W.Frag} {H : Hp} {Y : Addr → Prop} {js : List Addr} {k : Nat}
theorem atI_repsC {ds : List D} {vs : List V} {i : Int} {d : D} (r : RepsC K H Y js k ds vs) (h : atI ds i = some d) : ∃ v, atI vs i = some v ∧ RepE K H Y js k d v := by
  unfold atI at h ⊢
  rw [repsC_len r]
  cases e : ixN ds.length i with
  | none => rw [e] at h; cases h
  | some j =>
    rw [e] at h
    exact repsC_get r h
theorem sem_isB : Sem2 K (fun x y H Q => ∃ a b, x = .bl a ∧ y = .bl b ∧ Q (.bl (decide (a = b))) H) dIsB := by
  intro H Y x y d e z Q hl hx hy hz q
  unfold dIsB at hz
  split at hz
  · cases hz
    exact ⟨_, _, top_bl hx, top_bl hy, q _ _ (po_val mk_bl)⟩
  · cases hz
end
section
variable {X : Cx} {W : WX} {n0 : Nat} {a b e : Expr} {es : List Expr} {f g : EF} {fs : List EF} {pos : Pos} {i : Nat} {Z : List Zx}
theorem pn_ixJ (ha : PE X a (tVar i)) (hb : PE X b (tD X.K Z W g)) (hs : PlainIx b) : PE X (.Subscript a b pos) (tN X.K Z W (eIxJ i g)) := pe_mono (pe_ix ix_list ha hb hs) fun σ H Q ⟨Xo, js, env, J, F, p⟩ => by
  unfold eIxJ at p
  cases hs : env[i]? with
  | none => rw [hs] at p; exact p.elim
  | some o =>
    cases o with
    | none => rw [hs] at p; exact p.elim
    | some z =>
      cases z with
      | val d => rw [hs] at p; exact p.elim
      | new d => rw [hs] at p; exact p.elim
      | exc k => rw [hs] at p; exact p.elim
      | newB _ _ => rw [hs] at p; exact p.elim
      | jar k =>
        rw [hs] at p
        obtain ⟨v, hv, a, ha, rfl⟩ := F.slot i _ hs
        refine ⟨_, hv, ?_⟩
        refine ⟨Xo, js, env, J, F, ?_⟩
        have p : PostN X.K Z W Xo js H σ env Q ((g env J).bind fun h J1 => match h with
          | .val (.int j) => ixJEnd J1 k j
          | _ => .stuck) := p
        cases r : g env J with
        | stuck => rw [r] at p; exact p.elim
        | err c fs J1 => rw [r] at p; exact p
        | ok h J1 =>
          rw [r] at p
          intro x H1 e1 F1 x1
          cases h with
          | jar k => exact p.elim
          | exc k => exact p.elim
          | newB _ _ => exact p.elim
          | new k => exact p.elim
          | val d0 =>
            cases d0 with
            | int j =>
              have p : PostN X.K Z W Xo js H σ env Q (ixJEnd J1 k j) := p
              unfold ixJEnd at p
              obtain ⟨ds, vs, hJ, hl, rs⟩ := F1.at ha
              rw [hJ] at p
              dsimp only at p
              cases hd : atI ds j with
              | none => rw [hd] at p; exact p.elim
              | some d =>
                rw [hd] at p
                obtain ⟨y, hy, ry⟩ := atI_repsC rs hd
                refine ⟨a, vs, j, y, rfl, rep_int (K := X.K) (H := H1) (Y := Yf Xo js) x1, SqL.of hl, hy, p y H1 e1 ?_⟩
                cases d with
                | lnk m =>
                  obtain ⟨_, b, b1, b2⟩ := ry
                  exact ⟨F1, b, b1, b2⟩
                | non => exact ⟨F1, ry⟩
                | bl _ => exact ⟨F1, ry⟩
                | int _ => exact ⟨F1, ry⟩
                | str _ => exact ⟨F1, ry⟩
                | tup _ => exact ⟨F1, ry⟩
                | lst _ => exact ⟨F1, ry⟩
            | _ => exact p.elim
theorem newB_read {i : Nat} {D : Ends} {σ : L2.St} {H : Hp} (w : tS X.K Z W n0 (sNewB i f) D σ H) : tAsg (tN X.K Z W f) (gName i) D σ H := by
  obtain ⟨Xo, js, env, J, F, p⟩ := w
  refine ⟨Xo, js, env, J, F, ?_⟩
  unfold sNewB at p
  cases r : f env J with
  | stuck => rw [r] at p; exact p.elim
  | err c fs J1 => rw [r] at p; exact flies_S p
  | ok h J1 =>
    rw [r] at p
    intro v H' e1 o
    cases h with
    | val d => exact p.elim
    | jar k => exact p.elim
    | exc k => exact p.elim
    | new ds => exact p.elim
    | newB xs ds =>
      obtain ⟨q, t, us, vs, a1, hqt, a2, a3, a4, a5, G, a6, a7⟩ := o
      have p : PostS X.K Z W n0 Xo js H D (if n0 ≤ J1.length then .nx (env.set i (some (.jar (J1.length + 1)))) (J1 ++ [xs, .lnk J1.length :: ds]) else .stuck) := p
      by_cases hn0 : n0 ≤ J1.length
      case neg => rw [if_neg hn0] at p; exact p.elim
      rw [if_pos hn0] at p
      have nq : q ∉ js := fun z => G.jx q z (.inr rfl)
      have nt : t ∉ js := fun z => G.jx t z (.inl (.inr rfl))
      have yy : ∀ a, Yf Xo (js ++ [t, q]) a → Yf (With (With Xo t) q) js a := fun a y => by
        rcases y with y | y
        · exact .inl (.inl (.inl y))
        · rcases List.mem_append.mp y with y | y
          · exact .inr y
          · simp at y
            rcases y with y | y
            · exact .inl (.inl (.inr y))
            · exact .inl (.inr y)
      have hout : Lists H' Xo := fun a y => G.out a (.inl (.inl y))
      have nX : ∀ a, H a = none → ¬ Xo a := fun a ha y => by
        obtain ⟨xs, z⟩ := F.out a y
        rw [ha] at z; cases z
      have jl : ∀ {m : Nat} {b : Addr}, js[m]? = some b → (js ++ [t, q])[m]? = some b := fun {m b} e => by
        rw [List.getElem?_append_left ((List.getElem?_eq_some_iff.mp e).1)]; exact e
      have jt : (js ++ [t, q])[J1.length]? = some t := by rw [← G.len, List.getElem?_append_right (Nat.le_refl _)]; simp
      have jq : (js ++ [t, q])[J1.length + 1]? = some q := by rw [← G.len, List.getElem?_append_right (by omega)]; simp
      have G2 : Fit X.K Z Xo (js ++ [t, q]) H' σ env (J1 ++ [xs, .lnk J1.length :: ds]) := by
        refine ⟨hout, ?_, fun a ha => ?_, by rw [List.length_append, List.length_append, G.len]; rfl, G.slen, fun k a ds' h1 h2 => ?_, fun k h' e => ?_, fun z hz => (G.ez z hz).move (fun _ _ e _ => e) (fun a y => .inl (yy a y)) G.lists⟩
        · rw [List.nodup_append]
          refine ⟨G.nd, by simp; exact fun z => hqt z.symm, fun a ha b hb => ?_⟩
          simp at hb
          rcases hb with rfl | rfl
          · exact fun z => nt (z ▸ ha)
          · exact fun z => nq (z ▸ ha)
        · rcases List.mem_append.mp ha with ha | ha
          · exact fun z => G.jx a ha (.inl (.inl z))
          · simp at ha
            rcases ha with rfl | rfl
            · exact nX _ a3
            · exact nX _ a2
        · by_cases hk : k < js.length
          · rw [List.getElem?_append_left hk] at h1
            rw [List.getElem?_append_left (by rw [← G.len]; exact hk)] at h2
            obtain ⟨us', u1, u2⟩ := G.jar k a ds' h1 h2
            exact ⟨us', u1, repsC_moveJ (fun _ _ e _ => e) (fun a y => .inl (yy a y)) G.lists (fun m b _ e => jl e) u2⟩
          · rw [List.getElem?_append_right (by omega)] at h1
            rw [List.getElem?_append_right (by rw [← G.len]; omega), ← G.len] at h2
            cases hh : k - js.length with
            | zero =>
              rw [hh] at h1 h2
              have e1 : t = a := by simpa using h1
              have e2 : xs = ds' := by simpa using h2
              subst e1; subst e2
              exact ⟨us, a5, repsC_of (reps_move (fun _ _ e _ => e) (fun a y => .inl (yy a y)) G.lists _ _ a6)⟩
            | succ m =>
              rw [hh] at h1 h2
              cases m with
              | zero =>
                have e1 : q = a := by simpa using h1
                have e2 : L2.Pz.D.lnk js.length :: ds = ds' := by simpa using h2
                subst e1; subst e2
                refine ⟨_, a4, repsC_cons ⟨by omega, t, ?_, rfl⟩ (repsC_of (reps_move (fun _ _ e _ => e) (fun a y => .inl (yy a y)) G.lists _ _ a7))⟩
                rw [G.len]; exact jt
              | succ m => simp at h1
        · obtain ⟨u, u1, u2⟩ := G.slot k h' e
          refine ⟨u, u1, ?_⟩
          have u3 := u2.move (fun _ _ e _ => e) (Y' := Yf Xo (js ++ [t, q])) (fun a y => .inl (yy a y)) G.lists
          cases h' with
          | val d => exact u3
          | new ds => exact u3
          | exc m => exact u3
          | newB _ _ => exact u3
          | jar m =>
            obtain ⟨a, ea, ev⟩ := u3
            exact ⟨a, jl ea, ev⟩
      refine p _ H' (js ++ [t, q]) ⟨e1, fun a ha => ?_, ?_, fun a h => none_back e1 G.unlock.unlock.lists h⟩ (G2.set i (h := .jar (J1.length + 1)) ?_)
      · rcases List.mem_append.mp ha with ha | ha
        · exact .inl ha
        · simp at ha
          rcases ha with rfl | rfl
          · exact .inr a3
          · exact .inr a2
      · rw [List.take_append_of_le_length (by rw [G.len]; exact hn0)]
      · exact ⟨q, jq, a1⟩
theorem s_newB {i : Nat} {x : Str} {pos' : Pos} (hN : X.N.Nodup) (hi : X.N[i]? = some x) (hx : Loc X.env.scope x) (he : PE X e (tN X.K Z W f)) (hs : swapsWith e (some (.Name x pos')) pos.line X.env = pure false) (hf : X.fn x = true ∨ X.env.scope.names.lookup x = some .local) :
    PS X (.Assign [.Name x pos'] e pos) (tS X.K Z W n0 (sNewB i f)) := ps_mono (ps_set hN hi hx he hs hf) fun D σ H w => newB_read w
theorem pn_lstB (ha : PE X e (tN X.K Z W f)) (hb : PA X es (tI X.K Z W fs)) (hs : starEach (e :: es) X.env = (false, eval e X.env) :: starEach es X.env) : PE X (.List (e :: es) pos) (tN X.K Z W (eLstB f fs)) := pe_mono (pe_lst (pa_cons ha hb hs)) fun σ H Q ⟨Xo, js, env, J, F, p⟩ => by
  refine ⟨Xo, js, env, J, F, ?_⟩
  unfold eLstB at p
  cases hf : f env J with
  | stuck => rw [hf] at p; exact p.elim
  | err c fs J1 => rw [hf] at p; exact p
  | ok h J1 =>
    rw [hf] at p
    intro x H1 e1 o
    cases h with
    | val d => exact p.elim
    | jar k => exact p.elim
    | exc k => exact p.elim
    | newB _ _ => exact p.elim
    | new xs =>
      obtain ⟨q, us, rfl, a2, a3, F1, a5⟩ := o
      have p : PostN X.K Z W Xo js H σ env Q ((eItems fs env J1).bind fun ds J2 => if ds.length + 1 ≤ big then .ok (.newB xs ds) J2 else .stuck) := p
      refine ⟨With Xo q, js, env, J1, F1, ?_⟩
      cases hg : eItems fs env J1 with
      | stuck => rw [hg] at p; exact p.elim
      | err c fs J2 =>
        rw [hg] at p
        intro cls od H2 x2 e2 F2
        have F3 := F2.unlock
        refine p cls od H2 ?_ (e1.trans e2) F3
        exact x2.move (fun _ _ e _ => e) (fun a y => .inl (y.elim (fun y => .inl (.inl y)) .inr)) F2.lists
      | ok ds J2 =>
        rw [hg] at p
        intro vs H2 e2 F2 r2
        have p : PostN X.K Z W Xo js H σ env Q (if ds.length + 1 ≤ big then .ok (.newB xs ds) J2 else .stuck) := p
        by_cases hbg : ds.length + 1 ≤ big
        · rw [if_pos hbg] at p
          refine ⟨by rw [big_eq, List.length_cons, reps_len r2]; exact hbg, fun t ht => ?_⟩
          have nq : q ∉ js := fun z => F1.jx q z (.inr rfl)
          have q2 : H2 q = some (.lst us) := e2 q _ a3 nq
          have hqt : t ≠ q := fun z => by rw [z, q2] at ht; cases ht
          have sm : Same H2 (upd H2 t (.lst (V.ref q :: vs))) := same_upd ht
          have G := F2.lock sm ht upd_same
          have mv : ∀ {d es}, Reps X.K H2 (Yf (With Xo q) js) d es → Reps X.K (upd H2 t (.lst (V.ref q :: vs))) (Yf (With (With Xo q) t) js) d es := fun {d es} r =>
            reps_move (fun a o e _ => sm _ _ e) (fun a y => by
              rcases y with (y | y) | y
              · exact .inl (.inl y)
              · exact .inr (y ▸ ht)
              · exact .inl (.inr y)) F2.lists _ _ r
          have a5' : Reps X.K H2 (Yf (With Xo q) js) xs us := reps_move (fun a o q n => e2 a o q fun z => n (.inr z)) (fun _ y => .inl y) F1.lists _ _ a5
          have e12 : Ext js H H2 := e1.trans e2
          refine p _ _ (e12.trans (.of sm)) ⟨t, q, us, vs, rfl, hqt, none_back e12 F2.unlock.lists ht, a2, upd_same, sm _ _ q2, G, mv a5', mv r2⟩
        · rw [if_neg hbg] at p; exact p.elim
end
/-! ### their logic -/
section
variable {X : XP} {P : Po} {Q : HV → Jr → Prop} {J : Jr} {env : En} {n i : Nat} {f g : EF} {fs : List EF}
def newBQ (h : HV) (Q : List D → List D → Prop) : Prop := match h with
  | .newB a b => Q a b
  | _ => False
@[simp] theorem newBQ_newB {xs ds : List D} {Q : List D → List D → Prop} : newBQ (.newB xs ds) Q ↔ Q xs ds := Iff.rfl
@[simp] theorem elemH_lnk {m : Nat} : elemH (.lnk m) = .jar m := rfl
@[simp] theorem elemH_int {m : Int} : elemH (.int m) = .val (.int m) := rfl
@[simp] theorem elemH_bl {m : Bool} : elemH (.bl m) = .val (.bl m) := rfl
@[simp] theorem elemH_str {m : Str} : elemH (.str m) = .val (.str m) := rfl
@[simp] theorem elemH_tup {m : List D} : elemH (.tup m) = .val (.tup m) := rfl
@[simp] theorem elemH_lst {m : List D} : elemH (.lst m) = .val (.lst m) := rfl
@[simp] theorem elemH_non : elemH .non = .val .non := rfl
@[simp] theorem deref_newB {xs ds : List D} : deref J (.newB xs ds) = none := rfl
@[simp] theorem toVal_newB {xs ds : List D} : toVal (.newB xs ds) = none := rfl
@[simp] theorem norm_newB {xs ds : List D} : norm (.newB xs ds) = .newB xs ds := rfl
@[simp] theorem outH_newB {m : Nat} {xs ds : List D} : outH m J (.newB xs ds) = .ok (.newB xs ds) (J.take m) := rfl
@[simp] theorem Ex_ixJ : Ex X (eIxJ i g env J) Q ↔ jarQ env[i]? fun k => Ex X (g env J) fun h J => intQ h fun j => OpQ J[k]? fun ds => OpQ (atI ds j) fun d => Q (elemH d) J := by
  unfold eIxJ
  cases e : env[i]? with
  | none => simp only [Ex_eq]; exact Iff.rfl
  | some o =>
    cases o with
    | none => simp only [Ex_eq]; exact Iff.rfl
    | some z =>
      cases z with
      | val d => simp only [Ex_eq]; exact Iff.rfl
      | new d => simp only [Ex_eq]; exact Iff.rfl
      | newB _ _ => simp only [Ex_eq]; exact Iff.rfl
      | exc k => simp only [Ex_eq]; exact Iff.rfl
      | jar k =>
        show Ex X ((g env J).bind _) Q ↔ _
        rw [Ex_bind]
        refine Ex_iff fun h J => ?_
        cases h with
        | val d =>
          cases d with
          | int j =>
            show Ex X (ixJEnd J k j) Q ↔ _
            unfold ixJEnd
            cases J[k]? with
            | none => simp only [Ex_eq]; exact Iff.rfl
            | some ds =>
              dsimp only
              show _ ↔ OpQ (atI ds j) fun d => Q (elemH d) J
              cases atI ds j with
              | none => simp only [Ex_eq]; exact Iff.rfl
              | some d => simp only [Ex_eq]; exact Iff.rfl
          | _ => first | exact Iff.rfl | (simp only [Ex_eq]; exact Iff.rfl)
        | _ => simp only [Ex_eq]; exact Iff.rfl
@[simp] theorem Sx_newB : Sx P (sNewB i f n env J) ↔ Ex (fun c fs J => P.er c fs env J) (f env J) fun h J => newBQ h fun xs ds => n ≤ J.length ∧ P.nx (env.set i (some (.jar (J.length + 1)))) (J ++ [xs, .lnk J.length :: ds]) := by
  unfold sNewB
  rw [Sx_on]
  refine Ex_iff fun x J => ?_
  cases x with
  | newB a b => exact Sx_ite
  | _ => first | exact Iff.rfl | (simp only [Ex_eq, Sx_eq]; exact Iff.rfl)
@[simp] theorem Ex_lstB : Ex X (eLstB f fs env J) Q ↔ Ex X (f env J) fun h J => newQ h fun xs => Ex X (eItems fs env J) fun ds J => ds.length + 1 ≤ big ∧ Q (.newB xs ds) J := by
  unfold eLstB
  rw [Ex_bind]
  refine Ex_iff fun x J => ?_
  cases x with
  | new xs =>
    show Ex X ((eItems fs env J).bind _) Q ↔ _
    rw [Ex_bind]
    exact Ex_iff fun y J => Ex_ite
  | _ => simp only [Ex_eq]; exact Iff.rfl
@[simp] theorem Ex_popX {i : Nat} {f : EF} {Q : HV → Jr → Prop} : Ex X (ePop i f env J) Q ↔ jarQ env[i]? fun k => Ex X (f env J) fun h J => intQ h fun j => Ex X (popEnd J k j) Q := by
  unfold ePop
  cases e : env[i]? with
  | none => simp only [Ex_eq]; exact Iff.rfl
  | some o =>
    cases o with
    | none => simp only [Ex_eq]; exact Iff.rfl
    | some z =>
      cases z with
      | val d => simp only [Ex_eq]; exact Iff.rfl
      | new d => simp only [Ex_eq]; exact Iff.rfl
      | newB _ _ => simp only [Ex_eq]; exact Iff.rfl
      | exc k => simp only [Ex_eq]; exact Iff.rfl
      | jar k =>
        show Ex X ((f env J).bind _) Q ↔ _
        rw [Ex_bind]
        refine Ex_iff fun h J => ?_
        cases h with
        | val d => cases d <;> first | exact Iff.rfl | (simp only [Ex_eq]; exact Iff.rfl)
        | jar k => simp only [Ex_eq]; exact Iff.rfl
        | exc k => simp only [Ex_eq]; exact Iff.rfl
        | newB _ _ => simp only [Ex_eq]; exact Iff.rfl
        | new k => simp only [Ex_eq]; exact Iff.rfl
/-- pop of a cell of data, the place within it -/
theorem popEnd_in {ds : List D} {j : Int} {k : Nat} (hJ : J[k]? = some ds) (h0 : 0 ≤ j) (h1 : j < ds.length) (hl : ds.length ≤ big) (hp : ds.all isP = true) : popEnd J k j = .ok (.val (ds[j.toNat]'(by omega))) (J.set k (ds.eraseIdx j.toNat)) := by
  have hi : j.toNat < ds.length := by omega
  have hb : ds.length ≤ 16777216 := hl
  unfold popEnd
  rw [hJ]
  dsimp only
  rw [if_pos ⟨by omega, by omega, hp⟩, seqIndex_of h0 h1]
  dsimp only
  rw [List.getElem?_eq_getElem hi]
end
end L2.Pz
set_option Elab.async false
set_option linter.all false
set_option maxRecDepth 100000
set_option maxHeartbeats 4000000
set_option autoImplicit false
namespace K09
open PySem PySem.Spec PyProof.Rows L2 L2.Pz
/-! ### what the defs compute -/
def B_l_reel : SF := (sSeq (sSet 1 (eLc (iAny (eName 0)) (tgName 3) bYes (eBin dMod (eUn dAbs (eUn dToInt (eName 3))) (eBin dShl (eC (.int 1)) (eC (.int 2000)))) [3]))
  (sSeq (sSet 2 (eC (.int 909)))
  (sSeq (sFor (iAny (eName 1)) (tgName 3) (sSet 2 (eBin dMod (eUn dToInt (eBin dAdd (eBin dAdd (eBin dMul (eName 2) (eC (.int 31))) (eBin dMul (eBin dMod (eName 3) (eC (.int 65537))) (eC (.int 17)))) (eBin dMod (eBin dFloor (eName 3) (eC (.int 65537))) (eC (.int 8191))))) (eC (.int 1073741789)))))
  (sRet (eLstB (eLc (iAny (eName 1)) (tgName 3) (bCmp dGe (eName 3) (eBin dPow (eC (.int 10)) (eC (.int 18)))) (eName 3) [3]) [(eName 2), (eUn dLen (eName 1))])))))
def F_l_reel : FT := mkF 4 B_l_reel
def B_l_next : SF := (sSeq (sSetI 0 (eC (.int 2)) (eBin dAdd (eIxJ 0 (eC (.int 2))) (eC (.int 1))))
  (sSeq (sSet 2 (eIxJ 0 (eC (.int 0))))
  (sSeq (sIf (bCmp dGt (eUn dLen (eName 2)) (eC (.int 0))) (sSeq (sSet 3 (eBin dMod (eUn dToInt (eIxJ 0 (eC (.int 2)))) (eUn dLen (eName 2))))
  (sSeq (sSet 4 (eUn dToInt (eBin dIx (eName 2) (eName 3))))
  (sSeq (sSetI 2 (eName 3) (eBin dFloor (eName 4) (eName 1)))
  (sSeq (sIf (bCmp dEq (eBin dIx (eName 2) (eName 3)) (eC (.int 0))) (sExpr (ePop 2 (eName 3))) sNext)
  (sRet (eBin dMod (eName 4) (eName 1))))))) sNext)
  (sSeq (sSetI 0 (eC (.int 1)) (eBin dMod (eUn dToInt (eBin dAdd (eBin dAdd (eBin dMul (eIxJ 0 (eC (.int 1))) (eC (.int 1583458089))) (eBin dMul (eIxJ 0 (eC (.int 2))) (eC (.int 784588716)))) (eC (.int 13)))) (eC (.int 2147483647))))
  (sRet (eBin dMod (eUn dToInt (eBin dFloor (eIxJ 0 (eC (.int 1))) (eC (.int 17)))) (eName 1)))))))
def F_l_next : FT := mkF 5 B_l_next
def B_l_some : SF := (sSeq (sNew 3 (eUn dList (eName 1)))
  (sSeq (sNew 4 (eLst []))
  (sSeq (sFor (iRange1 (eBin dMin (eName 2) (eUn dLen (eName 3)))) (tgName 5) (sApp 4 (ePop 3 (eCall F_l_next [(eName 0), (eUn dLen (eName 3))]))))
  (sRet (eNorm (eName 4))))))
def F_l_some : FT := mkF 6 B_l_some
def B_l_setting : SF := (sSeq (sNew 4 (eLst []))
  (sSeq (sFor (iAny (eName 3)) (tgName 5) (sFor (iRange1 (eName 1)) (tgName 7) (sIf (bCmp dIn (eName 5) (eLst [(eC (.str "held")), (eC (.str "idle"))])) (sApp 4 (eTup [(eName 5), (eName 7)])) (sNew 4 (eBin dAdd (eName 4) (eLc (iRange2 (eBin dAdd (eName 7) (eC (.int 1))) (eName 1)) (tgName 8) bYes (eTup [(eName 5), (eName 7), (eName 8)]) [8]))))))
  (sSeq (sSet 6 (eCall F_l_some [(eName 0), (eLst [(eC (.str "a")), (eC (.str "up")), (eC (.str "down")), (eC (.str "c3")), (eC (.str "v")), (eC (.str "left")), (eC (.str "w"))]), (eName 1)]))
  (sRet (eTup [(eUn dTuple (eName 6)), (eUn dTuple (eCall F_l_some [(eName 0), (eName 4), (eName 2)]))])))))
def F_l_setting : FT := mkF 9 B_l_setting
def B_l_row : SF := (sSeq (sSet 3 (eBin dAdd (eC (.int 1)) (eCall F_l_next [(eName 0), (eName 1)])))
  (sSeq (sSet 4 (eCall F_l_next [(eName 0), (eName 1)]))
  (sSeq (sNew 5 (eLst []))
  (sSeq (sFor (iRange1 (eName 2)) (tgName 6) (sApp 5 (eBin dMod (eUn dToInt (eBin dAdd (eCall F_l_next [(eName 0), (eName 3)]) (eName 4))) (eName 1))))
  (sRet (eUn dTuple (eName 5)))))))
def F_l_row : FT := mkF 7 B_l_row
def B_held_step : SF := (sSeq (sIf (bOr (bCmp dGe (eName 2) (eUn dLen (eName 0))) (bCmp dNe (eBin dIx (eName 0) (eName 2)) (eName 1))) (sRet (eNorm (eC .non))) sNext)
  (sSeq (sIf (bCmp dEq (eName 3) (eC (.int 1))) (sRet (eBin dAdd (eBin dAdd (eSl (eName 0) none (some (eName 2))) (eTup [(eName 1)])) (eSl (eName 0) (some (eName 2)) none))) sNext)
  (sSeq (sIf (bOr (bCmp dGe (eBin dAdd (eName 2) (eC (.int 1))) (eUn dLen (eName 0))) (bCmp dNe (eBin dIx (eName 0) (eBin dAdd (eName 2) (eC (.int 1)))) (eName 1))) (sRet (eNorm (eC .non))) sNext)
  (sRet (eBin dAdd (eSl (eName 0) none (some (eName 2))) (eSl (eName 0) (some (eBin dAdd (eName 2) (eC (.int 1)))) none))))))
def F_held_step : FT := mkF 4 B_held_step
def B_idle_step : SF := (sSeq (sIf (bCmp dEq (eName 3) (eC (.int 1))) (sRet (eIf (bCmp dLe (eName 2) (eUn dLen (eName 0))) (eBin dAdd (eBin dAdd (eSl (eName 0) none (some (eName 2))) (eTup [(eName 1)])) (eSl (eName 0) (some (eName 2)) none)) (eNorm (eC .non)))) sNext)
  (sSeq (sIf (bOr (bCmp dGe (eName 2) (eUn dLen (eName 0))) (bCmp dNe (eBin dIx (eName 0) (eName 2)) (eName 1))) (sRet (eNorm (eC .non))) sNext)
  (sRet (eBin dAdd (eSl (eName 0) none (some (eName 2))) (eSl (eName 0) (some (eBin dAdd (eName 2) (eC (.int 1)))) none)))))
def F_idle_step : FT := mkF 4 B_idle_step
def B_loose_step : SF := (sSeq (sAsg (tgSeq [5, 6]) (eIf (bCmp dEq (eName 4) (eC (.int 1))) (eTup [(eName 1), (eName 2)]) (eTup [(eName 2), (eName 1)])))
  (sSeq (sIf (bCmp dNe (eSl (eName 0) (some (eName 3)) (some (eBin dAdd (eName 3) (eC (.int 2))))) (eTup [(eName 5), (eName 6)])) (sRet (eNorm (eC .non))) sNext)
  (sRet (eBin dAdd (eBin dAdd (eSl (eName 0) none (some (eName 3))) (eTup [(eName 6), (eName 5)])) (eSl (eName 0) (some (eBin dAdd (eName 3) (eC (.int 2)))) none)))))
def F_loose_step : FT := mkF 7 B_loose_step
def B_same_step : SF := (sSeq (sAsg (tgSeq [5, 6]) (eIf (bCmp dEq (eName 4) (eC (.int 1))) (eTup [(eName 1), (eName 2)]) (eTup [(eName 2), (eName 1)])))
  (sSeq (sIf (bOr (bCmp dGe (eName 3) (eUn dLen (eName 0))) (bCmp dNe (eBin dIx (eName 0) (eName 3)) (eName 5))) (sRet (eNorm (eC .non))) sNext)
  (sRet (eBin dAdd (eBin dAdd (eSl (eName 0) none (some (eName 3))) (eTup [(eName 6)])) (eSl (eName 0) (some (eBin dAdd (eName 3) (eC (.int 1)))) none)))))
def F_same_step : FT := mkF 7 B_same_step
def B_stepped : SF := (sSeq (sAsg (tgSeq [4, 5, 6]) (eName 2))
  (sSeq (sSet 3 (eBin dIx (eBin dIx (eName 0) (eC (.int 1))) (eName 4)))
  (sSeq (sIf (bCmp dEq (eBin dIx (eName 3) (eC (.int 0))) (eC (.str "held"))) (sRet (eCall F_held_step [(eName 1), (eBin dIx (eName 3) (eC (.int 1))), (eName 5), (eName 6)])) sNext)
  (sSeq (sIf (bCmp dEq (eBin dIx (eName 3) (eC (.int 0))) (eC (.str "idle"))) (sRet (eCall F_idle_step [(eName 1), (eBin dIx (eName 3) (eC (.int 1))), (eName 5), (eName 6)])) sNext)
  (sSeq (sIf (bCmp dEq (eBin dIx (eName 3) (eC (.int 0))) (eC (.str "loose"))) (sRet (eCall F_loose_step [(eName 1), (eBin dIx (eName 3) (eC (.int 1))), (eBin dIx (eName 3) (eC (.int 2))), (eName 5), (eName 6)])) sNext)
  (sRet (eCall F_same_step [(eName 1), (eBin dIx (eName 3) (eC (.int 1))), (eBin dIx (eName 3) (eC (.int 2))), (eName 5), (eName 6)])))))))
def F_stepped : FT := mkF 7 B_stepped
def B_steps_from : SF := (sSeq (sNew 2 (eLst []))
  (sSeq (sFor (iRange1 (eUn dLen (eBin dIx (eName 0) (eC (.int 1))))) (tgName 3) (sFor (iRange1 (eBin dAdd (eUn dLen (eName 1)) (eC (.int 1)))) (tgName 4) (sFor (iAny (eTup [(eC (.int 0)), (eC (.int 1))])) (tgName 5) (sIf (fun env J => toB (eUn dNotN (eCall F_stepped [(eName 0), (eName 1), (eTup [(eName 3), (eName 4), (eName 5)])]) env J)) (sApp 2 (eTup [(eName 3), (eName 4), (eName 5)])) sNext))))
  (sRet (eUn dTuple (eName 2)))))
def F_steps_from : FT := mkF 6 B_steps_from
def B_l_done : SF := (sSeq (sAsg (tgSeq [10, 11, 12]) (eName 2))
  (sSeq (sSet 3 (eBin dIx (eBin dIx (eName 0) (eC (.int 1))) (eName 10)))
  (sSeq (sSet 4 (eBin dIx (eName 3) (eC (.int 1))))
  (sSeq (sIf (bAnd (bCmp dEq (eBin dIx (eName 3) (eC (.int 0))) (eC (.str "idle"))) (bCmp dEq (eName 12) (eC (.int 1)))) (sSeq (sIf (bCmp dGt (eName 11) (eUn dLen (eName 1))) (sRet (eNorm (eC .non))) sNext)
  (sRet (eBin dAdd (eBin dAdd (eSl (eName 1) none (some (eName 11))) (eTup [(eName 4)])) (eSl (eName 1) (some (eName 11)) none)))) sNext)
  (sSeq (sIf (bCmp dGe (eName 11) (eUn dLen (eName 1))) (sRet (eNorm (eC .non))) sNext)
  (sSeq (sSet 5 (eBin dIx (eName 1) (eName 11)))
  (sSeq (sSet 6 (eUn dList (eSl (eName 1) (some (eBin dAdd (eName 11) (eC (.int 1)))) none)))
  (sSeq (sSet 7 (eUn dList (eSl (eName 1) none (some (eName 11)))))
  (sSeq (sIf (bCmp dEq (eBin dIx (eName 3) (eC (.int 0))) (eC (.str "idle"))) (sRet (eIf (bCmp dEq (eName 5) (eName 4)) (eUn dTuple (eBin dAdd (eName 7) (eName 6))) (eNorm (eC .non)))) sNext)
  (sSeq (sIf (bAnd (bCmp dEq (eBin dIx (eName 3) (eC (.int 0))) (eC (.str "held"))) (bCmp dEq (eName 12) (eC (.int 1)))) (sRet (eIf (bCmp dEq (eName 5) (eName 4)) (eUn dTuple (eBin dAdd (eBin dAdd (eName 7) (eLst [(eName 4), (eName 4)])) (eName 6))) (eNorm (eC .non)))) sNext)
  (sSeq (sIf (bCmp dEq (eBin dIx (eName 3) (eC (.int 0))) (eC (.str "held"))) (sRet (eIf (bAnd (bCmp dEq (eName 5) (eName 4)) (bAnd (bCmp dGt (eUn dLen (eName 6)) (eC (.int 0))) (bCmp dEq (eBin dIx (eName 6) (eC (.int 0))) (eName 4)))) (eUn dTuple (eBin dAdd (eName 7) (eName 6))) (eNorm (eC .non)))) sNext)
  (sSeq (sSet 8 (eBin dIx (eName 3) (eBin dSub (eC (.int 2)) (eName 12))))
  (sSeq (sSet 9 (eBin dIx (eName 3) (eBin dAdd (eC (.int 1)) (eName 12))))
  (sSeq (sIf (bCmp dNe (eName 5) (eName 8)) (sRet (eNorm (eC .non))) sNext)
  (sSeq (sIf (bCmp dEq (eBin dIx (eName 3) (eC (.int 0))) (eC (.str "same"))) (sRet (eUn dTuple (eBin dAdd (eBin dAdd (eName 7) (eLst [(eName 9)])) (eName 6)))) sNext)
  (sSeq (sIf (bOr (bCmp dEq (eUn dLen (eName 6)) (eC (.int 0))) (bCmp dNe (eBin dIx (eName 6) (eC (.int 0))) (eName 9))) (sRet (eNorm (eC .non))) sNext)
  (sRet (eUn dTuple (eBin dAdd (eBin dAdd (eName 7) (eLst [(eName 9), (eName 8)])) (eSl (eName 6) (some (eC (.int 1))) none))))))))))))))))))))
def F_l_done : FT := mkF 13 B_l_done
def B_l_row_is : SF := (sSeq (sIf (fun env J => toB (eUn dIsN (eName 1) env J)) (sRet (eUn dIsN (eName 0))) sNext)
  (sSeq (sIf (bOr (bNot (bTruth (eUn (dIsa "tuple") (eName 0)))) (bCmp dNe (eUn dLen (eName 0)) (eUn dLen (eName 1)))) (sRet (eNorm (eC (.bl false)))) sNext)
  (sSeq (sFor (iRange1 (eUn dLen (eName 1))) (tgName 2) (sIf (bOr (bNot (bTruth (eUn (dIsa "int") (eBin dIx (eName 0) (eName 2))))) (bOr (bTruth (eUn (dIsa "bool") (eBin dIx (eName 0) (eName 2)))) (bCmp dNe (eBin dIx (eName 0) (eName 2)) (eBin dIx (eName 1) (eName 2))))) (sRet (eNorm (eC (.bl false)))) sNext))
  (sRet (eNorm (eC (.bl true)))))))
def F_l_row_is : FT := mkF 3 B_l_row_is
def B_l_steps : SF := (sSeq (sNew 4 (eLst []))
  (sSeq (sFor (iRange1 (eUn dLen (eBin dIx (eName 0) (eC (.int 1))))) (tgName 5) (sFor (iAny (eBin dAdd (eRg mkL (iRange1 (eBin dAdd (eUn dLen (eName 1)) (eC (.int 3))))) (eName 3))) (tgName 8) (sFor (iRange1 (eC (.int 2))) (tgName 9) (sSeq (sSet 10 (eTup [(eName 5), (eName 8), (eName 9)]))
  (sSeq (sSet 11 (eCall F_l_done [(eName 0), (eName 1), (eName 10)]))
  (sSeq (sSet 6 (eIf (bTruth (eName 2)) (eCallK F_stepped [0, 1, 2] [(eName 0), (eName 1), (eName 10)]) (eCall F_stepped [(eName 0), (eName 1), (eName 10)])))
  (sSeq (sIf (bNot (bTruth (eCall F_l_row_is [(eName 6), (eName 11)]))) (sRet (eNorm (eC (.bl false)))) sNext)
  (sIf (fun env J => toB (eUn dNotN (eName 11) env J)) (sApp 4 (eName 10)) sNext))))))))
  (sSeq (sSet 6 (eIf (bTruth (eName 2)) (eCallK F_steps_from [0, 1] [(eName 0), (eName 1)]) (eCall F_steps_from [(eName 0), (eName 1)])))
  (sSeq (sIf (bOr (bNot (bTruth (eUn (dIsa "tuple") (eName 6)))) (bCmp dNe (eUn dLen (eName 6)) (eUn dLen (eName 4)))) (sRet (eNorm (eC (.bl false)))) sNext)
  (sSeq (sFor (iRange1 (eUn dLen (eName 4))) (tgName 7) (sIf (bNot (bTruth (eCall F_l_row_is [(eBin dIx (eName 6) (eName 7)), (eBin dIx (eName 4) (eName 7))]))) (sRet (eNorm (eC (.bl false)))) sNext))
  (sRet (eNorm (eC (.bl true)))))))))
def F_l_steps : FT := mkF 12 B_l_steps
def B_l_few : SF := (sSeq (sFor (iRange1 (eC (.int 12))) (tgName 4) (sSeq (sSet 9 (eTup [(eCall F_l_next [(eName 0), (eUn dLen (eBin dIx (eName 1) (eC (.int 1))))]), (eCall F_l_next [(eName 0), (eBin dAdd (eUn dLen (eName 2)) (eC (.int 2)))]), (eCall F_l_next [(eName 0), (eC (.int 2))])]))
  (sSeq (sSet 7 (eIf (bTruth (eName 3)) (eCallK F_stepped [0, 1, 2] [(eName 1), (eName 2), (eName 9)]) (eCall F_stepped [(eName 1), (eName 2), (eName 9)])))
  (sIf (bNot (bTruth (eCall F_l_row_is [(eName 7), (eCall F_l_done [(eName 1), (eName 2), (eName 9)])]))) (sRet (eNorm (eC (.bl false)))) sNext))))
  (sSeq (sSet 5 (eLst []))
  (sSeq (sFor (iRange1 (eUn dLen (eBin dIx (eName 1) (eC (.int 1))))) (tgName 6) (sFor (iRange1 (eBin dAdd (eUn dLen (eName 2)) (eC (.int 1)))) (tgName 10) (sSet 5 (eBin dAdd (eName 5) (eLc (iRange1 (eC (.int 2))) (tgName 11) (fun env J => toB (eUn dNotN (eCall F_l_done [(eName 1), (eName 2), (eTup [(eName 6), (eName 10), (eName 11)])]) env J)) (eTup [(eName 6), (eName 10), (eName 11)]) [11])))))
  (sSeq (sSet 7 (eIf (bTruth (eName 3)) (eCallK F_steps_from [0, 1] [(eName 1), (eName 2)]) (eCall F_steps_from [(eName 1), (eName 2)])))
  (sSeq (sIf (bOr (bNot (bTruth (eUn (dIsa "tuple") (eName 7)))) (bCmp dNe (eUn dLen (eName 7)) (eUn dLen (eName 5)))) (sRet (eNorm (eC (.bl false)))) sNext)
  (sSeq (sFor (iRange1 (eUn dLen (eName 5))) (tgName 8) (sIf (bNot (bTruth (eCall F_l_row_is [(eBin dIx (eName 7) (eName 8)), (eBin dIx (eName 5) (eName 8))]))) (sRet (eNorm (eC (.bl false)))) sNext))
  (sRet (eNorm (eC (.bl true))))))))))
def F_l_few : FT := mkF 12 B_l_few
def B_is_integer : SF := (sRet (eAnd (eUn (dIsa "int") (eName 0)) (eNot (eUn (dIsa "bool") (eName 0)))))
def F_is_integer : FT := mkF 1 B_is_integer
def B_integer_within : SF := (sRet (eAnd (eCall F_is_integer [(eName 0)]) (eChain dLe dLe (eName 1) (eName 0) (eName 2))))
def F_integer_within : FT := mkF 3 B_integer_within
def B_is_number : SF := (sRet (eCall F_integer_within [(eName 0), (eC (.int 0)), (eBin dSub (eName 1) (eC (.int 1)))]))
def F_is_number : FT := mkF 2 B_is_number
def B_tuple_of : SF := (sRet (eAnd (eUn (dIsa "tuple") (eName 0)) (eBin dEq (eUn dLen (eName 0)) (eName 1))))
def F_tuple_of : FT := mkF 2 B_tuple_of
def B_is_step : SF := (sSeq (sIf (bOr (bNot (bTruth (eCall F_tuple_of [(eName 1), (eC (.int 3))]))) (bNot (bTruth (eCall F_is_number [(eBin dIx (eName 1) (eC (.int 0))), (eUn dLen (eBin dIx (eName 0) (eC (.int 1))))])))) (sRet (eNorm (eC (.bl false)))) sNext)
  (sRet (eAnd (eCall F_is_integer [(eBin dIx (eName 1) (eC (.int 1)))]) (eAnd (eBin dGe (eBin dIx (eName 1) (eC (.int 1))) (eC (.int 0))) (eCall F_integer_within [(eBin dIx (eName 1) (eC (.int 2))), (eC (.int 0)), (eC (.int 1))])))))
def F_is_step : FT := mkF 2 B_is_step
def B_l_is : SF := (sSeq (sSet 4 (eIf (bTruth (eName 2)) (eCallK F_is_step [0, 1] [(eName 0), (eName 1)]) (eCall F_is_step [(eName 0), (eName 1)])))
  (sRet (eIf (bTruth (eName 3)) (eBin dIsB (eName 4) (eC (.bl true))) (eBin dIsB (eName 4) (eC (.bl false))))))
def F_l_is : FT := mkF 5 B_l_is
def B_l_things : SF := (sSeq (sSet 3 (eUn dLen (eBin dIx (eName 1) (eC (.int 1)))))
  (sSeq (sSet 4 (eBin dSub (eBin dMul (eBin dPow (eC (.int 10)) (eC (.int 45))) (eBin dPow (eC (.int 10)) (eC (.int 45)))) (eC (.int 1))))
  (sSeq (sSet 5 (eLst [(eUn dNeg (eC (.int 1))), (eName 3), (eBin dAdd (eBin dAdd (eName 3) (eC (.int 1))) (eCall F_l_next [(eName 0), (eC (.int 9))])), (eName 4), (eUn dNeg (eName 4)), (eC (.bl true)), (eC (.bl false)), (eC .non), (eC (.str "0")), (eC (.str "")), (eTup [(eC (.int 0))]), (eTup []), (eBin dSub (eUn dNeg (eName 3)) (eC (.int 1)))]))
  (sSeq (sSet 6 (eLst [(eUn dNeg (eC (.int 1))), (eBin dSub (eUn dNeg (eC (.int 1))) (eCall F_l_next [(eName 0), (eC (.int 99))])), (eUn dNeg (eName 4)), (eC (.bl true)), (eC (.bl false)), (eC .non), (eC (.str "0")), (eC (.str "1")), (eTup [(eC (.int 1))]), (eTup [])]))
  (sSeq (sSet 7 (eLst [(eC (.int 2)), (eUn dNeg (eC (.int 1))), (eBin dAdd (eC (.int 3)) (eCall F_l_next [(eName 0), (eC (.int 9))])), (eName 4), (eC (.bl true)), (eC (.bl false)), (eC .non), (eC (.str "1")), (eC (.str "0")), (eTup [(eC (.int 1))]), (eTup [(eC (.int 0))])]))
  (sSeq (sFor (iRange1 (eC (.int 2))) (tgName 8) (sSeq (sSet 10 (eLst [(eCall F_l_next [(eName 0), (eBin dMax (eC (.int 1)) (eName 3))]), (eBin dIx (eLst [(eC (.int 0)), (eC (.int 1)), (eCall F_l_next [(eName 0), (eC (.int 14))]), (eC (.int 99)), (eName 4)]) (eCall F_l_next [(eName 0), (eC (.int 5))])), (eCall F_l_next [(eName 0), (eC (.int 2))])]))
  (sSeq (sIf (bNot (bTruth (eCall F_l_is [(eName 1), (eUn dTuple (eName 10)), (eName 2), (eBin dGt (eName 3) (eC (.int 0)))]))) (sRet (eNorm (eC (.bl false)))) sNext)
  (sSeq (sFor (iRange1 (eC (.int 3))) (tgName 11) (sSeq (sFor (iAny (eBin dIx (eLst [(eName 5), (eName 6), (eName 7)]) (eName 11))) (tgName 16) (sSeq (sNew 17 (eUn dList (eName 10)))
  (sSeq (sSetI 17 (eName 11) (eName 16))
  (sIf (bNot (bTruth (eCall F_l_is [(eName 1), (eUn dTuple (eName 17)), (eName 2), (eC (.bl false))]))) (sRet (eNorm (eC (.bl false)))) sNext))))
  (sSeq (sNew 17 (eLst [(eBin dIx (eName 5) (eCall F_l_next [(eName 0), (eC (.int 5))])), (eBin dIx (eName 6) (eCall F_l_next [(eName 0), (eC (.int 3))])), (eBin dIx (eName 7) (eCall F_l_next [(eName 0), (eC (.int 4))]))]))
  (sSeq (sSetI 17 (eName 11) (eBin dIx (eName 10) (eName 11)))
  (sIf (bNot (bTruth (eCall F_l_is [(eName 1), (eUn dTuple (eName 17)), (eName 2), (eC (.bl false))]))) (sRet (eNorm (eC (.bl false)))) sNext)))))
  (sSeq (sSet 12 (eUn dList (eName 10)))
  (sSeq (sSet 13 (eLst [(eName 12), (eTup [(eBin dIx (eName 10) (eC (.int 0))), (eBin dIx (eName 10) (eC (.int 1)))]), (eTup [(eBin dIx (eName 10) (eC (.int 0))), (eBin dIx (eName 10) (eC (.int 1))), (eBin dIx (eName 10) (eC (.int 2))), (eC (.int 0))]), (eTup []), (eC .non), (eC (.bl true)), (eC (.int 0)), (eC (.int 1)), (eC (.str "")), (eC (.str "0 0 1")), (eTup [(eUn dTuple (eName 10))])]))
  (sSeq (sSet 13 (eBin dAdd (eName 13) (eLst [(eLst [(eUn dTuple (eName 10))]), (eTup [(eUn dTuple (eName 10)), (eUn dTuple (eName 10)), (eUn dTuple (eName 10))]), (eTup [(eName 10)]), (eC (.str "001")), (eName 4), (eTup [(eBin dIx (eName 10) (eC (.int 0)))])])))
  (sSeq (sFor (iAny (eName 13)) (tgName 14) (sIf (bNot (bTruth (eCall F_l_is [(eName 1), (eName 14), (eName 2), (eC (.bl false))]))) (sRet (eNorm (eC (.bl false)))) sNext))
  (sIf (bOr (bCmp dNe (eName 12) (eName 10)) (bOr (bCmp dNe (eUn dLen (eName 12)) (eC (.int 3))) (bNot (bTruth (eCall F_l_is [(eName 1), (eTup [(eBin dIx (eName 10) (eC (.int 0))), (eBin dIx (eName 10) (eC (.int 1))), (eBin dSub (eC (.int 1)) (eBin dIx (eName 10) (eC (.int 2))))]), (eName 2), (eBin dGt (eName 3) (eC (.int 0)))]))))) (sRet (eNorm (eC (.bl false)))) sNext)))))))))
  (sSeq (sFor (iAny (eLst [(eC (.int 0)), (eC (.int 1)), (eC (.int 200)), (eName 4)])) (tgName 9) (sFor (iRange1 (eC (.int 2))) (tgName 15) (sSeq (sIf (bAnd (bCmp dGt (eName 3) (eC (.int 0))) (bNot (bTruth (eCall F_l_is [(eName 1), (eTup [(eBin dSub (eName 3) (eC (.int 1))), (eName 9), (eName 15)]), (eName 2), (eC (.bl true))])))) (sRet (eNorm (eC (.bl false)))) sNext)
  (sIf (bNot (bTruth (eCall F_l_is [(eName 1), (eTup [(eName 3), (eName 9), (eName 15)]), (eName 2), (eC (.bl false))]))) (sRet (eNorm (eC (.bl false)))) sNext))))
  (sRet (eNorm (eC (.bl true)))))))))))
def F_l_things : FT := mkF 18 B_l_things
def B_l_by_hand : SF := (sSeq (sAsg (tgSeq [12, 13, 14, 15]) (eCall F_l_some [(eName 0), (eLst [(eC (.int 0)), (eC (.int 1)), (eC (.int 2)), (eC (.int 3))]), (eC (.int 4))]))
  (sSeq (sSet 2 (eBin dMin (eName 13) (eName 14)))
  (sSeq (sSet 3 (eBin dMax (eName 13) (eName 14)))
  (sSeq (sSet 4 (eTup [(eTup [(eC (.str "held")), (eName 12)]), (eTup [(eC (.str "idle")), (eName 15)]), (eTup [(eC (.str "loose")), (eName 2), (eName 3)]), (eTup [(eC (.str "same")), (eName 2), (eName 3)])]))
  (sSeq (sSet 5 (eTup [(eTup [(eC (.str "a")), (eC (.str "b")), (eC (.str "c")), (eC (.str "d"))]), (eName 4)]))
  (sSeq (sSet 6 (eTup [(eName 12), (eName 12), (eName 2), (eName 3), (eName 15)]))
  (sSeq (sSet 7 (eLst [(eTup [(eC (.int 0)), (eC (.int 0)), (eC (.int 0))]), (eTup [(eC (.int 0)), (eC (.int 0)), (eC (.int 1))]), (eTup [(eC (.int 0)), (eC (.int 1)), (eC (.int 1))]), (eTup [(eC (.int 1)), (eC (.int 0)), (eC (.int 1))]), (eTup [(eC (.int 1)), (eC (.int 1)), (eC (.int 1))]), (eTup [(eC (.int 1)), (eC (.int 2)), (eC (.int 1))]), (eTup [(eC (.int 1)), (eC (.int 3)), (eC (.int 1))]), (eTup [(eC (.int 1)), (eC (.int 4)), (eC (.int 0))]), (eTup [(eC (.int 1)), (eC (.int 4)), (eC (.int 1))]), (eTup [(eC (.int 1)), (eC (.int 5)), (eC (.int 1))])]))
  (sSeq (sSet 7 (eBin dAdd (eName 7) (eLst [(eTup [(eC (.int 2)), (eC (.int 2)), (eC (.int 1))]), (eTup [(eC (.int 3)), (eC (.int 2)), (eC (.int 1))]), (eTup [(eC (.int 3)), (eC (.int 3)), (eC (.int 0))])])))
  (sSeq (sSet 8 (eCall F_steps_from [(eName 5), (eName 6)]))
  (sSeq (sIf (bOr (bNot (bTruth (eUn (dIsa "tuple") (eName 8)))) (bCmp dNe (eUn dLen (eName 8)) (eUn dLen (eName 7)))) (sRet (eNorm (eC (.bl false)))) sNext)
  (sSeq (sFor (iRange1 (eUn dLen (eName 7))) (tgName 9) (sIf (bNot (bTruth (eCall F_l_row_is [(eBin dIx (eName 8) (eName 9)), (eBin dIx (eName 7) (eName 9))]))) (sRet (eNorm (eC (.bl false)))) sNext))
  (sSeq (sSet 10 (eLst [(eTup [(eName 12), (eName 2), (eName 3), (eName 15)]), (eTup [(eName 12), (eName 12), (eName 12), (eName 2), (eName 3), (eName 15)]), (eTup [(eName 12), (eName 12), (eName 12), (eName 2), (eName 3), (eName 15)]), (eTup [(eName 15), (eName 12), (eName 12), (eName 2), (eName 3), (eName 15)]), (eTup [(eName 12), (eName 15), (eName 12), (eName 2), (eName 3), (eName 15)])]))
  (sSeq (sSet 10 (eBin dAdd (eName 10) (eLst [(eTup [(eName 12), (eName 12), (eName 15), (eName 2), (eName 3), (eName 15)]), (eTup [(eName 12), (eName 12), (eName 2), (eName 15), (eName 3), (eName 15)]), (eTup [(eName 12), (eName 12), (eName 2), (eName 3)]), (eTup [(eName 12), (eName 12), (eName 2), (eName 3), (eName 15), (eName 15)])])))
  (sSeq (sSet 10 (eBin dAdd (eName 10) (eLst [(eTup [(eName 12), (eName 12), (eName 2), (eName 3), (eName 15), (eName 15)]), (eTup [(eName 12), (eName 12), (eName 3), (eName 2), (eName 15)]), (eTup [(eName 12), (eName 12), (eName 3), (eName 3), (eName 15)]), (eTup [(eName 12), (eName 12), (eName 2), (eName 2), (eName 15)])])))
  (sSeq (sFor (iRange1 (eUn dLen (eName 7))) (tgName 9) (sIf (bOr (bNot (bTruth (eCall F_l_row_is [(eCall F_stepped [(eName 5), (eName 6), (eBin dIx (eName 7) (eName 9))]), (eBin dIx (eName 10) (eName 9))]))) (bNot (bTruth (eCall F_l_is [(eName 5), (eBin dIx (eName 7) (eName 9)), (eName 1), (eC (.bl true))])))) (sRet (eNorm (eC (.bl false)))) sNext))
  (sSeq (sFor (iAny (eLst [(eTup [(eC (.int 0)), (eC (.int 1)), (eC (.int 0))]), (eTup [(eC (.int 0)), (eC (.int 2)), (eC (.int 1))]), (eTup [(eC (.int 0)), (eC (.int 2)), (eC (.int 0))]), (eTup [(eC (.int 1)), (eC (.int 3)), (eC (.int 0))]), (eTup [(eC (.int 1)), (eC (.int 6)), (eC (.int 1))]), (eTup [(eC (.int 1)), (eC (.int 5)), (eC (.int 0))]), (eTup [(eC (.int 2)), (eC (.int 2)), (eC (.int 0))]), (eTup [(eC (.int 2)), (eC (.int 3)), (eC (.int 1))]), (eTup [(eC (.int 3)), (eC (.int 2)), (eC (.int 0))]), (eTup [(eC (.int 3)), (eC (.int 3)), (eC (.int 1))]), (eTup [(eC (.int 3)), (eC (.int 5)), (eC (.int 1))])])) (tgName 11) (sSeq (sSet 8 (eIf (bTruth (eName 1)) (eCallK F_stepped [0, 1, 2] [(eName 5), (eName 6), (eName 11)]) (eCall F_stepped [(eName 5), (eName 6), (eName 11)])))
  (sIf (bOr (fun env J => toB (eUn dNotN (eName 8) env J)) (bNot (bTruth (eCall F_l_is [(eName 5), (eName 11), (eName 1), (eC (.bl true))])))) (sRet (eNorm (eC (.bl false)))) sNext)))
  (sSeq (sIf (bOr (bNot (bTruth (eCall F_l_row_is [(eCall F_stepped [(eName 5), (eTup [(eName 3), (eName 2)]), (eTup [(eC (.int 2)), (eC (.int 0)), (eC (.int 0))])]), (eTup [(eName 2), (eName 3)])]))) (fun env J => toB (eUn dNotN (eCall F_stepped [(eName 5), (eTup [(eName 3), (eName 2)]), (eTup [(eC (.int 2)), (eC (.int 0)), (eC (.int 1))])]) env J))) (sRet (eNorm (eC (.bl false)))) sNext)
  (sSeq (sSet 8 (eCall F_steps_from [(eName 5), (eTup [])]))
  (sRet (eAnd (eUn (dIsa "tuple") (eName 8)) (eAnd (eBin dEq (eUn dLen (eName 8)) (eC (.int 1))) (eCall F_l_row_is [(eBin dIx (eName 8) (eC (.int 0))), (eTup [(eC (.int 1)), (eC (.int 0)), (eC (.int 1))])]))))))))))))))))))))))
def F_l_by_hand : FT := mkF 16 B_l_by_hand
def B_law : SF := (sSeq (sNewB 1 (eCall F_l_reel [(eName 0)]))
  (sSeq (sSet 2 (eBin dEq (eCall F_l_next [(eName 1), (eC (.int 7))]) (eC (.int 5))))
  (sSeq (sSet 3 (eBin dEq (eCall F_l_next [(eName 1), (eC (.int 2))]) (eC (.int 1))))
  (sSeq (sIf (bNot (bTruth (eCall F_l_by_hand [(eName 1), (eName 3)]))) (sRet (eNorm (eC (.bl false)))) sNext)
  (sSeq (sSet 4 (eLst [(eC (.str "held")), (eC (.str "idle")), (eC (.str "loose")), (eC (.str "same"))]))
  (sSeq (sNew 5 (eLst []))
  (sSeq (sFor (iRange1 (eC (.int 3))) (tgName 6) (sSeq (sSet 8 (eBin dAdd (eC (.int 1)) (eCall F_l_next [(eName 1), (eC (.int 5))])))
  (sSeq (sSet 9 (eBin dIx (eLst [(eC (.int 1)), (eC (.int 3)), (eC (.int 6)), (eC (.int 12))]) (eCall F_l_next [(eName 1), (eC (.int 4))])))
  (sSeq (sIf (bAnd (bTruth (eName 2)) (bCmp dEq (eName 6) (eC (.int 0)))) (sSeq (sSet 8 (eC (.int 5)))
  (sSet 9 (eC (.int 12)))) sNext)
  (sSeq (sSet 10 (eCall F_l_setting [(eName 1), (eName 8), (eName 9), (eIf (bCmp dLt (eName 6) (eC (.int 2))) (eNorm (eName 4)) (eCall F_l_some [(eName 1), (eName 4), (eC (.int 2))]))]))
  (sSeq (sApp 5 (eName 10))
  (sSeq (sIf (bNot (bTruth (eCall F_l_things [(eName 1), (eName 10), (eName 3)]))) (sRet (eNorm (eC (.bl false)))) sNext)
  (sSeq (sSet 11 (eCall F_l_row [(eName 1), (eName 8), (eIf (bAnd (bTruth (eName 2)) (bCmp dEq (eName 6) (eC (.int 0)))) (eNorm (eC (.int 12))) (eCall F_l_next [(eName 1), (eC (.int 13))]))]))
  (sSeq (sIf (bOr (bAnd (bTruth (eName 2)) (bCmp dEq (eName 6) (eC (.int 0)))) (bCmp dLt (eBin dMul (eUn dLen (eBin dIx (eName 10) (eC (.int 1)))) (eUn dLen (eName 11))) (eC (.int 24)))) (sIf (bNot (bTruth (eCall F_l_steps [(eName 10), (eName 11), (eName 3), (eLst [(eC (.int 200)), (eBin dPow (eC (.int 10)) (eC (.int 4)))])]))) (sRet (eNorm (eC (.bl false)))) sNext) (sIf (bNot (bTruth (eCall F_l_few [(eName 1), (eName 10), (eName 11), (eName 3)]))) (sRet (eNorm (eC (.bl false)))) sNext))
  (sSeq (sSet 11 (eCall F_l_row [(eName 1), (eName 8), (eBin dAdd (eC (.int 1)) (eCall F_l_next [(eName 1), (eC (.int 3))]))]))
  (sIf (bNot (bTruth (eCall F_l_steps [(eTup [(eBin dIx (eName 10) (eC (.int 0))), (eSl (eBin dIx (eName 10) (eC (.int 1))) none (some (eC (.int 4))))]), (eName 11), (eNot (eNorm (eName 3))), (eLst [(eC (.int 13))])]))) (sRet (eNorm (eC (.bl false)))) sNext)))))))))))
  (sSeq (sSet 7 (eTup [(eBin dIx (eBin dIx (eName 5) (eC (.int 0))) (eC (.int 0))), (eTup [])]))
  (sSeq (sIf (bOr (bNot (bTruth (eCall F_l_things [(eName 1), (eName 7), (eName 3)]))) (bNot (bTruth (eCall F_l_steps [(eName 7), (eCall F_l_row [(eName 1), (eC (.int 1)), (eC (.int 3))]), (eName 3), (eLst [])])))) (sRet (eNorm (eC (.bl false)))) sNext)
  (sRet (eAnd (eCall F_l_steps [(eTup [(eBin dIx (eBin dIx (eName 5) (eC (.int 1))) (eC (.int 0))), (eSl (eBin dIx (eBin dIx (eName 5) (eC (.int 1))) (eC (.int 1))) none (some (eC (.int 3))))]), (eTup []), (eName 3), (eLst [(eC (.int 7))])]) (eCall F_l_by_hand [(eName 1), (eNot (eNorm (eName 3)))]))))))))))))
def F_law : FT := mkF 12 B_law
end K09
set_option Elab.async false
set_option linter.all false
set_option maxRecDepth 100000
set_option maxHeartbeats 4000000
set_option autoImplicit false
namespace K09
open PySem L2 L2.Pz
variable {X : XP} {Q : HV → Jr → Prop} {T J : Jr} {a r : List D} {env : En} {b : Nat}
/-! ### the reel -/
structure GBp (g : Int) : Prop where
  out : g.natAbs < 2 ^ 5000
theorem GBp.log2 {g : Int} (h : GBp g) : g.natAbs.log2 < 5000 := log2_lt' h.out (by decide)
theorem pos2000 : (0 : Int) < 2 ^ 2000 := by decide +kernel
theorem p25 : ((2 : Int) ^ 2000) < ((2 ^ 5000 : Nat) : Int) := by decide +kernel
theorem mod_GB {x : Int} : 0 ≤ x % 2 ^ 2000 ∧ GBp (x % 2 ^ 2000) := by
  have hp := pos2000
  have h1 := Int.emod_nonneg x (Int.ne_of_gt hp)
  have h2 := Int.emod_lt_of_pos x hp
  refine ⟨h1, ⟨?_⟩⟩
  have h3 : ((x % 2 ^ 2000).natAbs : Int) = x % 2 ^ 2000 := Int.natAbs_of_nonneg h1
  have h4 := p25
  generalize x % 2 ^ 2000 = r at h1 h2 h3
  generalize (2 : Int) ^ 2000 = P at h2 h4
  generalize (2 : Nat) ^ 5000 = M at h4
  omega
theorem GBp.div {g m : Int} (h : GBp g) (g0 : 0 ≤ g) (hm : 0 < m) : GBp (g / m) := by
  have e1 : g / m ≤ g := Int.ediv_le_self _ g0
  have e2 : 0 ≤ g / m := Int.ediv_nonneg g0 (by omega)
  refine ⟨Nat.lt_of_le_of_lt ?_ h.out⟩
  omega
theorem mul_sm {x y : Int} (hx : 0 ≤ x ∧ x < 2 ^ 64) (hy : 0 ≤ y ∧ y < 2 ^ 64) : dMul (.int x) (.int y) = some (.val (.int (x * y))) := by
  have h1 : x.natAbs.log2 < 64 := log2_lt' (by omega) (by decide)
  have h2 : y.natAbs.log2 < 64 := log2_lt' (by omega) (by decide)
  show (if decide (x.natAbs.log2 + y.natAbs.log2 < 1000000) = true then _ else _) = _
  rw [if_pos (decide_eq_true (by omega))]
theorem mod_sm {x y : Int} (hy : 0 < y) : dMod (.int x) (.int y) = some (.val (.int (x % y))) := by
  show (if decide (0 < y) = true then _ else _) = _
  rw [if_pos (decide_eq_true hy)]
theorem floor_sm {x y : Int} (hy : 0 < y ∧ y < 2 ^ 64) : dFloor (.int x) (.int y) = some (.val (.int (x / y))) := by
  have h2 : y.natAbs.log2 < 64 := log2_lt' (by omega) (by decide)
  show (if (decide (0 < y) && decide (y.natAbs.log2 < 9000)) = true then _ else _) = _
  rw [if_pos (by rw [decide_eq_true hy.1, decide_eq_true (by omega)]; rfl)]
theorem shl2000 : dShl (.int 1) (.int 2000) = some (.val (.int (2 ^ 2000))) := by with_unfolding_all rfl
abbrev LIM : Nat := 1000000000
structure Rb (b : Nat) (a r : List D) : Prop where
  out : ∃ (ns : List Int) (s c : Int), a = ns.map D.int ∧ r = [.lnk 0, .int s, .int c] ∧ (∀ n ∈ ns, 0 ≤ n ∧ GBp n) ∧ ns.length ≤ 63 ∧ 0 ≤ s ∧ s < 2147483647 ∧ 0 ≤ c ∧ c ≤ b
theorem Rb.mono {b b' : Nat} (h : Rb b a r) (hb : b ≤ b') : Rb b' a r := by
  obtain ⟨ns, s, c, e1, e2, h1, h2, h3, h4, h5, h6⟩ := h.out
  exact ⟨ns, s, c, e1, e2, h1, h2, h3, h4, h5, by omega⟩
theorem allP_int {ns : List Int} : (ns.map D.int).all isP = true := by simp [isP]
theorem toInt_i {i : Int} : dToInt (.int i) = some (.val (.int i)) := rfl
theorem ixM {ns : List Int} {i : Int} (h0 : 0 ≤ i) (h1 : i < ns.length) : dIx (.lst (ns.map D.int)) (.int i) = some (.val (.int (ns[i.toNat]'(by omega)))) := by
  show (atI (ns.map D.int) i).map HV.val = _
  rw [atI_in h0 (by rw [List.length_map]; exact h1), List.getElem_map]
  rfl
theorem eq_int {x y : Int} : dEq (.int x) (.int y) = some (.val (.bl (x == y))) := by
  simp
theorem ixMo {ns : List Int} {i v : Int} (h0 : 0 ≤ i) (h1 : i < ns.length) (e : ns[i.toNat]? = some v) : dIx (.lst (ns.map D.int)) (.int i) = some (.val (.int v)) := by
  rw [ixM h0 h1]
  rw [List.getElem?_eq_getElem (by omega)] at e
  cases e
  rfl
theorem map_erase {α β : Type} {f : α → β} : ∀ (l : List α) (i : Nat), (l.map f).eraseIdx i = (l.eraseIdx i).map f
  | [], i => rfl
  | x :: l, 0 => rfl
  | x :: l, i + 1 => by
    show f x :: (l.map f).eraseIdx i = f x :: (l.eraseIdx i).map f
    rw [map_erase l i]
theorem next_spec {m : Int} (hj : Rb b a r) (hb : b < LIM) (hm : 0 < m) (hm2 : m < 2 ^ 64) (h : ∀ v a' r', 0 ≤ v → v < m → Rb (b + 1) a' r' → Q (.val (.int v)) (a' :: r' :: T)) : Ex X (F_l_next [.jar 1, .val (.int m)] (a :: r :: T)) Q := by
  obtain ⟨ns, s, c, rfl, rfl, g0, gl, s0, s1, c0, c1⟩ := hj.out
  have hL : (LIM : Nat) = 1000000000 := rfl
  unfold F_l_next B_l_next
  rw [Ex_mkF]
  simp [startE, atI, ixN]
  by_cases hn : 0 < ns.length
  · rw [if_pos hn]
    have k0 : 0 ≤ (c + 1) % (ns.length : Int) := Int.emod_nonneg _ (by omega)
    have k1 : (c + 1) % (ns.length : Int) < ns.length := Int.emod_lt_of_pos _ (by omega)
    rw [toInt_i]
    simp only [OpQ_some, deref_val]
    rw [mod_sm (by omega)]
    simp only [OpQ_some, deref_val, norm_val]
    generalize (c + 1) % (ns.length : Int) = k at k0 k1
    rw [ixM k0 k1]
    obtain ⟨z0, z1⟩ := g0 _ (List.getElem_mem (l := ns) (n := k.toNat) (by omega))
    generalize hz : ns[k.toNat]'(by omega) = z at z0 z1
    simp only [OpQ_some, deref_val, toInt_i, norm_val]
    rw [floor_sm ⟨hm, hm2⟩]
    simp only [OpQ_some, toVal_val, intQ_int]
    rw [if_pos k0, if_pos k1]
    obtain ⟨ns', e1, g0', gl', hq⟩ : ∃ ns' : List Int, (ns.map D.int).set k.toNat (.int (z / m)) = ns'.map D.int ∧ (∀ n ∈ ns', 0 ≤ n ∧ GBp n) ∧ ns'.length = ns.length ∧ ns'[k.toNat]? = some (z / m) := by
      refine ⟨ns.set k.toNat (z / m), by rw [List.map_set], fun n hn => ?_, List.length_set, by rw [List.getElem?_set_self (by omega)]⟩
      rcases List.mem_or_eq_of_mem_set hn with hn | rfl
      · exact g0 n hn
      · exact ⟨Int.ediv_nonneg z0 (by omega), z1.div z0 hm⟩
    rw [OpQ_some, e1]
    refine ⟨List.all_eq_true.mp allP_int, ?_⟩
    rw [ixMo k0 (by omega) hq]
    simp only [OpQ_some, deref_val, eq_int, mod_sm hm]
    have v0 := Int.emod_nonneg z (Int.ne_of_gt hm)
    have v1 := Int.emod_lt_of_pos z hm
    simp
    by_cases hq0 : z / m = 0
    · rw [if_pos hq0, popEnd_in (ds := ns'.map D.int) rfl k0 (by rw [List.length_map]; omega) (by rw [List.length_map]; show _ ≤ 16777216; omega) allP_int]
      simp
      refine h _ _ _ v0 v1 ⟨⟨ns'.eraseIdx k.toNat, s, c + 1, ?_, rfl, fun n hn => g0' n (List.mem_of_mem_eraseIdx hn), ?_, s0, s1, by omega, by omega⟩⟩
      · exact map_erase _ _
      · have := List.length_eraseIdx_le ns' k.toNat
        omega
    · rw [if_neg hq0]
      exact h _ _ _ v0 v1 ⟨⟨ns', s, c + 1, rfl, rfl, g0', by omega, s0, s1, by omega, by omega⟩⟩
  · rw [if_neg hn, mul_sm ⟨s0, by omega⟩ (by decide), mul_sm (by omega) (by decide)]
    simp
    rw [toInt_i]
    simp
    rw [mod_sm (by decide)]
    simp
    rw [floor_sm (by decide)]
    simp
    rw [toInt_i]
    simp
    rw [mod_sm hm]
    simp
    exact h _ _ _ (Int.emod_nonneg _ (Int.ne_of_gt hm)) (Int.emod_lt_of_pos _ hm) ⟨⟨ns, _, c + 1, rfl, rfl, g0, gl, Int.emod_nonneg _ (by decide), Int.emod_lt_of_pos _ (by decide), by omega, by omega⟩⟩
theorem int_of {ns : List Int} {i : Nat} {d : D} (h : (ns.map D.int)[i]? = some d) : ∃ v, d = .int v ∧ v ∈ ns := by
  rw [List.getElem?_map] at h
  cases e : ns[i]? with
  | none => rw [e] at h; cases h
  | some v => rw [e] at h; exact ⟨v, by simpa using h.symm, List.mem_of_getElem? e⟩
theorem lcC_spec {ns : List Int} {e1 e2 e3 : Option HV} (hn : ns.length ≤ 63) (q : ∀ zs : List Int, zs.length = ns.length → (∀ z ∈ zs, 0 ≤ z ∧ GBp z) → Q (.new (zs.map D.int)) J) :
    Ex X (eLc (iAny (eName 0)) (tgName 3) bYes (eBin dMod (eUn dAbs (eUn dToInt (eName 3))) (eBin dShl (eC (.int 1)) (eC (.int 2000)))) [3] [some (.val (.lst (ns.map D.int))), e1, e2, e3] J) Q := by
  refine Ex_lcX ?_
  simp [wipeE]
  refine Ex_lcLoop (fun i acc J' => ∃ zs : List Int, acc = zs.map D.int ∧ J' = J ∧ zs.length = i ∧ ∀ z ∈ zs, 0 ≤ z ∧ GBp z) ⟨[], rfl, rfl, rfl, (fun c hc => by cases hc)⟩ ?_ ?_
  · rintro i d acc J' hd ⟨zs, rfl, rfl, hl, hr⟩
    have hi : i < (ns.map D.int).length := (List.getElem?_eq_some_iff.mp hd).1
    rw [List.length_map] at hi
    obtain ⟨v, rfl, _⟩ := int_of hd
    simp [tgName, dInt2, dAbs, dToInt, dMod, dShl, -Int.reducePow]
    obtain ⟨m1, m2⟩ := mod_GB (x := if v < 0 then -v else v)
    refine ⟨pos2000, show _ < 16777216 by omega, zs ++ [(if v < 0 then -v else v) % 2 ^ 2000], by simp, by simp [hl], fun z hz => ?_⟩
    rcases List.mem_append.mp hz with hz | hz
    · exact hr z hz
    · rw [List.mem_singleton.mp hz]; exact ⟨m1, m2⟩
  · rintro acc J' ⟨zs, rfl, rfl, hl, hr⟩
    rw [List.length_map] at hl
    exact q zs hl hr
theorem lcF_spec {zs : List Int} {e0 e2 e3 : Option HV} (hn : zs.length ≤ 63) (q : ∀ ys : List Int, ys.length ≤ zs.length → (∀ y ∈ ys, y ∈ zs) → Q (.new (ys.map D.int)) J) :
    Ex X (eLc (iAny (eName 1)) (tgName 3) (bCmp dGe (eName 3) (eBin dPow (eC (.int 10)) (eC (.int 18)))) (eName 3) [3] [e0, some (.val (.lst (zs.map D.int))), e2, e3] J) Q := by
  refine Ex_lcX ?_
  simp [wipeE]
  refine Ex_lcLoop (fun i acc J' => ∃ ys : List Int, acc = ys.map D.int ∧ J' = J ∧ ys.length ≤ i ∧ ∀ y ∈ ys, y ∈ zs) ⟨[], rfl, rfl, Nat.le_refl _, (fun c hc => by cases hc)⟩ ?_ ?_
  · rintro i d acc J' hd ⟨ys, rfl, rfl, hl, hr⟩
    have hi : i < (zs.map D.int).length := (List.getElem?_eq_some_iff.mp hd).1
    rw [List.length_map] at hi
    obtain ⟨v, rfl, hv⟩ := int_of hd
    simp [tgName, dInt2, dPow]
    by_cases h : (1000000000000000000 : Int) ≤ v
    · rw [if_pos h]
      refine ⟨show _ < 16777216 by omega, ys ++ [v], by simp, by simp; omega, fun z hz => ?_⟩
      rcases List.mem_append.mp hz with hz | hz
      · exact hr z hz
      · rw [List.mem_singleton.mp hz]; exact hv
    · rw [if_neg h]
      exact ⟨ys, rfl, by omega, hr⟩
  · rintro acc J' ⟨ys, rfl, rfl, hl, hr⟩
    rw [List.length_map] at hl
    exact q ys hl hr
theorem reel_spec (ns : List Int) (h : ∀ a s c, Rb 63 a [.lnk 0, .int s, .int c] → Q (.newB a [.int s, .int c]) []) (hn : ns.length ≤ 63) : Ex X (F_l_reel [.val (.lst (ns.map D.int))] []) Q := by
  unfold F_l_reel B_l_reel
  rw [Ex_mkF]
  simp [startE, Sx_for]
  refine lcC_spec hn fun zs hz hr => ?_
  simp
  refine Sx_loop (fun i env J => ∃ x3 s, env = [some (.val (.lst (ns.map D.int))), some (.val (.lst (zs.map D.int))), some (.val (.int s)), x3] ∧ J = [] ∧ 0 ≤ s ∧ s < 1073741789) ⟨_, _, rfl, rfl, by decide, by decide⟩ ?_ ?_
  · rintro i d env J hd ⟨x3, s, rfl, rfl, s0, s1⟩
    obtain ⟨v, rfl, hv⟩ := int_of hd
    obtain ⟨v0, v1⟩ := hr v hv
    have q0 := Int.emod_nonneg v (show (65537 : Int) ≠ 0 by decide)
    have q1 := Int.emod_lt_of_pos v (show (0 : Int) < 65537 by decide)
    simp [tgName]
    rw [mul_sm (by omega) (by decide), mod_sm (by decide), floor_sm (by decide)]
    simp
    rw [mul_sm (by omega) (by decide), mod_sm (by decide)]
    simp
    rw [toInt_i]
    simp
    rw [mod_sm (by decide)]
    simp
    exact ⟨_, _, ⟨rfl, rfl⟩, Int.emod_nonneg _ (show (1073741789 : Int) ≠ 0 by decide), Int.emod_lt_of_pos _ (show (0 : Int) < 1073741789 by decide)⟩
  · rintro env J ⟨x3, s, rfl, rfl, s0, s1⟩
    simp
    refine lcF_spec (by omega) fun ys hy hyz => ?_
    simp [dLen]
    exact ⟨by decide, h _ _ _ ⟨⟨ys, s, zs.length, rfl, rfl, fun n hn => hr n (hyz n hn), by omega, s0, by omega, by omega, by omega⟩⟩⟩
end K09
set_option Elab.async false
set_option linter.all false
set_option maxRecDepth 100000
set_option maxHeartbeats 4000000
set_option autoImplicit false
namespace K09
open PySem L2 L2.Pz
variable {X : XP} {Q : HV → Jr → Prop} {T J : Jr} {a r : List D} {env : En} {b : Nat}
abbrev pl (ds : List D) : Prop := ds.all isP = true
theorem pl_mem {ds : List D} : pl ds ↔ ∀ d ∈ ds, isP d = true := List.all_eq_true
theorem erase_perm {α : Type} : ∀ (l : List α) (i : Nat) (h : i < l.length), (l[i] :: l.eraseIdx i).Perm l
  | x :: l, 0, h => List.Perm.refl _
  | x :: l, i + 1, h => (List.Perm.swap x (l[i]'(by simpa using h)) (l.eraseIdx i)).trans ((erase_perm l i (by simpa using h)).cons x)
theorem some_spec {ds : List D} {h : HV} {n : Nat} (hd : deref (a :: r :: T) h = some (.lst ds)) (hx : nmQ (some (some h)) fun _ => True) (hp : pl ds) (hn : n ≤ 1000) (hl : ds.length ≤ 1000) (hj : Rb b a r) (hb : b + 1000 ≤ LIM)
    (q : ∀ told left a' r', (told ++ left).Perm ds → told.length = min n ds.length → Rb (b + 1000) a' r' → Q (.new told) (a' :: r' :: T)) : Ex X (F_l_some [.jar 1, h, .val (.int n)] (a :: r :: T)) Q := by
  have hL : (LIM : Nat) = 1000000000 := rfl
  unfold F_l_some B_l_some
  rw [Ex_mkF]
  have e0 : rgOk ((min n ds.length : Nat) : Int) = true := by unfold rgOk; simp; omega
  have dl : dList (.lst ds) = some (.new ds) := rfl
  simp [startE, Sx_for, hd, dl]
  refine ⟨pl_mem.mp hp, ?_⟩
  have em : dMin (.int n) (.int ds.length) = some (.val (.int ((min n ds.length : Nat) : Int))) := by
    have e : (if (ds.length : Int) < (n : Int) then (ds.length : Int) else n) = ((min n ds.length : Nat) : Int) := by split <;> omega
    show some (HV.val (.int (if (ds.length : Int) < (n : Int) then (ds.length : Int) else n))) = _
    rw [e]
  rw [em]
  simp only [OpQ_some, intQ_int]
  refine ⟨e0, ?_⟩
  refine Sx_loop (fun i env J => ∃ x5 left told a' r', env = [some (.jar 1), some h, some (.val (.int n)), some (.jar (T.length + 1 + 1)), some (.jar (T.length + 1 + 1 + 1)), x5] ∧ J = a' :: r' :: (T ++ [left, told]) ∧ (told ++ left).Perm ds ∧ told.length = i ∧ Rb (b + i) a' r') ⟨_, ds, [], a, r, rfl, rfl, List.Perm.refl _, rfl, hj⟩ ?_ ?_
  · rintro i d env J hdd ⟨x5, left, told, a', r', rfl, rfl, hpm, ht, hj'⟩
    obtain ⟨rfl, hi⟩ := rgD_get hdd
    have hi : i < min n ds.length := by simpa using hi
    have hlen := hpm.length_eq
    rw [List.length_append] at hlen
    have hpl : pl left := pl_mem.mpr fun d hd => pl_mem.mp hp d (hpm.mem_iff.mp (List.mem_append_right _ hd))
    simp [tgName]
    refine ⟨pl_mem.mp hpl, ?_⟩
    refine next_spec (T := T ++ [left, told]) hj' (by omega) (by omega) (by omega) fun v a2 r2 v0 v1 hj2 => ?_
    simp
    rw [popEnd_in (ds := left) (by simp) v0 v1 (show _ ≤ 16777216 by omega) hpl]
    simp
    refine ⟨show _ < 16777216 by omega, _, _, _, _, ⟨rfl, rfl, rfl, rfl⟩, ?_, by simp [ht], hj2⟩
    have hv : v.toNat < left.length := by omega
    have p := erase_perm left v.toNat hv
    rw [List.append_assoc]
    exact (List.Perm.append_left told p).trans hpm
  · rintro env J ⟨x5, left, told, a', r', rfl, rfl, hpm, ht, hj'⟩
    rw [rgD_len] at ht hj'
    have ht : told.length = min n ds.length := by simpa using ht
    have hpl : pl told := pl_mem.mpr fun d hd => pl_mem.mp hp d (hpm.mem_iff.mp (List.mem_append_left _ hd))
    simp
    rw [outH_jar (ds := told) (by omega) (by simp) hpl]
    simp
    exact q _ _ _ _ hpm ht (hj'.mono (by simp; omega))
end K09
set_option Elab.async false
set_option linter.all false
set_option maxRecDepth 100000
set_option maxHeartbeats 4000000
set_option autoImplicit false
namespace K09
open PySem L2 L2.Pz
variable {X : XP} {Q : HV → Jr → Prop} {T J : Jr} {a r : List D} {env : En} {b : Nat}
/-! ### steps -/
theorem e_held_held : dEq (.str "held") (.str "held") = some (.val (.bl true)) := by with_unfolding_all rfl
theorem e_held_idle : dEq (.str "held") (.str "idle") = some (.val (.bl false)) := by with_unfolding_all rfl
theorem e_held_loose : dEq (.str "held") (.str "loose") = some (.val (.bl false)) := by with_unfolding_all rfl
theorem e_held_same : dEq (.str "held") (.str "same") = some (.val (.bl false)) := by with_unfolding_all rfl
theorem e_idle_held : dEq (.str "idle") (.str "held") = some (.val (.bl false)) := by with_unfolding_all rfl
theorem e_idle_idle : dEq (.str "idle") (.str "idle") = some (.val (.bl true)) := by with_unfolding_all rfl
theorem e_idle_loose : dEq (.str "idle") (.str "loose") = some (.val (.bl false)) := by with_unfolding_all rfl
theorem e_idle_same : dEq (.str "idle") (.str "same") = some (.val (.bl false)) := by with_unfolding_all rfl
theorem e_loose_held : dEq (.str "loose") (.str "held") = some (.val (.bl false)) := by with_unfolding_all rfl
theorem e_loose_idle : dEq (.str "loose") (.str "idle") = some (.val (.bl false)) := by with_unfolding_all rfl
theorem e_loose_loose : dEq (.str "loose") (.str "loose") = some (.val (.bl true)) := by with_unfolding_all rfl
theorem e_loose_same : dEq (.str "loose") (.str "same") = some (.val (.bl false)) := by with_unfolding_all rfl
theorem e_same_held : dEq (.str "same") (.str "held") = some (.val (.bl false)) := by with_unfolding_all rfl
theorem e_same_idle : dEq (.str "same") (.str "idle") = some (.val (.bl false)) := by with_unfolding_all rfl
theorem e_same_loose : dEq (.str "same") (.str "loose") = some (.val (.bl false)) := by with_unfolding_all rfl
theorem e_same_same : dEq (.str "same") (.str "same") = some (.val (.bl true)) := by with_unfolding_all rfl
inductive Ch where
  | held (s : Int) | idle (s : Int) | loose (s t : Int) | same (s t : Int)
def Ch.d : Ch → D
  | .held s => .tup [.str "held", .int s]
  | .idle s => .tup [.str "idle", .int s]
  | .loose s t => .tup [.str "loose", .int s, .int t]
  | .same s t => .tup [.str "same", .int s, .int t]
abbrev rT (rs : List Int) : D := .tup (rs.map D.int)
abbrev wI (w : Bool) : Int := if w = true then 1 else 0
def stP : Ch → List Int → Nat → Bool → Option (List Int)
  | .held s, row, p, w => if row[p]? = some s then (if w = true then some (row.take p ++ s :: row.drop p) else if row[p + 1]? = some s then some (row.take p ++ row.drop (p + 1)) else none) else none
  | .idle s, row, p, true => if p ≤ row.length then some (row.take p ++ s :: row.drop p) else none
  | .idle s, row, p, false => if row[p]? = some s then some (row.take p ++ row.drop (p + 1)) else none
  | .loose s t, row, p, w => if row[p]? = some (if w = true then s else t) ∧ row[p + 1]? = some (if w = true then t else s) then some (row.take p ++ (if w = true then t else s) :: (if w = true then s else t) :: row.drop (p + 2)) else none
  | .same s t, row, p, w => if row[p]? = some (if w = true then s else t) then some (row.take p ++ (if w = true then t else s) :: row.drop (p + 1)) else none
def optD : Option (List Int) → D
  | none => .non
  | some l => rT l
theorem ixR {rs : List Int} {p : Nat} (h : p < rs.length) : dIx (rT rs) (.int p) = some (.val (.int rs[p])) := by
  show (atI (rs.map D.int) p).map HV.val = _
  rw [atI_in (by omega) (by rw [List.length_map]; omega), List.getElem_map]
  rfl
theorem slT {ds : List D} {l u : Option Int} : dSl (.tup ds) l u = some (.val (.tup (cutD ds l u))) := rfl
theorem cut_to {ds : List D} {p : Nat} : cutD ds none (some (p : Int)) = ds.take p := by
  rw [cutD_to (by omega), Int.toNat_natCast]
theorem cut_from {ds : List D} {p : Nat} : cutD ds (some (p : Int)) none = ds.drop p := by
  rw [cutD_from (by omega), Int.toNat_natCast]
theorem cut_two {ds : List D} {p : Nat} : cutD ds (some (p : Int)) (some ((p : Int) + 2)) = (ds.drop p).take 2 := by
  have e : ((p : Int) + 2) = ((p + 2 : Nat) : Int) := by omega
  unfold cutD
  rw [e, HT.sIx_nat, HT.sIx_nat]
  by_cases h : p ≤ ds.length
  · rw [Nat.min_eq_left h]
    by_cases h2 : p + 2 ≤ ds.length
    · rw [Nat.min_eq_left h2]
      congr 1
      omega
    · rw [Nat.min_eq_right (by omega), List.take_of_length_le (by rw [List.length_drop]; omega), List.take_of_length_le (by rw [List.length_drop]; omega)]
  · rw [Nat.min_eq_right (by omega), Nat.min_eq_right (by omega), List.drop_of_length_le (by omega), List.drop_of_length_le (by omega)]
    simp
theorem dAdd_tt {xs ys : List D} (h : xs.length + ys.length ≤ 16777216) : dAdd (.tup xs) (.tup ys) = some (.val (.tup (xs ++ ys))) := by
  show (if xs.length + ys.length ≤ big then some (HV.val (.tup (xs ++ ys))) else none) = _
  rw [if_pos h]
theorem dAdd_ll {xs ys : List D} (h : xs.length + ys.length ≤ 16777216) : dAdd (.lst xs) (.lst ys) = some (.new (xs ++ ys)) := by
  show (if xs.length + ys.length ≤ big then some (HV.new (xs ++ ys)) else none) = _
  rw [if_pos h]
theorem get_ge {rs : List Int} {p : Nat} (h : rs.length ≤ p) (v : Int) : ¬ rs[p]? = some v := by
  rw [List.getElem?_eq_none h]; exact fun z => by cases z
theorem one_big : 1 ≤ big := by decide
theorem two_big : 2 ≤ big := by decide
theorem cut_from1 {ds : List D} {p : Nat} : cutD ds (some ((p : Int) + 1)) none = ds.drop (p + 1) := cut_from (p := p + 1)
theorem cut_from2 {ds : List D} {p : Nat} : cutD ds (some ((p : Int) + 2)) none = ds.drop (p + 2) := cut_from (p := p + 2)
theorem ixR1 {rs : List Int} {p : Nat} (h : p + 1 < rs.length) : dIx (rT rs) (.int ((p : Int) + 1)) = some (.val (.int rs[p + 1])) := ixR (p := p + 1) h
theorem fin {l : List Int} {ds : List D} (h : Q (.val (optD (some l))) J) (e : ds = l.map D.int) : Q (.val (.tup ds)) J := by
  subst e
  exact h
theorem le_i {x y : Int} : dLe (.int x) (.int y) = some (.val (.bl (decide (x ≤ y)))) := rfl
theorem held_spec {row : List Int} {s : Int} {p : Nat} {w : Bool} (hl : row.length ≤ 1000) (q : Q (.val (optD (stP (.held s) row p w))) J) : Ex X (F_held_step [.val (rT row), .val (.int s), .val (.int p), .val (.int (wI w))] J) Q := by
  unfold F_held_step B_held_step
  rw [Ex_mkF]
  simp [startE, slT, cut_to, cut_from, cut_from1]
  by_cases h1 : row.length ≤ p
  · simp [h1]
    have e : stP (.held s) row p w = none := by simp [stP, get_ge h1]
    rw [e] at q
    exact q
  · have h1' : p < row.length := by omega
    simp [h1, ixR h1']
    by_cases h2 : row[p] = s
    · subst h2
      cases w
      · simp
        by_cases h3 : row.length ≤ p + 1
        · have e : stP (.held row[p]) row p false = none := by simp [stP, h1', get_ge h3]
          rw [e] at q
          rw [if_pos (by omega)]
          exact q
        · have h3' : p + 1 < row.length := by omega
          rw [if_neg (by omega), ixR1 h3']
          simp
          by_cases h4 : row[p + 1] = row[p]
          · have e : stP (.held row[p]) row p false = some (row.take p ++ row.drop (p + 1)) := by simp [stP, h1', h3', h4]
            rw [e] at q
            simp [h4]
            rw [dAdd_tt (by simp; omega)]
            simp
            exact fin q (by simp [List.map_take, List.map_drop])
          · have e : stP (.held row[p]) row p false = none := by simp [stP, h1', h3', h4]
            rw [e] at q
            simp [h4]
            exact q
      · have e : stP (.held row[p]) row p true = some (row.take p ++ row[p] :: row.drop p) := by simp only [stP, List.getElem?_eq_getElem h1', if_true]
        rw [e] at q
        simp
        rw [dAdd_tt (by simp; omega)]
        simp
        rw [dAdd_tt (by simp; omega)]
        simp
        exact ⟨one_big, fin q (by simp [List.map_take, List.map_drop])⟩
    · simp [h2]
      have e : stP (.held s) row p w = none := by simp [stP, h1', h2]
      rw [e] at q
      exact q
theorem idle_spec {row : List Int} {s : Int} {p : Nat} {w : Bool} (hl : row.length ≤ 1000) (q : Q (.val (optD (stP (.idle s) row p w))) J) : Ex X (F_idle_step [.val (rT row), .val (.int s), .val (.int p), .val (.int (wI w))] J) Q := by
  unfold F_idle_step B_idle_step
  rw [Ex_mkF]
  cases w
  · simp [startE, slT, cut_to, cut_from, cut_from1]
    by_cases h1 : row.length ≤ p
    · simp [h1]
      have e : stP (.idle s) row p false = none := by simp [stP, get_ge h1]
      rw [e] at q
      exact q
    · have h1' : p < row.length := by omega
      simp [h1, ixR h1']
      by_cases h2 : row[p] = s
      · have e : stP (.idle s) row p false = some (row.take p ++ row.drop (p + 1)) := by simp [stP, h1', h2]
        rw [e] at q
        simp [h2]
        rw [dAdd_tt (by simp; omega)]
        simp
        exact fin q (by simp [List.map_take, List.map_drop])
      · simp [h2]
        have e : stP (.idle s) row p false = none := by simp [stP, h1', h2]
        rw [e] at q
        exact q
  · simp [startE, slT, cut_to, cut_from, cut_from1]
    rw [le_i]
    simp
    by_cases h1 : p ≤ row.length
    · have e : stP (.idle s) row p true = some (row.take p ++ s :: row.drop p) := by simp only [stP, if_pos h1]
      rw [e] at q
      simp [h1]
      rw [dAdd_tt (by simp; omega)]
      simp
      rw [dAdd_tt (by simp; omega)]
      simp
      exact ⟨one_big, fin q (by simp [List.map_take, List.map_drop])⟩
    · have e : stP (.idle s) row p true = none := by simp only [stP, if_neg h1]
      rw [e] at q
      simp [h1]
      exact q
theorem same_spec {row : List Int} {s t : Int} {p : Nat} {w : Bool} (hl : row.length ≤ 1000) (q : Q (.val (optD (stP (.same s t) row p w))) J) : Ex X (F_same_step [.val (rT row), .val (.int s), .val (.int t), .val (.int p), .val (.int (wI w))] J) Q := by
  unfold F_same_step B_same_step
  rw [Ex_mkF]
  cases w
  · simp [startE, tgSeq, tgs, slT, cut_to, cut_from, cut_from1]
    by_cases h1 : row.length ≤ p
    · simp [h1]
      simp only [stP] at q
      rw [if_neg (get_ge h1 _)] at q
      exact ⟨two_big, q⟩
    · have h1' : p < row.length := by omega
      simp only [stP] at q
      rw [List.getElem?_eq_getElem h1'] at q
      simp [h1, ixR h1']
      by_cases h2 : row[p] = t
      · rw [if_pos (by rw [h2]; rfl)] at q
        simp [h2]
        rw [dAdd_tt (by simp; omega)]
        simp
        rw [dAdd_tt (by simp; omega)]
        simp
        exact ⟨two_big, one_big, fin q (by simp [List.map_take, List.map_drop])⟩
      · rw [if_neg (by simpa using h2)] at q
        simp [h2]
        exact ⟨two_big, q⟩
  · simp [startE, tgSeq, tgs, slT, cut_to, cut_from, cut_from1]
    by_cases h1 : row.length ≤ p
    · simp [h1]
      simp only [stP] at q
      rw [if_neg (get_ge h1 _)] at q
      exact ⟨two_big, q⟩
    · have h1' : p < row.length := by omega
      simp only [stP] at q
      rw [List.getElem?_eq_getElem h1'] at q
      simp [h1, ixR h1']
      by_cases h2 : row[p] = s
      · rw [if_pos (by rw [h2]; rfl)] at q
        simp [h2]
        rw [dAdd_tt (by simp; omega)]
        simp
        rw [dAdd_tt (by simp; omega)]
        simp
        exact ⟨two_big, one_big, fin q (by simp [List.map_take, List.map_drop])⟩
      · rw [if_neg (by simpa using h2)] at q
        simp [h2]
        exact ⟨two_big, q⟩
theorem ne2 {x y u v : Int} : dNe (.tup [.int x, .int y]) (.tup [.int u, .int v]) = some (.val (.bl (!(x == u && (y == v && true))))) := by with_unfolding_all rfl
theorem ne1 {x u v : Int} : dNe (.tup [.int x]) (.tup [.int u, .int v]) = some (.val (.bl true)) := by
  have : dNe (.tup [.int x]) (.tup [.int u, .int v]) = some (.val (.bl (!(x == u && false)))) := by with_unfolding_all rfl
  rw [this]; simp
theorem ne0 {u v : Int} : dNe (.tup []) (.tup [.int u, .int v]) = some (.val (.bl true)) := by with_unfolding_all rfl
theorem loose_spec {row : List Int} {s t : Int} {p : Nat} {w : Bool} (hl : row.length ≤ 1000) (q : Q (.val (optD (stP (.loose s t) row p w))) J) : Ex X (F_loose_step [.val (rT row), .val (.int s), .val (.int t), .val (.int p), .val (.int (wI w))] J) Q := by
  unfold F_loose_step B_loose_step
  rw [Ex_mkF]
  cases w
  · simp [startE, tgSeq, tgs, slT, cut_to, cut_from, cut_from2, cut_two]
    have q : Q (.val (optD (if row[p]? = some t ∧ row[p + 1]? = some s then some (row.take p ++ s :: t :: row.drop (p + 2)) else none))) J := q
    by_cases h1 : row[p]? = some t ∧ row[p + 1]? = some s
    · obtain ⟨h1a, h1b⟩ := h1
      have l1 : p + 1 < row.length := (List.getElem?_eq_some_iff.mp h1b).1
      have g1 : row[p]'(by omega) = t := (List.getElem?_eq_some_iff.mp h1a).2
      have g2 : row[p + 1]'(by omega) = s := (List.getElem?_eq_some_iff.mp h1b).2
      have e : List.take 2 (List.drop p (row.map D.int)) = [.int t, .int s] := by
        rw [List.drop_eq_getElem_cons (by simp; omega), List.drop_eq_getElem_cons (by simp; omega)]
        simp [g1, g2]
      rw [if_pos ⟨h1a, h1b⟩] at q
      rw [e, ne2]
      simp
      rw [dAdd_tt (by simp; omega)]
      simp
      rw [dAdd_tt (by simp; omega)]
      simp
      exact ⟨two_big, fin q (by simp [List.map_take, List.map_drop])⟩
    · rw [if_neg h1] at q
      have e : dNe (D.tup (List.take 2 (List.drop p (List.map D.int row)))) (D.tup [D.int t, D.int s]) = some (.val (.bl true)) := by
        by_cases l0 : row.length ≤ p
        · rw [List.drop_of_length_le (by simp; omega)]
          exact ne0
        · by_cases l1 : row.length ≤ p + 1
          · rw [List.drop_eq_getElem_cons (by simp; omega), List.drop_of_length_le (by simp; omega), List.getElem_map]
            exact ne1
          · rw [List.drop_eq_getElem_cons (by simp; omega), List.drop_eq_getElem_cons (by simp; omega), List.getElem_map, List.getElem_map]
            refine ne2.trans ?_
            rw [List.getElem?_eq_getElem (by omega), List.getElem?_eq_getElem (by omega)] at h1
            congr 3
            have : ¬(row[p]'(by omega) = t ∧ row[p + 1]'(by omega) = s) := fun z => h1 ⟨by rw [z.1], by rw [z.2]⟩
            simp at this ⊢
            exact (Classical.em _).elim (fun z => .inr (this z)) .inl
      rw [e]
      simp
      exact ⟨two_big, q⟩
  · simp [startE, tgSeq, tgs, slT, cut_to, cut_from, cut_from2, cut_two]
    have q : Q (.val (optD (if row[p]? = some s ∧ row[p + 1]? = some t then some (row.take p ++ t :: s :: row.drop (p + 2)) else none))) J := q
    by_cases h1 : row[p]? = some s ∧ row[p + 1]? = some t
    · obtain ⟨h1a, h1b⟩ := h1
      have l1 : p + 1 < row.length := (List.getElem?_eq_some_iff.mp h1b).1
      have g1 : row[p]'(by omega) = s := (List.getElem?_eq_some_iff.mp h1a).2
      have g2 : row[p + 1]'(by omega) = t := (List.getElem?_eq_some_iff.mp h1b).2
      have e : List.take 2 (List.drop p (row.map D.int)) = [.int s, .int t] := by
        rw [List.drop_eq_getElem_cons (by simp; omega), List.drop_eq_getElem_cons (by simp; omega)]
        simp [g1, g2]
      rw [if_pos ⟨h1a, h1b⟩] at q
      rw [e, ne2]
      simp
      rw [dAdd_tt (by simp; omega)]
      simp
      rw [dAdd_tt (by simp; omega)]
      simp
      exact ⟨two_big, fin q (by simp [List.map_take, List.map_drop])⟩
    · rw [if_neg h1] at q
      have e : dNe (D.tup (List.take 2 (List.drop p (List.map D.int row)))) (D.tup [D.int s, D.int t]) = some (.val (.bl true)) := by
        by_cases l0 : row.length ≤ p
        · rw [List.drop_of_length_le (by simp; omega)]
          exact ne0
        · by_cases l1 : row.length ≤ p + 1
          · rw [List.drop_eq_getElem_cons (by simp; omega), List.drop_of_length_le (by simp; omega), List.getElem_map]
            exact ne1
          · rw [List.drop_eq_getElem_cons (by simp; omega), List.drop_eq_getElem_cons (by simp; omega), List.getElem_map, List.getElem_map]
            refine ne2.trans ?_
            rw [List.getElem?_eq_getElem (by omega), List.getElem?_eq_getElem (by omega)] at h1
            congr 3
            have : ¬(row[p]'(by omega) = s ∧ row[p + 1]'(by omega) = t) := fun z => h1 ⟨by rw [z.1], by rw [z.2]⟩
            simp at this ⊢
            exact (Classical.em _).elim (fun z => .inr (this z)) .inl
      rw [e]
      simp
      exact ⟨two_big, q⟩
end K09
set_option Elab.async false
set_option linter.all false
set_option maxRecDepth 100000
set_option maxHeartbeats 4000000
set_option autoImplicit false
namespace K09
open PySem L2 L2.Pz
variable {X : XP} {Q : HV → Jr → Prop} {T J : Jr} {a r : List D} {env : En} {b : Nat}
theorem ixT {ds : List D} {n : Nat} (h : n < ds.length) : dIx (.tup ds) (.int n) = some (.val ds[n]) := by
  show (atI ds n).map HV.val = _
  rw [atI_in (by omega) (by omega)]
  rfl
theorem ix0 {x : D} {l : List D} : dIx (.tup (x :: l)) (.int 0) = some (.val x) := by
  show (atI _ (0 : Int)).map _ = _
  rw [atI_in (by decide) (by simp)]
  rfl
theorem ix1 {x y : D} {l : List D} : dIx (.tup (x :: y :: l)) (.int 1) = some (.val y) := by
  show (atI _ (1 : Int)).map _ = _
  rw [atI_in (by decide) (by simp; omega)]
  rfl
theorem ix2 {x y z : D} {l : List D} : dIx (.tup (x :: y :: z :: l)) (.int 2) = some (.val z) := by
  show (atI _ (2 : Int)).map _ = _
  rw [atI_in (by decide) (by simp; omega)]
  rfl
abbrev chs (s : D) (cs : List Ch) : Prop := dIx s (.int 1) = some (.val (.tup (cs.map Ch.d)))
abbrev stD (n p : Nat) (w : Bool) : D := .tup [.int n, .int p, .int (wI w)]
theorem stepped_spec {s : D} {cs : List Ch} {row : List Int} {n p : Nat} {w : Bool} (hs : chs s cs) (hn : n < cs.length) (hl : row.length ≤ 1000) (q : Q (.val (optD (stP (cs[n]'hn) row p w))) J) :
    Ex X (F_stepped [.val s, .val (rT row), .val (stD n p w)] J) Q := by
  have ic : dIx (.tup (cs.map Ch.d)) (.int n) = some (.val (cs[n]'hn).d) := by
    rw [ixT (by rw [List.length_map]; exact hn), List.getElem_map]
  unfold F_stepped B_stepped
  rw [Ex_mkF]
  simp [startE, tgSeq, tgs, hs, ic]
  generalize cs[n]'hn = c at q
  cases c with
  | held s =>
    simp [Ch.d, ix0, ix1, e_held_held]
    refine held_spec hl ?_
    simp
    cases h : stP (.held s) row p w <;> (rw [h] at q; exact q)
  | idle s =>
    simp [Ch.d, ix0, ix1, e_idle_held, e_idle_idle]
    refine idle_spec hl ?_
    simp
    exact q
  | loose s t =>
    simp [Ch.d, ix0, ix1, ix2, e_loose_held, e_loose_idle, e_loose_loose]
    refine loose_spec hl ?_
    simp
    exact q
  | same s t =>
    simp [Ch.d, ix0, ix1, ix2, e_same_held, e_same_idle, e_same_loose]
    refine same_spec hl ?_
    simp
    exact q
end K09
set_option Elab.async false
set_option linter.all false
set_option maxRecDepth 100000
set_option maxHeartbeats 4000000
set_option autoImplicit false
namespace K09
open PySem L2 L2.Pz
def D_l_done_16 : SF := (sRet (eUn dTuple (eBin dAdd (eBin dAdd (eName 7) (eLst [(eName 9), (eName 8)])) (eSl (eName 6) (some (eC (.int 1))) none))))
def D_l_done_15 : SF := sSeq (sIf (bOr (bCmp dEq (eUn dLen (eName 6)) (eC (.int 0))) (bCmp dNe (eBin dIx (eName 6) (eC (.int 0))) (eName 9))) (sRet (eNorm (eC .non))) sNext) D_l_done_16
def D_l_done_14 : SF := sSeq (sIf (bCmp dEq (eBin dIx (eName 3) (eC (.int 0))) (eC (.str "same"))) (sRet (eUn dTuple (eBin dAdd (eBin dAdd (eName 7) (eLst [(eName 9)])) (eName 6)))) sNext) D_l_done_15
def D_l_done_13 : SF := sSeq (sIf (bCmp dNe (eName 5) (eName 8)) (sRet (eNorm (eC .non))) sNext) D_l_done_14
def D_l_done_12 : SF := sSeq (sSet 9 (eBin dIx (eName 3) (eBin dAdd (eC (.int 1)) (eName 12)))) D_l_done_13
def D_l_done_11 : SF := sSeq (sSet 8 (eBin dIx (eName 3) (eBin dSub (eC (.int 2)) (eName 12)))) D_l_done_12
def D_l_done_10 : SF := sSeq (sIf (bCmp dEq (eBin dIx (eName 3) (eC (.int 0))) (eC (.str "held"))) (sRet (eIf (bAnd (bCmp dEq (eName 5) (eName 4)) (bAnd (bCmp dGt (eUn dLen (eName 6)) (eC (.int 0))) (bCmp dEq (eBin dIx (eName 6) (eC (.int 0))) (eName 4)))) (eUn dTuple (eBin dAdd (eName 7) (eName 6))) (eNorm (eC .non)))) sNext) D_l_done_11
def D_l_done_9 : SF := sSeq (sIf (bAnd (bCmp dEq (eBin dIx (eName 3) (eC (.int 0))) (eC (.str "held"))) (bCmp dEq (eName 12) (eC (.int 1)))) (sRet (eIf (bCmp dEq (eName 5) (eName 4)) (eUn dTuple (eBin dAdd (eBin dAdd (eName 7) (eLst [(eName 4), (eName 4)])) (eName 6))) (eNorm (eC .non)))) sNext) D_l_done_10
def D_l_done_8 : SF := sSeq (sIf (bCmp dEq (eBin dIx (eName 3) (eC (.int 0))) (eC (.str "idle"))) (sRet (eIf (bCmp dEq (eName 5) (eName 4)) (eUn dTuple (eBin dAdd (eName 7) (eName 6))) (eNorm (eC .non)))) sNext) D_l_done_9
def D_l_done_7 : SF := sSeq (sSet 7 (eUn dList (eSl (eName 1) none (some (eName 11))))) D_l_done_8
def D_l_done_6 : SF := sSeq (sSet 6 (eUn dList (eSl (eName 1) (some (eBin dAdd (eName 11) (eC (.int 1)))) none))) D_l_done_7
def D_l_done_5 : SF := sSeq (sSet 5 (eBin dIx (eName 1) (eName 11))) D_l_done_6
def D_l_done_4 : SF := sSeq (sIf (bCmp dGe (eName 11) (eUn dLen (eName 1))) (sRet (eNorm (eC .non))) sNext) D_l_done_5
def D_l_done_3 : SF := sSeq (sIf (bAnd (bCmp dEq (eBin dIx (eName 3) (eC (.int 0))) (eC (.str "idle"))) (bCmp dEq (eName 12) (eC (.int 1)))) (sSeq (sIf (bCmp dGt (eName 11) (eUn dLen (eName 1))) (sRet (eNorm (eC .non))) sNext)
  (sRet (eBin dAdd (eBin dAdd (eSl (eName 1) none (some (eName 11))) (eTup [(eName 4)])) (eSl (eName 1) (some (eName 11)) none)))) sNext) D_l_done_4
def D_l_done_2 : SF := sSeq (sSet 4 (eBin dIx (eName 3) (eC (.int 1)))) D_l_done_3
def D_l_done_1 : SF := sSeq (sSet 3 (eBin dIx (eBin dIx (eName 0) (eC (.int 1))) (eName 10))) D_l_done_2
def D_l_done_0 : SF := sSeq (sAsg (tgSeq [10, 11, 12]) (eName 2)) D_l_done_1
theorem B_l_done_eq : B_l_done = D_l_done_0 := rfl
def D_l_steps_5 : SF := (sRet (eNorm (eC (.bl true))))
def D_l_steps_4 : SF := sSeq (sFor (iRange1 (eUn dLen (eName 4))) (tgName 7) (sIf (bNot (bTruth (eCall F_l_row_is [(eBin dIx (eName 6) (eName 7)), (eBin dIx (eName 4) (eName 7))]))) (sRet (eNorm (eC (.bl false)))) sNext)) D_l_steps_5
def D_l_steps_3 : SF := sSeq (sIf (bOr (bNot (bTruth (eUn (dIsa "tuple") (eName 6)))) (bCmp dNe (eUn dLen (eName 6)) (eUn dLen (eName 4)))) (sRet (eNorm (eC (.bl false)))) sNext) D_l_steps_4
def D_l_steps_2 : SF := sSeq (sSet 6 (eIf (bTruth (eName 2)) (eCallK F_steps_from [0, 1] [(eName 0), (eName 1)]) (eCall F_steps_from [(eName 0), (eName 1)]))) D_l_steps_3
def D_l_steps_1 : SF := sSeq (sFor (iRange1 (eUn dLen (eBin dIx (eName 0) (eC (.int 1))))) (tgName 5) (sFor (iAny (eBin dAdd (eRg mkL (iRange1 (eBin dAdd (eUn dLen (eName 1)) (eC (.int 3))))) (eName 3))) (tgName 8) (sFor (iRange1 (eC (.int 2))) (tgName 9) (sSeq (sSet 10 (eTup [(eName 5), (eName 8), (eName 9)]))
  (sSeq (sSet 11 (eCall F_l_done [(eName 0), (eName 1), (eName 10)]))
  (sSeq (sSet 6 (eIf (bTruth (eName 2)) (eCallK F_stepped [0, 1, 2] [(eName 0), (eName 1), (eName 10)]) (eCall F_stepped [(eName 0), (eName 1), (eName 10)])))
  (sSeq (sIf (bNot (bTruth (eCall F_l_row_is [(eName 6), (eName 11)]))) (sRet (eNorm (eC (.bl false)))) sNext)
  (sIf (fun env J => toB (eUn dNotN (eName 11) env J)) (sApp 4 (eName 10)) sNext)))))))) D_l_steps_2
def D_l_steps_0 : SF := sSeq (sNew 4 (eLst [])) D_l_steps_1
theorem B_l_steps_eq : B_l_steps = D_l_steps_0 := rfl
def D_l_few_6 : SF := (sRet (eNorm (eC (.bl true))))
def D_l_few_5 : SF := sSeq (sFor (iRange1 (eUn dLen (eName 5))) (tgName 8) (sIf (bNot (bTruth (eCall F_l_row_is [(eBin dIx (eName 7) (eName 8)), (eBin dIx (eName 5) (eName 8))]))) (sRet (eNorm (eC (.bl false)))) sNext)) D_l_few_6
def D_l_few_4 : SF := sSeq (sIf (bOr (bNot (bTruth (eUn (dIsa "tuple") (eName 7)))) (bCmp dNe (eUn dLen (eName 7)) (eUn dLen (eName 5)))) (sRet (eNorm (eC (.bl false)))) sNext) D_l_few_5
def D_l_few_3 : SF := sSeq (sSet 7 (eIf (bTruth (eName 3)) (eCallK F_steps_from [0, 1] [(eName 1), (eName 2)]) (eCall F_steps_from [(eName 1), (eName 2)]))) D_l_few_4
def D_l_few_2 : SF := sSeq (sFor (iRange1 (eUn dLen (eBin dIx (eName 1) (eC (.int 1))))) (tgName 6) (sFor (iRange1 (eBin dAdd (eUn dLen (eName 2)) (eC (.int 1)))) (tgName 10) (sSet 5 (eBin dAdd (eName 5) (eLc (iRange1 (eC (.int 2))) (tgName 11) (fun env J => toB (eUn dNotN (eCall F_l_done [(eName 1), (eName 2), (eTup [(eName 6), (eName 10), (eName 11)])]) env J)) (eTup [(eName 6), (eName 10), (eName 11)]) [11]))))) D_l_few_3
def D_l_few_1 : SF := sSeq (sSet 5 (eLst [])) D_l_few_2
def D_l_few_0 : SF := sSeq (sFor (iRange1 (eC (.int 12))) (tgName 4) (sSeq (sSet 9 (eTup [(eCall F_l_next [(eName 0), (eUn dLen (eBin dIx (eName 1) (eC (.int 1))))]), (eCall F_l_next [(eName 0), (eBin dAdd (eUn dLen (eName 2)) (eC (.int 2)))]), (eCall F_l_next [(eName 0), (eC (.int 2))])]))
  (sSeq (sSet 7 (eIf (bTruth (eName 3)) (eCallK F_stepped [0, 1, 2] [(eName 1), (eName 2), (eName 9)]) (eCall F_stepped [(eName 1), (eName 2), (eName 9)])))
  (sIf (bNot (bTruth (eCall F_l_row_is [(eName 7), (eCall F_l_done [(eName 1), (eName 2), (eName 9)])]))) (sRet (eNorm (eC (.bl false)))) sNext)))) D_l_few_1
theorem B_l_few_eq : B_l_few = D_l_few_0 := rfl
def D_l_things_7 : SF := (sRet (eNorm (eC (.bl true))))
def D_l_things_6 : SF := sSeq (sFor (iAny (eLst [(eC (.int 0)), (eC (.int 1)), (eC (.int 200)), (eName 4)])) (tgName 9) (sFor (iRange1 (eC (.int 2))) (tgName 15) (sSeq (sIf (bAnd (bCmp dGt (eName 3) (eC (.int 0))) (bNot (bTruth (eCall F_l_is [(eName 1), (eTup [(eBin dSub (eName 3) (eC (.int 1))), (eName 9), (eName 15)]), (eName 2), (eC (.bl true))])))) (sRet (eNorm (eC (.bl false)))) sNext)
  (sIf (bNot (bTruth (eCall F_l_is [(eName 1), (eTup [(eName 3), (eName 9), (eName 15)]), (eName 2), (eC (.bl false))]))) (sRet (eNorm (eC (.bl false)))) sNext)))) D_l_things_7
def D_l_things_5 : SF := sSeq (sFor (iRange1 (eC (.int 2))) (tgName 8) (sSeq (sSet 10 (eLst [(eCall F_l_next [(eName 0), (eBin dMax (eC (.int 1)) (eName 3))]), (eBin dIx (eLst [(eC (.int 0)), (eC (.int 1)), (eCall F_l_next [(eName 0), (eC (.int 14))]), (eC (.int 99)), (eName 4)]) (eCall F_l_next [(eName 0), (eC (.int 5))])), (eCall F_l_next [(eName 0), (eC (.int 2))])]))
  (sSeq (sIf (bNot (bTruth (eCall F_l_is [(eName 1), (eUn dTuple (eName 10)), (eName 2), (eBin dGt (eName 3) (eC (.int 0)))]))) (sRet (eNorm (eC (.bl false)))) sNext)
  (sSeq (sFor (iRange1 (eC (.int 3))) (tgName 11) (sSeq (sFor (iAny (eBin dIx (eLst [(eName 5), (eName 6), (eName 7)]) (eName 11))) (tgName 16) (sSeq (sNew 17 (eUn dList (eName 10)))
  (sSeq (sSetI 17 (eName 11) (eName 16))
  (sIf (bNot (bTruth (eCall F_l_is [(eName 1), (eUn dTuple (eName 17)), (eName 2), (eC (.bl false))]))) (sRet (eNorm (eC (.bl false)))) sNext))))
  (sSeq (sNew 17 (eLst [(eBin dIx (eName 5) (eCall F_l_next [(eName 0), (eC (.int 5))])), (eBin dIx (eName 6) (eCall F_l_next [(eName 0), (eC (.int 3))])), (eBin dIx (eName 7) (eCall F_l_next [(eName 0), (eC (.int 4))]))]))
  (sSeq (sSetI 17 (eName 11) (eBin dIx (eName 10) (eName 11)))
  (sIf (bNot (bTruth (eCall F_l_is [(eName 1), (eUn dTuple (eName 17)), (eName 2), (eC (.bl false))]))) (sRet (eNorm (eC (.bl false)))) sNext)))))
  (sSeq (sSet 12 (eUn dList (eName 10)))
  (sSeq (sSet 13 (eLst [(eName 12), (eTup [(eBin dIx (eName 10) (eC (.int 0))), (eBin dIx (eName 10) (eC (.int 1)))]), (eTup [(eBin dIx (eName 10) (eC (.int 0))), (eBin dIx (eName 10) (eC (.int 1))), (eBin dIx (eName 10) (eC (.int 2))), (eC (.int 0))]), (eTup []), (eC .non), (eC (.bl true)), (eC (.int 0)), (eC (.int 1)), (eC (.str "")), (eC (.str "0 0 1")), (eTup [(eUn dTuple (eName 10))])]))
  (sSeq (sSet 13 (eBin dAdd (eName 13) (eLst [(eLst [(eUn dTuple (eName 10))]), (eTup [(eUn dTuple (eName 10)), (eUn dTuple (eName 10)), (eUn dTuple (eName 10))]), (eTup [(eName 10)]), (eC (.str "001")), (eName 4), (eTup [(eBin dIx (eName 10) (eC (.int 0)))])])))
  (sSeq (sFor (iAny (eName 13)) (tgName 14) (sIf (bNot (bTruth (eCall F_l_is [(eName 1), (eName 14), (eName 2), (eC (.bl false))]))) (sRet (eNorm (eC (.bl false)))) sNext))
  (sIf (bOr (bCmp dNe (eName 12) (eName 10)) (bOr (bCmp dNe (eUn dLen (eName 12)) (eC (.int 3))) (bNot (bTruth (eCall F_l_is [(eName 1), (eTup [(eBin dIx (eName 10) (eC (.int 0))), (eBin dIx (eName 10) (eC (.int 1))), (eBin dSub (eC (.int 1)) (eBin dIx (eName 10) (eC (.int 2))))]), (eName 2), (eBin dGt (eName 3) (eC (.int 0)))]))))) (sRet (eNorm (eC (.bl false)))) sNext))))))))) D_l_things_6
def D_l_things_4 : SF := sSeq (sSet 7 (eLst [(eC (.int 2)), (eUn dNeg (eC (.int 1))), (eBin dAdd (eC (.int 3)) (eCall F_l_next [(eName 0), (eC (.int 9))])), (eName 4), (eC (.bl true)), (eC (.bl false)), (eC .non), (eC (.str "1")), (eC (.str "0")), (eTup [(eC (.int 1))]), (eTup [(eC (.int 0))])])) D_l_things_5
def D_l_things_3 : SF := sSeq (sSet 6 (eLst [(eUn dNeg (eC (.int 1))), (eBin dSub (eUn dNeg (eC (.int 1))) (eCall F_l_next [(eName 0), (eC (.int 99))])), (eUn dNeg (eName 4)), (eC (.bl true)), (eC (.bl false)), (eC .non), (eC (.str "0")), (eC (.str "1")), (eTup [(eC (.int 1))]), (eTup [])])) D_l_things_4
def D_l_things_2 : SF := sSeq (sSet 5 (eLst [(eUn dNeg (eC (.int 1))), (eName 3), (eBin dAdd (eBin dAdd (eName 3) (eC (.int 1))) (eCall F_l_next [(eName 0), (eC (.int 9))])), (eName 4), (eUn dNeg (eName 4)), (eC (.bl true)), (eC (.bl false)), (eC .non), (eC (.str "0")), (eC (.str "")), (eTup [(eC (.int 0))]), (eTup []), (eBin dSub (eUn dNeg (eName 3)) (eC (.int 1)))])) D_l_things_3
def D_l_things_1 : SF := sSeq (sSet 4 (eBin dSub (eBin dMul (eBin dPow (eC (.int 10)) (eC (.int 45))) (eBin dPow (eC (.int 10)) (eC (.int 45)))) (eC (.int 1)))) D_l_things_2
def D_l_things_0 : SF := sSeq (sSet 3 (eUn dLen (eBin dIx (eName 1) (eC (.int 1))))) D_l_things_1
theorem B_l_things_eq : B_l_things = D_l_things_0 := rfl
def D_l_by_hand_18 : SF := (sRet (eAnd (eUn (dIsa "tuple") (eName 8)) (eAnd (eBin dEq (eUn dLen (eName 8)) (eC (.int 1))) (eCall F_l_row_is [(eBin dIx (eName 8) (eC (.int 0))), (eTup [(eC (.int 1)), (eC (.int 0)), (eC (.int 1))])]))))
def D_l_by_hand_17 : SF := sSeq (sSet 8 (eCall F_steps_from [(eName 5), (eTup [])])) D_l_by_hand_18
def D_l_by_hand_16 : SF := sSeq (sIf (bOr (bNot (bTruth (eCall F_l_row_is [(eCall F_stepped [(eName 5), (eTup [(eName 3), (eName 2)]), (eTup [(eC (.int 2)), (eC (.int 0)), (eC (.int 0))])]), (eTup [(eName 2), (eName 3)])]))) (fun env J => toB (eUn dNotN (eCall F_stepped [(eName 5), (eTup [(eName 3), (eName 2)]), (eTup [(eC (.int 2)), (eC (.int 0)), (eC (.int 1))])]) env J))) (sRet (eNorm (eC (.bl false)))) sNext) D_l_by_hand_17
def D_l_by_hand_15 : SF := sSeq (sFor (iAny (eLst [(eTup [(eC (.int 0)), (eC (.int 1)), (eC (.int 0))]), (eTup [(eC (.int 0)), (eC (.int 2)), (eC (.int 1))]), (eTup [(eC (.int 0)), (eC (.int 2)), (eC (.int 0))]), (eTup [(eC (.int 1)), (eC (.int 3)), (eC (.int 0))]), (eTup [(eC (.int 1)), (eC (.int 6)), (eC (.int 1))]), (eTup [(eC (.int 1)), (eC (.int 5)), (eC (.int 0))]), (eTup [(eC (.int 2)), (eC (.int 2)), (eC (.int 0))]), (eTup [(eC (.int 2)), (eC (.int 3)), (eC (.int 1))]), (eTup [(eC (.int 3)), (eC (.int 2)), (eC (.int 0))]), (eTup [(eC (.int 3)), (eC (.int 3)), (eC (.int 1))]), (eTup [(eC (.int 3)), (eC (.int 5)), (eC (.int 1))])])) (tgName 11) (sSeq (sSet 8 (eIf (bTruth (eName 1)) (eCallK F_stepped [0, 1, 2] [(eName 5), (eName 6), (eName 11)]) (eCall F_stepped [(eName 5), (eName 6), (eName 11)])))
  (sIf (bOr (fun env J => toB (eUn dNotN (eName 8) env J)) (bNot (bTruth (eCall F_l_is [(eName 5), (eName 11), (eName 1), (eC (.bl true))])))) (sRet (eNorm (eC (.bl false)))) sNext))) D_l_by_hand_16
def D_l_by_hand_14 : SF := sSeq (sFor (iRange1 (eUn dLen (eName 7))) (tgName 9) (sIf (bOr (bNot (bTruth (eCall F_l_row_is [(eCall F_stepped [(eName 5), (eName 6), (eBin dIx (eName 7) (eName 9))]), (eBin dIx (eName 10) (eName 9))]))) (bNot (bTruth (eCall F_l_is [(eName 5), (eBin dIx (eName 7) (eName 9)), (eName 1), (eC (.bl true))])))) (sRet (eNorm (eC (.bl false)))) sNext)) D_l_by_hand_15
def D_l_by_hand_13 : SF := sSeq (sSet 10 (eBin dAdd (eName 10) (eLst [(eTup [(eName 12), (eName 12), (eName 2), (eName 3), (eName 15), (eName 15)]), (eTup [(eName 12), (eName 12), (eName 3), (eName 2), (eName 15)]), (eTup [(eName 12), (eName 12), (eName 3), (eName 3), (eName 15)]), (eTup [(eName 12), (eName 12), (eName 2), (eName 2), (eName 15)])]))) D_l_by_hand_14
def D_l_by_hand_12 : SF := sSeq (sSet 10 (eBin dAdd (eName 10) (eLst [(eTup [(eName 12), (eName 12), (eName 15), (eName 2), (eName 3), (eName 15)]), (eTup [(eName 12), (eName 12), (eName 2), (eName 15), (eName 3), (eName 15)]), (eTup [(eName 12), (eName 12), (eName 2), (eName 3)]), (eTup [(eName 12), (eName 12), (eName 2), (eName 3), (eName 15), (eName 15)])]))) D_l_by_hand_13
def D_l_by_hand_11 : SF := sSeq (sSet 10 (eLst [(eTup [(eName 12), (eName 2), (eName 3), (eName 15)]), (eTup [(eName 12), (eName 12), (eName 12), (eName 2), (eName 3), (eName 15)]), (eTup [(eName 12), (eName 12), (eName 12), (eName 2), (eName 3), (eName 15)]), (eTup [(eName 15), (eName 12), (eName 12), (eName 2), (eName 3), (eName 15)]), (eTup [(eName 12), (eName 15), (eName 12), (eName 2), (eName 3), (eName 15)])])) D_l_by_hand_12
def D_l_by_hand_10 : SF := sSeq (sFor (iRange1 (eUn dLen (eName 7))) (tgName 9) (sIf (bNot (bTruth (eCall F_l_row_is [(eBin dIx (eName 8) (eName 9)), (eBin dIx (eName 7) (eName 9))]))) (sRet (eNorm (eC (.bl false)))) sNext)) D_l_by_hand_11
def D_l_by_hand_9 : SF := sSeq (sIf (bOr (bNot (bTruth (eUn (dIsa "tuple") (eName 8)))) (bCmp dNe (eUn dLen (eName 8)) (eUn dLen (eName 7)))) (sRet (eNorm (eC (.bl false)))) sNext) D_l_by_hand_10
def D_l_by_hand_8 : SF := sSeq (sSet 8 (eCall F_steps_from [(eName 5), (eName 6)])) D_l_by_hand_9
def D_l_by_hand_7 : SF := sSeq (sSet 7 (eBin dAdd (eName 7) (eLst [(eTup [(eC (.int 2)), (eC (.int 2)), (eC (.int 1))]), (eTup [(eC (.int 3)), (eC (.int 2)), (eC (.int 1))]), (eTup [(eC (.int 3)), (eC (.int 3)), (eC (.int 0))])]))) D_l_by_hand_8
def D_l_by_hand_6 : SF := sSeq (sSet 7 (eLst [(eTup [(eC (.int 0)), (eC (.int 0)), (eC (.int 0))]), (eTup [(eC (.int 0)), (eC (.int 0)), (eC (.int 1))]), (eTup [(eC (.int 0)), (eC (.int 1)), (eC (.int 1))]), (eTup [(eC (.int 1)), (eC (.int 0)), (eC (.int 1))]), (eTup [(eC (.int 1)), (eC (.int 1)), (eC (.int 1))]), (eTup [(eC (.int 1)), (eC (.int 2)), (eC (.int 1))]), (eTup [(eC (.int 1)), (eC (.int 3)), (eC (.int 1))]), (eTup [(eC (.int 1)), (eC (.int 4)), (eC (.int 0))]), (eTup [(eC (.int 1)), (eC (.int 4)), (eC (.int 1))]), (eTup [(eC (.int 1)), (eC (.int 5)), (eC (.int 1))])])) D_l_by_hand_7
def D_l_by_hand_5 : SF := sSeq (sSet 6 (eTup [(eName 12), (eName 12), (eName 2), (eName 3), (eName 15)])) D_l_by_hand_6
def D_l_by_hand_4 : SF := sSeq (sSet 5 (eTup [(eTup [(eC (.str "a")), (eC (.str "b")), (eC (.str "c")), (eC (.str "d"))]), (eName 4)])) D_l_by_hand_5
def D_l_by_hand_3 : SF := sSeq (sSet 4 (eTup [(eTup [(eC (.str "held")), (eName 12)]), (eTup [(eC (.str "idle")), (eName 15)]), (eTup [(eC (.str "loose")), (eName 2), (eName 3)]), (eTup [(eC (.str "same")), (eName 2), (eName 3)])])) D_l_by_hand_4
def D_l_by_hand_2 : SF := sSeq (sSet 3 (eBin dMax (eName 13) (eName 14))) D_l_by_hand_3
def D_l_by_hand_1 : SF := sSeq (sSet 2 (eBin dMin (eName 13) (eName 14))) D_l_by_hand_2
def D_l_by_hand_0 : SF := sSeq (sAsg (tgSeq [12, 13, 14, 15]) (eCall F_l_some [(eName 0), (eLst [(eC (.int 0)), (eC (.int 1)), (eC (.int 2)), (eC (.int 3))]), (eC (.int 4))])) D_l_by_hand_1
theorem B_l_by_hand_eq : B_l_by_hand = D_l_by_hand_0 := rfl
def D_law_9 : SF := (sRet (eAnd (eCall F_l_steps [(eTup [(eBin dIx (eBin dIx (eName 5) (eC (.int 1))) (eC (.int 0))), (eSl (eBin dIx (eBin dIx (eName 5) (eC (.int 1))) (eC (.int 1))) none (some (eC (.int 3))))]), (eTup []), (eName 3), (eLst [(eC (.int 7))])]) (eCall F_l_by_hand [(eName 1), (eNot (eNorm (eName 3)))])))
def D_law_8 : SF := sSeq (sIf (bOr (bNot (bTruth (eCall F_l_things [(eName 1), (eName 7), (eName 3)]))) (bNot (bTruth (eCall F_l_steps [(eName 7), (eCall F_l_row [(eName 1), (eC (.int 1)), (eC (.int 3))]), (eName 3), (eLst [])])))) (sRet (eNorm (eC (.bl false)))) sNext) D_law_9
def D_law_7 : SF := sSeq (sSet 7 (eTup [(eBin dIx (eBin dIx (eName 5) (eC (.int 0))) (eC (.int 0))), (eTup [])])) D_law_8
def D_law_6 : SF := sSeq (sFor (iRange1 (eC (.int 3))) (tgName 6) (sSeq (sSet 8 (eBin dAdd (eC (.int 1)) (eCall F_l_next [(eName 1), (eC (.int 5))])))
  (sSeq (sSet 9 (eBin dIx (eLst [(eC (.int 1)), (eC (.int 3)), (eC (.int 6)), (eC (.int 12))]) (eCall F_l_next [(eName 1), (eC (.int 4))])))
  (sSeq (sIf (bAnd (bTruth (eName 2)) (bCmp dEq (eName 6) (eC (.int 0)))) (sSeq (sSet 8 (eC (.int 5)))
  (sSet 9 (eC (.int 12)))) sNext)
  (sSeq (sSet 10 (eCall F_l_setting [(eName 1), (eName 8), (eName 9), (eIf (bCmp dLt (eName 6) (eC (.int 2))) (eNorm (eName 4)) (eCall F_l_some [(eName 1), (eName 4), (eC (.int 2))]))]))
  (sSeq (sApp 5 (eName 10))
  (sSeq (sIf (bNot (bTruth (eCall F_l_things [(eName 1), (eName 10), (eName 3)]))) (sRet (eNorm (eC (.bl false)))) sNext)
  (sSeq (sSet 11 (eCall F_l_row [(eName 1), (eName 8), (eIf (bAnd (bTruth (eName 2)) (bCmp dEq (eName 6) (eC (.int 0)))) (eNorm (eC (.int 12))) (eCall F_l_next [(eName 1), (eC (.int 13))]))]))
  (sSeq (sIf (bOr (bAnd (bTruth (eName 2)) (bCmp dEq (eName 6) (eC (.int 0)))) (bCmp dLt (eBin dMul (eUn dLen (eBin dIx (eName 10) (eC (.int 1)))) (eUn dLen (eName 11))) (eC (.int 24)))) (sIf (bNot (bTruth (eCall F_l_steps [(eName 10), (eName 11), (eName 3), (eLst [(eC (.int 200)), (eBin dPow (eC (.int 10)) (eC (.int 4)))])]))) (sRet (eNorm (eC (.bl false)))) sNext) (sIf (bNot (bTruth (eCall F_l_few [(eName 1), (eName 10), (eName 11), (eName 3)]))) (sRet (eNorm (eC (.bl false)))) sNext))
  (sSeq (sSet 11 (eCall F_l_row [(eName 1), (eName 8), (eBin dAdd (eC (.int 1)) (eCall F_l_next [(eName 1), (eC (.int 3))]))]))
  (sIf (bNot (bTruth (eCall F_l_steps [(eTup [(eBin dIx (eName 10) (eC (.int 0))), (eSl (eBin dIx (eName 10) (eC (.int 1))) none (some (eC (.int 4))))]), (eName 11), (eNot (eNorm (eName 3))), (eLst [(eC (.int 13))])]))) (sRet (eNorm (eC (.bl false)))) sNext))))))))))) D_law_7
def D_law_5 : SF := sSeq (sNew 5 (eLst [])) D_law_6
def D_law_4 : SF := sSeq (sSet 4 (eLst [(eC (.str "held")), (eC (.str "idle")), (eC (.str "loose")), (eC (.str "same"))])) D_law_5
def D_law_3 : SF := sSeq (sIf (bNot (bTruth (eCall F_l_by_hand [(eName 1), (eName 3)]))) (sRet (eNorm (eC (.bl false)))) sNext) D_law_4
def D_law_2 : SF := sSeq (sSet 3 (eBin dEq (eCall F_l_next [(eName 1), (eC (.int 2))]) (eC (.int 1)))) D_law_3
def D_law_1 : SF := sSeq (sSet 2 (eBin dEq (eCall F_l_next [(eName 1), (eC (.int 7))]) (eC (.int 5)))) D_law_2
def D_law_0 : SF := sSeq (sNewB 1 (eCall F_l_reel [(eName 0)])) D_law_1
theorem B_law_eq : B_law = D_law_0 := rfl
def D_l_setting_3 : SF := (sRet (eTup [(eUn dTuple (eName 6)), (eUn dTuple (eCall F_l_some [(eName 0), (eName 4), (eName 2)]))]))
def D_l_setting_2 : SF := sSeq (sSet 6 (eCall F_l_some [(eName 0), (eLst [(eC (.str "a")), (eC (.str "up")), (eC (.str "down")), (eC (.str "c3")), (eC (.str "v")), (eC (.str "left")), (eC (.str "w"))]), (eName 1)])) D_l_setting_3
def D_l_setting_1 : SF := sSeq (sFor (iAny (eName 3)) (tgName 5) (sFor (iRange1 (eName 1)) (tgName 7) (sIf (bCmp dIn (eName 5) (eLst [(eC (.str "held")), (eC (.str "idle"))])) (sApp 4 (eTup [(eName 5), (eName 7)])) (sNew 4 (eBin dAdd (eName 4) (eLc (iRange2 (eBin dAdd (eName 7) (eC (.int 1))) (eName 1)) (tgName 8) bYes (eTup [(eName 5), (eName 7), (eName 8)]) [8])))))) D_l_setting_2
def D_l_setting_0 : SF := sSeq (sNew 4 (eLst [])) D_l_setting_1
theorem B_l_setting_eq : B_l_setting = D_l_setting_0 := rfl
def D_l_row_4 : SF := (sRet (eUn dTuple (eName 5)))
def D_l_row_3 : SF := sSeq (sFor (iRange1 (eName 2)) (tgName 6) (sApp 5 (eBin dMod (eUn dToInt (eBin dAdd (eCall F_l_next [(eName 0), (eName 3)]) (eName 4))) (eName 1)))) D_l_row_4
def D_l_row_2 : SF := sSeq (sNew 5 (eLst [])) D_l_row_3
def D_l_row_1 : SF := sSeq (sSet 4 (eCall F_l_next [(eName 0), (eName 1)])) D_l_row_2
def D_l_row_0 : SF := sSeq (sSet 3 (eBin dAdd (eC (.int 1)) (eCall F_l_next [(eName 0), (eName 1)]))) D_l_row_1
theorem B_l_row_eq : B_l_row = D_l_row_0 := rfl
def D_l_row_is_3 : SF := (sRet (eNorm (eC (.bl true))))
def D_l_row_is_2 : SF := sSeq (sFor (iRange1 (eUn dLen (eName 1))) (tgName 2) (sIf (bOr (bNot (bTruth (eUn (dIsa "int") (eBin dIx (eName 0) (eName 2))))) (bOr (bTruth (eUn (dIsa "bool") (eBin dIx (eName 0) (eName 2)))) (bCmp dNe (eBin dIx (eName 0) (eName 2)) (eBin dIx (eName 1) (eName 2))))) (sRet (eNorm (eC (.bl false)))) sNext)) D_l_row_is_3
def D_l_row_is_1 : SF := sSeq (sIf (bOr (bNot (bTruth (eUn (dIsa "tuple") (eName 0)))) (bCmp dNe (eUn dLen (eName 0)) (eUn dLen (eName 1)))) (sRet (eNorm (eC (.bl false)))) sNext) D_l_row_is_2
def D_l_row_is_0 : SF := sSeq (sIf (fun env J => toB (eUn dIsN (eName 1) env J)) (sRet (eUn dIsN (eName 0))) sNext) D_l_row_is_1
theorem B_l_row_is_eq : B_l_row_is = D_l_row_is_0 := rfl
end K09
set_option Elab.async false
set_option linter.all false
set_option maxRecDepth 100000
set_option maxHeartbeats 4000000
set_option autoImplicit false
namespace K09
open PySem L2 L2.Pz
variable {X : XP} {Q : HV → Jr → Prop} {T J : Jr} {a r : List D} {env : En} {b : Nat}
theorem gt_i {x y : Int} : dGt (.int x) (.int y) = some (.val (.bl (decide (y < x)))) := rfl
theorem dl_t {ds : List D} : dList (.tup ds) = some (.new ds) := rfl
theorem dt_l {ds : List D} : dTuple (.lst ds) = some (.val (.tup ds)) := rfl
theorem ix0l {x : D} {l : List D} : dIx (.lst (x :: l)) (.int 0) = some (.val x) := ix0 (x := x) (l := l)
theorem ixD {row : List Int} {p : Nat} (h : p + 1 < row.length) : dIx (.lst (List.drop (p + 1) (row.map D.int))) (.int 0) = some (.val (.int row[p + 1])) := by
  rw [List.drop_eq_getElem_cons (by rw [List.length_map]; exact h), List.getElem_map]
  exact ix0l
theorem done_held {s : D} {row : List Int} {p : Nat} {w : Bool} {v : Int} {x0 : D} {e5 e6 e7 e8 e9 e10 : Option HV} (hl : row.length ≤ 1000) (q : Q (.val (optD (stP (.held v) row p w))) J) :
    Sx (dfX X J.length Q) (D_l_done_2 J.length [some (.val s), some (.val (rT row)), some (.val x0), some (.val (Ch.held v).d), none, e5, e6, e7, e8, e9, e10, some (.val (.int p)), some (.val (.int (wI w)))] J) := by
  simp [D_l_done_2, Ch.d, ix1]
  simp [D_l_done_3, ix0, e_held_idle]
  by_cases h1 : row.length ≤ p
  · have e : stP (.held v) row p w = none := by simp [stP, get_ge h1]
    rw [e] at q
    simp [D_l_done_4, h1]
    exact q
  · have h1' : p < row.length := by omega
    simp [D_l_done_4, h1]
    simp [D_l_done_5, ixR h1']
    simp [D_l_done_6, slT, cut_from1, dl_t]
    simp [D_l_done_7, slT, cut_to, dl_t]
    simp [D_l_done_8, ix0, e_held_idle]
    cases w
    · simp [D_l_done_9, ix0, e_held_held]
      simp [D_l_done_10, ix0, e_held_held, gt_i]
      by_cases h2 : row[p] = v
      · rw [if_pos h2]
        by_cases h3 : p + 1 < row.length
        · rw [if_pos (by omega), ixD h3]
          simp
          by_cases h4 : row[p + 1] = v
          · have e : stP (.held v) row p false = some (row.take p ++ row.drop (p + 1)) := by simp [stP, h1', h3, h2, h4]
            rw [e] at q
            rw [if_pos h4, dAdd_ll (by simp; omega)]
            simp [dt_l]
            exact fin q (by simp [List.map_take, List.map_drop])
          · have e : stP (.held v) row p false = none := by simp [stP, h1', h3, h2, h4]
            rw [e] at q
            rw [if_neg h4]
            exact q
        · have e : stP (.held v) row p false = none := by simp [stP, h1', h2, get_ge (show row.length ≤ p + 1 by omega)]
          rw [e] at q
          rw [if_neg (by omega)]
          exact q
      · have e : stP (.held v) row p false = none := by simp [stP, h1', h2]
        rw [e] at q
        rw [if_neg h2]
        exact q
    · simp [D_l_done_9, ix0, e_held_held]
      by_cases h2 : row[p] = v
      · have e : stP (.held v) row p true = some (row.take p ++ v :: row.drop p) := by
          simp only [stP, List.getElem?_eq_getElem h1', h2, if_true]
        rw [e] at q
        rw [if_pos h2, dAdd_ll (by simp; omega)]
        simp
        rw [dAdd_ll (by simp; omega)]
        simp [dt_l]
        refine ⟨two_big, fin q ?_⟩
        rw [List.drop_eq_getElem_cons h1', h2]
        simp [List.map_take, List.map_drop]
      · have e : stP (.held v) row p true = none := by simp [stP, h1', h2]
        rw [e] at q
        rw [if_neg h2]
        exact q
theorem done_idle {s : D} {row : List Int} {p : Nat} {w : Bool} {v : Int} {x0 : D} {e5 e6 e7 e8 e9 e10 : Option HV} (hl : row.length ≤ 1000) (q : Q (.val (optD (stP (.idle v) row p w))) J) :
    Sx (dfX X J.length Q) (D_l_done_2 J.length [some (.val s), some (.val (rT row)), some (.val x0), some (.val (Ch.idle v).d), none, e5, e6, e7, e8, e9, e10, some (.val (.int p)), some (.val (.int (wI w)))] J) := by
  simp [D_l_done_2, Ch.d, ix1]
  cases w
  · simp [D_l_done_3, ix0, e_idle_idle]
    by_cases h1 : row.length ≤ p
    · have e : stP (.idle v) row p false = none := by simp [stP, get_ge h1]
      rw [e] at q
      simp [D_l_done_4, h1]
      exact q
    · have h1' : p < row.length := by omega
      simp [D_l_done_4, h1]
      simp [D_l_done_5, ixR h1']
      simp [D_l_done_6, slT, cut_from1, dl_t]
      simp [D_l_done_7, slT, cut_to, dl_t]
      simp [D_l_done_8, ix0, e_idle_idle]
      by_cases h2 : row[p] = v
      · have e : stP (.idle v) row p false = some (row.take p ++ row.drop (p + 1)) := by simp [stP, h1', h2]
        rw [e] at q
        rw [if_pos h2, dAdd_ll (by simp; omega)]
        simp [dt_l]
        exact fin q (by simp [List.map_take, List.map_drop])
      · have e : stP (.idle v) row p false = none := by simp [stP, h1', h2]
        rw [e] at q
        rw [if_neg h2]
        exact q
  · simp [D_l_done_3, ix0, e_idle_idle, gt_i, slT, cut_to, cut_from]
    by_cases h1 : p ≤ row.length
    · have e : stP (.idle v) row p true = some (row.take p ++ v :: row.drop p) := by simp only [stP, if_pos h1]
      rw [e] at q
      rw [if_neg (by omega), dAdd_tt (by simp; omega)]
      simp
      rw [dAdd_tt (by simp; omega)]
      simp
      exact ⟨one_big, fin q (by simp [List.map_take, List.map_drop])⟩
    · have e : stP (.idle v) row p true = none := by simp only [stP, if_neg h1]
      rw [e] at q
      rw [if_pos (by omega)]
      exact q
theorem done_same {s : D} {row : List Int} {p : Nat} {w : Bool} {u t : Int} {x0 : D} {e5 e6 e7 e8 e9 e10 : Option HV} (hl : row.length ≤ 1000) (q : Q (.val (optD (stP (.same u t) row p w))) J) :
    Sx (dfX X J.length Q) (D_l_done_2 J.length [some (.val s), some (.val (rT row)), some (.val x0), some (.val (Ch.same u t).d), none, e5, e6, e7, e8, e9, e10, some (.val (.int p)), some (.val (.int (wI w)))] J) := by
  simp [D_l_done_2, Ch.d, ix1]
  simp [D_l_done_3, ix0, e_same_idle]
  by_cases h1 : row.length ≤ p
  · have e : stP (.same u t) row p w = none := by simp [stP, get_ge h1]
    rw [e] at q
    simp [D_l_done_4, h1]
    exact q
  · have h1' : p < row.length := by omega
    simp [D_l_done_4, h1]
    simp [D_l_done_5, ixR h1']
    simp [D_l_done_6, slT, cut_from1, dl_t]
    simp [D_l_done_7, slT, cut_to, dl_t]
    simp [D_l_done_8, ix0, e_same_idle]
    simp [D_l_done_9, ix0, e_same_held]
    simp [D_l_done_10, ix0, e_same_held]
    have fi : ∀ one oth : Int, Q (.val (optD (if row[p]? = some one then some (row.take p ++ oth :: row.drop (p + 1)) else none))) J → Sx (dfX X J.length Q) (D_l_done_13 J.length [some (.val s), some (.val (rT row)), some (.val x0), some (.val (Ch.same u t).d), some (.val (.int u)), some (.val (.int row[p])), some (.val (.lst (List.drop (p + 1) (row.map D.int)))), some (.val (.lst (List.take p (row.map D.int)))), some (.val (.int one)), some (.val (.int oth)), e10, some (.val (.int p)), some (.val (.int (wI w)))] J) := by
      intro one oth q
      rw [List.getElem?_eq_getElem h1'] at q
      simp [D_l_done_13]
      by_cases h2 : row[p] = one
      · rw [if_pos (by rw [h2])] at q
        simp [h2, D_l_done_14, Ch.d, ix0, e_same_same]
        rw [dAdd_ll (by simp; omega)]
        simp
        rw [dAdd_ll (by simp; omega)]
        simp [dt_l]
        exact ⟨one_big, fin q (by simp [List.map_take, List.map_drop])⟩
      · rw [if_neg (by simpa using h2)] at q
        simp [h2]
        exact q
    cases w
    · simp [D_l_done_11, D_l_done_12, ix1, ix2]
      exact fi t u q
    · simp [D_l_done_11, D_l_done_12, ix1, ix2]
      exact fi u t q
theorem done_loose {s : D} {row : List Int} {p : Nat} {w : Bool} {u t : Int} {x0 : D} {e5 e6 e7 e8 e9 e10 : Option HV} (hl : row.length ≤ 1000) (q : Q (.val (optD (stP (.loose u t) row p w))) J) :
    Sx (dfX X J.length Q) (D_l_done_2 J.length [some (.val s), some (.val (rT row)), some (.val x0), some (.val (Ch.loose u t).d), none, e5, e6, e7, e8, e9, e10, some (.val (.int p)), some (.val (.int (wI w)))] J) := by
  simp [D_l_done_2, Ch.d, ix1]
  simp [D_l_done_3, ix0, e_loose_idle]
  by_cases h1 : row.length ≤ p
  · have e : stP (.loose u t) row p w = none := by simp [stP, get_ge h1]
    rw [e] at q
    simp [D_l_done_4, h1]
    exact q
  · have h1' : p < row.length := by omega
    simp [D_l_done_4, h1]
    simp [D_l_done_5, ixR h1']
    simp [D_l_done_6, slT, cut_from1, dl_t]
    simp [D_l_done_7, slT, cut_to, dl_t]
    simp [D_l_done_8, ix0, e_loose_idle]
    simp [D_l_done_9, ix0, e_loose_held]
    simp [D_l_done_10, ix0, e_loose_held]
    have fi : ∀ one oth : Int, Q (.val (optD (if row[p]? = some one ∧ row[p + 1]? = some oth then some (row.take p ++ oth :: one :: row.drop (p + 2)) else none))) J → Sx (dfX X J.length Q) (D_l_done_13 J.length [some (.val s), some (.val (rT row)), some (.val x0), some (.val (Ch.loose u t).d), some (.val (.int u)), some (.val (.int row[p])), some (.val (.lst (List.drop (p + 1) (row.map D.int)))), some (.val (.lst (List.take p (row.map D.int)))), some (.val (.int one)), some (.val (.int oth)), e10, some (.val (.int p)), some (.val (.int (wI w)))] J) := by
      intro one oth q
      rw [List.getElem?_eq_getElem h1'] at q
      simp [D_l_done_13]
      by_cases h2 : row[p] = one
      · simp [h2, D_l_done_14, Ch.d, ix0, e_loose_same]
        simp [D_l_done_15]
        by_cases h3 : row.length ≤ p + 1
        · rw [if_neg (fun z => get_ge h3 _ z.2)] at q
          rw [if_pos (by omega)]
          exact q
        · have h3' : p + 1 < row.length := by omega
          rw [List.getElem?_eq_getElem h3'] at q
          rw [if_neg (by omega), ixD h3']
          simp
          by_cases h4 : row[p + 1] = oth
          · rw [if_pos ⟨by rw [h2], by rw [h4]⟩] at q
            simp [h4, D_l_done_16]
            have sl : dSl (.lst (List.drop (p + 1) (row.map D.int))) (some 1) none = some (.new (List.drop (p + 2) (row.map D.int))) := by
              show some (HV.new (cutD _ _ _)) = _
              rw [cutD_from (by decide), List.drop_drop]
              rfl
            rw [dAdd_ll (by simp; omega), sl]
            simp
            rw [dAdd_ll (by simp; omega)]
            simp [dt_l]
            exact ⟨two_big, fin q (by simp [List.map_take, List.map_drop])⟩
          · rw [if_neg (fun z => h4 (by simpa using z.2))] at q
            simp [h4]
            exact q
      · rw [if_neg (fun z => h2 (by simpa using z.1))] at q
        simp [h2]
        exact q
    cases w
    · simp [D_l_done_11, D_l_done_12, ix1, ix2]
      exact fi t u q
    · simp [D_l_done_11, D_l_done_12, ix1, ix2]
      exact fi u t q
theorem done_spec {s : D} {cs : List Ch} {row : List Int} {n p : Nat} {w : Bool} (hs : chs s cs) (hn : n < cs.length) (hl : row.length ≤ 1000) (q : Q (.val (optD (stP (cs[n]'hn) row p w))) J) :
    Ex X (F_l_done [.val s, .val (rT row), .val (stD n p w)] J) Q := by
  have ic : dIx (.tup (cs.map Ch.d)) (.int n) = some (.val (cs[n]'hn).d) := by
    rw [ixT (by rw [List.length_map]; exact hn), List.getElem_map]
  unfold F_l_done
  rw [B_l_done_eq, Ex_mkF]
  simp [D_l_done_0, startE, tgSeq, tgs]
  simp [D_l_done_1, hs, ic]
  generalize cs[n]'hn = c at q
  cases c with
  | held v => exact done_held hl q
  | idle v => exact done_idle hl q
  | loose u v => exact done_loose hl q
  | same u v => exact done_same hl q
end K09
set_option Elab.async false
set_option linter.all false
set_option maxRecDepth 100000
set_option maxHeartbeats 4000000
set_option autoImplicit false
namespace K09
open PySem L2 L2.Pz
variable {X : XP} {Q : HV → Jr → Prop} {T J : Jr} {a r : List D} {env : En} {b : Nat}
theorem isn_v {d : D} : dIsN d = some (.val (.bl (match d with | .non => true | _ => false))) := by cases d <;> rfl
theorem isnn_v {d : D} : dNotN d = some (.val (.bl (match d with | .non => false | _ => true))) := by cases d <;> rfl
theorem jt (ds : List D) : isa "tuple" (.tup ds) = true := rfl
theorem ji (i : Int) : isa "int" (.int i) = true := rfl
theorem jb (i : Int) : isa "bool" (.int i) = false := rfl
theorem rowis_spec {o : Option (List Int)} (hl : ∀ l, o = some l → l.length ≤ 2000) (q : Q (.val (.bl true)) J) : Ex X (F_l_row_is [.val (optD o), .val (optD o)] J) Q := by
  unfold F_l_row_is
  rw [B_l_row_is_eq, Ex_mkF]
  cases o with
  | none =>
    simp [D_l_row_is_0, startE, optD, isn_v]
    exact q
  | some l =>
    have hl := hl l rfl
    have e0 : rgOk (l.length : Int) = true := by unfold rgOk; simp; omega
    simp [D_l_row_is_0, startE, optD, isn_v]
    simp [D_l_row_is_1, dIsa, jt]
    simp [D_l_row_is_2, Sx_for, e0]
    refine Sx_loop (fun i env J' => ∃ x2, env = [some (.val (rT l)), some (.val (rT l)), x2] ∧ J' = J) ⟨_, rfl, rfl⟩ ?_ ?_
    · rintro i d env J hd ⟨x2, rfl, rfl⟩
      obtain ⟨rfl, hi⟩ := rgD_get hd
      have hi : i < l.length := by simpa using hi
      simp [tgName, ixR hi, dIsa, ji, jb]
    · rintro env J ⟨x2, rfl, rfl⟩
      simp [D_l_row_is_3]
      exact q
/-- the steps that can be done, of one place -/
def wy (c : Ch) (row : List Int) (n p : Nat) (w : Bool) : List D := if (stP c row p w).isSome = true then [stD n p w] else []
def one (c : Ch) (row : List Int) (n p : Nat) : List D := wy c row n p false ++ wy c row n p true
def numL (cs : List Ch) (row : List Int) (n : Nat) : List D := match cs[n]? with
  | some c => (List.range (row.length + 1)).flatMap (one c row n)
  | none => []
def dueL (cs : List Ch) (row : List Int) : List D := (List.range cs.length).flatMap (numL cs row)
theorem stP_far {c : Ch} {row : List Int} {p : Nat} {w : Bool} (h : row.length < p) : stP c row p w = none := by
  have g1 : ∀ v, ¬ row[p]? = some v := get_ge (by omega)
  have g2 : ¬ p ≤ row.length := by omega
  cases c with
  | held s => simp [stP, g1]
  | idle s => cases w <;> simp [stP, g1, g2]
  | loose s t => cases w <;> simp [stP, g1]
  | same s t => cases w <;> simp [stP, g1]
theorem one_far {c : Ch} {row : List Int} {n p : Nat} (h : row.length < p) : one c row n p = [] := by
  simp [one, wy, stP_far h]
theorem wy_len {c : Ch} {row : List Int} {n p : Nat} {w : Bool} : (wy c row n p w).length ≤ 1 := by
  unfold wy; split <;> simp
theorem range_flat {f : Nat → List D} {i : Nat} : (List.range (i + 1)).flatMap f = (List.range i).flatMap f ++ f i := by
  rw [List.range_succ, List.flatMap_append]
  simp
/-- the first i ways -/
def wys (c : Ch) (row : List Int) (n p : Nat) : Nat → List D
  | 0 => []
  | 1 => wy c row n p false
  | _ => one c row n p
theorem wI_of {i : Nat} (h : i < 2) : ∃ w, ((0 : Int) + (i : Nat)) = wI w ∧ (∀ c row n p, wys c row n p (i + 1) = wys c row n p i ++ wy c row n p w) := by
  match i, h with
  | 0, _ => exact ⟨false, rfl, fun _ _ _ _ => rfl⟩
  | 1, _ => exact ⟨true, rfl, fun _ _ _ _ => rfl⟩
theorem optD_non {o : Option (List Int)} : (match optD o with | .non => false | _ => true) = o.isSome := by cases o <;> rfl
theorem ways_eq : ([.int 0, .int 1] : List D) = rgD 0 2 := by with_unfolding_all rfl
theorem wy_mem {c : Ch} {row : List Int} {n p : Nat} {w : Bool} {d : D} (h : d ∈ wy c row n p w) : ∃ n p w, d = stD n p w := by
  unfold wy at h
  split at h
  · exact ⟨n, p, w, List.mem_singleton.mp h⟩
  · cases h
theorem one_mem {c : Ch} {row : List Int} {n p : Nat} {d : D} (h : d ∈ one c row n p) : ∃ n p w, d = stD n p w := by
  rcases List.mem_append.mp h with h | h
  · exact wy_mem h
  · exact wy_mem h
theorem due_mem {cs : List Ch} {row : List Int} {d : D} (h : d ∈ dueL cs row) : ∃ n p w, d = stD n p w := by
  obtain ⟨n, _, h⟩ := List.mem_flatMap.mp h
  unfold numL at h
  split at h
  · obtain ⟨p, _, h⟩ := List.mem_flatMap.mp h
    exact one_mem h
  · cases h
theorem due_pl {cs : List Ch} {row : List Int} : (dueL cs row).all isP = true := List.all_eq_true.mpr fun d hd => by
  obtain ⟨n, p, w, rfl⟩ := due_mem hd
  rfl
theorem from_spec {s : D} {cs : List Ch} {row : List Int} (hs : chs s cs) (hc : cs.length ≤ 100) (hl : row.length ≤ 1000) (q : Q (.val (.tup (dueL cs row))) J) : Ex X (F_steps_from [.val s, .val (rT row)] J) Q := by
  have e0 : rgOk (cs.length : Int) = true := by unfold rgOk; simp; omega
  have e1 : rgOk ((row.length : Int) + 1) = true := by unfold rgOk; simp; omega
  have em : ((row.length : Int) + 1).toNat = row.length + 1 := by omega
  have hK : ∀ n, n < cs.length → (row.length + 1) * (n + 1) ≤ 1001 * 100 := fun n hn => Nat.mul_le_mul (by omega) (by omega)
  unfold F_steps_from B_steps_from
  rw [Ex_mkF]
  simp [startE, Sx_for, hs, e0]
  refine Sx_loop (fun i env J' => ∃ x3 x4 x5, env = [some (.val s), some (.val (rT row)), some (.jar J.length), x3, x4, x5] ∧ J' = J ++ [(List.range i).flatMap (numL cs row)] ∧ ((List.range i).flatMap (numL cs row)).length ≤ 2 * ((row.length + 1) * i)) ⟨_, _, _, rfl, rfl, Nat.le_refl _⟩ ?_ ?_
  · rintro n d env J' hd ⟨x3, x4, x5, rfl, rfl, hn⟩
    obtain ⟨rfl, hi⟩ := rgD_get hd
    have hi : n < cs.length := by simpa using hi
    have hk := hK n hi
    rw [Nat.mul_succ] at hk
    try dsimp only [Po.lp]
    rw [range_flat]
    have en : numL cs row n = (List.range (row.length + 1)).flatMap (one cs[n] row n) := by unfold numL; rw [List.getElem?_eq_getElem hi]
    rw [en]
    generalize (List.range n).flatMap (numL cs row) = A at hn
    generalize hKK : (row.length + 1) * n = K at hn hk
    generalize hN : (List.range (row.length + 1)).flatMap (one cs[n] row n) = N
    simp [tgName, Sx_for, e1]
    have z1 : J ++ [A] = J ++ [A ++ (List.range 0).flatMap (one cs[n] row n)] := by simp
    have z2 : (A ++ (List.range 0).flatMap (one cs[n] row n)).length ≤ 2 * K + 2 * 0 := by simpa using hn
    refine Sx_loop (fun j env J' => ∃ x4 x5, env = [some (.val s), some (.val (rT row)), some (.jar J.length), some (.val (.int n)), x4, x5] ∧ J' = J ++ [A ++ (List.range j).flatMap (one cs[n] row n)] ∧ (A ++ (List.range j).flatMap (one cs[n] row n)).length ≤ 2 * K + 2 * j) ⟨_, _, rfl, z1, z2⟩ ?_ ?_
    · rintro p d env J' hd2 ⟨x4, x5, rfl, rfl, hp⟩
      obtain ⟨rfl, hi2⟩ := rgD_get hd2
      try dsimp only [Po.lp]
      rw [range_flat, ← List.append_assoc]
      generalize A ++ (List.range p).flatMap (one cs[n] row n) = B at hp
      simp [tgName, Sx_for]
      refine ⟨by decide, ?_⟩
      rw [ways_eq]
      have y1 : J ++ [B] = J ++ [B ++ wys cs[n] row n p 0] := by simp [wys]
      have y2 : (B ++ wys cs[n] row n p 0).length ≤ 2 * K + 2 * p + 0 := by simpa [wys] using hp
      refine Sx_loop (fun i env J' => ∃ x5, env = [some (.val s), some (.val (rT row)), some (.jar J.length), some (.val (.int n)), some (.val (.int p)), x5] ∧ J' = J ++ [B ++ wys cs[n] row n p i] ∧ (B ++ wys cs[n] row n p i).length ≤ 2 * K + 2 * p + i) ⟨_, rfl, y1, y2⟩ ?_ ?_
      · rintro i d env J' hd3 ⟨x5, rfl, rfl, hw⟩
        obtain ⟨rfl, hi3⟩ := rgD_get hd3
        obtain ⟨w, ew, es⟩ := wI_of hi3
        try dsimp only [Po.lp]
        rw [ew, es, ← List.append_assoc]
        generalize B ++ wys cs[n] row n p i = C at hw
        have hwl := wy_len (c := cs[n]) (row := row) (n := n) (p := p) (w := w)
        simp [tgName]
        refine ⟨by decide, stepped_spec hs hi hl ?_⟩
        simp [isnn_v, optD_non]
        cases hs2 : (stP cs[n] row p w).isSome
        · have ew0 : wy cs[n] row n p w = [] := by simp [wy, hs2]
          rw [ew0] at hwl ⊢
          simp
          omega
        · have ew1 : wy cs[n] row n p w = [stD n p w] := by simp [wy, hs2]
          rw [ew1] at hwl ⊢
          simp
          exact ⟨by decide, show _ < 16777216 by omega, by omega⟩
      · rintro env J' ⟨x5, rfl, rfl, hw⟩
        have e2 : wys cs[n] row n p (rgD 0 2).length = one cs[n] row n p := rfl
        rw [e2] at hw ⊢
        have e3 : (rgD 0 2).length = 2 := rfl
        rw [e3] at hw
        generalize one cs[n] row n p = O at hw
        rw [List.length_append] at hw
        exact ⟨⟨_, _, rfl⟩, rfl, by omega⟩
    · rintro env J' ⟨x4, x5, rfl, rfl, hp⟩
      rw [rgD_len] at hp ⊢
      rw [hN] at hp ⊢
      rw [List.length_append] at hp
      refine ⟨⟨_, _, _, rfl⟩, rfl, ?_⟩
      rw [Nat.mul_succ, hKK]
      omega
  · rintro env J' ⟨x3, x4, x5, rfl, rfl, hn⟩
    rw [rgD_len] at hn ⊢
    have hq : (List.range cs.length).flatMap (numL cs row) = dueL cs row := rfl
    rw [hq]
    have hpl := due_pl (cs := cs) (row := row)
    generalize dueL cs row = D0 at q hpl
    simp [dt_l]
    exact ⟨List.all_eq_true.mp hpl, q⟩
end K09
set_option Elab.async false
set_option linter.all false
set_option maxRecDepth 100000
set_option maxHeartbeats 4000000
set_option autoImplicit false
namespace K09
open PySem L2 L2.Pz
variable {X : XP} {Q : HV → Jr → Prop} {T J : Jr} {a r : List D} {env : En} {b : Nat}
def farD (far : List Nat) : List D := far.map fun (n : Nat) => D.int (n : Int)
theorem place_of {M : Nat} {far : List Nat} {k : Nat} {d : D} (h : (rgD 0 (M + 2) ++ farD far)[k]? = some d) (hf : ∀ n ∈ far, M ≤ n) : ∃ p : Nat, d = .int p ∧ ((k < M ∧ p = k) ∨ (M ≤ k ∧ M ≤ p)) := by
  by_cases hk : k < M + 2
  · rw [List.getElem?_append_left (by rw [rgD_len]; exact hk)] at h
    obtain ⟨rfl, _⟩ := rgD_get h
    exact ⟨k, by simp, by omega⟩
  · rw [List.getElem?_append_right (by rw [rgD_len]; omega)] at h
    unfold farD at h
    rw [List.getElem?_map] at h
    cases e : far[k - (rgD 0 (M + 2)).length]? with
    | none => rw [e] at h; cases h
    | some n =>
      rw [e] at h
      exact ⟨n, by simpa using h.symm, .inr ⟨by omega, hf n (List.mem_of_getElem? e)⟩⟩
theorem stP_len {c : Ch} {row : List Int} {p : Nat} {w : Bool} (hl : row.length ≤ 1000) : ∀ l, stP c row p w = some l → l.length ≤ 2000 := by
  intro l h
  have key : l.length ≤ row.length + 2 := by
    cases c with
    | held s =>
      cases w
      · simp [stP] at h
        obtain ⟨_, _, rfl⟩ := h
        simp; omega
      · simp [stP] at h
        obtain ⟨_, rfl⟩ := h
        simp; omega
    | idle s =>
      cases w <;> (
        simp [stP] at h
        obtain ⟨_, rfl⟩ := h
        simp; omega)
    | loose s t =>
      cases w <;> (
        simp [stP] at h
        obtain ⟨_, rfl⟩ := h
        simp; omega)
    | same s t =>
      cases w <;> (
        simp [stP] at h
        obtain ⟨_, rfl⟩ := h
        simp; omega)
  omega
theorem steps_spec {s : D} {cs : List Ch} {row : List Int} {nm : Bool} {far : List Nat} (hs : chs s cs) (hc : cs.length ≤ 100) (hl : row.length ≤ 1000) (hf : ∀ n ∈ far, row.length + 1 ≤ n) (hfl : far.length ≤ 10) (q : Q (.val (.bl true)) J) :
    Ex X (F_l_steps [.val s, .val (rT row), .val (.bl nm), .val (.lst (farD far))] J) Q := by
  have e0 : rgOk (cs.length : Int) = true := by unfold rgOk; simp; omega
  have e1 : rgOk ((row.length : Int) + 3) = true := by unfold rgOk; simp; omega
  have hK : ∀ n, n < cs.length → (row.length + 1) * (n + 1) ≤ 1001 * 100 := fun n hn => Nat.mul_le_mul (by omega) (by omega)
  unfold F_l_steps
  rw [B_l_steps_eq, Ex_mkF]
  simp [D_l_steps_0, startE]
  simp [D_l_steps_1, Sx_for, hs, e0]
  refine Sx_loop (fun i env J' => ∃ x5 x6 x7 x8 x9 x10 x11, env = [some (.val s), some (.val (rT row)), some (.val (.bl nm)), some (.val (.lst (farD far))), some (.jar J.length), x5, x6, x7, x8, x9, x10, x11] ∧ J' = J ++ [(List.range i).flatMap (numL cs row)] ∧ ((List.range i).flatMap (numL cs row)).length ≤ 2 * ((row.length + 1) * i)) ⟨_, _, _, _, _, _, _, rfl, rfl, Nat.le_refl _⟩ ?_ ?_
  · rintro n d env J' hd ⟨x5, x6, x7, x8, x9, x10, x11, rfl, rfl, hn⟩
    obtain ⟨rfl, hi⟩ := rgD_get hd
    have hi : n < cs.length := by simpa using hi
    have hk := hK n hi
    rw [Nat.mul_succ] at hk
    try dsimp only [Po.lp]
    rw [range_flat]
    have en : numL cs row n = (List.range (row.length + 1)).flatMap (one cs[n] row n) := by unfold numL; rw [List.getElem?_eq_getElem hi]
    rw [en]
    generalize (List.range n).flatMap (numL cs row) = A at hn
    generalize hKK : (row.length + 1) * n = K at hn hk
    generalize hN : (List.range (row.length + 1)).flatMap (one cs[n] row n) = N
    generalize hFF : farD far = FF
    have hFl : FF.length ≤ 10 := by rw [← hFF]; unfold farD; rw [List.length_map]; exact hfl
    have e3 : ((row.length : Int) + 3).toNat = row.length + 1 + 2 := by omega
    simp [tgName, Sx_for, e1]
    rw [e3, dAdd_ll (by rw [rgD_len]; omega), rgD_len]
    refine ⟨by omega, ?_⟩
    have ei : ∀ l : List D, itemsOf (.new l) = some l := fun _ => rfl
    rw [OpQ_some, ei, OpQ_some]
    have z1 : J ++ [A] = J ++ [A ++ (List.range (min 0 (row.length + 1))).flatMap (one cs[n] row n)] := by simp
    have z2 : (A ++ (List.range (min 0 (row.length + 1))).flatMap (one cs[n] row n)).length ≤ 2 * K + 2 * min 0 (row.length + 1) := by simpa using hn
    refine Sx_loop (fun j env J' => ∃ x6 x7 x8 x9 x10 x11, env = [some (.val s), some (.val (rT row)), some (.val (.bl nm)), some (.val (.lst FF)), some (.jar J.length), some (.val (.int n)), x6, x7, x8, x9, x10, x11] ∧ J' = J ++ [A ++ (List.range (min j (row.length + 1))).flatMap (one cs[n] row n)] ∧ (A ++ (List.range (min j (row.length + 1))).flatMap (one cs[n] row n)).length ≤ 2 * K + 2 * min j (row.length + 1)) ⟨_, _, _, _, _, _, rfl, z1, z2⟩ ?_ ?_
    · rintro j d env J' hd2 ⟨x6, x7, x8, x9, x10, x11, rfl, rfl, hp⟩
      rw [← hFF] at hd2
      obtain ⟨p, rfl, hpj⟩ := place_of hd2 hf
      obtain ⟨e4, hM⟩ : (List.range (min (j + 1) (row.length + 1))).flatMap (one cs[n] row n) = (List.range (min j (row.length + 1))).flatMap (one cs[n] row n) ++ one cs[n] row n p ∧ min j (row.length + 1) + (if p < row.length + 1 then 1 else 0) ≤ min (j + 1) (row.length + 1) := by
        rcases hpj with ⟨h1, rfl⟩ | ⟨h1, h2⟩
        · rw [Nat.min_eq_left (by omega), Nat.min_eq_left (by omega), range_flat, if_pos h1]
          exact ⟨rfl, by omega⟩
        · rw [Nat.min_eq_right (by omega), Nat.min_eq_right (by omega), one_far (show row.length < p by omega), List.append_nil, if_neg (by omega)]
          exact ⟨rfl, by omega⟩
      have hm0 : min j (row.length + 1) ≤ row.length + 1 := Nat.min_le_right _ _
      try dsimp only [Po.lp]
      rw [e4, ← List.append_assoc]
      generalize A ++ (List.range (min j (row.length + 1))).flatMap (one cs[n] row n) = B at hp
      have hOl : (one cs[n] row n p).length ≤ 2 * (if p < row.length + 1 then 1 else 0) := by
        split
        · unfold one
          rw [List.length_append]
          have h1 := wy_len (c := cs[n]) (row := row) (n := n) (p := p) (w := false)
          have h2 := wy_len (c := cs[n]) (row := row) (n := n) (p := p) (w := true)
          omega
        · rw [one_far (by omega)]
          simp
      generalize hO : one cs[n] row n p = O at hOl
      generalize min (j + 1) (row.length + 1) = m1 at hM
      generalize min j (row.length + 1) = m0 at hM hp hm0
      have hpost : (B ++ O).length ≤ 2 * K + 2 * m1 := by rw [List.length_append]; omega
      have hbb : B.length ≤ 300000 := by omega
      simp [tgName, Sx_for]
      have y1 : J ++ [B] = J ++ [B ++ wys cs[n] row n p 0] := by simp [wys]
      have y2 : (B ++ wys cs[n] row n p 0).length ≤ 300000 + 0 := by simpa [wys] using hbb
      refine ⟨by decide, ?_⟩
      refine Sx_loop (fun i env J' => ∃ x6 x9 x10 x11, env = [some (.val s), some (.val (rT row)), some (.val (.bl nm)), some (.val (.lst FF)), some (.jar J.length), some (.val (.int n)), x6, x7, some (.val (.int p)), x9, x10, x11] ∧ J' = J ++ [B ++ wys cs[n] row n p i] ∧ (B ++ wys cs[n] row n p i).length ≤ 300000 + i) ⟨_, _, _, _, rfl, y1, y2⟩ ?_ ?_
      · rintro i d env J' hd3 ⟨x6, x9, x10, x11, rfl, rfl, hw⟩
        obtain ⟨rfl, hi3⟩ := rgD_get hd3
        obtain ⟨w, ew, es⟩ := wI_of hi3
        try dsimp only [Po.lp]
        rw [ew, es, ← List.append_assoc]
        generalize B ++ wys cs[n] row n p i = C at hw
        have hwl := wy_len (c := cs[n]) (row := row) (n := n) (p := p) (w := w)
        simp [tgName]
        refine ⟨by decide, done_spec hs hi hl ?_⟩
        simp
        have ol := stP_len (c := cs[n]) (p := p) (w := w) hl
        cases nm <;> (
          simp [permute]
          refine stepped_spec hs hi hl ?_
          simp
          refine rowis_spec ol ?_
          simp [isnn_v, optD_non]
          cases hs2 : (stP cs[n] row p w).isSome
          · have ew0 : wy cs[n] row n p w = [] := by simp [wy, hs2]
            rw [ew0] at hwl ⊢
            simp
            omega
          · have ew1 : wy cs[n] row n p w = [stD n p w] := by simp [wy, hs2]
            rw [ew1] at hwl ⊢
            simp
            exact ⟨show _ < 16777216 by omega, by omega⟩)
      · rintro env J' ⟨x6, x9, x10, x11, rfl, rfl, hw⟩
        have e2 : wys cs[n] row n p (rgD 0 2).length = one cs[n] row n p := rfl
        rw [e2, hO]
        rw [List.length_append] at hpost
        exact ⟨⟨_, _, _, _, _, _, rfl⟩, rfl, hpost⟩
    · rintro env J' ⟨x6, x7, x8, x9, x10, x11, rfl, rfl, hp⟩
      have ee : min (rgD 0 (row.length + 1 + 2) ++ FF).length (row.length + 1) = row.length + 1 := by rw [List.length_append, rgD_len]; omega
      rw [ee] at hp ⊢
      rw [hN] at hp ⊢
      rw [List.length_append] at hp
      refine ⟨⟨_, _, _, _, _, _, _, rfl⟩, rfl, ?_⟩
      rw [Nat.mul_succ, hKK]
      omega
  · rintro env J' ⟨x5, x6, x7, x8, x9, x10, x11, rfl, rfl, hn⟩
    rw [rgD_len] at hn ⊢
    have hK2 : (row.length + 1) * cs.length ≤ 1001 * 100 := Nat.mul_le_mul (by omega) (by omega)
    have hq : (List.range cs.length).flatMap (numL cs row) = dueL cs row := rfl
    rw [hq] at hn ⊢
    have hpl := due_pl (cs := cs) (row := row)
    have hmem : ∀ d ∈ dueL cs row, ∃ n p w, d = stD n p w := fun d hd => due_mem hd
    have hfr := fun {Q : HV → Jr → Prop} {X : XP} {J : Jr} => from_spec (Q := Q) (X := X) (J := J) hs hc hl
    generalize dueL cs row = D0 at hpl hn hfr hmem
    have hpl' := List.all_eq_true.mp hpl
    have e5 : rgOk (D0.length : Int) = true := by unfold rgOk; simp; omega
    generalize farD far = FF
    cases nm <;> (
      simp [D_l_steps_2, permute]
      refine hfr ?_
      simp [D_l_steps_3, dIsa, jt]
      refine ⟨hpl', ?_⟩
      simp [D_l_steps_4, Sx_for]
      refine ⟨hpl', e5, ?_⟩
      refine Sx_loop (fun i env J' => ∃ x7, env = [some (.val s), some (.val (rT row)), some (.val (.bl _)), some (.val (.lst FF)), some (.jar J.length), x5, some (.val (.tup D0)), x7, x8, x9, x10, x11] ∧ J' = J ++ [D0]) ⟨_, rfl, rfl⟩ ?_ ?_
      · rintro i d env J' hd ⟨x7, rfl, rfl⟩
        obtain ⟨rfl, hi⟩ := rgD_get hd
        have hi : i < D0.length := by simpa using hi
        obtain ⟨n, p, w, ed⟩ := hmem _ (List.getElem_mem hi)
        have i1 : dIx (.tup D0) (.int (i : Int)) = some (.val (D0[i]'hi)) := ixT hi
        have i2 : dIx (.lst D0) (.int (i : Int)) = some (.val (D0[i]'hi)) := i1
        rw [ed] at i1 i2
        simp [tgName, i1, i2]
        refine ⟨hpl', rowis_spec (o := some [(n : Int), (p : Int), wI w]) (fun l e => by cases e; simp) ?_⟩
        simp
      · rintro env J' ⟨x7, rfl, rfl⟩
        simp [D_l_steps_5]
        exact q)
end K09
set_option Elab.async false
set_option linter.all false
set_option maxRecDepth 100000
set_option maxHeartbeats 4000000
set_option autoImplicit false
namespace K09
open PySem L2 L2.Pz
variable {X : XP} {Q : HV → Jr → Prop} {T J : Jr} {a r : List D} {env : En} {b : Nat}
theorem lcO_spec {s : D} {cs : List Ch} {row : List Int} {n p : Nat} {e0 e3 e4 e5 e7 e8 e9 e11 : Option HV} (hs : chs s cs) (hn : n < cs.length) (hl : row.length ≤ 1000) (q : Q (.new (one (cs[n]'hn) row n p)) J) :
    Ex X (eLc (iRange1 (eC (.int 2))) (tgName 11) (fun env J => toB (eUn dNotN (eCall F_l_done [eName 1, eName 2, eTup [eName 6, eName 10, eName 11]]) env J)) (eTup [eName 6, eName 10, eName 11]) [11] [e0, some (.val s), some (.val (rT row)), e3, e4, e5, some (.val (.int n)), e7, e8, e9, some (.val (.int p)), e11] J) Q := by
  refine Ex_lcX ?_
  simp [wipeE]
  refine ⟨by decide, Ex_lcLoop (fun i acc J' => acc = wys cs[n] row n p i ∧ J' = J ∧ acc.length ≤ i) ⟨rfl, rfl, Nat.le_refl _⟩ ?_ ?_⟩
  · rintro i d acc J' hd ⟨rfl, rfl, hl2⟩
    obtain ⟨rfl, hi⟩ := rgD_get hd
    have hi : i < 2 := hi
    obtain ⟨w, ew, es⟩ := wI_of hi
    have hwl := wy_len (c := cs[n]) (row := row) (n := n) (p := p) (w := w)
    try dsimp only [Po.lp]
    rw [ew, es]
    generalize wys cs[n] row n p i = C at hl2
    simp [tgName]
    refine ⟨by decide, done_spec hs hn hl ?_⟩
    simp [isnn_v, optD_non]
    cases hs2 : (stP cs[n] row p w).isSome
    · have ew0 : wy cs[n] row n p w = [] := by simp [wy, hs2]
      rw [ew0]
      simp
      omega
    · have ew1 : wy cs[n] row n p w = [stD n p w] := by simp [wy, hs2]
      rw [ew1]
      simp
      exact ⟨by decide, show _ < 16777216 by omega, by omega⟩
  · rintro acc J' ⟨rfl, rfl, hl2⟩
    exact q
theorem few_spec {s : D} {cs : List Ch} {row : List Int} {nm : Bool} (hs : chs s cs) (hc : 1 ≤ cs.length ∧ cs.length ≤ 100) (hl : row.length ≤ 1000) (hj : Rb b a r) (hb : b + 40 ≤ LIM) (q : ∀ a' r', Rb (b + 40) a' r' → Q (.val (.bl true)) (a' :: r' :: T)) :
    Ex X (F_l_few [.jar 1, .val s, .val (rT row), .val (.bl nm)] (a :: r :: T)) Q := by
  have hL : (LIM : Nat) = 1000000000 := rfl
  have e0 : rgOk (cs.length : Int) = true := by unfold rgOk; simp; omega
  have e1 : rgOk ((row.length : Int) + 1) = true := by unfold rgOk; simp; omega
  have hK : ∀ n, n < cs.length → (row.length + 1) * (n + 1) ≤ 1001 * 100 := fun n hn => Nat.mul_le_mul (by omega) (by omega)
  unfold F_l_few
  rw [B_l_few_eq, Ex_mkF]
  simp [D_l_few_0, startE, Sx_for]
  refine ⟨by decide, ?_⟩
  refine Sx_loop (fun i env J' => ∃ x4 x7 x9 a' r', env = [some (.jar 1), some (.val s), some (.val (rT row)), some (.val (.bl nm)), x4, none, none, x7, none, x9, none, none] ∧ J' = a' :: r' :: T ∧ Rb (b + 3 * i) a' r') ⟨_, _, _, a, r, rfl, rfl, hj⟩ ?_ ?_
  · rintro i d env J' hd ⟨x4, x7, x9, a', r', rfl, rfl, hj'⟩
    have hi : i < 12 := (rgD_get hd).2
    simp [tgName, hs]
    refine next_spec hj' (by omega) (by omega) (by omega) fun n a1 r1 n0 n1 hj1 => ?_
    simp
    refine next_spec hj1 (by omega) (by omega) (by omega) fun p a2 r2 p0 p1 hj2 => ?_
    simp
    refine next_spec hj2 (by omega) (by decide) (by decide) fun w a3 r3 w0 w1 hj3 => ?_
    simp
    obtain ⟨n, rfl⟩ := Int.eq_ofNat_of_zero_le n0
    obtain ⟨p, rfl⟩ := Int.eq_ofNat_of_zero_le p0
    have hn : n < cs.length := by omega
    obtain ⟨w, rfl⟩ : ∃ v : Bool, w = wI v := by
      rcases (by omega : w = 0 ∨ w = 1) with rfl | rfl
      · exact ⟨false, rfl⟩
      · exact ⟨true, rfl⟩
    have ol := stP_len (c := cs[n]) (p := p) (w := w) hl
    refine ⟨by decide, ?_⟩
    cases nm <;> (
      simp [permute]
      refine stepped_spec hs hn hl ?_
      simp
      refine done_spec hs hn hl ?_
      simp
      refine rowis_spec ol ?_
      simp
      exact ⟨_, _, ⟨rfl, rfl⟩, hj3.mono (by omega)⟩)
  · rintro env J' ⟨x4, x7, x9, a', r', rfl, rfl, hj'⟩
    have hj' : Rb (b + 3 * 12) a' r' := hj'
    simp [D_l_few_1]
    simp [D_l_few_2, Sx_for, hs, e0]
    refine Sx_loop (fun i env J' => ∃ x6 x10 x11, env = [some (.jar 1), some (.val s), some (.val (rT row)), some (.val (.bl nm)), x4, some (.val (.lst ((List.range i).flatMap (numL cs row)))), x6, x7, none, x9, x10, x11] ∧ J' = a' :: r' :: T ∧ ((List.range i).flatMap (numL cs row)).length ≤ 2 * ((row.length + 1) * i)) ⟨_, _, _, rfl, rfl, Nat.le_refl _⟩ ?_ ?_
    · rintro n d env J' hd ⟨x6, x10, x11, rfl, rfl, hn⟩
      obtain ⟨rfl, hi⟩ := rgD_get hd
      have hi : n < cs.length := by simpa using hi
      have hk := hK n hi
      rw [Nat.mul_succ] at hk
      try dsimp only [Po.lp]
      rw [range_flat]
      have en : numL cs row n = (List.range (row.length + 1)).flatMap (one cs[n] row n) := by unfold numL; rw [List.getElem?_eq_getElem hi]
      rw [en]
      generalize (List.range n).flatMap (numL cs row) = A at hn
      generalize hKK : (row.length + 1) * n = K at hn hk
      generalize hN : (List.range (row.length + 1)).flatMap (one cs[n] row n) = N
      simp [tgName, Sx_for, e1]
      have z1 : A = A ++ (List.range 0).flatMap (one cs[n] row n) := by simp
      have z2 : (A ++ (List.range 0).flatMap (one cs[n] row n)).length ≤ 2 * K + 2 * 0 := by simpa using hn
      refine Sx_loop (fun j env J' => ∃ x10 x11, env = [some (.jar 1), some (.val s), some (.val (rT row)), some (.val (.bl nm)), x4, some (.val (.lst (A ++ (List.range j).flatMap (one cs[n] row n)))), some (.val (.int n)), x7, none, x9, x10, x11] ∧ J' = a' :: r' :: T ∧ (A ++ (List.range j).flatMap (one cs[n] row n)).length ≤ 2 * K + 2 * j) ⟨x10, x11, by rw [← z1], rfl, z2⟩ ?_ ?_
      · rintro p d env J' hd2 ⟨x10, x11, rfl, rfl, hp⟩
        obtain ⟨rfl, hi2⟩ := rgD_get hd2
        try dsimp only [Po.lp]
        rw [range_flat, ← List.append_assoc]
        generalize A ++ (List.range p).flatMap (one cs[n] row n) = B at hp
        have hOl : (one cs[n] row n p).length ≤ 2 := by
          unfold one
          rw [List.length_append]
          have h1 := wy_len (c := cs[n]) (row := row) (n := n) (p := p) (w := false)
          have h2 := wy_len (c := cs[n]) (row := row) (n := n) (p := p) (w := true)
          omega
        simp [tgName]
        refine lcO_spec hs hi hl ?_
        generalize one cs[n] row n p = O at hOl
        simp
        rw [dAdd_ll (by omega)]
        simp
        omega
      · rintro env J' ⟨x10, x11, rfl, rfl, hp⟩
        rw [rgD_len] at hp ⊢
        rw [hN] at hp ⊢
        rw [List.length_append] at hp
        refine ⟨⟨_, _, _, rfl⟩, rfl, ?_⟩
        rw [Nat.mul_succ, hKK]
        omega
    · rintro env J' ⟨x6, x10, x11, rfl, rfl, hn⟩
      rw [rgD_len] at hn ⊢
      have hK2 : (row.length + 1) * cs.length ≤ 1001 * 100 := Nat.mul_le_mul (by omega) (by omega)
      have hq : (List.range cs.length).flatMap (numL cs row) = dueL cs row := rfl
      rw [hq] at hn ⊢
      have hmem : ∀ d ∈ dueL cs row, ∃ n p w, d = stD n p w := fun d hd => due_mem hd
      have hfr := fun {Q : HV → Jr → Prop} {X : XP} {J : Jr} => from_spec (Q := Q) (X := X) (J := J) hs hc.2 hl
      generalize dueL cs row = D0 at hn hfr hmem
      have e5 : rgOk (D0.length : Int) = true := by unfold rgOk; simp; omega
      cases nm <;> (
        simp [D_l_few_3, permute]
        refine hfr ?_
        simp [D_l_few_4, dIsa, jt]
        simp [D_l_few_5, Sx_for, e5]
        refine Sx_loop (fun i env J' => ∃ x8, env = [some (.jar 1), some (.val s), some (.val (rT row)), some (.val (.bl _)), x4, some (.val (.lst D0)), x6, some (.val (.tup D0)), x8, x9, x10, x11] ∧ J' = a' :: r' :: T) ⟨_, rfl, rfl⟩ ?_ ?_
        · rintro i d env J' hd ⟨x7, rfl, rfl⟩
          obtain ⟨rfl, hi⟩ := rgD_get hd
          have hi : i < D0.length := by simpa using hi
          obtain ⟨n, p, w, ed⟩ := hmem _ (List.getElem_mem hi)
          have i1 : dIx (.tup D0) (.int (i : Int)) = some (.val (D0[i]'hi)) := ixT hi
          have i2 : dIx (.lst D0) (.int (i : Int)) = some (.val (D0[i]'hi)) := i1
          rw [ed] at i1 i2
          simp [tgName, i1, i2]
          refine rowis_spec (o := some [(n : Int), (p : Int), wI w]) (fun l e => by cases e; simp) ?_
          simp
        · rintro env J' ⟨x7, rfl, rfl⟩
          simp [D_l_few_6]
          exact q _ _ (hj'.mono (by omega)))
end K09
set_option Elab.async false
set_option linter.all false
set_option maxRecDepth 100000
set_option maxHeartbeats 4000000
set_option autoImplicit false
namespace K09
open PySem L2 L2.Pz
variable {X : XP} {Q : HV → Jr → Prop} {T J : Jr} {a r : List D} {env : En} {b : Nat}
def isI : D → Bool
  | .int _ => true
  | _ => false
def inB (lo hi : Int) : D → Bool
  | .int i => decide (lo ≤ i) && decide (i ≤ hi)
  | _ => false
def posB : D → Bool
  | .int i => decide (0 ≤ i)
  | _ => false
def stB (m : Int) : D → Bool
  | .tup [x, y, z] => inB 0 (m - 1) x && (posB y && inB 0 1 z)
  | _ => false
theorem isint_spec {d : D} (q : Q (.val (.bl (isI d))) J) : Ex X (F_is_integer [.val d] J) Q := by
  unfold F_is_integer B_is_integer
  rw [Ex_mkF]
  cases d <;> (simp [startE, dIsa, isa, isaS, tyName]; exact q)
theorem within_spec {d : D} {lo hi : Int} (q : Q (.val (.bl (inB lo hi d))) J) : Ex X (F_integer_within [.val d, .val (.int lo), .val (.int hi)] J) Q := by
  unfold F_integer_within B_integer_within
  rw [Ex_mkF]
  simp [startE]
  refine isint_spec ?_
  cases d with
  | int i =>
    simp [isI, eChain, le_i]
    by_cases h : lo ≤ i
    · simp [h, le_i]
      simpa [inB, h] using q
    · simp [h]
      simpa [inB, h] using q
  | _ => simp [isI]; exact q
theorem number_spec {d : D} {m : Int} (q : Q (.val (.bl (inB 0 (m - 1) d))) J) : Ex X (F_is_number [.val d, .val (.int m)] J) Q := by
  unfold F_is_number B_is_number
  rw [Ex_mkF]
  simp [startE]
  refine within_spec ?_
  simp
  exact q
def isT (n : Int) : D → Bool
  | .tup xs => decide ((xs.length : Int) = n)
  | _ => false
theorem tupof_spec {d : D} {n : Int} (q : Q (.val (.bl (isT n d))) J) : Ex X (F_tuple_of [.val d, .val (.int n)] J) Q := by
  unfold F_tuple_of B_tuple_of
  rw [Ex_mkF]
  cases d with
  | tup xs =>
    simp [startE, dIsa, isa, isaS, tyName]
    have e : ((xs.length : Int) == n) = decide ((xs.length : Int) = n) := by by_cases h : (xs.length : Int) = n <;> simp [h]
    rw [e]
    exact q
  | _ => simp [startE, dIsa, isa, isaS, tyName]; exact q
theorem isstep_spec {s d : D} {cs : List Ch} (hs : chs s cs) (q : Q (.val (.bl (stB cs.length d))) J) : Ex X (F_is_step [.val s, .val d] J) Q := by
  unfold F_is_step B_is_step
  rw [Ex_mkF]
  simp [startE]
  refine tupof_spec ?_
  by_cases h3 : ∃ x y z, d = .tup [x, y, z]
  · obtain ⟨x, y, z, rfl⟩ := h3
    have e : stB cs.length (.tup [x, y, z]) = (inB 0 ((cs.length : Int) - 1) x && (posB y && inB 0 1 z)) := rfl
    rw [e] at q
    simp [ix0, ix1, ix2, hs]
    refine number_spec ?_
    cases hx : inB 0 ((cs.length : Int) - 1) x
    · rw [hx] at q
      simp
      exact q
    · rw [hx] at q
      simp
      refine isint_spec ?_
      cases y with
      | int i =>
        have ge : dGe (.int i) (.int 0) = some (.val (.bl (decide (0 ≤ i)))) := rfl
        simp [isI, ge]
        by_cases hi : 0 ≤ i
        · simp [hi]
          refine within_spec ?_
          simpa [posB, hi] using q
        · simp [hi]
          simpa [posB, hi] using q
      | _ => simp [isI]; simpa [posB] using q
  · have e : stB cs.length d = false := by
      unfold stB
      split
      · exact (h3 ⟨_, _, _, rfl⟩).elim
      · rfl
    have e2 : isT 3 d = false := by
      cases d with
      | tup xs =>
        match xs, h3 with
        | [], _ => rfl
        | [_], _ => rfl
        | [_, _], _ => rfl
        | [x, y, z], h3 => exact (h3 ⟨x, y, z, rfl⟩).elim
        | x :: y :: z :: u :: l, _ => simp [isT]; omega
      | _ => rfl
    rw [e] at q
    rw [e2]
    simp
    exact q
theorem is_spec {s d : D} {cs : List Ch} {nm due : Bool} (hs : chs s cs) (e : stB cs.length d = due) (q : Q (.val (.bl true)) J) : Ex X (F_l_is [.val s, .val d, .val (.bl nm), .val (.bl due)] J) Q := by
  have q' : ∀ c : Bool, dIsB (.bl c) (.bl c) = some (.val (.bl true)) := fun c => by cases c <;> rfl
  unfold F_l_is B_l_is
  rw [Ex_mkF]
  cases nm <;> (
    simp [startE, permute]
    refine isstep_spec hs ?_
    rw [e]
    cases due <;> (simp [q']; exact q))
theorem great_e : dMul (.int (10 ^ 45)) (.int (10 ^ 45)) = some (.val (.int (10 ^ 45 * 10 ^ 45))) := by with_unfolding_all rfl
theorem pow_e : dPow (.int 10) (.int 45) = some (.val (.int (10 ^ 45))) := by with_unfolding_all rfl
end K09
set_option Elab.async false
set_option linter.all false
set_option maxRecDepth 100000
set_option maxHeartbeats 4000000
set_option autoImplicit false
namespace K09
open PySem L2 L2.Pz
variable {X : XP} {Q : HV → Jr → Prop} {T J : Jr} {a r : List D} {env : En} {b : Nat}
theorem ixMem {ds : List D} {v : Int} (h0 : 0 ≤ v) (h1 : v < ds.length) : ∃ d ∈ ds, dIx (.lst ds) (.int v) = some (.val d) := by
  refine ⟨ds[v.toNat]'(by omega), List.getElem_mem _, ?_⟩
  show (atI ds v).map HV.val = _
  rw [atI_in h0 h1]
  rfl
theorem i0 {x y z : D} : dIx (.lst [x, y, z]) (.int 0) = some (.val x) := rfl
theorem i1 {x y z : D} : dIx (.lst [x, y, z]) (.int 1) = some (.val y) := rfl
theorem i2 {x y z : D} : dIx (.lst [x, y, z]) (.int 2) = some (.val z) := rfl
theorem max_i {x y : Int} : dMax (.int x) (.int y) = some (.val (.int (if x < y then y else x))) := rfl
theorem neg_i {x : Int} : dNeg (.int x) = some (.val (.int (-x))) := rfl
/-- what may not stand for the number, the place, the way -/
structure Bad3 (m : Int) (ns ps ws : List D) : Prop where
  n : ∀ d ∈ ns, inB 0 (m - 1) d = false ∧ isP d = true
  p : ∀ d ∈ ps, posB d = false ∧ isP d = true
  w : ∀ d ∈ ws, inB 0 1 d = false ∧ isP d = true
  n5 : 5 ≤ ns.length
  p3 : 3 ≤ ps.length
  w4 : 4 ≤ ws.length
theorem stB_n {m : Int} {x y z : D} (h : inB 0 (m - 1) x = false) : stB m (.tup [x, y, z]) = false := by show (_ && _) = _; rw [h]; rfl
theorem stB_p {m : Int} {x y z : D} (h : posB y = false) : stB m (.tup [x, y, z]) = false := by show (_ && (_ && _)) = _; rw [h]; simp
theorem stB_w {m : Int} {x y z : D} (h : inB 0 1 z = false) : stB m (.tup [x, y, z]) = false := by show (_ && (_ && _)) = _; rw [h]; simp
theorem ne3l {x y z : Int} : dNe (.lst [.int x, .int y, .int z]) (.lst [.int x, .int y, .int z]) = some (.val (.bl false)) := by
  have : dNe (.lst [.int x, .int y, .int z]) (.lst [.int x, .int y, .int z]) = some (.val (.bl (!(x == x && (y == y && (z == z && true)))))) := by with_unfolding_all rfl
  rw [this]; simp
theorem right_stB {m x y z : Int} (x0 : 0 ≤ x) (x1 : x < if (1 : Int) < m then m else 1) (hm : 0 ≤ m) (y0 : 0 ≤ y) (z0 : 0 ≤ z) (z1 : z < 2) : stB m (.tup [.int x, .int y, .int z]) = decide (0 < m) := by
  show ((decide (0 ≤ x) && decide (x ≤ m - 1)) && (decide (0 ≤ y) && (decide (0 ≤ z) && decide (z ≤ 1)))) = _
  have : x < m ↔ 0 < m := by split at x1 <;> omega
  rw [decide_eq_true x0, decide_eq_true y0, decide_eq_true z0, decide_eq_true (show z ≤ 1 by omega)]
  by_cases h : 0 < m
  · rw [decide_eq_true (show x ≤ m - 1 by omega), decide_eq_true h]; rfl
  · rw [decide_eq_false (show ¬ x ≤ m - 1 by omega), decide_eq_false h]; rfl
theorem dl_l {ds : List D} : dList (.lst ds) = some (.new ds) := rfl
abbrev evT (s : D) (nm : Bool) (m G : Int) (ns ps ws : List D) (l : List (Option HV)) : En := some (.jar 1) :: some (.val s) :: some (.val (.bl nm)) :: some (.val (.int m)) :: some (.val (.int G)) :: some (.val (.lst ns)) :: some (.val (.lst ps)) :: some (.val (.lst ws)) :: l
def badB : SF := (sSeq (sNew 17 (eUn dList (eName 10)))
  (sSeq (sSetI 17 (eName 11) (eName 16))
  (sIf (bNot (bTruth (eCall F_l_is [(eName 1), (eUn dTuple (eName 17)), (eName 2), (eC (.bl false))]))) (sRet (eNorm (eC (.bl false)))) sNext)))
theorem bad_spec {s : D} {cs : List Ch} {nm : Bool} {G : Int} {ns ps ws : List D} {x8 x9 x12 x13 x14 x15 x17 : Option HV} {P : Po} {ly : List (List D)} {x y z : Int} {d : D} {at' n : Nat} (hn : n ≤ ly.length + 2)
    (hs : chs s cs) (hd : isP d = true) (hb : (at' = 0 ∧ inB 0 (cs.length - 1) d = false) ∨ (at' = 1 ∧ posB d = false) ∨ (at' = 2 ∧ inB 0 1 d = false))
    (q : ∀ x17 v, P.nx (evT s nm cs.length G ns ps ws [x8, x9, some (.val (.lst [.int x, .int y, .int z])), some (.val (.int at')), x12, x13, x14, x15, some (.val d), x17]) (a :: r :: (ly ++ [v]))) :
    Sx P (badB n (evT s nm cs.length G ns ps ws [x8, x9, some (.val (.lst [.int x, .int y, .int z])), some (.val (.int at')), x12, x13, x14, x15, some (.val d), x17]) (a :: r :: ly)) := by
  unfold badB
  simp [dl_l]
  refine ⟨by omega, ?_⟩
  rcases hb with ⟨rfl, h⟩ | ⟨rfl, h⟩ | ⟨rfl, h⟩ <;> (
    simp [ixN, dt_l, hd]
    first
    | refine is_spec hs (stB_n h) ?_
    | refine is_spec hs (stB_p h) ?_
    | refine is_spec hs (stB_w h) ?_
    simp
    exact q _ _)
def mixB : SF := (sSeq (sNew 17 (eLst [(eBin dIx (eName 5) (eCall F_l_next [(eName 0), (eC (.int 5))])), (eBin dIx (eName 6) (eCall F_l_next [(eName 0), (eC (.int 3))])), (eBin dIx (eName 7) (eCall F_l_next [(eName 0), (eC (.int 4))]))]))
  (sSeq (sSetI 17 (eName 11) (eBin dIx (eName 10) (eName 11)))
  (sIf (bNot (bTruth (eCall F_l_is [(eName 1), (eUn dTuple (eName 17)), (eName 2), (eC (.bl false))]))) (sRet (eNorm (eC (.bl false)))) sNext)))
theorem mix_spec {s : D} {cs : List Ch} {nm : Bool} {G : Int} {ns ps ws : List D} {x8 x9 x12 x13 x14 x15 x16 x17 : Option HV} {P : Po} {ly : List (List D)} {x y z : Int} {at' n : Nat} (hn : n ≤ ly.length + 2)
    (hs : chs s cs) (hB : Bad3 cs.length ns ps ws) (ha : at' < 3) (hj : Rb b a r) (hb : b + 3 ≤ LIM)
    (q : ∀ x17 v a r, Rb (b + 3) a r → P.nx (evT s nm cs.length G ns ps ws [x8, x9, some (.val (.lst [.int x, .int y, .int z])), some (.val (.int at')), x12, x13, x14, x15, x16, x17]) (a :: r :: (ly ++ [v]))) :
    Sx P (mixB n (evT s nm cs.length G ns ps ws [x8, x9, some (.val (.lst [.int x, .int y, .int z])), some (.val (.int at')), x12, x13, x14, x15, x16, x17]) (a :: r :: ly)) := by
  have hL : (LIM : Nat) = 1000000000 := rfl
  have h5 := hB.n5
  have h3 := hB.p3
  have h4 := hB.w4
  unfold mixB
  simp
  refine next_spec hj (by omega) (by decide) (by decide) fun u a1 r1 u0 u1 hj1 => ?_
  obtain ⟨d1, m1, e1⟩ := ixMem (ds := ns) u0 (by omega)
  obtain ⟨f1, g1⟩ := hB.n _ m1
  simp [e1]
  refine next_spec hj1 (by omega) (by decide) (by decide) fun u2 a2 r2 u20 u21 hj2 => ?_
  obtain ⟨d2, m2, e2⟩ := ixMem (ds := ps) u20 (by omega)
  obtain ⟨f2, g2⟩ := hB.p _ m2
  simp [e2]
  refine next_spec hj2 (by omega) (by decide) (by decide) fun u3 a3 r3 u30 u31 hj3 => ?_
  obtain ⟨d3, m3, e3⟩ := ixMem (ds := ws) u30 (by omega)
  obtain ⟨f3, g3⟩ := hB.w _ m3
  simp [e3]
  refine ⟨by decide, by omega, ?_⟩
  have hat : at' = 0 ∨ at' = 1 ∨ at' = 2 := by omega
  rcases hat with rfl | rfl | rfl <;> (
    simp [ixN, dt_l, g1, g2, g3, i0, i1, i2]
    first
    | refine is_spec hs (stB_n f1) ?_
    | refine is_spec hs (stB_p f2) ?_
    simp
    exact q _ _ _ _ hj3)
end K09
set_option Elab.async false
set_option linter.all false
set_option maxRecDepth 100000
set_option maxHeartbeats 4000000
set_option autoImplicit false
namespace K09
open PySem L2 L2.Pz
variable {X : XP} {Q : HV → Jr → Prop} {T J : Jr} {a r : List D} {env : En} {b : Nat}
theorem d5_eq : D_l_things_5 = sSeq (sFor (iRange1 (eC (.int 2))) (tgName 8) (sSeq (sSet 10 (eLst [(eCall F_l_next [(eName 0), (eBin dMax (eC (.int 1)) (eName 3))]), (eBin dIx (eLst [(eC (.int 0)), (eC (.int 1)), (eCall F_l_next [(eName 0), (eC (.int 14))]), (eC (.int 99)), (eName 4)]) (eCall F_l_next [(eName 0), (eC (.int 5))])), (eCall F_l_next [(eName 0), (eC (.int 2))])]))
  (sSeq (sIf (bNot (bTruth (eCall F_l_is [(eName 1), (eUn dTuple (eName 10)), (eName 2), (eBin dGt (eName 3) (eC (.int 0)))]))) (sRet (eNorm (eC (.bl false)))) sNext)
  (sSeq (sFor (iRange1 (eC (.int 3))) (tgName 11) (sSeq (sFor (iAny (eBin dIx (eLst [(eName 5), (eName 6), (eName 7)]) (eName 11))) (tgName 16) badB) mixB))
  (sSeq (sSet 12 (eUn dList (eName 10)))
  (sSeq (sSet 13 (eLst [(eName 12), (eTup [(eBin dIx (eName 10) (eC (.int 0))), (eBin dIx (eName 10) (eC (.int 1)))]), (eTup [(eBin dIx (eName 10) (eC (.int 0))), (eBin dIx (eName 10) (eC (.int 1))), (eBin dIx (eName 10) (eC (.int 2))), (eC (.int 0))]), (eTup []), (eC .non), (eC (.bl true)), (eC (.int 0)), (eC (.int 1)), (eC (.str "")), (eC (.str "0 0 1")), (eTup [(eUn dTuple (eName 10))])]))
  (sSeq (sSet 13 (eBin dAdd (eName 13) (eLst [(eLst [(eUn dTuple (eName 10))]), (eTup [(eUn dTuple (eName 10)), (eUn dTuple (eName 10)), (eUn dTuple (eName 10))]), (eTup [(eName 10)]), (eC (.str "001")), (eName 4), (eTup [(eBin dIx (eName 10) (eC (.int 0)))])])))
  (sSeq (sFor (iAny (eName 13)) (tgName 14) (sIf (bNot (bTruth (eCall F_l_is [(eName 1), (eName 14), (eName 2), (eC (.bl false))]))) (sRet (eNorm (eC (.bl false)))) sNext))
  (sIf (bOr (bCmp dNe (eName 12) (eName 10)) (bOr (bCmp dNe (eUn dLen (eName 12)) (eC (.int 3))) (bNot (bTruth (eCall F_l_is [(eName 1), (eTup [(eBin dIx (eName 10) (eC (.int 0))), (eBin dIx (eName 10) (eC (.int 1))), (eBin dSub (eC (.int 1)) (eBin dIx (eName 10) (eC (.int 2))))]), (eName 2), (eBin dGt (eName 3) (eC (.int 0)))]))))) (sRet (eNorm (eC (.bl false)))) sNext))))))))) D_l_things_6 := rfl
theorem pick5 {v G : Int} {c : Int} (v0 : 0 ≤ v) (v1 : v < 5) (hc : 0 ≤ c) (hG : 0 ≤ G) : ∃ y : Int, 0 ≤ y ∧ dIx (.lst [.int 0, .int 1, .int c, .int 99, .int G]) (.int v) = some (.val (.int y)) := by
  obtain ⟨d, hd, e⟩ := ixMem (ds := [.int 0, .int 1, .int c, .int 99, .int G]) v0 v1
  simp only [List.mem_cons, List.not_mem_nil, or_false] at hd
  rcases hd with rfl | rfl | rfl | rfl | rfl
  · exact ⟨0, by decide, e⟩
  · exact ⟨1, by decide, e⟩
  · exact ⟨c, hc, e⟩
  · exact ⟨99, by decide, e⟩
  · exact ⟨G, hG, e⟩
theorem stB_big {m : Int} {d : D} (h : ∀ x y z, d ≠ .tup [x, y, z]) : stB m d = false := by
  unfold stB
  split
  · exact (h _ _ _ rfl).elim
  · rfl
theorem lap_spec {s : D} {cs : List Ch} {nm : Bool} {G : Int} {ns ps ws : List D} {x8 x9 x10 x11 x12 x13 x14 x15 x16 x17 : Option HV} {P : Po} {T ly : List (List D)} {n : Nat} (hn : n ≤ T.length + 2)
    (hs : chs s cs) (hc : cs.length ≤ 100) (hB : Bad3 cs.length ns ps ws) (hG : 200 ≤ G) (hj : Rb b a r) (hb : b + 30 ≤ LIM)
    (q : ∀ x8 x9 x10 x11 x12 x13 x14 x15 x16 x17 a' r' ly', Rb (b + 30) a' r' → Sx P (D_l_things_6 n (evT s nm cs.length G ns ps ws [x8, x9, x10, x11, x12, x13, x14, x15, x16, x17]) (a' :: r' :: (T ++ ly')))) :
    Sx P (D_l_things_5 n (evT s nm cs.length G ns ps ws [x8, x9, x10, x11, x12, x13, x14, x15, x16, x17]) (a :: r :: (T ++ ly))) := by
  have hL : (LIM : Nat) = 1000000000 := rfl
  rw [d5_eq]
  simp [Sx_for]
  refine ⟨by decide, ?_⟩
  refine Sx_loop (fun i env J => ∃ x8 x9 x10 x11 x12 x13 x14 x15 x16 x17 a' r' ly', env = evT s nm cs.length G ns ps ws [x8, x9, x10, x11, x12, x13, x14, x15, x16, x17] ∧ J = a' :: r' :: (T ++ ly') ∧ Rb (b + 13 * i) a' r') ⟨_, _, _, _, _, _, _, _, _, _, _, _, _, rfl, rfl, hj⟩ ?_ ?_
  · rintro i d env J hd ⟨x8, x9, x10, x11, x12, x13, x14, x15, x16, x17, a', r', ly', rfl, rfl, hj⟩
    have hi : i < 2 := (rgD_get hd).2
    simp [tgName, max_i]
    refine next_spec hj (by omega) (by split <;> omega) (by split <;> omega) fun x a1 r1 v0 v1 hj1 => ?_
    simp
    refine next_spec hj1 (by omega) (by decide) (by decide) fun c a2 r2 c0 c1 hj2 => ?_
    simp
    refine ⟨by decide, ?_⟩
    refine next_spec hj2 (by omega) (by decide) (by decide) fun u a3 r3 u0 u1 hj3 => ?_
    obtain ⟨y, y0, ey⟩ := pick5 (G := G) u0 u1 c0 (by omega)
    simp [ey]
    refine next_spec hj3 (by omega) (by decide) (by decide) fun z a4 r4 z0 z1 hj4 => ?_
    have hr : stB cs.length (.tup [.int x, .int y, .int z]) = decide (0 < cs.length) := by
      have := right_stB (m := cs.length) v0 v1 (by omega) y0 z0 z1
      simpa using this
    have hr' : stB cs.length (.tup [.int x, .int y, .int (1 - z)]) = decide (0 < cs.length) := by
      have := right_stB (m := cs.length) (z := 1 - z) v0 v1 (by omega) y0 (by omega) (by omega)
      simpa using this
    simp [dt_l, gt_i]
    refine ⟨by decide, is_spec hs hr ?_⟩
    simp [Sx_for]
    refine ⟨by decide, ?_⟩
    refine Sx_loop (fun j env J => ∃ x8 x9 x11 x12 x13 x14 x15 x16 x17 a' r' ly', env = evT s nm cs.length G ns ps ws [x8, x9, some (.val (.lst [.int x, .int y, .int z])), x11, x12, x13, x14, x15, x16, x17] ∧ J = a' :: r' :: (T ++ ly') ∧ Rb (b + 13 * i + 4 + 3 * j) a' r') ⟨_, _, _, _, _, _, _, _, _, _, _, _, rfl, rfl, hj4⟩ ?_ ?_
    · rintro j d env J hd ⟨x8, x9, x11, x12, x13, x14, x15, x16, x17, a', r', ly', rfl, rfl, hj⟩
      obtain ⟨rfl, hj3⟩ := rgD_get hd
      have hj3' : j < 3 := hj3
      have pls : ∀ ds : List D, (∀ d ∈ ds, isP d = true) → ds.all isP = true := fun ds h => List.all_eq_true.mpr h
      obtain ⟨ds, e, hds⟩ : ∃ ds : List D, dIx (.lst [.lst ns, .lst ps, .lst ws]) (.int (j : Int)) = some (.val (.lst ds)) ∧ ∀ d ∈ ds, isP d = true ∧ ((j = 0 ∧ inB 0 (cs.length - 1) d = false) ∨ (j = 1 ∧ posB d = false) ∨ (j = 2 ∧ inB 0 1 d = false)) := by
        rcases (by omega : j = 0 ∨ j = 1 ∨ j = 2) with rfl | rfl | rfl
        · exact ⟨ns, rfl, fun d hd => ⟨(hB.n d hd).2, .inl ⟨rfl, (hB.n d hd).1⟩⟩⟩
        · exact ⟨ps, rfl, fun d hd => ⟨(hB.p d hd).2, .inr (.inl ⟨rfl, (hB.p d hd).1⟩)⟩⟩
        · exact ⟨ws, rfl, fun d hd => ⟨(hB.w d hd).2, .inr (.inr ⟨rfl, (hB.w d hd).1⟩)⟩⟩
      simp [tgName, Sx_for, e]
      refine ⟨by decide, ?_⟩
      refine Sx_loop (fun k env J => ∃ x16 x17 ly', env = evT s nm cs.length G ns ps ws [x8, x9, some (.val (.lst [.int x, .int y, .int z])), some (.val (.int j)), x12, x13, x14, x15, x16, x17] ∧ J = a' :: r' :: (T ++ ly')) ⟨_, _, _, rfl, rfl⟩ ?_ ?_
      · rintro k d env J hd ⟨x16, x17, ly', rfl, rfl⟩
        obtain ⟨g1, g2⟩ := hds d (List.mem_of_getElem? hd)
        simp [tgName]
        refine bad_spec (by simp; omega) hs g1 g2 fun x17 v => ⟨⟨_, _, rfl⟩, _, by rw [List.append_assoc]⟩
      · rintro env J ⟨x16, x17, ly', rfl, rfl⟩
        simp
        refine mix_spec (by simp; omega) hs hB hj3' hj (by omega) fun x17 v a r hj => ⟨⟨_, _, _, _, _, _, _, _, _, rfl⟩, _, _, ⟨_, by rw [List.append_assoc]⟩, hj.mono (by omega)⟩
    · rintro env J ⟨x8, x9, x11, x12, x13, x14, x15, x16, x17, a', r', ly', rfl, rfl, hj⟩
      simp [dl_l, i0, i1, i2, dt_l, Sx_for, big, dAdd_ll]
      refine Sx_loop (fun k env J => ∃ x13 x14, env = evT s nm cs.length G ns ps ws [x8, x9, some (.val (.lst [.int x, .int y, .int z])), x11, some (.val (.lst [.int x, .int y, .int z])), x13, x14, x15, x16, x17] ∧ J = a' :: r' :: (T ++ ly')) ⟨_, _, rfl, rfl⟩ ?_ ?_
      · rintro k d env J hd ⟨x13, x14, rfl, rfl⟩
        have hm := List.mem_of_getElem? hd
        have hb : stB cs.length d = false := by
          simp only [List.mem_cons, List.not_mem_nil, or_false] at hm
          rcases hm with rfl | rfl | rfl | rfl | rfl | rfl | rfl | rfl | rfl | rfl | rfl | rfl | rfl | rfl | rfl | rfl | rfl <;> rfl
        simp [tgName]
        refine is_spec hs hb ?_
        simp
      · rintro env J ⟨x13, x14, rfl, rfl⟩
        simp [ne3l, i0, i1, i2, gt_i]
        refine ⟨by decide, is_spec hs hr' ?_⟩
        simp
        exact ⟨_, _, ⟨rfl, rfl⟩, hj.mono (by rw [rgD_len]; omega)⟩
  · rintro env J ⟨x8, x9, x10, x11, x12, x13, x14, x15, x16, x17, a', r', ly', rfl, rfl, hj⟩
    exact q _ _ _ _ _ _ _ _ _ _ _ _ _ (hj.mono (by rw [rgD_len]; omega))
theorem end_spec {s : D} {cs : List Ch} {nm : Bool} {G : Int} {ns ps ws : List D} {x8 x9 x10 x11 x12 x13 x14 x15 x16 x17 : Option HV} {T ly : List (List D)} (hs : chs s cs) (hG : 200 ≤ G) (q : Q (.val (.bl true)) (a :: r :: T)) :
    Sx (dfX X (T.length + 1 + 1) Q) (D_l_things_6 (T.length + 1 + 1) (evT s nm cs.length G ns ps ws [x8, x9, x10, x11, x12, x13, x14, x15, x16, x17]) (a :: r :: (T ++ ly))) := by
  simp [D_l_things_6, Sx_for]
  refine ⟨by decide, ?_⟩
  refine Sx_loop (fun i env J => ∃ x9 x15, env = evT s nm cs.length G ns ps ws [x8, x9, x10, x11, x12, x13, x14, x15, x16, x17] ∧ J = a :: r :: (T ++ ly)) ⟨_, _, rfl, rfl⟩ ?_ ?_
  · rintro i d env J hd ⟨x9, x15, rfl, rfl⟩
    have hm := List.mem_of_getElem? hd
    obtain ⟨p, rfl, hp⟩ : ∃ p : Int, d = .int p ∧ 0 ≤ p := by
      simp only [List.mem_cons, List.not_mem_nil, or_false] at hm
      rcases hm with rfl | rfl | rfl | rfl
      · exact ⟨_, rfl, by decide⟩
      · exact ⟨_, rfl, by decide⟩
      · exact ⟨_, rfl, by decide⟩
      · exact ⟨_, rfl, by omega⟩
    simp [tgName, Sx_for]
    refine ⟨by decide, ?_⟩
    refine Sx_loop (fun i env J => ∃ x15, env = evT s nm cs.length G ns ps ws [x8, some (.val (.int p)), x10, x11, x12, x13, x14, x15, x16, x17] ∧ J = a :: r :: (T ++ ly)) ⟨_, rfl, rfl⟩ ?_ ?_
    · rintro w d env J hd ⟨x15, rfl, rfl⟩
      obtain ⟨rfl, hw⟩ := rgD_get hd
      have hw : w < 2 := hw
      have h2 : stB cs.length (.tup [.int cs.length, .int p, .int w]) = false := stB_n (by simp [inB]; omega)
      simp [tgName, gt_i]
      by_cases hc : 0 < cs.length
      · have h3 : stB cs.length (.tup [.int (cs.length - 1), .int p, .int w]) = true := by
          simp [stB, inB, posB]
          omega
        rw [if_pos hc]
        refine ⟨by decide, is_spec hs h3 ?_⟩
        simp
        refine ⟨by decide, is_spec hs h2 ?_⟩
        simp
      · rw [if_neg hc]
        refine ⟨by decide, is_spec hs h2 ?_⟩
        simp
    · rintro env J ⟨x15, rfl, rfl⟩
      exact ⟨⟨_, _, rfl⟩, rfl⟩
  · rintro env J ⟨x9, x15, rfl, rfl⟩
    simp [D_l_things_7]
    exact q
end K09
set_option Elab.async false
set_option linter.all false
set_option maxRecDepth 100000
set_option maxHeartbeats 4000000
set_option autoImplicit false
namespace K09
open PySem L2 L2.Pz
variable {X : XP} {Q : HV → Jr → Prop} {T J : Jr} {a r : List D} {env : En} {b : Nat}
theorem GR_ge : ∃ G : Int, 10 ^ 45 * 10 ^ 45 - 1 = G ∧ 200 ≤ G := ⟨_, rfl, by decide⟩
theorem dsub {x y : Int} : dSub (.int x) (.int y) = some (.val (.int (x - y))) := rfl
theorem bad3 {m : Nat} {G u v w : Int} (hm : m ≤ 100) (hG : 200 ≤ G) (u0 : 0 ≤ u) (v0 : 0 ≤ v) (w0 : 0 ≤ w) : Bad3 m
    [.int (-1), .int m, .int ((m : Int) + 1 + u), .int G, .int (-G), .bl true, .bl false, .non, .str "0", .str "", .tup [.int 0], .tup [], .int (-(m : Int) - 1)]
    [.int (-1), .int (-1 - v), .int (-G), .bl true, .bl false, .non, .str "0", .str "1", .tup [.int 1], .tup []]
    [.int 2, .int (-1), .int (3 + w), .int G, .bl true, .bl false, .non, .str "1", .str "0", .tup [.int 1], .tup [.int 0]] where
  n := by
    intro d hd
    simp only [List.mem_cons, List.not_mem_nil, or_false] at hd
    rcases hd with rfl | rfl | rfl | rfl | rfl | rfl | rfl | rfl | rfl | rfl | rfl | rfl | rfl <;> (simp [inB, isP]; try omega)
  p := by
    intro d hd
    simp only [List.mem_cons, List.not_mem_nil, or_false] at hd
    rcases hd with rfl | rfl | rfl | rfl | rfl | rfl | rfl | rfl | rfl | rfl <;> (simp [posB, isP]; try omega)
  w := by
    intro d hd
    simp only [List.mem_cons, List.not_mem_nil, or_false] at hd
    rcases hd with rfl | rfl | rfl | rfl | rfl | rfl | rfl | rfl | rfl | rfl | rfl <;> (simp [inB, isP]; try omega)
  n5 := by simp
  p3 := by simp
  w4 := by simp
theorem things_spec {s : D} {cs : List Ch} {nm : Bool} (hs : chs s cs) (hc : cs.length ≤ 100) (hj : Rb b a r) (hb : b + 40 ≤ LIM) (q : ∀ a' r', Rb (b + 40) a' r' → Q (.val (.bl true)) (a' :: r' :: T)) :
    Ex X (F_l_things [.jar 1, .val s, .val (.bl nm)] (a :: r :: T)) Q := by
  have hL : (LIM : Nat) = 1000000000 := rfl
  unfold F_l_things
  rw [B_l_things_eq, Ex_mkF]
  simp [D_l_things_0, startE, hs]
  obtain ⟨G, hG, hG2⟩ := GR_ge
  simp [D_l_things_1, pow_e, great_e, dsub, hG, -Int.reducePow, -Int.reduceMul, -Int.reduceSub]
  simp [D_l_things_2, neg_i]
  refine next_spec hj (by omega) (by decide) (by decide) fun u a1 r1 u0 u1 hj1 => ?_
  simp [big]
  simp [D_l_things_3, neg_i]
  refine next_spec hj1 (by omega) (by decide) (by decide) fun v a2 r2 v0 v1 hj2 => ?_
  simp [big]
  simp [D_l_things_4, neg_i]
  refine next_spec hj2 (by omega) (by decide) (by decide) fun w a3 r3 w0 w1 hj3 => ?_
  simp [big]
  have hB := bad3 hc hG2 u0 v0 w0
  have hnil : T = T ++ [] := (List.append_nil T).symm
  have key := fun P q => lap_spec (P := P) (nm := nm) (x8 := none) (x9 := none) (x10 := none) (x11 := none) (x12 := none) (x13 := none) (x14 := none) (x15 := none) (x16 := none) (x17 := none) (T := T) (ly := []) (n := T.length + 1 + 1) (by omega) hs hc hB hG2 hj3 (by omega) q
  rw [List.append_nil] at key
  exact key _ fun _ _ _ _ _ _ _ _ _ _ a' r' ly' hj' => end_spec hs hG2 (q _ _ (hj'.mono (by omega)))
end K09
set_option Elab.async false
set_option linter.all false
set_option maxRecDepth 100000
set_option maxHeartbeats 4000000
set_option autoImplicit false
namespace K09
open PySem L2 L2.Pz
variable {X : XP} {Q : HV → Jr → Prop} {T J : Jr} {a r : List D} {env : En} {b : Nat}
def hC (a d lo tp : Int) : List Ch := [.held a, .idle d, .loose lo tp, .same lo tp]
def hR (a d lo tp : Int) : List Int := [a, a, lo, tp, d]
abbrev Tb := List ((Nat × Nat × Bool) × List Int)
def hT (a d lo tp : Int) : Tb := [((0, 0, false), [a, lo, tp, d]), ((0, 0, true), [a, a, a, lo, tp, d]), ((0, 1, true), [a, a, a, lo, tp, d]), ((1, 0, true), [d, a, a, lo, tp, d]), ((1, 1, true), [a, d, a, lo, tp, d]),
  ((1, 2, true), [a, a, d, lo, tp, d]), ((1, 3, true), [a, a, lo, d, tp, d]), ((1, 4, false), [a, a, lo, tp]), ((1, 4, true), [a, a, lo, tp, d, d]), ((1, 5, true), [a, a, lo, tp, d, d]), ((2, 2, true), [a, a, tp, lo, d]), ((3, 2, true), [a, a, tp, tp, d]), ((3, 3, false), [a, a, lo, lo, d])]
def hN : List (Nat × Nat × Bool) := [(0, 1, false), (0, 2, true), (0, 2, false), (1, 3, false), (1, 6, true), (1, 5, false), (2, 2, false), (2, 3, true), (3, 2, false), (3, 3, true), (3, 5, true)]
def stE (e : Nat × Nat × Bool) : D := stD e.1 e.2.1 e.2.2
def chkD (cs : List Ch) (row : List Int) : List (Nat × Nat × Bool) := (List.range cs.length).flatMap fun n => match cs[n]? with
  | some c => (List.range (row.length + 1)).flatMap fun p => (if (stP c row p false).isSome = true then [(n, p, false)] else []) ++ (if (stP c row p true).isSome = true then [(n, p, true)] else [])
  | none => []
theorem chkD_eq {cs : List Ch} {row : List Int} : dueL cs row = (chkD cs row).map stE := by
  unfold dueL chkD
  rw [List.map_flatMap]
  congr 1
  funext n
  unfold numL
  cases cs[n]? with
  | none => rfl
  | some c =>
    dsimp only
    rw [List.map_flatMap]
    congr 1
    funext p
    unfold one wy
    rw [List.map_append]
    congr 1 <;> (split <;> rfl)
def hChk (a d lo tp : Int) : Bool :=
  (chkD (hC a d lo tp) (hR a d lo tp) == (hT a d lo tp).map (·.1)) &&
  ((hT a d lo tp).all fun e => match (hC a d lo tp)[e.1.1]? with
    | some c => stP c (hR a d lo tp) e.1.2.1 e.1.2.2 == some e.2
    | none => false) &&
  (hN.all fun e => match (hC a d lo tp)[e.1]? with
    | some c => stP c (hR a d lo tp) e.2.1 e.2.2 == none
    | none => false) &&
  (stP (.loose lo tp) [tp, lo] 0 false == some [lo, tp]) && (stP (.loose lo tp) [tp, lo] 0 true == none) && (chkD (hC a d lo tp) [] == [(1, 0, true)])
def r4 : List Nat := [0, 1, 2, 3]
theorem hAll0 : (r4.all fun a => r4.all fun b => r4.all fun c => r4.all fun d => a == b || a == c || a == d || b == c || b == d || c == d || hChk (a : Int) (d : Int) (if (c : Int) < b then c else b) (if (c : Int) > b then c else b)) = true := by decide +kernel
theorem hAll {a b c d : Nat} (ha : a < 4) (hb : b < 4) (hc : c < 4) (hd : d < 4) (ab : a ≠ b) (ac : a ≠ c) (ad : a ≠ d) (bc : b ≠ c) (bd : b ≠ d) (cd : c ≠ d) : hChk (a : Int) (d : Int) (if (c : Int) < b then c else b) (if (c : Int) > b then c else b) = true := by
  have m : ∀ x, x < 4 → x ∈ r4 := fun x h => by
    unfold r4
    rcases (by omega : x = 0 ∨ x = 1 ∨ x = 2 ∨ x = 3) with rfl | rfl | rfl | rfl <;> simp
  have h := hAll0
  have h := List.all_eq_true.mp h a (m a ha)
  have h := List.all_eq_true.mp h b (m b hb)
  have h := List.all_eq_true.mp h c (m c hc)
  have h := List.all_eq_true.mp h d (m d hd)
  simpa [ab, ac, ad, bc, bd, cd] using h
theorem isstE {cs : List Ch} {e : Nat × Nat × Bool} (h : e.1 < cs.length) : stB cs.length (stE e) = true := by
  obtain ⟨n, p, w⟩ := e
  have h : n < cs.length := h
  show ((decide ((0 : Int) ≤ n) && decide ((n : Int) ≤ cs.length - 1)) && (decide ((0 : Int) ≤ p) && (decide (0 ≤ wI w) && decide (wI w ≤ 1)))) = true
  rw [decide_eq_true (by omega), decide_eq_true (by omega), decide_eq_true (by omega)]
  cases w <;> rfl
end K09
set_option Elab.async false
set_option linter.all false
set_option maxRecDepth 100000
set_option maxHeartbeats 4000000
set_option autoImplicit false
namespace K09
open PySem L2 L2.Pz
variable {X : XP} {Q : HV → Jr → Prop} {T J : Jr} {a r : List D} {env : En} {b : Nat}
theorem min_i {x y : Int} : dMin (.int x) (.int y) = some (.val (.int (if y < x then y else x))) := rfl
theorem max_i' {x y : Int} : dMax (.int x) (.int y) = some (.val (.int (if y > x then y else x))) := rfl
theorem four_of {told left : List D} (h : (told ++ left).Perm [.int 0, .int 1, .int 2, .int 3]) (hl : told.length = 4) : ∃ a b c d : Nat, told = [.int a, .int b, .int c, .int d] ∧ a < 4 ∧ b < 4 ∧ c < 4 ∧ d < 4 ∧ a ≠ b ∧ a ≠ c ∧ a ≠ d ∧ b ≠ c ∧ b ≠ d ∧ c ≠ d := by
  have hlen := h.length_eq
  simp at hlen
  have hnil : left = [] := by cases left with | nil => rfl | cons _ _ => simp at hlen; omega
  subst hnil
  rw [List.append_nil] at h
  have hn : ([.int 0, .int 1, .int 2, .int 3] : List D).Nodup := by simp
  have hnd := h.nodup_iff.mpr hn
  match told, hl with
  | [x, y, z, w], _ =>
    have key : ∀ e ∈ [x, y, z, w], ∃ n : Nat, e = D.int n ∧ n < 4 := fun e he => by
      have := h.mem_iff.mp he
      simp only [List.mem_cons, List.not_mem_nil, or_false] at this
      rcases this with rfl | rfl | rfl | rfl
      · exact ⟨0, rfl, by decide⟩
      · exact ⟨1, rfl, by decide⟩
      · exact ⟨2, rfl, by decide⟩
      · exact ⟨3, rfl, by decide⟩
    obtain ⟨a, rfl, ha⟩ := key x (by simp)
    obtain ⟨b, rfl, hb⟩ := key y (by simp)
    obtain ⟨c, rfl, hc⟩ := key z (by simp)
    obtain ⟨d, rfl, hd⟩ := key w (by simp)
    simp at hnd
    refine ⟨a, b, c, d, rfl, ha, hb, hc, hd, ?_⟩
    omega
abbrev hS (a d lo tp : Int) : D := .tup [.tup [.str "a", .str "b", .str "c", .str "d"], .tup ((hC a d lo tp).map Ch.d)]
def DUE : List D := [(0, 0, false), (0, 0, true), (0, 1, true), (1, 0, true), (1, 1, true), (1, 2, true), (1, 3, true), (1, 4, false), (1, 4, true), (1, 5, true), (2, 2, true), (3, 2, true), (3, 3, false)].map stE
def RWx (a d lo tp : Int) : List D := [.tup [.int a, .int lo, .int tp, .int d], .tup [.int a, .int a, .int a, .int lo, .int tp, .int d], .tup [.int a, .int a, .int a, .int lo, .int tp, .int d], .tup [.int d, .int a, .int a, .int lo, .int tp, .int d], .tup [.int a, .int d, .int a, .int lo, .int tp, .int d], .tup [.int a, .int a, .int d, .int lo, .int tp, .int d], .tup [.int a, .int a, .int lo, .int d, .int tp, .int d], .tup [.int a, .int a, .int lo, .int tp], .tup [.int a, .int a, .int lo, .int tp, .int d, .int d], .tup [.int a, .int a, .int lo, .int tp, .int d, .int d], .tup [.int a, .int a, .int tp, .int lo, .int d], .tup [.int a, .int a, .int tp, .int tp, .int d], .tup [.int a, .int a, .int lo, .int lo, .int d]]
theorem RWx_eq {a d lo tp : Int} : RWx a d lo tp = (hT a d lo tp).map fun e => rT e.2 := by simp [RWx, hT]
theorem hand3 {nm : Bool} {s : D} {cs : List Ch} {row : List Int} {DU RW : List D} {a' d lo tp : Int} {x4 x8 x9 x11 x13 x14 : Option HV} (hs : chs s cs) (hcl : cs.length = 4) (hlr : row.length ≤ 1000) (hDl : DU.length = 13)
    (hgD : ∀ k : Nat, k < 13 → ∃ (e : (Nat × Nat × Bool) × List Int) (h : e.1.1 < cs.length), stP cs[e.1.1] row e.1.2.1 e.1.2.2 = some e.2 ∧ dIx (.lst DU) (.int k) = some (.val (stE e.1)) ∧ dIx (.lst RW) (.int k) = some (.val (rT e.2)))
    (k3 : ∀ e ∈ hN, ∃ h : e.1 < cs.length, stP cs[e.1] row e.2.1 e.2.2 = none) (hc2 : ∃ h : 2 < cs.length, cs[2] = .loose lo tp)
    (k6 : dueL cs [] = [stE (1, 0, true)])
    (k4 : stP (.loose lo tp) [tp, lo] 0 false = some [lo, tp]) (k5 : stP (.loose lo tp) [tp, lo] 0 true = none)
    (q : Q (.val (.bl true)) (a :: r :: T)) :
    Sx (dfX X (T.length + 1 + 1) Q) (D_l_by_hand_14 (T.length + 1 + 1)
      [some (.jar 1), some (.val (.bl nm)), some (.val (.int lo)), some (.val (.int tp)), x4, some (.val s), some (.val (rT row)), some (.val (.lst DU)), x8, x9, some (.val (.lst RW)), x11, some (.val (.int a')), x13, x14, some (.val (.int d))] (a :: r :: T)) := by
  have hfr0 := fun {Q : HV → Jr → Prop} {X : XP} {J : Jr} => from_spec (Q := Q) (X := X) (J := J) (row := []) hs (by omega) (show 0 ≤ 1000 by decide)
  rw [k6] at hfr0
  have hst := fun {Q : HV → Jr → Prop} {X : XP} {J : Jr} {n p : Nat} {w : Bool} (h : n < cs.length) => stepped_spec (Q := Q) (X := X) (J := J) (row := row) (p := p) (w := w) hs h hlr
  have hOl : ∀ {e : Nat × Nat × Bool} (h : e.1 < cs.length) (l : List Int), stP cs[e.1] row e.2.1 e.2.2 = some l → l.length ≤ 2000 := fun h l e => stP_len hlr l e
  simp [D_l_by_hand_14, Sx_for, hDl]
  refine ⟨by decide, ?_⟩
  refine Sx_loop (fun i env J => ∃ x9, env = [some (.jar 1), some (.val (.bl nm)), some (.val (.int lo)), some (.val (.int tp)), x4, some (.val s), some (.val (rT row)), some (.val (.lst DU)), x8, x9, some (.val (.lst RW)), x11, some (.val (.int a')), x13, x14, some (.val (.int d))] ∧ J = a :: r :: T) ⟨_, rfl, rfl⟩ ?_ ?_
  · rintro i d' env J hd ⟨x9, rfl, rfl⟩
    obtain ⟨rfl, hi⟩ := rgD_get hd
    obtain ⟨e, h, hst1, e1, e3⟩ := hgD i hi
    have hl := hOl h e.2 hst1
    simp [tgName, e1, e3]
    refine hst (n := e.1.1) (p := e.1.2.1) (w := e.1.2.2) h ?_
    rw [hst1]
    simp [optD]
    refine rowis_spec (o := some e.2) (fun l e => by cases e; exact hl) ?_
    simp
    refine is_spec hs (isstE h) ?_
    simp
  · rintro env J ⟨x9, rfl, rfl⟩
    have hNe : hN.map stE = [.tup [.int 0, .int 1, .int 0], .tup [.int 0, .int 2, .int 1], .tup [.int 0, .int 2, .int 0], .tup [.int 1, .int 3, .int 0], .tup [.int 1, .int 6, .int 1], .tup [.int 1, .int 5, .int 0], .tup [.int 2, .int 2, .int 0], .tup [.int 2, .int 3, .int 1], .tup [.int 3, .int 2, .int 0], .tup [.int 3, .int 3, .int 1], .tup [.int 3, .int 5, .int 1]] := rfl
    simp [D_l_by_hand_15, Sx_for, big]
    rw [← hNe]
    refine Sx_loop (fun i env J => ∃ x8 x11, env = [some (.jar 1), some (.val (.bl nm)), some (.val (.int lo)), some (.val (.int tp)), x4, some (.val s), some (.val (rT row)), some (.val (.lst DU)), x8, x9, some (.val (.lst RW)), x11, some (.val (.int a')), x13, x14, some (.val (.int d))] ∧ J = a :: r :: T) ⟨_, _, rfl, rfl⟩ ?_ ?_
    · rintro i d' env J hd ⟨x8, x11, rfl, rfl⟩
      obtain ⟨e, he, rfl⟩ := List.mem_map.mp (List.mem_of_getElem? hd)
      obtain ⟨h, hst1⟩ := k3 e he
      cases nm <;> (
        simp [tgName, permute]
        refine hst (n := e.1) (p := e.2.1) (w := e.2.2) h ?_
        rw [hst1]
        simp [optD, isnn_v]
        refine is_spec hs (isstE h) ?_
        simp)
    · rintro env J ⟨x8, x11, rfl, rfl⟩
      obtain ⟨h2, hc2⟩ := hc2
      simp [D_l_by_hand_16, big]
      refine stepped_spec (row := [tp, lo]) (n := 2) (p := 0) (w := false) hs h2 (show 2 ≤ 1000 by decide) ?_
      rw [hc2, k4]
      simp [optD]
      refine rowis_spec (o := some [lo, tp]) (fun l e => by cases e; simp) ?_
      simp
      refine stepped_spec (row := [tp, lo]) (n := 2) (p := 0) (w := true) hs h2 (show 2 ≤ 1000 by decide) ?_
      rw [hc2, k5]
      simp [optD, isnn_v]
      simp [D_l_by_hand_17, big]
      refine hfr0 ?_
      simp [D_l_by_hand_18, dIsa, jt, ix0, big]
      refine rowis_spec (o := some [1, 0, 1]) (fun l e => by cases e; simp) ?_
      simp
      exact q
theorem hand2 {nm : Bool} {s : D} {a' d lo tp : Int} {x4 x8 x9 x10 x11 x13 x14 : Option HV} (hs : chs s (hC a' d lo tp))
    (k1 : dueL (hC a' d lo tp) (hR a' d lo tp) = DUE) (k6 : dueL (hC a' d lo tp) [] = [stE (1, 0, true)])
    (k2 : ∀ e ∈ hT a' d lo tp, ∃ h : e.1.1 < (hC a' d lo tp).length, stP (hC a' d lo tp)[e.1.1] (hR a' d lo tp) e.1.2.1 e.1.2.2 = some e.2)
    (k3 : ∀ e ∈ hN, ∃ h : e.1 < (hC a' d lo tp).length, stP (hC a' d lo tp)[e.1] (hR a' d lo tp) e.2.1 e.2.2 = none)
    (k4 : stP (.loose lo tp) [tp, lo] 0 false = some [lo, tp]) (k5 : stP (.loose lo tp) [tp, lo] 0 true = none)
    (q : Q (.val (.bl true)) (a :: r :: T)) :
    Sx (dfX X (T.length + 1 + 1) Q) (D_l_by_hand_8 (T.length + 1 + 1)
      [some (.jar 1), some (.val (.bl nm)), some (.val (.int lo)), some (.val (.int tp)), x4, some (.val s), some (.val (rT (hR a' d lo tp))), some (.val (.lst DUE)), x8, x9, x10, x11, some (.val (.int a')), x13, x14, some (.val (.int d))] (a :: r :: T)) := by
  have hfr := fun {Q : HV → Jr → Prop} {X : XP} {J : Jr} => from_spec (Q := Q) (X := X) (J := J) (row := hR a' d lo tp) hs (show 4 ≤ 100 by decide) (show 5 ≤ 1000 by decide)
  have hfr0 := fun {Q : HV → Jr → Prop} {X : XP} {J : Jr} => from_spec (Q := Q) (X := X) (J := J) (row := []) hs (show 4 ≤ 100 by decide) (show 0 ≤ 1000 by decide)
  have hst := fun {Q : HV → Jr → Prop} {X : XP} {J : Jr} {n p : Nat} {w : Bool} (h : n < (hC a' d lo tp).length) => stepped_spec (Q := Q) (X := X) (J := J) (row := hR a' d lo tp) (p := p) (w := w) hs h (show 5 ≤ 1000 by decide)
  have hlr : (hR a' d lo tp).length ≤ 1000 := show 5 ≤ 1000 by decide
  rw [k1] at hfr
  rw [k6] at hfr0
  have hdT : DUE = (hT a' d lo tp).map fun e => stE e.1 := rfl
  have hgD : ∀ k : Nat, k < 13 → ∃ e ∈ hT a' d lo tp, dIx (.lst DUE) (.int k) = some (.val (stE e.1)) ∧ dIx (.tup DUE) (.int k) = some (.val (stE e.1)) ∧ dIx (.lst ((hT a' d lo tp).map fun e => rT e.2)) (.int k) = some (.val (rT e.2)) := by
    intro k hk
    have hk2 : k < (hT a' d lo tp).length := hk
    refine ⟨(hT a' d lo tp)[k], List.getElem_mem _, ?_, ?_, ?_⟩
    · refine (ixT (ds := DUE) hk).trans ?_
      simp only [hdT, List.getElem_map]
    · refine (ixT (ds := DUE) hk).trans ?_
      simp only [hdT, List.getElem_map]
    · refine (ixT (ds := (hT a' d lo tp).map fun e => rT e.2) (by rw [List.length_map]; exact hk)).trans ?_
      simp only [List.getElem_map]
  have hDl : DUE.length = 13 := rfl
  have hDp : DUE.all isP = true := rfl
  generalize hro : hR a' d lo tp = row at *
  simp [D_l_by_hand_8]
  refine hfr ?_
  generalize DUE = DU at *
  simp [D_l_by_hand_9, dIsa, jt]
  simp [D_l_by_hand_10, Sx_for, hDl]
  refine ⟨by decide, ?_⟩
  refine Sx_loop (fun i env J => ∃ x9, env = [some (.jar 1), some (.val (.bl nm)), some (.val (.int lo)), some (.val (.int tp)), x4, some (.val s), some (.val (rT row)), some (.val (.lst DU)), some (.val (.tup DU)), x9, x10, x11, some (.val (.int a')), x13, x14, some (.val (.int d))] ∧ J = a :: r :: T) ⟨_, rfl, rfl⟩ ?_ ?_
  · rintro i d' env J hd ⟨x9, rfl, rfl⟩
    obtain ⟨rfl, hi⟩ := rgD_get hd
    obtain ⟨e, _, e1, e2, _⟩ := hgD i hi
    simp [tgName, e1, e2]
    refine rowis_spec (o := some [(e.1.1 : Int), (e.1.2.1 : Int), wI e.1.2.2]) (fun l e => by cases e; simp) ?_
    simp
  · rintro env J ⟨x9, rfl, rfl⟩
    simp [D_l_by_hand_11, D_l_by_hand_12, D_l_by_hand_13, big, dAdd_ll]
    change Sx (dfX X (T.length + 1 + 1) Q) (D_l_by_hand_14 (T.length + 1 + 1) [some (.jar 1), some (.val (.bl nm)), some (.val (.int lo)), some (.val (.int tp)), x4, some (.val s), some (.val (rT row)), some (.val (.lst DU)), some (.val (.tup DU)), x9, some (.val (.lst (RWx a' d lo tp))), x11, some (.val (.int a')), x13, x14, some (.val (.int d))] (a :: r :: T))
    rw [RWx_eq]
    refine hand3 hs rfl hlr hDl (fun k hk => ?_) k3 ⟨show 2 < 4 by decide, rfl⟩ k6 k4 k5 q
    obtain ⟨e, he, e1, e2, e3⟩ := hgD k hk
    obtain ⟨h, hst1⟩ := k2 e he
    exact ⟨e, h, hst1, e1, e3⟩
theorem hand_spec {nm : Bool} (hj : Rb b a r) (hb : b + 1000 ≤ LIM) (q : ∀ a' r', Rb (b + 1000) a' r' → Q (.val (.bl true)) (a' :: r' :: T)) :
    Ex X (F_l_by_hand [.jar 1, .val (.bl nm)] (a :: r :: T)) Q := by
  have hL : (LIM : Nat) = 1000000000 := rfl
  unfold F_l_by_hand
  rw [B_l_by_hand_eq, Ex_mkF]
  simp [D_l_by_hand_0, startE, big]
  refine some_spec (ds := [.int 0, .int 1, .int 2, .int 3]) (n := 4) rfl trivial rfl (by decide) (by decide) hj (by omega) fun told left a' r' hp hl hj' => ?_
  obtain ⟨a, b, c, d, rfl, ha, hb, hc, hd, ab, ac, ad, bc, bd, cd⟩ := four_of hp hl
  have hchk : hChk (a : Int) (d : Int) (if c < b then (c : Int) else b) (if b < c then (c : Int) else b) = true := by
    have := hAll ha hb hc hd ab ac ad bc bd cd
    simpa using this
  simp [tgSeq, tgs, min_i, max_i', D_l_by_hand_1, D_l_by_hand_2]
  generalize (if c < b then (c : Int) else b) = lo at hchk
  generalize (if b < c then (c : Int) else b) = tp at hchk
  generalize (a : Int) = a at hchk
  generalize (d : Int) = d at hchk
  generalize (b : Int) = b'
  generalize (c : Int) = c
  simp only [hChk, Bool.and_eq_true, List.all_eq_true, beq_iff_eq] at hchk
  obtain ⟨⟨⟨⟨⟨k1, k2⟩, k3⟩, k4⟩, k5⟩, k6⟩ := hchk
  have hs : chs (hS a d lo tp) (hC a d lo tp) := rfl
  simp [D_l_by_hand_3, D_l_by_hand_4, D_l_by_hand_5, D_l_by_hand_6, D_l_by_hand_7, big, dAdd_ll]
  have w4 : ∀ {cs : List Ch} {row : List Int} {n p : Nat} {w : Bool} {o : Option (List Int)}, (match cs[n]? with | some c => stP c row p w == o | none => false) = true → ∃ h : n < cs.length, stP cs[n] row p w = o := by
    intro cs row n p w o h
    by_cases hn : n < cs.length
    · rw [List.getElem?_eq_getElem hn] at h
      exact ⟨hn, by simpa using h⟩
    · rw [List.getElem?_eq_none (by omega)] at h
      cases h
  refine hand2 (s := hS a d lo tp) hs ?_ ?_ (fun e he => w4 (k2 e he)) (fun e he => w4 (k3 e he)) k4 k5 (q _ _ hj')
  · rw [chkD_eq, k1]; rfl
  · rw [chkD_eq, k6]; rfl
end K09
set_option Elab.async false
set_option linter.all false
set_option maxRecDepth 100000
set_option maxHeartbeats 4000000
set_option autoImplicit false
namespace K09
open PySem L2 L2.Pz
variable {X : XP} {Q : HV → Jr → Prop} {T J : Jr} {a r : List D} {env : En} {b : Nat}
theorem row_spec {m n : Nat} (hm : 0 < m ∧ m < 100) (hn : n ≤ 100) (hj : Rb b a r) (hb : b + 200 ≤ LIM) (q : ∀ row a' r', row.length = n → Rb (b + 200) a' r' → Q (.val (rT row)) (a' :: r' :: T)) :
    Ex X (F_l_row [.jar 1, .val (.int m), .val (.int n)] (a :: r :: T)) Q := by
  have hL : (LIM : Nat) = 1000000000 := rfl
  have e0 : rgOk (n : Int) = true := by unfold rgOk; simp; omega
  unfold F_l_row
  rw [B_l_row_eq, Ex_mkF]
  simp [D_l_row_0, startE]
  refine next_spec hj (by omega) (by omega) (by omega) fun f a1 r1 f0 f1 hj1 => ?_
  simp [D_l_row_1]
  refine next_spec hj1 (by omega) (by omega) (by omega) fun t a2 r2 t0 t1 hj2 => ?_
  simp [D_l_row_2]
  simp [D_l_row_3, Sx_for, e0]
  refine Sx_loop (fun i env J => ∃ x6 row a' r', env = [some (.jar 1), some (.val (.int m)), some (.val (.int n)), some (.val (.int (1 + f))), some (.val (.int t)), some (.jar (T.length + 1 + 1)), x6] ∧ J = a' :: r' :: (T ++ [row.map D.int]) ∧ row.length = i ∧ Rb (b + 2 + i) a' r') ⟨_, [], a2, r2, rfl, by simp, rfl, hj2⟩ ?_ ?_
  · rintro i d env J hd ⟨x6, row, a', r', rfl, rfl, hl, hj⟩
    have hi := (rgD_get hd).2
    simp [tgName]
    refine next_spec hj (by omega) (by omega) (by omega) fun v a3 r3 v0 v1 hj3 => ?_
    simp [toInt_i]
    rw [mod_sm (by omega)]
    simp
    exact ⟨show _ < 16777216 by omega, row ++ [(v + t) % m], _, _, ⟨rfl, rfl, by simp⟩, by simp [hl], hj3.mono (by omega)⟩
  · rintro env J ⟨x6, row, a', r', rfl, rfl, hl, hj⟩
    rw [rgD_len] at hl hj
    have hp := allP_int (ns := row)
    simp [D_l_row_4, dt_l]
    simp at hp
    refine q row a' r' (by simpa using hl) (hj.mono (by omega))
theorem chs_of : ∀ {l : List D}, (∀ d ∈ l, ∃ c, d = Ch.d c) → ∃ cs : List Ch, l = cs.map Ch.d
  | [], _ => ⟨[], rfl⟩
  | d :: l, h => by
    obtain ⟨c, rfl⟩ := h d (by simp)
    obtain ⟨cs, rfl⟩ := chs_of (l := l) fun d hd => h d (by simp [hd])
    exact ⟨c :: cs, rfl⟩
theorem Ch_p (c : Ch) : isP c.d = true := by cases c <;> rfl
theorem chp {cs : List Ch} : (cs.map Ch.d).all isP = true := List.all_eq_true.mpr fun d hd => by
  obtain ⟨c, _, rfl⟩ := List.mem_map.mp hd
  exact Ch_p c
inductive KN : D → Bool → (Int → Option Int → Ch) → Prop where
  | held : KN (.str "held") true fun s _ => .held s
  | idle : KN (.str "idle") true fun s _ => .idle s
  | loose : KN (.str "loose") false fun s t => .loose s (t.getD 0)
  | same : KN (.str "same") false fun s t => .same s (t.getD 0)
abbrev hiL : D := .lst [.str "held", .str "idle"]
theorem in_held : dIn (.str "held") hiL = some (.val (.bl true)) := by with_unfolding_all rfl
theorem in_idle : dIn (.str "idle") hiL = some (.val (.bl true)) := by with_unfolding_all rfl
theorem in_loose : dIn (.str "loose") hiL = some (.val (.bl false)) := by with_unfolding_all rfl
theorem in_same : dIn (.str "same") hiL = some (.val (.bl false)) := by with_unfolding_all rfl
structure KD (kd : D) : Prop where
  out : (dIn kd hiL = some (.val (.bl true)) ∧ ∀ s : Int, ∃ c, D.tup [kd, .int s] = Ch.d c) ∨ (dIn kd hiL = some (.val (.bl false)) ∧ ∀ s t : Int, ∃ c, D.tup [kd, .int s, .int t] = Ch.d c)
theorem KD_held : KD (.str "held") := ⟨.inl ⟨in_held, fun s => ⟨.held s, rfl⟩⟩⟩
theorem KD_idle : KD (.str "idle") := ⟨.inl ⟨in_idle, fun s => ⟨.idle s, rfl⟩⟩⟩
theorem KD_loose : KD (.str "loose") := ⟨.inr ⟨in_loose, fun s t => ⟨.loose s t, rfl⟩⟩⟩
theorem KD_same : KD (.str "same") := ⟨.inr ⟨in_same, fun s t => ⟨.same s t, rfl⟩⟩⟩
section
variable {ly : List (List D)} {x y : List D}
theorem cellG : (a :: r :: (T ++ (ly ++ [x])))[T.length + ly.length + 1 + 1]? = some x := by
  rw [List.getElem?_cons_succ, List.getElem?_cons_succ, List.getElem?_append_right (by omega), List.getElem?_append_right (by omega)]
  have : T.length + ly.length - T.length - ly.length = 0 := by omega
  rw [this]; rfl
theorem cellS : (a :: r :: (T ++ (ly ++ [x]))).set (T.length + ly.length + 1 + 1) y = a :: r :: (T ++ (ly ++ [y])) := by
  rw [List.set_cons_succ, List.set_cons_succ, List.set_append_right _ _ (by omega), List.set_append_right _ _ (by omega)]
  have : T.length + ly.length - T.length - ly.length = 0 := by omega
  rw [this]; rfl
end
theorem lcS_spec {kd : D} {s m : Nat} {e0 e2 e3 e4 e6 e8 : Option HV} (hs : s < m) (hm : m ≤ 5) (hk : ∀ s t : Int, ∃ c, D.tup [kd, .int s, .int t] = Ch.d c)
    (q : ∀ cs : List Ch, cs.length ≤ 5 → Q (.new (cs.map Ch.d)) J) :
    Ex X (eLc (iRange2 (eBin dAdd (eName 7) (eC (.int 1))) (eName 1)) (tgName 8) bYes (eTup [eName 5, eName 7, eName 8]) [8] [e0, some (.val (.int m)), e2, e3, e4, some (.val kd), e6, some (.val (.int s)), e8] J) Q := by
  refine Ex_lcX ?_
  simp [wipeE]
  refine ⟨⟨by unfold rgOk; simp; omega, by unfold rgOk; simp; omega⟩, ?_⟩
  refine Ex_lcLoop (fun i acc J' => ∃ cs : List Ch, acc = cs.map Ch.d ∧ J' = J ∧ cs.length ≤ i) ⟨[], rfl, rfl, Nat.le_refl _⟩ ?_ ?_
  · rintro i d acc J' hd ⟨cs, rfl, rfl, hl⟩
    obtain ⟨rfl, hi⟩ := rgD_get hd
    obtain ⟨c, hc⟩ := hk s ((s : Int) + 1 + (i : Nat))
    simp [tgName, big]
    rw [hc]
    exact ⟨by omega, cs ++ [c], by simp, by simpa using hl⟩
  · rintro acc J' ⟨cs, rfl, rfl, hl⟩
    rw [rgD_len] at hl
    exact q cs (by omega)
theorem setting_spec {m n : Nat} {kinds : List D} (hm : 0 < m ∧ m ≤ 5) (hn : n ≤ 12) (hk : ∀ d ∈ kinds, KD d) (hkl : kinds.length ≤ 4) (hj : Rb b a r) (hb : b + 3000 ≤ LIM)
    (q : ∀ (nm : D) (cs : List Ch) a' r', cs.length ≤ 12 → Rb (b + 3000) a' r' → Q (.val (.tup [nm, .tup (cs.map Ch.d)])) (a' :: r' :: T)) :
    Ex X (F_l_setting [.jar 1, .val (.int m), .val (.int n), .val (.lst kinds)] (a :: r :: T)) Q := by
  have hL : (LIM : Nat) = 1000000000 := rfl
  have e0 : rgOk (m : Int) = true := by unfold rgOk; simp; omega
  unfold F_l_setting
  rw [B_l_setting_eq, Ex_mkF]
  simp [D_l_setting_0, startE]
  simp [D_l_setting_1, Sx_for]
  refine Sx_loop (fun i env J => ∃ x5 x6 x7 x8 ly, ∃ cs : List Ch, env = [some (.jar 1), some (.val (.int m)), some (.val (.int n)), some (.val (.lst kinds)), some (.jar (T.length + ly.length + 1 + 1)), x5, x6, x7, x8] ∧ J = a :: r :: (T ++ (ly ++ [cs.map Ch.d])) ∧ cs.length ≤ 25 * i) ⟨_, _, _, _, [], [], rfl, by simp, by simp⟩ ?_ ?_
  · rintro i kd env J hd ⟨x5, x6, x7, x8, ly, cs, rfl, rfl, hl⟩
    have hi : i < kinds.length := (List.getElem?_eq_some_iff.mp hd).1
    have hkd := hk kd (List.mem_of_getElem? hd)
    simp [tgName, Sx_for, e0]
    refine Sx_loop (fun j env J => ∃ x7 x8 ly, ∃ cs : List Ch, env = [some (.jar 1), some (.val (.int m)), some (.val (.int n)), some (.val (.lst kinds)), some (.jar (T.length + ly.length + 1 + 1)), some (.val kd), x6, x7, x8] ∧ J = a :: r :: (T ++ (ly ++ [cs.map Ch.d])) ∧ cs.length ≤ 25 * i + 5 * j) ⟨_, _, _, cs, rfl, rfl, by omega⟩ ?_ ?_
    · rintro s d env J hd ⟨x7, x8, ly, cs, rfl, rfl, hl⟩
      obtain ⟨rfl, hs⟩ := rgD_get hd
      rcases hkd.out with ⟨h1, h2⟩ | ⟨h1, h2⟩
      · obtain ⟨c, hc⟩ := h2 s
        simp [tgName, h1, big, cellG, cellS, hc]
        refine ⟨by omega, ?_⟩
        exact ⟨_, _, _, ⟨rfl, rfl, rfl⟩, cs ++ [c], ⟨rfl, by simp⟩, by simp; omega⟩
      · simp [tgName, h1, big, cellG, cellS]
        refine lcS_spec hs hm.2 h2 fun cs2 h2 => ?_
        simp
        refine ⟨fun c _ => Ch_p c, ?_⟩
        rw [dAdd_ll (by simp; omega)]
        simp
        exact ⟨_, _, ly ++ [cs.map Ch.d], ⟨by simp, rfl, rfl⟩, cs ++ cs2, by simp, by simp; omega⟩
    · rintro env J ⟨x7, x8, ly, cs, rfl, rfl, hl⟩
      rw [rgD_len] at hl
      exact ⟨_, _, _, _, ly, rfl, cs, rfl, by omega⟩
  · rintro env J ⟨x5, x6, x7, x8, ly, cs, rfl, rfl, hl⟩
    have hp := chp (cs := cs)
    simp [D_l_setting_2, big]
    refine some_spec (ds := [.str "a", .str "up", .str "down", .str "c3", .str "v", .str "left", .str "w"]) (n := m) rfl trivial rfl (by omega) (by decide) hj (by omega) fun told left a1 r1 _ _ hj1 => ?_
    simp [D_l_setting_3, dt_l, cellG, hp]
    refine some_spec (ds := cs.map Ch.d) (n := n) (by rw [deref_jar, cellG]; exact if_pos hp) trivial hp (by omega) ?_ hj1 (by omega) fun told2 left2 a2 r2 hp2 hl2 hj2 => ?_
    · rw [List.length_map]; omega
    · obtain ⟨cs2, rfl⟩ := chs_of (l := told2) fun d hd => by
        obtain ⟨c, _, rfl⟩ := List.mem_map.mp (hp2.mem_iff.mp (List.mem_append_left _ hd))
        exact ⟨c, rfl⟩
      rw [List.length_map, List.length_map] at hl2
      simp [dt_l, big]
      exact q _ cs2 _ _ (by omega) (hj2.mono (by omega))
theorem things2 {s : D} {cs : List Ch} {nm : Bool} (hs : chs s cs) : True := trivial
theorem p104 : dPow (.int 10) (.int 4) = some (.val (.int 10000)) := by with_unfolding_all rfl
theorem eq_i {x y : Int} : dEq (.int x) (.int y) = some (.val (.bl (x == y))) := by simp
abbrev KS : List D := [.str "held", .str "idle", .str "loose", .str "same"]
theorem KS_ok : ∀ d ∈ KS, KD d := by
  intro d hd
  simp only [List.mem_cons, List.not_mem_nil, or_false] at hd
  rcases hd with rfl | rfl | rfl | rfl
  · exact KD_held
  · exact KD_idle
  · exact KD_loose
  · exact KD_same
/-- a setting that stands in the list -/
def SOk (d : D) : Prop := ∃ (nm : D) (cs : List Ch), d = .tup [nm, .tup (cs.map Ch.d)] ∧ cs.length ≤ 12
theorem pick4 {v : Int} (v0 : 0 ≤ v) (v1 : v < 4) : ∃ n : Nat, n ≤ 12 ∧ dIx (.lst [.int 1, .int 3, .int 6, .int 12]) (.int v) = some (.val (.int n)) := by
  obtain ⟨d, hd, e⟩ := ixMem (ds := [.int 1, .int 3, .int 6, .int 12]) v0 v1
  simp only [List.mem_cons, List.not_mem_nil, or_false] at hd
  rcases hd with rfl | rfl | rfl | rfl
  · exact ⟨1, by decide, e⟩
  · exact ⟨3, by decide, e⟩
  · exact ⟨6, by decide, e⟩
  · exact ⟨12, by decide, e⟩
end K09
set_option Elab.async false
set_option linter.all false
set_option maxRecDepth 100000
set_option maxHeartbeats 4000000
set_option autoImplicit false
namespace K09
open PySem L2 L2.Pz
variable {X : XP} {Q : HV → Jr → Prop} {T J : Jr} {a r : List D} {env : En} {b : Nat}
def D_lb_9 : SF := (sIf (bNot (bTruth (eCall F_l_steps [(eTup [(eBin dIx (eName 10) (eC (.int 0))), (eSl (eBin dIx (eName 10) (eC (.int 1))) none (some (eC (.int 4))))]), (eName 11), (eNot (eNorm (eName 3))), (eLst [(eC (.int 13))])]))) (sRet (eNorm (eC (.bl false)))) sNext)
def D_lb_8 : SF := sSeq (sSet 11 (eCall F_l_row [(eName 1), (eName 8), (eBin dAdd (eC (.int 1)) (eCall F_l_next [(eName 1), (eC (.int 3))]))])) D_lb_9
def D_lb_7 : SF := sSeq (sIf (bOr (bAnd (bTruth (eName 2)) (bCmp dEq (eName 6) (eC (.int 0)))) (bCmp dLt (eBin dMul (eUn dLen (eBin dIx (eName 10) (eC (.int 1)))) (eUn dLen (eName 11))) (eC (.int 24)))) (sIf (bNot (bTruth (eCall F_l_steps [(eName 10), (eName 11), (eName 3), (eLst [(eC (.int 200)), (eBin dPow (eC (.int 10)) (eC (.int 4)))])]))) (sRet (eNorm (eC (.bl false)))) sNext) (sIf (bNot (bTruth (eCall F_l_few [(eName 1), (eName 10), (eName 11), (eName 3)]))) (sRet (eNorm (eC (.bl false)))) sNext)) D_lb_8
def D_lb_6 : SF := sSeq (sSet 11 (eCall F_l_row [(eName 1), (eName 8), (eIf (bAnd (bTruth (eName 2)) (bCmp dEq (eName 6) (eC (.int 0)))) (eNorm (eC (.int 12))) (eCall F_l_next [(eName 1), (eC (.int 13))]))])) D_lb_7
def D_lb_5 : SF := sSeq (sIf (bNot (bTruth (eCall F_l_things [(eName 1), (eName 10), (eName 3)]))) (sRet (eNorm (eC (.bl false)))) sNext) D_lb_6
def D_lb_4 : SF := sSeq (sApp 5 (eName 10)) D_lb_5
def D_lb_3 : SF := sSeq (sSet 10 (eCall F_l_setting [(eName 1), (eName 8), (eName 9), (eIf (bCmp dLt (eName 6) (eC (.int 2))) (eNorm (eName 4)) (eCall F_l_some [(eName 1), (eName 4), (eC (.int 2))]))])) D_lb_4
def D_lb_2 : SF := sSeq (sIf (bAnd (bTruth (eName 2)) (bCmp dEq (eName 6) (eC (.int 0)))) (sSeq (sSet 8 (eC (.int 5)))
  (sSet 9 (eC (.int 12)))) sNext) D_lb_3
def D_lb_1 : SF := sSeq (sSet 9 (eBin dIx (eLst [(eC (.int 1)), (eC (.int 3)), (eC (.int 6)), (eC (.int 12))]) (eCall F_l_next [(eName 1), (eC (.int 4))]))) D_lb_2
def D_lb_0 : SF := sSeq (sSet 8 (eBin dAdd (eC (.int 1)) (eCall F_l_next [(eName 1), (eC (.int 5))]))) D_lb_1
theorem D_law_6_eq : D_law_6 = sSeq (sFor (iRange1 (eC (.int 3))) (tgName 6) D_lb_0) D_law_7 := rfl
theorem gtl {x y : Int} : dLt (.int x) (.int y) = some (.val (.bl (decide (x < y)))) := rfl
theorem far2 : ([.int 200, .int 10000] : List D) = farD [200, 10000] := rfl
theorem far1 : ([.int 13] : List D) = farD [13] := rfl
theorem far0 : ([] : List D) = farD [] := rfl
theorem far7 : ([.int 7] : List D) = farD [7] := rfl
theorem cut4 {cs : List Ch} {k : Nat} : cutD (cs.map Ch.d) none (some (k : Int)) = (cs.take k).map Ch.d := by rw [cut_to, List.map_take]
theorem lb6 {P : Po} {sc : D} {wd nm : Bool} {S : List D} {k m : Nat} {nmz : D} {cs : List Ch} {x7 x9 x11 : Option HV} (hm : 1 ≤ m ∧ m ≤ 5) (hcs : cs.length ≤ 12)
    (hj : Rb b a r) (hb : b + 1000 ≤ LIM) (q : ∀ x11 a' r', Rb (b + 1000) a' r' → P.nx [some (.val sc), some (.jar 1), some (.val (.bl wd)), some (.val (.bl nm)), some (.val (.lst KS)), some (.jar 2), some (.val (.int k)), x7, some (.val (.int m)), x9, some (.val (.tup [nmz, .tup (cs.map Ch.d)])), x11] [a', r', S]) :
    Sx P (D_lb_6 0 [some (.val sc), some (.jar 1), some (.val (.bl wd)), some (.val (.bl nm)), some (.val (.lst KS)), some (.jar 2), some (.val (.int k)), x7, some (.val (.int m)), x9, some (.val (.tup [nmz, .tup (cs.map Ch.d)])), x11] [a, r, S]) := by
  have hL : (LIM : Nat) = 1000000000 := rfl
  have hs : chs (.tup [nmz, .tup (cs.map Ch.d)]) cs := rfl
  have hs4 : chs (.tup [nmz, .tup ((cs.take 4).map Ch.d)]) (cs.take 4) := rfl
  have key : ∀ x11 a r, Rb (b + 700) a r → Sx P (D_lb_8 0 [some (.val sc), some (.jar 1), some (.val (.bl wd)), some (.val (.bl nm)), some (.val (.lst KS)), some (.jar 2), some (.val (.int k)), x7, some (.val (.int m)), x9, some (.val (.tup [nmz, .tup (cs.map Ch.d)])), x11] [a, r, S]) := by
    intro x11 a r hj
    simp [D_lb_8]
    refine next_spec hj (by omega) (by decide) (by decide) fun v a1 r1 v0 v1 hj1 => ?_
    simp
    have e : (1 + v) = ((1 + v.toNat : Nat) : Int) := by omega
    rw [e]
    refine row_spec (by omega) (by omega) hj1 (by omega) fun row a2 r2 hrl hj2 => ?_
    simp [D_lb_9, ix0, ix1, slT, big]
    rw [show (4 : Int) = ((4 : Nat) : Int) from rfl, cut4, far1]
    refine steps_spec hs4 (by simp; omega) (by omega) (by intro n hn; simp at hn; omega) (by decide) ?_
    simp
    exact q _ _ _ (hj2.mono (by omega))
  have key7 : ∀ (row : List Int) a r, row.length ≤ 12 → Rb (b + 500) a r → Sx P (D_lb_7 0 [some (.val sc), some (.jar 1), some (.val (.bl wd)), some (.val (.bl nm)), some (.val (.lst KS)), some (.jar 2), some (.val (.int k)), x7, some (.val (.int m)), x9, some (.val (.tup [nmz, .tup (cs.map Ch.d)])), some (.val (rT row))] [a, r, S]) := by
    intro row a r hrl hj
    have hmul : dMul (.int cs.length) (.int row.length) = some (.val (.int ((cs.length : Int) * row.length))) := mul_sm (by omega) (by omega)
    have st : ∀ {Q : HV → Jr → Prop} {J : Jr} {X : XP}, Q (.val (.bl true)) J → Ex X (F_l_steps [.val (.tup [nmz, .tup (cs.map Ch.d)]), .val (rT row), .val (.bl nm), .val (.lst [.int 200, .int 10000])] J) Q := fun q => by
      rw [far2]
      exact steps_spec hs (by omega) (by omega) (by intro n hn; simp at hn; omega) (by decide) q
    have fw : ¬ (cs.length : Int) * row.length < 24 → ∀ {Q : HV → Jr → Prop} {X : XP}, (∀ a' r', Rb (b + 540) a' r' → Q (.val (.bl true)) [a', r', S]) → Ex X (F_l_few [.jar 1, .val (.tup [nmz, .tup (cs.map Ch.d)]), .val (rT row), .val (.bl nm)] [a, r, S]) Q := fun h {Q X} q => by
      refine few_spec hs ⟨?_, by omega⟩ (by omega) hj (by omega) fun a' r' hj => q _ _ hj
      rcases Nat.eq_zero_or_pos cs.length with h0 | h0
      · rw [h0] at h; simp at h
      · exact h0
    have fin2 : ∀ x11 a r, Rb (b + 700) a r → Sx P (D_lb_8 0 [some (.val sc), some (.jar 1), some (.val (.bl wd)), some (.val (.bl nm)), some (.val (.lst KS)), some (.jar 2), some (.val (.int k)), x7, some (.val (.int m)), x9, some (.val (.tup [nmz, .tup (cs.map Ch.d)])), x11] [a, r, S]) := key
    by_cases h1 : (wd = true ∧ k = 0) ∨ (cs.length : Int) * row.length < 24
    · by_cases hw : wd = true
      · subst hw
        simp [D_lb_7, ix1, hmul, gtl, p104, eq_i, big]
        by_cases hk : k = 0
        · simp [hk]
          refine st ?_
          simp
          rw [hk] at fin2
          exact fin2 _ _ _ (hj.mono (by omega))
        · have h1 : (cs.length : Int) * row.length < 24 := h1.resolve_left fun z => hk z.2
          simp [hk, h1]
          refine st ?_
          simp
          exact fin2 _ _ _ (hj.mono (by omega))
      · have h1' : (cs.length : Int) * row.length < 24 := h1.resolve_left fun z => hw z.1
        have hw : wd = false := by simpa using hw
        subst hw
        simp [D_lb_7, ix1, hmul, gtl, p104, eq_i, big]
        rw [if_pos h1']
        refine st ?_
        simp
        exact fin2 _ _ _ (hj.mono (by omega))
    · have h2 : ¬ (cs.length : Int) * row.length < 24 := fun z => h1 (.inr z)
      have h3 : ¬ (wd = true ∧ k = 0) := fun z => h1 (.inl z)
      cases wd
      · simp [D_lb_7, ix1, hmul, gtl, p104, eq_i, big, h2]
        refine fw h2 fun a' r' hj' => ?_
        simp
        exact fin2 _ _ _ (hj'.mono (by omega))
      · have hk : ¬ k = 0 := fun z => h3 ⟨rfl, z⟩
        simp [D_lb_7, ix1, hmul, gtl, p104, eq_i, big, h2, hk]
        refine fw h2 fun a' r' hj' => ?_
        simp
        exact fin2 _ _ _ (hj'.mono (by omega))
  have rw12 : ∀ {Q : HV → Jr → Prop} {X : XP}, (∀ (row : List Int) a' r', row.length ≤ 12 → Rb (b + 500) a' r' → Q (.val (rT row)) [a', r', S]) → Ex X (F_l_row [.jar 1, .val (.int m), .val (.int 12)] [a, r, S]) Q := fun {Q X} q => by
    have := row_spec (X := X) (Q := Q) (T := [S]) (m := m) (n := 12) (by omega) (by decide) hj (by omega) fun row a' r' h hj => q row a' r' (by omega) (hj.mono (by omega))
    exact this
  have rwN : ∀ {Q : HV → Jr → Prop} {X : XP}, (∀ (row : List Int) a' r', row.length ≤ 12 → Rb (b + 500) a' r' → Q (.val (rT row)) [a', r', S]) → Ex X (F_l_next [.jar 1, .val (.int 13)] [a, r, S]) fun h J => isExc h = false ∧ Ex X (F_l_row [.jar 1, .val (.int m), norm h] J) Q := fun {Q X} q => by
    refine next_spec hj (by omega) (by decide) (by decide) fun v a1 r1 v0 v1 hj1 => ⟨rfl, ?_⟩
    have e : v = ((v.toNat : Nat) : Int) := by omega
    rw [e]
    exact row_spec (X := X) (Q := Q) (T := [S]) (m := m) (n := v.toNat) (by omega) (by omega) hj1 (by omega) fun row a' r' h hj => q row a' r' (by omega) (hj.mono (by omega))
  simp [D_lb_6, eq_i]
  by_cases hw : wd = true
  · rw [if_pos hw]
    by_cases hk : k = 0
    · rw [if_pos hk]
      exact rw12 fun row a' r' h hj => key7 row a' r' h hj
    · rw [if_neg hk]
      exact rwN fun row a' r' h hj => key7 row a' r' h hj
  · rw [if_neg hw]
    exact rwN fun row a' r' h hj => key7 row a' r' h hj
theorem lb3 {P : Po} {sc : D} {wd nm : Bool} {S : List D} {k m n : Nat} {x7 x10 x11 : Option HV} (hm : 1 ≤ m ∧ m ≤ 5) (hn : n ≤ 12) (hS : S.length ≤ 10)
    (hj : Rb b a r) (hb : b + 7000 ≤ LIM) (q : ∀ s x10 x11 a' r', SOk s → Rb (b + 7000) a' r' → P.nx [some (.val sc), some (.jar 1), some (.val (.bl wd)), some (.val (.bl nm)), some (.val (.lst KS)), some (.jar 2), some (.val (.int k)), x7, some (.val (.int m)), some (.val (.int n)), x10, x11] [a', r', S ++ [s]]) :
    Sx P (D_lb_3 0 [some (.val sc), some (.jar 1), some (.val (.bl wd)), some (.val (.bl nm)), some (.val (.lst KS)), some (.jar 2), some (.val (.int k)), x7, some (.val (.int m)), some (.val (.int n)), x10, x11] [a, r, S]) := by
  have hL : (LIM : Nat) = 1000000000 := rfl
  have key : ∀ nmz (cs : List Ch) a r, cs.length ≤ 12 → Rb (b + 5000) a r → Sx P (D_lb_4 0 [some (.val sc), some (.jar 1), some (.val (.bl wd)), some (.val (.bl nm)), some (.val (.lst KS)), some (.jar 2), some (.val (.int k)), x7, some (.val (.int m)), some (.val (.int n)), some (.val (.tup [nmz, .tup (cs.map Ch.d)])), x11] [a, r, S]) := by
    intro nmz cs a r hcl hj
    simp [D_lb_4]
    refine ⟨show _ < 16777216 by omega, ?_⟩
    simp [D_lb_5]
    refine things_spec (cs := cs) rfl (by omega) hj (by omega) fun a' r' hj' => ?_
    simp
    exact lb6 hm hcl hj' (by omega) fun x11 a' r' hj => q _ _ _ _ _ ⟨nmz, cs, rfl, hcl⟩ (hj.mono (by omega))
  simp [D_lb_3, gtl]
  by_cases hk : (k : Int) < 2
  · rw [if_pos hk]
    exact setting_spec (T := [S]) (by omega) hn KS_ok (by decide) hj (by omega) fun nmz cs a' r' hcl hj => key nmz cs a' r' hcl (hj.mono (by omega))
  · rw [if_neg hk]
    refine some_spec (T := [S]) (ds := KS) (n := 2) rfl trivial rfl (by decide) (by decide) hj (by omega) fun told left a1 r1 hp hl hj1 => ?_
    simp
    exact setting_spec (T := [S]) (by omega) hn (fun d hd => KS_ok d (hp.mem_iff.mp (List.mem_append_left _ hd))) (by rw [hl]; decide) hj1 (by omega) fun nmz cs a' r' hcl hj => key nmz cs a' r' hcl (hj.mono (by omega))
theorem lb0 {P : Po} {sc : D} {wd nm : Bool} {S : List D} {k : Nat} {x7 x8 x9 x10 x11 : Option HV} (hS : S.length ≤ 10)
    (hj : Rb b a r) (hb : b + 8000 ≤ LIM) (q : ∀ s x8 x9 x10 x11 a' r', SOk s → Rb (b + 8000) a' r' → P.nx [some (.val sc), some (.jar 1), some (.val (.bl wd)), some (.val (.bl nm)), some (.val (.lst KS)), some (.jar 2), some (.val (.int k)), x7, x8, x9, x10, x11] [a', r', S ++ [s]]) :
    Sx P (D_lb_0 0 [some (.val sc), some (.jar 1), some (.val (.bl wd)), some (.val (.bl nm)), some (.val (.lst KS)), some (.jar 2), some (.val (.int k)), x7, x8, x9, x10, x11] [a, r, S]) := by
  have hL : (LIM : Nat) = 1000000000 := rfl
  simp [D_lb_0]
  refine next_spec (T := [S]) hj (by omega) (by decide) (by decide) fun v a1 r1 v0 v1 hj1 => ?_
  have e : (1 + v) = ((1 + v.toNat : Nat) : Int) := by omega
  simp [D_lb_1, big]
  refine next_spec (T := [S]) hj1 (by omega) (by decide) (by decide) fun u a2 r2 u0 u1 hj2 => ?_
  obtain ⟨n, hn, en⟩ := pick4 u0 u1
  simp [en, D_lb_2, eq_i]
  rw [e]
  by_cases hw : wd = true ∧ k = 0
  · obtain ⟨hw, hk⟩ := hw
    rw [if_pos hw, if_pos hk]
    exact lb3 (m := 5) (n := 12) (by decide) (by decide) hS hj2 (by omega) fun s x10 x11 a' r' hs hj => q _ _ _ _ _ _ _ hs (hj.mono (by omega))
  · have kk := lb3 (P := P) (sc := sc) (wd := wd) (nm := nm) (k := k) (x7 := x7) (x10 := x10) (x11 := x11) (m := 1 + v.toNat) (by omega) hn hS hj2 (by omega) fun s x10 x11 a' r' hs hj => q _ _ _ _ _ _ _ hs (hj.mono (by omega))
    by_cases hw2 : wd = true
    · rw [if_pos hw2, if_neg (fun z => hw ⟨hw2, z⟩)]
      exact kk
    · rw [if_neg hw2]
      exact kk
theorem law_spec (ns : List Int) (hn : ns.length ≤ 63) : Ex nX (F_law [.val (.lst (ns.map D.int))] []) fun h J => h = .val (.bl true) ∧ J = [] := by
  have hL : (LIM : Nat) = 1000000000 := rfl
  unfold F_law
  rw [B_law_eq, Ex_mkF]
  simp [D_law_0, startE]
  refine reel_spec ns (fun a s c hj => ?_) hn
  simp [D_law_1]
  refine next_spec (T := []) hj (by omega) (by decide) (by decide) fun v a1 r1 v0 v1 hj1 => ?_
  simp [eq_i, D_law_2]
  refine next_spec (T := []) hj1 (by omega) (by decide) (by decide) fun u a2 r2 u0 u1 hj2 => ?_
  simp [eq_i, D_law_3]
  generalize (v == 5) = wd
  generalize (u == 1) = nm
  refine hand_spec (T := []) hj2 (by omega) fun a3 r3 hj3 => ?_
  simp [D_law_4, big]
  simp [D_law_5]
  rw [D_law_6_eq]
  simp [Sx_for]
  refine ⟨by decide, ?_⟩
  refine Sx_loop (fun i env J => ∃ x6 x7 x8 x9 x10 x11 S a r, env = [some (.val (.lst (ns.map D.int))), some (.jar 1), some (.val (.bl wd)), some (.val (.bl nm)), some (.val (.lst KS)), some (.jar 2), x6, x7, x8, x9, x10, x11] ∧ J = [a, r, S] ∧ S.length = i ∧ (∀ d ∈ S, SOk d) ∧ Rb (63 + 1002 + 8000 * i) a r) ⟨_, _, _, _, _, _, _, _, _, rfl, rfl, rfl, by simp, hj3.mono (by omega)⟩ ?_ ?_
  · rintro i d env J hd ⟨x6, x7, x8, x9, x10, x11, S, a, r, rfl, rfl, hl, hS, hj⟩
    obtain ⟨rfl, hi⟩ := rgD_get hd
    have hi : i < 3 := hi
    simp [tgName]
    refine lb0 (by omega) hj (by omega) fun s x8 x9 x10 x11 a r hs hj => ?_
    simp
    refine ⟨_, _, _, ⟨rfl, rfl, rfl⟩, by simp [hl], fun d hd => ?_, hj.mono (by omega)⟩
    rcases List.mem_append.mp hd with hd | hd
    · exact hS d hd
    · rw [List.mem_singleton.mp hd]; exact hs
  · rintro env J ⟨x6, x7, x8, x9, x10, x11, S, a, r, rfl, rfl, hl, hS, hj⟩
    rw [show (rgD 0 3).length = 3 from rfl] at hl hj
    match S, hl with
    | [s0, s1, s2], _ =>
    obtain ⟨n0, c0, rfl, l0⟩ := hS s0 (by simp)
    obtain ⟨n1, c1, rfl, l1⟩ := hS s1 (by simp)
    obtain ⟨n2, c2, rfl, l2⟩ := hS s2 (by simp)
    simp [D_law_7, i0, ix0, ix1, i1, big]
    simp [D_law_8]
    refine things_spec (T := [_]) (cs := []) rfl (by decide) hj (by omega) fun a r hj => ?_
    simp
    refine row_spec (T := [_]) (m := 1) (n := 3) (by decide) (by decide) hj (by omega) fun row a r hrl hj => ?_
    simp
    refine steps_spec (cs := []) (far := []) rfl (by decide) (by omega) (by simp) (by decide) ?_
    simp [D_law_9, i0, ix0, ix1, i1, big, slT]
    rw [show (3 : Int) = ((3 : Nat) : Int) from rfl, cut4, far7]
    refine steps_spec (row := []) (cs := c1.take 3) rfl (by simp; omega) (by decide) (by simp) (by decide) ?_
    simp
    refine hand_spec (T := [_]) hj (by omega) fun a r hj => ?_
    simp
theorem law_true (ns : List Int) (h : ns.length ≤ 63) : F_law [.val (.lst (ns.map D.int))] [] = .ok (.val (.bl true)) [] := by
  have e := (law_spec ns h).out
  cases r : F_law [.val (.lst (ns.map D.int))] [] with
  | ok a J =>
    rw [r] at e
    obtain ⟨rfl, rfl⟩ := e
    rfl
  | err c fs J => rw [r] at e; exact e.elim
  | stuck => rw [r] at e; exact e.elim
end K09
set_option Elab.async false
set_option linter.all false
set_option maxRecDepth 100000
set_option maxHeartbeats 4000000
set_option autoImplicit false
namespace K09
open PySem PySem.Spec PyProof.Rows L2 L2.Pz
def top (i : Nat) : Stmt := PySem.Challenge.pw_howeverheard_k09_single_steps.main.body.getD i (.Pass ⟨0, 0, 0, 0⟩)
abbrev s_l_reel : Stmt := top 14
abbrev s_l_next : Stmt := top 15
abbrev s_l_some : Stmt := top 16
abbrev s_l_setting : Stmt := top 17
abbrev s_l_row : Stmt := top 18
abbrev s_held_step : Stmt := top 7
abbrev s_idle_step : Stmt := top 8
abbrev s_loose_step : Stmt := top 9
abbrev s_same_step : Stmt := top 10
abbrev s_stepped : Stmt := top 11
abbrev s_steps_from : Stmt := top 12
abbrev s_l_done : Stmt := top 19
abbrev s_l_row_is : Stmt := top 20
abbrev s_l_steps : Stmt := top 21
abbrev s_l_few : Stmt := top 22
abbrev s_is_integer : Stmt := top 1
abbrev s_integer_within : Stmt := top 2
abbrev s_is_number : Stmt := top 3
abbrev s_tuple_of : Stmt := top 4
abbrev s_is_step : Stmt := top 6
abbrev s_l_is : Stmt := top 23
abbrev s_l_things : Stmt := top 24
abbrev s_l_by_hand : Stmt := top 25
abbrev s_law : Stmt := top 26
structure Tx (K : PySem.W.Frag) (mg : Str → Option Value) where
  a_l_reel : Addr
  d_l_reel : FuncData
  p_l_reel : FnF K mg "_law_reel" s_l_reel a_l_reel d_l_reel ["script"]
  a_l_next : Addr
  d_l_next : FuncData
  p_l_next : FnF K mg "_law_next" s_l_next a_l_next d_l_next ["reel", "many"]
  a_l_some : Addr
  d_l_some : FuncData
  p_l_some : FnF K mg "_law_some" s_l_some a_l_some d_l_some ["reel", "things", "count"]
  a_l_setting : Addr
  d_l_setting : FuncData
  p_l_setting : FnF K mg "_law_setting" s_l_setting a_l_setting d_l_setting ["reel", "many", "count", "kinds"]
  a_l_row : Addr
  d_l_row : FuncData
  p_l_row : FnF K mg "_law_row" s_l_row a_l_row d_l_row ["reel", "many", "length"]
  a_held_step : Addr
  d_held_step : FuncData
  p_held_step : FnF K mg "held_step" s_held_step a_held_step d_held_step ["row", "sign", "place", "way"]
  a_idle_step : Addr
  d_idle_step : FuncData
  p_idle_step : FnF K mg "idle_step" s_idle_step a_idle_step d_idle_step ["row", "sign", "place", "way"]
  a_loose_step : Addr
  d_loose_step : FuncData
  p_loose_step : FnF K mg "loose_step" s_loose_step a_loose_step d_loose_step ["row", "one", "other", "place", "way"]
  a_same_step : Addr
  d_same_step : FuncData
  p_same_step : FnF K mg "same_step" s_same_step a_same_step d_same_step ["row", "one", "other", "place", "way"]
  a_stepped : Addr
  d_stepped : FuncData
  p_stepped : FnF K mg "stepped" s_stepped a_stepped d_stepped ["setting", "row", "step"]
  a_steps_from : Addr
  d_steps_from : FuncData
  p_steps_from : FnF K mg "steps_from" s_steps_from a_steps_from d_steps_from ["setting", "row"]
  a_l_done : Addr
  d_l_done : FuncData
  p_l_done : FnF K mg "_law_done" s_l_done a_l_done d_l_done ["setting", "row", "step"]
  a_l_row_is : Addr
  d_l_row_is : FuncData
  p_l_row_is : FnF K mg "_law_row_is" s_l_row_is a_l_row_is d_l_row_is ["told", "due"]
  a_l_steps : Addr
  d_l_steps : FuncData
  p_l_steps : FnF K mg "_law_steps" s_l_steps a_l_steps d_l_steps ["setting", "row", "named", "far"]
  a_l_few : Addr
  d_l_few : FuncData
  p_l_few : FnF K mg "_law_few" s_l_few a_l_few d_l_few ["reel", "setting", "row", "named"]
  a_is_integer : Addr
  d_is_integer : FuncData
  p_is_integer : FnF K mg "is_integer" s_is_integer a_is_integer d_is_integer ["thing"]
  a_integer_within : Addr
  d_integer_within : FuncData
  p_integer_within : FnF K mg "integer_within" s_integer_within a_integer_within d_integer_within ["thing", "low", "high"]
  a_is_number : Addr
  d_is_number : FuncData
  p_is_number : FnF K mg "is_number" s_is_number a_is_number d_is_number ["thing", "many"]
  a_tuple_of : Addr
  d_tuple_of : FuncData
  p_tuple_of : FnF K mg "tuple_of" s_tuple_of a_tuple_of d_tuple_of ["thing", "many"]
  a_is_step : Addr
  d_is_step : FuncData
  p_is_step : FnF K mg "is_step" s_is_step a_is_step d_is_step ["setting", "thing"]
  a_l_is : Addr
  d_l_is : FuncData
  p_l_is : FnF K mg "_law_is" s_l_is a_l_is d_l_is ["setting", "thing", "named", "due"]
  a_l_things : Addr
  d_l_things : FuncData
  p_l_things : FnF K mg "_law_things" s_l_things a_l_things d_l_things ["reel", "setting", "named"]
  a_l_by_hand : Addr
  d_l_by_hand : FuncData
  p_l_by_hand : FnF K mg "_law_by_hand" s_l_by_hand a_l_by_hand d_l_by_hand ["reel", "named"]
  a_law : Addr
  d_law : FuncData
  p_law : FnF K mg "law" s_law a_law d_law ["script"]
  z_abs : mg "abs" = none
  z_bool : mg "bool" = none
  z_int : mg "int" = none
  z_isinstance : mg "isinstance" = none
  z_len : mg "len" = none
  z_list : mg "list" = none
  z_max : mg "max" = none
  z_min : mg "min" = none
  z_range : mg "range" = none
  z_tuple : mg "tuple" = none
section
variable {Pr : Program} {w : World} {K : PySem.W.Frag} {mg : Str → Option Value} {base : Heap}
theorem sc_l_reel : FnScope ["script", "cells", "sum_of_all", "cell"] ["script"] (defScope s_l_reel) := ⟨rfl, rfl, rfl, by decide +kernel, rfl, by decide +kernel, by decide +kernel⟩
theorem ok_l_reel (T : Tx K mg) : FnOk Pr w K mg base (L2.CX Pr w) 1 T.a_l_reel T.d_l_reel ["script"] (spF K (["script"] : List Str).length F_l_reel) :=
  fn_ok (k := 0) T.p_l_reel.F sc_l_reel fun cdv A outer s H E n0 hr => by
    have S := sc_l_reel
    exact (ss_cons (s_setLc (own := [("cell", 3)]) (t := (tgName 3)) (c := bYes) tgok_name (tgin_name (by decide)) (ps_setLc (i := 1) (own := [("cell", 3)]) rfl S.nd rfl rfl (sw_true rfl rfl rfl (by decide +kernel)) (pw_any (pd_name (pv 0))) (blkOk_by (N := ["script", "cells", "sum_of_all", "cell"]) (sc := defScope s_l_reel) (by decide +kernel)) (fun _ _ _ _ _ => (pg_name (i := 3) S.nd rfl (by first | exact Or.inl rfl | exact Or.inr rfl))) (fun _ _ _ _ _ => pts_yes) (fun _ _ _ _ _ => (toD (pn_bin op_mod sem_mod (toD (pn_b1 call_abs sem_abs rfl T.z_abs (by rfl) (toD (pn_t1 call_int1 sem_toInt rfl T.z_int (by rfl) (pd_name (pv 3)) (by decide) (by decide) (by rfl) (by rfl))) (by decide) (by decide) (by rfl) (by rfl))) (toD (pn_bin op_shl sem_shl pd_int pd_int))))) (fun _ => rfl)))
    (ss_cons (s_set (i := 2) S.nd rfl (by first | exact Or.inl rfl | exact Or.inr rfl) pd_int (by rfl) (by first | exact Or.inl rfl | exact Or.inr rfl))
    (ss_cons (s_for (passes_of rfl) rfl (pw_any (pd_name (pv 1))) (pg_name (i := 3) S.nd rfl (by first | exact Or.inl rfl | exact Or.inr rfl)) tgok_name (ss_one (s_set (i := 2) S.nd rfl (by first | exact Or.inl rfl | exact Or.inr rfl) (toD (pn_bin op_mod sem_mod (toD (pn_t1 call_int1 sem_toInt rfl T.z_int (by rfl) (toD (pn_bin op_addAny sem_add (toD (pn_bin op_addAny sem_add (toD (pn_bin op_mulW sem_mul (pd_name (pv 2)) pd_int)) (toD (pn_bin op_mulW sem_mul (toD (pn_bin op_mod sem_mod (pd_name (pv 3)) pd_int)) pd_int)))) (toD (pn_bin op_mod sem_mod (toD (pn_bin op_fdivW sem_floor (pd_name (pv 3)) pd_int)) pd_int)))) (by decide) (by decide) (by rfl) (by rfl))) pd_int)) (by rfl) (by first | exact Or.inl rfl | exact Or.inr rfl))) (fun _ => rfl))
    (ss_one (s_ret (pn_lstB (pn_lc (own := [("cell", 3)]) (t := (tgName 3)) (c := (bCmp dGe (eName 3) (eBin dPow (eC (.int 10)) (eC (.int 18))))) rfl S.nd (pw_any (pd_name (pv 1))) (blkOk_by (N := ["script", "cells", "sum_of_all", "cell"]) (sc := defScope s_l_reel) (by decide +kernel)) (fun _ _ _ _ _ => (pg_name (i := 3) S.nd rfl (by first | exact Or.inl rfl | exact Or.inr rfl))) (fun _ _ _ _ _ => (pts_oneD (pt_cmpD op_ge sem_ge (pd_name (pv 3)) (toD (pn_bin op_pow sem_pow pd_int pd_int)) (by rfl)))) (fun _ _ _ _ _ => (pd_name (pv 3))) tgok_name (tgin_name (by decide)) (fun _ => rfl)) (pi_consD (pd_name (pv 2)) (pi_consD (toD (pn_b1 call_lenAny sem_len rfl T.z_len (by rfl) (pd_name (pv 1)) (by decide) (by decide) (by rfl) (by rfl))) pi_nilD (by rfl)) (by rfl)) (by rfl)))))))
theorem sc_l_next : FnScope ["reel", "many", "large", "at", "size"] ["reel", "many"] (defScope s_l_next) := ⟨rfl, rfl, rfl, by decide +kernel, rfl, by decide +kernel, by decide +kernel⟩
theorem ok_l_next (T : Tx K mg) : FnOk Pr w K mg base (L2.CX Pr w) 1 T.a_l_next T.d_l_next ["reel", "many"] (spF K (["reel", "many"] : List Str).length F_l_next) :=
  fn_ok (k := 0) T.p_l_next.F sc_l_next fun cdv A outer s H E n0 hr => by
    have S := sc_l_next
    exact (ss_cons (s_setI (ps_asg (toD (pn_bin op_addAny sem_add (toD (pn_ixJ (pv 0) pd_int (fun _ _ => rfl))) pd_int)) (pg_sub (pv 0) pd_int set_list)))
    (ss_cons (s_set (i := 2) S.nd rfl (by first | exact Or.inl rfl | exact Or.inr rfl) (toD (pn_ixJ (pv 0) pd_int (fun _ _ => rfl))) (by rfl) (by first | exact Or.inl rfl | exact Or.inr rfl))
    (ss_cons (s_if (pt_cmpD op_gt sem_gt (toD (pn_b1 call_lenAny sem_len rfl T.z_len (by rfl) (pd_name (pv 2)) (by decide) (by decide) (by rfl) (by rfl))) pd_int (by rfl)) (ss_cons (s_set (i := 3) S.nd rfl (by first | exact Or.inl rfl | exact Or.inr rfl) (toD (pn_bin op_mod sem_mod (toD (pn_t1 call_int1 sem_toInt rfl T.z_int (by rfl) (toD (pn_ixJ (pv 0) pd_int (fun _ _ => rfl))) (by decide) (by decide) (by rfl) (by rfl))) (toD (pn_b1 call_lenAny sem_len rfl T.z_len (by rfl) (pd_name (pv 2)) (by decide) (by decide) (by rfl) (by rfl))))) (by rfl) (by first | exact Or.inl rfl | exact Or.inr rfl))
    (ss_cons (s_set (i := 4) S.nd rfl (by first | exact Or.inl rfl | exact Or.inr rfl) (toD (pn_t1 call_int1 sem_toInt rfl T.z_int (by rfl) (toD (pn_ix ix_seq sem_ix (pd_name (pv 2)) (pd_name (pv 3)) (fun _ _ => rfl))) (by decide) (by decide) (by rfl) (by rfl))) (by rfl) (by first | exact Or.inl rfl | exact Or.inr rfl))
    (ss_cons (s_setI (ps_asg (toD (pn_bin op_fdivW sem_floor (pd_name (pv 4)) (pd_name (pv 1)))) (pg_sub (pv 2) (pd_name (pv 3)) set_list)))
    (ss_cons (s_if (pt_cmpD (op_eqD hr.units) sem_eq (toD (pn_ix ix_seq sem_ix (pd_name (pv 2)) (pd_name (pv 3)) (fun _ _ => rfl))) pd_int (by rfl)) (ss_one (s_expr (toD (pn_pop (pe_bm PySem.F.plainAttrs_list PySem.F.slot_list_pop PySem.F.type_list_pop mt_popAt (pv 2) (pa_cons (pd_name (pv 3)) pa_nil)))) (by rfl))) ss_nil)
    (ss_one (s_ret (pn_bin op_mod sem_mod (pd_name (pv 4)) (pd_name (pv 1))))))))) ss_nil)
    (ss_cons (s_setI (ps_asg (toD (pn_bin op_mod sem_mod (toD (pn_t1 call_int1 sem_toInt rfl T.z_int (by rfl) (toD (pn_bin op_addAny sem_add (toD (pn_bin op_addAny sem_add (toD (pn_bin op_mulW sem_mul (toD (pn_ixJ (pv 0) pd_int (fun _ _ => rfl))) pd_int)) (toD (pn_bin op_mulW sem_mul (toD (pn_ixJ (pv 0) pd_int (fun _ _ => rfl))) pd_int)))) pd_int)) (by decide) (by decide) (by rfl) (by rfl))) pd_int)) (pg_sub (pv 0) pd_int set_list)))
    (ss_one (s_ret (pn_bin op_mod sem_mod (toD (pn_t1 call_int1 sem_toInt rfl T.z_int (by rfl) (toD (pn_bin op_fdivW sem_floor (toD (pn_ixJ (pv 0) pd_int (fun _ _ => rfl))) pd_int)) (by decide) (by decide) (by rfl) (by rfl))) (pd_name (pv 1)))))))))
theorem sc_l_some : FnScope ["reel", "things", "count", "left", "told", "k"] ["reel", "things", "count"] (defScope s_l_some) := ⟨rfl, rfl, rfl, by decide +kernel, rfl, by decide +kernel, by decide +kernel⟩
theorem ok_l_some (T : Tx K mg) : FnOk Pr w K mg base (L2.CX Pr w) 2 T.a_l_some T.d_l_some ["reel", "things", "count"] (spF K (["reel", "things", "count"] : List Str).length F_l_some) :=
  fn_ok (k := 1) T.p_l_some.F sc_l_some fun cdv A outer s H E n0 hr => by
    have S := sc_l_some
    exact (ss_cons (s_new (i := 3) S.nd rfl (by first | exact Or.inl rfl | exact Or.inr rfl) (pn_t1 call_list_of sem_list rfl T.z_list (by rfl) (pd_name (pv 1)) (by decide) (by decide) (by rfl) (by rfl)) (by rfl) (by first | exact Or.inl rfl | exact Or.inr rfl))
    (ss_cons (s_new (i := 4) S.nd rfl (by first | exact Or.inl rfl | exact Or.inr rfl) (pn_lst pi_nilD) (by rfl) (by first | exact Or.inl rfl | exact Or.inr rfl))
    (ss_cons (s_for (passes_of rfl) rfl (pw_range1 rfl T.z_range (toD (pn_b2 (call_min2 rfl) sem_min rfl T.z_min (by rfl) (pd_name (pv 2)) (toD (pn_b1 call_lenAny sem_len rfl T.z_len (by rfl) (pd_name (pv 3)) (by decide) (by decide) (by rfl) (by rfl))) (by decide) (by decide) (by rfl) (by rfl) (by rfl))) (by rfl) (by rfl)) (pg_name (i := 5) S.nd rfl (by first | exact Or.inl rfl | exact Or.inr rfl)) tgok_name (ss_one (s_app (ps_expr (pe_bm PySem.F.plainAttrs_list PySem.F.slot_list_append PySem.F.type_list_append mt_append (pv 4) (pa_cons (toD (pn_pop (pe_bm PySem.F.plainAttrs_list PySem.F.slot_list_pop PySem.F.type_list_pop mt_popAt (pv 3) (pa_cons (toD (pn_call (ok_l_next T) (takes_of rfl rfl rfl rfl) (hr.mono (by decide)) rfl T.p_l_next.g T.p_l_next.F.kp T.p_l_next.b (ph_cons (pd_name (pv 0)) (ph_cons (toD (pn_b1 call_lenAny sem_len rfl T.z_len (by rfl) (pd_name (pv 3)) (by decide) (by decide) (by rfl) (by rfl))) ph_nil (by rfl)) (by rfl)) (by rfl) (by decide) (by rfl) (by rfl))) pa_nil)))) pa_nil))))) (fun _ => rfl))
    (ss_one (s_ret (toN' (pd_name (pv 4))))))))
theorem sc_l_setting : FnScope ["reel", "many", "count", "kinds", "every", "kind", "names", "s", "t"] ["reel", "many", "count", "kinds"] (defScope s_l_setting) := ⟨rfl, rfl, rfl, by decide +kernel, rfl, by decide +kernel, by decide +kernel⟩
theorem ok_l_setting (T : Tx K mg) : FnOk Pr w K mg base (L2.CX Pr w) 3 T.a_l_setting T.d_l_setting ["reel", "many", "count", "kinds"] (spF K (["reel", "many", "count", "kinds"] : List Str).length F_l_setting) :=
  fn_ok (k := 2) T.p_l_setting.F sc_l_setting fun cdv A outer s H E n0 hr => by
    have S := sc_l_setting
    exact (ss_cons (s_new (i := 4) S.nd rfl (by first | exact Or.inl rfl | exact Or.inr rfl) (pn_lst pi_nilD) (by rfl) (by first | exact Or.inl rfl | exact Or.inr rfl))
    (ss_cons (s_for (passes_of rfl) rfl (pw_any (pd_name (pv 3))) (pg_name (i := 5) S.nd rfl (by first | exact Or.inl rfl | exact Or.inr rfl)) tgok_name (ss_one (s_for (passes_of rfl) rfl (pw_range1 rfl T.z_range (pd_name (pv 1)) (by rfl) (by rfl)) (pg_name (i := 7) S.nd rfl (by first | exact Or.inl rfl | exact Or.inr rfl)) tgok_name (ss_one (s_if (pt_cmpD (op_inAny (hu200 hr)) sem_in (pd_name (pv 5)) (toD (pn_lst (pi_consD pd_str (pi_consD pd_str pi_nilD (by rfl)) (by rfl)))) (by rfl)) (ss_one (s_app (ps_expr (pe_bm PySem.F.plainAttrs_list PySem.F.slot_list_append PySem.F.type_list_append mt_append (pv 4) (pa_cons (toD (pn_tup (pi_consD (pd_name (pv 5)) (pi_consD (pd_name (pv 7)) pi_nilD (by rfl)) (by rfl)))) pa_nil))))) (ss_one (s_new (i := 4) S.nd rfl (by first | exact Or.inl rfl | exact Or.inr rfl) (pn_bin op_addAny sem_add (pd_name (pv 4)) (toD (pn_lc (own := [("t", 8)]) (t := (tgName 8)) (c := bYes) rfl S.nd (pw_range2 rfl T.z_range (toD (pn_bin op_addAny sem_add (pd_name (pv 7)) pd_int)) (pd_name (pv 1)) (by rfl) (by rfl) (by rfl) (by rfl)) (blkOk_by (N := ["reel", "many", "count", "kinds", "every", "kind", "names", "s", "t"]) (sc := defScope s_l_setting) (by decide +kernel)) (fun _ _ _ _ _ => (pg_name (i := 8) S.nd rfl (by first | exact Or.inl rfl | exact Or.inr rfl))) (fun _ _ _ _ _ => pts_yes) (fun _ _ _ _ _ => (toD (pn_tup (pi_consD (pd_name (pv 5)) (pi_consD (pd_name (pv 7)) (pi_consD (pd_name (pv 8)) pi_nilD (by rfl)) (by rfl)) (by rfl))))) tgok_name (tgin_name (by decide)) (fun _ => rfl)))) (by rfl) (by first | exact Or.inl rfl | exact Or.inr rfl))))) (fun _ => rfl))) (fun _ => rfl))
    (ss_cons (s_set (i := 6) S.nd rfl (by first | exact Or.inl rfl | exact Or.inr rfl) (toD (pn_call (ok_l_some T) (takes_of rfl rfl rfl rfl) (hr.mono (by decide)) rfl T.p_l_some.g T.p_l_some.F.kp T.p_l_some.b (ph_cons (pd_name (pv 0)) (ph_cons (toD (pn_lst (pi_consD pd_str (pi_consD pd_str (pi_consD pd_str (pi_consD pd_str (pi_consD pd_str (pi_consD pd_str (pi_consD pd_str pi_nilD (by rfl)) (by rfl)) (by rfl)) (by rfl)) (by rfl)) (by rfl)) (by rfl)))) (ph_cons (pd_name (pv 1)) ph_nil (by rfl)) (by rfl)) (by rfl)) (by rfl) (by decide) (by rfl) (by rfl))) (by rfl) (by first | exact Or.inl rfl | exact Or.inr rfl))
    (ss_one (s_ret (pn_tup (pi_consD (toD (pn_t1 call_tuple_of sem_tuple rfl T.z_tuple (by rfl) (pd_name (pv 6)) (by decide) (by decide) (by rfl) (by rfl))) (pi_consD (toD (pn_t1 call_tuple_of sem_tuple rfl T.z_tuple (by rfl) (toD (pn_call (ok_l_some T) (takes_of rfl rfl rfl rfl) (hr.mono (by decide)) rfl T.p_l_some.g T.p_l_some.F.kp T.p_l_some.b (ph_cons (pd_name (pv 0)) (ph_cons (pd_name (pv 4)) (ph_cons (pd_name (pv 2)) ph_nil (by rfl)) (by rfl)) (by rfl)) (by rfl) (by decide) (by rfl) (by rfl))) (by decide) (by decide) (by rfl) (by rfl))) pi_nilD (by rfl)) (by rfl))))))))
theorem sc_l_row : FnScope ["reel", "many", "length", "few", "turn", "row", "k"] ["reel", "many", "length"] (defScope s_l_row) := ⟨rfl, rfl, rfl, by decide +kernel, rfl, by decide +kernel, by decide +kernel⟩
theorem ok_l_row (T : Tx K mg) : FnOk Pr w K mg base (L2.CX Pr w) 2 T.a_l_row T.d_l_row ["reel", "many", "length"] (spF K (["reel", "many", "length"] : List Str).length F_l_row) :=
  fn_ok (k := 1) T.p_l_row.F sc_l_row fun cdv A outer s H E n0 hr => by
    have S := sc_l_row
    exact (ss_cons (s_set (i := 3) S.nd rfl (by first | exact Or.inl rfl | exact Or.inr rfl) (toD (pn_bin op_addAny sem_add pd_int (toD (pn_call (ok_l_next T) (takes_of rfl rfl rfl rfl) (hr.mono (by decide)) rfl T.p_l_next.g T.p_l_next.F.kp T.p_l_next.b (ph_cons (pd_name (pv 0)) (ph_cons (pd_name (pv 1)) ph_nil (by rfl)) (by rfl)) (by rfl) (by decide) (by rfl) (by rfl))))) (by rfl) (by first | exact Or.inl rfl | exact Or.inr rfl))
    (ss_cons (s_set (i := 4) S.nd rfl (by first | exact Or.inl rfl | exact Or.inr rfl) (toD (pn_call (ok_l_next T) (takes_of rfl rfl rfl rfl) (hr.mono (by decide)) rfl T.p_l_next.g T.p_l_next.F.kp T.p_l_next.b (ph_cons (pd_name (pv 0)) (ph_cons (pd_name (pv 1)) ph_nil (by rfl)) (by rfl)) (by rfl) (by decide) (by rfl) (by rfl))) (by rfl) (by first | exact Or.inl rfl | exact Or.inr rfl))
    (ss_cons (s_new (i := 5) S.nd rfl (by first | exact Or.inl rfl | exact Or.inr rfl) (pn_lst pi_nilD) (by rfl) (by first | exact Or.inl rfl | exact Or.inr rfl))
    (ss_cons (s_for (passes_of rfl) rfl (pw_range1 rfl T.z_range (pd_name (pv 2)) (by rfl) (by rfl)) (pg_name (i := 6) S.nd rfl (by first | exact Or.inl rfl | exact Or.inr rfl)) tgok_name (ss_one (s_app (ps_expr (pe_bm PySem.F.plainAttrs_list PySem.F.slot_list_append PySem.F.type_list_append mt_append (pv 5) (pa_cons (toD (pn_bin op_mod sem_mod (toD (pn_t1 call_int1 sem_toInt rfl T.z_int (by rfl) (toD (pn_bin op_addAny sem_add (toD (pn_call (ok_l_next T) (takes_of rfl rfl rfl rfl) (hr.mono (by decide)) rfl T.p_l_next.g T.p_l_next.F.kp T.p_l_next.b (ph_cons (pd_name (pv 0)) (ph_cons (pd_name (pv 3)) ph_nil (by rfl)) (by rfl)) (by rfl) (by decide) (by rfl) (by rfl))) (pd_name (pv 4)))) (by decide) (by decide) (by rfl) (by rfl))) (pd_name (pv 1)))) pa_nil))))) (fun _ => rfl))
    (ss_one (s_ret (pn_t1 call_tuple_of sem_tuple rfl T.z_tuple (by rfl) (pd_name (pv 5)) (by decide) (by decide) (by rfl) (by rfl))))))))
theorem sc_held_step : FnScope ["row", "sign", "place", "way"] ["row", "sign", "place", "way"] (defScope s_held_step) := ⟨rfl, rfl, rfl, by decide +kernel, rfl, by decide +kernel, by decide +kernel⟩
theorem ok_held_step (T : Tx K mg) : FnOk Pr w K mg base (L2.CX Pr w) 1 T.a_held_step T.d_held_step ["row", "sign", "place", "way"] (spF K (["row", "sign", "place", "way"] : List Str).length F_held_step) :=
  fn_ok (k := 0) T.p_held_step.F sc_held_step fun cdv A outer s H E n0 hr => by
    have S := sc_held_step
    exact (ss_cons (s_if (PW.pt (pw_orD (pt_cmpD op_ge sem_ge (pd_name (pv 2)) (toD (pn_b1 call_lenAny sem_len rfl T.z_len (by rfl) (pd_name (pv 0)) (by decide) (by decide) (by rfl) (by rfl))) (by rfl)) (pw_or1 (pt_cmpD (op_neD hr.units) sem_ne (toD (pn_ix ix_seq sem_ix (pd_name (pv 0)) (pd_name (pv 2)) (fun _ _ => rfl))) (pd_name (pv 1)) (by rfl))))) (ss_one (s_ret (toN' pd_non))) ss_nil)
    (ss_cons (s_if (pt_cmpD (op_eqD hr.units) sem_eq (pd_name (pv 3)) pd_int (by rfl)) (ss_one (s_ret (pn_bin op_addAny sem_add (toD (pn_bin op_addAny sem_add (toD (pn_slice (pd_name (pv 0)) po_noneD (po_someD (pd_name (pv 2))))) (toD (pn_tup (pi_consD (pd_name (pv 1)) pi_nilD (by rfl)))))) (toD (pn_slice (pd_name (pv 0)) (po_someD (pd_name (pv 2))) po_noneD))))) ss_nil)
    (ss_cons (s_if (PW.pt (pw_orD (pt_cmpD op_ge sem_ge (toD (pn_bin op_addAny sem_add (pd_name (pv 2)) pd_int)) (toD (pn_b1 call_lenAny sem_len rfl T.z_len (by rfl) (pd_name (pv 0)) (by decide) (by decide) (by rfl) (by rfl))) (by rfl)) (pw_or1 (pt_cmpD (op_neD hr.units) sem_ne (toD (pn_ix ix_seq sem_ix (pd_name (pv 0)) (toD (pn_bin op_addAny sem_add (pd_name (pv 2)) pd_int)) (fun _ _ => rfl))) (pd_name (pv 1)) (by rfl))))) (ss_one (s_ret (toN' pd_non))) ss_nil)
    (ss_one (s_ret (pn_bin op_addAny sem_add (toD (pn_slice (pd_name (pv 0)) po_noneD (po_someD (pd_name (pv 2))))) (toD (pn_slice (pd_name (pv 0)) (po_someD (toD (pn_bin op_addAny sem_add (pd_name (pv 2)) pd_int))) po_noneD))))))))
theorem sc_idle_step : FnScope ["row", "sign", "place", "way"] ["row", "sign", "place", "way"] (defScope s_idle_step) := ⟨rfl, rfl, rfl, by decide +kernel, rfl, by decide +kernel, by decide +kernel⟩
theorem ok_idle_step (T : Tx K mg) : FnOk Pr w K mg base (L2.CX Pr w) 1 T.a_idle_step T.d_idle_step ["row", "sign", "place", "way"] (spF K (["row", "sign", "place", "way"] : List Str).length F_idle_step) :=
  fn_ok (k := 0) T.p_idle_step.F sc_idle_step fun cdv A outer s H E n0 hr => by
    have S := sc_idle_step
    exact (ss_cons (s_if (pt_cmpD (op_eqD hr.units) sem_eq (pd_name (pv 3)) pd_int (by rfl)) (ss_one (s_ret (pn_if (pt_cmpD op_le sem_le (pd_name (pv 2)) (toD (pn_b1 call_lenAny sem_len rfl T.z_len (by rfl) (pd_name (pv 0)) (by decide) (by decide) (by rfl) (by rfl))) (by rfl)) (pn_bin op_addAny sem_add (toD (pn_bin op_addAny sem_add (toD (pn_slice (pd_name (pv 0)) po_noneD (po_someD (pd_name (pv 2))))) (toD (pn_tup (pi_consD (pd_name (pv 1)) pi_nilD (by rfl)))))) (toD (pn_slice (pd_name (pv 0)) (po_someD (pd_name (pv 2))) po_noneD))) (toN' pd_non)))) ss_nil)
    (ss_cons (s_if (PW.pt (pw_orD (pt_cmpD op_ge sem_ge (pd_name (pv 2)) (toD (pn_b1 call_lenAny sem_len rfl T.z_len (by rfl) (pd_name (pv 0)) (by decide) (by decide) (by rfl) (by rfl))) (by rfl)) (pw_or1 (pt_cmpD (op_neD hr.units) sem_ne (toD (pn_ix ix_seq sem_ix (pd_name (pv 0)) (pd_name (pv 2)) (fun _ _ => rfl))) (pd_name (pv 1)) (by rfl))))) (ss_one (s_ret (toN' pd_non))) ss_nil)
    (ss_one (s_ret (pn_bin op_addAny sem_add (toD (pn_slice (pd_name (pv 0)) po_noneD (po_someD (pd_name (pv 2))))) (toD (pn_slice (pd_name (pv 0)) (po_someD (toD (pn_bin op_addAny sem_add (pd_name (pv 2)) pd_int))) po_noneD)))))))
theorem sc_loose_step : FnScope ["row", "one", "other", "place", "way", "first", "last"] ["row", "one", "other", "place", "way"] (defScope s_loose_step) := ⟨rfl, rfl, rfl, by decide +kernel, rfl, by decide +kernel, by decide +kernel⟩
theorem ok_loose_step (T : Tx K mg) : FnOk Pr w K mg base (L2.CX Pr w) 1 T.a_loose_step T.d_loose_step ["row", "one", "other", "place", "way"] (spF K (["row", "one", "other", "place", "way"] : List Str).length F_loose_step) :=
  fn_ok (k := 0) T.p_loose_step.F sc_loose_step fun cdv A outer s H E n0 hr => by
    have S := sc_loose_step
    exact (ss_cons (s_asg (tgok_any (tgsok_cons (i := 5) (tgsok_cons (i := 6) tgsok_nil)) rfl) (ps_asg (toD (pn_if (pt_cmpD (op_eqD hr.units) sem_eq (pd_name (pv 4)) pd_int (by rfl)) (pn_tup (pi_consD (pd_name (pv 1)) (pi_consD (pd_name (pv 2)) pi_nilD (by rfl)) (by rfl))) (pn_tup (pi_consD (pd_name (pv 2)) (pi_consD (pd_name (pv 1)) pi_nilD (by rfl)) (by rfl))))) (pg_any (n := 2) rfl (pgs_cons (pg_name (i := 5) S.nd rfl (by first | exact Or.inl rfl | exact Or.inr rfl)) (pgs_cons (pg_name (i := 6) S.nd rfl (by first | exact Or.inl rfl | exact Or.inr rfl)) pgs_nil)))))
    (ss_cons (s_if (pt_cmpD (op_neD hr.units) sem_ne (toD (pn_slice (pd_name (pv 0)) (po_someD (pd_name (pv 3))) (po_someD (toD (pn_bin op_addAny sem_add (pd_name (pv 3)) pd_int))))) (toD (pn_tup (pi_consD (pd_name (pv 5)) (pi_consD (pd_name (pv 6)) pi_nilD (by rfl)) (by rfl)))) (by rfl)) (ss_one (s_ret (toN' pd_non))) ss_nil)
    (ss_one (s_ret (pn_bin op_addAny sem_add (toD (pn_bin op_addAny sem_add (toD (pn_slice (pd_name (pv 0)) po_noneD (po_someD (pd_name (pv 3))))) (toD (pn_tup (pi_consD (pd_name (pv 6)) (pi_consD (pd_name (pv 5)) pi_nilD (by rfl)) (by rfl)))))) (toD (pn_slice (pd_name (pv 0)) (po_someD (toD (pn_bin op_addAny sem_add (pd_name (pv 3)) pd_int))) po_noneD)))))))
theorem sc_same_step : FnScope ["row", "one", "other", "place", "way", "first", "last"] ["row", "one", "other", "place", "way"] (defScope s_same_step) := ⟨rfl, rfl, rfl, by decide +kernel, rfl, by decide +kernel, by decide +kernel⟩
theorem ok_same_step (T : Tx K mg) : FnOk Pr w K mg base (L2.CX Pr w) 1 T.a_same_step T.d_same_step ["row", "one", "other", "place", "way"] (spF K (["row", "one", "other", "place", "way"] : List Str).length F_same_step) :=
  fn_ok (k := 0) T.p_same_step.F sc_same_step fun cdv A outer s H E n0 hr => by
    have S := sc_same_step
    exact (ss_cons (s_asg (tgok_any (tgsok_cons (i := 5) (tgsok_cons (i := 6) tgsok_nil)) rfl) (ps_asg (toD (pn_if (pt_cmpD (op_eqD hr.units) sem_eq (pd_name (pv 4)) pd_int (by rfl)) (pn_tup (pi_consD (pd_name (pv 1)) (pi_consD (pd_name (pv 2)) pi_nilD (by rfl)) (by rfl))) (pn_tup (pi_consD (pd_name (pv 2)) (pi_consD (pd_name (pv 1)) pi_nilD (by rfl)) (by rfl))))) (pg_any (n := 2) rfl (pgs_cons (pg_name (i := 5) S.nd rfl (by first | exact Or.inl rfl | exact Or.inr rfl)) (pgs_cons (pg_name (i := 6) S.nd rfl (by first | exact Or.inl rfl | exact Or.inr rfl)) pgs_nil)))))
    (ss_cons (s_if (PW.pt (pw_orD (pt_cmpD op_ge sem_ge (pd_name (pv 3)) (toD (pn_b1 call_lenAny sem_len rfl T.z_len (by rfl) (pd_name (pv 0)) (by decide) (by decide) (by rfl) (by rfl))) (by rfl)) (pw_or1 (pt_cmpD (op_neD hr.units) sem_ne (toD (pn_ix ix_seq sem_ix (pd_name (pv 0)) (pd_name (pv 3)) (fun _ _ => rfl))) (pd_name (pv 5)) (by rfl))))) (ss_one (s_ret (toN' pd_non))) ss_nil)
    (ss_one (s_ret (pn_bin op_addAny sem_add (toD (pn_bin op_addAny sem_add (toD (pn_slice (pd_name (pv 0)) po_noneD (po_someD (pd_name (pv 3))))) (toD (pn_tup (pi_consD (pd_name (pv 6)) pi_nilD (by rfl)))))) (toD (pn_slice (pd_name (pv 0)) (po_someD (toD (pn_bin op_addAny sem_add (pd_name (pv 3)) pd_int))) po_noneD)))))))
theorem sc_stepped : FnScope ["setting", "row", "step", "change", "number", "place", "way"] ["setting", "row", "step"] (defScope s_stepped) := ⟨rfl, rfl, rfl, by decide +kernel, rfl, by decide +kernel, by decide +kernel⟩
theorem ok_stepped (T : Tx K mg) : FnOk Pr w K mg base (L2.CX Pr w) 2 T.a_stepped T.d_stepped ["setting", "row", "step"] (spF K (["setting", "row", "step"] : List Str).length F_stepped) :=
  fn_ok (k := 1) T.p_stepped.F sc_stepped fun cdv A outer s H E n0 hr => by
    have S := sc_stepped
    exact (ss_cons (s_asg (tgok_any (tgsok_cons (i := 4) (tgsok_cons (i := 5) (tgsok_cons (i := 6) tgsok_nil))) rfl) (ps_asg (pd_name (pv 2)) (pg_any (n := 3) rfl (pgs_cons (pg_name (i := 4) S.nd rfl (by first | exact Or.inl rfl | exact Or.inr rfl)) (pgs_cons (pg_name (i := 5) S.nd rfl (by first | exact Or.inl rfl | exact Or.inr rfl)) (pgs_cons (pg_name (i := 6) S.nd rfl (by first | exact Or.inl rfl | exact Or.inr rfl)) pgs_nil))))))
    (ss_cons (s_set (i := 3) S.nd rfl (by first | exact Or.inl rfl | exact Or.inr rfl) (toD (pn_ix ix_seq sem_ix (toD (pn_ix ix_seq sem_ix (pd_name (pv 0)) pd_int (fun _ _ => rfl))) (pd_name (pv 4)) (fun _ _ => rfl))) (by rfl) (by first | exact Or.inl rfl | exact Or.inr rfl))
    (ss_cons (s_if (pt_cmpD (op_eqD hr.units) sem_eq (toD (pn_ix ix_seq sem_ix (pd_name (pv 3)) pd_int (fun _ _ => rfl))) pd_str (by rfl)) (ss_one (s_ret (pn_call (ok_held_step T) (takes_of rfl rfl rfl rfl) (hr.mono (by decide)) rfl T.p_held_step.g T.p_held_step.F.kp T.p_held_step.b (ph_cons (pd_name (pv 1)) (ph_cons (toD (pn_ix ix_seq sem_ix (pd_name (pv 3)) pd_int (fun _ _ => rfl))) (ph_cons (pd_name (pv 5)) (ph_cons (pd_name (pv 6)) ph_nil (by rfl)) (by rfl)) (by rfl)) (by rfl)) (by rfl) (by decide) (by rfl) (by rfl)))) ss_nil)
    (ss_cons (s_if (pt_cmpD (op_eqD hr.units) sem_eq (toD (pn_ix ix_seq sem_ix (pd_name (pv 3)) pd_int (fun _ _ => rfl))) pd_str (by rfl)) (ss_one (s_ret (pn_call (ok_idle_step T) (takes_of rfl rfl rfl rfl) (hr.mono (by decide)) rfl T.p_idle_step.g T.p_idle_step.F.kp T.p_idle_step.b (ph_cons (pd_name (pv 1)) (ph_cons (toD (pn_ix ix_seq sem_ix (pd_name (pv 3)) pd_int (fun _ _ => rfl))) (ph_cons (pd_name (pv 5)) (ph_cons (pd_name (pv 6)) ph_nil (by rfl)) (by rfl)) (by rfl)) (by rfl)) (by rfl) (by decide) (by rfl) (by rfl)))) ss_nil)
    (ss_cons (s_if (pt_cmpD (op_eqD hr.units) sem_eq (toD (pn_ix ix_seq sem_ix (pd_name (pv 3)) pd_int (fun _ _ => rfl))) pd_str (by rfl)) (ss_one (s_ret (pn_call (ok_loose_step T) (takes_of rfl rfl rfl rfl) (hr.mono (by decide)) rfl T.p_loose_step.g T.p_loose_step.F.kp T.p_loose_step.b (ph_cons (pd_name (pv 1)) (ph_cons (toD (pn_ix ix_seq sem_ix (pd_name (pv 3)) pd_int (fun _ _ => rfl))) (ph_cons (toD (pn_ix ix_seq sem_ix (pd_name (pv 3)) pd_int (fun _ _ => rfl))) (ph_cons (pd_name (pv 5)) (ph_cons (pd_name (pv 6)) ph_nil (by rfl)) (by rfl)) (by rfl)) (by rfl)) (by rfl)) (by rfl) (by decide) (by rfl) (by rfl)))) ss_nil)
    (ss_one (s_ret (pn_call (ok_same_step T) (takes_of rfl rfl rfl rfl) (hr.mono (by decide)) rfl T.p_same_step.g T.p_same_step.F.kp T.p_same_step.b (ph_cons (pd_name (pv 1)) (ph_cons (toD (pn_ix ix_seq sem_ix (pd_name (pv 3)) pd_int (fun _ _ => rfl))) (ph_cons (toD (pn_ix ix_seq sem_ix (pd_name (pv 3)) pd_int (fun _ _ => rfl))) (ph_cons (pd_name (pv 5)) (ph_cons (pd_name (pv 6)) ph_nil (by rfl)) (by rfl)) (by rfl)) (by rfl)) (by rfl)) (by rfl) (by decide) (by rfl) (by rfl)))))))))
theorem kb_stepped_setting_row_step (T : Tx K mg) : KBinds K T.d_stepped ["setting", "row", "step"] ["setting", "row", "step"] (fun us ws => if us.isEmpty then permute [0, 1, 2] ws else []) (fun us ws => if us.isEmpty then permute [0, 1, 2] ws else []) :=
  kbinds_mk T.p_stepped.F (fun kV doc pm an cdv ct ws hl => by
    rcases ws with _ | ⟨x, _ | ⟨x, _ | ⟨x, r⟩⟩⟩
    · simp [permute] at hl
    · simp [permute] at hl
    · simp [permute] at hl
    · rfl) (by simp)
theorem sc_steps_from : FnScope ["setting", "row", "found", "number", "place", "way"] ["setting", "row"] (defScope s_steps_from) := ⟨rfl, rfl, rfl, by decide +kernel, rfl, by decide +kernel, by decide +kernel⟩
theorem ok_steps_from (T : Tx K mg) : FnOk Pr w K mg base (L2.CX Pr w) 3 T.a_steps_from T.d_steps_from ["setting", "row"] (spF K (["setting", "row"] : List Str).length F_steps_from) :=
  fn_ok (k := 2) T.p_steps_from.F sc_steps_from fun cdv A outer s H E n0 hr => by
    have S := sc_steps_from
    exact (ss_cons (s_new (i := 2) S.nd rfl (by first | exact Or.inl rfl | exact Or.inr rfl) (pn_lst pi_nilD) (by rfl) (by first | exact Or.inl rfl | exact Or.inr rfl))
    (ss_cons (s_for (passes_of rfl) rfl (pw_range1 rfl T.z_range (toD (pn_b1 call_lenAny sem_len rfl T.z_len (by rfl) (toD (pn_ix ix_seq sem_ix (pd_name (pv 0)) pd_int (fun _ _ => rfl))) (by decide) (by decide) (by rfl) (by rfl))) (by rfl) (by rfl)) (pg_name (i := 3) S.nd rfl (by first | exact Or.inl rfl | exact Or.inr rfl)) tgok_name (ss_one (s_for (passes_of rfl) rfl (pw_range1 rfl T.z_range (toD (pn_bin op_addAny sem_add (toD (pn_b1 call_lenAny sem_len rfl T.z_len (by rfl) (pd_name (pv 1)) (by decide) (by decide) (by rfl) (by rfl))) pd_int)) (by rfl) (by rfl)) (pg_name (i := 4) S.nd rfl (by first | exact Or.inl rfl | exact Or.inr rfl)) tgok_name (ss_one (s_for (passes_of rfl) rfl (pw_any (toD (pn_tup (pi_consD pd_int (pi_consD pd_int pi_nilD (by rfl)) (by rfl))))) (pg_name (i := 5) S.nd rfl (by first | exact Or.inl rfl | exact Or.inr rfl)) tgok_name (ss_one (s_if (pt_notNn (toD (pn_call (ok_stepped T) (takes_of rfl rfl rfl rfl) (hr.mono (by decide)) rfl T.p_stepped.g T.p_stepped.F.kp T.p_stepped.b (ph_cons (pd_name (pv 0)) (ph_cons (pd_name (pv 1)) (ph_cons (toD (pn_tup (pi_consD (pd_name (pv 3)) (pi_consD (pd_name (pv 4)) (pi_consD (pd_name (pv 5)) pi_nilD (by rfl)) (by rfl)) (by rfl)))) ph_nil (by rfl)) (by rfl)) (by rfl)) (by rfl) (by decide) (by rfl) (by rfl)))) (ss_one (s_app (ps_expr (pe_bm PySem.F.plainAttrs_list PySem.F.slot_list_append PySem.F.type_list_append mt_append (pv 2) (pa_cons (toD (pn_tup (pi_consD (pd_name (pv 3)) (pi_consD (pd_name (pv 4)) (pi_consD (pd_name (pv 5)) pi_nilD (by rfl)) (by rfl)) (by rfl)))) pa_nil))))) ss_nil)) (fun _ => rfl))) (fun _ => rfl))) (fun _ => rfl))
    (ss_one (s_ret (pn_t1 call_tuple_of sem_tuple rfl T.z_tuple (by rfl) (pd_name (pv 2)) (by decide) (by decide) (by rfl) (by rfl))))))
theorem kb_steps_from_setting_row (T : Tx K mg) : KBinds K T.d_steps_from ["setting", "row"] ["setting", "row"] (fun us ws => if us.isEmpty then permute [0, 1] ws else []) (fun us ws => if us.isEmpty then permute [0, 1] ws else []) :=
  kbinds_mk T.p_steps_from.F (fun kV doc pm an cdv ct ws hl => by
    rcases ws with _ | ⟨x, _ | ⟨x, r⟩⟩
    · simp [permute] at hl
    · simp [permute] at hl
    · rfl) (by simp)
theorem sc_l_done : FnScope ["setting", "row", "step", "change", "s", "here", "behind", "ahead", "one", "other", "number", "place", "way"] ["setting", "row", "step"] (defScope s_l_done) := ⟨rfl, rfl, rfl, by decide +kernel, rfl, by decide +kernel, by decide +kernel⟩
theorem ok_l_done (T : Tx K mg) : FnOk Pr w K mg base (L2.CX Pr w) 1 T.a_l_done T.d_l_done ["setting", "row", "step"] (spF K (["setting", "row", "step"] : List Str).length F_l_done) :=
  fn_ok (k := 0) T.p_l_done.F sc_l_done fun cdv A outer s H E n0 hr => by
    have S := sc_l_done
    exact (ss_cons (s_asg (tgok_any (tgsok_cons (i := 10) (tgsok_cons (i := 11) (tgsok_cons (i := 12) tgsok_nil))) rfl) (ps_asg (pd_name (pv 2)) (pg_any (n := 3) rfl (pgs_cons (pg_name (i := 10) S.nd rfl (by first | exact Or.inl rfl | exact Or.inr rfl)) (pgs_cons (pg_name (i := 11) S.nd rfl (by first | exact Or.inl rfl | exact Or.inr rfl)) (pgs_cons (pg_name (i := 12) S.nd rfl (by first | exact Or.inl rfl | exact Or.inr rfl)) pgs_nil))))))
    (ss_cons (s_set (i := 3) S.nd rfl (by first | exact Or.inl rfl | exact Or.inr rfl) (toD (pn_ix ix_seq sem_ix (toD (pn_ix ix_seq sem_ix (pd_name (pv 0)) pd_int (fun _ _ => rfl))) (pd_name (pv 10)) (fun _ _ => rfl))) (by rfl) (by first | exact Or.inl rfl | exact Or.inr rfl))
    (ss_cons (s_set (i := 4) S.nd rfl (by first | exact Or.inl rfl | exact Or.inr rfl) (toD (pn_ix ix_seq sem_ix (pd_name (pv 3)) pd_int (fun _ _ => rfl))) (by rfl) (by first | exact Or.inl rfl | exact Or.inr rfl))
    (ss_cons (s_if (PW.pt (pw_andD (pt_cmpD (op_eqD hr.units) sem_eq (toD (pn_ix ix_seq sem_ix (pd_name (pv 3)) pd_int (fun _ _ => rfl))) pd_str (by rfl)) (pw_and1 (pt_cmpD (op_eqD hr.units) sem_eq (pd_name (pv 12)) pd_int (by rfl))))) (ss_cons (s_if (pt_cmpD op_gt sem_gt (pd_name (pv 11)) (toD (pn_b1 call_lenAny sem_len rfl T.z_len (by rfl) (pd_name (pv 1)) (by decide) (by decide) (by rfl) (by rfl))) (by rfl)) (ss_one (s_ret (toN' pd_non))) ss_nil)
    (ss_one (s_ret (pn_bin op_addAny sem_add (toD (pn_bin op_addAny sem_add (toD (pn_slice (pd_name (pv 1)) po_noneD (po_someD (pd_name (pv 11))))) (toD (pn_tup (pi_consD (pd_name (pv 4)) pi_nilD (by rfl)))))) (toD (pn_slice (pd_name (pv 1)) (po_someD (pd_name (pv 11))) po_noneD)))))) ss_nil)
    (ss_cons (s_if (pt_cmpD op_ge sem_ge (pd_name (pv 11)) (toD (pn_b1 call_lenAny sem_len rfl T.z_len (by rfl) (pd_name (pv 1)) (by decide) (by decide) (by rfl) (by rfl))) (by rfl)) (ss_one (s_ret (toN' pd_non))) ss_nil)
    (ss_cons (s_set (i := 5) S.nd rfl (by first | exact Or.inl rfl | exact Or.inr rfl) (toD (pn_ix ix_seq sem_ix (pd_name (pv 1)) (pd_name (pv 11)) (fun _ _ => rfl))) (by rfl) (by first | exact Or.inl rfl | exact Or.inr rfl))
    (ss_cons (s_set (i := 6) S.nd rfl (by first | exact Or.inl rfl | exact Or.inr rfl) (toD (pn_t1 call_list_of sem_list rfl T.z_list (by rfl) (toD (pn_slice (pd_name (pv 1)) (po_someD (toD (pn_bin op_addAny sem_add (pd_name (pv 11)) pd_int))) po_noneD)) (by decide) (by decide) (by rfl) (by rfl))) (by rfl) (by first | exact Or.inl rfl | exact Or.inr rfl))
    (ss_cons (s_set (i := 7) S.nd rfl (by first | exact Or.inl rfl | exact Or.inr rfl) (toD (pn_t1 call_list_of sem_list rfl T.z_list (by rfl) (toD (pn_slice (pd_name (pv 1)) po_noneD (po_someD (pd_name (pv 11))))) (by decide) (by decide) (by rfl) (by rfl))) (by rfl) (by first | exact Or.inl rfl | exact Or.inr rfl))
    (ss_cons (s_if (pt_cmpD (op_eqD hr.units) sem_eq (toD (pn_ix ix_seq sem_ix (pd_name (pv 3)) pd_int (fun _ _ => rfl))) pd_str (by rfl)) (ss_one (s_ret (pn_if (pt_cmpD (op_eqD hr.units) sem_eq (pd_name (pv 5)) (pd_name (pv 4)) (by rfl)) (pn_t1 call_tuple_of sem_tuple rfl T.z_tuple (by rfl) (toD (pn_bin op_addAny sem_add (pd_name (pv 7)) (pd_name (pv 6)))) (by decide) (by decide) (by rfl) (by rfl)) (toN' pd_non)))) ss_nil)
    (ss_cons (s_if (PW.pt (pw_andD (pt_cmpD (op_eqD hr.units) sem_eq (toD (pn_ix ix_seq sem_ix (pd_name (pv 3)) pd_int (fun _ _ => rfl))) pd_str (by rfl)) (pw_and1 (pt_cmpD (op_eqD hr.units) sem_eq (pd_name (pv 12)) pd_int (by rfl))))) (ss_one (s_ret (pn_if (pt_cmpD (op_eqD hr.units) sem_eq (pd_name (pv 5)) (pd_name (pv 4)) (by rfl)) (pn_t1 call_tuple_of sem_tuple rfl T.z_tuple (by rfl) (toD (pn_bin op_addAny sem_add (toD (pn_bin op_addAny sem_add (pd_name (pv 7)) (toD (pn_lst (pi_consD (pd_name (pv 4)) (pi_consD (pd_name (pv 4)) pi_nilD (by rfl)) (by rfl)))))) (pd_name (pv 6)))) (by decide) (by decide) (by rfl) (by rfl)) (toN' pd_non)))) ss_nil)
    (ss_cons (s_if (pt_cmpD (op_eqD hr.units) sem_eq (toD (pn_ix ix_seq sem_ix (pd_name (pv 3)) pd_int (fun _ _ => rfl))) pd_str (by rfl)) (ss_one (s_ret (pn_if (PW.pt (pw_andD (pt_cmpD (op_eqD hr.units) sem_eq (pd_name (pv 5)) (pd_name (pv 4)) (by rfl)) (pw_andD (pt_cmpD op_gt sem_gt (toD (pn_b1 call_lenAny sem_len rfl T.z_len (by rfl) (pd_name (pv 6)) (by decide) (by decide) (by rfl) (by rfl))) pd_int (by rfl)) (pw_and1 (pt_cmpD (op_eqD hr.units) sem_eq (toD (pn_ix ix_seq sem_ix (pd_name (pv 6)) pd_int (fun _ _ => rfl))) (pd_name (pv 4)) (by rfl)))))) (pn_t1 call_tuple_of sem_tuple rfl T.z_tuple (by rfl) (toD (pn_bin op_addAny sem_add (pd_name (pv 7)) (pd_name (pv 6)))) (by decide) (by decide) (by rfl) (by rfl)) (toN' pd_non)))) ss_nil)
    (ss_cons (s_set (i := 8) S.nd rfl (by first | exact Or.inl rfl | exact Or.inr rfl) (toD (pn_ix ix_seq sem_ix (pd_name (pv 3)) (toD (pn_bin op_sub sem_sub pd_int (pd_name (pv 12)))) (fun _ _ => rfl))) (by rfl) (by first | exact Or.inl rfl | exact Or.inr rfl))
    (ss_cons (s_set (i := 9) S.nd rfl (by first | exact Or.inl rfl | exact Or.inr rfl) (toD (pn_ix ix_seq sem_ix (pd_name (pv 3)) (toD (pn_bin op_addAny sem_add pd_int (pd_name (pv 12)))) (fun _ _ => rfl))) (by rfl) (by first | exact Or.inl rfl | exact Or.inr rfl))
    (ss_cons (s_if (pt_cmpD (op_neD hr.units) sem_ne (pd_name (pv 5)) (pd_name (pv 8)) (by rfl)) (ss_one (s_ret (toN' pd_non))) ss_nil)
    (ss_cons (s_if (pt_cmpD (op_eqD hr.units) sem_eq (toD (pn_ix ix_seq sem_ix (pd_name (pv 3)) pd_int (fun _ _ => rfl))) pd_str (by rfl)) (ss_one (s_ret (pn_t1 call_tuple_of sem_tuple rfl T.z_tuple (by rfl) (toD (pn_bin op_addAny sem_add (toD (pn_bin op_addAny sem_add (pd_name (pv 7)) (toD (pn_lst (pi_consD (pd_name (pv 9)) pi_nilD (by rfl)))))) (pd_name (pv 6)))) (by decide) (by decide) (by rfl) (by rfl)))) ss_nil)
    (ss_cons (s_if (PW.pt (pw_orD (pt_cmpD (op_eqD hr.units) sem_eq (toD (pn_b1 call_lenAny sem_len rfl T.z_len (by rfl) (pd_name (pv 6)) (by decide) (by decide) (by rfl) (by rfl))) pd_int (by rfl)) (pw_or1 (pt_cmpD (op_neD hr.units) sem_ne (toD (pn_ix ix_seq sem_ix (pd_name (pv 6)) pd_int (fun _ _ => rfl))) (pd_name (pv 9)) (by rfl))))) (ss_one (s_ret (toN' pd_non))) ss_nil)
    (ss_one (s_ret (pn_t1 call_tuple_of sem_tuple rfl T.z_tuple (by rfl) (toD (pn_bin op_addAny sem_add (toD (pn_bin op_addAny sem_add (pd_name (pv 7)) (toD (pn_lst (pi_consD (pd_name (pv 9)) (pi_consD (pd_name (pv 8)) pi_nilD (by rfl)) (by rfl)))))) (toD (pn_slice (pd_name (pv 6)) (po_someD pd_int) po_noneD)))) (by decide) (by decide) (by rfl) (by rfl))))))))))))))))))))
theorem sc_l_row_is : FnScope ["told", "due", "k"] ["told", "due"] (defScope s_l_row_is) := ⟨rfl, rfl, rfl, by decide +kernel, rfl, by decide +kernel, by decide +kernel⟩
theorem ok_l_row_is (T : Tx K mg) : FnOk Pr w K mg base (L2.CX Pr w) 1 T.a_l_row_is T.d_l_row_is ["told", "due"] (spF K (["told", "due"] : List Str).length F_l_row_is) :=
  fn_ok (k := 0) T.p_l_row_is.F sc_l_row_is fun cdv A outer s H E n0 hr => by
    have S := sc_l_row_is
    exact (ss_cons (s_if (pt_isN (pd_name (pv 1))) (ss_one (s_ret (pn_isN (pd_name (pv 0))))) ss_nil)
    (ss_cons (s_if (PW.pt (pw_orD (pt_notD (pt_truthD (toD (pn_isi call_isi (sem_isa isa_tuple) rfl T.z_isinstance (by rfl) (pd_name (pv 0)) (pe_bltn rfl T.z_tuple (by rfl) rfl) (by decide) (by decide) (by rfl) (by rfl) (by rfl))) (fun _ => rfl))) (pw_or1 (pt_cmpD (op_neD hr.units) sem_ne (toD (pn_b1 call_lenAny sem_len rfl T.z_len (by rfl) (pd_name (pv 0)) (by decide) (by decide) (by rfl) (by rfl))) (toD (pn_b1 call_lenAny sem_len rfl T.z_len (by rfl) (pd_name (pv 1)) (by decide) (by decide) (by rfl) (by rfl))) (by rfl))))) (ss_one (s_ret (toN' pd_bl))) ss_nil)
    (ss_cons (s_for (passes_of rfl) rfl (pw_range1 rfl T.z_range (toD (pn_b1 call_lenAny sem_len rfl T.z_len (by rfl) (pd_name (pv 1)) (by decide) (by decide) (by rfl) (by rfl))) (by rfl) (by rfl)) (pg_name (i := 2) S.nd rfl (by first | exact Or.inl rfl | exact Or.inr rfl)) tgok_name (ss_one (s_if (PW.pt (pw_orD (pt_notD (pt_truthD (toD (pn_isi call_isi (sem_isa isa_int) rfl T.z_isinstance (by rfl) (toD (pn_ix ix_seq sem_ix (pd_name (pv 0)) (pd_name (pv 2)) (fun _ _ => rfl))) (pe_bltn rfl T.z_int (by rfl) rfl) (by decide) (by decide) (by rfl) (by rfl) (by rfl))) (fun _ => rfl))) (pw_orD (pt_truthD (toD (pn_isi call_isi (sem_isa isa_bool) rfl T.z_isinstance (by rfl) (toD (pn_ix ix_seq sem_ix (pd_name (pv 0)) (pd_name (pv 2)) (fun _ _ => rfl))) (pe_bltn rfl T.z_bool (by rfl) rfl) (by decide) (by decide) (by rfl) (by rfl) (by rfl))) (fun _ => rfl)) (pw_or1 (pt_cmpD (op_neD hr.units) sem_ne (toD (pn_ix ix_seq sem_ix (pd_name (pv 0)) (pd_name (pv 2)) (fun _ _ => rfl))) (toD (pn_ix ix_seq sem_ix (pd_name (pv 1)) (pd_name (pv 2)) (fun _ _ => rfl))) (by rfl)))))) (ss_one (s_ret (toN' pd_bl))) ss_nil)) (fun _ => rfl))
    (ss_one (s_ret (toN' pd_bl))))))
theorem sc_l_steps : FnScope ["setting", "row", "named", "far", "due", "number", "told", "k", "place", "way", "step", "behind"] ["setting", "row", "named", "far"] (defScope s_l_steps) := ⟨rfl, rfl, rfl, by decide +kernel, rfl, by decide +kernel, by decide +kernel⟩
theorem ok_l_steps (T : Tx K mg) : FnOk Pr w K mg base (L2.CX Pr w) 4 T.a_l_steps T.d_l_steps ["setting", "row", "named", "far"] (spF K (["setting", "row", "named", "far"] : List Str).length F_l_steps) :=
  fn_ok (k := 3) T.p_l_steps.F sc_l_steps fun cdv A outer s H E n0 hr => by
    have S := sc_l_steps
    exact (ss_cons (s_new (i := 4) S.nd rfl (by first | exact Or.inl rfl | exact Or.inr rfl) (pn_lst pi_nilD) (by rfl) (by first | exact Or.inl rfl | exact Or.inr rfl))
    (ss_cons (s_for (passes_of rfl) rfl (pw_range1 rfl T.z_range (toD (pn_b1 call_lenAny sem_len rfl T.z_len (by rfl) (toD (pn_ix ix_seq sem_ix (pd_name (pv 0)) pd_int (fun _ _ => rfl))) (by decide) (by decide) (by rfl) (by rfl))) (by rfl) (by rfl)) (pg_name (i := 5) S.nd rfl (by first | exact Or.inl rfl | exact Or.inr rfl)) tgok_name (ss_one (s_for (passes_of rfl) rfl (pw_any (toD (pn_bin op_addAny sem_add (toD (pn_listRg1 rfl T.z_list rfl (prg_1 rfl T.z_range (toD (pn_bin op_addAny sem_add (toD (pn_b1 call_lenAny sem_len rfl T.z_len (by rfl) (pd_name (pv 1)) (by decide) (by decide) (by rfl) (by rfl))) pd_int))) (by rfl))) (pd_name (pv 3))))) (pg_name (i := 8) S.nd rfl (by first | exact Or.inl rfl | exact Or.inr rfl)) tgok_name (ss_one (s_for (passes_of rfl) rfl (pw_range1 rfl T.z_range pd_int (by rfl) (by rfl)) (pg_name (i := 9) S.nd rfl (by first | exact Or.inl rfl | exact Or.inr rfl)) tgok_name (ss_cons (s_set (i := 10) S.nd rfl (by first | exact Or.inl rfl | exact Or.inr rfl) (toD (pn_tup (pi_consD (pd_name (pv 5)) (pi_consD (pd_name (pv 8)) (pi_consD (pd_name (pv 9)) pi_nilD (by rfl)) (by rfl)) (by rfl)))) (by rfl) (by first | exact Or.inl rfl | exact Or.inr rfl))
    (ss_cons (s_set (i := 11) S.nd rfl (by first | exact Or.inl rfl | exact Or.inr rfl) (toD (pn_call (ok_l_done T) (takes_of rfl rfl rfl rfl) (hr.mono (by decide)) rfl T.p_l_done.g T.p_l_done.F.kp T.p_l_done.b (ph_cons (pd_name (pv 0)) (ph_cons (pd_name (pv 1)) (ph_cons (pd_name (pv 10)) ph_nil (by rfl)) (by rfl)) (by rfl)) (by rfl) (by decide) (by rfl) (by rfl))) (by rfl) (by first | exact Or.inl rfl | exact Or.inr rfl))
    (ss_cons (s_set (i := 6) S.nd rfl (by first | exact Or.inl rfl | exact Or.inr rfl) (toD (pn_if (pt_truthD (pd_name (pv 2)) (fun _ => rfl)) (pn_callK (ok_stepped T) (takes_of rfl rfl rfl rfl) (hr.mono (by decide)) rfl T.p_stepped.g T.p_stepped.F.kp (kb_stepped_setting_row_step T) (pk_consD (pd_name (pv 0)) (pk_consD (pd_name (pv 1)) (pk_consD (pd_name (pv 10)) pk_nilD))) (by decide) (by rfl) (by rfl) (by rfl) (by decide) (by rfl)) (pn_call (ok_stepped T) (takes_of rfl rfl rfl rfl) (hr.mono (by decide)) rfl T.p_stepped.g T.p_stepped.F.kp T.p_stepped.b (ph_cons (pd_name (pv 0)) (ph_cons (pd_name (pv 1)) (ph_cons (pd_name (pv 10)) ph_nil (by rfl)) (by rfl)) (by rfl)) (by rfl) (by decide) (by rfl) (by rfl)))) (by rfl) (by first | exact Or.inl rfl | exact Or.inr rfl))
    (ss_cons (s_if (pt_notD (pt_truthD (toD (pn_call (ok_l_row_is T) (takes_of rfl rfl rfl rfl) (hr.mono (by decide)) rfl T.p_l_row_is.g T.p_l_row_is.F.kp T.p_l_row_is.b (ph_cons (pd_name (pv 6)) (ph_cons (pd_name (pv 11)) ph_nil (by rfl)) (by rfl)) (by rfl) (by decide) (by rfl) (by rfl))) (fun _ => rfl))) (ss_one (s_ret (toN' pd_bl))) ss_nil)
    (ss_one (s_if (pt_notNn (pd_name (pv 11))) (ss_one (s_app (ps_expr (pe_bm PySem.F.plainAttrs_list PySem.F.slot_list_append PySem.F.type_list_append mt_append (pv 4) (pa_cons (pd_name (pv 10)) pa_nil))))) ss_nil)))))) (fun _ => rfl))) (fun _ => rfl))) (fun _ => rfl))
    (ss_cons (s_set (i := 6) S.nd rfl (by first | exact Or.inl rfl | exact Or.inr rfl) (toD (pn_if (pt_truthD (pd_name (pv 2)) (fun _ => rfl)) (pn_callK (ok_steps_from T) (takes_of rfl rfl rfl rfl) (hr.mono (by decide)) rfl T.p_steps_from.g T.p_steps_from.F.kp (kb_steps_from_setting_row T) (pk_consD (pd_name (pv 0)) (pk_consD (pd_name (pv 1)) pk_nilD)) (by decide) (by rfl) (by rfl) (by rfl) (by decide) (by rfl)) (pn_call (ok_steps_from T) (takes_of rfl rfl rfl rfl) (hr.mono (by decide)) rfl T.p_steps_from.g T.p_steps_from.F.kp T.p_steps_from.b (ph_cons (pd_name (pv 0)) (ph_cons (pd_name (pv 1)) ph_nil (by rfl)) (by rfl)) (by rfl) (by decide) (by rfl) (by rfl)))) (by rfl) (by first | exact Or.inl rfl | exact Or.inr rfl))
    (ss_cons (s_if (PW.pt (pw_orD (pt_notD (pt_truthD (toD (pn_isi call_isi (sem_isa isa_tuple) rfl T.z_isinstance (by rfl) (pd_name (pv 6)) (pe_bltn rfl T.z_tuple (by rfl) rfl) (by decide) (by decide) (by rfl) (by rfl) (by rfl))) (fun _ => rfl))) (pw_or1 (pt_cmpD (op_neD hr.units) sem_ne (toD (pn_b1 call_lenAny sem_len rfl T.z_len (by rfl) (pd_name (pv 6)) (by decide) (by decide) (by rfl) (by rfl))) (toD (pn_b1 call_lenAny sem_len rfl T.z_len (by rfl) (pd_name (pv 4)) (by decide) (by decide) (by rfl) (by rfl))) (by rfl))))) (ss_one (s_ret (toN' pd_bl))) ss_nil)
    (ss_cons (s_for (passes_of rfl) rfl (pw_range1 rfl T.z_range (toD (pn_b1 call_lenAny sem_len rfl T.z_len (by rfl) (pd_name (pv 4)) (by decide) (by decide) (by rfl) (by rfl))) (by rfl) (by rfl)) (pg_name (i := 7) S.nd rfl (by first | exact Or.inl rfl | exact Or.inr rfl)) tgok_name (ss_one (s_if (pt_notD (pt_truthD (toD (pn_call (ok_l_row_is T) (takes_of rfl rfl rfl rfl) (hr.mono (by decide)) rfl T.p_l_row_is.g T.p_l_row_is.F.kp T.p_l_row_is.b (ph_cons (toD (pn_ix ix_seq sem_ix (pd_name (pv 6)) (pd_name (pv 7)) (fun _ _ => rfl))) (ph_cons (toD (pn_ix ix_seq sem_ix (pd_name (pv 4)) (pd_name (pv 7)) (fun _ _ => rfl))) ph_nil (by rfl)) (by rfl)) (by rfl) (by decide) (by rfl) (by rfl))) (fun _ => rfl))) (ss_one (s_ret (toN' pd_bl))) ss_nil)) (fun _ => rfl))
    (ss_one (s_ret (toN' pd_bl))))))))
theorem sc_l_few : FnScope ["reel", "setting", "row", "named", "lap", "due", "number", "told", "k", "step", "place", "way"] ["reel", "setting", "row", "named"] (defScope s_l_few) := ⟨rfl, rfl, rfl, by decide +kernel, rfl, by decide +kernel, by decide +kernel⟩
theorem ok_l_few (T : Tx K mg) : FnOk Pr w K mg base (L2.CX Pr w) 4 T.a_l_few T.d_l_few ["reel", "setting", "row", "named"] (spF K (["reel", "setting", "row", "named"] : List Str).length F_l_few) :=
  fn_ok (k := 3) T.p_l_few.F sc_l_few fun cdv A outer s H E n0 hr => by
    have S := sc_l_few
    exact (ss_cons (s_for (passes_of rfl) rfl (pw_range1 rfl T.z_range pd_int (by rfl) (by rfl)) (pg_name (i := 4) S.nd rfl (by first | exact Or.inl rfl | exact Or.inr rfl)) tgok_name (ss_cons (s_set (i := 9) S.nd rfl (by first | exact Or.inl rfl | exact Or.inr rfl) (toD (pn_tup (pi_consD (toD (pn_call (ok_l_next T) (takes_of rfl rfl rfl rfl) (hr.mono (by decide)) rfl T.p_l_next.g T.p_l_next.F.kp T.p_l_next.b (ph_cons (pd_name (pv 0)) (ph_cons (toD (pn_b1 call_lenAny sem_len rfl T.z_len (by rfl) (toD (pn_ix ix_seq sem_ix (pd_name (pv 1)) pd_int (fun _ _ => rfl))) (by decide) (by decide) (by rfl) (by rfl))) ph_nil (by rfl)) (by rfl)) (by rfl) (by decide) (by rfl) (by rfl))) (pi_consD (toD (pn_call (ok_l_next T) (takes_of rfl rfl rfl rfl) (hr.mono (by decide)) rfl T.p_l_next.g T.p_l_next.F.kp T.p_l_next.b (ph_cons (pd_name (pv 0)) (ph_cons (toD (pn_bin op_addAny sem_add (toD (pn_b1 call_lenAny sem_len rfl T.z_len (by rfl) (pd_name (pv 2)) (by decide) (by decide) (by rfl) (by rfl))) pd_int)) ph_nil (by rfl)) (by rfl)) (by rfl) (by decide) (by rfl) (by rfl))) (pi_consD (toD (pn_call (ok_l_next T) (takes_of rfl rfl rfl rfl) (hr.mono (by decide)) rfl T.p_l_next.g T.p_l_next.F.kp T.p_l_next.b (ph_cons (pd_name (pv 0)) (ph_cons pd_int ph_nil (by rfl)) (by rfl)) (by rfl) (by decide) (by rfl) (by rfl))) pi_nilD (by rfl)) (by rfl)) (by rfl)))) (by rfl) (by first | exact Or.inl rfl | exact Or.inr rfl))
    (ss_cons (s_set (i := 7) S.nd rfl (by first | exact Or.inl rfl | exact Or.inr rfl) (toD (pn_if (pt_truthD (pd_name (pv 3)) (fun _ => rfl)) (pn_callK (ok_stepped T) (takes_of rfl rfl rfl rfl) (hr.mono (by decide)) rfl T.p_stepped.g T.p_stepped.F.kp (kb_stepped_setting_row_step T) (pk_consD (pd_name (pv 1)) (pk_consD (pd_name (pv 2)) (pk_consD (pd_name (pv 9)) pk_nilD))) (by decide) (by rfl) (by rfl) (by rfl) (by decide) (by rfl)) (pn_call (ok_stepped T) (takes_of rfl rfl rfl rfl) (hr.mono (by decide)) rfl T.p_stepped.g T.p_stepped.F.kp T.p_stepped.b (ph_cons (pd_name (pv 1)) (ph_cons (pd_name (pv 2)) (ph_cons (pd_name (pv 9)) ph_nil (by rfl)) (by rfl)) (by rfl)) (by rfl) (by decide) (by rfl) (by rfl)))) (by rfl) (by first | exact Or.inl rfl | exact Or.inr rfl))
    (ss_one (s_if (pt_notD (pt_truthD (toD (pn_call (ok_l_row_is T) (takes_of rfl rfl rfl rfl) (hr.mono (by decide)) rfl T.p_l_row_is.g T.p_l_row_is.F.kp T.p_l_row_is.b (ph_cons (pd_name (pv 7)) (ph_cons (toD (pn_call (ok_l_done T) (takes_of rfl rfl rfl rfl) (hr.mono (by decide)) rfl T.p_l_done.g T.p_l_done.F.kp T.p_l_done.b (ph_cons (pd_name (pv 1)) (ph_cons (pd_name (pv 2)) (ph_cons (pd_name (pv 9)) ph_nil (by rfl)) (by rfl)) (by rfl)) (by rfl) (by decide) (by rfl) (by rfl))) ph_nil (by rfl)) (by rfl)) (by rfl) (by decide) (by rfl) (by rfl))) (fun _ => rfl))) (ss_one (s_ret (toN' pd_bl))) ss_nil)))) (fun _ => rfl))
    (ss_cons (s_set (i := 5) S.nd rfl (by first | exact Or.inl rfl | exact Or.inr rfl) (toD (pn_lst pi_nilD)) (by rfl) (by first | exact Or.inl rfl | exact Or.inr rfl))
    (ss_cons (s_for (passes_of rfl) rfl (pw_range1 rfl T.z_range (toD (pn_b1 call_lenAny sem_len rfl T.z_len (by rfl) (toD (pn_ix ix_seq sem_ix (pd_name (pv 1)) pd_int (fun _ _ => rfl))) (by decide) (by decide) (by rfl) (by rfl))) (by rfl) (by rfl)) (pg_name (i := 6) S.nd rfl (by first | exact Or.inl rfl | exact Or.inr rfl)) tgok_name (ss_one (s_for (passes_of rfl) rfl (pw_range1 rfl T.z_range (toD (pn_bin op_addAny sem_add (toD (pn_b1 call_lenAny sem_len rfl T.z_len (by rfl) (pd_name (pv 2)) (by decide) (by decide) (by rfl) (by rfl))) pd_int)) (by rfl) (by rfl)) (pg_name (i := 10) S.nd rfl (by first | exact Or.inl rfl | exact Or.inr rfl)) tgok_name (ss_one (s_set (i := 5) S.nd rfl (by first | exact Or.inl rfl | exact Or.inr rfl) (toD (pn_bin op_addAny sem_add (pd_name (pv 5)) (toD (pn_lc (own := [("way", 11)]) (t := (tgName 11)) (c := (fun env J => toB (eUn dNotN (eCall F_l_done [(eName 1), (eName 2), (eTup [(eName 6), (eName 10), (eName 11)])]) env J))) rfl S.nd (pw_range1 rfl T.z_range pd_int (by rfl) (by rfl)) (blkOk_by (N := ["reel", "setting", "row", "named", "lap", "due", "number", "told", "k", "step", "place", "way"]) (sc := defScope s_l_few) (by decide +kernel)) (fun _ _ _ _ _ => (pg_name (i := 11) S.nd rfl (by first | exact Or.inl rfl | exact Or.inr rfl))) (fun _ _ _ _ _ => (pts_oneD (pt_notNn (toD (pn_call0 (ok_l_done T) (hr.mono (by decide)) rfl T.p_l_done.g T.p_l_done.F.kp T.p_l_done.b (ph_cons (pd_name (pv 1)) (ph_cons (pd_name (pv 2)) (ph_cons (toD (pn_tup (pi_consD (pd_name (pv 6)) (pi_consD (pd_name (pv 10)) (pi_consD (pd_name (pv 11)) pi_nilD (by rfl)) (by rfl)) (by rfl)))) ph_nil (by rfl)) (by rfl)) (by rfl)) (by rfl) (by decide) (by rfl) (by rfl)))))) (fun _ _ _ _ _ => (toD (pn_tup (pi_consD (pd_name (pv 6)) (pi_consD (pd_name (pv 10)) (pi_consD (pd_name (pv 11)) pi_nilD (by rfl)) (by rfl)) (by rfl))))) tgok_name (tgin_name (by decide)) (fun _ => rfl))))) (by rfl) (by first | exact Or.inl rfl | exact Or.inr rfl))) (fun _ => rfl))) (fun _ => rfl))
    (ss_cons (s_set (i := 7) S.nd rfl (by first | exact Or.inl rfl | exact Or.inr rfl) (toD (pn_if (pt_truthD (pd_name (pv 3)) (fun _ => rfl)) (pn_callK (ok_steps_from T) (takes_of rfl rfl rfl rfl) (hr.mono (by decide)) rfl T.p_steps_from.g T.p_steps_from.F.kp (kb_steps_from_setting_row T) (pk_consD (pd_name (pv 1)) (pk_consD (pd_name (pv 2)) pk_nilD)) (by decide) (by rfl) (by rfl) (by rfl) (by decide) (by rfl)) (pn_call (ok_steps_from T) (takes_of rfl rfl rfl rfl) (hr.mono (by decide)) rfl T.p_steps_from.g T.p_steps_from.F.kp T.p_steps_from.b (ph_cons (pd_name (pv 1)) (ph_cons (pd_name (pv 2)) ph_nil (by rfl)) (by rfl)) (by rfl) (by decide) (by rfl) (by rfl)))) (by rfl) (by first | exact Or.inl rfl | exact Or.inr rfl))
    (ss_cons (s_if (PW.pt (pw_orD (pt_notD (pt_truthD (toD (pn_isi call_isi (sem_isa isa_tuple) rfl T.z_isinstance (by rfl) (pd_name (pv 7)) (pe_bltn rfl T.z_tuple (by rfl) rfl) (by decide) (by decide) (by rfl) (by rfl) (by rfl))) (fun _ => rfl))) (pw_or1 (pt_cmpD (op_neD hr.units) sem_ne (toD (pn_b1 call_lenAny sem_len rfl T.z_len (by rfl) (pd_name (pv 7)) (by decide) (by decide) (by rfl) (by rfl))) (toD (pn_b1 call_lenAny sem_len rfl T.z_len (by rfl) (pd_name (pv 5)) (by decide) (by decide) (by rfl) (by rfl))) (by rfl))))) (ss_one (s_ret (toN' pd_bl))) ss_nil)
    (ss_cons (s_for (passes_of rfl) rfl (pw_range1 rfl T.z_range (toD (pn_b1 call_lenAny sem_len rfl T.z_len (by rfl) (pd_name (pv 5)) (by decide) (by decide) (by rfl) (by rfl))) (by rfl) (by rfl)) (pg_name (i := 8) S.nd rfl (by first | exact Or.inl rfl | exact Or.inr rfl)) tgok_name (ss_one (s_if (pt_notD (pt_truthD (toD (pn_call (ok_l_row_is T) (takes_of rfl rfl rfl rfl) (hr.mono (by decide)) rfl T.p_l_row_is.g T.p_l_row_is.F.kp T.p_l_row_is.b (ph_cons (toD (pn_ix ix_seq sem_ix (pd_name (pv 7)) (pd_name (pv 8)) (fun _ _ => rfl))) (ph_cons (toD (pn_ix ix_seq sem_ix (pd_name (pv 5)) (pd_name (pv 8)) (fun _ _ => rfl))) ph_nil (by rfl)) (by rfl)) (by rfl) (by decide) (by rfl) (by rfl))) (fun _ => rfl))) (ss_one (s_ret (toN' pd_bl))) ss_nil)) (fun _ => rfl))
    (ss_one (s_ret (toN' pd_bl)))))))))
theorem sc_is_integer : FnScope ["thing"] ["thing"] (defScope s_is_integer) := ⟨rfl, rfl, rfl, by decide +kernel, rfl, by decide +kernel, by decide +kernel⟩
theorem ok_is_integer (T : Tx K mg) : FnOk Pr w K mg base (L2.CX Pr w) 1 T.a_is_integer T.d_is_integer ["thing"] (spF K (["thing"] : List Str).length F_is_integer) :=
  fn_ok (k := 0) T.p_is_integer.F sc_is_integer fun cdv A outer s H E n0 hr => by
    have S := sc_is_integer
    exact (ss_one (s_ret (pn_and (pn_isi call_isi (sem_isa isa_int) rfl T.z_isinstance (by rfl) (pd_name (pv 0)) (pe_bltn rfl T.z_int (by rfl) rfl) (by decide) (by decide) (by rfl) (by rfl) (by rfl)) (pn_one (pn_not (pn_isi call_isi (sem_isa isa_bool) rfl T.z_isinstance (by rfl) (pd_name (pv 0)) (pe_bltn rfl T.z_bool (by rfl) rfl) (by decide) (by decide) (by rfl) (by rfl) (by rfl)))))))
theorem sc_integer_within : FnScope ["thing", "low", "high"] ["thing", "low", "high"] (defScope s_integer_within) := ⟨rfl, rfl, rfl, by decide +kernel, rfl, by decide +kernel, by decide +kernel⟩
theorem ok_integer_within (T : Tx K mg) : FnOk Pr w K mg base (L2.CX Pr w) 2 T.a_integer_within T.d_integer_within ["thing", "low", "high"] (spF K (["thing", "low", "high"] : List Str).length F_integer_within) :=
  fn_ok (k := 1) T.p_integer_within.F sc_integer_within fun cdv A outer s H E n0 hr => by
    have S := sc_integer_within
    exact (ss_one (s_ret (pn_and (pn_call (ok_is_integer T) (takes_of rfl rfl rfl rfl) (hr.mono (by decide)) rfl T.p_is_integer.g T.p_is_integer.F.kp T.p_is_integer.b (ph_cons (pd_name (pv 0)) ph_nil (by rfl)) (by rfl) (by decide) (by rfl) (by rfl)) (pn_one (pn_chainD op_le op_le sem_le sem_le (pd_name (pv 1)) (pd_name (pv 0)) (pd_name (pv 2)) (by with_unfolding_all rfl))))))
theorem sc_is_number : FnScope ["thing", "many"] ["thing", "many"] (defScope s_is_number) := ⟨rfl, rfl, rfl, by decide +kernel, rfl, by decide +kernel, by decide +kernel⟩
theorem ok_is_number (T : Tx K mg) : FnOk Pr w K mg base (L2.CX Pr w) 3 T.a_is_number T.d_is_number ["thing", "many"] (spF K (["thing", "many"] : List Str).length F_is_number) :=
  fn_ok (k := 2) T.p_is_number.F sc_is_number fun cdv A outer s H E n0 hr => by
    have S := sc_is_number
    exact (ss_one (s_ret (pn_call (ok_integer_within T) (takes_of rfl rfl rfl rfl) (hr.mono (by decide)) rfl T.p_integer_within.g T.p_integer_within.F.kp T.p_integer_within.b (ph_cons (pd_name (pv 0)) (ph_cons pd_int (ph_cons (toD (pn_bin op_sub sem_sub (pd_name (pv 1)) pd_int)) ph_nil (by rfl)) (by rfl)) (by rfl)) (by rfl) (by decide) (by rfl) (by rfl))))
theorem sc_tuple_of : FnScope ["thing", "many"] ["thing", "many"] (defScope s_tuple_of) := ⟨rfl, rfl, rfl, by decide +kernel, rfl, by decide +kernel, by decide +kernel⟩
theorem ok_tuple_of (T : Tx K mg) : FnOk Pr w K mg base (L2.CX Pr w) 1 T.a_tuple_of T.d_tuple_of ["thing", "many"] (spF K (["thing", "many"] : List Str).length F_tuple_of) :=
  fn_ok (k := 0) T.p_tuple_of.F sc_tuple_of fun cdv A outer s H E n0 hr => by
    have S := sc_tuple_of
    exact (ss_one (s_ret (pn_and (pn_isi call_isi (sem_isa isa_tuple) rfl T.z_isinstance (by rfl) (pd_name (pv 0)) (pe_bltn rfl T.z_tuple (by rfl) rfl) (by decide) (by decide) (by rfl) (by rfl) (by rfl)) (pn_one (pn_cmp (op_eqD hr.units) sem_eq (toD (pn_b1 call_lenAny sem_len rfl T.z_len (by rfl) (pd_name (pv 0)) (by decide) (by decide) (by rfl) (by rfl))) (pd_name (pv 1)) (by rfl))))))
theorem sc_is_step : FnScope ["setting", "thing"] ["setting", "thing"] (defScope s_is_step) := ⟨rfl, rfl, rfl, by decide +kernel, rfl, by decide +kernel, by decide +kernel⟩
theorem ok_is_step (T : Tx K mg) : FnOk Pr w K mg base (L2.CX Pr w) 4 T.a_is_step T.d_is_step ["setting", "thing"] (spF K (["setting", "thing"] : List Str).length F_is_step) :=
  fn_ok (k := 3) T.p_is_step.F sc_is_step fun cdv A outer s H E n0 hr => by
    have S := sc_is_step
    exact (ss_cons (s_if (PW.pt (pw_orD (pt_notD (pt_truthD (toD (pn_call (ok_tuple_of T) (takes_of rfl rfl rfl rfl) (hr.mono (by decide)) rfl T.p_tuple_of.g T.p_tuple_of.F.kp T.p_tuple_of.b (ph_cons (pd_name (pv 1)) (ph_cons pd_int ph_nil (by rfl)) (by rfl)) (by rfl) (by decide) (by rfl) (by rfl))) (fun _ => rfl))) (pw_or1 (pt_notD (pt_truthD (toD (pn_call (ok_is_number T) (takes_of rfl rfl rfl rfl) (hr.mono (by decide)) rfl T.p_is_number.g T.p_is_number.F.kp T.p_is_number.b (ph_cons (toD (pn_ix ix_seq sem_ix (pd_name (pv 1)) pd_int (fun _ _ => rfl))) (ph_cons (toD (pn_b1 call_lenAny sem_len rfl T.z_len (by rfl) (toD (pn_ix ix_seq sem_ix (pd_name (pv 0)) pd_int (fun _ _ => rfl))) (by decide) (by decide) (by rfl) (by rfl))) ph_nil (by rfl)) (by rfl)) (by rfl) (by decide) (by rfl) (by rfl))) (fun _ => rfl)))))) (ss_one (s_ret (toN' pd_bl))) ss_nil)
    (ss_one (s_ret (pn_and (pn_call (ok_is_integer T) (takes_of rfl rfl rfl rfl) (hr.mono (by decide)) rfl T.p_is_integer.g T.p_is_integer.F.kp T.p_is_integer.b (ph_cons (toD (pn_ix ix_seq sem_ix (pd_name (pv 1)) pd_int (fun _ _ => rfl))) ph_nil (by rfl)) (by rfl) (by decide) (by rfl) (by rfl)) (pn_and (pn_cmp op_ge sem_ge (toD (pn_ix ix_seq sem_ix (pd_name (pv 1)) pd_int (fun _ _ => rfl))) pd_int (by rfl)) (pn_one (pn_call (ok_integer_within T) (takes_of rfl rfl rfl rfl) (hr.mono (by decide)) rfl T.p_integer_within.g T.p_integer_within.F.kp T.p_integer_within.b (ph_cons (toD (pn_ix ix_seq sem_ix (pd_name (pv 1)) pd_int (fun _ _ => rfl))) (ph_cons pd_int (ph_cons pd_int ph_nil (by rfl)) (by rfl)) (by rfl)) (by rfl) (by decide) (by rfl) (by rfl))))))))
theorem kb_is_step_setting_thing (T : Tx K mg) : KBinds K T.d_is_step ["setting", "thing"] ["setting", "thing"] (fun us ws => if us.isEmpty then permute [0, 1] ws else []) (fun us ws => if us.isEmpty then permute [0, 1] ws else []) :=
  kbinds_mk T.p_is_step.F (fun kV doc pm an cdv ct ws hl => by
    rcases ws with _ | ⟨x, _ | ⟨x, r⟩⟩
    · simp [permute] at hl
    · simp [permute] at hl
    · rfl) (by simp)
theorem sc_l_is : FnScope ["setting", "thing", "named", "due", "told"] ["setting", "thing", "named", "due"] (defScope s_l_is) := ⟨rfl, rfl, rfl, by decide +kernel, rfl, by decide +kernel, by decide +kernel⟩
theorem ok_l_is (T : Tx K mg) : FnOk Pr w K mg base (L2.CX Pr w) 5 T.a_l_is T.d_l_is ["setting", "thing", "named", "due"] (spF K (["setting", "thing", "named", "due"] : List Str).length F_l_is) :=
  fn_ok (k := 4) T.p_l_is.F sc_l_is fun cdv A outer s H E n0 hr => by
    have S := sc_l_is
    exact (ss_cons (s_set (i := 4) S.nd rfl (by first | exact Or.inl rfl | exact Or.inr rfl) (toD (pn_if (pt_truthD (pd_name (pv 2)) (fun _ => rfl)) (pn_callK (ok_is_step T) (takes_of rfl rfl rfl rfl) (hr.mono (by decide)) rfl T.p_is_step.g T.p_is_step.F.kp (kb_is_step_setting_thing T) (pk_consD (pd_name (pv 0)) (pk_consD (pd_name (pv 1)) pk_nilD)) (by decide) (by rfl) (by rfl) (by rfl) (by decide) (by rfl)) (pn_call (ok_is_step T) (takes_of rfl rfl rfl rfl) (hr.mono (by decide)) rfl T.p_is_step.g T.p_is_step.F.kp T.p_is_step.b (ph_cons (pd_name (pv 0)) (ph_cons (pd_name (pv 1)) ph_nil (by rfl)) (by rfl)) (by rfl) (by decide) (by rfl) (by rfl)))) (by rfl) (by first | exact Or.inl rfl | exact Or.inr rfl))
    (ss_one (s_ret (pn_if (pt_truthD (pd_name (pv 3)) (fun _ => rfl)) (pn_cmp op_is_bl sem_isB (pd_name (pv 4)) pd_bl (by rfl)) (pn_cmp op_is_bl sem_isB (pd_name (pv 4)) pd_bl (by rfl))))))
theorem sc_l_things : FnScope ["reel", "setting", "named", "many", "great", "numbers", "places", "ways", "lap", "place", "right", "at", "listed", "things", "thing", "way", "bad", "spoilt"] ["reel", "setting", "named"] (defScope s_l_things) := ⟨rfl, rfl, rfl, by decide +kernel, rfl, by decide +kernel, by decide +kernel⟩
theorem ok_l_things (T : Tx K mg) : FnOk Pr w K mg base (L2.CX Pr w) 6 T.a_l_things T.d_l_things ["reel", "setting", "named"] (spF K (["reel", "setting", "named"] : List Str).length F_l_things) :=
  fn_ok (k := 5) T.p_l_things.F sc_l_things fun cdv A outer s H E n0 hr => by
    have S := sc_l_things
    exact (ss_cons (s_set (i := 3) S.nd rfl (by first | exact Or.inl rfl | exact Or.inr rfl) (toD (pn_b1 call_lenAny sem_len rfl T.z_len (by rfl) (toD (pn_ix ix_seq sem_ix (pd_name (pv 1)) pd_int (fun _ _ => rfl))) (by decide) (by decide) (by rfl) (by rfl))) (by rfl) (by first | exact Or.inl rfl | exact Or.inr rfl))
    (ss_cons (s_set (i := 4) S.nd rfl (by first | exact Or.inl rfl | exact Or.inr rfl) (toD (pn_bin op_sub sem_sub (toD (pn_bin op_mulW sem_mul (toD (pn_bin op_pow sem_pow pd_int pd_int)) (toD (pn_bin op_pow sem_pow pd_int pd_int)))) pd_int)) (by rfl) (by first | exact Or.inl rfl | exact Or.inr rfl))
    (ss_cons (s_set (i := 5) S.nd rfl (by first | exact Or.inl rfl | exact Or.inr rfl) (toD (pn_lst (pi_consD (toD (pn_un un_neg sem_neg pd_int)) (pi_consD (pd_name (pv 3)) (pi_consD (toD (pn_bin op_addAny sem_add (toD (pn_bin op_addAny sem_add (pd_name (pv 3)) pd_int)) (toD (pn_call (ok_l_next T) (takes_of rfl rfl rfl rfl) (hr.mono (by decide)) rfl T.p_l_next.g T.p_l_next.F.kp T.p_l_next.b (ph_cons (pd_name (pv 0)) (ph_cons pd_int ph_nil (by rfl)) (by rfl)) (by rfl) (by decide) (by rfl) (by rfl))))) (pi_consD (pd_name (pv 4)) (pi_consD (toD (pn_un un_neg sem_neg (pd_name (pv 4)))) (pi_consD pd_bl (pi_consD pd_bl (pi_consD pd_non (pi_consD pd_str (pi_consD pd_str (pi_consD (toD (pn_tup (pi_consD pd_int pi_nilD (by rfl)))) (pi_consD (toD (pn_tup pi_nilD)) (pi_consD (toD (pn_bin op_sub sem_sub (toD (pn_un un_neg sem_neg (pd_name (pv 3)))) pd_int)) pi_nilD (by rfl)) (by rfl)) (by rfl)) (by rfl)) (by rfl)) (by rfl)) (by rfl)) (by rfl)) (by rfl)) (by rfl)) (by rfl)) (by rfl)) (by rfl)))) (by rfl) (by first | exact Or.inl rfl | exact Or.inr rfl))
    (ss_cons (s_set (i := 6) S.nd rfl (by first | exact Or.inl rfl | exact Or.inr rfl) (toD (pn_lst (pi_consD (toD (pn_un un_neg sem_neg pd_int)) (pi_consD (toD (pn_bin op_sub sem_sub (toD (pn_un un_neg sem_neg pd_int)) (toD (pn_call (ok_l_next T) (takes_of rfl rfl rfl rfl) (hr.mono (by decide)) rfl T.p_l_next.g T.p_l_next.F.kp T.p_l_next.b (ph_cons (pd_name (pv 0)) (ph_cons pd_int ph_nil (by rfl)) (by rfl)) (by rfl) (by decide) (by rfl) (by rfl))))) (pi_consD (toD (pn_un un_neg sem_neg (pd_name (pv 4)))) (pi_consD pd_bl (pi_consD pd_bl (pi_consD pd_non (pi_consD pd_str (pi_consD pd_str (pi_consD (toD (pn_tup (pi_consD pd_int pi_nilD (by rfl)))) (pi_consD (toD (pn_tup pi_nilD)) pi_nilD (by rfl)) (by rfl)) (by rfl)) (by rfl)) (by rfl)) (by rfl)) (by rfl)) (by rfl)) (by rfl)) (by rfl)))) (by rfl) (by first | exact Or.inl rfl | exact Or.inr rfl))
    (ss_cons (s_set (i := 7) S.nd rfl (by first | exact Or.inl rfl | exact Or.inr rfl) (toD (pn_lst (pi_consD pd_int (pi_consD (toD (pn_un un_neg sem_neg pd_int)) (pi_consD (toD (pn_bin op_addAny sem_add pd_int (toD (pn_call (ok_l_next T) (takes_of rfl rfl rfl rfl) (hr.mono (by decide)) rfl T.p_l_next.g T.p_l_next.F.kp T.p_l_next.b (ph_cons (pd_name (pv 0)) (ph_cons pd_int ph_nil (by rfl)) (by rfl)) (by rfl) (by decide) (by rfl) (by rfl))))) (pi_consD (pd_name (pv 4)) (pi_consD pd_bl (pi_consD pd_bl (pi_consD pd_non (pi_consD pd_str (pi_consD pd_str (pi_consD (toD (pn_tup (pi_consD pd_int pi_nilD (by rfl)))) (pi_consD (toD (pn_tup (pi_consD pd_int pi_nilD (by rfl)))) pi_nilD (by rfl)) (by rfl)) (by rfl)) (by rfl)) (by rfl)) (by rfl)) (by rfl)) (by rfl)) (by rfl)) (by rfl)) (by rfl)))) (by rfl) (by first | exact Or.inl rfl | exact Or.inr rfl))
    (ss_cons (s_for (passes_of rfl) rfl (pw_range1 rfl T.z_range pd_int (by rfl) (by rfl)) (pg_name (i := 8) S.nd rfl (by first | exact Or.inl rfl | exact Or.inr rfl)) tgok_name (ss_cons (s_set (i := 10) S.nd rfl (by first | exact Or.inl rfl | exact Or.inr rfl) (toD (pn_lst (pi_consD (toD (pn_call (ok_l_next T) (takes_of rfl rfl rfl rfl) (hr.mono (by decide)) rfl T.p_l_next.g T.p_l_next.F.kp T.p_l_next.b (ph_cons (pd_name (pv 0)) (ph_cons (toD (pn_b2 (call_max2 rfl) sem_max rfl T.z_max (by rfl) pd_int (pd_name (pv 3)) (by decide) (by decide) (by rfl) (by rfl) (by rfl))) ph_nil (by rfl)) (by rfl)) (by rfl) (by decide) (by rfl) (by rfl))) (pi_consD (toD (pn_ix ix_seq sem_ix (toD (pn_lst (pi_consD pd_int (pi_consD pd_int (pi_consD (toD (pn_call (ok_l_next T) (takes_of rfl rfl rfl rfl) (hr.mono (by decide)) rfl T.p_l_next.g T.p_l_next.F.kp T.p_l_next.b (ph_cons (pd_name (pv 0)) (ph_cons pd_int ph_nil (by rfl)) (by rfl)) (by rfl) (by decide) (by rfl) (by rfl))) (pi_consD pd_int (pi_consD (pd_name (pv 4)) pi_nilD (by rfl)) (by rfl)) (by rfl)) (by rfl)) (by rfl)))) (toD (pn_call (ok_l_next T) (takes_of rfl rfl rfl rfl) (hr.mono (by decide)) rfl T.p_l_next.g T.p_l_next.F.kp T.p_l_next.b (ph_cons (pd_name (pv 0)) (ph_cons pd_int ph_nil (by rfl)) (by rfl)) (by rfl) (by decide) (by rfl) (by rfl))) (fun _ _ => rfl))) (pi_consD (toD (pn_call (ok_l_next T) (takes_of rfl rfl rfl rfl) (hr.mono (by decide)) rfl T.p_l_next.g T.p_l_next.F.kp T.p_l_next.b (ph_cons (pd_name (pv 0)) (ph_cons pd_int ph_nil (by rfl)) (by rfl)) (by rfl) (by decide) (by rfl) (by rfl))) pi_nilD (by rfl)) (by rfl)) (by rfl)))) (by rfl) (by first | exact Or.inl rfl | exact Or.inr rfl))
    (ss_cons (s_if (pt_notD (pt_truthD (toD (pn_call (ok_l_is T) (takes_of rfl rfl rfl rfl) (hr.mono (by decide)) rfl T.p_l_is.g T.p_l_is.F.kp T.p_l_is.b (ph_cons (pd_name (pv 1)) (ph_cons (toD (pn_t1 call_tuple_of sem_tuple rfl T.z_tuple (by rfl) (pd_name (pv 10)) (by decide) (by decide) (by rfl) (by rfl))) (ph_cons (pd_name (pv 2)) (ph_cons (toD (pn_cmp op_gt sem_gt (pd_name (pv 3)) pd_int (by rfl))) ph_nil (by rfl)) (by rfl)) (by rfl)) (by rfl)) (by rfl) (by decide) (by rfl) (by rfl))) (fun _ => rfl))) (ss_one (s_ret (toN' pd_bl))) ss_nil)
    (ss_cons (s_for (passes_of rfl) rfl (pw_range1 rfl T.z_range pd_int (by rfl) (by rfl)) (pg_name (i := 11) S.nd rfl (by first | exact Or.inl rfl | exact Or.inr rfl)) tgok_name (ss_cons (s_for (passes_of rfl) rfl (pw_any (toD (pn_ix ix_seq sem_ix (toD (pn_lst (pi_consD (pd_name (pv 5)) (pi_consD (pd_name (pv 6)) (pi_consD (pd_name (pv 7)) pi_nilD (by rfl)) (by rfl)) (by rfl)))) (pd_name (pv 11)) (fun _ _ => rfl)))) (pg_name (i := 16) S.nd rfl (by first | exact Or.inl rfl | exact Or.inr rfl)) tgok_name (ss_cons (s_new (i := 17) S.nd rfl (by first | exact Or.inl rfl | exact Or.inr rfl) (pn_t1 call_list_of sem_list rfl T.z_list (by rfl) (pd_name (pv 10)) (by decide) (by decide) (by rfl) (by rfl)) (by rfl) (by first | exact Or.inl rfl | exact Or.inr rfl))
    (ss_cons (s_setI (ps_asg (pd_name (pv 16)) (pg_sub (pv 17) (pd_name (pv 11)) set_list)))
    (ss_one (s_if (pt_notD (pt_truthD (toD (pn_call (ok_l_is T) (takes_of rfl rfl rfl rfl) (hr.mono (by decide)) rfl T.p_l_is.g T.p_l_is.F.kp T.p_l_is.b (ph_cons (pd_name (pv 1)) (ph_cons (toD (pn_t1 call_tuple_of sem_tuple rfl T.z_tuple (by rfl) (pd_name (pv 17)) (by decide) (by decide) (by rfl) (by rfl))) (ph_cons (pd_name (pv 2)) (ph_cons pd_bl ph_nil (by rfl)) (by rfl)) (by rfl)) (by rfl)) (by rfl) (by decide) (by rfl) (by rfl))) (fun _ => rfl))) (ss_one (s_ret (toN' pd_bl))) ss_nil)))) (fun _ => rfl))
    (ss_cons (s_new (i := 17) S.nd rfl (by first | exact Or.inl rfl | exact Or.inr rfl) (pn_lst (pi_consD (toD (pn_ix ix_seq sem_ix (pd_name (pv 5)) (toD (pn_call (ok_l_next T) (takes_of rfl rfl rfl rfl) (hr.mono (by decide)) rfl T.p_l_next.g T.p_l_next.F.kp T.p_l_next.b (ph_cons (pd_name (pv 0)) (ph_cons pd_int ph_nil (by rfl)) (by rfl)) (by rfl) (by decide) (by rfl) (by rfl))) (fun _ _ => rfl))) (pi_consD (toD (pn_ix ix_seq sem_ix (pd_name (pv 6)) (toD (pn_call (ok_l_next T) (takes_of rfl rfl rfl rfl) (hr.mono (by decide)) rfl T.p_l_next.g T.p_l_next.F.kp T.p_l_next.b (ph_cons (pd_name (pv 0)) (ph_cons pd_int ph_nil (by rfl)) (by rfl)) (by rfl) (by decide) (by rfl) (by rfl))) (fun _ _ => rfl))) (pi_consD (toD (pn_ix ix_seq sem_ix (pd_name (pv 7)) (toD (pn_call (ok_l_next T) (takes_of rfl rfl rfl rfl) (hr.mono (by decide)) rfl T.p_l_next.g T.p_l_next.F.kp T.p_l_next.b (ph_cons (pd_name (pv 0)) (ph_cons pd_int ph_nil (by rfl)) (by rfl)) (by rfl) (by decide) (by rfl) (by rfl))) (fun _ _ => rfl))) pi_nilD (by rfl)) (by rfl)) (by rfl))) (by rfl) (by first | exact Or.inl rfl | exact Or.inr rfl))
    (ss_cons (s_setI (ps_asg (toD (pn_ix ix_seq sem_ix (pd_name (pv 10)) (pd_name (pv 11)) (fun _ _ => rfl))) (pg_sub (pv 17) (pd_name (pv 11)) set_list)))
    (ss_one (s_if (pt_notD (pt_truthD (toD (pn_call (ok_l_is T) (takes_of rfl rfl rfl rfl) (hr.mono (by decide)) rfl T.p_l_is.g T.p_l_is.F.kp T.p_l_is.b (ph_cons (pd_name (pv 1)) (ph_cons (toD (pn_t1 call_tuple_of sem_tuple rfl T.z_tuple (by rfl) (pd_name (pv 17)) (by decide) (by decide) (by rfl) (by rfl))) (ph_cons (pd_name (pv 2)) (ph_cons pd_bl ph_nil (by rfl)) (by rfl)) (by rfl)) (by rfl)) (by rfl) (by decide) (by rfl) (by rfl))) (fun _ => rfl))) (ss_one (s_ret (toN' pd_bl))) ss_nil))))) (fun _ => rfl))
    (ss_cons (s_set (i := 12) S.nd rfl (by first | exact Or.inl rfl | exact Or.inr rfl) (toD (pn_t1 call_list_of sem_list rfl T.z_list (by rfl) (pd_name (pv 10)) (by decide) (by decide) (by rfl) (by rfl))) (by rfl) (by first | exact Or.inl rfl | exact Or.inr rfl))
    (ss_cons (s_set (i := 13) S.nd rfl (by first | exact Or.inl rfl | exact Or.inr rfl) (toD (pn_lst (pi_consD (pd_name (pv 12)) (pi_consD (toD (pn_tup (pi_consD (toD (pn_ix ix_seq sem_ix (pd_name (pv 10)) pd_int (fun _ _ => rfl))) (pi_consD (toD (pn_ix ix_seq sem_ix (pd_name (pv 10)) pd_int (fun _ _ => rfl))) pi_nilD (by rfl)) (by rfl)))) (pi_consD (toD (pn_tup (pi_consD (toD (pn_ix ix_seq sem_ix (pd_name (pv 10)) pd_int (fun _ _ => rfl))) (pi_consD (toD (pn_ix ix_seq sem_ix (pd_name (pv 10)) pd_int (fun _ _ => rfl))) (pi_consD (toD (pn_ix ix_seq sem_ix (pd_name (pv 10)) pd_int (fun _ _ => rfl))) (pi_consD pd_int pi_nilD (by rfl)) (by rfl)) (by rfl)) (by rfl)))) (pi_consD (toD (pn_tup pi_nilD)) (pi_consD pd_non (pi_consD pd_bl (pi_consD pd_int (pi_consD pd_int (pi_consD pd_str (pi_consD pd_str (pi_consD (toD (pn_tup (pi_consD (toD (pn_t1 call_tuple_of sem_tuple rfl T.z_tuple (by rfl) (pd_name (pv 10)) (by decide) (by decide) (by rfl) (by rfl))) pi_nilD (by rfl)))) pi_nilD (by rfl)) (by rfl)) (by rfl)) (by rfl)) (by rfl)) (by rfl)) (by rfl)) (by rfl)) (by rfl)) (by rfl)) (by rfl)))) (by rfl) (by first | exact Or.inl rfl | exact Or.inr rfl))
    (ss_cons (s_set (i := 13) S.nd rfl (by first | exact Or.inl rfl | exact Or.inr rfl) (toD (pn_bin op_addAny sem_add (pd_name (pv 13)) (toD (pn_lst (pi_consD (toD (pn_lst (pi_consD (toD (pn_t1 call_tuple_of sem_tuple rfl T.z_tuple (by rfl) (pd_name (pv 10)) (by decide) (by decide) (by rfl) (by rfl))) pi_nilD (by rfl)))) (pi_consD (toD (pn_tup (pi_consD (toD (pn_t1 call_tuple_of sem_tuple rfl T.z_tuple (by rfl) (pd_name (pv 10)) (by decide) (by decide) (by rfl) (by rfl))) (pi_consD (toD (pn_t1 call_tuple_of sem_tuple rfl T.z_tuple (by rfl) (pd_name (pv 10)) (by decide) (by decide) (by rfl) (by rfl))) (pi_consD (toD (pn_t1 call_tuple_of sem_tuple rfl T.z_tuple (by rfl) (pd_name (pv 10)) (by decide) (by decide) (by rfl) (by rfl))) pi_nilD (by rfl)) (by rfl)) (by rfl)))) (pi_consD (toD (pn_tup (pi_consD (pd_name (pv 10)) pi_nilD (by rfl)))) (pi_consD pd_str (pi_consD (pd_name (pv 4)) (pi_consD (toD (pn_tup (pi_consD (toD (pn_ix ix_seq sem_ix (pd_name (pv 10)) pd_int (fun _ _ => rfl))) pi_nilD (by rfl)))) pi_nilD (by rfl)) (by rfl)) (by rfl)) (by rfl)) (by rfl)) (by rfl)))))) (by rfl) (by first | exact Or.inl rfl | exact Or.inr rfl))
    (ss_cons (s_for (passes_of rfl) rfl (pw_any (pd_name (pv 13))) (pg_name (i := 14) S.nd rfl (by first | exact Or.inl rfl | exact Or.inr rfl)) tgok_name (ss_one (s_if (pt_notD (pt_truthD (toD (pn_call (ok_l_is T) (takes_of rfl rfl rfl rfl) (hr.mono (by decide)) rfl T.p_l_is.g T.p_l_is.F.kp T.p_l_is.b (ph_cons (pd_name (pv 1)) (ph_cons (pd_name (pv 14)) (ph_cons (pd_name (pv 2)) (ph_cons pd_bl ph_nil (by rfl)) (by rfl)) (by rfl)) (by rfl)) (by rfl) (by decide) (by rfl) (by rfl))) (fun _ => rfl))) (ss_one (s_ret (toN' pd_bl))) ss_nil)) (fun _ => rfl))
    (ss_one (s_if (PW.pt (pw_orD (pt_cmpD (op_neD hr.units) sem_ne (pd_name (pv 12)) (pd_name (pv 10)) (by rfl)) (pw_orD (pt_cmpD (op_neD hr.units) sem_ne (toD (pn_b1 call_lenAny sem_len rfl T.z_len (by rfl) (pd_name (pv 12)) (by decide) (by decide) (by rfl) (by rfl))) pd_int (by rfl)) (pw_or1 (pt_notD (pt_truthD (toD (pn_call (ok_l_is T) (takes_of rfl rfl rfl rfl) (hr.mono (by decide)) rfl T.p_l_is.g T.p_l_is.F.kp T.p_l_is.b (ph_cons (pd_name (pv 1)) (ph_cons (toD (pn_tup (pi_consD (toD (pn_ix ix_seq sem_ix (pd_name (pv 10)) pd_int (fun _ _ => rfl))) (pi_consD (toD (pn_ix ix_seq sem_ix (pd_name (pv 10)) pd_int (fun _ _ => rfl))) (pi_consD (toD (pn_bin op_sub sem_sub pd_int (toD (pn_ix ix_seq sem_ix (pd_name (pv 10)) pd_int (fun _ _ => rfl))))) pi_nilD (by rfl)) (by rfl)) (by rfl)))) (ph_cons (pd_name (pv 2)) (ph_cons (toD (pn_cmp op_gt sem_gt (pd_name (pv 3)) pd_int (by rfl))) ph_nil (by rfl)) (by rfl)) (by rfl)) (by rfl)) (by rfl) (by decide) (by rfl) (by rfl))) (fun _ => rfl))))))) (ss_one (s_ret (toN' pd_bl))) ss_nil))))))))) (fun _ => rfl))
    (ss_cons (s_for (passes_of rfl) rfl (pw_any (toD (pn_lst (pi_consD pd_int (pi_consD pd_int (pi_consD pd_int (pi_consD (pd_name (pv 4)) pi_nilD (by rfl)) (by rfl)) (by rfl)) (by rfl))))) (pg_name (i := 9) S.nd rfl (by first | exact Or.inl rfl | exact Or.inr rfl)) tgok_name (ss_one (s_for (passes_of rfl) rfl (pw_range1 rfl T.z_range pd_int (by rfl) (by rfl)) (pg_name (i := 15) S.nd rfl (by first | exact Or.inl rfl | exact Or.inr rfl)) tgok_name (ss_cons (s_if (PW.pt (pw_andD (pt_cmpD op_gt sem_gt (pd_name (pv 3)) pd_int (by rfl)) (pw_and1 (pt_notD (pt_truthD (toD (pn_call (ok_l_is T) (takes_of rfl rfl rfl rfl) (hr.mono (by decide)) rfl T.p_l_is.g T.p_l_is.F.kp T.p_l_is.b (ph_cons (pd_name (pv 1)) (ph_cons (toD (pn_tup (pi_consD (toD (pn_bin op_sub sem_sub (pd_name (pv 3)) pd_int)) (pi_consD (pd_name (pv 9)) (pi_consD (pd_name (pv 15)) pi_nilD (by rfl)) (by rfl)) (by rfl)))) (ph_cons (pd_name (pv 2)) (ph_cons pd_bl ph_nil (by rfl)) (by rfl)) (by rfl)) (by rfl)) (by rfl) (by decide) (by rfl) (by rfl))) (fun _ => rfl)))))) (ss_one (s_ret (toN' pd_bl))) ss_nil)
    (ss_one (s_if (pt_notD (pt_truthD (toD (pn_call (ok_l_is T) (takes_of rfl rfl rfl rfl) (hr.mono (by decide)) rfl T.p_l_is.g T.p_l_is.F.kp T.p_l_is.b (ph_cons (pd_name (pv 1)) (ph_cons (toD (pn_tup (pi_consD (pd_name (pv 3)) (pi_consD (pd_name (pv 9)) (pi_consD (pd_name (pv 15)) pi_nilD (by rfl)) (by rfl)) (by rfl)))) (ph_cons (pd_name (pv 2)) (ph_cons pd_bl ph_nil (by rfl)) (by rfl)) (by rfl)) (by rfl)) (by rfl) (by decide) (by rfl) (by rfl))) (fun _ => rfl))) (ss_one (s_ret (toN' pd_bl))) ss_nil))) (fun _ => rfl))) (fun _ => rfl))
    (ss_one (s_ret (toN' pd_bl))))))))))
theorem sc_l_by_hand : FnScope ["reel", "named", "low", "top", "changes", "setting", "row", "due", "told", "k", "rows", "step", "a", "b", "c", "d"] ["reel", "named"] (defScope s_l_by_hand) := ⟨rfl, rfl, rfl, by decide +kernel, rfl, by decide +kernel, by decide +kernel⟩
theorem ok_l_by_hand (T : Tx K mg) : FnOk Pr w K mg base (L2.CX Pr w) 6 T.a_l_by_hand T.d_l_by_hand ["reel", "named"] (spF K (["reel", "named"] : List Str).length F_l_by_hand) :=
  fn_ok (k := 5) T.p_l_by_hand.F sc_l_by_hand fun cdv A outer s H E n0 hr => by
    have S := sc_l_by_hand
    exact (ss_cons (s_asg (tgok_any (tgsok_cons (i := 12) (tgsok_cons (i := 13) (tgsok_cons (i := 14) (tgsok_cons (i := 15) tgsok_nil)))) rfl) (ps_asg (toD (pn_call (ok_l_some T) (takes_of rfl rfl rfl rfl) (hr.mono (by decide)) rfl T.p_l_some.g T.p_l_some.F.kp T.p_l_some.b (ph_cons (pd_name (pv 0)) (ph_cons (toD (pn_lst (pi_consD pd_int (pi_consD pd_int (pi_consD pd_int (pi_consD pd_int pi_nilD (by rfl)) (by rfl)) (by rfl)) (by rfl)))) (ph_cons pd_int ph_nil (by rfl)) (by rfl)) (by rfl)) (by rfl) (by decide) (by rfl) (by rfl))) (pg_any (n := 4) rfl (pgs_cons (pg_name (i := 12) S.nd rfl (by first | exact Or.inl rfl | exact Or.inr rfl)) (pgs_cons (pg_name (i := 13) S.nd rfl (by first | exact Or.inl rfl | exact Or.inr rfl)) (pgs_cons (pg_name (i := 14) S.nd rfl (by first | exact Or.inl rfl | exact Or.inr rfl)) (pgs_cons (pg_name (i := 15) S.nd rfl (by first | exact Or.inl rfl | exact Or.inr rfl)) pgs_nil)))))))
    (ss_cons (s_set (i := 2) S.nd rfl (by first | exact Or.inl rfl | exact Or.inr rfl) (toD (pn_b2 (call_min2 rfl) sem_min rfl T.z_min (by rfl) (pd_name (pv 13)) (pd_name (pv 14)) (by decide) (by decide) (by rfl) (by rfl) (by rfl))) (by rfl) (by first | exact Or.inl rfl | exact Or.inr rfl))
    (ss_cons (s_set (i := 3) S.nd rfl (by first | exact Or.inl rfl | exact Or.inr rfl) (toD (pn_b2 (call_max2 rfl) sem_max rfl T.z_max (by rfl) (pd_name (pv 13)) (pd_name (pv 14)) (by decide) (by decide) (by rfl) (by rfl) (by rfl))) (by rfl) (by first | exact Or.inl rfl | exact Or.inr rfl))
    (ss_cons (s_set (i := 4) S.nd rfl (by first | exact Or.inl rfl | exact Or.inr rfl) (toD (pn_tup (pi_consD (toD (pn_tup (pi_consD pd_str (pi_consD (pd_name (pv 12)) pi_nilD (by rfl)) (by rfl)))) (pi_consD (toD (pn_tup (pi_consD pd_str (pi_consD (pd_name (pv 15)) pi_nilD (by rfl)) (by rfl)))) (pi_consD (toD (pn_tup (pi_consD pd_str (pi_consD (pd_name (pv 2)) (pi_consD (pd_name (pv 3)) pi_nilD (by rfl)) (by rfl)) (by rfl)))) (pi_consD (toD (pn_tup (pi_consD pd_str (pi_consD (pd_name (pv 2)) (pi_consD (pd_name (pv 3)) pi_nilD (by rfl)) (by rfl)) (by rfl)))) pi_nilD (by rfl)) (by rfl)) (by rfl)) (by rfl)))) (by rfl) (by first | exact Or.inl rfl | exact Or.inr rfl))
    (ss_cons (s_set (i := 5) S.nd rfl (by first | exact Or.inl rfl | exact Or.inr rfl) (toD (pn_tup (pi_consD (toD (pn_tup (pi_consD pd_str (pi_consD pd_str (pi_consD pd_str (pi_consD pd_str pi_nilD (by rfl)) (by rfl)) (by rfl)) (by rfl)))) (pi_consD (pd_name (pv 4)) pi_nilD (by rfl)) (by rfl)))) (by rfl) (by first | exact Or.inl rfl | exact Or.inr rfl))
    (ss_cons (s_set (i := 6) S.nd rfl (by first | exact Or.inl rfl | exact Or.inr rfl) (toD (pn_tup (pi_consD (pd_name (pv 12)) (pi_consD (pd_name (pv 12)) (pi_consD (pd_name (pv 2)) (pi_consD (pd_name (pv 3)) (pi_consD (pd_name (pv 15)) pi_nilD (by rfl)) (by rfl)) (by rfl)) (by rfl)) (by rfl)))) (by rfl) (by first | exact Or.inl rfl | exact Or.inr rfl))
    (ss_cons (s_set (i := 7) S.nd rfl (by first | exact Or.inl rfl | exact Or.inr rfl) (toD (pn_lst (pi_consD (toD (pn_tup (pi_consD pd_int (pi_consD pd_int (pi_consD pd_int pi_nilD (by rfl)) (by rfl)) (by rfl)))) (pi_consD (toD (pn_tup (pi_consD pd_int (pi_consD pd_int (pi_consD pd_int pi_nilD (by rfl)) (by rfl)) (by rfl)))) (pi_consD (toD (pn_tup (pi_consD pd_int (pi_consD pd_int (pi_consD pd_int pi_nilD (by rfl)) (by rfl)) (by rfl)))) (pi_consD (toD (pn_tup (pi_consD pd_int (pi_consD pd_int (pi_consD pd_int pi_nilD (by rfl)) (by rfl)) (by rfl)))) (pi_consD (toD (pn_tup (pi_consD pd_int (pi_consD pd_int (pi_consD pd_int pi_nilD (by rfl)) (by rfl)) (by rfl)))) (pi_consD (toD (pn_tup (pi_consD pd_int (pi_consD pd_int (pi_consD pd_int pi_nilD (by rfl)) (by rfl)) (by rfl)))) (pi_consD (toD (pn_tup (pi_consD pd_int (pi_consD pd_int (pi_consD pd_int pi_nilD (by rfl)) (by rfl)) (by rfl)))) (pi_consD (toD (pn_tup (pi_consD pd_int (pi_consD pd_int (pi_consD pd_int pi_nilD (by rfl)) (by rfl)) (by rfl)))) (pi_consD (toD (pn_tup (pi_consD pd_int (pi_consD pd_int (pi_consD pd_int pi_nilD (by rfl)) (by rfl)) (by rfl)))) (pi_consD (toD (pn_tup (pi_consD pd_int (pi_consD pd_int (pi_consD pd_int pi_nilD (by rfl)) (by rfl)) (by rfl)))) pi_nilD (by rfl)) (by rfl)) (by rfl)) (by rfl)) (by rfl)) (by rfl)) (by rfl)) (by rfl)) (by rfl)) (by rfl)))) (by rfl) (by first | exact Or.inl rfl | exact Or.inr rfl))
    (ss_cons (s_set (i := 7) S.nd rfl (by first | exact Or.inl rfl | exact Or.inr rfl) (toD (pn_bin op_addAny sem_add (pd_name (pv 7)) (toD (pn_lst (pi_consD (toD (pn_tup (pi_consD pd_int (pi_consD pd_int (pi_consD pd_int pi_nilD (by rfl)) (by rfl)) (by rfl)))) (pi_consD (toD (pn_tup (pi_consD pd_int (pi_consD pd_int (pi_consD pd_int pi_nilD (by rfl)) (by rfl)) (by rfl)))) (pi_consD (toD (pn_tup (pi_consD pd_int (pi_consD pd_int (pi_consD pd_int pi_nilD (by rfl)) (by rfl)) (by rfl)))) pi_nilD (by rfl)) (by rfl)) (by rfl)))))) (by rfl) (by first | exact Or.inl rfl | exact Or.inr rfl))
    (ss_cons (s_set (i := 8) S.nd rfl (by first | exact Or.inl rfl | exact Or.inr rfl) (toD (pn_call (ok_steps_from T) (takes_of rfl rfl rfl rfl) (hr.mono (by decide)) rfl T.p_steps_from.g T.p_steps_from.F.kp T.p_steps_from.b (ph_cons (pd_name (pv 5)) (ph_cons (pd_name (pv 6)) ph_nil (by rfl)) (by rfl)) (by rfl) (by decide) (by rfl) (by rfl))) (by rfl) (by first | exact Or.inl rfl | exact Or.inr rfl))
    (ss_cons (s_if (PW.pt (pw_orD (pt_notD (pt_truthD (toD (pn_isi call_isi (sem_isa isa_tuple) rfl T.z_isinstance (by rfl) (pd_name (pv 8)) (pe_bltn rfl T.z_tuple (by rfl) rfl) (by decide) (by decide) (by rfl) (by rfl) (by rfl))) (fun _ => rfl))) (pw_or1 (pt_cmpD (op_neD hr.units) sem_ne (toD (pn_b1 call_lenAny sem_len rfl T.z_len (by rfl) (pd_name (pv 8)) (by decide) (by decide) (by rfl) (by rfl))) (toD (pn_b1 call_lenAny sem_len rfl T.z_len (by rfl) (pd_name (pv 7)) (by decide) (by decide) (by rfl) (by rfl))) (by rfl))))) (ss_one (s_ret (toN' pd_bl))) ss_nil)
    (ss_cons (s_for (passes_of rfl) rfl (pw_range1 rfl T.z_range (toD (pn_b1 call_lenAny sem_len rfl T.z_len (by rfl) (pd_name (pv 7)) (by decide) (by decide) (by rfl) (by rfl))) (by rfl) (by rfl)) (pg_name (i := 9) S.nd rfl (by first | exact Or.inl rfl | exact Or.inr rfl)) tgok_name (ss_one (s_if (pt_notD (pt_truthD (toD (pn_call (ok_l_row_is T) (takes_of rfl rfl rfl rfl) (hr.mono (by decide)) rfl T.p_l_row_is.g T.p_l_row_is.F.kp T.p_l_row_is.b (ph_cons (toD (pn_ix ix_seq sem_ix (pd_name (pv 8)) (pd_name (pv 9)) (fun _ _ => rfl))) (ph_cons (toD (pn_ix ix_seq sem_ix (pd_name (pv 7)) (pd_name (pv 9)) (fun _ _ => rfl))) ph_nil (by rfl)) (by rfl)) (by rfl) (by decide) (by rfl) (by rfl))) (fun _ => rfl))) (ss_one (s_ret (toN' pd_bl))) ss_nil)) (fun _ => rfl))
    (ss_cons (s_set (i := 10) S.nd rfl (by first | exact Or.inl rfl | exact Or.inr rfl) (toD (pn_lst (pi_consD (toD (pn_tup (pi_consD (pd_name (pv 12)) (pi_consD (pd_name (pv 2)) (pi_consD (pd_name (pv 3)) (pi_consD (pd_name (pv 15)) pi_nilD (by rfl)) (by rfl)) (by rfl)) (by rfl)))) (pi_consD (toD (pn_tup (pi_consD (pd_name (pv 12)) (pi_consD (pd_name (pv 12)) (pi_consD (pd_name (pv 12)) (pi_consD (pd_name (pv 2)) (pi_consD (pd_name (pv 3)) (pi_consD (pd_name (pv 15)) pi_nilD (by rfl)) (by rfl)) (by rfl)) (by rfl)) (by rfl)) (by rfl)))) (pi_consD (toD (pn_tup (pi_consD (pd_name (pv 12)) (pi_consD (pd_name (pv 12)) (pi_consD (pd_name (pv 12)) (pi_consD (pd_name (pv 2)) (pi_consD (pd_name (pv 3)) (pi_consD (pd_name (pv 15)) pi_nilD (by rfl)) (by rfl)) (by rfl)) (by rfl)) (by rfl)) (by rfl)))) (pi_consD (toD (pn_tup (pi_consD (pd_name (pv 15)) (pi_consD (pd_name (pv 12)) (pi_consD (pd_name (pv 12)) (pi_consD (pd_name (pv 2)) (pi_consD (pd_name (pv 3)) (pi_consD (pd_name (pv 15)) pi_nilD (by rfl)) (by rfl)) (by rfl)) (by rfl)) (by rfl)) (by rfl)))) (pi_consD (toD (pn_tup (pi_consD (pd_name (pv 12)) (pi_consD (pd_name (pv 15)) (pi_consD (pd_name (pv 12)) (pi_consD (pd_name (pv 2)) (pi_consD (pd_name (pv 3)) (pi_consD (pd_name (pv 15)) pi_nilD (by rfl)) (by rfl)) (by rfl)) (by rfl)) (by rfl)) (by rfl)))) pi_nilD (by rfl)) (by rfl)) (by rfl)) (by rfl)) (by rfl)))) (by rfl) (by first | exact Or.inl rfl | exact Or.inr rfl))
    (ss_cons (s_set (i := 10) S.nd rfl (by first | exact Or.inl rfl | exact Or.inr rfl) (toD (pn_bin op_addAny sem_add (pd_name (pv 10)) (toD (pn_lst (pi_consD (toD (pn_tup (pi_consD (pd_name (pv 12)) (pi_consD (pd_name (pv 12)) (pi_consD (pd_name (pv 15)) (pi_consD (pd_name (pv 2)) (pi_consD (pd_name (pv 3)) (pi_consD (pd_name (pv 15)) pi_nilD (by rfl)) (by rfl)) (by rfl)) (by rfl)) (by rfl)) (by rfl)))) (pi_consD (toD (pn_tup (pi_consD (pd_name (pv 12)) (pi_consD (pd_name (pv 12)) (pi_consD (pd_name (pv 2)) (pi_consD (pd_name (pv 15)) (pi_consD (pd_name (pv 3)) (pi_consD (pd_name (pv 15)) pi_nilD (by rfl)) (by rfl)) (by rfl)) (by rfl)) (by rfl)) (by rfl)))) (pi_consD (toD (pn_tup (pi_consD (pd_name (pv 12)) (pi_consD (pd_name (pv 12)) (pi_consD (pd_name (pv 2)) (pi_consD (pd_name (pv 3)) pi_nilD (by rfl)) (by rfl)) (by rfl)) (by rfl)))) (pi_consD (toD (pn_tup (pi_consD (pd_name (pv 12)) (pi_consD (pd_name (pv 12)) (pi_consD (pd_name (pv 2)) (pi_consD (pd_name (pv 3)) (pi_consD (pd_name (pv 15)) (pi_consD (pd_name (pv 15)) pi_nilD (by rfl)) (by rfl)) (by rfl)) (by rfl)) (by rfl)) (by rfl)))) pi_nilD (by rfl)) (by rfl)) (by rfl)) (by rfl)))))) (by rfl) (by first | exact Or.inl rfl | exact Or.inr rfl))
    (ss_cons (s_set (i := 10) S.nd rfl (by first | exact Or.inl rfl | exact Or.inr rfl) (toD (pn_bin op_addAny sem_add (pd_name (pv 10)) (toD (pn_lst (pi_consD (toD (pn_tup (pi_consD (pd_name (pv 12)) (pi_consD (pd_name (pv 12)) (pi_consD (pd_name (pv 2)) (pi_consD (pd_name (pv 3)) (pi_consD (pd_name (pv 15)) (pi_consD (pd_name (pv 15)) pi_nilD (by rfl)) (by rfl)) (by rfl)) (by rfl)) (by rfl)) (by rfl)))) (pi_consD (toD (pn_tup (pi_consD (pd_name (pv 12)) (pi_consD (pd_name (pv 12)) (pi_consD (pd_name (pv 3)) (pi_consD (pd_name (pv 2)) (pi_consD (pd_name (pv 15)) pi_nilD (by rfl)) (by rfl)) (by rfl)) (by rfl)) (by rfl)))) (pi_consD (toD (pn_tup (pi_consD (pd_name (pv 12)) (pi_consD (pd_name (pv 12)) (pi_consD (pd_name (pv 3)) (pi_consD (pd_name (pv 3)) (pi_consD (pd_name (pv 15)) pi_nilD (by rfl)) (by rfl)) (by rfl)) (by rfl)) (by rfl)))) (pi_consD (toD (pn_tup (pi_consD (pd_name (pv 12)) (pi_consD (pd_name (pv 12)) (pi_consD (pd_name (pv 2)) (pi_consD (pd_name (pv 2)) (pi_consD (pd_name (pv 15)) pi_nilD (by rfl)) (by rfl)) (by rfl)) (by rfl)) (by rfl)))) pi_nilD (by rfl)) (by rfl)) (by rfl)) (by rfl)))))) (by rfl) (by first | exact Or.inl rfl | exact Or.inr rfl))
    (ss_cons (s_for (passes_of rfl) rfl (pw_range1 rfl T.z_range (toD (pn_b1 call_lenAny sem_len rfl T.z_len (by rfl) (pd_name (pv 7)) (by decide) (by decide) (by rfl) (by rfl))) (by rfl) (by rfl)) (pg_name (i := 9) S.nd rfl (by first | exact Or.inl rfl | exact Or.inr rfl)) tgok_name (ss_one (s_if (PW.pt (pw_orD (pt_notD (pt_truthD (toD (pn_call (ok_l_row_is T) (takes_of rfl rfl rfl rfl) (hr.mono (by decide)) rfl T.p_l_row_is.g T.p_l_row_is.F.kp T.p_l_row_is.b (ph_cons (toD (pn_call (ok_stepped T) (takes_of rfl rfl rfl rfl) (hr.mono (by decide)) rfl T.p_stepped.g T.p_stepped.F.kp T.p_stepped.b (ph_cons (pd_name (pv 5)) (ph_cons (pd_name (pv 6)) (ph_cons (toD (pn_ix ix_seq sem_ix (pd_name (pv 7)) (pd_name (pv 9)) (fun _ _ => rfl))) ph_nil (by rfl)) (by rfl)) (by rfl)) (by rfl) (by decide) (by rfl) (by rfl))) (ph_cons (toD (pn_ix ix_seq sem_ix (pd_name (pv 10)) (pd_name (pv 9)) (fun _ _ => rfl))) ph_nil (by rfl)) (by rfl)) (by rfl) (by decide) (by rfl) (by rfl))) (fun _ => rfl))) (pw_or1 (pt_notD (pt_truthD (toD (pn_call (ok_l_is T) (takes_of rfl rfl rfl rfl) (hr.mono (by decide)) rfl T.p_l_is.g T.p_l_is.F.kp T.p_l_is.b (ph_cons (pd_name (pv 5)) (ph_cons (toD (pn_ix ix_seq sem_ix (pd_name (pv 7)) (pd_name (pv 9)) (fun _ _ => rfl))) (ph_cons (pd_name (pv 1)) (ph_cons pd_bl ph_nil (by rfl)) (by rfl)) (by rfl)) (by rfl)) (by rfl) (by decide) (by rfl) (by rfl))) (fun _ => rfl)))))) (ss_one (s_ret (toN' pd_bl))) ss_nil)) (fun _ => rfl))
    (ss_cons (s_for (passes_of rfl) rfl (pw_any (toD (pn_lst (pi_consD (toD (pn_tup (pi_consD pd_int (pi_consD pd_int (pi_consD pd_int pi_nilD (by rfl)) (by rfl)) (by rfl)))) (pi_consD (toD (pn_tup (pi_consD pd_int (pi_consD pd_int (pi_consD pd_int pi_nilD (by rfl)) (by rfl)) (by rfl)))) (pi_consD (toD (pn_tup (pi_consD pd_int (pi_consD pd_int (pi_consD pd_int pi_nilD (by rfl)) (by rfl)) (by rfl)))) (pi_consD (toD (pn_tup (pi_consD pd_int (pi_consD pd_int (pi_consD pd_int pi_nilD (by rfl)) (by rfl)) (by rfl)))) (pi_consD (toD (pn_tup (pi_consD pd_int (pi_consD pd_int (pi_consD pd_int pi_nilD (by rfl)) (by rfl)) (by rfl)))) (pi_consD (toD (pn_tup (pi_consD pd_int (pi_consD pd_int (pi_consD pd_int pi_nilD (by rfl)) (by rfl)) (by rfl)))) (pi_consD (toD (pn_tup (pi_consD pd_int (pi_consD pd_int (pi_consD pd_int pi_nilD (by rfl)) (by rfl)) (by rfl)))) (pi_consD (toD (pn_tup (pi_consD pd_int (pi_consD pd_int (pi_consD pd_int pi_nilD (by rfl)) (by rfl)) (by rfl)))) (pi_consD (toD (pn_tup (pi_consD pd_int (pi_consD pd_int (pi_consD pd_int pi_nilD (by rfl)) (by rfl)) (by rfl)))) (pi_consD (toD (pn_tup (pi_consD pd_int (pi_consD pd_int (pi_consD pd_int pi_nilD (by rfl)) (by rfl)) (by rfl)))) (pi_consD (toD (pn_tup (pi_consD pd_int (pi_consD pd_int (pi_consD pd_int pi_nilD (by rfl)) (by rfl)) (by rfl)))) pi_nilD (by rfl)) (by rfl)) (by rfl)) (by rfl)) (by rfl)) (by rfl)) (by rfl)) (by rfl)) (by rfl)) (by rfl)) (by rfl))))) (pg_name (i := 11) S.nd rfl (by first | exact Or.inl rfl | exact Or.inr rfl)) tgok_name (ss_cons (s_set (i := 8) S.nd rfl (by first | exact Or.inl rfl | exact Or.inr rfl) (toD (pn_if (pt_truthD (pd_name (pv 1)) (fun _ => rfl)) (pn_callK (ok_stepped T) (takes_of rfl rfl rfl rfl) (hr.mono (by decide)) rfl T.p_stepped.g T.p_stepped.F.kp (kb_stepped_setting_row_step T) (pk_consD (pd_name (pv 5)) (pk_consD (pd_name (pv 6)) (pk_consD (pd_name (pv 11)) pk_nilD))) (by decide) (by rfl) (by rfl) (by rfl) (by decide) (by rfl)) (pn_call (ok_stepped T) (takes_of rfl rfl rfl rfl) (hr.mono (by decide)) rfl T.p_stepped.g T.p_stepped.F.kp T.p_stepped.b (ph_cons (pd_name (pv 5)) (ph_cons (pd_name (pv 6)) (ph_cons (pd_name (pv 11)) ph_nil (by rfl)) (by rfl)) (by rfl)) (by rfl) (by decide) (by rfl) (by rfl)))) (by rfl) (by first | exact Or.inl rfl | exact Or.inr rfl))
    (ss_one (s_if (PW.pt (pw_orD (pt_notNn (pd_name (pv 8))) (pw_or1 (pt_notD (pt_truthD (toD (pn_call (ok_l_is T) (takes_of rfl rfl rfl rfl) (hr.mono (by decide)) rfl T.p_l_is.g T.p_l_is.F.kp T.p_l_is.b (ph_cons (pd_name (pv 5)) (ph_cons (pd_name (pv 11)) (ph_cons (pd_name (pv 1)) (ph_cons pd_bl ph_nil (by rfl)) (by rfl)) (by rfl)) (by rfl)) (by rfl) (by decide) (by rfl) (by rfl))) (fun _ => rfl)))))) (ss_one (s_ret (toN' pd_bl))) ss_nil))) (fun _ => rfl))
    (ss_cons (s_if (PW.pt (pw_orD (pt_notD (pt_truthD (toD (pn_call (ok_l_row_is T) (takes_of rfl rfl rfl rfl) (hr.mono (by decide)) rfl T.p_l_row_is.g T.p_l_row_is.F.kp T.p_l_row_is.b (ph_cons (toD (pn_call (ok_stepped T) (takes_of rfl rfl rfl rfl) (hr.mono (by decide)) rfl T.p_stepped.g T.p_stepped.F.kp T.p_stepped.b (ph_cons (pd_name (pv 5)) (ph_cons (toD (pn_tup (pi_consD (pd_name (pv 3)) (pi_consD (pd_name (pv 2)) pi_nilD (by rfl)) (by rfl)))) (ph_cons (toD (pn_tup (pi_consD pd_int (pi_consD pd_int (pi_consD pd_int pi_nilD (by rfl)) (by rfl)) (by rfl)))) ph_nil (by rfl)) (by rfl)) (by rfl)) (by rfl) (by decide) (by rfl) (by rfl))) (ph_cons (toD (pn_tup (pi_consD (pd_name (pv 2)) (pi_consD (pd_name (pv 3)) pi_nilD (by rfl)) (by rfl)))) ph_nil (by rfl)) (by rfl)) (by rfl) (by decide) (by rfl) (by rfl))) (fun _ => rfl))) (pw_or1 (pt_notNn (toD (pn_call (ok_stepped T) (takes_of rfl rfl rfl rfl) (hr.mono (by decide)) rfl T.p_stepped.g T.p_stepped.F.kp T.p_stepped.b (ph_cons (pd_name (pv 5)) (ph_cons (toD (pn_tup (pi_consD (pd_name (pv 3)) (pi_consD (pd_name (pv 2)) pi_nilD (by rfl)) (by rfl)))) (ph_cons (toD (pn_tup (pi_consD pd_int (pi_consD pd_int (pi_consD pd_int pi_nilD (by rfl)) (by rfl)) (by rfl)))) ph_nil (by rfl)) (by rfl)) (by rfl)) (by rfl) (by decide) (by rfl) (by rfl))))))) (ss_one (s_ret (toN' pd_bl))) ss_nil)
    (ss_cons (s_set (i := 8) S.nd rfl (by first | exact Or.inl rfl | exact Or.inr rfl) (toD (pn_call (ok_steps_from T) (takes_of rfl rfl rfl rfl) (hr.mono (by decide)) rfl T.p_steps_from.g T.p_steps_from.F.kp T.p_steps_from.b (ph_cons (pd_name (pv 5)) (ph_cons (toD (pn_tup pi_nilD)) ph_nil (by rfl)) (by rfl)) (by rfl) (by decide) (by rfl) (by rfl))) (by rfl) (by first | exact Or.inl rfl | exact Or.inr rfl))
    (ss_one (s_ret (pn_and (pn_isi call_isi (sem_isa isa_tuple) rfl T.z_isinstance (by rfl) (pd_name (pv 8)) (pe_bltn rfl T.z_tuple (by rfl) rfl) (by decide) (by decide) (by rfl) (by rfl) (by rfl)) (pn_and (pn_cmp (op_eqD hr.units) sem_eq (toD (pn_b1 call_lenAny sem_len rfl T.z_len (by rfl) (pd_name (pv 8)) (by decide) (by decide) (by rfl) (by rfl))) pd_int (by rfl)) (pn_one (pn_call (ok_l_row_is T) (takes_of rfl rfl rfl rfl) (hr.mono (by decide)) rfl T.p_l_row_is.g T.p_l_row_is.F.kp T.p_l_row_is.b (ph_cons (toD (pn_ix ix_seq sem_ix (pd_name (pv 8)) pd_int (fun _ _ => rfl))) (ph_cons (toD (pn_tup (pi_consD pd_int (pi_consD pd_int (pi_consD pd_int pi_nilD (by rfl)) (by rfl)) (by rfl)))) ph_nil (by rfl)) (by rfl)) (by rfl) (by decide) (by rfl) (by rfl)))))))))))))))))))))))))
theorem sc_law : FnScope ["script", "reel", "wide", "named", "every", "settings", "k", "still", "many", "count", "setting", "row"] ["script"] (defScope s_law) := ⟨rfl, rfl, rfl, by decide +kernel, rfl, by decide +kernel, by decide +kernel⟩
theorem ok_law (T : Tx K mg) : FnOk Pr w K mg base (L2.CX Pr w) 7 T.a_law T.d_law ["script"] (spF K (["script"] : List Str).length F_law) :=
  fn_ok (k := 6) T.p_law.F sc_law fun cdv A outer s H E n0 hr => by
    have S := sc_law
    exact (ss_cons (s_newB (i := 1) S.nd rfl (by first | exact Or.inl rfl | exact Or.inr rfl) (pn_call (ok_l_reel T) (takes_of rfl rfl rfl rfl) (hr.mono (by decide)) rfl T.p_l_reel.g T.p_l_reel.F.kp T.p_l_reel.b (ph_cons (pd_name (pv 0)) ph_nil (by rfl)) (by rfl) (by decide) (by rfl) (by rfl)) (by rfl) (by first | exact Or.inl rfl | exact Or.inr rfl))
    (ss_cons (s_set (i := 2) S.nd rfl (by first | exact Or.inl rfl | exact Or.inr rfl) (toD (pn_cmp (op_eqD hr.units) sem_eq (toD (pn_call (ok_l_next T) (takes_of rfl rfl rfl rfl) (hr.mono (by decide)) rfl T.p_l_next.g T.p_l_next.F.kp T.p_l_next.b (ph_cons (pd_name (pv 1)) (ph_cons pd_int ph_nil (by rfl)) (by rfl)) (by rfl) (by decide) (by rfl) (by rfl))) pd_int (by rfl))) (by rfl) (by first | exact Or.inl rfl | exact Or.inr rfl))
    (ss_cons (s_set (i := 3) S.nd rfl (by first | exact Or.inl rfl | exact Or.inr rfl) (toD (pn_cmp (op_eqD hr.units) sem_eq (toD (pn_call (ok_l_next T) (takes_of rfl rfl rfl rfl) (hr.mono (by decide)) rfl T.p_l_next.g T.p_l_next.F.kp T.p_l_next.b (ph_cons (pd_name (pv 1)) (ph_cons pd_int ph_nil (by rfl)) (by rfl)) (by rfl) (by decide) (by rfl) (by rfl))) pd_int (by rfl))) (by rfl) (by first | exact Or.inl rfl | exact Or.inr rfl))
    (ss_cons (s_if (pt_notD (pt_truthD (toD (pn_call (ok_l_by_hand T) (takes_of rfl rfl rfl rfl) (hr.mono (by decide)) rfl T.p_l_by_hand.g T.p_l_by_hand.F.kp T.p_l_by_hand.b (ph_cons (pd_name (pv 1)) (ph_cons (pd_name (pv 3)) ph_nil (by rfl)) (by rfl)) (by rfl) (by decide) (by rfl) (by rfl))) (fun _ => rfl))) (ss_one (s_ret (toN' pd_bl))) ss_nil)
    (ss_cons (s_set (i := 4) S.nd rfl (by first | exact Or.inl rfl | exact Or.inr rfl) (toD (pn_lst (pi_consD pd_str (pi_consD pd_str (pi_consD pd_str (pi_consD pd_str pi_nilD (by rfl)) (by rfl)) (by rfl)) (by rfl)))) (by rfl) (by first | exact Or.inl rfl | exact Or.inr rfl))
    (ss_cons (s_new (i := 5) S.nd rfl (by first | exact Or.inl rfl | exact Or.inr rfl) (pn_lst pi_nilD) (by rfl) (by first | exact Or.inl rfl | exact Or.inr rfl))
    (ss_cons (s_for (passes_of rfl) rfl (pw_range1 rfl T.z_range pd_int (by rfl) (by rfl)) (pg_name (i := 6) S.nd rfl (by first | exact Or.inl rfl | exact Or.inr rfl)) tgok_name (ss_cons (s_set (i := 8) S.nd rfl (by first | exact Or.inl rfl | exact Or.inr rfl) (toD (pn_bin op_addAny sem_add pd_int (toD (pn_call (ok_l_next T) (takes_of rfl rfl rfl rfl) (hr.mono (by decide)) rfl T.p_l_next.g T.p_l_next.F.kp T.p_l_next.b (ph_cons (pd_name (pv 1)) (ph_cons pd_int ph_nil (by rfl)) (by rfl)) (by rfl) (by decide) (by rfl) (by rfl))))) (by rfl) (by first | exact Or.inl rfl | exact Or.inr rfl))
    (ss_cons (s_set (i := 9) S.nd rfl (by first | exact Or.inl rfl | exact Or.inr rfl) (toD (pn_ix ix_seq sem_ix (toD (pn_lst (pi_consD pd_int (pi_consD pd_int (pi_consD pd_int (pi_consD pd_int pi_nilD (by rfl)) (by rfl)) (by rfl)) (by rfl)))) (toD (pn_call (ok_l_next T) (takes_of rfl rfl rfl rfl) (hr.mono (by decide)) rfl T.p_l_next.g T.p_l_next.F.kp T.p_l_next.b (ph_cons (pd_name (pv 1)) (ph_cons pd_int ph_nil (by rfl)) (by rfl)) (by rfl) (by decide) (by rfl) (by rfl))) (fun _ _ => rfl))) (by rfl) (by first | exact Or.inl rfl | exact Or.inr rfl))
    (ss_cons (s_if (PW.pt (pw_andD (pt_truthD (pd_name (pv 2)) (fun _ => rfl)) (pw_and1 (pt_cmpD (op_eqD hr.units) sem_eq (pd_name (pv 6)) pd_int (by rfl))))) (ss_cons (s_set (i := 8) S.nd rfl (by first | exact Or.inl rfl | exact Or.inr rfl) pd_int (by rfl) (by first | exact Or.inl rfl | exact Or.inr rfl))
    (ss_one (s_set (i := 9) S.nd rfl (by first | exact Or.inl rfl | exact Or.inr rfl) pd_int (by rfl) (by first | exact Or.inl rfl | exact Or.inr rfl)))) ss_nil)
    (ss_cons (s_set (i := 10) S.nd rfl (by first | exact Or.inl rfl | exact Or.inr rfl) (toD (pn_call (ok_l_setting T) (takes_of rfl rfl rfl rfl) (hr.mono (by decide)) rfl T.p_l_setting.g T.p_l_setting.F.kp T.p_l_setting.b (ph_cons (pd_name (pv 1)) (ph_cons (pd_name (pv 8)) (ph_cons (pd_name (pv 9)) (ph_cons (toD (pn_if (pt_cmpD op_lt sem_lt (pd_name (pv 6)) pd_int (by rfl)) (toN' (pd_name (pv 4))) (pn_call (ok_l_some T) (takes_of rfl rfl rfl rfl) (hr.mono (by decide)) rfl T.p_l_some.g T.p_l_some.F.kp T.p_l_some.b (ph_cons (pd_name (pv 1)) (ph_cons (pd_name (pv 4)) (ph_cons pd_int ph_nil (by rfl)) (by rfl)) (by rfl)) (by rfl) (by decide) (by rfl) (by rfl)))) ph_nil (by rfl)) (by rfl)) (by rfl)) (by rfl)) (by rfl) (by decide) (by rfl) (by rfl))) (by rfl) (by first | exact Or.inl rfl | exact Or.inr rfl))
    (ss_cons (s_app (ps_expr (pe_bm PySem.F.plainAttrs_list PySem.F.slot_list_append PySem.F.type_list_append mt_append (pv 5) (pa_cons (pd_name (pv 10)) pa_nil))))
    (ss_cons (s_if (pt_notD (pt_truthD (toD (pn_call (ok_l_things T) (takes_of rfl rfl rfl rfl) (hr.mono (by decide)) rfl T.p_l_things.g T.p_l_things.F.kp T.p_l_things.b (ph_cons (pd_name (pv 1)) (ph_cons (pd_name (pv 10)) (ph_cons (pd_name (pv 3)) ph_nil (by rfl)) (by rfl)) (by rfl)) (by rfl) (by decide) (by rfl) (by rfl))) (fun _ => rfl))) (ss_one (s_ret (toN' pd_bl))) ss_nil)
    (ss_cons (s_set (i := 11) S.nd rfl (by first | exact Or.inl rfl | exact Or.inr rfl) (toD (pn_call (ok_l_row T) (takes_of rfl rfl rfl rfl) (hr.mono (by decide)) rfl T.p_l_row.g T.p_l_row.F.kp T.p_l_row.b (ph_cons (pd_name (pv 1)) (ph_cons (pd_name (pv 8)) (ph_cons (toD (pn_if (PW.pt (pw_andD (pt_truthD (pd_name (pv 2)) (fun _ => rfl)) (pw_and1 (pt_cmpD (op_eqD hr.units) sem_eq (pd_name (pv 6)) pd_int (by rfl))))) (toN' pd_int) (pn_call (ok_l_next T) (takes_of rfl rfl rfl rfl) (hr.mono (by decide)) rfl T.p_l_next.g T.p_l_next.F.kp T.p_l_next.b (ph_cons (pd_name (pv 1)) (ph_cons pd_int ph_nil (by rfl)) (by rfl)) (by rfl) (by decide) (by rfl) (by rfl)))) ph_nil (by rfl)) (by rfl)) (by rfl)) (by rfl) (by decide) (by rfl) (by rfl))) (by rfl) (by first | exact Or.inl rfl | exact Or.inr rfl))
    (ss_cons (s_if (PW.pt (pw_orD (PW.pt (pw_andD (pt_truthD (pd_name (pv 2)) (fun _ => rfl)) (pw_and1 (pt_cmpD (op_eqD hr.units) sem_eq (pd_name (pv 6)) pd_int (by rfl))))) (pw_or1 (pt_cmpD op_lt sem_lt (toD (pn_bin op_mulW sem_mul (toD (pn_b1 call_lenAny sem_len rfl T.z_len (by rfl) (toD (pn_ix ix_seq sem_ix (pd_name (pv 10)) pd_int (fun _ _ => rfl))) (by decide) (by decide) (by rfl) (by rfl))) (toD (pn_b1 call_lenAny sem_len rfl T.z_len (by rfl) (pd_name (pv 11)) (by decide) (by decide) (by rfl) (by rfl))))) pd_int (by rfl))))) (ss_one (s_if (pt_notD (pt_truthD (toD (pn_call (ok_l_steps T) (takes_of rfl rfl rfl rfl) (hr.mono (by decide)) rfl T.p_l_steps.g T.p_l_steps.F.kp T.p_l_steps.b (ph_cons (pd_name (pv 10)) (ph_cons (pd_name (pv 11)) (ph_cons (pd_name (pv 3)) (ph_cons (toD (pn_lst (pi_consD pd_int (pi_consD (toD (pn_bin op_pow sem_pow pd_int pd_int)) pi_nilD (by rfl)) (by rfl)))) ph_nil (by rfl)) (by rfl)) (by rfl)) (by rfl)) (by rfl) (by decide) (by rfl) (by rfl))) (fun _ => rfl))) (ss_one (s_ret (toN' pd_bl))) ss_nil)) (ss_one (s_if (pt_notD (pt_truthD (toD (pn_call (ok_l_few T) (takes_of rfl rfl rfl rfl) (hr.mono (by decide)) rfl T.p_l_few.g T.p_l_few.F.kp T.p_l_few.b (ph_cons (pd_name (pv 1)) (ph_cons (pd_name (pv 10)) (ph_cons (pd_name (pv 11)) (ph_cons (pd_name (pv 3)) ph_nil (by rfl)) (by rfl)) (by rfl)) (by rfl)) (by rfl) (by decide) (by rfl) (by rfl))) (fun _ => rfl))) (ss_one (s_ret (toN' pd_bl))) ss_nil)))
    (ss_cons (s_set (i := 11) S.nd rfl (by first | exact Or.inl rfl | exact Or.inr rfl) (toD (pn_call (ok_l_row T) (takes_of rfl rfl rfl rfl) (hr.mono (by decide)) rfl T.p_l_row.g T.p_l_row.F.kp T.p_l_row.b (ph_cons (pd_name (pv 1)) (ph_cons (pd_name (pv 8)) (ph_cons (toD (pn_bin op_addAny sem_add pd_int (toD (pn_call (ok_l_next T) (takes_of rfl rfl rfl rfl) (hr.mono (by decide)) rfl T.p_l_next.g T.p_l_next.F.kp T.p_l_next.b (ph_cons (pd_name (pv 1)) (ph_cons pd_int ph_nil (by rfl)) (by rfl)) (by rfl) (by decide) (by rfl) (by rfl))))) ph_nil (by rfl)) (by rfl)) (by rfl)) (by rfl) (by decide) (by rfl) (by rfl))) (by rfl) (by first | exact Or.inl rfl | exact Or.inr rfl))
    (ss_one (s_if (pt_notD (pt_truthD (toD (pn_call (ok_l_steps T) (takes_of rfl rfl rfl rfl) (hr.mono (by decide)) rfl T.p_l_steps.g T.p_l_steps.F.kp T.p_l_steps.b (ph_cons (toD (pn_tup (pi_consD (toD (pn_ix ix_seq sem_ix (pd_name (pv 10)) pd_int (fun _ _ => rfl))) (pi_consD (toD (pn_slice (toD (pn_ix ix_seq sem_ix (pd_name (pv 10)) pd_int (fun _ _ => rfl))) po_noneD (po_someD pd_int))) pi_nilD (by rfl)) (by rfl)))) (ph_cons (pd_name (pv 11)) (ph_cons (toD (pn_not (toN' (pd_name (pv 3))))) (ph_cons (toD (pn_lst (pi_consD pd_int pi_nilD (by rfl)))) ph_nil (by rfl)) (by rfl)) (by rfl)) (by rfl)) (by rfl) (by decide) (by rfl) (by rfl))) (fun _ => rfl))) (ss_one (s_ret (toN' pd_bl))) ss_nil))))))))))) (fun _ => rfl))
    (ss_cons (s_set (i := 7) S.nd rfl (by first | exact Or.inl rfl | exact Or.inr rfl) (toD (pn_tup (pi_consD (toD (pn_ix ix_seq sem_ix (toD (pn_ix ix_seq sem_ix (pd_name (pv 5)) pd_int (fun _ _ => rfl))) pd_int (fun _ _ => rfl))) (pi_consD (toD (pn_tup pi_nilD)) pi_nilD (by rfl)) (by rfl)))) (by rfl) (by first | exact Or.inl rfl | exact Or.inr rfl))
    (ss_cons (s_if (PW.pt (pw_orD (pt_notD (pt_truthD (toD (pn_call (ok_l_things T) (takes_of rfl rfl rfl rfl) (hr.mono (by decide)) rfl T.p_l_things.g T.p_l_things.F.kp T.p_l_things.b (ph_cons (pd_name (pv 1)) (ph_cons (pd_name (pv 7)) (ph_cons (pd_name (pv 3)) ph_nil (by rfl)) (by rfl)) (by rfl)) (by rfl) (by decide) (by rfl) (by rfl))) (fun _ => rfl))) (pw_or1 (pt_notD (pt_truthD (toD (pn_call (ok_l_steps T) (takes_of rfl rfl rfl rfl) (hr.mono (by decide)) rfl T.p_l_steps.g T.p_l_steps.F.kp T.p_l_steps.b (ph_cons (pd_name (pv 7)) (ph_cons (toD (pn_call (ok_l_row T) (takes_of rfl rfl rfl rfl) (hr.mono (by decide)) rfl T.p_l_row.g T.p_l_row.F.kp T.p_l_row.b (ph_cons (pd_name (pv 1)) (ph_cons pd_int (ph_cons pd_int ph_nil (by rfl)) (by rfl)) (by rfl)) (by rfl) (by decide) (by rfl) (by rfl))) (ph_cons (pd_name (pv 3)) (ph_cons (toD (pn_lst pi_nilD)) ph_nil (by rfl)) (by rfl)) (by rfl)) (by rfl)) (by rfl) (by decide) (by rfl) (by rfl))) (fun _ => rfl)))))) (ss_one (s_ret (toN' pd_bl))) ss_nil)
    (ss_one (s_ret (pn_and (pn_call (ok_l_steps T) (takes_of rfl rfl rfl rfl) (hr.mono (by decide)) rfl T.p_l_steps.g T.p_l_steps.F.kp T.p_l_steps.b (ph_cons (toD (pn_tup (pi_consD (toD (pn_ix ix_seq sem_ix (toD (pn_ix ix_seq sem_ix (pd_name (pv 5)) pd_int (fun _ _ => rfl))) pd_int (fun _ _ => rfl))) (pi_consD (toD (pn_slice (toD (pn_ix ix_seq sem_ix (toD (pn_ix ix_seq sem_ix (pd_name (pv 5)) pd_int (fun _ _ => rfl))) pd_int (fun _ _ => rfl))) po_noneD (po_someD pd_int))) pi_nilD (by rfl)) (by rfl)))) (ph_cons (toD (pn_tup pi_nilD)) (ph_cons (pd_name (pv 3)) (ph_cons (toD (pn_lst (pi_consD pd_int pi_nilD (by rfl)))) ph_nil (by rfl)) (by rfl)) (by rfl)) (by rfl)) (by rfl) (by decide) (by rfl) (by rfl)) (pn_one (pn_call (ok_l_by_hand T) (takes_of rfl rfl rfl rfl) (hr.mono (by decide)) rfl T.p_l_by_hand.g T.p_l_by_hand.F.kp T.p_l_by_hand.b (ph_cons (pd_name (pv 1)) (ph_cons (toD (pn_not (toN' (pd_name (pv 3))))) ph_nil (by rfl)) (by rfl)) (by rfl) (by decide) (by rfl) (by rfl)))))))))))))))
end
/-! ### what the top has written -/
def tx_mk {K : PySem.W.Frag} {h : Heap} {mg : Str → Option Value} (X : K.In h) (G : h.Ns mainGlobals mg)
    {f_l_reel : Addr} {o_l_reel n_l_reel : Option Addr} {v_l_reel : Array (Option Value)} {c_l_reel k_l_reel e_l_reel m_l_reel r_l_reel t_l_reel : Value}
    (xa_l_reel : PySem.W.nsIn K mainGlobals "_law_reel" = some (some (.ref f_l_reel))) (xl_l_reel : K.lookup f_l_reel = some ⟨c_l_reel, o_l_reel, .func (PySem.W.fnOf "_law_reel" "_law_reel" (defArgs s_l_reel) (defBody s_l_reel) (defScope s_l_reel) .none k_l_reel e_l_reel m_l_reel n_l_reel r_l_reel t_l_reel), v_l_reel⟩) (xc_l_reel : PySem.W.codeIn K r_l_reel "_law_reel" = true) (xk_l_reel : PySem.W.keepIn K (.ref f_l_reel) = true)
    {f_l_next : Addr} {o_l_next n_l_next : Option Addr} {v_l_next : Array (Option Value)} {c_l_next k_l_next e_l_next m_l_next r_l_next t_l_next : Value}
    (xa_l_next : PySem.W.nsIn K mainGlobals "_law_next" = some (some (.ref f_l_next))) (xl_l_next : K.lookup f_l_next = some ⟨c_l_next, o_l_next, .func (PySem.W.fnOf "_law_next" "_law_next" (defArgs s_l_next) (defBody s_l_next) (defScope s_l_next) .none k_l_next e_l_next m_l_next n_l_next r_l_next t_l_next), v_l_next⟩) (xc_l_next : PySem.W.codeIn K r_l_next "_law_next" = true) (xk_l_next : PySem.W.keepIn K (.ref f_l_next) = true)
    {f_l_some : Addr} {o_l_some n_l_some : Option Addr} {v_l_some : Array (Option Value)} {c_l_some k_l_some e_l_some m_l_some r_l_some t_l_some : Value}
    (xa_l_some : PySem.W.nsIn K mainGlobals "_law_some" = some (some (.ref f_l_some))) (xl_l_some : K.lookup f_l_some = some ⟨c_l_some, o_l_some, .func (PySem.W.fnOf "_law_some" "_law_some" (defArgs s_l_some) (defBody s_l_some) (defScope s_l_some) .none k_l_some e_l_some m_l_some n_l_some r_l_some t_l_some), v_l_some⟩) (xc_l_some : PySem.W.codeIn K r_l_some "_law_some" = true) (xk_l_some : PySem.W.keepIn K (.ref f_l_some) = true)
    {f_l_setting : Addr} {o_l_setting n_l_setting : Option Addr} {v_l_setting : Array (Option Value)} {c_l_setting k_l_setting e_l_setting m_l_setting r_l_setting t_l_setting : Value}
    (xa_l_setting : PySem.W.nsIn K mainGlobals "_law_setting" = some (some (.ref f_l_setting))) (xl_l_setting : K.lookup f_l_setting = some ⟨c_l_setting, o_l_setting, .func (PySem.W.fnOf "_law_setting" "_law_setting" (defArgs s_l_setting) (defBody s_l_setting) (defScope s_l_setting) .none k_l_setting e_l_setting m_l_setting n_l_setting r_l_setting t_l_setting), v_l_setting⟩) (xc_l_setting : PySem.W.codeIn K r_l_setting "_law_setting" = true) (xk_l_setting : PySem.W.keepIn K (.ref f_l_setting) = true)
    {f_l_row : Addr} {o_l_row n_l_row : Option Addr} {v_l_row : Array (Option Value)} {c_l_row k_l_row e_l_row m_l_row r_l_row t_l_row : Value}
    (xa_l_row : PySem.W.nsIn K mainGlobals "_law_row" = some (some (.ref f_l_row))) (xl_l_row : K.lookup f_l_row = some ⟨c_l_row, o_l_row, .func (PySem.W.fnOf "_law_row" "_law_row" (defArgs s_l_row) (defBody s_l_row) (defScope s_l_row) .none k_l_row e_l_row m_l_row n_l_row r_l_row t_l_row), v_l_row⟩) (xc_l_row : PySem.W.codeIn K r_l_row "_law_row" = true) (xk_l_row : PySem.W.keepIn K (.ref f_l_row) = true)
    {f_held_step : Addr} {o_held_step n_held_step : Option Addr} {v_held_step : Array (Option Value)} {c_held_step k_held_step e_held_step m_held_step r_held_step t_held_step : Value}
    (xa_held_step : PySem.W.nsIn K mainGlobals "held_step" = some (some (.ref f_held_step))) (xl_held_step : K.lookup f_held_step = some ⟨c_held_step, o_held_step, .func (PySem.W.fnOf "held_step" "held_step" (defArgs s_held_step) (defBody s_held_step) (defScope s_held_step) .none k_held_step e_held_step m_held_step n_held_step r_held_step t_held_step), v_held_step⟩) (xc_held_step : PySem.W.codeIn K r_held_step "held_step" = true) (xk_held_step : PySem.W.keepIn K (.ref f_held_step) = true)
    {f_idle_step : Addr} {o_idle_step n_idle_step : Option Addr} {v_idle_step : Array (Option Value)} {c_idle_step k_idle_step e_idle_step m_idle_step r_idle_step t_idle_step : Value}
    (xa_idle_step : PySem.W.nsIn K mainGlobals "idle_step" = some (some (.ref f_idle_step))) (xl_idle_step : K.lookup f_idle_step = some ⟨c_idle_step, o_idle_step, .func (PySem.W.fnOf "idle_step" "idle_step" (defArgs s_idle_step) (defBody s_idle_step) (defScope s_idle_step) .none k_idle_step e_idle_step m_idle_step n_idle_step r_idle_step t_idle_step), v_idle_step⟩) (xc_idle_step : PySem.W.codeIn K r_idle_step "idle_step" = true) (xk_idle_step : PySem.W.keepIn K (.ref f_idle_step) = true)
    {f_loose_step : Addr} {o_loose_step n_loose_step : Option Addr} {v_loose_step : Array (Option Value)} {c_loose_step k_loose_step e_loose_step m_loose_step r_loose_step t_loose_step : Value}
    (xa_loose_step : PySem.W.nsIn K mainGlobals "loose_step" = some (some (.ref f_loose_step))) (xl_loose_step : K.lookup f_loose_step = some ⟨c_loose_step, o_loose_step, .func (PySem.W.fnOf "loose_step" "loose_step" (defArgs s_loose_step) (defBody s_loose_step) (defScope s_loose_step) .none k_loose_step e_loose_step m_loose_step n_loose_step r_loose_step t_loose_step), v_loose_step⟩) (xc_loose_step : PySem.W.codeIn K r_loose_step "loose_step" = true) (xk_loose_step : PySem.W.keepIn K (.ref f_loose_step) = true)
    {f_same_step : Addr} {o_same_step n_same_step : Option Addr} {v_same_step : Array (Option Value)} {c_same_step k_same_step e_same_step m_same_step r_same_step t_same_step : Value}
    (xa_same_step : PySem.W.nsIn K mainGlobals "same_step" = some (some (.ref f_same_step))) (xl_same_step : K.lookup f_same_step = some ⟨c_same_step, o_same_step, .func (PySem.W.fnOf "same_step" "same_step" (defArgs s_same_step) (defBody s_same_step) (defScope s_same_step) .none k_same_step e_same_step m_same_step n_same_step r_same_step t_same_step), v_same_step⟩) (xc_same_step : PySem.W.codeIn K r_same_step "same_step" = true) (xk_same_step : PySem.W.keepIn K (.ref f_same_step) = true)
    {f_stepped : Addr} {o_stepped n_stepped : Option Addr} {v_stepped : Array (Option Value)} {c_stepped k_stepped e_stepped m_stepped r_stepped t_stepped : Value}
    (xa_stepped : PySem.W.nsIn K mainGlobals "stepped" = some (some (.ref f_stepped))) (xl_stepped : K.lookup f_stepped = some ⟨c_stepped, o_stepped, .func (PySem.W.fnOf "stepped" "stepped" (defArgs s_stepped) (defBody s_stepped) (defScope s_stepped) .none k_stepped e_stepped m_stepped n_stepped r_stepped t_stepped), v_stepped⟩) (xc_stepped : PySem.W.codeIn K r_stepped "stepped" = true) (xk_stepped : PySem.W.keepIn K (.ref f_stepped) = true)
    {f_steps_from : Addr} {o_steps_from n_steps_from : Option Addr} {v_steps_from : Array (Option Value)} {c_steps_from k_steps_from e_steps_from m_steps_from r_steps_from t_steps_from : Value}
    (xa_steps_from : PySem.W.nsIn K mainGlobals "steps_from" = some (some (.ref f_steps_from))) (xl_steps_from : K.lookup f_steps_from = some ⟨c_steps_from, o_steps_from, .func (PySem.W.fnOf "steps_from" "steps_from" (defArgs s_steps_from) (defBody s_steps_from) (defScope s_steps_from) .none k_steps_from e_steps_from m_steps_from n_steps_from r_steps_from t_steps_from), v_steps_from⟩) (xc_steps_from : PySem.W.codeIn K r_steps_from "steps_from" = true) (xk_steps_from : PySem.W.keepIn K (.ref f_steps_from) = true)
    {f_l_done : Addr} {o_l_done n_l_done : Option Addr} {v_l_done : Array (Option Value)} {c_l_done k_l_done e_l_done m_l_done r_l_done t_l_done : Value}
    (xa_l_done : PySem.W.nsIn K mainGlobals "_law_done" = some (some (.ref f_l_done))) (xl_l_done : K.lookup f_l_done = some ⟨c_l_done, o_l_done, .func (PySem.W.fnOf "_law_done" "_law_done" (defArgs s_l_done) (defBody s_l_done) (defScope s_l_done) .none k_l_done e_l_done m_l_done n_l_done r_l_done t_l_done), v_l_done⟩) (xc_l_done : PySem.W.codeIn K r_l_done "_law_done" = true) (xk_l_done : PySem.W.keepIn K (.ref f_l_done) = true)
    {f_l_row_is : Addr} {o_l_row_is n_l_row_is : Option Addr} {v_l_row_is : Array (Option Value)} {c_l_row_is k_l_row_is e_l_row_is m_l_row_is r_l_row_is t_l_row_is : Value}
    (xa_l_row_is : PySem.W.nsIn K mainGlobals "_law_row_is" = some (some (.ref f_l_row_is))) (xl_l_row_is : K.lookup f_l_row_is = some ⟨c_l_row_is, o_l_row_is, .func (PySem.W.fnOf "_law_row_is" "_law_row_is" (defArgs s_l_row_is) (defBody s_l_row_is) (defScope s_l_row_is) .none k_l_row_is e_l_row_is m_l_row_is n_l_row_is r_l_row_is t_l_row_is), v_l_row_is⟩) (xc_l_row_is : PySem.W.codeIn K r_l_row_is "_law_row_is" = true) (xk_l_row_is : PySem.W.keepIn K (.ref f_l_row_is) = true)
    {f_l_steps : Addr} {o_l_steps n_l_steps : Option Addr} {v_l_steps : Array (Option Value)} {c_l_steps k_l_steps e_l_steps m_l_steps r_l_steps t_l_steps : Value}
    (xa_l_steps : PySem.W.nsIn K mainGlobals "_law_steps" = some (some (.ref f_l_steps))) (xl_l_steps : K.lookup f_l_steps = some ⟨c_l_steps, o_l_steps, .func (PySem.W.fnOf "_law_steps" "_law_steps" (defArgs s_l_steps) (defBody s_l_steps) (defScope s_l_steps) .none k_l_steps e_l_steps m_l_steps n_l_steps r_l_steps t_l_steps), v_l_steps⟩) (xc_l_steps : PySem.W.codeIn K r_l_steps "_law_steps" = true) (xk_l_steps : PySem.W.keepIn K (.ref f_l_steps) = true)
    {f_l_few : Addr} {o_l_few n_l_few : Option Addr} {v_l_few : Array (Option Value)} {c_l_few k_l_few e_l_few m_l_few r_l_few t_l_few : Value}
    (xa_l_few : PySem.W.nsIn K mainGlobals "_law_few" = some (some (.ref f_l_few))) (xl_l_few : K.lookup f_l_few = some ⟨c_l_few, o_l_few, .func (PySem.W.fnOf "_law_few" "_law_few" (defArgs s_l_few) (defBody s_l_few) (defScope s_l_few) .none k_l_few e_l_few m_l_few n_l_few r_l_few t_l_few), v_l_few⟩) (xc_l_few : PySem.W.codeIn K r_l_few "_law_few" = true) (xk_l_few : PySem.W.keepIn K (.ref f_l_few) = true)
    {f_is_integer : Addr} {o_is_integer n_is_integer : Option Addr} {v_is_integer : Array (Option Value)} {c_is_integer k_is_integer e_is_integer m_is_integer r_is_integer t_is_integer : Value}
    (xa_is_integer : PySem.W.nsIn K mainGlobals "is_integer" = some (some (.ref f_is_integer))) (xl_is_integer : K.lookup f_is_integer = some ⟨c_is_integer, o_is_integer, .func (PySem.W.fnOf "is_integer" "is_integer" (defArgs s_is_integer) (defBody s_is_integer) (defScope s_is_integer) .none k_is_integer e_is_integer m_is_integer n_is_integer r_is_integer t_is_integer), v_is_integer⟩) (xc_is_integer : PySem.W.codeIn K r_is_integer "is_integer" = true) (xk_is_integer : PySem.W.keepIn K (.ref f_is_integer) = true)
    {f_integer_within : Addr} {o_integer_within n_integer_within : Option Addr} {v_integer_within : Array (Option Value)} {c_integer_within k_integer_within e_integer_within m_integer_within r_integer_within t_integer_within : Value}
    (xa_integer_within : PySem.W.nsIn K mainGlobals "integer_within" = some (some (.ref f_integer_within))) (xl_integer_within : K.lookup f_integer_within = some ⟨c_integer_within, o_integer_within, .func (PySem.W.fnOf "integer_within" "integer_within" (defArgs s_integer_within) (defBody s_integer_within) (defScope s_integer_within) .none k_integer_within e_integer_within m_integer_within n_integer_within r_integer_within t_integer_within), v_integer_within⟩) (xc_integer_within : PySem.W.codeIn K r_integer_within "integer_within" = true) (xk_integer_within : PySem.W.keepIn K (.ref f_integer_within) = true)
    {f_is_number : Addr} {o_is_number n_is_number : Option Addr} {v_is_number : Array (Option Value)} {c_is_number k_is_number e_is_number m_is_number r_is_number t_is_number : Value}
    (xa_is_number : PySem.W.nsIn K mainGlobals "is_number" = some (some (.ref f_is_number))) (xl_is_number : K.lookup f_is_number = some ⟨c_is_number, o_is_number, .func (PySem.W.fnOf "is_number" "is_number" (defArgs s_is_number) (defBody s_is_number) (defScope s_is_number) .none k_is_number e_is_number m_is_number n_is_number r_is_number t_is_number), v_is_number⟩) (xc_is_number : PySem.W.codeIn K r_is_number "is_number" = true) (xk_is_number : PySem.W.keepIn K (.ref f_is_number) = true)
    {f_tuple_of : Addr} {o_tuple_of n_tuple_of : Option Addr} {v_tuple_of : Array (Option Value)} {c_tuple_of k_tuple_of e_tuple_of m_tuple_of r_tuple_of t_tuple_of : Value}
    (xa_tuple_of : PySem.W.nsIn K mainGlobals "tuple_of" = some (some (.ref f_tuple_of))) (xl_tuple_of : K.lookup f_tuple_of = some ⟨c_tuple_of, o_tuple_of, .func (PySem.W.fnOf "tuple_of" "tuple_of" (defArgs s_tuple_of) (defBody s_tuple_of) (defScope s_tuple_of) .none k_tuple_of e_tuple_of m_tuple_of n_tuple_of r_tuple_of t_tuple_of), v_tuple_of⟩) (xc_tuple_of : PySem.W.codeIn K r_tuple_of "tuple_of" = true) (xk_tuple_of : PySem.W.keepIn K (.ref f_tuple_of) = true)
    {f_is_step : Addr} {o_is_step n_is_step : Option Addr} {v_is_step : Array (Option Value)} {c_is_step k_is_step e_is_step m_is_step r_is_step t_is_step : Value}
    (xa_is_step : PySem.W.nsIn K mainGlobals "is_step" = some (some (.ref f_is_step))) (xl_is_step : K.lookup f_is_step = some ⟨c_is_step, o_is_step, .func (PySem.W.fnOf "is_step" "is_step" (defArgs s_is_step) (defBody s_is_step) (defScope s_is_step) .none k_is_step e_is_step m_is_step n_is_step r_is_step t_is_step), v_is_step⟩) (xc_is_step : PySem.W.codeIn K r_is_step "is_step" = true) (xk_is_step : PySem.W.keepIn K (.ref f_is_step) = true)
    {f_l_is : Addr} {o_l_is n_l_is : Option Addr} {v_l_is : Array (Option Value)} {c_l_is k_l_is e_l_is m_l_is r_l_is t_l_is : Value}
    (xa_l_is : PySem.W.nsIn K mainGlobals "_law_is" = some (some (.ref f_l_is))) (xl_l_is : K.lookup f_l_is = some ⟨c_l_is, o_l_is, .func (PySem.W.fnOf "_law_is" "_law_is" (defArgs s_l_is) (defBody s_l_is) (defScope s_l_is) .none k_l_is e_l_is m_l_is n_l_is r_l_is t_l_is), v_l_is⟩) (xc_l_is : PySem.W.codeIn K r_l_is "_law_is" = true) (xk_l_is : PySem.W.keepIn K (.ref f_l_is) = true)
    {f_l_things : Addr} {o_l_things n_l_things : Option Addr} {v_l_things : Array (Option Value)} {c_l_things k_l_things e_l_things m_l_things r_l_things t_l_things : Value}
    (xa_l_things : PySem.W.nsIn K mainGlobals "_law_things" = some (some (.ref f_l_things))) (xl_l_things : K.lookup f_l_things = some ⟨c_l_things, o_l_things, .func (PySem.W.fnOf "_law_things" "_law_things" (defArgs s_l_things) (defBody s_l_things) (defScope s_l_things) .none k_l_things e_l_things m_l_things n_l_things r_l_things t_l_things), v_l_things⟩) (xc_l_things : PySem.W.codeIn K r_l_things "_law_things" = true) (xk_l_things : PySem.W.keepIn K (.ref f_l_things) = true)
    {f_l_by_hand : Addr} {o_l_by_hand n_l_by_hand : Option Addr} {v_l_by_hand : Array (Option Value)} {c_l_by_hand k_l_by_hand e_l_by_hand m_l_by_hand r_l_by_hand t_l_by_hand : Value}
    (xa_l_by_hand : PySem.W.nsIn K mainGlobals "_law_by_hand" = some (some (.ref f_l_by_hand))) (xl_l_by_hand : K.lookup f_l_by_hand = some ⟨c_l_by_hand, o_l_by_hand, .func (PySem.W.fnOf "_law_by_hand" "_law_by_hand" (defArgs s_l_by_hand) (defBody s_l_by_hand) (defScope s_l_by_hand) .none k_l_by_hand e_l_by_hand m_l_by_hand n_l_by_hand r_l_by_hand t_l_by_hand), v_l_by_hand⟩) (xc_l_by_hand : PySem.W.codeIn K r_l_by_hand "_law_by_hand" = true) (xk_l_by_hand : PySem.W.keepIn K (.ref f_l_by_hand) = true)
    {f_law : Addr} {o_law n_law : Option Addr} {v_law : Array (Option Value)} {c_law k_law e_law m_law r_law t_law : Value}
    (xa_law : PySem.W.nsIn K mainGlobals "law" = some (some (.ref f_law))) (xl_law : K.lookup f_law = some ⟨c_law, o_law, .func (PySem.W.fnOf "law" "law" (defArgs s_law) (defBody s_law) (defScope s_law) .none k_law e_law m_law n_law r_law t_law), v_law⟩) (xc_law : PySem.W.codeIn K r_law "law" = true) (xk_law : PySem.W.keepIn K (.ref f_law) = true)
    (xz_abs : PySem.W.nsIn K mainGlobals "abs" = some none)
    (xz_bool : PySem.W.nsIn K mainGlobals "bool" = some none)
    (xz_int : PySem.W.nsIn K mainGlobals "int" = some none)
    (xz_isinstance : PySem.W.nsIn K mainGlobals "isinstance" = some none)
    (xz_len : PySem.W.nsIn K mainGlobals "len" = some none)
    (xz_list : PySem.W.nsIn K mainGlobals "list" = some none)
    (xz_max : PySem.W.nsIn K mainGlobals "max" = some none)
    (xz_min : PySem.W.nsIn K mainGlobals "min" = some none)
    (xz_range : PySem.W.nsIn K mainGlobals "range" = some none)
    (xz_tuple : PySem.W.nsIn K mainGlobals "tuple" = some none) : Tx K mg where
  a_l_reel := f_l_reel
  d_l_reel := _
  p_l_reel := ⟨fun_mk (st := s_l_reel) xl_l_reel xc_l_reel xk_l_reel, (fun_mk (st := s_l_reel) xl_l_reel xc_l_reel xk_l_reel).binds (ps := ["script"]) fun _ _ _ _ _ _ us hl => match us, hl with | [_], _ => rfl, PySem.W.mg_of X G xa_l_reel⟩
  a_l_next := f_l_next
  d_l_next := _
  p_l_next := ⟨fun_mk (st := s_l_next) xl_l_next xc_l_next xk_l_next, (fun_mk (st := s_l_next) xl_l_next xc_l_next xk_l_next).binds (ps := ["reel", "many"]) fun _ _ _ _ _ _ us hl => match us, hl with | [_, _], _ => rfl, PySem.W.mg_of X G xa_l_next⟩
  a_l_some := f_l_some
  d_l_some := _
  p_l_some := ⟨fun_mk (st := s_l_some) xl_l_some xc_l_some xk_l_some, (fun_mk (st := s_l_some) xl_l_some xc_l_some xk_l_some).binds (ps := ["reel", "things", "count"]) fun _ _ _ _ _ _ us hl => match us, hl with | [_, _, _], _ => rfl, PySem.W.mg_of X G xa_l_some⟩
  a_l_setting := f_l_setting
  d_l_setting := _
  p_l_setting := ⟨fun_mk (st := s_l_setting) xl_l_setting xc_l_setting xk_l_setting, (fun_mk (st := s_l_setting) xl_l_setting xc_l_setting xk_l_setting).binds (ps := ["reel", "many", "count", "kinds"]) fun _ _ _ _ _ _ us hl => match us, hl with | [_, _, _, _], _ => rfl, PySem.W.mg_of X G xa_l_setting⟩
  a_l_row := f_l_row
  d_l_row := _
  p_l_row := ⟨fun_mk (st := s_l_row) xl_l_row xc_l_row xk_l_row, (fun_mk (st := s_l_row) xl_l_row xc_l_row xk_l_row).binds (ps := ["reel", "many", "length"]) fun _ _ _ _ _ _ us hl => match us, hl with | [_, _, _], _ => rfl, PySem.W.mg_of X G xa_l_row⟩
  a_held_step := f_held_step
  d_held_step := _
  p_held_step := ⟨fun_mk (st := s_held_step) xl_held_step xc_held_step xk_held_step, (fun_mk (st := s_held_step) xl_held_step xc_held_step xk_held_step).binds (ps := ["row", "sign", "place", "way"]) fun _ _ _ _ _ _ us hl => match us, hl with | [_, _, _, _], _ => rfl, PySem.W.mg_of X G xa_held_step⟩
  a_idle_step := f_idle_step
  d_idle_step := _
  p_idle_step := ⟨fun_mk (st := s_idle_step) xl_idle_step xc_idle_step xk_idle_step, (fun_mk (st := s_idle_step) xl_idle_step xc_idle_step xk_idle_step).binds (ps := ["row", "sign", "place", "way"]) fun _ _ _ _ _ _ us hl => match us, hl with | [_, _, _, _], _ => rfl, PySem.W.mg_of X G xa_idle_step⟩
  a_loose_step := f_loose_step
  d_loose_step := _
  p_loose_step := ⟨fun_mk (st := s_loose_step) xl_loose_step xc_loose_step xk_loose_step, (fun_mk (st := s_loose_step) xl_loose_step xc_loose_step xk_loose_step).binds (ps := ["row", "one", "other", "place", "way"]) fun _ _ _ _ _ _ us hl => match us, hl with | [_, _, _, _, _], _ => rfl, PySem.W.mg_of X G xa_loose_step⟩
  a_same_step := f_same_step
  d_same_step := _
  p_same_step := ⟨fun_mk (st := s_same_step) xl_same_step xc_same_step xk_same_step, (fun_mk (st := s_same_step) xl_same_step xc_same_step xk_same_step).binds (ps := ["row", "one", "other", "place", "way"]) fun _ _ _ _ _ _ us hl => match us, hl with | [_, _, _, _, _], _ => rfl, PySem.W.mg_of X G xa_same_step⟩
  a_stepped := f_stepped
  d_stepped := _
  p_stepped := ⟨fun_mk (st := s_stepped) xl_stepped xc_stepped xk_stepped, (fun_mk (st := s_stepped) xl_stepped xc_stepped xk_stepped).binds (ps := ["setting", "row", "step"]) fun _ _ _ _ _ _ us hl => match us, hl with | [_, _, _], _ => rfl, PySem.W.mg_of X G xa_stepped⟩
  a_steps_from := f_steps_from
  d_steps_from := _
  p_steps_from := ⟨fun_mk (st := s_steps_from) xl_steps_from xc_steps_from xk_steps_from, (fun_mk (st := s_steps_from) xl_steps_from xc_steps_from xk_steps_from).binds (ps := ["setting", "row"]) fun _ _ _ _ _ _ us hl => match us, hl with | [_, _], _ => rfl, PySem.W.mg_of X G xa_steps_from⟩
  a_l_done := f_l_done
  d_l_done := _
  p_l_done := ⟨fun_mk (st := s_l_done) xl_l_done xc_l_done xk_l_done, (fun_mk (st := s_l_done) xl_l_done xc_l_done xk_l_done).binds (ps := ["setting", "row", "step"]) fun _ _ _ _ _ _ us hl => match us, hl with | [_, _, _], _ => rfl, PySem.W.mg_of X G xa_l_done⟩
  a_l_row_is := f_l_row_is
  d_l_row_is := _
  p_l_row_is := ⟨fun_mk (st := s_l_row_is) xl_l_row_is xc_l_row_is xk_l_row_is, (fun_mk (st := s_l_row_is) xl_l_row_is xc_l_row_is xk_l_row_is).binds (ps := ["told", "due"]) fun _ _ _ _ _ _ us hl => match us, hl with | [_, _], _ => rfl, PySem.W.mg_of X G xa_l_row_is⟩
  a_l_steps := f_l_steps
  d_l_steps := _
  p_l_steps := ⟨fun_mk (st := s_l_steps) xl_l_steps xc_l_steps xk_l_steps, (fun_mk (st := s_l_steps) xl_l_steps xc_l_steps xk_l_steps).binds (ps := ["setting", "row", "named", "far"]) fun _ _ _ _ _ _ us hl => match us, hl with | [_, _, _, _], _ => rfl, PySem.W.mg_of X G xa_l_steps⟩
  a_l_few := f_l_few
  d_l_few := _
  p_l_few := ⟨fun_mk (st := s_l_few) xl_l_few xc_l_few xk_l_few, (fun_mk (st := s_l_few) xl_l_few xc_l_few xk_l_few).binds (ps := ["reel", "setting", "row", "named"]) fun _ _ _ _ _ _ us hl => match us, hl with | [_, _, _, _], _ => rfl, PySem.W.mg_of X G xa_l_few⟩
  a_is_integer := f_is_integer
  d_is_integer := _
  p_is_integer := ⟨fun_mk (st := s_is_integer) xl_is_integer xc_is_integer xk_is_integer, (fun_mk (st := s_is_integer) xl_is_integer xc_is_integer xk_is_integer).binds (ps := ["thing"]) fun _ _ _ _ _ _ us hl => match us, hl with | [_], _ => rfl, PySem.W.mg_of X G xa_is_integer⟩
  a_integer_within := f_integer_within
  d_integer_within := _
  p_integer_within := ⟨fun_mk (st := s_integer_within) xl_integer_within xc_integer_within xk_integer_within, (fun_mk (st := s_integer_within) xl_integer_within xc_integer_within xk_integer_within).binds (ps := ["thing", "low", "high"]) fun _ _ _ _ _ _ us hl => match us, hl with | [_, _, _], _ => rfl, PySem.W.mg_of X G xa_integer_within⟩
  a_is_number := f_is_number
  d_is_number := _
  p_is_number := ⟨fun_mk (st := s_is_number) xl_is_number xc_is_number xk_is_number, (fun_mk (st := s_is_number) xl_is_number xc_is_number xk_is_number).binds (ps := ["thing", "many"]) fun _ _ _ _ _ _ us hl => match us, hl with | [_, _], _ => rfl, PySem.W.mg_of X G xa_is_number⟩
  a_tuple_of := f_tuple_of
  d_tuple_of := _
  p_tuple_of := ⟨fun_mk (st := s_tuple_of) xl_tuple_of xc_tuple_of xk_tuple_of, (fun_mk (st := s_tuple_of) xl_tuple_of xc_tuple_of xk_tuple_of).binds (ps := ["thing", "many"]) fun _ _ _ _ _ _ us hl => match us, hl with | [_, _], _ => rfl, PySem.W.mg_of X G xa_tuple_of⟩
  a_is_step := f_is_step
  d_is_step := _
  p_is_step := ⟨fun_mk (st := s_is_step) xl_is_step xc_is_step xk_is_step, (fun_mk (st := s_is_step) xl_is_step xc_is_step xk_is_step).binds (ps := ["setting", "thing"]) fun _ _ _ _ _ _ us hl => match us, hl with | [_, _], _ => rfl, PySem.W.mg_of X G xa_is_step⟩
  a_l_is := f_l_is
  d_l_is := _
  p_l_is := ⟨fun_mk (st := s_l_is) xl_l_is xc_l_is xk_l_is, (fun_mk (st := s_l_is) xl_l_is xc_l_is xk_l_is).binds (ps := ["setting", "thing", "named", "due"]) fun _ _ _ _ _ _ us hl => match us, hl with | [_, _, _, _], _ => rfl, PySem.W.mg_of X G xa_l_is⟩
  a_l_things := f_l_things
  d_l_things := _
  p_l_things := ⟨fun_mk (st := s_l_things) xl_l_things xc_l_things xk_l_things, (fun_mk (st := s_l_things) xl_l_things xc_l_things xk_l_things).binds (ps := ["reel", "setting", "named"]) fun _ _ _ _ _ _ us hl => match us, hl with | [_, _, _], _ => rfl, PySem.W.mg_of X G xa_l_things⟩
  a_l_by_hand := f_l_by_hand
  d_l_by_hand := _
  p_l_by_hand := ⟨fun_mk (st := s_l_by_hand) xl_l_by_hand xc_l_by_hand xk_l_by_hand, (fun_mk (st := s_l_by_hand) xl_l_by_hand xc_l_by_hand xk_l_by_hand).binds (ps := ["reel", "named"]) fun _ _ _ _ _ _ us hl => match us, hl with | [_, _], _ => rfl, PySem.W.mg_of X G xa_l_by_hand⟩
  a_law := f_law
  d_law := _
  p_law := ⟨fun_mk (st := s_law) xl_law xc_law xk_law, (fun_mk (st := s_law) xl_law xc_law xk_law).binds (ps := ["script"]) fun _ _ _ _ _ _ us hl => match us, hl with | [_], _ => rfl, PySem.W.mg_of X G xa_law⟩
  z_abs := PySem.W.mg_none_of X G xz_abs
  z_bool := PySem.W.mg_none_of X G xz_bool
  z_int := PySem.W.mg_none_of X G xz_int
  z_isinstance := PySem.W.mg_none_of X G xz_isinstance
  z_len := PySem.W.mg_none_of X G xz_len
  z_list := PySem.W.mg_none_of X G xz_list
  z_max := PySem.W.mg_none_of X G xz_max
  z_min := PySem.W.mg_none_of X G xz_min
  z_range := PySem.W.mg_none_of X G xz_range
  z_tuple := PySem.W.mg_none_of X G xz_tuple
theorem all_mk {l : PySem.W.OpenLaw} {w : World} {K : PySem.W.Frag} {h : Heap} {mg : Str → Option Value} {fa : Addr} (X : K.In h) (G : h.Ns mainGlobals mg) (hfa : mg "law" = some (.ref fa))
    {f_l_reel : Addr} {o_l_reel n_l_reel : Option Addr} {v_l_reel : Array (Option Value)} {c_l_reel k_l_reel e_l_reel m_l_reel r_l_reel t_l_reel : Value}
    (xa_l_reel : PySem.W.nsIn K mainGlobals "_law_reel" = some (some (.ref f_l_reel))) (xl_l_reel : K.lookup f_l_reel = some ⟨c_l_reel, o_l_reel, .func (PySem.W.fnOf "_law_reel" "_law_reel" (defArgs s_l_reel) (defBody s_l_reel) (defScope s_l_reel) .none k_l_reel e_l_reel m_l_reel n_l_reel r_l_reel t_l_reel), v_l_reel⟩) (xc_l_reel : PySem.W.codeIn K r_l_reel "_law_reel" = true) (xk_l_reel : PySem.W.keepIn K (.ref f_l_reel) = true)
    {f_l_next : Addr} {o_l_next n_l_next : Option Addr} {v_l_next : Array (Option Value)} {c_l_next k_l_next e_l_next m_l_next r_l_next t_l_next : Value}
    (xa_l_next : PySem.W.nsIn K mainGlobals "_law_next" = some (some (.ref f_l_next))) (xl_l_next : K.lookup f_l_next = some ⟨c_l_next, o_l_next, .func (PySem.W.fnOf "_law_next" "_law_next" (defArgs s_l_next) (defBody s_l_next) (defScope s_l_next) .none k_l_next e_l_next m_l_next n_l_next r_l_next t_l_next), v_l_next⟩) (xc_l_next : PySem.W.codeIn K r_l_next "_law_next" = true) (xk_l_next : PySem.W.keepIn K (.ref f_l_next) = true)
    {f_l_some : Addr} {o_l_some n_l_some : Option Addr} {v_l_some : Array (Option Value)} {c_l_some k_l_some e_l_some m_l_some r_l_some t_l_some : Value}
    (xa_l_some : PySem.W.nsIn K mainGlobals "_law_some" = some (some (.ref f_l_some))) (xl_l_some : K.lookup f_l_some = some ⟨c_l_some, o_l_some, .func (PySem.W.fnOf "_law_some" "_law_some" (defArgs s_l_some) (defBody s_l_some) (defScope s_l_some) .none k_l_some e_l_some m_l_some n_l_some r_l_some t_l_some), v_l_some⟩) (xc_l_some : PySem.W.codeIn K r_l_some "_law_some" = true) (xk_l_some : PySem.W.keepIn K (.ref f_l_some) = true)
    {f_l_setting : Addr} {o_l_setting n_l_setting : Option Addr} {v_l_setting : Array (Option Value)} {c_l_setting k_l_setting e_l_setting m_l_setting r_l_setting t_l_setting : Value}
    (xa_l_setting : PySem.W.nsIn K mainGlobals "_law_setting" = some (some (.ref f_l_setting))) (xl_l_setting : K.lookup f_l_setting = some ⟨c_l_setting, o_l_setting, .func (PySem.W.fnOf "_law_setting" "_law_setting" (defArgs s_l_setting) (defBody s_l_setting) (defScope s_l_setting) .none k_l_setting e_l_setting m_l_setting n_l_setting r_l_setting t_l_setting), v_l_setting⟩) (xc_l_setting : PySem.W.codeIn K r_l_setting "_law_setting" = true) (xk_l_setting : PySem.W.keepIn K (.ref f_l_setting) = true)
    {f_l_row : Addr} {o_l_row n_l_row : Option Addr} {v_l_row : Array (Option Value)} {c_l_row k_l_row e_l_row m_l_row r_l_row t_l_row : Value}
    (xa_l_row : PySem.W.nsIn K mainGlobals "_law_row" = some (some (.ref f_l_row))) (xl_l_row : K.lookup f_l_row = some ⟨c_l_row, o_l_row, .func (PySem.W.fnOf "_law_row" "_law_row" (defArgs s_l_row) (defBody s_l_row) (defScope s_l_row) .none k_l_row e_l_row m_l_row n_l_row r_l_row t_l_row), v_l_row⟩) (xc_l_row : PySem.W.codeIn K r_l_row "_law_row" = true) (xk_l_row : PySem.W.keepIn K (.ref f_l_row) = true)
    {f_held_step : Addr} {o_held_step n_held_step : Option Addr} {v_held_step : Array (Option Value)} {c_held_step k_held_step e_held_step m_held_step r_held_step t_held_step : Value}
    (xa_held_step : PySem.W.nsIn K mainGlobals "held_step" = some (some (.ref f_held_step))) (xl_held_step : K.lookup f_held_step = some ⟨c_held_step, o_held_step, .func (PySem.W.fnOf "held_step" "held_step" (defArgs s_held_step) (defBody s_held_step) (defScope s_held_step) .none k_held_step e_held_step m_held_step n_held_step r_held_step t_held_step), v_held_step⟩) (xc_held_step : PySem.W.codeIn K r_held_step "held_step" = true) (xk_held_step : PySem.W.keepIn K (.ref f_held_step) = true)
    {f_idle_step : Addr} {o_idle_step n_idle_step : Option Addr} {v_idle_step : Array (Option Value)} {c_idle_step k_idle_step e_idle_step m_idle_step r_idle_step t_idle_step : Value}
    (xa_idle_step : PySem.W.nsIn K mainGlobals "idle_step" = some (some (.ref f_idle_step))) (xl_idle_step : K.lookup f_idle_step = some ⟨c_idle_step, o_idle_step, .func (PySem.W.fnOf "idle_step" "idle_step" (defArgs s_idle_step) (defBody s_idle_step) (defScope s_idle_step) .none k_idle_step e_idle_step m_idle_step n_idle_step r_idle_step t_idle_step), v_idle_step⟩) (xc_idle_step : PySem.W.codeIn K r_idle_step "idle_step" = true) (xk_idle_step : PySem.W.keepIn K (.ref f_idle_step) = true)
    {f_loose_step : Addr} {o_loose_step n_loose_step : Option Addr} {v_loose_step : Array (Option Value)} {c_loose_step k_loose_step e_loose_step m_loose_step r_loose_step t_loose_step : Value}
    (xa_loose_step : PySem.W.nsIn K mainGlobals "loose_step" = some (some (.ref f_loose_step))) (xl_loose_step : K.lookup f_loose_step = some ⟨c_loose_step, o_loose_step, .func (PySem.W.fnOf "loose_step" "loose_step" (defArgs s_loose_step) (defBody s_loose_step) (defScope s_loose_step) .none k_loose_step e_loose_step m_loose_step n_loose_step r_loose_step t_loose_step), v_loose_step⟩) (xc_loose_step : PySem.W.codeIn K r_loose_step "loose_step" = true) (xk_loose_step : PySem.W.keepIn K (.ref f_loose_step) = true)
    {f_same_step : Addr} {o_same_step n_same_step : Option Addr} {v_same_step : Array (Option Value)} {c_same_step k_same_step e_same_step m_same_step r_same_step t_same_step : Value}
    (xa_same_step : PySem.W.nsIn K mainGlobals "same_step" = some (some (.ref f_same_step))) (xl_same_step : K.lookup f_same_step = some ⟨c_same_step, o_same_step, .func (PySem.W.fnOf "same_step" "same_step" (defArgs s_same_step) (defBody s_same_step) (defScope s_same_step) .none k_same_step e_same_step m_same_step n_same_step r_same_step t_same_step), v_same_step⟩) (xc_same_step : PySem.W.codeIn K r_same_step "same_step" = true) (xk_same_step : PySem.W.keepIn K (.ref f_same_step) = true)
    {f_stepped : Addr} {o_stepped n_stepped : Option Addr} {v_stepped : Array (Option Value)} {c_stepped k_stepped e_stepped m_stepped r_stepped t_stepped : Value}
    (xa_stepped : PySem.W.nsIn K mainGlobals "stepped" = some (some (.ref f_stepped))) (xl_stepped : K.lookup f_stepped = some ⟨c_stepped, o_stepped, .func (PySem.W.fnOf "stepped" "stepped" (defArgs s_stepped) (defBody s_stepped) (defScope s_stepped) .none k_stepped e_stepped m_stepped n_stepped r_stepped t_stepped), v_stepped⟩) (xc_stepped : PySem.W.codeIn K r_stepped "stepped" = true) (xk_stepped : PySem.W.keepIn K (.ref f_stepped) = true)
    {f_steps_from : Addr} {o_steps_from n_steps_from : Option Addr} {v_steps_from : Array (Option Value)} {c_steps_from k_steps_from e_steps_from m_steps_from r_steps_from t_steps_from : Value}
    (xa_steps_from : PySem.W.nsIn K mainGlobals "steps_from" = some (some (.ref f_steps_from))) (xl_steps_from : K.lookup f_steps_from = some ⟨c_steps_from, o_steps_from, .func (PySem.W.fnOf "steps_from" "steps_from" (defArgs s_steps_from) (defBody s_steps_from) (defScope s_steps_from) .none k_steps_from e_steps_from m_steps_from n_steps_from r_steps_from t_steps_from), v_steps_from⟩) (xc_steps_from : PySem.W.codeIn K r_steps_from "steps_from" = true) (xk_steps_from : PySem.W.keepIn K (.ref f_steps_from) = true)
    {f_l_done : Addr} {o_l_done n_l_done : Option Addr} {v_l_done : Array (Option Value)} {c_l_done k_l_done e_l_done m_l_done r_l_done t_l_done : Value}
    (xa_l_done : PySem.W.nsIn K mainGlobals "_law_done" = some (some (.ref f_l_done))) (xl_l_done : K.lookup f_l_done = some ⟨c_l_done, o_l_done, .func (PySem.W.fnOf "_law_done" "_law_done" (defArgs s_l_done) (defBody s_l_done) (defScope s_l_done) .none k_l_done e_l_done m_l_done n_l_done r_l_done t_l_done), v_l_done⟩) (xc_l_done : PySem.W.codeIn K r_l_done "_law_done" = true) (xk_l_done : PySem.W.keepIn K (.ref f_l_done) = true)
    {f_l_row_is : Addr} {o_l_row_is n_l_row_is : Option Addr} {v_l_row_is : Array (Option Value)} {c_l_row_is k_l_row_is e_l_row_is m_l_row_is r_l_row_is t_l_row_is : Value}
    (xa_l_row_is : PySem.W.nsIn K mainGlobals "_law_row_is" = some (some (.ref f_l_row_is))) (xl_l_row_is : K.lookup f_l_row_is = some ⟨c_l_row_is, o_l_row_is, .func (PySem.W.fnOf "_law_row_is" "_law_row_is" (defArgs s_l_row_is) (defBody s_l_row_is) (defScope s_l_row_is) .none k_l_row_is e_l_row_is m_l_row_is n_l_row_is r_l_row_is t_l_row_is), v_l_row_is⟩) (xc_l_row_is : PySem.W.codeIn K r_l_row_is "_law_row_is" = true) (xk_l_row_is : PySem.W.keepIn K (.ref f_l_row_is) = true)
    {f_l_steps : Addr} {o_l_steps n_l_steps : Option Addr} {v_l_steps : Array (Option Value)} {c_l_steps k_l_steps e_l_steps m_l_steps r_l_steps t_l_steps : Value}
    (xa_l_steps : PySem.W.nsIn K mainGlobals "_law_steps" = some (some (.ref f_l_steps))) (xl_l_steps : K.lookup f_l_steps = some ⟨c_l_steps, o_l_steps, .func (PySem.W.fnOf "_law_steps" "_law_steps" (defArgs s_l_steps) (defBody s_l_steps) (defScope s_l_steps) .none k_l_steps e_l_steps m_l_steps n_l_steps r_l_steps t_l_steps), v_l_steps⟩) (xc_l_steps : PySem.W.codeIn K r_l_steps "_law_steps" = true) (xk_l_steps : PySem.W.keepIn K (.ref f_l_steps) = true)
    {f_l_few : Addr} {o_l_few n_l_few : Option Addr} {v_l_few : Array (Option Value)} {c_l_few k_l_few e_l_few m_l_few r_l_few t_l_few : Value}
    (xa_l_few : PySem.W.nsIn K mainGlobals "_law_few" = some (some (.ref f_l_few))) (xl_l_few : K.lookup f_l_few = some ⟨c_l_few, o_l_few, .func (PySem.W.fnOf "_law_few" "_law_few" (defArgs s_l_few) (defBody s_l_few) (defScope s_l_few) .none k_l_few e_l_few m_l_few n_l_few r_l_few t_l_few), v_l_few⟩) (xc_l_few : PySem.W.codeIn K r_l_few "_law_few" = true) (xk_l_few : PySem.W.keepIn K (.ref f_l_few) = true)
    {f_is_integer : Addr} {o_is_integer n_is_integer : Option Addr} {v_is_integer : Array (Option Value)} {c_is_integer k_is_integer e_is_integer m_is_integer r_is_integer t_is_integer : Value}
    (xa_is_integer : PySem.W.nsIn K mainGlobals "is_integer" = some (some (.ref f_is_integer))) (xl_is_integer : K.lookup f_is_integer = some ⟨c_is_integer, o_is_integer, .func (PySem.W.fnOf "is_integer" "is_integer" (defArgs s_is_integer) (defBody s_is_integer) (defScope s_is_integer) .none k_is_integer e_is_integer m_is_integer n_is_integer r_is_integer t_is_integer), v_is_integer⟩) (xc_is_integer : PySem.W.codeIn K r_is_integer "is_integer" = true) (xk_is_integer : PySem.W.keepIn K (.ref f_is_integer) = true)
    {f_integer_within : Addr} {o_integer_within n_integer_within : Option Addr} {v_integer_within : Array (Option Value)} {c_integer_within k_integer_within e_integer_within m_integer_within r_integer_within t_integer_within : Value}
    (xa_integer_within : PySem.W.nsIn K mainGlobals "integer_within" = some (some (.ref f_integer_within))) (xl_integer_within : K.lookup f_integer_within = some ⟨c_integer_within, o_integer_within, .func (PySem.W.fnOf "integer_within" "integer_within" (defArgs s_integer_within) (defBody s_integer_within) (defScope s_integer_within) .none k_integer_within e_integer_within m_integer_within n_integer_within r_integer_within t_integer_within), v_integer_within⟩) (xc_integer_within : PySem.W.codeIn K r_integer_within "integer_within" = true) (xk_integer_within : PySem.W.keepIn K (.ref f_integer_within) = true)
    {f_is_number : Addr} {o_is_number n_is_number : Option Addr} {v_is_number : Array (Option Value)} {c_is_number k_is_number e_is_number m_is_number r_is_number t_is_number : Value}
    (xa_is_number : PySem.W.nsIn K mainGlobals "is_number" = some (some (.ref f_is_number))) (xl_is_number : K.lookup f_is_number = some ⟨c_is_number, o_is_number, .func (PySem.W.fnOf "is_number" "is_number" (defArgs s_is_number) (defBody s_is_number) (defScope s_is_number) .none k_is_number e_is_number m_is_number n_is_number r_is_number t_is_number), v_is_number⟩) (xc_is_number : PySem.W.codeIn K r_is_number "is_number" = true) (xk_is_number : PySem.W.keepIn K (.ref f_is_number) = true)
    {f_tuple_of : Addr} {o_tuple_of n_tuple_of : Option Addr} {v_tuple_of : Array (Option Value)} {c_tuple_of k_tuple_of e_tuple_of m_tuple_of r_tuple_of t_tuple_of : Value}
    (xa_tuple_of : PySem.W.nsIn K mainGlobals "tuple_of" = some (some (.ref f_tuple_of))) (xl_tuple_of : K.lookup f_tuple_of = some ⟨c_tuple_of, o_tuple_of, .func (PySem.W.fnOf "tuple_of" "tuple_of" (defArgs s_tuple_of) (defBody s_tuple_of) (defScope s_tuple_of) .none k_tuple_of e_tuple_of m_tuple_of n_tuple_of r_tuple_of t_tuple_of), v_tuple_of⟩) (xc_tuple_of : PySem.W.codeIn K r_tuple_of "tuple_of" = true) (xk_tuple_of : PySem.W.keepIn K (.ref f_tuple_of) = true)
    {f_is_step : Addr} {o_is_step n_is_step : Option Addr} {v_is_step : Array (Option Value)} {c_is_step k_is_step e_is_step m_is_step r_is_step t_is_step : Value}
    (xa_is_step : PySem.W.nsIn K mainGlobals "is_step" = some (some (.ref f_is_step))) (xl_is_step : K.lookup f_is_step = some ⟨c_is_step, o_is_step, .func (PySem.W.fnOf "is_step" "is_step" (defArgs s_is_step) (defBody s_is_step) (defScope s_is_step) .none k_is_step e_is_step m_is_step n_is_step r_is_step t_is_step), v_is_step⟩) (xc_is_step : PySem.W.codeIn K r_is_step "is_step" = true) (xk_is_step : PySem.W.keepIn K (.ref f_is_step) = true)
    {f_l_is : Addr} {o_l_is n_l_is : Option Addr} {v_l_is : Array (Option Value)} {c_l_is k_l_is e_l_is m_l_is r_l_is t_l_is : Value}
    (xa_l_is : PySem.W.nsIn K mainGlobals "_law_is" = some (some (.ref f_l_is))) (xl_l_is : K.lookup f_l_is = some ⟨c_l_is, o_l_is, .func (PySem.W.fnOf "_law_is" "_law_is" (defArgs s_l_is) (defBody s_l_is) (defScope s_l_is) .none k_l_is e_l_is m_l_is n_l_is r_l_is t_l_is), v_l_is⟩) (xc_l_is : PySem.W.codeIn K r_l_is "_law_is" = true) (xk_l_is : PySem.W.keepIn K (.ref f_l_is) = true)
    {f_l_things : Addr} {o_l_things n_l_things : Option Addr} {v_l_things : Array (Option Value)} {c_l_things k_l_things e_l_things m_l_things r_l_things t_l_things : Value}
    (xa_l_things : PySem.W.nsIn K mainGlobals "_law_things" = some (some (.ref f_l_things))) (xl_l_things : K.lookup f_l_things = some ⟨c_l_things, o_l_things, .func (PySem.W.fnOf "_law_things" "_law_things" (defArgs s_l_things) (defBody s_l_things) (defScope s_l_things) .none k_l_things e_l_things m_l_things n_l_things r_l_things t_l_things), v_l_things⟩) (xc_l_things : PySem.W.codeIn K r_l_things "_law_things" = true) (xk_l_things : PySem.W.keepIn K (.ref f_l_things) = true)
    {f_l_by_hand : Addr} {o_l_by_hand n_l_by_hand : Option Addr} {v_l_by_hand : Array (Option Value)} {c_l_by_hand k_l_by_hand e_l_by_hand m_l_by_hand r_l_by_hand t_l_by_hand : Value}
    (xa_l_by_hand : PySem.W.nsIn K mainGlobals "_law_by_hand" = some (some (.ref f_l_by_hand))) (xl_l_by_hand : K.lookup f_l_by_hand = some ⟨c_l_by_hand, o_l_by_hand, .func (PySem.W.fnOf "_law_by_hand" "_law_by_hand" (defArgs s_l_by_hand) (defBody s_l_by_hand) (defScope s_l_by_hand) .none k_l_by_hand e_l_by_hand m_l_by_hand n_l_by_hand r_l_by_hand t_l_by_hand), v_l_by_hand⟩) (xc_l_by_hand : PySem.W.codeIn K r_l_by_hand "_law_by_hand" = true) (xk_l_by_hand : PySem.W.keepIn K (.ref f_l_by_hand) = true)
    {f_law : Addr} {o_law n_law : Option Addr} {v_law : Array (Option Value)} {c_law k_law e_law m_law r_law t_law : Value}
    (xa_law : PySem.W.nsIn K mainGlobals "law" = some (some (.ref f_law))) (xl_law : K.lookup f_law = some ⟨c_law, o_law, .func (PySem.W.fnOf "law" "law" (defArgs s_law) (defBody s_law) (defScope s_law) .none k_law e_law m_law n_law r_law t_law), v_law⟩) (xc_law : PySem.W.codeIn K r_law "law" = true) (xk_law : PySem.W.keepIn K (.ref f_law) = true)
    (xz_abs : PySem.W.nsIn K mainGlobals "abs" = some none)
    (xz_bool : PySem.W.nsIn K mainGlobals "bool" = some none)
    (xz_int : PySem.W.nsIn K mainGlobals "int" = some none)
    (xz_isinstance : PySem.W.nsIn K mainGlobals "isinstance" = some none)
    (xz_len : PySem.W.nsIn K mainGlobals "len" = some none)
    (xz_list : PySem.W.nsIn K mainGlobals "list" = some none)
    (xz_max : PySem.W.nsIn K mainGlobals "max" = some none)
    (xz_min : PySem.W.nsIn K mainGlobals "min" = some none)
    (xz_range : PySem.W.nsIn K mainGlobals "range" = some none)
    (xz_tuple : PySem.W.nsIn K mainGlobals "tuple" = some none) :
    ∃ fd : FuncData, (∀ (s : Shared) (v : Value), BindsTo s fd ⟨[v], []⟩ [("script", v)]) ∧ ∀ base : Heap, K.In base → base.Ns mainGlobals mg → FnOk l.prog w K mg base (L2.CX l.prog w) 7 fa fd ["script"] (spF K 1 F_law) := by
  have e := hfa.symm.trans (PySem.W.mg_of X G xa_law)
  cases e
  exact ⟨_, fun s v => .of_eq rfl, fun base _ _ => ok_law (tx_mk X G xa_l_reel xl_l_reel xc_l_reel xk_l_reel xa_l_next xl_l_next xc_l_next xk_l_next xa_l_some xl_l_some xc_l_some xk_l_some xa_l_setting xl_l_setting xc_l_setting xk_l_setting xa_l_row xl_l_row xc_l_row xk_l_row xa_held_step xl_held_step xc_held_step xk_held_step xa_idle_step xl_idle_step xc_idle_step xk_idle_step xa_loose_step xl_loose_step xc_loose_step xk_loose_step xa_same_step xl_same_step xc_same_step xk_same_step xa_stepped xl_stepped xc_stepped xk_stepped xa_steps_from xl_steps_from xc_steps_from xk_steps_from xa_l_done xl_l_done xc_l_done xk_l_done xa_l_row_is xl_l_row_is xc_l_row_is xk_l_row_is xa_l_steps xl_l_steps xc_l_steps xk_l_steps xa_l_few xl_l_few xc_l_few xk_l_few xa_is_integer xl_is_integer xc_is_integer xk_is_integer xa_integer_within xl_integer_within xc_integer_within xk_integer_within xa_is_number xl_is_number xc_is_number xk_is_number xa_tuple_of xl_tuple_of xc_tuple_of xk_tuple_of xa_is_step xl_is_step xc_is_step xk_is_step xa_l_is xl_l_is xc_l_is xk_l_is xa_l_things xl_l_things xc_l_things xk_l_things xa_l_by_hand xl_l_by_hand xc_l_by_hand xk_l_by_hand xa_law xl_law xc_law xk_law xz_abs xz_bool xz_int xz_isinstance xz_len xz_list xz_max xz_min xz_range xz_tuple)⟩
theorem start_law {K : PySem.W.Frag} {H : Hp} {a : Addr} {ns : List Int} (hS : SqL K H a (ns.map V.int)) {E : XK} (hF : F_law [.val (.lst (ns.map D.int))] [] = .ok (.val (.bl true)) []) : spF K 1 F_law [.ref a] H (fun v _ => v = .bl true) E :=
  spF_start hS hF
theorem walk {l : PySem.W.OpenLaw} {q : Program} {loose : List Str} {XP : (Str → Option Value) → Heap → Prop} {YP : World → Heap → Prop} {d : DefRec} {K : Params → PySem.W.Frag} (hn : l.most = some 63) (hdf : d.params.defaults = [])
    (hL : ∀ ns : List Int, ns.length ≤ 63 → F_law [.val (.lst (ns.map D.int))] [] = .ok (.val (.bl true)) [])
    (hY : ∀ (w : World) (h : Heap), YP w h → (K w.params).In h)
    (F : ∀ (w : World) (mg : Str → Option Value) (fa : Addr) (h : Heap), (K w.params).In h → h.Ns mainGlobals mg → mg d.name = some (.ref fa) →
      ∃ fd : FuncData, (∀ (s : Shared) (u : Value), BindsTo s fd ⟨[u], []⟩ [("script", u)]) ∧ ∀ base : Heap, (K w.params).In base → base.Ns mainGlobals mg → FnOk l.prog w (K w.params) mg base (L2.CX l.prog w) 7 fa fd ["script"] (spF (K w.params) 1 F_law)) :
    PySem.W.WalkO q loose XP YP l.row.toRowW d [] (fun f vs => PySem.call f vs) :=
  L2.walk_of (n := 63) (k := 7) (x := "script") (CX := fun w => L2.CX l.prog w) (sp := fun w => spF (K w.params) 1 F_law) hn (by decide) hdf ⟨rfl, by decide, by decide⟩ hY F (fun _ _ a ns hl _ hS => start_law hS (hL ns hl)) (fun w H s e s' z => cx_no z)
end K09
open PySem PySem.W PyProof.Rows in
set_option maxRecDepth 100000 in
set_option maxHeartbeats 0 in
theorem PySem.Challenge.cw_howeverheard_k09_single_steps_holds : PySem.Challenge.rw_howeverheard_k09_single_steps.Holds := by
  w_on; o_law; k_head; (case hw => w_witness2)
  k_fill
  refine K09.walk (l := PySem.Challenge.rw_howeverheard_k09_single_steps) rfl rfl K09.law_true (fun w h Y => PySem.W.kIn_of Y) ?F
  case F =>
    intro w mg fa h KX G hmg
    refine' K09.all_mk KX G hmg ?xa_l_reel ?xl_l_reel ?xc_l_reel ?xk_l_reel ?xa_l_next ?xl_l_next ?xc_l_next ?xk_l_next ?xa_l_some ?xl_l_some ?xc_l_some ?xk_l_some ?xa_l_setting ?xl_l_setting ?xc_l_setting ?xk_l_setting ?xa_l_row ?xl_l_row ?xc_l_row ?xk_l_row ?xa_held_step ?xl_held_step ?xc_held_step ?xk_held_step ?xa_idle_step ?xl_idle_step ?xc_idle_step ?xk_idle_step ?xa_loose_step ?xl_loose_step ?xc_loose_step ?xk_loose_step ?xa_same_step ?xl_same_step ?xc_same_step ?xk_same_step ?xa_stepped ?xl_stepped ?xc_stepped ?xk_stepped ?xa_steps_from ?xl_steps_from ?xc_steps_from ?xk_steps_from ?xa_l_done ?xl_l_done ?xc_l_done ?xk_l_done ?xa_l_row_is ?xl_l_row_is ?xc_l_row_is ?xk_l_row_is ?xa_l_steps ?xl_l_steps ?xc_l_steps ?xk_l_steps ?xa_l_few ?xl_l_few ?xc_l_few ?xk_l_few ?xa_is_integer ?xl_is_integer ?xc_is_integer ?xk_is_integer ?xa_integer_within ?xl_integer_within ?xc_integer_within ?xk_integer_within ?xa_is_number ?xl_is_number ?xc_is_number ?xk_is_number ?xa_tuple_of ?xl_tuple_of ?xc_tuple_of ?xk_tuple_of ?xa_is_step ?xl_is_step ?xc_is_step ?xk_is_step ?xa_l_is ?xl_l_is ?xc_l_is ?xk_l_is ?xa_l_things ?xl_l_things ?xc_l_things ?xk_l_things ?xa_l_by_hand ?xl_l_by_hand ?xc_l_by_hand ?xk_l_by_hand ?xa_law ?xl_law ?xc_law ?xk_law ?xz_abs ?xz_bool ?xz_int ?xz_isinstance ?xz_len ?xz_list ?xz_max ?xz_min ?xz_range ?xz_tuple
    (case xa_l_reel => k_is)
    (case xl_l_reel => k_is)
    (case xc_l_reel => k_is)
    (case xk_l_reel => k_is)
    (case xa_l_next => k_is)
    (case xl_l_next => k_is)
    (case xc_l_next => k_is)
    (case xk_l_next => k_is)
    (case xa_l_some => k_is)
    (case xl_l_some => k_is)
    (case xc_l_some => k_is)
    (case xk_l_some => k_is)
    (case xa_l_setting => k_is)
    (case xl_l_setting => k_is)
    (case xc_l_setting => k_is)
    (case xk_l_setting => k_is)
    (case xa_l_row => k_is)
    (case xl_l_row => k_is)
    (case xc_l_row => k_is)
    (case xk_l_row => k_is)
    (case xa_held_step => k_is)
    (case xl_held_step => k_is)
    (case xc_held_step => k_is)
    (case xk_held_step => k_is)
    (case xa_idle_step => k_is)
    (case xl_idle_step => k_is)
    (case xc_idle_step => k_is)
    (case xk_idle_step => k_is)
    (case xa_loose_step => k_is)
    (case xl_loose_step => k_is)
    (case xc_loose_step => k_is)
    (case xk_loose_step => k_is)
    (case xa_same_step => k_is)
    (case xl_same_step => k_is)
    (case xc_same_step => k_is)
    (case xk_same_step => k_is)
    (case xa_stepped => k_is)
    (case xl_stepped => k_is)
    (case xc_stepped => k_is)
    (case xk_stepped => k_is)
    (case xa_steps_from => k_is)
    (case xl_steps_from => k_is)
    (case xc_steps_from => k_is)
    (case xk_steps_from => k_is)
    (case xa_l_done => k_is)
    (case xl_l_done => k_is)
    (case xc_l_done => k_is)
    (case xk_l_done => k_is)
    (case xa_l_row_is => k_is)
    (case xl_l_row_is => k_is)
    (case xc_l_row_is => k_is)
    (case xk_l_row_is => k_is)
    (case xa_l_steps => k_is)
    (case xl_l_steps => k_is)
    (case xc_l_steps => k_is)
    (case xk_l_steps => k_is)
    (case xa_l_few => k_is)
    (case xl_l_few => k_is)
    (case xc_l_few => k_is)
    (case xk_l_few => k_is)
    (case xa_is_integer => k_is)
    (case xl_is_integer => k_is)
    (case xc_is_integer => k_is)
    (case xk_is_integer => k_is)
    (case xa_integer_within => k_is)
    (case xl_integer_within => k_is)
    (case xc_integer_within => k_is)
    (case xk_integer_within => k_is)
    (case xa_is_number => k_is)
    (case xl_is_number => k_is)
    (case xc_is_number => k_is)
    (case xk_is_number => k_is)
    (case xa_tuple_of => k_is)
    (case xl_tuple_of => k_is)
    (case xc_tuple_of => k_is)
    (case xk_tuple_of => k_is)
    (case xa_is_step => k_is)
    (case xl_is_step => k_is)
    (case xc_is_step => k_is)
    (case xk_is_step => k_is)
    (case xa_l_is => k_is)
    (case xl_l_is => k_is)
    (case xc_l_is => k_is)
    (case xk_l_is => k_is)
    (case xa_l_things => k_is)
    (case xl_l_things => k_is)
    (case xc_l_things => k_is)
    (case xk_l_things => k_is)
    (case xa_l_by_hand => k_is)
    (case xl_l_by_hand => k_is)
    (case xc_l_by_hand => k_is)
    (case xk_l_by_hand => k_is)
    (case xa_law => k_is)
    (case xl_law => k_is)
    (case xc_law => k_is)
    (case xk_law => k_is)
    (case xz_abs => k_is)
    (case xz_bool => k_is)
    (case xz_int => k_is)
    (case xz_isinstance => k_is)
    (case xz_len => k_is)
    (case xz_list => k_is)
    (case xz_max => k_is)
    (case xz_min => k_is)
    (case xz_range => k_is)
    (case xz_tuple => k_is)
