import PyProof.Rows.All
import Wide.All
import OpenK.AllK
import Wide.FinOn
import HandS.ForMost
import HandS.IsInst
import HandS.TupAny
import HandS.Style
import HandS.More
import HandS.Walk
import HandS.Evl
import KE.GoesEnum
import KE.GoesMore
import KE.DataMinMax
import PySem.Challenge.RW_brimful_k36_whole_sources_on_borrowed_bi
set_option Elab.async false
set_option linter.all false
set_option maxRecDepth 100000
set_option maxHeartbeats 4000000
/-! The plain mathematics of the law: sources, the three-cell compiler, gates. No program in sight. -/
namespace BF
/-! ### nodes, evaluated from the bottom -/
inductive Nd where
  | cst (c : Nat) | inp (k : Nat) | sm (i j : Nat) | pr (i j : Nat) | sc (c i : Nat) | ch (i j l : Nat)
def Nd.ok (n : Nat) : Nd → Prop
  | .cst c => c < 1000000000
  | .inp k => k < 60
  | .sm i j => i < n ∧ j < n
  | .pr i j => i < n ∧ j < n
  | .sc c i => c < 1000000000 ∧ i < n
  | .ch i j l => i < n ∧ j < n ∧ l < n
def Wf (s : List Nd) : Prop := ∀ (i : Nat) (nd : Nd), s[i]? = some nd → nd.ok i
theorem Wf.nil : Wf [] := fun i nd h => by simp at h
theorem Wf.snoc {s : List Nd} {nd : Nd} (h : Wf s) (hn : nd.ok s.length) : Wf (s ++ [nd]) := fun i x e => by
  rw [List.getElem?_append] at e
  split at e
  · exact h i x e
  · rename_i hi
    have e1 : i - s.length = 0 := by
      by_cases z : i - s.length = 0
      · exact z
      · rw [List.getElem?_singleton, if_neg z] at e
        cases e
    rw [e1] at e
    have e2 : nd = x := Option.some.inj e
    have e3 : i = s.length := by omega
    subst e2
    rw [e3]
    exact hn

section
variable {α : Type}
def up (f : List α → Nd → α) (s : List Nd) : List α := s.foldl (fun vs nd => vs ++ [f vs nd]) []
theorem up_nil (f : List α → Nd → α) : up f [] = [] := rfl
theorem up_snoc (f : List α → Nd → α) (s : List Nd) (nd : Nd) : up f (s ++ [nd]) = up f s ++ [f (up f s) nd] := by
  unfold up
  rw [List.foldl_append]
  rfl
theorem snoc_ind {β : Type} {P : List β → Prop} (h0 : P []) (h1 : ∀ l x, P l → P (l ++ [x])) : ∀ l, P l := fun l => by
  have h : ∀ l : List β, P l.reverse := fun l => by
    induction l with
    | nil => exact h0
    | cons x r ih =>
      rw [List.reverse_cons]
      exact h1 _ x ih
  have := h l.reverse
  rwa [List.reverse_reverse] at this
theorem up_length (f : List α → Nd → α) (s : List Nd) : (up f s).length = s.length := by
  induction s using snoc_ind with
  | h0 => rfl
  | h1 l x ih => rw [up_snoc, List.length_append, List.length_append, ih]; rfl
theorem up_append (f : List α → Nd → α) (s r : List Nd) : (up f (s ++ r)).take s.length = up f s := by
  induction r using snoc_ind with
  | h0 => rw [List.append_nil, ← up_length f s, List.take_length]
  | h1 l x ih =>
    rw [← List.append_assoc, up_snoc, List.take_append_of_le_length]
    · exact ih
    · rw [up_length, List.length_append]; omega
theorem up_take (f : List α → Nd → α) (s : List Nd) (i : Nat) : up f (s.take i) = (up f s).take i := by
  by_cases h : i ≤ s.length
  · have e := up_append f (s.take i) (s.drop i)
    rw [List.take_append_drop, List.length_take, Nat.min_eq_left h] at e
    exact e.symm
  · rw [List.take_of_length_le (by omega), List.take_of_length_le (by rw [up_length]; omega)]
theorem take_succ_some {β : Type} {l : List β} {i : Nat} {x : β} (h : l[i]? = some x) : l.take (i + 1) = l.take i ++ [x] := by
  rw [List.take_add_one, h]
  rfl
theorem up_step (f : List α → Nd → α) {s : List Nd} {i : Nat} {nd : Nd} (h : s[i]? = some nd) : up f (s.take (i + 1)) = up f (s.take i) ++ [f (up f (s.take i)) nd] := by
  rw [take_succ_some h, up_snoc]
theorem up_get (f : List α → Nd → α) {s : List Nd} {i : Nat} {nd : Nd} (h : s[i]? = some nd) : (up f s)[i]? = some (f (up f (s.take i)) nd) := by
  have hi : i < s.length := (List.getElem?_eq_some_iff.mp h).1
  have e := up_step f h
  rw [up_take f s (i + 1)] at e
  have e2 : ((up f s).take (i + 1))[i]? = (up f s)[i]? := by
    rw [List.getElem?_take, if_pos (by omega)]
  rw [← e2, e, List.getElem?_append_right (by rw [up_length, List.length_take]; omega)]
  rw [up_length, List.length_take, Nat.min_eq_left (by omega), Nat.sub_self]
  rfl
theorem up_getD_take (f : List α → Nd → α) (s : List Nd) {i j : Nat} (d : α) (h : j < i) : (up f (s.take i)).getD j d = (up f s).getD j d := by
  rw [up_take, List.getD_eq_getElem?_getD, List.getD_eq_getElem?_getD, List.getElem?_take, if_pos h]
end

def costF (d : List Nat) : Nd → Nat
  | .cst _ => 1
  | .inp _ => 1
  | .sm i j => d.getD i 0 + d.getD j 0
  | .pr i j => 2 * (d.getD i 0 + d.getD j 0)
  | .sc _ i => d.getD i 0
  | .ch i j l => d.getD l 0 + 2 * (d.getD i 0 + d.getD j 0 + d.getD l 0)
def wtF (d : List Nat) : Nd → Nat
  | .cst _ => 1
  | .inp _ => 1
  | .sm i j => 1 + (d.getD i 0 + d.getD j 0)
  | .pr i j => 1 + 2 * (d.getD i 0 + d.getD j 0)
  | .sc _ i => 1 + d.getD i 0
  | .ch i j l => 1 + (d.getD l 0 + 2 * (d.getD i 0 + d.getD j 0 + d.getD l 0))
def odd (c : Nat) : Bool := c % 2 == 1
def valF (g : Nat → Bool) (d : List Bool) : Nd → Bool
  | .cst c => odd c
  | .inp k => g k
  | .sm i j => xor (d.getD i false) (d.getD j false)
  | .pr i j => d.getD i false && d.getD j false
  | .sc c i => odd c && d.getD i false
  | .ch i j l => xor (d.getD l false) (xor (d.getD i false && d.getD j false) (d.getD i false && d.getD l false))
def cst (s : List Nd) (n : Nat) : Nat := (up costF s).getD n 0
def wt (s : List Nd) (n : Nat) : Nat := (up wtF s).getD n 0
def val (g : Nat → Bool) (s : List Nd) (n : Nat) : Bool := (up (valF g) s).getD n false
theorem cst_eq {s : List Nd} (w : Wf s) {n : Nat} {nd : Nd} (h : s[n]? = some nd) : cst s n = costF (up costF s) nd := by
  have ok := w n nd h
  unfold cst
  rw [List.getD_eq_getElem?_getD, up_get costF h]
  cases nd with
  | cst c => rfl
  | inp k => rfl
  | sm i j => show (up costF (s.take n)).getD i 0 + (up costF (s.take n)).getD j 0 = _; rw [up_getD_take _ _ _ ok.1, up_getD_take _ _ _ ok.2]; rfl
  | pr i j => show 2 * ((up costF (s.take n)).getD i 0 + (up costF (s.take n)).getD j 0) = _; rw [up_getD_take _ _ _ ok.1, up_getD_take _ _ _ ok.2]; rfl
  | sc c i => show (up costF (s.take n)).getD i 0 = _; rw [up_getD_take _ _ _ ok.2]; rfl
  | ch i j l =>
    show (up costF (s.take n)).getD l 0 + 2 * ((up costF (s.take n)).getD i 0 + (up costF (s.take n)).getD j 0 + (up costF (s.take n)).getD l 0) = _
    rw [up_getD_take _ _ _ ok.1, up_getD_take _ _ _ ok.2.1, up_getD_take _ _ _ ok.2.2]; rfl
theorem wt_eq {s : List Nd} (w : Wf s) {n : Nat} {nd : Nd} (h : s[n]? = some nd) : wt s n = wtF (up wtF s) nd := by
  have ok := w n nd h
  unfold wt
  rw [List.getD_eq_getElem?_getD, up_get wtF h]
  cases nd with
  | cst c => rfl
  | inp k => rfl
  | sm i j => show 1 + ((up wtF (s.take n)).getD i 0 + (up wtF (s.take n)).getD j 0) = _; rw [up_getD_take _ _ _ ok.1, up_getD_take _ _ _ ok.2]; rfl
  | pr i j => show 1 + 2 * ((up wtF (s.take n)).getD i 0 + (up wtF (s.take n)).getD j 0) = _; rw [up_getD_take _ _ _ ok.1, up_getD_take _ _ _ ok.2]; rfl
  | sc c i => show 1 + (up wtF (s.take n)).getD i 0 = _; rw [up_getD_take _ _ _ ok.2]; rfl
  | ch i j l =>
    show 1 + ((up wtF (s.take n)).getD l 0 + 2 * ((up wtF (s.take n)).getD i 0 + (up wtF (s.take n)).getD j 0 + (up wtF (s.take n)).getD l 0)) = _
    rw [up_getD_take _ _ _ ok.1, up_getD_take _ _ _ ok.2.1, up_getD_take _ _ _ ok.2.2]; rfl
theorem val_eq {g : Nat → Bool} {s : List Nd} (w : Wf s) {n : Nat} {nd : Nd} (h : s[n]? = some nd) : val g s n = valF g (up (valF g) s) nd := by
  have ok := w n nd h
  unfold val
  rw [List.getD_eq_getElem?_getD, up_get (valF g) h]
  cases nd with
  | cst c => rfl
  | inp k => rfl
  | sm i j => show xor ((up (valF g) (s.take n)).getD i false) ((up (valF g) (s.take n)).getD j false) = _; rw [up_getD_take _ _ _ ok.1, up_getD_take _ _ _ ok.2]; rfl
  | pr i j => show ((up (valF g) (s.take n)).getD i false && (up (valF g) (s.take n)).getD j false) = _; rw [up_getD_take _ _ _ ok.1, up_getD_take _ _ _ ok.2]; rfl
  | sc c i => show (odd c && (up (valF g) (s.take n)).getD i false) = _; rw [up_getD_take _ _ _ ok.2]; rfl
  | ch i j l =>
    show xor ((up (valF g) (s.take n)).getD l false) (xor ((up (valF g) (s.take n)).getD i false && (up (valF g) (s.take n)).getD j false) ((up (valF g) (s.take n)).getD i false && (up (valF g) (s.take n)).getD l false)) = _
    rw [up_getD_take _ _ _ ok.1, up_getD_take _ _ _ ok.2.1, up_getD_take _ _ _ ok.2.2]; rfl
/-- every node costs at least 1 -/
theorem cst_pos {s : List Nd} (w : Wf s) : ∀ n, n < s.length → 1 ≤ cst s n := fun n => by
  induction n using Nat.strongRecOn with
  | ind n ih =>
    intro hn
    have h : s[n]? = some s[n] := List.getElem?_eq_getElem hn
    have ok := w n _ h
    rw [cst_eq w h]
    generalize s[n] = nd at ok
    cases nd with
    | cst c => exact Nat.le_refl _
    | inp k => exact Nat.le_refl _
    | sm i j => have := ih i ok.1 (by have := ok.1; omega); show 1 ≤ cst s i + cst s j; omega
    | pr i j => have := ih i ok.1 (by have := ok.1; omega); show 1 ≤ 2 * (cst s i + cst s j); omega
    | sc c i => exact ih i ok.2 (by have := ok.2; omega)
    | ch i j l => have := ih l ok.2.2 (by have := ok.2.2; omega); show 1 ≤ cst s l + 2 * (cst s i + cst s j + cst s l); omega

/-! ### tasks -/
structure Tk where
  n : Nat
  t : Nat
  c : Bool
  f : Option Nat
  s : Nat
def facV (b : Nat → Bool) : Option Nat → Bool
  | none => true
  | some x => b x
def tkRun (V : Nat → Bool) (k : Tk) (b : Nat → Bool) : Nat → Bool := fun i => if i = k.t then xor (b i) (k.c && (V k.n && facV b k.f)) else b i
def tksRun (V : Nat → Bool) (l : List Tk) (b : Nat → Bool) : Nat → Bool := l.foldl (fun b k => tkRun V k b) b
structure Tk.Ok (m : Nat) (k : Tk) : Prop where
  n : k.n < m
  t : k.t < 3
  s : k.s < 3
  ts : k.t ≠ k.s
  f : ∀ x, k.f = some x → x < 3 ∧ x ≠ k.t ∧ x ≠ k.s
def Tk.used (k : Tk) : Nat := match k.f with
  | some x => x
  | none => 3 - k.t - k.s
theorem Tk.Ok.used {m : Nat} {k : Tk} (h : k.Ok m) : k.used < 3 ∧ k.used ≠ k.t ∧ k.used ≠ k.s := by
  obtain ⟨n, t, c, f, s⟩ := k
  obtain ⟨h1, h2, h3, h4, h5⟩ := h
  cases f with
  | some x => exact h5 x rfl
  | none =>
    show 3 - t - s < 3 ∧ 3 - t - s ≠ t ∧ 3 - t - s ≠ s
    have h2 : t < 3 := h2
    have h3 : s < 3 := h3
    have h4 : t ≠ s := h4
    omega
/-- the tasks of a pass: first through the spare cell, second onto it -/
def passT (first second : List Nat) (k : Tk) : List Tk := first.map (fun n => ⟨n, k.t, k.c, some k.s, k.used⟩) ++ second.map (fun n => ⟨n, k.s, true, k.f, k.t⟩)
def prodT (first second : List Nat) (k : Tk) : List Tk := passT first second k ++ passT first second k
def subs (k : Tk) : Nd → List Tk
  | .cst _ => []
  | .inp _ => []
  | .sc c i => [⟨i, k.t, k.c && odd c, k.f, k.s⟩]
  | .sm i j => [⟨i, k.t, k.c, k.f, k.s⟩, ⟨j, k.t, k.c, k.f, k.s⟩]
  | .pr i j => prodT [i] [j] k
  | .ch i j l => ⟨l, k.t, k.c, k.f, k.s⟩ :: prodT [i] [j, l] k
def Nd.leaf : Nd → Bool
  | .cst _ => true
  | .inp _ => true
  | _ => false
theorem subs_ok {m : Nat} {k : Tk} (h : k.Ok m) {nd : Nd} (hn : nd.ok k.n) : ∀ q ∈ subs k nd, q.Ok m := by
  have hu := h.used
  have hm := h.n
  have same : ∀ (i : Nat) (c : Bool), i < k.n → (⟨i, k.t, c, k.f, k.s⟩ : Tk).Ok m := fun i c hi => ⟨by show i < m; omega, h.t, h.s, h.ts, h.f⟩
  have thr : ∀ (i : Nat) (c : Bool), i < k.n → (⟨i, k.t, c, some k.s, k.used⟩ : Tk).Ok m := fun i c hi => ⟨by show i < m; omega, h.t, hu.1, hu.2.1.symm, fun x e => by
    have e' : k.s = x := Option.some.inj e
    subst e'
    exact ⟨h.s, h.ts.symm, hu.2.2.symm⟩⟩
  have on : ∀ (i : Nat) (c : Bool), i < k.n → (⟨i, k.s, c, k.f, k.t⟩ : Tk).Ok m := fun i c hi => ⟨by show i < m; omega, h.s, h.t, h.ts.symm, fun x e => by
    have := h.f x e
    exact ⟨this.1, this.2.2, this.2.1⟩⟩
  intro q hq
  cases nd with
  | cst c => cases hq
  | inp c => cases hq
  | sc c i =>
    simp only [subs, List.mem_singleton] at hq
    subst hq
    exact same _ _ hn.2
  | sm i j =>
    simp only [subs, List.mem_cons, List.not_mem_nil, or_false] at hq
    rcases hq with rfl | rfl
    · exact same _ _ hn.1
    · exact same _ _ hn.2
  | pr i j =>
    simp only [subs, prodT, passT, List.map_cons, List.map_nil, List.mem_append, List.mem_cons, List.not_mem_nil, or_false] at hq
    rcases hq with (rfl | rfl) | (rfl | rfl)
    · exact thr _ _ hn.1
    · exact on _ _ hn.2
    · exact thr _ _ hn.1
    · exact on _ _ hn.2
  | ch i j l =>
    simp only [subs, prodT, passT, List.map_cons, List.map_nil, List.mem_append, List.mem_cons, List.not_mem_nil, or_false] at hq
    rcases hq with rfl | (rfl | (rfl | rfl)) | (rfl | (rfl | rfl))
    · exact same _ _ hn.2.2
    · exact thr _ _ hn.1
    · exact on _ _ hn.2.1
    · exact on _ _ hn.2.2
    · exact thr _ _ hn.1
    · exact on _ _ hn.2.1
    · exact on _ _ hn.2.2
/-- what a node's tasks do is what its own task does -/
theorem subs_run {g : Nat → Bool} {s : List Nd} (w : Wf s) {m : Nat} {k : Tk} (h : k.Ok m) {nd : Nd} (hn : s[k.n]? = some nd) (hl : nd.leaf = false) (b : Nat → Bool) : tksRun (val g s) (subs k nd) b = tkRun (val g s) k b := by
  obtain ⟨n, t, c, f, sp⟩ := k
  obtain ⟨h1, h2, h3, h4, h5⟩ := h
  have h4 : t ≠ sp := h4
  have h4' : sp ≠ t := h4.symm
  have hn : s[n]? = some nd := hn
  have e0 : val g s n = valF g (up (valF g) s) nd := val_eq (g := g) w hn
  cases nd with
  | cst c => cases hl
  | inp c => cases hl
  | sc c0 i =>
    have e : val g s n = (odd c0 && val g s i) := e0
    funext x
    simp only [subs, tksRun, List.foldl_cons, List.foldl_nil, tkRun, e]
    by_cases hx : x = t
    · rw [if_pos hx, if_pos hx, Bool.and_assoc, Bool.and_assoc]
    · rw [if_neg hx, if_neg hx]
  | sm i j =>
    have e : val g s n = xor (val g s i) (val g s j) := e0
    have ff : facV (tkRun (val g s) ⟨i, t, c, f, sp⟩ b) f = facV b f := by
      cases f with
      | none => rfl
      | some x =>
        have := (h5 x rfl).2.1
        show tkRun (val g s) ⟨i, t, c, some x, sp⟩ b x = b x
        simp [tkRun, this]
    funext x
    show tkRun (val g s) ⟨j, t, c, f, sp⟩ (tkRun (val g s) ⟨i, t, c, f, sp⟩ b) x = _
    rw [show tkRun (val g s) ⟨j, t, c, f, sp⟩ (tkRun (val g s) ⟨i, t, c, f, sp⟩ b) x = if x = t then xor (tkRun (val g s) ⟨i, t, c, f, sp⟩ b x) (c && (val g s j && facV (tkRun (val g s) ⟨i, t, c, f, sp⟩ b) f)) else tkRun (val g s) ⟨i, t, c, f, sp⟩ b x from rfl, ff]
    simp only [tkRun, e]
    by_cases hx : x = t
    · rw [if_pos hx, if_pos hx, if_pos hx]
      generalize b x = a1, c = a2, val g s i = a3, val g s j = a4, facV b f = a5
      revert a1 a2 a3 a4 a5
      decide
    · rw [if_neg hx, if_neg hx, if_neg hx]
  | pr i j =>
    have e : val g s n = (val g s i && val g s j) := e0
    have fc : ∀ b' : Nat → Bool, (∀ x, x ≠ t → x ≠ sp → b' x = b x) → facV b' f = facV b f := fun b' q => by
      cases f with
      | none => rfl
      | some x => exact q x (h5 x rfl).2.1 (h5 x rfl).2.2
    have ft : facV (tkRun (val g s) ⟨i, t, c, some sp, Tk.used ⟨n, t, c, f, sp⟩⟩ b) f = facV b f := fc _ fun x q1 q2 => by simp [tkRun, q1]
    funext x
    show tkRun (val g s) ⟨j, sp, true, f, t⟩ (tkRun (val g s) ⟨i, t, c, some sp, _⟩ (tkRun (val g s) ⟨j, sp, true, f, t⟩ (tkRun (val g s) ⟨i, t, c, some sp, _⟩ b))) x = _
    generalize hb1 : tkRun (val g s) ⟨i, t, c, some sp, Tk.used ⟨n, t, c, f, sp⟩⟩ b = b1
    have q1t : b1 t = xor (b t) (c && (val g s i && b sp)) := by rw [← hb1]; simp [tkRun, facV]
    have q1o : ∀ x, x ≠ t → b1 x = b x := fun x hx => by rw [← hb1]; simp [tkRun, hx]
    generalize hb2 : tkRun (val g s) ⟨j, sp, true, f, t⟩ b1 = b2
    have q2s : b2 sp = xor (b sp) (val g s j && facV b f) := by
      rw [← hb2]
      simp [tkRun, q1o sp h4', fc b1 (fun x z1 z2 => q1o x z1)]
    have q2o : ∀ x, x ≠ sp → b2 x = b1 x := fun x hx => by rw [← hb2]; simp [tkRun, hx]
    generalize hb3 : tkRun (val g s) ⟨i, t, c, some sp, Tk.used ⟨n, t, c, f, sp⟩⟩ b2 = b3
    have q3t : b3 t = xor (b2 t) (c && (val g s i && b2 sp)) := by rw [← hb3]; simp [tkRun, facV]
    have q3o : ∀ x, x ≠ t → b3 x = b2 x := fun x hx => by rw [← hb3]; simp [tkRun, hx]
    have f3 : facV b3 f = facV b f := fc b3 fun x z1 z2 => by rw [q3o x z1, q2o x z2, q1o x z1]
    by_cases hx : x = t
    · subst hx
      have : tkRun (val g s) ⟨j, sp, true, f, x⟩ b3 x = b3 x := by simp [tkRun, h4]
      rw [this, q3t, q2o x h4, q1t, q2s]
      simp only [tkRun, if_pos, e]
      generalize b x = a1, c = a2, val g s i = a3, val g s j = a4, facV b f = a5, b sp = a6
      revert a1 a2 a3 a4 a5 a6
      decide
    · by_cases hs : x = sp
      · subst hs
        have : tkRun (val g s) ⟨j, x, true, f, t⟩ b3 x = xor (b3 x) (val g s j && facV b f) := by simp [tkRun, f3]
        rw [this, q3o x hx, q2s]
        simp only [tkRun, if_neg hx]
        generalize b x = a1, val g s j = a4, facV b f = a5
        revert a1 a4 a5
        decide
      · have : tkRun (val g s) ⟨j, sp, true, f, t⟩ b3 x = b3 x := by simp [tkRun, hs]
        rw [this, q3o x hx, q2o x hs, q1o x hx]
        simp [tkRun, hx]
  | ch i j l =>
    have e : val g s n = xor (val g s l) (xor (val g s i && val g s j) (val g s i && val g s l)) := e0
    have fc0 : ∀ (b0 b' : Nat → Bool), (∀ x, x ≠ t → x ≠ sp → b' x = b0 x) → facV b' f = facV b0 f := fun b0 b' q => by
      cases f with
      | none => rfl
      | some x => exact q x (h5 x rfl).2.1 (h5 x rfl).2.2
    funext x
    show tkRun (val g s) ⟨l, sp, true, f, t⟩ (tkRun (val g s) ⟨j, sp, true, f, t⟩ (tkRun (val g s) ⟨i, t, c, some sp, _⟩ (tkRun (val g s) ⟨l, sp, true, f, t⟩ (tkRun (val g s) ⟨j, sp, true, f, t⟩ (tkRun (val g s) ⟨i, t, c, some sp, _⟩ (tkRun (val g s) ⟨l, t, c, f, sp⟩ b)))))) x = _
    generalize hb0 : tkRun (val g s) ⟨l, t, c, f, sp⟩ b = b0
    have q0t : b0 t = xor (b t) (c && (val g s l && facV b f)) := by rw [← hb0]; simp [tkRun]
    have q0o : ∀ x, x ≠ t → b0 x = b x := fun x hx => by rw [← hb0]; simp [tkRun, hx]
    have fc : ∀ b' : Nat → Bool, (∀ x, x ≠ t → x ≠ sp → b' x = b x) → facV b' f = facV b f := fc0 b
    generalize hb1 : tkRun (val g s) ⟨i, t, c, some sp, Tk.used ⟨n, t, c, f, sp⟩⟩ b0 = b1
    have q1t : b1 t = xor (b0 t) (c && (val g s i && b0 sp)) := by rw [← hb1]; simp [tkRun, facV]
    have q1o : ∀ x, x ≠ t → b1 x = b0 x := fun x hx => by rw [← hb1]; simp [tkRun, hx]
    generalize hb2 : tkRun (val g s) ⟨j, sp, true, f, t⟩ b1 = b2
    have f1 : facV b1 f = facV b f := fc b1 fun x z1 z2 => by rw [q1o x z1, q0o x z1]
    have q2s : b2 sp = xor (b1 sp) (val g s j && facV b f) := by rw [← hb2]; simp [tkRun, f1]
    have q2o : ∀ x, x ≠ sp → b2 x = b1 x := fun x hx => by rw [← hb2]; simp [tkRun, hx]
    generalize hb3 : tkRun (val g s) ⟨l, sp, true, f, t⟩ b2 = b3
    have f2 : facV b2 f = facV b f := fc b2 fun x z1 z2 => by rw [q2o x z2, q1o x z1, q0o x z1]
    have q3s : b3 sp = xor (b2 sp) (val g s l && facV b f) := by rw [← hb3]; simp [tkRun, f2]
    have q3o : ∀ x, x ≠ sp → b3 x = b2 x := fun x hx => by rw [← hb3]; simp [tkRun, hx]
    generalize hb4 : tkRun (val g s) ⟨i, t, c, some sp, Tk.used ⟨n, t, c, f, sp⟩⟩ b3 = b4
    have q4t : b4 t = xor (b3 t) (c && (val g s i && b3 sp)) := by rw [← hb4]; simp [tkRun, facV]
    have q4o : ∀ x, x ≠ t → b4 x = b3 x := fun x hx => by rw [← hb4]; simp [tkRun, hx]
    generalize hb5 : tkRun (val g s) ⟨j, sp, true, f, t⟩ b4 = b5
    have f4 : facV b4 f = facV b f := fc b4 fun x z1 z2 => by rw [q4o x z1, q3o x z2, q2o x z2, q1o x z1, q0o x z1]
    have q5s : b5 sp = xor (b4 sp) (val g s j && facV b f) := by rw [← hb5]; simp [tkRun, f4]
    have q5o : ∀ x, x ≠ sp → b5 x = b4 x := fun x hx => by rw [← hb5]; simp [tkRun, hx]
    have f5 : facV b5 f = facV b f := fc b5 fun x z1 z2 => by rw [q5o x z2, q4o x z1, q3o x z2, q2o x z2, q1o x z1, q0o x z1]
    by_cases hx : x = t
    · subst hx
      have : tkRun (val g s) ⟨l, sp, true, f, x⟩ b5 x = b5 x := by simp [tkRun, h4]
      rw [this, q5o x h4, q4t, q3o x h4, q2o x h4, q1t, q0t, q3s, q2s, q1o sp h4', q0o sp h4']
      simp only [tkRun, if_pos, e]
      generalize b x = a1, c = a2, val g s i = a3, val g s j = a4, facV b f = a5, b sp = a6, val g s l = a7
      revert a1 a2 a3 a4 a5 a6 a7
      decide
    · by_cases hs : x = sp
      · subst hs
        have : tkRun (val g s) ⟨l, x, true, f, t⟩ b5 x = xor (b5 x) (val g s l && facV b f) := by simp [tkRun, f5]
        rw [this, q5s, q4o x hx, q3s, q2s, q1o x hx, q0o x hx]
        simp only [tkRun, if_neg hx]
        generalize b x = a1, val g s j = a4, facV b f = a5, val g s l = a7
        revert a1 a4 a5 a7
        decide
      · have : tkRun (val g s) ⟨l, sp, true, f, t⟩ b5 x = b5 x := by simp [tkRun, hs]
        rw [this, q5o x hs, q4o x hx, q3o x hs, q2o x hs, q1o x hx, q0o x hx]
        simp [tkRun, hx]
/-- costs, weights of a node's tasks -/
theorem subs_cost {s : List Nd} (w : Wf s) {k : Tk} {nd : Nd} (hn : s[k.n]? = some nd) (hl : nd.leaf = false) : ((subs k nd).map fun q => cst s q.n).sum = cst s k.n := by
  rw [cst_eq w hn]
  cases nd with
  | cst c => cases hl
  | inp c => cases hl
  | sc c i => simp [subs, costF, cst]
  | sm i j => simp [subs, costF, cst]
  | pr i j => simp [subs, prodT, passT, costF, cst] <;> omega
  | ch i j l => simp [subs, prodT, passT, costF, cst] <;> omega
theorem subs_wt {s : List Nd} (w : Wf s) {k : Tk} {nd : Nd} (hn : s[k.n]? = some nd) : ((subs k nd).map fun q => wt s q.n).sum < wt s k.n := by
  rw [wt_eq w hn]
  cases nd with
  | cst c => simp [subs, wtF]
  | inp c => simp [subs, wtF]
  | sc c i => simp [subs, wtF, wt]
  | sm i j => simp [subs, wtF, wt]
  | pr i j => simp [subs, prodT, passT, wtF, wt]; omega
  | ch i j l => simp [subs, prodT, passT, wtF, wt]; omega
theorem tksRun_append (V : Nat → Bool) (l r : List Tk) (b : Nat → Bool) : tksRun V (l ++ r) b = tksRun V r (tksRun V l b) := by
  unfold tksRun
  rw [List.foldl_append]
theorem tksRun_cons (V : Nat → Bool) (k : Tk) (r : List Tk) (b : Nat → Bool) : tksRun V (k :: r) b = tksRun V r (tkRun V k b) := rfl

/-! ### steps -/
inductive Fac where
  | cell (i : Nat) | inp (k : Nat)
def Fac.val (g b : Nat → Bool) : Fac → Bool
  | .cell i => b i
  | .inp k => g k
structure Stp where
  t : Nat
  c : Bool
  fs : List Fac
def stRun (g : Nat → Bool) (p : Stp) (b : Nat → Bool) : Nat → Bool := fun i => if i = p.t then xor (b i) (p.c && p.fs.all (Fac.val g b)) else b i
def stsRun (g : Nat → Bool) (l : List Stp) (b : Nat → Bool) : Nat → Bool := l.foldl (fun b p => stRun g p b) b
theorem stsRun_snoc (g : Nat → Bool) (l : List Stp) (p : Stp) (b : Nat → Bool) : stsRun g (l ++ [p]) b = stRun g p (stsRun g l b) := by
  unfold stsRun
  rw [List.foldl_append]
  rfl
def facs : Option Nat → List Fac
  | none => []
  | some x => [.cell x]
def leafStp (k : Tk) : Nd → Stp
  | .cst c => ⟨k.t, k.c && odd c, facs k.f⟩
  | .inp x => ⟨k.t, k.c, facs k.f ++ [.inp x]⟩
  | _ => ⟨k.t, k.c, []⟩
theorem facs_all (g b : Nat → Bool) (f : Option Nat) : (facs f).all (Fac.val g b) = facV b f := by
  cases f with
  | none => rfl
  | some x => simp [facs, facV, Fac.val]
theorem leaf_run {g : Nat → Bool} {s : List Nd} (w : Wf s) {k : Tk} {nd : Nd} (hn : s[k.n]? = some nd) (hl : nd.leaf = true) (b : Nat → Bool) : stRun g (leafStp k nd) b = tkRun (val g s) k b := by
  have e := val_eq (g := g) w hn
  funext i
  cases nd with
  | cst c =>
    have e : val g s k.n = odd c := e
    simp only [leafStp, stRun, tkRun, facs_all, e, Bool.and_assoc]
  | inp x =>
    have e : val g s k.n = g x := e
    simp only [leafStp, stRun, tkRun, List.all_append, facs_all, e, List.all_cons, List.all_nil, Bool.and_true, Fac.val]
    rw [Bool.and_comm (facV b k.f)]
  | sc c i => cases hl
  | sm i j => cases hl
  | pr i j => cases hl
  | ch i j l => cases hl
structure Stp.Ok (m : Nat) (p : Stp) : Prop where
  t : p.t < 3
  len : p.fs.length ≤ 2
  cell : ∀ i, Fac.cell i ∈ p.fs → i < 3 ∧ i ≠ p.t
  inp : ∀ k, Fac.inp k ∈ p.fs → k < m
theorem leaf_ok {m n : Nat} {k : Tk} (h : k.Ok n) {nd : Nd} (hi : ∀ x, nd = .inp x → x < m) (hl : nd.leaf = true) : (leafStp k nd).Ok m := by
  have hf : ∀ i, Fac.cell i ∈ facs k.f → i < 3 ∧ i ≠ k.t := fun i hm => by
    cases e : k.f with
    | none => rw [e] at hm; cases hm
    | some x =>
      rw [e] at hm
      simp only [facs, List.mem_singleton, Fac.cell.injEq] at hm
      subst hm
      have := h.f _ e
      exact ⟨this.1, this.2.1⟩
  have hl1 : (facs k.f).length ≤ 1 := by cases k.f <;> simp [facs]
  have hni : ∀ x, Fac.inp x ∉ facs k.f := fun x hm => by
    cases e : k.f with
    | none => rw [e] at hm; cases hm
    | some y => rw [e] at hm; simp [facs] at hm
  cases nd with
  | cst c => exact ⟨h.t, by show (facs k.f).length ≤ 2; omega, hf, fun x hm => absurd hm (hni x)⟩
  | inp x =>
    refine ⟨h.t, by show (facs k.f ++ [Fac.inp x]).length ≤ 2; rw [List.length_append]; simp; omega, fun i hm => ?_, fun y hm => ?_⟩
    · rcases List.mem_append.mp hm with hm | hm
      · exact hf i hm
      · simp at hm
    · rcases List.mem_append.mp hm with hm | hm
      · exact absurd hm (hni y)
      · simp only [List.mem_singleton, Fac.inp.injEq] at hm
        subst hm
        exact hi _ rfl
  | sc c i => cases hl
  | sm i j => cases hl
  | pr i j => cases hl
  | ch i j l => cases hl

/-! ### gates -/
abbrev Gt := Nat × List Nat
def gtRun (G : Gt) (B : List Bool) : List Bool := if G.2.all (fun c => B.getD c false) = true then B.set G.1 (!(B.getD G.1 false)) else B
def gtsRun (l : List Gt) (B : List Bool) : List Bool := l.foldl (fun B G => gtRun G B) B
theorem gtsRun_append (l r : List Gt) (B : List Bool) : gtsRun (l ++ r) B = gtsRun r (gtsRun l B) := by
  unfold gtsRun
  rw [List.foldl_append]
theorem gtRun_length (G : Gt) (B : List Bool) : (gtRun G B).length = B.length := by
  unfold gtRun
  split
  · exact List.length_set
  · rfl
theorem gtsRun_length (l : List Gt) (B : List Bool) : (gtsRun l B).length = B.length := by
  induction l generalizing B with
  | nil => rfl
  | cons G r ih => exact (ih _).trans (gtRun_length G B)
structure GtOk (n : Nat) (G : Gt) : Prop where
  t : G.1 < n
  c : ∀ x ∈ G.2, x < n
  nt : G.1 ∉ G.2
  rise : G.2.Pairwise (· < ·)
def facBit (m : Nat) : Fac → Nat
  | .cell i => m + i
  | .inp k => k
/-- the gates of one step -/
inductive GateFor (m : Nat) (p : Stp) : List Gt → Prop where
  | off : p.c = false → GateFor m p []
  | on (cs : List Nat) : p.c = true → cs.Pairwise (· < ·) → cs.length ≤ p.fs.length → (∀ x, x ∈ cs ↔ ∃ f ∈ p.fs, facBit m f = x) → GateFor m p [(m + p.t, cs)]
inductive GatesFor (m : Nat) : List Stp → List Gt → Prop where
  | nil : GatesFor m [] []
  | snoc {l : List Stp} {gs new : List Gt} {p : Stp} : GatesFor m l gs → GateFor m p new → GatesFor m (l ++ [p]) (gs ++ new)
theorem GateFor.ok {m : Nat} {p : Stp} {gs : List Gt} (h : GateFor m p gs) (hp : p.Ok m) : ∀ G ∈ gs, GtOk (m + 3) G ∧ G.2.length ≤ 2 := by
  cases h with
  | off => intro G hG; cases hG
  | on cs _ hr hl hc =>
    intro G hG
    have e : G = (m + p.t, cs) := by simpa using hG
    subst e
    have ht := hp.t
    refine ⟨⟨by show m + p.t < m + 3; omega, fun x hx => ?_, fun hx => ?_, hr⟩, Nat.le_trans hl hp.len⟩
    · obtain ⟨f, hf, e⟩ := (hc x).mp hx
      cases f with
      | cell i => have := hp.cell i hf; have e : m + i = x := e; omega
      | inp k => have := hp.inp k hf; have e : k = x := e; omega
    · obtain ⟨f, hf, e⟩ := (hc _).mp hx
      cases f with
      | cell i => have := hp.cell i hf; have e : m + i = m + p.t := e; omega
      | inp k => have := hp.inp k hf; have e : k = m + p.t := e; omega
theorem GatesFor.ok {m : Nat} {l : List Stp} {gs : List Gt} (h : GatesFor m l gs) (hp : ∀ p ∈ l, p.Ok m) : (∀ G ∈ gs, GtOk (m + 3) G ∧ G.2.length ≤ 2) ∧ gs.length ≤ l.length := by
  induction h with
  | nil => exact ⟨fun G hG => (by cases hG), Nat.le_refl _⟩
  | @snoc l gs new p h1 h2 ih =>
    have ih := ih fun q hq => hp q (List.mem_append_left _ hq)
    refine ⟨fun G hG => ?_, ?_⟩
    · rcases List.mem_append.mp hG with hG | hG
      · exact ih.1 G hG
      · exact h2.ok (hp p (by simp)) G hG
    · have : new.length ≤ 1 := by cases h2 <;> simp
      rw [List.length_append, List.length_append]
      simp
      omega
structure View (m : Nat) (g b : Nat → Bool) (B : List Bool) : Prop where
  inp : ∀ k, k < m → B.getD k false = g k
  cell : ∀ i, i < 3 → B.getD (m + i) false = b i
theorem getD_set {B : List Bool} {j t : Nat} {v : Bool} (h : t < B.length) : (B.set t v).getD j false = if j = t then v else B.getD j false := by
  rw [List.getD_eq_getElem?_getD, List.getElem?_set]
  by_cases e : t = j
  · subst e
    simp [h]
  · rw [if_neg e, if_neg (fun q => e q.symm), List.getD_eq_getElem?_getD]
theorem gate_sim {m : Nat} {p : Stp} {gs : List Gt} (h : GateFor m p gs) (hp : p.Ok m) {g b : Nat → Bool} {B : List Bool} (hB : m + 3 ≤ B.length) (v : View m g b B) :
    View m g (stRun g p b) (gtsRun gs B) ∧ ∀ j, m + 3 ≤ j → (gtsRun gs B).getD j false = B.getD j false := by
  cases h with
  | off hc =>
    refine ⟨⟨v.inp, fun i hi => ?_⟩, fun _ _ => rfl⟩
    show B.getD (m + i) false = _
    rw [v.cell i hi]
    simp [stRun, hc]
  | on cs hc hr hl hm =>
    have ht := hp.t
    have hall : cs.all (fun c => B.getD c false) = p.fs.all (Fac.val g b) := by
      rw [Bool.eq_iff_iff, List.all_eq_true, List.all_eq_true]
      have key : ∀ f ∈ p.fs, B.getD (facBit m f) false = Fac.val g b f := fun f hf => by
        cases f with
        | cell i => exact v.cell i (hp.cell i hf).1
        | inp k => exact v.inp k (hp.inp k hf)
      constructor
      · intro q f hf
        rw [← key f hf]
        exact q _ ((hm _).mpr ⟨f, hf, rfl⟩)
      · intro q x hx
        obtain ⟨f, hf, e⟩ := (hm x).mp hx
        subst e
        rw [key f hf]
        exact q f hf
    show View m g (stRun g p b) (gtRun (m + p.t, cs) B) ∧ _
    have e1 : gtsRun [(m + p.t, cs)] B = gtRun (m + p.t, cs) B := rfl
    rw [e1]
    unfold gtRun
    by_cases hA : cs.all (fun c => B.getD c false) = true
    · rw [if_pos hA]
      rw [hall] at hA
      have hl : m + p.t < B.length := by omega
      refine ⟨⟨fun k hk => ?_, fun i hi => ?_⟩, fun j hj => ?_⟩
      · rw [getD_set hl, if_neg (by show ¬ k = m + p.t; omega)]
        exact v.inp k hk
      · rw [getD_set hl]
        show (if m + i = m + p.t then !(B.getD (m + p.t) false) else B.getD (m + i) false) = _
        by_cases hi' : i = p.t
        · subst hi'
          rw [if_pos rfl, v.cell _ hi]
          simp [stRun, hc, hA]
        · rw [if_neg (by omega), v.cell i hi]
          simp [stRun, hi']
      · rw [getD_set hl, if_neg (by show ¬ j = m + p.t; omega)]
    · rw [if_neg hA]
      rw [hall] at hA
      have hA' : p.fs.all (Fac.val g b) = false := by simpa using hA
      refine ⟨⟨v.inp, fun i hi => ?_⟩, fun _ _ => rfl⟩
      rw [v.cell i hi]
      simp [stRun, hA']
theorem gates_sim {m : Nat} {l : List Stp} {gs : List Gt} (h : GatesFor m l gs) (hp : ∀ p ∈ l, p.Ok m) {g b : Nat → Bool} {B : List Bool} (hB : m + 3 ≤ B.length) (v : View m g b B) :
    View m g (stsRun g l b) (gtsRun gs B) ∧ ∀ j, m + 3 ≤ j → (gtsRun gs B).getD j false = B.getD j false := by
  induction h with
  | nil => exact ⟨v, fun _ _ => rfl⟩
  | @snoc l gs new p h1 h2 ih =>
    have ih := ih fun q hq => hp q (List.mem_append_left _ hq)
    rw [gtsRun_append, stsRun_snoc]
    have hB' : m + 3 ≤ (gtsRun gs B).length := by rw [gtsRun_length]; exact hB
    have q := gate_sim h2 (hp p (by simp)) hB' ih.1
    exact ⟨q.1, fun j hj => (q.2 j hj).trans (ih.2 j hj)⟩
/-- THE LAW in plain words: the gates turn over the bit of the cell 0 exactly if the value is odd -/
theorem whole {m : Nat} {l : List Stp} {gs : List Gt} (h : GatesFor m l gs) (hp : ∀ p ∈ l, p.Ok m) {V : (Nat → Bool) → Bool}
    (hV : ∀ (g b : Nat → Bool), stsRun g l b = fun i => if i = 0 then xor (b i) (V g) else b i) {B : List Bool} (hB : m + 3 ≤ B.length) :
    gtsRun gs B = if V (fun k => B.getD k false) = true then B.set m (!(B.getD m false)) else B := by
  have v : View m (fun k => B.getD k false) (fun i => B.getD (m + i) false) B := ⟨fun _ _ => rfl, fun _ _ => rfl⟩
  have q := gates_sim h hp hB v
  rw [hV] at q
  have hl := gtsRun_length gs B
  have key : ∀ j, (gtsRun gs B).getD j false = (if V (fun k => B.getD k false) = true then B.set m (!(B.getD m false)) else B).getD j false := fun j => by
    have hm : m < B.length := by omega
    by_cases h1 : j < m
    · have e := q.1.inp j h1
      rw [e]
      split
      · rw [getD_set hm, if_neg (by omega)]
      · rfl
    · by_cases h2 : j < m + 3
      · obtain ⟨i, rfl⟩ : ∃ i, j = m + i := ⟨j - m, by omega⟩
        have e := q.1.cell i (by omega)
        rw [e]
        cases hv : V (fun k => B.getD k false) with
        | true =>
          rw [if_pos rfl, getD_set hm]
          by_cases h0 : i = 0
          · subst h0; simp
          · rw [if_neg h0, if_neg (by omega)]
        | false =>
          rw [if_neg Bool.false_ne_true]
          by_cases h0 : i = 0
          · subst h0; simp
          · rw [if_neg h0]
      · rw [q.2 j (by omega)]
        split
        · rw [getD_set hm, if_neg (by omega)]
        · rfl
  have hl2 : (if V (fun k => B.getD k false) = true then B.set m (!(B.getD m false)) else B).length = B.length := by
    split
    · exact List.length_set
    · rfl
  refine List.ext_getElem (hl.trans hl2.symm) fun j h1 h2 => ?_
  have e := key j
  rw [List.getD_eq_getElem?_getD, List.getD_eq_getElem?_getD, List.getElem?_eq_getElem h1, List.getElem?_eq_getElem h2] at e
  exact e

/-! ### the number of inputs -/
def needF (m : Nat) : Nd → Nat
  | .inp k => max m (k + 1)
  | _ => m
def needs (s : List Nd) : Nat := s.foldl needF 0
theorem needs_snoc (s : List Nd) (nd : Nd) : needs (s ++ [nd]) = needF (needs s) nd := by
  unfold needs
  rw [List.foldl_append]
  rfl
/-- the inputs' numbers, each and one -/
def inpsOf (s : List Nd) : List Nat := s.filterMap fun nd => match nd with
  | .inp k => some (k + 1)
  | _ => none
theorem needs_char (s : List Nd) : (∀ x ∈ inpsOf s, x ≤ needs s) ∧ (needs s = 0 ∨ needs s ∈ inpsOf s) := by
  induction s using snoc_ind with
  | h0 => exact ⟨fun x hx => by simp [inpsOf] at hx, .inl rfl⟩
  | h1 l nd ih =>
    rw [needs_snoc]
    have e : inpsOf (l ++ [nd]) = inpsOf l ++ inpsOf [nd] := List.filterMap_append
    rw [e]
    cases nd with
    | inp k =>
      show (∀ x ∈ inpsOf l ++ [k + 1], x ≤ max (needs l) (k + 1)) ∧ (max (needs l) (k + 1) = 0 ∨ max (needs l) (k + 1) ∈ inpsOf l ++ [k + 1])
      refine ⟨fun x hx => ?_, .inr ?_⟩
      · rcases List.mem_append.mp hx with hx | hx
        · have := ih.1 x hx; omega
        · have : x = k + 1 := by simpa using hx
          omega
      · by_cases hk : needs l ≤ k + 1
        · rw [Nat.max_eq_right hk]; simp
        · have h0 : needs l ≠ 0 := by omega
          rw [Nat.max_eq_left (by omega)]
          rcases ih.2 with q | q
          · exact absurd q h0
          · exact List.mem_append_left _ q
    | cst c => show (∀ x ∈ inpsOf l ++ [], x ≤ needs l) ∧ (needs l = 0 ∨ needs l ∈ inpsOf l ++ []); rw [List.append_nil]; exact ih
    | sm i j => show (∀ x ∈ inpsOf l ++ [], x ≤ needs l) ∧ (needs l = 0 ∨ needs l ∈ inpsOf l ++ []); rw [List.append_nil]; exact ih
    | pr i j => show (∀ x ∈ inpsOf l ++ [], x ≤ needs l) ∧ (needs l = 0 ∨ needs l ∈ inpsOf l ++ []); rw [List.append_nil]; exact ih
    | sc c i => show (∀ x ∈ inpsOf l ++ [], x ≤ needs l) ∧ (needs l = 0 ∨ needs l ∈ inpsOf l ++ []); rw [List.append_nil]; exact ih
    | ch i j l' => show (∀ x ∈ inpsOf l ++ [], x ≤ needs l) ∧ (needs l = 0 ∨ needs l ∈ inpsOf l ++ []); rw [List.append_nil]; exact ih
theorem mem_inpsOf {s : List Nd} {x : Nat} : x ∈ inpsOf s ↔ ∃ k, Nd.inp k ∈ s ∧ x = k + 1 := by
  unfold inpsOf
  rw [List.mem_filterMap]
  constructor
  · rintro ⟨nd, h1, h2⟩
    cases nd with
    | inp k => exact ⟨k, h1, (Option.some.inj h2).symm⟩
    | cst c => cases h2
    | sm i j => cases h2
    | pr i j => cases h2
    | sc c i => cases h2
    | ch i j l => cases h2
  · rintro ⟨k, h1, rfl⟩
    exact ⟨.inp k, h1, rfl⟩
theorem inp_lt {s : List Nd} {k : Nat} (h : Nd.inp k ∈ s) : k < needs s := (needs_char s).1 (k + 1) (mem_inpsOf.mpr ⟨k, h, rfl⟩)
theorem needs_le {s : List Nd} (w : Wf s) : needs s ≤ 60 := by
  rcases (needs_char s).2 with h | h
  · omega
  · obtain ⟨k, h1, h2⟩ := mem_inpsOf.mp h
    obtain ⟨i, hi⟩ := List.mem_iff_getElem?.mp h1
    have : k < 60 := w i _ hi
    omega
end BF
/-! Rules that the layer lacks: what is never come to, enumerate over a tuple, max of a tuple of ints, get of a written dict. -/
namespace BR
open PySem PySem.Spec PyProof.Rows L2
section
variable {X : Cx}
def tNo : TE := fun _ _ _ => False
def tNoT : TT := fun _ _ _ => False
theorem pe_no {e : Expr} : PE X e tNo := ⟨fun _ _ _ _ _ _ h => h.elim⟩
theorem pt_no {e : Expr} : PT X e tNoT := ⟨fun _ _ _ _ _ _ h => h.elim⟩
end
/-! ### enumerate(tuple) -/
def IteT (K : PySem.W.Frag) (a : Addr) : It where
  go := fun i H => ∃ (xs : List V) (x : V), SqT K H a xs ∧ xs[i]? = some x
  yld := fun i H v H' => ∃ T x, v = .ref T ∧ H T = none ∧ H' = upd H T (.tup [.int (i : Nat), x]) ∧ ∀ xs, SqT K H a xs → xs[i]? = some x
  stop := fun i H => ∃ xs : List V, SqT K H a xs ∧ xs.length = i
theorem enumT_ne {h : Heap} {e it a : Addr} {i : Nat} {c : Int} {old : Value} {items : Array Value} (he : IsEnum h e it c old) (hit : h.IsTupleIter it a i) (ht : IsTup h a items) : a ≠ it ∧ e ≠ a := by
  obtain ⟨o, ho, hc, _⟩ := ht
  obtain ⟨o2, ho2, hc2, _⟩ := hit
  refine ⟨fun z => ?_, fun z => ?_⟩
  · subst z
    rw [ho] at ho2
    cases ho2
    rw [hc] at hc2
    injection hc2 with e1
    exact absurd e1 (by decide)
  · subst z
    have q : h.get? e = some _ := he
    rw [ho] at q
    cases q
    injection hc with e1
    exact absurd e1 (by decide)
theorem turn_enumT {P : Program} {w : World} {K : PySem.W.Frag} {elts : List Expr} {kk : Nat} {tpos : Pos} (a e it : Addr) :
    Turn P w K (.Tuple elts kk tpos) (IteT K a) [e, it] e (fun i h => (∃ old, IsEnum h e it ((i : Nat) : Int) old) ∧ h.IsTupleIter it a i ∧ e ≠ it) where
  mem := List.mem_cons_self
  obj := fun i h st b hb => by
    obtain ⟨⟨old, he⟩, ⟨o, ho, hc, hd⟩, _⟩ := st
    rcases List.mem_cons.mp hb with z | z
    · rw [z]
      exact ⟨_, he, fun v q => nomatch q⟩
    · rw [List.mem_singleton.mp z]
      exact ⟨o, ho, fun v q => by rw [hd] at q; cases q⟩
  keep := fun i h h' st k => by
    obtain ⟨⟨old, he⟩, hi, hne⟩ := st
    exact ⟨⟨old, k e List.mem_cons_self _ he⟩, hi.at fun o q => k it (List.mem_cons_of_mem _ List.mem_cons_self) o q, hne⟩
  item := by
    intro X hP hw hK hc i pins s σ H E I hf st hg
    subst hP hw hK
    obtain ⟨⟨old, he⟩, hit, hne⟩ := st
    obtain ⟨xs, x, hq, hx⟩ := hg
    obtain ⟨its, rv, p, hz⟩ := I.tuple hq
    obtain ⟨u, hu, ru⟩ := rv.get hx
    obtain ⟨hai, hea⟩ := enumT_ne he hit p
    have hel : e < s.heap.objs.size := Heap.lt_size he
    have hil : it < s.heap.objs.size := by
      obtain ⟨_, q, _⟩ := hit
      exact Heap.lt_size q
    have hisz : i < its.toArray.size := by
      have := (List.getElem?_eq_some_iff.mp hu).1
      simpa using this
    have hh : X.A.in1.handled = none := I.ok.hd hc
    refine PySem.wpAny_pyNext_enum_itemC (c := ((i : Nat) : Int)) (Draws.tuple hh it a hai its.toArray) he ⟨hit, p⟩ hisz hne (fun z => ?_) fun x' h' tk hP ho hst' hT hsz hk => ?_
    · rcases List.mem_cons.mp z with z | z
      · exact hne z
      · exact hea (List.mem_singleton.mp z)
    have ex : x' = u := by
      have q : its.toArray[i]? = some x' := hP
      rw [show its.toArray[i]? = its[i]? by simp] at q
      rw [hu] at q
      exact (Option.some.inj q).symm
    subst ex
    refine ⟨_, rfl, wpAny_letOwnedTupleGo_enum (s := { s with heap := h', toks := tk + 1 }) ho fun h'' he' sb => ?_⟩
    have hT2 : h''.get? s.heap.objs.size = some { cls := .type "tuple", data := .seq #[.int i tk, x'] } := (sb.2 _ (Nat.ne_of_gt hel)).trans hT
    have new : ObjOk X.prog X.w (upd H s.heap.objs.size (.tup [.int (i : Nat), x])) h'' s.heap.objs.size (.tup [.int (i : Nat), x]) :=
      ⟨by show 2 ≤ sizeLine; decide, [.int i tk, x'], .cons ⟨_, rfl⟩ (.cons ru .nil), ⟨_, hT2, rfl, _, rfl⟩⟩
    have I1 : Inv X pins σ (upd H s.heap.objs.size (.tup [.int (i : Nat), x])) { s with heap := h'', toks := tk + 1 } :=
      I.turnedNew (ch := [e, it]) (fun b ob hb q => (sb.2 b (fun z => hb (by simp [z]))).trans (hk b ob (fun z => hb (by simp [z])) (fun z => hb (by simp [z])) q)) hf (Nat.le_refl _) new
    refine ⟨.ref s.heap.objs.size, _, I1, rfl, ⟨_, x, rfl, I.hok.fresh (Nat.le_refl _), rfl, fun ys hy => by rw [I.tuple_inj hy hq]; exact hx⟩, ⟨⟨x', ?_⟩, hst'.1.at fun o q => (sb.2 it (Ne.symm hne)).trans q, hne⟩, fun b hb => ?_⟩
    · have e1 : ((i + 1 : Nat) : Int) = (i : Int) + 1 := by omega
      rw [e1]
      exact he'
    · have hb' : b < s.heap.objs.size := by
        rcases List.mem_cons.mp hb with z | z
        · rw [z]
          exact hel
        · rw [List.mem_singleton.mp z]
          exact hil
      rw [upd_ne (Nat.ne_of_lt hb')]
      exact (hf b hb).1
  done := by
    intro X hP hw hK hc i pins s σ H E I hf st hg
    subst hP hw hK
    obtain ⟨⟨old, he⟩, hit, hne⟩ := st
    obtain ⟨xs, hq, hx⟩ := hg
    obtain ⟨its, rv, p, hz⟩ := I.tuple hq
    obtain ⟨f0, f1, f2, f3, f4, f5⟩ := hf it (List.mem_cons_of_mem _ List.mem_cons_self)
    have hl := rv.length
    have hh : X.A.in1.handled = none := I.ok.hd hc
    obtain ⟨hai, hea⟩ := enumT_ne he hit p
    have hsz : i = its.toArray.size := by
      rw [← hx, hl]
      simp
    subst hsz
    exact wpAny_pyNext_enum_endD (Draws.tuple hh it a hai its.toArray) he ⟨hit, p⟩ fun h' eb => ⟨rfl, I.turned (t' := s.toks) (fun b o hb q => eb b o hb q) f0 f1 f3 f4 f5⟩
  self := fun A i s Q E st h => by
    obtain ⟨⟨_, he⟩, _⟩ := st
    exact wpAny_pyIter_enum he h

set_option maxHeartbeats 1000000 in
theorem meets_enum1 {v : Value} {o : Obj} {Z : Heap → Prop} (B : Begins v o Z) :
    Meets (Builtin.«enumerate.__new__» ⟨[.type "enumerate", v], []⟩) (fun _ R s => Z s.heap ∧
      R (.ok (.ret (.ref (s.heap.push o).objs.size))) { s with heap := (s.heap.push o).push { cls := .type "enumerate", data := .fields #[.none, .bool false, .ref s.heap.objs.size, rawInt 0, .none, .none] } }) :=
  .of_wp fun prog w A R s h => by
    obtain ⟨hp, g, d, tk, os⟩ := s
    obtain ⟨h1, h⟩ := h
    have hsub := sub_enumerate
    have q1 : ∀ {A' : Around} {E : Value → Shared → Prop} {Q : Value → Shared → Prop}, Q (.ref hp.objs.size) ⟨hp.push o, g, d, tk, os⟩ → wpAny (model prog w) A' (pyIter v) Q E ⟨hp, g, d, tk, os⟩ :=
      fun q => B.iter prog w _ _ ⟨hp, g, d, tk, os⟩ _ h1 q
    wp_walk using q1
    refine wpAny_stack_any fun st => wpAny_pure ?_
    split
    · rename_i c _ _ _ _ _
      cases (c == Value.type "enumerate")
      · wp_walk using q1
        exact ⟨_, rfl, h⟩
      · wp_walk using q1
        exact ⟨_, rfl, h⟩
    · wp_walk using q1
      exact ⟨_, rfl, h⟩
theorem enumT_begins {prog : Program} {w : World} {A : Around} {E : Value → Shared → Prop} {s : Shared} {t : Addr} {items : Array Value} {Q : Value → Shared → Prop} (ht : IsTup s.heap t items)
    (h : ∀ h', IsEnum h' (s.heap.objs.size + 1) s.heap.objs.size 0 .none → h'.IsTupleIter s.heap.objs.size t 0 → (∀ b o, s.heap.get? b = some o → h'.get? b = some o) →
      Q (.ref (s.heap.objs.size + 1)) { s with heap := h' }) : wpAny (model prog w) A (call (.type "enumerate") [.ref t]) Q E s := by
  refine callType_new F.called_enumerate (by decide) (F.typeCall_enumerate_1 _) (F.newCall_enumerate_1 _) (fun obj => F.args_object_init_2 obj _) F.entry_enumerate_new
    (meets_enum1 (begins_tuple t items)) ⟨ht, ?_⟩
  generalize ho : ({ cls := .type "tuple_iterator", data := .fields #[.ref t, .int 0 0] } : Obj) = o
  have hz : (s.heap.push o).objs.size = s.heap.objs.size + 1 := Heap.size_push ..
  show _ ∧ _
  rw [hz]
  have he : IsEnum ((s.heap.push o).push { cls := .type "enumerate", data := .fields #[.none, .bool false, .ref s.heap.objs.size, rawInt 0, .none, .none] }) (s.heap.objs.size + 1) s.heap.objs.size 0 .none := by
    have q := Heap.get?_push_size (s.heap.push o) (o := { cls := .type "enumerate", data := .fields #[.none, .bool false, .ref s.heap.objs.size, rawInt 0, .none, .none] }) rfl
    rw [hz] at q
    exact q
  refine ⟨⟨_, he, rfl⟩, h _ he ⟨o, Heap.get?_push_of_some _ (Heap.get?_push_size _ (by rw [← ho]; rfl)), by rw [← ho], by rw [← ho]; rfl⟩ fun b o' x => Heap.get?_push_of_some _ (Heap.get?_push_of_some _ x)⟩
def iEnumT (K : PySem.W.Frag) (ta : TA) : TI := fun σ H R => ta σ H fun vs H1 => ∃ a xs, vs = [.ref a] ∧ SqT K H1 a xs ∧ R (IteT K a) H1
theorem pi_enumT {X : Cx} {e : Expr} {ta : TA} {p pos tpos : Pos} {elts : List Expr} {kk : Nat} (hg : Gl X "enumerate") (hm : X.mg "enumerate" = none) (ha : PA X [e] ta) (hs : starEach [e] X.env = [(false, eval e X.env)] := by rfl) :
    PI X (.Tuple elts kk tpos) (.Call (.Name "enumerate" p) [e] [] pos) (iEnumT X.K ta) := by
  refine ⟨fun pins s σ H R I h => ?_⟩
  refine Call_ (ld_blt I hg hm boot_enumerate (PyProof.Rows.callWith_type1 (thn (ha.run pos pins s σ H _ I h) fun us s1 ⟨vs, H1, I1, r1, q1⟩ => ?_) hs rfl))
  obtain ⟨a, xs, ex, hq, q⟩ := q1
  subst ex
  cases r1 with
  | cons r rr =>
    cases rr
    cases r
    obtain ⟨its, rv, p', hz⟩ := I1.tuple hq
    refine enumT_begins p' fun h' he hit hk => wpAny_pyIter_enum he ?_
    have I2 : Inv X pins σ H1 { s1 with heap := h' } := I1.kept (t' := s1.toks) hk
    refine ⟨s1.heap.objs.size + 1, [s1.heap.objs.size + 1, s1.heap.objs.size], _, _, H1, rfl, I2, turn_enumT a (s1.heap.objs.size + 1) s1.heap.objs.size, ⟨⟨.none, he⟩, hit, Nat.succ_ne_self _⟩, fun b hb => ?_, q⟩
    have hle : s1.heap.objs.size ≤ b := by
      rcases List.mem_cons.mp hb with z | z
      · rw [z]
        exact Nat.le_succ _
      · rw [List.mem_singleton.mp z]
        exact Nat.le_refl _
    exact I1.fpOk hle (I1.hok.fresh hle)
/-- over the pairs of a tuple's places and items -/
theorem walk_enumT {K : PySem.W.Frag} {a : Addr} {xs : List V} : Walk (IteT K a) xs.length (fun H => SqT K H a xs) (YPair (fun i => some (.int (i : Nat))) (fun i => xs[i]?)) := by
  refine ⟨fun i _ hi q => ⟨xs, xs[i], q, List.getElem?_eq_getElem hi⟩, fun _ q => ⟨xs, q, rfl⟩, fun i H v H' _ q y => ?_⟩
  obtain ⟨T, x, h1, h2, h3, h4⟩ := y
  exact ⟨T, .int (i : Nat), x, h1, h2, h3, rfl, h4 xs q⟩
/-! ### max of a tuple of ints -/
theorem reads_ints {h : Heap} : ∀ {ns : List Int} {us : List Value}, Vals (ns.map V.int) us → ∃ as, ReadsAll h us (ns.map PyData.int) as
  | [], _, .nil => ⟨_, .nil⟩
  | n :: r, _, .cons q t => by
    obtain ⟨t', rfl⟩ := q
    obtain ⟨as, e⟩ := reads_ints t
    exact ⟨_, .cons (.int n t') e⟩
theorem alike_ints (ns : List Int) : PySem.W.AlikeAll (ns.map PyData.int) := by
  refine ⟨fun a ha b hb => ?_, fun a ha e => ?_⟩
  · obtain ⟨i, _, rfl⟩ := List.mem_map.mp ha
    obtain ⟨j, _, rfl⟩ := List.mem_map.mp hb
    simp only [PySem.W.alike]
  · obtain ⟨i, _, rfl⟩ := List.mem_map.mp ha
    cases e
theorem depth_ints : ∀ ns : List Int, PyData.depthAll (ns.map PyData.int) = 0
  | [] => by simp [PyData.depthAll]
  | n :: r => by
    have := depth_ints r
    simp [PyData.depthAll, PyData.depth, this]
def rMaxT (K : PySem.W.Frag) : List V → Hp → VK → Prop := fun vs H Q => ∃ (a : Addr) (n : Int) (ns : List Int), vs = [V.ref a] ∧ SqT K H a ((n :: ns).map V.int) ∧ Q (.int (ns.foldl max n)) H
theorem cr_maxT {X : Cx} {k : Nat} (hr : Room k X.A) (hc : X.calm = true) : CallR X (.builtin "max") (rMaxT X.K) := by
  intro pins s σ H vs us Q I r h
  obtain ⟨a, n, ns, rfl, hs, q⟩ := h
  obtain ⟨its, rv, p, _⟩ := I.tuple hs
  rw [Vals.ref1 r]
  obtain ⟨as, e⟩ := reads_ints (h := s.heap) rv
  rw [List.map_cons] at e
  have hd : PyData.depthAll (PyData.int n :: ns.map PyData.int) = 0 := depth_ints (n :: ns)
  have hal : PySem.W.AlikeAll (PyData.int n :: ns.map PyData.int) := alike_ints (n :: ns)
  refine PySem.W.max_tuple_data (I.ok.hd hc) (show s.heap.IsTuple a its.toArray from p) (by simpa using e) hal (by rw [hd]; exact hu_of hr) fun i v h' tk bs _ rd hk => ?_
  rw [PySem.W.maxD_ints] at rd
  cases rd
  exact ⟨.int _, H, I.kept (t' := tk) hk, ⟨_, rfl⟩, q⟩
/-! ### get of a written dict with text keys -/
theorem pe_kget {X : Cx} {d : Addr} {es : Array DictEntry} {n : Nat} {o e : Expr} {apos cpos : Pos} {td ty : TE} (D : KDict X.K X.w d es n) (ho : PE X o td) (he : PE X e ty) (m : M1 X o "get" apos e cpos) :
    PE X (.Call (.Attribute o "get" apos) [e] [] cpos) (fun σ H Q => td σ H fun x H1 => x = .ref d ∧ ty σ H1 fun y H2 => ∃ (z : Str) (u0 : Value) (v0 : V), y = .str z ∧ PySem.W.nsIn X.K d z = some (some u0) ∧ RelV v0 u0 ∧ Q v0 H2) := by
  refine ⟨fun pins s σ H Q I h => ?_⟩
  refine wpAny_Call_method m.base m.few m.line PySem.F.plainAttrs_dict PySem.F.slot_dict_get PySem.F.type_dict_get (thn (ho.run pins s σ H _ I h) fun u s1 ⟨x, H1, I1, rx, ex, q1⟩ => ?_)
  subst ex
  obtain rfl : u = Value.ref d := rx
  have M1 := PySem.W.mapOf_K (prog := X.prog) (w := X.w) I1.kIn D.at_ D.lit
  refine ⟨M1.typeIs, M1.noDict, ?_⟩
  rw [m.trees]
  refine Calls.callWith_builtin rfl (Calls.evalArgs_plain (Calls.spliced_cons (thn (he.run pins s1 σ H1 _ I1 q1) fun iv s2 ⟨y, H2, I2, ry, z, u0, v0, ey, e0, r0, q2⟩ => Calls.spliced_nil ?_)))
  subst ey
  obtain ⟨t, rfl⟩ := ry
  have M2 := PySem.W.mapOf_K (prog := X.prog) (w := X.w) I2.kIn D.at_ D.lit
  refine call_meetsIn PySem.F.slot_dict_get M2.typeIs PySem.F.entry_dict_get (PySem.F.args_dict_get_2 _ _) (meets_dict_get (PySem.strKind X.prog X.w) d (PySem.strKind_is X.prog X.w z t) D.low) ⟨_, M2, ?_⟩
  rw [PySem.W.find_K D.at_ e0]
  exact ⟨v0, H2, I2.tok _, r0, q2⟩
end BR
namespace BF
open PySem PySem.Spec PyProof.Rows L2
def topS (i : Nat) : Stmt := PySem.Challenge.pw_brimful_k36_whole_sources_on_borrowed_bi.main.body.getD i (.Pass ⟨0, 0, 0, 0⟩)
abbrev s_is_integer : Stmt := topS 9
abbrev s_is_number : Stmt := topS 10
abbrev s_check_gate : Stmt := topS 16
abbrev s_check_bits : Stmt := topS 17
abbrev s_perform : Stmt := topS 18
abbrev s_check_spread : Stmt := topS 19
abbrev s_spread : Stmt := topS 21
abbrev s_gates_of_step : Stmt := topS 22
abbrev s_gates_of : Stmt := topS 23
abbrev s_is_factor : Stmt := topS 26
abbrev s_is_add : Stmt := topS 28
abbrev s_is_step : Stmt := topS 30
abbrev s_check_steps : Stmt := topS 32
abbrev s_pinit : Stmt := inClass (topS 38) 0
abbrev s_is_node : Stmt := topS 44
abbrev s_check_source : Stmt := topS 45
abbrev s_needs : Stmt := topS 46
abbrev s_cost : Stmt := topS 47
abbrev s_leaf_step : Stmt := topS 50
abbrev s_product_tasks : Stmt := topS 51
abbrev s_inner_tasks : Stmt := topS 52
abbrev s_compile_source : Stmt := topS 53
abbrev s_l_mixed : Stmt := topS 55
abbrev s_l_numbers : Stmt := topS 56
abbrev s_l_draw : Stmt := topS 57
abbrev s_l_equal : Stmt := topS 58
abbrev s_l_all_equal : Stmt := topS 59
abbrev s_l_source : Stmt := topS 60
abbrev s_l_meaning : Stmt := topS 61
abbrev s_l_needs : Stmt := topS 62
abbrev s_l_spread : Stmt := topS 63
abbrev s_law : Stmt := topS 64
theorem c_is_integer : FnScope ["value"] ["value"] (defScope s_is_integer) := ⟨rfl, rfl, rfl, by decide +kernel, rfl, by decide +kernel, by decide +kernel⟩
theorem c_is_number : FnScope ["value", "modulus"] ["value", "modulus"] (defScope s_is_number) := ⟨rfl, rfl, rfl, by decide +kernel, rfl, by decide +kernel, by decide +kernel⟩
theorem c_check_gate : FnScope ["gate", "bits", "target", "controls", "last", "control"] ["gate", "bits"] (defScope s_check_gate) := ⟨rfl, rfl, rfl, by decide +kernel, rfl, by decide +kernel, by decide +kernel⟩
theorem c_check_bits : FnScope ["bits", "bit"] ["bits"] (defScope s_check_bits) := ⟨rfl, rfl, rfl, by decide +kernel, rfl, by decide +kernel, by decide +kernel⟩
theorem c_perform : FnScope ["gates", "bits", "gate", "found", "target", "controls", "control"] ["gates", "bits"] (defScope s_perform) := ⟨rfl, rfl, rfl, by decide +kernel, rfl, by decide +kernel, by decide +kernel⟩
theorem c_check_spread : FnScope ["target", "controls", "borrowed", "seen", "bit"] ["target", "controls", "borrowed"] (defScope s_check_spread) := ⟨rfl, rfl, rfl, by decide +kernel, rfl, by decide +kernel, by decide +kernel⟩
theorem c_spread : FnScope ["target", "controls", "borrowed", "ladder", "rung", "top", "down"] ["target", "controls", "borrowed"] (defScope s_spread) := ⟨rfl, rfl, rfl, by decide +kernel, rfl, by decide +kernel, by decide +kernel⟩
theorem c_gates_of_step : FnScope ["step", "inputs", "a", "b", "controls", "kind", "index", "bit"] ["step", "inputs"] (defScope s_gates_of_step) := ⟨rfl, rfl, rfl, by decide +kernel, rfl, by decide +kernel, by decide +kernel⟩
theorem c_gates_of : FnScope ["program", "gates", "step"] ["program"] (defScope s_gates_of) := ⟨rfl, rfl, rfl, by decide +kernel, rfl, by decide +kernel, by decide +kernel⟩
theorem c_is_factor : FnScope ["factor", "target", "cells", "inputs"] ["factor", "target", "cells", "inputs"] (defScope s_is_factor) := ⟨rfl, rfl, rfl, by decide +kernel, rfl, by decide +kernel, by decide +kernel⟩
theorem c_is_add : FnScope ["step", "modulus", "cells", "inputs", "_", "target", "coefficient", "factors", "factor"] ["step", "modulus", "cells", "inputs"] (defScope s_is_add) := ⟨rfl, rfl, rfl, by decide +kernel, rfl, by decide +kernel, by decide +kernel⟩
theorem c_is_step : FnScope ["step", "modulus", "cells", "inputs"] ["step", "modulus", "cells", "inputs"] (defScope s_is_step) := ⟨rfl, rfl, rfl, by decide +kernel, rfl, by decide +kernel, by decide +kernel⟩
theorem c_check_steps : FnScope ["steps", "modulus", "cells", "inputs", "most", "looks", "step"] ["steps", "modulus", "cells", "inputs", "most"] (defScope s_check_steps) := ⟨rfl, rfl, rfl, by decide +kernel, rfl, by decide +kernel, by decide +kernel⟩
theorem c_pinit : FnScope ["self", "modulus", "cells", "inputs", "steps"] ["self", "modulus", "cells", "inputs", "steps"] (defScope s_pinit) := ⟨rfl, rfl, rfl, by decide +kernel, rfl, by decide +kernel, by decide +kernel⟩
theorem c_is_node : FnScope ["node", "at", "index"] ["node", "at"] (defScope s_is_node) := ⟨rfl, rfl, rfl, by decide +kernel, rfl, by decide +kernel, by decide +kernel⟩
theorem c_check_source : FnScope ["source", "at", "node"] ["source"] (defScope s_check_source) := ⟨rfl, rfl, rfl, by decide +kernel, rfl, by decide +kernel, by decide +kernel⟩
theorem c_needs : FnScope ["source", "many", "node"] ["source"] (defScope s_needs) := ⟨rfl, rfl, rfl, by decide +kernel, rfl, by decide +kernel, by decide +kernel⟩
theorem c_cost : FnScope ["source", "costs", "node", "third"] ["source"] (defScope s_cost) := ⟨rfl, rfl, rfl, by decide +kernel, rfl, by decide +kernel, by decide +kernel⟩
theorem c_leaf_step : FnScope ["node", "task", "modulus", "_", "target", "coefficient", "factors"] ["node", "task", "modulus"] (defScope s_leaf_step) := ⟨rfl, rfl, rfl, by decide +kernel, rfl, by decide +kernel, by decide +kernel⟩
theorem c_product_tasks : FnScope ["first", "second", "task", "modulus", "_", "target", "coefficient", "factors", "spare", "used", "through", "tasks", "passes", "sign", "part", "node"] ["first", "second", "task", "modulus"] (defScope s_product_tasks) := ⟨rfl, rfl, rfl, by decide +kernel, rfl, by decide +kernel, by decide +kernel⟩
theorem c_inner_tasks : FnScope ["node", "task", "modulus", "_", "target", "coefficient", "factors", "spare", "alone", "both", "part"] ["node", "task", "modulus"] (defScope s_inner_tasks) := ⟨rfl, rfl, rfl, by decide +kernel, rfl, by decide +kernel, by decide +kernel⟩
theorem c_compile_source : FnScope ["source", "modulus", "total", "empty", "steps", "tasks", "task", "node"] ["source", "modulus"] (defScope s_compile_source) := ⟨rfl, rfl, rfl, by decide +kernel, rfl, by decide +kernel, by decide +kernel⟩
theorem c_l_mixed : FnScope ["_law_number", "_law_k", "_law_step"] ["_law_number", "_law_k"] (defScope s_l_mixed) := ⟨rfl, rfl, rfl, by decide +kernel, rfl, by decide +kernel, by decide +kernel⟩
theorem c_l_numbers : FnScope ["_law_script", "_law_numbers_here", "_law_cell", "_law_rest", "_law_k"] ["_law_script"] (defScope s_l_numbers) := ⟨rfl, rfl, rfl, by decide +kernel, rfl, by decide +kernel, by decide +kernel⟩
theorem c_l_draw : FnScope ["_law_draws", "_law_at", "_law_first"] ["_law_draws"] (defScope s_l_draw) := ⟨rfl, rfl, rfl, by decide +kernel, rfl, by decide +kernel, by decide +kernel⟩
theorem c_l_equal : FnScope ["_law_actual", "_law_due"] ["_law_actual", "_law_due"] (defScope s_l_equal) := ⟨rfl, rfl, rfl, by decide +kernel, rfl, by decide +kernel, by decide +kernel⟩
theorem c_l_all_equal : FnScope ["_law_actual", "_law_due", "_law_k"] ["_law_actual", "_law_due"] (defScope s_l_all_equal) := ⟨rfl, rfl, rfl, by decide +kernel, rfl, by decide +kernel, by decide +kernel⟩
theorem c_l_source : FnScope ["_law_draws", "_law_many", "_law_inputs", "_law_nodes", "_law_costs", "_law_k", "_law_pick", "_law_i", "_law_j", "_law_l", "_law_node", "_law_cost"] ["_law_draws", "_law_many", "_law_inputs"] (defScope s_l_source) := ⟨rfl, rfl, rfl, by decide +kernel, rfl, by decide +kernel, by decide +kernel⟩
theorem c_l_meaning : FnScope ["_law_source_here", "_law_modulus", "_law_given", "_law_worth", "_law_node", "_law_i"] ["_law_source_here", "_law_modulus", "_law_given"] (defScope s_l_meaning) := ⟨rfl, rfl, rfl, by decide +kernel, rfl, by decide +kernel, by decide +kernel⟩
theorem c_l_needs : FnScope ["_law_source_here", "_law_node"] ["_law_source_here"] (defScope s_l_needs) := ⟨rfl, rfl, rfl, by decide +kernel, rfl, by decide +kernel, by decide +kernel⟩
theorem c_l_spread : FnScope ["_law_draws", "_law_gates", "_law_many", "_law_wide", "_law_target", "_law_controls", "_law_free", "_law_need", "_law_bit"] ["_law_draws", "_law_gates", "_law_many"] (defScope s_l_spread) := ⟨rfl, rfl, rfl, by decide +kernel, rfl, by decide +kernel, by decide +kernel⟩
theorem c_law : FnScope ["_law_script", "_law_draws", "_law_source_here", "_law_inputs", "_law_gates", "_law_many", "_law_wide", "_law_turn", "_law_bits", "_law_given", "_law_due", "_law_kept", "_law_k"] ["_law_script"] (defScope s_law) := ⟨rfl, rfl, rfl, by decide +kernel, rfl, by decide +kernel, by decide +kernel⟩
/-- where the top's things stand -/
structure Ds where
  f_is_integer : Addr
  d_is_integer : FuncData
  f_is_number : Addr
  d_is_number : FuncData
  f_check_gate : Addr
  d_check_gate : FuncData
  f_check_bits : Addr
  d_check_bits : FuncData
  f_perform : Addr
  d_perform : FuncData
  f_check_spread : Addr
  d_check_spread : FuncData
  f_spread : Addr
  d_spread : FuncData
  f_gates_of_step : Addr
  d_gates_of_step : FuncData
  f_gates_of : Addr
  d_gates_of : FuncData
  f_is_factor : Addr
  d_is_factor : FuncData
  f_is_add : Addr
  d_is_add : FuncData
  f_is_step : Addr
  d_is_step : FuncData
  f_check_steps : Addr
  d_check_steps : FuncData
  f_pinit : Addr
  d_pinit : FuncData
  f_is_node : Addr
  d_is_node : FuncData
  f_check_source : Addr
  d_check_source : FuncData
  f_needs : Addr
  d_needs : FuncData
  f_cost : Addr
  d_cost : FuncData
  f_leaf_step : Addr
  d_leaf_step : FuncData
  f_product_tasks : Addr
  d_product_tasks : FuncData
  f_inner_tasks : Addr
  d_inner_tasks : FuncData
  f_compile_source : Addr
  d_compile_source : FuncData
  f_l_mixed : Addr
  d_l_mixed : FuncData
  f_l_numbers : Addr
  d_l_numbers : FuncData
  f_l_draw : Addr
  d_l_draw : FuncData
  f_l_equal : Addr
  d_l_equal : FuncData
  f_l_all_equal : Addr
  d_l_all_equal : FuncData
  f_l_source : Addr
  d_l_source : FuncData
  f_l_meaning : Addr
  d_l_meaning : FuncData
  f_l_needs : Addr
  d_l_needs : FuncData
  f_l_spread : Addr
  d_l_spread : FuncData
  C : Addr
  L : Addr
  Les : Array DictEntry
  Ln : Nat
  t_BITS : Tok
  t_MOST_gates : Tok
  t_FACTORS : Tok
  t_MODULUS : Tok
  t_CELLS : Tok
  t_INPUTS_programs : Tok
  t_STEPS : Tok
  t_NODES : Tok
  t_CONSTANT : Tok
  t_INPUTS_sources : Tok
  t_MOST_three : Tok
  u_const : Tok
  u_input : Tok
  u_sum : Tok
  u_product : Tok
  u_scaled : Tok
  u_choose : Tok
/-- the facts about the top -/
structure Txt (w : World) (K : PySem.W.Frag) (mg : Str → Option Value) (D : Ds) : Prop where
  F_is_integer : Fun K "is_integer" "is_integer" s_is_integer D.f_is_integer D.d_is_integer
  b_is_integer : Binds K D.d_is_integer ["value"] []
  g_is_integer : mg "is_integer" = some (.ref D.f_is_integer)
  F_is_number : Fun K "is_number" "is_number" s_is_number D.f_is_number D.d_is_number
  b_is_number : Binds K D.d_is_number ["value", "modulus"] []
  g_is_number : mg "is_number" = some (.ref D.f_is_number)
  F_check_gate : Fun K "check_gate" "check_gate" s_check_gate D.f_check_gate D.d_check_gate
  b_check_gate : Binds K D.d_check_gate ["gate", "bits"] []
  g_check_gate : mg "check_gate" = some (.ref D.f_check_gate)
  F_check_bits : Fun K "check_bits" "check_bits" s_check_bits D.f_check_bits D.d_check_bits
  b_check_bits : Binds K D.d_check_bits ["bits"] []
  g_check_bits : mg "check_bits" = some (.ref D.f_check_bits)
  F_perform : Fun K "perform" "perform" s_perform D.f_perform D.d_perform
  b_perform : Binds K D.d_perform ["gates", "bits"] []
  g_perform : mg "perform" = some (.ref D.f_perform)
  F_check_spread : Fun K "check_spread" "check_spread" s_check_spread D.f_check_spread D.d_check_spread
  b_check_spread : Binds K D.d_check_spread ["target", "controls", "borrowed"] []
  g_check_spread : mg "check_spread" = some (.ref D.f_check_spread)
  F_spread : Fun K "spread" "spread" s_spread D.f_spread D.d_spread
  b_spread : Binds K D.d_spread ["target", "controls", "borrowed"] []
  g_spread : mg "spread" = some (.ref D.f_spread)
  F_gates_of_step : Fun K "gates_of_step" "gates_of_step" s_gates_of_step D.f_gates_of_step D.d_gates_of_step
  b_gates_of_step : Binds K D.d_gates_of_step ["step", "inputs"] []
  g_gates_of_step : mg "gates_of_step" = some (.ref D.f_gates_of_step)
  F_gates_of : Fun K "gates_of" "gates_of" s_gates_of D.f_gates_of D.d_gates_of
  b_gates_of : Binds K D.d_gates_of ["program"] []
  g_gates_of : mg "gates_of" = some (.ref D.f_gates_of)
  F_is_factor : Fun K "is_factor" "is_factor" s_is_factor D.f_is_factor D.d_is_factor
  b_is_factor : Binds K D.d_is_factor ["factor", "target", "cells", "inputs"] []
  g_is_factor : mg "is_factor" = some (.ref D.f_is_factor)
  F_is_add : Fun K "is_add" "is_add" s_is_add D.f_is_add D.d_is_add
  b_is_add : Binds K D.d_is_add ["step", "modulus", "cells", "inputs"] []
  g_is_add : mg "is_add" = some (.ref D.f_is_add)
  F_is_step : Fun K "is_step" "is_step" s_is_step D.f_is_step D.d_is_step
  b_is_step : Binds K D.d_is_step ["step", "modulus", "cells", "inputs"] []
  g_is_step : mg "is_step" = some (.ref D.f_is_step)
  F_check_steps : Fun K "check_steps" "check_steps" s_check_steps D.f_check_steps D.d_check_steps
  b_check_steps : Binds K D.d_check_steps ["steps", "modulus", "cells", "inputs", "most"] []
  g_check_steps : mg "check_steps" = some (.ref D.f_check_steps)
  F_pinit : Fun K "__init__" "Program.__init__" s_pinit D.f_pinit D.d_pinit
  b_pinit : Binds K D.d_pinit ["self", "modulus", "cells", "inputs", "steps"] []
  F_is_node : Fun K "is_node" "is_node" s_is_node D.f_is_node D.d_is_node
  b_is_node : Binds K D.d_is_node ["node", "at"] []
  g_is_node : mg "is_node" = some (.ref D.f_is_node)
  F_check_source : Fun K "check_source" "check_source" s_check_source D.f_check_source D.d_check_source
  b_check_source : Binds K D.d_check_source ["source"] []
  g_check_source : mg "check_source" = some (.ref D.f_check_source)
  F_needs : Fun K "needs" "needs" s_needs D.f_needs D.d_needs
  b_needs : Binds K D.d_needs ["source"] []
  g_needs : mg "needs" = some (.ref D.f_needs)
  F_cost : Fun K "cost" "cost" s_cost D.f_cost D.d_cost
  b_cost : Binds K D.d_cost ["source"] []
  g_cost : mg "cost" = some (.ref D.f_cost)
  F_leaf_step : Fun K "leaf_step" "leaf_step" s_leaf_step D.f_leaf_step D.d_leaf_step
  b_leaf_step : Binds K D.d_leaf_step ["node", "task", "modulus"] []
  g_leaf_step : mg "leaf_step" = some (.ref D.f_leaf_step)
  F_product_tasks : Fun K "product_tasks" "product_tasks" s_product_tasks D.f_product_tasks D.d_product_tasks
  b_product_tasks : Binds K D.d_product_tasks ["first", "second", "task", "modulus"] []
  g_product_tasks : mg "product_tasks" = some (.ref D.f_product_tasks)
  F_inner_tasks : Fun K "inner_tasks" "inner_tasks" s_inner_tasks D.f_inner_tasks D.d_inner_tasks
  b_inner_tasks : Binds K D.d_inner_tasks ["node", "task", "modulus"] []
  g_inner_tasks : mg "inner_tasks" = some (.ref D.f_inner_tasks)
  F_compile_source : Fun K "compile_source" "compile_source" s_compile_source D.f_compile_source D.d_compile_source
  b_compile_source : Binds K D.d_compile_source ["source", "modulus"] []
  g_compile_source : mg "compile_source" = some (.ref D.f_compile_source)
  F_l_mixed : Fun K "_law_mixed" "_law_mixed" s_l_mixed D.f_l_mixed D.d_l_mixed
  b_l_mixed : Binds K D.d_l_mixed ["_law_number", "_law_k"] []
  g_l_mixed : mg "_law_mixed" = some (.ref D.f_l_mixed)
  F_l_numbers : Fun K "_law_numbers" "_law_numbers" s_l_numbers D.f_l_numbers D.d_l_numbers
  b_l_numbers : Binds K D.d_l_numbers ["_law_script"] []
  g_l_numbers : mg "_law_numbers" = some (.ref D.f_l_numbers)
  F_l_draw : Fun K "_law_draw" "_law_draw" s_l_draw D.f_l_draw D.d_l_draw
  b_l_draw : Binds K D.d_l_draw ["_law_draws"] []
  g_l_draw : mg "_law_draw" = some (.ref D.f_l_draw)
  F_l_equal : Fun K "_law_equal" "_law_equal" s_l_equal D.f_l_equal D.d_l_equal
  b_l_equal : Binds K D.d_l_equal ["_law_actual", "_law_due"] []
  g_l_equal : mg "_law_equal" = some (.ref D.f_l_equal)
  F_l_all_equal : Fun K "_law_all_equal" "_law_all_equal" s_l_all_equal D.f_l_all_equal D.d_l_all_equal
  b_l_all_equal : Binds K D.d_l_all_equal ["_law_actual", "_law_due"] []
  g_l_all_equal : mg "_law_all_equal" = some (.ref D.f_l_all_equal)
  F_l_source : Fun K "_law_source" "_law_source" s_l_source D.f_l_source D.d_l_source
  b_l_source : Binds K D.d_l_source ["_law_draws", "_law_many", "_law_inputs"] []
  g_l_source : mg "_law_source" = some (.ref D.f_l_source)
  F_l_meaning : Fun K "_law_meaning" "_law_meaning" s_l_meaning D.f_l_meaning D.d_l_meaning
  b_l_meaning : Binds K D.d_l_meaning ["_law_source_here", "_law_modulus", "_law_given"] []
  g_l_meaning : mg "_law_meaning" = some (.ref D.f_l_meaning)
  F_l_needs : Fun K "_law_needs" "_law_needs" s_l_needs D.f_l_needs D.d_l_needs
  b_l_needs : Binds K D.d_l_needs ["_law_source_here"] []
  g_l_needs : mg "_law_needs" = some (.ref D.f_l_needs)
  F_l_spread : Fun K "_law_spread" "_law_spread" s_l_spread D.f_l_spread D.d_l_spread
  b_l_spread : Binds K D.d_l_spread ["_law_draws", "_law_gates", "_law_many"] []
  g_l_spread : mg "_law_spread" = some (.ref D.f_l_spread)
  g_Program : mg "Program" = some (.ref D.C)
  clC : Cls K D.C
  mkC : Mk K D.C D.f_pinit
  n_modulus : NoAttr K D.C "modulus"
  n_cells : NoAttr K D.C "cells"
  n_inputs : NoAttr K D.C "inputs"
  n_steps : NoAttr K D.C "steps"
  k_BITS : mg "BITS" = some (.int 120 D.t_BITS)
  k_MOST_gates : mg "MOST_gates" = some (.int 60000 D.t_MOST_gates)
  k_FACTORS : mg "FACTORS" = some (.int 3 D.t_FACTORS)
  k_MODULUS : mg "MODULUS" = some (.int 1000000000 D.t_MODULUS)
  k_CELLS : mg "CELLS" = some (.int 60 D.t_CELLS)
  k_INPUTS_programs : mg "INPUTS_programs" = some (.int 60 D.t_INPUTS_programs)
  k_STEPS : mg "STEPS" = some (.int 20000 D.t_STEPS)
  k_NODES : mg "NODES" = some (.int 200 D.t_NODES)
  k_CONSTANT : mg "CONSTANT" = some (.int 1000000000 D.t_CONSTANT)
  k_INPUTS_sources : mg "INPUTS_sources" = some (.int 60 D.t_INPUTS_sources)
  k_MOST_three : mg "MOST_three" = some (.int 20000 D.t_MOST_three)
  g_LENGTHS : mg "LENGTHS" = some (.ref D.L)
  kd : KDict K w D.L D.Les D.Ln
  l_const : PySem.W.nsIn K D.L "const" = some (some (.int 2 D.u_const))
  l_input : PySem.W.nsIn K D.L "input" = some (some (.int 2 D.u_input))
  l_sum : PySem.W.nsIn K D.L "sum" = some (some (.int 3 D.u_sum))
  l_product : PySem.W.nsIn K D.L "product" = some (some (.int 3 D.u_product))
  l_scaled : PySem.W.nsIn K D.L "scaled" = some (some (.int 3 D.u_scaled))
  l_choose : PySem.W.nsIn K D.L "choose" = some (some (.int 4 D.u_choose))
  z_isinstance : mg "isinstance" = none
  z_int : mg "int" = none
  z_bool : mg "bool" = none
  z_tuple : mg "tuple" = none
  z_list : mg "list" = none
  z_str : mg "str" = none
  z_len : mg "len" = none
  z_max : mg "max" = none
  z_min : mg "min" = none
  z_sorted : mg "sorted" = none
  z_all : mg "all" = none
  z_range : mg "range" = none
  z_enumerate : mg "enumerate" = none
end BF
namespace BF
open PySem PySem.Spec PyProof.Rows L2
/-! ### heaps -/
theorem sz {n : Nat} (h : n ≤ 100000) : n ≤ sizeLine := Nat.le_trans h (by decide)
theorem szl {n : Nat} (h : n ≤ 100000) : n < sizeLine := Nat.lt_of_le_of_lt h (by decide)
theorem same_new {H : Hp} {p : Addr} {o : HO} (h : H p = none) : Same H (upd H p o) := fun b x e => by
  rw [upd_ne (ne_of_none e h)]
  exact e
/-- an object that H does not know may change -/
theorem same_mut {H H' : Hp} {p : Addr} {o : HO} (e : Same H H') (h : H p = none) : Same H (upd H' p o) := fun a u ha => by
  rw [upd_ne (ne_of_none ha h)]
  exact e a u ha
theorem same_free {H H' : Hp} {p : Addr} (e : Same H H') (h : H' p = none) : H p = none := e.free h
theorem same_seqT {K : PySem.W.Frag} {H H' : Hp} {a : Addr} {xs : List V} (e : Same H H') (h : SqT K H a xs) : SqT K H' a xs := by
  rcases h with (h | ⟨o, h⟩) | h
  · exact .inl (.inl (e _ _ h))
  · exact .inl (.inr ⟨o, e _ _ h⟩)
  · exact .inr h
/-- the tuples stand -/
def TK (H H' : Hp) : Prop := ∀ b xs, H b = some (.tup xs) → H' b = some (.tup xs)
theorem TK.refl (H : Hp) : TK H H := fun _ _ h => h
theorem TK.trans {H H1 H2 : Hp} (a : TK H H1) (b : TK H1 H2) : TK H H2 := fun c o h => b c o (a c o h)
theorem tk_same {H H' : Hp} (e : Same H H') : TK H H' := fun b xs h => e b _ h
theorem tk_new {H : Hp} {p : Addr} {o : HO} (h : H p = none) : TK H (upd H p o) := tk_same (same_new h)
theorem tk_lst {H : Hp} {p : Addr} {xs : List V} {o : HO} (h : H p = some (.lst xs)) : TK H (upd H p o) := fun b ys e => by
  rw [upd_ne (ne_of e h (fun z => by cases z))]
  exact e
/-- all but what stands at D is as it was -/
def But (D : Addr) (H H' : Hp) : Prop := ∀ b o, b ≠ D → H b = some o → H' b = some o
theorem But.refl (D : Addr) (H : Hp) : But D H H := fun _ _ _ h => h
theorem But.trans {D : Addr} {H H1 H2 : Hp} (a : But D H H1) (b : But D H1 H2) : But D H H2 := fun c o n h => b c o n (a c o n h)
theorem but_same {D : Addr} {H H' : Hp} (e : Same H H') : But D H H' := fun b o _ h => e b o h
theorem but_tk {D : Addr} {H H' : Hp} {xs : List V} (e : But D H H') (h : H D = some (.lst xs)) : TK H H' := fun b ys q => e b _ (ne_of q h (fun z => by cases z)) q

/-! ### tests, items -/
theorem iteN {c A B : Prop} [Decidable c] (hc : ¬ c) (h : B) : if decide c = true then A else B := by
  rw [decide_eq_false hc]
  exact iteF h
theorem iteY {c A B : Prop} [Decidable c] (hc : c) (h : A) : if decide c = true then A else B := by
  rw [decide_eq_true hc]
  exact iteT h
theorem iteNN {c A B : Prop} [Decidable c] (hc : ¬ c) (h : A) : if (!decide c) = true then A else B := by
  rw [decide_eq_false hc]
  exact iteT h
theorem ite2d {c A B : Prop} [Decidable c] (h1 : c → A) (h2 : ¬ c → B) : if decide c = true then A else B := by
  by_cases h : c
  · exact iteY h (h1 h)
  · exact iteN h (h2 h)
theorem map_get {α : Type} {f : α → V} {l : List α} {i : Nat} {v : V} (h : (l.map f)[i]? = some v) : ∃ x, l[i]? = some x ∧ v = f x := by
  rw [List.getElem?_map] at h
  cases e : l[i]? with
  | none => rw [e] at h; cases h
  | some x => rw [e] at h; exact ⟨x, rfl, (Option.some.inj h).symm⟩
theorem map_at {α : Type} (f : α → V) {l : List α} {i : Nat} {x : α} (h : l[i]? = some x) : (l.map f)[i]? = some (f x) := by
  rw [List.getElem?_map, h]
  rfl
theorem ixN_nat {n j : Nat} (h : j < n) : ixN n (j : Int) = some j := by
  unfold ixN
  rw [if_pos (by omega), if_pos (by omega)]
  simp
theorem int_ne {i j : Int} (h : i ≠ j) : ¬ V.int i = V.int j := fun z => h (V.int.inj z)
/-! ### lists of references -/
inductive Refs {α : Type} (R : Addr → α → Prop) : List V → List α → Prop where
  | nil : Refs R [] []
  | cons {p : Addr} {x : α} {vs : List V} {xs : List α} : R p x → Refs R vs xs → Refs R (.ref p :: vs) (x :: xs)
section
variable {α : Type} {R R' : Addr → α → Prop} {vs ws : List V} {xs ys : List α}
theorem Refs.len (h : Refs R vs xs) : vs.length = xs.length := by
  induction h with
  | nil => rfl
  | cons _ _ ih => rw [List.length_cons, List.length_cons, ih]
theorem Refs.mono (h : Refs R vs xs) (m : ∀ p x, R p x → R' p x) : Refs R' vs xs := by
  induction h with
  | nil => exact .nil
  | cons r _ ih => exact .cons (m _ _ r) ih
theorem Refs.append (h : Refs R vs xs) (h' : Refs R ws ys) : Refs R (vs ++ ws) (xs ++ ys) := by
  induction h with
  | nil => exact h'
  | cons r _ ih => exact .cons r ih
theorem Refs.one {p : Addr} {x : α} (h : R p x) : Refs R [.ref p] [x] := .cons h .nil
theorem Refs.snoc {p : Addr} {x : α} (h : Refs R vs xs) (r : R p x) : Refs R (vs ++ [.ref p]) (xs ++ [x]) := h.append (.one r)
theorem Refs.reverse (h : Refs R vs xs) : Refs R vs.reverse xs.reverse := by
  induction h with
  | nil => exact .nil
  | cons r _ ih =>
    rw [List.reverse_cons, List.reverse_cons]
    exact ih.snoc r
theorem Refs.get (h : Refs R vs xs) : ∀ {i : Nat} {v : V}, vs[i]? = some v → ∃ p x, v = .ref p ∧ xs[i]? = some x ∧ R p x := by
  induction h with
  | nil =>
    intro i v e
    simp at e
  | cons r _ ih =>
    intro i v e
    cases i with
    | zero =>
      have e1 := Option.some.inj e
      exact ⟨_, _, e1.symm, rfl, r⟩
    | succ i => exact ih e
theorem Refs.at (h : Refs R vs xs) {i : Nat} {x : α} (e : xs[i]? = some x) : ∃ p, vs[i]? = some (.ref p) ∧ R p x := by
  have hi : i < vs.length := by
    rw [h.len]
    exact (List.getElem?_eq_some_iff.mp e).1
  obtain ⟨p, y, e1, e2, r⟩ := h.get (List.getElem?_eq_getElem hi)
  rw [e] at e2
  cases e2
  exact ⟨p, by rw [List.getElem?_eq_getElem hi, e1], r⟩
theorem Refs.take (h : Refs R vs xs) (n : Nat) : Refs R (vs.take n) (xs.take n) := by
  induction h generalizing n with
  | nil => rw [List.take_nil, List.take_nil]; exact .nil
  | cons r _ ih =>
    cases n with
    | zero => exact .nil
    | succ n => exact .cons r (ih n)
end

/-! ### the data -/
def b2 (b : Bool) : Int := if b then 1 else 0
def Nd.enc : Nd → List V
  | .cst c => [.str "const", .int (c : Int)]
  | .inp k => [.str "input", .int (k : Int)]
  | .sm i j => [.str "sum", .int (i : Int), .int (j : Int)]
  | .pr i j => [.str "product", .int (i : Int), .int (j : Int)]
  | .sc c i => [.str "scaled", .int (c : Int), .int (i : Int)]
  | .ch i j l => [.str "choose", .int (i : Int), .int (j : Int), .int (l : Int)]
def NdAt (H : Hp) (p : Addr) (nd : Nd) : Prop := H p = some (.tup nd.enc)
def SrcAt (H : Hp) (a : Addr) (s : List Nd) : Prop := ∃ vs, H a = some (.tup vs) ∧ Refs (NdAt H) vs s
def Fac.enc : Fac → List V
  | .cell i => [.str "cell", .int (i : Int)]
  | .inp k => [.str "input", .int (k : Int)]
def FacAt (H : Hp) (p : Addr) (f : Fac) : Prop := H p = some (.tup f.enc)
def FacsAt (H : Hp) (a : Addr) (fs : List Fac) : Prop := ∃ vs, H a = some (.tup vs) ∧ Refs (FacAt H) vs fs
def TkAt (H : Hp) (p : Addr) (k : Tk) : Prop := ∃ f, H p = some (.tup [.int (k.n : Int), .int (k.t : Int), .int (b2 k.c), .ref f, .int (k.s : Int)]) ∧ FacsAt H f (facs k.f)
def StpAt (H : Hp) (p : Addr) (st : Stp) : Prop := ∃ f, H p = some (.tup [.str "add", .int (st.t : Int), .int (b2 st.c), .ref f]) ∧ FacsAt H f st.fs
def nums (l : List Nat) : List V := l.map fun (n : Nat) => V.int (n : Int)
def GtAt (H : Hp) (p : Addr) (G : Gt) : Prop := ∃ c, H p = some (.tup [.int (G.1 : Int), .ref c]) ∧ H c = some (.tup (nums G.2))
def GtsAt (H : Hp) (a : Addr) (gs : List Gt) : Prop := ∃ vs, H a = some (.lst vs) ∧ Refs (GtAt H) vs gs
section
variable {H H' : Hp} {p : Addr}
theorem NdAt.mono (t : TK H H') {nd : Nd} (h : NdAt H p nd) : NdAt H' p nd := t _ _ h
theorem SrcAt.mono (t : TK H H') {s : List Nd} (h : SrcAt H p s) : SrcAt H' p s := by
  obtain ⟨vs, e, r⟩ := h
  exact ⟨vs, t _ _ e, r.mono fun _ _ q => t _ _ q⟩
theorem FacsAt.mono (t : TK H H') {s : List Fac} (h : FacsAt H p s) : FacsAt H' p s := by
  obtain ⟨vs, e, r⟩ := h
  exact ⟨vs, t _ _ e, r.mono fun _ _ q => t _ _ q⟩
theorem TkAt.mono (t : TK H H') {k : Tk} (h : TkAt H p k) : TkAt H' p k := by
  obtain ⟨f, e, r⟩ := h
  exact ⟨f, t _ _ e, r.mono t⟩
theorem StpAt.mono (t : TK H H') {k : Stp} (h : StpAt H p k) : StpAt H' p k := by
  obtain ⟨f, e, r⟩ := h
  exact ⟨f, t _ _ e, r.mono t⟩
theorem GtAt.mono (t : TK H H') {k : Gt} (h : GtAt H p k) : GtAt H' p k := by
  obtain ⟨f, e, r⟩ := h
  exact ⟨f, t _ _ e, t _ _ r⟩
end
theorem kI {K : PySem.W.Frag} {H : Hp} {i : Int} : TyX K H (.int i) (.type "int") := .base (.int i)
theorem kB {K : PySem.W.Frag} {H : Hp} {i : Bool} : TyX K H (.bl i) (.type "bool") := .base (.bl i)
theorem kS {K : PySem.W.Frag} {H : Hp} {i : Str} : TyX K H (.str i) (.type "str") := .base (.str i)
theorem kL {K : PySem.W.Frag} {H : Hp} {a : Addr} {xs : List V} (h : H a = some (.lst xs)) : TyX K H (.ref a) (.type "list") := .base (.lst h)
theorem kT {K : PySem.W.Frag} {H : Hp} {a : Addr} {xs : List V} (h : H a = some (.tup xs)) : TyX K H (.ref a) (.type "tuple") := .base (.tup h)
end BF
namespace BF
open PySem PySem.Spec PyProof.Rows L2 BR
def spIsInteger : Sp := fun vs H Q _ => ∃ i : Int, vs = [.int i] ∧ Q (.bl true) H
def spIsNumber : Sp := fun vs H Q _ => ∃ i m : Int, vs = [.int i, .int m] ∧ Q (.bl (decide (0 ≤ i ∧ i < m))) H
section
variable {P : Program} {w : World} {K : PySem.W.Frag} {mg : Str → Option Value} {base : Heap} {D : Ds}
theorem ok_is_integer (T : Txt w K mg D) : FnOk P w K mg base CX0 1 D.f_is_integer D.d_is_integer ["value"] spIsInteger := by
  refine T.F_is_integer.ok c_is_integer (fun vs H Q E h => ?_) (fun cdv A outer s H vs Q E hr h => ?_)
  · obtain ⟨i, rfl, _⟩ := h
    rfl
  · obtain ⟨i, rfl, q⟩ := h
    refine ⟨_, pss_one (ps_ret (pe_and (pe_callB call_isi (by rfl) T.z_isinstance (by decide +kernel) (pa_cons (pv 0) (pa_cons (pe_bltn (v := .ty "int") (u := .type "int") (by rfl) T.z_int (by decide +kernel) rfl) pa_nil)))
      (pe_one (pe_not (pe_callB call_isi (by rfl) T.z_isinstance (by decide +kernel) (pa_cons (pv 0) (pa_cons (pe_bltn (v := .ty "bool") (u := .type "bool") (by rfl) T.z_bool (by decide +kernel) rfl) pa_nil))))))), ?_⟩
    refine ⟨_, rfl, _, _, _, _, true, rfl, .ty _, kI, kit_ty (by decide +kernel), true, rfl, iteT ?_⟩
    refine ⟨_, rfl, _, _, _, _, false, rfl, .ty _, kI, kit_ty (by decide +kernel), false, rfl, ?_⟩
    exact q
theorem ok_is_number (T : Txt w K mg D) : FnOk P w K mg base CX0 2 D.f_is_number D.d_is_number ["value", "modulus"] spIsNumber := by
  have G1 : FnOk P w K mg base CX0 1 D.f_is_integer D.d_is_integer ["value"] spIsInteger := ok_is_integer T
  refine T.F_is_number.ok c_is_number (fun vs H Q E h => ?_) (fun cdv A outer s H vs Q E hr h => ?_)
  · obtain ⟨i, m, rfl, _⟩ := h
    rfl
  · obtain ⟨i, m, rfl, q⟩ := h
    refine ⟨_, pss_one (ps_ret (pe_and (pe_call G1 hr (by rfl) T.g_is_integer T.F_is_integer.kp T.b_is_integer .nil pass0 (pa_cons (pv 0) pa_nil))
      (pe_one (pe_chain op_le op_lt pe_int (pv 0) (pv 1))))), ?_⟩
    refine ⟨_, rfl, i, rfl, true, rfl, iteT ?_⟩
    refine ⟨_, rfl, _, _, rfl, rfl, _, rfl, ite2 (fun e => ?_) (fun e => ?_)⟩
    · refine ⟨_, rfl, _, _, rfl, rfl, ?_⟩
      have e1 : (0 : Int) ≤ i := of_decide_eq_true e
      have e2 : decide (i < m) = decide (0 ≤ i ∧ i < m) := by
        by_cases h : i < m
        · rw [decide_eq_true h, decide_eq_true ⟨e1, h⟩]
        · rw [decide_eq_false h, decide_eq_false fun z => h z.2]
      show Q (.bl (decide (i < m))) _
      rw [e2]
      exact q
    · have e1 : ¬ (0 : Int) ≤ i := fun z => e (decide_eq_true z)
      have e2 : false = decide (0 ≤ i ∧ i < m) := (decide_eq_false fun z => e1 z.1).symm
      show Q (.bl false) _
      rw [e2]
      exact q
end
end BF
namespace BF
open PySem PySem.Spec PyProof.Rows L2 BR
def spCheckGate : Sp := fun vs H Q _ => ∃ (p : Addr) (G : Gt) (n : Nat), vs = [.ref p, .int (n : Int)] ∧ GtAt H p G ∧ GtOk n G ∧ Q .non H
def spCheckBits : Sp := fun vs H Q _ => ∃ (p : Addr) (bs : List Bool), vs = [.ref p] ∧ H p = some (.lst (bs.map V.bl)) ∧ Q .non H
theorem nums_get {l : List Nat} {i : Nat} {v : V} (h : (nums l)[i]? = some v) : ∃ n : Nat, l[i]? = some n ∧ v = .int (n : Int) := by
  unfold nums at h
  rw [List.getElem?_map] at h
  cases e : l[i]? with
  | none => rw [e] at h; cases h
  | some n => rw [e] at h; exact ⟨n, rfl, (Option.some.inj h).symm⟩
theorem nums_len (l : List Nat) : (nums l).length = l.length := List.length_map _
section
variable {P : Program} {w : World} {K : PySem.W.Frag} {mg : Str → Option Value} {base : Heap} {D : Ds}
theorem ok_check_gate (T : Txt w K mg D) : FnOk P w K mg base CX0 3 D.f_check_gate D.d_check_gate ["gate", "bits"] spCheckGate := by
  have G_is_number : FnOk P w K mg base CX0 2 D.f_is_number D.d_is_number ["value", "modulus"] spIsNumber := ok_is_number T
  refine T.F_check_gate.ok c_check_gate (fun vs H Q E h => ?_) (fun cdv A outer s H vs Q E hr h => ?_)
  · obtain ⟨p, G, n, rfl, _⟩ := h
    rfl
  · obtain ⟨p, G, n, rfl, ⟨c, e1, e2⟩, ok, q⟩ := h
    refine ⟨_, (pss_cons (ps_if (PW.pt (pw_or (pt_not (pt_val (pe_callB call_isi (by rfl) T.z_isinstance (by decide +kernel) (pa_cons (pv 0) (pa_cons (pe_bltn (v := .ty "tuple") (u := .type "tuple") (by rfl) T.z_tuple (by decide +kernel) rfl) pa_nil))))) (pw_or1 (pt_cmpR op_ne (pe_callB call_len_seq (by rfl) T.z_len (by decide +kernel) (pa_cons (pv 0) pa_nil)) pe_int (nomark _))))) pss_never pss_nil)
      (pss_cons (ps_asg (pv 0) (pg_tup rfl (pgs_cons (pg_name (i := 2) c_check_gate.nd rfl (.inl rfl)) (pgs_cons (pg_name (i := 3) c_check_gate.nd rfl (.inl rfl)) pgs_nil))))
      (pss_cons (ps_if (PW.pt (pw_or (pt_not (pt_val (pe_call G_is_number (hr.mono (by decide)) (by rfl) T.g_is_number T.F_is_number.kp T.b_is_number .nil pass0 (pa_cons (pv 2) (pa_cons (pv 1) pa_nil))))) (pw_or1 (pt_not (pt_val (pe_callB call_isi (by rfl) T.z_isinstance (by decide +kernel) (pa_cons (pv 3) (pa_cons (pe_bltn (v := .ty "tuple") (u := .type "tuple") (by rfl) T.z_tuple (by decide +kernel) rfl) pa_nil)))))))) pss_never pss_nil)
      (pss_cons (ps_set (i := 4) c_check_gate.nd rfl (.inl rfl) (pe_un un_neg pe_int))
      (pss_one (ps_for PassesOwn.never rfl (pi_tup (pv 3)) (pg_name (i := 5) c_check_gate.nd rfl (.inl rfl)) (pss_cons (ps_if (PW.pt (pw_or (pt_not (pt_val (pe_call G_is_number (hr.mono (by decide)) (by rfl) T.g_is_number T.F_is_number.kp T.b_is_number .nil pass0 (pa_cons (pv 5) (pa_cons (pv 1) pa_nil))))) (pw_or (pt_cmpR op_le (pv 5) (pv 4) (nomark _)) (pw_or1 (pt_cmpR op_eq (pv 5) (pv 2) (nomark _)))))) pss_never pss_nil)
      (pss_one (ps_set (i := 4) c_check_gate.nd rfl (.inl rfl) (pv 5)))))))))), ?_⟩
    have ht := ok.t
    refine ⟨_, rfl, _, _, _, _, true, rfl, .ty _, kT e1, kit_ty (by decide +kernel), true, rfl, iteF ⟨_, rfl, _, _, rfl, .inr (SqT.of e1), rfl, _, rfl, iteNS rfl ?_⟩⟩
    refine ⟨_, rfl, p, _, rfl, SqT.of e1, rfl, _, _, rfl, _, _, rfl, rfl, ?_⟩
    refine ⟨_, rfl, _, rfl, _, _, rfl, _, rfl, iteNS ⟨by omega, by omega⟩ ⟨_, rfl, _, _, _, _, true, rfl, .ty _, kT e2, kit_ty (by decide +kernel), true, rfl, iteF ?_⟩⟩
    refine ⟨_, rfl, .ref c, rfl, c, rfl, ⟨_, SqT.of e2⟩, for_tup (K := K) (a := c) (xs := nums G.2) (fun i σ' H' => ∃ (l : Int) (x : Option V), σ' = [some (.ref p), some (.int (n : Int)), some (.int (G.1 : Int)), some (.ref c), some (.int l), x] ∧ H' = H ∧ ∀ (j : Nat) (y : Nat), i ≤ j → G.2[j]? = some y → l < (y : Int))
      ⟨-1, none, rfl, rfl, fun j y _ _ => by omega⟩ (fun i σ' H' _ ⟨_, _, _, eH, _⟩ => by rw [eH]; exact SqT.of e2) ?_ ?_⟩
    · rintro i v σ' H' hv ⟨l, x, rfl, rfl, hl⟩
      obtain ⟨m, hm, rfl⟩ := nums_get hv
      have hmem : m ∈ G.2 := List.mem_of_getElem? hm
      have h1 : m < n := ok.c m hmem
      have h2 : l < (m : Int) := hl i m (Nat.le_refl _) hm
      have h3 : m ≠ G.1 := fun z => ok.nt (z ▸ hmem)
      refine ⟨_, rfl, _, rfl, _, _, rfl, _, rfl, iteNS ⟨by omega, by omega⟩ ⟨_, rfl, _, rfl, _, _, rfl, rfl, _, rfl, ?_⟩⟩
      rw [decide_eq_false (by omega : ¬ (m : Int) ≤ l)]
      refine iteF ⟨_, rfl, _, rfl, rfl, _, rfl, ?_⟩
      rw [decide_eq_false (fun z => h3 (by injection z with z; omega) : ¬ V.int (m : Int) = V.int (G.1 : Int))]
      refine iteF ⟨_, rfl, (m : Int), some (.int (m : Int)), rfl, rfl, fun j y hj hy => ?_⟩
      have hi := (List.getElem?_eq_some_iff.mp hm)
      have hjj := (List.getElem?_eq_some_iff.mp hy)
      have := List.pairwise_iff_getElem.mp ok.rise i j hi.1 hjj.1 (by omega)
      rw [hi.2, hjj.2] at this
      omega
    · rintro σ' H' ⟨l, x, rfl, rfl, _⟩
      exact q
theorem ok_check_bits (T : Txt w K mg D) : FnOk P w K mg base CX0 1 D.f_check_bits D.d_check_bits ["bits"] spCheckBits := by
  refine T.F_check_bits.ok c_check_bits (fun vs H Q E h => ?_) (fun cdv A outer s H vs Q E hr h => ?_)
  · obtain ⟨p, bs, rfl, _⟩ := h
    rfl
  · obtain ⟨p, bs, rfl, e1, q⟩ := h
    refine ⟨_, (pss_cons (ps_if (pt_not (pt_val (pe_callB call_isi (by rfl) T.z_isinstance (by decide +kernel) (pa_cons (pv 0) (pa_cons (pe_bltn (v := .ty "list") (u := .type "list") (by rfl) T.z_list (by decide +kernel) rfl) pa_nil))))) pss_never pss_nil)
      (pss_one (ps_for PassesOwn.never rfl (pi_list (pv 0)) (pg_name (i := 1) c_check_bits.nd rfl (.inl rfl)) (pss_one (ps_if (pt_not (pt_val (pe_callB call_isi (by rfl) T.z_isinstance (by decide +kernel) (pa_cons (pv 1) (pa_cons (pe_bltn (v := .ty "bool") (u := .type "bool") (by rfl) T.z_bool (by decide +kernel) rfl) pa_nil))))) pss_never pss_nil))))), ?_⟩
    refine ⟨_, rfl, _, _, _, _, true, rfl, .ty _, kL e1, kit_ty (by decide +kernel), true, rfl, iteF ?_⟩
    refine ⟨.ref p, rfl, p, rfl, ⟨_, SqL.of e1⟩, for_list (K := K) (a := p) (xs := bs.map V.bl) (fun i σ' H' => ∃ (x : Option V), σ' = [some (.ref p), x] ∧ H' = H)
      ⟨none, rfl, rfl⟩ (fun i σ' H' _ ⟨_, _, eH⟩ => by rw [eH]; exact SqL.of e1) ?_ ?_⟩
    · rintro i v σ' H' hv ⟨x, rfl, rfl⟩
      rw [List.getElem?_map] at hv
      obtain ⟨b, rfl⟩ : ∃ b, v = V.bl b := by
        cases e : bs[i]? with
        | none => rw [e] at hv; cases hv
        | some b => rw [e] at hv; exact ⟨b, (Option.some.inj hv).symm⟩
      exact ⟨_, rfl, _, _, _, _, true, rfl, .ty _, kB, kit_ty (by decide +kernel), true, rfl, iteF ⟨_, rfl, rfl⟩⟩
    · rintro σ' H' ⟨x, rfl, rfl⟩
      exact q
end
end BF
namespace BF
open PySem PySem.Spec PyProof.Rows L2 BR
theorem GtOk.mono {n m : Nat} {G : Gt} (h : GtOk n G) (l : n ≤ m) : GtOk m G := ⟨Nat.lt_of_lt_of_le h.t l, fun x hx => Nat.lt_of_lt_of_le (h.c x hx) l, h.nt, h.rise⟩
theorem foldl_max_lt : ∀ (ns : List Int) (n m : Int), n < m → (∀ x ∈ ns, x < m) → ns.foldl max n < m
  | [], n, m, h, _ => h
  | x :: r, n, m, h, hr => foldl_max_lt r (max n x) m (by have := hr x List.mem_cons_self; omega) fun y hy => hr y (List.mem_cons_of_mem _ hy)
theorem nums_eq (l : List Nat) : nums l = (l.map fun (n : Nat) => (n : Int)).map V.int := by
  unfold nums
  rw [List.map_map]
  rfl
def spPerform : Sp := fun vs H Q _ => ∃ (a b : Addr) (gs : List Gt) (B : List Bool), vs = [.ref a, .ref b] ∧ GtsAt H a gs ∧ H b = some (.lst (B.map V.bl)) ∧ (∀ G ∈ gs, GtOk B.length G) ∧ B.length ≤ 120 ∧ gs.length ≤ 60000 ∧
  ∀ H' p, Same H H' → H p = none → H' p = some (.lst ((gtsRun gs B).map V.bl)) → Q (.ref p) H'
theorem gtsRun_take {gs : List Gt} {i : Nat} {G : Gt} (h : gs[i]? = some G) (B : List Bool) : gtsRun (gs.take (i + 1)) B = gtRun G (gtsRun (gs.take i) B) := by
  rw [take_succ_some h, gtsRun_append]
  rfl
section
variable {P : Program} {w : World} {K : PySem.W.Frag} {mg : Str → Option Value} {base : Heap} {D : Ds}
theorem ok_perform (T : Txt w K mg D) : FnOk P w K mg base CX0 4 D.f_perform D.d_perform ["gates", "bits"] spPerform := by
  have G_check_gate : FnOk P w K mg base CX0 3 D.f_check_gate D.d_check_gate ["gate", "bits"] spCheckGate := ok_check_gate T
  have G_check_bits : FnOk P w K mg base CX0 1 D.f_check_bits D.d_check_bits ["bits"] spCheckBits := ok_check_bits T
  refine T.F_perform.ok c_perform (fun vs H Q E h => ?_) (fun cdv A outer s H vs Q E hr h => ?_)
  · obtain ⟨a, b, gs, B, rfl, _⟩ := h
    rfl
  · obtain ⟨a, b, gs, B, rfl, ⟨vs, ea, R⟩, eb, ok, hB, hg, q⟩ := h
    have hvl := R.len
    refine ⟨_, (pss_cons (ps_if (PW.pt (pw_or (pt_not (pt_val (pe_callB call_isi (by rfl) T.z_isinstance (by decide +kernel) (pa_cons (pv 0) (pa_cons (pe_bltn (v := .ty "list") (u := .type "list") (by rfl) T.z_list (by decide +kernel) rfl) pa_nil))))) (pw_or1 (pt_cmpR op_gt (pe_callB call_len_seq (by rfl) T.z_len (by decide +kernel) (pa_cons (pv 0) pa_nil)) (pe_glob (v := .int 60000) (by rfl) T.k_MOST_gates ⟨_, rfl⟩) (nomark _))))) pss_never pss_nil)
      (pss_cons (ps_for PassesOwn.never rfl (pi_list (pv 0)) (pg_name (i := 2) c_perform.nd rfl (.inl rfl)) (pss_one (ps_expr (pe_call G_check_gate (hr.mono (by decide)) (by rfl) T.g_check_gate T.F_check_gate.kp T.b_check_gate .nil pass0 (pa_cons (pv 2) (pa_cons (pe_glob (v := .int 120) (by rfl) T.k_BITS ⟨_, rfl⟩) pa_nil))))))
      (pss_cons (ps_expr (pe_call G_check_bits (hr.mono (by decide)) (by rfl) T.g_check_bits T.F_check_bits.kp T.b_check_bits .nil pass0 (pa_cons (pv 1) pa_nil)))
      (pss_cons (ps_set (i := 3) c_perform.nd rfl (.inr rfl) (pe_callTy call_list_of (by rfl) T.z_list (by decide +kernel) (pa_cons (pv 1) pa_nil)))
      (pss_cons (ps_for PassesOwn.never rfl (pi_list (pv 0)) (pg_tup rfl (pgs_cons (pg_name (i := 4) c_perform.nd rfl (.inl rfl)) (pgs_cons (pg_name (i := 5) c_perform.nd rfl (.inl rfl)) pgs_nil))) (pss_one (ps_if (pt_cmpR op_ge (pe_callB (cr_maxT hr rfl) (by rfl) T.z_max (by decide +kernel) (pa_cons (pe_op op_catA (pe_tup (pa_cons (pv 4) pa_nil)) (pv 5)) pa_nil)) (pe_callB call_len_seq (by rfl) T.z_len (by decide +kernel) (pa_cons (pv 3) pa_nil)) (nomark _)) pss_never pss_nil)))
      (pss_cons (ps_for PassesOwn.never rfl (pi_list (pv 0)) (pg_tup rfl (pgs_cons (pg_name (i := 4) c_perform.nd rfl (.inl rfl)) (pgs_cons (pg_name (i := 5) c_perform.nd rfl (.inl rfl)) pgs_nil))) (pss_one (ps_if (pt_val (pe_callB (cr_all rfl) (by rfl) T.z_all (by decide +kernel) (pa_cons (pe_lc (own := [("control", 6)]) (g := gName 6) (tt := tYes) (te := tOp (rIxL K) (tVar 3) (tVar 6)) rfl c_perform.nd (pi_tup (pv 5)) (blkOk_by (own := [("control", 6)]) (N := ["gates", "bits", "gate", "found", "target", "controls", "control"]) (sc := defScope s_perform) (by decide +kernel)) (fun _ _ _ _ _ => pg_name (i := 6) c_perform.nd rfl (Or.inl rfl)) (fun _ _ _ _ _ => pts_nil) (fun _ _ _ _ _ => (pe_ix ix_list (pv 3) (pv 6) (fun _ _ => rfl)))) pa_nil))) (pss_one (ps_asg (pe_not (pe_ix ix_list (pv 3) (pv 4) (fun _ _ => rfl))) (pg_sub (pv 3) (pv 4) set_list))) pss_nil)))
      (pss_one (ps_ret (pv 3))))))))), ?_⟩
    -- if not isinstance(gates, list) or len(gates) > MOST
    refine ⟨_, rfl, _, _, _, _, true, rfl, .ty _, kL ea, kit_ty (by decide +kernel), true, rfl, iteF ⟨_, rfl, _, _, rfl, .inl (SqL.of ea), _, _, rfl, rfl, _, rfl, iteN (by omega) ?_⟩⟩
    -- for gate in gates
    refine ⟨.ref a, rfl, a, rfl, ⟨_, SqL.of ea⟩, for_list (K := K) (a := a) (xs := vs) (fun i σ' H' => ∃ (x : Option V), σ' = [some (.ref a), some (.ref b), x, none, none, none, none] ∧ H' = H)
      ⟨none, rfl, rfl⟩ (fun i σ' H' _ ⟨_, _, eH⟩ => by rw [eH]; exact SqL.of ea) ?_ ?_⟩
    · rintro i v σ' H' hv ⟨x, rfl, rfl⟩
      obtain ⟨p, G, rfl, hG, at1⟩ := R.get hv
      exact ⟨_, rfl, p, G, 120, rfl, at1, (ok G (List.mem_of_getElem? hG)).mono hB, some (.ref p), rfl, rfl⟩
    rintro σ' H' ⟨x, rfl, rfl⟩
    -- check_bits(bits); found = list(bits)
    refine ⟨_, rfl, b, B, rfl, eb, ?_⟩
    refine ⟨_, rfl, b, _, rfl, .inl (SqL.of eb), fun l hl => ?_⟩
    have s1 : Same H' (upd H' l (.lst (B.map V.bl))) := same_new hl
    -- for target, controls in gates: a bit is missing
    refine ⟨.ref a, rfl, a, rfl, ⟨_, SqL.of (s1 _ _ ea)⟩, for_list (K := K) (a := a) (xs := vs) (fun i σ' H'' => ∃ (x4 x5 : Option V), σ' = [some (.ref a), some (.ref b), x, some (.ref l), x4, x5, none] ∧ Same (upd H' l (.lst (B.map V.bl))) H'')
      ⟨none, none, rfl, Same.refl _⟩ (fun i σ' H'' _ ⟨_, _, _, e⟩ => SqL.of (e _ _ (s1 _ _ ea))) ?_ ?_⟩
    · rintro i v σ' H2 hv ⟨x4, x5, rfl, s2⟩
      obtain ⟨p, G, rfl, hG, c, at1, at2⟩ := R.get hv
      have okG := ok G (List.mem_of_getElem? hG)
      have at1' := s2 _ _ (s1 _ _ at1)
      have at2' := s2 _ _ (s1 _ _ at2)
      have el : H2 l = some (.lst (B.map V.bl)) := s2 _ _ upd_same
      have ht := okG.t
      have key : (G.2.map fun (n : Nat) => (n : Int)).foldl max (G.1 : Int) < (B.length : Int) := foldl_max_lt _ _ _ (by omega) fun y hy => by
        obtain ⟨m, hm, rfl⟩ := List.mem_map.mp hy
        have := okG.c m hm
        omega
      refine ⟨p, _, rfl, SqT.of at1', rfl, _, _, rfl, _, _, rfl, rfl, ?_⟩
      refine ⟨_, rfl, (by show 1 ≤ sizeLine; decide), fun t ht' => ?_⟩
      have s3 : Same H2 (upd H2 t (.tup [.int (G.1 : Int)])) := same_new ht'
      have hlen : (nums G.2).length ≤ B.length := by
        rw [nums_len]
        have nd : G.2.Nodup := okG.rise.imp fun h => Nat.ne_of_lt h
        have := List.Nodup.length_le_of_subset nd (l₂ := List.range B.length) fun x hx => List.mem_range.mpr (okG.c x hx)
        rwa [List.length_range] at this
      refine ⟨_, rfl, t, c, _, _, rfl, rfl, SqT.of upd_same, SqT.of (s3 _ _ at2'), sz (by rw [List.length_singleton]; omega), (fun z => by cases z), fun _ hn => ?_, fun _ hn u hu => ?_⟩
      · refine ⟨t, (G.1 : Int), [], rfl, SqT.of upd_same, ?_⟩
        refine ⟨_, rfl, l, _, rfl, .inl (SqL.of (s3 _ _ el)), _, _, rfl, rfl, _, rfl, iteN (by rw [List.length_map]; show ¬ (B.length : Int) ≤ (G.1 : Int); omega) ?_⟩
        exact ⟨_, _, rfl, s2.trans s3⟩
      · have s4 : Same (upd H2 t (.tup [.int (G.1 : Int)])) (upd (upd H2 t (.tup [.int (G.1 : Int)])) u (.tup ([.int (G.1 : Int)] ++ nums G.2))) := same_new hu
        refine ⟨u, (G.1 : Int), G.2.map fun (n : Nat) => (n : Int), rfl, SqT.of (by rw [List.map_cons, ← nums_eq]; exact upd_same), ?_⟩
        refine ⟨_, rfl, l, _, rfl, .inl (SqL.of (s4 _ _ (s3 _ _ el))), _, _, rfl, rfl, _, rfl, iteN (by rw [List.length_map]; omega) ?_⟩
        exact ⟨_, _, rfl, (s2.trans s3).trans s4⟩
    rintro σ' H2 ⟨x4, x5, rfl, s2⟩
    -- for target, controls in gates: the gates are performed
    have sH2 : Same H' H2 := s1.trans s2
    refine ⟨.ref a, rfl, a, rfl, ⟨_, SqL.of (sH2 _ _ ea)⟩, for_list (K := K) (a := a) (xs := vs) (fun i σ' H3 => ∃ (x4 x5 : Option V), σ' = [some (.ref a), some (.ref b), x, some (.ref l), x4, x5, none] ∧ Same H' H3 ∧ H3 l = some (.lst ((gtsRun (gs.take i) B).map V.bl)))
      ⟨_, _, rfl, sH2, s2 _ _ upd_same⟩ (fun i σ' H'' _ ⟨_, _, _, e, _⟩ => SqL.of (e _ _ ea)) ?_ ?_⟩
    · rintro i v σ' H3 hv ⟨x4, x5, rfl, s3, el⟩
      obtain ⟨p, G, rfl, hG, c, at1, at2⟩ := R.get hv
      have okG := ok G (List.mem_of_getElem? hG)
      have at1' := s3 _ _ at1
      have at2' := s3 _ _ at2
      generalize hC : gtsRun (gs.take i) B = C at el
      have hCl : C.length = B.length := by rw [← hC, gtsRun_length]
      have step : gtsRun (gs.take (i + 1)) B = gtRun G C := by rw [gtsRun_take hG, hC]
      have ht := okG.t
      have getC : ∀ {j : Nat}, j < B.length → C[j]? = some (C.getD j false) := fun {j} hj => by
        rw [List.getElem?_eq_getElem (by omega), List.getD_eq_getElem?_getD, List.getElem?_eq_getElem (by omega)]
        rfl
      refine ⟨p, _, rfl, SqT.of at1', rfl, _, _, rfl, _, _, rfl, rfl, ?_⟩
      refine ⟨_, rfl, c, rfl, ⟨_, SqT.of at2'⟩, fun Dl hD => lc_tup (K := K) (a := c) (xs := nums G.2) (fun j H4 => Same H3 H4 ∧ H4 Dl = some (.lst ((G.2.take j).map fun n => V.bl (C.getD n false))))
        ⟨same_new hD, upd_same⟩ (fun j H4 _ ⟨e, _⟩ => SqT.of (e _ _ at2')) ?_ ?_⟩
      · rintro j y H4 hj ⟨s4, eD⟩
        obtain ⟨m, hm, rfl⟩ := nums_get hj
        have hmB := okG.c m (List.mem_of_getElem? hm)
        refine ⟨rfl, _, rfl, _, rfl, l, _, _, _, rfl, rfl, SqL.of (s4 _ _ el), atI_nat (map_at V.bl (getC hmB)), _, eD, ?_, same_mut s4 hD, ?_⟩
        · have hj2 : j < G.2.length := (List.getElem?_eq_some_iff.mp hm).1
          have nd : G.2.Nodup := okG.rise.imp fun h => Nat.ne_of_lt h
          have h3 := List.Nodup.length_le_of_subset nd (l₂ := List.range B.length) fun x hx => List.mem_range.mpr (okG.c x hx)
          rw [List.length_range] at h3
          exact szl (by rw [List.length_map, List.length_take]; omega)
        · rw [upd_same, take_succ_some hm, List.map_append]
          rfl
      · rintro H4 ⟨s4, eD⟩
        rw [nums_len, List.take_length] at eD
        have eD' : SqL K H4 Dl ((G.2.map fun n => C.getD n false).map V.bl) := SqL.of (by rw [List.map_map]; exact eD)
        have hall : (G.2.map fun n => C.getD n false).all id = G.2.all fun n => C.getD n false := by rw [List.all_map]; rfl
        refine ⟨Dl, _, rfl, eD', _, rfl, ?_⟩
        rw [hall]
        refine ite2 (fun e => ?_) (fun e => ?_)
        · -- found[target] = not found[target]
          have st2 : gtRun G C = C.set G.1 (!(C.getD G.1 false)) := by unfold gtRun; rw [if_pos e]
          refine ⟨_, rfl, _, rfl, l, _, _, _, rfl, rfl, SqL.of (s4 _ _ el), atI_nat (map_at V.bl (getC ht)), _, rfl, ?_⟩
          refine ⟨_, rfl, _, rfl, l, _, _, G.1, rfl, rfl, s4 _ _ el, ixN_nat (by rw [List.length_map]; omega), ?_⟩
          refine ⟨_, _, rfl, fun z o hz => ?_, ?_⟩
          · have hzl : z ≠ l := ne_of_none hz hl
            rw [upd_ne hzl]
            exact s4 _ _ (s3 _ _ hz)
          · rw [upd_same, step, st2, List.map_set]
        · have st2 : gtRun G C = C := by unfold gtRun; rw [if_neg e]
          refine ⟨_, _, rfl, s3.trans s4, ?_⟩
          rw [step, st2]
          exact s4 _ _ el
    · rintro σ' H3 ⟨x4, x5, rfl, s3, el⟩
      rw [hvl, List.take_length] at el
      exact ⟨_, rfl, q H3 l s3 hl el⟩
end
end BF
namespace BF
open PySem PySem.Spec PyProof.Rows L2 BR
def spCheckSpread : Sp := fun vs H Q _ => ∃ (c bo : Addr) (G : Gt), vs = [.int (G.1 : Int), .ref c, .ref bo] ∧ H c = some (.tup (nums G.2)) ∧ H bo = some (.lst []) ∧ GtOk 120 G ∧ G.2.length ≤ 2 ∧ ∀ H', Same H H' → Q .non H'
def spSpread : Sp := fun vs H Q _ => ∃ (c bo : Addr) (G : Gt), vs = [.int (G.1 : Int), .ref c, .ref bo] ∧ H c = some (.tup (nums G.2)) ∧ H bo = some (.lst []) ∧ GtOk 120 G ∧ G.2.length ≤ 2 ∧ ∀ H' l, Same H H' → H l = none → GtsAt H' l [G] → Q (.ref l) H'
def spGatesOfStep : Sp := fun vs H Q _ => ∃ (p : Addr) (m : Nat) (st : Stp), vs = [.ref p, .int (m : Int)] ∧ StpAt H p st ∧ st.Ok m ∧ ∀ H' l gs, Same H H' → H l = none → GateFor m st gs → GtsAt H' l gs → Q (.ref l) H'
/-- a program's fields -/
def pfs (m : Nat) (l : Addr) : List (Str × V) := putF "steps" (.ref l) (putF "inputs" (.int (m : Int)) (putF "cells" (.int 3) (putF "modulus" (.int 2) [])))
theorem pf_modulus (m : Nat) (l : Addr) : (pfs m l).lookup ("modulus" : Str) = some (.int 2) := by
  unfold pfs
  rw [lookup_putF, if_neg (by decide +kernel), lookup_putF, if_neg (by decide +kernel), lookup_putF, if_neg (by decide +kernel), lookup_putF, if_pos rfl]
theorem pf_cells (m : Nat) (l : Addr) : (pfs m l).lookup ("cells" : Str) = some (.int 3) := by
  unfold pfs
  rw [lookup_putF, if_neg (by decide +kernel), lookup_putF, if_neg (by decide +kernel), lookup_putF, if_pos rfl]
theorem pf_inputs (m : Nat) (l : Addr) : (pfs m l).lookup ("inputs" : Str) = some (.int (m : Int)) := by
  unfold pfs
  rw [lookup_putF, if_neg (by decide +kernel), lookup_putF, if_pos rfl]
theorem pf_steps (m : Nat) (l : Addr) : (pfs m l).lookup ("steps" : Str) = some (.ref l) := by
  unfold pfs
  rw [lookup_putF, if_pos rfl]
/-- a program modulo 2 in three cells stands at p, its steps at l -/
def ProgAt (C : Addr) (H : Hp) (p : Addr) (m : Nat) (sts : List Stp) : Prop := ∃ (dx l : Addr) (vs : List V), H p = some (.ins C dx (pfs m l)) ∧ H l = some (.lst vs) ∧ Refs (StpAt H) vs sts
def spGatesOf (C : Addr) : Sp := fun vs H Q _ => ∃ (p : Addr) (m : Nat) (sts : List Stp), vs = [.ref p] ∧ ProgAt C H p m sts ∧ (∀ st ∈ sts, st.Ok m) ∧ m ≤ 60 ∧ sts.length ≤ 20000 ∧
  ∀ H' l gs, Same H H' → H l = none → GatesFor m sts gs → GtsAt H' l gs → Q (.ref l) H'
theorem inV_nums (z : Nat) : ∀ l : List Nat, inV (.int (z : Int)) (nums l) = decide (z ∈ l)
  | [] => rfl
  | x :: r => by
    have ih := inV_nums z r
    show ((x : Int) == (z : Int) || inV (.int (z : Int)) (nums r)) = decide (z ∈ x :: r)
    rw [ih]
    by_cases h : x = z
    · subst h
      simp
    · have h1 : ((x : Int) == (z : Int)) = false := by
        rw [beq_eq_false_iff_ne]
        omega
      rw [h1, Bool.false_or]
      by_cases h2 : z ∈ r
      · rw [decide_eq_true h2, decide_eq_true (List.mem_cons_of_mem _ h2)]
      · rw [decide_eq_false h2, decide_eq_false fun q => (List.mem_cons.mp q).elim (fun e => h e.symm) h2]
theorem flat_nums : ∀ l : List Nat, (nums l).all flatV = true
  | [] => rfl
  | x :: r => by
    show (flatV (.int (x : Int)) && (nums r).all flatV) = true
    rw [flat_nums r]
    rfl
/-- a sorted arrangement of the ints of a list of different numbers: rising numbers -/
theorem sorted_nums {cs : List Nat} {ns : List Int} (nd : cs.Nodup) (p : ns.Perm (cs.map fun (n : Nat) => (n : Int))) (w : ns.Pairwise (· ≤ ·)) :
    ∃ ds : List Nat, ns.map V.int = nums ds ∧ ds.Pairwise (· < ·) ∧ ds.length = cs.length ∧ ∀ x, x ∈ ds ↔ x ∈ cs := by
  have hnn : ∀ z ∈ ns, 0 ≤ z := fun z hz => by
    obtain ⟨n, _, rfl⟩ := List.mem_map.mp (p.mem_iff.mp hz)
    exact Int.natCast_nonneg n
  have e1 : (ns.map Int.toNat).map (fun (n : Nat) => (n : Int)) = ns := by
    rw [List.map_map]
    exact (List.map_congr_left fun z hz => by
      show ((z.toNat : Nat) : Int) = z
      have := hnn z hz
      omega).trans (List.map_id ns)
  have pd : (ns.map Int.toNat).Perm cs := by
    have q := p.map Int.toNat
    rw [List.map_map] at q
    have e2 : cs.map (Int.toNat ∘ fun (n : Nat) => (n : Int)) = cs := (List.map_congr_left fun n _ => by show ((n : Int)).toNat = n; omega).trans (List.map_id cs)
    rw [e2] at q
    exact q
  refine ⟨ns.map Int.toNat, ?_, ?_, pd.length_eq, fun x => pd.mem_iff⟩
  · rw [nums_eq, e1]
  · have nd2 : (ns.map Int.toNat).Nodup := pd.nodup_iff.mpr nd
    have le : (ns.map Int.toNat).Pairwise (· ≤ ·) := List.pairwise_map.mpr (w.imp fun {a b} h => by omega)
    exact (le.and nd2).imp fun h => Nat.lt_of_le_of_ne h.1 h.2
/-- if bit not in controls: controls.append(bit) -/
theorem add_bit {K : PySem.W.Frag} {σ : L2.St} {H : Hp} {E : Ends} {o : Addr} {cs : List Nat} {b : Nat} (h7 : σ[7]? = some (some (.int (b : Int)))) (h4 : σ[4]? = some (some (.ref o))) (ho : H o = some (.lst (nums cs))) (hl : cs.length ≤ 1000)
    (k1 : b ∈ cs → E.nx σ H) (k2 : b ∉ cs → E.nx σ (upd H o (.lst (nums (cs ++ [b]))))) : tIfS (tTest (tOp (rIn K true) (tVar 7) (tVar 4))) (tDrop (tBM K "list" rAppend (tVar 4) (tCons (tVar 7) tNil))) tNext E σ H := by
  refine ⟨_, h7, _, h4, o, _, rfl, .inl (SqL.of ho), rfl, flat_nums cs, _, rfl, ?_⟩
  rw [inV_nums]
  by_cases hb : b ∈ cs
  · rw [decide_eq_true hb]
    exact iteF (k1 hb)
  · rw [decide_eq_false hb]
    refine iteT ⟨_, h4, .inl ⟨rfl, _, SqL.of ho⟩, _, h7, o, _, _, rfl, rfl, ho, szl (by rw [nums_len]; omega), ?_⟩
    have e : nums cs ++ [V.int (b : Int)] = nums (cs ++ [b]) := by
      unfold nums
      rw [List.map_append]
      rfl
    rw [e]
    exact k2 hb
section
variable {P : Program} {w : World} {K : PySem.W.Frag} {mg : Str → Option Value} {base : Heap} {D : Ds}
theorem ok_check_spread (T : Txt w K mg D) : FnOk P w K mg base CX0 4 D.f_check_spread D.d_check_spread ["target", "controls", "borrowed"] spCheckSpread := by
  have G_check_gate : FnOk P w K mg base CX0 3 D.f_check_gate D.d_check_gate ["gate", "bits"] spCheckGate := ok_check_gate T
  refine T.F_check_spread.ok c_check_spread (fun vs H Q E h => ?_) (fun cdv A outer s H vs Q E hr h => ?_)
  · obtain ⟨c, bo, G, rfl, _⟩ := h
    rfl
  · obtain ⟨c, bo, G, rfl, ec, eb, ok, h2, q⟩ := h
    refine ⟨_, (pss_cons (ps_expr (pe_call G_check_gate (hr.mono (by decide)) (by rfl) T.g_check_gate T.F_check_gate.kp T.b_check_gate .nil pass0 (pa_cons (pe_tup (pa_cons (pv 0) (pa_cons (pv 1) pa_nil))) (pa_cons (pe_glob (v := .int 120) (by rfl) T.k_BITS ⟨_, rfl⟩) pa_nil))))
      (pss_cons (ps_if (PW.pt (pw_or (pt_not (pt_val (pe_callB call_isi (by rfl) T.z_isinstance (by decide +kernel) (pa_cons (pv 2) (pa_cons (pe_bltn (v := .ty "list") (u := .type "list") (by rfl) T.z_list (by decide +kernel) rfl) pa_nil))))) (pw_or1 (pt_cmpR op_ne (pe_callB call_len_seq (by rfl) T.z_len (by decide +kernel) (pa_cons (pv 2) pa_nil)) (pe_callB (call_max2 rfl) (by rfl) T.z_max (by decide +kernel) (pa_cons pe_int (pa_cons (pe_op op_sub (pe_callB call_len_seq (by rfl) T.z_len (by decide +kernel) (pa_cons (pv 1) pa_nil)) pe_int) pa_nil))) (nomark _))))) pss_never pss_nil)
      (pss_cons (ps_set (i := 3) c_check_spread.nd rfl (.inl rfl) (pe_op op_cat (pe_lst (pa_cons (pv 0) pa_nil)) (pe_callTy call_list_of (by rfl) T.z_list (by decide +kernel) (pa_cons (pv 1) pa_nil))))
      (pss_one (ps_for PassesOwn.never rfl (pi_list (pv 2)) (pg_name (i := 4) c_check_spread.nd rfl (.inl rfl)) pss_never))))), ?_⟩
    refine ⟨_, rfl, _, rfl, (by show 2 ≤ sizeLine; decide), fun t ht => ?_⟩
    have s1 : Same H (upd H t (.tup [.int (G.1 : Int), .ref c])) := same_new ht
    refine ⟨t, G, 120, rfl, ⟨c, upd_same, s1 _ _ ec⟩, ok, ?_⟩
    refine ⟨_, rfl, _, _, _, _, true, rfl, .ty _, kL (s1 _ _ eb), kit_ty (by decide +kernel), true, rfl, iteF ⟨_, rfl, _, _, rfl, .inl (SqL.of (s1 _ _ eb)), ?_⟩⟩
    refine ⟨_, rfl, _, _, rfl, .inr (SqT.of (s1 _ _ ec)), _, _, rfl, rfl, _, _, rfl, rfl, _, rfl, iteNS ?_ ?_⟩
    · rw [nums_len, if_neg (by omega)]
      rfl
    refine ⟨_, rfl, (by show 1 ≤ sizeLine; decide), fun u hu => ?_⟩
    have s2 := same_new (o := .lst [.int (G.1 : Int)]) hu
    refine ⟨_, rfl, c, _, rfl, .inr (SqT.of (s2 _ _ (s1 _ _ ec))), fun v hv => ?_⟩
    have s3 := same_new (o := .lst (nums G.2)) hv
    refine ⟨u, v, _, _, rfl, rfl, s3 _ _ upd_same, upd_same, sz (by rw [nums_len, List.length_singleton]; omega), fun x hx => ?_⟩
    have s4 := same_new (o := .lst ([.int (G.1 : Int)] ++ nums G.2)) hx
    have sA := s1.trans (s2.trans (s3.trans s4))
    refine ⟨.ref bo, rfl, bo, rfl, ⟨_, SqL.of (sA _ _ eb)⟩, for_list (K := K) (a := bo) (xs := []) (fun i σ' H' => Same H H') sA (fun i σ' H' _ e => SqL.of (e _ _ eb)) (fun i x σ' H' hx _ => by simp at hx) fun σ' H' e => q H' e⟩
theorem ok_spread (T : Txt w K mg D) : FnOk P w K mg base CX0 5 D.f_spread D.d_spread ["target", "controls", "borrowed"] spSpread := by
  have G_check_spread : FnOk P w K mg base CX0 4 D.f_check_spread D.d_check_spread ["target", "controls", "borrowed"] spCheckSpread := ok_check_spread T
  refine T.F_spread.ok c_spread (fun vs H Q E h => ?_) (fun cdv A outer s H vs Q E hr h => ?_)
  · obtain ⟨c, bo, G, rfl, _⟩ := h
    rfl
  · obtain ⟨c, bo, G, rfl, ec, eb, ok, h2, q⟩ := h
    refine ⟨_, (pss_cons (ps_expr (pe_call G_check_spread (hr.mono (by decide)) (by rfl) T.g_check_spread T.F_check_spread.kp T.b_check_spread .nil pass0 (pa_cons (pv 0) (pa_cons (pv 1) (pa_cons (pv 2) pa_nil)))))
      (pss_cons (ps_if (pt_cmpR op_lt (pe_callB call_len_seq (by rfl) T.z_len (by decide +kernel) (pa_cons (pv 1) pa_nil)) pe_int (nomark _)) (pss_one (ps_ret (pe_lst (pa_cons (pe_tup (pa_cons (pv 0) (pa_cons (pv 1) pa_nil))) pa_nil)))) pss_nil)
      pss_never)), ?_⟩
    refine ⟨_, rfl, _, rfl, _, rfl, c, bo, G, rfl, ec, eb, ok, h2, fun H1 s1 => ?_⟩
    refine ⟨_, rfl, _, _, rfl, .inr (SqT.of (s1 _ _ ec)), _, _, rfl, rfl, _, rfl, iteY (by rw [nums_len]; omega) ?_⟩
    refine ⟨_, rfl, _, rfl, (by show 2 ≤ sizeLine; decide), fun t ht => ?_⟩
    have s2 := same_new (o := .tup [.int (G.1 : Int), .ref c]) ht
    refine ⟨(by show 1 ≤ sizeLine; decide), fun l hl => ?_⟩
    have s3 := same_new (o := .lst [.ref t]) hl
    exact q _ l (s1.trans (s2.trans s3)) (same_free (s1.trans s2) hl) ⟨_, upd_same, .one ⟨c, s3 _ _ upd_same, (s2.trans s3) _ _ (s1 _ _ ec)⟩⟩
theorem ok_gates_of_step (T : Txt w K mg D) : FnOk P w K mg base CX0 1 D.f_gates_of_step D.d_gates_of_step ["step", "inputs"] spGatesOfStep := by
  refine T.F_gates_of_step.ok c_gates_of_step (fun vs H Q E h => ?_) (fun cdv A outer s H vs Q E hr h => ?_)
  · obtain ⟨p, m, st, rfl, _⟩ := h
    rfl
  · obtain ⟨p, m, st, rfl, ⟨f, ep, fvs, ef, R⟩, ok, q⟩ := h
    refine ⟨_, (pss_cons (ps_if (pt_cmpR op_eq (pe_ix ix_tup (pv 0) pe_int (fun _ _ => rfl)) pe_str (nomark _)) pss_never pss_nil)
      (pss_cons (ps_if (PW.pt (pw_or (pt_cmpR op_ne (pe_ix ix_tup (pv 0) pe_int (fun _ _ => rfl)) pe_str (nomark _)) (pw_or1 (pt_cmpR op_eq (pe_ix ix_tup (pv 0) pe_int (fun _ _ => rfl)) pe_int (nomark _))))) (pss_one (ps_ret (pe_lst pa_nil))) pss_nil)
      (pss_cons (ps_set (i := 4) c_gates_of_step.nd rfl (.inl rfl) (pe_lst pa_nil))
      (pss_cons (ps_for PassesOwn.never rfl (pi_tup (pe_ix ix_tup (pv 0) pe_int (fun _ _ => rfl))) (pg_tup rfl (pgs_cons (pg_name (i := 5) c_gates_of_step.nd rfl (.inl rfl)) (pgs_cons (pg_name (i := 6) c_gates_of_step.nd rfl (.inl rfl)) pgs_nil))) (pss_cons (ps_set (i := 7) c_gates_of_step.nd rfl (.inl rfl) (pe_ifExp (pt_cmpR op_eq (pv 5) pe_str (nomark _)) (pe_op op_add (pv 1) (pv 6)) (pv 6)))
      (pss_one (ps_if (pt_cmpR op_notIn_seq (pv 7) (pv 4) (by rfl)) (pss_one (ps_expr (pe_bm PySem.F.plainAttrs_list PySem.F.slot_list_append PySem.F.type_list_append mt_append (pv 4) (pa_cons (pv 7) pa_nil)))) pss_nil))))
      (pss_one (ps_ret (pe_lst (pa_cons (pe_tup (pa_cons (pe_op op_add (pv 1) (pe_ix ix_tup (pv 0) pe_int (fun _ _ => rfl))) (pa_cons (pe_callTy call_tuple_of (by rfl) T.z_tuple (by decide +kernel) (pa_cons (pe_callB cr_sorted (by rfl) T.z_sorted (by decide +kernel) (pa_cons (pv 4) pa_nil)) pa_nil)) pa_nil))) pa_nil)))))))), ?_⟩
    refine ⟨_, rfl, p, _, _, _, rfl, rfl, SqT.of ep, by rfl, rfl, _, rfl, iteN (by decide) ?_⟩
    refine ⟨_, rfl, p, _, _, _, rfl, rfl, SqT.of ep, by rfl, rfl, _, rfl, iteNS rfl ?_⟩
    refine ⟨_, rfl, p, _, _, _, rfl, rfl, SqT.of ep, by rfl, rfl, _, rfl, ?_⟩
    cases hc : st.c with
    | false =>
      refine iteY rfl ⟨Nat.zero_le _, fun l hl => ?_⟩
      exact q _ l [] (same_new hl) hl (.off hc) ⟨_, upd_same, .nil⟩
    | true =>
      refine iteN (by decide) ⟨Nat.zero_le _, fun o no => ?_⟩
      have s1 : Same H (upd H o (.lst [])) := same_new no
      refine ⟨_, rfl, p, _, _, _, rfl, rfl, SqT.of (s1 _ _ ep), by rfl, f, rfl, ⟨_, SqT.of (s1 _ _ ef)⟩, for_tup (K := K) (a := f) (xs := fvs)
        (fun i σ' H' => ∃ (x5 x6 x7 : Option V) (cs : List Nat), σ' = [some (.ref p), some (.int (m : Int)), none, none, some (.ref o), x5, x6, x7] ∧ Same H H' ∧ H' o = some (.lst (nums cs)) ∧ cs.Nodup ∧ cs.length ≤ i ∧ ∀ x, x ∈ cs ↔ ∃ g ∈ st.fs.take i, facBit m g = x)
        ⟨none, none, none, [], rfl, s1, upd_same, List.nodup_nil, Nat.le_refl _, fun x => by simp⟩ (fun i σ' H' _ ⟨_, _, _, _, _, e, _⟩ => SqT.of (e _ _ ef)) ?_ ?_⟩
      · rintro i v σ' H' hv ⟨x5, x6, x7, cs, rfl, s2, eo, nd, hl, hm⟩
        obtain ⟨g, fac, rfl, hfac, eg⟩ := R.get hv
        have eg' := s2 _ _ eg
        have hi : i < st.fs.length := (List.getElem?_eq_some_iff.mp hfac).1
        have hlen := ok.len
        have htk : st.fs.take (i + 1) = st.fs.take i ++ [fac] := take_succ_some hfac
        have fin : ∀ (y5 y6 : Option V), ∀ ρ H2, ρ = [some (.ref p), some (.int (m : Int)), none, none, some (.ref o), y5, y6, some (.int (facBit m fac : Int))] → H2 = H' →
            tIfS (tTest (tOp (rIn K true) (tVar 7) (tVar 4))) (tDrop (tBM K "list" rAppend (tVar 4) (tCons (tVar 7) tNil))) tNext
            { nx := fun σ' H' => ∃ (x5 x6 x7 : Option V) (cs : List Nat), σ' = [some (.ref p), some (.int (m : Int)), none, none, some (.ref o), x5, x6, x7] ∧ Same H H' ∧ H' o = some (.lst (nums cs)) ∧ cs.Nodup ∧ cs.length ≤ i + 1 ∧ ∀ x, x ∈ cs ↔ ∃ g ∈ st.fs.take (i + 1), facBit m g = x, rt := Q } ρ H2 := by
          rintro y5 y6 ρ H2 rfl rfl
          refine add_bit (b := facBit m fac) rfl rfl eo (by omega) (fun hb => ?_) (fun hb => ?_)
          · refine ⟨_, _, _, cs, rfl, s2, eo, nd, by omega, fun x => ?_⟩
            rw [htk]
            constructor
            · intro hx
              obtain ⟨g', hg', e⟩ := (hm x).mp hx
              exact ⟨g', List.mem_append_left _ hg', e⟩
            · rintro ⟨g', hg', e⟩
              rcases List.mem_append.mp hg' with hg' | hg'
              · exact (hm x).mpr ⟨g', hg', e⟩
              · rw [List.mem_singleton.mp hg'] at e
                rw [← e]
                exact hb
          · refine ⟨_, _, _, cs ++ [facBit m fac], rfl, same_mut s2 no, upd_same, ?_, by rw [List.length_append, List.length_singleton]; omega, fun x => ?_⟩
            · rw [List.nodup_append]
              refine ⟨nd, by simp, fun a ha b hb2 => ?_⟩
              rw [List.mem_singleton.mp hb2]
              exact fun z => hb (z ▸ ha)
            · rw [htk]
              constructor
              · intro hx
                rcases List.mem_append.mp hx with hx | hx
                · obtain ⟨g', hg', e⟩ := (hm x).mp hx
                  exact ⟨g', List.mem_append_left _ hg', e⟩
                · exact ⟨fac, List.mem_append_right _ (List.mem_singleton.mpr rfl), (List.mem_singleton.mp hx).symm⟩
              · rintro ⟨g', hg', e⟩
                rcases List.mem_append.mp hg' with hg' | hg'
                · exact List.mem_append_left _ ((hm x).mpr ⟨g', hg', e⟩)
                · rw [List.mem_singleton.mp hg'] at e
                  rw [← e]
                  exact List.mem_append_right _ (List.mem_singleton.mpr rfl)
        cases fac with
        | cell k =>
          refine ⟨g, _, rfl, SqT.of eg', rfl, _, _, rfl, _, _, rfl, rfl, ?_⟩
          refine ⟨_, rfl, rfl, _, rfl, iteY rfl ⟨_, rfl, _, rfl, _, _, rfl, rfl, ?_⟩⟩
          exact fin _ _ _ _ rfl rfl
        | inp k =>
          refine ⟨g, _, rfl, SqT.of eg', rfl, _, _, rfl, _, _, rfl, rfl, ?_⟩
          refine ⟨_, rfl, rfl, _, rfl, iteN (by decide) ⟨_, rfl, ?_⟩⟩
          exact fin _ _ _ _ rfl rfl
      · rintro σ' H' ⟨x5, x6, x7, cs, rfl, s2, eo, nd, hl, hm⟩
        rw [R.len, List.take_length] at hm
        rw [R.len] at hl
        have hlen := ok.len
        refine ⟨_, rfl, _, rfl, p, _, _, _, rfl, rfl, SqT.of (s2 _ _ ep), by rfl, _, _, rfl, rfl, ?_⟩
        refine ⟨_, rfl, o, cs.map fun (n : Nat) => (n : Int), rfl, SqL.of (by rw [← nums_eq]; exact eo), by rw [List.length_map]; omega, fun ns u hp hw hu => ?_⟩
        obtain ⟨ds, ed, hrise, hdl, hmem⟩ := sorted_nums nd hp hw
        have s3 := same_new (o := .lst (ns.map V.int)) hu
        refine ⟨u, _, rfl, .inl ⟨SqL.of upd_same, fun c nc => ?_⟩⟩
        have s4 := same_new (o := .tup (ns.map V.int)) nc
        refine ⟨(by show 2 ≤ sizeLine; decide), fun t nt => ?_⟩
        have s5 := same_new (o := .tup [.int ((m : Int) + (st.t : Int)), .ref c]) nt
        refine ⟨(by show 1 ≤ sizeLine; decide), fun l nl => ?_⟩
        have s6 := same_new (o := .lst [.ref t]) nl
        refine q _ l [(m + st.t, ds)] (s2.trans (s3.trans (s4.trans (s5.trans s6)))) (same_free (s2.trans (s3.trans (s4.trans s5))) nl) (.on ds hc hrise (by omega) fun x => (hmem x).trans (hm x)) ⟨_, upd_same, .one ⟨c, ?_, ?_⟩⟩
        · exact s6 _ _ upd_same
        · rw [← ed]
          exact s6 _ _ (s5 _ _ upd_same)
end
end BF
namespace BF
open PySem PySem.Spec PyProof.Rows L2 BR
section
variable {P : Program} {w : World} {K : PySem.W.Frag} {mg : Str → Option Value} {base : Heap} {D : Ds}
theorem ok_gates_of (T : Txt w K mg D) : FnOk P w K mg base CX0 2 D.f_gates_of D.d_gates_of ["program"] (spGatesOf D.C) := by
  have G_gates_of_step : FnOk P w K mg base CX0 1 D.f_gates_of_step D.d_gates_of_step ["step", "inputs"] spGatesOfStep := ok_gates_of_step T
  refine T.F_gates_of.ok c_gates_of (fun vs H Q E h => ?_) (fun cdv A outer s H vs Q E hr h => ?_)
  · obtain ⟨p, m, sts, rfl, _⟩ := h
    rfl
  · obtain ⟨p, m, sts, rfl, ⟨dx, l, svs, ep, el, R⟩, ok, hm, hn, q⟩ := h
    refine ⟨_, (pss_cons (ps_if (PW.pt (pw_or (pt_cmpR op_ne (pe_fld (pv 0) rfl) pe_int (nomark _)) (pw_or1 (pt_cmpR op_gt (pe_op op_add (pe_fld (pv 0) rfl) (pe_fld (pv 0) rfl)) (pe_glob (v := .int 120) (by rfl) T.k_BITS ⟨_, rfl⟩) (nomark _))))) pss_never pss_nil)
      (pss_cons (ps_set (i := 1) c_gates_of.nd rfl (.inl rfl) (pe_lst pa_nil))
      (pss_cons (ps_for PassesOwn.never rfl (pi_list (pe_fld (pv 0) rfl)) (pg_name (i := 2) c_gates_of.nd rfl (.inl rfl)) (pss_cons (ps_if (pt_cmpR op_eq (pe_ix ix_tup (pv 2) pe_int (fun _ _ => rfl)) pe_str (nomark _)) pss_never pss_nil)
      (pss_one (ps_expr (pe_bm PySem.F.plainAttrs_list PySem.F.slot_list_extend PySem.F.type_list_extend mt_extend (pv 1) (pa_cons (pe_call G_gates_of_step (hr.mono (by decide)) (by rfl) T.g_gates_of_step T.F_gates_of_step.kp T.b_gates_of_step .nil pass0 (pa_cons (pv 2) (pa_cons (pe_fld (pv 0) rfl) pa_nil))) pa_nil))))))
      (pss_one (ps_ret (pv 1)))))), ?_⟩
    refine ⟨_, rfl, p, D.C, dx, _, _, rfl, ep, T.clC, T.n_modulus, pf_modulus m l, rfl, _, rfl, iteNS rfl ?_⟩
    refine ⟨_, rfl, p, D.C, dx, _, _, rfl, ep, T.clC, T.n_inputs, pf_inputs m l, _, rfl, p, D.C, dx, _, _, rfl, ep, T.clC, T.n_cells, pf_cells m l, _, _, rfl, rfl, _, _, rfl, rfl, _, rfl, iteN (by omega) ?_⟩
    refine ⟨Nat.zero_le _, fun g ng => ?_⟩
    have s1 : Same H (upd H g (.lst [])) := same_new ng
    refine ⟨_, rfl, p, D.C, dx, _, _, rfl, s1 _ _ ep, T.clC, T.n_steps, pf_steps m l, l, rfl, ⟨_, SqL.of (s1 _ _ el)⟩, for_list (K := K) (a := l) (xs := svs)
      (fun i σ' H' => ∃ (x : Option V) (gs : List Gt) (ws : List V), σ' = [some (.ref p), some (.ref g), x] ∧ Same H H' ∧ H' g = some (.lst ws) ∧ Refs (GtAt H') ws gs ∧ GatesFor m (sts.take i) gs ∧ gs.length ≤ i)
      ⟨none, [], [], rfl, s1, upd_same, .nil, .nil, Nat.le_refl _⟩ (fun i σ' H' _ ⟨_, _, _, _, e, _⟩ => SqL.of (e _ _ el)) ?_ ?_⟩
    · rintro i v σ' H' hv ⟨x, gs, ws, rfl, s2, eg, RG, gf, hl⟩
      obtain ⟨r, st, rfl, hst, f, er, ef⟩ := R.get hv
      have hi : i < sts.length := (List.getElem?_eq_some_iff.mp hst).1
      have hok := ok st (List.mem_of_getElem? hst)
      refine ⟨_, rfl, r, _, _, _, rfl, rfl, SqT.of (s2 _ _ er), by rfl, rfl, _, rfl, iteN (by decide) ?_⟩
      refine ⟨_, rfl, .inl ⟨rfl, _, SqL.of eg⟩, _, rfl, _, rfl, p, D.C, dx, _, _, rfl, s2 _ _ ep, T.clC, T.n_inputs, pf_inputs m l, ?_⟩
      refine ⟨r, m, st, rfl, ⟨f, s2 _ _ er, ef.mono (tk_same s2)⟩, hok, fun H4 l4 new s4 n4 gf4 ⟨ws4, e4, R4⟩ => ?_⟩
      have hnew : new.length ≤ 1 := by cases gf4 <;> simp
      have hg4 := s4 _ _ eg
      have hw : ws.length ≤ i := by rw [RG.len]; exact hl
      have hw4 : ws4.length ≤ 1 := by rw [R4.len]; exact hnew
      refine ⟨g, l4, _, _, rfl, rfl, hg4, e4, sz (by omega), ?_⟩
      have t5 : TK H4 (upd H4 g (.lst (ws ++ ws4))) := tk_lst hg4
      refine ⟨some (.ref r), gs ++ new, ws ++ ws4, rfl, same_mut (s2.trans s4) ng, upd_same, ?_, ?_, by rw [List.length_append]; omega⟩
      · exact (RG.mono fun a b z => z.mono ((tk_same s4).trans t5)).append (R4.mono fun a b z => z.mono t5)
      · rw [take_succ_some hst]
        exact .snoc gf gf4
    · rintro σ' H' ⟨x, gs, ws, rfl, s2, eg, RG, gf, hl⟩
      rw [R.len, List.take_length] at gf
      exact ⟨_, rfl, q H' g gs s2 ng gf ⟨ws, eg, RG⟩⟩
end
end BF
namespace BF
open PySem PySem.Spec PyProof.Rows L2 BR
def Fac.Ok (t m : Nat) : Fac → Prop
  | .cell i => i < 3 ∧ i ≠ t
  | .inp k => k < m
theorem Stp.Ok.fac {m : Nat} {st : Stp} (h : st.Ok m) {f : Fac} (hf : f ∈ st.fs) : f.Ok st.t m := by
  cases f with
  | cell i => exact h.cell i hf
  | inp k => exact h.inp k hf
def spIsFactor : Sp := fun vs H Q _ => ∃ (p : Addr) (f : Fac) (t m : Nat), vs = [.ref p, .int (t : Int), .int 3, .int (m : Int)] ∧ FacAt H p f ∧ f.Ok t m ∧ Q (.bl true) H
def spIsAdd : Sp := fun vs H Q _ => ∃ (p : Addr) (st : Stp) (m : Nat), vs = [.ref p, .int 2, .int 3, .int (m : Int)] ∧ StpAt H p st ∧ st.Ok m ∧ Q (.bl true) H
def spCheckSteps : Sp := fun vs H Q _ => ∃ (l : Addr) (svs : List V) (sts : List Stp) (m : Nat), vs = [.ref l, .int 2, .int 3, .int (m : Int), .int 20000] ∧ H l = some (.lst svs) ∧ Refs (StpAt H) svs sts ∧ (∀ st ∈ sts, st.Ok m) ∧ sts.length ≤ 20000 ∧ Q .non H
def spInit (C : Addr) : Sp := fun vs H Q _ => ∃ (x dx l : Addr) (svs : List V) (sts : List Stp) (m : Nat), vs = [.ref x, .int 2, .int 3, .int (m : Int), .ref l] ∧ H x = some (.ins C dx []) ∧ H l = some (.lst svs) ∧ Refs (StpAt H) svs sts ∧ (∀ st ∈ sts, st.Ok m) ∧ sts.length ≤ 20000 ∧ m ≤ 60 ∧
  ∀ H' l', But x H H' → H l' = none → H' x = some (.ins C dx (pfs m l')) → H' l' = some (.lst svs) → Q .non H'
theorem putF_len (f : Str) (v : V) : ∀ fs : List (Str × V), (putF f v fs).length ≤ fs.length + 1
  | [] => Nat.le_refl _
  | (g, x) :: r => by
    show (if g = f then (g, v) :: r else (g, x) :: putF f v r).length ≤ r.length + 1 + 1
    have := putF_len f v r
    split
    · rw [List.length_cons]
      omega
    · rw [List.length_cons]
      omega
theorem b2_bit (b : Bool) : 0 ≤ b2 b ∧ b2 b < 2 := by cases b <;> decide
section
variable {P : Program} {w : World} {K : PySem.W.Frag} {mg : Str → Option Value} {base : Heap} {D : Ds}
theorem ok_is_factor (T : Txt w K mg D) : FnOk P w K mg base CX0 3 D.f_is_factor D.d_is_factor ["factor", "target", "cells", "inputs"] spIsFactor := by
  have G_is_number : FnOk P w K mg base CX0 2 D.f_is_number D.d_is_number ["value", "modulus"] spIsNumber := ok_is_number T
  refine T.F_is_factor.ok c_is_factor (fun vs H Q E h => ?_) (fun cdv A outer s H vs Q E hr h => ?_)
  · obtain ⟨p, f, t, m, rfl, _⟩ := h
    rfl
  · obtain ⟨p, f, t, m, rfl, e, ok, q⟩ := h
    refine ⟨_, (pss_cons (ps_if (PW.pt (pw_or (pt_not (pt_val (pe_callB call_isi (by rfl) T.z_isinstance (by decide +kernel) (pa_cons (pv 0) (pa_cons (pe_bltn (v := .ty "tuple") (u := .type "tuple") (by rfl) T.z_tuple (by decide +kernel) rfl) pa_nil))))) (pw_or1 (pt_cmpR op_ne (pe_callB call_len_seq (by rfl) T.z_len (by decide +kernel) (pa_cons (pv 0) pa_nil)) pe_int (nomark _))))) (pss_one (ps_ret pe_bl)) pss_nil)
      (pss_cons (ps_if (pt_cmpR op_eq (pe_ix ix_tup (pv 0) pe_int (fun _ _ => rfl)) pe_str (nomark _)) (pss_one (ps_ret (pe_and (pe_call G_is_number (hr.mono (by decide)) (by rfl) T.g_is_number T.F_is_number.kp T.b_is_number .nil pass0 (pa_cons (pe_ix ix_tup (pv 0) pe_int (fun _ _ => rfl)) (pa_cons (pv 2) pa_nil))) (pe_one (pe_cmpR op_ne (pe_ix ix_tup (pv 0) pe_int (fun _ _ => rfl)) (pv 1) (nomark _)))))) pss_nil)
      (pss_one (ps_ret (pe_and (pe_cmpR op_eq (pe_ix ix_tup (pv 0) pe_int (fun _ _ => rfl)) pe_str (nomark _)) (pe_one (pe_call G_is_number (hr.mono (by decide)) (by rfl) T.g_is_number T.F_is_number.kp T.b_is_number .nil pass0 (pa_cons (pe_ix ix_tup (pv 0) pe_int (fun _ _ => rfl)) (pa_cons (pv 3) pa_nil))))))))), ?_⟩
    cases f with
    | cell i =>
      obtain ⟨h1, h2⟩ := ok
      have e : H p = some (.tup [.str "cell", .int (i : Int)]) := e
      refine ⟨_, rfl, _, _, _, _, true, rfl, .ty _, kT e, kit_ty (by decide +kernel), true, rfl, iteF ⟨_, rfl, _, _, rfl, .inr (SqT.of e), rfl, _, rfl, iteNS rfl ?_⟩⟩
      refine ⟨_, rfl, p, _, _, _, rfl, rfl, SqT.of e, by rfl, rfl, _, rfl, iteY rfl ?_⟩
      refine ⟨_, rfl, p, _, _, _, rfl, rfl, SqT.of e, by rfl, _, rfl, _, _, rfl, _, rfl, iteY ⟨by omega, by omega⟩ ?_⟩
      refine ⟨_, rfl, p, _, _, _, rfl, rfl, SqT.of e, by rfl, _, rfl, rfl, ?_⟩
      show Q (.bl (!decide (V.int (i : Int) = V.int (t : Int)))) H
      rw [decide_eq_false (int_ne (by omega))]
      exact q
    | inp k =>
      have h1 : k < m := ok
      have e : H p = some (.tup [.str "input", .int (k : Int)]) := e
      refine ⟨_, rfl, _, _, _, _, true, rfl, .ty _, kT e, kit_ty (by decide +kernel), true, rfl, iteF ⟨_, rfl, _, _, rfl, .inr (SqT.of e), rfl, _, rfl, iteNS rfl ?_⟩⟩
      refine ⟨_, rfl, p, _, _, _, rfl, rfl, SqT.of e, by rfl, rfl, _, rfl, iteN (by decide) ?_⟩
      refine ⟨_, rfl, p, _, _, _, rfl, rfl, SqT.of e, by rfl, rfl, _, rfl, iteY rfl ?_⟩
      refine ⟨_, rfl, p, _, _, _, rfl, rfl, SqT.of e, by rfl, _, rfl, _, _, rfl, ?_⟩
      show Q (.bl (decide (0 ≤ (k : Int) ∧ (k : Int) < (m : Int)))) H
      rw [decide_eq_true ⟨by omega, by omega⟩]
      exact q
theorem ok_is_add (T : Txt w K mg D) : FnOk P w K mg base CX0 4 D.f_is_add D.d_is_add ["step", "modulus", "cells", "inputs"] spIsAdd := by
  have G_is_number : FnOk P w K mg base CX0 2 D.f_is_number D.d_is_number ["value", "modulus"] spIsNumber := ok_is_number T
  have G_is_factor : FnOk P w K mg base CX0 3 D.f_is_factor D.d_is_factor ["factor", "target", "cells", "inputs"] spIsFactor := ok_is_factor T
  refine T.F_is_add.ok c_is_add (fun vs H Q E h => ?_) (fun cdv A outer s H vs Q E hr h => ?_)
  · obtain ⟨p, st, m, rfl, _⟩ := h
    rfl
  · obtain ⟨p, st, m, rfl, ⟨f, ep, fvs, ef, R⟩, ok, q⟩ := h
    have ht := ok.t
    have hlen := ok.len
    obtain ⟨hb0, hb1⟩ := b2_bit st.c
    refine ⟨_, (pss_cons (ps_asg (pv 0) (pg_tup rfl (pgs_cons (pg_name (i := 4) c_is_add.nd rfl (.inl rfl)) (pgs_cons (pg_name (i := 5) c_is_add.nd rfl (.inl rfl)) (pgs_cons (pg_name (i := 6) c_is_add.nd rfl (.inl rfl)) (pgs_cons (pg_name (i := 7) c_is_add.nd rfl (.inl rfl)) pgs_nil))))))
      (pss_cons (ps_if (PW.pt (pw_or (pt_not (pt_val (pe_call G_is_number (hr.mono (by decide)) (by rfl) T.g_is_number T.F_is_number.kp T.b_is_number .nil pass0 (pa_cons (pv 5) (pa_cons (pv 2) pa_nil))))) (pw_or1 (pt_not (pt_val (pe_call G_is_number (hr.mono (by decide)) (by rfl) T.g_is_number T.F_is_number.kp T.b_is_number .nil pass0 (pa_cons (pv 6) (pa_cons (pv 1) pa_nil)))))))) (pss_one (ps_ret pe_bl)) pss_nil)
      (pss_cons (ps_if (PW.pt (pw_or (pt_not (pt_val (pe_callB call_isi (by rfl) T.z_isinstance (by decide +kernel) (pa_cons (pv 7) (pa_cons (pe_bltn (v := .ty "tuple") (u := .type "tuple") (by rfl) T.z_tuple (by decide +kernel) rfl) pa_nil))))) (pw_or1 (pt_cmpR op_gt (pe_callB call_len_seq (by rfl) T.z_len (by decide +kernel) (pa_cons (pv 7) pa_nil)) (pe_glob (v := .int 3) (by rfl) T.k_FACTORS ⟨_, rfl⟩) (nomark _))))) (pss_one (ps_ret pe_bl)) pss_nil)
      (pss_cons (ps_for PassesOwn.never rfl (pi_tup (pv 7)) (pg_name (i := 8) c_is_add.nd rfl (.inl rfl)) (pss_one (ps_if (pt_not (pt_val (pe_call G_is_factor (hr.mono (by decide)) (by rfl) T.g_is_factor T.F_is_factor.kp T.b_is_factor .nil pass0 (pa_cons (pv 8) (pa_cons (pv 5) (pa_cons (pv 2) (pa_cons (pv 3) pa_nil))))))) (pss_one (ps_ret pe_bl)) pss_nil)))
      (pss_one (ps_ret pe_bl)))))), ?_⟩
    refine ⟨_, rfl, p, _, rfl, SqT.of ep, rfl, _, _, rfl, _, _, rfl, _, _, rfl, _, _, rfl, rfl, ?_⟩
    refine ⟨_, rfl, _, rfl, _, _, rfl, _, rfl, iteNS ⟨by omega, by omega⟩ ⟨_, rfl, _, rfl, _, _, rfl, _, rfl, iteNS ⟨hb0, hb1⟩ ?_⟩⟩
    refine ⟨_, rfl, _, _, _, _, true, rfl, .ty _, kT ef, kit_ty (by decide +kernel), true, rfl, iteF ⟨_, rfl, _, _, rfl, .inr (SqT.of ef), _, _, rfl, rfl, _, rfl, iteN (by rw [R.len]; omega) ?_⟩⟩
    refine ⟨.ref f, rfl, f, rfl, ⟨_, SqT.of ef⟩, for_tup (K := K) (a := f) (xs := fvs)
      (fun i σ' H' => ∃ (x : Option V), σ' = [some (.ref p), some (.int 2), some (.int 3), some (.int (m : Int)), some (.str "add"), some (.int (st.t : Int)), some (.int (b2 st.c)), some (.ref f), x] ∧ H' = H)
      ⟨none, rfl, rfl⟩ (fun i σ' H' _ ⟨_, _, eH⟩ => by rw [eH]; exact SqT.of ef) ?_ ?_⟩
    · rintro i v σ' H' hv ⟨x, rfl, rfl⟩
      obtain ⟨g, fac, rfl, hfac, eg⟩ := R.get hv
      refine ⟨_, rfl, _, rfl, _, rfl, _, rfl, g, fac, st.t, m, rfl, eg, ok.fac (List.mem_of_getElem? hfac), true, rfl, iteF ?_⟩
      exact ⟨_, rfl, rfl⟩
    · rintro σ' H' ⟨x, rfl, rfl⟩
      exact q
theorem ok_is_step (T : Txt w K mg D) : FnOk P w K mg base CX0 5 D.f_is_step D.d_is_step ["step", "modulus", "cells", "inputs"] spIsAdd := by
  have G_is_add : FnOk P w K mg base CX0 4 D.f_is_add D.d_is_add ["step", "modulus", "cells", "inputs"] spIsAdd := ok_is_add T
  refine T.F_is_step.ok c_is_step (fun vs H Q E h => ?_) (fun cdv A outer s H vs Q E hr h => ?_)
  · obtain ⟨p, st, m, rfl, _⟩ := h
    rfl
  · obtain ⟨p, st, m, rfl, ⟨f, ep, ef⟩, ok, q⟩ := h
    refine ⟨_, (pss_cons (ps_if (PW.pt (pw_or (pt_not (pt_val (pe_callB call_isi (by rfl) T.z_isinstance (by decide +kernel) (pa_cons (pv 0) (pa_cons (pe_bltn (v := .ty "tuple") (u := .type "tuple") (by rfl) T.z_tuple (by decide +kernel) rfl) pa_nil))))) (pw_or1 (pt_cmpR op_lt (pe_callB call_len_seq (by rfl) T.z_len (by decide +kernel) (pa_cons (pv 0) pa_nil)) pe_int (nomark _))))) (pss_one (ps_ret pe_bl)) pss_nil)
      (pss_cons (ps_if (PW.pt (pw_and (pt_cmpR op_eq (pe_ix ix_tup (pv 0) pe_int (fun _ _ => rfl)) pe_str (nomark _)) (pw_and1 (pt_cmpR op_eq (pe_callB call_len_seq (by rfl) T.z_len (by decide +kernel) (pa_cons (pv 0) pa_nil)) pe_int (nomark _))))) (pss_one (ps_ret (pe_call G_is_add (hr.mono (by decide)) (by rfl) T.g_is_add T.F_is_add.kp T.b_is_add .nil pass0 (pa_cons (pv 0) (pa_cons (pv 1) (pa_cons (pv 2) (pa_cons (pv 3) pa_nil))))))) pss_nil)
      pss_never)), ?_⟩
    refine ⟨_, rfl, _, _, _, _, true, rfl, .ty _, kT ep, kit_ty (by decide +kernel), true, rfl, iteF ⟨_, rfl, _, _, rfl, .inr (SqT.of ep), _, _, rfl, rfl, _, rfl, iteN (by show ¬ (4 : Int) < 3; decide) ?_⟩⟩
    refine ⟨_, rfl, p, _, _, _, rfl, rfl, SqT.of ep, by rfl, rfl, _, rfl, iteY rfl ⟨_, rfl, _, _, rfl, .inr (SqT.of ep), rfl, _, rfl, iteY rfl ?_⟩⟩
    exact ⟨_, rfl, _, rfl, _, rfl, _, rfl, p, st, m, rfl, ⟨f, ep, ef⟩, ok, q⟩
theorem ok_check_steps (T : Txt w K mg D) : FnOk P w K mg base CX0 6 D.f_check_steps D.d_check_steps ["steps", "modulus", "cells", "inputs", "most"] spCheckSteps := by
  have G_is_step : FnOk P w K mg base CX0 5 D.f_is_step D.d_is_step ["step", "modulus", "cells", "inputs"] spIsAdd := ok_is_step T
  refine T.F_check_steps.ok c_check_steps (fun vs H Q E h => ?_) (fun cdv A outer s H vs Q E hr h => ?_)
  · obtain ⟨l, svs, sts, m, rfl, _⟩ := h
    rfl
  · obtain ⟨l, svs, sts, m, rfl, el, R, ok, hl, q⟩ := h
    refine ⟨_, (pss_cons (ps_if (PW.pt (pw_or (pt_not (pt_val (pe_callB call_isi (by rfl) T.z_isinstance (by decide +kernel) (pa_cons (pv 0) (pa_cons (pe_bltn (v := .ty "list") (u := .type "list") (by rfl) T.z_list (by decide +kernel) rfl) pa_nil))))) (pw_or1 (pt_cmpR op_gt (pe_callB call_len_seq (by rfl) T.z_len (by decide +kernel) (pa_cons (pv 0) pa_nil)) (pv 4) (nomark _))))) pss_never pss_nil)
      (pss_cons (ps_set (i := 5) c_check_steps.nd rfl (.inl rfl) pe_bl)
      (pss_cons (ps_for PassesOwn.never rfl (pi_list (pv 0)) (pg_name (i := 6) c_check_steps.nd rfl (.inl rfl)) (pss_cons (ps_if (pt_not (pt_val (pe_call G_is_step (hr.mono (by decide)) (by rfl) T.g_is_step T.F_is_step.kp T.b_is_step .nil pass0 (pa_cons (pv 6) (pa_cons (pv 1) (pa_cons (pv 2) (pa_cons (pv 3) pa_nil))))))) pss_never pss_nil)
      (pss_one (ps_set (i := 5) c_check_steps.nd rfl (.inl rfl) (pe_or (pv 5) (pe_one (pe_cmpR op_eq (pe_ix ix_tup (pv 6) pe_int (fun _ _ => rfl)) pe_str (nomark _))))))))
      (pss_one (ps_if (PW.pt (pw_and (pt_truth (pv 5) (by intro _; rfl)) (pw_and1 pt_no))) pss_never pss_nil))))), ?_⟩
    refine ⟨_, rfl, _, _, _, _, true, rfl, .ty _, kL el, kit_ty (by decide +kernel), true, rfl, iteF ⟨_, rfl, _, _, rfl, .inl (SqL.of el), _, rfl, _, _, rfl, rfl, _, rfl, iteN (by rw [R.len]; omega) ?_⟩⟩
    refine ⟨.ref l, rfl, l, rfl, ⟨_, SqL.of el⟩, for_list (K := K) (a := l) (xs := svs)
      (fun i σ' H' => ∃ (x : Option V), σ' = [some (.ref l), some (.int 2), some (.int 3), some (.int (m : Int)), some (.int 20000), some (.bl false), x] ∧ H' = H)
      ⟨none, rfl, rfl⟩ (fun i σ' H' _ ⟨_, _, eH⟩ => by rw [eH]; exact SqL.of el) ?_ ?_⟩
    · rintro i v σ' H' hv ⟨x, rfl, rfl⟩
      obtain ⟨p, st, rfl, hst, f, ep, ef⟩ := R.get hv
      refine ⟨_, rfl, _, rfl, _, rfl, _, rfl, p, st, m, rfl, ⟨f, ep, ef⟩, ok st (List.mem_of_getElem? hst), true, rfl, iteF ?_⟩
      refine ⟨_, rfl, false, rfl, iteF ⟨_, rfl, p, _, _, _, rfl, rfl, SqT.of ep, by rfl, rfl, ?_⟩⟩
      have e : decide (V.str "add" = V.str "table") = false := decide_eq_false (by decide)
      exact ⟨some (.ref p), by rw [e]; rfl, rfl⟩
    · rintro σ' H' ⟨x, rfl, rfl⟩
      exact ⟨_, rfl, false, rfl, iteF (iteF q)⟩
theorem ok_pinit (T : Txt w K mg D) : FnOk P w K mg base CX0 7 D.f_pinit D.d_pinit ["self", "modulus", "cells", "inputs", "steps"] (spInit D.C) := by
  have G_is_integer : FnOk P w K mg base CX0 1 D.f_is_integer D.d_is_integer ["value"] spIsInteger := ok_is_integer T
  have G_check_steps : FnOk P w K mg base CX0 6 D.f_check_steps D.d_check_steps ["steps", "modulus", "cells", "inputs", "most"] spCheckSteps := ok_check_steps T
  refine T.F_pinit.ok c_pinit (fun vs H Q E h => ?_) (fun cdv A outer s H vs Q E hr h => ?_)
  · obtain ⟨x, dx, l, svs, sts, m, rfl, _⟩ := h
    rfl
  · obtain ⟨x, dx, l, svs, sts, m, rfl, ex, el, R, ok, hl, hm, q⟩ := h
    refine ⟨_, (pss_cons (ps_if (PW.pt (pw_or (pt_not (pt_val (pe_call G_is_integer (hr.mono (by decide)) (by rfl) T.g_is_integer T.F_is_integer.kp T.b_is_integer .nil pass0 (pa_cons (pv 1) pa_nil)))) (pw_or1 (pt_not (pt_chain op_le op_le pe_int (pv 1) (pe_glob (v := .int 1000000000) (by rfl) T.k_MODULUS ⟨_, rfl⟩)))))) pss_never pss_nil)
      (pss_cons (ps_if (PW.pt (pw_or (pt_not (pt_val (pe_call G_is_integer (hr.mono (by decide)) (by rfl) T.g_is_integer T.F_is_integer.kp T.b_is_integer .nil pass0 (pa_cons (pv 2) pa_nil)))) (pw_or1 (pt_not (pt_chain op_le op_le pe_int (pv 2) (pe_glob (v := .int 60) (by rfl) T.k_CELLS ⟨_, rfl⟩)))))) pss_never pss_nil)
      (pss_cons (ps_if (PW.pt (pw_or (pt_not (pt_val (pe_call G_is_integer (hr.mono (by decide)) (by rfl) T.g_is_integer T.F_is_integer.kp T.b_is_integer .nil pass0 (pa_cons (pv 3) pa_nil)))) (pw_or1 (pt_not (pt_chain op_le op_le pe_int (pv 3) (pe_glob (v := .int 60) (by rfl) T.k_INPUTS_programs ⟨_, rfl⟩)))))) pss_never pss_nil)
      (pss_cons (ps_expr (pe_call G_check_steps (hr.mono (by decide)) (by rfl) T.g_check_steps T.F_check_steps.kp T.b_check_steps .nil pass0 (pa_cons (pv 4) (pa_cons (pv 1) (pa_cons (pv 2) (pa_cons (pv 3) (pa_cons (pe_glob (v := .int 20000) (by rfl) T.k_STEPS ⟨_, rfl⟩) pa_nil)))))))
      (pss_cons (ps_fld (pv 0) (pv 1) rfl)
      (pss_cons (ps_fld (pv 0) (pv 2) rfl)
      (pss_cons (ps_fld (pv 0) (pv 3) rfl)
      (pss_one (ps_fld (pv 0) (pe_callTy call_list_of (by rfl) T.z_list (by decide +kernel) (pa_cons (pv 4) pa_nil)) rfl))))))))), ?_⟩
    refine ⟨_, rfl, 2, rfl, _, rfl, iteF ⟨_, rfl, _, _, rfl, rfl, _, rfl, iteY (by decide) ⟨_, _, rfl, rfl, _, rfl, iteNS (by decide) ?_⟩⟩⟩
    refine ⟨_, rfl, 3, rfl, _, rfl, iteF ⟨_, rfl, _, _, rfl, rfl, _, rfl, iteY (by decide) ⟨_, _, rfl, rfl, _, rfl, iteNS (by decide) ?_⟩⟩⟩
    refine ⟨_, rfl, (m : Int), rfl, _, rfl, iteF ⟨_, rfl, _, _, rfl, rfl, _, rfl, iteY (by omega) ⟨_, _, rfl, rfl, _, rfl, iteNS (by omega) ?_⟩⟩⟩
    refine ⟨_, rfl, _, rfl, _, rfl, _, rfl, l, svs, sts, m, rfl, el, R, ok, hl, ?_⟩
    have nlx : l ≠ x := ne_of el ex (fun z => by cases z)
    have k1 := putF_len "modulus" (.int 2) []
    have k2 := putF_len "cells" (.int 3) (putF "modulus" (.int 2) [])
    have k3 := putF_len "inputs" (.int (m : Int)) (putF "cells" (.int 3) (putF "modulus" (.int 2) []))
    rw [List.length_nil] at k1
    refine ⟨_, rfl, _, rfl, x, D.C, dx, _, rfl, ex, T.clC, T.n_modulus, (by decide), ?_⟩
    refine ⟨_, rfl, _, rfl, x, D.C, dx, _, rfl, upd_same, T.clC, T.n_cells, (by omega), ?_⟩
    refine ⟨_, rfl, _, rfl, x, D.C, dx, _, rfl, upd_same, T.clC, T.n_inputs, (by omega), ?_⟩
    rw [upd_upd, upd_upd]
    refine ⟨_, rfl, l, _, rfl, .inl (SqL.of ((upd_ne nlx).trans el)), fun l' nl => ?_⟩
    have nxl : x ≠ l' := fun z => by
      rw [← z, upd_same] at nl
      cases nl
    refine ⟨_, rfl, x, D.C, dx, _, rfl, (upd_ne nxl).trans upd_same, T.clC, T.n_steps, (by omega), ?_⟩
    refine q _ l' (fun b o hb e => ?_) ((upd_ne nxl.symm).symm.trans nl) upd_same ?_
    · rw [upd_ne hb]
      have hbl : b ≠ l' := fun z => by
        rw [z] at e
        rw [upd_ne nxl.symm, e] at nl
        cases nl
      rw [upd_ne hbl, upd_ne hb]
      exact e
    · rw [upd_ne nxl.symm, upd_same]
end
end BF
namespace BF
open PySem PySem.Spec PyProof.Rows L2 BR
def spIsNode : Sp := fun vs H Q _ => ∃ (p : Addr) (nd : Nd) (at_ : Nat), vs = [.ref p, .int (at_ : Int)] ∧ NdAt H p nd ∧ nd.ok at_ ∧ ∀ H', Same H H' → Q (.bl true) H'
def spCheckSource : Sp := fun vs H Q _ => ∃ (a : Addr) (s : List Nd), vs = [.ref a] ∧ SrcAt H a s ∧ Wf s ∧ 1 ≤ s.length ∧ s.length ≤ 200 ∧ ∀ H', Same H H' → Q .non H'
def spNeeds : Sp := fun vs H Q _ => ∃ (a : Addr) (s : List Nd), vs = [.ref a] ∧ SrcAt H a s ∧ Wf s ∧ 1 ≤ s.length ∧ s.length ≤ 200 ∧ ∀ H', Same H H' → Q (.int (needs s : Int)) H'
def spCost : Sp := fun vs H Q _ => ∃ (a : Addr) (s : List Nd), vs = [.ref a] ∧ SrcAt H a s ∧ Wf s ∧ 1 ≤ s.length ∧ s.length ≤ 200 ∧ ∀ H', Same H H' → Q (.int (cst s (s.length - 1) : Int)) H'
theorem two_ints {n i j : Nat} (h1 : i < n) (h2 : j < n) : ∀ (k : Nat) (v : V), ([.int (i : Int), .int (j : Int)] : List V)[k]? = some v → ∃ m : Nat, v = .int (m : Int) ∧ m < n
  | 0, v, e => ⟨i, (Option.some.inj e).symm, h1⟩
  | 1, v, e => ⟨j, (Option.some.inj e).symm, h2⟩
  | _ + 2, v, e => by simp at e
theorem three_ints {n i j l : Nat} (h1 : i < n) (h2 : j < n) (h3 : l < n) : ∀ (k : Nat) (v : V), ([.int (i : Int), .int (j : Int), .int (l : Int)] : List V)[k]? = some v → ∃ m : Nat, v = .int (m : Int) ∧ m < n
  | 0, v, e => ⟨i, (Option.some.inj e).symm, h1⟩
  | 1, v, e => ⟨j, (Option.some.inj e).symm, h2⟩
  | 2, v, e => ⟨l, (Option.some.inj e).symm, h3⟩
  | _ + 3, v, e => by simp at e
section
variable {P : Program} {w : World} {K : PySem.W.Frag} {mg : Str → Option Value} {base : Heap} {D : Ds}
theorem ok_is_node (T : Txt w K mg D) : FnOk P w K mg base CX0 3 D.f_is_node D.d_is_node ["node", "at"] spIsNode := by
  have G_is_number : FnOk P w K mg base CX0 2 D.f_is_number D.d_is_number ["value", "modulus"] spIsNumber := ok_is_number T
  refine T.F_is_node.ok c_is_node (fun vs H Q E h => ?_) (fun cdv A outer s H vs Q E hr h => ?_)
  · obtain ⟨p, nd, at_, rfl, _⟩ := h
    rfl
  · obtain ⟨p, nd, at_, rfl, e, ok, q⟩ := h
    refine ⟨_, (pss_cons (ps_if (PW.pt (pw_or (pt_not (pt_val (pe_callB call_isi (by rfl) T.z_isinstance (by decide +kernel) (pa_cons (pv 0) (pa_cons (pe_bltn (v := .ty "tuple") (u := .type "tuple") (by rfl) T.z_tuple (by decide +kernel) rfl) pa_nil))))) (pw_or (pt_cmpR op_lt (pe_callB call_len_seq (by rfl) T.z_len (by decide +kernel) (pa_cons (pv 0) pa_nil)) pe_int (nomark _)) (pw_or1 (pt_not (pt_val (pe_callB call_isi (by rfl) T.z_isinstance (by decide +kernel) (pa_cons (pe_ix ix_tup (pv 0) pe_int (fun _ _ => rfl)) (pa_cons (pe_bltn (v := .ty "str") (u := .type "str") (by rfl) T.z_str (by decide +kernel) rfl) pa_nil))))))))) (pss_one (ps_ret pe_bl)) pss_nil)
      (pss_cons (ps_if (pt_cmpR op_ne (pe_kget T.kd (pe_glob (v := .ref D.L) (by rfl) T.g_LENGTHS rfl) (pe_ix ix_tup (pv 0) pe_int (fun _ _ => rfl)) ⟨rfl, rfl, rfl, rfl⟩) (pe_callB call_len_seq (by rfl) T.z_len (by decide +kernel) (pa_cons (pv 0) pa_nil)) (nomark _)) (pss_one (ps_ret pe_bl)) pss_nil)
      (pss_cons (ps_if (pt_cmpR op_eq (pe_ix ix_tup (pv 0) pe_int (fun _ _ => rfl)) pe_str (nomark _)) (pss_one (ps_ret (pe_call G_is_number (hr.mono (by decide)) (by rfl) T.g_is_number T.F_is_number.kp T.b_is_number .nil pass0 (pa_cons (pe_ix ix_tup (pv 0) pe_int (fun _ _ => rfl)) (pa_cons (pe_glob (v := .int 1000000000) (by rfl) T.k_CONSTANT ⟨_, rfl⟩) pa_nil))))) pss_nil)
      (pss_cons (ps_if (pt_cmpR op_eq (pe_ix ix_tup (pv 0) pe_int (fun _ _ => rfl)) pe_str (nomark _)) (pss_one (ps_ret (pe_call G_is_number (hr.mono (by decide)) (by rfl) T.g_is_number T.F_is_number.kp T.b_is_number .nil pass0 (pa_cons (pe_ix ix_tup (pv 0) pe_int (fun _ _ => rfl)) (pa_cons (pe_glob (v := .int 60) (by rfl) T.k_INPUTS_sources ⟨_, rfl⟩) pa_nil))))) pss_nil)
      (pss_cons (ps_if (pt_cmpR op_eq (pe_ix ix_tup (pv 0) pe_int (fun _ _ => rfl)) pe_str (nomark _)) (pss_one (ps_ret (pe_and (pe_call G_is_number (hr.mono (by decide)) (by rfl) T.g_is_number T.F_is_number.kp T.b_is_number .nil pass0 (pa_cons (pe_ix ix_tup (pv 0) pe_int (fun _ _ => rfl)) (pa_cons (pe_glob (v := .int 1000000000) (by rfl) T.k_CONSTANT ⟨_, rfl⟩) pa_nil))) (pe_one (pe_call G_is_number (hr.mono (by decide)) (by rfl) T.g_is_number T.F_is_number.kp T.b_is_number .nil pass0 (pa_cons (pe_ix ix_tup (pv 0) pe_int (fun _ _ => rfl)) (pa_cons (pv 1) pa_nil))))))) pss_nil)
      (pss_cons (ps_for PassesOwn.never rfl (pi_tup (pe_slice sl_tup (pv 0) (po_some pe_int) po_none)) (pg_name (i := 2) c_is_node.nd rfl (.inl rfl)) (pss_one (ps_if (pt_not (pt_val (pe_call G_is_number (hr.mono (by decide)) (by rfl) T.g_is_number T.F_is_number.kp T.b_is_number .nil pass0 (pa_cons (pv 2) (pa_cons (pv 1) pa_nil))))) (pss_one (ps_ret pe_bl)) pss_nil)))
      (pss_one (ps_ret pe_bl)))))))), ?_⟩
    cases nd with
    | cst c =>
      have hc : c < 1000000000 := ok
      have e : H p = some (.tup [.str "const", .int (c : Int)]) := e
      refine ⟨_, rfl, _, _, _, _, true, rfl, .ty _, kT e, kit_ty (by decide +kernel), true, rfl, iteF ⟨_, rfl, _, _, rfl, .inr (SqT.of e), _, _, rfl, rfl, _, rfl, iteN (by show ¬ (2 : Int) < 2; decide) ⟨_, rfl, p, _, _, _, rfl, rfl, SqT.of e, by rfl, _, _, _, _, true, rfl, .ty _, kS, kit_ty (by decide +kernel), true, rfl, iteF ?_⟩⟩⟩
      refine ⟨rfl, _, rfl, p, _, _, _, rfl, rfl, SqT.of e, by rfl, _, _, .int 2, rfl, T.l_const, ⟨_, rfl⟩, _, rfl, _, _, rfl, .inr (SqT.of e), rfl, _, rfl, iteNS rfl ?_⟩
      refine ⟨_, rfl, p, _, _, _, rfl, rfl, SqT.of e, by rfl, rfl, _, rfl, iteY rfl ?_⟩
      refine ⟨_, rfl, p, _, _, _, rfl, rfl, SqT.of e, by rfl, _, _, rfl, ?_⟩
      show Q (.bl (decide (0 ≤ (c : Int) ∧ (c : Int) < 1000000000))) H
      rw [decide_eq_true ⟨by omega, by omega⟩]
      exact q _ (Same.refl _)
    | inp k =>
      have hk : k < 60 := ok
      have e : H p = some (.tup [.str "input", .int (k : Int)]) := e
      refine ⟨_, rfl, _, _, _, _, true, rfl, .ty _, kT e, kit_ty (by decide +kernel), true, rfl, iteF ⟨_, rfl, _, _, rfl, .inr (SqT.of e), _, _, rfl, rfl, _, rfl, iteN (by show ¬ (2 : Int) < 2; decide) ⟨_, rfl, p, _, _, _, rfl, rfl, SqT.of e, by rfl, _, _, _, _, true, rfl, .ty _, kS, kit_ty (by decide +kernel), true, rfl, iteF ?_⟩⟩⟩
      refine ⟨rfl, _, rfl, p, _, _, _, rfl, rfl, SqT.of e, by rfl, _, _, .int 2, rfl, T.l_input, ⟨_, rfl⟩, _, rfl, _, _, rfl, .inr (SqT.of e), rfl, _, rfl, iteNS rfl ?_⟩
      refine ⟨_, rfl, p, _, _, _, rfl, rfl, SqT.of e, by rfl, rfl, _, rfl, iteN (by decide) ?_⟩
      refine ⟨_, rfl, p, _, _, _, rfl, rfl, SqT.of e, by rfl, rfl, _, rfl, iteY rfl ?_⟩
      refine ⟨_, rfl, p, _, _, _, rfl, rfl, SqT.of e, by rfl, _, _, rfl, ?_⟩
      show Q (.bl (decide (0 ≤ (k : Int) ∧ (k : Int) < 60))) H
      rw [decide_eq_true ⟨by omega, by omega⟩]
      exact q _ (Same.refl _)
    | sc c i =>
      obtain ⟨hc, hi⟩ := ok
      have e : H p = some (.tup [.str "scaled", .int (c : Int), .int (i : Int)]) := e
      refine ⟨_, rfl, _, _, _, _, true, rfl, .ty _, kT e, kit_ty (by decide +kernel), true, rfl, iteF ⟨_, rfl, _, _, rfl, .inr (SqT.of e), _, _, rfl, rfl, _, rfl, iteN (by show ¬ (3 : Int) < 2; decide) ⟨_, rfl, p, _, _, _, rfl, rfl, SqT.of e, by rfl, _, _, _, _, true, rfl, .ty _, kS, kit_ty (by decide +kernel), true, rfl, iteF ?_⟩⟩⟩
      refine ⟨rfl, _, rfl, p, _, _, _, rfl, rfl, SqT.of e, by rfl, _, _, .int 3, rfl, T.l_scaled, ⟨_, rfl⟩, _, rfl, _, _, rfl, .inr (SqT.of e), rfl, _, rfl, iteNS rfl ?_⟩
      refine ⟨_, rfl, p, _, _, _, rfl, rfl, SqT.of e, by rfl, rfl, _, rfl, iteN (by decide) ?_⟩
      refine ⟨_, rfl, p, _, _, _, rfl, rfl, SqT.of e, by rfl, rfl, _, rfl, iteN (by decide) ?_⟩
      refine ⟨_, rfl, p, _, _, _, rfl, rfl, SqT.of e, by rfl, rfl, _, rfl, iteY rfl ?_⟩
      refine ⟨_, rfl, p, _, _, _, rfl, rfl, SqT.of e, by rfl, _, _, rfl, _, rfl, iteY ⟨by omega, by omega⟩ ⟨_, rfl, p, _, _, _, rfl, rfl, SqT.of e, by rfl, _, rfl, _, _, rfl, ?_⟩⟩
      show Q (.bl (decide (0 ≤ (i : Int) ∧ (i : Int) < (at_ : Int)))) H
      rw [decide_eq_true ⟨by omega, by omega⟩]
      exact q _ (Same.refl _)
    | sm i j =>
      obtain ⟨hi, hj⟩ := ok
      have e : H p = some (.tup [.str "sum", .int (i : Int), .int (j : Int)]) := e
      refine ⟨_, rfl, _, _, _, _, true, rfl, .ty _, kT e, kit_ty (by decide +kernel), true, rfl, iteF ⟨_, rfl, _, _, rfl, .inr (SqT.of e), _, _, rfl, rfl, _, rfl, iteN (by show ¬ (3 : Int) < 2; decide) ⟨_, rfl, p, _, _, _, rfl, rfl, SqT.of e, by rfl, _, _, _, _, true, rfl, .ty _, kS, kit_ty (by decide +kernel), true, rfl, iteF ?_⟩⟩⟩
      refine ⟨rfl, _, rfl, p, _, _, _, rfl, rfl, SqT.of e, by rfl, _, _, .int 3, rfl, T.l_sum, ⟨_, rfl⟩, _, rfl, _, _, rfl, .inr (SqT.of e), rfl, _, rfl, iteNS rfl ?_⟩
      refine ⟨_, rfl, p, _, _, _, rfl, rfl, SqT.of e, by rfl, rfl, _, rfl, iteN (by decide) ?_⟩
      refine ⟨_, rfl, p, _, _, _, rfl, rfl, SqT.of e, by rfl, rfl, _, rfl, iteN (by decide) ?_⟩
      refine ⟨_, rfl, p, _, _, _, rfl, rfl, SqT.of e, by rfl, rfl, _, rfl, iteN (by decide) ?_⟩
      refine ⟨_, rfl, 1, rfl, p, _, rfl, SqT.of e, (by show ¬ (HT.sIx 3 0 (some 1) = 0 ∧ HT.sIx 3 3 none = 3); decide), fun u hu => ?_⟩
      have ec : cutV [.str "sum", .int (i : Int), .int (j : Int)] (some 1) none = [.int (i : Int), .int (j : Int)] := rfl
      rw [ec]
      have s1 : Same H (upd H u (.tup [.int (i : Int), .int (j : Int)])) := same_new hu
      have hx : ∀ (z : Nat) (v : V), ([.int (i : Int), .int (j : Int)] : List V)[z]? = some v → ∃ k : Nat, v = .int (k : Int) ∧ k < at_ := two_ints hi hj
      refine ⟨u, rfl, ⟨_, SqT.of upd_same⟩, for_tup (K := K) (a := u) (xs := [.int (i : Int), .int (j : Int)]) (fun z σ' H' => ∃ (x : Option V), σ' = [some (.ref p), some (.int (at_ : Int)), x] ∧ H' = upd H u (.tup [.int (i : Int), .int (j : Int)]))
        ⟨none, rfl, rfl⟩ (fun z σ' H' _ ⟨_, _, eH⟩ => by rw [eH]; exact SqT.of upd_same) ?_ ?_⟩
      · rintro z v σ' H' hv ⟨x, rfl, rfl⟩
        obtain ⟨k, rfl, hk⟩ := hx z v hv
        exact ⟨_, rfl, _, rfl, _, _, rfl, _, rfl, iteNS ⟨by omega, by omega⟩ ⟨_, rfl, rfl⟩⟩
      · rintro σ' H' ⟨x, rfl, rfl⟩
        exact q _ s1
    | pr i j =>
      obtain ⟨hi, hj⟩ := ok
      have e : H p = some (.tup [.str "product", .int (i : Int), .int (j : Int)]) := e
      refine ⟨_, rfl, _, _, _, _, true, rfl, .ty _, kT e, kit_ty (by decide +kernel), true, rfl, iteF ⟨_, rfl, _, _, rfl, .inr (SqT.of e), _, _, rfl, rfl, _, rfl, iteN (by show ¬ (3 : Int) < 2; decide) ⟨_, rfl, p, _, _, _, rfl, rfl, SqT.of e, by rfl, _, _, _, _, true, rfl, .ty _, kS, kit_ty (by decide +kernel), true, rfl, iteF ?_⟩⟩⟩
      refine ⟨rfl, _, rfl, p, _, _, _, rfl, rfl, SqT.of e, by rfl, _, _, .int 3, rfl, T.l_product, ⟨_, rfl⟩, _, rfl, _, _, rfl, .inr (SqT.of e), rfl, _, rfl, iteNS rfl ?_⟩
      refine ⟨_, rfl, p, _, _, _, rfl, rfl, SqT.of e, by rfl, rfl, _, rfl, iteN (by decide) ?_⟩
      refine ⟨_, rfl, p, _, _, _, rfl, rfl, SqT.of e, by rfl, rfl, _, rfl, iteN (by decide) ?_⟩
      refine ⟨_, rfl, p, _, _, _, rfl, rfl, SqT.of e, by rfl, rfl, _, rfl, iteN (by decide) ?_⟩
      refine ⟨_, rfl, 1, rfl, p, _, rfl, SqT.of e, (by show ¬ (HT.sIx 3 0 (some 1) = 0 ∧ HT.sIx 3 3 none = 3); decide), fun u hu => ?_⟩
      have ec : cutV [.str "product", .int (i : Int), .int (j : Int)] (some 1) none = [.int (i : Int), .int (j : Int)] := rfl
      rw [ec]
      have s1 : Same H (upd H u (.tup [.int (i : Int), .int (j : Int)])) := same_new hu
      have hx : ∀ (z : Nat) (v : V), ([.int (i : Int), .int (j : Int)] : List V)[z]? = some v → ∃ k : Nat, v = .int (k : Int) ∧ k < at_ := two_ints hi hj
      refine ⟨u, rfl, ⟨_, SqT.of upd_same⟩, for_tup (K := K) (a := u) (xs := [.int (i : Int), .int (j : Int)]) (fun z σ' H' => ∃ (x : Option V), σ' = [some (.ref p), some (.int (at_ : Int)), x] ∧ H' = upd H u (.tup [.int (i : Int), .int (j : Int)]))
        ⟨none, rfl, rfl⟩ (fun z σ' H' _ ⟨_, _, eH⟩ => by rw [eH]; exact SqT.of upd_same) ?_ ?_⟩
      · rintro z v σ' H' hv ⟨x, rfl, rfl⟩
        obtain ⟨k, rfl, hk⟩ := hx z v hv
        exact ⟨_, rfl, _, rfl, _, _, rfl, _, rfl, iteNS ⟨by omega, by omega⟩ ⟨_, rfl, rfl⟩⟩
      · rintro σ' H' ⟨x, rfl, rfl⟩
        exact q _ s1
    | ch i j l =>
      obtain ⟨hi, hj, hl⟩ := ok
      have e : H p = some (.tup [.str "choose", .int (i : Int), .int (j : Int), .int (l : Int)]) := e
      refine ⟨_, rfl, _, _, _, _, true, rfl, .ty _, kT e, kit_ty (by decide +kernel), true, rfl, iteF ⟨_, rfl, _, _, rfl, .inr (SqT.of e), _, _, rfl, rfl, _, rfl, iteN (by show ¬ (4 : Int) < 2; decide) ⟨_, rfl, p, _, _, _, rfl, rfl, SqT.of e, by rfl, _, _, _, _, true, rfl, .ty _, kS, kit_ty (by decide +kernel), true, rfl, iteF ?_⟩⟩⟩
      refine ⟨rfl, _, rfl, p, _, _, _, rfl, rfl, SqT.of e, by rfl, _, _, .int 4, rfl, T.l_choose, ⟨_, rfl⟩, _, rfl, _, _, rfl, .inr (SqT.of e), rfl, _, rfl, iteNS rfl ?_⟩
      refine ⟨_, rfl, p, _, _, _, rfl, rfl, SqT.of e, by rfl, rfl, _, rfl, iteN (by decide) ?_⟩
      refine ⟨_, rfl, p, _, _, _, rfl, rfl, SqT.of e, by rfl, rfl, _, rfl, iteN (by decide) ?_⟩
      refine ⟨_, rfl, p, _, _, _, rfl, rfl, SqT.of e, by rfl, rfl, _, rfl, iteN (by decide) ?_⟩
      refine ⟨_, rfl, 1, rfl, p, _, rfl, SqT.of e, (by show ¬ (HT.sIx 4 0 (some 1) = 0 ∧ HT.sIx 4 4 none = 4); decide), fun u hu => ?_⟩
      have ec : cutV [.str "choose", .int (i : Int), .int (j : Int), .int (l : Int)] (some 1) none = [.int (i : Int), .int (j : Int), .int (l : Int)] := rfl
      rw [ec]
      have s1 : Same H (upd H u (.tup [.int (i : Int), .int (j : Int), .int (l : Int)])) := same_new hu
      have hx : ∀ (z : Nat) (v : V), ([.int (i : Int), .int (j : Int), .int (l : Int)] : List V)[z]? = some v → ∃ k : Nat, v = .int (k : Int) ∧ k < at_ := three_ints hi hj hl
      refine ⟨u, rfl, ⟨_, SqT.of upd_same⟩, for_tup (K := K) (a := u) (xs := [.int (i : Int), .int (j : Int), .int (l : Int)]) (fun z σ' H' => ∃ (x : Option V), σ' = [some (.ref p), some (.int (at_ : Int)), x] ∧ H' = upd H u (.tup [.int (i : Int), .int (j : Int), .int (l : Int)]))
        ⟨none, rfl, rfl⟩ (fun z σ' H' _ ⟨_, _, eH⟩ => by rw [eH]; exact SqT.of upd_same) ?_ ?_⟩
      · rintro z v σ' H' hv ⟨x, rfl, rfl⟩
        obtain ⟨k, rfl, hk⟩ := hx z v hv
        exact ⟨_, rfl, _, rfl, _, _, rfl, _, rfl, iteNS ⟨by omega, by omega⟩ ⟨_, rfl, rfl⟩⟩
      · rintro σ' H' ⟨x, rfl, rfl⟩
        exact q _ s1
theorem ok_check_source (T : Txt w K mg D) : FnOk P w K mg base CX0 4 D.f_check_source D.d_check_source ["source"] spCheckSource := by
  have G_is_node : FnOk P w K mg base CX0 3 D.f_is_node D.d_is_node ["node", "at"] spIsNode := ok_is_node T
  refine T.F_check_source.ok c_check_source (fun vs H Q E h => ?_) (fun cdv A outer s H vs Q E hr h => ?_)
  · obtain ⟨a, s, rfl, _⟩ := h
    rfl
  · obtain ⟨a, s, rfl, ⟨vs, e, R⟩, wf, h1, h2, q⟩ := h
    have hl := R.len
    refine ⟨_, (pss_cons (ps_if (PW.pt (pw_or (pt_not (pt_val (pe_callB call_isi (by rfl) T.z_isinstance (by decide +kernel) (pa_cons (pv 0) (pa_cons (pe_bltn (v := .ty "tuple") (u := .type "tuple") (by rfl) T.z_tuple (by decide +kernel) rfl) pa_nil))))) (pw_or1 (pt_not (pt_chain op_le op_le pe_int (pe_callB call_len_seq (by rfl) T.z_len (by decide +kernel) (pa_cons (pv 0) pa_nil)) (pe_glob (v := .int 200) (by rfl) T.k_NODES ⟨_, rfl⟩)))))) pss_never pss_nil)
      (pss_one (ps_for PassesOwn.never rfl (pi_enumT (by rfl) T.z_enumerate (pa_cons (pv 0) pa_nil)) (pg_tup rfl (pgs_cons (pg_name (i := 1) c_check_source.nd rfl (.inl rfl)) (pgs_cons (pg_name (i := 2) c_check_source.nd rfl (.inl rfl)) pgs_nil))) (pss_one (ps_if (pt_not (pt_val (pe_call G_is_node (hr.mono (by decide)) (by rfl) T.g_is_node T.F_is_node.kp T.b_is_node .nil pass0 (pa_cons (pv 2) (pa_cons (pv 1) pa_nil))))) pss_never pss_nil))))), ?_⟩
    refine ⟨_, rfl, _, _, _, _, true, rfl, .ty _, kT e, kit_ty (by decide +kernel), true, rfl, iteF ⟨_, rfl, _, _, rfl, .inr (SqT.of e), _, _, rfl, rfl, _, rfl, iteY (by omega) ⟨_, _, rfl, rfl, _, rfl, iteNS (by omega) ?_⟩⟩⟩
    refine ⟨_, rfl, a, vs, rfl, SqT.of e, for_it (walk_enumT (K := K) (a := a) (xs := vs)) (fun i σ' H' => ∃ (x y : Option V), σ' = [some (.ref a), x, y] ∧ Same H H')
      ⟨none, none, rfl, Same.refl _⟩ (fun i σ' H' _ ⟨_, _, _, s1⟩ => SqT.of (s1 _ _ e)) ?_ ?_⟩
    · rintro i v σ' H1 H2 hi ⟨x, y, rfl, s1⟩ ⟨t, x1, x2, rfl, nt, rfl, f1, f2⟩
      have s2 := same_new (o := .tup [x1, x2]) nt
      obtain ⟨p, nd, rfl, hnd, ep⟩ := R.get f2
      have f1 : V.int (i : Int) = x1 := Option.some.inj f1
      subst f1
      refine ⟨t, _, rfl, SqT.of upd_same, rfl, _, _, rfl, _, _, rfl, rfl, ?_⟩
      refine ⟨_, rfl, _, rfl, p, nd, i, rfl, s2 _ _ (s1 _ _ ep), wf i nd hnd, fun H3 s3 => ⟨true, rfl, iteF ?_⟩⟩
      exact ⟨_, _, rfl, s1.trans (s2.trans s3)⟩
    · rintro σ' H' ⟨x, y, rfl, s1⟩
      exact q _ s1
end
end BF
namespace BF
open PySem PySem.Spec PyProof.Rows L2 BR
theorem nums_at {cs : List Nat} {i : Nat} (h : i < cs.length) : (nums cs)[i]? = some (.int ((cs.getD i 0 : Nat) : Int)) := by
  unfold nums
  rw [List.getElem?_map, List.getD_eq_getElem?_getD, List.getElem?_eq_getElem h]
  rfl
theorem nums_snoc {cs : List Nat} {z : Int} {n : Nat} (h : z = (n : Int)) : nums cs ++ [V.int z] = nums (cs ++ [n]) := by
  unfold nums
  rw [List.map_append, h]
  rfl
theorem nums_last {cs : List Nat} (h : 1 ≤ cs.length) : atI (nums cs) (-1) = some (.int ((cs.getD (cs.length - 1) 0 : Nat) : Int)) := by
  have h1 : cs[cs.length - 1]? = some (cs.getD (cs.length - 1) 0) := by
    rw [List.getD_eq_getElem?_getD, List.getElem?_eq_getElem (by omega)]
    rfl
  have e : cs = cs.take (cs.length - 1) ++ [cs.getD (cs.length - 1) 0] := by
    have q := take_succ_some h1
    rw [show cs.length - 1 + 1 = cs.length by omega, List.take_length] at q
    exact q
  generalize cs.getD (cs.length - 1) 0 = x at e ⊢
  rw [e, ← nums_snoc rfl]
  exact atI_last _ _
section
variable {P : Program} {w : World} {K : PySem.W.Frag} {mg : Str → Option Value} {base : Heap} {D : Ds}
theorem ok_needs (T : Txt w K mg D) : FnOk P w K mg base CX0 5 D.f_needs D.d_needs ["source"] spNeeds := by
  have G_check_source : FnOk P w K mg base CX0 4 D.f_check_source D.d_check_source ["source"] spCheckSource := ok_check_source T
  refine T.F_needs.ok c_needs (fun vs H Q E h => ?_) (fun cdv A outer s H vs Q E hr h => ?_)
  · obtain ⟨a, s, rfl, _⟩ := h
    rfl
  · obtain ⟨a, s, rfl, ⟨vs, e0, R⟩, wf, h1, h2, q⟩ := h
    refine ⟨_, (pss_cons (ps_expr (pe_call G_check_source (hr.mono (by decide)) (by rfl) T.g_check_source T.F_check_source.kp T.b_check_source .nil pass0 (pa_cons (pv 0) pa_nil)))
      (pss_cons (ps_set (i := 1) c_needs.nd rfl (.inl rfl) pe_int)
      (pss_cons (ps_for PassesOwn.never rfl (pi_tup (pv 0)) (pg_name (i := 2) c_needs.nd rfl (.inl rfl)) (pss_one (ps_if (pt_cmpR op_eq (pe_ix ix_tup (pv 2) pe_int (fun _ _ => rfl)) pe_str (nomark _)) (pss_one (ps_set (i := 1) c_needs.nd rfl (.inl rfl) (pe_callB (call_max2 rfl) (by rfl) T.z_max (by decide +kernel) (pa_cons (pv 1) (pa_cons (pe_op op_add (pe_ix ix_tup (pv 2) pe_int (fun _ _ => rfl)) pe_int) pa_nil))))) pss_nil)))
      (pss_one (ps_ret (pv 1)))))), ?_⟩
    refine ⟨_, rfl, a, s, rfl, ⟨vs, e0, R⟩, wf, h1, h2, fun H1 s1 => ?_⟩
    refine ⟨.ref a, rfl, a, rfl, ⟨_, SqT.of (s1 _ _ e0)⟩, for_tup (K := K) (a := a) (xs := vs) (fun i σ' H' => ∃ (x : Option V), σ' = [some (.ref a), some (.int (needs (s.take i) : Int)), x] ∧ H' = H1)
      ⟨none, rfl, rfl⟩ (fun i σ' H' _ ⟨_, _, eH⟩ => by rw [eH]; exact SqT.of (s1 _ _ e0)) ?_ ?_⟩
    · rintro i v σ' H' hv ⟨x, rfl, rfl⟩
      obtain ⟨p, nd, rfl, hnd, e1⟩ := R.get hv
      have e := s1 _ _ e1
      have hstep : needs (s.take (i + 1)) = needF (needs (s.take i)) nd := by rw [take_succ_some hnd, needs_snoc]
      cases nd with
      | inp k =>
        refine ⟨_, rfl, p, _, _, _, rfl, rfl, SqT.of e, by rfl, rfl, _, rfl, iteY rfl ⟨_, rfl, _, rfl, p, _, _, _, rfl, rfl, SqT.of e, by rfl, _, _, rfl, rfl, _, _, rfl, ?_⟩⟩
        refine ⟨some (.ref p), ?_, rfl⟩
        have ev : (if (k : Int) + 1 > (needs (s.take i) : Int) then (k : Int) + 1 else (needs (s.take i) : Int)) = (needs (s.take (i + 1)) : Int) := by
          rw [hstep]
          show _ = ((max (needs (s.take i)) (k + 1) : Nat) : Int)
          split <;> omega
        rw [← ev]
        rfl
      | cst c =>
        refine ⟨_, rfl, p, _, _, _, rfl, rfl, SqT.of e, by rfl, rfl, _, rfl, iteN (by decide) ⟨some (.ref p), ?_, rfl⟩⟩
        rw [hstep]
        rfl
      | sm i' j' =>
        refine ⟨_, rfl, p, _, _, _, rfl, rfl, SqT.of e, by rfl, rfl, _, rfl, iteN (by decide) ⟨some (.ref p), ?_, rfl⟩⟩
        rw [hstep]
        rfl
      | pr i' j' =>
        refine ⟨_, rfl, p, _, _, _, rfl, rfl, SqT.of e, by rfl, rfl, _, rfl, iteN (by decide) ⟨some (.ref p), ?_, rfl⟩⟩
        rw [hstep]
        rfl
      | sc c i' =>
        refine ⟨_, rfl, p, _, _, _, rfl, rfl, SqT.of e, by rfl, rfl, _, rfl, iteN (by decide) ⟨some (.ref p), ?_, rfl⟩⟩
        rw [hstep]
        rfl
      | ch i' j' l' =>
        refine ⟨_, rfl, p, _, _, _, rfl, rfl, SqT.of e, by rfl, rfl, _, rfl, iteN (by decide) ⟨some (.ref p), ?_, rfl⟩⟩
        rw [hstep]
        rfl
    · rintro σ' H' ⟨x, rfl, rfl⟩
      rw [R.len, List.take_length]
      exact ⟨_, rfl, q _ s1⟩
theorem ok_cost (T : Txt w K mg D) : FnOk P w K mg base CX0 5 D.f_cost D.d_cost ["source"] spCost := by
  have G_check_source : FnOk P w K mg base CX0 4 D.f_check_source D.d_check_source ["source"] spCheckSource := ok_check_source T
  refine T.F_cost.ok c_cost (fun vs H Q E h => ?_) (fun cdv A outer s H vs Q E hr h => ?_)
  · obtain ⟨a, s, rfl, _⟩ := h
    rfl
  · obtain ⟨a, s, rfl, ⟨vs, e0, R⟩, wf, h1, h2, q⟩ := h
    have hvl := R.len
    refine ⟨_, (pss_cons (ps_expr (pe_call G_check_source (hr.mono (by decide)) (by rfl) T.g_check_source T.F_check_source.kp T.b_check_source .nil pass0 (pa_cons (pv 0) pa_nil)))
      (pss_cons (ps_set (i := 1) c_cost.nd rfl (.inl rfl) (pe_lst pa_nil))
      (pss_cons (ps_for PassesOwn.never rfl (pi_tup (pv 0)) (pg_name (i := 2) c_cost.nd rfl (.inl rfl)) (pss_one (ps_if (PW.pt (pw_or (pt_cmpR op_eq (pe_ix ix_tup (pv 2) pe_int (fun _ _ => rfl)) pe_str (nomark _)) (pw_or1 (pt_cmpR op_eq (pe_ix ix_tup (pv 2) pe_int (fun _ _ => rfl)) pe_str (nomark _))))) (pss_one (ps_expr (pe_bm PySem.F.plainAttrs_list PySem.F.slot_list_append PySem.F.type_list_append mt_append (pv 1) (pa_cons pe_int pa_nil)))) (pss_one (ps_if (pt_cmpR op_eq (pe_ix ix_tup (pv 2) pe_int (fun _ _ => rfl)) pe_str (nomark _)) (pss_one (ps_expr (pe_bm PySem.F.plainAttrs_list PySem.F.slot_list_append PySem.F.type_list_append mt_append (pv 1) (pa_cons (pe_ix ix_list (pv 1) (pe_ix ix_tup (pv 2) pe_int (fun _ _ => rfl)) (fun _ _ => rfl)) pa_nil)))) (pss_one (ps_if (pt_cmpR op_eq (pe_ix ix_tup (pv 2) pe_int (fun _ _ => rfl)) pe_str (nomark _)) (pss_one (ps_expr (pe_bm PySem.F.plainAttrs_list PySem.F.slot_list_append PySem.F.type_list_append mt_append (pv 1) (pa_cons (pe_op op_add (pe_ix ix_list (pv 1) (pe_ix ix_tup (pv 2) pe_int (fun _ _ => rfl)) (fun _ _ => rfl)) (pe_ix ix_list (pv 1) (pe_ix ix_tup (pv 2) pe_int (fun _ _ => rfl)) (fun _ _ => rfl))) pa_nil)))) (pss_one (ps_if (pt_cmpR op_eq (pe_ix ix_tup (pv 2) pe_int (fun _ _ => rfl)) pe_str (nomark _)) (pss_one (ps_expr (pe_bm PySem.F.plainAttrs_list PySem.F.slot_list_append PySem.F.type_list_append mt_append (pv 1) (pa_cons (pe_op op_mul pe_int (pe_op op_add (pe_ix ix_list (pv 1) (pe_ix ix_tup (pv 2) pe_int (fun _ _ => rfl)) (fun _ _ => rfl)) (pe_ix ix_list (pv 1) (pe_ix ix_tup (pv 2) pe_int (fun _ _ => rfl)) (fun _ _ => rfl)))) pa_nil)))) (pss_cons (ps_set (i := 3) c_cost.nd rfl (.inl rfl) (pe_ix ix_list (pv 1) (pe_ix ix_tup (pv 2) pe_int (fun _ _ => rfl)) (fun _ _ => rfl)))
      (pss_one (ps_expr (pe_bm PySem.F.plainAttrs_list PySem.F.slot_list_append PySem.F.type_list_append mt_append (pv 1) (pa_cons (pe_op op_add (pv 3) (pe_op op_mul pe_int (pe_op op_add (pe_op op_add (pe_ix ix_list (pv 1) (pe_ix ix_tup (pv 2) pe_int (fun _ _ => rfl)) (fun _ _ => rfl)) (pe_ix ix_list (pv 1) (pe_ix ix_tup (pv 2) pe_int (fun _ _ => rfl)) (fun _ _ => rfl))) (pv 3)))) pa_nil))))))))))))))
      (pss_one (ps_ret (pe_ix ix_list (pv 1) (pe_un un_neg pe_int) (fun _ _ => rfl))))))), ?_⟩
    refine ⟨_, rfl, a, s, rfl, ⟨vs, e0, R⟩, wf, h1, h2, fun H1 s1 => ?_⟩
    refine ⟨Nat.zero_le _, fun o no => ?_⟩
    have sA : Same H1 (upd H1 o (.lst [])) := same_new no
    refine ⟨.ref a, rfl, a, rfl, ⟨_, SqT.of (sA _ _ (s1 _ _ e0))⟩, for_tup (K := K) (a := a) (xs := vs) (fun i σ' H' => ∃ (x y : Option V), σ' = [some (.ref a), some (.ref o), x, y] ∧ Same H1 H' ∧ H' o = some (.lst (nums (up costF (s.take i)))))
      ⟨none, none, rfl, sA, upd_same⟩ (fun i σ' H' _ ⟨_, _, _, e, _⟩ => SqT.of (e _ _ (s1 _ _ e0))) ?_ ?_⟩
    · rintro i v σ' H' hv ⟨x, y, rfl, s2, eo⟩
      obtain ⟨p, nd, rfl, hnd, e1⟩ := R.get hv
      have e := s2 _ _ (s1 _ _ e1)
      have ok := wf i nd hnd
      have hi : i < s.length := (List.getElem?_eq_some_iff.mp hnd).1
      have hstep := up_step costF hnd
      have hcl : (up costF (s.take i)).length = i := by rw [up_length, List.length_take]; omega
      generalize up costF (s.take i) = cs at eo hstep hcl
      have hsz : (nums cs).length < sizeLine := szl (by rw [nums_len]; omega)
      cases nd with
      | cst c =>
        refine ⟨_, rfl, p, _, _, _, rfl, rfl, SqT.of e, by rfl, rfl, _, rfl, iteY rfl (iteT ⟨_, rfl, .inl ⟨rfl, _, SqL.of eo⟩, o, _, _, rfl, rfl, eo, hsz, ?_⟩)⟩
        exact ⟨_, _, rfl, same_mut s2 no, by rw [upd_same, hstep]; exact congrArg (fun z => some (HO.lst z)) (nums_snoc rfl)⟩
      | inp k =>
        refine ⟨_, rfl, p, _, _, _, rfl, rfl, SqT.of e, by rfl, rfl, _, rfl, iteN (by decide) ⟨_, rfl, p, _, _, _, rfl, rfl, SqT.of e, by rfl, rfl, _, rfl, iteY rfl ⟨_, rfl, .inl ⟨rfl, _, SqL.of eo⟩, o, _, _, rfl, rfl, eo, hsz, ?_⟩⟩⟩
        exact ⟨_, _, rfl, same_mut s2 no, by rw [upd_same, hstep]; exact congrArg (fun z => some (HO.lst z)) (nums_snoc rfl)⟩
      | sc c i' =>
        obtain ⟨_, hi'⟩ := ok
        refine ⟨_, rfl, p, _, _, _, rfl, rfl, SqT.of e, by rfl, rfl, _, rfl, iteN (by decide) ⟨_, rfl, p, _, _, _, rfl, rfl, SqT.of e, by rfl, rfl, _, rfl, iteN (by decide) ⟨_, rfl, p, _, _, _, rfl, rfl, SqT.of e, by rfl, rfl, _, rfl, iteY rfl ⟨_, rfl, .inl ⟨rfl, _, SqL.of eo⟩, _, rfl, _, rfl, p, _, _, _, rfl, rfl, SqT.of e, by rfl, o, _, _, _, rfl, rfl, SqL.of eo, atI_nat (nums_at (by omega)), o, _, _, rfl, rfl, eo, hsz, ?_⟩⟩⟩⟩
        exact ⟨_, _, rfl, same_mut s2 no, by rw [upd_same, hstep]; exact congrArg (fun z => some (HO.lst z)) (nums_snoc rfl)⟩
      | sm i' j' =>
        obtain ⟨hi', hj'⟩ := ok
        refine ⟨_, rfl, p, _, _, _, rfl, rfl, SqT.of e, by rfl, rfl, _, rfl, iteN (by decide) ⟨_, rfl, p, _, _, _, rfl, rfl, SqT.of e, by rfl, rfl, _, rfl, iteN (by decide) ⟨_, rfl, p, _, _, _, rfl, rfl, SqT.of e, by rfl, rfl, _, rfl, iteN (by decide) ⟨_, rfl, p, _, _, _, rfl, rfl, SqT.of e, by rfl, rfl, _, rfl, iteY rfl ⟨_, rfl, .inl ⟨rfl, _, SqL.of eo⟩, _, rfl, _, rfl, p, _, _, _, rfl, rfl, SqT.of e, by rfl, o, _, _, _, rfl, rfl, SqL.of eo, atI_nat (nums_at (by omega)), _, rfl, _, rfl, p, _, _, _, rfl, rfl, SqT.of e, by rfl, o, _, _, _, rfl, rfl, SqL.of eo, atI_nat (nums_at (by omega)), _, _, rfl, rfl, o, _, _, rfl, rfl, eo, hsz, ?_⟩⟩⟩⟩⟩
        exact ⟨_, _, rfl, same_mut s2 no, by rw [upd_same, hstep]; exact congrArg (fun z => some (HO.lst z)) (nums_snoc rfl)⟩
      | pr i' j' =>
        obtain ⟨hi', hj'⟩ := ok
        refine ⟨_, rfl, p, _, _, _, rfl, rfl, SqT.of e, by rfl, rfl, _, rfl, iteN (by decide) ⟨_, rfl, p, _, _, _, rfl, rfl, SqT.of e, by rfl, rfl, _, rfl, iteN (by decide) ⟨_, rfl, p, _, _, _, rfl, rfl, SqT.of e, by rfl, rfl, _, rfl, iteN (by decide) ⟨_, rfl, p, _, _, _, rfl, rfl, SqT.of e, by rfl, rfl, _, rfl, iteN (by decide) ⟨_, rfl, p, _, _, _, rfl, rfl, SqT.of e, by rfl, rfl, _, rfl, iteY rfl ⟨_, rfl, .inl ⟨rfl, _, SqL.of eo⟩, _, rfl, _, rfl, p, _, _, _, rfl, rfl, SqT.of e, by rfl, o, _, _, _, rfl, rfl, SqL.of eo, atI_nat (nums_at (by omega)), _, rfl, _, rfl, p, _, _, _, rfl, rfl, SqT.of e, by rfl, o, _, _, _, rfl, rfl, SqL.of eo, atI_nat (nums_at (by omega)), _, _, rfl, rfl, _, _, rfl, rfl, .inl ⟨by decide, by decide⟩, o, _, _, rfl, rfl, eo, hsz, ?_⟩⟩⟩⟩⟩⟩
        exact ⟨_, _, rfl, same_mut s2 no, by rw [upd_same, hstep]; exact congrArg (fun z => some (HO.lst z)) (nums_snoc (by show (2 : Int) * (_ + _) = ((2 * (_ + _) : Nat) : Int); omega))⟩
      | ch i' j' l' =>
        obtain ⟨hi', hj', hl'⟩ := ok
        refine ⟨_, rfl, p, _, _, _, rfl, rfl, SqT.of e, by rfl, rfl, _, rfl, iteN (by decide) ⟨_, rfl, p, _, _, _, rfl, rfl, SqT.of e, by rfl, rfl, _, rfl, iteN (by decide) ⟨_, rfl, p, _, _, _, rfl, rfl, SqT.of e, by rfl, rfl, _, rfl, iteN (by decide) ⟨_, rfl, p, _, _, _, rfl, rfl, SqT.of e, by rfl, rfl, _, rfl, iteN (by decide) ⟨_, rfl, p, _, _, _, rfl, rfl, SqT.of e, by rfl, rfl, _, rfl, iteN (by decide) ?_⟩⟩⟩⟩⟩
        refine ⟨_, rfl, _, rfl, p, _, _, _, rfl, rfl, SqT.of e, by rfl, o, _, _, _, rfl, rfl, SqL.of eo, atI_nat (nums_at (by omega)), ?_⟩
        refine ⟨_, rfl, .inl ⟨rfl, _, SqL.of eo⟩, _, rfl, _, rfl, _, rfl, p, _, _, _, rfl, rfl, SqT.of e, by rfl, o, _, _, _, rfl, rfl, SqL.of eo, atI_nat (nums_at (by omega)), _, rfl, _, rfl, p, _, _, _, rfl, rfl, SqT.of e, by rfl, o, _, _, _, rfl, rfl, SqL.of eo, atI_nat (nums_at (by omega)), _, _, rfl, rfl, _, rfl, _, _, rfl, rfl, _, _, rfl, rfl, .inl ⟨by decide, by decide⟩, _, _, rfl, rfl, o, _, _, rfl, rfl, eo, hsz, ?_⟩
        exact ⟨_, _, rfl, same_mut s2 no, by rw [upd_same, hstep]; exact congrArg (fun z => some (HO.lst z)) (nums_snoc (by show _ + (2 : Int) * (_ + _ + _) = ((_ + 2 * (_ + _ + _) : Nat) : Int); omega))⟩
    · rintro σ' H' ⟨x, y, rfl, s2, eo⟩
      rw [hvl, List.take_length] at eo
      refine ⟨_, rfl, 1, rfl, o, _, _, _, rfl, rfl, SqL.of eo, nums_last (by rw [up_length]; exact h1), ?_⟩
      rw [up_length]
      exact q H' (s1.trans s2)
end
end BF
namespace BF
open PySem PySem.Spec PyProof.Rows L2 BR
def TksAt (H : Hp) (a : Addr) (l : List Tk) : Prop := ∃ vs, H a = some (.lst vs) ∧ Refs (TkAt H) vs l
def PartAt (H : Hp) (p : Addr) (q : Int × Nat) : Prop := H p = some (.tup [.int q.1, .int (q.2 : Int)])
def spLeafStep : Sp := fun vs H Q _ => ∃ (p t : Addr) (nd : Nd) (k : Tk), vs = [.ref p, .ref t, .int 2] ∧ NdAt H p nd ∧ nd.leaf = true ∧ TkAt H t k ∧ ∀ H' r, Same H H' → StpAt H' r (leafStp k nd) → Q (.ref r) H'
def spProductTasks : Sp := fun vs H Q _ => ∃ (a1 a2 t : Addr) (v1 v2 : List V) (p1 p2 : List (Int × Nat)) (k : Tk) (m : Nat), vs = [.ref a1, .ref a2, .ref t, .int 2] ∧ H a1 = some (.lst v1) ∧ Refs (PartAt H) v1 p1 ∧ H a2 = some (.lst v2) ∧ Refs (PartAt H) v2 p2 ∧
  (∀ q ∈ p1, q.1 = 1 ∨ q.1 = -1) ∧ (∀ q ∈ p2, q.1 = 1 ∨ q.1 = -1) ∧ p1.length ≤ 2 ∧ p2.length ≤ 2 ∧ TkAt H t k ∧ k.Ok m ∧
  ∀ H' r, Same H H' → H r = none → TksAt H' r (prodT (p1.map (·.2)) (p2.map (·.2)) k) → Q (.ref r) H'
theorem b2_mul (c : Bool) (n : Nat) : b2 c * (n : Int) % 2 = b2 (c && odd n) := by
  cases c with
  | false =>
    show (0 : Int) * (n : Int) % 2 = 0
    omega
  | true =>
    show (1 : Int) * (n : Int) % 2 = b2 (odd n)
    unfold odd b2
    by_cases h : n % 2 = 1
    · rw [h]
      show (1 : Int) * (n : Int) % 2 = 1
      omega
    · have h0 : n % 2 = 0 := by omega
      rw [h0]
      show (1 : Int) * (n : Int) % 2 = 0
      omega
theorem sgn_mul {z y : Int} (hz : z = 1 ∨ z = -1) (hy : y = 1 ∨ y = -1) (c : Bool) : z * y * b2 c % 2 = b2 c := by
  rcases hz with rfl | rfl <;> rcases hy with rfl | rfl <;> cases c <;> decide
theorem sgn_neg {z y : Int} (hz : z = 1 ∨ z = -1) (hy : y = 1 ∨ y = -1) : -z * y % 2 = b2 true := by
  rcases hz with rfl | rfl <;> rcases hy with rfl | rfl <;> decide
theorem sgn_small {z : Int} (hz : z = 1 ∨ z = -1) : -(2 ^ 64) < z ∧ z < 2 ^ 64 := by rcases hz with rfl | rfl <;> decide
theorem b2_small (c : Bool) : -(2 ^ 64) < b2 c ∧ b2 c < 2 ^ 64 := by cases c <;> decide
/-- factors[0][1] if factors else 3 - target - spare -/
theorem used_read {K : PySem.W.Frag} {σ : L2.St} {H : Hp} {Q : VK} {f : Addr} {k : Tk} {m : Nat} (h7 : σ[7]? = some (some (.ref f))) (h5 : σ[5]? = some (some (.int (k.t : Int)))) (h8 : σ[8]? = some (some (.int (k.s : Int)))) (ef : FacsAt H f (facs k.f)) (ok : k.Ok m) (q : Q (.int (k.used : Int)) H) :
    tIf (fun σ H Q => tVar 7 σ H fun x H' => ∃ k, TruV K x H' k ∧ Q k H') (tOp (rIxT K) (tOp (rIxT K) (tVar 7) (tC (.int 0))) (tC (.int 1)))
      (tOp (rI0 fun i j => .int (i - j)) (tOp (rI0 fun i j => .int (i - j)) (tC (.int 3)) (tVar 5)) (tVar 8)) σ H Q := by
  obtain ⟨fvs, e, R⟩ := ef
  have h2 := ok.t
  have h3 := ok.s
  have h4 := ok.ts
  obtain ⟨n, t, c, kf, s⟩ := k
  cases kf with
  | none =>
    cases R
    refine ⟨_, h7, false, .inr (.inl ⟨[], SqT.of e, rfl⟩), iteF ⟨_, h5, _, _, rfl, rfl, _, h8, _, _, rfl, rfl, ?_⟩⟩
    have ev : (3 : Int) - (t : Int) - (s : Int) = ((3 - t - s : Nat) : Int) := by
      have h2 : t < 3 := h2
      have h3 : s < 3 := h3
      have h4 : t ≠ s := h4
      omega
    show Q (.int ((3 : Int) - (t : Int) - (s : Int))) H
    rw [ev]
    exact q
  | some x =>
    cases R with
    | cons r rest =>
      cases rest
      refine ⟨_, h7, true, .inr (.inl ⟨_, SqT.of e, rfl⟩), iteT ⟨_, h7, f, _, _, _, rfl, rfl, SqT.of e, by rfl, _, _, _, _, rfl, rfl, SqT.of r, by rfl, ?_⟩⟩
      exact q
/-- -1 if passes == 0 else 1 -/
theorem sign_read {σ : L2.St} {H : Hp} {Q : VK} {i : Int} (h : σ[12]? = some (some (.int i))) (q : ∀ z : Int, (z = 1 ∨ z = -1) → Q (.int z) H) :
    tIf (tTest (tOp rEq (tVar 12) (tC (.int 0)))) (tUn (rU fun i => .int (-i)) (tC (.int 1))) (tC (.int 1)) σ H Q := by
  refine ⟨_, h, rfl, _, rfl, ite2d (fun _ => ⟨1, rfl, ?_⟩) (fun _ => ?_)⟩
  · exact q (-1) (.inr rfl)
  · exact q 1 (.inl rfl)
section
variable {P : Program} {w : World} {K : PySem.W.Frag} {mg : Str → Option Value} {base : Heap} {D : Ds}
theorem ok_leaf_step (T : Txt w K mg D) : FnOk P w K mg base CX0 1 D.f_leaf_step D.d_leaf_step ["node", "task", "modulus"] spLeafStep := by
  refine T.F_leaf_step.ok c_leaf_step (fun vs H Q E h => ?_) (fun cdv A outer s H vs Q E hr h => ?_)
  · obtain ⟨p, t, nd, k, rfl, _⟩ := h
    rfl
  · obtain ⟨p, t, nd, k, rfl, e, hl, ⟨f, et, ef⟩, q⟩ := h
    refine ⟨_, (pss_cons (ps_asg (pv 1) (pg_tup rfl (pgs_cons (pg_name (i := 3) c_leaf_step.nd rfl (.inl rfl)) (pgs_cons (pg_name (i := 4) c_leaf_step.nd rfl (.inl rfl)) (pgs_cons (pg_name (i := 5) c_leaf_step.nd rfl (.inl rfl)) (pgs_cons (pg_name (i := 6) c_leaf_step.nd rfl (.inl rfl)) (pgs_cons (pg_name (i := 3) c_leaf_step.nd rfl (.inl rfl)) pgs_nil)))))))
      (pss_cons (ps_if (pt_cmpR op_eq (pe_ix ix_tup (pv 0) pe_int (fun _ _ => rfl)) pe_str (nomark _)) (pss_one (ps_ret (pe_tup (pa_cons pe_str (pa_cons (pv 4) (pa_cons (pe_op op_mod (pe_op op_mul (pv 5) (pe_ix ix_tup (pv 0) pe_int (fun _ _ => rfl))) (pv 2)) (pa_cons (pv 6) pa_nil))))))) pss_nil)
      (pss_one (ps_ret (pe_tup (pa_cons pe_str (pa_cons (pv 4) (pa_cons (pv 5) (pa_cons (pe_op op_catA (pv 6) (pe_tup (pa_cons (pe_tup (pa_cons pe_str (pa_cons (pe_ix ix_tup (pv 0) pe_int (fun _ _ => rfl)) pa_nil))) pa_nil))) pa_nil))))))))), ?_⟩
    refine ⟨_, rfl, t, _, rfl, SqT.of et, rfl, _, _, rfl, _, _, rfl, _, _, rfl, _, _, rfl, _, _, rfl, rfl, ?_⟩
    cases nd with
    | cst c =>
      have e : H p = some (.tup [.str "const", .int (c : Int)]) := e
      refine ⟨_, rfl, p, _, _, _, rfl, rfl, SqT.of e, by rfl, rfl, _, rfl, iteY rfl ?_⟩
      refine ⟨_, rfl, _, rfl, _, rfl, p, _, _, _, rfl, rfl, SqT.of e, by rfl, _, _, rfl, rfl, .inl (b2_small k.c), _, rfl, _, _, rfl, rfl, (by show (0 : Int) < 2; decide), _, rfl, (by show 4 ≤ sizeLine; decide), fun r nr => ?_⟩
      have s1 := same_new (o := .tup [.str "add", .int (k.t : Int), .int (b2 k.c * (c : Int) % 2), .ref f]) nr
      refine q _ r s1 ⟨f, ?_, ef.mono (tk_same s1)⟩
      show upd H r (.tup [.str "add", .int (k.t : Int), .int (b2 k.c * (c : Int) % 2), .ref f]) r = _
      rw [b2_mul]
      exact upd_same
    | inp x =>
      have e : H p = some (.tup [.str "input", .int (x : Int)]) := e
      refine ⟨_, rfl, p, _, _, _, rfl, rfl, SqT.of e, by rfl, rfl, _, rfl, iteN (by decide) ?_⟩
      obtain ⟨fvs, ef, R⟩ := ef
      refine ⟨_, rfl, _, rfl, _, rfl, _, rfl, p, _, _, _, rfl, rfl, SqT.of e, by rfl, (by show 2 ≤ sizeLine; decide), fun g ng => ?_⟩
      have s1 := same_new (o := .tup [.str "input", .int (x : Int)]) ng
      refine ⟨(by show 1 ≤ sizeLine; decide), fun u nu => ?_⟩
      have s2 := same_new (o := .tup [.ref g]) nu
      have hfl : fvs.length ≤ 1 := by
        rw [R.len]
        cases k.f <;> simp [facs]
      refine ⟨f, u, _, _, rfl, rfl, SqT.of (s2 _ _ (s1 _ _ ef)), SqT.of upd_same, sz (by rw [List.length_singleton]; omega), fun hx => ?_, (fun _ z => by cases z), fun hx _ y ny => ?_⟩
      · refine ⟨(by show 4 ≤ sizeLine; decide), fun r nr => ?_⟩
        have s3 := same_new (o := .tup [.str "add", .int (k.t : Int), .int (b2 k.c), .ref u]) nr
        have hf0 : facs k.f = [] := by
          subst hx
          cases hfs : facs k.f with
          | nil => rfl
          | cons a b =>
            rw [hfs] at R
            cases R
        refine q _ r (s1.trans (s2.trans s3)) ⟨u, upd_same, ⟨[.ref g], s3 _ _ upd_same, ?_⟩⟩
        show Refs _ _ (facs k.f ++ [Fac.inp x])
        rw [hf0]
        exact .one ((s2.trans s3) _ _ upd_same)
      · have s3 := same_new (o := .tup (fvs ++ [.ref g])) ny
        refine ⟨(by show 4 ≤ sizeLine; decide), fun r nr => ?_⟩
        have s4 := same_new (o := .tup [.str "add", .int (k.t : Int), .int (b2 k.c), .ref y]) nr
        have sA := s1.trans (s2.trans (s3.trans s4))
        refine q _ r sA ⟨y, upd_same, ⟨fvs ++ [.ref g], s4 _ _ upd_same, ?_⟩⟩
        exact (R.mono fun a b z => sA _ _ z).snoc ((s2.trans (s3.trans s4)) _ _ upd_same)
    | sc c i => cases hl
    | sm i j => cases hl
    | pr i j => cases hl
    | ch i j l => cases hl
theorem ok_product_tasks (T : Txt w K mg D) : FnOk P w K mg base CX0 1 D.f_product_tasks D.d_product_tasks ["first", "second", "task", "modulus"] spProductTasks := by
  refine T.F_product_tasks.ok c_product_tasks (fun vs H Q E h => ?_) (fun cdv A outer s H vs Q E hr h => ?_)
  · obtain ⟨a1, a2, t, v1, v2, p1, p2, k, m, rfl, _⟩ := h
    rfl
  · obtain ⟨a1, a2, t, v1, v2, p1, p2, k, m, rfl, e1, R1, e2, R2, o1, o2, l1, l2, ⟨f, et, ef⟩, ok, q⟩ := h
    refine ⟨_, (pss_cons (ps_asg (pv 2) (pg_tup rfl (pgs_cons (pg_name (i := 4) c_product_tasks.nd rfl (.inl rfl)) (pgs_cons (pg_name (i := 5) c_product_tasks.nd rfl (.inl rfl)) (pgs_cons (pg_name (i := 6) c_product_tasks.nd rfl (.inl rfl)) (pgs_cons (pg_name (i := 7) c_product_tasks.nd rfl (.inl rfl)) (pgs_cons (pg_name (i := 8) c_product_tasks.nd rfl (.inl rfl)) pgs_nil)))))))
      (pss_cons (ps_set (i := 9) c_product_tasks.nd rfl (.inl rfl) (pe_ifExp (pt_truth (pv 7) (by intro _; rfl)) (pe_ix ix_tup (pe_ix ix_tup (pv 7) pe_int (fun _ _ => rfl)) pe_int (fun _ _ => rfl)) (pe_op op_sub (pe_op op_sub pe_int (pv 5)) (pv 8))))
      (pss_cons (ps_set (i := 10) c_product_tasks.nd rfl (.inl rfl) (pe_tup (pa_cons (pe_tup (pa_cons pe_str (pa_cons (pv 8) pa_nil))) pa_nil)))
      (pss_cons (ps_set (i := 11) c_product_tasks.nd rfl (.inl rfl) (pe_lst pa_nil))
      (pss_cons (ps_for PassesOwn.never rfl (pi_range1 (by rfl) T.z_range (pa_cons pe_int pa_nil)) (pg_name (i := 12) c_product_tasks.nd rfl (.inl rfl)) (pss_cons (ps_set (i := 13) c_product_tasks.nd rfl (.inl rfl) (pe_ifExp (pt_cmpR op_eq (pv 12) pe_int (nomark _)) (pe_un un_neg pe_int) pe_int))
      (pss_cons (ps_for PassesOwn.never rfl (pi_list (pv 0)) (pg_tup rfl (pgs_cons (pg_name (i := 14) c_product_tasks.nd rfl (.inl rfl)) (pgs_cons (pg_name (i := 15) c_product_tasks.nd rfl (.inl rfl)) pgs_nil))) (pss_one (ps_expr (pe_bm PySem.F.plainAttrs_list PySem.F.slot_list_append PySem.F.type_list_append mt_append (pv 11) (pa_cons (pe_tup (pa_cons (pv 15) (pa_cons (pv 5) (pa_cons (pe_op op_mod (pe_op op_mul (pe_op op_mul (pv 13) (pv 14)) (pv 6)) (pv 3)) (pa_cons (pv 10) (pa_cons (pv 9) pa_nil)))))) pa_nil)))))
      (pss_one (ps_for PassesOwn.never rfl (pi_list (pv 1)) (pg_tup rfl (pgs_cons (pg_name (i := 14) c_product_tasks.nd rfl (.inl rfl)) (pgs_cons (pg_name (i := 15) c_product_tasks.nd rfl (.inl rfl)) pgs_nil))) (pss_one (ps_expr (pe_bm PySem.F.plainAttrs_list PySem.F.slot_list_append PySem.F.type_list_append mt_append (pv 11) (pa_cons (pe_tup (pa_cons (pv 15) (pa_cons (pv 8) (pa_cons (pe_op op_mod (pe_op op_mul (pe_un un_neg (pv 13)) (pv 14)) (pv 3)) (pa_cons (pv 7) (pa_cons (pv 5) pa_nil)))))) pa_nil)))))))))
      (pss_one (ps_ret (pv 11)))))))), ?_⟩
    refine ⟨_, rfl, t, _, rfl, SqT.of et, rfl, _, _, rfl, _, _, rfl, _, _, rfl, _, _, rfl, _, _, rfl, rfl, ?_⟩
    refine used_read (k := k) (m := m) rfl rfl rfl ef ok ?_
    -- through, tasks
    refine ⟨_, rfl, (by show 2 ≤ sizeLine; decide), fun g ng => ?_⟩
    have s1 := same_new (o := .tup [.str "cell", .int (k.s : Int)]) ng
    refine ⟨(by show 1 ≤ sizeLine; decide), fun th nth => ?_⟩
    have s2 := same_new (o := .tup [.ref g]) nth
    refine ⟨Nat.zero_le _, fun r nr => ?_⟩
    have s3 := same_new (o := .lst []) nr
    have s12 := s1.trans s2
    generalize hH0 : upd (upd H g (.tup [.str "cell", .int (k.s : Int)])) th (.tup [.ref g]) = H0 at s2 s3 s12 nr
    have eg0 : H0 g = some (.tup [.str "cell", .int (k.s : Int)]) := s2 _ _ upd_same
    have eth0 : H0 th = some (.tup [.ref g]) := by rw [← hH0]; exact upd_same
    have eth : FacsAt H0 th (facs (some k.s)) := ⟨_, eth0, .one eg0⟩
    have ef0 : FacsAt H0 f (facs k.f) := ef.mono (tk_same s12)
    refine ⟨2, rfl, by decide, by decide, for_range (lo := 0) (n := 2) (fun i σ' H' => ∃ (x12 x13 x14 x15 : Option V) (tvs : List V), σ' = [some (.ref a1), some (.ref a2), some (.ref t), some (.int 2), some (.int (k.n : Int)), some (.int (k.t : Int)), some (.int (b2 k.c)), some (.ref f), some (.int (k.s : Int)), some (.int (k.used : Int)), some (.ref th), some (.ref r), x12, x13, x14, x15] ∧
        Same H0 H' ∧ H' r = some (.lst tvs) ∧ Refs (TkAt H') tvs (List.replicate i (passT (p1.map (·.2)) (p2.map (·.2)) k)).flatten ∧ tvs.length ≤ 10 * i)
      ⟨none, none, none, none, [], rfl, s3, upd_same, .nil, Nat.le_refl _⟩ ?_ ?_⟩
    · rintro i σ' H' hi ⟨x12, x13, x14, x15, tvs, rfl, s4, er, RT, hl⟩
      refine sign_read (i := 0 + (i : Int)) rfl fun z hz => ?_
      generalize hB : (List.replicate i (passT (p1.map (·.2)) (p2.map (·.2)) k)).flatten = B at RT
      -- for part, node in first
      refine ⟨.ref a1, rfl, a1, rfl, ⟨_, SqL.of (s4 _ _ (s12 _ _ e1))⟩, for_list (K := K) (a := a1) (xs := v1) (fun j σ' H' => ∃ (x14 x15 : Option V) (tvs : List V), σ' = [some (.ref a1), some (.ref a2), some (.ref t), some (.int 2), some (.int (k.n : Int)), some (.int (k.t : Int)), some (.int (b2 k.c)), some (.ref f), some (.int (k.s : Int)), some (.int (k.used : Int)), some (.ref th), some (.ref r), some (.int (0 + (i : Int))), some (.int z), x14, x15] ∧
          Same H0 H' ∧ H' r = some (.lst tvs) ∧ Refs (TkAt H') tvs (B ++ ((p1.take j).map (·.2)).map fun n => ⟨n, k.t, k.c, some k.s, k.used⟩) ∧ tvs.length ≤ 10 * i + j)
        ⟨_, _, tvs, rfl, s4, er, by simpa using RT, hl⟩ (fun j σ' H' _ ⟨_, _, _, _, e, _⟩ => SqL.of (e _ _ (s12 _ _ e1))) ?_ ?_⟩
      · rintro j v σ' H2 hv ⟨x14, x15, tvs, rfl, s5, er, RT, hl⟩
        obtain ⟨pp, ⟨y, n⟩, rfl, hq, ep⟩ := R1.get hv
        have hj : j < p1.length := (List.getElem?_eq_some_iff.mp hq).1
        have hy := o1 _ (List.mem_of_getElem? hq)
        have ep' : H2 pp = some (.tup [.int y, .int (n : Int)]) := s5 _ _ (s12 _ _ ep)
        refine ⟨pp, _, rfl, SqT.of ep', rfl, _, _, rfl, _, _, rfl, rfl, ?_⟩
        refine ⟨_, rfl, .inl ⟨rfl, _, SqL.of er⟩, _, rfl, _, rfl, _, rfl, _, rfl, _, _, rfl, rfl, .inl (sgn_small hz), _, rfl, _, _, rfl, rfl, .inr (b2_small k.c), _, rfl, _, _, rfl, rfl, (by show (0 : Int) < 2; decide), _, rfl, _, rfl, (by show 5 ≤ sizeLine; decide), fun u nu => ?_⟩
        have s6 := same_new (o := .tup [.int (n : Int), .int (k.t : Int), .int (z * y * b2 k.c % 2), .ref th, .int (k.used : Int)]) nu
        have er6 := s6 _ _ er
        refine ⟨r, _, _, rfl, rfl, er6, szl (by omega), _, _, tvs ++ [.ref u], rfl, same_mut (s5.trans s6) nr, upd_same, ?_, by rw [List.length_append, List.length_singleton]; omega⟩
        have t7 : TK (upd H2 u (.tup [.int (n : Int), .int (k.t : Int), .int (z * y * b2 k.c % 2), .ref th, .int (k.used : Int)])) _ := tk_lst (o := .lst (tvs ++ [.ref u])) er6
        rw [take_succ_some hq, List.map_append, List.map_append, ← List.append_assoc]
        exact (RT.mono fun a b zz => zz.mono ((tk_same s6).trans t7)).snoc ⟨th, (t7 _ _ upd_same).trans (by rw [sgn_mul hz hy]), eth.mono (((tk_same s5).trans (tk_same s6)).trans t7)⟩
      rintro σ' H2 ⟨x14, x15, tvs, rfl, s5, er, RT, hl⟩
      rw [R1.len, List.take_length] at RT
      rw [R1.len] at hl
      generalize hB2 : B ++ (p1.map (·.2)).map (fun n => (⟨n, k.t, k.c, some k.s, k.used⟩ : Tk)) = B2 at RT
      -- for part, node in second
      refine ⟨.ref a2, rfl, a2, rfl, ⟨_, SqL.of (s5 _ _ (s12 _ _ e2))⟩, for_list (K := K) (a := a2) (xs := v2) (fun j σ' H' => ∃ (x14 x15 : Option V) (tvs : List V), σ' = [some (.ref a1), some (.ref a2), some (.ref t), some (.int 2), some (.int (k.n : Int)), some (.int (k.t : Int)), some (.int (b2 k.c)), some (.ref f), some (.int (k.s : Int)), some (.int (k.used : Int)), some (.ref th), some (.ref r), some (.int (0 + (i : Int))), some (.int z), x14, x15] ∧
          Same H0 H' ∧ H' r = some (.lst tvs) ∧ Refs (TkAt H') tvs (B2 ++ ((p2.take j).map (·.2)).map fun n => ⟨n, k.s, true, k.f, k.t⟩) ∧ tvs.length ≤ 10 * i + 2 + j)
        ⟨_, _, tvs, rfl, s5, er, by simpa using RT, by omega⟩ (fun j σ' H' _ ⟨_, _, _, _, e, _⟩ => SqL.of (e _ _ (s12 _ _ e2))) ?_ ?_⟩
      · rintro j v σ' H2 hv ⟨x14, x15, tvs, rfl, s5, er, RT, hl⟩
        obtain ⟨pp, ⟨y, n⟩, rfl, hq, ep⟩ := R2.get hv
        have hj : j < p2.length := (List.getElem?_eq_some_iff.mp hq).1
        have hy := o2 _ (List.mem_of_getElem? hq)
        have ep' : H2 pp = some (.tup [.int y, .int (n : Int)]) := s5 _ _ (s12 _ _ ep)
        refine ⟨pp, _, rfl, SqT.of ep', rfl, _, _, rfl, _, _, rfl, rfl, ?_⟩
        refine ⟨_, rfl, .inl ⟨rfl, _, SqL.of er⟩, _, rfl, _, rfl, _, rfl, _, rfl, _, rfl, _, _, rfl, rfl, .inr (sgn_small hy), _, rfl, _, _, rfl, rfl, (by show (0 : Int) < 2; decide), _, rfl, _, rfl, (by show 5 ≤ sizeLine; decide), fun u nu => ?_⟩
        have s6 := same_new (o := .tup [.int (n : Int), .int (k.s : Int), .int (-z * y % 2), .ref f, .int (k.t : Int)]) nu
        have er6 := s6 _ _ er
        refine ⟨r, _, _, rfl, rfl, er6, szl (by omega), _, _, tvs ++ [.ref u], rfl, same_mut (s5.trans s6) nr, upd_same, ?_, by rw [List.length_append, List.length_singleton]; omega⟩
        have t7 : TK (upd H2 u (.tup [.int (n : Int), .int (k.s : Int), .int (-z * y % 2), .ref f, .int (k.t : Int)])) _ := tk_lst (o := .lst (tvs ++ [.ref u])) er6
        rw [take_succ_some hq, List.map_append, List.map_append, ← List.append_assoc]
        exact (RT.mono fun a b zz => zz.mono ((tk_same s6).trans t7)).snoc ⟨f, (t7 _ _ upd_same).trans (by rw [sgn_neg hz hy]), ef0.mono (((tk_same s5).trans (tk_same s6)).trans t7)⟩
      · rintro σ' H2 ⟨x14, x15, tvs, rfl, s5, er, RT, hl⟩
        rw [R2.len, List.take_length] at RT
        rw [R2.len] at hl
        refine ⟨_, _, _, _, tvs, rfl, s5, er, ?_, by omega⟩
        rw [List.replicate_succ', List.flatten_append, hB, List.flatten_singleton]
        unfold passT
        rw [← List.append_assoc, hB2]
        exact RT
    · rintro σ' H' ⟨x12, x13, x14, x15, tvs, rfl, s4, er, RT, hl⟩
      refine ⟨_, rfl, q H' r (s12.trans s4) (same_free s12 nr) ⟨tvs, er, ?_⟩⟩
      have e : (List.replicate 2 (passT (p1.map (·.2)) (p2.map (·.2)) k)).flatten = prodT (p1.map (·.2)) (p2.map (·.2)) k := by
        show passT _ _ k ++ (passT _ _ k ++ []) = _
        rw [List.append_nil]
        rfl
      rw [← e]
      exact RT
end
end BF
namespace BF
open PySem PySem.Spec PyProof.Rows L2 BR
def spInnerTasks : Sp := fun vs H Q _ => ∃ (p t : Addr) (nd : Nd) (k : Tk) (m : Nat), vs = [.ref p, .ref t, .int 2] ∧ NdAt H p nd ∧ nd.leaf = false ∧ TkAt H t k ∧ k.Ok m ∧ ∀ H' r, Same H H' → H r = none → TksAt H' r (subs k nd) → Q (.ref r) H'
theorem two_parts {k : Tk} {i j : Nat} : ∀ {z : Nat} {x : V}, ([.int (i : Int), .int (j : Int)] : List V)[z]? = some x → ∃ n : Nat, x = .int (n : Int) ∧ (subs k (.sm i j))[z]? = some ⟨n, k.t, k.c, k.f, k.s⟩
  | 0, x, e => ⟨i, (Option.some.inj e).symm, rfl⟩
  | 1, x, e => ⟨j, (Option.some.inj e).symm, rfl⟩
  | _ + 2, x, e => by simp at e
section
variable {P : Program} {w : World} {K : PySem.W.Frag} {mg : Str → Option Value} {base : Heap} {D : Ds}
theorem ok_inner_tasks (T : Txt w K mg D) : FnOk P w K mg base CX0 2 D.f_inner_tasks D.d_inner_tasks ["node", "task", "modulus"] spInnerTasks := by
  have G_product_tasks : FnOk P w K mg base CX0 1 D.f_product_tasks D.d_product_tasks ["first", "second", "task", "modulus"] spProductTasks := ok_product_tasks T
  refine T.F_inner_tasks.ok c_inner_tasks (fun vs H Q E h => ?_) (fun cdv A outer s H vs Q E hr h => ?_)
  · obtain ⟨p, t, nd, k, m, rfl, _⟩ := h
    rfl
  · obtain ⟨p, t, nd, k, m, rfl, e, hl, ⟨f, et, ef⟩, ok, q⟩ := h
    refine ⟨_, (pss_cons (ps_asg (pv 1) (pg_tup rfl (pgs_cons (pg_name (i := 3) c_inner_tasks.nd rfl (.inl rfl)) (pgs_cons (pg_name (i := 4) c_inner_tasks.nd rfl (.inr rfl)) (pgs_cons (pg_name (i := 5) c_inner_tasks.nd rfl (.inr rfl)) (pgs_cons (pg_name (i := 6) c_inner_tasks.nd rfl (.inr rfl)) (pgs_cons (pg_name (i := 7) c_inner_tasks.nd rfl (.inr rfl)) pgs_nil)))))))
      (pss_cons (ps_if (pt_cmpR op_eq (pe_ix ix_tup (pv 0) pe_int (fun _ _ => rfl)) pe_str (nomark _)) (pss_one (ps_ret (pe_lst (pa_cons (pe_tup (pa_cons (pe_ix ix_tup (pv 0) pe_int (fun _ _ => rfl)) (pa_cons (pv 4) (pa_cons (pe_op op_mod (pe_op op_mul (pv 5) (pe_ix ix_tup (pv 0) pe_int (fun _ _ => rfl))) (pv 2)) (pa_cons (pv 6) (pa_cons (pv 7) pa_nil)))))) pa_nil)))) pss_nil)
      (pss_cons (ps_if (pt_cmpR op_eq (pe_ix ix_tup (pv 0) pe_int (fun _ _ => rfl)) pe_str (nomark _)) (pss_one (ps_ret (pe_lc (own := [("part", 10)]) (g := gName 10) (tt := tYes) rfl c_inner_tasks.nd (pi_tup (pe_slice sl_tup (pv 0) (po_some pe_int) po_none)) (blkOk_by (own := [("part", 10)]) (N := ["node", "task", "modulus", "_", "target", "coefficient", "factors", "spare", "alone", "both", "part"]) (sc := defScope s_inner_tasks) (by decide +kernel)) (fun _ _ _ _ _ => pg_name (i := 10) c_inner_tasks.nd rfl (Or.inl rfl)) (fun _ _ _ _ _ => pts_nil) (fun _ _ _ _ _ => (pe_tup (pa_cons (pv 10) (pa_cons (pv 4) (pa_cons (pv 5) (pa_cons (pv 6) (pa_cons (pv 7) pa_nil)))))))))) pss_nil)
      (pss_cons (ps_if (pt_cmpR op_eq (pe_ix ix_tup (pv 0) pe_int (fun _ _ => rfl)) pe_str (nomark _)) (pss_one (ps_ret (pe_call G_product_tasks (hr.mono (by decide)) (by rfl) T.g_product_tasks T.F_product_tasks.kp T.b_product_tasks .nil pass0 (pa_cons (pe_lst (pa_cons (pe_tup (pa_cons pe_int (pa_cons (pe_ix ix_tup (pv 0) pe_int (fun _ _ => rfl)) pa_nil))) pa_nil)) (pa_cons (pe_lst (pa_cons (pe_tup (pa_cons pe_int (pa_cons (pe_ix ix_tup (pv 0) pe_int (fun _ _ => rfl)) pa_nil))) pa_nil)) (pa_cons (pv 1) (pa_cons (pv 2) pa_nil))))))) pss_nil)
      (pss_cons (ps_set (i := 8) c_inner_tasks.nd rfl (.inl rfl) (pe_lst (pa_cons (pe_tup (pa_cons (pe_ix ix_tup (pv 0) pe_int (fun _ _ => rfl)) (pa_cons (pv 4) (pa_cons (pv 5) (pa_cons (pv 6) (pa_cons (pv 7) pa_nil)))))) pa_nil)))
      (pss_cons (ps_set (i := 9) c_inner_tasks.nd rfl (.inl rfl) (pe_lst (pa_cons (pe_tup (pa_cons pe_int (pa_cons (pe_ix ix_tup (pv 0) pe_int (fun _ _ => rfl)) pa_nil))) (pa_cons (pe_tup (pa_cons (pe_un un_neg pe_int) (pa_cons (pe_ix ix_tup (pv 0) pe_int (fun _ _ => rfl)) pa_nil))) pa_nil))))
      (pss_one (ps_ret (pe_op op_cat (pv 8) (pe_call G_product_tasks (hr.mono (by decide)) (by rfl) T.g_product_tasks T.F_product_tasks.kp T.b_product_tasks .nil pass0 (pa_cons (pe_lst (pa_cons (pe_tup (pa_cons pe_int (pa_cons (pe_ix ix_tup (pv 0) pe_int (fun _ _ => rfl)) pa_nil))) pa_nil)) (pa_cons (pv 9) (pa_cons (pv 1) (pa_cons (pv 2) pa_nil)))))))))))))), ?_⟩
    refine ⟨_, rfl, t, _, rfl, SqT.of et, rfl, _, _, rfl, _, _, rfl, _, _, rfl, _, _, rfl, _, _, rfl, rfl, ?_⟩
    cases nd with
    | cst c => cases hl
    | inp x => cases hl
    | sc c i =>
      have e : H p = some (.tup [.str "scaled", .int (c : Int), .int (i : Int)]) := e
      refine ⟨_, rfl, p, _, _, _, rfl, rfl, SqT.of e, by rfl, rfl, _, rfl, iteY rfl ?_⟩
      refine ⟨_, rfl, p, _, _, _, rfl, rfl, SqT.of e, by rfl, _, rfl, _, rfl, _, rfl, p, _, _, _, rfl, rfl, SqT.of e, by rfl, _, _, rfl, rfl, .inl (b2_small k.c), _, rfl, _, _, rfl, rfl, (by show (0 : Int) < 2; decide), _, rfl, _, rfl, (by show 5 ≤ sizeLine; decide), fun u nu => ?_⟩
      have s1 := same_new (o := .tup [.int (i : Int), .int (k.t : Int), .int (b2 k.c * (c : Int) % 2), .ref f, .int (k.s : Int)]) nu
      refine ⟨(by show 1 ≤ sizeLine; decide), fun r nr => ?_⟩
      have s2 := same_new (o := .lst [.ref u]) nr
      exact q _ r (s1.trans s2) (same_free s1 nr) ⟨_, upd_same, .one ⟨f, (s2 _ _ upd_same).trans (by show some (HO.tup [V.int (i : Int), V.int (k.t : Int), V.int (b2 k.c * (c : Int) % 2), V.ref f, V.int (k.s : Int)]) = _; rw [b2_mul]), ef.mono (tk_same (s1.trans s2))⟩⟩
    | sm i j =>
      have e : H p = some (.tup [.str "sum", .int (i : Int), .int (j : Int)]) := e
      refine ⟨_, rfl, p, _, _, _, rfl, rfl, SqT.of e, by rfl, rfl, _, rfl, iteN (by decide) ?_⟩
      refine ⟨_, rfl, p, _, _, _, rfl, rfl, SqT.of e, by rfl, rfl, _, rfl, iteY rfl ?_⟩
      refine ⟨_, rfl, 1, rfl, p, _, rfl, SqT.of e, (by show ¬ (HT.sIx 3 0 (some 1) = 0 ∧ HT.sIx 3 3 none = 3); decide), fun u hu => ?_⟩
      have ec : cutV [.str "sum", .int (i : Int), .int (j : Int)] (some 1) none = [.int (i : Int), .int (j : Int)] := rfl
      rw [ec]
      have s1 : Same H (upd H u (.tup [.int (i : Int), .int (j : Int)])) := same_new hu
      refine ⟨u, rfl, ⟨_, SqT.of upd_same⟩, fun Dl hD => lc_tup (K := K) (a := u) (xs := [.int (i : Int), .int (j : Int)]) (fun z H' => ∃ ws : List V, Same (upd H u (.tup [.int (i : Int), .int (j : Int)])) H' ∧ H' Dl = some (.lst ws) ∧ Refs (TkAt H') ws ((subs k (.sm i j)).take z) ∧ ws.length ≤ z)
        ⟨[], same_new hD, upd_same, .nil, Nat.le_refl _⟩ (fun z H' _ ⟨_, s2, _⟩ => SqT.of (s2 _ _ upd_same)) ?_ ?_⟩
      · rintro z x H' hz ⟨ws, s2, eD, RW, hwl⟩
        have hz2 : z < 2 := (List.getElem?_eq_some_iff.mp hz).1
        obtain ⟨n, rfl, hn⟩ := two_parts (k := k) hz
        refine ⟨rfl, _, rfl, _, rfl, _, rfl, _, rfl, _, rfl, (by show 5 ≤ sizeLine; decide), fun y ny => ?_⟩
        have s3 := same_new (o := .tup [.int (n : Int), .int (k.t : Int), .int (b2 k.c), .ref f, .int (k.s : Int)]) ny
        have eD3 := s3 _ _ eD
        have t4 := tk_lst (o := .lst (ws ++ [.ref y])) eD3
        refine ⟨_, eD3, szl (by omega), ws ++ [.ref y], same_mut (s2.trans s3) hD, upd_same, ?_, by rw [List.length_append, List.length_singleton]; omega⟩
        rw [take_succ_some hn]
        exact (RW.mono fun a b zz => zz.mono ((tk_same s3).trans t4)).snoc ⟨f, t4 _ _ upd_same, ef.mono (((tk_same (s1.trans s2)).trans (tk_same s3)).trans t4)⟩
      · rintro H' ⟨ws, s2, eD, RW, _⟩
        exact q H' Dl (s1.trans s2) (same_free s1 hD) ⟨ws, eD, RW⟩
    | pr i j =>
      have e : H p = some (.tup [.str "product", .int (i : Int), .int (j : Int)]) := e
      refine ⟨_, rfl, p, _, _, _, rfl, rfl, SqT.of e, by rfl, rfl, _, rfl, iteN (by decide) ?_⟩
      refine ⟨_, rfl, p, _, _, _, rfl, rfl, SqT.of e, by rfl, rfl, _, rfl, iteN (by decide) ?_⟩
      refine ⟨_, rfl, p, _, _, _, rfl, rfl, SqT.of e, by rfl, rfl, _, rfl, iteY rfl ?_⟩
      refine ⟨_, rfl, p, _, _, _, rfl, rfl, SqT.of e, by rfl, (by show 2 ≤ sizeLine; decide), fun a na => ?_⟩
      have s1 := same_new (o := .tup [.int 1, .int (i : Int)]) na
      refine ⟨(by show 1 ≤ sizeLine; decide), fun l1 n1 => ?_⟩
      have s2 := same_new (o := .lst [.ref a]) n1
      have e2 := s2 _ _ (s1 _ _ e)
      refine ⟨_, rfl, p, _, _, _, rfl, rfl, SqT.of e2, by rfl, (by show 2 ≤ sizeLine; decide), fun b nb => ?_⟩
      have s3 := same_new (o := .tup [.int 1, .int (j : Int)]) nb
      refine ⟨(by show 1 ≤ sizeLine; decide), fun l2 n2 => ?_⟩
      have s4 := same_new (o := .lst [.ref b]) n2
      have sA := s1.trans (s2.trans (s3.trans s4))
      refine ⟨_, rfl, _, rfl, l1, l2, t, _, _, [(1, i)], [(1, j)], k, m, rfl, s4 _ _ (s3 _ _ upd_same), .one ((s2.trans (s3.trans s4)) _ _ upd_same), upd_same, .one (s4 _ _ upd_same), ?_, ?_, by simp, by simp, ⟨f, sA _ _ et, ef.mono (tk_same sA)⟩, ok, fun H' r s5 nr ts => ?_⟩
      · intro x hx
        rw [List.mem_singleton.mp hx]
        exact .inl rfl
      · intro x hx
        rw [List.mem_singleton.mp hx]
        exact .inl rfl
      · exact q H' r (sA.trans s5) (same_free sA nr) ts
    | ch i j l =>
      have e : H p = some (.tup [.str "choose", .int (i : Int), .int (j : Int), .int (l : Int)]) := e
      refine ⟨_, rfl, p, _, _, _, rfl, rfl, SqT.of e, by rfl, rfl, _, rfl, iteN (by decide) ?_⟩
      refine ⟨_, rfl, p, _, _, _, rfl, rfl, SqT.of e, by rfl, rfl, _, rfl, iteN (by decide) ?_⟩
      refine ⟨_, rfl, p, _, _, _, rfl, rfl, SqT.of e, by rfl, rfl, _, rfl, iteN (by decide) ?_⟩
      refine ⟨_, rfl, p, _, _, _, rfl, rfl, SqT.of e, by rfl, _, rfl, _, rfl, _, rfl, _, rfl, (by show 5 ≤ sizeLine; decide), fun u nu => ?_⟩
      have s1 := same_new (o := .tup [.int (l : Int), .int (k.t : Int), .int (b2 k.c), .ref f, .int (k.s : Int)]) nu
      refine ⟨(by show 1 ≤ sizeLine; decide), fun al nal => ?_⟩
      have s2 := same_new (o := .lst [.ref u]) nal
      have e2 := s2 _ _ (s1 _ _ e)
      refine ⟨_, rfl, p, _, _, _, rfl, rfl, SqT.of e2, by rfl, (by show 2 ≤ sizeLine; decide), fun b1 nb1 => ?_⟩
      have s3 := same_new (o := .tup [.int 1, .int (j : Int)]) nb1
      have e3 := s3 _ _ e2
      refine ⟨1, rfl, _, rfl, p, _, _, _, rfl, rfl, SqT.of e3, by rfl, (by show 2 ≤ sizeLine; decide), fun b2' nb2 => ?_⟩
      have s4 := same_new (o := .tup [.int (-1), .int (l : Int)]) nb2
      refine ⟨(by show 2 ≤ sizeLine; decide), fun bo nbo => ?_⟩
      have s5 := same_new (o := .lst [.ref b1, .ref b2']) nbo
      have e5 := s5 _ _ (s4 _ _ e3)
      refine ⟨_, rfl, _, rfl, p, _, _, _, rfl, rfl, SqT.of e5, by rfl, (by show 2 ≤ sizeLine; decide), fun c1 nc1 => ?_⟩
      have s6 := same_new (o := .tup [.int 1, .int (i : Int)]) nc1
      refine ⟨(by show 1 ≤ sizeLine; decide), fun l1 nl1 => ?_⟩
      have s7 := same_new (o := .lst [.ref c1]) nl1
      have s67 := s6.trans s7
      have s57 := s5.trans s67
      have s47 := s4.trans s57
      have s37 := s3.trans s47
      have sA := s1.trans (s2.trans s37)
      refine ⟨_, rfl, _, rfl, _, rfl, l1, bo, t, _, _, [(1, i)], [(1, j), (-1, l)], k, m, rfl, upd_same, .one (s7 _ _ upd_same), s67 _ _ upd_same, .cons (s47 _ _ upd_same) (.one (s57 _ _ upd_same)), ?_, ?_, by simp, by simp, ⟨f, sA _ _ et, ef.mono (tk_same sA)⟩, ok, fun H' r s8 nr ⟨ws, er, RW⟩ => ?_⟩
      · intro x hx
        rw [List.mem_singleton.mp hx]
        exact .inl rfl
      · intro x hx
        rcases List.mem_cons.mp hx with z | z
        · rw [z]
          exact .inl rfl
        · rw [List.mem_singleton.mp z]
          exact .inr rfl
      · have eal : H' al = some (.lst [.ref u]) := s8 _ _ (s37 _ _ upd_same)
        have hwl : ws.length ≤ 6 := by
          rw [RW.len]
          simp [prodT, passT]
        refine ⟨al, r, _, _, rfl, rfl, eal, er, sz (by rw [List.length_singleton]; omega), fun y ny => ?_⟩
        have s9 := same_new (o := .lst ([.ref u] ++ ws)) ny
        have su : H' u = some (.tup [.int (l : Int), .int (k.t : Int), .int (b2 k.c), .ref f, .int (k.s : Int)]) := s8 _ _ (s37 _ _ (s2 _ _ upd_same))
        refine q _ y (sA.trans (s8.trans s9)) (same_free (sA.trans s8) ny) ⟨_, upd_same, ?_⟩
        exact (Refs.one ⟨f, s9 _ _ su, ef.mono (tk_same (sA.trans (s8.trans s9)))⟩).append (RW.mono fun a b zz => zz.mono (tk_same s9))
end
end BF
namespace BF
open PySem PySem.Spec PyProof.Rows L2 BR
/-- what a source's program does -/
def DoesVal (s : List Nd) (sts : List Stp) : Prop := ∀ (g b : Nat → Bool), stsRun g sts b = fun i => if i = 0 then xor (b i) (val g s (s.length - 1)) else b i
def spCompile (C : Addr) : Sp := fun vs H Q _ => ∃ (a : Addr) (s : List Nd), vs = [.ref a, .int 2] ∧ SrcAt H a s ∧ Wf s ∧ 1 ≤ s.length ∧ s.length ≤ 200 ∧ cst s (s.length - 1) ≤ 20000 ∧
  ∀ H' p sts, Same H H' → ProgAt C H' p (needs s) sts → (∀ st ∈ sts, st.Ok (needs s)) → sts.length = cst s (s.length - 1) → DoesVal s sts → Q (.ref p) H'
theorem Refs.unsnoc {α : Type} {R : Addr → α → Prop} {vs : List V} {xs : List α} {x : α} (h : Refs R vs (xs ++ [x])) : ∃ ws p, vs = ws ++ [.ref p] ∧ Refs R ws xs ∧ R p x := by
  have q := h.reverse
  rw [List.reverse_append, show ([x] : List α).reverse ++ xs.reverse = x :: xs.reverse from rfl] at q
  have e : vs = vs.reverse.reverse := (List.reverse_reverse vs).symm
  generalize vs.reverse = us at q e
  cases q with
  | cons r t =>
    have t2 := t.reverse
    rw [List.reverse_reverse] at t2
    exact ⟨_, _, by rw [e, List.reverse_cons], t2, r⟩
theorem stack_len {s : List Nd} (w : Wf s) : ∀ {l : List Tk}, (∀ k ∈ l, k.n < s.length) → l.length ≤ (l.map fun k => cst s k.n).sum
  | [], _ => Nat.le_refl _
  | k :: r, h => by
    have h1 := cst_pos w k.n (h k List.mem_cons_self)
    have h2 := stack_len w (l := r) fun q hq => h q (List.mem_cons_of_mem _ hq)
    rw [List.length_cons, List.map_cons, List.sum_cons]
    omega
/-- between two turns of compile_source's loop -/
structure CompW (s : List Nd) (a x so to : Addr) (Hb : Hp) (μ : Nat) (σ : L2.St) (H : Hp) : Prop where
  ex : ∃ (x6 x7 : Option V) (stk : List Tk) (sts : List Stp) (tvs svs : List V), σ = [some (.ref a), some (.int 2), some (.int (cst s (s.length - 1) : Int)), some (.ref x), some (.ref so), some (.ref to), x6, x7] ∧
    Same Hb H ∧ H to = some (.lst tvs) ∧ Refs (TkAt H) tvs stk.reverse ∧ H so = some (.lst svs) ∧ Refs (StpAt H) svs sts ∧ (∀ k ∈ stk, k.Ok s.length) ∧ (∀ st ∈ sts, st.Ok (needs s)) ∧
    sts.length + (stk.map fun k => cst s k.n).sum = cst s (s.length - 1) ∧ (∀ g b : Nat → Bool, tksRun (val g s) stk (stsRun g sts b) = fun i => if i = 0 then xor (b i) (val g s (s.length - 1)) else b i) ∧ μ = (stk.map fun k => wt s k.n).sum
/-- node[0] == "const" or node[0] == "input" -/
theorem leaf_read {K : PySem.W.Frag} {σ : L2.St} {H : Hp} {Q : Bool → Hp → Prop} {p : Addr} {nd : Nd} (h : σ[7]? = some (some (.ref p))) (e : NdAt H p nd) (q : Q nd.leaf H) :
    tOr (tTest (tOp rEq (tOp (rIxT K) (tVar 7) (tC (.int 0))) (tC (.str "const")))) (tTest (tOp rEq (tOp (rIxT K) (tVar 7) (tC (.int 0))) (tC (.str "input")))) σ H Q := by
  cases nd with
  | cst c =>
    have e : H p = some (.tup [.str "const", .int (c : Int)]) := e
    exact ⟨_, h, p, _, _, _, rfl, rfl, SqT.of e, by rfl, rfl, _, rfl, iteY rfl q⟩
  | inp k =>
    have e : H p = some (.tup [.str "input", .int (k : Int)]) := e
    refine ⟨_, h, p, _, _, _, rfl, rfl, SqT.of e, by rfl, rfl, _, rfl, iteN (by decide) ⟨_, h, p, _, _, _, rfl, rfl, SqT.of e, by rfl, rfl, _, rfl, ?_⟩⟩
    rw [decide_eq_true rfl]
    exact q
  | sm i j =>
    have e : H p = some (.tup [.str "sum", .int (i : Int), .int (j : Int)]) := e
    refine ⟨_, h, p, _, _, _, rfl, rfl, SqT.of e, by rfl, rfl, _, rfl, iteN (by decide) ⟨_, h, p, _, _, _, rfl, rfl, SqT.of e, by rfl, rfl, _, rfl, ?_⟩⟩
    rw [decide_eq_false (by decide)]
    exact q
  | pr i j =>
    have e : H p = some (.tup [.str "product", .int (i : Int), .int (j : Int)]) := e
    refine ⟨_, h, p, _, _, _, rfl, rfl, SqT.of e, by rfl, rfl, _, rfl, iteN (by decide) ⟨_, h, p, _, _, _, rfl, rfl, SqT.of e, by rfl, rfl, _, rfl, ?_⟩⟩
    rw [decide_eq_false (by decide)]
    exact q
  | sc c i =>
    have e : H p = some (.tup [.str "scaled", .int (c : Int), .int (i : Int)]) := e
    refine ⟨_, h, p, _, _, _, rfl, rfl, SqT.of e, by rfl, rfl, _, rfl, iteN (by decide) ⟨_, h, p, _, _, _, rfl, rfl, SqT.of e, by rfl, rfl, _, rfl, ?_⟩⟩
    rw [decide_eq_false (by decide)]
    exact q
  | ch i j l =>
    have e : H p = some (.tup [.str "choose", .int (i : Int), .int (j : Int), .int (l : Int)]) := e
    refine ⟨_, h, p, _, _, _, rfl, rfl, SqT.of e, by rfl, rfl, _, rfl, iteN (by decide) ⟨_, h, p, _, _, _, rfl, rfl, SqT.of e, by rfl, rfl, _, rfl, ?_⟩⟩
    rw [decide_eq_false (by decide)]
    exact q
section
variable {P : Program} {w : World} {K : PySem.W.Frag} {mg : Str → Option Value} {base : Heap} {D : Ds}
theorem ok_compile_source (T : Txt w K mg D) : FnOk P w K mg base CX0 9 D.f_compile_source D.d_compile_source ["source", "modulus"] (spCompile D.C) := by
  have G_cost : FnOk P w K mg base CX0 5 D.f_cost D.d_cost ["source"] spCost := ok_cost T
  have G_needs : FnOk P w K mg base CX0 5 D.f_needs D.d_needs ["source"] spNeeds := ok_needs T
  have G_pinit : FnOk P w K mg base CX0 7 D.f_pinit D.d_pinit ["self", "modulus", "cells", "inputs", "steps"] (spInit D.C) := ok_pinit T
  have G_leaf_step : FnOk P w K mg base CX0 1 D.f_leaf_step D.d_leaf_step ["node", "task", "modulus"] spLeafStep := ok_leaf_step T
  have G_inner_tasks : FnOk P w K mg base CX0 2 D.f_inner_tasks D.d_inner_tasks ["node", "task", "modulus"] spInnerTasks := ok_inner_tasks T
  refine T.F_compile_source.ok c_compile_source (fun vs H Q E h => ?_) (fun cdv A outer s H vs Q E hr h => ?_)
  · obtain ⟨a, s, rfl, _⟩ := h
    rfl
  · obtain ⟨a, s, rfl, src, wf, h1, h2, hc, q⟩ := h
    refine ⟨_, (pss_cons (ps_set (i := 2) c_compile_source.nd rfl (.inl rfl) (pe_call G_cost (hr.mono (by decide)) (by rfl) T.g_cost T.F_cost.kp T.b_cost .nil pass0 (pa_cons (pv 0) pa_nil)))
      (pss_cons (ps_set (i := 3) c_compile_source.nd rfl (.inl rfl) (pe_make T.mkC G_pinit (hr.mono (by decide)) (by rfl) T.g_Program T.b_pinit .nil pass0 (pa_cons (pv 1) (pa_cons pe_int (pa_cons (pe_call G_needs (hr.mono (by decide)) (by rfl) T.g_needs T.F_needs.kp T.b_needs .nil pass0 (pa_cons (pv 0) pa_nil)) (pa_cons (pe_lst pa_nil) pa_nil))))))
      (pss_cons (ps_if (pt_cmpR op_gt (pv 2) (pe_glob (v := .int 20000) (by rfl) T.k_MOST_three ⟨_, rfl⟩) (nomark _)) pss_never pss_nil)
      (pss_cons (ps_set (i := 4) c_compile_source.nd rfl (.inl rfl) (pe_lst pa_nil))
      (pss_cons (ps_set (i := 5) c_compile_source.nd rfl (.inl rfl) (pe_lst (pa_cons (pe_tup (pa_cons (pe_op op_sub (pe_callB call_len_seq (by rfl) T.z_len (by decide +kernel) (pa_cons (pv 0) pa_nil)) pe_int) (pa_cons pe_int (pa_cons pe_int (pa_cons (pe_tup pa_nil) (pa_cons pe_int pa_nil)))))) pa_nil)))
      (pss_cons (ps_while PassesOwn.never (pt_truth (pv 5) (by intro _; rfl)) (pss_cons (ps_set (i := 6) c_compile_source.nd rfl (.inl rfl) (pe_bm0 PySem.F.plainAttrs_list PySem.F.slot_list_pop PySem.F.type_list_pop mt_pop (pv 5)))
      (pss_cons (ps_set (i := 7) c_compile_source.nd rfl (.inl rfl) (pe_ix ix_tup (pv 0) (pe_ix ix_tup (pv 6) pe_int (fun _ _ => rfl)) (fun _ _ => rfl)))
      (pss_one (ps_if (PW.pt (pw_or (pt_cmpR op_eq (pe_ix ix_tup (pv 7) pe_int (fun _ _ => rfl)) pe_str (nomark _)) (pw_or1 (pt_cmpR op_eq (pe_ix ix_tup (pv 7) pe_int (fun _ _ => rfl)) pe_str (nomark _))))) (pss_one (ps_expr (pe_bm PySem.F.plainAttrs_list PySem.F.slot_list_append PySem.F.type_list_append mt_append (pv 4) (pa_cons (pe_call G_leaf_step (hr.mono (by decide)) (by rfl) T.g_leaf_step T.F_leaf_step.kp T.b_leaf_step .nil pass0 (pa_cons (pv 7) (pa_cons (pv 6) (pa_cons (pv 1) pa_nil)))) pa_nil)))) (pss_one (ps_expr (pe_bm PySem.F.plainAttrs_list PySem.F.slot_list_extend PySem.F.type_list_extend mt_extend (pv 5) (pa_cons (pe_revL (pe_call G_inner_tasks (hr.mono (by decide)) (by rfl) T.g_inner_tasks T.F_inner_tasks.kp T.b_inner_tasks .nil pass0 (pa_cons (pv 7) (pa_cons (pv 6) (pa_cons (pv 1) pa_nil))))) pa_nil)))))))))
      (pss_one (ps_ret (pe_make T.mkC G_pinit (hr.mono (by decide)) (by rfl) T.g_Program T.b_pinit .nil pass0 (pa_cons (pv 1) (pa_cons pe_int (pa_cons (pe_fld (pv 3) rfl) (pa_cons (pv 4) pa_nil))))))))))))), ?_⟩
    refine ⟨_, rfl, a, s, rfl, src, wf, h1, h2, fun H1 s1 => ?_⟩
    -- empty
    refine ⟨_, rfl, _, rfl, a, s, rfl, src.mono (tk_same s1), wf, h1, h2, fun H2 s2 => ⟨Nat.zero_le _, fun l0 nl0 x dx nx ndx ne => ?_⟩⟩
    have s3 := same_new (o := .lst []) nl0
    have e0 : (upd H2 l0 (.lst [])) l0 = some (.lst []) := upd_same
    have nlx : l0 ≠ x := ne_of_none e0 nx
    have nld : l0 ≠ dx := ne_of_none e0 ndx
    refine ⟨x, dx, l0, [], [], needs s, rfl, upd_same, by rw [upd_ne nlx, upd_ne nld]; exact e0, .nil, (fun _ hz => by cases hz), Nat.zero_le _, needs_le wf, fun H4 l4 but4 nl4 ex4 el4 => ⟨rfl, ?_⟩⟩
    have s4 : Same (upd H2 l0 (.lst [])) H4 := Same.made nx ndx fun b o eb hb => but4 b o hb eb
    have sB : Same H H4 := s1.trans (s2.trans (s3.trans s4))
    refine ⟨_, rfl, _, _, rfl, rfl, _, rfl, iteN (by omega) ?_⟩
    -- steps, tasks
    refine ⟨Nat.zero_le _, fun so nso => ?_⟩
    have s5 := same_new (o := .lst []) nso
    obtain ⟨vs, ea, R⟩ := src
    have hvl := R.len
    refine ⟨_, rfl, _, _, rfl, .inr (SqT.of (s5 _ _ (sB _ _ ea))), _, _, rfl, rfl, Nat.zero_le _, fun f nf => ?_⟩
    have s6 := same_new (o := .tup []) nf
    refine ⟨(by show 5 ≤ sizeLine; decide), fun t nt => ?_⟩
    have s7 := same_new (o := .tup [.int ((vs.length : Int) - 1), .int 0, .int 1, .ref f, .int 1]) nt
    refine ⟨(by show 1 ≤ sizeLine; decide), fun to nto => ?_⟩
    have s8 := same_new (o := .lst [.ref t]) nto
    have s58 := s5.trans (s6.trans (s7.trans s8))
    have nto4 : H4 to = none := same_free (s5.trans (s6.trans s7)) nto
    have hroot : (vs.length : Int) - 1 = ((s.length - 1 : Nat) : Int) := by omega
    have nst : so ≠ to := ne_of_none ((s6.trans s7) _ _ upd_same) nto
    refine ⟨CompW s a x so to H4, ⟨_, ⟨none, none, [⟨s.length - 1, 0, true, none, 1⟩], [], [.ref t], [], rfl, s58, upd_same, .one ⟨f, ?_, [], s8 _ _ (s7 _ _ upd_same), .nil⟩, ?_, .nil, ?_, (fun _ hz => by cases hz), ?_, fun g b => ?_, rfl⟩⟩, fun μ σ' H' hW => ?_⟩
    · refine (s8 _ _ upd_same).trans ?_
      show some (HO.tup [.int ((vs.length : Int) - 1), .int 0, .int 1, .ref f, .int 1]) = _
      rw [hroot]
      rfl
    · exact s8 _ _ (s7 _ _ (s6 _ _ upd_same))
    · intro k hk
      rw [List.mem_singleton.mp hk]
      exact ⟨by show s.length - 1 < s.length; omega, by show 0 < 3; decide, by show 1 < 3; decide, by show (0 : Nat) ≠ 1; decide, fun y hy => by cases hy⟩
    · simp
    · funext i
      show tkRun _ _ _ i = _
      simp [tkRun, facV, stsRun]
    obtain ⟨x6, x7, stk, sts, tvs, svs, rfl, s9, eto, RT, eso, RS, okT, okS, hsum, hrun, rfl⟩ := hW
    cases stk with
    | nil =>
      cases RT
      refine ⟨_, rfl, false, .inl ⟨[], SqL.of eto, rfl⟩, iteF ?_⟩
      -- return Program(..)
      refine ⟨_, rfl, _, rfl, x, D.C, dx, _, _, rfl, s9 _ _ ex4, T.clC, T.n_inputs, pf_inputs _ _, _, rfl, fun y dy ny ndy ney => ?_⟩
      have nsy : so ≠ y := ne_of_none eso ny
      have nsd : so ≠ dy := ne_of_none eso ndy
      have tk2 : TK H' (upd (upd H' dy (.own y)) y (.ins D.C dy [])) := fun b xs eb => by
        rw [upd_ne (ne_of_none eb ny), upd_ne (ne_of_none eb ndy)]
        exact eb
      have hsl : sts.length = cst s (s.length - 1) := by simpa using hsum
      refine ⟨y, dy, so, svs, sts, needs s, rfl, upd_same, by rw [upd_ne nsy, upd_ne nsd]; exact eso, RS.mono fun _ _ z => z.mono tk2, okS, by omega, needs_le wf, fun H6 l6 but6 nl6 ey6 el6 => ⟨rfl, ?_⟩⟩
      have sF : Same H' H6 := Same.made ny ndy fun b o eb hb => but6 b o hb eb
      exact q H6 y sts (sB.trans (s9.trans sF)) ⟨dy, l6, svs, ey6, el6, RS.mono fun _ _ z => z.mono (tk_same sF)⟩ okS hsl hrun
    | cons k rest =>
      rw [List.reverse_cons] at RT
      obtain ⟨tvs0, p, rfl, RT0, htk⟩ := RT.unsnoc
      have hok := okT k List.mem_cons_self
      have hrl : rest.length ≤ (rest.map fun k => cst s k.n).sum := stack_len wf fun r hr => (okT r (List.mem_cons_of_mem _ hr)).n
      have ht0 : tvs0.length = rest.length := by rw [RT0.len, List.length_reverse]
      rw [List.map_cons, List.sum_cons] at hsum
      refine ⟨_, rfl, true, .inl ⟨_, SqL.of eto, by simp⟩, iteT ⟨fun σ' H' => ∃ m', m' < ((k :: rest).map fun k => wt s k.n).sum ∧ CompW s a x so to H4 m' σ' H', fun σ' H' h => h, ?_⟩⟩
      -- task = tasks.pop()
      refine ⟨_, rfl, .inl ⟨rfl, _, SqL.of eto⟩, to, _, .ref p, rfl, rfl, eto, by simp, ?_⟩
      rw [List.dropLast_concat]
      have t1 := tk_lst (o := .lst tvs0) eto
      have s10 : Same H4 (upd H' to (.lst tvs0)) := same_mut s9 nto4
      have htk1 := htk.mono t1
      generalize hH1 : upd H' to (.lst tvs0) = H10 at t1 s10 htk1
      have eto1 : H10 to = some (.lst tvs0) := by rw [← hH1]; exact upd_same
      have eso1 : H10 so = some (.lst svs) := by rw [← hH1, upd_ne nst]; exact eso
      have RT1 := RT0.mono fun _ _ z => z.mono t1
      have RS1 := RS.mono fun _ _ z => z.mono t1
      obtain ⟨f1, ep1, ef1⟩ := id htk1
      -- node = source[task[0]]
      obtain ⟨nd, hn⟩ : ∃ nd, s[k.n]? = some nd := ⟨_, List.getElem?_eq_getElem hok.n⟩
      obtain ⟨qn, hqn, eqn⟩ := R.at hn
      have eqn1 := s10 _ _ (sB _ _ eqn)
      refine ⟨_, rfl, _, rfl, p, _, _, _, rfl, rfl, SqT.of ep1, by rfl, a, _, _, _, rfl, rfl, SqT.of (s10 _ _ (sB _ _ ea)), atI_nat hqn, ?_⟩
      have hndok := wf k.n _ hn
      refine leaf_read (nd := nd) rfl eqn1 ?_
      cases hleaf : nd.leaf with
      | true =>
        refine iteT ⟨_, rfl, .inl ⟨rfl, _, SqL.of eso1⟩, _, rfl, _, rfl, _, rfl, qn, p, nd, k, rfl, eqn1, hleaf, htk1, fun H11 r s11 hst => ?_⟩
        have eso11 := s11 _ _ eso1
        have hc1 : cst s k.n = 1 := by
          rw [cst_eq wf hn]
          cases nd <;> first | rfl | cases hleaf
        have hw1 : 1 ≤ wt s k.n := by
          rw [wt_eq wf hn]
          cases nd <;> first | exact Nat.le_refl _ | cases hleaf
        have t12 := tk_lst (o := .lst (svs ++ [.ref r])) eso11
        have hsl := RS.len
        refine ⟨so, _, _, rfl, rfl, eso11, szl (by omega), (rest.map fun k => wt s k.n).sum, by rw [List.map_cons, List.sum_cons]; omega, ⟨some (.ref p), some (.ref qn), rest, sts ++ [leafStp k nd], tvs0, svs ++ [.ref r], rfl, same_mut (s10.trans s11) nso, ?_, ?_, upd_same, ?_, fun z hz => okT z (List.mem_cons_of_mem _ hz), fun z hz => ?_, ?_, fun g b => ?_, rfl⟩⟩
        · rw [upd_ne nst.symm]
          exact s11 _ _ eto1
        · exact RT1.mono fun _ _ z => z.mono ((tk_same s11).trans t12)
        · exact (RS1.mono fun _ _ z => z.mono ((tk_same s11).trans t12)).snoc (hst.mono t12)
        · rcases List.mem_append.mp hz with hz | hz
          · exact okS z hz
          · rw [List.mem_singleton.mp hz]
            exact leaf_ok hok (fun y hy => inp_lt (hy ▸ List.mem_of_getElem? hn)) hleaf
        · rw [List.length_append, List.length_singleton]
          omega
        · rw [stsRun_snoc, leaf_run wf hn hleaf, ← tksRun_cons]
          exact hrun g b
      | false =>
        refine iteF ⟨_, rfl, .inl ⟨rfl, _, SqL.of eto1⟩, _, rfl, _, rfl, _, rfl, qn, p, nd, k, s.length, rfl, eqn1, hleaf, htk1, hok, fun H11 r s11 nr ⟨ws, er, RW⟩ => ⟨r, _, rfl, SqL.of er, fun rv nrv => ?_⟩⟩
        have s12 := same_new (o := .lst ws.reverse) nrv
        have s1112 := s11.trans s12
        have eto12 := s1112 _ _ eto1
        have t13 := tk_lst (o := .lst (tvs0 ++ ws.reverse)) eto12
        have hcost := subs_cost wf (k := k) hn hleaf
        have hwt := subs_wt wf (k := k) hn
        have okN : ∀ z ∈ subs k nd ++ rest, z.Ok s.length := fun z hz => by
          rcases List.mem_append.mp hz with hz | hz
          · exact subs_ok hok hndok z hz
          · exact okT z (List.mem_cons_of_mem _ hz)
        have hsl := stack_len wf (l := subs k nd ++ rest) fun z hz => (okN z hz).n
        rw [List.length_append, List.map_append, List.sum_append] at hsl
        have hwl := RW.len
        refine ⟨to, rv, _, _, rfl, rfl, eto12, upd_same, sz (by rw [List.length_reverse]; omega), ((subs k nd ++ rest).map fun k => wt s k.n).sum, by rw [List.map_append, List.sum_append, List.map_cons, List.sum_cons]; omega, ⟨some (.ref p), some (.ref qn), subs k nd ++ rest, sts, tvs0 ++ ws.reverse, svs, rfl, same_mut (s10.trans s1112) nto4, upd_same, ?_, ?_, ?_, okN, okS, ?_, fun g b => ?_, rfl⟩⟩
        · rw [List.reverse_append]
          exact (RT1.mono fun _ _ z => z.mono ((tk_same s1112).trans t13)).append (RW.reverse.mono fun _ _ z => z.mono ((tk_same s12).trans t13))
        · rw [upd_ne nst]
          exact s1112 _ _ eso1
        · exact RS1.mono fun _ _ z => z.mono ((tk_same s1112).trans t13)
        · rw [List.map_append, List.sum_append, hcost]
          omega
        · rw [tksRun_append, subs_run wf hok hn hleaf, ← tksRun_cons]
          exact hrun g b
end
end BF
namespace BF
open PySem PySem.Spec PyProof.Rows L2 BR
def spMixed : Sp := fun vs H Q _ => ∃ n k : Int, vs = [.int n, .int k] ∧ ∀ z : Int, 0 ≤ z → z < 2147483647 → Q (.int z) H
def spNumbers (K : PySem.W.Frag) : Sp := fun vs H Q _ => ∃ (a : Addr) (ns : List Int), vs = [.ref a] ∧ SqL K H a (ns.map V.int) ∧ ns.length ≤ 63 ∧ ∀ H' p ds, Same H H' → H p = none → H' p = some (.lst (nums ds)) → (∀ d ∈ ds, d < 1000000) → Q (.ref p) H'
/-- the draws' list at a, its numbers at l -/
def DrawsAt (H : Hp) (a l : Addr) : Prop := l ≠ a ∧ ∃ (n : Nat) (ds : List Nat), H a = some (.lst [.ref l, .int (n : Int)]) ∧ H l = some (.lst (nums ds)) ∧ ∀ d ∈ ds, d < 1000000
def spDraw : Sp := fun vs H Q _ => ∃ a l : Addr, vs = [.ref a] ∧ DrawsAt H a l ∧ ∀ (d : Nat) H', d < 1000000 → But a H H' → DrawsAt H' a l → Q (.int (d : Int)) H'
theorem DrawsAt.same {H H' : Hp} {a l : Addr} (h : DrawsAt H a l) (e : Same H H') : DrawsAt H' a l := by
  obtain ⟨hn, n, ds, h1, h2, h3⟩ := h
  exact ⟨hn, n, ds, e _ _ h1, e _ _ h2, h3⟩
theorem DrawsAt.upd {H : Hp} {a l p : Addr} {o : HO} (h : DrawsAt H a l) (h1 : p ≠ a) (h2 : p ≠ l) : DrawsAt (upd H p o) a l := by
  obtain ⟨hn, n, ds, e1, e2, h3⟩ := h
  exact ⟨hn, n, ds, by rw [upd_ne h1.symm]; exact e1, by rw [upd_ne h2.symm]; exact e2, h3⟩
theorem DrawsAt.lst {H : Hp} {a l : Addr} (h : DrawsAt H a l) : ∃ xs, H a = some (.lst xs) := by
  obtain ⟨hn, n, ds, e1, _⟩ := h
  exact ⟨_, e1⟩
def spEqB : Sp := fun vs H Q _ => ∃ b : Bool, vs = [.bl b, .bl b] ∧ Q (.bl true) H
def spEqL (K : PySem.W.Frag) : Sp := fun vs H Q _ => ∃ (a b : Addr) (xs : List Bool), vs = [.ref a, .ref b] ∧ H a = some (.lst (xs.map V.bl)) ∧ H b = some (.lst (xs.map V.bl)) ∧ xs.length ≤ 1000 ∧ Q (.bl true) H
theorem mod_nat {z : Int} {m : Nat} (hm : 0 < m) : ∃ d : Nat, d < m ∧ z % (m : Int) = (d : Int) := by
  have h1 := Int.emod_nonneg z (show (m : Int) ≠ 0 by omega)
  have h2 := Int.emod_lt_of_pos z (show (0 : Int) < (m : Int) by omega)
  exact ⟨(z % (m : Int)).toNat, by omega, by omega⟩
section
variable {P : Program} {w : World} {K : PySem.W.Frag} {mg : Str → Option Value} {base : Heap} {D : Ds}
theorem ok_l_mixed (T : Txt w K mg D) : FnOk P w K mg base CX0 1 D.f_l_mixed D.d_l_mixed ["_law_number", "_law_k"] spMixed := by
  refine T.F_l_mixed.ok c_l_mixed (fun vs H Q E h => ?_) (fun cdv A outer s H vs Q E hr h => ?_)
  · obtain ⟨n, k, rfl, _⟩ := h
    rfl
  · obtain ⟨n, k, rfl, q⟩ := h
    refine ⟨_, (pss_cons (ps_set (i := 2) c_l_mixed.nd rfl (.inl rfl) (pe_op op_mod (pe_op op_add (pe_op op_add (pe_op op_mul (pv 0) pe_int) (pe_op op_mul (pv 1) pe_int)) pe_int) pe_int))
      (pss_one (ps_ret (pe_op op_mod (pe_op op_add (pe_op op_mul (pv 2) (pe_op op_add (pe_op op_fdiv (pv 2) pe_int) pe_int)) (pv 1)) pe_int)))), ?_⟩
    refine ⟨_, rfl, _, _, rfl, rfl, .inr ⟨by decide, by decide⟩, _, rfl, _, _, rfl, rfl, .inr ⟨by decide, by decide⟩, _, _, rfl, rfl, _, _, rfl, rfl, _, _, rfl, rfl, (by show (0 : Int) < 2147483647; decide), ?_⟩
    have h1 := Int.emod_nonneg (n * 48271 + k * 69621 + 12345) (show (2147483647 : Int) ≠ 0 by decide)
    have h2 := Int.emod_lt_of_pos (n * 48271 + k * 69621 + 12345) (show (0 : Int) < 2147483647 by decide)
    refine ⟨_, rfl, _, rfl, _, _, rfl, rfl, ⟨by decide, by decide⟩, _, _, rfl, rfl, _, _, rfl, rfl, .inl ⟨by omega, by omega⟩, _, rfl, _, _, rfl, rfl, _, _, rfl, rfl, (by show (0 : Int) < 2147483647; decide), ?_⟩
    exact q _ (Int.emod_nonneg _ (by decide)) (Int.emod_lt_of_pos _ (by decide))
theorem ok_l_numbers (T : Txt w K mg D) : FnOk P w K mg base CX0 2 D.f_l_numbers D.d_l_numbers ["_law_script"] (spNumbers K) := by
  have G_l_mixed : FnOk P w K mg base CX0 1 D.f_l_mixed D.d_l_mixed ["_law_number", "_law_k"] spMixed := ok_l_mixed T
  refine T.F_l_numbers.ok c_l_numbers (fun vs H Q E h => ?_) (fun cdv A outer s H vs Q E hr h => ?_)
  · obtain ⟨a, ns, rfl, _⟩ := h
    rfl
  · obtain ⟨a, ns, rfl, hS, hlen, q⟩ := h
    refine ⟨_, (pss_cons (ps_set (i := 1) c_l_numbers.nd rfl (.inl rfl) (pe_lst pa_nil))
      (pss_cons (ps_for PassesOwn.never rfl (pi_list (pv 0)) (pg_name (i := 2) c_l_numbers.nd rfl (.inl rfl)) (pss_one (ps_if (pt_cmpR op_ge (pv 2) (pe_op op_pow pe_int pe_int) (nomark _)) (pss_cons (ps_set (i := 3) c_l_numbers.nd rfl (.inl rfl) (pv 2))
      (pss_one (ps_for PassesOwn.never rfl (pi_range1 (by rfl) T.z_range (pa_cons pe_int pa_nil)) (pg_name (i := 4) c_l_numbers.nd rfl (.inl rfl)) (pss_one (ps_if (pt_cmpR op_gt (pv 3) pe_int (nomark _)) (pss_cons (ps_expr (pe_bm PySem.F.plainAttrs_list PySem.F.slot_list_append PySem.F.type_list_append mt_append (pv 1) (pa_cons (pe_op op_mod (pv 3) pe_int) pa_nil)))
      (pss_one (ps_set (i := 3) c_l_numbers.nd rfl (.inl rfl) (pe_op op_fdiv (pv 3) pe_int)))) pss_nil))))) (pss_cons (ps_expr (pe_bm PySem.F.plainAttrs_list PySem.F.slot_list_append PySem.F.type_list_append mt_append (pv 1) (pa_cons (pe_op op_mod (pv 2) pe_int) pa_nil)))
      (pss_one (ps_for PassesOwn.never rfl (pi_range1 (by rfl) T.z_range (pa_cons pe_int pa_nil)) (pg_name (i := 4) c_l_numbers.nd rfl (.inl rfl)) (pss_one (ps_expr (pe_bm PySem.F.plainAttrs_list PySem.F.slot_list_append PySem.F.type_list_append mt_append (pv 1) (pa_cons (pe_op op_mod (pe_call G_l_mixed (hr.mono (by decide)) (by rfl) T.g_l_mixed T.F_l_mixed.kp T.b_l_mixed .nil pass0 (pa_cons (pe_call G_l_mixed (hr.mono (by decide)) (by rfl) T.g_l_mixed T.F_l_mixed.kp T.b_l_mixed .nil pass0 (pa_cons (pe_op op_mod (pv 2) pe_int) (pa_cons (pv 4) pa_nil))) (pa_cons (pe_op op_add (pv 4) pe_int) pa_nil))) pe_int) pa_nil))))))))))
      (pss_one (ps_ret (pv 1))))), ?_⟩
    refine ⟨Nat.zero_le _, fun o no => ?_⟩
    have s0 : Same H (upd H o (.lst [])) := same_new no
    refine ⟨.ref a, rfl, a, rfl, ⟨_, s0.seq hS⟩, for_list (K := K) (a := a) (xs := ns.map V.int) (fun i σ' H' => ∃ (x2 x3 x4 : Option V) (ds : List Nat), σ' = [some (.ref a), some (.ref o), x2, x3, x4] ∧ Same H H' ∧ H' o = some (.lst (nums ds)) ∧ (∀ d ∈ ds, d < 1000000) ∧ ds.length ≤ 60 * i)
      ⟨none, none, none, [], rfl, s0, upd_same, (fun _ hd => by cases hd), Nat.le_refl _⟩ (fun i σ' H' _ ⟨_, _, _, _, _, e, _⟩ => e.seq hS) ?_ ?_⟩
    · rintro i v σ' H' hv ⟨x2, x3, x4, ds, rfl, s1, eo, hd, hl⟩
      obtain ⟨c, hc, rfl⟩ := map_get hv
      have hi : i < ns.length := (List.getElem?_eq_some_iff.mp hc).1
      refine ⟨_, rfl, _, _, rfl, rfl, ⟨by decide, by decide, by decide⟩, _, _, rfl, rfl, _, rfl, ite2d (fun _ => ?_) (fun _ => ?_)⟩
      · -- the digits of a great number
        refine ⟨_, rfl, 60, rfl, by decide, by decide, for_range (lo := 0) (n := 60) (fun j σ' H' => ∃ (x4 : Option V) (r : Int) (ds : List Nat), σ' = [some (.ref a), some (.ref o), some (.int c), some (.int r), x4] ∧ Same H H' ∧ H' o = some (.lst (nums ds)) ∧ (∀ d ∈ ds, d < 1000000) ∧ ds.length ≤ 60 * i + j)
          ⟨x4, c, ds, rfl, s1, eo, hd, hl⟩ ?_ ?_⟩
        · rintro j σ' H2 hj ⟨x4, r, ds, rfl, s2, eo, hd, hl⟩
          refine ⟨_, rfl, _, _, rfl, rfl, _, rfl, ite2d (fun _ => ?_) (fun _ => ?_)⟩
          · refine ⟨_, rfl, .inl ⟨rfl, _, SqL.of eo⟩, _, rfl, _, _, rfl, rfl, (by show (0 : Int) < 1000000; decide), o, _, _, rfl, rfl, eo, szl (by rw [nums_len]; omega), ?_⟩
            obtain ⟨d, hd1, hd2⟩ := mod_nat (z := r) (m := 1000000) (by decide)
            refine ⟨_, rfl, _, _, rfl, rfl, ⟨by decide, by decide⟩, _, r / 1000000, ds ++ [d], rfl, same_mut s2 no, ?_, fun z hz => ?_, ?_⟩
            · rw [upd_same]
              exact congrArg (fun z => some (HO.lst z)) (nums_snoc hd2)
            · rcases List.mem_append.mp hz with hz | hz
              · exact hd z hz
              · rw [List.mem_singleton.mp hz]
                exact hd1
            · rw [List.length_append, List.length_singleton]
              omega
          · exact ⟨_, r, ds, rfl, s2, eo, hd, by omega⟩
        · rintro σ' H2 ⟨x4, r, ds, rfl, s2, eo, hd, hl⟩
          exact ⟨_, _, _, ds, rfl, s2, eo, hd, by omega⟩
      · refine ⟨_, rfl, .inl ⟨rfl, _, SqL.of eo⟩, _, rfl, _, _, rfl, rfl, (by show (0 : Int) < 1000000; decide), o, _, _, rfl, rfl, eo, szl (by rw [nums_len]; omega), ?_⟩
        obtain ⟨d0, hd1, hd2⟩ := mod_nat (z := c) (m := 1000000) (by decide)
        refine ⟨5, rfl, by decide, by decide, for_range (lo := 0) (n := 5) (fun j σ' H' => ∃ (x4 : Option V) (ds : List Nat), σ' = [some (.ref a), some (.ref o), some (.int c), x3, x4] ∧ Same H H' ∧ H' o = some (.lst (nums ds)) ∧ (∀ d ∈ ds, d < 1000000) ∧ ds.length ≤ 60 * i + 1 + j)
          ⟨x4, ds ++ [d0], rfl, same_mut s1 no, ?_, fun z hz => ?_, ?_⟩ ?_ ?_⟩
        · rw [upd_same]
          exact congrArg (fun z => some (HO.lst z)) (nums_snoc hd2)
        · rcases List.mem_append.mp hz with hz | hz
          · exact hd z hz
          · rw [List.mem_singleton.mp hz]
            exact hd1
        · rw [List.length_append, List.length_singleton]
          omega
        · rintro j σ' H2 hj ⟨x4, ds, rfl, s2, eo, hd, hl⟩
          refine ⟨_, rfl, .inl ⟨rfl, _, SqL.of eo⟩, _, rfl, _, _, rfl, rfl, (by show (0 : Int) < 2147483647; decide), _, rfl, _, _, rfl, fun z z0 z1 => ⟨_, rfl, _, _, rfl, rfl, _, _, rfl, fun y y0 y1 => ⟨_, _, rfl, rfl, (by show (0 : Int) < 1000000; decide), o, _, _, rfl, rfl, eo, szl (by rw [nums_len]; omega), ?_⟩⟩⟩
          obtain ⟨d, hd1, hd2⟩ := mod_nat (z := y) (m := 1000000) (by decide)
          refine ⟨_, ds ++ [d], rfl, same_mut s2 no, ?_, fun z hz => ?_, ?_⟩
          · rw [upd_same]
            exact congrArg (fun z => some (HO.lst z)) (nums_snoc hd2)
          · rcases List.mem_append.mp hz with hz | hz
            · exact hd z hz
            · rw [List.mem_singleton.mp hz]
              exact hd1
          · rw [List.length_append, List.length_singleton]
            omega
        · rintro σ' H2 ⟨x4, ds, rfl, s2, eo, hd, hl⟩
          exact ⟨_, _, _, ds, rfl, s2, eo, hd, by omega⟩
    · rintro σ' H' ⟨x2, x3, x4, ds, rfl, s1, eo, hd, hl⟩
      exact ⟨_, rfl, q H' o ds s1 no eo hd⟩
theorem ok_l_draw (T : Txt w K mg D) : FnOk P w K mg base CX0 2 D.f_l_draw D.d_l_draw ["_law_draws"] spDraw := by
  have G_l_mixed : FnOk P w K mg base CX0 1 D.f_l_mixed D.d_l_mixed ["_law_number", "_law_k"] spMixed := ok_l_mixed T
  refine T.F_l_draw.ok c_l_draw (fun vs H Q E h => ?_) (fun cdv A outer s H vs Q E hr h => ?_)
  · obtain ⟨a, l, rfl, _⟩ := h
    rfl
  · obtain ⟨a, l, rfl, ⟨hne, n, ds, ea, el, hd⟩, q⟩ := h
    refine ⟨_, (pss_cons (ps_set (i := 1) c_l_draw.nd rfl (.inl rfl) (pe_ix ix_list (pv 0) pe_int (fun _ _ => rfl)))
      (pss_cons (ps_asg (pe_op op_add (pv 1) pe_int) (pg_sub (pv 0) pe_int set_list))
      (pss_cons (ps_if (pt_cmpR op_lt (pv 1) (pe_callB call_len_seq (by rfl) T.z_len (by decide +kernel) (pa_cons (pe_ix ix_list (pv 0) pe_int (fun _ _ => rfl)) pa_nil)) (nomark _)) (pss_one (ps_ret (pe_ix ix_list (pe_ix ix_list (pv 0) pe_int (fun _ _ => rfl)) (pv 1) (fun _ _ => rfl)))) pss_nil)
      (pss_cons (ps_set (i := 2) c_l_draw.nd rfl (.inl rfl) (pe_op op_add pe_int (pv 1)))
      (pss_cons (ps_if (pt_cmpR op_gt (pe_callB call_len_seq (by rfl) T.z_len (by decide +kernel) (pa_cons (pe_ix ix_list (pv 0) pe_int (fun _ _ => rfl)) pa_nil)) pe_int (nomark _)) (pss_one (ps_set (i := 2) c_l_draw.nd rfl (.inl rfl) (pe_op op_add (pv 2) (pe_op op_mul pe_int (pe_ix ix_list (pe_ix ix_list (pv 0) pe_int (fun _ _ => rfl)) pe_int (fun _ _ => rfl)))))) pss_nil)
      (pss_one (ps_ret (pe_op op_mod (pe_call G_l_mixed (hr.mono (by decide)) (by rfl) T.g_l_mixed T.F_l_mixed.kp T.b_l_mixed .nil pass0 (pa_cons (pe_call G_l_mixed (hr.mono (by decide)) (by rfl) T.g_l_mixed T.F_l_mixed.kp T.b_l_mixed .nil pass0 (pa_cons (pv 2) (pa_cons (pv 1) pa_nil))) (pa_cons pe_int pa_nil))) pe_int)))))))), ?_⟩
    refine ⟨_, rfl, a, _, _, _, rfl, rfl, SqL.of ea, by rfl, ?_⟩
    refine ⟨_, rfl, _, _, rfl, rfl, _, rfl, a, _, _, 1, rfl, rfl, ea, by rfl, ?_⟩
    have ea1 : (upd H a (.lst [.ref l, .int ((n : Int) + 1)])) a = some (.lst [.ref l, .int ((n : Int) + 1)]) := upd_same
    have el1 : (upd H a (.lst [.ref l, .int ((n : Int) + 1)])) l = some (.lst (nums ds)) := by
      rw [upd_ne hne]
      exact el
    have bt : But a H (upd H a (.lst [.ref l, .int ((n : Int) + 1)])) := fun b o hb e => by
      rw [upd_ne hb]
      exact e
    show tSeq _ _ _ _ (upd H a (.lst [.ref l, .int ((n : Int) + 1)]))
    generalize upd H a (.lst [.ref l, .int ((n : Int) + 1)]) = H1 at ea1 el1 bt
    have dr : DrawsAt H1 a l := ⟨hne, n + 1, ds, ea1, el1, hd⟩
    refine ⟨_, rfl, _, rfl, a, _, _, _, rfl, rfl, SqL.of ea1, by rfl, l, _, rfl, .inl (SqL.of el1), _, _, rfl, rfl, _, rfl, ite2d (fun hlt => ?_) (fun _ => ?_)⟩
    · rw [nums_len] at hlt
      have hlt' : n < ds.length := by omega
      refine ⟨_, rfl, a, _, _, _, rfl, rfl, SqL.of ea1, by rfl, _, rfl, l, _, _, _, rfl, rfl, SqL.of el1, atI_nat (nums_at hlt'), ?_⟩
      refine q _ H1 ?_ bt dr
      rw [List.getD_eq_getElem?_getD, List.getElem?_eq_getElem hlt']
      exact hd _ (List.getElem_mem hlt')
    · refine ⟨_, rfl, _, _, rfl, rfl, ?_⟩
      refine ⟨_, rfl, a, _, _, _, rfl, rfl, SqL.of ea1, by rfl, l, _, rfl, .inl (SqL.of el1), _, _, rfl, rfl, _, rfl, ite2d (fun hlt => ?_) (fun _ => ?_)⟩
      · rw [nums_len] at hlt
        refine ⟨_, rfl, _, rfl, a, _, _, _, rfl, rfl, SqL.of ea1, by rfl, l, _, _, _, rfl, rfl, SqL.of el1, atI_nat (j := 0) (nums_at (by omega)), _, _, rfl, rfl, .inl ⟨by decide, by decide⟩, _, _, rfl, rfl, ?_⟩
        refine ⟨_, rfl, _, rfl, _, _, rfl, fun z z0 z1 => ⟨_, _, rfl, fun y y0 y1 => ⟨_, _, rfl, rfl, (by show (0 : Int) < 1000000; decide), ?_⟩⟩⟩
        obtain ⟨d, hd1, hd2⟩ := mod_nat (z := y) (m := 1000000) (by decide)
        show Q (.int (y % ((1000000 : Nat) : Int))) H1
        rw [hd2]
        exact q d H1 hd1 bt dr
      · refine ⟨_, rfl, _, rfl, _, _, rfl, fun z z0 z1 => ⟨_, _, rfl, fun y y0 y1 => ⟨_, _, rfl, rfl, (by show (0 : Int) < 1000000; decide), ?_⟩⟩⟩
        obtain ⟨d, hd1, hd2⟩ := mod_nat (z := y) (m := 1000000) (by decide)
        show Q (.int (y % ((1000000 : Nat) : Int))) H1
        rw [hd2]
        exact q d H1 hd1 bt dr
theorem ok_l_equal_b (T : Txt w K mg D) : FnOk P w K mg base CX0 1 D.f_l_equal D.d_l_equal ["_law_actual", "_law_due"] spEqB := by
  refine T.F_l_equal.ok c_l_equal (fun vs H Q E h => ?_) (fun cdv A outer s H vs Q E hr h => ?_)
  · obtain ⟨b, rfl, _⟩ := h
    rfl
  · obtain ⟨b, rfl, q⟩ := h
    refine ⟨_, (pss_cons (ps_if (pt_val (pe_callB call_isi (by rfl) T.z_isinstance (by decide +kernel) (pa_cons (pv 1) (pa_cons (pe_bltn (v := .ty "list") (u := .type "list") (by rfl) T.z_list (by decide +kernel) rfl) pa_nil)))) pss_never pss_nil)
      (pss_cons (ps_if (pt_val (pe_callB call_isi (by rfl) T.z_isinstance (by decide +kernel) (pa_cons (pv 1) (pa_cons (pe_bltn (v := .ty "tuple") (u := .type "tuple") (by rfl) T.z_tuple (by decide +kernel) rfl) pa_nil)))) pss_never pss_nil)
      (pss_cons (ps_if (pt_val (pe_callB call_isi (by rfl) T.z_isinstance (by decide +kernel) (pa_cons (pv 1) (pa_cons (pe_bltn (v := .ty "bool") (u := .type "bool") (by rfl) T.z_bool (by decide +kernel) rfl) pa_nil)))) (pss_one (ps_ret (pe_and (pe_callB call_isi (by rfl) T.z_isinstance (by decide +kernel) (pa_cons (pv 0) (pa_cons (pe_bltn (v := .ty "bool") (u := .type "bool") (by rfl) T.z_bool (by decide +kernel) rfl) pa_nil))) (pe_one (pe_cmpR op_eq (pv 0) (pv 1) (nomark _)))))) pss_nil)
      pss_never))), ?_⟩
    refine ⟨_, rfl, _, _, _, _, false, rfl, .ty _, kB, kit_ty (by decide +kernel), false, rfl, iteF ⟨_, rfl, _, _, _, _, false, rfl, .ty _, kB, kit_ty (by decide +kernel), false, rfl, iteF ⟨_, rfl, _, _, _, _, true, rfl, .ty _, kB, kit_ty (by decide +kernel), true, rfl, iteT ?_⟩⟩⟩
    refine ⟨_, rfl, _, _, _, _, true, rfl, .ty _, kB, kit_ty (by decide +kernel), true, rfl, iteT ⟨_, rfl, _, rfl, rfl, ?_⟩⟩
    show Q (.bl (decide (V.bl b = V.bl b))) H
    rw [decide_eq_true rfl]
    exact q
theorem ok_l_all_equal (T : Txt w K mg D) : FnOk P w K mg base CX0 2 D.f_l_all_equal D.d_l_all_equal ["_law_actual", "_law_due"] (spEqL K) := by
  have G_l_equal : FnOk P w K mg base CX0 1 D.f_l_equal D.d_l_equal ["_law_actual", "_law_due"] spEqB := ok_l_equal_b T
  refine T.F_l_all_equal.ok c_l_all_equal (fun vs H Q E h => ?_) (fun cdv A outer s H vs Q E hr h => ?_)
  · obtain ⟨a, b, xs, rfl, _⟩ := h
    rfl
  · obtain ⟨a, b, xs, rfl, ea, eb, hl, q⟩ := h
    refine ⟨_, (pss_cons (ps_for PassesOwn.never rfl (pi_range1 (by rfl) T.z_range (pa_cons (pe_callB call_len_seq (by rfl) T.z_len (by decide +kernel) (pa_cons (pv 1) pa_nil)) pa_nil)) (pg_name (i := 2) c_l_all_equal.nd rfl (.inl rfl)) (pss_one (ps_if (pt_not (pt_val (pe_call G_l_equal (hr.mono (by decide)) (by rfl) T.g_l_equal T.F_l_equal.kp T.b_l_equal .nil pass0 (pa_cons (pe_ix ix_list (pv 0) (pv 2) (fun _ _ => rfl)) (pa_cons (pe_ix ix_list (pv 1) (pv 2) (fun _ _ => rfl)) pa_nil))))) (pss_one (ps_ret pe_bl)) pss_nil)))
      (pss_one (ps_ret pe_bl))), ?_⟩
    refine ⟨_, rfl, _, _, rfl, .inl (SqL.of eb), _, rfl, by omega, by rw [List.length_map]; omega, for_range (lo := 0) (n := _) (fun j σ' H' => ∃ (x : Option V), σ' = [some (.ref a), some (.ref b), x] ∧ H' = H)
      ⟨none, rfl, rfl⟩ ?_ ?_⟩
    · rintro j σ' H' hj ⟨x, rfl, rfl⟩
      have hj2 : j < xs.length := by
        rw [List.length_map] at hj
        omega
      have hg : xs[j]? = some xs[j] := List.getElem?_eq_getElem hj2
      have ej : (0 : Int) + (j : Int) = (j : Int) := Int.zero_add _
      refine ⟨_, rfl, _, rfl, a, _, _, _, rfl, rfl, SqL.of ea, at_of ej (map_at V.bl hg), _, rfl, _, rfl, b, _, _, _, rfl, rfl, SqL.of eb, at_of ej (map_at V.bl hg), xs[j], rfl, true, rfl, iteF ?_⟩
      exact ⟨_, rfl, rfl⟩
    · rintro σ' H' ⟨x, rfl, rfl⟩
      exact q
theorem ok_l_equal (T : Txt w K mg D) : FnOk P w K mg base CX0 3 D.f_l_equal D.d_l_equal ["_law_actual", "_law_due"] (spEqL K) := by
  have G_l_all_equal : FnOk P w K mg base CX0 2 D.f_l_all_equal D.d_l_all_equal ["_law_actual", "_law_due"] (spEqL K) := ok_l_all_equal T
  refine T.F_l_equal.ok c_l_equal (fun vs H Q E h => ?_) (fun cdv A outer s H vs Q E hr h => ?_)
  · obtain ⟨a, b, xs, rfl, _⟩ := h
    rfl
  · obtain ⟨a, b, xs, rfl, ea, eb, hl, q⟩ := h
    refine ⟨_, (pss_cons (ps_if (pt_val (pe_callB call_isi (by rfl) T.z_isinstance (by decide +kernel) (pa_cons (pv 1) (pa_cons (pe_bltn (v := .ty "list") (u := .type "list") (by rfl) T.z_list (by decide +kernel) rfl) pa_nil)))) (pss_cons (ps_if (PW.pt (pw_or (pt_not (pt_val (pe_callB call_isi (by rfl) T.z_isinstance (by decide +kernel) (pa_cons (pv 0) (pa_cons (pe_bltn (v := .ty "list") (u := .type "list") (by rfl) T.z_list (by decide +kernel) rfl) pa_nil))))) (pw_or1 (pt_cmpR op_ne (pe_callB call_len_seq (by rfl) T.z_len (by decide +kernel) (pa_cons (pv 0) pa_nil)) (pe_callB call_len_seq (by rfl) T.z_len (by decide +kernel) (pa_cons (pv 1) pa_nil)) (nomark _))))) (pss_one (ps_ret pe_bl)) pss_nil)
      (pss_one (ps_ret (pe_call G_l_all_equal (hr.mono (by decide)) (by rfl) T.g_l_all_equal T.F_l_all_equal.kp T.b_l_all_equal .nil pass0 (pa_cons (pv 0) (pa_cons (pv 1) pa_nil)))))) pss_nil)
      pss_never), ?_⟩
    refine ⟨_, rfl, _, _, _, _, true, rfl, .ty _, kL eb, kit_ty (by decide +kernel), true, rfl, iteT ⟨_, rfl, _, _, _, _, true, rfl, .ty _, kL ea, kit_ty (by decide +kernel), true, rfl, iteF ⟨_, rfl, _, _, rfl, .inl (SqL.of ea), _, rfl, _, _, rfl, .inl (SqL.of eb), rfl, _, rfl, iteNS rfl ?_⟩⟩⟩
    exact ⟨_, rfl, _, rfl, a, b, xs, rfl, ea, eb, hl, q⟩
end
end BF
namespace BF
open PySem PySem.Spec PyProof.Rows L2 BR
theorem but_mut {D p : Addr} {o : HO} {H H' : Hp} (e : But D H H') (h : H p = none) : But D H (upd H' p o) := fun b u hb q => by
  rw [upd_ne (ne_of_none q h)]
  exact e b u hb q
theorem but_new {D p : Addr} {o : HO} {H : Hp} (h : H p = none) : But D H (upd H p o) := but_same (same_new h)
def spSource : Sp := fun vs H Q _ => ∃ (a l : Addr) (many inputs : Nat), vs = [.ref a, .int (many : Int), .int (inputs : Int)] ∧ DrawsAt H a l ∧ 1 ≤ many ∧ many ≤ 10 ∧ 1 ≤ inputs ∧ inputs ≤ 4 ∧
  ∀ H' r s, But a H H' → DrawsAt H' a l → SrcAt H' r s → Wf s → s.length = many → (∀ c ∈ up costF s, c ≤ 300) → Q (.ref r) H'
/-- draw(draws) % m -/
theorem draw_mod {σ : L2.St} {H : Hp} {Q : VK} {tm : TE} {a l : Addr} {m v : Nat} (h0 : σ[v]? = some (some (.ref a))) (dr : DrawsAt H a l) (hm : ∀ H' (Q' : VK), Q' (.int (m : Int)) H' → tm σ H' Q') (hp : 0 < m)
    (q : ∀ (i : Nat) H', i < m → But a H H' → DrawsAt H' a l → Q (.int (i : Int)) H') : tOp (rI (fun _ j => 0 < j) fun i j => .int (i % j)) (tCall spDraw [] E0 (tCons (tVar v) tNil)) tm σ H Q := by
  refine ⟨_, h0, a, l, rfl, dr, fun d H1 hd bt dr1 => hm H1 _ ⟨_, _, rfl, rfl, (by show (0 : Int) < (m : Int); omega), ?_⟩⟩
  obtain ⟨i, hi, e⟩ := mod_nat (z := (d : Int)) hp
  show Q (.int ((d : Int) % (m : Int))) H1
  rw [e]
  exact q i H1 hi bt dr1
theorem max_read {σ : L2.St} {n : Nat} (h5 : σ[5]? = some (some (.int (0 + (n : Int))))) (H' : Hp) (Q' : VK) (q : Q' (.int ((max 1 n : Nat) : Int)) H') :
    tCB (fun xs H Q => ∃ i j, xs = [.int i, .int j] ∧ Q (.int (if j > i then j else i)) H) (tCons (tC (.int 1)) (tCons (tVar 5) tNil)) σ H' Q' := by
  refine ⟨_, h5, _, _, rfl, ?_⟩
  have e : (if (0 + (n : Int)) > 1 then (0 + (n : Int)) else 1) = ((max 1 n : Nat) : Int) := by split <;> omega
  rw [e]
  exact q
theorem and_lt {σ : L2.St} {H : Hp} {Q : Bool → Hp → Prop} {k pk n : Int} (h5 : σ[5]? = some (some (.int k))) (h6 : σ[6]? = some (some (.int pk))) (yes : 0 < k → pk < n → Q true H) (no : Q false H) :
    tAnd (tTest (tOp (rI0 fun i j => .bl (decide (j < i))) (tVar 5) (tC (.int 0)))) (tTest (tOp (rI0 fun i j => .bl (decide (i < j))) (tVar 6) (tC (.int n)))) σ H Q := by
  refine ⟨_, h5, _, _, rfl, rfl, _, rfl, ite2d (fun h1 => ⟨_, h6, _, _, rfl, rfl, _, rfl, ?_⟩) (fun _ => no)⟩
  by_cases h2 : pk < n
  · rw [decide_eq_true h2]
    exact yes h1 h2
  · rw [decide_eq_false h2]
    exact no
theorem and_eq {σ : L2.St} {H : Hp} {Q : Bool → Hp → Prop} {k pk n : Int} (h5 : σ[5]? = some (some (.int k))) (h6 : σ[6]? = some (some (.int pk))) (yes : 0 < k → Q true H) (no : Q false H) :
    tAnd (tTest (tOp (rI0 fun i j => .bl (decide (j < i))) (tVar 5) (tC (.int 0)))) (tTest (tOp rEq (tVar 6) (tC (.int n)))) σ H Q := by
  refine ⟨_, h5, _, _, rfl, rfl, _, rfl, ite2d (fun h1 => ⟨_, h6, rfl, _, rfl, ?_⟩) (fun _ => no)⟩
  by_cases h2 : V.int pk = V.int n
  · rw [decide_eq_true h2]
    exact yes h1
  · rw [decide_eq_false h2]
    exact no
section
variable {P : Program} {w : World} {K : PySem.W.Frag} {mg : Str → Option Value} {base : Heap} {D : Ds}
theorem ok_l_source (T : Txt w K mg D) : FnOk P w K mg base CX0 3 D.f_l_source D.d_l_source ["_law_draws", "_law_many", "_law_inputs"] spSource := by
  have G_l_draw : FnOk P w K mg base CX0 2 D.f_l_draw D.d_l_draw ["_law_draws"] spDraw := ok_l_draw T
  refine T.F_l_source.ok c_l_source (fun vs H Q E h => ?_) (fun cdv A outer s H vs Q E hr h => ?_)
  · obtain ⟨a, l, many, inputs, rfl, _⟩ := h
    rfl
  · obtain ⟨a, l, many, inputs, rfl, dr, hm1, hm2, hi1, hi2, q⟩ := h
    refine ⟨_, (pss_cons (ps_set (i := 3) c_l_source.nd rfl (.inl rfl) (pe_lst pa_nil))
      (pss_cons (ps_set (i := 4) c_l_source.nd rfl (.inl rfl) (pe_lst pa_nil))
      (pss_cons (ps_for PassesOwn.never rfl (pi_range1 (by rfl) T.z_range (pa_cons (pv 1) pa_nil)) (pg_name (i := 5) c_l_source.nd rfl (.inl rfl)) (pss_cons (ps_set (i := 6) c_l_source.nd rfl (.inl rfl) (pe_op op_mod (pe_call G_l_draw (hr.mono (by decide)) (by rfl) T.g_l_draw T.F_l_draw.kp T.b_l_draw .nil pass0 (pa_cons (pv 0) pa_nil)) pe_int))
      (pss_cons (ps_set (i := 7) c_l_source.nd rfl (.inl rfl) (pe_op op_mod (pe_call G_l_draw (hr.mono (by decide)) (by rfl) T.g_l_draw T.F_l_draw.kp T.b_l_draw .nil pass0 (pa_cons (pv 0) pa_nil)) (pe_callB (call_max2 rfl) (by rfl) T.z_max (by decide +kernel) (pa_cons pe_int (pa_cons (pv 5) pa_nil)))))
      (pss_cons (ps_set (i := 8) c_l_source.nd rfl (.inl rfl) (pe_op op_mod (pe_call G_l_draw (hr.mono (by decide)) (by rfl) T.g_l_draw T.F_l_draw.kp T.b_l_draw .nil pass0 (pa_cons (pv 0) pa_nil)) (pe_callB (call_max2 rfl) (by rfl) T.z_max (by decide +kernel) (pa_cons pe_int (pa_cons (pv 5) pa_nil)))))
      (pss_cons (ps_set (i := 9) c_l_source.nd rfl (.inl rfl) (pe_op op_mod (pe_call G_l_draw (hr.mono (by decide)) (by rfl) T.g_l_draw T.F_l_draw.kp T.b_l_draw .nil pass0 (pa_cons (pv 0) pa_nil)) (pe_callB (call_max2 rfl) (by rfl) T.z_max (by decide +kernel) (pa_cons pe_int (pa_cons (pv 5) pa_nil)))))
      (pss_cons (ps_set (i := 10) c_l_source.nd rfl (.inl rfl) (pe_tup (pa_cons pe_str (pa_cons (pe_op op_mod (pe_call G_l_draw (hr.mono (by decide)) (by rfl) T.g_l_draw T.F_l_draw.kp T.b_l_draw .nil pass0 (pa_cons (pv 0) pa_nil)) (pv 2)) pa_nil))))
      (pss_cons (ps_set (i := 11) c_l_source.nd rfl (.inl rfl) pe_int)
      (Evl.pss_cut (ps_if (PW.pt (pw_and (pt_cmpR op_gt (pv 5) pe_int (nomark _)) (pw_and1 (pt_cmpR op_lt (pv 6) pe_int (nomark _))))) (pss_cons (ps_set (i := 10) c_l_source.nd rfl (.inl rfl) (pe_tup (pa_cons pe_str (pa_cons (pv 7) (pa_cons (pv 8) pa_nil)))))
      (pss_one (ps_set (i := 11) c_l_source.nd rfl (.inl rfl) (pe_op op_add (pe_ix ix_list (pv 4) (pv 7) (fun _ _ => rfl)) (pe_ix ix_list (pv 4) (pv 8) (fun _ _ => rfl)))))) (pss_one (ps_if (PW.pt (pw_and (pt_cmpR op_gt (pv 5) pe_int (nomark _)) (pw_and1 (pt_cmpR op_lt (pv 6) pe_int (nomark _))))) (pss_cons (ps_set (i := 10) c_l_source.nd rfl (.inl rfl) (pe_tup (pa_cons pe_str (pa_cons (pv 7) (pa_cons (pv 8) pa_nil)))))
      (pss_one (ps_set (i := 11) c_l_source.nd rfl (.inl rfl) (pe_op op_mul pe_int (pe_op op_add (pe_ix ix_list (pv 4) (pv 7) (fun _ _ => rfl)) (pe_ix ix_list (pv 4) (pv 8) (fun _ _ => rfl))))))) (pss_one (ps_if (PW.pt (pw_and (pt_cmpR op_gt (pv 5) pe_int (nomark _)) (pw_and1 (pt_cmpR op_eq (pv 6) pe_int (nomark _))))) (pss_cons (ps_set (i := 10) c_l_source.nd rfl (.inl rfl) (pe_tup (pa_cons pe_str (pa_cons (pv 7) (pa_cons (pv 8) (pa_cons (pv 9) pa_nil))))))
      (pss_one (ps_set (i := 11) c_l_source.nd rfl (.inl rfl) (pe_op op_add (pe_ix ix_list (pv 4) (pv 9) (fun _ _ => rfl)) (pe_op op_mul pe_int (pe_op op_add (pe_op op_add (pe_ix ix_list (pv 4) (pv 7) (fun _ _ => rfl)) (pe_ix ix_list (pv 4) (pv 8) (fun _ _ => rfl))) (pe_ix ix_list (pv 4) (pv 9) (fun _ _ => rfl)))))))) (pss_one (ps_if (PW.pt (pw_and (pt_cmpR op_gt (pv 5) pe_int (nomark _)) (pw_and1 (pt_cmpR op_eq (pv 6) pe_int (nomark _))))) (pss_cons (ps_set (i := 10) c_l_source.nd rfl (.inl rfl) (pe_tup (pa_cons pe_str (pa_cons (pe_call G_l_draw (hr.mono (by decide)) (by rfl) T.g_l_draw T.F_l_draw.kp T.b_l_draw .nil pass0 (pa_cons (pv 0) pa_nil)) (pa_cons (pv 7) pa_nil)))))
      (pss_one (ps_set (i := 11) c_l_source.nd rfl (.inl rfl) (pe_ix ix_list (pv 4) (pv 7) (fun _ _ => rfl))))) (pss_one (ps_if (pt_cmpR op_eq (pv 6) pe_int (nomark _)) (pss_one (ps_set (i := 10) c_l_source.nd rfl (.inl rfl) (pe_tup (pa_cons pe_str (pa_cons (pe_call G_l_draw (hr.mono (by decide)) (by rfl) T.g_l_draw T.F_l_draw.kp T.b_l_draw .nil pass0 (pa_cons (pv 0) pa_nil)) pa_nil))))) pss_nil)))))))))
      (Evl.pss_cut (ps_if (pt_cmpR op_gt (pv 11) pe_int (nomark _)) (pss_cons (ps_set (i := 10) c_l_source.nd rfl (.inl rfl) (pe_tup (pa_cons pe_str (pa_cons (pe_call G_l_draw (hr.mono (by decide)) (by rfl) T.g_l_draw T.F_l_draw.kp T.b_l_draw .nil pass0 (pa_cons (pv 0) pa_nil)) pa_nil))))
      (pss_one (ps_set (i := 11) c_l_source.nd rfl (.inl rfl) pe_int))) pss_nil)
      (pss_cons (ps_expr (pe_bm PySem.F.plainAttrs_list PySem.F.slot_list_append PySem.F.type_list_append mt_append (pv 3) (pa_cons (pv 10) pa_nil)))
      (pss_one (ps_expr (pe_bm PySem.F.plainAttrs_list PySem.F.slot_list_append PySem.F.type_list_append mt_append (pv 4) (pa_cons (pv 11) pa_nil))))))))))))))
      (pss_one (ps_ret (pe_callTy call_tuple_of (by rfl) T.z_tuple (by decide +kernel) (pa_cons (pv 3) pa_nil))))))), ?_⟩
    refine ⟨Nat.zero_le _, fun no nno => ⟨Nat.zero_le _, fun co nco => ?_⟩⟩
    have s1 : Same H (upd H no (.lst [])) := same_new nno
    have s2 := same_new (o := .lst []) nco
    have nno' : H no = none := nno
    have nco' : H co = none := same_free s1 nco
    obtain ⟨xsD, eD⟩ := dr.lst
    have n_no_a : no ≠ a := (ne_of_none eD nno).symm
    have n_co_a : co ≠ a := (ne_of_none eD nco').symm
    have n_no_co : no ≠ co := ne_of_none upd_same nco
    obtain ⟨hla, n0, ds0, _, el0, _⟩ := id dr
    have n_no_l : no ≠ l := (ne_of_none el0 nno).symm
    have n_co_l : co ≠ l := (ne_of_none el0 nco').symm
    refine ⟨_, rfl, (many : Int), rfl, by omega, by omega, for_range (lo := 0) (n := _) (fun i σ' H' => ∃ (x5 x6 x7 x8 x9 x10 x11 : Option V) (s : List Nd) (vs : List V), σ' = [some (.ref a), some (.int (many : Int)), some (.int (inputs : Int)), some (.ref no), some (.ref co), x5, x6, x7, x8, x9, x10, x11] ∧
        But a H H' ∧ DrawsAt H' a l ∧ H' no = some (.lst vs) ∧ Refs (NdAt H') vs s ∧ H' co = some (.lst (nums (up costF s))) ∧ s.length = i ∧ Wf s ∧ ∀ c ∈ up costF s, c ≤ 300)
      ⟨none, none, none, none, none, none, none, [], [], rfl, but_same (s1.trans s2), dr.same (s1.trans s2), s2 _ _ upd_same, .nil, upd_same, rfl, Wf.nil, fun c hc => by cases hc⟩ ?_ ?_⟩
    · rintro i σ' H' hi ⟨x5, x6, x7, x8, x9, x10, x11, s, vs, rfl, bt, dr, eno, R, eco, hlen, wf, hcs⟩
      refine draw_mod (a := a) (l := l) (m := 8) rfl dr (fun H' Q' z => z) (by decide) fun pk H1 hpk b1 dr1 => ?_
      refine draw_mod (a := a) (l := l) (m := max 1 i) rfl dr1 (max_read rfl) (by omega) fun iv H2 hiv b2 dr2 => ?_
      refine draw_mod (a := a) (l := l) (m := max 1 i) rfl dr2 (max_read rfl) (by omega) fun jv H3 hjv b3 dr3 => ?_
      refine draw_mod (a := a) (l := l) (m := max 1 i) rfl dr3 (max_read rfl) (by omega) fun lv H4 hlv b4 dr4 => ?_
      refine draw_mod (a := a) (l := l) (m := inputs) rfl dr4 (fun H' Q' z => ⟨_, rfl, z⟩) (by omega) fun ik H5 hik b5 dr5 => ⟨(by show 2 ≤ sizeLine; decide), fun p np => ?_⟩
      have b15 : But a H' H5 := b1.trans (b2.trans (b3.trans (b4.trans b5)))
      have n_p_a : p ≠ a := by
        obtain ⟨z, ez⟩ := dr5.lst
        exact (ne_of_none ez np).symm
      have n_p_l : p ≠ l := by
        obtain ⟨_, _, _, _, z, _⟩ := id dr5
        exact (ne_of_none z np).symm
      have bA : But a H' (upd H5 p (.tup [.str "input", .int (ik : Int)])) := b15.trans (but_new np)
      have drA : DrawsAt (upd H5 p (.tup [.str "input", .int (ik : Int)])) a l := dr5.upd n_p_a n_p_l
      have eA : NdAt (upd H5 p (.tup [.str "input", .int (ik : Int)])) p (.inp ik) := upd_same
      have hcl : (up costF s).length = i := by rw [up_length, hlen]
      have ecoH := fun (H6 : Hp) (b6 : But a H' H6) => b6 _ _ n_co_a eco
      generalize hcseq : up costF s = cs at eco ecoH hcs hcl
      generalize upd H5 p (.tup [.str "input", .int (ik : Int)]) = H6 at bA drA eA
      have ecoA := ecoH H6 bA
      refine ⟨fun σ' H'' => ∃ (pn : Addr) (nd : Nd) (z : Int), σ' = [some (.ref a), some (.int (many : Int)), some (.int (inputs : Int)), some (.ref no), some (.ref co), some (.int (0 + (i : Int))), some (.int (pk : Int)), some (.int (iv : Int)), some (.int (jv : Int)), some (.int (lv : Int)), some (.ref pn), some (.int z)] ∧ z = ((costF cs nd : Nat) : Int) ∧
        But a H' H'' ∧ DrawsAt H'' a l ∧ NdAt H'' pn nd ∧ nd.ok i, ?_, ?_⟩
      · -- which node
        refine and_lt rfl rfl (fun hk _ => ?_) ?_
        · refine iteT ⟨_, rfl, _, rfl, (by show 3 ≤ sizeLine; decide), fun y ny => ?_⟩
          have n_y_a : y ≠ a := by
            obtain ⟨z, ez⟩ := drA.lst
            exact (ne_of_none ez ny).symm
          have n_y_l : y ≠ l := by
            obtain ⟨_, _, _, _, z, _⟩ := id drA
            exact (ne_of_none z ny).symm
          have bB := bA.trans (but_new (o := .tup [.str "sum", .int (iv : Int), .int (jv : Int)]) ny)
          refine ⟨_, rfl, _, rfl, co, _, _, _, rfl, rfl, SqL.of (ecoH _ bB), atI_nat (nums_at (by omega)), _, rfl, _, rfl, co, _, _, _, rfl, rfl, SqL.of (ecoH _ bB), atI_nat (nums_at (by omega)), _, _, rfl, rfl, ?_⟩
          exact ⟨y, .sm iv jv, _, rfl, rfl, bB, drA.upd n_y_a n_y_l, upd_same, by omega, by omega⟩
        refine iteF (and_lt rfl rfl (fun hk _ => ?_) ?_)
        · refine iteT ⟨_, rfl, _, rfl, (by show 3 ≤ sizeLine; decide), fun y ny => ?_⟩
          have n_y_a : y ≠ a := by
            obtain ⟨z, ez⟩ := drA.lst
            exact (ne_of_none ez ny).symm
          have n_y_l : y ≠ l := by
            obtain ⟨_, _, _, _, z, _⟩ := id drA
            exact (ne_of_none z ny).symm
          have bB := bA.trans (but_new (o := .tup [.str "product", .int (iv : Int), .int (jv : Int)]) ny)
          refine ⟨_, rfl, _, rfl, co, _, _, _, rfl, rfl, SqL.of (ecoH _ bB), atI_nat (nums_at (by omega)), _, rfl, _, rfl, co, _, _, _, rfl, rfl, SqL.of (ecoH _ bB), atI_nat (nums_at (by omega)), _, _, rfl, rfl, _, _, rfl, rfl, .inl ⟨by decide, by decide⟩, ?_⟩
          exact ⟨y, .pr iv jv, _, rfl, by show (2 : Int) * (_ + _) = ((2 * (_ + _) : Nat) : Int); omega, bB, drA.upd n_y_a n_y_l, upd_same, by omega, by omega⟩
        refine iteF (and_eq rfl rfl (fun hk => ?_) ?_)
        · refine iteT ⟨_, rfl, _, rfl, _, rfl, (by show 4 ≤ sizeLine; decide), fun y ny => ?_⟩
          have n_y_a : y ≠ a := by
            obtain ⟨z, ez⟩ := drA.lst
            exact (ne_of_none ez ny).symm
          have n_y_l : y ≠ l := by
            obtain ⟨_, _, _, _, z, _⟩ := id drA
            exact (ne_of_none z ny).symm
          have bB := bA.trans (but_new (o := .tup [.str "choose", .int (iv : Int), .int (jv : Int), .int (lv : Int)]) ny)
          refine ⟨_, rfl, _, rfl, co, _, _, _, rfl, rfl, SqL.of (ecoH _ bB), atI_nat (nums_at (by omega)), _, rfl, _, rfl, co, _, _, _, rfl, rfl, SqL.of (ecoH _ bB), atI_nat (nums_at (by omega)), _, rfl, _, rfl, co, _, _, _, rfl, rfl, SqL.of (ecoH _ bB), atI_nat (nums_at (by omega)), _, _, rfl, rfl, _, rfl, _, rfl, co, _, _, _, rfl, rfl, SqL.of (ecoH _ bB), atI_nat (nums_at (by omega)), _, _, rfl, rfl, _, _, rfl, rfl, .inl ⟨by decide, by decide⟩, _, _, rfl, rfl, ?_⟩
          exact ⟨y, .ch iv jv lv, _, rfl, by show _ + (2 : Int) * (_ + _ + _) = ((_ + 2 * (_ + _ + _) : Nat) : Int); omega, bB, drA.upd n_y_a n_y_l, upd_same, by omega, by omega, by omega⟩
        refine iteF (and_eq rfl rfl (fun hk => ?_) ?_)
        · refine iteT ⟨_, rfl, a, l, rfl, drA, fun d H7 hd b7 dr7 => ⟨_, rfl, (by show 3 ≤ sizeLine; decide), fun y ny => ?_⟩⟩
          have n_y_a : y ≠ a := by
            obtain ⟨z, ez⟩ := dr7.lst
            exact (ne_of_none ez ny).symm
          have n_y_l : y ≠ l := by
            obtain ⟨_, _, _, _, z, _⟩ := id dr7
            exact (ne_of_none z ny).symm
          have bB := (bA.trans b7).trans (but_new (o := .tup [.str "scaled", .int (d : Int), .int (iv : Int)]) ny)
          refine ⟨_, rfl, _, rfl, co, _, _, _, rfl, rfl, SqL.of (ecoH _ bB), atI_nat (nums_at (by omega)), ?_⟩
          exact ⟨y, .sc d iv, _, rfl, rfl, bB, dr7.upd n_y_a n_y_l, upd_same, by omega, by omega⟩
        refine iteF ⟨_, rfl, rfl, _, rfl, ite2d (fun _ => ?_) (fun _ => ?_)⟩
        · refine ⟨_, rfl, a, l, rfl, drA, fun d H7 hd b7 dr7 => ⟨(by show 2 ≤ sizeLine; decide), fun y ny => ?_⟩⟩
          have n_y_a : y ≠ a := by
            obtain ⟨z, ez⟩ := dr7.lst
            exact (ne_of_none ez ny).symm
          have n_y_l : y ≠ l := by
            obtain ⟨_, _, _, _, z, _⟩ := id dr7
            exact (ne_of_none z ny).symm
          have bB := (bA.trans b7).trans (but_new (o := .tup [.str "const", .int (d : Int)]) ny)
          exact ⟨y, .cst d, 1, rfl, rfl, bB, dr7.upd n_y_a n_y_l, upd_same, by show d < 1000000000; omega⟩
        · exact ⟨p, .inp ik, 1, rfl, rfl, bA, drA, eA, by show ik < 60; omega⟩
      rintro σ' H7 ⟨pn, nd, z, rfl, hz, b7, dr7, e7, ok7⟩
      -- if cost > 300
      refine ⟨fun σ' H'' => ∃ (pn : Addr) (nd : Nd) (z : Int), σ' = [some (.ref a), some (.int (many : Int)), some (.int (inputs : Int)), some (.ref no), some (.ref co), some (.int (0 + (i : Int))), some (.int (pk : Int)), some (.int (iv : Int)), some (.int (jv : Int)), some (.int (lv : Int)), some (.ref pn), some (.int z)] ∧ z = ((costF cs nd : Nat) : Int) ∧
        But a H' H'' ∧ DrawsAt H'' a l ∧ NdAt H'' pn nd ∧ nd.ok i ∧ z ≤ 300, ?_, ?_⟩
      · refine ⟨_, rfl, _, _, rfl, rfl, _, rfl, ite2d (fun _ => ?_) (fun hle => ?_)⟩
        · refine ⟨_, rfl, a, l, rfl, dr7, fun d H8 hd b8 dr8 => ⟨(by show 2 ≤ sizeLine; decide), fun y ny => ?_⟩⟩
          have n_y_a : y ≠ a := by
            obtain ⟨z, ez⟩ := dr8.lst
            exact (ne_of_none ez ny).symm
          have n_y_l : y ≠ l := by
            obtain ⟨_, _, _, _, z, _⟩ := id dr8
            exact (ne_of_none z ny).symm
          have bB := (b7.trans b8).trans (but_new (o := .tup [.str "const", .int (d : Int)]) ny)
          exact ⟨y, .cst d, 1, rfl, rfl, bB, dr8.upd n_y_a n_y_l, upd_same, by show d < 1000000000; omega, by decide⟩
        · exact ⟨pn, nd, z, rfl, hz, b7, dr7, e7, ok7, by omega⟩
      rintro σ' H8 ⟨pn, nd, z, rfl, hz, b8, dr8, e8, ok8, hz3⟩
      -- nodes.append(node); costs.append(cost)
      have eno8 : H8 no = some (.lst vs) := b8 _ _ n_no_a eno
      have eco8 := ecoH H8 b8
      have hvl := R.len
      have hhi : i < 11 := by omega
      refine ⟨_, rfl, .inl ⟨rfl, _, SqL.of eno8⟩, _, rfl, no, _, _, rfl, rfl, eno8, szl (by omega), ?_⟩
      have eco9 : (upd H8 no (.lst (vs ++ [.ref pn]))) co = some (.lst (nums cs)) := by
        rw [upd_ne n_no_co.symm]
        exact eco8
      refine ⟨_, rfl, .inl ⟨rfl, _, SqL.of eco9⟩, _, rfl, co, _, _, rfl, rfl, eco9, szl (by rw [nums_len]; omega), ?_⟩
      have t9 : TK H8 (upd H8 no (.lst (vs ++ [.ref pn]))) := tk_lst eno8
      have t10 := tk_lst (o := .lst (nums cs ++ [.int z])) eco9
      have tA : TK H' H8 := by
        obtain ⟨xs', ed'⟩ := dr.lst
        exact but_tk b8 ed'
      refine ⟨_, _, _, _, _, _, _, s ++ [nd], vs ++ [.ref pn], rfl, but_mut (but_mut (bt.trans b8) nno') nco', ?_, ?_, ?_, ?_, ?_, ?_, ?_⟩
      · exact (dr8.upd n_no_a n_no_l).upd n_co_a n_co_l
      · rw [upd_ne n_no_co, upd_same]
      · exact (R.mono fun _ _ y => y.mono ((tA.trans t9).trans t10)).snoc (e8.mono (t9.trans t10))
      · rw [upd_same, up_snoc, hcseq]
        exact congrArg (fun z => some (HO.lst z)) (nums_snoc hz)
      · rw [List.length_append, List.length_singleton, hlen]
      · exact wf.snoc (by rw [hlen]; exact ok8)
      · intro c hc
        rw [up_snoc, hcseq] at hc
        rcases List.mem_append.mp hc with hc | hc
        · exact hcs c hc
        · rw [List.mem_singleton.mp hc]
          omega
    · rintro σ' H' ⟨x5, x6, x7, x8, x9, x10, x11, s, vs, rfl, bt, dr', eno, R, eco, hlen, wf, hcs⟩
      refine ⟨_, rfl, no, _, rfl, .inl ⟨SqL.of eno, fun r nr => ?_⟩⟩
      have n_r_a : r ≠ a := by
        obtain ⟨z, ez⟩ := dr'.lst
        exact (ne_of_none ez nr).symm
      have n_r_l : r ≠ l := by
        obtain ⟨_, _, _, _, z, _⟩ := id dr'
        exact (ne_of_none z nr).symm
      refine q _ r s (bt.trans (but_new nr)) (dr'.upd n_r_a n_r_l) ⟨vs, upd_same, R.mono fun _ _ y => y.mono (tk_new nr)⟩ wf (by rw [hlen]; omega) hcs
end
end BF
namespace BF
open PySem PySem.Spec PyProof.Rows L2 BR
def bits (l : List Bool) : List V := l.map fun b => V.int (b2 b)
theorem bits_len (l : List Bool) : (bits l).length = l.length := List.length_map _
theorem bits_at {l : List Bool} {i : Nat} (h : i < l.length) : (bits l)[i]? = some (.int (b2 (l.getD i false))) := by
  unfold bits
  rw [List.getElem?_map, List.getD_eq_getElem?_getD, List.getElem?_eq_getElem h]
  rfl
theorem bits_snoc {l : List Bool} {z : Int} {b : Bool} (h : z = b2 b) : bits l ++ [V.int z] = bits (l ++ [b]) := by
  unfold bits
  rw [List.map_append, h]
  rfl
def spMeaning : Sp := fun vs H Q _ => ∃ (a gv : Addr) (s : List Nd) (m : Nat) (g : Nat → Bool), vs = [.ref a, .int 2, .ref gv] ∧ SrcAt H a s ∧ Wf s ∧ 1 ≤ s.length ∧ s.length ≤ 200 ∧ H gv = some (.lst (bits ((List.range m).map g))) ∧ needs s ≤ m ∧
  ∀ H', Same H H' → Q (.int (b2 (val g s (s.length - 1)))) H'
def spLNeeds : Sp := fun vs H Q _ => ∃ (a : Addr) (s : List Nd), vs = [.ref a] ∧ SrcAt H a s ∧ s.length ≤ 200 ∧ ∀ H', Same H H' → Q (.int (needs s : Int)) H'
def spLSpread : Sp := fun vs H Q _ => ∃ (a l gl : Addr) (many : Nat) (gs : List Gt), vs = [.ref a, .ref gl, .int (many : Int)] ∧ DrawsAt H a l ∧ GtsAt H gl gs ∧ gl ≠ a ∧ (∀ G ∈ gs, GtOk 120 G ∧ G.2.length ≤ 2) ∧ gs.length ≤ 20000 ∧ many ≤ 1000 ∧
  ∀ H' r, But a H H' → H r = none → DrawsAt H' a l → GtsAt H' r gs → Q (.ref r) H'
theorem b2_xor (x y : Bool) : (b2 x + b2 y) % 2 = b2 (xor x y) := by cases x <;> cases y <;> decide
theorem b2_and (x y : Bool) : b2 x * b2 y % 2 = b2 (x && y) := by cases x <;> cases y <;> decide
theorem b2_sc (c : Nat) (y : Bool) : (c : Int) * b2 y % 2 = b2 (odd c && y) := by
  rw [Int.mul_comm, b2_mul, Bool.and_comm]
theorem b2_odd (c : Nat) : (c : Int) % 2 = b2 (odd c) := by
  have h := b2_mul true c
  rw [show b2 true * (c : Int) = (c : Int) from Int.one_mul _, Bool.true_and] at h
  exact h
theorem b2_ch (x y z : Bool) : (b2 z + b2 x * b2 y - b2 x * b2 z) % 2 = b2 (xor z (xor (x && y) (x && z))) := by cases x <;> cases y <;> cases z <;> decide
section
variable {P : Program} {w : World} {K : PySem.W.Frag} {mg : Str → Option Value} {base : Heap} {D : Ds}
theorem ok_l_meaning (T : Txt w K mg D) : FnOk P w K mg base CX0 1 D.f_l_meaning D.d_l_meaning ["_law_source_here", "_law_modulus", "_law_given"] spMeaning := by
  refine T.F_l_meaning.ok c_l_meaning (fun vs H Q E h => ?_) (fun cdv A outer s H vs Q E hr h => ?_)
  · obtain ⟨a, gv, s, m, g, rfl, _⟩ := h
    rfl
  · obtain ⟨a, gv, s, m, g, rfl, ⟨vs, e0, R⟩, wf, h1, h2, eg, hm, q⟩ := h
    have hvl := R.len
    refine ⟨_, (pss_cons (ps_set (i := 3) c_l_meaning.nd rfl (.inl rfl) (pe_lst pa_nil))
      (pss_cons (ps_for PassesOwn.never rfl (pi_tup (pv 0)) (pg_name (i := 4) c_l_meaning.nd rfl (.inl rfl)) (pss_one (ps_if (pt_cmpR op_eq (pe_ix ix_tup (pv 4) pe_int (fun _ _ => rfl)) pe_str (nomark _)) (pss_one (ps_expr (pe_bm PySem.F.plainAttrs_list PySem.F.slot_list_append PySem.F.type_list_append mt_append (pv 3) (pa_cons (pe_op op_mod (pe_ix ix_tup (pv 4) pe_int (fun _ _ => rfl)) (pv 1)) pa_nil)))) (pss_one (ps_if (pt_cmpR op_eq (pe_ix ix_tup (pv 4) pe_int (fun _ _ => rfl)) pe_str (nomark _)) (pss_one (ps_expr (pe_bm PySem.F.plainAttrs_list PySem.F.slot_list_append PySem.F.type_list_append mt_append (pv 3) (pa_cons (pe_ix ix_list (pv 2) (pe_ix ix_tup (pv 4) pe_int (fun _ _ => rfl)) (fun _ _ => rfl)) pa_nil)))) (pss_one (ps_if (pt_cmpR op_eq (pe_ix ix_tup (pv 4) pe_int (fun _ _ => rfl)) pe_str (nomark _)) (pss_one (ps_expr (pe_bm PySem.F.plainAttrs_list PySem.F.slot_list_append PySem.F.type_list_append mt_append (pv 3) (pa_cons (pe_op op_mod (pe_op op_add (pe_ix ix_list (pv 3) (pe_ix ix_tup (pv 4) pe_int (fun _ _ => rfl)) (fun _ _ => rfl)) (pe_ix ix_list (pv 3) (pe_ix ix_tup (pv 4) pe_int (fun _ _ => rfl)) (fun _ _ => rfl))) (pv 1)) pa_nil)))) (pss_one (ps_if (pt_cmpR op_eq (pe_ix ix_tup (pv 4) pe_int (fun _ _ => rfl)) pe_str (nomark _)) (pss_one (ps_expr (pe_bm PySem.F.plainAttrs_list PySem.F.slot_list_append PySem.F.type_list_append mt_append (pv 3) (pa_cons (pe_op op_mod (pe_op op_mul (pe_ix ix_list (pv 3) (pe_ix ix_tup (pv 4) pe_int (fun _ _ => rfl)) (fun _ _ => rfl)) (pe_ix ix_list (pv 3) (pe_ix ix_tup (pv 4) pe_int (fun _ _ => rfl)) (fun _ _ => rfl))) (pv 1)) pa_nil)))) (pss_one (ps_if (pt_cmpR op_eq (pe_ix ix_tup (pv 4) pe_int (fun _ _ => rfl)) pe_str (nomark _)) (pss_one (ps_expr (pe_bm PySem.F.plainAttrs_list PySem.F.slot_list_append PySem.F.type_list_append mt_append (pv 3) (pa_cons (pe_op op_mod (pe_op op_mul (pe_ix ix_tup (pv 4) pe_int (fun _ _ => rfl)) (pe_ix ix_list (pv 3) (pe_ix ix_tup (pv 4) pe_int (fun _ _ => rfl)) (fun _ _ => rfl))) (pv 1)) pa_nil)))) (pss_cons (ps_set (i := 5) c_l_meaning.nd rfl (.inl rfl) (pe_ix ix_list (pv 3) (pe_ix ix_tup (pv 4) pe_int (fun _ _ => rfl)) (fun _ _ => rfl)))
      (pss_one (ps_expr (pe_bm PySem.F.plainAttrs_list PySem.F.slot_list_append PySem.F.type_list_append mt_append (pv 3) (pa_cons (pe_op op_mod (pe_op op_sub (pe_op op_add (pe_ix ix_list (pv 3) (pe_ix ix_tup (pv 4) pe_int (fun _ _ => rfl)) (fun _ _ => rfl)) (pe_op op_mul (pv 5) (pe_ix ix_list (pv 3) (pe_ix ix_tup (pv 4) pe_int (fun _ _ => rfl)) (fun _ _ => rfl)))) (pe_op op_mul (pv 5) (pe_ix ix_list (pv 3) (pe_ix ix_tup (pv 4) pe_int (fun _ _ => rfl)) (fun _ _ => rfl)))) (pv 1)) pa_nil))))))))))))))))
      (pss_one (ps_ret (pe_ix ix_list (pv 3) (pe_op op_sub (pe_callB call_len_seq (by rfl) T.z_len (by decide +kernel) (pa_cons (pv 3) pa_nil)) pe_int) (fun _ _ => rfl)))))), ?_⟩
    refine ⟨Nat.zero_le _, fun o no => ?_⟩
    have sA : Same H (upd H o (.lst [])) := same_new no
    refine ⟨.ref a, rfl, a, rfl, ⟨_, SqT.of (sA _ _ e0)⟩, for_tup (K := K) (a := a) (xs := vs) (fun i σ' H' => ∃ (x y : Option V), σ' = [some (.ref a), some (.int 2), some (.ref gv), some (.ref o), x, y] ∧ Same H H' ∧ H' o = some (.lst (bits (up (valF g) (s.take i)))))
      ⟨none, none, rfl, sA, upd_same⟩ (fun i σ' H' _ ⟨_, _, _, e, _⟩ => SqT.of (e _ _ e0)) ?_ ?_⟩
    · rintro i v σ' H' hv ⟨x, y, rfl, s1, eo⟩
      obtain ⟨p, nd, rfl, hnd, e1⟩ := R.get hv
      have e := s1 _ _ e1
      have ok := wf i nd hnd
      have hi : i < s.length := (List.getElem?_eq_some_iff.mp hnd).1
      have hstep := up_step (valF g) hnd
      have hcl : (up (valF g) (s.take i)).length = i := by rw [up_length, List.length_take]; omega
      generalize up (valF g) (s.take i) = cs at eo hstep hcl
      have hsz : (bits cs).length < sizeLine := szl (by rw [bits_len]; omega)
      cases nd with
      | cst c =>
        refine ⟨_, rfl, p, _, _, _, rfl, rfl, SqT.of e, by rfl, rfl, _, rfl, iteY rfl ⟨_, rfl, .inl ⟨rfl, _, SqL.of eo⟩, _, rfl, p, _, _, _, rfl, rfl, SqT.of e, by rfl, _, rfl, _, _, rfl, rfl, (by show (0 : Int) < 2; decide), o, _, _, rfl, rfl, eo, hsz, ?_⟩⟩
        exact ⟨_, _, rfl, same_mut s1 no, by rw [upd_same, hstep]; exact congrArg (fun z => some (HO.lst z)) (bits_snoc (b2_odd c))⟩
      | inp k =>
        have hk : k < m := Nat.lt_of_lt_of_le (inp_lt (List.mem_of_getElem? hnd)) hm
        have hg : (bits ((List.range m).map g))[k]? = some (.int (b2 (g k))) := by
          unfold bits
          rw [List.map_map, List.getElem?_map, List.getElem?_range hk]
          rfl
        refine ⟨_, rfl, p, _, _, _, rfl, rfl, SqT.of e, by rfl, rfl, _, rfl, iteN (by decide) ⟨_, rfl, p, _, _, _, rfl, rfl, SqT.of e, by rfl, rfl, _, rfl, iteY rfl ⟨_, rfl, .inl ⟨rfl, _, SqL.of eo⟩, _, rfl, _, rfl, p, _, _, _, rfl, rfl, SqT.of e, by rfl, gv, _, _, _, rfl, rfl, SqL.of (s1 _ _ eg), atI_nat hg, o, _, _, rfl, rfl, eo, hsz, ?_⟩⟩⟩
        exact ⟨_, _, rfl, same_mut s1 no, by rw [upd_same, hstep]; exact congrArg (fun z => some (HO.lst z)) (bits_snoc rfl)⟩
      | sm i' j' =>
        obtain ⟨hi', hj'⟩ := ok
        refine ⟨_, rfl, p, _, _, _, rfl, rfl, SqT.of e, by rfl, rfl, _, rfl, iteN (by decide) ⟨_, rfl, p, _, _, _, rfl, rfl, SqT.of e, by rfl, rfl, _, rfl, iteN (by decide) ⟨_, rfl, p, _, _, _, rfl, rfl, SqT.of e, by rfl, rfl, _, rfl, iteY rfl ⟨_, rfl, .inl ⟨rfl, _, SqL.of eo⟩, _, rfl, _, rfl, p, _, _, _, rfl, rfl, SqT.of e, by rfl, o, _, _, _, rfl, rfl, SqL.of eo, atI_nat (bits_at (by omega)), _, rfl, _, rfl, p, _, _, _, rfl, rfl, SqT.of e, by rfl, o, _, _, _, rfl, rfl, SqL.of eo, atI_nat (bits_at (by omega)), _, _, rfl, rfl, _, rfl, _, _, rfl, rfl, (by show (0 : Int) < 2; decide), o, _, _, rfl, rfl, eo, hsz, ?_⟩⟩⟩⟩
        exact ⟨_, _, rfl, same_mut s1 no, by rw [upd_same, hstep]; exact congrArg (fun z => some (HO.lst z)) (bits_snoc (b2_xor _ _))⟩
      | pr i' j' =>
        obtain ⟨hi', hj'⟩ := ok
        refine ⟨_, rfl, p, _, _, _, rfl, rfl, SqT.of e, by rfl, rfl, _, rfl, iteN (by decide) ⟨_, rfl, p, _, _, _, rfl, rfl, SqT.of e, by rfl, rfl, _, rfl, iteN (by decide) ⟨_, rfl, p, _, _, _, rfl, rfl, SqT.of e, by rfl, rfl, _, rfl, iteN (by decide) ⟨_, rfl, p, _, _, _, rfl, rfl, SqT.of e, by rfl, rfl, _, rfl, iteY rfl ⟨_, rfl, .inl ⟨rfl, _, SqL.of eo⟩, _, rfl, _, rfl, p, _, _, _, rfl, rfl, SqT.of e, by rfl, o, _, _, _, rfl, rfl, SqL.of eo, atI_nat (bits_at (by omega)), _, rfl, _, rfl, p, _, _, _, rfl, rfl, SqT.of e, by rfl, o, _, _, _, rfl, rfl, SqL.of eo, atI_nat (bits_at (by omega)), _, _, rfl, rfl, .inl (b2_small _), _, rfl, _, _, rfl, rfl, (by show (0 : Int) < 2; decide), o, _, _, rfl, rfl, eo, hsz, ?_⟩⟩⟩⟩⟩
        exact ⟨_, _, rfl, same_mut s1 no, by rw [upd_same, hstep]; exact congrArg (fun z => some (HO.lst z)) (bits_snoc (b2_and _ _))⟩
      | sc c i' =>
        obtain ⟨_, hi'⟩ := ok
        refine ⟨_, rfl, p, _, _, _, rfl, rfl, SqT.of e, by rfl, rfl, _, rfl, iteN (by decide) ⟨_, rfl, p, _, _, _, rfl, rfl, SqT.of e, by rfl, rfl, _, rfl, iteN (by decide) ⟨_, rfl, p, _, _, _, rfl, rfl, SqT.of e, by rfl, rfl, _, rfl, iteN (by decide) ⟨_, rfl, p, _, _, _, rfl, rfl, SqT.of e, by rfl, rfl, _, rfl, iteN (by decide) ⟨_, rfl, p, _, _, _, rfl, rfl, SqT.of e, by rfl, rfl, _, rfl, iteY rfl ⟨_, rfl, .inl ⟨rfl, _, SqL.of eo⟩, _, rfl, p, _, _, _, rfl, rfl, SqT.of e, by rfl, _, rfl, _, rfl, p, _, _, _, rfl, rfl, SqT.of e, by rfl, o, _, _, _, rfl, rfl, SqL.of eo, atI_nat (bits_at (by omega)), _, _, rfl, rfl, .inr (b2_small _), _, rfl, _, _, rfl, rfl, (by show (0 : Int) < 2; decide), o, _, _, rfl, rfl, eo, hsz, ?_⟩⟩⟩⟩⟩⟩
        exact ⟨_, _, rfl, same_mut s1 no, by rw [upd_same, hstep]; exact congrArg (fun z => some (HO.lst z)) (bits_snoc (b2_sc _ _))⟩
      | ch i' j' l' =>
        obtain ⟨hi', hj', hl'⟩ := ok
        refine ⟨_, rfl, p, _, _, _, rfl, rfl, SqT.of e, by rfl, rfl, _, rfl, iteN (by decide) ⟨_, rfl, p, _, _, _, rfl, rfl, SqT.of e, by rfl, rfl, _, rfl, iteN (by decide) ⟨_, rfl, p, _, _, _, rfl, rfl, SqT.of e, by rfl, rfl, _, rfl, iteN (by decide) ⟨_, rfl, p, _, _, _, rfl, rfl, SqT.of e, by rfl, rfl, _, rfl, iteN (by decide) ⟨_, rfl, p, _, _, _, rfl, rfl, SqT.of e, by rfl, rfl, _, rfl, iteN (by decide) ?_⟩⟩⟩⟩⟩
        refine ⟨_, rfl, _, rfl, p, _, _, _, rfl, rfl, SqT.of e, by rfl, o, _, _, _, rfl, rfl, SqL.of eo, atI_nat (bits_at (by omega)), ?_⟩
        refine ⟨_, rfl, .inl ⟨rfl, _, SqL.of eo⟩, _, rfl, _, rfl, p, _, _, _, rfl, rfl, SqT.of e, by rfl, o, _, _, _, rfl, rfl, SqL.of eo, atI_nat (bits_at (by omega)), _, rfl, _, rfl, _, rfl, p, _, _, _, rfl, rfl, SqT.of e, by rfl, o, _, _, _, rfl, rfl, SqL.of eo, atI_nat (bits_at (by omega)), _, _, rfl, rfl, .inl (b2_small _), _, _, rfl, rfl, _, rfl, _, rfl, _, rfl, p, _, _, _, rfl, rfl, SqT.of e, by rfl, o, _, _, _, rfl, rfl, SqL.of eo, atI_nat (bits_at (by omega)), _, _, rfl, rfl, .inl (b2_small _), _, _, rfl, rfl, _, rfl, _, _, rfl, rfl, (by show (0 : Int) < 2; decide), o, _, _, rfl, rfl, eo, hsz, ?_⟩
        exact ⟨_, _, rfl, same_mut s1 no, by rw [upd_same, hstep]; exact congrArg (fun z => some (HO.lst z)) (bits_snoc (b2_ch _ _ _))⟩
    · rintro σ' H' ⟨x, y, rfl, s1, eo⟩
      rw [hvl, List.take_length] at eo
      have hul : (up (valF g) s).length = s.length := up_length _ _
      have e1 : ((bits (up (valF g) s)).length : Int) - 1 = ((s.length - 1 : Nat) : Int) := by rw [bits_len, hul]; omega
      refine ⟨_, rfl, _, rfl, _, _, rfl, .inl (SqL.of eo), _, _, rfl, rfl, o, _, _, _, rfl, rfl, SqL.of eo, at_of e1 (bits_at (by omega)), ?_⟩
      exact q H' s1
theorem ok_l_needs (T : Txt w K mg D) : FnOk P w K mg base CX0 1 D.f_l_needs D.d_l_needs ["_law_source_here"] spLNeeds := by
  refine T.F_l_needs.ok c_l_needs (fun vs H Q E h => ?_) (fun cdv A outer s H vs Q E hr h => ?_)
  · obtain ⟨a, s, rfl, _⟩ := h
    rfl
  · obtain ⟨a, s, rfl, ⟨vs, e0, R⟩, h2, q⟩ := h
    have hvl := R.len
    refine ⟨_, (pss_one (ps_ret (pe_callB (cr_max rfl) (by rfl) T.z_max (by decide +kernel) (pa_cons (pe_op op_cat (pe_lst (pa_cons pe_int pa_nil)) (pe_lc (own := [("_law_node", 1)]) (g := gName 1) (te := tOp (rI0 fun i j => .int (i + j)) (tOp (rIxT K) (tVar 1) (tC (.int 1))) (tC (.int 1))) (tt := tTest (tOp rEq (tOp (rIxT K) (tVar 1) (tC (.int 0))) (tC (.str "input")))) rfl c_l_needs.nd (pi_tup (pv 0)) (blkOk_by (own := [("_law_node", 1)]) (N := ["_law_source_here", "_law_node"]) (sc := defScope s_l_needs) (by decide +kernel)) (fun _ _ _ _ _ => pg_name (i := 1) c_l_needs.nd rfl (Or.inl rfl)) (fun _ _ _ _ _ => (pts_one (pt_cmpR op_eq (pe_ix ix_tup (pv 1) pe_int (fun _ _ => rfl)) pe_str (nomark _)))) (fun _ _ _ _ _ => (pe_op op_add (pe_ix ix_tup (pv 1) pe_int (fun _ _ => rfl)) pe_int)))) pa_nil)))), ?_⟩
    refine ⟨(by show 1 ≤ sizeLine; decide), fun z nz => ?_⟩
    have s1 := same_new (o := .lst [.int 0]) nz
    refine ⟨_, rfl, a, rfl, ⟨_, SqT.of (s1 _ _ e0)⟩, fun Dl hD => lc_tup (K := K) (a := a) (xs := vs) (fun i H' => Same (upd H z (.lst [.int 0])) H' ∧ H' Dl = some (.lst (nums (inpsOf (s.take i)))) ∧ (inpsOf (s.take i)).length ≤ i)
      ⟨same_new hD, upd_same, Nat.le_refl _⟩ (fun i H' _ ⟨e, _⟩ => SqT.of (e _ _ (s1 _ _ e0))) ?_ ?_⟩
    · rintro i v H' hv ⟨s2, eD, hl⟩
      obtain ⟨p, nd, rfl, hnd, e1⟩ := R.get hv
      have e := s2 _ _ (s1 _ _ e1)
      have hi : i < s.length := (List.getElem?_eq_some_iff.mp hnd).1
      have hst : inpsOf (s.take (i + 1)) = inpsOf (s.take i) ++ inpsOf [nd] := by
        rw [take_succ_some hnd]
        exact List.filterMap_append
      cases nd with
      | inp k =>
        refine ⟨rfl, _, rfl, p, _, _, _, rfl, rfl, SqT.of e, by rfl, rfl, _, rfl, iteY rfl ⟨_, rfl, p, _, _, _, rfl, rfl, SqT.of e, by rfl, _, _, rfl, rfl, _, eD, szl (by rw [nums_len]; omega), same_mut s2 hD, ?_, ?_⟩⟩
        · rw [upd_same, hst]
          exact congrArg (fun z => some (HO.lst z)) (nums_snoc rfl)
        · rw [hst, List.length_append]
          show _ + 1 ≤ _
          omega
      | cst c =>
        refine ⟨rfl, _, rfl, p, _, _, _, rfl, rfl, SqT.of e, by rfl, rfl, _, rfl, iteN (by decide) ⟨s2, ?_, ?_⟩⟩
        · rw [hst, show inpsOf [Nd.cst c] = [] from rfl, List.append_nil]
          exact eD
        · rw [hst, show inpsOf [Nd.cst c] = [] from rfl, List.append_nil]
          omega
      | sm i' j' =>
        refine ⟨rfl, _, rfl, p, _, _, _, rfl, rfl, SqT.of e, by rfl, rfl, _, rfl, iteN (by decide) ⟨s2, ?_, ?_⟩⟩
        · rw [hst, show inpsOf [Nd.sm i' j'] = [] from rfl, List.append_nil]
          exact eD
        · rw [hst, show inpsOf [Nd.sm i' j'] = [] from rfl, List.append_nil]
          omega
      | pr i' j' =>
        refine ⟨rfl, _, rfl, p, _, _, _, rfl, rfl, SqT.of e, by rfl, rfl, _, rfl, iteN (by decide) ⟨s2, ?_, ?_⟩⟩
        · rw [hst, show inpsOf [Nd.pr i' j'] = [] from rfl, List.append_nil]
          exact eD
        · rw [hst, show inpsOf [Nd.pr i' j'] = [] from rfl, List.append_nil]
          omega
      | sc c i' =>
        refine ⟨rfl, _, rfl, p, _, _, _, rfl, rfl, SqT.of e, by rfl, rfl, _, rfl, iteN (by decide) ⟨s2, ?_, ?_⟩⟩
        · rw [hst, show inpsOf [Nd.sc c i'] = [] from rfl, List.append_nil]
          exact eD
        · rw [hst, show inpsOf [Nd.sc c i'] = [] from rfl, List.append_nil]
          omega
      | ch i' j' l' =>
        refine ⟨rfl, _, rfl, p, _, _, _, rfl, rfl, SqT.of e, by rfl, rfl, _, rfl, iteN (by decide) ⟨s2, ?_, ?_⟩⟩
        · rw [hst, show inpsOf [Nd.ch i' j' l'] = [] from rfl, List.append_nil]
          exact eD
        · rw [hst, show inpsOf [Nd.ch i' j' l'] = [] from rfl, List.append_nil]
          omega
    · rintro H' ⟨s2, eD, hl⟩
      rw [hvl, List.take_length] at eD hl
      refine ⟨z, Dl, _, _, rfl, rfl, s2 _ _ upd_same, eD, sz (by rw [nums_len, List.length_singleton]; omega), fun u nu => ?_⟩
      have s3 := same_new (o := .lst ([.int 0] ++ nums (inpsOf s))) nu
      have ec : ([.int 0] ++ nums (inpsOf s) : List V) = ((0 :: inpsOf s).map fun (n : Nat) => (n : Int)).map V.int := by
        rw [← nums_eq]
        rfl
      refine ⟨u, (0 :: inpsOf s).map fun (n : Nat) => (n : Int), rfl, SqL.of (by rw [← ec]; exact upd_same), by simp, fun m hm hle => ?_⟩
      obtain ⟨n, hn, rfl⟩ := List.mem_map.mp hm
      have hc := needs_char s
      have e1 : n = needs s := by
        have hup : n ≤ needs s := by
          rcases List.mem_cons.mp hn with z | z
          · omega
          · exact hc.1 n z
        have hlo : needs s ≤ n := by
          rcases hc.2 with z | z
          · omega
          · have := hle ((needs s : Nat) : Int) (List.mem_map.mpr ⟨needs s, List.mem_cons_of_mem _ z, rfl⟩)
            omega
        omega
      rw [e1]
      exact q _ (s1.trans (s2.trans s3))
end
end BF
namespace BF
open PySem PySem.Spec PyProof.Rows L2 BR
theorem cut_end {xs : List V} {z : Int} (h : z = (xs.length : Int)) : cutV xs (some z) none = [] := by
  unfold cutV
  rw [h, HT.sIx_nat, HT.sIx_none]
  simp
/-- draw(draws) % 2 == 0 as a test -/
theorem draw_even {σ : L2.St} {H : Hp} {Q : Bool → Hp → Prop} {a l : Addr} {v : Nat} (h0 : σ[v]? = some (some (.ref a))) (dr : DrawsAt H a l)
    (q : ∀ (e : Bool) H', But a H H' → DrawsAt H' a l → Q e H') : tTest (tOp rEq (tOp (rI (fun _ j => 0 < j) fun i j => .int (i % j)) (tCall spDraw [] E0 (tCons (tVar v) tNil)) (tC (.int 2))) (tC (.int 0))) σ H Q := by
  refine ⟨_, h0, a, l, rfl, dr, fun d H1 hd bt dr1 => ⟨_, _, rfl, rfl, (by show (0 : Int) < 2; decide), rfl, _, rfl, ?_⟩⟩
  exact q _ H1 bt dr1
section
variable {P : Program} {w : World} {K : PySem.W.Frag} {mg : Str → Option Value} {base : Heap} {D : Ds}
theorem ok_l_spread (T : Txt w K mg D) : FnOk P w K mg base CX0 6 D.f_l_spread D.d_l_spread ["_law_draws", "_law_gates", "_law_many"] spLSpread := by
  have G_l_draw : FnOk P w K mg base CX0 2 D.f_l_draw D.d_l_draw ["_law_draws"] spDraw := ok_l_draw T
  have G_spread : FnOk P w K mg base CX0 5 D.f_spread D.d_spread ["target", "controls", "borrowed"] spSpread := ok_spread T
  refine T.F_l_spread.ok c_l_spread (fun vs H Q E h => ?_) (fun cdv A outer s H vs Q E hr h => ?_)
  · obtain ⟨a, l, gl, many, gs, rfl, _⟩ := h
    rfl
  · obtain ⟨a, l, gl, many, gs, rfl, dr, ⟨gvs, eg, RG⟩, nga, okG, hgl, hmany, q⟩ := h
    have hgvl := RG.len
    refine ⟨_, (pss_cons (ps_set (i := 3) c_l_spread.nd rfl (.inl rfl) (pe_lst pa_nil))
      (pss_cons (ps_for PassesOwn.never rfl (pi_list (pv 1)) (pg_tup rfl (pgs_cons (pg_name (i := 4) c_l_spread.nd rfl (.inr rfl)) (pgs_cons (pg_name (i := 5) c_l_spread.nd rfl (.inr rfl)) pgs_nil))) (pss_cons (ps_setLc (i := 6) (own := [("_law_bit", 8)]) (g := gName 8) (tt := tAnd (tTest (tOp rNe (tVar 8) (tVar 4))) (tTest (tOp (rIn K true) (tVar 8) (tVar 5)))) rfl c_l_spread.nd rfl rfl (sw_true rfl rfl rfl (by decide +kernel)) (pi_range1 (by rfl) T.z_range (pa_cons (pv 2) pa_nil)) (blkOk_by (own := [("_law_bit", 8)]) (N := ["_law_draws", "_law_gates", "_law_many", "_law_wide", "_law_target", "_law_controls", "_law_free", "_law_need", "_law_bit"]) (sc := defScope s_l_spread) (by decide +kernel)) (fun _ _ _ _ _ => pg_name (i := 8) c_l_spread.nd rfl (Or.inl rfl)) (fun _ _ _ _ _ => (pts_one (PW.pt (pw_and (pt_cmpR op_ne (pv 8) (pv 4) (nomark _)) (pw_and1 (pt_cmpR op_notIn_seq (pv 8) (pv 5) (by rfl))))))) (fun _ _ _ _ _ => (pv 8)))
      (pss_cons (ps_set (i := 7) c_l_spread.nd rfl (.inl rfl) (pe_callB (call_max2 rfl) (by rfl) T.z_max (by decide +kernel) (pa_cons pe_int (pa_cons (pe_op op_sub (pe_callB call_len_seq (by rfl) T.z_len (by decide +kernel) (pa_cons (pv 5) pa_nil)) pe_int) pa_nil))))
      (pss_one (ps_if (PW.pt (pw_and (pt_cmpR op_ge (pe_callB call_len_seq (by rfl) T.z_len (by decide +kernel) (pa_cons (pv 6) pa_nil)) (pv 7) (nomark _)) (pw_and1 (pt_cmpR op_eq (pe_op op_mod (pe_call G_l_draw (hr.mono (by decide)) (by rfl) T.g_l_draw T.F_l_draw.kp T.b_l_draw .nil pass0 (pa_cons (pv 0) pa_nil)) pe_int) pe_int (nomark _))))) (pss_one (ps_expr (pe_bm PySem.F.plainAttrs_list PySem.F.slot_list_extend PySem.F.type_list_extend mt_extend (pv 3) (pa_cons (pe_call G_spread (hr.mono (by decide)) (by rfl) T.g_spread T.F_spread.kp T.b_spread .nil pass0 (pa_cons (pv 4) (pa_cons (pv 5) (pa_cons (pe_slice sl_list (pv 6) (po_some (pe_op op_sub (pe_callB call_len_seq (by rfl) T.z_len (by decide +kernel) (pa_cons (pv 6) pa_nil)) (pv 7))) po_none) pa_nil)))) pa_nil)))) (pss_one (ps_expr (pe_bm PySem.F.plainAttrs_list PySem.F.slot_list_append PySem.F.type_list_append mt_append (pv 3) (pa_cons (pe_tup (pa_cons (pv 4) (pa_cons (pv 5) pa_nil))) pa_nil)))))))))
      (pss_one (ps_ret (pv 3))))), ?_⟩
    refine ⟨Nat.zero_le _, fun wo nwo => ?_⟩
    have s1 : Same H (upd H wo (.lst [])) := same_new nwo
    have n_wo_a : wo ≠ a := by
      obtain ⟨z, ez⟩ := dr.lst
      exact (ne_of_none ez nwo).symm
    have n_wo_l : wo ≠ l := by
      obtain ⟨_, _, _, _, z, _⟩ := id dr
      exact (ne_of_none z nwo).symm
    refine ⟨.ref gl, rfl, gl, rfl, ⟨_, SqL.of (s1 _ _ eg)⟩, for_list (K := K) (a := gl) (xs := gvs) (fun i σ' H' => ∃ (x4 x5 x6 x7 x8 : Option V) (vs : List V), σ' = [some (.ref a), some (.ref gl), some (.int (many : Int)), some (.ref wo), x4, x5, x6, x7, x8] ∧
        But a H H' ∧ DrawsAt H' a l ∧ H' wo = some (.lst vs) ∧ Refs (GtAt H') vs (gs.take i))
      ⟨none, none, none, none, none, [], rfl, but_same s1, dr.same s1, upd_same, .nil⟩ (fun i σ' H' _ ⟨_, _, _, _, _, _, _, bt, _⟩ => SqL.of (bt _ _ nga eg)) ?_ ?_⟩
    · rintro i v σ' H' hv ⟨x4, x5, x6, x7, x8, vs, rfl, bt, dr', ewo, RW⟩
      have tH : TK H H' := by
        obtain ⟨z, ez⟩ := dr.lst
        exact but_tk bt ez
      obtain ⟨p, G, rfl, hG, c, ep, ec⟩ := RG.get hv
      have hi : i < gs.length := (List.getElem?_eq_some_iff.mp hG).1
      have ep' := tH _ _ ep
      have ec' := tH _ _ ec
      obtain ⟨hok, h2⟩ := okG G (List.mem_of_getElem? hG)
      have hvl : vs.length ≤ i := by
        rw [RW.len, List.length_take]
        omega
      refine ⟨p, _, rfl, SqT.of ep', rfl, _, _, rfl, _, _, rfl, rfl, ?_⟩
      refine ⟨_, rfl, (many : Int), rfl, by omega, by omega, fun Dl hD => lc_range (lo := 0) (n := _) (fun j H3 => Same H' H3 ∧ ∃ acc, H3 Dl = some (.lst acc) ∧ acc.length ≤ j)
        ⟨same_new hD, [], upd_same, Nat.le_refl _⟩ ?_ ?_⟩
      · rintro j H3 hj ⟨s3, acc, eD, hacc⟩
        have stay : Same H' H3 ∧ ∃ acc, H3 Dl = some (.lst acc) ∧ acc.length ≤ j + 1 := ⟨s3, acc, eD, by omega⟩
        have yes : ∀ y : V, ∃ acc, H3 Dl = some (.lst acc) ∧ acc.length < sizeLine ∧ (Same H' (upd H3 Dl (.lst (acc ++ [y]))) ∧ ∃ acc', (upd H3 Dl (.lst (acc ++ [y]))) Dl = some (.lst acc') ∧ acc'.length ≤ j + 1) := fun y =>
          ⟨acc, eD, szl (by omega), same_mut s3 hD, acc ++ [y], upd_same, by rw [List.length_append, List.length_singleton]; omega⟩
        refine ⟨rfl, _, rfl, _, rfl, rfl, _, rfl, ite2 (fun _ => ?_) (fun e => ?_)⟩
        · refine ⟨_, rfl, _, rfl, c, _, rfl, .inr (SqT.of (s3 _ _ ec')), rfl, flat_nums G.2, _, rfl, ite2 (fun _ => ⟨_, rfl, yes _⟩) (fun _ => stay)⟩
        · first | exact iteF stay | (rw [if_neg e]; exact stay) | exact stay
      · rintro H3 ⟨s3, acc, eD, hacc⟩
        have dr3 : DrawsAt H3 a l := dr'.same s3
        have bt3 : But a H H3 := bt.trans (but_same s3)
        have ewo3 := s3 _ _ ewo
        have ec3 := s3 _ _ ec'
        have RW3 := RW.mono fun _ _ z => z.mono (tk_same s3)
        -- need = max(0, len(controls) - 2)
        refine ⟨_, rfl, _, _, rfl, .inr (SqT.of ec3), _, _, rfl, rfl, _, _, rfl, ?_⟩
        have hz : (if (((nums G.2).length : Int) - 2) > 0 then (((nums G.2).length : Int) - 2) else 0) = 0 := if_neg (by rw [nums_len]; omega)
        rw [hz]
        have fin : ∀ H5 (vs' : List V), But a H H5 → DrawsAt H5 a l → H5 wo = some (.lst vs') → Refs (GtAt H5) vs' (gs.take i ++ [G]) → ∃ (x4 x5 x6 x7 y8 : Option V) (vs : List V), [some (V.ref a), some (.ref gl), some (.int (many : Int)), some (.ref wo), some (.int (G.1 : Int)), some (.ref c), some (.ref Dl), some (.int 0), x8] = [some (.ref a), some (.ref gl), some (.int (many : Int)), some (.ref wo), x4, x5, x6, x7, y8] ∧
            But a H H5 ∧ DrawsAt H5 a l ∧ H5 wo = some (.lst vs) ∧ Refs (GtAt H5) vs (gs.take (i + 1)) := fun H5 vs' b1 b2 b3 b4 => ⟨_, _, _, _, _, vs', rfl, b1, b2, b3, by rw [take_succ_some hG]; exact b4⟩
        refine ⟨_, rfl, _, _, rfl, .inl (SqL.of eD), _, rfl, _, _, rfl, rfl, _, rfl, iteY (by omega) ?_⟩
        refine draw_even (a := a) (l := l) rfl dr3 fun e H4 b4 dr4 => ?_
        have tk4 : TK H3 H4 := by
          obtain ⟨z, ez⟩ := dr3.lst
          exact but_tk b4 ez
        have bt4 : But a H H4 := bt3.trans b4
        have ewo4 : H4 wo = some (.lst vs) := b4 _ _ n_wo_a ewo3
        have ec4 := tk4 _ _ ec3
        have RW4 := RW3.mono fun _ _ z => z.mono tk4
        have n_Dl_a : Dl ≠ a := by
          obtain ⟨z, ez⟩ := dr'.lst
          exact (ne_of_none ez hD).symm
        have eD4 : H4 Dl = some (.lst acc) := b4 _ _ n_Dl_a eD
        cases e with
        | true =>
          refine iteT ⟨_, rfl, .inl ⟨rfl, _, SqL.of ewo4⟩, _, rfl, _, rfl, _, rfl, _, rfl, _, _, rfl, .inl (SqL.of eD4), _, rfl, _, _, rfl, rfl, _, rfl, Dl, _, rfl, SqL.of eD4, fun bo nbo => ?_⟩
          have s5 := same_new (o := .lst (cutV acc (some ((acc.length : Int) - 0)) none)) nbo
          refine ⟨c, bo, G, rfl, s5 _ _ ec4, upd_same.trans (by rw [cut_end (by omega)]), hok, h2, fun H6 r s6 nr ⟨ws, er, RW6⟩ => ?_⟩
          have s56 := s5.trans s6
          have ewo6 := s56 _ _ ewo4
          have hwl : ws.length = 1 := RW6.len
          refine ⟨wo, r, _, _, rfl, rfl, ewo6, er, sz (by omega), ?_⟩
          have t7 := tk_lst (o := .lst (vs ++ ws)) ewo6
          have dr6 := (dr4.same s56).upd (o := .lst (vs ++ ws)) n_wo_a n_wo_l
          exact fin _ _ (but_mut (bt4.trans (but_same s56)) nwo) dr6 upd_same ((RW4.mono fun _ _ z => z.mono ((tk_same s56).trans t7)).append (RW6.mono fun _ _ z => z.mono t7))
        | false =>
          refine iteF ⟨_, rfl, .inl ⟨rfl, _, SqL.of ewo4⟩, _, rfl, _, rfl, (by show 2 ≤ sizeLine; decide), fun u nu => ?_⟩
          have s5 := same_new (o := .tup [.int (G.1 : Int), .ref c]) nu
          have ewo5 := s5 _ _ ewo4
          refine ⟨wo, _, _, rfl, rfl, ewo5, szl (by omega), ?_⟩
          have t7 := tk_lst (o := .lst (vs ++ [.ref u])) ewo5
          have dr6 := (dr4.same s5).upd (o := .lst (vs ++ [.ref u])) n_wo_a n_wo_l
          exact fin _ _ (but_mut (bt4.trans (but_same s5)) nwo) dr6 upd_same ((RW4.mono fun _ _ z => z.mono ((tk_same s5).trans t7)).snoc ⟨c, t7 _ _ upd_same, t7 _ _ (s5 _ _ ec4)⟩)
    · rintro σ' H' ⟨x4, x5, x6, x7, x8, vs, rfl, bt, dr', ewo, RW⟩
      rw [hgvl, List.take_length] at RW
      exact ⟨_, rfl, q H' wo bt nwo dr' ⟨vs, ewo, RW⟩⟩
end
end BF
namespace BF
open PySem PySem.Spec PyProof.Rows L2 BR
def spLaw (K : PySem.W.Frag) : Sp := fun vs H Q _ => ∃ (a : Addr) (ns : List Int), vs = [.ref a] ∧ SqL K H a (ns.map V.int) ∧ ns.length ≤ 63 ∧ ∀ H', Q (.bl true) H'
/-- k + draw(draws) % m -/
theorem draw_add {σ : L2.St} {H : Hp} {Q : VK} {a l : Addr} {k m v : Nat} (h0 : σ[v]? = some (some (.ref a))) (dr : DrawsAt H a l) (hp : 0 < m)
    (q : ∀ (i : Nat) H', i < m → But a H H' → DrawsAt H' a l → Q (.int ((k + i : Nat) : Int)) H') :
    tOp (rI0 fun i j => .int (i + j)) (tC (.int (k : Int))) (tOp (rI (fun _ j => 0 < j) fun i j => .int (i % j)) (tCall spDraw [] E0 (tCons (tVar v) tNil)) (tC (.int (m : Int)))) σ H Q := by
  refine ⟨_, h0, a, l, rfl, dr, fun d H1 hd bt dr1 => ⟨_, _, rfl, rfl, (by show (0 : Int) < (m : Int); omega), _, _, rfl, rfl, ?_⟩⟩
  obtain ⟨i, hi, e⟩ := mod_nat (z := (d : Int)) hp
  have e2 : (k : Int) + (d : Int) % (m : Int) = ((k + i : Nat) : Int) := by
    rw [e]
    exact (Int.natCast_add k i).symm
  show Q (.int ((k : Int) + (d : Int) % (m : Int))) H1
  rw [e2]
  exact q i H1 hi bt dr1
/-- n + k + draw(draws) % m -/
theorem draw_add2 {σ : L2.St} {H : Hp} {Q : VK} {a l : Addr} {n k m v u : Nat} (hu : σ[u]? = some (some (.int (n : Int)))) (h0 : σ[v]? = some (some (.ref a))) (dr : DrawsAt H a l) (hp : 0 < m)
    (q : ∀ (i : Nat) H', i < m → But a H H' → DrawsAt H' a l → Q (.int ((n + k + i : Nat) : Int)) H') :
    tOp (rI0 fun i j => .int (i + j)) (tOp (rI0 fun i j => .int (i + j)) (tVar u) (tC (.int (k : Int)))) (tOp (rI (fun _ j => 0 < j) fun i j => .int (i % j)) (tCall spDraw [] E0 (tCons (tVar v) tNil)) (tC (.int (m : Int)))) σ H Q := by
  refine ⟨_, hu, _, _, rfl, rfl, _, h0, a, l, rfl, dr, fun d H1 hd bt dr1 => ⟨_, _, rfl, rfl, (by show (0 : Int) < (m : Int); omega), _, _, rfl, rfl, ?_⟩⟩
  obtain ⟨i, hi, e⟩ := mod_nat (z := (d : Int)) hp
  have e2 : (n : Int) + (k : Int) + (d : Int) % (m : Int) = ((n + k + i : Nat) : Int) := by
    rw [e]
    omega
  show Q (.int ((n : Int) + (k : Int) + (d : Int) % (m : Int))) H1
  rw [e2]
  exact q i H1 hi bt dr1
/-- draw(draws) % 2 == 0 as a value -/
theorem draw_evenV {σ : L2.St} {H : Hp} {Q : VK} {a l : Addr} {v : Nat} (h0 : σ[v]? = some (some (.ref a))) (dr : DrawsAt H a l)
    (q : ∀ (e : Bool) H', But a H H' → DrawsAt H' a l → Q (.bl e) H') : tOp rEq (tOp (rI (fun _ j => 0 < j) fun i j => .int (i % j)) (tCall spDraw [] E0 (tCons (tVar v) tNil)) (tC (.int 2))) (tC (.int 0)) σ H Q := by
  refine ⟨_, h0, a, l, rfl, dr, fun d H1 hd bt dr1 => ⟨_, _, rfl, rfl, (by show (0 : Int) < 2; decide), rfl, ?_⟩⟩
  exact q _ H1 bt dr1
theorem GtsAt.but {D a : Addr} {H H' : Hp} {gs : List Gt} (h : GtsAt H a gs) (b : But D H H') (t : TK H H') (ne : a ≠ D) : GtsAt H' a gs := by
  obtain ⟨vs, e, r⟩ := h
  exact ⟨vs, b _ _ ne e, r.mono fun _ _ z => z.mono t⟩
theorem but_tkD {a l : Addr} {H H' : Hp} (e : But a H H') (d : DrawsAt H a l) : TK H H' := by
  obtain ⟨z, ez⟩ := d.lst
  exact but_tk e ez
theorem bits_map_succ {g : Nat → Bool} {z : Int} {j : Nat} (h : z = b2 (g j)) : bits ((List.range j).map g) ++ [V.int z] = bits ((List.range (j + 1)).map g) := by
  rw [bits_snoc h, List.range_succ, List.map_append]
  rfl
section
variable {P : Program} {w : World} {K : PySem.W.Frag} {mg : Str → Option Value} {base : Heap} {D : Ds} {f : Addr} {fd : FuncData}
theorem ok_law (F : Fun K "law" "law" s_law f fd) (T : Txt w K mg D) : FnOk P w K mg base CX0 12 f fd ["_law_script"] (spLaw K) := by
  have G_l_draw : FnOk P w K mg base CX0 2 D.f_l_draw D.d_l_draw ["_law_draws"] spDraw := ok_l_draw T
  have G_l_numbers : FnOk P w K mg base CX0 2 D.f_l_numbers D.d_l_numbers ["_law_script"] (spNumbers K) := ok_l_numbers T
  have G_l_source : FnOk P w K mg base CX0 3 D.f_l_source D.d_l_source ["_law_draws", "_law_many", "_law_inputs"] spSource := ok_l_source T
  have G_l_needs : FnOk P w K mg base CX0 1 D.f_l_needs D.d_l_needs ["_law_source_here"] spLNeeds := ok_l_needs T
  have G_l_meaning : FnOk P w K mg base CX0 1 D.f_l_meaning D.d_l_meaning ["_law_source_here", "_law_modulus", "_law_given"] spMeaning := ok_l_meaning T
  have G_compile_source : FnOk P w K mg base CX0 9 D.f_compile_source D.d_compile_source ["source", "modulus"] (spCompile D.C) := ok_compile_source T
  have G_gates_of : FnOk P w K mg base CX0 2 D.f_gates_of D.d_gates_of ["program"] (spGatesOf D.C) := ok_gates_of T
  have G_l_spread : FnOk P w K mg base CX0 6 D.f_l_spread D.d_l_spread ["_law_draws", "_law_gates", "_law_many"] spLSpread := ok_l_spread T
  have G_perform : FnOk P w K mg base CX0 4 D.f_perform D.d_perform ["gates", "bits"] spPerform := ok_perform T
  have G_l_equal : FnOk P w K mg base CX0 3 D.f_l_equal D.d_l_equal ["_law_actual", "_law_due"] (spEqL K) := ok_l_equal T
  refine F.ok c_law (fun vs H Q E h => ?_) (fun cdv A outer s H vs Q E hr h => ?_)
  · obtain ⟨a, ns, rfl, _⟩ := h
    rfl
  · obtain ⟨a, ns, rfl, hS, hlen, q⟩ := h
    refine ⟨_, (pss_cons (ps_set (i := 1) c_law.nd rfl (.inr rfl) (pe_lst (pa_cons (pe_call G_l_numbers (hr.mono (by decide)) (by rfl) T.g_l_numbers T.F_l_numbers.kp T.b_l_numbers .nil pass0 (pa_cons (pv 0) pa_nil)) (pa_cons pe_int pa_nil))))
      (pss_cons (ps_set (i := 2) c_law.nd rfl (.inl rfl) (pe_call G_l_source (hr.mono (by decide)) (by rfl) T.g_l_source T.F_l_source.kp T.b_l_source .nil pass0 (pa_cons (pv 1) (pa_cons (pe_op op_add pe_int (pe_op op_mod (pe_call G_l_draw (hr.mono (by decide)) (by rfl) T.g_l_draw T.F_l_draw.kp T.b_l_draw .nil pass0 (pa_cons (pv 1) pa_nil)) pe_int)) (pa_cons (pe_op op_add pe_int (pe_op op_mod (pe_call G_l_draw (hr.mono (by decide)) (by rfl) T.g_l_draw T.F_l_draw.kp T.b_l_draw .nil pass0 (pa_cons (pv 1) pa_nil)) pe_int)) pa_nil)))))
      (pss_cons (ps_set (i := 3) c_law.nd rfl (.inl rfl) (pe_call G_l_needs (hr.mono (by decide)) (by rfl) T.g_l_needs T.F_l_needs.kp T.b_l_needs .nil pass0 (pa_cons (pv 2) pa_nil)))
      (pss_cons (ps_set (i := 4) c_law.nd rfl (.inl rfl) (pe_call G_gates_of (hr.mono (by decide)) (by rfl) T.g_gates_of T.F_gates_of.kp T.b_gates_of .nil pass0 (pa_cons (pe_call G_compile_source (hr.mono (by decide)) (by rfl) T.g_compile_source T.F_compile_source.kp T.b_compile_source .nil pass0 (pa_cons (pv 2) (pa_cons pe_int pa_nil))) pa_nil)))
      (pss_cons (ps_set (i := 5) c_law.nd rfl (.inl rfl) (pe_op op_add (pe_op op_add (pv 3) pe_int) (pe_op op_mod (pe_call G_l_draw (hr.mono (by decide)) (by rfl) T.g_l_draw T.F_l_draw.kp T.b_l_draw .nil pass0 (pa_cons (pv 1) pa_nil)) pe_int)))
      (pss_cons (ps_set (i := 6) c_law.nd rfl (.inl rfl) (pe_call G_l_spread (hr.mono (by decide)) (by rfl) T.g_l_spread T.F_l_spread.kp T.b_l_spread .nil pass0 (pa_cons (pv 1) (pa_cons (pv 4) (pa_cons (pv 5) pa_nil)))))
      (pss_cons (ps_for PassesOwn.never rfl (pi_range1 (by rfl) T.z_range (pa_cons pe_int pa_nil)) (pg_name (i := 7) c_law.nd rfl (.inl rfl)) (pss_cons (ps_set (i := 8) c_law.nd rfl (.inr rfl) (pe_lc (own := [("_law_k", 12)]) (g := gName 12) (tt := tYes) rfl c_law.nd (pi_range1 (by rfl) T.z_range (pa_cons (pv 5) pa_nil)) (blkOk_by (own := [("_law_k", 12)]) (N := ["_law_script", "_law_draws", "_law_source_here", "_law_inputs", "_law_gates", "_law_many", "_law_wide", "_law_turn", "_law_bits", "_law_given", "_law_due", "_law_kept", "_law_k"]) (sc := defScope s_law) (by decide +kernel)) (fun _ _ _ _ _ => pg_name (i := 12) c_law.nd rfl (Or.inl rfl)) (fun _ _ _ _ _ => pts_nil) (fun _ _ _ _ _ => (pe_cmpR op_eq (pe_op op_mod (pe_call G_l_draw (hr.mono (by decide)) (by rfl) T.g_l_draw T.F_l_draw.kp T.b_l_draw .nil pass0 (pa_cons (pv 1) pa_nil)) pe_int) pe_int (nomark _)))))
      (pss_cons (ps_setLc (i := 9) (own := [("_law_k", 12)]) (g := gName 12) (tt := tYes) (te := tCB (fun xs H Q => (∃ i, xs = [.int i] ∧ Q (.int i) H) ∨ ∃ k, xs = [.bl k] ∧ Q (.int (if k then 1 else 0)) H) (tCons (tOp (rIxL K) (tVar 8) (tVar 12)) tNil)) rfl c_law.nd rfl rfl (sw_true rfl rfl rfl (by decide +kernel)) (pi_range1 (by rfl) T.z_range (pa_cons (pv 3) pa_nil)) (blkOk_by (own := [("_law_k", 12)]) (N := ["_law_script", "_law_draws", "_law_source_here", "_law_inputs", "_law_gates", "_law_many", "_law_wide", "_law_turn", "_law_bits", "_law_given", "_law_due", "_law_kept", "_law_k"]) (sc := defScope s_law) (by decide +kernel)) (fun _ _ _ _ _ => pg_name (i := 12) c_law.nd rfl (Or.inl rfl)) (fun _ _ _ _ _ => pts_nil) (fun _ _ _ _ _ => (pe_callTy call_int1 (by rfl) T.z_int (by decide +kernel) (pa_cons (pe_ix ix_list (pv 8) (pv 12) (fun _ _ => rfl)) pa_nil))))
      (pss_cons (ps_set (i := 10) c_law.nd rfl (.inl rfl) (pe_callTy call_list_of (by rfl) T.z_list (by decide +kernel) (pa_cons (pv 8) pa_nil)))
      (Evl.pss_cut (ps_if (pt_cmpR op_eq (pe_call G_l_meaning (hr.mono (by decide)) (by rfl) T.g_l_meaning T.F_l_meaning.kp T.b_l_meaning .nil pass0 (pa_cons (pv 2) (pa_cons pe_int (pa_cons (pv 9) pa_nil)))) pe_int (nomark _)) (pss_one (ps_asg (pe_not (pe_ix ix_list (pv 10) (pv 3) (fun _ _ => rfl))) (pg_sub (pv 10) (pv 3) set_list))) pss_nil)
      (pss_cons (ps_set (i := 11) c_law.nd rfl (.inl rfl) (pe_callTy call_list_of (by rfl) T.z_list (by decide +kernel) (pa_cons (pv 8) pa_nil)))
      (pss_cons (ps_if (PW.pt (pw_or (pt_not (pt_val (pe_call G_l_equal (hr.mono (by decide)) (by rfl) T.g_l_equal T.F_l_equal.kp T.b_l_equal .nil pass0 (pa_cons (pe_call G_perform (hr.mono (by decide)) (by rfl) T.g_perform T.F_perform.kp T.b_perform .nil pass0 (pa_cons (pv 4) (pa_cons (pv 8) pa_nil))) (pa_cons (pv 10) pa_nil))))) (pw_or1 (pt_not (pt_val (pe_call G_l_equal (hr.mono (by decide)) (by rfl) T.g_l_equal T.F_l_equal.kp T.b_l_equal .nil pass0 (pa_cons (pe_call G_perform (hr.mono (by decide)) (by rfl) T.g_perform T.F_perform.kp T.b_perform .nil pass0 (pa_cons (pv 6) (pa_cons (pv 8) pa_nil))) (pa_cons (pv 10) pa_nil)))))))) (pss_one (ps_ret pe_bl)) pss_nil)
      (pss_one (ps_if (pt_not (pt_val (pe_call G_l_equal (hr.mono (by decide)) (by rfl) T.g_l_equal T.F_l_equal.kp T.b_l_equal .nil pass0 (pa_cons (pv 8) (pa_cons (pv 11) pa_nil))))) (pss_one (ps_ret pe_bl)) pss_nil)))))))))
      (pss_one (ps_ret pe_bl))))))))), ?_⟩
    -- draws
    refine ⟨_, rfl, a, ns, rfl, hS, hlen, fun H1 L ds s1 nL eL hds => ⟨(by show 2 ≤ sizeLine; decide), fun dr nd => ?_⟩⟩
    have s2 := same_new (o := .lst [.ref L, .int 0]) nd
    have dr0 : DrawsAt (upd H1 dr (.lst [.ref L, .int 0])) dr L := ⟨ne_of_none eL nd, 0, ds, upd_same, s2 _ _ eL, hds⟩
    generalize upd H1 dr (.lst [.ref L, .int 0]) = H2 at dr0
    -- source
    refine ⟨_, rfl, ?_⟩
    refine draw_add (k := 1) (m := 10) (a := dr) (l := L) rfl dr0 (by decide) fun d1 H3 hd1 b3 dr3 => ?_
    refine draw_add (k := 1) (m := 4) (a := dr) (l := L) rfl dr3 (by decide) fun d2 H4 hd2 b4 dr4 => ?_
    refine ⟨dr, L, 1 + d1, 1 + d2, rfl, dr4, by omega, by omega, by omega, by omega, fun H5 r s b5 dr5 src wf hsl hcs => ?_⟩
    -- inputs
    refine ⟨_, rfl, r, s, rfl, src, by omega, fun H6 s6 => ?_⟩
    have src6 := src.mono (tk_same s6)
    have dr6 := dr5.same s6
    have hcst : cst s (s.length - 1) ≤ 300 := by
      unfold cst
      rw [List.getD_eq_getElem?_getD, List.getElem?_eq_getElem (by rw [up_length]; omega)]
      exact hcs _ (List.getElem_mem _)
    -- gates
    refine ⟨_, rfl, r, s, rfl, src6, wf, by omega, by omega, by omega, fun H7 p sts s7 prog okS hstl does => ?_⟩
    refine ⟨p, needs s, sts, rfl, prog, okS, needs_le wf, by omega, fun H8 gl gs s8 ngl gf gAt => ?_⟩
    have s78 := s7.trans s8
    have src8 := src6.mono (tk_same s78)
    have dr8 := dr6.same s78
    have n_gl_dr : gl ≠ dr := by
      obtain ⟨z, ez⟩ := (dr6.same s7).lst
      exact (ne_of_none ez ngl).symm
    have hm60 := needs_le wf
    obtain ⟨okG, hgl⟩ := gf.ok okS
    -- many
    refine draw_add2 (n := needs s) (k := 3) (m := 4) (a := dr) (l := L) rfl rfl dr8 (by decide) fun d3 H9 hd3 b9 dr9 => ?_
    have t9 := but_tkD b9 dr8
    have src9 := src8.mono t9
    have gAt9 := gAt.but b9 t9 n_gl_dr
    generalize hM : needs s + 3 + d3 = M
    -- wide
    refine ⟨_, rfl, _, rfl, _, rfl, dr, L, gl, M, gs, rfl, dr9, gAt9, n_gl_dr, fun G hG => ⟨(okG G hG).1.mono (by omega), (okG G hG).2⟩, by omega, by omega, fun H10 wl b10 nwl dr10 wAt => ?_⟩
    have n_wl_dr : wl ≠ dr := by
      obtain ⟨z, ez⟩ := dr9.lst
      exact (ne_of_none ez nwl).symm
    have t10 := but_tkD b10 dr9
    have src10 := src9.mono t10
    have gAt10 := gAt9.but b10 t10 n_gl_dr
    -- four turns
    refine ⟨4, rfl, by decide, by decide, for_range (lo := 0) (n := 4) (fun i σ' H' => ∃ (x7 x8 x9 x10 x11 x12 : Option V), σ' = [some (.ref a), some (.ref dr), some (.ref r), some (.int (needs s : Int)), some (.ref gl), some (.int (M : Int)), some (.ref wl), x7, x8, x9, x10, x11, x12] ∧ But dr H10 H' ∧ DrawsAt H' dr L)
      ⟨none, none, none, none, none, none, rfl, But.refl _ _, dr10⟩ ?_ ?_⟩
    · rintro i σ' H' hi ⟨x7, x8, x9, x10, x11, x12, rfl, bt, drh⟩
      have t' := but_tkD bt dr10
      -- bits
      refine ⟨_, rfl, (M : Int), rfl, by omega, by omega, fun Bl hBl => lc_range (lo := 0) (n := _) (fun j H3 => ∃ B : List Bool, But dr H' H3 ∧ DrawsAt H3 dr L ∧ H3 Bl = some (.lst (B.map V.bl)) ∧ B.length = j)
        ⟨[], but_new hBl, drh.same (same_new hBl), upd_same, rfl⟩ ?_ ?_⟩
      · rintro j H3 hj ⟨B, b3, d3, eB, hB⟩
        refine ⟨rfl, ?_⟩
        refine draw_evenV (a := dr) (l := L) rfl d3 fun e H4 b4 d4 => ?_
        have n_Bl_dr : Bl ≠ dr := by
          obtain ⟨z, ez⟩ := drh.lst
          exact (ne_of_none ez hBl).symm
        have n_Bl_L : Bl ≠ L := by
          obtain ⟨_, _, _, _, z, _⟩ := id drh
          exact (ne_of_none z hBl).symm
        refine ⟨_, b4 _ _ n_Bl_dr eB, szl (by rw [List.length_map]; omega), B ++ [e], but_mut (b3.trans b4) hBl, d4.upd n_Bl_dr n_Bl_L, ?_, by rw [List.length_append, List.length_singleton, hB]⟩
        rw [upd_same, List.map_append]
        rfl
      rintro H3 ⟨B, b3, d3, eB, hB⟩
      have hB : B.length = M := by omega
      have bt3 := bt.trans b3
      have t3 := but_tkD bt3 dr10
      -- given
      refine ⟨_, rfl, (needs s : Int), rfl, by omega, by omega, fun Gv hG => lc_range (lo := 0) (n := _) (fun j H4 => Same H3 H4 ∧ H4 Gv = some (.lst (bits ((List.range j).map fun k => B.getD k false))))
        ⟨same_new hG, upd_same⟩ ?_ ?_⟩
      · rintro j H4 hj ⟨s4, eG⟩
        have hj2 : j < B.length := by omega
        have hget : B[j]? = some (B.getD j false) := by
          rw [List.getElem?_eq_getElem hj2, List.getD_eq_getElem?_getD, List.getElem?_eq_getElem hj2]
          rfl
        refine ⟨rfl, _, rfl, _, rfl, Bl, _, _, _, rfl, rfl, SqL.of (s4 _ _ eB), at_of (Int.zero_add _) (map_at V.bl hget), .inr ⟨_, rfl, _, eG, szl (by rw [bits_len, List.length_map, List.length_range]; omega), same_mut s4 hG, ?_⟩⟩
        rw [upd_same]
        exact congrArg (fun z => some (HO.lst z)) (bits_map_succ rfl)
      rintro H4 ⟨s4, eG⟩
      rw [Int.toNat_natCast] at eG
      -- due
      refine ⟨_, rfl, Bl, _, rfl, .inl (SqL.of (s4 _ _ eB)), fun Du nDu => ?_⟩
      have s5 := same_new (o := .lst (B.map V.bl)) nDu
      have s45 := s4.trans s5
      have eDu : (upd H4 Du (.lst (B.map V.bl))) Du = some (.lst (B.map V.bl)) := upd_same
      generalize upd H4 Du (.lst (B.map V.bl)) = H5 at s5 s45 eDu
      have t5 := t3.trans (tk_same s45)
      have hMB : needs s + 3 ≤ B.length := by omega
      have hres := whole gf okS (fun g b => does g b) hMB
      refine ⟨fun σ' H6 => ∃ (y7 y12 : Option V), σ' = [some (.ref a), some (.ref dr), some (.ref r), some (.int (needs s : Int)), some (.ref gl), some (.int (M : Int)), some (.ref wl), y7, some (.ref Bl), some (.ref Gv), some (.ref Du), x11, y12] ∧
        Same H3 H6 ∧ H6 Du = some (.lst ((gtsRun gs B).map V.bl)), ?_, ?_⟩
      · refine ⟨_, rfl, _, rfl, r, Gv, s, needs s, fun k => B.getD k false, rfl, src10.mono t5, wf, by omega, by omega, s5 _ _ eG, Nat.le_refl _, fun H6 s6 => ⟨rfl, _, rfl, ?_⟩⟩
        have eDu6 := s6 _ _ eDu
        generalize val (fun k => B.getD k false) s (s.length - 1) = v at hres
        cases v with
        | true =>
          have hm : needs s < B.length := by omega
          have hget : B[needs s]? = some (B.getD (needs s) false) := by
            rw [List.getElem?_eq_getElem hm, List.getD_eq_getElem?_getD, List.getElem?_eq_getElem hm]
            rfl
          refine iteY rfl ⟨_, rfl, _, rfl, Du, _, _, _, rfl, rfl, SqL.of eDu6, atI_nat (map_at V.bl hget), _, rfl, ?_⟩
          refine ⟨_, rfl, _, rfl, Du, _, _, needs s, rfl, rfl, eDu6, ixN_nat (by rw [List.length_map]; omega), ?_⟩
          have nDu3 : H3 Du = none := same_free s4 nDu
          refine ⟨_, _, rfl, same_mut (s45.trans s6) nDu3, ?_⟩
          rw [upd_same, hres, if_pos rfl, List.map_set]
        | false =>
          refine iteN (by decide) ⟨_, _, rfl, s45.trans s6, ?_⟩
          rw [hres, if_neg (by decide)]
          exact eDu6
      rintro σ' H6 ⟨y7, y12, rfl, s6, eDu6⟩
      have eB6 := s6 _ _ eB
      -- kept
      refine ⟨_, rfl, Bl, _, rfl, .inl (SqL.of eB6), fun Kp nKp => ?_⟩
      have s7 := same_new (o := .lst (B.map V.bl)) nKp
      have s67 := s6.trans s7
      have bt7 := bt3.trans (but_same s67)
      have t7 := but_tkD bt7 dr10
      have eKp : (upd H6 Kp (.lst (B.map V.bl))) Kp = some (.lst (B.map V.bl)) := upd_same
      have eDu7 := s7 _ _ eDu6
      generalize upd H6 Kp (.lst (B.map V.bl)) = H7 at s7 s67 bt7 t7 eKp eDu7
      have hgr := gtsRun_length gs B
      -- perform(gates, bits), perform(wide, bits)
      refine ⟨_, rfl, _, rfl, gl, Bl, gs, B, rfl, gAt10.but bt7 t7 n_gl_dr, s67 _ _ eB, fun G hG => (okG G hG).1.mono hMB, by omega, by omega, fun H8 p s8 np ep => ?_⟩
      refine ⟨_, rfl, p, Du, gtsRun gs B, rfl, ep, s8 _ _ eDu7, by omega, true, rfl, iteF ?_⟩
      have t8 := t7.trans (tk_same s8)
      refine ⟨_, rfl, _, rfl, wl, Bl, gs, B, rfl, wAt.but (bt7.trans (but_same s8)) t8 n_wl_dr, s8 _ _ (s67 _ _ eB), fun G hG => (okG G hG).1.mono hMB, by omega, by omega, fun H9 p2 s9 np2 ep2 => ?_⟩
      refine ⟨_, rfl, p2, Du, gtsRun gs B, rfl, ep2, s9 _ _ (s8 _ _ eDu7), by omega, true, rfl, iteF ?_⟩
      have s89 := s8.trans s9
      -- bits, kept
      refine ⟨_, rfl, _, rfl, Bl, Kp, B, rfl, s89 _ _ (s67 _ _ eB), s89 _ _ eKp, by omega, true, rfl, iteF ?_⟩
      exact ⟨_, _, _, _, _, _, rfl, bt7.trans (but_same s89), (d3.same s67).same s89⟩
    · rintro σ' H' ⟨x7, x8, x9, x10, x11, x12, rfl, bt, drh⟩
      exact q _
end
end BF
namespace BF
open PySem PySem.Spec PyProof.Rows L2
set_option maxHeartbeats 4000000 in
theorem all_mk {l : PySem.W.OpenLaw} {w : World} {K : PySem.W.Frag} {h : Heap} {mg : Str → Option Value} {fa C L : Addr} {Les : Array DictEntry} {Ln : Nat} (X : K.In h) (G : h.Ns mainGlobals mg) (hfa : mg "law" = some (.ref fa))
    {f_is_integer : Addr} {od_is_integer an_is_integer : Option Addr} {sl_is_integer : Array (Option Value)} {oc_is_integer kV_is_integer dc_is_integer pm_is_integer cd_is_integer ct_is_integer : Value}
    {f_is_number : Addr} {od_is_number an_is_number : Option Addr} {sl_is_number : Array (Option Value)} {oc_is_number kV_is_number dc_is_number pm_is_number cd_is_number ct_is_number : Value}
    {f_check_gate : Addr} {od_check_gate an_check_gate : Option Addr} {sl_check_gate : Array (Option Value)} {oc_check_gate kV_check_gate dc_check_gate pm_check_gate cd_check_gate ct_check_gate : Value}
    {f_check_bits : Addr} {od_check_bits an_check_bits : Option Addr} {sl_check_bits : Array (Option Value)} {oc_check_bits kV_check_bits dc_check_bits pm_check_bits cd_check_bits ct_check_bits : Value}
    {f_perform : Addr} {od_perform an_perform : Option Addr} {sl_perform : Array (Option Value)} {oc_perform kV_perform dc_perform pm_perform cd_perform ct_perform : Value}
    {f_check_spread : Addr} {od_check_spread an_check_spread : Option Addr} {sl_check_spread : Array (Option Value)} {oc_check_spread kV_check_spread dc_check_spread pm_check_spread cd_check_spread ct_check_spread : Value}
    {f_spread : Addr} {od_spread an_spread : Option Addr} {sl_spread : Array (Option Value)} {oc_spread kV_spread dc_spread pm_spread cd_spread ct_spread : Value}
    {f_gates_of_step : Addr} {od_gates_of_step an_gates_of_step : Option Addr} {sl_gates_of_step : Array (Option Value)} {oc_gates_of_step kV_gates_of_step dc_gates_of_step pm_gates_of_step cd_gates_of_step ct_gates_of_step : Value}
    {f_gates_of : Addr} {od_gates_of an_gates_of : Option Addr} {sl_gates_of : Array (Option Value)} {oc_gates_of kV_gates_of dc_gates_of pm_gates_of cd_gates_of ct_gates_of : Value}
    {f_is_factor : Addr} {od_is_factor an_is_factor : Option Addr} {sl_is_factor : Array (Option Value)} {oc_is_factor kV_is_factor dc_is_factor pm_is_factor cd_is_factor ct_is_factor : Value}
    {f_is_add : Addr} {od_is_add an_is_add : Option Addr} {sl_is_add : Array (Option Value)} {oc_is_add kV_is_add dc_is_add pm_is_add cd_is_add ct_is_add : Value}
    {f_is_step : Addr} {od_is_step an_is_step : Option Addr} {sl_is_step : Array (Option Value)} {oc_is_step kV_is_step dc_is_step pm_is_step cd_is_step ct_is_step : Value}
    {f_check_steps : Addr} {od_check_steps an_check_steps : Option Addr} {sl_check_steps : Array (Option Value)} {oc_check_steps kV_check_steps dc_check_steps pm_check_steps cd_check_steps ct_check_steps : Value}
    {f_pinit : Addr} {od_pinit an_pinit : Option Addr} {sl_pinit : Array (Option Value)} {oc_pinit kV_pinit dc_pinit pm_pinit cd_pinit ct_pinit : Value}
    {f_is_node : Addr} {od_is_node an_is_node : Option Addr} {sl_is_node : Array (Option Value)} {oc_is_node kV_is_node dc_is_node pm_is_node cd_is_node ct_is_node : Value}
    {f_check_source : Addr} {od_check_source an_check_source : Option Addr} {sl_check_source : Array (Option Value)} {oc_check_source kV_check_source dc_check_source pm_check_source cd_check_source ct_check_source : Value}
    {f_needs : Addr} {od_needs an_needs : Option Addr} {sl_needs : Array (Option Value)} {oc_needs kV_needs dc_needs pm_needs cd_needs ct_needs : Value}
    {f_cost : Addr} {od_cost an_cost : Option Addr} {sl_cost : Array (Option Value)} {oc_cost kV_cost dc_cost pm_cost cd_cost ct_cost : Value}
    {f_leaf_step : Addr} {od_leaf_step an_leaf_step : Option Addr} {sl_leaf_step : Array (Option Value)} {oc_leaf_step kV_leaf_step dc_leaf_step pm_leaf_step cd_leaf_step ct_leaf_step : Value}
    {f_product_tasks : Addr} {od_product_tasks an_product_tasks : Option Addr} {sl_product_tasks : Array (Option Value)} {oc_product_tasks kV_product_tasks dc_product_tasks pm_product_tasks cd_product_tasks ct_product_tasks : Value}
    {f_inner_tasks : Addr} {od_inner_tasks an_inner_tasks : Option Addr} {sl_inner_tasks : Array (Option Value)} {oc_inner_tasks kV_inner_tasks dc_inner_tasks pm_inner_tasks cd_inner_tasks ct_inner_tasks : Value}
    {f_compile_source : Addr} {od_compile_source an_compile_source : Option Addr} {sl_compile_source : Array (Option Value)} {oc_compile_source kV_compile_source dc_compile_source pm_compile_source cd_compile_source ct_compile_source : Value}
    {f_l_mixed : Addr} {od_l_mixed an_l_mixed : Option Addr} {sl_l_mixed : Array (Option Value)} {oc_l_mixed kV_l_mixed dc_l_mixed pm_l_mixed cd_l_mixed ct_l_mixed : Value}
    {f_l_numbers : Addr} {od_l_numbers an_l_numbers : Option Addr} {sl_l_numbers : Array (Option Value)} {oc_l_numbers kV_l_numbers dc_l_numbers pm_l_numbers cd_l_numbers ct_l_numbers : Value}
    {f_l_draw : Addr} {od_l_draw an_l_draw : Option Addr} {sl_l_draw : Array (Option Value)} {oc_l_draw kV_l_draw dc_l_draw pm_l_draw cd_l_draw ct_l_draw : Value}
    {f_l_equal : Addr} {od_l_equal an_l_equal : Option Addr} {sl_l_equal : Array (Option Value)} {oc_l_equal kV_l_equal dc_l_equal pm_l_equal cd_l_equal ct_l_equal : Value}
    {f_l_all_equal : Addr} {od_l_all_equal an_l_all_equal : Option Addr} {sl_l_all_equal : Array (Option Value)} {oc_l_all_equal kV_l_all_equal dc_l_all_equal pm_l_all_equal cd_l_all_equal ct_l_all_equal : Value}
    {f_l_source : Addr} {od_l_source an_l_source : Option Addr} {sl_l_source : Array (Option Value)} {oc_l_source kV_l_source dc_l_source pm_l_source cd_l_source ct_l_source : Value}
    {f_l_meaning : Addr} {od_l_meaning an_l_meaning : Option Addr} {sl_l_meaning : Array (Option Value)} {oc_l_meaning kV_l_meaning dc_l_meaning pm_l_meaning cd_l_meaning ct_l_meaning : Value}
    {f_l_needs : Addr} {od_l_needs an_l_needs : Option Addr} {sl_l_needs : Array (Option Value)} {oc_l_needs kV_l_needs dc_l_needs pm_l_needs cd_l_needs ct_l_needs : Value}
    {f_l_spread : Addr} {od_l_spread an_l_spread : Option Addr} {sl_l_spread : Array (Option Value)} {oc_l_spread kV_l_spread dc_l_spread pm_l_spread cd_l_spread ct_l_spread : Value}
    {f_law : Addr} {od_law an_law : Option Addr} {sl_law : Array (Option Value)} {oc_law kV_law dc_law pm_law cd_law ct_law : Value}
    {t_BITS t_MOST_gates t_FACTORS t_MODULUS t_CELLS t_INPUTS_programs t_STEPS t_NODES t_CONSTANT t_INPUTS_sources t_MOST_three : Tok}
    {u_const u_input u_sum u_product u_scaled u_choose : Tok}
    (aC : PySem.W.nsIn K mainGlobals "Program" = some (some (.ref C)))
    (a_is_integer : PySem.W.nsIn K mainGlobals "is_integer" = some (some (.ref f_is_integer)))
    (l_is_integer : K.lookup f_is_integer = some ⟨oc_is_integer, od_is_integer, .func (PySem.W.fnOf "is_integer" "is_integer" (defArgs s_is_integer) (defBody s_is_integer) (defScope s_is_integer) .none kV_is_integer dc_is_integer pm_is_integer an_is_integer cd_is_integer ct_is_integer), sl_is_integer⟩)
    (c_is_integer : PySem.W.codeIn K cd_is_integer "is_integer" = true) (k_is_integer : PySem.W.keepIn K (.ref f_is_integer) = true)
    (a_is_number : PySem.W.nsIn K mainGlobals "is_number" = some (some (.ref f_is_number)))
    (l_is_number : K.lookup f_is_number = some ⟨oc_is_number, od_is_number, .func (PySem.W.fnOf "is_number" "is_number" (defArgs s_is_number) (defBody s_is_number) (defScope s_is_number) .none kV_is_number dc_is_number pm_is_number an_is_number cd_is_number ct_is_number), sl_is_number⟩)
    (c_is_number : PySem.W.codeIn K cd_is_number "is_number" = true) (k_is_number : PySem.W.keepIn K (.ref f_is_number) = true)
    (a_check_gate : PySem.W.nsIn K mainGlobals "check_gate" = some (some (.ref f_check_gate)))
    (l_check_gate : K.lookup f_check_gate = some ⟨oc_check_gate, od_check_gate, .func (PySem.W.fnOf "check_gate" "check_gate" (defArgs s_check_gate) (defBody s_check_gate) (defScope s_check_gate) .none kV_check_gate dc_check_gate pm_check_gate an_check_gate cd_check_gate ct_check_gate), sl_check_gate⟩)
    (c_check_gate : PySem.W.codeIn K cd_check_gate "check_gate" = true) (k_check_gate : PySem.W.keepIn K (.ref f_check_gate) = true)
    (a_check_bits : PySem.W.nsIn K mainGlobals "check_bits" = some (some (.ref f_check_bits)))
    (l_check_bits : K.lookup f_check_bits = some ⟨oc_check_bits, od_check_bits, .func (PySem.W.fnOf "check_bits" "check_bits" (defArgs s_check_bits) (defBody s_check_bits) (defScope s_check_bits) .none kV_check_bits dc_check_bits pm_check_bits an_check_bits cd_check_bits ct_check_bits), sl_check_bits⟩)
    (c_check_bits : PySem.W.codeIn K cd_check_bits "check_bits" = true) (k_check_bits : PySem.W.keepIn K (.ref f_check_bits) = true)
    (a_perform : PySem.W.nsIn K mainGlobals "perform" = some (some (.ref f_perform)))
    (l_perform : K.lookup f_perform = some ⟨oc_perform, od_perform, .func (PySem.W.fnOf "perform" "perform" (defArgs s_perform) (defBody s_perform) (defScope s_perform) .none kV_perform dc_perform pm_perform an_perform cd_perform ct_perform), sl_perform⟩)
    (c_perform : PySem.W.codeIn K cd_perform "perform" = true) (k_perform : PySem.W.keepIn K (.ref f_perform) = true)
    (a_check_spread : PySem.W.nsIn K mainGlobals "check_spread" = some (some (.ref f_check_spread)))
    (l_check_spread : K.lookup f_check_spread = some ⟨oc_check_spread, od_check_spread, .func (PySem.W.fnOf "check_spread" "check_spread" (defArgs s_check_spread) (defBody s_check_spread) (defScope s_check_spread) .none kV_check_spread dc_check_spread pm_check_spread an_check_spread cd_check_spread ct_check_spread), sl_check_spread⟩)
    (c_check_spread : PySem.W.codeIn K cd_check_spread "check_spread" = true) (k_check_spread : PySem.W.keepIn K (.ref f_check_spread) = true)
    (a_spread : PySem.W.nsIn K mainGlobals "spread" = some (some (.ref f_spread)))
    (l_spread : K.lookup f_spread = some ⟨oc_spread, od_spread, .func (PySem.W.fnOf "spread" "spread" (defArgs s_spread) (defBody s_spread) (defScope s_spread) .none kV_spread dc_spread pm_spread an_spread cd_spread ct_spread), sl_spread⟩)
    (c_spread : PySem.W.codeIn K cd_spread "spread" = true) (k_spread : PySem.W.keepIn K (.ref f_spread) = true)
    (a_gates_of_step : PySem.W.nsIn K mainGlobals "gates_of_step" = some (some (.ref f_gates_of_step)))
    (l_gates_of_step : K.lookup f_gates_of_step = some ⟨oc_gates_of_step, od_gates_of_step, .func (PySem.W.fnOf "gates_of_step" "gates_of_step" (defArgs s_gates_of_step) (defBody s_gates_of_step) (defScope s_gates_of_step) .none kV_gates_of_step dc_gates_of_step pm_gates_of_step an_gates_of_step cd_gates_of_step ct_gates_of_step), sl_gates_of_step⟩)
    (c_gates_of_step : PySem.W.codeIn K cd_gates_of_step "gates_of_step" = true) (k_gates_of_step : PySem.W.keepIn K (.ref f_gates_of_step) = true)
    (a_gates_of : PySem.W.nsIn K mainGlobals "gates_of" = some (some (.ref f_gates_of)))
    (l_gates_of : K.lookup f_gates_of = some ⟨oc_gates_of, od_gates_of, .func (PySem.W.fnOf "gates_of" "gates_of" (defArgs s_gates_of) (defBody s_gates_of) (defScope s_gates_of) .none kV_gates_of dc_gates_of pm_gates_of an_gates_of cd_gates_of ct_gates_of), sl_gates_of⟩)
    (c_gates_of : PySem.W.codeIn K cd_gates_of "gates_of" = true) (k_gates_of : PySem.W.keepIn K (.ref f_gates_of) = true)
    (a_is_factor : PySem.W.nsIn K mainGlobals "is_factor" = some (some (.ref f_is_factor)))
    (l_is_factor : K.lookup f_is_factor = some ⟨oc_is_factor, od_is_factor, .func (PySem.W.fnOf "is_factor" "is_factor" (defArgs s_is_factor) (defBody s_is_factor) (defScope s_is_factor) .none kV_is_factor dc_is_factor pm_is_factor an_is_factor cd_is_factor ct_is_factor), sl_is_factor⟩)
    (c_is_factor : PySem.W.codeIn K cd_is_factor "is_factor" = true) (k_is_factor : PySem.W.keepIn K (.ref f_is_factor) = true)
    (a_is_add : PySem.W.nsIn K mainGlobals "is_add" = some (some (.ref f_is_add)))
    (l_is_add : K.lookup f_is_add = some ⟨oc_is_add, od_is_add, .func (PySem.W.fnOf "is_add" "is_add" (defArgs s_is_add) (defBody s_is_add) (defScope s_is_add) .none kV_is_add dc_is_add pm_is_add an_is_add cd_is_add ct_is_add), sl_is_add⟩)
    (c_is_add : PySem.W.codeIn K cd_is_add "is_add" = true) (k_is_add : PySem.W.keepIn K (.ref f_is_add) = true)
    (a_is_step : PySem.W.nsIn K mainGlobals "is_step" = some (some (.ref f_is_step)))
    (l_is_step : K.lookup f_is_step = some ⟨oc_is_step, od_is_step, .func (PySem.W.fnOf "is_step" "is_step" (defArgs s_is_step) (defBody s_is_step) (defScope s_is_step) .none kV_is_step dc_is_step pm_is_step an_is_step cd_is_step ct_is_step), sl_is_step⟩)
    (c_is_step : PySem.W.codeIn K cd_is_step "is_step" = true) (k_is_step : PySem.W.keepIn K (.ref f_is_step) = true)
    (a_check_steps : PySem.W.nsIn K mainGlobals "check_steps" = some (some (.ref f_check_steps)))
    (l_check_steps : K.lookup f_check_steps = some ⟨oc_check_steps, od_check_steps, .func (PySem.W.fnOf "check_steps" "check_steps" (defArgs s_check_steps) (defBody s_check_steps) (defScope s_check_steps) .none kV_check_steps dc_check_steps pm_check_steps an_check_steps cd_check_steps ct_check_steps), sl_check_steps⟩)
    (c_check_steps : PySem.W.codeIn K cd_check_steps "check_steps" = true) (k_check_steps : PySem.W.keepIn K (.ref f_check_steps) = true)
    (a_pinit : PySem.W.findIn K (.ref C) "__init__" = some (some (.ref f_pinit))) (i_pinit : PySem.W.isFn K (.ref f_pinit) = true)
    (l_pinit : K.lookup f_pinit = some ⟨oc_pinit, od_pinit, .func (PySem.W.fnOf "__init__" "Program.__init__" (defArgs s_pinit) (defBody s_pinit) (defScope s_pinit) .none kV_pinit dc_pinit pm_pinit an_pinit cd_pinit ct_pinit), sl_pinit⟩)
    (c_pinit : PySem.W.codeIn K cd_pinit "Program.__init__" = true) (k_pinit : PySem.W.keepIn K (.ref f_pinit) = true)
    (a_is_node : PySem.W.nsIn K mainGlobals "is_node" = some (some (.ref f_is_node)))
    (l_is_node : K.lookup f_is_node = some ⟨oc_is_node, od_is_node, .func (PySem.W.fnOf "is_node" "is_node" (defArgs s_is_node) (defBody s_is_node) (defScope s_is_node) .none kV_is_node dc_is_node pm_is_node an_is_node cd_is_node ct_is_node), sl_is_node⟩)
    (c_is_node : PySem.W.codeIn K cd_is_node "is_node" = true) (k_is_node : PySem.W.keepIn K (.ref f_is_node) = true)
    (a_check_source : PySem.W.nsIn K mainGlobals "check_source" = some (some (.ref f_check_source)))
    (l_check_source : K.lookup f_check_source = some ⟨oc_check_source, od_check_source, .func (PySem.W.fnOf "check_source" "check_source" (defArgs s_check_source) (defBody s_check_source) (defScope s_check_source) .none kV_check_source dc_check_source pm_check_source an_check_source cd_check_source ct_check_source), sl_check_source⟩)
    (c_check_source : PySem.W.codeIn K cd_check_source "check_source" = true) (k_check_source : PySem.W.keepIn K (.ref f_check_source) = true)
    (a_needs : PySem.W.nsIn K mainGlobals "needs" = some (some (.ref f_needs)))
    (l_needs : K.lookup f_needs = some ⟨oc_needs, od_needs, .func (PySem.W.fnOf "needs" "needs" (defArgs s_needs) (defBody s_needs) (defScope s_needs) .none kV_needs dc_needs pm_needs an_needs cd_needs ct_needs), sl_needs⟩)
    (c_needs : PySem.W.codeIn K cd_needs "needs" = true) (k_needs : PySem.W.keepIn K (.ref f_needs) = true)
    (a_cost : PySem.W.nsIn K mainGlobals "cost" = some (some (.ref f_cost)))
    (l_cost : K.lookup f_cost = some ⟨oc_cost, od_cost, .func (PySem.W.fnOf "cost" "cost" (defArgs s_cost) (defBody s_cost) (defScope s_cost) .none kV_cost dc_cost pm_cost an_cost cd_cost ct_cost), sl_cost⟩)
    (c_cost : PySem.W.codeIn K cd_cost "cost" = true) (k_cost : PySem.W.keepIn K (.ref f_cost) = true)
    (a_leaf_step : PySem.W.nsIn K mainGlobals "leaf_step" = some (some (.ref f_leaf_step)))
    (l_leaf_step : K.lookup f_leaf_step = some ⟨oc_leaf_step, od_leaf_step, .func (PySem.W.fnOf "leaf_step" "leaf_step" (defArgs s_leaf_step) (defBody s_leaf_step) (defScope s_leaf_step) .none kV_leaf_step dc_leaf_step pm_leaf_step an_leaf_step cd_leaf_step ct_leaf_step), sl_leaf_step⟩)
    (c_leaf_step : PySem.W.codeIn K cd_leaf_step "leaf_step" = true) (k_leaf_step : PySem.W.keepIn K (.ref f_leaf_step) = true)
    (a_product_tasks : PySem.W.nsIn K mainGlobals "product_tasks" = some (some (.ref f_product_tasks)))
    (l_product_tasks : K.lookup f_product_tasks = some ⟨oc_product_tasks, od_product_tasks, .func (PySem.W.fnOf "product_tasks" "product_tasks" (defArgs s_product_tasks) (defBody s_product_tasks) (defScope s_product_tasks) .none kV_product_tasks dc_product_tasks pm_product_tasks an_product_tasks cd_product_tasks ct_product_tasks), sl_product_tasks⟩)
    (c_product_tasks : PySem.W.codeIn K cd_product_tasks "product_tasks" = true) (k_product_tasks : PySem.W.keepIn K (.ref f_product_tasks) = true)
    (a_inner_tasks : PySem.W.nsIn K mainGlobals "inner_tasks" = some (some (.ref f_inner_tasks)))
    (l_inner_tasks : K.lookup f_inner_tasks = some ⟨oc_inner_tasks, od_inner_tasks, .func (PySem.W.fnOf "inner_tasks" "inner_tasks" (defArgs s_inner_tasks) (defBody s_inner_tasks) (defScope s_inner_tasks) .none kV_inner_tasks dc_inner_tasks pm_inner_tasks an_inner_tasks cd_inner_tasks ct_inner_tasks), sl_inner_tasks⟩)
    (c_inner_tasks : PySem.W.codeIn K cd_inner_tasks "inner_tasks" = true) (k_inner_tasks : PySem.W.keepIn K (.ref f_inner_tasks) = true)
    (a_compile_source : PySem.W.nsIn K mainGlobals "compile_source" = some (some (.ref f_compile_source)))
    (l_compile_source : K.lookup f_compile_source = some ⟨oc_compile_source, od_compile_source, .func (PySem.W.fnOf "compile_source" "compile_source" (defArgs s_compile_source) (defBody s_compile_source) (defScope s_compile_source) .none kV_compile_source dc_compile_source pm_compile_source an_compile_source cd_compile_source ct_compile_source), sl_compile_source⟩)
    (c_compile_source : PySem.W.codeIn K cd_compile_source "compile_source" = true) (k_compile_source : PySem.W.keepIn K (.ref f_compile_source) = true)
    (a_l_mixed : PySem.W.nsIn K mainGlobals "_law_mixed" = some (some (.ref f_l_mixed)))
    (l_l_mixed : K.lookup f_l_mixed = some ⟨oc_l_mixed, od_l_mixed, .func (PySem.W.fnOf "_law_mixed" "_law_mixed" (defArgs s_l_mixed) (defBody s_l_mixed) (defScope s_l_mixed) .none kV_l_mixed dc_l_mixed pm_l_mixed an_l_mixed cd_l_mixed ct_l_mixed), sl_l_mixed⟩)
    (c_l_mixed : PySem.W.codeIn K cd_l_mixed "_law_mixed" = true) (k_l_mixed : PySem.W.keepIn K (.ref f_l_mixed) = true)
    (a_l_numbers : PySem.W.nsIn K mainGlobals "_law_numbers" = some (some (.ref f_l_numbers)))
    (l_l_numbers : K.lookup f_l_numbers = some ⟨oc_l_numbers, od_l_numbers, .func (PySem.W.fnOf "_law_numbers" "_law_numbers" (defArgs s_l_numbers) (defBody s_l_numbers) (defScope s_l_numbers) .none kV_l_numbers dc_l_numbers pm_l_numbers an_l_numbers cd_l_numbers ct_l_numbers), sl_l_numbers⟩)
    (c_l_numbers : PySem.W.codeIn K cd_l_numbers "_law_numbers" = true) (k_l_numbers : PySem.W.keepIn K (.ref f_l_numbers) = true)
    (a_l_draw : PySem.W.nsIn K mainGlobals "_law_draw" = some (some (.ref f_l_draw)))
    (l_l_draw : K.lookup f_l_draw = some ⟨oc_l_draw, od_l_draw, .func (PySem.W.fnOf "_law_draw" "_law_draw" (defArgs s_l_draw) (defBody s_l_draw) (defScope s_l_draw) .none kV_l_draw dc_l_draw pm_l_draw an_l_draw cd_l_draw ct_l_draw), sl_l_draw⟩)
    (c_l_draw : PySem.W.codeIn K cd_l_draw "_law_draw" = true) (k_l_draw : PySem.W.keepIn K (.ref f_l_draw) = true)
    (a_l_equal : PySem.W.nsIn K mainGlobals "_law_equal" = some (some (.ref f_l_equal)))
    (l_l_equal : K.lookup f_l_equal = some ⟨oc_l_equal, od_l_equal, .func (PySem.W.fnOf "_law_equal" "_law_equal" (defArgs s_l_equal) (defBody s_l_equal) (defScope s_l_equal) .none kV_l_equal dc_l_equal pm_l_equal an_l_equal cd_l_equal ct_l_equal), sl_l_equal⟩)
    (c_l_equal : PySem.W.codeIn K cd_l_equal "_law_equal" = true) (k_l_equal : PySem.W.keepIn K (.ref f_l_equal) = true)
    (a_l_all_equal : PySem.W.nsIn K mainGlobals "_law_all_equal" = some (some (.ref f_l_all_equal)))
    (l_l_all_equal : K.lookup f_l_all_equal = some ⟨oc_l_all_equal, od_l_all_equal, .func (PySem.W.fnOf "_law_all_equal" "_law_all_equal" (defArgs s_l_all_equal) (defBody s_l_all_equal) (defScope s_l_all_equal) .none kV_l_all_equal dc_l_all_equal pm_l_all_equal an_l_all_equal cd_l_all_equal ct_l_all_equal), sl_l_all_equal⟩)
    (c_l_all_equal : PySem.W.codeIn K cd_l_all_equal "_law_all_equal" = true) (k_l_all_equal : PySem.W.keepIn K (.ref f_l_all_equal) = true)
    (a_l_source : PySem.W.nsIn K mainGlobals "_law_source" = some (some (.ref f_l_source)))
    (l_l_source : K.lookup f_l_source = some ⟨oc_l_source, od_l_source, .func (PySem.W.fnOf "_law_source" "_law_source" (defArgs s_l_source) (defBody s_l_source) (defScope s_l_source) .none kV_l_source dc_l_source pm_l_source an_l_source cd_l_source ct_l_source), sl_l_source⟩)
    (c_l_source : PySem.W.codeIn K cd_l_source "_law_source" = true) (k_l_source : PySem.W.keepIn K (.ref f_l_source) = true)
    (a_l_meaning : PySem.W.nsIn K mainGlobals "_law_meaning" = some (some (.ref f_l_meaning)))
    (l_l_meaning : K.lookup f_l_meaning = some ⟨oc_l_meaning, od_l_meaning, .func (PySem.W.fnOf "_law_meaning" "_law_meaning" (defArgs s_l_meaning) (defBody s_l_meaning) (defScope s_l_meaning) .none kV_l_meaning dc_l_meaning pm_l_meaning an_l_meaning cd_l_meaning ct_l_meaning), sl_l_meaning⟩)
    (c_l_meaning : PySem.W.codeIn K cd_l_meaning "_law_meaning" = true) (k_l_meaning : PySem.W.keepIn K (.ref f_l_meaning) = true)
    (a_l_needs : PySem.W.nsIn K mainGlobals "_law_needs" = some (some (.ref f_l_needs)))
    (l_l_needs : K.lookup f_l_needs = some ⟨oc_l_needs, od_l_needs, .func (PySem.W.fnOf "_law_needs" "_law_needs" (defArgs s_l_needs) (defBody s_l_needs) (defScope s_l_needs) .none kV_l_needs dc_l_needs pm_l_needs an_l_needs cd_l_needs ct_l_needs), sl_l_needs⟩)
    (c_l_needs : PySem.W.codeIn K cd_l_needs "_law_needs" = true) (k_l_needs : PySem.W.keepIn K (.ref f_l_needs) = true)
    (a_l_spread : PySem.W.nsIn K mainGlobals "_law_spread" = some (some (.ref f_l_spread)))
    (l_l_spread : K.lookup f_l_spread = some ⟨oc_l_spread, od_l_spread, .func (PySem.W.fnOf "_law_spread" "_law_spread" (defArgs s_l_spread) (defBody s_l_spread) (defScope s_l_spread) .none kV_l_spread dc_l_spread pm_l_spread an_l_spread cd_l_spread ct_l_spread), sl_l_spread⟩)
    (c_l_spread : PySem.W.codeIn K cd_l_spread "_law_spread" = true) (k_l_spread : PySem.W.keepIn K (.ref f_l_spread) = true)
    (a_law : PySem.W.nsIn K mainGlobals "law" = some (some (.ref f_law)))
    (l_law : K.lookup f_law = some ⟨oc_law, od_law, .func (PySem.W.fnOf "law" "law" (defArgs s_law) (defBody s_law) (defScope s_law) .none kV_law dc_law pm_law an_law cd_law ct_law), sl_law⟩)
    (c_law : PySem.W.codeIn K cd_law "law" = true) (k_law : PySem.W.keepIn K (.ref f_law) = true)
    (pg : PySem.W.plainGet K C Str.empty = true) (hd : PySem.W.hasDictIn K C = true) (po : PySem.W.plainOver K C = true) (sa : PySem.W.findIn K (.ref C) "__setattr__" = some (some (.builtin "object.__setattr__"))) (mk : PySem.W.makesIn K C = true) (kc : PySem.W.keepIn K (.ref C) = true)
    (n_modulus : PySem.W.findIn K (.ref C) "modulus" = some none)
    (n_cells : PySem.W.findIn K (.ref C) "cells" = some none)
    (n_inputs : PySem.W.findIn K (.ref C) "inputs" = some none)
    (n_steps : PySem.W.findIn K (.ref C) "steps" = some none)
    (e_BITS : PySem.W.nsIn K mainGlobals "BITS" = some (some (.int 120 t_BITS)))
    (e_MOST_gates : PySem.W.nsIn K mainGlobals "MOST_gates" = some (some (.int 60000 t_MOST_gates)))
    (e_FACTORS : PySem.W.nsIn K mainGlobals "FACTORS" = some (some (.int 3 t_FACTORS)))
    (e_MODULUS : PySem.W.nsIn K mainGlobals "MODULUS" = some (some (.int 1000000000 t_MODULUS)))
    (e_CELLS : PySem.W.nsIn K mainGlobals "CELLS" = some (some (.int 60 t_CELLS)))
    (e_INPUTS_programs : PySem.W.nsIn K mainGlobals "INPUTS_programs" = some (some (.int 60 t_INPUTS_programs)))
    (e_STEPS : PySem.W.nsIn K mainGlobals "STEPS" = some (some (.int 20000 t_STEPS)))
    (e_NODES : PySem.W.nsIn K mainGlobals "NODES" = some (some (.int 200 t_NODES)))
    (e_CONSTANT : PySem.W.nsIn K mainGlobals "CONSTANT" = some (some (.int 1000000000 t_CONSTANT)))
    (e_INPUTS_sources : PySem.W.nsIn K mainGlobals "INPUTS_sources" = some (some (.int 60 t_INPUTS_sources)))
    (e_MOST_three : PySem.W.nsIn K mainGlobals "MOST_three" = some (some (.int 20000 t_MOST_three)))
    (aL : PySem.W.nsIn K mainGlobals "LENGTHS" = some (some (.ref L)))
    (lL : K.lookup L = some ⟨.type "dict", none, .dict Les Ln, #[]⟩) (kL : PySem.W.KeysLit w.params Les.toList) (oL : (L == sysModules) = false)
    (j_const : PySem.W.nsIn K L "const" = some (some (.int 2 u_const)))
    (j_input : PySem.W.nsIn K L "input" = some (some (.int 2 u_input)))
    (j_sum : PySem.W.nsIn K L "sum" = some (some (.int 3 u_sum)))
    (j_product : PySem.W.nsIn K L "product" = some (some (.int 3 u_product)))
    (j_scaled : PySem.W.nsIn K L "scaled" = some (some (.int 3 u_scaled)))
    (j_choose : PySem.W.nsIn K L "choose" = some (some (.int 4 u_choose)))
    (z_isinstance : PySem.W.nsIn K mainGlobals "isinstance" = some none)
    (z_int : PySem.W.nsIn K mainGlobals "int" = some none)
    (z_bool : PySem.W.nsIn K mainGlobals "bool" = some none)
    (z_tuple : PySem.W.nsIn K mainGlobals "tuple" = some none)
    (z_list : PySem.W.nsIn K mainGlobals "list" = some none)
    (z_str : PySem.W.nsIn K mainGlobals "str" = some none)
    (z_len : PySem.W.nsIn K mainGlobals "len" = some none)
    (z_max : PySem.W.nsIn K mainGlobals "max" = some none)
    (z_min : PySem.W.nsIn K mainGlobals "min" = some none)
    (z_sorted : PySem.W.nsIn K mainGlobals "sorted" = some none)
    (z_all : PySem.W.nsIn K mainGlobals "all" = some none)
    (z_range : PySem.W.nsIn K mainGlobals "range" = some none)
    (z_enumerate : PySem.W.nsIn K mainGlobals "enumerate" = some none)
    : ∃ fd : FuncData, (∀ (s : Shared) (v : Value), BindsTo s fd ⟨[v], []⟩ [("_law_script", v)]) ∧ ∀ base : Heap, K.In base → base.Ns mainGlobals mg → FnOk l.prog w K mg base CX0 12 fa fd ["_law_script"] (spLaw K) := by
  have e := hfa.symm.trans (PySem.W.mg_of X G a_law)
  cases e
  have F_is_integer := fun_mk (st := s_is_integer) l_is_integer c_is_integer k_is_integer
  have b_is_integer := F_is_integer.binds (ps := ["value"]) fun _ _ _ _ _ _ us hl => match us, hl with | [_], _ => rfl
  have F_is_number := fun_mk (st := s_is_number) l_is_number c_is_number k_is_number
  have b_is_number := F_is_number.binds (ps := ["value", "modulus"]) fun _ _ _ _ _ _ us hl => match us, hl with | [_, _], _ => rfl
  have F_check_gate := fun_mk (st := s_check_gate) l_check_gate c_check_gate k_check_gate
  have b_check_gate := F_check_gate.binds (ps := ["gate", "bits"]) fun _ _ _ _ _ _ us hl => match us, hl with | [_, _], _ => rfl
  have F_check_bits := fun_mk (st := s_check_bits) l_check_bits c_check_bits k_check_bits
  have b_check_bits := F_check_bits.binds (ps := ["bits"]) fun _ _ _ _ _ _ us hl => match us, hl with | [_], _ => rfl
  have F_perform := fun_mk (st := s_perform) l_perform c_perform k_perform
  have b_perform := F_perform.binds (ps := ["gates", "bits"]) fun _ _ _ _ _ _ us hl => match us, hl with | [_, _], _ => rfl
  have F_check_spread := fun_mk (st := s_check_spread) l_check_spread c_check_spread k_check_spread
  have b_check_spread := F_check_spread.binds (ps := ["target", "controls", "borrowed"]) fun _ _ _ _ _ _ us hl => match us, hl with | [_, _, _], _ => rfl
  have F_spread := fun_mk (st := s_spread) l_spread c_spread k_spread
  have b_spread := F_spread.binds (ps := ["target", "controls", "borrowed"]) fun _ _ _ _ _ _ us hl => match us, hl with | [_, _, _], _ => rfl
  have F_gates_of_step := fun_mk (st := s_gates_of_step) l_gates_of_step c_gates_of_step k_gates_of_step
  have b_gates_of_step := F_gates_of_step.binds (ps := ["step", "inputs"]) fun _ _ _ _ _ _ us hl => match us, hl with | [_, _], _ => rfl
  have F_gates_of := fun_mk (st := s_gates_of) l_gates_of c_gates_of k_gates_of
  have b_gates_of := F_gates_of.binds (ps := ["program"]) fun _ _ _ _ _ _ us hl => match us, hl with | [_], _ => rfl
  have F_is_factor := fun_mk (st := s_is_factor) l_is_factor c_is_factor k_is_factor
  have b_is_factor := F_is_factor.binds (ps := ["factor", "target", "cells", "inputs"]) fun _ _ _ _ _ _ us hl => match us, hl with | [_, _, _, _], _ => rfl
  have F_is_add := fun_mk (st := s_is_add) l_is_add c_is_add k_is_add
  have b_is_add := F_is_add.binds (ps := ["step", "modulus", "cells", "inputs"]) fun _ _ _ _ _ _ us hl => match us, hl with | [_, _, _, _], _ => rfl
  have F_is_step := fun_mk (st := s_is_step) l_is_step c_is_step k_is_step
  have b_is_step := F_is_step.binds (ps := ["step", "modulus", "cells", "inputs"]) fun _ _ _ _ _ _ us hl => match us, hl with | [_, _, _, _], _ => rfl
  have F_check_steps := fun_mk (st := s_check_steps) l_check_steps c_check_steps k_check_steps
  have b_check_steps := F_check_steps.binds (ps := ["steps", "modulus", "cells", "inputs", "most"]) fun _ _ _ _ _ _ us hl => match us, hl with | [_, _, _, _, _], _ => rfl
  have F_pinit := fun_mk (st := s_pinit) l_pinit c_pinit k_pinit
  have b_pinit := F_pinit.binds (ps := ["self", "modulus", "cells", "inputs", "steps"]) fun _ _ _ _ _ _ us hl => match us, hl with | [_, _, _, _, _], _ => rfl
  have F_is_node := fun_mk (st := s_is_node) l_is_node c_is_node k_is_node
  have b_is_node := F_is_node.binds (ps := ["node", "at"]) fun _ _ _ _ _ _ us hl => match us, hl with | [_, _], _ => rfl
  have F_check_source := fun_mk (st := s_check_source) l_check_source c_check_source k_check_source
  have b_check_source := F_check_source.binds (ps := ["source"]) fun _ _ _ _ _ _ us hl => match us, hl with | [_], _ => rfl
  have F_needs := fun_mk (st := s_needs) l_needs c_needs k_needs
  have b_needs := F_needs.binds (ps := ["source"]) fun _ _ _ _ _ _ us hl => match us, hl with | [_], _ => rfl
  have F_cost := fun_mk (st := s_cost) l_cost c_cost k_cost
  have b_cost := F_cost.binds (ps := ["source"]) fun _ _ _ _ _ _ us hl => match us, hl with | [_], _ => rfl
  have F_leaf_step := fun_mk (st := s_leaf_step) l_leaf_step c_leaf_step k_leaf_step
  have b_leaf_step := F_leaf_step.binds (ps := ["node", "task", "modulus"]) fun _ _ _ _ _ _ us hl => match us, hl with | [_, _, _], _ => rfl
  have F_product_tasks := fun_mk (st := s_product_tasks) l_product_tasks c_product_tasks k_product_tasks
  have b_product_tasks := F_product_tasks.binds (ps := ["first", "second", "task", "modulus"]) fun _ _ _ _ _ _ us hl => match us, hl with | [_, _, _, _], _ => rfl
  have F_inner_tasks := fun_mk (st := s_inner_tasks) l_inner_tasks c_inner_tasks k_inner_tasks
  have b_inner_tasks := F_inner_tasks.binds (ps := ["node", "task", "modulus"]) fun _ _ _ _ _ _ us hl => match us, hl with | [_, _, _], _ => rfl
  have F_compile_source := fun_mk (st := s_compile_source) l_compile_source c_compile_source k_compile_source
  have b_compile_source := F_compile_source.binds (ps := ["source", "modulus"]) fun _ _ _ _ _ _ us hl => match us, hl with | [_, _], _ => rfl
  have F_l_mixed := fun_mk (st := s_l_mixed) l_l_mixed c_l_mixed k_l_mixed
  have b_l_mixed := F_l_mixed.binds (ps := ["_law_number", "_law_k"]) fun _ _ _ _ _ _ us hl => match us, hl with | [_, _], _ => rfl
  have F_l_numbers := fun_mk (st := s_l_numbers) l_l_numbers c_l_numbers k_l_numbers
  have b_l_numbers := F_l_numbers.binds (ps := ["_law_script"]) fun _ _ _ _ _ _ us hl => match us, hl with | [_], _ => rfl
  have F_l_draw := fun_mk (st := s_l_draw) l_l_draw c_l_draw k_l_draw
  have b_l_draw := F_l_draw.binds (ps := ["_law_draws"]) fun _ _ _ _ _ _ us hl => match us, hl with | [_], _ => rfl
  have F_l_equal := fun_mk (st := s_l_equal) l_l_equal c_l_equal k_l_equal
  have b_l_equal := F_l_equal.binds (ps := ["_law_actual", "_law_due"]) fun _ _ _ _ _ _ us hl => match us, hl with | [_, _], _ => rfl
  have F_l_all_equal := fun_mk (st := s_l_all_equal) l_l_all_equal c_l_all_equal k_l_all_equal
  have b_l_all_equal := F_l_all_equal.binds (ps := ["_law_actual", "_law_due"]) fun _ _ _ _ _ _ us hl => match us, hl with | [_, _], _ => rfl
  have F_l_source := fun_mk (st := s_l_source) l_l_source c_l_source k_l_source
  have b_l_source := F_l_source.binds (ps := ["_law_draws", "_law_many", "_law_inputs"]) fun _ _ _ _ _ _ us hl => match us, hl with | [_, _, _], _ => rfl
  have F_l_meaning := fun_mk (st := s_l_meaning) l_l_meaning c_l_meaning k_l_meaning
  have b_l_meaning := F_l_meaning.binds (ps := ["_law_source_here", "_law_modulus", "_law_given"]) fun _ _ _ _ _ _ us hl => match us, hl with | [_, _, _], _ => rfl
  have F_l_needs := fun_mk (st := s_l_needs) l_l_needs c_l_needs k_l_needs
  have b_l_needs := F_l_needs.binds (ps := ["_law_source_here"]) fun _ _ _ _ _ _ us hl => match us, hl with | [_], _ => rfl
  have F_l_spread := fun_mk (st := s_l_spread) l_l_spread c_l_spread k_l_spread
  have b_l_spread := F_l_spread.binds (ps := ["_law_draws", "_law_gates", "_law_many"]) fun _ _ _ _ _ _ us hl => match us, hl with | [_, _, _], _ => rfl
  have F_law := fun_mk (st := s_law) l_law c_law k_law
  have T : Txt w K mg ⟨f_is_integer, _, f_is_number, _, f_check_gate, _, f_check_bits, _, f_perform, _, f_check_spread, _, f_spread, _, f_gates_of_step, _, f_gates_of, _, f_is_factor, _, f_is_add, _, f_is_step, _, f_check_steps, _, f_pinit, _, f_is_node, _, f_check_source, _, f_needs, _, f_cost, _, f_leaf_step, _, f_product_tasks, _, f_inner_tasks, _, f_compile_source, _, f_l_mixed, _, f_l_numbers, _, f_l_draw, _, f_l_equal, _, f_l_all_equal, _, f_l_source, _, f_l_meaning, _, f_l_needs, _, f_l_spread, _, C, L, Les, Ln, t_BITS, t_MOST_gates, t_FACTORS, t_MODULUS, t_CELLS, t_INPUTS_programs, t_STEPS, t_NODES, t_CONSTANT, t_INPUTS_sources, t_MOST_three, u_const, u_input, u_sum, u_product, u_scaled, u_choose⟩ := ⟨F_is_integer, b_is_integer, PySem.W.mg_of X G a_is_integer, F_is_number, b_is_number, PySem.W.mg_of X G a_is_number, F_check_gate, b_check_gate, PySem.W.mg_of X G a_check_gate, F_check_bits, b_check_bits, PySem.W.mg_of X G a_check_bits, F_perform, b_perform, PySem.W.mg_of X G a_perform, F_check_spread, b_check_spread, PySem.W.mg_of X G a_check_spread, F_spread, b_spread, PySem.W.mg_of X G a_spread, F_gates_of_step, b_gates_of_step, PySem.W.mg_of X G a_gates_of_step, F_gates_of, b_gates_of, PySem.W.mg_of X G a_gates_of, F_is_factor, b_is_factor, PySem.W.mg_of X G a_is_factor, F_is_add, b_is_add, PySem.W.mg_of X G a_is_add, F_is_step, b_is_step, PySem.W.mg_of X G a_is_step, F_check_steps, b_check_steps, PySem.W.mg_of X G a_check_steps, F_pinit, b_pinit, F_is_node, b_is_node, PySem.W.mg_of X G a_is_node, F_check_source, b_check_source, PySem.W.mg_of X G a_check_source, F_needs, b_needs, PySem.W.mg_of X G a_needs, F_cost, b_cost, PySem.W.mg_of X G a_cost, F_leaf_step, b_leaf_step, PySem.W.mg_of X G a_leaf_step, F_product_tasks, b_product_tasks, PySem.W.mg_of X G a_product_tasks, F_inner_tasks, b_inner_tasks, PySem.W.mg_of X G a_inner_tasks, F_compile_source, b_compile_source, PySem.W.mg_of X G a_compile_source, F_l_mixed, b_l_mixed, PySem.W.mg_of X G a_l_mixed, F_l_numbers, b_l_numbers, PySem.W.mg_of X G a_l_numbers, F_l_draw, b_l_draw, PySem.W.mg_of X G a_l_draw, F_l_equal, b_l_equal, PySem.W.mg_of X G a_l_equal, F_l_all_equal, b_l_all_equal, PySem.W.mg_of X G a_l_all_equal, F_l_source, b_l_source, PySem.W.mg_of X G a_l_source, F_l_meaning, b_l_meaning, PySem.W.mg_of X G a_l_meaning, F_l_needs, b_l_needs, PySem.W.mg_of X G a_l_needs, F_l_spread, b_l_spread, PySem.W.mg_of X G a_l_spread, PySem.W.mg_of X G aC, ⟨pg, hd, po, sa⟩, ⟨mk, a_pinit, i_pinit, kc⟩, n_modulus, n_cells, n_inputs, n_steps, PySem.W.mg_of X G e_BITS, PySem.W.mg_of X G e_MOST_gates, PySem.W.mg_of X G e_FACTORS, PySem.W.mg_of X G e_MODULUS, PySem.W.mg_of X G e_CELLS, PySem.W.mg_of X G e_INPUTS_programs, PySem.W.mg_of X G e_STEPS, PySem.W.mg_of X G e_NODES, PySem.W.mg_of X G e_CONSTANT, PySem.W.mg_of X G e_INPUTS_sources, PySem.W.mg_of X G e_MOST_three, PySem.W.mg_of X G aL, ⟨lL, kL, oL⟩, j_const, j_input, j_sum, j_product, j_scaled, j_choose, PySem.W.mg_none_of X G z_isinstance, PySem.W.mg_none_of X G z_int, PySem.W.mg_none_of X G z_bool, PySem.W.mg_none_of X G z_tuple, PySem.W.mg_none_of X G z_list, PySem.W.mg_none_of X G z_str, PySem.W.mg_none_of X G z_len, PySem.W.mg_none_of X G z_max, PySem.W.mg_none_of X G z_min, PySem.W.mg_none_of X G z_sorted, PySem.W.mg_none_of X G z_all, PySem.W.mg_none_of X G z_range, PySem.W.mg_none_of X G z_enumerate⟩
  exact ⟨_, fun s v => .of_eq rfl, fun base _ _ => ok_law F_law T⟩
end BF
open PySem PySem.W PyProof.Rows
set_option maxHeartbeats 0
open_top hd for PySem.Challenge.rw_brimful_k36_whole_sources_on_borrowed_bi
theorem PySem.Challenge.cw_brimful_k36_whole_sources_on_borrowed_bi_holds : PySem.Challenge.rw_brimful_k36_whole_sources_on_borrowed_bi.Holds := by
  refine hd ?_
  refine L2.walk_of (l := PySem.Challenge.rw_brimful_k36_whole_sources_on_borrowed_bi) (n := 63) (k := 12) (x := "_law_script") (CX := fun _ => L2.CX0) (sp := fun w => BF.spLaw _) rfl (by decide) rfl ⟨rfl, by decide, by decide⟩ (fun w h Y => PySem.W.kIn_of Y) ?F (fun _ _ a ns hl _ hS => ⟨a, ns, rfl, hS, hl, fun _ => rfl⟩) (fun _ _ _ _ _ h => h)
  case F =>
    intro w mg fa h KX G hmg
    refine' BF.all_mk KX G hmg ?aC ?a_is_integer ?l_is_integer ?c_is_integer ?k_is_integer ?a_is_number ?l_is_number ?c_is_number ?k_is_number ?a_check_gate ?l_check_gate ?c_check_gate ?k_check_gate ?a_check_bits ?l_check_bits ?c_check_bits ?k_check_bits ?a_perform ?l_perform ?c_perform ?k_perform ?a_check_spread ?l_check_spread ?c_check_spread ?k_check_spread ?a_spread ?l_spread ?c_spread ?k_spread ?a_gates_of_step ?l_gates_of_step ?c_gates_of_step ?k_gates_of_step ?a_gates_of ?l_gates_of ?c_gates_of ?k_gates_of ?a_is_factor ?l_is_factor ?c_is_factor ?k_is_factor ?a_is_add ?l_is_add ?c_is_add ?k_is_add ?a_is_step ?l_is_step ?c_is_step ?k_is_step ?a_check_steps ?l_check_steps ?c_check_steps ?k_check_steps ?a_pinit ?i_pinit ?l_pinit ?c_pinit ?k_pinit ?a_is_node ?l_is_node ?c_is_node ?k_is_node ?a_check_source ?l_check_source ?c_check_source ?k_check_source ?a_needs ?l_needs ?c_needs ?k_needs ?a_cost ?l_cost ?c_cost ?k_cost ?a_leaf_step ?l_leaf_step ?c_leaf_step ?k_leaf_step ?a_product_tasks ?l_product_tasks ?c_product_tasks ?k_product_tasks ?a_inner_tasks ?l_inner_tasks ?c_inner_tasks ?k_inner_tasks ?a_compile_source ?l_compile_source ?c_compile_source ?k_compile_source ?a_l_mixed ?l_l_mixed ?c_l_mixed ?k_l_mixed ?a_l_numbers ?l_l_numbers ?c_l_numbers ?k_l_numbers ?a_l_draw ?l_l_draw ?c_l_draw ?k_l_draw ?a_l_equal ?l_l_equal ?c_l_equal ?k_l_equal ?a_l_all_equal ?l_l_all_equal ?c_l_all_equal ?k_l_all_equal ?a_l_source ?l_l_source ?c_l_source ?k_l_source ?a_l_meaning ?l_l_meaning ?c_l_meaning ?k_l_meaning ?a_l_needs ?l_l_needs ?c_l_needs ?k_l_needs ?a_l_spread ?l_l_spread ?c_l_spread ?k_l_spread ?a_law ?l_law ?c_law ?k_law ?pg ?hd ?po ?sa ?mk ?kc ?n_modulus ?n_cells ?n_inputs ?n_steps ?e_BITS ?e_MOST_gates ?e_FACTORS ?e_MODULUS ?e_CELLS ?e_INPUTS_programs ?e_STEPS ?e_NODES ?e_CONSTANT ?e_INPUTS_sources ?e_MOST_three ?aL ?lL ?kL ?oL ?j_const ?j_input ?j_sum ?j_product ?j_scaled ?j_choose ?z_isinstance ?z_int ?z_bool ?z_tuple ?z_list ?z_str ?z_len ?z_max ?z_min ?z_sorted ?z_all ?z_range ?z_enumerate
    (case aC => k_is)
    (case a_is_integer => k_is)
    (case l_is_integer => k_is)
    (case c_is_integer => k_is)
    (case k_is_integer => k_is)
    (case a_is_number => k_is)
    (case l_is_number => k_is)
    (case c_is_number => k_is)
    (case k_is_number => k_is)
    (case a_check_gate => k_is)
    (case l_check_gate => k_is)
    (case c_check_gate => k_is)
    (case k_check_gate => k_is)
    (case a_check_bits => k_is)
    (case l_check_bits => k_is)
    (case c_check_bits => k_is)
    (case k_check_bits => k_is)
    (case a_perform => k_is)
    (case l_perform => k_is)
    (case c_perform => k_is)
    (case k_perform => k_is)
    (case a_check_spread => k_is)
    (case l_check_spread => k_is)
    (case c_check_spread => k_is)
    (case k_check_spread => k_is)
    (case a_spread => k_is)
    (case l_spread => k_is)
    (case c_spread => k_is)
    (case k_spread => k_is)
    (case a_gates_of_step => k_is)
    (case l_gates_of_step => k_is)
    (case c_gates_of_step => k_is)
    (case k_gates_of_step => k_is)
    (case a_gates_of => k_is)
    (case l_gates_of => k_is)
    (case c_gates_of => k_is)
    (case k_gates_of => k_is)
    (case a_is_factor => k_is)
    (case l_is_factor => k_is)
    (case c_is_factor => k_is)
    (case k_is_factor => k_is)
    (case a_is_add => k_is)
    (case l_is_add => k_is)
    (case c_is_add => k_is)
    (case k_is_add => k_is)
    (case a_is_step => k_is)
    (case l_is_step => k_is)
    (case c_is_step => k_is)
    (case k_is_step => k_is)
    (case a_check_steps => k_is)
    (case l_check_steps => k_is)
    (case c_check_steps => k_is)
    (case k_check_steps => k_is)
    (case a_pinit => k_is)
    (case i_pinit => k_is)
    (case l_pinit => k_is)
    (case c_pinit => k_is)
    (case k_pinit => k_is)
    (case a_is_node => k_is)
    (case l_is_node => k_is)
    (case c_is_node => k_is)
    (case k_is_node => k_is)
    (case a_check_source => k_is)
    (case l_check_source => k_is)
    (case c_check_source => k_is)
    (case k_check_source => k_is)
    (case a_needs => k_is)
    (case l_needs => k_is)
    (case c_needs => k_is)
    (case k_needs => k_is)
    (case a_cost => k_is)
    (case l_cost => k_is)
    (case c_cost => k_is)
    (case k_cost => k_is)
    (case a_leaf_step => k_is)
    (case l_leaf_step => k_is)
    (case c_leaf_step => k_is)
    (case k_leaf_step => k_is)
    (case a_product_tasks => k_is)
    (case l_product_tasks => k_is)
    (case c_product_tasks => k_is)
    (case k_product_tasks => k_is)
    (case a_inner_tasks => k_is)
    (case l_inner_tasks => k_is)
    (case c_inner_tasks => k_is)
    (case k_inner_tasks => k_is)
    (case a_compile_source => k_is)
    (case l_compile_source => k_is)
    (case c_compile_source => k_is)
    (case k_compile_source => k_is)
    (case a_l_mixed => k_is)
    (case l_l_mixed => k_is)
    (case c_l_mixed => k_is)
    (case k_l_mixed => k_is)
    (case a_l_numbers => k_is)
    (case l_l_numbers => k_is)
    (case c_l_numbers => k_is)
    (case k_l_numbers => k_is)
    (case a_l_draw => k_is)
    (case l_l_draw => k_is)
    (case c_l_draw => k_is)
    (case k_l_draw => k_is)
    (case a_l_equal => k_is)
    (case l_l_equal => k_is)
    (case c_l_equal => k_is)
    (case k_l_equal => k_is)
    (case a_l_all_equal => k_is)
    (case l_l_all_equal => k_is)
    (case c_l_all_equal => k_is)
    (case k_l_all_equal => k_is)
    (case a_l_source => k_is)
    (case l_l_source => k_is)
    (case c_l_source => k_is)
    (case k_l_source => k_is)
    (case a_l_meaning => k_is)
    (case l_l_meaning => k_is)
    (case c_l_meaning => k_is)
    (case k_l_meaning => k_is)
    (case a_l_needs => k_is)
    (case l_l_needs => k_is)
    (case c_l_needs => k_is)
    (case k_l_needs => k_is)
    (case a_l_spread => k_is)
    (case l_l_spread => k_is)
    (case c_l_spread => k_is)
    (case k_l_spread => k_is)
    (case a_law => k_is)
    (case l_law => k_is)
    (case c_law => k_is)
    (case k_law => k_is)
    (case pg => k_is)
    (case hd => k_is)
    (case po => k_is)
    (case sa => k_is)
    (case mk => k_is)
    (case kc => k_is)
    (case n_modulus => k_is)
    (case n_cells => k_is)
    (case n_inputs => k_is)
    (case n_steps => k_is)
    (case e_BITS => k_is)
    (case e_MOST_gates => k_is)
    (case e_FACTORS => k_is)
    (case e_MODULUS => k_is)
    (case e_CELLS => k_is)
    (case e_INPUTS_programs => k_is)
    (case e_STEPS => k_is)
    (case e_NODES => k_is)
    (case e_CONSTANT => k_is)
    (case e_INPUTS_sources => k_is)
    (case e_MOST_three => k_is)
    (case aL => k_is)
    (case lL => k_is)
    (case kL => exact ⟨⟨_, _, rfl, rfl⟩, ⟨_, _, rfl, rfl⟩, ⟨_, _, rfl, rfl⟩, ⟨_, _, rfl, rfl⟩, ⟨_, _, rfl, rfl⟩, ⟨_, _, rfl, rfl⟩, True.intro⟩)
    (case oL => first | rfl | decide)
    (case j_const => k_is)
    (case j_input => k_is)
    (case j_sum => k_is)
    (case j_product => k_is)
    (case j_scaled => k_is)
    (case j_choose => k_is)
    (case z_isinstance => k_is)
    (case z_int => k_is)
    (case z_bool => k_is)
    (case z_tuple => k_is)
    (case z_list => k_is)
    (case z_str => k_is)
    (case z_len => k_is)
    (case z_max => k_is)
    (case z_min => k_is)
    (case z_sorted => k_is)
    (case z_all => k_is)
    (case z_range => k_is)
    (case z_enumerate => k_is)
