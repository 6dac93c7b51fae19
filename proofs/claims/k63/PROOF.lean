import PyProof.Rows.All
import Wide.All
import OpenK.AllK
import Wide.FinOn
import HandS.ForMost
import HandS.Exc
import HandS.Deep
import HandS.DictComp
import HandS.TupAny
import HandS.TupMul
import HandS.Defaults
import KE.GoesNew
import HandS.Strs
import PyProof.Rows.InDataRows
import KE.KDictDisplayH
import KE.KDictZip
import HandS.IsInst
import HandS.Keys
import HandS.Iter
import HandS.Style
import HandS.Conv
import HandS.TupLen
import KE.SortData
import HandS.ExcValue
import HandS.SortOrd
import KE.KStateDown
import Lean
import HandS.Base
import HandS.Call
import HandS.Ends
import HandS.More
import HandS.Words
import HandS.WordsExc
import HandS.Head0
import HandS.Head1
import HandS.Head2
import HandS.HeadEnd
import HandS.HeadHook1
import HandS.HeadHook2
import PySem.Challenge.RW_anyarrive_k63_whole_normal_rows_and_step
set_option linter.all false
set_option maxRecDepth 10000
namespace Tr
/-! rows whose neighbours may be exchanged: first signs, the least form, all arrivals in order, steps -/
section
variable {α : Type} [DecidableEq α] (dep : α → α → Bool)
def fst : List α → α → Bool
  | [], _ => false
  | b :: w, a => if b = a then true else !dep b a && fst w a
inductive Eq1 : List α → List α → Prop where
  | sw {a b : α} {w : List α} : dep a b = false → Eq1 (a :: b :: w) (b :: a :: w)
  | cons {a : α} {u v : List α} : Eq1 u v → Eq1 (a :: u) (a :: v)
inductive Eqv : List α → List α → Prop where
  | refl {u : List α} : Eqv u u
  | step {u v w : List α} : Eq1 dep u v → Eqv v w → Eqv u w
structure Dep : Prop where
  r : ∀ a, dep a a = true
  s : ∀ a b, dep a b = dep b a
variable {dep}
theorem Eqv.trans {u v w : List α} (a : Eqv dep u v) (b : Eqv dep v w) : Eqv dep u w := by
  induction a with
  | refl => exact b
  | step h _ ih => exact .step h (ih b)
theorem Eqv.one {u v : List α} (h : Eq1 dep u v) : Eqv dep u v := .step h .refl
theorem Eqv.cons {u v : List α} (a : α) (h : Eqv dep u v) : Eqv dep (a :: u) (a :: v) := by
  induction h with
  | refl => exact .refl
  | step h _ ih => exact .step (.cons h) ih
theorem Eq1.symm (D : Dep dep) {u v : List α} (h : Eq1 dep u v) : Eq1 dep v u := by
  induction h with
  | sw h => exact .sw (by rw [D.s]; exact h)
  | cons _ ih => exact .cons ih
theorem Eqv.symm (D : Dep dep) {u v : List α} (h : Eqv dep u v) : Eqv dep v u := by
  induction h with
  | refl => exact .refl
  | step h _ ih => exact ih.trans (.one (h.symm D))
theorem Eq1.perm {u v : List α} (h : Eq1 dep u v) : u.Perm v := by
  induction h with
  | sw _ => exact .swap _ _ _
  | cons _ ih => exact .cons _ ih
theorem Eqv.perm {u v : List α} (h : Eqv dep u v) : u.Perm v := by
  induction h with
  | refl => exact .refl _
  | step h _ ih => exact h.perm.trans ih
theorem Eqv.app {u v : List α} (p : List α) (h : Eqv dep u v) : Eqv dep (p ++ u) (p ++ v) := by
  induction p with
  | nil => exact h
  | cons a p ih => exact ih.cons a
theorem Eq1.fst (D : Dep dep) {u v : List α} (h : Eq1 dep u v) (c : α) : fst dep u c = fst dep v c := by
  induction h with
  | @sw a b w h =>
    simp only [Tr.fst]
    by_cases ha : a = c
    · subst ha
      by_cases hb : b = a
      · simp [hb]
      · have : dep b a = false := by rw [D.s]; exact h
        simp [hb, this]
    · by_cases hb : b = c
      · subst hb
        simp [ha, h]
      · simp only [ha, hb, if_false]
        cases dep a c <;> cases dep b c <;> simp
  | @cons a u v _ ih => simp only [Tr.fst, ih]
theorem Eqv.fst (D : Dep dep) {u v : List α} (h : Eqv dep u v) (c : α) : Tr.fst dep u c = Tr.fst dep v c := by
  induction h with
  | refl => rfl
  | step h _ ih => rw [h.fst D, ih]
theorem Eq1.erase (D : Dep dep) {u v : List α} (h : Eq1 dep u v) (c : α) : Eqv dep (u.erase c) (v.erase c) := by
  induction h with
  | @sw a b w h =>
    have hab : a ≠ b := fun e => by subst e; rw [D.r] at h; cases h
    by_cases ha : a = c
    · subst ha
      have hb : ¬ (b == a) = true := by simpa using Ne.symm hab
      simp only [List.erase_cons_head]
      rw [List.erase_cons_tail hb, List.erase_cons_head]; exact .refl
    · have ha' : ¬ (a == c) = true := by simpa using ha
      by_cases hb : b = c
      · subst hb
        rw [List.erase_cons_tail ha', List.erase_cons_head, List.erase_cons_head]; exact .refl
      · have hb' : ¬ (b == c) = true := by simpa using hb
        rw [List.erase_cons_tail ha', List.erase_cons_tail hb', List.erase_cons_tail hb', List.erase_cons_tail ha']
        exact .one (.sw h)
  | @cons a u v h ih =>
    by_cases ha : a = c
    · subst ha
      rw [List.erase_cons_head, List.erase_cons_head]; exact .one h
    · have ha' : ¬ (a == c) = true := by simpa using ha
      rw [List.erase_cons_tail ha', List.erase_cons_tail ha']; exact ih.cons a
theorem Eqv.erase (D : Dep dep) {u v : List α} (h : Eqv dep u v) (c : α) : Eqv dep (u.erase c) (v.erase c) := by
  induction h with
  | refl => exact .refl
  | step h _ ih => exact (h.erase D c).trans ih
theorem Eqv.cancel (D : Dep dep) {a : α} {u v : List α} (h : Eqv dep (a :: u) (a :: v)) : Eqv dep u v := by
  have := h.erase D a
  simpa using this
theorem front : ∀ {w : List α} {a : α}, Tr.fst dep w a = true → Eqv dep w (a :: w.erase a)
  | [], _, h => by simp [Tr.fst] at h
  | b :: w, a, h => by
    by_cases hb : b = a
    · subst hb; rw [List.erase_cons_head]; exact .refl
    · simp only [Tr.fst, hb, if_false, Bool.and_eq_true, Bool.not_eq_true'] at h
      have hb' : ¬ (b == a) = true := by simpa using hb
      rw [List.erase_cons_tail hb']
      exact ((front h.2).cons b).trans (.one (.sw h.1))
theorem fst_mem : ∀ {w : List α} {a : α}, Tr.fst dep w a = true → a ∈ w
  | [], _, h => by simp [Tr.fst] at h
  | b :: w, a, h => by
    by_cases hb : b = a
    · subst hb; exact List.mem_cons_self
    · simp only [Tr.fst, hb, if_false, Bool.and_eq_true] at h
      exact List.mem_cons_of_mem _ (fst_mem h.2)
theorem fst_head {w : List α} {a : α} : Tr.fst dep (a :: w) a = true := by simp [Tr.fst]
/-- another sign goes: a first one stays one -/
theorem fst_erase : ∀ {w : List α} {a b : α}, a ≠ b → Tr.fst dep w b = true → Tr.fst dep (w.erase a) b = true
  | [], _, _, _, h => by simp [Tr.fst] at h
  | c :: w, a, b, hab, h => by
    by_cases hc : c = b
    · subst hc
      have : ¬ (c == a) = true := by simpa using Ne.symm hab
      rw [List.erase_cons_tail this]; exact fst_head
    · simp only [Tr.fst, hc, if_false, Bool.and_eq_true] at h
      by_cases hca : c = a
      · subst hca; rw [List.erase_cons_head]; exact h.2
      · have : ¬ (c == a) = true := by simpa using hca
        rw [List.erase_cons_tail this]
        simp only [Tr.fst, hc, if_false, Bool.and_eq_true]
        exact ⟨h.1, fst_erase hab h.2⟩
/-- a sign comes that does not matter -/
theorem fst_unerase : ∀ {w : List α} {a b : α}, dep b a = false → b ≠ a → Tr.fst dep (w.erase b) a = true → Tr.fst dep w a = true
  | [], _, _, _, _, h => by simpa using h
  | c :: w, a, b, hd, hne, h => by
    by_cases hcb : c = b
    · subst hcb
      rw [List.erase_cons_head] at h
      simp [Tr.fst, hne, hd, h]
    · have : ¬ (c == b) = true := by simpa using hcb
      rw [List.erase_cons_tail this] at h
      by_cases hc : c = a
      · subst hc; exact fst_head
      · simp only [Tr.fst, hc, if_false, Bool.and_eq_true] at h ⊢
        exact ⟨h.1, fst_unerase hd hne h.2⟩
/-- two first signs do not matter to each other -/
theorem fst_two (D : Dep dep) : ∀ {w : List α} {a b : α}, a ≠ b → Tr.fst dep w a = true → Tr.fst dep w b = true → dep a b = false
  | [], _, _, _, h, _ => by simp [Tr.fst] at h
  | c :: w, a, b, hab, ha, hb => by
    by_cases hca : c = a
    · subst hca
      simp only [Tr.fst, hab, if_false, Bool.and_eq_true, Bool.not_eq_true'] at hb
      exact hb.1
    · by_cases hcb : c = b
      · subst hcb
        simp only [Tr.fst, hca, if_false, Bool.and_eq_true, Bool.not_eq_true'] at ha
        rw [D.s]; exact ha.1
      · simp only [Tr.fst, hca, hcb, if_false, Bool.and_eq_true] at ha hb
        exact fst_two D hab ha.2 hb.2
variable (dep) (signs : List α)
def firsts (w : List α) : List α := signs.filter fun a => Tr.fst dep w a
def nfN : Nat → List α → List α
  | 0, _ => []
  | n + 1, w => match firsts dep signs w with
    | [] => []
    | a :: _ => a :: nfN n (w.erase a)
def nf (w : List α) : List α := nfN dep signs w.length w
def linN : Nat → List α → List (List α)
  | 0, _ => [[]]
  | n + 1, w => (firsts dep signs w).flatMap fun a => (linN n (w.erase a)).map (a :: ·)
def lin (w : List α) : List (List α) := linN dep signs w.length w
def cnt (w : List α) : Nat := (lin dep signs w).length
def rank : List α → Nat
  | [] => 0
  | a :: u => (((firsts dep signs (a :: u)).takeWhile fun b => decide (b ≠ a)).map fun b => cnt dep signs ((a :: u).erase b)).sum + rank u
def stepsN : Nat → List α → List (List α)
  | 0, _ => []
  | n + 1, w => match firsts dep signs w with
    | [] => []
    | a :: f => (a :: f) :: stepsN n ((a :: f).foldl List.erase w)
def steps (w : List α) : List (List α) := stepsN dep signs w.length w
variable {dep signs}
theorem firsts_eqv (D : Dep dep) {u v : List α} (h : Eqv dep u v) : firsts dep signs u = firsts dep signs v := by
  unfold firsts
  congr 1
  funext a
  rw [h.fst D]
theorem mem_firsts {w : List α} {a : α} : a ∈ firsts dep signs w ↔ a ∈ signs ∧ Tr.fst dep w a = true := by simp [firsts]
theorem firsts_ne {b : α} {w : List α} (h : b ∈ signs) : firsts dep signs (b :: w) ≠ [] := fun e => by
  have : b ∈ firsts dep signs (b :: w) := mem_firsts.mpr ⟨h, fst_head⟩
  rw [e] at this; cases this
theorem firsts_nil {w : List α} (hw : ∀ a ∈ w, a ∈ signs) : firsts dep signs w = [] ↔ w = [] := by
  constructor
  · intro h
    cases w with
    | nil => rfl
    | cons b w => exact absurd h (firsts_ne (hw b List.mem_cons_self))
  · rintro rfl
    simp [firsts, Tr.fst]
theorem nfN_eqv (D : Dep dep) : ∀ (n : Nat) {u v : List α}, Eqv dep u v → nfN dep signs n u = nfN dep signs n v
  | 0, _, _, _ => rfl
  | n + 1, u, v, h => by
    unfold nfN
    rw [firsts_eqv D h]
    cases firsts dep signs v with
    | nil => rfl
    | cons a f => simp only; rw [nfN_eqv D n (h.erase D a)]
theorem nf_eqv (D : Dep dep) {u v : List α} (h : Eqv dep u v) : nf dep signs u = nf dep signs v := by
  unfold nf
  rw [h.perm.length_eq, nfN_eqv D _ h]
theorem erase_sub {w : List α} {a : α} (hw : ∀ x ∈ w, x ∈ signs) : ∀ x ∈ w.erase a, x ∈ signs := fun x hx => hw x (List.mem_of_mem_erase hx)
theorem len_erase {w : List α} {a : α} (h : a ∈ w) {n : Nat} (hn : w.length = n + 1) : (w.erase a).length = n := by
  rw [List.length_erase_of_mem h]; omega
theorem nfN_of : ∀ (n : Nat) (w : List α), w.length = n → (∀ a ∈ w, a ∈ signs) → Eqv dep w (nfN dep signs n w)
  | 0, w, h, _ => by
    have : w = [] := List.eq_nil_of_length_eq_zero h
    subst this; exact .refl
  | n + 1, w, h, hw => by
    unfold nfN
    cases e : firsts dep signs w with
    | nil => rw [(firsts_nil hw).mp e] at h; simp at h
    | cons a f =>
      have ha := (mem_firsts.mp (by rw [e]; exact List.mem_cons_self : a ∈ firsts dep signs w)).2
      exact (front ha).trans ((nfN_of n (w.erase a) (len_erase (fst_mem ha) h) (erase_sub hw)).cons a)
theorem nf_of {w : List α} (hw : ∀ a ∈ w, a ∈ signs) : Eqv dep w (nf dep signs w) := nfN_of _ w rfl hw
theorem nf_cons {w : List α} {a : α} {f : List α} (e : firsts dep signs w = a :: f) : nf dep signs w = a :: nf dep signs (w.erase a) := by
  have ha := (mem_firsts.mp (by rw [e]; exact List.mem_cons_self : a ∈ firsts dep signs w)).2
  have hm := fst_mem ha
  unfold nf
  obtain ⟨n, hn⟩ : ∃ n, w.length = n + 1 := ⟨w.length - 1, by have := List.length_pos_of_mem hm; omega⟩
  rw [hn, len_erase hm hn]
  conv => lhs; unfold nfN
  rw [e]
theorem nf_nil : nf dep signs [] = [] := rfl
theorem eqv_iff (D : Dep dep) {u v : List α} (hu : ∀ a ∈ u, a ∈ signs) (hv : ∀ a ∈ v, a ∈ signs) : Eqv dep u v ↔ nf dep signs u = nf dep signs v :=
  ⟨nf_eqv D, fun e => (nf_of hu).trans (by rw [e]; exact (nf_of hv).symm D)⟩
/-! ### all arrivals -/
theorem mem_linN (D : Dep dep) : ∀ (n : Nat) (w v : List α), w.length = n → (∀ a ∈ w, a ∈ signs) → (v ∈ linN dep signs n w ↔ Eqv dep v w)
  | 0, w, v, h, _ => by
    have : w = [] := List.eq_nil_of_length_eq_zero h
    subst this
    simp only [linN, List.mem_singleton]
    constructor
    · rintro rfl; exact .refl
    · intro e; exact List.eq_nil_of_length_eq_zero e.perm.length_eq
  | n + 1, w, v, h, hw => by
    simp only [linN, List.mem_flatMap, List.mem_map]
    constructor
    · rintro ⟨a, ha, u, hu, rfl⟩
      have fa := (mem_firsts.mp ha).2
      have := (mem_linN D n (w.erase a) u (len_erase (fst_mem fa) h) (erase_sub hw)).mp hu
      exact (this.cons a).trans ((front fa).symm D)
    · intro e
      cases v with
      | nil => have := e.perm.length_eq; rw [h] at this; simp at this
      | cons a u =>
        have fa : Tr.fst dep w a = true := by rw [← e.fst D]; exact fst_head
        refine ⟨a, mem_firsts.mpr ⟨hw a (fst_mem fa), fa⟩, u, ?_, rfl⟩
        refine (mem_linN D n (w.erase a) u (len_erase (fst_mem fa) h) (erase_sub hw)).mpr ?_
        have := e.erase D a
        rwa [List.erase_cons_head] at this
theorem mem_lin (D : Dep dep) {w v : List α} (hw : ∀ a ∈ w, a ∈ signs) : v ∈ lin dep signs w ↔ Eqv dep v w := mem_linN D _ w v rfl hw
theorem firsts_pw {R : α → α → Prop} (hs : signs.Pairwise R) (w : List α) : (firsts dep signs w).Pairwise R := hs.filter _
theorem linN_pw {R : α → α → Prop} (hs : signs.Pairwise R) : ∀ (n : Nat) (w : List α), (linN dep signs n w).Pairwise (List.Lex R)
  | 0, w => by simp [linN]
  | n + 1, w => by
    unfold linN
    rw [List.pairwise_flatMap]
    refine ⟨fun a _ => ?_, (firsts_pw hs w).imp fun {a b} h x hx y hy => ?_⟩
    · rw [List.pairwise_map]
      exact (linN_pw hs n (w.erase a)).imp fun {x y} h => .cons h
    · obtain ⟨x', _, rfl⟩ := List.mem_map.mp hx
      obtain ⟨y', _, rfl⟩ := List.mem_map.mp hy
      exact .rel h
theorem lin_pw {R : α → α → Prop} (hs : signs.Pairwise R) (w : List α) : (lin dep signs w).Pairwise (List.Lex R) := linN_pw hs _ w
/-- two rising lists of the same are one -/
theorem same_sorted {β : Type} {R : β → β → Prop} (ir : ∀ a, ¬ R a a) (as : ∀ a b, R a b → ¬ R b a) : ∀ {l m : List β}, l.Pairwise R → m.Pairwise R → (∀ x, x ∈ l ↔ x ∈ m) → l = m
  | [], [], _, _, _ => rfl
  | [], b :: m, _, _, h => by have := (h b).mpr List.mem_cons_self; cases this
  | a :: l, [], _, _, h => by have := (h a).mp List.mem_cons_self; cases this
  | a :: l, b :: m, hl, hm, h => by
    rw [List.pairwise_cons] at hl hm
    have e : a = b := by
      rcases List.mem_cons.mp ((h a).mp List.mem_cons_self) with e | ha
      · exact e
      · rcases List.mem_cons.mp ((h b).mpr List.mem_cons_self) with e | hb
        · exact e.symm
        · exact absurd (hl.1 b hb) (as b a (hm.1 a ha))
    subst e
    rw [same_sorted ir as hl.2 hm.2 fun x => ⟨fun hx => ?_, fun hx => ?_⟩]
    · rcases List.mem_cons.mp ((h x).mp (List.mem_cons_of_mem _ hx)) with e | hx'
      · subst e; exact absurd (hl.1 x hx) (ir x)
      · exact hx'
    · rcases List.mem_cons.mp ((h x).mpr (List.mem_cons_of_mem _ hx)) with e | hx'
      · subst e; exact absurd (hm.1 x hx) (ir x)
      · exact hx'
theorem linN_eqv (D : Dep dep) : ∀ (n : Nat) {u v : List α}, Eqv dep u v → linN dep signs n u = linN dep signs n v
  | 0, _, _, _ => rfl
  | n + 1, u, v, h => by
    unfold linN
    rw [firsts_eqv D h]
    congr 1
    funext a
    rw [linN_eqv D n (h.erase D a)]
theorem lin_eqv (D : Dep dep) {u v : List α} (h : Eqv dep u v) : lin dep signs u = lin dep signs v := by
  unfold lin; rw [h.perm.length_eq, linN_eqv D _ h]
theorem cnt_eqv (D : Dep dep) {u v : List α} (h : Eqv dep u v) : cnt dep signs u = cnt dep signs v := by unfold cnt; rw [lin_eqv D h]
theorem lin_cons {w : List α} (h : w ≠ []) : lin dep signs w = (firsts dep signs w).flatMap fun a => (lin dep signs (w.erase a)).map (a :: ·) := by
  obtain ⟨n, hn⟩ : ∃ n, w.length = n + 1 := ⟨w.length - 1, by have := List.length_pos_iff.mpr h; omega⟩
  have key : ∀ l : List α, (∀ a ∈ l, a ∈ firsts dep signs w) → (l.flatMap fun a => (linN dep signs n (w.erase a)).map (a :: ·)) = l.flatMap fun a => (lin dep signs (w.erase a)).map (a :: ·) := by
    intro l
    induction l with
    | nil => intro _; rfl
    | cons a l ih =>
      intro hl
      have fa := (mem_firsts.mp (hl a List.mem_cons_self)).2
      rw [List.flatMap_cons, List.flatMap_cons, ih fun b hb => hl b (List.mem_cons_of_mem _ hb)]
      unfold lin
      rw [len_erase (fst_mem fa) hn]
  have e : lin dep signs w = (firsts dep signs w).flatMap fun a => (linN dep signs n (w.erase a)).map (a :: ·) := by
    unfold lin; rw [hn]; rfl
  rw [e, key _ fun a h => h]
theorem cnt_cons {w : List α} (h : w ≠ []) : cnt dep signs w = ((firsts dep signs w).map fun a => cnt dep signs (w.erase a)).sum := by
  unfold cnt
  rw [lin_cons h, List.length_flatMap]
  congr 1
  simp
theorem cnt_nil : cnt dep signs [] = 1 := rfl
theorem cnt_pos (D : Dep dep) {w : List α} (hw : ∀ a ∈ w, a ∈ signs) : 0 < cnt dep signs w := by
  unfold cnt
  exact List.length_pos_of_mem ((mem_lin D hw).mpr (.refl : Eqv dep w w))
/-! ### the place of an arrival -/
theorem range_blocks {f : List α} (c : α → Nat) : ∀ (off : Nat), f.Nodup → (f.flatMap fun a => (List.range (c a)).map fun i => off + ((f.takeWhile fun b => decide (b ≠ a)).map c).sum + i) = (List.range ((f.map c).sum)).map fun i => off + i := by
  induction f with
  | nil => intro off _; rfl
  | cons x f ih =>
    intro off hn
    rw [List.nodup_cons] at hn
    rw [List.flatMap_cons]
    have e1 : ((x :: f).takeWhile fun b => decide (b ≠ x)) = [] := by simp [List.takeWhile]
    have e2 : (f.flatMap fun a => (List.range (c a)).map fun i => off + (((x :: f).takeWhile fun b => decide (b ≠ a)).map c).sum + i) = f.flatMap fun a => (List.range (c a)).map fun i => (off + c x) + ((f.takeWhile fun b => decide (b ≠ a)).map c).sum + i := by
      have : ∀ l : List α, (∀ a ∈ l, a ∈ f) → (l.flatMap fun a => (List.range (c a)).map fun i => off + (((x :: f).takeWhile fun b => decide (b ≠ a)).map c).sum + i) = l.flatMap fun a => (List.range (c a)).map fun i => (off + c x) + ((f.takeWhile fun b => decide (b ≠ a)).map c).sum + i := by
        intro l
        induction l with
        | nil => intro _; rfl
        | cons a l ih2 =>
          intro hl
          have hne : x ≠ a := fun e => hn.1 (by rw [e]; exact hl a List.mem_cons_self)
          rw [List.flatMap_cons, List.flatMap_cons, ih2 fun b hb => hl b (List.mem_cons_of_mem _ hb)]
          have : ((x :: f).takeWhile fun b => decide (b ≠ a)) = x :: f.takeWhile fun b => decide (b ≠ a) := by simp [List.takeWhile, hne]
          rw [this, List.map_cons, List.sum_cons]
          congr 1
          apply List.map_congr_left
          intro i _; omega
      exact this f fun a h => h
    rw [e2, ih _ hn.2, e1]
    simp only [List.map_nil, List.sum_nil, Nat.add_zero, List.map_cons, List.sum_cons]
    rw [List.range_add, List.map_append, List.map_map]
    congr 1
    apply List.map_congr_left
    intro i _
    simp only [Function.comp]; omega
theorem ranks (D : Dep dep) (hs : signs.Nodup) : ∀ (n : Nat) (w : List α), w.length = n → (∀ a ∈ w, a ∈ signs) → (lin dep signs w).map (rank dep signs) = List.range (cnt dep signs w)
  | 0, w, h, _ => by
    have : w = [] := List.eq_nil_of_length_eq_zero h
    subst this
    rfl
  | n + 1, w, h, hw => by
    have hne : w ≠ [] := fun e => by subst e; simp at h
    rw [lin_cons hne, cnt_cons hne, List.map_flatMap]
    have e : ∀ l : List α, (∀ a ∈ l, a ∈ firsts dep signs w) → (l.flatMap fun a => ((lin dep signs (w.erase a)).map (a :: ·)).map (rank dep signs)) = l.flatMap fun a => (List.range (cnt dep signs (w.erase a))).map fun i => 0 + (((firsts dep signs w).takeWhile fun b => decide (b ≠ a)).map fun b => cnt dep signs (w.erase b)).sum + i := by
      intro l
      induction l with
      | nil => intro _; rfl
      | cons a l ih =>
        intro hl
        rw [List.flatMap_cons, List.flatMap_cons, ih fun b hb => hl b (List.mem_cons_of_mem _ hb)]
        have fa := (mem_firsts.mp (hl a List.mem_cons_self)).2
        congr 1
        rw [← ranks D hs n (w.erase a) (len_erase (fst_mem fa) h) (erase_sub hw), List.map_map, List.map_map]
        apply List.map_congr_left
        intro u hu
        have eu := (mem_lin D (erase_sub hw)).mp hu
        have ew : Eqv dep (a :: u) w := (eu.cons a).trans ((front fa).symm D)
        simp only [Function.comp, rank, Nat.zero_add]
        rw [firsts_eqv D ew]
        congr 2
        apply List.map_congr_left
        intro b _
        exact cnt_eqv D (ew.erase D b)
    rw [e _ fun a h => h, range_blocks (f := firsts dep signs w) (fun a => cnt dep signs (w.erase a)) 0 (show (firsts dep signs w).Nodup from hs.filter _)]
    simp
/-! ### the least one -/
/-- no sign stands behind a greater one that it could go ahead of -/
def Least (lt : α → α → Prop) : List α → Prop
  | [] => True
  | b :: x => (∀ p a q, x = p ++ a :: q → lt a b → ∃ c ∈ b :: p, dep c a = true) ∧ Least lt x
theorem fst_at : ∀ {w : List α} {a : α}, Tr.fst dep w a = true ↔ ∃ p q, w = p ++ a :: q ∧ a ∉ p ∧ ∀ c ∈ p, dep c a = false
  | [], a => by simp [Tr.fst]
  | b :: w, a => by
    by_cases hb : b = a
    · subst hb
      simp only [Tr.fst, if_true, true_iff]
      exact ⟨[], w, rfl, by simp, by simp⟩
    · simp only [Tr.fst, hb, if_false, Bool.and_eq_true, Bool.not_eq_true', fst_at (w := w)]
      constructor
      · rintro ⟨h1, p, q, rfl, h2, h3⟩
        refine ⟨b :: p, q, rfl, fun h => ?_, fun c hc => ?_⟩
        · rcases List.mem_cons.mp h with e | h
          · exact hb e.symm
          · exact h2 h
        · rcases List.mem_cons.mp hc with e | hc
          · rw [e]; exact h1
          · exact h3 c hc
      · rintro ⟨p, q, e, h2, h3⟩
        cases p with
        | nil => simp at e; exact absurd e.1 hb
        | cons c p =>
          simp only [List.cons_append, List.cons.injEq] at e
          obtain ⟨rfl, rfl⟩ := e
          exact ⟨h3 b List.mem_cons_self, p, q, rfl, fun h => h2 (List.mem_cons_of_mem _ h), fun c hc => h3 c (List.mem_cons_of_mem _ hc)⟩
theorem least_iff (D : Dep dep) {lt : α → α → Prop} (ir : ∀ a, ¬ lt a a) (as : ∀ a b, lt a b → ¬ lt b a) (hs : signs.Pairwise lt) : ∀ (w : List α), (∀ a ∈ w, a ∈ signs) → (Least (dep := dep) lt w ↔ nf dep signs w = w)
  | [], _ => by simp [Least, nf_nil]
  | b :: x, hw => by
    have hb : b ∈ signs := hw b List.mem_cons_self
    have ih := least_iff D ir as hs x fun a ha => hw a (List.mem_cons_of_mem _ ha)
    cases e : firsts dep signs (b :: x) with
    | nil => exact absurd e (firsts_ne hb)
    | cons a f =>
      have hbm : b ∈ a :: f := by rw [← e]; exact mem_firsts.mpr ⟨hb, fst_head⟩
      have pw : (a :: f).Pairwise lt := by rw [← e]; exact firsts_pw hs _
      rw [List.pairwise_cons] at pw
      rw [nf_cons e]
      constructor
      · rintro ⟨h1, h2⟩
        have hab : a = b := by
          rcases List.mem_cons.mp hbm with q | q
          · exact q.symm
          · have la := pw.1 b q
            have fa := (mem_firsts.mp (by rw [e]; exact List.mem_cons_self : a ∈ firsts dep signs (b :: x))).2
            obtain ⟨p, q', e1, h3, h4⟩ := fst_at.mp fa
            cases p with
            | nil => simp at e1; exact e1.1.symm
            | cons c p =>
              simp only [List.cons_append, List.cons.injEq] at e1
              obtain ⟨rfl, e1⟩ := e1
              obtain ⟨c, hc, hd⟩ := h1 p a q' e1 la
              rw [h4 c hc] at hd; cases hd
        subst hab
        rw [List.erase_cons_head, ih.mp h2]
      · intro h
        have hab : a = b := by injection h
        subst hab
        rw [List.erase_cons_head] at h
        refine ⟨fun p c q e1 hlt => ?_, ih.mpr (by injection h)⟩
        cases hall : (a :: p).all fun d => !dep d c with
        | false =>
          obtain ⟨d, hd1, hd2⟩ := List.all_eq_false.mp hall
          exact ⟨d, hd1, by simpa using hd2⟩
        | true =>
          have hall' : ∀ d ∈ a :: p, dep d c = false := fun d hd => by simpa using List.all_eq_true.mp hall d hd
          have fc : Tr.fst dep (a :: x) c = true := fst_at.mpr ⟨a :: p, q, by rw [e1]; rfl, (fun hm => by
            have := hall' c hm
            rw [D.r] at this
            cases this), hall'⟩
          have hcs : c ∈ signs := hw c (by rw [e1]; simp)
          have : c ∈ a :: f := by rw [← e]; exact mem_firsts.mpr ⟨hcs, fc⟩
          rcases List.mem_cons.mp this with q | q
          · subst q; exact absurd hlt (ir c)
          · exact absurd hlt (as _ _ (pw.1 c q))
/-! ### steps -/
theorem fold_eqv (D : Dep dep) (f : List α) : ∀ {u v : List α}, Eqv dep u v → Eqv dep (f.foldl List.erase u) (f.foldl List.erase v) := by
  induction f with
  | nil => intro u v h; exact h
  | cons a f ih => intro u v h; exact ih (h.erase D a)
theorem stepsN_eqv (D : Dep dep) : ∀ (n : Nat) {u v : List α}, Eqv dep u v → stepsN dep signs n u = stepsN dep signs n v
  | 0, _, _, _ => rfl
  | n + 1, u, v, h => by
    unfold stepsN
    rw [firsts_eqv D h]
    cases firsts dep signs v with
    | nil => rfl
    | cons a f => simp only; rw [stepsN_eqv D n (fold_eqv D (a :: f) h)]
theorem steps_eqv (D : Dep dep) {u v : List α} (h : Eqv dep u v) : steps dep signs u = steps dep signs v := by
  unfold steps; rw [h.perm.length_eq, stepsN_eqv D _ h]
theorem fold_front (D : Dep dep) : ∀ (f : List α) (w : List α), f.Nodup → (∀ a ∈ f, Tr.fst dep w a = true) → Eqv dep w (f ++ f.foldl List.erase w) ∧ (f.foldl List.erase w).length + f.length = w.length
  | [], w, _, _ => ⟨.refl, by simp⟩
  | a :: f, w, hn, h => by
    rw [List.nodup_cons] at hn
    have fa := h a List.mem_cons_self
    obtain ⟨i1, i2⟩ := fold_front D f (w.erase a) hn.2 fun b hb => fst_erase (fun e => hn.1 (by rw [e]; exact hb)) (h b (List.mem_cons_of_mem _ hb))
    refine ⟨(front fa).trans (i1.cons a), ?_⟩
    have := List.length_erase_of_mem (fst_mem fa)
    have := List.length_pos_of_mem (fst_mem fa)
    simp only [List.foldl_cons, List.length_cons]; omega
theorem fold_sub {f : List α} : ∀ {w : List α}, (∀ x ∈ w, x ∈ signs) → ∀ x ∈ f.foldl List.erase w, x ∈ signs := by
  induction f with
  | nil => intro w hw; exact hw
  | cons a f ih => intro w hw; exact ih (erase_sub hw)
theorem firsts_nd (hs : signs.Nodup) (w : List α) : (firsts dep signs w).Nodup := hs.filter _
theorem steps_cons (D : Dep dep) (hs : signs.Nodup) {w : List α} {a : α} {f : List α} (e : firsts dep signs w = a :: f) : ∀ n, w.length ≤ n → stepsN dep signs n w = (a :: f) :: stepsN dep signs (n - 1) ((a :: f).foldl List.erase w) := by
  intro n hn
  have fa := (mem_firsts.mp (by rw [e]; exact List.mem_cons_self : a ∈ firsts dep signs w)).2
  have := List.length_pos_of_mem (fst_mem fa)
  obtain ⟨m, rfl⟩ : ∃ m, n = m + 1 := ⟨n - 1, by omega⟩
  conv => lhs; unfold stepsN
  rw [e]
  rfl
theorem stepsN_fuel (D : Dep dep) (hs : signs.Nodup) : ∀ (n m : Nat) (w : List α), w.length ≤ n → w.length ≤ m → stepsN dep signs n w = stepsN dep signs m w := by
  intro n
  induction n with
  | zero =>
    intro m w h1 h2
    have : w = [] := List.eq_nil_of_length_eq_zero (by omega)
    subst this
    cases m with
    | zero => rfl
    | succ m =>
      have e0 : firsts dep signs [] = [] := by simp [firsts, Tr.fst]
      unfold stepsN; rw [e0]
  | succ n ih =>
    intro m w h1 h2
    cases e : firsts dep signs w with
    | nil =>
      cases m with
      | zero => unfold stepsN; rw [e]
      | succ m => unfold stepsN; rw [e]
    | cons a f =>
      rw [steps_cons D hs e _ h1, steps_cons D hs e _ h2]
      have ff : ∀ b ∈ a :: f, Tr.fst dep w b = true := fun b hb => (mem_firsts.mp (by rw [e]; exact hb)).2
      have nd : (a :: f).Nodup := by rw [← e]; exact firsts_nd hs w
      have hl := (fold_front D (a :: f) w nd ff).2
      simp only [List.length_cons] at hl
      rw [show n + 1 - 1 = n from rfl, ih (m - 1) _ (by omega) (by omega)]
theorem steps_rec (D : Dep dep) (hs : signs.Nodup) {w : List α} {a : α} {f : List α} (e : firsts dep signs w = a :: f) : steps dep signs w = (a :: f) :: steps dep signs ((a :: f).foldl List.erase w) := by
  unfold steps
  rw [steps_cons D hs e _ (Nat.le_refl _)]
  have ff : ∀ b ∈ a :: f, Tr.fst dep w b = true := fun b hb => (mem_firsts.mp (by rw [e]; exact hb)).2
  have nd : (a :: f).Nodup := by rw [← e]; exact firsts_nd hs w
  have hl := (fold_front D (a :: f) w nd ff).2
  simp only [List.length_cons] at hl
  rw [stepsN_fuel D hs (w.length - 1) ((a :: f).foldl List.erase w).length _ (by omega) (Nat.le_refl _)]
theorem steps_end {w : List α} (e : firsts dep signs w = []) : steps dep signs w = [] := by
  unfold steps
  cases w.length with
  | zero => rfl
  | succ n => unfold stepsN; rw [e]
theorem steps_flat (D : Dep dep) (hs : signs.Nodup) : ∀ (n : Nat) (w : List α), w.length ≤ n → (∀ a ∈ w, a ∈ signs) → Eqv dep w (steps dep signs w).flatten := by
  intro n
  induction n with
  | zero =>
    intro w h _
    have : w = [] := List.eq_nil_of_length_eq_zero (by omega)
    subst this; exact .refl
  | succ n ih =>
    intro w h hw
    cases e : firsts dep signs w with
    | nil => rw [steps_end e, (firsts_nil hw).mp e]; exact .refl
    | cons a f =>
      have ff : ∀ b ∈ a :: f, Tr.fst dep w b = true := fun b hb => (mem_firsts.mp (by rw [e]; exact hb)).2
      have nd : (a :: f).Nodup := by rw [← e]; exact firsts_nd hs w
      obtain ⟨h1, h2⟩ := fold_front D (a :: f) w nd ff
      simp only [List.length_cons] at h2
      rw [steps_rec D hs e, List.flatten_cons]
      exact h1.trans ((ih _ (by omega) (fold_sub hw)).app (a :: f))
/-- a sign of a later step waits for one of the step ahead -/
theorem waits (D : Dep dep) : ∀ (f : List α) (w : List α) (a : α), f.Nodup → Tr.fst dep (f.foldl List.erase w) a = true → (∀ b ∈ f, dep b a = false) → Tr.fst dep w a = true
  | [], w, a, _, h, _ => h
  | b :: f, w, a, hn, h, hb => by
    rw [List.nodup_cons] at hn
    have h1 := waits D f (w.erase b) a hn.2 h fun c hc => hb c (List.mem_cons_of_mem _ hc)
    have hd := hb b List.mem_cons_self
    exact fst_unerase hd (fun e => by rw [e, D.r] at hd; cases hd) h1
end
end Tr

set_option Elab.async false
set_option linter.all false
set_option maxRecDepth 100000
set_option maxHeartbeats 1000000
namespace DD
open PySem PySem.Spec PyProof.Rows L2

/-! ### plain data -/
inductive D where
  | non | bl (b : Bool) | int (i : Int) | str (x : Str)
  | tup (xs : List D) | lst (xs : List D) | dic (t : Bool) (ks vs : List D)
  | ref (n : Nat) | cst (v : V) | fro (xs : List D) | pr (xs : List D)
inductive Cell where
  | lst (xs : List D) | dic (t : Bool) (kvs : List (D × D)) | ins (C : Addr) (fs : List (Str × D))
abbrev Hea := List Cell
abbrev En := List (Option D)
instance : Inhabited D := ⟨.non⟩

/-- an exception: its class, its attributes -/
structure Exn where
  cls : Value
  fs : List (Str × D)

inductive R (α : Type) where
  | no | ok (a : α) (h : Hea) | ex (e : Exn) (h : Hea)
def R.bind {α β : Type} (r : R α) (k : α → Hea → R β) : R β := match r with
  | .no => .no
  | .ok a h => k a h
  | .ex e h => .ex e h
@[simp] theorem R.bind_ok {α β : Type} {a : α} {h : Hea} {k : α → Hea → R β} : (R.ok a h).bind k = k a h := rfl
@[simp] theorem R.bind_no {α β : Type} {k : α → Hea → R β} : (R.no : R α).bind k = .no := rfl
@[simp] theorem R.bind_ex {α β : Type} {e : Exn} {h : Hea} {k : α → Hea → R β} : (R.ex e h : R α).bind k = .ex e h := rfl

/-! ### the ground: how data lies in the abstract heap -/
structure Gd where
  H : Hp
  ρ : Nat → Addr
  N : Nat
  Z : List Addr
def Gd.img (g : Gd) (a : Addr) : Prop := ∃ n, n < g.N ∧ g.ρ n = a

def kD : Key → D
  | .inl i => .int i
  | .inr x => .str x
/-- where one stands: the program, the world, the written part -/
structure Wd where
  P : Program
  w : World
  K : PySem.W.Frag
abbrev _root_.L2.Cx.wd (X : L2.Cx) : Wd := ⟨X.prog, X.w, X.K⟩
/-- a dict whose keys are tuples: its entries by key, key's address, value -/
def DTφ (E : Wd) (a : Addr) (xs : List (List Key × Addr × Value)) (h : Heap) : Prop :=
  xs.length ≤ sizeLine ∧ (a == sysModules) = false ∧ ∃ o es ep, h.get? a = some o ∧ o.ExactDict ∧ o.data = .dict es ep ∧ es.toList = xs.map (entryOfKey (tupleKind (mixKind E.P E.w))) ∧ (xs.map (·.1)).Nodup
/-- a tuple's object with no dict of its own -/
def TupO (H : Hp) (b : Addr) (xs : List V) : Prop := ∃ o, H b = some (.frz o (.tup xs)) ∧ o.dict = none
/-- keys ks, values us, of the dict at a; t: its keys are tuples -/
def DicR (E : Wd) (H : Hp) (a : Addr) (t : Bool) (ks : List D) (us : List V) : Prop := match t with
  | false => ∃ kvs : List (Key × V), H a = some (.dK kvs) ∧ ks = kvs.map (fun p => kD p.1) ∧ us = kvs.map (·.2)
  | true => ∃ xs : List (List Key × Addr × Value), H a = some (.ext (DTφ E a xs)) ∧ ks = xs.map (fun p => D.tup (p.1.map kD)) ∧ (∀ x ∈ xs, TupO H x.2.1 (x.1.map kV)) ∧ Vals us (xs.map (·.2.2))
/-- what never changes -/
def Stb : HO → Prop
  | .tup _ => True
  | .frz _ _ => True
  | _ => False
theorem TupO.keep {H H' : Hp} {b : Addr} {xs : List V} (t : TupO H b xs) (hs : ∀ b o, H b = some o → Stb o → H' b = some o) : TupO H' b xs := by
  obtain ⟨o, e, n⟩ := t; exact ⟨o, hs _ _ e trivial, n⟩
theorem TupO.sqT {H : Hp} {b : Addr} {xs : List V} {K : PySem.W.Frag} (t : TupO H b xs) : SqT K H b xs := by
  obtain ⟨o, e, n⟩ := t; exact .inl (.inr ⟨o, e⟩)
theorem DicR.keep {E : Wd} {H H' : Hp} {a : Addr} {t : Bool} {ks : List D} {us : List V} (d : DicR E H a t ks us) (h : ∀ o, H a = some o → H' a = some o) (hs : ∀ b o, H b = some o → Stb o → H' b = some o) : DicR E H' a t ks us := by
  cases t with
  | false => obtain ⟨kvs, e, e1, e2⟩ := d; exact ⟨kvs, h _ e, e1, e2⟩
  | true => obtain ⟨xs, e, e1, e2, e3⟩ := d; exact ⟨xs, h _ e, e1, fun x hx => (e2 x hx).keep hs, e3⟩
/-- a list that never changes, wherever it lies -/
def SqF (F : PySem.W.Frag) (H : Hp) (a : Addr) (xs : List V) : Prop := ∀ H' : Hp, (∀ o, H a = some o → Stb o → H' a = some o) → SqL F H' a xs
theorem SqF.keep {F : PySem.W.Frag} {H H' : Hp} {a : Addr} {xs : List V} (t : SqF F H a xs) (hs : ∀ b o, H b = some o → Stb o → H' b = some o) : SqF F H' a xs := fun H2 h2 => t H2 fun o e s => h2 o (hs a o e s) s
theorem SqF.sqL {F : PySem.W.Frag} {H : Hp} {a : Addr} {xs : List V} (t : SqF F H a xs) : SqL F H a xs := t H fun _ e _ => e
theorem SqF.of {F : PySem.W.Frag} {H : Hp} {a : Addr} {xs : List V} (t : SqL F H a xs) (h : ∀ ys, H a ≠ some (.lst ys)) : SqF F H a xs := fun H2 h2 => by
  rcases t with (t | ⟨o, t⟩) | t
  · exact absurd t (h xs)
  · exact .inl (.inr ⟨o, h2 _ t trivial⟩)
  · exact .inr t
/-- a cell's object is a list, a dict or an instance -/
def MutO : HO → Prop
  | .lst _ => True
  | .dK _ => True
  | .dT _ => True
  | .ins _ _ _ => True
  | .ext _ => True
  | _ => False
theorem MutO.not {o : HO} (m : MutO o) : ¬ Stb o := by cases o <;> simp_all [MutO, Stb]
theorem DicR.mutO {E : Wd} {H : Hp} {a : Addr} {t : Bool} {ks : List D} {us : List V} (d : DicR E H a t ks us) : ∃ o, H a = some o ∧ MutO o := by
  cases t with
  | false => obtain ⟨kvs, e, _⟩ := d; exact ⟨_, e, trivial⟩
  | true => obtain ⟨xs, e, _⟩ := d; exact ⟨_, e, trivial⟩

mutual
def RepV (K : Wd) (g : Gd) : D → V → Prop
  | .non, v => v = .non
  | .bl b, v => v = .bl b
  | .int i, v => v = .int i
  | .str x, v => v = .str x
  | .tup ds, v => ∃ a xs, v = .ref a ∧ TupO g.H a xs ∧ RepVs K g ds xs
  | .pr ds, v => ∃ a xs, v = .ref a ∧ SqT K.K g.H a xs ∧ RepVs K g ds xs
  | .lst ds, v => ∃ a xs, v = .ref a ∧ g.H a = some (.lst xs) ∧ (¬ g.img a ∧ a ∉ g.Z) ∧ RepVs K g ds xs
  | .dic t ks vs, v => ∃ a us, v = .ref a ∧ DicR K g.H a t ks us ∧ (¬ g.img a ∧ a ∉ g.Z) ∧ RepVs K g vs us
  | .ref n, v => n < g.N ∧ v = .ref (g.ρ n)
  | .cst u, v => v = u
  | .fro ds, v => ∃ a xs, v = .ref a ∧ SqF K.K g.H a xs ∧ RepVs K g ds xs
def RepVs (K : Wd) (g : Gd) : List D → List V → Prop
  | [], xs => xs = []
  | d :: ds, xs => ∃ x r, xs = x :: r ∧ RepV K g d x ∧ RepVs K g ds r
end
section
variable {K : Wd} {g g' g'' : Gd}
@[simp] theorem RepVs_nil {xs : List V} : RepVs K g [] xs ↔ xs = [] := by simp [RepVs]
theorem RepVs_cons {d : D} {ds : List D} {xs : List V} : RepVs K g (d :: ds) xs ↔ ∃ x r, xs = x :: r ∧ RepV K g d x ∧ RepVs K g ds r := by simp [RepVs]
theorem RepVs.cons {d : D} {ds : List D} {x : V} {r : List V} (h : RepV K g d x) (t : RepVs K g ds r) : RepVs K g (d :: ds) (x :: r) := RepVs_cons.mpr ⟨x, r, rfl, h, t⟩
theorem RepVs.nil : RepVs K g [] [] := by simp
theorem RepVs.len : ∀ {ds : List D} {xs : List V}, RepVs K g ds xs → ds.length = xs.length
  | [], xs, h => by rw [RepVs_nil.mp h]; rfl
  | d :: ds, xs, h => by
    obtain ⟨x, r, rfl, _, t⟩ := RepVs_cons.mp h
    simp [RepVs.len t]
theorem RepVs.get : ∀ {ds : List D} {xs : List V} {i : Nat} {d : D}, RepVs K g ds xs → ds[i]? = some d → ∃ x, xs[i]? = some x ∧ RepV K g d x
  | [], _, _, _, _, e => by simp at e
  | a :: ds, xs, 0, d, h, e => by
    obtain ⟨x, r, rfl, q, t⟩ := RepVs_cons.mp h
    simp at e; subst e
    exact ⟨x, rfl, q⟩
  | a :: ds, xs, i + 1, d, h, e => by
    obtain ⟨x, r, rfl, q, t⟩ := RepVs_cons.mp h
    exact RepVs.get (i := i) t (by simpa using e)
theorem RepVs.getV : ∀ {ds : List D} {xs : List V} {i : Nat} {x : V}, RepVs K g ds xs → xs[i]? = some x → ∃ d, ds[i]? = some d ∧ RepV K g d x
  | [], xs, i, x, h, e => by rw [RepVs_nil.mp h] at e; simp at e
  | a :: ds, xs, 0, x, h, e => by
    obtain ⟨y, r, rfl, q, t⟩ := RepVs_cons.mp h
    simp at e; subst e
    exact ⟨a, rfl, q⟩
  | a :: ds, xs, i + 1, x, h, e => by
    obtain ⟨y, r, rfl, q, t⟩ := RepVs_cons.mp h
    exact RepVs.getV (i := i) t (by simpa using e)
theorem RepVs.append : ∀ {ds es : List D} {xs ys : List V}, RepVs K g ds xs → RepVs K g es ys → RepVs K g (ds ++ es) (xs ++ ys)
  | [], _, xs, _, h, t => by rw [RepVs_nil.mp h]; exact t
  | d :: ds, _, xs, _, h, t => by
    obtain ⟨x, r, rfl, q, s⟩ := RepVs_cons.mp h
    exact .cons q (RepVs.append s t)
theorem RepVs.take : ∀ {ds : List D} {xs : List V} (n : Nat), RepVs K g ds xs → RepVs K g (ds.take n) (xs.take n)
  | _, _, 0, _ => by simp
  | [], xs, n + 1, h => by rw [RepVs_nil.mp h]; simp
  | d :: ds, xs, n + 1, h => by
    obtain ⟨x, r, rfl, q, s⟩ := RepVs_cons.mp h
    exact .cons q (RepVs.take n s)
theorem RepVs.drop : ∀ {ds : List D} {xs : List V} (n : Nat), RepVs K g ds xs → RepVs K g (ds.drop n) (xs.drop n)
  | _, _, 0, h => h
  | [], xs, n + 1, h => by rw [RepVs_nil.mp h]; simp
  | d :: ds, xs, n + 1, h => by
    obtain ⟨x, r, rfl, q, s⟩ := RepVs_cons.mp h
    exact RepVs.drop n s
theorem RepVs.set {d : D} {x : V} (q : RepV K g d x) : ∀ {ds : List D} {xs : List V} (n : Nat), RepVs K g ds xs → RepVs K g (ds.set n d) (xs.set n x)
  | [], xs, n, h => by rw [RepVs_nil.mp h]; simp
  | e :: ds, xs, 0, h => by
    obtain ⟨y, r, rfl, _, s⟩ := RepVs_cons.mp h
    exact .cons q s
  | e :: ds, xs, n + 1, h => by
    obtain ⟨y, r, rfl, q', s⟩ := RepVs_cons.mp h
    exact .cons q' (RepVs.set q n s)
theorem RepVs.reverse : ∀ {ds : List D} {xs : List V}, RepVs K g ds xs → RepVs K g ds.reverse xs.reverse
  | [], xs, h => by rw [RepVs_nil.mp h]; simp
  | d :: ds, xs, h => by
    obtain ⟨x, r, rfl, q, s⟩ := RepVs_cons.mp h
    rw [List.reverse_cons, List.reverse_cons]
    exact (RepVs.reverse s).append (.cons q .nil)
theorem RepVs.one {d : D} {xs : List V} (h : RepVs K g [d] xs) : ∃ x, xs = [x] ∧ RepV K g d x := by
  obtain ⟨x, r, rfl, q, t⟩ := RepVs_cons.mp h
  rw [RepVs_nil.mp t]; exact ⟨x, rfl, q⟩
theorem RepVs.two {d e : D} {xs : List V} (h : RepVs K g [d, e] xs) : ∃ x y, xs = [x, y] ∧ RepV K g d x ∧ RepV K g e y := by
  obtain ⟨x, r, rfl, q, t⟩ := RepVs_cons.mp h
  obtain ⟨y, rfl, q'⟩ := t.one
  exact ⟨x, y, rfl, q, q'⟩
theorem RepVs.splitV : ∀ {ds es : List D} {zs : List V}, RepVs K g (ds ++ es) zs → ∃ xs ys, zs = xs ++ ys ∧ RepVs K g ds xs ∧ RepVs K g es ys
  | [], es, zs, h => ⟨[], zs, rfl, .nil, h⟩
  | d :: ds, es, zs, h => by
    obtain ⟨x, r, rfl, q, t⟩ := RepVs_cons.mp (show RepVs K g (d :: (ds ++ es)) zs from h)
    obtain ⟨xs, ys, rfl, a, b⟩ := RepVs.splitV t
    exact ⟨x :: xs, ys, rfl, .cons q a, b⟩

/-- what others rely on: reserved objects may change -/
structure ExtW (g g' : Gd) : Prop where
  n : g.N ≤ g'.N
  z : ∀ a, a ∈ g.Z → a ∈ g'.Z
  y : ∀ a, a ∈ g'.Z → a ∈ g.Z ∨ g.H a = none
  w : ∀ a, g'.H a = none → g.H a = none
  r : ∀ n, n < g.N → g'.ρ n = g.ρ n
  k : ∀ a u, g.H a = some u → ¬ g.img a → a ∉ g.Z → g'.H a = some u ∧ ¬ g'.img a
  s : ∀ a u, g.H a = some u → Stb u → g'.H a = some u
theorem ExtW.nz (e : ExtW g g') {a : Addr} {u : HO} (h : g.H a = some u) (n : a ∉ g.Z) : a ∉ g'.Z := fun q => (e.y a q).elim n fun z => by rw [h] at z; cases z
theorem ExtW.refl (g : Gd) : ExtW g g := ⟨Nat.le_refl _, fun _ h => h, fun _ h => .inl h, fun _ h => h, fun _ _ => rfl, fun _ _ h n _ => ⟨h, n⟩, fun _ _ h _ => h⟩
theorem ExtW.trans (a : ExtW g g') (b : ExtW g' g'') : ExtW g g'' :=
  ⟨Nat.le_trans a.n b.n, fun x h => b.z x (a.z x h), fun x h => (b.y x h).elim (a.y x) fun q => .inr (a.w x q), fun x h => a.w x (b.w x h), fun n h => (b.r n (Nat.lt_of_lt_of_le h a.n)).trans (a.r n h), fun x u h n z => let ⟨p, q⟩ := a.k x u h n z; b.k x u p q (a.nz h z), fun x u h t => b.s x u (a.s x u h t) t⟩
/-- what is kept behind a reading: all but the cells -/
structure Ext (g g' : Gd) : Prop extends ExtW g g' where
  q : ∀ a u, a ∈ g.Z → g.H a = some u → g'.H a = some u
theorem Ext.refl (g : Gd) : Ext g g := ⟨.refl g, fun _ _ _ h => h⟩
theorem Ext.trans (a : Ext g g') (b : Ext g' g'') : Ext g g'' := ⟨a.toExtW.trans b.toExtW, fun x u z h => b.q x u (a.z x z) (a.q x u z h)⟩
theorem ExtW.sqT (e : ExtW g g') {F : PySem.W.Frag} {a : Addr} {xs : List V} (h : SqT F g.H a xs) : SqT F g'.H a xs := by
  rcases h with (h | ⟨o, h⟩) | h
  · exact .inl (.inl (e.s _ _ h trivial))
  · exact .inl (.inr ⟨o, e.s _ _ h trivial⟩)
  · exact .inr h
mutual
theorem RepV.extw (e : ExtW g g') : ∀ {d : D} {v : V}, RepV K g d v → RepV K g' d v
  | .non, v, h => by simpa [RepV] using h
  | .bl b, v, h => by simpa [RepV] using h
  | .int i, v, h => by simpa [RepV] using h
  | .str x, v, h => by simpa [RepV] using h
  | .cst u, v, h => by simpa [RepV] using h
  | .ref n, v, h => by
    simp only [RepV] at h ⊢
    exact ⟨Nat.lt_of_lt_of_le h.1 e.n, by rw [e.r n h.1]; exact h.2⟩
  | .tup ds, v, h => by
    simp only [RepV] at h ⊢
    obtain ⟨a, xs, p, q, r⟩ := h
    exact ⟨a, xs, p, q.keep e.s, RepVs.extw e r⟩
  | .pr ds, v, h => by
    simp only [RepV] at h ⊢
    obtain ⟨a, xs, p, q, r⟩ := h
    exact ⟨a, xs, p, e.sqT q, RepVs.extw e r⟩
  | .lst ds, v, h => by
    simp only [RepV] at h ⊢
    obtain ⟨a, xs, p, q, n, r⟩ := h
    exact ⟨a, xs, p, (e.k _ _ q n.1 n.2).1, ⟨(e.k _ _ q n.1 n.2).2, e.nz q n.2⟩, RepVs.extw e r⟩
  | .fro ds, v, h => by
    simp only [RepV] at h ⊢
    obtain ⟨a, xs, p, q, r⟩ := h
    exact ⟨a, xs, p, q.keep e.s, RepVs.extw e r⟩
  | .dic t ks vs, v, h => by
    simp only [RepV] at h ⊢
    obtain ⟨a, us, p, q, n, r⟩ := h
    refine ⟨a, us, p, q.keep (fun o ho => (e.k _ _ ho n.1 n.2).1) e.s, ?_, RepVs.extw e r⟩
    obtain ⟨o, ho, _⟩ := q.mutO
    exact ⟨(e.k _ _ ho n.1 n.2).2, e.nz ho n.2⟩
theorem RepVs.extw (e : ExtW g g') : ∀ {ds : List D} {xs : List V}, RepVs K g ds xs → RepVs K g' ds xs
  | [], xs, h => by simpa using h
  | d :: ds, xs, h => by
    obtain ⟨x, r, rfl, q, t⟩ := RepVs_cons.mp h
    exact .cons (RepV.extw e q) (RepVs.extw e t)
end

theorem RepV.ext (e : Ext g g') {d : D} {v : V} (h : RepV K g d v) : RepV K g' d v := h.extw e.toExtW
theorem RepVs.ext (e : Ext g g') {d : List D} {v : List V} (h : RepVs K g d v) : RepVs K g' d v := h.extw e.toExtW

def CellRep (K : Wd) (g : Gd) (a : Addr) : Cell → Prop
  | .lst ds => ∃ xs, g.H a = some (.lst xs) ∧ RepVs K g ds xs
  | .dic t kvs => ∃ us, DicR K g.H a t (kvs.map (·.1)) us ∧ RepVs K g (kvs.map (·.2)) us
  | .ins C fs => ∃ dx fs', g.H a = some (.ins C dx fs') ∧ fs'.map (·.1) = fs.map (·.1) ∧ RepVs K g (fs.map (·.2)) (fs'.map (·.2))
structure HR (K : Wd) (g : Gd) (heap : Hea) : Prop where
  len : g.N = heap.length
  cell : ∀ n c, heap[n]? = some c → CellRep K g (g.ρ n) c
  inj : ∀ m n, m < g.N → n < g.N → g.ρ m = g.ρ n → m = n
  dis : ∀ n, n < g.N → g.ρ n ∉ g.Z
  zt : ∀ a ∈ g.Z, g.H a ≠ none
theorem CellRep.mutO {a : Addr} {c : Cell} (h : CellRep K g a c) : ∃ o, g.H a = some o ∧ MutO o := by
  cases c with
  | lst ds => obtain ⟨xs, e, _⟩ := h; exact ⟨_, e, trivial⟩
  | dic t kvs =>
    obtain ⟨us, d, _⟩ := h
    exact d.mutO
  | ins C fs => obtain ⟨dx, fs', e, _⟩ := h; exact ⟨_, e, trivial⟩
theorem HR.mutO {heap : Hea} (h : HR K g heap) {a : Addr} (i : g.img a) : ∃ o, g.H a = some o ∧ MutO o := by
  obtain ⟨n, hn, rfl⟩ := i
  have hl : n < heap.length := h.len ▸ hn
  exact (h.cell n heap[n] (by simp [hl])).mutO
theorem HR.fresh {heap : Hea} (h : HR K g heap) {p : Addr} (hp : g.H p = none) : ¬ g.img p ∧ p ∉ g.Z := by
  refine ⟨fun i => ?_, fun z => h.zt p z hp⟩
  obtain ⟨o, e, _⟩ := h.mutO i
  rw [hp] at e; cases e
theorem HR.stb {heap : Hea} (h : HR K g heap) {a : Addr} {u : HO} (e : g.H a = some u) (s : Stb u) : ¬ g.img a := fun i => by
  obtain ⟨o, e', m⟩ := h.mutO i
  rw [e] at e'; cases e'
  exact m.not s
/-- the abstract heap with an object at a -/
abbrev Gd.put (g : Gd) (a : Addr) (o : HO) : Gd := { g with H := upd g.H a o }
abbrev Gd.add (g : Gd) (a : Addr) (o : HO) : Gd := { g with H := upd g.H a o, ρ := fun n => if n = g.N then a else g.ρ n, N := g.N + 1 }
theorem upd_nn {H : Hp} {p : Addr} {o : HO} {a : Addr} (q : upd H p o a = none) : H a = none := by
  unfold upd at q
  split at q
  · cases q
  · exact q
/-- an untracked new object -/
theorem HR.ext_put {heap : Hea} (h : HR K g heap) {p : Addr} {o : HO} (hp : g.H p = none) : Ext g (g.put p o) := by
  have nf := h.fresh hp
  exact ⟨⟨Nat.le_refl _, fun _ q => q, fun _ q => .inl q, fun a q => upd_nn q, fun _ _ => rfl, fun a u e n _ => ⟨by show upd g.H p o a = _; rw [upd_ne (ne_of_none e hp)]; exact e, n⟩,
    fun a u e _ => by show upd g.H p o a = _; rw [upd_ne (ne_of_none e hp)]; exact e⟩, fun a u _ e => by show upd g.H p o a = _; rw [upd_ne (ne_of_none e hp)]; exact e⟩
theorem CellRep.ext (e : Ext g g') {a : Addr} {c : Cell} (hH : ∀ o, g.H a = some o → g'.H a = some o) (h : CellRep K g a c) : CellRep K g' a c := by
  cases c with
  | lst ds => obtain ⟨xs, p, q⟩ := h; exact ⟨xs, hH _ p, q.ext e⟩
  | dic t kvs => obtain ⟨us, p, q⟩ := h; exact ⟨us, p.keep hH e.s, q.ext e⟩
  | ins C fs => obtain ⟨dx, fs', p, r, q⟩ := h; exact ⟨dx, fs', hH _ p, r, q.ext e⟩
theorem HR.put {heap : Hea} (h : HR K g heap) {p : Addr} {o : HO} (hp : g.H p = none) : HR K (g.put p o) heap := by
  have e := h.ext_put (o := o) hp
  refine ⟨h.len, fun n c hc => (h.cell n c hc).ext e fun u hu => ?_, h.inj, h.dis, fun a z => ?_⟩
  · show upd g.H p o _ = _
    rw [upd_ne (ne_of_none hu hp)]; exact hu
  · have := h.zt a z
    cases q : g.H a with
    | none => exact absurd q this
    | some u => show upd g.H p o a ≠ none; rw [upd_ne (ne_of_none q hp), q]; simp
/-- a new cell -/
theorem HR.ext_add {heap : Hea} (h : HR K g heap) {p : Addr} {o : HO} (hp : g.H p = none) : Ext g (g.add p o) := by
  have nf := h.fresh hp
  refine ⟨⟨Nat.le_succ _, fun _ q => q, fun _ q => .inl q, fun a q => upd_nn q, fun n hn => ?_, fun a u e n _ => ⟨by show upd g.H p o a = _; rw [upd_ne (ne_of_none e hp)]; exact e, ?_⟩,
    fun a u e _ => by show upd g.H p o a = _; rw [upd_ne (ne_of_none e hp)]; exact e⟩, fun a u _ e => by show upd g.H p o a = _; rw [upd_ne (ne_of_none e hp)]; exact e⟩
  · show (if n = g.N then p else g.ρ n) = g.ρ n
    rw [if_neg (Nat.ne_of_lt hn)]
  · rintro ⟨m, hm, em⟩
    have em : (if m = g.N then p else g.ρ m) = a := em
    have hm : m < g.N + 1 := hm
    by_cases q : m = g.N
    · rw [if_pos q] at em; subst em; rw [hp] at e; cases e
    · rw [if_neg q] at em
      exact n ⟨m, by omega, em⟩
theorem HR.add {heap : Hea} (h : HR K g heap) {p : Addr} {o : HO} {c : Cell} (hp : g.H p = none) (hc : CellRep K (g.add p o) p c) : HR K (g.add p o) (heap ++ [c]) := by
  have e := h.ext_add (o := o) hp
  have nf := h.fresh hp
  have old : ∀ n, n < g.N → (g.add p o).ρ n = g.ρ n := e.r
  have new : (g.add p o).ρ g.N = p := by show (if g.N = g.N then p else g.ρ g.N) = p; rw [if_pos rfl]
  have ne : ∀ n, n < g.N → g.ρ n ≠ p := fun n hn z => nf.1 ⟨n, hn, z⟩
  refine ⟨by simp [h.len], fun n c' hc' => ?_, fun m n hm hn q => ?_, fun n hn => ?_, fun a z => ?_⟩
  · by_cases q : n < heap.length
    · rw [List.getElem?_append_left q] at hc'
      have hn : n < g.N := h.len ▸ q
      rw [old n hn]
      refine (h.cell n c' hc').ext e fun u hu => ?_
      show upd g.H p o _ = _
      rw [upd_ne (ne n hn)]; exact hu
    · have hn : n = heap.length := by
        have := (List.getElem?_eq_some_iff.mp hc').1
        simp at this; omega
      subst hn
      simp at hc'; subst hc'
      have : (g.add p o).ρ heap.length = p := by rw [← h.len]; exact new
      rw [this]; exact hc
  · have hm : m < g.N + 1 := hm
    have hn : n < g.N + 1 := hn
    rcases Nat.lt_succ_iff_lt_or_eq.mp hm with hm | rfl <;> rcases Nat.lt_succ_iff_lt_or_eq.mp hn with hn | rfl
    · rw [old m hm, old n hn] at q; exact h.inj m n hm hn q
    · rw [old m hm, new] at q; exact absurd q (ne m hm)
    · rw [old n hn, new] at q; exact absurd q.symm (ne n hn)
    · rfl
  · have hn : n < g.N + 1 := hn
    rcases Nat.lt_succ_iff_lt_or_eq.mp hn with hn | rfl
    · rw [old n hn]; exact h.dis n hn
    · rw [new]; exact nf.2
  · have := h.zt a z
    cases q : g.H a with
    | none => exact absurd q this
    | some u => show upd g.H p o a ≠ none; rw [upd_ne (ne_of_none q hp), q]; simp
/-- a cell is written -/
theorem HR.ext_set {heap : Hea} (h : HR K g heap) {n : Nat} {o : HO} (hn : n < g.N) : Ext g (g.put (g.ρ n) o) := by
  have i : g.img (g.ρ n) := ⟨n, hn, rfl⟩
  refine ⟨⟨Nat.le_refl _, fun _ q => q, fun _ q => .inl q, fun a q => upd_nn q, fun _ _ => rfl, fun a u e ni _ => ⟨?_, ni⟩, fun a u e s => ?_⟩, fun a u z e => ?_⟩
  · show upd g.H _ o a = _
    rw [upd_ne fun z => ni (by rw [z]; exact i)]; exact e
  · show upd g.H _ o a = _
    rw [upd_ne fun z => h.stb e s (by rw [z]; exact i)]; exact e
  · show upd g.H _ o a = _
    rw [upd_ne fun z' => h.dis n hn (by rw [← z']; exact z)]; exact e
theorem HR.set {heap : Hea} (h : HR K g heap) {n : Nat} {o : HO} {c : Cell} (hn : n < g.N) (hc : CellRep K (g.put (g.ρ n) o) (g.ρ n) c) : HR K (g.put (g.ρ n) o) (heap.set n c) := by
  have e := h.ext_set (o := o) hn
  refine ⟨by simp [h.len], fun m c' hc' => ?_, h.inj, h.dis, fun a z => ?_⟩
  · by_cases q : m = n
    · subst q
      have hl : m < heap.length := h.len ▸ hn
      rw [List.getElem?_set_self hl] at hc'
      cases hc'; exact hc
    · rw [List.getElem?_set_ne (Ne.symm q)] at hc'
      have hm : m < g.N := by rw [h.len]; exact (List.getElem?_eq_some_iff.mp hc').1
      refine (h.cell m c' hc').ext e fun u hu => ?_
      show upd g.H _ o _ = _
      rw [upd_ne fun z => q (h.inj m n hm hn z)]; exact hu
  · show upd g.H _ o a ≠ none
    rw [upd_ne fun z' => h.dis n hn (by rw [← z']; exact z)]
    exact h.zt a z
/-- a reserved address more -/
abbrev Gd.res (g : Gd) (p : Addr) : Gd := { g with Z := p :: g.Z }
end
end DD

set_option Elab.async false
set_option linter.all false
set_option maxRecDepth 100000
set_option maxHeartbeats 1000000
namespace DD
open PySem PySem.Spec PyProof.Rows L2

/-! ### readings -/
def ER (K : Wd) (g : Gd) (env : En) (σ : List (Option V)) : Prop := env.length = σ.length ∧ ∀ (i : Nat) (d : D), env[i]? = some (some d) → ∃ v, σ[i]? = some (some v) ∧ RepV K g d v
def ExR (K : Wd) (g : Gd) (e : Exn) (od : Option Addr) : Prop := match e.fs with
  | [] => True
  | _ => ∃ a fs', od = some a ∧ g.H a = some (.xd fs') ∧ fs'.map (·.1) = e.fs.map (·.1) ∧ RepVs K g (e.fs.map (·.2)) (fs'.map (·.2))
def WF : WX := fun _ _ _ _ => False
section
variable {K : Wd} {W : WX} {α β γ δ : Type} {A : Gd → α → β → Prop} {B : Gd → γ → δ → Prop} {σ : L2.St} {g g1 g' : Gd}
theorem ER.extw {env : En} (h : ER K g env σ) (e : ExtW g g') : ER K g' env σ := ⟨h.1, fun i d q => let ⟨v, a, b⟩ := h.2 i d q; ⟨v, a, b.extw e⟩⟩
theorem ER.ext {env : En} (h : ER K g env σ) (e : Ext g g') : ER K g' env σ := ⟨h.1, fun i d q => let ⟨v, a, b⟩ := h.2 i d q; ⟨v, a, b.ext e⟩⟩
def Post (K : Wd) (W : WX) (A : Gd → α → β → Prop) (σ : L2.St) (g : Gd) (r : R α) (Q : β → Hp → Prop) : Prop := match r with
  | .no => False
  | .ok d h => ∀ g' v, HR K g' h → Ext g g' → A g' d v → Q v g'.H
  | .ex e h => ∀ g' od, HR K g' h → Ext g g' → ExR K g' e od → W e.cls od σ g'.H
theorem Post.imp {r : R α} {Q Q' : β → Hp → Prop} (p : Post K W A σ g r Q) (h : ∀ v H, Q v H → Q' v H) : Post K W A σ g r Q' := by
  cases r with
  | no => exact p
  | ok d x => exact fun g' v a b c => h _ _ (p g' v a b c)
  | ex e x => exact p
theorem Post.rebase {r : R α} {Q : β → Hp → Prop} (p : Post K W A σ g r Q) (e : Ext g g1) : Post K W A σ g1 r Q := by
  cases r with
  | no => exact p
  | ok d x => exact fun g' v a b c => p g' v a (e.trans b) c
  | ex _ x => exact fun g' v a b c => p g' v a (e.trans b) c
theorem Post.bind {r : R α} {k : α → Hea → R γ} {Q : δ → Hp → Prop} (p : Post K W B σ g (r.bind k) Q) :
    Post K W A σ g r (fun v H1 => ∃ g1 h1 a, g1.H = H1 ∧ HR K g1 h1 ∧ Ext g g1 ∧ A g1 a v ∧ Post K W B σ g1 (k a h1) Q) := by
  cases r with
  | no => exact p
  | ok d x => exact fun g' v a b c => ⟨g', x, d, rfl, a, b, c, Post.rebase (r := k d x) p b⟩
  | ex e x => exact p
def rd (K : Wd) (W : WX) (A : Gd → α → β → Prop) (f : En → Hea → R α) : L2.St → Hp → (β → Hp → Prop) → Prop := fun σ H Q =>
  ∃ g env heap, g.H = H ∧ HR K g heap ∧ ER K g env σ ∧ Post K W A σ g (f env heap) Q
end
abbrev Eqb : Gd → Bool → Bool → Prop := fun _ a b => b = a
abbrev DE (X : Cx) (W : WX) (e : Expr) (f : En → Hea → R D) : Prop := PE X e (rd X.wd W (RepV X.wd) f)
abbrev DT (X : Cx) (W : WX) (e : Expr) (f : En → Hea → R Bool) : Prop := PT X e (rd X.wd W Eqb f)
abbrev DW (X : Cx) (W : WX) (e : Expr) (f : En → Hea → R Bool) : Prop := PW X e (rd X.wd W Eqb f)
abbrev DA (X : Cx) (W : WX) (es : List Expr) (f : En → Hea → R (List D)) : Prop := PA X es (rd X.wd W (RepVs X.wd) f)
section
variable {X : Cx}
theorem pe_imp {e : Expr} {t t' : TE} (h : PE X e t) (i : ∀ σ H Q, t' σ H Q → t σ H Q) : PE X e t' := ⟨fun pins s σ H Q I q => h.run pins s σ H Q I (i σ H Q q)⟩
theorem pt_imp {e : Expr} {t t' : TT} (h : PT X e t) (i : ∀ σ H Q, t' σ H Q → t σ H Q) : PT X e t' := ⟨fun pins s σ H Q I q => h.run pins s σ H Q I (i σ H Q q)⟩
theorem pw_imp {e : Expr} {t t' : TT} (h : PW X e t) (i : ∀ σ H Q, t' σ H Q → t σ H Q) : PW X e t' := ⟨fun wh pins s σ H Q I q => h.run wh pins s σ H Q I (i σ H Q q)⟩
theorem pa_imp {e : List Expr} {t t' : TA} (h : PA X e t) (i : ∀ σ H Q, t' σ H Q → t σ H Q) : PA X e t' := ⟨fun pos pins s σ H Q I q => h.run pos pins s σ H Q I (i σ H Q q)⟩
theorem ps_imp {e : Stmt} {t t' : TS} (h : PS X e t) (i : ∀ D σ H, t' D σ H → t D σ H) : PS X e t' := ⟨fun pins s σ H D I q => h.run pins s σ H D I (i D σ H q)⟩
theorem pss_imp {e : List Stmt} {t t' : TS} (h : PSs X e t) (i : ∀ D σ H, t' D σ H → t D σ H) : PSs X e t' := ⟨fun pins s σ H D I q => h.run pins s σ H D I (i D σ H q)⟩

variable {W : WX} {K : Wd}
/-! ### names and constants -/
def R.of {α : Type} (o : Option α) (h : Hea) : R α := match o with
  | some a => .ok a h
  | none => .no
@[simp] theorem R.of_some {α : Type} {a : α} {h : Hea} : R.of (some a) h = .ok a h := rfl
@[simp] theorem R.of_none {α : Type} {h : Hea} : (R.of none h : R α) = .no := rfl
def fVar (i : Nat) : En → Hea → R D := fun e h => R.of ((e[i]?).join) h
def fC (d : D) : En → Hea → R D := fun _ h => .ok d h
theorem de_var {e : Expr} {i : Nat} (h : PE X e (tVar i)) : DE X W e (fVar i) := by
  refine pe_imp h fun σ H Q ⟨g, env, heap, e1, hr, er, p⟩ => ?_
  subst e1
  unfold fVar at p
  cases q : env[i]? with
  | none => rw [q] at p; exact p.elim
  | some o =>
    cases o with
    | none => rw [q] at p; exact p.elim
    | some d =>
      rw [q] at p
      obtain ⟨v, a, b⟩ := er.2 i d q
      exact ⟨v, a, p g v hr (.refl _) b⟩
theorem de_c {e : Expr} {d : D} {v : V} (h : PE X e (tC v)) (r : ∀ g, RepV X.wd g d v) : DE X W e (fC d) := by
  refine pe_imp h fun σ H Q ⟨g, env, heap, e1, hr, er, p⟩ => ?_
  subst e1
  exact p g v hr (.refl _) (r g)
theorem de_int {i j pos} : DE X W (.Constant (.int i) j pos) (fC (.int i)) := de_c pe_int fun g => by simp [RepV]
theorem de_bl {b j pos} : DE X W (.Constant (.bool b) j pos) (fC (.bl b)) := de_c pe_bl fun g => by simp [RepV]
theorem de_non {j pos} : DE X W (.Constant .none j pos) (fC .non) := de_c pe_non fun g => by simp [RepV]
theorem de_str {x j pos} : DE X W (.Constant (.str x) j pos) (fC (.str x)) := de_c pe_str fun g => by simp [RepV]
/-- a module's int -/
theorem de_gint {x : Str} {i : Int} {pos : Pos} (hg : Gl X x) (hm : ∃ t, X.mg x = some (.int i t)) (hd : (x == ("__debug__" : Str)) = false := by decide) : DE X W (.Name x pos) (fC (.int i)) := by
  obtain ⟨t, hm⟩ := hm
  exact de_c (v := .int i) (pe_glob hg hm ⟨t, rfl⟩ hd) fun g => by simp [RepV]

/-! ### pairs of values -/
def rOp2 (K : Wd) (g2 : D → D → Hea → Option D) : R2 := fun x y H Q => ∃ g heap a b d, g.H = H ∧ HR K g heap ∧ RepV K g a x ∧ RepV K g b y ∧ g2 a b heap = some d ∧ ∀ g' v, HR K g' heap → Ext g g' → RepV K g' d v → Q v g'.H
def rOp1 (K : Wd) (g1 : D → Hea → Option D) : V → Hp → VK → Prop := fun x H Q => ∃ g heap a d, g.H = H ∧ HR K g heap ∧ RepV K g a x ∧ g1 a heap = some d ∧ ∀ g' v, HR K g' heap → Ext g g' → RepV K g' d v → Q v g'.H
def rOpN (K : Wd) (gn : List D → Hea → Option D) : List V → Hp → VK → Prop := fun xs H Q => ∃ g heap as d, g.H = H ∧ HR K g heap ∧ RepVs K g as xs ∧ gn as heap = some d ∧ ∀ g' v, HR K g' heap → Ext g g' → RepV K g' d v → Q v g'.H
def fBin (g2 : D → D → Hea → Option D) (fa fb : En → Hea → R D) : En → Hea → R D := fun e h => (fa e h).bind fun a h1 => (fb e h1).bind fun b h2 => R.of (g2 a b h2) h2
def fUn (g1 : D → Hea → Option D) (fa : En → Hea → R D) : En → Hea → R D := fun e h => (fa e h).bind fun a h1 => R.of (g1 a h1) h1
def fNary (gn : List D → Hea → Option D) (fa : En → Hea → R (List D)) : En → Hea → R D := fun e h => (fa e h).bind fun as h1 => R.of (gn as h1) h1
abbrev OpD (X : Cx) (f : Value → Value → Sem Value) (g2 : D → D → Hea → Option D) : Prop := OpR X f (rOp2 X.wd g2)
abbrev UnD (X : Cx) (f : Value → Sem Value) (g1 : D → Hea → Option D) : Prop := UnR X f (rOp1 X.wd g1)
abbrev CallD (X : Cx) (f : Value) (gn : List D → Hea → Option D) : Prop := CallR X f (rOpN X.wd gn)
theorem Post.of1 {α β : Type} {A : Gd → α → β → Prop} {σ : L2.St} {g : Gd} {o : Option α} {h : Hea} {Q : β → Hp → Prop} (p : Post K W A σ g (R.of o h) Q) : ∃ d, o = some d ∧ ∀ g' v, HR K g' h → Ext g g' → A g' d v → Q v g'.H := by
  cases o with
  | none => exact p.elim
  | some d => exact ⟨d, rfl, p⟩
theorem rd_bin {g2 : D → D → Hea → Option D} {fa fb : En → Hea → R D} {r : R2} (hr : ∀ x y H Q, rOp2 K g2 x y H Q → r x y H Q) {σ : L2.St} {H : Hp} {Q : VK} (p : rd K W (RepV K) (fBin g2 fa fb) σ H Q) :
    rd K W (RepV K) fa σ H fun x H1 => rd K W (RepV K) fb σ H1 fun y H2 => r x y H2 Q := by
  obtain ⟨g, env, heap, e1, hh, er, p⟩ := p
  refine ⟨g, env, heap, e1, hh, er, (Post.bind (A := RepV K) p).imp fun x H1 ⟨g1, h1, a, e2, hh1, x1, ra, p1⟩ => ?_⟩
  refine ⟨g1, env, h1, e2, hh1, er.ext x1, (Post.bind (A := RepV K) p1).imp fun y H2 ⟨g2', h2, b, e3, hh2, x2, rb, p2⟩ => hr _ _ _ _ ?_⟩
  obtain ⟨d, ed, q⟩ := p2.of1
  exact ⟨g2', h2, a, b, d, e3, hh2, ra.ext x2, rb, ed, q⟩
theorem de_op {op : Operator} {g2 : D → D → Hea → Option D} {a b : Expr} {fa fb : En → Hea → R D} {pos : Pos} (ho : OpD X (binaryOp op) g2) (ha : DE X W a fa) (hb : DE X W b fb) : DE X W (.BinOp a op b pos) (fBin g2 fa fb) :=
  pe_imp (pe_op ho ha hb) fun σ H Q p => rd_bin (fun _ _ _ _ h => h) p
theorem de_cmp {op : CmpOp} {g2 : D → D → Hea → Option D} {a b : Expr} {fa fb : En → Hea → R D} {pos : Pos} (ho : OpD X (compareOp op) g2) (ha : DE X W a fa) (hb : DE X W b fb) (hm : behindInMarks op b = false) : DE X W (.Compare a [op] [b] pos) (fBin g2 fa fb) :=
  pe_imp (pe_cmpR ho ha hb hm) fun σ H Q p => rd_bin (fun _ _ _ _ h => h) p
/-- a test whose value is a truth -/
def asB (f : En → Hea → R D) : En → Hea → R Bool := fun e h => (f e h).bind fun d h1 => match d with
  | .bl b => .ok b h1
  | _ => .no
theorem rd_asB {f : En → Hea → R D} {σ : L2.St} {H : Hp} {Q : Bool → Hp → Prop} (p : rd K W Eqb (asB f) σ H Q) : rd K W (RepV K) f σ H fun x H1 => ∃ k, x = .bl k ∧ Q k H1 := by
  obtain ⟨g, env, heap, e1, hh, er, p⟩ := p
  refine ⟨g, env, heap, e1, hh, er, (Post.bind (A := RepV K) p).imp fun x H1 ⟨g1, h1, a, e2, hh1, x1, ra, p1⟩ => ?_⟩
  cases a with
  | bl b =>
    subst e2
    exact ⟨b, by simpa [RepV] using ra, p1 g1 b hh1 (.refl _) rfl⟩
  | _ => exact p1.elim
theorem dt_cmp {op : CmpOp} {g2 : D → D → Hea → Option D} {a b : Expr} {fa fb : En → Hea → R D} {pos : Pos} (ho : OpD X (compareOp op) g2) (ha : DE X W a fa) (hb : DE X W b fb) (hm : behindInMarks op b = false) : DT X W (.Compare a [op] [b] pos) (asB (fBin g2 fa fb)) :=
  pt_imp (pt_cmpR ho ha hb hm) fun σ H Q p => by
    obtain ⟨g, env, heap, e1, hh, er, p⟩ := rd_asB p
    exact rd_bin (Q := fun x H' => ∃ k, x = V.bl k ∧ Q k H') (fun _ _ _ _ h => h) ⟨g, env, heap, e1, hh, er, p⟩
theorem dt_val {e : Expr} {f : En → Hea → R D} (h : DE X W e f) (he : ∀ whole, isTrue e X.env whole = (do let v ← whole; standAt e.pos; holding [v] (truthy v)) := by intro _; rfl) : DT X W e (asB f) :=
  pt_imp (pt_val h he) fun σ H Q p => rd_asB p
/-- a < b < c -/
def fChain (g2 g2' : D → D → Hea → Option D) (fa fb fc : En → Hea → R D) : En → Hea → R D := fun e h => (fa e h).bind fun a h1 => (fb e h1).bind fun b h2 => (R.of (g2 a b h2) h2).bind fun z h3 => match z with
  | .bl true => (fc e h3).bind fun c h4 => R.of (g2' b c h4) h4
  | .bl false => .ok (.bl false) h3
  | _ => .no
theorem de_chain {op op' : CmpOp} {g2 g2' : D → D → Hea → Option D} {a b c : Expr} {fa fb fc : En → Hea → R D} {pos : Pos} (ho : OpD X (compareOp op) g2) (ho' : OpD X (compareOp op') g2') (ha : DE X W a fa) (hb : DE X W b fb) (hc : DE X W c fc)
    (hm : behindInMarks op b = false) (hm' : behindInMarks op' c = false) (mk : PE X (.Compare a [op, op'] [b, c] pos) (tChain (rOp2 X.wd g2) (rOp2 X.wd g2') (rd X.wd W (RepV X.wd) fa) (rd X.wd W (RepV X.wd) fb) (rd X.wd W (RepV X.wd) fc))) : DE X W (.Compare a [op, op'] [b, c] pos) (fChain g2 g2' fa fb fc) := by
  refine pe_imp mk fun σ H Q p => ?_
  obtain ⟨g, env, heap, e1, hh, er, p⟩ := p
  refine ⟨g, env, heap, e1, hh, er, (Post.bind (A := RepV X.wd) p).imp fun x H1 ⟨g1, h1, a, e2, hh1, x1, ra, p1⟩ => ?_⟩
  refine ⟨g1, env, h1, e2, hh1, er.ext x1, (Post.bind (A := RepV X.wd) p1).imp fun y H2 ⟨g2', h2, b, e3, hh2, x2, rb, p2⟩ => ?_⟩
  cases q : g2 a b h2 with
  | none => rw [q] at p2; exact p2.elim
  | some z =>
    rw [q] at p2
    refine ⟨g2', h2, a, b, z, e3, hh2, ra.ext x2, rb, q, fun g3 v hh3 x3 rz => ?_⟩
    cases z with
    | bl k =>
      refine ⟨k, by simpa [RepV] using rz, ?_⟩
      cases k with
      | false =>
        simp only [R.of_some, R.bind_ok] at p2
        rw [if_neg Bool.false_ne_true]
        have : v = .bl false := by simpa [RepV] using rz
        exact p2 g3 _ hh3 x3 (by simp [RepV])
      | true =>
        simp only [R.of_some, R.bind_ok] at p2
        rw [if_pos rfl]
        refine ⟨g3, env, h2, rfl, hh3, ((er.ext x1).ext x2).ext x3, (Post.bind (A := RepV X.wd) (p2.rebase x3)).imp fun w H4 ⟨g4, h4, c, e5, hh4, x4, rc, p4⟩ => ?_⟩
        obtain ⟨d, ed, q⟩ := p4.of1
        exact ⟨g4, h4, b, c, d, e5, hh4, (rb.ext x3).ext x4, rc, ed, q⟩
    | _ => exact p2.elim
theorem de_un {op : UnaryOp} {g1 : D → Hea → Option D} {a : Expr} {fa : En → Hea → R D} {pos : Pos} (ho : UnD X (unaryOp op) g1) (ha : DE X W a fa) : DE X W (.UnaryOp op a pos) (fUn g1 fa) :=
  pe_imp (pe_un ho ha) fun σ H Q ⟨g, env, heap, e1, hh, er, p⟩ => by
    refine ⟨g, env, heap, e1, hh, er, (Post.bind (A := RepV X.wd) p).imp fun x H1 ⟨g1', h1, a, e2, hh1, x1, ra, p1⟩ => ?_⟩
    obtain ⟨d, ed, q⟩ := p1.of1
    exact ⟨g1', h1, a, d, e2, hh1, ra, ed, q⟩
/-! ### argument lists -/
def aNil : En → Hea → R (List D) := fun _ h => .ok [] h
def aCons (f : En → Hea → R D) (fr : En → Hea → R (List D)) : En → Hea → R (List D) := fun e h => (f e h).bind fun a h1 => (fr e h1).bind fun as h2 => .ok (a :: as) h2
theorem da_nil : DA X W [] aNil := pa_imp pa_nil fun σ H Q ⟨g, env, heap, e1, hh, er, p⟩ => by
  subst e1
  exact p g [] hh (.refl _) .nil
theorem da_cons {e : Expr} {es : List Expr} {f : En → Hea → R D} {fr : En → Hea → R (List D)} (ha : DE X W e f) (hr : DA X W es fr) (hs : starEach (e :: es) X.env = (false, eval e X.env) :: starEach es X.env := by rfl) : DA X W (e :: es) (aCons f fr) :=
  pa_imp (pa_cons ha hr hs) fun σ H Q ⟨g, env, heap, e1, hh, er, p⟩ => by
    refine ⟨g, env, heap, e1, hh, er, (Post.bind (A := RepV X.wd) p).imp fun x H1 ⟨g1, h1, a, e2, hh1, x1, ra, p1⟩ => ?_⟩
    refine ⟨g1, env, h1, e2, hh1, er.ext x1, (Post.bind (A := RepVs X.wd) p1).imp fun xs H2 ⟨g2, h2, as, e3, hh2, x2, rb, p2⟩ => ?_⟩
    subst e3
    exact p2 g2 _ hh2 (.refl _) (.cons (ra.ext x2) rb)
/-! ### displays -/
def dTup (as : List D) (_ : Hea) : Option D := if as.length ≤ sizeLine then some (.tup as) else none
def dLst (as : List D) (_ : Hea) : Option D := if as.length ≤ sizeLine then some (.lst as) else none
def dCell (fa : En → Hea → R (List D)) : En → Hea → R D := fun e h => (fa e h).bind fun as h1 => if as.length ≤ sizeLine then .ok (.ref h1.length) (h1 ++ [.lst as]) else .no
theorem HR.newTup {g : Gd} {heap : Hea} {as : List D} {xs : List V} {p : Addr} {o : Obj} (hh : HR K g heap) (r : RepVs K g as xs) (hp : g.H p = none) (ho : o.dict = none) :
    HR K (g.put p (.frz o (.tup xs))) heap ∧ Ext g (g.put p (.frz o (.tup xs))) ∧ RepV K (g.put p (.frz o (.tup xs))) (.tup as) (.ref p) := by
  refine ⟨hh.put hp, hh.ext_put hp, ?_⟩
  simp only [RepV]
  exact ⟨p, xs, rfl, ⟨o, upd_same, ho⟩, r.ext (hh.ext_put hp)⟩
/-- a tuple's object, new -/
def tupOb (us : Array Value) : Obj := { cls := .type "tuple", data := .seq us }
theorem _root_.L2.Inv.newTup {pins : List (Addr × Obj)} {σ : L2.St} {H : Hp} {s : Shared} {xs : List V} {us : List Value} {t' : Nat} (I : Inv X pins σ H s) (r : Vals xs us) (hz : xs.length ≤ sizeLine) :
    H s.heap.objs.size = none ∧ Inv X pins σ (upd H s.heap.objs.size (.frz (tupOb us.toArray) (.tup xs))) { s with heap := s.heap.push (tupOb us.toArray), toks := t' } := by
  have hn : H s.heap.objs.size = none := I.hok.fresh (Nat.le_refl _)
  have hget : (s.heap.push (tupOb us.toArray)).get? s.heap.objs.size = some (tupOb us.toArray) := Heap.get?_push_size _ rfl
  exact ⟨hn, I.laid (fun b u e => Heap.get?_push_of_some _ e) (Nat.le_refl _) ⟨hget, hz, us, r, _, hget, rfl, _, rfl⟩⟩
theorem HR.newLst {g : Gd} {heap : Hea} {as : List D} {xs : List V} {p : Addr} (hh : HR K g heap) (r : RepVs K g as xs) (hp : g.H p = none) : HR K (g.put p (.lst xs)) heap ∧ Ext g (g.put p (.lst xs)) ∧ RepV K (g.put p (.lst xs)) (.lst as) (.ref p) := by
  refine ⟨hh.put hp, hh.ext_put hp, ?_⟩
  simp only [RepV]
  exact ⟨p, xs, rfl, upd_same, hh.fresh hp, r.ext (hh.ext_put hp)⟩
theorem HR.newCell {g : Gd} {heap : Hea} {as : List D} {xs : List V} {p : Addr} (hh : HR K g heap) (r : RepVs K g as xs) (hp : g.H p = none) : HR K (g.add p (.lst xs)) (heap ++ [.lst as]) ∧ Ext g (g.add p (.lst xs)) ∧ RepV K (g.add p (.lst xs)) (.ref heap.length) (.ref p) := by
  refine ⟨hh.add hp ⟨xs, upd_same, r.ext (hh.ext_add hp)⟩, hh.ext_add hp, ?_⟩
  show _ ∧ _
  rw [← hh.len]
  refine ⟨Nat.lt_succ_self _, ?_⟩
  show V.ref p = V.ref (if g.N = g.N then p else g.ρ g.N)
  rw [if_pos rfl]
theorem de_tup {es : List Expr} {fa : En → Hea → R (List D)} {x1} {pos : Pos} (h : DA X W es fa) : DE X W (.Tuple es x1 pos) (fNary dTup fa) := by
  refine ⟨fun pins s σ H Q I ⟨g, env, heap, e1, hh, er, p⟩ => Tuple_ ?_⟩
  refine thn (h.run _ pins s σ H _ I ⟨g, env, heap, e1, hh, er, Post.bind (A := RepVs X.wd) p⟩) fun us s1 ⟨vs, H1, I1, r1, g1, h1, as, e2, hh1, x1, ra, p1⟩ => ?_
  subst e2
  obtain ⟨d, ed, q⟩ := p1.of1
  unfold dTup at ed
  split at ed <;> cases ed
  rename_i hl
  have hz : vs.length ≤ sizeLine := by rw [← ra.len]; exact hl
  obtain ⟨hn, I2⟩ := I1.newTup (t' := s1.toks) r1 hz
  refine wpAny_newObj_type ?_ (by show us.toArray.size ≤ sizeLine; rw [List.size_toArray, ← r1.length]; exact hz)
  obtain ⟨a, b, c⟩ := hh1.newTup ra hn (o := tupOb us.toArray) rfl
  exact ⟨.ref s1.heap.objs.size, _, I2, rfl, q _ _ a b c⟩
theorem de_lst {es : List Expr} {fa : En → Hea → R (List D)} {pos : Pos} (h : DA X W es fa) : DE X W (.List es pos) (fNary dLst fa) :=
  pe_imp (pe_lst h) fun σ H Q ⟨g, env, heap, e1, hh, er, p⟩ => by
    refine ⟨g, env, heap, e1, hh, er, (Post.bind (A := RepVs X.wd) p).imp fun x H1 ⟨g1, h1, as, e2, hh1, x1, ra, p1⟩ => ?_⟩
    subst e2
    obtain ⟨d, ed, q⟩ := p1.of1
    unfold dLst at ed
    split at ed <;> cases ed
    rename_i hl
    refine ⟨by rw [← ra.len]; exact hl, fun l hlf => ?_⟩
    obtain ⟨a, b, c⟩ := hh1.newLst ra hlf
    exact q _ _ a b c
theorem de_lstC {es : List Expr} {fa : En → Hea → R (List D)} {pos : Pos} (h : DA X W es fa) : DE X W (.List es pos) (dCell fa) :=
  pe_imp (pe_lst h) fun σ H Q ⟨g, env, heap, e1, hh, er, p⟩ => by
    refine ⟨g, env, heap, e1, hh, er, (Post.bind (A := RepVs X.wd) p).imp fun x H1 ⟨g1, h1, as, e2, hh1, x1, ra, p1⟩ => ?_⟩
    subst e2
    by_cases hl : as.length ≤ sizeLine
    · rw [if_pos hl] at p1
      refine ⟨by rw [← ra.len]; exact hl, fun l hlf => ?_⟩
      obtain ⟨a, b, c⟩ := hh1.newCell ra hlf
      exact p1 _ _ a b c
    · rw [if_neg hl] at p1; exact p1.elim
/-! ### and, or, not, if -/
def fAnd (ta tb : En → Hea → R Bool) : En → Hea → R Bool := fun e h => (ta e h).bind fun b h1 => if b = true then tb e h1 else .ok false h1
def fOr (ta tb : En → Hea → R Bool) : En → Hea → R Bool := fun e h => (ta e h).bind fun b h1 => if b = true then .ok true h1 else tb e h1
def fNot (ta : En → Hea → R Bool) : En → Hea → R Bool := fun e h => (ta e h).bind fun b h1 => .ok (!b) h1
def fIf (t : En → Hea → R Bool) (fa fb : En → Hea → R D) : En → Hea → R D := fun e h => (t e h).bind fun b h1 => if b = true then fa e h1 else fb e h1
/-- truths as values -/
def fBl (t : En → Hea → R Bool) : En → Hea → R D := fun e h => (t e h).bind fun b h1 => .ok (.bl b) h1
theorem dt_not {a : Expr} {t : En → Hea → R Bool} {pos : Pos} (h : DT X W a t) : DT X W (.UnaryOp .Not a pos) (fNot t) :=
  pt_imp (pt_not h) fun σ H Q ⟨g, env, heap, e1, hh, er, p⟩ => by
    refine ⟨g, env, heap, e1, hh, er, (Post.bind (A := Eqb) p).imp fun x H1 ⟨g1, h1, as, e2, hh1, x1, ra, p1⟩ => ?_⟩
    subst e2; subst ra
    exact p1 g1 _ hh1 (.refl _) rfl
theorem dw_and1 {a : Expr} {t : En → Hea → R Bool} {pos : Pos} (h : DT X W a t) : DW X W (.BoolOp .And [a] pos) t := pw_and1 h
theorem dw_or1 {a : Expr} {t : En → Hea → R Bool} {pos : Pos} (h : DT X W a t) : DW X W (.BoolOp .Or [a] pos) t := pw_or1 h
theorem dw_and {a b : Expr} {rest : List Expr} {ta tb : En → Hea → R Bool} {pos : Pos} (ha : DT X W a ta) (hb : DW X W (.BoolOp .And (b :: rest) pos) tb) : DW X W (.BoolOp .And (a :: b :: rest) pos) (fAnd ta tb) :=
  pw_imp (pw_and ha hb) fun σ H Q ⟨g, env, heap, e1, hh, er, p⟩ => by
    refine ⟨g, env, heap, e1, hh, er, (Post.bind (A := Eqb) p).imp fun x H1 ⟨g1, h1, as, e2, hh1, x1, ra, p1⟩ => ?_⟩
    subst e2; subst ra
    cases x with
    | true => rw [if_pos rfl] at p1 ⊢; exact ⟨g1, env, h1, rfl, hh1, er.ext x1, p1⟩
    | false => rw [if_neg Bool.false_ne_true] at p1 ⊢; exact p1 g1 _ hh1 (.refl _) rfl
theorem dw_or {a b : Expr} {rest : List Expr} {ta tb : En → Hea → R Bool} {pos : Pos} (ha : DT X W a ta) (hb : DW X W (.BoolOp .Or (b :: rest) pos) tb) : DW X W (.BoolOp .Or (a :: b :: rest) pos) (fOr ta tb) :=
  pw_imp (pw_or ha hb) fun σ H Q ⟨g, env, heap, e1, hh, er, p⟩ => by
    refine ⟨g, env, heap, e1, hh, er, (Post.bind (A := Eqb) p).imp fun x H1 ⟨g1, h1, as, e2, hh1, x1, ra, p1⟩ => ?_⟩
    subst e2; subst ra
    cases x with
    | true => rw [if_pos rfl] at p1 ⊢; exact p1 g1 _ hh1 (.refl _) rfl
    | false => rw [if_neg Bool.false_ne_true] at p1 ⊢; exact ⟨g1, env, h1, rfl, hh1, er.ext x1, p1⟩
theorem de_ifExp {c a b : Expr} {t : En → Hea → R Bool} {fa fb : En → Hea → R D} {pos : Pos} (hc : DT X W c t) (ha : DE X W a fa) (hb : DE X W b fb) : DE X W (.IfExp c a b pos) (fIf t fa fb) :=
  pe_imp (pe_ifExp hc ha hb) fun σ H Q ⟨g, env, heap, e1, hh, er, p⟩ => by
    refine ⟨g, env, heap, e1, hh, er, (Post.bind (A := Eqb) p).imp fun x H1 ⟨g1, h1, as, e2, hh1, x1, ra, p1⟩ => ?_⟩
    subst e2; subst ra
    cases x with
    | true => rw [if_pos rfl] at p1 ⊢; exact ⟨g1, env, h1, rfl, hh1, er.ext x1, p1⟩
    | false => rw [if_neg Bool.false_ne_true] at p1 ⊢; exact ⟨g1, env, h1, rfl, hh1, er.ext x1, p1⟩
/-- values that are truths -/
def fAndV (fa fb : En → Hea → R D) : En → Hea → R D := fun e h => (asB fa e h).bind fun b h1 => if b = true then fb e h1 else .ok (.bl false) h1
def fOrV (fa fb : En → Hea → R D) : En → Hea → R D := fun e h => (asB fa e h).bind fun b h1 => if b = true then .ok (.bl true) h1 else fb e h1
def fNotV (fa : En → Hea → R D) : En → Hea → R D := fun e h => (asB fa e h).bind fun b h1 => .ok (.bl (!b)) h1
theorem rd_asB2 {f : En → Hea → R D} {k : En → Bool → Hea → R D} {σ : L2.St} {H : Hp} {Q : VK} (p : rd K W (RepV K) (fun e h => (asB f e h).bind (k e)) σ H Q) :
    rd K W (RepV K) f σ H fun x H1 => ∃ b, x = .bl b ∧ ∃ g1 env h1, g1.H = H1 ∧ HR K g1 h1 ∧ ER K g1 env σ ∧ Post K W (RepV K) σ g1 (k env b h1) Q := by
  obtain ⟨g, env, heap, e1, hh, er, p⟩ := p
  have p' := Post.bind (A := Eqb) p
  have p2 : rd K W Eqb (asB f) σ H _ := ⟨g, env, heap, e1, hh, er, p'⟩
  obtain ⟨g, env', heap, e1, hh, er', p⟩ := p2
  unfold asB at p'
  refine ⟨_, env, _, ‹_›, ‹_›, er, (Post.bind (A := RepV K) p').imp fun x H1 ⟨g1, h1, a, e2, hh1, x1, ra, p1⟩ => ?_⟩
  cases a with
  | bl b =>
    obtain ⟨g3, h3, b', e4, hh3, x3, rb, p3⟩ := p1 g1 b hh1 (.refl _) rfl
    subst rb
    exact ⟨b, by simpa [RepV] using ra, g3, env, h3, e4.trans e2, hh3, (er.ext x3), p3⟩
  | _ => exact p1.elim
theorem de_one {op} {a : Expr} {fa : En → Hea → R D} {pos : Pos} (h : DE X W a fa) : DE X W (.BoolOp op [a] pos) fa := pe_one h
theorem de_and {a b : Expr} {rest : List Expr} {fa fb : En → Hea → R D} {pos : Pos} (ha : DE X W a fa) (hb : DE X W (.BoolOp .And (b :: rest) pos) fb) : DE X W (.BoolOp .And (a :: b :: rest) pos) (fAndV fa fb) :=
  pe_imp (pe_and ha hb) fun σ H Q p => by
    obtain ⟨g, env, heap, e1, hh, er, p⟩ := rd_asB2 (k := fun e b h1 => if b = true then fb e h1 else .ok (.bl false) h1) p
    refine ⟨g, env, heap, e1, hh, er, p.imp fun x H1 ⟨b, ex, g1, env, h1, e2, hh1, er1, p1⟩ => ⟨b, ex, ?_⟩⟩
    subst e2
    cases b with
    | true => rw [if_pos rfl] at p1 ⊢; exact ⟨g1, env, h1, rfl, hh1, er1, p1⟩
    | false => rw [if_neg Bool.false_ne_true] at p1 ⊢; exact p1 g1 _ hh1 (.refl _) (by simp [RepV])
theorem de_or {a b : Expr} {rest : List Expr} {fa fb : En → Hea → R D} {pos : Pos} (ha : DE X W a fa) (hb : DE X W (.BoolOp .Or (b :: rest) pos) fb) : DE X W (.BoolOp .Or (a :: b :: rest) pos) (fOrV fa fb) :=
  pe_imp (pe_or ha hb) fun σ H Q p => by
    obtain ⟨g, env, heap, e1, hh, er, p⟩ := rd_asB2 (k := fun e b h1 => if b = true then .ok (.bl true) h1 else fb e h1) p
    refine ⟨g, env, heap, e1, hh, er, p.imp fun x H1 ⟨b, ex, g1, env, h1, e2, hh1, er1, p1⟩ => ⟨b, ex, ?_⟩⟩
    subst e2
    cases b with
    | true => rw [if_pos rfl] at p1 ⊢; exact p1 g1 _ hh1 (.refl _) (by simp [RepV])
    | false => rw [if_neg Bool.false_ne_true] at p1 ⊢; exact ⟨g1, env, h1, rfl, hh1, er1, p1⟩
theorem de_not {a : Expr} {fa : En → Hea → R D} {pos : Pos} (ha : DE X W a fa) : DE X W (.UnaryOp .Not a pos) (fNotV fa) :=
  pe_imp (pe_not ha) fun σ H Q p => by
    obtain ⟨g, env, heap, e1, hh, er, p⟩ := rd_asB2 (k := fun e b h1 => .ok (.bl (!b)) h1) p
    refine ⟨g, env, heap, e1, hh, er, p.imp fun x H1 ⟨b, ex, g1, env, h1, e2, hh1, er1, p1⟩ => ⟨b, ex, ?_⟩⟩
    subst e2
    exact p1 g1 _ hh1 (.refl _) (by simp [RepV])
end
end DD

set_option Elab.async false
set_option linter.all false
set_option maxRecDepth 100000
set_option maxHeartbeats 1000000
namespace DD
open PySem PySem.Spec PyProof.Rows L2

/-! ### data are the same -/
mutual
def D.same : D → D → Bool
  | .non, .non => true
  | .bl a, .bl b => a == b
  | .int a, .int b => decide (a = b)
  | .str a, .str b => decide (a = b)
  | .tup a, .tup b => D.sames a b
  | .lst a, .lst b => D.sames a b
  | .dic t a b, .dic u c d => t == u && D.sames a c && D.sames b d
  | .ref a, .ref b => decide (a = b)
  | .cst a, .cst b => decide (a = b)
  | .fro a, .fro b => D.sames a b
  | .pr a, .pr b => D.sames a b
  | _, _ => false
def D.sames : List D → List D → Bool
  | [], [] => true
  | a :: as, b :: bs => D.same a b && D.sames as bs
  | _, _ => false
end
mutual
theorem D.same_iff : ∀ {a b : D}, D.same a b = true ↔ a = b := by
  intro a b
  cases a <;> cases b <;> simp [D.same, D.sames_iff, and_assoc]
theorem D.sames_iff : ∀ {a b : List D}, D.sames a b = true ↔ a = b
  | [], [] => by simp [D.sames]
  | [], _ :: _ => by simp [D.sames]
  | _ :: _, [] => by simp [D.sames]
  | a :: as, b :: bs => by simp [D.sames, D.same_iff, D.sames_iff]
end
instance : DecidableEq D := fun a b => if h : D.same a b = true then isTrue (D.same_iff.mp h) else isFalse fun e => h (D.same_iff.mpr e)

/-! ### plain data that compare by ==: no truths within -/
def okE : Nat → D → Bool
  | 0, _ => false
  | n + 1, d => match d with
    | .non => true
    | .int _ => true
    | .str x => PyData.strOk x
    | .tup xs => xs.all (okE n)
    | .lst xs => xs.all (okE n)
    | _ => false
mutual
def py : D → PyData
  | .int i => .int i
  | .str x => .str x
  | .bl b => .bool b
  | .tup xs => .tuple (pys xs)
  | .lst xs => .list (pys xs)
  | _ => .none
def pys : List D → List PyData
  | [] => []
  | d :: ds => py d :: pys ds
end
section
variable {K : Wd} {g : Gd}
theorem py_ok : ∀ (n : Nat) (d : D), okE n d = true → (py d).canLay0 = true ∧ (py d).depth ≤ n := by
  intro n
  induction n with
  | zero => intro d h; simp [okE] at h
  | succ n ih =>
    have all : ∀ xs : List D, xs.all (okE n) = true → PyData.canLayAll0 (pys xs) = true ∧ PyData.depthAll (pys xs) ≤ n := by
      intro xs
      induction xs with
      | nil => intro _; simp [pys, PyData.canLayAll0, PyData.depthAll]
      | cons a as ihs =>
        intro h
        simp only [List.all_cons, Bool.and_eq_true] at h
        obtain ⟨h1, h2⟩ := ih a h.1
        obtain ⟨h3, h4⟩ := ihs h.2
        simp only [pys, PyData.canLayAll0, PyData.depthAll, h1, h3, Bool.and_self, true_and]
        omega
    intro d h
    cases d with
    | non => simp [py, PyData.canLay0, PyData.depth]
    | int i => simp [py, PyData.canLay0, PyData.depth]
    | str x => simpa [py, PyData.canLay0, PyData.depth, okE] using h
    | tup xs =>
      obtain ⟨h1, h2⟩ := all xs (by simpa [okE] using h)
      simp only [py, PyData.canLay0, PyData.depth]
      exact ⟨h1, by omega⟩
    | lst xs =>
      obtain ⟨h1, h2⟩ := all xs (by simpa [okE] using h)
      simp only [py, PyData.canLay0, PyData.depth]
      exact ⟨h1, by omega⟩
    | _ => simp [okE] at h
theorem py_dp : ∀ (n : Nat) (d : D) (v : V), okE n d = true → RepV K g d v → Dp K.K g.H v (py d) := by
  intro n
  induction n with
  | zero => intro d v h; simp [okE] at h
  | succ n ih =>
    have all : ∀ (xs : List D) (vs : List V), xs.all (okE n) = true → RepVs K g xs vs → DpAll K.K g.H vs (pys xs) := by
      intro xs
      induction xs with
      | nil => intro vs _ r; rw [RepVs_nil.mp r]; simp only [pys]; exact .nil
      | cons a as ihs =>
        intro vs h r
        simp only [List.all_cons, Bool.and_eq_true] at h
        obtain ⟨x, rest, rfl, q, t⟩ := RepVs_cons.mp r
        simp only [pys]
        exact .cons (ih a x h.1 q) (ihs rest h.2 t)
    intro d v h r
    cases d with
    | non => simp only [RepV] at r; subst r; exact .non
    | int i => simp only [RepV] at r; subst r; simp only [py]; exact .int i
    | str x => simp only [RepV] at r; subst r; simp only [py]; exact .str x
    | tup xs =>
      simp only [RepV] at r
      obtain ⟨a, us, rfl, q, t⟩ := r
      simp only [py]
      exact .tup q.sqT (all xs us (by simpa [okE] using h) t)
    | lst xs =>
      simp only [RepV] at r
      obtain ⟨a, us, rfl, q, _, t⟩ := r
      simp only [py]
      exact .lst (.of q) (all xs us (by simpa [okE] using h) t)
    | _ => simp [okE] at h
theorem py_eqv : ∀ (n : Nat) (a b : D) (m : Nat), okE n a = true → okE m b = true → PyData.eqv (py a) (py b) = decide (a = b) := by
  intro n
  induction n with
  | zero => intro a b m h; simp [okE] at h
  | succ n ih =>
    intro a b m ha hb
    cases m with
    | zero => simp [okE] at hb
    | succ m =>
    have all : ∀ xs ys : List D, xs.all (okE n) = true → ys.all (okE m) = true → PyData.eqvAll (pys xs) (pys ys) = decide (xs = ys) := by
      intro xs
      induction xs with
      | nil => intro ys _ _; cases ys <;> simp [pys, PyData.eqvAll]
      | cons a as ihs =>
        intro ys h1 h2
        cases ys with
        | nil => simp [pys, PyData.eqvAll]
        | cons b bs =>
          simp only [List.all_cons, Bool.and_eq_true] at h1 h2
          simp only [pys, PyData.eqvAll, ih a b m h1.1 h2.1, ihs bs h1.2 h2.2]
          simp [Bool.decide_and]
    cases a with
    | non => cases b <;> simp_all [okE, py, PyData.eqv]
    | int i => cases b <;> simp_all [okE, py, PyData.eqv, Bool.beq_eq_decide_eq]
    | str x => cases b <;> simp_all [okE, py, PyData.eqv, Bool.beq_eq_decide_eq]
    | tup xs =>
      cases b with
      | tup ys =>
        have := all xs ys (by simpa [okE] using ha) (by simpa [okE] using hb)
        simp only [py, PyData.eqv, this]
        simp
      | _ => simp_all [okE, py, PyData.eqv]
    | lst xs =>
      cases b with
      | lst ys =>
        have := all xs ys (by simpa [okE] using ha) (by simpa [okE] using hb)
        simp only [py, PyData.eqv, this]
        simp
      | _ => simp_all [okE, py, PyData.eqv]
    | _ => simp [okE] at ha
end
/-- a cell's list looked at -/
def view (h : Hea) : D → D
  | .ref n => match h[n]? with
    | some (.lst xs) => .lst xs
    | _ => .ref n
  | d => d
def lookL (h : Hea) (d : D) : Option (List D) := match view h d with
  | .lst xs => some xs
  | _ => none
section
variable {K : Wd} {g : Gd} {heap : Hea}
/-- the list of a sealed list or a cell -/
theorem lookL_rep {d : D} {v : V} {xs : List D} (hh : HR K g heap) (r : RepV K g d v) (e : lookL heap d = some xs) : ∃ a us, v = .ref a ∧ g.H a = some (.lst us) ∧ RepVs K g xs us := by
  unfold lookL at e
  cases d with
  | lst ys =>
    simp only [view] at e; cases e
    simp only [RepV] at r
    obtain ⟨a, us, p, q, _, t⟩ := r
    exact ⟨a, us, p, q, t⟩
  | ref n =>
    simp only [view] at e
    simp only [RepV] at r
    cases q : heap[n]? with
    | none => rw [q] at e; simp at e
    | some c =>
      rw [q] at e
      cases c with
      | lst ys =>
        simp at e; subst e
        obtain ⟨us, p, t⟩ := hh.cell n _ q
        exact ⟨_, us, r.2, p, t⟩
      | _ => simp at e
  | _ => simp [view] at e
theorem view_dp {d : D} {v : V} {n : Nat} (hh : HR K g heap) (r : RepV K g d v) (h : okE n (view heap d) = true) : Dp K.K g.H v (py (view heap d)) := by
  cases d with
  | ref m =>
    simp only [view] at h ⊢
    cases q : heap[m]? with
    | none => rw [q] at h; cases n <;> simp [okE] at h
    | some c =>
      rw [q] at h
      cases c with
      | lst ys =>
        simp only at h ⊢
        simp only [RepV] at r
        obtain ⟨us, p, t⟩ := hh.cell m _ q
        cases n with
        | zero => simp [okE] at h
        | succ n =>
          have : ∀ (xs : List D) (vs : List V), xs.all (okE n) = true → RepVs K g xs vs → DpAll K.K g.H vs (pys xs) := by
            intro xs
            induction xs with
            | nil => intro vs _ r; rw [RepVs_nil.mp r]; simp only [pys]; exact .nil
            | cons a as ihs =>
              intro vs h r
              simp only [List.all_cons, Bool.and_eq_true] at h
              obtain ⟨x, rest, rfl, q, t⟩ := RepVs_cons.mp r
              simp only [pys]
              exact .cons (py_dp n a x h.1 q) (ihs rest h.2 t)
          simp only [py]
          rw [r.2]
          exact .lst (.of p) (this ys us (by simpa [okE] using h) t)
      | _ => cases n <;> simp [okE] at h
  | _ => exact py_dp n _ v h r
end

/-! ### operators -/
def eqD (a b : D) (h : Hea) : Option D := match a, b with
  | .bl x, .bl y => some (.bl (x == y))
  | a, b => if (okE 60 (view h a) && okE 60 (view h b)) = true then some (.bl (decide (view h a = view h b))) else none
def neD (a b : D) (h : Hea) : Option D := match a, b with
  | .bl x, .bl y => some (.bl (x != y))
  | a, b => if (okE 60 (view h a) && okE 60 (view h b)) = true then some (.bl (!decide (view h a = view h b))) else none
def addD (a b : D) (h : Hea) : Option D := match a, b with
  | .int i, .int j => some (.int (i + j))
  | .str x, .str y => if x.length + y.length ≤ sizeLine then some (.str (x ++ y)) else none
  | .tup xs, .tup ys => if xs.length + ys.length ≤ sizeLine then some (.tup (xs ++ ys)) else none
  | a, b => match lookL h a, lookL h b with
    | some xs, some ys => if xs.length + ys.length ≤ sizeLine then some (.lst (xs ++ ys)) else none
    | _, _ => none
def subD (a b : D) (_ : Hea) : Option D := match a, b with
  | .int i, .int j => some (.int (i - j))
  | _, _ => none
instance (i j : Int) : Decidable (CMul i j) := inferInstanceAs (Decidable (_ ∨ _))
instance (i j : Int) : Decidable (CDiv i j) := inferInstanceAs (Decidable (_ ∧ _))
instance (i j : Int) : Decidable (CPow i j) := inferInstanceAs (Decidable (_ ∧ _))
def mulD (a b : D) (_ : Hea) : Option D := match a, b with
  | .int i, .int j => if CMul i j then some (.int (i * j)) else none
  | _, _ => none
def modD (a b : D) (_ : Hea) : Option D := match a, b with
  | .int i, .int j => if 0 < j then some (.int (i % j)) else none
  | _, _ => none
def fdivD (a b : D) (_ : Hea) : Option D := match a, b with
  | .int i, .int j => if CDiv i j then some (.int (i / j)) else none
  | _, _ => none
def powD (a b : D) (_ : Hea) : Option D := match a, b with
  | .int i, .int j => if CPow i j then some (.int (i ^ j.toNat)) else none
  | _, _ => none
def ltD (a b : D) (_ : Hea) : Option D := match a, b with
  | .int i, .int j => some (.bl (decide (i < j)))
  | .str i, .str j => some (.bl (decide (i.cps.toList < j.cps.toList)))
  | _, _ => none
def leD (a b : D) (_ : Hea) : Option D := match a, b with
  | .int i, .int j => some (.bl (decide (i ≤ j)))
  | _, _ => none
def gtD (a b : D) (_ : Hea) : Option D := match a, b with
  | .int i, .int j => some (.bl (decide (j < i)))
  | _, _ => none
def geD (a b : D) (_ : Hea) : Option D := match a, b with
  | .int i, .int j => some (.bl (decide (j ≤ i)))
  | _, _ => none
def isN (a b : D) (_ : Hea) : Option D := match a, b with
  | .ref _, .non => some (.bl false)
  | .cst _, _ => none
  | a, .non => some (.bl (decide (a = .non)))
  | _, _ => none
def notN (a b : D) (h : Hea) : Option D := (isN a b h).bind fun d => match d with
  | .bl b => some (.bl (!b))
  | _ => none
section
variable {X : Cx}
theorem fin1 {K : Wd} {g : Gd} {heap : Hea} {d : D} {v : V} {Q : VK} (hh : HR K g heap) (q : ∀ g' v, HR K g' heap → Ext g g' → RepV K g' d v → Q v g'.H) (r : RepV K g d v) : Q v g.H := q g v hh (.refl _) r
theorem opd_ints {f : Value → Value → Sem Value} {g2 : D → D → Hea → Option D} {C : Int → Int → Prop} {gv : Int → Int → V} {gd : Int → Int → D} (ho : OpR X f (rI C gv)) (hr : ∀ K g i j, RepV K g (gd i j) (gv i j))
    (hg : ∀ a b h d, g2 a b h = some d → ∃ i j, a = .int i ∧ b = .int j ∧ C i j ∧ d = gd i j) : OpD X f g2 := by
  rintro pins s σ H x y v u Q I rx ry ⟨g, heap, a, b, d, rfl, hh, ra, rb, ed, q⟩
  obtain ⟨i, j, rfl, rfl, c, rfl⟩ := hg _ _ _ _ ed
  simp only [RepV] at ra rb
  exact ho pins s σ g.H x y v u Q I rx ry ⟨i, j, ra, rb, c, fin1 hh q (hr _ _ _ _)⟩
theorem rI_of {g : Int → Int → V} {f : Value → Value → Sem Value} (h : OpR X f (rI0 g)) : OpR X f (rI (fun _ _ => True) g) := by
  rintro pins s σ H x y v u Q I rx ry ⟨i, j, a, b, _, q⟩
  exact h pins s σ H x y v u Q I rx ry ⟨i, j, a, b, q⟩
theorem od_sub : OpD X (binaryOp .Sub) subD := opd_ints (rI_of op_sub) (gd := fun i j => .int (i - j)) (fun _ _ _ _ => by simp [RepV]) fun a b h d e => by
  unfold subD at e; split at e <;> cases e; exact ⟨_, _, rfl, rfl, trivial, rfl⟩
theorem od_mod : OpD X (binaryOp .Mod) modD := opd_ints op_mod (gd := fun i j => .int (i % j)) (fun _ _ _ _ => by simp [RepV]) fun a b h d e => by
  unfold modD at e; split at e
  · split at e <;> cases e; exact ⟨_, _, rfl, rfl, ‹_›, rfl⟩
  · cases e
theorem od_fdiv : OpD X (binaryOp .FloorDiv) fdivD := opd_ints op_fdiv (gd := fun i j => .int (i / j)) (fun _ _ _ _ => by simp [RepV]) fun a b h d e => by
  unfold fdivD at e; split at e
  · split at e <;> cases e; exact ⟨_, _, rfl, rfl, ‹_›, rfl⟩
  · cases e
theorem od_mul : OpD X (binaryOp .Mult) mulD := opd_ints op_mul (gd := fun i j => .int (i * j)) (fun _ _ _ _ => by simp [RepV]) fun a b h d e => by
  unfold mulD at e; split at e
  · split at e <;> cases e; exact ⟨_, _, rfl, rfl, ‹_›, rfl⟩
  · cases e
theorem od_pow : OpD X (binaryOp .Pow) powD := opd_ints op_pow (gd := fun i j => .int (i ^ j.toNat)) (fun _ _ _ _ => by simp [RepV]) fun a b h d e => by
  unfold powD at e; split at e
  · split at e <;> cases e; exact ⟨_, _, rfl, rfl, ‹_›, rfl⟩
  · cases e
theorem od_le : OpD X (compareOp .LtE) leD := opd_ints (rI_of op_le) (gd := fun i j => .bl (decide (i ≤ j))) (fun _ _ _ _ => by simp [RepV]) fun a b h d e => by
  unfold leD at e; split at e <;> cases e; exact ⟨_, _, rfl, rfl, trivial, rfl⟩
theorem od_gt : OpD X (compareOp .Gt) gtD := opd_ints (rI_of op_gt) (gd := fun i j => .bl (decide (j < i))) (fun _ _ _ _ => by simp [RepV]) fun a b h d e => by
  unfold gtD at e; split at e <;> cases e; exact ⟨_, _, rfl, rfl, trivial, rfl⟩
theorem od_ge : OpD X (compareOp .GtE) geD := opd_ints (rI_of op_ge) (gd := fun i j => .bl (decide (j ≤ i))) (fun _ _ _ _ => by simp [RepV]) fun a b h d e => by
  unfold geD at e; split at e <;> cases e; exact ⟨_, _, rfl, rfl, trivial, rfl⟩
theorem od_lt : OpD X (compareOp .Lt) ltD := by
  rintro pins s σ H x y v u Q I rx ry ⟨g, heap, a, b, d, rfl, hh, ra, rb, ed, q⟩
  unfold ltD at ed
  split at ed <;> cases ed
  · simp only [RepV] at ra rb
    exact op_lt pins s σ g.H x y v u Q I rx ry ⟨_, _, ra, rb, fin1 hh q (by simp [RepV])⟩
  · simp only [RepV] at ra rb
    exact op_lt_str pins s σ g.H x y v u Q I rx ry ⟨_, _, ra, rb, fin1 hh q (by simp [RepV])⟩
theorem od_add : OpD X (binaryOp .Add) addD := by
  rintro pins s σ H x y v u Q I rx ry ⟨g, heap, a, b, d, rfl, hh, ra, rb, ed, q⟩
  unfold addD at ed
  split at ed
  · cases ed
    simp only [RepV] at ra rb
    exact op_add pins s σ g.H x y v u Q I rx ry ⟨_, _, ra, rb, fin1 hh q (by simp [RepV])⟩
  · split at ed <;> cases ed
    simp only [RepV] at ra rb
    exact op_add_str pins s σ g.H x y v u Q I rx ry ⟨_, _, ra, rb, ‹_›, fin1 hh q (by simp [RepV])⟩
  · split at ed <;> cases ed
    rename_i xs ys hl
    have ra' := ra
    have rb' := rb
    simp only [RepV] at ra rb
    obtain ⟨pa, us, ea, sa, ta⟩ := ra
    obtain ⟨pb, ws, eb, sb, tb⟩ := rb
    subst ea eb
    cases rx
    cases ry
    obtain ⟨its, r1, p1, z1⟩ := I.tuple sa.sqT
    obtain ⟨its2, r2, p2, z2⟩ := I.tuple sb.sqT
    by_cases hx : us = []
    · subst hx
      cases r1
      have : xs = [] := List.eq_nil_of_length_eq_zero (by rw [ta.len]; rfl)
      subst this
      exact cat_tup0 p1 p2 ⟨.ref pb, g.H, I, rfl, fin1 hh q rb'⟩
    · refine HT.cat_tup p1 p2 (fun z => hx (r1.nil_iff.mp z)) (fun z => ⟨.ref pa, g.H, I, rfl, ?_⟩) (fun z => ?_) (by rw [← r1.length, ← r2.length, ← ta.len, ← tb.len]; exact hl)
      · have : ys = [] := List.eq_nil_of_length_eq_zero (by rw [tb.len, r2.nil_iff.mp z]; rfl)
        subst this
        rw [List.append_nil] at q
        exact fin1 hh q ra'
      · obtain ⟨hn, I2⟩ := I.newTup (t' := s.toks) (r1.append r2) (by rw [List.length_append, ← ta.len, ← tb.len]; exact hl)
        obtain ⟨a1, a2, a3⟩ := hh.newTup (ta.append tb) hn (o := tupOb (its ++ its2).toArray) rfl
        exact ⟨.ref s.heap.objs.size, _, I2, rfl, q _ _ a1 a2 a3⟩
  · split at ed
    · split at ed <;> cases ed
      rename_i xs ys e1 e2 hl
      obtain ⟨pa, us, ea, sa, ta⟩ := lookL_rep hh ra e1
      obtain ⟨pb, ws, eb, sb, tb⟩ := lookL_rep hh rb e2
      refine op_cat pins s σ g.H x y v u Q I rx ry ⟨pa, pb, us, ws, ea, eb, sa, sb, by rw [← ta.len, ← tb.len]; exact hl, fun p hp => ?_⟩
      obtain ⟨a1, a2, a3⟩ := hh.newLst (ta.append tb) hp
      exact q _ _ a1 a2 a3
    · cases ed
theorem shaped_ok {d : D} (h : okE 60 d = true) : SeqAt.shaped (py d) = true := by
  obtain ⟨a, b⟩ := py_ok 60 d h
  unfold SeqAt.shaped
  rw [a, Bool.true_and]
  exact decide_eq_true (by omega)
theorem od_eq (hu : X.A.units + 64 < cLine) : OpD X (compareOp .Eq) eqD := by
  rintro pins s σ H x y v u Q I rx ry ⟨g, heap, a, b, d, rfl, hh, ra, rb, ed, q⟩
  unfold eqD at ed
  split at ed
  · cases ed
    simp only [RepV] at ra rb
    subst ra rb
    refine op_eq pins s σ g.H _ _ v u Q I rx ry ⟨rfl, fin1 hh q ?_⟩
    simp only [RepV]
    rw [L2.dec_bl]
  · split at ed <;> cases ed
    rename_i h
    simp only [Bool.and_eq_true] at h
    refine op_eqD hu pins s σ g.H x y v u Q I rx ry ⟨_, _, view_dp hh ra h.1, view_dp hh rb h.2, shaped_ok h.1, shaped_ok h.2, fin1 hh q ?_⟩
    simp only [RepV]
    rw [py_eqv _ _ _ _ h.1 h.2]
theorem od_ne (hu : X.A.units + 64 < cLine) : OpD X (compareOp .NotEq) neD := by
  rintro pins s σ H x y v u Q I rx ry ⟨g, heap, a, b, d, rfl, hh, ra, rb, ed, q⟩
  unfold neD at ed
  split at ed
  · cases ed
    simp only [RepV] at ra rb
    subst ra rb
    refine op_ne pins s σ g.H _ _ v u Q I rx ry ⟨rfl, fin1 hh q ?_⟩
    simp only [RepV]
    rw [L2.dec_bl]; rfl
  · split at ed <;> cases ed
    rename_i h
    simp only [Bool.and_eq_true] at h
    refine op_neD hu pins s σ g.H x y v u Q I rx ry ⟨_, _, view_dp hh ra h.1, view_dp hh rb h.2, shaped_ok h.1, shaped_ok h.2, fin1 hh q ?_⟩
    simp only [RepV]
    rw [py_eqv _ _ _ _ h.1 h.2]
theorem non_iff {K : Wd} {g : Gd} {a : D} {x : V} (r : RepV K g a x) (hc : ∀ u, a ≠ .cst u) : decide (x = .non) = decide (a = .non) := by
  cases a with
  | non => simp only [RepV] at r; subst r; simp
  | bl b => simp only [RepV] at r; subst r; simp
  | int i => simp only [RepV] at r; subst r; simp
  | str z => simp only [RepV] at r; subst r; simp
  | tup xs => simp only [RepV] at r; obtain ⟨p, us, rfl, _⟩ := r; simp
  | lst xs => simp only [RepV] at r; obtain ⟨p, us, rfl, _⟩ := r; simp
  | dic t ks vs => simp only [RepV] at r; obtain ⟨p, us, rfl, _⟩ := r; simp
  | ref n => simp only [RepV] at r; rw [r.2]; simp
  | cst u => exact absurd rfl (hc u)
  | fro xs => simp only [RepV] at r; obtain ⟨p, us, rfl, _⟩ := r; simp
  | pr xs => simp only [RepV] at r; obtain ⟨p, us, rfl, _⟩ := r; simp
theorem isN_some {a b : D} {h : Hea} {d : D} (e : isN a b h = some d) : b = .non ∧ (∀ u, a ≠ .cst u) ∧ d = .bl (decide (a = .non)) := by
  unfold isN at e
  split at e
  · cases e; exact ⟨rfl, (fun _ z => nomatch z), by simp⟩
  · cases e
  · rename_i h1 h2; cases e; exact ⟨rfl, fun u z => h2 u z, rfl⟩
  · cases e
theorem od_is : OpD X (compareOp .Is) isN := by
  rintro pins s σ H x y v u Q I rx ry ⟨g, heap, a, b, d, rfl, hh, ra, rb, ed, q⟩
  obtain ⟨rfl, hc, rfl⟩ := isN_some ed
  refine op_isN pins s σ g.H x y v u Q I rx ry ⟨by simpa [RepV] using rb, fin1 hh q ?_⟩
  simp only [RepV]
  rw [non_iff ra hc]
theorem od_isnot : OpD X (compareOp .IsNot) notN := by
  rintro pins s σ H x y v u Q I rx ry ⟨g, heap, a, b, d, rfl, hh, ra, rb, ed, q⟩
  unfold notN at ed
  cases e : isN a b heap with
  | none => rw [e] at ed; cases ed
  | some z =>
    rw [e] at ed
    obtain ⟨rfl, hc, rfl⟩ := isN_some e
    simp at ed; subst ed
    refine op_notN pins s σ g.H x y v u Q I rx ry ⟨by simpa [RepV] using rb, fin1 hh q ?_⟩
    simp only [RepV]
    rw [non_iff ra hc]
end
end DD

set_option Elab.async false
set_option linter.all false
set_option maxRecDepth 100000
set_option maxHeartbeats 1000000
namespace DD
open PySem PySem.Spec PyProof.Rows L2

/-! ### statements -/
inductive RS where
  | no | nx (e : En) (h : Hea) | rt (d : D) (h : Hea) | bk (e : En) (h : Hea) | ct (e : En) (h : Hea) | ex (x : Exn) (e : En) (h : Hea)
def RS.seq (r : RS) (k : En → Hea → RS) : RS := match r with
  | .nx e h => k e h
  | r => r
def R.toS {α : Type} (r : R α) (e : En) (k : α → Hea → RS) : RS := match r with
  | .no => .no
  | .ok a h => k a h
  | .ex x h => .ex x e h
@[simp] theorem RS.seq_nx {e : En} {h : Hea} {k : En → Hea → RS} : (RS.nx e h).seq k = k e h := rfl
@[simp] theorem RS.seq_rt {d : D} {h : Hea} {k : En → Hea → RS} : (RS.rt d h).seq k = .rt d h := rfl
@[simp] theorem RS.seq_no {k : En → Hea → RS} : RS.no.seq k = .no := rfl
@[simp] theorem RS.seq_bk {e : En} {h : Hea} {k : En → Hea → RS} : (RS.bk e h).seq k = .bk e h := rfl
@[simp] theorem RS.seq_ct {e : En} {h : Hea} {k : En → Hea → RS} : (RS.ct e h).seq k = .ct e h := rfl
@[simp] theorem RS.seq_ex {x : Exn} {e : En} {h : Hea} {k : En → Hea → RS} : (RS.ex x e h).seq k = .ex x e h := rfl
@[simp] theorem R.toS_ok {α : Type} {a : α} {h : Hea} {e : En} {k : α → Hea → RS} : (R.ok a h).toS e k = k a h := rfl
@[simp] theorem R.toS_no {α : Type} {e : En} {k : α → Hea → RS} : (R.no : R α).toS e k = .no := rfl
@[simp] theorem R.toS_ex {α : Type} {x : Exn} {h : Hea} {e : En} {k : α → Hea → RS} : (R.ex x h : R α).toS e k = .ex x e h := rfl
abbrev FS := En → Hea → RS
def Chg (vs : List Nat) (σ σ' : List (Option V)) : Prop := σ'.length = σ.length ∧ ∀ i : Nat, i ∉ vs → σ'[i]? = σ[i]?
theorem Chg.refl (vs : List Nat) (σ : L2.St) : Chg vs σ σ := ⟨rfl, fun _ _ => rfl⟩
theorem Chg.trans {vs ws : List Nat} {σ σ' σ'' : L2.St} (a : Chg vs σ σ') (b : Chg ws σ' σ'') : Chg (vs ++ ws) σ σ'' :=
  ⟨b.1.trans a.1, fun i hi => by simp only [List.mem_append, not_or] at hi; exact (b.2 i hi.2).trans (a.2 i hi.1)⟩
theorem wipe_get {σ : List (Option V)} {i : Nat} : ∀ {vs : List Nat}, (wipe σ vs : List (Option V))[i]? = if i ∈ vs then (if i < σ.length then some none else none) else σ[i]?
  | [] => by simp [wipe]
  | v :: vs => by
    unfold wipe
    rw [List.getElem?_set]
    by_cases h : v = i
    · subst h
      simp only [if_true, wipe_length, List.mem_cons, true_or, if_true]
    · rw [if_neg h, wipe_get (vs := vs)]
      have : (i ∈ v :: vs) ↔ i ∈ vs := by simp [Ne.symm h]
      simp only [this]
theorem Chg.wipe {vs : List Nat} {σ σ' : List (Option V)} (a : Chg vs σ σ') : L2.wipe σ' vs = L2.wipe σ vs := by
  apply List.ext_getElem?
  intro i
  rw [wipe_get, wipe_get, a.1]
  by_cases h : i ∈ vs
  · simp [h]
  · simp [h, a.2 i h]
section
variable {K : Wd} {W : WX} {g g1 : Gd} {Dn : Ends} {σ : L2.St}
def PostS (K : Wd) (W : WX) (g : Gd) (r : RS) (Dn : Ends) : Prop := match r with
  | .no => False
  | .nx e h => ∀ g' σ', HR K g' h → Ext g g' → ER K g' e σ' → Dn.nx σ' g'.H
  | .rt d h => ∀ g' v, HR K g' h → Ext g g' → RepV K g' d v → Dn.rt v g'.H
  | .bk e h => ∀ g' σ', HR K g' h → Ext g g' → ER K g' e σ' → Dn.bk σ' g'.H
  | .ct e h => ∀ g' σ', HR K g' h → Ext g g' → ER K g' e σ' → Dn.ct σ' g'.H
  | .ex x e h => ∀ g' od σ', HR K g' h → Ext g g' → ER K g' e σ' → ExR K g' x od → W x.cls od σ' g'.H
theorem PostS.rebase {r : RS} (p : PostS K W g r Dn) (e : Ext g g1) : PostS K W g1 r Dn := by
  cases r with
  | no => exact p
  | nx _ _ => exact fun g' σ' a b c => p g' σ' a (e.trans b) c
  | rt _ _ => exact fun g' σ' a b c => p g' σ' a (e.trans b) c
  | bk _ _ => exact fun g' σ' a b c => p g' σ' a (e.trans b) c
  | ct _ _ => exact fun g' σ' a b c => p g' σ' a (e.trans b) c
  | ex _ _ _ => exact fun g' od σ' a b c d => p g' od σ' a (e.trans b) c d
theorem PostS.ofR {α β : Type} {A : Gd → α → β → Prop} {r : R α} {e : En} {k : α → Hea → RS} (p : PostS K W g (r.toS e k) Dn) (er : ER K g e σ) :
    Post K W A σ g r (fun v H1 => ∃ g1 h1 a, g1.H = H1 ∧ HR K g1 h1 ∧ Ext g g1 ∧ A g1 a v ∧ PostS K W g1 (k a h1) Dn) := by
  cases r with
  | no => exact p
  | ok a h => exact fun g' v x y z => ⟨g', h, a, rfl, x, y, z, PostS.rebase (r := k a h) p y⟩
  | ex x h => exact fun g' od a b c => p g' od σ a b (er.ext b) c
theorem PostS.seq {r : RS} {k : En → Hea → RS} (p : PostS K W g (r.seq k) Dn) :
    PostS K W g r { Dn with nx := fun σ H => ∃ g1 e1 h1, g1.H = H ∧ HR K g1 h1 ∧ Ext g g1 ∧ ER K g1 e1 σ ∧ PostS K W g1 (k e1 h1) Dn } := by
  cases r with
  | nx e h => exact fun g' σ' a b c => ⟨g', e, h, rfl, a, b, c, PostS.rebase (r := k e h) p b⟩
  | _ => exact p
theorem PostS.imp {r : RS} {D' : Ends} (p : PostS K W g r Dn) (h1 : ∀ σ H, Dn.nx σ H → D'.nx σ H) (h2 : ∀ v H, Dn.rt v H → D'.rt v H) (h3 : ∀ σ H, Dn.bk σ H → D'.bk σ H) (h4 : ∀ σ H, Dn.ct σ H → D'.ct σ H) : PostS K W g r D' := by
  cases r with
  | no => exact p
  | nx _ _ => exact fun g' σ' a b c => h1 _ _ (p g' σ' a b c)
  | rt _ _ => exact fun g' σ' a b c => h2 _ _ (p g' σ' a b c)
  | bk _ _ => exact fun g' σ' a b c => h3 _ _ (p g' σ' a b c)
  | ct _ _ => exact fun g' σ' a b c => h4 _ _ (p g' σ' a b c)
  | ex _ _ _ => exact p
def rdS (K : Wd) (W : WX) (f : FS) : TS := fun Dn σ H => ∃ g env heap, g.H = H ∧ HR K g heap ∧ ER K g env σ ∧ PostS K W g (f env heap) Dn
end
abbrev DS (X : Cx) (W : WX) (st : Stmt) (f : FS) : Prop := PS X st (rdS X.wd W f)
abbrev DSs (X : Cx) (W : WX) (st : List Stmt) (f : FS) : Prop := PSs X st (rdS X.wd W f)
section
variable {X : Cx} {W : WX} {K : Wd}
def sNil : FS := fun e h => .nx e h
def sCons (f k : FS) : FS := fun e h => (f e h).seq k
theorem dss_nil : DSs X W [] sNil := pss_imp pss_nil fun Dn σ H ⟨g, env, heap, e, hh, er, p⟩ => by subst e; exact p g σ hh (.refl _) er
theorem dss_cons {st : Stmt} {rest : List Stmt} {f k : FS} (h1 : DS X W st f) (h2 : DSs X W rest k) : DSs X W (st :: rest) (sCons f k) :=
  pss_imp (pss_cons h1 h2) fun Dn σ H ⟨g, env, heap, e, hh, er, p⟩ =>
    ⟨g, env, heap, e, hh, er, (PostS.seq p).imp (fun σ' H' ⟨g1, e1, h1, a, b, _, c, d⟩ => ⟨g1, e1, h1, a, b, c, d⟩) (fun _ _ h => h) (fun _ _ h => h) (fun _ _ h => h)⟩
theorem dss_one {st : Stmt} {f : FS} (h1 : DS X W st f) : DSs X W [st] f := pss_one h1
def sNever : FS := fun _ _ => .no
theorem ds_never {st : Stmt} : DS X W st sNever := ps_imp ps_never fun Dn σ H ⟨g, env, heap, e, hh, er, p⟩ => p.elim
theorem dss_never {st : List Stmt} : DSs X W st sNever := pss_imp pss_never fun Dn σ H ⟨g, env, heap, e, hh, er, p⟩ => p.elim
theorem ds_pass {pos : Pos} : DS X W (.Pass pos) sNil := ps_imp ps_pass fun Dn σ H ⟨g, env, heap, e, hh, er, p⟩ => by subst e; exact p g σ hh (.refl _) er
def sBrk : FS := fun e h => .bk e h
def sCnt : FS := fun e h => .ct e h
theorem ds_break {pos : Pos} : DS X W (.Break pos) sBrk := ps_imp ps_break fun Dn σ H ⟨g, env, heap, e, hh, er, p⟩ => by subst e; exact p g σ hh (.refl _) er
theorem ds_continue {pos : Pos} : DS X W (.Continue pos) sCnt := ps_imp ps_continue fun Dn σ H ⟨g, env, heap, e, hh, er, p⟩ => by subst e; exact p g σ hh (.refl _) er
def sRet (f : En → Hea → R D) : FS := fun e h => (f e h).toS e fun d h1 => .rt d h1
theorem ds_ret {e : Expr} {f : En → Hea → R D} {pos : Pos} (he : DE X W e f) : DS X W (.Return (some e) pos) (sRet f) :=
  ps_imp (ps_ret he) fun Dn σ H ⟨g, env, heap, e1, hh, er, p⟩ => ⟨g, env, heap, e1, hh, er, (PostS.ofR (A := RepV X.wd) p er).imp fun v H1 ⟨g1, h1, a, e2, hh1, x1, ra, p1⟩ => by
    subst e2; exact p1 g1 v hh1 (.refl _) ra⟩
def sRetN : FS := fun _ h => .rt .non h
theorem ds_retN {pos : Pos} : DS X W (.Return none pos) sRetN := ps_imp ps_retN fun Dn σ H ⟨g, env, heap, e, hh, er, p⟩ => by subst e; exact p g .non hh (.refl _) (by simp [RepV])
def sExpr (f : En → Hea → R D) : FS := fun e h => (f e h).toS e fun _ h1 => .nx e h1
theorem ds_expr {e : Expr} {f : En → Hea → R D} {pos : Pos} (he : DE X W e f) (hs : swapsWith e none pos.line X.env = pure false := by rfl) : DS X W (.Expr e pos) (sExpr f) :=
  ps_imp (ps_expr he hs) fun Dn σ H ⟨g, env, heap, e1, hh, er, p⟩ => ⟨g, env, heap, e1, hh, er, (PostS.ofR (A := RepV X.wd) p er).imp fun v H1 ⟨g1, h1, a, e2, hh1, x1, ra, p1⟩ => by
    subst e2; exact p1 g1 σ hh1 (.refl _) (er.ext x1)⟩
def sIf (t : En → Hea → R Bool) (f k : FS) : FS := fun e h => (t e h).toS e fun b h1 => if b = true then f e h1 else k e h1
theorem ds_if {c : Expr} {a b : List Stmt} {t : En → Hea → R Bool} {f k : FS} {pos : Pos} (hc : DT X W c t) (ha : DSs X W a f) (hb : DSs X W b k) : DS X W (.If c a b pos) (sIf t f k) :=
  ps_imp (ps_if hc ha hb) fun Dn σ H ⟨g, env, heap, e1, hh, er, p⟩ => ⟨g, env, heap, e1, hh, er, (PostS.ofR (A := Eqb) p er).imp fun v H1 ⟨g1, h1, a, e2, hh1, x1, ra, p1⟩ => by
    subst e2; subst ra
    cases v with
    | true => rw [if_pos rfl] at p1 ⊢; exact ⟨g1, env, h1, rfl, hh1, er.ext x1, p1⟩
    | false => rw [if_neg Bool.false_ne_true] at p1 ⊢; exact ⟨g1, env, h1, rfl, hh1, er.ext x1, p1⟩⟩

/-! ### targets -/
def PostG (K : Wd) (vs : List Nat) (σ : L2.St) (g : Gd) (r : RS) (Q : L2.St → Hp → Prop) : Prop := match r with
  | .nx e h => ∀ g' σ', HR K g' h → Ext g g' → ER K g' e σ' → Chg vs σ σ' → Q σ' g'.H
  | _ => False
def rdG (K : Wd) (vs : List Nat) (f : D → FS) : TG := fun v σ H Q => ∃ g env heap d, g.H = H ∧ HR K g heap ∧ ER K g env σ ∧ RepV K g d v ∧ PostG K vs σ g (f d env heap) Q
def rdGs (K : Wd) (vs : List Nat) (f : List D → FS) : TGs := fun xs σ H Q => ∃ g env heap ds, g.H = H ∧ HR K g heap ∧ ER K g env σ ∧ RepVs K g ds xs ∧ PostG K vs σ g (f ds env heap) Q
abbrev DG (X : Cx) (tg : Expr) (vs : List Nat) (f : D → FS) : Prop := PG X tg (rdG X.wd vs f)
abbrev DGs (X : Cx) (tg : List Expr) (vs : List Nat) (f : List D → FS) : Prop := PGs X tg (rdGs X.wd vs f)
theorem pg_imp {e : Expr} {t t' : TG} (h : PG X e t) (i : ∀ v σ H Q, t' v σ H Q → t v σ H Q) : PG X e t' := ⟨fun pins s σ H v u Q I r q => h.run pins s σ H v u Q I r (i v σ H Q q)⟩
theorem pgs_imp {e : List Expr} {t t' : TGs} (h : PGs X e t) (i : ∀ v σ H Q, t' v σ H Q → t v σ H Q) : PGs X e t' := ⟨fun pins s σ H v u Q I r q => h.run pins s σ H v u Q I r (i v σ H Q q)⟩
theorem ER.set {g : Gd} {env : En} {σ : L2.St} {d : D} {v : V} (er : ER K g env σ) (r : RepV K g d v) (i : Nat) : ER K g (env.set i (some d)) (List.set σ i (some v)) := by
  refine ⟨by simp [er.1], fun j d' e => ?_⟩
  by_cases h : i = j
  · subst h
    have hl : i < env.length := by
      have := (List.getElem?_eq_some_iff.mp e).1
      simpa using this
    rw [List.getElem?_set_self hl] at e
    cases e
    exact ⟨v, by rw [List.getElem?_set_self (by rw [← er.1]; exact hl)], r⟩
  · rw [List.getElem?_set_ne h] at e
    obtain ⟨w, a, b⟩ := er.2 j d' e
    exact ⟨w, by rw [List.getElem?_set_ne h]; exact a, b⟩
theorem Chg.set {σ : L2.St} {i : Nat} {v : Option V} : Chg [i] σ (List.set σ i v) := ⟨by simp, fun j hj => by
  have : i ≠ j := fun e => hj (by simp [e])
  exact List.getElem?_set_ne this⟩
def gN (i : Nat) (d : D) : FS := fun e h => .nx (e.set i (some d)) h
theorem dg_of {tg : Expr} {i : Nat} (h : PG X tg (gName i)) : DG X tg [i] (gN i) := pg_imp h fun v σ H Q ⟨g, env, heap, d, e, hh, er, r, p⟩ => by
  subst e
  exact p g _ hh (.refl _) (er.set r i) .set
theorem dg_name {i : Nat} {x : Str} {pos : Pos} (hN : X.N.Nodup) (hi : X.N[i]? = some x) (hx : Loc X.env.scope x) (hf : X.fn x = true ∨ X.env.scope.names.lookup x = some .local := by first | exact .inl rfl | exact .inr rfl | assumption) : DG X (.Name x pos) [i] (gN i) := dg_of (pg_name hN hi hx hf)
def gsNil (ds : List D) : FS := fun e h => if ds.isEmpty then .nx e h else .no
def gsCons (f : D → FS) (k : List D → FS) : List D → FS
  | [] => fun _ _ => .no
  | d :: ds => fun e h => (f d e h).seq (k ds)
theorem dgs_nil : DGs X [] [] gsNil := pgs_imp pgs_nil fun vs σ H Q ⟨g, env, heap, ds, e, hh, er, r, p⟩ => by
  subst e
  cases ds with
  | nil => rw [RepVs_nil.mp r]; exact ⟨rfl, p g σ hh (.refl _) er (.refl _ _)⟩
  | cons a b => exact p.elim
theorem PostG.seq {vs ws : List Nat} {σ : L2.St} {g : Gd} {r : RS} {k : FS} {Q : L2.St → Hp → Prop} (p : PostG K (vs ++ ws) σ g (r.seq k) Q) :
    PostG K vs σ g r (fun σ1 H1 => ∃ g1 e1 h1, g1.H = H1 ∧ HR K g1 h1 ∧ Ext g g1 ∧ ER K g1 e1 σ1 ∧ PostG K ws σ1 g1 (k e1 h1) Q) := by
  cases r with
  | nx e h =>
    refine fun g' σ' a b c d => ⟨g', e, h, rfl, a, b, c, ?_⟩
    have p : PostG K (vs ++ ws) σ g (k e h) Q := p
    cases q : k e h with
    | nx e2 h2 => rw [q] at p; exact fun g2 σ2 a2 b2 c2 d2 => p g2 σ2 a2 (b.trans b2) c2 (d.trans d2)
    | _ => rw [q] at p; exact p.elim
  | _ => exact p.elim
theorem PostG.imp {vs : List Nat} {σ : L2.St} {g : Gd} {r : RS} {Q Q' : L2.St → Hp → Prop} (p : PostG K vs σ g r Q) (h : ∀ σ H, Q σ H → Q' σ H) : PostG K vs σ g r Q' := by
  cases r with
  | nx e x => exact fun g' σ' a b c d => h _ _ (p g' σ' a b c d)
  | _ => exact p.elim
theorem dgs_cons {e : Expr} {es : List Expr} {vs ws : List Nat} {f : D → FS} {k : List D → FS} (h1 : DG X e vs f) (h2 : DGs X es ws k)
    (hs : (assignEach (e :: es) X.env).map (·.2) = assign e X.env :: (assignEach es X.env).map (·.2) := by rfl) : DGs X (e :: es) (vs ++ ws) (gsCons f k) := pgs_imp (pgs_cons h1 h2 hs) fun xs σ H Q ⟨g, env, heap, ds, e, hh, er, r, p⟩ => by
  subst e
  cases ds with
  | nil => exact p.elim
  | cons d ds =>
    obtain ⟨x, rest, rfl, rx, rr⟩ := RepVs_cons.mp r
    refine ⟨x, rest, rfl, g, env, heap, d, rfl, hh, er, rx, (PostG.seq p).imp fun σ1 H1 ⟨g1, e1, h1, e2, hh1, x1, er1, p1⟩ => ?_⟩
    exact ⟨g1, e1, h1, ds, e2, hh1, er1, rr.ext x1, p1⟩
def tupItems : D → Option (List D)
  | .tup ds => some ds
  | .pr ds => some ds
  | _ => none
theorem tupItems_rep {d : D} {v : V} {ds : List D} {g : Gd} (r : RepV K g d v) (e : tupItems d = some ds) : ∃ a xs, v = .ref a ∧ SqT K.K g.H a xs ∧ RepVs K g ds xs := by
  cases d with
  | tup xs =>
    simp only [tupItems] at e; cases e
    simp only [RepV] at r
    obtain ⟨a, us, e, q, t⟩ := r
    exact ⟨a, us, e, q.sqT, t⟩
  | pr xs =>
    simp only [tupItems] at e; cases e
    simpa only [RepV] using r
  | _ => simp [tupItems] at e
def gT (n : Nat) (k : List D → FS) (d : D) : FS := fun e h => match tupItems d with
  | some ds => if ds.length = n then k ds e h else .no
  | none => .no
theorem dg_tup {es : List Expr} {kk : Nat} {vs : List Nat} {k : List D → FS} {n : Nat} {pos : Pos} (hc : X.calm = true) (h : DGs X es vs k)
    (hn : (assignEach es X.env).length = n := by rfl) (hst : (assignEach es X.env).findIdx? (·.1) = none := by rfl) : DG X (.Tuple es kk pos) vs (gT n k) := pg_imp (pg_tup hc h hn hst) fun v σ H Q ⟨g, env, heap, d, e, hh, er, r, p⟩ => by
  subst e
  unfold gT at p
  cases q : tupItems d with
  | none => rw [q] at p; exact p.elim
  | some ds =>
    rw [q] at p
    obtain ⟨a, xs, rfl, sq, t⟩ := tupItems_rep r q
    by_cases hl : ds.length = n
    · simp only [if_pos hl] at p
      exact ⟨a, xs, rfl, sq, by rw [← t.len]; exact hl, g, env, heap, ds, rfl, hh, er, t, p⟩
    · simp only [if_neg hl] at p; exact p.elim
/-! ### assignment -/
def sAsg (f : En → Hea → R D) (g : D → FS) : FS := fun e h => (f e h).toS e fun d h1 => g d e h1
theorem PostS.toG {vs : List Nat} {σ : L2.St} {g : Gd} {r : RS} {Dn : Ends} (hx : ∀ x e h, r ≠ .ex x e h) (hr : ∀ d h, r ≠ .rt d h) (hb : ∀ e h, r ≠ .bk e h) (hc : ∀ e h, r ≠ .ct e h) (p : PostS K W g r Dn) : PostG K vs σ g r Dn.nx := by
  cases r with
  | nx e h => exact fun g' σ' a b c _ => p g' σ' a b c
  | no => exact p.elim
  | rt d h => exact absurd rfl (hr d h)
  | bk e h => exact absurd rfl (hb e h)
  | ct e h => exact absurd rfl (hc e h)
  | ex x e h => exact absurd rfl (hx x e h)
/-- a target's reading goes on or is nothing -/
def Plain (f : D → FS) : Prop := ∀ d e h, f d e h = .no ∨ ∃ e1 h1, f d e h = .nx e1 h1
def Plains (f : List D → FS) : Prop := ∀ d e h, f d e h = .no ∨ ∃ e1 h1, f d e h = .nx e1 h1
theorem Plain.toG {f : D → FS} (pl : Plain f) {d : D} {e : En} {h : Hea} {vs : List Nat} {σ : L2.St} {g : Gd} {Dn : Ends} (p : PostS K W g (f d e h) Dn) : PostG K vs σ g (f d e h) Dn.nx := by
  rcases pl d e h with q | ⟨e1, h1, q⟩
  · rw [q] at p; exact p.elim
  · rw [q] at p ⊢; exact fun g' σ' a b c _ => p g' σ' a b c
theorem plain_gN {i : Nat} : Plain (gN i) := fun d e h => .inr ⟨_, _, rfl⟩
theorem plains_nil : Plains gsNil := fun d e h => by unfold gsNil; split; exact .inr ⟨_, _, rfl⟩; exact .inl rfl
theorem plains_cons {f : D → FS} {k : List D → FS} (a : Plain f) (b : Plains k) : Plains (gsCons f k) := fun d e h => by
  cases d with
  | nil => exact .inl rfl
  | cons x xs =>
    show (f x e h).seq (k xs) = _ ∨ ∃ e1 h1, (f x e h).seq (k xs) = _
    rcases a x e h with q | ⟨e1, h1, q⟩
    · rw [q]; exact .inl rfl
    · rw [q]; exact b xs e1 h1
theorem plain_gT {n : Nat} {k : List D → FS} (b : Plains k) : Plain (gT n k) := fun d e h => by
  unfold gT
  split
  · split
    · exact b _ e h
    · exact .inl rfl
  · exact .inl rfl
theorem ds_asg {tg e : Expr} {f : En → Hea → R D} {gd : D → FS} {vs : List Nat} {pos : Pos} (he : DE X W e f) (hg : DG X tg vs gd) (pl : Plain gd) (hs : swapsWithSole [tg] e pos.line X.env = pure false := by rfl) (hw : swappedStores [tg] e X.env = pure none := by rfl)
    (h1 : (assignEach [tg] X.env).map (·.2) = [assign tg X.env] := by rfl) : DS X W (.Assign [tg] e pos) (sAsg f gd) :=
  ps_imp (ps_asg he hg hs hw h1) fun Dn σ H ⟨g, env, heap, e1, hh, er, p⟩ => ⟨g, env, heap, e1, hh, er, (PostS.ofR (A := RepV X.wd) p er).imp fun v H1 ⟨g1, h1, a, e2, hh1, x1, ra, p1⟩ =>
    ⟨g1, env, h1, a, e2, hh1, er.ext x1, ra, pl.toG p1⟩⟩
theorem ds_setOf {st : Stmt} {i : Nat} {f : En → Hea → R D} (h : PS X st (tAsg (rd X.wd W (RepV X.wd) f) (gName i))) : DS X W st (sAsg f (gN i)) :=
  ps_imp h fun Dn σ H ⟨g, env, heap, e1, hh, er, p⟩ => ⟨g, env, heap, e1, hh, er, (PostS.ofR (A := RepV X.wd) p er).imp fun v H1 ⟨g1, h1, a, e2, hh1, x1, ra, p1⟩ => by
    subst e2
    exact p1 g1 _ hh1 (.refl _) ((er.ext x1).set ra i)⟩
theorem ds_set {i : Nat} {x : Str} {e : Expr} {f : En → Hea → R D} {pos pos' : Pos} (hN : X.N.Nodup) (hi : X.N[i]? = some x) (hx : Loc X.env.scope x) (he : DE X W e f) (hs : swapsWith e (some (.Name x pos')) pos.line X.env = pure false := by rfl) (hf : X.fn x = true ∨ X.env.scope.names.lookup x = some .local := by first | exact .inl rfl | exact .inr rfl | assumption) :
    DS X W (.Assign [.Name x pos'] e pos) (sAsg f (gN i)) := ds_setOf (ps_set hN hi hx he hs hf)
/-- x, y = a, b -/
def sPar (i j : Nat) (f : En → Hea → R (List D)) : FS := fun e h => (f e h).toS e fun ds h1 => match ds with
  | [a, b] => .nx ((e.set i (some a)).set j (some b)) h1
  | _ => .no
theorem ds_parOf {st : Stmt} {i j : Nat} {f : En → Hea → R (List D)} (h : PS X st (tPar i j (rd X.wd W (RepVs X.wd) f))) : DS X W st (sPar i j f) :=
  ps_imp h fun Dn σ H ⟨g, env, heap, e1, hh, er, p⟩ => ⟨g, env, heap, e1, hh, er, (PostS.ofR (A := RepVs X.wd) p er).imp fun v H1 ⟨g1, h1, a, e2, hh1, x1, ra, p1⟩ => by
    subst e2
    cases a with
    | nil => exact p1.elim
    | cons a r =>
      cases r with
      | nil => exact p1.elim
      | cons b r =>
        cases r with
        | nil =>
          obtain ⟨x, y, rfl, rx, ry⟩ := ra.two
          exact ⟨x, y, rfl, p1 g1 _ hh1 (.refl _) (((er.ext x1).set rx i).set ry j)⟩
        | cons _ _ => exact p1.elim⟩
/-! ### while -/
def whileF (t : En → Hea → R Bool) (fb : FS) : Nat → FS
  | 0, _, _ => .no
  | n + 1, e, h => (t e h).toS e fun b h1 => if b = true then (match fb e h1 with
    | .nx e2 h2 => whileF t fb n e2 h2
    | .ct e2 h2 => whileF t fb n e2 h2
    | .bk e2 h2 => .nx e2 h2
    | r => r) else .nx e h1
theorem whileF_mono {t : En → Hea → R Bool} {fb : FS} : ∀ (n : Nat) (e : En) (h : Hea), whileF t fb n e h ≠ .no → whileF t fb (n + 1) e h = whileF t fb n e h := by
  intro n
  induction n with
  | zero => intro e h q; exact absurd rfl q
  | succ n ih =>
    intro e h q
    rw [whileF]
    conv => rhs; rw [whileF]
    rw [whileF] at q
    cases ht : t e h with
    | no => rfl
    | ex x h1 => rfl
    | ok b h1 =>
      rw [ht] at q
      simp only [R.toS_ok] at q ⊢
      cases b with
      | false => rfl
      | true =>
        simp only [if_true] at q ⊢
        cases hb : fb e h1 with
        | nx e2 h2 => rw [hb] at q; exact ih e2 h2 q
        | ct e2 h2 => rw [hb] at q; exact ih e2 h2 q
        | _ => rfl
theorem whileF_le {t : En → Hea → R Bool} {fb : FS} {n m : Nat} {e : En} {h : Hea} (q : whileF t fb n e h ≠ .no) (l : n ≤ m) : whileF t fb m e h = whileF t fb n e h := by
  induction m with
  | zero => have : n = 0 := by omega
            subst this; rfl
  | succ m ih =>
    by_cases hl : n ≤ m
    · have := ih hl
      rw [← this] at q ⊢
      exact whileF_mono m e h q
    · have : n = m + 1 := by omega
      subst this; rfl
open Classical in
noncomputable def whileW (t : En → Hea → R Bool) (fb : FS) : FS := fun e h => if q : ∃ n, whileF t fb n e h ≠ .no then whileF t fb (choose q) e h else .no
theorem whileW_of {t : En → Hea → R Bool} {fb : FS} {n : Nat} {e : En} {h : Hea} (q : whileF t fb n e h ≠ .no) : whileW t fb e h = whileF t fb n e h := by
  have ex : ∃ n, whileF t fb n e h ≠ .no := ⟨n, q⟩
  unfold whileW
  rw [dif_pos ex]
  have q2 := Classical.choose_spec ex
  rcases Nat.le_total n (Classical.choose ex) with l | l
  · exact whileF_le q l
  · exact (whileF_le q2 l).symm
theorem whileW_ex {t : En → Hea → R Bool} {fb : FS} {e : En} {h : Hea} (q : whileW t fb e h ≠ .no) : ∃ n, whileW t fb e h = whileF t fb n e h := by
  unfold whileW at q ⊢
  split at q
  · rename_i ex; exact ⟨_, by rw [dif_pos ex]⟩
  · exact absurd rfl q
theorem whileW_eq {t : En → Hea → R Bool} {fb : FS} {e : En} {h : Hea} : whileW t fb e h = (t e h).toS e fun b h1 => if b = true then (match fb e h1 with
    | .nx e2 h2 => whileW t fb e2 h2
    | .ct e2 h2 => whileW t fb e2 h2
    | .bk e2 h2 => .nx e2 h2
    | r => r) else .nx e h1 := by
  cases ht : t e h with
  | no =>
    have : ∀ n, whileF t fb n e h = .no := fun n => by cases n with
      | zero => rfl
      | succ n => rw [whileF, ht]; rfl
    unfold whileW
    rw [dif_neg (fun ⟨n, q⟩ => q (this n))]; rfl
  | ex x h1 =>
    have : whileF t fb 1 e h = .ex x e h1 := by rw [whileF, ht]; rfl
    rw [whileW_of (n := 1) (by rw [this]; simp), this]; rfl
  | ok b h1 =>
    simp only [R.toS_ok]
    cases b with
    | false =>
      have : whileF t fb 1 e h = .nx e h1 := by rw [whileF, ht]; rfl
      rw [whileW_of (n := 1) (by rw [this]; simp), this]; rfl
    | true =>
      simp only [if_true]
      have step : ∀ n, whileF t fb (n + 1) e h = (match fb e h1 with
        | .nx e2 h2 => whileF t fb n e2 h2
        | .ct e2 h2 => whileF t fb n e2 h2
        | .bk e2 h2 => .nx e2 h2
        | r => r) := fun n => by rw [whileF, ht]; rfl
      have go : ∀ e2 h2, (∀ n, whileF t fb (n + 1) e h = whileF t fb n e2 h2) → whileW t fb e h = whileW t fb e2 h2 := by
        intro e2 h2 st
        by_cases ex : ∃ n, whileF t fb n e2 h2 ≠ .no
        · obtain ⟨n, q⟩ := ex
          rw [whileW_of q, whileW_of (n := n + 1) (by rw [st]; exact q), st]
        · have : ¬ ∃ n, whileF t fb n e h ≠ .no := fun ⟨n, q⟩ => by
            cases n with
            | zero => exact q rfl
            | succ n => rw [st] at q; exact ex ⟨n, q⟩
          unfold whileW
          rw [dif_neg ex, dif_neg this]
      have one : ∀ r : RS, r ≠ .no → whileF t fb 1 e h = r → whileW t fb e h = r := fun r hr q => by rw [whileW_of (n := 1) (by rw [q]; exact hr), q]
      cases hb : fb e h1 with
      | nx e2 h2 => exact go e2 h2 fun n => by rw [step, hb]
      | ct e2 h2 => exact go e2 h2 fun n => by rw [step, hb]
      | bk e2 h2 => exact one _ (by simp) (by rw [step, hb])
      | rt d h2 => exact one _ (by simp) (by rw [step, hb])
      | ex x e2 h2 => exact one _ (by simp) (by rw [step, hb])
      | no =>
        have : ¬ ∃ n, whileF t fb n e h ≠ .no := fun ⟨n, q⟩ => by
          cases n with
          | zero => exact q rfl
          | succ n => rw [step, hb] at q; exact q rfl
        unfold whileW
        rw [dif_neg this]
theorem ds_while {c : Expr} {body : List Stmt} {t : En → Hea → R Bool} {fb : FS} {pos : Pos} (hp : PassesOwn (model X.prog X.w) X.A X.env X.xe) (hc : DT X W c t) (hb : DSs X W body fb) : DS X W (.While c body [] pos) (whileW t fb) := by
  refine ps_imp (ps_while hp hc hb) fun Dn σ H ⟨g, env, heap, e1, hh, er, p⟩ => ?_
  subst e1
  have ne : whileW t fb env heap ≠ .no := fun q => by rw [q] at p; exact p
  obtain ⟨n0, q0⟩ := whileW_ex ne
  rw [q0] at p
  refine ⟨fun m σ H => ∃ g env heap, g.H = H ∧ HR X.wd g heap ∧ ER X.wd g env σ ∧ PostS X.wd W g (whileF t fb m env heap) Dn, ⟨n0, g, env, heap, rfl, hh, er, p⟩, ?_⟩
  rintro m σ H ⟨g, env, heap, rfl, hh, er, p⟩
  cases m with
  | zero => exact p.elim
  | succ m =>
    rw [whileF] at p
    refine ⟨g, env, heap, rfl, hh, er, (PostS.ofR (A := Eqb) p er).imp fun b H1 ⟨g1, h1, a, e2, hh1, x1, ra, p1⟩ => ?_⟩
    subst e2; subst ra
    cases b with
    | false => rw [if_neg Bool.false_ne_true] at p1 ⊢; exact p1 g1 σ hh1 (.refl _) (er.ext x1)
    | true =>
      rw [if_pos rfl] at p1 ⊢
      refine ⟨fun σ' H' => ∃ g env heap, g.H = H' ∧ HR X.wd g heap ∧ ER X.wd g env σ' ∧ PostS X.wd W g (whileF t fb m env heap) Dn, fun σ' H' q => ⟨m, Nat.lt_succ_self _, q⟩, g1, env, h1, rfl, hh1, er.ext x1, ?_⟩
      cases hb : fb env h1 with
      | nx e2 h2 => rw [hb] at p1; exact fun g' σ' a b c => ⟨g', e2, h2, rfl, a, c, PostS.rebase p1 b⟩
      | ct e2 h2 => rw [hb] at p1; exact fun g' σ' a b c => ⟨g', e2, h2, rfl, a, c, PostS.rebase p1 b⟩
      | bk e2 h2 => rw [hb] at p1; exact p1
      | rt d h2 => rw [hb] at p1; exact p1
      | ex x e2 h2 => rw [hb] at p1; exact p1
      | no => rw [hb] at p1; exact p1
/-! ### what is walked -/
def ItR (K : Wd) (g : Gd) (xs : List D) (J : It) : Prop := ∀ g1 heap1, HR K g1 heap1 → ExtW g g1 → ∀ i : Nat,
  (∀ d, xs[i]? = some d → J.go i g1.H ∧ ∀ x H', J.yld i g1.H x H' → ∃ g2, g2.H = H' ∧ HR K g2 heap1 ∧ Ext g1 g2 ∧ RepV K g2 d x) ∧ (xs.length ≤ i → J.stop i g1.H)
abbrev DI (X : Cx) (W : WX) (tg iter : Expr) (f : En → Hea → R (List D)) : Prop := PI X tg iter (fun σ H R => rd X.wd W (ItR X.wd) f σ H (fun J H' => R J H'))
theorem pi_imp {tg iter : Expr} {t t' : TI} (h : PI X tg iter t) (i : ∀ σ H R, t' σ H R → t σ H R) : PI X tg iter t' := ⟨fun pins s σ H R I q => h.run pins s σ H R I (i σ H R q)⟩
def forL (fg : D → FS) (fb : FS) : List D → FS
  | [], e, h => .nx e h
  | x :: xs, e, h => match fg x e h with
    | .nx e1 h1 => (match fb e1 h1 with
      | .nx e2 h2 => forL fg fb xs e2 h2
      | .ct e2 h2 => forL fg fb xs e2 h2
      | .bk e2 h2 => .nx e2 h2
      | r => r)
    | _ => .no
def sFor (fi : En → Hea → R (List D)) (fg : D → FS) (fb : FS) : FS := fun e h => (fi e h).toS e fun xs h1 => forL fg fb xs e h1
theorem ds_for {tg iter : Expr} {body : List Stmt} {fi : En → Hea → R (List D)} {fg : D → FS} {fb : FS} {vs : List Nat} {pos : Pos} (hp : PassesOwn (model X.prog X.w) X.A X.env X.xe) (hc : X.calm = true) (hi : DI X W tg iter fi) (hg : DG X tg vs fg) (hb : DSs X W body fb)
    (hs : ∀ x, foldedSetIterable iter X.env x = pure x := by intro _; rfl) : DS X W (.For tg iter body [] pos) (sFor fi fg fb) := by
  refine ps_imp (ps_for hp hc hi hg hb hs) fun Dn σ H ⟨g, env, heap, e1, hh, er, p⟩ => ?_
  subst e1
  refine ⟨g, env, heap, rfl, hh, er, (PostS.ofR (A := ItR X.wd) p er).imp fun J H1 ⟨g1, h1, xs, e2, hh1, x1, ri, p1⟩ => ?_⟩
  subst e2
  refine ⟨fun i m σ H => m = xs.length - i ∧ i ≤ xs.length ∧ ∃ g2 env heap, g2.H = H ∧ HR X.wd g2 heap ∧ ER X.wd g2 env σ ∧ Ext g1 g2 ∧ PostS X.wd W g2 (forL fg fb (xs.drop i) env heap) Dn,
    ⟨_, rfl, Nat.zero_le _, g1, env, h1, rfl, hh1, er.ext x1, .refl _, p1⟩, ?_⟩
  rintro i m σ2 H2 ⟨rfl, hi, g2, env2, heap2, rfl, hh2, er2, x2, p2⟩
  by_cases hlt : i < xs.length
  · obtain ⟨go, y⟩ := (ri g2 heap2 hh2 x2.toExtW i).1 xs[i] (by simp [hlt])
    refine .inr ⟨go, fun σ' H' => (i + 1 ≤ xs.length) ∧ ∃ g3 env heap, g3.H = H' ∧ HR X.wd g3 heap ∧ ER X.wd g3 env σ' ∧ Ext g1 g3 ∧ PostS X.wd W g3 (forL fg fb (xs.drop (i + 1)) env heap) Dn,
      fun σ' H' ⟨q, z⟩ => ⟨xs.length - (i + 1), by omega, rfl, q, z⟩, fun x H' yl => ?_⟩
    obtain ⟨g3, e3, hh3, x3, rx⟩ := y x H' yl
    rw [List.drop_eq_getElem_cons hlt] at p2
    refine ⟨g3, env2, heap2, xs[i], e3, hh3, er2.ext x3, rx, ?_⟩
    unfold forL at p2
    cases hgx : fg xs[i] env2 heap2 with
    | nx e4 h4 =>
      rw [hgx] at p2
      dsimp only at p2
      refine fun g4 σ4 hh4 x4 er4 _ => ⟨g4, e4, h4, rfl, hh4, er4, ?_⟩
      cases hbx : fb e4 h4 with
      | nx e5 h5 => rw [hbx] at p2; exact fun g' σ' a b c => ⟨hlt, g', e5, h5, rfl, a, c, (x2.trans (x3.trans x4)).trans b, PostS.rebase p2 (x3.trans (x4.trans b))⟩
      | ct e5 h5 => rw [hbx] at p2; exact fun g' σ' a b c => ⟨hlt, g', e5, h5, rfl, a, c, (x2.trans (x3.trans x4)).trans b, PostS.rebase p2 (x3.trans (x4.trans b))⟩
      | bk e5 h5 => rw [hbx] at p2; exact PostS.rebase (r := .nx e5 h5) p2 (x3.trans x4)
      | rt d h5 => rw [hbx] at p2; exact PostS.rebase (r := .rt d h5) (Dn := Dn) p2 (x3.trans x4)
      | ex x e5 h5 => rw [hbx] at p2; exact PostS.rebase (r := .ex x e5 h5) (Dn := Dn) p2 (x3.trans x4)
      | no => rw [hbx] at p2; exact p2.elim
    | _ => rw [hgx] at p2; exact p2.elim
  · have e : i = xs.length := by omega
    subst e
    refine .inl ⟨(ri g2 heap2 hh2 x2.toExtW _).2 (Nat.le_refl _), ?_⟩
    rw [List.drop_length] at p2
    exact p2 g2 σ2 hh2 (.refl _) er2
end
end DD

set_option Elab.async false
set_option linter.all false
set_option maxRecDepth 100000
set_option maxHeartbeats 1000000
namespace DD
open PySem PySem.Spec PyProof.Rows L2
section
variable {X : Cx} {W : WX} {K : Wd}
/-! ### calls of built-in functions and types by values -/
theorem rd_nary {gn : List D → Hea → Option D} {fa : En → Hea → R (List D)} {σ : L2.St} {H : Hp} {Q : VK} (p : rd K W (RepV K) (fNary gn fa) σ H Q) : rd K W (RepVs K) fa σ H fun xs H1 => rOpN K gn xs H1 Q := by
  obtain ⟨g, env, heap, e1, hh, er, p⟩ := p
  refine ⟨g, env, heap, e1, hh, er, (Post.bind (A := RepVs K) p).imp fun x H1 ⟨g1, h1, as, e2, hh1, x1, ra, p1⟩ => ?_⟩
  obtain ⟨d, ed, q⟩ := p1.of1
  exact ⟨g1, h1, as, d, e2, hh1, ra, ed, q⟩
theorem de_callB {id : String} {gn : List D → Hea → Option D} {e : Expr} {es : List Expr} {x : Str} {p pos : Pos} {fa : En → Hea → R (List D)} (hc : CallD X (.builtin id) gn) (hg : Gl X x) (hm : X.mg x = none) (hv : bootBuiltins x = some (.builtin id)) (ha : DA X W (e :: es) fa) (hn : x ≠ "__name__" := by decide) (hdb : (x == ("__debug__" : Str)) = false := by decide)
    (he : starEach (e :: es) X.env = (false, eval e X.env) :: starEach es X.env := by rfl) (hpl : (backTo pos (starEach es X.env)).any (·.1) = false := by rfl) : DE X W (.Call (.Name x p) (e :: es) [] pos) (fNary gn fa) :=
  pe_imp (pe_callB hc hg hm hv ha hn hdb he hpl) fun σ H Q p => rd_nary p
theorem de_callTy {T : String} {gn : List D → Hea → Option D} {e : Expr} {es : List Expr} {x : Str} {p pos : Pos} {fa : En → Hea → R (List D)} (hc : CallD X (.type T) gn) (hg : Gl X x) (hm : X.mg x = none) (hv : bootBuiltins x = some (.type T)) (ha : DA X W (e :: es) fa) (hn : x ≠ "__name__" := by decide) (hdb : (x == ("__debug__" : Str)) = false := by decide)
    (he : starEach (e :: es) X.env = (false, eval e X.env) :: starEach es X.env := by rfl) (hpl : (backTo pos (starEach es X.env)).any (·.1) = false := by rfl) : DE X W (.Call (.Name x p) (e :: es) [] pos) (fNary gn fa) :=
  pe_imp (pe_callTy hc hg hm hv ha hn hdb he hpl) fun σ H Q p => rd_nary p
theorem RepVs.oneE {g : Gd} {d : D} {xs : List V} (h : RepVs K g [d] xs) : ∃ x, xs = [x] ∧ RepV K g d x := h.one
/-- the items of a list or a tuple -/
def seqOf (h : Hea) (d : D) : Option (List D) := match tupItems d with
  | some xs => some xs
  | none => lookL h d
theorem seqOf_rep {g : Gd} {heap : Hea} {d : D} {v : V} {xs : List D} (hh : HR K g heap) (r : RepV K g d v) (e : seqOf heap d = some xs) : ∃ a us, v = .ref a ∧ (SqL K.K g.H a us ∨ SqT K.K g.H a us) ∧ RepVs K g xs us := by
  unfold seqOf at e
  cases q : tupItems d with
  | some ys =>
    rw [q] at e; cases e
    obtain ⟨a, us, ea, sa, ta⟩ := tupItems_rep r q
    exact ⟨a, us, ea, .inr sa, ta⟩
  | none =>
    rw [q] at e
    obtain ⟨a, us, ea, sa, ta⟩ := lookL_rep hh r e
    exact ⟨a, us, ea, .inl (.of sa), ta⟩
def lenN (as : List D) (h : Hea) : Option D := match as with
  | [.str x] => if x.length ≤ sizeLine then some (.int x.length) else none
  | [d] => (seqOf h d).map fun xs => .int xs.length
  | _ => none
theorem cd_len : CallD X (.builtin "len") lenN := by
  rintro pins s σ H xs us Q I rs ⟨g, heap, as, d, rfl, hh, ra, ed, q⟩
  unfold lenN at ed
  split at ed
  · split at ed <;> cases ed
    obtain ⟨x, rfl, rx⟩ := ra.one
    simp only [RepV] at rx; subst rx
    exact call_len pins s σ g.H _ us Q I rs ⟨_, _, rfl, ⟨‹_›, rfl⟩, fin1 hh q (by simp [RepV])⟩
  · obtain ⟨x, rfl, rx⟩ := ra.one
    obtain ⟨ys, ey, rfl⟩ := Option.map_eq_some_iff.mp ed
    obtain ⟨a, ws, rfl, sq, t⟩ := seqOf_rep hh rx ey
    refine call_len pins s σ g.H _ us Q I rs ⟨_, ws.length, rfl, ?_, fin1 hh q (by simp [RepV, t.len])⟩
    rcases sq with sq | sq
    · exact .inl ⟨ws, sq, rfl⟩
    · exact .inr ⟨ws, sq, rfl⟩
  · cases ed
/-- ints of a list of data -/
def intsOf : List D → Option (List Int)
  | [] => some []
  | .int i :: r => (intsOf r).map (i :: ·)
  | _ => none
def blsOf : List D → Option (List Bool)
  | [] => some []
  | .bl i :: r => (blsOf r).map (i :: ·)
  | _ => none
def strsOf : List D → Option (List Str)
  | [] => some []
  | .str i :: r => (strsOf r).map (i :: ·)
  | _ => none
theorem intsOf_map (ns : List Int) : intsOf (ns.map D.int) = some ns := by induction ns <;> simp_all [intsOf]
theorem blsOf_map (ns : List Bool) : blsOf (ns.map D.bl) = some ns := by induction ns <;> simp_all [blsOf]
theorem strsOf_map (ns : List Str) : strsOf (ns.map D.str) = some ns := by induction ns <;> simp_all [strsOf]
theorem intsOf_eq : ∀ {ds : List D} {ns : List Int}, intsOf ds = some ns → ds = ns.map D.int
  | [], ns, e => by simp [intsOf] at e; subst e; rfl
  | .int i :: r, ns, e => by
    simp only [intsOf] at e
    obtain ⟨m, em, rfl⟩ := Option.map_eq_some_iff.mp e
    rw [intsOf_eq em]; rfl
  | .non :: _, _, e | .bl _ :: _, _, e | .str _ :: _, _, e | .tup _ :: _, _, e | .lst _ :: _, _, e | .dic _ _ _ :: _, _, e | .ref _ :: _, _, e | .cst _ :: _, _, e | .fro _ :: _, _, e | .pr _ :: _, _, e => by simp [intsOf] at e
theorem blsOf_eq : ∀ {ds : List D} {ns : List Bool}, blsOf ds = some ns → ds = ns.map D.bl
  | [], ns, e => by simp [blsOf] at e; subst e; rfl
  | .bl i :: r, ns, e => by
    simp only [blsOf] at e
    obtain ⟨m, em, rfl⟩ := Option.map_eq_some_iff.mp e
    rw [blsOf_eq em]; rfl
  | .non :: _, _, e | .int _ :: _, _, e | .str _ :: _, _, e | .tup _ :: _, _, e | .lst _ :: _, _, e | .dic _ _ _ :: _, _, e | .ref _ :: _, _, e | .cst _ :: _, _, e | .fro _ :: _, _, e | .pr _ :: _, _, e => by simp [blsOf] at e
theorem strsOf_eq : ∀ {ds : List D} {ns : List Str}, strsOf ds = some ns → ds = ns.map D.str
  | [], ns, e => by simp [strsOf] at e; subst e; rfl
  | .str i :: r, ns, e => by
    simp only [strsOf] at e
    obtain ⟨m, em, rfl⟩ := Option.map_eq_some_iff.mp e
    rw [strsOf_eq em]; rfl
  | .non :: _, _, e | .int _ :: _, _, e | .bl _ :: _, _, e | .tup _ :: _, _, e | .lst _ :: _, _, e | .dic _ _ _ :: _, _, e | .ref _ :: _, _, e | .cst _ :: _, _, e | .fro _ :: _, _, e | .pr _ :: _, _, e => by simp [strsOf] at e
theorem RepVs.mapV {α : Type} {g : Gd} {fd : α → D} {fv : α → V} (h : ∀ a v, RepV K g (fd a) v → v = fv a) : ∀ {ns : List α} {us : List V}, RepVs K g (ns.map fd) us → us = ns.map fv
  | [], us, r => RepVs_nil.mp r
  | n :: ns, us, r => by
    obtain ⟨x, t, rfl, rx, rt⟩ := RepVs_cons.mp (show RepVs K g (fd n :: ns.map fd) us from r)
    rw [h n x rx, RepVs.mapV h rt]; rfl
theorem RepVs.ofMap {α : Type} {g : Gd} {fd : α → D} {fv : α → V} (h : ∀ a, RepV K g (fd a) (fv a)) : ∀ {ns : List α}, RepVs K g (ns.map fd) (ns.map fv)
  | [] => .nil
  | n :: ns => .cons (h n) (RepVs.ofMap h)
theorem rep_ints {g : Gd} {ns : List Int} {us : List V} (r : RepVs K g (ns.map D.int) us) : us = ns.map V.int := r.mapV fun a v h => by simpa [RepV] using h
theorem rep_bls {g : Gd} {ns : List Bool} {us : List V} (r : RepVs K g (ns.map D.bl) us) : us = ns.map V.bl := r.mapV fun a v h => by simpa [RepV] using h
theorem rep_strs {g : Gd} {ns : List Str} {us : List V} (r : RepVs K g (ns.map D.str) us) : us = ns.map V.str := r.mapV fun a v h => by simpa [RepV] using h
theorem strs_rep {g : Gd} {ns : List Str} : RepVs K g (ns.map D.str) (ns.map V.str) := .ofMap fun a => by simp [RepV]
theorem ints_rep {g : Gd} {ns : List Int} : RepVs K g (ns.map D.int) (ns.map V.int) := .ofMap fun a => by simp [RepV]
def sumN (as : List D) (h : Hea) : Option D := match as with
  | [d] => ((lookL h d).bind intsOf).map fun ns => .int ns.sum
  | _ => none
theorem cd_sum (hc : X.calm = true) : CallD X (.builtin "sum") sumN := by
  rintro pins s σ H xs us Q I rs ⟨g, heap, as, d, rfl, hh, ra, ed, q⟩
  unfold sumN at ed
  split at ed
  · obtain ⟨x, rfl, rx⟩ := ra.one
    obtain ⟨ns, en, rfl⟩ := Option.map_eq_some_iff.mp ed
    obtain ⟨ds, e1, e2⟩ := Option.bind_eq_some_iff.mp en
    obtain ⟨a, ws, rfl, sq, t⟩ := lookL_rep hh rx e1
    rw [intsOf_eq e2] at t
    rw [rep_ints t] at sq
    exact cr_sum hc pins s σ g.H _ us Q I rs ⟨a, ns, rfl, .of sq, fin1 hh q (by simp [RepV])⟩
  · cases ed
def allN (as : List D) (h : Hea) : Option D := match as with
  | [d] => ((lookL h d).bind blsOf).map fun ns => .bl (ns.all id)
  | _ => none
def anyN (as : List D) (h : Hea) : Option D := match as with
  | [d] => ((lookL h d).bind blsOf).map fun ns => .bl (ns.any id)
  | _ => none
theorem cd_all (hc : X.calm = true) : CallD X (.builtin "all") allN := by
  rintro pins s σ H xs us Q I rs ⟨g, heap, as, d, rfl, hh, ra, ed, q⟩
  unfold allN at ed
  split at ed
  · obtain ⟨x, rfl, rx⟩ := ra.one
    obtain ⟨ns, en, rfl⟩ := Option.map_eq_some_iff.mp ed
    obtain ⟨ds, e1, e2⟩ := Option.bind_eq_some_iff.mp en
    obtain ⟨a, ws, rfl, sq, t⟩ := lookL_rep hh rx e1
    rw [blsOf_eq e2] at t
    rw [rep_bls t] at sq
    exact cr_all hc pins s σ g.H _ us Q I rs ⟨a, ns, rfl, .of sq, fin1 hh q (by simp [RepV])⟩
  · cases ed
theorem cd_any (hc : X.calm = true) : CallD X (.builtin "any") anyN := by
  rintro pins s σ H xs us Q I rs ⟨g, heap, as, d, rfl, hh, ra, ed, q⟩
  unfold anyN at ed
  split at ed
  · obtain ⟨x, rfl, rx⟩ := ra.one
    obtain ⟨ns, en, rfl⟩ := Option.map_eq_some_iff.mp ed
    obtain ⟨ds, e1, e2⟩ := Option.bind_eq_some_iff.mp en
    obtain ⟨a, ws, rfl, sq, t⟩ := lookL_rep hh rx e1
    rw [blsOf_eq e2] at t
    rw [rep_bls t] at sq
    exact cr_any hc pins s σ g.H _ us Q I rs ⟨a, ns, rfl, .of sq, fin1 hh q (by simp [RepV])⟩
  · cases ed
/-- list(x) -/
def listN (as : List D) (h : Hea) : Option D := match as with
  | [d] => (seqOf h d).map fun xs => .lst xs
  | _ => none
theorem cd_list : CallD X (.type "list") listN := by
  rintro pins s σ H xs us Q I rs ⟨g, heap, as, d, rfl, hh, ra, ed, q⟩
  unfold listN at ed
  split at ed
  · obtain ⟨x, rfl, rx⟩ := ra.one
    obtain ⟨ys, ey, rfl⟩ := Option.map_eq_some_iff.mp ed
    obtain ⟨a, ws, rfl, sq, t⟩ := seqOf_rep hh rx ey
    refine call_list_of pins s σ g.H _ us Q I rs ⟨a, ws, rfl, sq, fun l hl => ?_⟩
    obtain ⟨a1, a2, a3⟩ := hh.newLst t hl
    exact q _ _ a1 a2 a3
  · cases ed
def tupleN (as : List D) (h : Hea) : Option D := match as with
  | [.tup xs] => some (.tup xs)
  | [d] => (lookL h d).map fun xs => .tup xs
  | _ => none
def absN (as : List D) (_ : Hea) : Option D := match as with
  | [.int i] => some (.int (if i < 0 then -i else i))
  | _ => none
theorem cd_abs : CallD X (.builtin "abs") absN := by
  rintro pins s σ H xs us Q I rs ⟨g, heap, as, d, rfl, hh, ra, ed, q⟩
  unfold absN at ed
  split at ed <;> cases ed
  obtain ⟨x, rfl, rx⟩ := ra.one
  simp only [RepV] at rx; subst rx
  exact call_abs pins s σ g.H _ us Q I rs ⟨_, rfl, fin1 hh q (by simp [RepV])⟩
def intN (as : List D) (_ : Hea) : Option D := match as with
  | [.int i] => some (.int i)
  | _ => none
theorem cd_int : CallD X (.type "int") intN := by
  rintro pins s σ H xs us Q I rs ⟨g, heap, as, d, rfl, hh, ra, ed, q⟩
  unfold intN at ed
  split at ed <;> cases ed
  obtain ⟨x, rfl, rx⟩ := ra.one
  simp only [RepV] at rx; subst rx
  exact call_int1 pins s σ g.H _ us Q I rs (.inl ⟨_, rfl, fin1 hh q (by simp [RepV])⟩)
/-- sorted of texts -/
def sortS (xs : List Str) : List Str := xs.mergeSort fun a b => !decide (b.cps.toList < a.cps.toList)
/-! ### subscripts -/
def ixD (o i : D) (h : Hea) : Option D := match i with
  | .int k => (seqOf h o).bind fun xs => atI xs k
  | _ => none
theorem atI_rep {g : Gd} {xs : List D} {us : List V} {k : Int} {d : D} (t : RepVs K g xs us) (e : atI xs k = some d) : ∃ v, atI us k = some v ∧ RepV K g d v := by
  unfold atI at e ⊢
  rw [← t.len]
  obtain ⟨j, e1, e2⟩ := Option.bind_eq_some_iff.mp e
  obtain ⟨v, e3, r⟩ := t.get e2
  exact ⟨v, by rw [e1]; exact e3, r⟩
theorem de_ix {a b : Expr} {fa fb : En → Hea → R D} {pos : Pos} (ha : DE X W a fa) (hb : DE X W b fb) (hs : PlainIx b := by intro _ _; rfl) : DE X W (.Subscript a b pos) (fBin ixD fa fb) := by
  refine pe_imp (pe_ix ix_seq ha hb hs) fun σ H Q p => rd_bin (r := rIx X.K) ?_ p
  rintro x y H Q ⟨g, heap, o, i, d, rfl, hh, ro, ri, ed, q⟩
  unfold ixD at ed
  split at ed
  · obtain ⟨xs, e1, e2⟩ := Option.bind_eq_some_iff.mp ed
    obtain ⟨a, us, rfl, sq, t⟩ := seqOf_rep hh ro e1
    obtain ⟨v, ev, rv⟩ := atI_rep t e2
    simp only [RepV] at ri; subst ri
    rcases sq with sq | sq
    · exact .inl ⟨a, us, _, v, rfl, rfl, sq, ev, fin1 hh q rv⟩
    · exact .inr (.inl ⟨a, us, _, v, rfl, rfl, sq, ev, fin1 hh q rv⟩)
  · cases ed
/-! ### slices -/
abbrev DO (X : Cx) (W : WX) (e : Option Expr) (f : En → Hea → R (Option Int)) : Prop := PO X e (rd X.wd W (fun _ a b => b = a) f)
theorem po_imp {e : Option Expr} {t t' : TO} (h : PO X e t) (i : ∀ σ H Q, t' σ H Q → t σ H Q) : PO X e t' := ⟨fun pins s σ H Q I q => h.run pins s σ H Q I (i σ H Q q)⟩
def oNone : En → Hea → R (Option Int) := fun _ h => .ok none h
def oSome (f : En → Hea → R D) : En → Hea → R (Option Int) := fun e h => (f e h).bind fun d h1 => match d with
  | .int i => .ok (some i) h1
  | _ => .no
theorem do_none : DO X W none oNone := po_imp po_none fun σ H Q ⟨g, env, heap, e1, hh, er, p⟩ => by
  subst e1; exact p g _ hh (.refl _) rfl
theorem do_some {e : Expr} {f : En → Hea → R D} (h : DE X W e f) : DO X W (some e) (oSome f) := po_imp (po_some h) fun σ H Q ⟨g, env, heap, e1, hh, er, p⟩ => by
  refine ⟨g, env, heap, e1, hh, er, (Post.bind (A := RepV X.wd) p).imp fun x H1 ⟨g1, h1, a, e2, hh1, x1, ra, p1⟩ => ?_⟩
  subst e2
  cases a with
  | int i => exact ⟨i, by simpa [RepV] using ra, p1 g1 _ hh1 (.refl _) rfl⟩
  | _ => exact p1.elim
def cutD {α : Type} (xs : List α) (lo hi : Option Int) : List α := (xs.drop (HT.sIx xs.length 0 lo)).take (HT.sIx xs.length xs.length hi - HT.sIx xs.length 0 lo)
theorem cutD_rep {g : Gd} {xs : List D} {us : List V} (t : RepVs K g xs us) (lo hi : Option Int) : RepVs K g (cutD xs lo hi) (cutV us lo hi) := by
  unfold cutD cutV
  rw [t.len]
  exact (t.drop _).take _
def slD (o : D) (lo hi : Option Int) (h : Hea) : Option D := match o with
  | .tup xs => some (.tup (cutD xs lo hi))
  | .fro xs => some (.lst (cutD xs lo hi))
  | o => (lookL h o).map fun xs => .lst (cutD xs lo hi)
def fSlice (fo : En → Hea → R D) (fl fh : En → Hea → R (Option Int)) : En → Hea → R D := fun e h => (fo e h).bind fun o h1 => (fl e h1).bind fun l h2 => (fh e h2).bind fun u h3 => R.of (slD o l u h3) h3
def rSlD (K : Wd) : V → Option Int → Option Int → Hp → VK → Prop := fun x lo hi H Q => ∃ g heap o d, g.H = H ∧ HR K g heap ∧ RepV K g o x ∧ slD o lo hi heap = some d ∧ ∀ g' v, HR K g' heap → Ext g g' → RepV K g' d v → Q v g'.H
theorem sl_d : SlR X (rSlD X.wd) := by
  rintro pins s σ H x v vl vu lo hi sl Q I rx hs pl pu ⟨g, heap, o, d, rfl, hh, ro, ed, q⟩
  unfold slD at ed
  split at ed
  · cases ed
    have ro' := ro
    simp only [RepV] at ro
    obtain ⟨a, us, rfl, sa, t⟩ := ro
    cases rx
    obtain ⟨its, r, ht, hz⟩ := I.tuple sa.sqT
    refine ⟨"tuple", _, PyProof.Rows.slot_tuple_getitem.lookup, ht.typeIs, ?_⟩
    have hlen : its.toArray.size = us.length := by rw [List.size_toArray]; exact r.length.symm
    by_cases hw : HT.sIx us.length 0 lo = 0 ∧ HT.sIx us.length us.length hi = us.length
    · refine getItem_tuple_whole ht hs pl pu (by rw [hlen]; exact hw) ⟨.ref a, g.H, I, rfl, ?_⟩
      refine fin1 hh q ?_
      have : ∀ (zs : List D), zs.length = us.length → cutD zs lo hi = zs := fun zs hz => by
        unfold cutD; rw [hz, hw.1, hw.2, ← hz]; simp
      rw [this _ t.len]
      exact ro'
    · refine HT.getItem_tuple_cut ht hs pl pu (by rw [hlen]; exact hw) ?_ (by rw [hlen]; exact hz)
      rw [hlen]
      obtain ⟨hn, I2⟩ := I.newTup (t' := s.toks) ((r.drop (HT.sIx us.length 0 lo)).take (HT.sIx us.length us.length hi - HT.sIx us.length 0 lo)) (Nat.le_trans (cutV_length us lo hi) hz)
      obtain ⟨a1, a2, a3⟩ := hh.newTup (cutD_rep t lo hi) hn (o := tupOb ((its.drop (HT.sIx us.length 0 lo)).take (HT.sIx us.length us.length hi - HT.sIx us.length 0 lo)).toArray) rfl
      exact ⟨.ref s.heap.objs.size, _, I2, rfl, q _ _ a1 a2 a3⟩
  · cases ed
    simp only [RepV] at ro
    obtain ⟨a, us, rfl, sa, t⟩ := ro
    refine sl_list pins s σ g.H _ v vl vu lo hi sl Q I rx hs pl pu ⟨a, us, rfl, sa.sqL, fun p hp => ?_⟩
    obtain ⟨a1, a2, a3⟩ := hh.newLst (cutD_rep t lo hi) hp
    exact q _ _ a1 a2 a3
  · obtain ⟨xs, e1, rfl⟩ := Option.map_eq_some_iff.mp ed
    obtain ⟨a, us, rfl, sa, t⟩ := lookL_rep hh ro e1
    refine sl_list pins s σ g.H _ v vl vu lo hi sl Q I rx hs pl pu ⟨a, us, rfl, .of sa, fun p hp => ?_⟩
    obtain ⟨a1, a2, a3⟩ := hh.newLst (cutD_rep t lo hi) hp
    exact q _ _ a1 a2 a3
theorem de_slice {e : Expr} {lo hi : Option Expr} {fo : En → Hea → R D} {fl fh : En → Hea → R (Option Int)} {p2 pos : Pos} (he : DE X W e fo) (hl : DO X W lo fl) (hu : DO X W hi fh) : DE X W (.Subscript e (.Slice lo hi none p2) pos) (fSlice fo fl fh) :=
  pe_imp (pe_slice sl_d he hl hu) fun σ H Q ⟨g, env, heap, e1, hh, er, p⟩ => by
    refine ⟨g, env, heap, e1, hh, er, (Post.bind (A := RepV X.wd) p).imp fun x H1 ⟨g1, h1, o, e2, hh1, x1, ro, p1⟩ => ?_⟩
    refine ⟨g1, env, h1, e2, hh1, er.ext x1, (Post.bind (A := fun _ (a : Option Int) (b : Option Int) => b = a) p1).imp fun l H2 ⟨g2, h2, l', e3, hh2, x2, rl, p2⟩ => ?_⟩
    subst rl
    refine ⟨g2, env, h2, e3, hh2, (er.ext x1).ext x2, (Post.bind (A := fun _ (a : Option Int) (b : Option Int) => b = a) p2).imp fun u H3 ⟨g3, h3, u', e4, hh3, x3, ru, p3⟩ => ?_⟩
    subst ru
    obtain ⟨d, ed, q⟩ := p3.of1
    exact ⟨g3, h3, o, d, e4, hh3, (ro.ext x2).ext x3, ed, q⟩
/-! ### attributes -/
def fldD (C : Addr) (f : Str) (o : D) (h : Hea) : Option D := match o with
  | .ref n => match h[n]? with
    | some (.ins C' fs) => if C' = C then fs.lookup f else none
    | _ => none
  | _ => none
theorem lookup_rep {g : Gd} {f : Str} {d : D} : ∀ {fs : List (Str × D)} {fs' : List (Str × V)}, fs'.map (·.1) = fs.map (·.1) → RepVs K g (fs.map (·.2)) (fs'.map (·.2)) → fs.lookup f = some d → ∃ v, fs'.lookup f = some v ∧ RepV K g d v
  | [], _, _, _, e => by simp at e
  | (k, a) :: r, [], h, _, _ => by simp at h
  | (k, a) :: r, (k', v) :: r', h, t, e => by
    simp only [List.map_cons, List.cons.injEq] at h
    obtain ⟨rfl, h⟩ := h
    obtain ⟨x, xs, ex, rx, rt⟩ := RepVs_cons.mp (show RepVs K g (a :: r.map (·.2)) (v :: r'.map (·.2)) from t)
    cases ex
    simp only [List.lookup] at e ⊢
    cases q : f == k' with
    | true => rw [q] at e; cases e; exact ⟨v, rfl, rx⟩
    | false => rw [q] at e; exact lookup_rep h rt e
theorem de_fld {e : Expr} {f : Str} {fo : En → Hea → R D} {C : Addr} {pos : Pos} (he : DE X W e fo) (c : Cls X.K C) (n : NoAttr X.K C f) (hb : attributeBase e f X.env (eval e X.env) = eval e X.env := by rfl) : DE X W (.Attribute e f pos) (fUn (fldD C f) fo) :=
  pe_imp (pe_fld he hb) fun σ H Q ⟨g, env, heap, e1, hh, er, p⟩ => by
    refine ⟨g, env, heap, e1, hh, er, (Post.bind (A := RepV X.wd) p).imp fun x H1 ⟨g1, h1, o, e2, hh1, x1, ro, p1⟩ => ?_⟩
    subst e2
    obtain ⟨d, ed, q⟩ := p1.of1
    unfold fldD at ed
    split at ed
    · split at ed
      · split at ed
        · rename_i m C' fs hc hC
          subst hC
          simp only [RepV] at ro
          obtain ⟨dx, fs', eH, ek, rf⟩ := hh1.cell _ _ hc
          obtain ⟨v, lv, rv⟩ := lookup_rep ek rf ed
          exact ⟨_, C', dx, fs', v, ro.2, eH, c, n, lv, fin1 hh1 q rv⟩
        · cases ed
      · cases ed
    · cases ed
def putFD (f : Str) (v : D) : List (Str × D) → List (Str × D)
  | [] => [(f, v)]
  | (k, x) :: r => if k = f then (k, v) :: r else (k, x) :: putFD f v r
theorem putF_rep {g : Gd} {f : Str} {d : D} {v : V} (r : RepV K g d v) : ∀ {fs : List (Str × D)} {fs' : List (Str × V)}, fs'.map (·.1) = fs.map (·.1) → RepVs K g (fs.map (·.2)) (fs'.map (·.2)) →
    (putF f v fs').map (·.1) = (putFD f d fs).map (·.1) ∧ RepVs K g ((putFD f d fs).map (·.2)) ((putF f v fs').map (·.2))
  | [], [], _, _ => ⟨rfl, .cons r .nil⟩
  | [], _ :: _, h, _ => by simp at h
  | _ :: _, [], h, _ => by simp at h
  | (k, a) :: l, (k', u) :: l', h, t => by
    simp only [List.map_cons, List.cons.injEq] at h
    obtain ⟨rfl, h⟩ := h
    obtain ⟨x, xs, ex, rx, rt⟩ := RepVs_cons.mp (show RepVs K g (a :: l.map (·.2)) (u :: l'.map (·.2)) from t)
    cases ex
    unfold putF putFD
    by_cases q : k' = f
    · rw [if_pos q, if_pos q]
      exact ⟨by simp [h], .cons r rt⟩
    · rw [if_neg q, if_neg q]
      obtain ⟨a1, a2⟩ := putF_rep r h rt
      exact ⟨by simp [a1], .cons rx a2⟩
/-- o.f = y, by data -/
def setFD (C : Addr) (f : Str) (o y : D) (h : Hea) : Option Hea := match o with
  | .ref n => match h[n]? with
    | some (.ins C' fs) => if C' = C ∧ fs.length < 1000 then some (h.set n (.ins C' (putFD f y fs))) else none
    | _ => none
  | _ => none
def sFldD (C : Addr) (f : Str) (fo fv : En → Hea → R D) : FS := fun e h => (fv e h).toS e fun y h1 => (fo e h1).toS e fun o h2 => match setFD C f o y h2 with
  | some h3 => .nx e h3
  | none => .no
theorem setFD_rep {g : Gd} {heap h' : Hea} {C : Addr} {f : Str} {o y : D} {x v : V} (hh : HR K g heap) (ro : RepV K g o x) (ry : RepV K g y v) (e : setFD C f o y heap = some h') :
    ∃ a dx fs, x = .ref a ∧ g.H a = some (.ins C dx fs) ∧ fs.length < 1000 ∧ HR K (g.put a (.ins C dx (putF f v fs))) h' ∧ Ext g (g.put a (.ins C dx (putF f v fs))) := by
  unfold setFD at e
  split at e
  · split at e
    · split at e
      · rename_i n C' fs hc hl
        cases e
        obtain ⟨rfl, hl⟩ := hl
        simp only [RepV] at ro
        obtain ⟨dx, fs', eH, ek, rf⟩ := hh.cell _ _ hc
        have hlen : fs'.length = fs.length := by have := congrArg List.length ek; simpa using this
        have x1 := hh.ext_set (o := .ins C' dx (putF f v fs')) ro.1
        obtain ⟨k1, k2⟩ := putF_rep (f := f) (ry.ext x1) ek (rf.ext x1)
        exact ⟨_, dx, fs', ro.2, eH, by omega, hh.set ro.1 ⟨dx, _, upd_same, k1, k2⟩, x1⟩
      · cases e
    · cases e
  · cases e
theorem ds_fld {o value : Expr} {f : Str} {fo fv : En → Hea → R D} {C : Addr} {pos pos' : Pos} (ha : DE X W o fo) (hv : DE X W value fv) (c : Cls X.K C) (n : NoAttr X.K C f) (hs : swapsWith value (some (.Attribute o f pos')) pos.line X.env = pure false := by rfl) : DS X W (.Assign [.Attribute o f pos'] value pos) (sFldD C f fo fv) :=
  ps_imp (ps_fld ha hv hs) fun Dn σ H ⟨g, env, heap, e1, hh, er, p⟩ => ⟨g, env, heap, e1, hh, er, (PostS.ofR (A := RepV X.wd) p er).imp fun y H1 ⟨g1, h1, yd, e2, hh1, x1, ry, p1⟩ => by
    refine ⟨g1, env, h1, e2, hh1, er.ext x1, (PostS.ofR (A := RepV X.wd) p1 (er.ext x1)).imp fun x H2 ⟨g2, h2, od, e3, hh2, x2, ro, p2⟩ => ?_⟩
    subst e3
    cases q : setFD C f od yd h2 with
    | none => rw [q] at p2; exact p2.elim
    | some h3 =>
      rw [q] at p2
      obtain ⟨a, dx, fs, ex, eH, hl, hh3, x3⟩ := setFD_rep hh2 ro (ry.ext x2) q
      exact ⟨a, C, dx, fs, ex, eH, c, n, hl, p2 _ σ hh3 x3 (((er.ext x1).ext x2).ext x3)⟩⟩
end
end DD

set_option Elab.async false
set_option linter.all false
set_option maxRecDepth 100000
set_option maxHeartbeats 1000000
namespace DD
open PySem PySem.Spec PyProof.Rows L2
section
variable {X : Cx} {W : WX} {K : Wd}
/-! ### what is walked -/
def iSeq (f : En → Hea → R D) : En → Hea → R (List D) := fun e h => (f e h).bind fun d h1 => R.of (tupItems d) h1
theorem itr_tup {g : Gd} {a : Addr} {us : List V} {xs : List D} {F : PySem.W.Frag} (hF : F = K.K) (sq : SqT F g.H a us) (t : RepVs K g xs us) : ItR K g xs (Itt F a) := by
  subst hF
  intro g1 heap1 hh1 x1 i
  have s1 := x1.sqT sq
  have t1 := t.extw x1
  refine ⟨fun d e => ?_, fun hl => ⟨us, s1, by rw [← t.len]; exact hl⟩⟩
  obtain ⟨v, ev, rv⟩ := t1.get e
  refine ⟨⟨us, v, s1, ev⟩, fun x H' y => ?_⟩
  obtain ⟨rfl, y⟩ := y
  have := y us s1
  rw [ev] at this; cases this
  exact ⟨g1, rfl, hh1, .refl _, rv⟩
theorem itr_lst {g : Gd} {a : Addr} {us : List V} {xs : List D} {F : PySem.W.Frag} (sq : ∀ g1, ExtW g g1 → SqL F g1.H a us) (t : RepVs K g xs us) : ItR K g xs (Itl F a) := by
  intro g1 heap1 hh1 x1 i
  have s1 := sq g1 x1
  have t1 := t.extw x1
  refine ⟨fun d e => ?_, fun hl => ⟨us, s1, by rw [← t.len]; exact hl⟩⟩
  obtain ⟨v, ev, rv⟩ := t1.get e
  refine ⟨⟨us, v, s1, ev⟩, fun x H' y => ?_⟩
  obtain ⟨rfl, y⟩ := y
  have := y us s1
  rw [ev] at this; cases this
  exact ⟨g1, rfl, hh1, .refl _, rv⟩
/-- a list that stays -/
def staysOf : D → Option (List D)
  | .lst xs => some xs
  | _ => none
theorem stays_rep {g : Gd} {d : D} {v : V} {xs : List D} (r : RepV K g d v) (e : staysOf d = some xs) : ∃ a us, v = .ref a ∧ (∀ (F : PySem.W.Frag) g1, ExtW g g1 → SqL F g1.H a us) ∧ RepVs K g xs us := by
  cases d with
  | lst ys =>
    cases e
    simp only [RepV] at r
    obtain ⟨a, us, e, q, n, t⟩ := r
    exact ⟨a, us, e, fun F g1 x1 => .of (x1.k _ _ q n.1 n.2).1, t⟩
  | _ => cases e
def iLst (f : En → Hea → R D) : En → Hea → R (List D) := fun e h => (f e h).bind fun d h1 => R.of (staysOf d) h1
theorem di_tup {tg l : Expr} {f : En → Hea → R D} (hl : DE X W l f) : DI X W tg l (iSeq f) :=
  pi_imp (pi_tup hl) fun σ H Q ⟨g, env, heap, e1, hh, er, p⟩ => by
    refine ⟨g, env, heap, e1, hh, er, (Post.bind (A := RepV X.wd) p).imp fun x H1 ⟨g1, h1, d, e2, hh1, x1, rd, p1⟩ => ?_⟩
    subst e2
    obtain ⟨xs, ed, q⟩ := p1.of1
    obtain ⟨a, us, rfl, sq, t⟩ := tupItems_rep rd ed
    exact ⟨a, rfl, ⟨us, sq⟩, q g1 _ hh1 (.refl _) (itr_tup rfl sq t)⟩
theorem di_lst {tg l : Expr} {f : En → Hea → R D} (hl : DE X W l f) : DI X W tg l (iLst f) :=
  pi_imp (pi_list hl) fun σ H Q ⟨g, env, heap, e1, hh, er, p⟩ => by
    refine ⟨g, env, heap, e1, hh, er, (Post.bind (A := RepV X.wd) p).imp fun x H1 ⟨g1, h1, d, e2, hh1, x1, rd, p1⟩ => ?_⟩
    subst e2
    obtain ⟨xs, ed, q⟩ := p1.of1
    obtain ⟨a, us, rfl, sq, t⟩ := stays_rep rd ed
    exact ⟨a, rfl, ⟨us, sq _ _ (.refl _)⟩, q g1 _ hh1 (.refl _) (itr_lst (sq _) t)⟩
def smallI (i : Int) : Prop := -(2 ^ 62) ≤ i ∧ i < 2 ^ 62
instance (i : Int) : Decidable (smallI i) := inferInstanceAs (Decidable (_ ∧ _))
def rangeL (lo : Int) (n : Nat) : List D := (List.range n).map fun i => .int (lo + (i : Nat))
def iRange1 (fa : En → Hea → R (List D)) : En → Hea → R (List D) := fun e h => (fa e h).bind fun as h1 => match as with
  | [.int j] => if smallI j then .ok (rangeL 0 j.toNat) h1 else .no
  | _ => .no
def iRange2 (fa : En → Hea → R (List D)) : En → Hea → R (List D) := fun e h => (fa e h).bind fun as h1 => match as with
  | [.int i, .int j] => if smallI i ∧ smallI j then .ok (rangeL i (j - i).toNat) h1 else .no
  | _ => .no
theorem itr_range {g : Gd} {lo : Int} {n : Nat} : ItR K g (rangeL lo n) (Itr lo n) := by
  intro g1 heap1 hh1 x1 i
  refine ⟨fun d e => ?_, fun hl => (show n ≤ i by simpa [rangeL] using hl)⟩
  have hi : i < n := by
    have := (List.getElem?_eq_some_iff.mp e).1
    simpa [rangeL] using this
  refine ⟨hi, fun x H' y => ?_⟩
  obtain ⟨rfl, rfl⟩ := y
  refine ⟨g1, rfl, hh1, .refl _, ?_⟩
  rw [rangeL, List.getElem?_map, List.getElem?_range hi] at e
  cases e
  simp [RepV]
theorem di_range1 {tg a : Expr} {fa : En → Hea → R (List D)} {p pos : Pos} (hg : Gl X "range") (hm : X.mg "range" = none) (ha : DA X W [a] fa) (hs : starEach [a] X.env = [(false, eval a X.env)] := by rfl) : DI X W tg (.Call (.Name "range" p) [a] [] pos) (iRange1 fa) :=
  pi_imp (pi_range1 hg hm ha hs) fun σ H Q ⟨g, env, heap, e1, hh, er, p⟩ => by
    refine ⟨g, env, heap, e1, hh, er, (Post.bind (A := RepVs X.wd) p).imp fun x H1 ⟨g1, h1, as, e2, hh1, x1, ra, p1⟩ => ?_⟩
    subst e2
    split at p1
    · obtain ⟨v, rfl, rv⟩ := ra.one
      simp only [RepV] at rv; subst rv
      split at p1
      · rename_i hs
        exact ⟨_, rfl, hs.1, hs.2, p1 g1 _ hh1 (.refl _) itr_range⟩
      · exact p1.elim
    · exact p1.elim
theorem di_range2 {tg a b : Expr} {fa : En → Hea → R (List D)} {p pos : Pos} (hg : Gl X "range") (hm : X.mg "range" = none) (ha : DA X W [a, b] fa) (hs : starEach [a, b] X.env = [(false, eval a X.env), (false, eval b X.env)] := by rfl) (hs2 : starEach [b] X.env = [(false, eval b X.env)] := by rfl) :
    DI X W tg (.Call (.Name "range" p) [a, b] [] pos) (iRange2 fa) :=
  pi_imp (pi_range2 hg hm ha hs hs2) fun σ H Q ⟨g, env, heap, e1, hh, er, p⟩ => by
    refine ⟨g, env, heap, e1, hh, er, (Post.bind (A := RepVs X.wd) p).imp fun x H1 ⟨g1, h1, as, e2, hh1, x1, ra, p1⟩ => ?_⟩
    subst e2
    split at p1
    · obtain ⟨v, w, rfl, rv, rw'⟩ := ra.two
      simp only [RepV] at rv rw'; subst rv rw'
      split at p1
      · rename_i hs
        exact ⟨_, _, rfl, ⟨hs.1.1, hs.1.2, hs.2.1, hs.2.2⟩, p1 g1 _ hh1 (.refl _) itr_range⟩
      · exact p1.elim
    · exact p1.elim
def enumL (xs : List D) : List D := xs.mapIdx fun i d => .pr [.int (i : Nat), d]
theorem itr_enum {g : Gd} {a : Addr} {us : List V} {xs : List D} {F : PySem.W.Frag} (sq : ∀ g1, ExtW g g1 → SqL F g1.H a us) (t : RepVs K g xs us) : ItR K g (enumL xs) (Ite F a) := by
  intro g1 heap1 hh1 x1 i
  have s1 := sq g1 x1
  have t1 := t.extw x1
  refine ⟨fun d e => ?_, fun hl => ⟨us, s1, by rw [← t.len]; simpa [enumL] using hl⟩⟩
  unfold enumL at e
  rw [List.getElem?_mapIdx] at e
  obtain ⟨z, ez, rfl⟩ := Option.map_eq_some_iff.mp e
  obtain ⟨v, ev, rv⟩ := t1.get ez
  refine ⟨⟨us, v, s1, ev⟩, fun x H' y => ?_⟩
  obtain ⟨T, w, rfl, hT, rfl, y⟩ := y
  have := y us s1
  rw [ev] at this; cases this
  refine ⟨g1.put T (.tup [.int (i : Nat), v]), rfl, hh1.put hT, hh1.ext_put hT, ?_⟩
  simp only [RepV]
  exact ⟨T, _, rfl, .of upd_same, .cons (by simp [RepV]) (.cons (rv.ext (hh1.ext_put hT)) .nil)⟩
def iEnumL (fa : En → Hea → R (List D)) : En → Hea → R (List D) := fun e h => (fa e h).bind fun as h1 => match as with
  | [.lst xs] => .ok (enumL xs) h1
  | _ => .no
theorem di_enum {e : Expr} {fa : En → Hea → R (List D)} {p pos tpos : Pos} {elts : List Expr} {kk : Nat} (hg : Gl X "enumerate") (hm : X.mg "enumerate" = none) (ha : DA X W [e] fa) (hs : starEach [e] X.env = [(false, eval e X.env)] := by rfl) :
    DI X W (.Tuple elts kk tpos) (.Call (.Name "enumerate" p) [e] [] pos) (iEnumL fa) :=
  pi_imp (pi_enum hg hm ha hs) fun σ H Q ⟨g, env, heap, e1, hh, er, p⟩ => by
    refine ⟨g, env, heap, e1, hh, er, (Post.bind (A := RepVs X.wd) p).imp fun x H1 ⟨g1, h1, as, e2, hh1, x1, ra, p1⟩ => ?_⟩
    subst e2
    split at p1
    · obtain ⟨v, rfl, rv⟩ := ra.one
      obtain ⟨a, us, rfl, sq, t⟩ := stays_rep rv rfl
      exact ⟨a, us, rfl, sq _ _ (.refl _), p1 g1 _ hh1 (.refl _) (itr_enum (sq _) t)⟩
    · exact p1.elim
/-! ### comprehensions -/
def wipeE (e : En) : List Nat → En
  | [] => e
  | v :: vs => (wipeE e vs).set v none
theorem ER.wipe {g : Gd} {env : En} {σ : List (Option V)} (er : ER K g env σ) : ∀ vs : List Nat, ER K g (wipeE env vs) (L2.wipe σ vs)
  | [] => er
  | v :: vs => by
    obtain ⟨h1, h2⟩ := ER.wipe er vs
    unfold wipeE L2.wipe
    refine ⟨by simp [h1], fun i d e => ?_⟩
    by_cases h : v = i
    · subst h
      by_cases hl : v < (wipeE env vs).length
      · rw [List.getElem?_set_self hl] at e; cases e
      · rw [List.getElem?_eq_none (by simpa using hl)] at e; cases e
    · rw [List.getElem?_set_ne h] at e ⊢
      exact h2 i d e
def R.nox {α : Type} (r : R α) : R α := match r with
  | .ex _ _ => .no
  | r => r
@[simp] theorem R.nox_ok {α : Type} {a : α} {h : Hea} : (R.ok a h).nox = .ok a h := rfl
@[simp] theorem R.nox_no {α : Type} : (R.no : R α).nox = .no := rfl
theorem Post.noxb {α β γ δ : Type} {A : Gd → α → β → Prop} {B : Gd → γ → δ → Prop} {σ σ' : L2.St} {g g0 : Gd} {r : R α} {k : α → Hea → R γ} {Q : δ → Hp → Prop} (x0 : Ext g0 g) (p : Post K W B σ' g0 (r.nox.bind k) Q) :
    Post K WF A σ g r (fun v H1 => ∃ g1 h1 a, g1.H = H1 ∧ HR K g1 h1 ∧ Ext g g1 ∧ A g1 a v ∧ Post K W B σ' g0 (k a h1) Q) := by
  cases r with
  | no => exact p.elim
  | ok d x => exact fun g' v a b c => ⟨g', x, d, rfl, a, b, c, p⟩
  | ex e x => exact p.elim
def lcL (fg : D → FS) (ft : En → Hea → R Bool) (fe : En → Hea → R D) (vs : List Nat) (e0 : En) : List D → Hea → R (List D)
  | [], h => .ok [] h
  | x :: xs, h => match fg x (wipeE e0 vs) h with
    | .nx e1 h1 => (ft e1 h1).nox.bind fun b h2 => if b = true then (fe e1 h2).nox.bind fun y h3 => (lcL fg ft fe vs e0 xs h3).bind fun ys h4 => .ok (y :: ys) h4 else lcL fg ft fe vs e0 xs h2
    | _ => .no
def lcF (zs : List D) (h : Hea) : R D := if zs.length ≤ sizeLine then .ok (.lst zs) h else .no
def lcTo {β : Type} (acc : List D) (r : R (List D)) (F : List D → Hea → R β) : R β := r.bind fun ys h => F (acc ++ ys) h
def lcEnd (acc : List D) (r : R (List D)) : R D := lcTo acc r lcF
theorem lcF_le {zs : List D} {h : Hea} (q : lcF zs h ≠ .no) : zs.length ≤ sizeLine := by
  unfold lcF at q
  split at q
  · assumption
  · exact absurd rfl q
def fLc (fi : En → Hea → R (List D)) (fg : D → FS) (ft : En → Hea → R Bool) (fe : En → Hea → R D) (vs : List Nat) : En → Hea → R D := fun e h => (fi e h).bind fun xs h1 => lcEnd [] (lcL fg ft fe vs e xs h1)
abbrev Gd.rsv (g : Gd) (p : Addr) (o : HO) : Gd := { g with H := upd g.H p o, Z := p :: g.Z }
theorem HR.rsv {g : Gd} {heap : Hea} {p : Addr} {o : HO} (hh : HR K g heap) (hp : g.H p = none) : Ext g (g.rsv p o) ∧ HR K (g.rsv p o) heap := by
  have nf := hh.fresh hp
  have old : ∀ a u, g.H a = some u → upd g.H p o a = some u := fun a u e => by rw [upd_ne (ne_of_none e hp)]; exact e
  have x : Ext g (g.rsv p o) := by
    refine ⟨⟨Nat.le_refl _, fun a q => List.mem_cons_of_mem _ q, fun a q => ?_, fun a q => upd_nn q, fun _ _ => rfl, fun a u e n _ => ⟨old a u e, n⟩, fun a u e _ => old a u e⟩, fun a u _ e => old a u e⟩
    rcases List.mem_cons.mp q with rfl | q
    · exact .inr hp
    · exact .inl q
  refine ⟨x, hh.len, fun n c hc => (hh.cell n c hc).ext x fun u hu => old _ _ hu, hh.inj, fun n hn q => ?_, fun a q => ?_⟩
  · rcases List.mem_cons.mp q with e | q
    · exact nf.1 ⟨n, hn, e⟩
    · exact hh.dis n hn q
  · rcases List.mem_cons.mp q with rfl | q
    · show upd g.H a o a ≠ none
      rw [upd_same]; simp
    · intro z
      exact hh.zt a q (upd_nn z)
/-- a reserved object is no tuple -/
def RsO (o : HO) : Prop := ¬ Stb o
theorem ExtW.upZ {g : Gd} {p : Addr} {o o' : HO} (hp : g.H p = some o) (hr : RsO o) (hz : p ∈ g.Z) : ExtW g (g.put p o') := by
  refine ⟨Nat.le_refl _, fun _ q => q, fun _ q => .inl q, fun a q => upd_nn q, fun _ _ => rfl, fun a u e n z => ⟨?_, n⟩, fun a u e s => ?_⟩
  · show upd g.H p o' a = _
    rw [upd_ne fun q => z (by rw [q]; exact hz)]; exact e
  · show upd g.H p o' a = _
    rw [upd_ne fun q => by subst q; rw [e] at hp; cases hp; exact hr s]; exact e
theorem HR.upZ {g : Gd} {heap : Hea} {p : Addr} {o o' : HO} (hh : HR K g heap) (hp : g.H p = some o) (hr : RsO o) (hz : p ∈ g.Z) : HR K (g.put p o') heap := by
  have x := ExtW.upZ (o' := o') hp hr hz
  refine ⟨hh.len, fun n c hc => ?_, hh.inj, hh.dis, fun a q => ?_⟩
  · have hn : n < g.N := by rw [hh.len]; exact (List.getElem?_eq_some_iff.mp hc).1
    have ne : g.ρ n ≠ p := fun z => hh.dis n hn (by rw [z]; exact hz)
    have at' : ∀ ob, g.H (g.ρ n) = some ob → upd g.H p o' (g.ρ n) = some ob := fun ob e => by rw [upd_ne ne]; exact e
    have q := hh.cell n c hc
    cases c with
    | lst ds => obtain ⟨xs, a, b⟩ := q; exact ⟨xs, at' _ a, b.extw x⟩
    | dic t kvs => obtain ⟨us, a, b⟩ := q; exact ⟨us, a.keep at' x.s, b.extw x⟩
    | ins C fs => obtain ⟨dx, fs', a, b, c⟩ := q; exact ⟨dx, fs', at' _ a, b, c.extw x⟩
  · show upd g.H p o' a ≠ none
    unfold upd
    split
    · simp
    · exact hh.zt a q
/-- from the ground that bears the reserved object to the one that does not -/
abbrev Gd.unr (g : Gd) (Z : List Addr) : Gd := { g with Z := Z }
mutual
theorem RepV.unr {g : Gd} {Z : List Addr} (hz : ∀ a, a ∈ Z → a ∈ g.Z) : ∀ {d : D} {v : V}, RepV K g d v → RepV K (g.unr Z) d v
  | .non, v, h => by simpa [RepV] using h
  | .bl b, v, h => by simpa [RepV] using h
  | .int i, v, h => by simpa [RepV] using h
  | .str x, v, h => by simpa [RepV] using h
  | .cst u, v, h => by simpa [RepV] using h
  | .ref n, v, h => by simpa [RepV] using h
  | .tup ds, v, h => by
    simp only [RepV] at h ⊢
    obtain ⟨a, xs, e, q, t⟩ := h
    exact ⟨a, xs, e, q, RepVs.unr hz t⟩
  | .pr ds, v, h => by
    simp only [RepV] at h ⊢
    obtain ⟨a, xs, e, q, t⟩ := h
    exact ⟨a, xs, e, q, RepVs.unr hz t⟩
  | .lst ds, v, h => by
    simp only [RepV] at h ⊢
    obtain ⟨a, xs, e, q, n, t⟩ := h
    exact ⟨a, xs, e, q, ⟨n.1, fun z => n.2 (hz a z)⟩, RepVs.unr hz t⟩
  | .fro ds, v, h => by
    simp only [RepV] at h ⊢
    obtain ⟨a, xs, e, q, t⟩ := h
    exact ⟨a, xs, e, q, RepVs.unr hz t⟩
  | .dic b ks vs, v, h => by
    simp only [RepV] at h ⊢
    obtain ⟨a, us, e, q, n, t⟩ := h
    exact ⟨a, us, e, q, ⟨n.1, fun z => n.2 (hz a z)⟩, RepVs.unr hz t⟩
theorem RepVs.unr {g : Gd} {Z : List Addr} (hz : ∀ a, a ∈ Z → a ∈ g.Z) : ∀ {ds : List D} {xs : List V}, RepVs K g ds xs → RepVs K (g.unr Z) ds xs
  | [], xs, h => by simpa using h
  | d :: ds, xs, h => by
    obtain ⟨x, r, rfl, q, t⟩ := RepVs_cons.mp h
    exact .cons (RepV.unr hz q) (RepVs.unr hz t)
end
theorem HR.unr {g : Gd} {heap : Hea} {Z : List Addr} (hh : HR K g heap) (hz : ∀ a, a ∈ Z → a ∈ g.Z) : HR K (g.unr Z) heap := by
  refine ⟨hh.len, fun n c hc => ?_, hh.inj, fun n hn q => hh.dis n hn (hz _ q), fun a q => hh.zt a (hz a q)⟩
  have q := hh.cell n c hc
  cases c with
  | lst ds => obtain ⟨xs, a, b⟩ := q; exact ⟨xs, a, b.unr hz⟩
  | dic t kvs => obtain ⟨us, a, b⟩ := q; exact ⟨us, a, b.unr hz⟩
  | ins C fs => obtain ⟨dx, fs', a, b, c⟩ := q; exact ⟨dx, fs', a, b, c.unr hz⟩
theorem Ext.unr {g g' : Gd} (x : Ext g g') : Ext g (g'.unr g.Z) := ⟨⟨x.n, fun _ h => h, fun _ h => .inl h, x.w, x.r, x.k, x.s⟩, x.q⟩
theorem Ext.upZ {g g' : Gd} {p : Addr} {o : HO} (x : Ext g g') (hp : g.H p = none) : Ext g (g'.put p o) := by
  have old : ∀ a u, g.H a = some u → g'.H a = some u → upd g'.H p o a = some u := fun a u e e' => by rw [upd_ne (ne_of_none e hp)]; exact e'
  exact ⟨⟨x.n, x.z, x.y, fun a q => x.w a (upd_nn q), x.r, fun a u e n z => ⟨old a u e (x.k a u e n z).1, (x.k a u e n z).2⟩, fun a u e s => old a u e (x.s a u e s)⟩, fun a u z e => old a u e (x.q a u z e)⟩
/-- the state of a comprehension's turn: g1 the ground ahead, p the new object -/
structure Tn (K : Wd) (g1 gb : Gd) (heap : Hea) (p : Addr) : Prop where
  hh : HR K gb heap
  x : Ext g1 gb
  z : p ∈ gb.Z
  f : g1.H p = none
  nz : p ∉ g1.Z
theorem Tn.i {g1 gb : Gd} {heap : Hea} {p : Addr} (t : Tn K g1 gb heap p) : ¬ gb.img p := fun ⟨n, hn, e⟩ => t.hh.dis n hn (by rw [e]; exact t.z)
theorem Tn.next {g1 gb g2 : Gd} {heap h2 : Hea} {p : Addr} {o : HO} (t : Tn K g1 gb heap p) (hp : gb.H p = some o) (hh : HR K g2 h2) (x : Ext gb g2) : Tn K g1 g2 h2 p ∧ g2.H p = some o :=
  ⟨⟨hh, t.x.trans x, x.z _ t.z, t.f, t.nz⟩, x.q _ _ t.z hp⟩
theorem Tn.upd {g1 gb : Gd} {heap : Hea} {p : Addr} {o o' : HO} (t : Tn K g1 gb heap p) (hp : gb.H p = some o) (hr : RsO o) : Tn K g1 (gb.put p o') heap p :=
  ⟨t.hh.upZ hp hr t.z, t.x.upZ t.f, t.z, t.f, t.nz⟩
theorem Tn.start {g1 : Gd} {heap : Hea} {p : Addr} {o : HO} (hh : HR K g1 heap) (hp : g1.H p = none) : Tn K g1 (g1.rsv p o) heap p := by
  obtain ⟨x, h⟩ := hh.rsv (o := o) hp
  exact ⟨h, x, List.mem_cons_self, hp, (hh.fresh hp).2⟩
theorem lcL_nex {fg : D → FS} {ft : En → Hea → R Bool} {fe : En → Hea → R D} {vs : List Nat} {e0 : En} : ∀ (zs : List D) (h : Hea) a b, lcL fg ft fe vs e0 zs h ≠ .ex a b := by
  intro zs
  induction zs with
  | nil => intro h a b q; cases q
  | cons z zs ih =>
    intro h a b q
    unfold lcL at q
    split at q
    · rename_i e1 h1 _
      cases ht : ft e1 h1 with
      | no => rw [ht] at q; cases q
      | ex _ _ => rw [ht] at q; cases q
      | ok c h2 =>
        rw [ht] at q
        simp only [R.nox_ok, R.bind_ok] at q
        split at q
        · cases hy : fe e1 h2 with
          | no => rw [hy] at q; cases q
          | ex _ _ => rw [hy] at q; cases q
          | ok c h3 =>
            rw [hy] at q
            simp only [R.nox_ok, R.bind_ok] at q
            cases hr : lcL fg ft fe vs e0 zs h3 with
            | no => rw [hr] at q; cases q
            | ok _ _ => rw [hr] at q; cases q
            | ex a' b' => exact ih h3 a' b' hr
        · exact ih _ _ _ q
    · cases q
/-- one turn's reading: behind the target, the tests, the element -/
theorem lc_turn {fg : D → FS} {ft : En → Hea → R Bool} {fe : En → Hea → R D} {vs : List Nat} {e0 : En} {x : D} {xs : List D} {acc : List D} {accV : List V} {σ σ0 : L2.St} {g1 gb g3 : Gd} {heap : Hea} {p : Addr} {v : V} {Q : VK} {F : List D → Hea → R D} {Nx : Hp → Prop}
    (hF : ∀ zs h, F zs h ≠ .no → zs.length ≤ sizeLine)
    (t : Tn K g1 gb heap p) (hp : gb.H p = some (.lst accV)) (ra : RepVs K gb acc accV) (hh3 : HR K g3 heap) (x3 : Ext gb g3) (rx : RepV K g3 x v) (er : ER K gb e0 σ)
    (pp : Post K W (RepV K) σ0 g1 (lcTo acc (lcL fg ft fe vs e0 (x :: xs) heap) F) Q)
    (nx : ∀ g heap acc accV, ExtW gb g → Tn K g1 g heap p → g.H p = some (.lst accV) → RepVs K g acc accV → Post K W (RepV K) σ0 g1 (lcTo acc (lcL fg ft fe vs e0 xs heap) F) Q → Nx g.H) :
    rdG K vs fg v (L2.wipe σ vs) g3.H fun σ2 H2 => L2.wipe σ2 vs = L2.wipe σ vs ∧ rd K WF Eqb ft σ2 H2 fun b H3 =>
      if b = true then rd K WF (RepV K) fe σ2 H3 fun y H4 => ∃ acc, H4 p = some (.lst acc) ∧ acc.length < sizeLine ∧ Nx (upd H4 p (.lst (acc ++ [y]))) else Nx H3 := by
  refine ⟨g3, wipeE e0 vs, heap, x, rfl, hh3, (er.wipe vs).ext x3, rx, ?_⟩
  unfold lcL at pp
  cases hg : fg x (wipeE e0 vs) heap with
  | nx e1 h1 =>
    rw [hg] at pp
    dsimp only at pp
    intro g4 σ4 hh4 x4 er4 ch
    have ww : ∀ s : List (Option V), L2.wipe (L2.wipe s vs) vs = L2.wipe s vs := fun s => by
      apply List.ext_getElem?
      intro i
      rw [wipe_get, wipe_get]
      by_cases h : i ∈ vs <;> simp [h, wipe_length]
    refine ⟨by rw [ch.wipe, ww], g4, e1, h1, rfl, hh4, er4, ?_⟩
    cases ht : ft e1 h1 with
    | no => rw [ht] at pp; exact pp.elim
    | ex a b => rw [ht] at pp; exact pp.elim
    | ok b h2 =>
      rw [ht] at pp
      simp only [R.nox_ok, R.bind_ok] at pp
      intro g5 b' hh5 x5 eb
      subst eb
      have xx := (x3.trans x4).trans x5
      obtain ⟨t5, p5⟩ := t.next hp hh5 xx
      have ra5 := ra.ext xx
      cases b' with
      | false =>
        rw [if_neg Bool.false_ne_true] at pp ⊢
        exact nx g5 h2 acc accV xx.toExtW t5 p5 ra5 pp
      | true =>
        rw [if_pos rfl] at pp ⊢
        refine ⟨g5, e1, h2, rfl, hh5, er4.ext x5, ?_⟩
        cases he : fe e1 h2 with
        | no => rw [he] at pp; exact pp.elim
        | ex a b => rw [he] at pp; exact pp.elim
        | ok y h3 =>
          rw [he] at pp
          simp only [R.nox_ok, R.bind_ok] at pp
          intro g6 w hh6 x6 ry
          obtain ⟨t6, p6⟩ := t5.next p5 hh6 x6
          have ra6 := ra5.ext x6
          have short : acc.length < sizeLine ∧ Post K W (RepV K) σ0 g1 (lcTo (acc ++ [y]) (lcL fg ft fe vs e0 xs h3) F) Q := by
            cases hl : lcL fg ft fe vs e0 xs h3 with
            | no => rw [hl] at pp; exact pp.elim
            | ex a b => exact absurd hl (lcL_nex _ _ _ _)
            | ok ys h4 =>
              rw [hl] at pp
              simp only [R.bind_ok, lcTo] at pp ⊢
              have e : (acc ++ [y]) ++ ys = acc ++ (y :: ys) := by simp
              rw [e]
              refine ⟨?_, pp⟩
              have := hF (acc ++ (y :: ys)) h4 fun q => by rw [q] at pp; exact pp
              simp at this; omega
          refine ⟨accV, p6, by rw [← ra6.len]; exact short.1, ?_⟩
          have t7 := t6.upd (o' := .lst (accV ++ [w])) p6 (fun q => q)
          have xw := ExtW.upZ (o' := .lst (accV ++ [w])) p6 (fun q => q) t6.z
          exact nx _ h3 (acc ++ [y]) _ ((xx.trans x6).toExtW.trans xw) t7 upd_same ((ra6.append (.cons ry .nil)).extw xw) short.2
  | no => rw [hg] at pp; exact pp.elim
  | rt _ _ => rw [hg] at pp; exact pp.elim
  | bk _ _ => rw [hg] at pp; exact pp.elim
  | ct _ _ => rw [hg] at pp; exact pp.elim
  | ex _ _ _ => rw [hg] at pp; exact pp.elim
theorem lc_done {acc : List D} {accV : List V} {σ : L2.St} {g1 gb : Gd} {heap : Hea} {p : Addr} {Q : VK} (t : Tn K g1 gb heap p) (hp : gb.H p = some (.lst accV)) (ra : RepVs K gb acc accV)
    (pp : Post K W (RepV K) σ g1 (lcEnd acc (.ok [] heap)) Q) : Q (.ref p) gb.H := by
  simp only [lcEnd, lcTo, lcF, R.bind_ok, List.append_nil] at pp
  split at pp
  · refine pp (gb.unr g1.Z) _ (t.hh.unr t.x.z) t.x.unr ?_
    simp only [RepV]
    exact ⟨p, accV, rfl, hp, ⟨t.i, t.nz⟩, ra.unr t.x.z⟩
  · exact pp.elim
end
end DD

set_option Elab.async false
set_option linter.all false
set_option maxRecDepth 100000
set_option maxHeartbeats 1000000
namespace DD
open PySem PySem.Spec PyProof.Rows L2
section
variable {X : Cx} {W : WX} {K : Wd}
abbrev DTs (X : Cx) (W : WX) (ifs : List Expr) (f : En → Hea → R Bool) : Prop := PTs X ifs (rd X.wd W Eqb f)
def tOn : En → Hea → R Bool := fun _ h => .ok true h
theorem pts_imp {ifs : List Expr} {t t' : TT} (h : PTs X ifs t) (i : ∀ σ H Q, t' σ H Q → t σ H Q) : PTs X ifs t' := ⟨fun pins s σ H Q I q => h.run pins s σ H Q I (i σ H Q q)⟩
theorem dts_nil : DTs X W [] tOn := pts_imp pts_nil fun σ H Q ⟨g, env, heap, e, hh, er, p⟩ => by subst e; exact p g true hh (.refl _) rfl
theorem dts_one {c : Expr} {f : En → Hea → R Bool} (h : DT X W c f) : DTs X W [c] f := pts_one h
theorem Chg.mono {vs ws : List Nat} {σ σ' : List (Option V)} (c : Chg vs σ σ') (h : ∀ i ∈ vs, i ∈ ws) : Chg ws σ σ' := ⟨c.1, fun i hi => c.2 i fun q => hi (h i q)⟩
theorem PostG.weak {vs ws : List Nat} {σ : L2.St} {g : Gd} {r : RS} {Q : L2.St → Hp → Prop} (h : ∀ i ∈ vs, i ∈ ws) (p : PostG K ws σ g r Q) : PostG K vs σ g r Q := by
  cases r with
  | nx e x => exact fun g' σ' a b c d => p g' σ' a b c (d.mono h)
  | _ => exact p.elim
theorem dg_weak {tg : Expr} {vs ws : List Nat} {f : D → FS} (h : DG X tg vs f) (hv : ∀ i ∈ vs, i ∈ ws) : DG X tg ws f :=
  pg_imp h fun v σ H Q ⟨g, env, heap, d, e, hh, er, r, p⟩ => ⟨g, env, heap, d, e, hh, er, r, p.weak hv⟩
theorem rd_lc {fi : En → Hea → R (List D)} {fg : D → FS} {ft : En → Hea → R Bool} {fe : En → Hea → R D} {vs : List Nat} {σ : L2.St} {H : Hp} {Q : VK} (p : rd K W (RepV K) (fLc fi fg ft fe vs) σ H Q) :
    tLc (fun σ H R => rd K W (ItR K) fi σ H fun J H' => R J H') (rdG K vs fg) (rd K WF Eqb ft) (rd K WF (RepV K) fe) vs σ H Q := by
  obtain ⟨g, env, heap, e1, hh, er, p⟩ := p
  refine ⟨g, env, heap, e1, hh, er, (Post.bind (A := ItR K) p).imp fun J H1 ⟨g1, h1, xs, e2, hh1, x1, ri, p1⟩ => ?_⟩
  subst e2
  intro dd hD
  let Iv : Nat → Hp → Prop := fun i H => i ≤ xs.length ∧ ∃ gb heap acc accV, gb.H = H ∧ Tn K g1 gb heap dd ∧ ER K gb env σ ∧ gb.H dd = some (.lst accV) ∧ RepVs K gb acc accV ∧ Post K W (RepV K) σ g1 (lcEnd acc (lcL fg ft fe vs env (xs.drop i) heap)) Q
  refine ⟨fun i m H => m = xs.length - i ∧ Iv i H, ⟨_, rfl, Nat.zero_le _, g1.rsv dd (.lst []), h1, [], [], rfl, .start hh1 hD, (er.ext x1).ext (hh1.rsv hD).1, upd_same, .nil, p1⟩, ?_⟩
  rintro i m H2 ⟨rfl, hi, gb, heap2, acc, accV, rfl, t, erb, hp, ra, pp⟩
  by_cases hlt : i < xs.length
  · obtain ⟨go, y⟩ := (ri gb heap2 t.hh t.x.toExtW i).1 xs[i] (by simp [hlt])
    refine .inr ⟨go, Iv (i + 1), fun H' z => ⟨xs.length - (i + 1), by omega, rfl, z⟩, fun x H' yl => ?_⟩
    obtain ⟨g3, e3, hh3, x3, rx⟩ := y x H' yl
    subst e3
    rw [List.drop_eq_getElem_cons hlt] at pp
    exact lc_turn (F := lcF) (fun _ _ => lcF_le) t hp ra hh3 x3 rx erb pp fun g heap acc accV xw t hp ra pp => ⟨hlt, g, heap, acc, accV, rfl, t, erb.extw xw, hp, ra, pp⟩
  · have e : i = xs.length := by omega
    subst e
    rw [List.drop_length] at pp
    exact .inl ⟨(ri gb heap2 t.hh t.x.toExtW _).2 (Nat.le_refl _), lc_done t hp ra pp⟩
theorem de_lc {elt tg iter : Expr} {ifs : List Expr} {scope : Scope} {own : List (Str × Nat)} {pos : Pos} {fi : En → Hea → R (List D)} {fg : D → FS} {ft : En → Hea → R Bool} {fe : En → Hea → R D} {vs0 : List Nat} (hc : X.calm = true) (hN : X.N.Nodup) (hi : DI X W tg iter fi) (ok : BlkOk X.N X.env.scope scope own) (hv : ∀ i ∈ vs0, i ∈ own.map (·.2))
    (hg : ∀ (s : Shared) (H : Hp) (C : Addr) (cl : List (Str × Addr)) (fp : List Addr), DG (X.blk s H scope (compEnvC scope cl C X.env) fp) tg vs0 fg) (ht : ∀ (s : Shared) (H : Hp) (C : Addr) (cl : List (Str × Addr)) (fp : List Addr), DTs (X.blk s H scope (compEnvC scope cl C X.env) fp) WF ifs ft)
    (he : ∀ (s : Shared) (H : Hp) (C : Addr) (cl : List (Str × Addr)) (fp : List Addr), DE (X.blk s H scope (compEnvC scope cl C X.env) fp) WF elt fe) (hs : ∀ x, foldedSetIterable iter X.env x = pure x := by intro _; rfl) :
    DE X W (.ListComp elt [⟨tg, iter, ifs, 0⟩] scope pos) (fLc fi fg ft fe (own.map (·.2))) :=
  pe_imp (pe_lc hc hN hi ok (fun s H C cl fp => dg_weak (hg s H C cl fp) hv) ht he hs) fun σ H Q p => rd_lc p
theorem ds_setLc {i : Nat} {y : Str} {py : Pos} {elt tg iter : Expr} {ifs : List Expr} {scope : Scope} {own : List (Str × Nat)} {pos spos : Pos} {fi : En → Hea → R (List D)} {fg : D → FS} {ft : En → Hea → R Bool} {fe : En → Hea → R D} {vs0 : List Nat} (hc : X.calm = true) (hN : X.N.Nodup) (hy : X.N[i]? = some y) (hyl : X.env.scope.names.lookup y = some .local)
    (hsw : swapsWith (.ListComp elt [⟨tg, iter, ifs, 0⟩] scope pos) (some (.Name y py)) spos.line X.env = pure true) (hi : DI X W tg iter fi) (ok : BlkOk X.N X.env.scope scope own) (hv : ∀ i ∈ vs0, i ∈ own.map (·.2))
    (hg : ∀ (s : Shared) (H : Hp) (C : Addr) (cl : List (Str × Addr)) (fp : List Addr), DG (X.blk s H scope (compEnvC scope cl C X.env) fp) tg vs0 fg) (ht : ∀ (s : Shared) (H : Hp) (C : Addr) (cl : List (Str × Addr)) (fp : List Addr), DTs (X.blk s H scope (compEnvC scope cl C X.env) fp) WF ifs ft)
    (he : ∀ (s : Shared) (H : Hp) (C : Addr) (cl : List (Str × Addr)) (fp : List Addr), DE (X.blk s H scope (compEnvC scope cl C X.env) fp) WF elt fe) (hs : ∀ x, foldedSetIterable iter X.env x = pure x := by intro _; rfl) :
    DS X W (.Assign [.Name y py] (.ListComp elt [⟨tg, iter, ifs, 0⟩] scope pos) spos) (sAsg (fLc fi fg ft fe (own.map (·.2))) (gN i)) :=
  ds_setOf (ps_imp (ps_setLc hc hN hy hyl hsw hi ok (fun s H C cl fp => dg_weak (hg s H C cl fp) hv) ht he hs) fun Dn σ H p => rd_lc p)
/-! ### two clauses -/
def lc2L (fg : D → FS) (ft : En → Hea → R Bool) (fi1 : En → Hea → R (List D)) (fg1 : D → FS) (ft1 : En → Hea → R Bool) (fe : En → Hea → R D) (vs vs1 : List Nat) (e0 : En) : List D → Hea → R (List D)
  | [], h => .ok [] h
  | x :: xs, h => match fg x (wipeE e0 vs) h with
    | .nx e1 h1 => (ft e1 h1).nox.bind fun b h2 => if b = true then (fi1 e1 h2).nox.bind fun ys h3 => (lcL fg1 ft1 fe vs1 e1 ys h3).bind fun zs h4 => (lc2L fg ft fi1 fg1 ft1 fe vs vs1 e0 xs h4).bind fun rs h5 => .ok (zs ++ rs) h5
        else lc2L fg ft fi1 fg1 ft1 fe vs vs1 e0 xs h2
    | _ => .no
def fLc2 (fi : En → Hea → R (List D)) (fg : D → FS) (ft : En → Hea → R Bool) (fi1 : En → Hea → R (List D)) (fg1 : D → FS) (ft1 : En → Hea → R Bool) (fe : En → Hea → R D) (vs vs1 : List Nat) : En → Hea → R D := fun e h => (fi e h).bind fun xs h1 => lcEnd [] (lc2L fg ft fi1 fg1 ft1 fe vs vs1 e xs h1)
theorem lc2L_nex {fg : D → FS} {ft : En → Hea → R Bool} {fi1 : En → Hea → R (List D)} {fg1 : D → FS} {ft1 : En → Hea → R Bool} {fe : En → Hea → R D} {vs vs1 : List Nat} {e0 : En} : ∀ (zs : List D) (h : Hea) a b, lc2L fg ft fi1 fg1 ft1 fe vs vs1 e0 zs h ≠ .ex a b := by
  intro zs
  induction zs with
  | nil => intro h a b q; cases q
  | cons z zs ih =>
    intro h a b q
    unfold lc2L at q
    split at q
    · rename_i e1 h1 _
      cases ht : ft e1 h1 with
      | no => rw [ht] at q; cases q
      | ex _ _ => rw [ht] at q; cases q
      | ok c h2 =>
        rw [ht] at q
        simp only [R.nox_ok, R.bind_ok] at q
        split at q
        · cases hy : fi1 e1 h2 with
          | no => rw [hy] at q; cases q
          | ex _ _ => rw [hy] at q; cases q
          | ok c h3 =>
            rw [hy] at q
            simp only [R.nox_ok, R.bind_ok] at q
            cases hw : lcL fg1 ft1 fe vs1 e1 c h3 with
            | no => rw [hw] at q; cases q
            | ex a' b' => exact lcL_nex _ _ _ _ hw
            | ok zs' h4 =>
              rw [hw] at q
              simp only [R.bind_ok] at q
              cases hr : lc2L fg ft fi1 fg1 ft1 fe vs vs1 e0 zs h4 with
              | no => rw [hr] at q; cases q
              | ok _ _ => rw [hr] at q; cases q
              | ex a' b' => exact ih h4 a' b' hr
        · exact ih _ _ _ q
    · cases q
theorem rd_lc2 {fi : En → Hea → R (List D)} {fg : D → FS} {ft : En → Hea → R Bool} {fi1 : En → Hea → R (List D)} {fg1 : D → FS} {ft1 : En → Hea → R Bool} {fe : En → Hea → R D} {vs vs1 : List Nat} {σ : L2.St} {H : Hp} {Q : VK} (p : rd K W (RepV K) (fLc2 fi fg ft fi1 fg1 ft1 fe vs vs1) σ H Q) :
    tLc2 (fun σ H R => rd K W (ItR K) fi σ H fun J H' => R J H') (rdG K vs fg) (rd K WF Eqb ft) (fun σ H R => rd K WF (ItR K) fi1 σ H fun J H' => R J H') (rdG K vs1 fg1) (rd K WF Eqb ft1) (rd K WF (RepV K) fe) vs vs1 σ H Q := by
  obtain ⟨g, env, heap, e1, hh, er, p⟩ := p
  refine ⟨g, env, heap, e1, hh, er, (Post.bind (A := ItR K) p).imp fun J H1 ⟨g1, h1, xs, e2, hh1, x1, ri, p1⟩ => ?_⟩
  subst e2
  intro dd hD
  let Iv : Nat → Hp → Prop := fun i H => i ≤ xs.length ∧ ∃ gb heap acc accV, gb.H = H ∧ ExtW g1 gb ∧ Tn K g1 gb heap dd ∧ ER K gb env σ ∧ gb.H dd = some (.lst accV) ∧ RepVs K gb acc accV ∧ Post K W (RepV K) σ g1 (lcEnd acc (lc2L fg ft fi1 fg1 ft1 fe vs vs1 env (xs.drop i) heap)) Q
  refine ⟨fun i m H => m = xs.length - i ∧ Iv i H, ⟨_, rfl, Nat.zero_le _, g1.rsv dd (.lst []), h1, [], [], rfl, (hh1.rsv hD).1.toExtW, .start hh1 hD, (er.ext x1).ext (hh1.rsv hD).1, upd_same, .nil, p1⟩, ?_⟩
  rintro i m H2 ⟨rfl, hi, gb, heap2, acc, accV, rfl, xw, t, erb, hp, ra, pp⟩
  by_cases hlt : i < xs.length
  · obtain ⟨go, y⟩ := (ri gb heap2 t.hh t.x.toExtW i).1 xs[i] (by simp [hlt])
    refine .inr ⟨go, Iv (i + 1), fun H' z => ⟨xs.length - (i + 1), by omega, rfl, z⟩, fun x H' yl => ?_⟩
    obtain ⟨g3, e3, hh3, x3, rx⟩ := y x H' yl
    subst e3
    rw [List.drop_eq_getElem_cons hlt] at pp
    refine ⟨g3, wipeE env vs, heap2, xs[i], rfl, hh3, (erb.wipe vs).ext x3, rx, ?_⟩
    unfold lc2L at pp
    cases hg : fg xs[i] (wipeE env vs) heap2 with
    | nx e1 h1' =>
      rw [hg] at pp
      dsimp only at pp
      intro g4 σ4 hh4 x4 er4 ch
      have ww : ∀ s : List (Option V), L2.wipe (L2.wipe s vs) vs = L2.wipe s vs := fun s => by
        apply List.ext_getElem?
        intro i
        rw [wipe_get, wipe_get]
        by_cases h : i ∈ vs <;> simp [h, wipe_length]
      refine ⟨by rw [ch.wipe, ww], g4, e1, h1', rfl, hh4, er4, ?_⟩
      cases ht : ft e1 h1' with
      | no => rw [ht] at pp; exact pp.elim
      | ex a b => rw [ht] at pp; exact pp.elim
      | ok b h2 =>
        rw [ht] at pp
        simp only [R.nox_ok, R.bind_ok] at pp
        intro g5 b' hh5 x5 eb
        subst eb
        have xx := (x3.trans x4).trans x5
        obtain ⟨t5, p5⟩ := t.next hp hh5 xx
        have ra5 := ra.ext xx
        have er5 := er4.ext x5
        cases b' with
        | false =>
          rw [if_neg Bool.false_ne_true] at pp ⊢
          exact ⟨hlt, g5, h2, acc, accV, rfl, xw.trans xx.toExtW, t5, erb.extw xx.toExtW, p5, ra5, pp⟩
        | true =>
          rw [if_pos rfl] at pp ⊢
          refine ⟨g5, e1, h2, rfl, hh5, er5, ?_⟩
          cases hy : fi1 e1 h2 with
          | no => rw [hy] at pp; exact pp.elim
          | ex a b => rw [hy] at pp; exact pp.elim
          | ok ys h3 =>
            rw [hy] at pp
            simp only [R.nox_ok, R.bind_ok] at pp
            intro g6 J1 hh6 x6 ri1
            obtain ⟨t6, p6⟩ := t5.next p5 hh6 x6
            let F : List D → Hea → R D := fun zs h => lcEnd zs (lc2L fg ft fi1 fg1 ft1 fe vs vs1 env (xs.drop (i + 1)) h)
            have hF : ∀ zs h, F zs h ≠ .no → zs.length ≤ sizeLine := by
              intro zs h q
              show zs.length ≤ sizeLine
              have q : lcEnd zs (lc2L fg ft fi1 fg1 ft1 fe vs vs1 env (xs.drop (i + 1)) h) ≠ .no := q
              unfold lcEnd lcTo at q
              cases hr : lc2L fg ft fi1 fg1 ft1 fe vs vs1 env (xs.drop (i + 1)) h with
              | no => rw [hr] at q; exact absurd rfl q
              | ex a b => exact absurd hr (lc2L_nex _ _ _ _)
              | ok rs h' =>
                rw [hr] at q
                have := lcF_le (show lcF (zs ++ rs) h' ≠ .no from q)
                simp at this; omega
            have pp6 : Post K W (RepV K) σ g1 (lcTo acc (lcL fg1 ft1 fe vs1 e1 ys h3) F) Q := by
              cases hl : lcL fg1 ft1 fe vs1 e1 ys h3 with
              | no => rw [hl] at pp; exact pp.elim
              | ex a b => exact absurd hl (lcL_nex _ _ _ _)
              | ok zs h4 =>
                rw [hl] at pp
                show Post K W (RepV K) σ g1 (lcEnd (acc ++ zs) (lc2L fg ft fi1 fg1 ft1 fe vs vs1 env (xs.drop (i + 1)) h4)) Q
                simp only [R.bind_ok] at pp
                cases hr : lc2L fg ft fi1 fg1 ft1 fe vs vs1 env (xs.drop (i + 1)) h4 with
                | no => rw [hr] at pp; exact pp.elim
                | ex a b => exact absurd hr (lc2L_nex _ _ _ _)
                | ok rs h5 =>
                  rw [hr] at pp
                  simp only [R.bind_ok, lcEnd, lcTo, List.append_assoc] at pp ⊢
                  exact pp
            let Iv1 : Nat → Hp → Prop := fun j H => j ≤ ys.length ∧ ∃ gc heap acc accV, gc.H = H ∧ ExtW g6 gc ∧ Tn K g1 gc heap dd ∧ gc.H dd = some (.lst accV) ∧ RepVs K gc acc accV ∧ Post K W (RepV K) σ g1 (lcTo acc (lcL fg1 ft1 fe vs1 e1 (ys.drop j) heap) F) Q
            have x06 := xx.trans x6
            refine ⟨fun j m H => m = ys.length - j ∧ Iv1 j H, ⟨_, rfl, Nat.zero_le _, g6, h3, acc, accV, rfl, .refl _, t6, p6, ra5.ext x6, pp6⟩, ?_⟩
            rintro j m H7 ⟨rfl, hj, gc, heap7, acc7, accV7, rfl, xw7, t7, p7, ra7, pp7⟩
            by_cases hlj : j < ys.length
            · obtain ⟨go1, y1⟩ := (ri1 gc heap7 t7.hh xw7 j).1 ys[j] (by simp [hlj])
              refine .inr ⟨go1, Iv1 (j + 1), fun H' z => ⟨ys.length - (j + 1), by omega, rfl, z⟩, fun x8 H8 yl8 => ?_⟩
              obtain ⟨g8, e8, hh8, x8', rx8⟩ := y1 x8 H8 yl8
              subst e8
              rw [List.drop_eq_getElem_cons hlj] at pp7
              exact lc_turn (F := F) hF t7 p7 ra7 hh8 x8' rx8 ((er5.ext x6).extw xw7) pp7 fun g heap acc accV xw8 t hp ra pp => ⟨hlj, g, heap, acc, accV, rfl, xw7.trans xw8, t, hp, ra, pp⟩
            · have e : j = ys.length := by omega
              subst e
              rw [List.drop_length] at pp7
              refine .inl ⟨(ri1 gc heap7 t7.hh xw7 _).2 (Nat.le_refl _), hlt, gc, heap7, acc7, accV7, rfl, (xw.trans x06.toExtW).trans xw7, t7, (erb.extw x06.toExtW).extw xw7, p7, ra7, ?_⟩
              have : Post K W (RepV K) σ g1 (lcTo acc7 (.ok [] heap7) F) Q := pp7
              simp only [lcTo, R.bind_ok, List.append_nil] at this
              exact this
    | no => rw [hg] at pp; exact pp.elim
    | rt _ _ => rw [hg] at pp; exact pp.elim
    | bk _ _ => rw [hg] at pp; exact pp.elim
    | ct _ _ => rw [hg] at pp; exact pp.elim
    | ex _ _ _ => rw [hg] at pp; exact pp.elim
  · have e : i = xs.length := by omega
    subst e
    rw [List.drop_length] at pp
    exact .inl ⟨(ri gb heap2 t.hh t.x.toExtW _).2 (Nat.le_refl _), lc_done t hp ra pp⟩
theorem de_lc2 {elt tg iter tg1 iter1 : Expr} {ifs ifs1 : List Expr} {scope : Scope} {own : List (Str × Nat)} {vs1 : List Nat} {pos : Pos} {fi fi1 : En → Hea → R (List D)} {fg fg1 : D → FS} {ft ft1 : En → Hea → R Bool} {fe : En → Hea → R D} {vs0 : List Nat} (hc : X.calm = true) (hN : X.N.Nodup) (hi : DI X W tg iter fi) (ok : BlkOk X.N X.env.scope scope own) (hv : ∀ i ∈ vs1, i ∈ own.map (·.2)) (hv0 : ∀ i ∈ vs0, i ∈ own.map (·.2))
    (hg : ∀ (s : Shared) (H : Hp) (C : Addr) (cl : List (Str × Addr)) (fp : List Addr), DG (X.blk s H scope (compEnvC scope cl C X.env) fp) tg vs0 fg) (ht : ∀ (s : Shared) (H : Hp) (C : Addr) (cl : List (Str × Addr)) (fp : List Addr), DTs (X.blk s H scope (compEnvC scope cl C X.env) fp) WF ifs ft)
    (hi1 : ∀ (s : Shared) (H : Hp) (C : Addr) (cl : List (Str × Addr)) (fp : List Addr), DI (X.blk s H scope (compEnvC scope cl C X.env) fp) WF tg1 iter1 fi1)
    (hg1 : ∀ (s : Shared) (H : Hp) (C : Addr) (cl : List (Str × Addr)) (fp : List Addr), DG (X.blk s H scope (compEnvC scope cl C X.env) fp) tg1 vs1 fg1) (ht1 : ∀ (s : Shared) (H : Hp) (C : Addr) (cl : List (Str × Addr)) (fp : List Addr), DTs (X.blk s H scope (compEnvC scope cl C X.env) fp) WF ifs1 ft1)
    (he : ∀ (s : Shared) (H : Hp) (C : Addr) (cl : List (Str × Addr)) (fp : List Addr), DE (X.blk s H scope (compEnvC scope cl C X.env) fp) WF elt fe) (hs : ∀ x, foldedSetIterable iter X.env x = pure x := by intro _; rfl) (hs1 : ∀ env x, foldedSetIterable iter1 env x = pure x := by intro _ _; rfl) :
    DE X W (.ListComp elt [⟨tg, iter, ifs, 0⟩, ⟨tg1, iter1, ifs1, 0⟩] scope pos) (fLc2 fi fg ft fi1 fg1 ft1 fe (own.map (·.2)) vs1) :=
  pe_imp (pe_lc2 hc hN hi ok hv (fun s H C cl fp => dg_weak (hg s H C cl fp) hv0) ht hi1 hg1 ht1 he hs hs1) fun σ H Q p => rd_lc2 p
theorem ds_setLc2 {i : Nat} {y : Str} {py : Pos} {elt tg iter tg1 iter1 : Expr} {ifs ifs1 : List Expr} {scope : Scope} {own : List (Str × Nat)} {vs1 : List Nat} {pos spos : Pos} {fi fi1 : En → Hea → R (List D)} {fg fg1 : D → FS} {ft ft1 : En → Hea → R Bool} {fe : En → Hea → R D} {vs0 : List Nat} (hc : X.calm = true) (hN : X.N.Nodup) (hy : X.N[i]? = some y) (hyl : X.env.scope.names.lookup y = some .local)
    (hsw : swapsWith (.ListComp elt [⟨tg, iter, ifs, 0⟩, ⟨tg1, iter1, ifs1, 0⟩] scope pos) (some (.Name y py)) spos.line X.env = pure true) (hi : DI X W tg iter fi) (ok : BlkOk X.N X.env.scope scope own) (hv : ∀ i ∈ vs1, i ∈ own.map (·.2)) (hv0 : ∀ i ∈ vs0, i ∈ own.map (·.2))
    (hg : ∀ (s : Shared) (H : Hp) (C : Addr) (cl : List (Str × Addr)) (fp : List Addr), DG (X.blk s H scope (compEnvC scope cl C X.env) fp) tg vs0 fg) (ht : ∀ (s : Shared) (H : Hp) (C : Addr) (cl : List (Str × Addr)) (fp : List Addr), DTs (X.blk s H scope (compEnvC scope cl C X.env) fp) WF ifs ft)
    (hi1 : ∀ (s : Shared) (H : Hp) (C : Addr) (cl : List (Str × Addr)) (fp : List Addr), DI (X.blk s H scope (compEnvC scope cl C X.env) fp) WF tg1 iter1 fi1)
    (hg1 : ∀ (s : Shared) (H : Hp) (C : Addr) (cl : List (Str × Addr)) (fp : List Addr), DG (X.blk s H scope (compEnvC scope cl C X.env) fp) tg1 vs1 fg1) (ht1 : ∀ (s : Shared) (H : Hp) (C : Addr) (cl : List (Str × Addr)) (fp : List Addr), DTs (X.blk s H scope (compEnvC scope cl C X.env) fp) WF ifs1 ft1)
    (he : ∀ (s : Shared) (H : Hp) (C : Addr) (cl : List (Str × Addr)) (fp : List Addr), DE (X.blk s H scope (compEnvC scope cl C X.env) fp) WF elt fe) (hs : ∀ x, foldedSetIterable iter X.env x = pure x := by intro _; rfl) (hs1 : ∀ env x, foldedSetIterable iter1 env x = pure x := by intro _ _; rfl) :
    DS X W (.Assign [.Name y py] (.ListComp elt [⟨tg, iter, ifs, 0⟩, ⟨tg1, iter1, ifs1, 0⟩] scope pos) spos) (sAsg (fLc2 fi fg ft fi1 fg1 ft1 fe (own.map (·.2)) vs1) (gN i)) :=
  ds_setOf (ps_imp (ps_setLc2 hc hN hy hyl hsw hi ok hv (fun s H C cl fp => dg_weak (hg s H C cl fp) hv0) ht hi1 hg1 ht1 he hs hs1) fun Dn σ H p => rd_lc2 p)
end
end DD

set_option Elab.async false
set_option linter.all false
set_option maxRecDepth 100000
set_option maxHeartbeats 1000000
namespace DD
open PySem PySem.Spec PyProof.Rows L2
section
variable {X : Cx} {W : WX} {K : Wd}
/-! ### a def's promise: a function of data -/
def spD (K : Wd) (n : Nat) (gf : List D → Hea → R D) : Sp := fun vs H Q E => ∃ g heap ds, g.H = H ∧ HR K g heap ∧ RepVs K g ds vs ∧ ds.length = n ∧ Post K (fun c od _ H => E c od H) (RepV K) [] g (gf ds heap) Q
/-- the def at f computes gf -/
abbrev FnD (E : Wd) (mg : Str → Option Value) (base : Heap) (k : Nat) (f : Addr) (fd : FuncData) (ps : List Str) (gf : List D → Hea → R D) : Prop := FnOk E.P E.w E.K mg base CX0 k f fd ps (spD E ps.length gf)
def fCall (gf : List D → Hea → R D) (fa : En → Hea → R (List D)) : En → Hea → R D := fun e h => (fa e h).bind fun as h1 => (gf as h1).nox
theorem Post.nox0 {α β : Type} {A : Gd → α → β → Prop} {W' : WX} {σ σ' : L2.St} {g : Gd} {r : R α} {Q : β → Hp → Prop} (p : Post K W A σ g r.nox Q) : Post K W' A σ' g r Q := by
  cases r with
  | no => exact p.elim
  | ok d h => exact p
  | ex e h => exact p.elim
theorem Post.sig {α β : Type} {A : Gd → α → β → Prop} {W' : WX} {σ σ' : L2.St} {g : Gd} {r : R α} {Q : β → Hp → Prop} (p : Post K W A σ g r Q) (hr : ∀ e h, r ≠ .ex e h) : Post K W' A σ' g r Q := by
  cases r with
  | no => exact p.elim
  | ok d h => exact p
  | ex e h => exact absurd rfl (hr e h)
theorem sp_of {n : Nat} {gf : List D → Hea → R D} {g : Gd} {heap : Hea} {as : List D} {vs : List V} {σ : L2.St} {Q : VK} (hh : HR K g heap) (ra : RepVs K g as vs) (hn : as.length = n) (p : Post K W (RepV K) σ g (gf as heap).nox Q) : spD K n gf (vs ++ []) g.H Q E0 := by
  rw [List.append_nil]
  exact ⟨g, heap, as, rfl, hh, ra, hn, p.nox0⟩
theorem de_call {k : Nat} {f : Addr} {fd : FuncData} {ps : List Str} {gf : List D → Hea → R D} {x : Str} {p pos : Pos} {e : Expr} {es : List Expr} {fa : En → Hea → R (List D)} (F : FnD X.wd X.mg X.base k f fd ps gf) (hr : Room k X.A) (hg : Gl X x) (hm : X.mg x = some (.ref f)) (hk : PySem.W.keepIn X.K (.ref f) = true) (hb : Binds X.K fd ps [])
    (ha : DA X W (e :: es) fa) (hl : (e :: es).length = ps.length) (hlen : ∀ e h as h', fa e h = .ok as h' → as.length = ps.length) (hdb : (x == ("__debug__" : Str)) = false := by decide) (he : starEach (e :: es) X.env = (false, eval e X.env) :: starEach es X.env := by rfl) (hpl : (backTo pos (starEach es X.env)).any (·.1) = false := by rfl) :
    DE X W (.Call (.Name x p) (e :: es) [] pos) (fCall gf fa) :=
  pe_imp (pe_call F hr hg hm hk hb .nil pass0 ha hdb he hpl) fun σ H Q ⟨g, env, heap, e1, hh, er, pp⟩ => by
    refine ⟨g, env, heap, e1, hh, er, ?_⟩
    cases q : fa env heap with
    | no => unfold fCall at pp; rw [q] at pp; exact pp.elim
    | ex a b => unfold fCall at pp; rw [q] at pp; exact pp
    | ok as h1 =>
      unfold fCall at pp; rw [q] at pp
      intro g1 vs hh1 x1 ra
      exact sp_of hh1 ra (hlen _ _ _ _ q) (Post.rebase (r := (gf as h1).nox) pp x1)
def fMeth (C : Addr) (m : Str) (gf : List D → Hea → R D) (fo : En → Hea → R D) (fa : En → Hea → R (List D)) : En → Hea → R D := fun e h => (fo e h).bind fun o h1 => match o with
  | .ref n => match h1[n]? with
    | some (.ins C' fs) => if C' = C ∧ fs.lookup m = none then (fa e h1).bind fun as h2 => (gf (.ref n :: as) h2).nox else .no
    | _ => .no
  | _ => .no
theorem lookup_none {f : Str} : ∀ {fs : List (Str × D)} {fs' : List (Str × V)}, fs'.map (·.1) = fs.map (·.1) → fs.lookup f = none → fs'.lookup f = none
  | [], [], _, _ => rfl
  | [], _ :: _, h, _ => by simp at h
  | _ :: _, [], h, _ => by simp at h
  | (k, a) :: r, (k', v) :: r', h, e => by
    simp only [List.map_cons, List.cons.injEq] at h
    obtain ⟨rfl, h⟩ := h
    simp only [List.lookup] at e ⊢
    cases q : f == k' with
    | true => rw [q] at e; cases e
    | false => rw [q] at e; exact lookup_none h e
theorem meth_go {C : Addr} {m : Str} {gf : List D → Hea → R D} {fo : En → Hea → R D} {fa : En → Hea → R (List D)} {n : Nat} {σ : L2.St} {H : Hp} {Q : VK} {es : List Expr} (hlen : ∀ e h as h', fa e h = .ok as h' → as.length + 1 = n)
    (pp : rd K W (RepV K) (fMeth C m gf fo fa) σ H Q) : tMeth C m (spD K n gf) [] E0 (rd K W (RepV K) fo) (rd K W (RepVs K) fa) σ H Q := by
  obtain ⟨g, env, heap, e1, hh, er, p⟩ := pp
  refine ⟨g, env, heap, e1, hh, er, (Post.bind (A := RepV K) p).imp fun x H1 ⟨g1, h1, o, e2, hh1, x1, ro, p1⟩ => ?_⟩
  subst e2
  split at p1
  · rename_i n'
    split at p1
    · split at p1
      · rename_i C' fs hc hC
        obtain ⟨rfl, hl⟩ := hC
        simp only [RepV] at ro
        obtain ⟨dx, fs', eH, ek, rf⟩ := hh1.cell _ _ hc
        refine ⟨g1.ρ n', dx, fs', ro.2, eH, lookup_none ek hl, g1, env, h1, rfl, hh1, er.ext x1, ?_⟩
        cases q : fa env h1 with
        | no => rw [q] at p1; exact p1.elim
        | ex a b => rw [q] at p1; exact p1
        | ok as h2 =>
          rw [q] at p1
          intro g2 vs hh2 x2 ra
          have ro2 : RepV K g2 (.ref n') x := RepV.ext x2 (by simp only [RepV]; exact ro)
          exact sp_of hh2 (.cons ro2 ra) (hlen _ _ _ _ q) (Post.rebase (r := (gf (.ref n' :: as) h2).nox) p1 x2)
      · exact p1.elim
    · exact p1.elim
  · exact p1.elim
theorem de_meth {k : Nat} {C f : Addr} {fd : FuncData} {ps : List Str} {gf : List D → Hea → R D} {m : Str} {apos pos : Pos} {o e : Expr} {es : List Expr} {fo : En → Hea → R D} {fa : En → Hea → R (List D)} {pl : Sem Bool} (ho : DE X W o fo) (c : Cls X.K C) (hm : Meth X.K C m f) (F : FnD X.wd X.mg X.base k f fd ps gf) (hr : Room k X.A) (hb : Binds X.K fd ps [])
    (ha : DA X W (e :: es) fa) (hlen : ∀ e h as h', fa e h = .ok as h' → as.length + 1 = ps.length)
    (hst : starEach (e :: es) X.env = (false, eval e X.env) :: starEach es X.env := by rfl) (hpl : (backTo pos (starEach es X.env)).any (·.1) = false := by rfl)
    (ht : eval (.Call (.Attribute o m apos) (e :: es) [] pos) X.env = (do
      let ov ← eval o X.env
      standAt apos.atName
      let (f, first) ← holding [ov] (getMethod ov m pl)
      callWith pos f first (backTo pos (starEach (e :: es) X.env)) (backToKw pos (keywordEach [] X.env))) := by rfl) :
    DE X W (.Call (.Attribute o m apos) (e :: es) [] pos) (fMeth C m gf fo fa) :=
  pe_imp (pe_meth ho c hm F hr hb .nil pass0 ha hst hpl ht) fun σ H Q pp => meth_go (es := es) hlen pp
theorem de_meth0 {k : Nat} {C f : Addr} {fd : FuncData} {ps : List Str} {gf : List D → Hea → R D} {m : Str} {apos pos : Pos} {o : Expr} {fo : En → Hea → R D} {pl : Sem Bool} (ho : DE X W o fo) (c : Cls X.K C) (hm : Meth X.K C m f) (F : FnD X.wd X.mg X.base k f fd ps gf) (hr : Room k X.A) (hb : Binds X.K fd ps []) (hn : ps.length = 1)
    (ht : eval (.Call (.Attribute o m apos) [] [] pos) X.env = (do
      let ov ← eval o X.env
      standAt apos.atName
      let (f, first) ← holding [ov] (getMethod ov m pl)
      callWith pos f first (backTo pos (starEach [] X.env)) (backToKw pos (keywordEach [] X.env))) := by rfl) :
    DE X W (.Call (.Attribute o m apos) [] [] pos) (fMeth C m gf fo aNil) :=
  pe_imp (pe_meth0 ho c hm F hr hb .nil pass0 ht) fun σ H Q pp => by
    obtain ⟨g, env, heap, e1, hh, er, p⟩ := meth_go (es := []) (n := ps.length) (fun e h as h' q => by cases q; simp [hn]) pp
    refine ⟨g, env, heap, e1, hh, er, p.imp fun x H1 ⟨a, dx, fs, b, c, d, e⟩ => ⟨a, dx, fs, b, c, d, ?_⟩⟩
    obtain ⟨g, env, heap, e1, hh, er, p⟩ := e
    subst e1
    exact p g [] hh (.refl _) .nil
/-! ### a new instance -/
def fMake (C : Addr) (gf : List D → Hea → R D) (fa : En → Hea → R (List D)) : En → Hea → R D := fun e h => (fa e h).bind fun as h1 => (gf (.ref h1.length :: as) (h1 ++ [.ins C []])).nox.bind fun d h2 => match d with
  | .non => .ok (.ref h1.length) h2
  | _ => .no
theorem de_make {k : Nat} {C f : Addr} {fd : FuncData} {ps : List Str} {gf : List D → Hea → R D} {x : Str} {p pos : Pos} {e : Expr} {es : List Expr} {fa : En → Hea → R (List D)} (M : Mk X.K C f) (F : FnD X.wd X.mg X.base k f fd ps gf) (hr : Room (k + 1) X.A) (hg : Gl X x) (hm : X.mg x = some (.ref C)) (hb : Binds X.K fd ps [])
    (ha : DA X W (e :: es) fa) (hlen : ∀ e h as h', fa e h = .ok as h' → as.length + 1 = ps.length) (hdb : (x == ("__debug__" : Str)) = false := by decide) (he : starEach (e :: es) X.env = (false, eval e X.env) :: starEach es X.env := by rfl) (hpl : (backTo pos (starEach es X.env)).any (·.1) = false := by rfl) :
    DE X W (.Call (.Name x p) (e :: es) [] pos) (fMake C gf fa) :=
  pe_imp (pe_make M F hr hg hm hb .nil pass0 ha hdb he hpl) fun σ H Q ⟨g, env, heap, e1, hh, er, pp⟩ => by
    refine ⟨g, env, heap, e1, hh, er, ?_⟩
    unfold fMake at pp
    cases q : fa env heap with
    | no => rw [q] at pp; exact pp.elim
    | ex a b => rw [q] at pp; exact pp
    | ok as h1 =>
      rw [q] at pp
      intro g1 vs hh1 x1 ra x dx hx hdx hne
      have pp1 := Post.rebase (r := (gf (.ref h1.length :: as) (h1 ++ [.ins C []])).nox.bind _) pp x1
      have hh2 := hh1.put (o := .own x) hdx
      have y2 := hh1.ext_put (o := .own x) hdx
      have hx2 : (g1.put dx (.own x)).H x = none := by show upd g1.H dx (.own x) x = none; rw [upd_ne (Ne.symm hne)]; exact hx
      have y3 := hh2.ext_add (o := .ins C dx []) hx2
      have hh3 := hh2.add (o := .ins C dx []) (c := .ins C []) hx2 ⟨dx, [], upd_same, rfl, .nil⟩
      have ro : RepV X.wd ((g1.put dx (.own x)).add x (.ins C dx [])) (.ref h1.length) (.ref x) := by
        simp only [RepV]
        rw [← hh1.len]
        refine ⟨Nat.lt_succ_self _, ?_⟩
        show V.ref x = V.ref (if g1.N = g1.N then x else _)
        simp
      have ra3 := (ra.ext y2).ext y3
      refine ⟨(g1.put dx (.own x)).add x (.ins C dx []), _, .ref h1.length :: as, rfl, hh3, ?_, by simpa using hlen _ _ _ _ q, ?_⟩
      · rw [List.append_nil]; exact .cons ro ra3
      · refine Post.nox0 (W := W) (σ := σ) (Post.imp (Post.bind (A := RepV X.wd) (Post.rebase (r := (gf (.ref h1.length :: as) (h1 ++ [.ins C []])).nox.bind _) pp1 (y2.trans y3))) fun v H4 ⟨g4, h4, d, e4, hh4, x4, rd4, p4⟩ => ?_)
        subst e4
        cases d with
        | non => exact ⟨by simpa [RepV] using rd4, p4 g4 _ hh4 (.refl _) (ro.ext x4)⟩
        | _ => exact p4.elim
/-! ### a def's body -/
def defF (n : Nat) (fb : FS) : List D → Hea → R D := fun ds h => match fb (ds.map some ++ List.replicate (n - ds.length) none) h with
  | .rt d h' => .ok d h'
  | .nx _ h' => .ok .non h'
  | _ => .no
theorem er_start {g : Gd} {ds : List D} {vs : List V} {N : List Str} (r : RepVs K g ds vs) : ER K g (ds.map some ++ List.replicate (N.length - ds.length) none) (L2.start N vs) := by
  unfold L2.start
  refine ⟨by simp [r.len], fun i d e => ?_⟩
  by_cases hi : i < ds.length
  · rw [List.getElem?_append_left (by simpa using hi), List.getElem?_map] at e
    have hiv : i < vs.length := by rw [← r.len]; exact hi
    obtain ⟨d', e1, e2⟩ := Option.map_eq_some_iff.mp e
    cases e2
    obtain ⟨v, ev, rv⟩ := r.get e1
    exact ⟨v, by rw [List.getElem?_append_left (by simpa using hiv), List.getElem?_map, ev]; rfl, rv⟩
  · rw [List.getElem?_append_right (by simpa using hi)] at e
    have := List.mem_of_getElem? e
    simp at this
theorem fnD_ok {E : Wd} {mg : Str → Option Value} {base : Heap} {x qual : Str} {params : Arguments} {body : List Stmt} {scope : Scope} {f : Addr} {fd : FuncData} {N ps : List Str} {k : Nat} {fb : FS} (F : FunD E.K x qual params body scope [] [] f fd) (S : FnScope N ps scope)
    (hb : ∀ (cdv : Value) (A : Around) (outer : List Env) (s : Shared) (H : Hp) (Ex : XK), Room k (A.deeper (envOfC qual scope s.heap.objs.size f cdv)) → DSs (cxOf CX0 E.P E.w E.K mg base N qual scope f cdv A outer s H Ex).nox WF body fb) :
    FnD E mg base (k + 1) f fd ps (defF N.length fb) := by
  refine F.ok S (fun vs H Q Ex ⟨g, heap, ds, e, hh, r, hn, p⟩ => by rw [← r.len]; exact hn) fun cdv A outer s H vs Q Ex hr ⟨g, heap, ds, e, hh, r, hn, p⟩ => ⟨_, (hb cdv A outer s H Ex hr).nox, g, _, heap, e, hh, er_start r, ?_⟩
  unfold defF at p
  cases q : fb (ds.map some ++ List.replicate (N.length - ds.length) none) heap with
  | no => rw [q] at p; exact p.elim
  | nx e' h' => rw [q] at p; exact fun g' σ' a b _ => p g' .non a b (by simp [RepV])
  | rt d h' => rw [q] at p; exact fun g' v a b c => p g' v a b c
  | bk _ _ => rw [q] at p; exact p.elim
  | ct _ _ => rw [q] at p; exact p.elim
  | ex _ _ _ => rw [q] at p; exact p.elim
/-! ### a promise that is told otherwise -/
mutual
def cl (n : Nat) : D → Prop
  | .ref m => m < n
  | .tup xs => cls n xs
  | .lst xs => cls n xs
  | .fro xs => cls n xs
  | .pr xs => cls n xs
  | .dic _ _ vs => cls n vs
  | _ => True
def cls (n : Nat) : List D → Prop
  | [] => True
  | d :: ds => cl n d ∧ cls n ds
end
def clC (n : Nat) : Cell → Prop
  | .lst xs => cls n xs
  | .dic _ kvs => cls n (kvs.map (·.2))
  | .ins _ fs => cls n (fs.map (·.2))
def clH (n : Nat) (h : Hea) : Prop := ∀ (i : Nat) c, h[i]? = some c → clC n c
mutual
theorem RepV.cl {g : Gd} : ∀ {d : D} {v : V}, RepV K g d v → DD.cl g.N d
  | .non, _, _ => trivial
  | .bl _, _, _ => trivial
  | .int _, _, _ => trivial
  | .str _, _, _ => trivial
  | .cst _, _, _ => trivial
  | .ref n, v, h => by simp only [RepV] at h; exact h.1
  | .tup ds, v, h => by simp only [RepV] at h; obtain ⟨a, xs, _, _, t⟩ := h; exact RepVs.cls t
  | .pr ds, v, h => by simp only [RepV] at h; obtain ⟨a, xs, _, _, t⟩ := h; exact RepVs.cls t
  | .lst ds, v, h => by simp only [RepV] at h; obtain ⟨a, xs, _, _, _, t⟩ := h; exact RepVs.cls t
  | .fro ds, v, h => by simp only [RepV] at h; obtain ⟨a, xs, _, _, t⟩ := h; exact RepVs.cls t
  | .dic _ _ vs, v, h => by simp only [RepV] at h; obtain ⟨a, xs, _, _, _, t⟩ := h; exact RepVs.cls t
theorem RepVs.cls {g : Gd} : ∀ {ds : List D} {xs : List V}, RepVs K g ds xs → DD.cls g.N ds
  | [], _, _ => trivial
  | d :: ds, xs, h => by
    obtain ⟨x, r, rfl, q, t⟩ := RepVs_cons.mp h
    exact ⟨RepV.cl q, RepVs.cls t⟩
end
theorem HR.clH {g : Gd} {heap : Hea} (hh : HR K g heap) : DD.clH heap.length heap := fun i c e => by
  rw [← hh.len]
  have q := hh.cell i c e
  cases c with
  | lst xs => obtain ⟨us, _, t⟩ := q; exact t.cls
  | dic t kvs => obtain ⟨us, _, t⟩ := q; exact t.cls
  | ins C fs => obtain ⟨dx, fs', _, _, t⟩ := q; exact t.cls
/-- the same at fewer cells -/
abbrev Gd.cut (g : Gd) (n : Nat) : Gd := { g with N := n }
mutual
theorem RepV.cut {g : Gd} {n : Nat} (hn : n ≤ g.N) : ∀ {d : D} {v : V}, DD.cl n d → RepV K g d v → RepV K (g.cut n) d v
  | .non, v, _, h => by simpa [RepV] using h
  | .bl b, v, _, h => by simpa [RepV] using h
  | .int i, v, _, h => by simpa [RepV] using h
  | .str x, v, _, h => by simpa [RepV] using h
  | .cst u, v, _, h => by simpa [RepV] using h
  | .ref m, v, c, h => by
    simp only [RepV] at h ⊢
    exact ⟨c, h.2⟩
  | .tup ds, v, c, h => by
    simp only [RepV] at h ⊢
    obtain ⟨a, xs, e, q, t⟩ := h
    exact ⟨a, xs, e, q, RepVs.cut hn c t⟩
  | .pr ds, v, c, h => by
    simp only [RepV] at h ⊢
    obtain ⟨a, xs, e, q, t⟩ := h
    exact ⟨a, xs, e, q, RepVs.cut hn c t⟩
  | .lst ds, v, c, h => by
    simp only [RepV] at h ⊢
    obtain ⟨a, xs, e, q, m, t⟩ := h
    exact ⟨a, xs, e, q, ⟨fun ⟨i, hi, z⟩ => m.1 ⟨i, Nat.lt_of_lt_of_le hi hn, z⟩, m.2⟩, RepVs.cut hn c t⟩
  | .fro ds, v, c, h => by
    simp only [RepV] at h ⊢
    obtain ⟨a, xs, e, q, t⟩ := h
    exact ⟨a, xs, e, q, RepVs.cut hn c t⟩
  | .dic b ks vs, v, c, h => by
    simp only [RepV] at h ⊢
    obtain ⟨a, us, e, q, m, t⟩ := h
    exact ⟨a, us, e, q, ⟨fun ⟨i, hi, z⟩ => m.1 ⟨i, Nat.lt_of_lt_of_le hi hn, z⟩, m.2⟩, RepVs.cut hn c t⟩
theorem RepVs.cut {g : Gd} {n : Nat} (hn : n ≤ g.N) : ∀ {ds : List D} {xs : List V}, DD.cls n ds → RepVs K g ds xs → RepVs K (g.cut n) ds xs
  | [], xs, _, h => by simpa using h
  | d :: ds, xs, c, h => by
    obtain ⟨x, r, rfl, q, t⟩ := RepVs_cons.mp h
    exact .cons (RepV.cut hn c.1 q) (RepVs.cut hn c.2 t)
end
theorem HR.cut {g : Gd} {heap : Hea} {n : Nat} (hh : HR K g heap) (hn : n ≤ heap.length) (hc : DD.clH n (heap.take n)) : HR K (g.cut n) (heap.take n) := by
  have hn' : n ≤ g.N := by rw [hh.len]; exact hn
  refine ⟨by simp; omega, fun i c e => ?_, fun a b ha hb q => hh.inj a b (Nat.lt_of_lt_of_le ha hn') (Nat.lt_of_lt_of_le hb hn') q, fun i hi => hh.dis i (Nat.lt_of_lt_of_le hi hn'), hh.zt⟩
  have cc := hc i c e
  rw [List.getElem?_take] at e
  split at e
  · have q := hh.cell i c e
    cases c with
    | lst xs => obtain ⟨us, a, t⟩ := q; exact ⟨us, a, t.cut hn' cc⟩
    | dic b kvs => obtain ⟨us, a, t⟩ := q; exact ⟨us, a, t.cut hn' cc⟩
    | ins C fs => obtain ⟨dx, fs', a, b, t⟩ := q; exact ⟨dx, fs', a, b, t.cut hn' cc⟩
  · cases e
theorem Ext.cut {g0 g : Gd} {n : Nat} (x : Ext g0 g) (h0 : g0.N ≤ n) (hn : n ≤ g.N) : Ext g0 (g.cut n) :=
  ⟨⟨h0, x.z, x.y, x.w, fun m hm => x.r m hm, fun a u e i z => ⟨(x.k a u e i z).1, fun ⟨j, hj, q⟩ => (x.k a u e i z).2 ⟨j, Nat.lt_of_lt_of_le hj hn, q⟩⟩, x.s⟩, x.q⟩
/-- from what is computed to what is told: the cells behind n are forgotten -/
inductive Told (n : Nat) : R D → R D → Prop where
  | no {r : R D} : Told n r .no
  | same {r : R D} : Told n r r
  | cut {d : D} {h : Hea} {m : Nat} : n ≤ m → m ≤ h.length → cl m d → clH m (h.take m) → Told n (.ok d h) (.ok d (h.take m))
theorem Told.post {n : Nat} {r r' : R D} {g : Gd} {W : WX} {σ : L2.St} {Q : VK} (t : Told n r r') (hn : g.N = n) (p : Post K W (RepV K) σ g r' Q) : Post K W (RepV K) σ g r Q := by
  cases t with
  | no => exact p.elim
  | same => exact p
  | @cut d hp m h1 h2 h3 h4 =>
    intro g' v hh x rv
    exact p (g'.cut m) v (hh.cut h2 h4) (x.cut (by omega) (by rw [hh.len]; exact h2)) (rv.cut (by rw [hh.len]; exact h2) h3)
theorem FnD.told {E : Wd} {mg : Str → Option Value} {base : Heap} {k : Nat} {f : Addr} {fd : FuncData} {ps : List Str} {gf gf' : List D → Hea → R D} (F : FnD E mg base k f fd ps gf) (h : ∀ ds heap, clH heap.length heap → cls heap.length ds → Told heap.length (gf ds heap) (gf' ds heap)) : FnD E mg base k f fd ps gf' :=
  FnOk.imp F fun vs H Q Ex ⟨g, heap, ds, e, hh, r, hn, p⟩ => ⟨g, heap, ds, e, hh, r, hn, (h ds heap hh.clH (by rw [← hh.len]; exact r.cls)).post hh.len p⟩
end
end DD

set_option Elab.async false
set_option linter.all false
set_option maxRecDepth 100000
set_option maxHeartbeats 1000000
namespace DD
open PySem PySem.Spec PyProof.Rows L2
/-! ### enumerate of a tuple -/
def ItU (F : PySem.W.Frag) (a : Addr) : It :=
  ⟨fun i H => ∃ (xs : List V) (x : V), SqT F H a xs ∧ xs[i]? = some x, fun i H v H' => ∃ T x, v = .ref T ∧ H T = none ∧ H' = upd H T (.tup [.int (i : Nat), x]) ∧ ∀ xs, SqT F H a xs → xs[i]? = some x, fun i H => ∃ xs : List V, SqT F H a xs ∧ xs.length ≤ i⟩
theorem turn_enumU {P : Program} {w : World} {F : PySem.W.Frag} {elts : List Expr} {kk : Nat} {tpos : Pos} (a e it : Addr) :
    Turn P w F (.Tuple elts kk tpos) (ItU F a) [e, it] e (fun i h => (∃ old, IsEnum h e it (0 + ((i : Nat) : Int)) old) ∧ h.IsTupleIter it a i ∧ e ≠ it ∧ e ≠ a ∧ a ≠ it) where
  mem := List.mem_cons_self
  obj := fun i h st b hb => by
    obtain ⟨⟨old, he⟩, ⟨o, ho, hc, hd⟩, _⟩ := st
    rcases List.mem_cons.mp hb with z | z
    · subst z; exact ⟨_, he, fun v q => nomatch q⟩
    · rw [List.mem_singleton.mp z]; exact ⟨o, ho, fun v q => by rw [hd] at q; cases q⟩
  keep := fun i h h' st k => by
    obtain ⟨⟨old, he⟩, ⟨o, ho, hc, hd⟩, hne⟩ := st
    exact ⟨⟨old, k e List.mem_cons_self _ he⟩, ⟨o, k it (by simp) _ ho, hc, hd⟩, hne⟩
  item := by
    intro X hP hw hK hc i pins s σ H E I hf st hg
    subst hP hw hK
    obtain ⟨he, hit, hne, hea, hai⟩ := st
    obtain ⟨xs, x, hq, hx⟩ := hg
    obtain ⟨its, rv, ht, hz⟩ := I.tuple hq
    obtain ⟨u, hu, ru⟩ := rv.get hx
    have hi : i < its.toArray.size := by
      have := (List.getElem?_eq_some_iff.mp hu).1
      simpa using this
    have G := GoesN.enumFrom (elts := elts) (x1 := kk) (pos := tpos) 0 (Draws.tuple (prog := X.prog) (w := X.w) (A := X.A.in1) (I.ok.hd hc) it a hai its.toArray) e hne (by simp [hne, hea]) (by simp)
    refine G.goes i s _ E hi ⟨he, hit, ht⟩ fun v h' tk hY st' hk _ => ?_
    obtain ⟨T, t, y, rfl, hT, hy, hTu⟩ := hY
    have ey : y = u := by
      have hu' : its.toArray[i]? = some u := by simpa using hu
      rw [hu'] at hy; exact (Option.some.inj hy).symm
    subst ey
    have el : (0 : Int) + (i : Nat) = ((i : Nat) : Int) := by omega
    rw [el] at hTu
    have new : ObjOk X.prog X.w (upd H T (.tup [.int (i : Nat), x])) h' T (.tup [.int (i : Nat), x]) := ⟨by show 2 ≤ sizeLine; decide, [.int i t, y], .cons ⟨_, rfl⟩ (.cons ru .nil), hTu⟩
    have I1 : Inv X pins σ (upd H T (.tup [.int (i : Nat), x])) { s with heap := h', toks := tk } := I.turnedNew (ch := [e, it]) hk hf hT new
    have hn := I.hok.fresh hT
    refine ⟨.ref T, _, I1, rfl, ⟨T, x, rfl, hn, rfl, fun ys hy => by rw [I.tuple_inj hy hq]; exact hx⟩, ⟨st'.1, st'.2.1, hne, hea, hai⟩, fun b hb => ?_⟩
    have hl : b < s.heap.objs.size := by
      obtain ⟨_, he⟩ := he
      obtain ⟨o, ho, _⟩ := hit
      rcases List.mem_cons.mp hb with z | z
      · rw [z]; exact Heap.lt_size he
      · rw [List.mem_singleton.mp z]; exact Heap.lt_size ho
    rw [upd_ne (Nat.ne_of_lt (Nat.lt_of_lt_of_le hl hT))]
    exact (hf b hb).1
  done := by
    intro X hP hw hK hc i pins s σ H E I hf st hg
    subst hP hw hK
    obtain ⟨he, hit, hne, hea, hai⟩ := st
    obtain ⟨xs, hq, hx⟩ := hg
    obtain ⟨its, rv, ht, hz⟩ := I.tuple hq
    have hh := I.ok.hd hc
    have Dr := Draws.tuple (prog := X.prog) (w := X.w) (A := X.A.in1) hh it a hai its.toArray
    obtain ⟨old, he⟩ := he
    -- at any turn behind the end
    have Dr2 : Draws X.prog X.w X.A.in1 it [it, a] i (fun _ _ => False) (fun j h => j = i ∧ h.IsTupleIter it a i ∧ h.IsTuple a its.toArray) :=
      ⟨fun _ _ st => let ⟨o, ho, _⟩ := st.2.1; ⟨o, ho⟩, fun _ _ _ st hk => ⟨st.1, st.2.1.at fun o e => hk it (by simp) o e, st.2.2.at fun o e => hk a (by simp) o e⟩,
        fun j s Q E hj st => absurd st.1 (Nat.ne_of_lt hj), fun s Q E st hE => wpAny_nextOf_tuple_end hh st.2.1 st.2.2 (by
          have hl := rv.length
          rw [List.getElem?_toArray, List.getElem?_eq_none (by omega)]) hE⟩
    exact wpAny_pyNext_enum_endD Dr2 he ⟨rfl, hit, ht⟩ fun h' eb => ⟨rfl, I.turnedL (ch := [e, it]) (fun b o hb q => eb b o (fun z => hb (by simp [z])) q) hf⟩
  self := fun A i s Q E st h => by
    obtain ⟨⟨_, he⟩, _⟩ := st
    exact wpAny_pyIter_enum he h
set_option maxHeartbeats 2000000 in
theorem meets_enum1 {v : Value} {o : Obj} {C : Heap → Prop} (B : Begins v o C) :
    Meets (Builtin.«enumerate.__new__» ⟨[.type "enumerate", v], []⟩) (fun _ R s => C s.heap ∧ R (.ok (.ret (.ref (s.heap.push o).objs.size)))
      { s with heap := (s.heap.push o).push { cls := .type "enumerate", data := .fields #[.none, .bool false, .ref s.heap.objs.size, rawInt 0, .none, .none] } }) :=
  .of_wp fun prog w A R s h => by
    obtain ⟨hp, gs, dr, tk, os⟩ := s
    obtain ⟨hC, h⟩ := h
    have hsub := sub_enumerate
    have it1 : ∀ {A' : Around} {E : Value → Shared → Prop} {Q : Value → Shared → Prop}, Q (.ref hp.objs.size) ⟨hp.push o, gs, dr, tk, os⟩ → wpAny (model prog w) A' (pyIter v) Q E ⟨hp, gs, dr, tk, os⟩ :=
      fun q => B.iter prog w _ _ ⟨hp, gs, dr, tk, os⟩ _ hC q
    wp_walk using it1
    refine wpAny_stack_any fun _ => wpAny_pure ?_
    split
    · rename_i c _ _ _ _ _
      cases (c == Value.type "enumerate")
      · wp_walk using it1
        exact ⟨_, rfl, h⟩
      · wp_walk using it1
        exact ⟨_, rfl, h⟩
    · wp_walk using it1
      exact ⟨_, rfl, h⟩
theorem enum1_begins {prog : Program} {w : World} {A : Around} {E : Value → Shared → Prop} {s : Shared} {v : Value} {o : Obj} {C : Heap → Prop} {Q : Value → Shared → Prop} (B : Begins v o C) (hC : C s.heap)
    (h : ∀ h', IsEnum h' (s.heap.objs.size + 1) s.heap.objs.size 0 .none → h'.get? s.heap.objs.size = some o → (∀ b u, s.heap.get? b = some u → h'.get? b = some u) → Q (.ref (s.heap.objs.size + 1)) { s with heap := h' }) :
    wpAny (model prog w) A (call (.type "enumerate") [v]) Q E s := by
  refine callType_new F.called_enumerate (by decide) (F.typeCall_enumerate_1 _) (F.newCall_enumerate_1 _) (fun obj => F.args_object_init_2 obj _) F.entry_enumerate_new (meets_enum1 B) ⟨hC, ?_⟩
  have hz : (s.heap.push o).objs.size = s.heap.objs.size + 1 := Heap.size_push ..
  show _ ∧ _
  rw [hz]
  have he : IsEnum ((s.heap.push o).push { cls := .type "enumerate", data := .fields #[.none, .bool false, .ref s.heap.objs.size, rawInt 0, .none, .none] }) (s.heap.objs.size + 1) s.heap.objs.size 0 .none := by
    have q := Heap.get?_push_size (s.heap.push o) (o := { cls := .type "enumerate", data := .fields #[.none, .bool false, .ref s.heap.objs.size, rawInt 0, .none, .none] }) rfl
    rw [hz] at q
    exact q
  exact ⟨⟨_, he, rfl⟩, h _ he (Heap.get?_push_of_some _ (Heap.get?_push_size _ B.free)) fun b u x => Heap.get?_push_of_some _ (Heap.get?_push_of_some _ x)⟩
section
variable {X : Cx} {W : WX} {K : Wd}
def iEnumU (F : PySem.W.Frag) (ta : TA) : TI := fun σ H R => ta σ H fun vs H1 => ∃ a xs, vs = [.ref a] ∧ SqT F H1 a xs ∧ R (ItU F a) H1
theorem pi_enumU {e : Expr} {ta : TA} {p pos tpos : Pos} {elts : List Expr} {kk : Nat} (hg : Gl X "enumerate") (hm : X.mg "enumerate" = none) (ha : PA X [e] ta) (hs : starEach [e] X.env = [(false, eval e X.env)] := by rfl) :
    PI X (.Tuple elts kk tpos) (.Call (.Name "enumerate" p) [e] [] pos) (iEnumU X.K ta) := by
  refine ⟨fun pins s σ H R I h => Call_ (ld_blt I hg hm boot_enumerate (PyProof.Rows.callWith_type1 (thn (ha.run pos pins s σ H _ I h) fun us s1 ⟨vs, H1, I1, r1, q1⟩ => ?_) hs rfl))⟩
  obtain ⟨a, xs, ex, hq, q⟩ := q1
  subst ex
  cases r1 with
  | cons r rr =>
    cases rr
    cases r
    obtain ⟨its, rv, ht, hz⟩ := I1.tuple hq
    refine enum1_begins (begins_tuple a its.toArray) ht fun h' he hit hk => wpAny_pyIter_enum he ?_
    have hal : a < s1.heap.objs.size := by
      obtain ⟨o, ho, _⟩ := ht
      exact Heap.lt_size ho
    have I2 : Inv X pins σ H1 { s1 with heap := h' } := I1.kept (t' := s1.toks) hk
    refine ⟨s1.heap.objs.size + 1, [s1.heap.objs.size + 1, s1.heap.objs.size], _, _, H1, rfl, I2, turn_enumU a (s1.heap.objs.size + 1) s1.heap.objs.size,
      ⟨⟨.none, by simpa using he⟩, ⟨_, hit, rfl, rfl⟩, Nat.succ_ne_self _, Nat.ne_of_gt (Nat.lt_succ_of_lt hal), Nat.ne_of_lt hal⟩, fun b hb => ?_, q⟩
    have hle : s1.heap.objs.size ≤ b := by
      rcases List.mem_cons.mp hb with z | z
      · rw [z]; exact Nat.le_succ _
      · rw [List.mem_singleton.mp z]; exact Nat.le_refl _
    exact I1.fpOk hle (I1.hok.fresh hle)
theorem itr_enumU {g : Gd} {a : Addr} {us : List V} {xs : List D} {F : PySem.W.Frag} (hF : F = K.K) (sq : SqT F g.H a us) (t : RepVs K g xs us) : ItR K g (enumL xs) (ItU F a) := by
  subst hF
  intro g1 heap1 hh1 x1 i
  have s1 := x1.sqT sq
  have t1 := t.extw x1
  refine ⟨fun d e => ?_, fun hl => ⟨us, s1, by rw [← t.len]; simpa [enumL] using hl⟩⟩
  unfold enumL at e
  rw [List.getElem?_mapIdx] at e
  obtain ⟨z, ez, rfl⟩ := Option.map_eq_some_iff.mp e
  obtain ⟨v, ev, rv⟩ := t1.get ez
  refine ⟨⟨us, v, s1, ev⟩, fun x H' y => ?_⟩
  obtain ⟨T, w, rfl, hT, rfl, y⟩ := y
  have := y us s1
  rw [ev] at this; cases this
  refine ⟨g1.put T (.tup [.int (i : Nat), v]), rfl, hh1.put hT, hh1.ext_put hT, ?_⟩
  simp only [RepV]
  exact ⟨T, _, rfl, .of upd_same, .cons (by simp [RepV]) (.cons (rv.ext (hh1.ext_put hT)) .nil)⟩
/-- enumerate of a tuple -/
def iEnumT (fa : En → Hea → R (List D)) : En → Hea → R (List D) := fun e h => (fa e h).bind fun as h1 => match as with
  | [d] => R.of ((tupItems d).map enumL) h1
  | _ => .no
theorem di_enumT {e : Expr} {fa : En → Hea → R (List D)} {p pos tpos : Pos} {elts : List Expr} {kk : Nat} (hg : Gl X "enumerate") (hm : X.mg "enumerate" = none) (ha : DA X W [e] fa) (hs : starEach [e] X.env = [(false, eval e X.env)] := by rfl) :
    DI X W (.Tuple elts kk tpos) (.Call (.Name "enumerate" p) [e] [] pos) (iEnumT fa) :=
  pi_imp (pi_enumU hg hm ha hs) fun σ H Q ⟨g, env, heap, e1, hh, er, p⟩ => by
    refine ⟨g, env, heap, e1, hh, er, (Post.bind (A := RepVs X.wd) p).imp fun x H1 ⟨g1, h1, as, e2, hh1, x1, ra, p1⟩ => ?_⟩
    subst e2
    split at p1
    · obtain ⟨v, rfl, rv⟩ := ra.one
      obtain ⟨ys, ey, q⟩ := p1.of1
      obtain ⟨xs, ex, rfl⟩ := Option.map_eq_some_iff.mp ey
      obtain ⟨a, us, rfl, sq, t⟩ := tupItems_rep rv ex
      exact ⟨a, us, rfl, sq, q g1 _ hh1 (.refl _) (itr_enumU rfl sq t)⟩
    · exact p1.elim
/-! ### in -/
theorem pys_any : ∀ (xs : List D) (d : D), okE 60 d = true → xs.all (okE 59) = true → (pys xs).any (fun z => PyData.eqv z (py d)) = decide (d ∈ xs)
  | [], d, _, _ => by simp [pys]
  | x :: xs, d, h, hx => by
    simp only [List.all_cons, Bool.and_eq_true] at hx
    simp only [pys, List.any_cons, pys_any xs d h hx.2, py_eqv 59 x d 60 hx.1 h, List.mem_cons]
    by_cases e : x = d
    · simp [e]
    · simp [e, Ne.symm e]
theorem pys_dp {g : Gd} : ∀ (xs : List D) (vs : List V), xs.all (okE 59) = true → RepVs K g xs vs → DpAll K.K g.H vs (pys xs)
  | [], vs, _, r => by rw [RepVs_nil.mp r]; simp only [pys]; exact .nil
  | a :: as, vs, h, r => by
    simp only [List.all_cons, Bool.and_eq_true] at h
    obtain ⟨x, rest, rfl, q, t⟩ := RepVs_cons.mp r
    simp only [pys]
    exact .cons (py_dp 59 a x h.1 q) (pys_dp as rest h.2 t)
theorem pys_lay (xs : List D) (h : xs.all (okE 59) = true) : PyData.canLayAll0 (pys xs) = true ∧ SeqAt.shaped (.list (pys xs)) = true := by
  have h1 : okE 60 (.lst xs) = true := by simpa [okE] using h
  obtain ⟨a, b⟩ := py_ok 60 _ h1
  simp only [py, PyData.canLay0] at a
  exact ⟨a, shaped_ok h1⟩
def inD (a c : D) (h : Hea) : Option D := match seqOf h c with
  | some xs => if (okE 60 (view h a) && xs.all (okE 59)) = true then some (.bl (decide (view h a ∈ xs))) else none
  | none => none
def notInD (a c : D) (h : Hea) : Option D := match seqOf h c with
  | some xs => if (okE 60 (view h a) && xs.all (okE 59)) = true then some (.bl (!decide (view h a ∈ xs))) else none
  | none => none
theorem od_in (hu : X.A.units + 65 < cLine) : OpD X (compareOp .In) inD := by
  rintro pins s σ H x y v u Q I rx ry ⟨g, heap, a, b, d, rfl, hh, ra, rb, ed, q⟩
  unfold inD at ed
  split at ed
  · split at ed <;> cases ed
    rename_i xs es h
    simp only [Bool.and_eq_true] at h
    obtain ⟨p, us, rfl, sq, t⟩ := seqOf_rep hh rb es
    have dx := view_dp hh ra h.1
    have fin := fin1 hh q (v := .bl (decide (view heap a ∈ xs))) (by simp [RepV])
    obtain ⟨as, r1⟩ := Dp.reads I _ x v dx rx
    have da := pys_dp xs us h.2 t
    rcases sq with sq | sq
    · obtain ⟨bs, r2⟩ := Dp.reads I (.list (pys xs)) _ u (.lst sq da) ry
      exact SeqAt.in_list_reads r2 r1 (pys_lay xs h.2).1 (SeqAt.canLay_of_shaped (shaped_ok h.1)) (room_in_shaped (shaped_ok h.1) hu) ⟨.bl _, g.H, I, by rw [pys_any xs _ h.1 h.2]; rfl, fin⟩
    · obtain ⟨bs, r2⟩ := Dp.reads I (.tuple (pys xs)) _ u (.tup sq da) ry
      exact SeqAt.in_tuple_reads r2 r1 (pys_lay xs h.2).1 (SeqAt.canLay_of_shaped (shaped_ok h.1)) (room_in_shaped (shaped_ok h.1) hu) ⟨.bl _, g.H, I, by rw [pys_any xs _ h.1 h.2]; rfl, fin⟩
  · cases ed
theorem od_notin (hu : X.A.units + 65 < cLine) : OpD X (compareOp .NotIn) notInD := by
  rintro pins s σ H x y v u Q I rx ry ⟨g, heap, a, b, d, rfl, hh, ra, rb, ed, q⟩
  unfold notInD at ed
  split at ed
  · split at ed <;> cases ed
    rename_i xs es h
    simp only [Bool.and_eq_true] at h
    obtain ⟨p, us, rfl, sq, t⟩ := seqOf_rep hh rb es
    have dx := view_dp hh ra h.1
    have fin := fin1 hh q (v := .bl (!decide (view heap a ∈ xs))) (by simp [RepV])
    obtain ⟨as, r1⟩ := Dp.reads I _ x v dx rx
    have da := pys_dp xs us h.2 t
    rcases sq with sq | sq
    · obtain ⟨bs, r2⟩ := Dp.reads I (.list (pys xs)) _ u (.lst sq da) ry
      exact SeqAt.notIn_list_reads r2 r1 (pys_lay xs h.2).1 (SeqAt.canLay_of_shaped (shaped_ok h.1)) (room_in_shaped (shaped_ok h.1) hu) ⟨.bl _, g.H, I, by rw [pys_any xs _ h.1 h.2]; rfl, fin⟩
    · obtain ⟨bs, r2⟩ := Dp.reads I (.tuple (pys xs)) _ u (.tup sq da) ry
      exact SeqAt.notIn_tuple_reads r2 r1 (pys_lay xs h.2).1 (SeqAt.canLay_of_shaped (shaped_ok h.1)) (room_in_shaped (shaped_ok h.1) hu) ⟨.bl _, g.H, I, by rw [pys_any xs _ h.1 h.2]; rfl, fin⟩
  · cases ed
/-! ### tuple(x) -/
theorem cd_tuple : CallD X (.type "tuple") tupleN := by
  rintro pins s σ H xs us Q I rs ⟨g, heap, as, d, rfl, hh, ra, ed, q⟩
  unfold tupleN at ed
  split at ed
  · cases ed
    obtain ⟨x, rfl, rx⟩ := ra.one
    have rx' := rx
    simp only [RepV] at rx
    obtain ⟨a, ws, rfl, sa, t⟩ := rx
    exact call_tupleT pins s σ g.H _ us Q I rs ⟨a, ws, rfl, sa.sqT, fin1 hh q rx'⟩
  · obtain ⟨x, rfl, rx⟩ := ra.one
    obtain ⟨ys, ey, rfl⟩ := Option.map_eq_some_iff.mp ed
    obtain ⟨a, ws, rfl, sa, t⟩ := lookL_rep hh rx ey
    obtain ⟨u, rfl, ru⟩ := vals1 rs
    cases ru
    obtain ⟨its, r', pl, hz⟩ := I.list (SqL.of sa)
    refine call_tuple_list pl.isList (fun h' kp => ?_) (by have := r'.length; simp only [List.size_toArray]; omega)
    have I1 : Inv X pins σ g.H { s with heap := h' } := I.kept (t' := s.toks) kp
    obtain ⟨hn, I2⟩ := I1.newTup (t' := s.toks) r' hz
    obtain ⟨a1, a2, a3⟩ := hh.newTup t hn (o := tupOb its.toArray) rfl
    exact ⟨.ref h'.objs.size, _, I2, rfl, q _ _ a1 a2 a3⟩
  · cases ed
/-! ### methods of built-in types -/
def rMt (K : Wd) (gm : D → List D → Hea → Option (D × Hea)) : V → List V → Hp → VK → Prop := fun x xs H Q => ∃ g heap o as d heap', g.H = H ∧ HR K g heap ∧ RepV K g o x ∧ RepVs K g as xs ∧ gm o as heap = some (d, heap') ∧ ∀ g' v, HR K g' heap' → Ext g g' → RepV K g' d v → Q v g'.H
abbrev MtD (X : Cx) (id : String) (gm : D → List D → Hea → Option (D × Hea)) : Prop := MtR X id (rMt X.wd gm)
/-- a value's built-in type, with no dict of its own -/
def tyB (T : String) (o : D) (h : Hea) : Bool := match o with
  | .str _ => T == "str"
  | .tup _ => T == "tuple"
  | .lst _ => T == "list"
  | .ref n => match h[n]? with
    | some (.lst _) => T == "list"
    | some (.dic _ _) => T == "dict"
    | _ => false
  | _ => false
def fBm (T : String) (gm : D → List D → Hea → Option (D × Hea)) (fo : En → Hea → R D) (fa : En → Hea → R (List D)) : En → Hea → R D := fun e h => (fo e h).bind fun o h1 => if tyB T o h1 = true then (fa e h1).bind fun as h2 => match gm o as h2 with
  | some (d, h3) => .ok d h3
  | none => .no else .no
theorem tyB_is {pins : List (Addr × Obj)} {σ : L2.St} {s : Shared} {g : Gd} {heap : Hea} {T : String} {o : D} {x : V} {v : Value} (I : Inv X pins σ g.H s) (hh : HR X.wd g heap) (ro : RepV X.wd g o x) (r : RelV x v) (ty : tyB T o heap = true) :
    s.TypeIs v T ∧ ∀ a, v = .ref a → ∃ ob, s.heap.get? a = some ob ∧ ob.dict = none := by
  have lst : ∀ {a us}, g.H a = some (.lst us) → s.TypeIs (.ref a) "list" ∧ ∀ b, Value.ref a = .ref b → ∃ ob, s.heap.get? b = some ob ∧ ob.dict = none := fun {a us} e => by
    obtain ⟨its, _, pl, _⟩ := I.list (SqL.of e)
    refine ⟨pl.isList.typeIs, fun b z => ?_⟩
    cases z
    obtain ⟨ob, n, e, c, hd, _⟩ := pl
    exact ⟨ob, e, hd⟩
  unfold tyB at ty
  split at ty
  · cases eq_of_beq ty
    simp only [RepV] at ro; subst ro
    obtain ⟨t, rfl⟩ := r
    exact ⟨typeIs_str _ _ _, fun _ e => nomatch e⟩
  · cases eq_of_beq ty
    simp only [RepV] at ro
    obtain ⟨a, xs, rfl, ⟨ob, e, hn⟩, _⟩ := ro
    cases r
    obtain ⟨e1, _, its, _, ob', e2, hc, _⟩ := I.hok a _ e
    rw [e1] at e2; cases e2
    exact ⟨⟨ob, e1, hc⟩, fun b z => by cases z; exact ⟨ob, e1, hn⟩⟩
  · cases eq_of_beq ty
    simp only [RepV] at ro
    obtain ⟨a, xs, rfl, e, _⟩ := ro
    cases r
    exact lst e
  · rename_i n
    simp only [RepV] at ro
    obtain ⟨_, rfl⟩ := ro
    cases r
    split at ty
    · rename_i hc
      cases eq_of_beq ty
      obtain ⟨us, e, _⟩ := hh.cell _ _ hc
      exact lst e
    · rename_i t kvs hc
      cases eq_of_beq ty
      obtain ⟨us, e, _⟩ := hh.cell _ _ hc
      have z : ∃ o, s.heap.get? (g.ρ n) = some o ∧ o.ExactDict := by
        cases t with
        | false => obtain ⟨kv, e, _⟩ := e; obtain ⟨_, _, _, _, o, _, _, e, ex, _⟩ := I.hok _ _ e; exact ⟨o, e, ex⟩
        | true => obtain ⟨xs, e, _⟩ := e; obtain ⟨⟨_, _, o, _, _, e, ex, _⟩, _⟩ := I.hok _ _ e; exact ⟨o, e, ex⟩
      obtain ⟨o, e, ex⟩ := z
      exact ⟨⟨o, e, ex.1⟩, fun b z => by cases z; exact ⟨o, e, ex.2.1⟩⟩
    · cases ty
  · cases ty
theorem de_bm {T id : String} {name : Str} {gm : D → List D → Hea → Option (D × Hea)} {o e : Expr} {es : List Expr} {fo : En → Hea → R D} {fa : En → Hea → R (List D)} {apos cpos : Pos} (pa : PlainAttrs T) (slot : Slot T name id) (hty : typeOf (.builtin id) = pure (.type "method_descriptor")) (hm : MtD X id gm) (ho : DE X W o fo) (ha : DA X W (e :: es) fa)
    (hbase : attributeBase o name X.env (eval o X.env) = eval o X.env := by rfl)
    (hfew : ((backTo cpos (starEach (e :: es) X.env)).all (fun x => !x.1) && (backToKw cpos (keywordEach [] X.env)).all (fun x => x.1.isSome) && decide ((e :: es).length + ([] : List Keyword).length + (if ([] : List Keyword).isEmpty then 0 else 1) < 30)) = true := by rfl)
    (hline : (apos.endLine == cpos.line) = true := by rfl) (hs : starEach (e :: es) X.env = (false, eval e X.env) :: starEach es X.env := by rfl) (hplain : (backTo cpos (starEach es X.env)).any (·.1) = false := by rfl) :
    DE X W (.Call (.Attribute o name apos) (e :: es) [] cpos) (fBm T gm fo fa) := by
  refine ⟨fun pins s σ H Q I ⟨g, env, heap, e1, hh, er, p⟩ => wpAny_Call_method_late hbase hfew hline rfl (thn (ho.run pins s σ H _ I ⟨g, env, heap, e1, hh, er, Post.bind (A := RepV X.wd) p⟩) fun v s1 ⟨x, H1, I1, r1, g1, h1, od, e2, hh1, x1, ro, p1⟩ => ?_)⟩
  subst e2
  split at p1
  · rename_i ty
    obtain ⟨t1, t2⟩ := tyB_is I1 hh1 ro r1 ty
    refine ⟨T, id, pa, slot, hty, t1, t2, ?_⟩
    have hA := ha.run cpos pins s1 σ g1.H _ I1 ⟨g1, env, h1, rfl, hh1, er.ext x1, Post.bind (A := RepVs X.wd) p1⟩
    rw [hs] at hA ⊢
    refine Calls.callWith_builtin (by show (false || (backTo cpos (starEach es X.env)).any (·.1)) = false; rw [hplain]; rfl) (Calls.evalArgs_plain (thn hA fun us s2 ⟨vs, H2, I2, r2, g2, h2, as, e3, hh2, x2, ra, p2⟩ => ?_))
    subst e3
    cases q : gm od as h2 with
    | none => rw [q] at p2; exact p2.elim
    | some z =>
      obtain ⟨d, h3⟩ := z
      rw [q] at p2
      exact hm pins s2 σ g2.H x vs v us Q I2 r1 r2 ⟨g2, h2, od, as, d, h3, rfl, hh2, ro.ext x2, ra, q, p2⟩
  · exact p1.elim
theorem de_bm0 {T id : String} {name : Str} {gm : D → List D → Hea → Option (D × Hea)} {o : Expr} {fo : En → Hea → R D} {apos cpos : Pos} (pa : PlainAttrs T) (slot : Slot T name id) (hty : typeOf (.builtin id) = pure (.type "method_descriptor")) (hm : MtD X id gm) (ho : DE X W o fo)
    (hbase : attributeBase o name X.env (eval o X.env) = eval o X.env := by rfl) (hline : (apos.endLine == cpos.line) = true := by rfl) :
    DE X W (.Call (.Attribute o name apos) [] [] cpos) (fBm T gm fo aNil) := by
  refine ⟨fun pins s σ H Q I ⟨g, env, heap, e1, hh, er, p⟩ => wpAny_Call_method0_late hbase hline (thn (ho.run pins s σ H _ I ⟨g, env, heap, e1, hh, er, Post.bind (A := RepV X.wd) p⟩) fun v s1 ⟨x, H1, I1, r1, g1, h1, od, e2, hh1, x1, ro, p1⟩ => ?_)⟩
  subst e2
  split at p1
  · rename_i ty
    obtain ⟨t1, t2⟩ := tyB_is I1 hh1 ro r1 ty
    refine ⟨T, id, pa, slot, hty, t1, t2, Calls.callWith_builtin rfl (PySem.evalArgs_none ?_)⟩
    simp only [aNil, R.bind_ok] at p1
    cases q : gm od [] h1 with
    | none => rw [q] at p1; exact p1.elim
    | some z =>
      obtain ⟨d, h3⟩ := z
      rw [q] at p1
      exact hm pins s1 σ g1.H x [] v [] Q I1 r1 .nil ⟨g1, h1, od, [], d, h3, rfl, hh1, ro, .nil, q, p1⟩
  · exact p1.elim
/-- the list cell of a reference -/
def cellL (h : Hea) : D → Option (Nat × List D)
  | .ref n => match h[n]? with
    | some (.lst xs) => some (n, xs)
    | _ => none
  | _ => none
theorem cellL_rep {g : Gd} {heap : Hea} {o : D} {x : V} {n : Nat} {xs : List D} (hh : HR K g heap) (r : RepV K g o x) (e : cellL heap o = some (n, xs)) : n < g.N ∧ x = .ref (g.ρ n) ∧ ∃ us, g.H (g.ρ n) = some (.lst us) ∧ RepVs K g xs us := by
  unfold cellL at e
  split at e
  · split at e
    · cases e
      rename_i hc
      simp only [RepV] at r
      obtain ⟨us, eH, t⟩ := hh.cell _ _ hc
      exact ⟨r.1, r.2, us, eH, t⟩
    · cases e
  · cases e
theorem setL_go {g : Gd} {heap : Hea} {n : Nat} {ys : List D} {ws : List V} (hh : HR K g heap) (hn : n < g.N) (t : RepVs K g ys ws) : HR K (g.put (g.ρ n) (.lst ws)) (heap.set n (.lst ys)) ∧ Ext g (g.put (g.ρ n) (.lst ws)) :=
  ⟨hh.set hn ⟨ws, upd_same, t.ext (hh.ext_set hn)⟩, hh.ext_set hn⟩
def mAppend (o : D) (as : List D) (h : Hea) : Option (D × Hea) := match cellL h o, as with
  | some (n, xs), [y] => if xs.length < sizeLine then some (.non, h.set n (.lst (xs ++ [y]))) else none
  | _, _ => none
theorem md_append : MtD X "list.append" mAppend := by
  rintro pins s σ H x vs v us Q I rx rvs ⟨g, heap, o, as, d, heap', rfl, hh, ro, ra, ed, q⟩
  unfold mAppend at ed
  split at ed
  · split at ed <;> cases ed
    rename_i n xs y hc hl
    obtain ⟨hn, rfl, ws, eH, t⟩ := cellL_rep hh ro hc
    obtain ⟨w, rfl, rw'⟩ := ra.one
    obtain ⟨a1, a2⟩ := setL_go hh hn (t.append (.cons rw' .nil))
    exact mt_append pins s σ g.H _ _ v us Q I rx rvs ⟨_, ws, w, rfl, rfl, eH, by rw [← t.len]; exact hl, q _ _ a1 a2 (by simp [RepV])⟩
  · cases ed
def mExtend (o : D) (as : List D) (h : Hea) : Option (D × Hea) := match cellL h o, as with
  | some (n, xs), [y] => match lookL h y with
    | some ys => if xs.length + ys.length ≤ sizeLine then some (.non, h.set n (.lst (xs ++ ys))) else none
    | none => none
  | _, _ => none
theorem md_extend : MtD X "list.extend" mExtend := by
  rintro pins s σ H x vs v us Q I rx rvs ⟨g, heap, o, as, d, heap', rfl, hh, ro, ra, ed, q⟩
  unfold mExtend at ed
  split at ed
  · split at ed
    · split at ed <;> cases ed
      rename_i n xs y hc _ ys hy hl
      obtain ⟨hn, rfl, ws, eH, t⟩ := cellL_rep hh ro hc
      obtain ⟨w, rfl, rw'⟩ := ra.one
      obtain ⟨b, zs, rfl, eb, tb⟩ := lookL_rep hh rw' hy
      obtain ⟨a1, a2⟩ := setL_go hh hn (t.append tb)
      exact mt_extend pins s σ g.H _ _ v us Q I rx rvs ⟨_, b, ws, zs, rfl, rfl, eH, eb, by rw [← t.len, ← tb.len]; exact hl, q _ _ a1 a2 (by simp [RepV])⟩
    · cases ed
  · cases ed
def mPop (o : D) (as : List D) (h : Hea) : Option (D × Hea) := match cellL h o, as with
  | some (n, xs), [] => (xs[xs.length - 1]?).map fun y => (y, h.set n (.lst xs.dropLast))
  | _, _ => none
theorem md_pop : MtD X "list.pop" mPop := by
  rintro pins s σ H x vs v us Q I rx rvs ⟨g, heap, o, as, d, heap', rfl, hh, ro, ra, ed, q⟩
  unfold mPop at ed
  split at ed
  · rename_i n xs hc
    obtain ⟨y, ey, ez⟩ := Option.map_eq_some_iff.mp ed
    cases ez
    obtain ⟨hn, rfl, ws, eH, t⟩ := cellL_rep hh ro hc
    cases RepVs_nil.mp ra
    obtain ⟨w, ew, rw'⟩ := t.get ey
    have td : RepVs X.wd g xs.dropLast ws.dropLast := by
      rw [List.dropLast_eq_take, List.dropLast_eq_take, t.len]; exact t.take _
    obtain ⟨a1, a2⟩ := setL_go hh hn td
    exact mt_pop pins s σ g.H _ _ v us Q I rx rvs ⟨_, ws, w, rfl, rfl, eH, by rw [← t.len]; exact ew, q _ _ a1 a2 (rw'.ext a2)⟩
  · cases ed
/-- t.index(x) of texts -/
def mIndexT (o : D) (as : List D) (h : Hea) : Option (D × Hea) := match o, as with
  | .tup xs, [.str z] => match strsOf xs with
    | some ys => if z ∈ ys then some (.int (ys.idxOf z : Nat), h) else none
    | none => none
  | _, _ => none
theorem md_indexT : MtD X "tuple.index" mIndexT := by
  rintro pins s σ H x vs v us Q I rx rvs ⟨g, heap, o, as, d, heap', rfl, hh, ro, ra, ed, q⟩
  unfold mIndexT at ed
  split at ed
  · split at ed
    · split at ed <;> cases ed
      rename_i xs z _ ys es hz
      simp only [RepV] at ro
      obtain ⟨a, ws, rfl, sa, t⟩ := ro
      rw [strsOf_eq es] at t
      have := rep_strs t
      subst this
      obtain ⟨w, rfl, rw'⟩ := ra.one
      simp only [RepV] at rw'; subst rw'
      have hi : ys.idxOf z < ys.length := List.idxOf_lt_length_of_mem hz
      refine mt_tup_index pins s σ g.H _ _ v us Q I rx rvs ⟨a, ys, z, ys.idxOf z, rfl, rfl, sa.sqT, ?_, fun m hm e => ?_, fin1 hh q (by simp [RepV])⟩
      · rw [List.getElem?_eq_getElem hi, List.getElem_idxOf hi]
      · have := List.not_of_lt_findIdx (p := (· == z)) hm
        have hm' : m < ys.length := Nat.lt_trans hm hi
        rw [List.getElem?_eq_getElem hm'] at e
        cases e
        simp at this
    · cases ed
  · cases ed
end
end DD

set_option Elab.async false
set_option linter.all false
set_option maxRecDepth 100000
set_option maxHeartbeats 1000000
namespace DD
open PySem PySem.Spec PyProof.Rows L2
/-! ### keys -/
def keyD : D → Option Key
  | .int i => some (.inl i)
  | .str x => some (.inr x)
  | _ => none
def keysD : List D → Option (List Key)
  | [] => some []
  | d :: r => (keyD d).bind fun k => (keysD r).map (k :: ·)
def keyT : D → Option (List Key)
  | .tup xs => keysD xs
  | _ => none
theorem keyD_eq {d : D} {k : Key} (e : keyD d = some k) : d = kD k := by
  unfold keyD at e
  split at e <;> cases e <;> rfl
theorem keyD_kD (k : Key) : keyD (kD k) = some k := by cases k <;> rfl
theorem keysD_eq : ∀ {ds : List D} {ks : List Key}, keysD ds = some ks → ds = ks.map kD
  | [], ks, e => by cases e; rfl
  | d :: r, ks, e => by
    obtain ⟨k, e1, e2⟩ := Option.bind_eq_some_iff.mp e
    obtain ⟨l, e3, rfl⟩ := Option.map_eq_some_iff.mp e2
    rw [keyD_eq e1, keysD_eq e3]; rfl
theorem keysD_map : ∀ ks : List Key, keysD (ks.map kD) = some ks
  | [] => rfl
  | k :: ks => by simp [keysD, keyD_kD, keysD_map ks]
theorem keyT_eq {d : D} {ks : List Key} (e : keyT d = some ks) : d = .tup (ks.map kD) := by
  unfold keyT at e
  split at e
  · rw [keysD_eq e]
  · cases e
theorem kD_inj {a b : Key} (e : kD a = kD b) : a = b := by
  have := congrArg keyD e
  rw [keyD_kD, keyD_kD] at this
  exact Option.some.inj this
theorem kDs_inj {a b : List Key} (e : D.tup (a.map kD) = D.tup (b.map kD)) : a = b := by
  have := congrArg keyT e
  unfold keyT at this
  simp only [keysD_map] at this
  exact Option.some.inj this
def okK (t : Bool) (d : D) : Bool := match t with
  | false => (keyD d).isSome
  | true => (keyT d).isSome
def lkD : List D → List D → D → Option D
  | k :: ks, v :: vs, d => if k = d then some v else lkD ks vs d
  | _, _, _ => none
def putDD (kvs : List (D × D)) (k v : D) : List (D × D) := if kvs.any (fun kv => decide (kv.1 = k)) = true then kvs.map (fun kv => if kv.1 = k then (kv.1, v) else kv) else kvs ++ [(k, v)]
def dicOf (h : Hea) : D → Option (Bool × List D × List D)
  | .dic t ks vs => some (t, ks, vs)
  | .ref n => match h[n]? with
    | some (.dic t kvs) => some (t, kvs.map (·.1), kvs.map (·.2))
    | _ => none
  | _ => none
section
variable {K : Wd} {g : Gd} {heap : Hea}
theorem rep_key {k : Key} {v : V} (r : RepV K g (kD k) v) : v = kV k := by
  cases k <;> simpa [kD, RepV, kV] using r
theorem key_rep {k : Key} : RepV K g (kD k) (kV k) := by cases k <;> simp [kD, RepV, kV]
theorem rep_keys {ks : List Key} {us : List V} (r : RepVs K g (ks.map kD) us) : us = ks.map kV := r.mapV fun _ _ h => rep_key h
theorem dicOf_rep {d : D} {v : V} {t : Bool} {ks vs : List D} (hh : HR K g heap) (r : RepV K g d v) (e : dicOf heap d = some (t, ks, vs)) : ∃ a us, v = .ref a ∧ DicR K g.H a t ks us ∧ RepVs K g vs us := by
  cases d with
  | dic t' ks' vs' =>
    simp only [dicOf] at e; cases e
    simp only [RepV] at r
    obtain ⟨a, us, e, q, _, t⟩ := r
    exact ⟨a, us, e, q, t⟩
  | ref n =>
    simp only [dicOf] at e
    split at e
    · rename_i t' kvs hc
      cases e
      simp only [RepV] at r
      obtain ⟨us, q, t⟩ := hh.cell _ _ hc
      exact ⟨_, us, r.2, q, t⟩
    · cases e
  | _ => simp [dicOf] at e
theorem lk_k {k : Key} : ∀ {kvs : List (Key × V)} {vs : List D}, RepVs K g vs (kvs.map (·.2)) →
    (lkD (kvs.map fun p => kD p.1) vs (kD k) = none ∧ valV kvs k = none) ∨ ∃ d v, lkD (kvs.map fun p => kD p.1) vs (kD k) = some d ∧ valV kvs k = some v ∧ RepV K g d v
  | [], vs, r => by
    have : vs = [] := by have := r.len; simpa using this
    subst this
    exact .inl ⟨rfl, rfl⟩
  | p :: kvs, [], r => by have := r.len; simp at this
  | p :: kvs, d :: vs, r => by
    obtain ⟨x, rest, e, rx, rr⟩ := RepVs_cons.mp r
    simp only [List.map_cons, List.cons.injEq] at e
    obtain ⟨rfl, rfl⟩ := e
    simp only [List.map_cons, lkD]
    by_cases e : p.1 = k
    · rw [if_pos (by rw [e]), valV_pos e]
      exact .inr ⟨_, _, rfl, rfl, rx⟩
    · rw [if_neg fun z => e (kD_inj z), valV_neg e]
      exact lk_k rr
theorem lk_t {k : List Key} : ∀ {xs : List (List Key × Addr × Value)} {vs : List D} {us : List V}, RepVs K g vs us → Vals us (xs.map (·.2.2)) →
    (lkD (xs.map fun p => D.tup (p.1.map kD)) vs (.tup (k.map kD)) = none ∧ atKey xs k = none) ∨ ∃ d v p, lkD (xs.map fun p => D.tup (p.1.map kD)) vs (.tup (k.map kD)) = some d ∧ atKey xs k = some p ∧ RepV K g d v ∧ RelV v p.2
  | [], vs, us, r, q => .inl ⟨by cases vs <;> rfl, rfl⟩
  | p :: xs, [], us, r, q => by
    rw [RepVs_nil.mp r] at q; cases q
  | p :: xs, d :: vs, us, r, q => by
    obtain ⟨x, rest, e, rx, rr⟩ := RepVs_cons.mp r
    subst e
    simp only [List.map_cons] at q
    cases q with
    | cons q1 q2 =>
      simp only [List.map_cons, lkD]
      by_cases e : p.1 = k
      · rw [if_pos (by rw [e])]
        exact .inr ⟨_, _, p.2, rfl, by simp [atKey, List.find?_cons, e], rx, q1⟩
      · rw [if_neg fun z => e (kDs_inj z)]
        have : atKey (p :: xs) k = atKey xs k := by simp [atKey, List.find?_cons, e]
        rw [this]
        exact lk_t rr q2
theorem lk_mem : ∀ {ks vs : List D} {d : D}, ks.length = vs.length → (lkD ks vs d).isSome = decide (d ∈ ks)
  | [], vs, d, _ => by cases vs <;> simp [lkD]
  | k :: ks, [], d, h => by simp at h
  | k :: ks, v :: vs, d, h => by
    simp only [lkD]
    by_cases e : k = d
    · simp [e]
    · rw [if_neg e, lk_mem (by simpa using h)]
      simp [Ne.symm e]
theorem put_k {k : Key} {d : D} {v : V} (rd : RepV K g d v) {kvD : List (D × D)} {kvs : List (Key × V)} (h1 : kvD.map (·.1) = kvs.map fun p => kD p.1) (h2 : RepVs K g (kvD.map (·.2)) (kvs.map (·.2))) :
    (putDD kvD (kD k) d).map (·.1) = (putK kvs k v).map (fun p => kD p.1) ∧ RepVs K g ((putDD kvD (kD k) d).map (·.2)) ((putK kvs k v).map (·.2)) := by
  have ha : ∀ {kvD : List (D × D)} {kvs : List (Key × V)}, kvD.map (·.1) = kvs.map (fun p => kD p.1) → kvD.any (fun kv => decide (kv.1 = kD k)) = kvs.any fun kv => decide (kv.1 = k) := by
    intro kvD
    induction kvD with
    | nil => intro kvs h; cases kvs with
      | nil => rfl
      | cons _ _ => simp at h
    | cons p kvD ih =>
      intro kvs h
      cases kvs with
      | nil => simp at h
      | cons q kvs =>
        simp only [List.map_cons, List.cons.injEq] at h
        rw [List.any_cons, List.any_cons, ih h.2, h.1]
        have : decide (kD q.1 = kD k) = decide (q.1 = k) := by
          by_cases e : q.1 = k
          · simp [e]
          · rw [decide_eq_false e, decide_eq_false fun z => e (kD_inj z)]
        rw [this]
  have hm : ∀ {kvD : List (D × D)} {kvs : List (Key × V)}, kvD.map (·.1) = kvs.map (fun p => kD p.1) → RepVs K g (kvD.map (·.2)) (kvs.map (·.2)) →
      (kvD.map (fun kv => if kv.1 = kD k then (kv.1, d) else kv)).map (·.1) = (kvs.map (fun kv => if kv.1 = k then (kv.1, v) else kv)).map (fun p => kD p.1) ∧ RepVs K g ((kvD.map (fun kv => if kv.1 = kD k then (kv.1, d) else kv)).map (·.2)) ((kvs.map (fun kv => if kv.1 = k then (kv.1, v) else kv)).map (·.2)) := by
    intro kvD
    induction kvD with
    | nil => intro kvs h _; cases kvs with
      | nil => exact ⟨rfl, .nil⟩
      | cons _ _ => simp at h
    | cons p kvD ih =>
      intro kvs h r
      cases kvs with
      | nil => simp at h
      | cons q kvs =>
        simp only [List.map_cons, List.cons.injEq] at h
        obtain ⟨x, rest, e, rx, rr⟩ := RepVs_cons.mp (show RepVs K g (p.2 :: kvD.map (·.2)) (q.2 :: kvs.map (·.2)) from r)
        cases e
        obtain ⟨i1, i2⟩ := ih h.2 rr
        simp only [List.map_cons]
        by_cases e : q.1 = k
        · rw [if_pos e, if_pos (by rw [h.1, e])]
          exact ⟨by rw [i1, h.1], .cons rd i2⟩
        · rw [if_neg e, if_neg (by rw [h.1]; exact fun z => e (kD_inj z))]
          exact ⟨by rw [i1, h.1], .cons rx i2⟩
  unfold putDD putK
  rw [ha h1]
  split
  · exact hm h1 h2
  · simp only [List.map_append, List.map_cons, List.map_nil]
    exact ⟨by rw [h1], h2.append (.cons rd .nil)⟩
theorem put_t {k : List Key} {b : Addr} {d : D} {v : V} {r : Value} (rd : RepV K g d v) (rv : RelV v r) {kvD : List (D × D)} {xs : List (List Key × Addr × Value)} {us : List V} (h1 : kvD.map (·.1) = xs.map fun p => D.tup (p.1.map kD)) (h2 : RepVs K g (kvD.map (·.2)) us) (h3 : Vals us (xs.map (·.2.2))) :
    ∃ us', (putDD kvD (.tup (k.map kD)) d).map (·.1) = (storedH xs k b r).map (fun p => D.tup (p.1.map kD)) ∧ RepVs K g ((putDD kvD (.tup (k.map kD)) d).map (·.2)) us' ∧ Vals us' ((storedH xs k b r).map (·.2.2)) := by
  have ha : ∀ {kvD : List (D × D)} {xs : List (List Key × Addr × Value)}, kvD.map (·.1) = xs.map (fun p => D.tup (p.1.map kD)) → kvD.any (fun kv => decide (kv.1 = .tup (k.map kD))) = (atKey xs k).isSome := by
    intro kvD
    induction kvD with
    | nil => intro xs h; cases xs with
      | nil => rfl
      | cons _ _ => simp at h
    | cons p kvD ih =>
      intro xs h
      cases xs with
      | nil => simp at h
      | cons q xs =>
        simp only [List.map_cons, List.cons.injEq] at h
        rw [List.any_cons, h.1]
        by_cases e : q.1 = k
        · simp [atKey, List.find?_cons, e]
        · have : atKey (q :: xs) k = atKey xs k := by simp [atKey, List.find?_cons, e]
          rw [this, ih h.2]
          have : decide (D.tup (q.1.map kD) = .tup (k.map kD)) = false := decide_eq_false fun z => e (kDs_inj z)
          rw [this]; simp
  have hm : ∀ {kvD : List (D × D)} {xs : List (List Key × Addr × Value)} {us : List V}, kvD.map (·.1) = xs.map (fun p => D.tup (p.1.map kD)) → RepVs K g (kvD.map (·.2)) us → Vals us (xs.map (·.2.2)) →
      ∃ us', (kvD.map (fun kv => if kv.1 = .tup (k.map kD) then (kv.1, d) else kv)).map (·.1) = (xs.map (putAt k r)).map (fun p => D.tup (p.1.map kD)) ∧ RepVs K g ((kvD.map (fun kv => if kv.1 = .tup (k.map kD) then (kv.1, d) else kv)).map (·.2)) us' ∧ Vals us' ((xs.map (putAt k r)).map (·.2.2)) := by
    intro kvD
    induction kvD with
    | nil => intro xs us h _ _; cases xs with
      | nil => exact ⟨[], rfl, .nil, .nil⟩
      | cons _ _ => simp at h
    | cons p kvD ih =>
      intro xs us h r' q'
      cases xs with
      | nil => simp at h
      | cons q xs =>
        simp only [List.map_cons, List.cons.injEq] at h
        obtain ⟨x, rest, e, rx, rr⟩ := RepVs_cons.mp (show RepVs K g (p.2 :: kvD.map (·.2)) us from r')
        subst e
        simp only [List.map_cons] at q'
        cases q' with
        | cons q1 q2 =>
          obtain ⟨us', i1, i2, i3⟩ := ih h.2 rr q2
          simp only [List.map_cons]
          by_cases e : q.1 = k
          · have e2 : putAt k r q = (q.1, q.2.1, r) := if_pos e
            rw [e2, if_pos (by rw [h.1, e])]
            exact ⟨v :: us', by rw [← i1, h.1], .cons rd i2, .cons rv i3⟩
          · have e2 : putAt k r q = q := if_neg e
            rw [e2, if_neg (by rw [h.1]; exact fun z => e (kDs_inj z))]
            exact ⟨x :: us', by rw [← i1, h.1], .cons rx i2, .cons q1 i3⟩
  unfold putDD storedH
  rw [ha h1]
  split
  · exact hm h1 h2 h3
  · simp only [List.map_append, List.map_cons, List.map_nil]
    exact ⟨us ++ [v], by rw [h1], h2.append (.cons rd .nil), Paired.snoc h3 rv⟩
end
section
variable {X : Cx} {W : WX}
/-- a tuple's object is a key -/
theorem key_ofT {pins : List (Addr × Obj)} {σ : L2.St} {H : Hp} {s : Shared} {b : Addr} {ks : List Key} (I : Inv X pins σ H s) (t : TupO H b (ks.map kV)) : (tupleKind (mixKind X.prog X.w)).is s.heap ks b := by
  obtain ⟨o, e, n⟩ := t
  obtain ⟨h1, _, its, r, o', h1', h2, m, h3⟩ := (show ObjOk X.prog X.w H s.heap b (.frz o (.tup (ks.map kV))) from I.hok b _ e)
  rw [h1] at h1'; cases h1'
  exact ⟨o, its.toArray, m, h1, h2, h3, by simpa using items_are r⟩
theorem dt_open {pins : List (Addr × Obj)} {σ : L2.St} {H : Hp} {s : Shared} {a : Addr} {ks : List D} {us : List V} (I : Inv X pins σ H s) (d : DicR X.wd H a true ks us) :
    ∃ xs : List (List Key × Addr × Value), H a = some (.ext (DTφ X.wd a xs)) ∧ s.heap.DictOfH (tupleKind (mixKind X.prog X.w)) a xs ∧ xs.length ≤ sizeLine ∧ (a == sysModules) = false ∧ ks = xs.map (fun p => D.tup (p.1.map kD)) ∧ Vals us (xs.map (·.2.2)) ∧ ∀ x ∈ xs, TupO H x.2.1 (x.1.map kV) := by
  obtain ⟨xs, e, e1, e2, e3⟩ := d
  obtain ⟨⟨z, hd, o, es, ep, h1, h2, h3, h4, h5⟩, _⟩ := (show ObjOk X.prog X.w H s.heap a (.ext (DTφ X.wd a xs)) from I.hok a _ e)
  exact ⟨xs, e, ⟨o, es, ep, h1, h2, h3, h4, fun x hx => key_ofT I (e2 x hx), h5⟩, z, hd, e1, e3, e2⟩
theorem tup_ref {g : Gd} {K : Wd} {ks : List Key} {v : V} (r : RepV K g (.tup (ks.map kD)) v) : ∃ b, v = .ref b ∧ TupO g.H b (ks.map kV) := by
  simp only [RepV] at r
  obtain ⟨b, xs, e, t, rs⟩ := r
  rw [rep_keys rs] at t
  exact ⟨b, e, t⟩
theorem dic_find {pins : List (Addr × Obj)} {σ : L2.St} {s : Shared} {g : Gd} {a : Addr} {t : Bool} {ks vs : List D} {us : List V} {y : D} {yv : V} {u : Value} {A : Around} {E : Value → Shared → Prop} (hu : A.units + 1 < cLine) (I : Inv X pins σ g.H s)
    (dr : DicR X.wd g.H a t ks us) (rv : RepVs X.wd g vs us) (ry : RepV X.wd g y yv) (ru : RelV yv u) (hk : okK t y = true) :
    (∀ {d : D} {Q : Value → Shared → Prop}, lkD ks vs y = some d → (∀ w' s' v, Inv X pins σ g.H s' → RepV X.wd g d v → RelV v w' → Q w' s') → wpAny (model X.prog X.w) A (getItem (.ref a) u) Q E s) ∧
    (∀ {Q : Value → Shared → Prop}, (∀ s', Inv X pins σ g.H s' → Q (.bool (decide (y ∈ ks))) s') → wpAny (model X.prog X.w) A (compareOp .In u (.ref a)) Q E s) ∧
    (∀ {Q : Value → Shared → Prop}, (∀ s', Inv X pins σ g.H s' → Q (.bool (!decide (y ∈ ks))) s') → wpAny (model X.prog X.w) A (compareOp .NotIn u (.ref a)) Q E s) := by
  cases t with
  | false =>
    obtain ⟨k, ek⟩ := Option.isSome_iff_exists.mp hk
    have := keyD_eq ek
    subst this
    have := rep_key ry
    subst this
    obtain ⟨kvs, e, e1, e2⟩ := dr
    subst e1; subst e2
    have hl : (kvs.map fun p => kD p.1).length = vs.length := by have := rv.len; simp at this; simp [this]
    have hm : (valV kvs k).isSome = decide (kD k ∈ kvs.map fun p => kD p.1) := by
      rw [← lk_mem hl]
      rcases lk_k (k := k) rv with ⟨a, b⟩ | ⟨d, v, a, b, _⟩ <;> rw [a, b] <;> rfl
    refine ⟨fun {d Q} ed h => ?_, fun {Q} h => ?_, fun {Q} h => ?_⟩
    · rcases lk_k (k := k) rv with ⟨a, b⟩ | ⟨d', v, a, b, r⟩
      · rw [ed] at a; cases a
      · rw [ed] at a; cases a
        exact d_getItem hu I (by rw [← b]; exact DGet.k e) ru fun w' s' I' rw' => h w' s' v I' r rw'
    · exact d_in hu I (DGet.k e) ru fun s' I' => by rw [hm]; exact h s' I'
    · exact d_notIn hu I (DGet.k e) ru fun s' I' => by rw [hm]; exact h s' I'
  | true =>
    obtain ⟨k, ek⟩ := Option.isSome_iff_exists.mp hk
    have := keyT_eq ek
    subst this
    obtain ⟨b, rfl, tb⟩ := tup_ref ry
    cases ru
    obtain ⟨xs, e, dd, z, hd, e1, e3, e2⟩ := dt_open I dr
    subst e1
    have hl : (xs.map fun p => D.tup (p.1.map kD)).length = vs.length := by have := rv.len; have h2 := e3.length; simp at h2; simp; omega
    have hm : (atKey xs k).isSome = decide (D.tup (k.map kD) ∈ xs.map fun p => D.tup (p.1.map kD)) := by
      rw [← lk_mem hl]
      rcases lk_t (k := k) rv e3 with ⟨a, b⟩ | ⟨d, v, p, a, b, _⟩ <;> rw [a, b] <;> rfl
    refine ⟨fun {d Q} ed h => ?_, fun {Q} h => ?_, fun {Q} h => ?_⟩
    · rcases lk_t (k := k) rv e3 with ⟨a, b⟩ | ⟨d', v, p, a, b, r, rp⟩
      · rw [ed] at a; cases a
      · rw [ed] at a; cases a
        exact wpAny_getItem_heap (tupleKind_room_in1 hu) (key_ofT I tb) dd b (h _ _ v (I.tok _) r rp)
    · exact wpAny_in_heap (tupleKind_room_in1 hu) (key_ofT I tb) hd dd (by rw [hm]; exact h _ (I.tok _))
    · exact wpAny_notIn_heap (tupleKind_room_in1 hu) (key_ofT I tb) hd dd (by rw [hm]; exact h _ (I.tok _))
/-! ### o[i], by lists, tuples, dicts -/
def getIx (o i : D) (h : Hea) : Option D := match dicOf h o with
  | some (t, ks, vs) => if okK t i = true then lkD ks vs i else none
  | none => ixD o i h
theorem ix_d : IxR X (rOp2 X.wd ixD) := by
  refine fun value slice pins s σ H x y v u Q I rx ry ⟨g, heap, o, i, d, e, hh, ro, ri, ed, q⟩ hs => ix_seq value slice pins s σ H x y v u Q I rx ry ?_ hs
  subst e
  unfold ixD at ed
  split at ed
  · obtain ⟨xs, e1, e2⟩ := Option.bind_eq_some_iff.mp ed
    obtain ⟨a, us, rfl, sq, t⟩ := seqOf_rep hh ro e1
    obtain ⟨v, ev, rv⟩ := atI_rep t e2
    simp only [RepV] at ri; subst ri
    rcases sq with sq | sq
    · exact .inl ⟨a, us, _, v, rfl, rfl, sq, ev, fin1 hh q rv⟩
    · exact .inr (.inl ⟨a, us, _, v, rfl, rfl, sq, ev, fin1 hh q rv⟩)
  · cases ed
theorem dic_typeIs {pins : List (Addr × Obj)} {σ : L2.St} {H : Hp} {s : Shared} {a : Addr} {t : Bool} {ks : List D} {us : List V} (I : Inv X pins σ H s) (d : DicR X.wd H a t ks us) : s.TypeIs (.ref a) "dict" := by
  cases t with
  | false =>
    obtain ⟨kvs, e, _⟩ := d
    obtain ⟨_, _, vs, _, dd⟩ := dk_of I.hok e
    exact dd.typeIs
  | true =>
    obtain ⟨xs, _, dd, _⟩ := dt_open I d
    exact dd.typeIs
theorem dict_tail {prog : Program} {w : World} {A : Around} {E : Value → Shared → Prop} {s : Shared} {value slice : Expr} {Q : Value → Shared → Prop} {o i : Value} (hT : s.TypeIs o "dict")
    (hs : subscripted slice false o i = operate [o, i] (getItem o i)) (h : wpAny (model prog w) A (getItem o i) Q E s) : wpAny (model prog w) A (subscriptTail value slice o i) Q E s := by
  unfold subscriptTail
  refine wpAny_bind ?_
  rw [getitemInPython_of_ne hT.not_modules]
  refine wpAny_bind (wpAny_specialOf hT PySem.F.slot_dict_getitem.lookup ?_)
  have fin : wpAny (model prog w) A (subscripted slice false o i) (fun r s₃ => wpAny (model prog w) A (letTemporaryGo value o r >>= fun _ => pure r) Q E s₃) E s := by
    rw [hs]
    exact wpAny_operating (wpAny_mono h (fun r s₃ h₃ => wpAny_bind (wpAny_letTemporaryGo (wpAny_pure h₃))) fun _ _ x => x)
  first
    | exact wpAny_pure (wpAny_bind fin)
    | exact wpAny_bind (wpAny_pure (wpAny_bind fin))
    | exact wpAny_bind fin
theorem ix_get (hu : X.A.units + 1 < cLine) : IxR X (rOp2 X.wd getIx) := by
  refine fun value slice pins s σ H x y v u Q I rx ry ⟨g, heap, o, i, d, e, hh, ro, ri, ed, q⟩ hs => ?_
  subst e
  unfold getIx at ed
  split at ed
  · rename_i t ks vs ec
    split at ed
    · rename_i hk
      obtain ⟨a, us, rfl, dr, rv⟩ := dicOf_rep hh ro ec
      cases rx
      refine dict_tail (dic_typeIs I dr) hs ?_
      exact (dic_find hu I dr rv ri ry hk).1 ed fun w' s' v I' r rw' => ⟨v, g.H, I', rw', fin1 hh q r⟩
    · cases ed
  · exact ix_d value slice pins s σ _ x y v u Q I rx ry ⟨g, heap, o, i, d, rfl, hh, ro, ri, ed, q⟩ hs
theorem de_get {a b : Expr} {fa fb : En → Hea → R D} {pos : Pos} (hu : X.A.units + 1 < cLine) (ha : DE X W a fa) (hb : DE X W b fb) (hs : PlainIx b := by intro _ _; rfl) : DE X W (.Subscript a b pos) (fBin getIx fa fb) :=
  pe_imp (pe_ix (ix_get hu) ha hb hs) fun σ H Q p => rd_bin (fun _ _ _ _ h => h) p
def inG (a c : D) (h : Hea) : Option D := match dicOf h c with
  | some (t, ks, _) => if okK t a = true then some (.bl (decide (a ∈ ks))) else none
  | none => inD a c h
def notInG (a c : D) (h : Hea) : Option D := match dicOf h c with
  | some (t, ks, _) => if okK t a = true then some (.bl (!decide (a ∈ ks))) else none
  | none => notInD a c h
theorem od_inG (hu : X.A.units + 65 < cLine) : OpD X (compareOp .In) inG := by
  rintro pins s σ H x y v u Q I rx ry ⟨g, heap, a, b, d, rfl, hh, ra, rb, ed, q⟩
  unfold inG at ed
  split at ed
  · rename_i t ks vs ec
    split at ed
    · rename_i hk
      cases ed
      obtain ⟨p, us, rfl, dr, rv⟩ := dicOf_rep hh rb ec
      cases ry
      exact (dic_find (by omega) I dr rv ra rx hk).2.1 fun s' I' => ⟨.bl _, g.H, I', rfl, fin1 hh q (by simp [RepV])⟩
    · cases ed
  · exact od_in hu pins s σ _ x y v u Q I rx ry ⟨g, heap, a, b, d, rfl, hh, ra, rb, ed, q⟩
theorem od_notinG (hu : X.A.units + 65 < cLine) : OpD X (compareOp .NotIn) notInG := by
  rintro pins s σ H x y v u Q I rx ry ⟨g, heap, a, b, d, rfl, hh, ra, rb, ed, q⟩
  unfold notInG at ed
  split at ed
  · rename_i t ks vs ec
    split at ed
    · rename_i hk
      cases ed
      obtain ⟨p, us, rfl, dr, rv⟩ := dicOf_rep hh rb ec
      cases ry
      exact (dic_find (by omega) I dr rv ra rx hk).2.2 fun s' I' => ⟨.bl _, g.H, I', rfl, fin1 hh q (by simp [RepV])⟩
    · cases ed
  · exact od_notin hu pins s σ _ x y v u Q I rx ry ⟨g, heap, a, b, d, rfl, hh, ra, rb, ed, q⟩
/-! ### o[i] = v -/
def putIx (o i v : D) (h : Hea) : Option Hea := match o with
  | .ref n => match h[n]? with
    | some (.lst xs) => match i with
      | .int k => (ixN xs.length k).map fun j => h.set n (.lst (xs.set j v))
      | _ => none
    | some (.dic t kvs) => if okK t i = true ∧ kvs.length < sizeLine then some (h.set n (.dic t (putDD kvs i v))) else none
    | _ => none
  | _ => none
def rSetD (K : Wd) : TSet := fun o i v H Q => ∃ g heap od id vd h', g.H = H ∧ HR K g heap ∧ RepV K g od o ∧ RepV K g id i ∧ RepV K g vd v ∧ putIx od id vd heap = some h' ∧ ∀ g', HR K g' h' → Ext g g' → Q g'.H
theorem putK_len {κ : Type} [DecidableEq κ] (kvs : List (κ × V)) (k : κ) (v : V) : (putK kvs k v).length ≤ kvs.length + 1 := length_putK kvs k v
theorem set_d (hu : X.A.units + 1 < cLine) : PSet X (rSetD X.wd) := by
  rintro pins s σ H o i v ov iv u Q I ro ri rv ⟨g, heap, od, id, vd, h', rfl, hh, po, pi, pv, ed, q⟩
  unfold putIx at ed
  split at ed
  · rename_i n
    simp only [RepV] at po
    obtain ⟨hn, rfl⟩ := po
    cases ro
    split at ed
    · rename_i xs hc
      split at ed
      · rename_i k
        obtain ⟨j, ej, rfl⟩ := Option.map_eq_some_iff.mp ed
        obtain ⟨us, eH, t⟩ := hh.cell _ _ hc
        simp only [RepV] at pi; subst pi
        obtain ⟨a1, a2⟩ := setL_go hh hn (t.set pv j)
        exact set_list pins s σ g.H (.ref (g.ρ n)) _ v _ iv u _ I (show L2.RelV (.ref (g.ρ n)) (.ref (g.ρ n)) from rfl) ri rv ⟨_, us, k, j, rfl, rfl, eH, by rw [← t.len]; exact ej, q _ a1 a2⟩
      · cases ed
    · rename_i t kvs hc
      split at ed
      · rename_i hk
        cases ed
        obtain ⟨hk, hl⟩ := hk
        obtain ⟨us, dr, rs⟩ := hh.cell _ _ hc
        cases t with
        | false =>
          obtain ⟨k, ek⟩ := Option.isSome_iff_exists.mp hk
          have := keyD_eq ek
          subst this
          have := rep_key pi
          subst this
          obtain ⟨kvV, e, e1, e2⟩ := dr
          subst e2
          have hlen : kvV.length = kvs.length := by have := congrArg List.length e1; simpa using this.symm
          refine d_setItem hu I (DPut.k e (by omega)) ri rv fun s' I' => ⟨_, I', ?_⟩
          have x1 := hh.ext_set (o := .dK (putK kvV k v)) hn
          obtain ⟨k1, k2⟩ := put_k (k := k) (pv.ext x1) e1 (rs.ext x1)
          exact q (g.put (g.ρ n) (.dK (putK kvV k v))) (hh.set hn ⟨_, ⟨_, upd_same, k1, rfl⟩, k2⟩) x1
        | true =>
          obtain ⟨k, ek⟩ := Option.isSome_iff_exists.mp hk
          have := keyT_eq ek
          subst this
          obtain ⟨b, rfl, tb⟩ := tup_ref pi
          cases ri
          obtain ⟨xs, e, dd, z, hd, e1, e3, e2⟩ := dt_open I dr
          have hlen : xs.length = kvs.length := by have := congrArg List.length e1; simpa using this.symm
          refine wpAny_setItem_heap (hsz := z) (tupleKind_room_in1 hu) (key_ofT I tb) dd fun h2 dd' hs => ?_
          obtain ⟨o, es, ep, hq, h2', h3, h4, _, h5⟩ := dd'
          have hl2 : (storedH xs k b u).length ≤ sizeLine := by have := storedH_length xs k b u; omega
          have new : DTφ X.wd (g.ρ n) (storedH xs k b u) h2 := ⟨hl2, hd, o, es, ep, hq, h2', h3, h4, h5⟩
          have I' : Inv X pins σ (upd g.H (g.ρ n) (.ext (DTφ X.wd (g.ρ n) (storedH xs k b u)))) { s with heap := h2, toks := s.toks + (tupleKind (mixKind X.prog X.w)).draws k } :=
            d_write I (by rw [e]; exact True.intro) hs ⟨o, hq⟩ ⟨new, ⟨o, hq⟩, fun h1 h2 p st => by
              obtain ⟨z1, z2, o, es, ep, q1, q2, q3, q4, q5⟩ := p
              exact ⟨z1, z2, o, es, ep, st _ q1, q2, q3, q4, q5⟩⟩
          have x1 := hh.ext_set (o := .ext (DTφ X.wd (g.ρ n) (storedH xs k b u))) hn
          obtain ⟨us', k1, k2, k3⟩ := put_t (k := k) (b := b) (pv.ext x1) rv e1 (rs.ext x1) e3
          refine ⟨_, I', q (g.put (g.ρ n) (.ext (DTφ X.wd (g.ρ n) (storedH xs k b u)))) (hh.set hn ⟨us', ⟨_, upd_same, k1, fun x hx => ?_, k3⟩, k2⟩) x1⟩
          rcases mem_storedH hx with ⟨y, hy, q1, q2⟩ | ⟨q1, q2⟩
          · rw [q1, q2]; exact (e2 y hy).keep x1.s
          · rw [q1, q2]; exact tb.keep x1.s
      · cases ed
    · cases ed
  · cases ed
/-- o[i] = e -/
def sPut (fv fo fi : En → Hea → R D) : FS := fun e h => (fv e h).toS e fun v h1 => (fo e h1).toS e fun o h2 => (fi e h2).toS e fun i h3 => match putIx o i v h3 with
  | some h4 => .nx e h4
  | none => .no
theorem ds_put {o i value : Expr} {fv fo fi : En → Hea → R D} {pos pos' : Pos} (hu : X.A.units + 1 < cLine) (ho : DE X W o fo) (hi : DE X W i fi) (hv : DE X W value fv)
    (hs : swapsWithSole [.Subscript o i pos'] value pos.line X.env = pure false := by rfl) (hw : swappedStores [.Subscript o i pos'] value X.env = pure none := by rfl)
    (h1 : (assignEach [.Subscript o i pos'] X.env).map (·.2) = [assign (.Subscript o i pos') X.env] := by rfl)
    (ha : ∀ v, assign (.Subscript o i pos') X.env v = (do
      let ov ← holding [v] (eval o X.env)
      let iv ← holding [v, ov] (eval i X.env)
      standAt pos'
      holding [v, ov, iv] (setItem ov iv v)
      release [v, ov, iv] []) := by intro _; rfl) : DS X W (.Assign [.Subscript o i pos'] value pos) (sPut fv fo fi) :=
  ps_imp (ps_asg hv (pg_sub ho hi (set_d hu) ha) hs hw h1) fun Dn σ H ⟨g, env, heap, e1, hh, er, p⟩ => ⟨g, env, heap, e1, hh, er, (PostS.ofR (A := RepV X.wd) p er).imp fun v H1 ⟨g1, h1, vd, e2, hh1, x1, rv, p1⟩ => by
    refine ⟨g1, env, h1, e2, hh1, er.ext x1, (PostS.ofR (A := RepV X.wd) p1 (er.ext x1)).imp fun o H2 ⟨g2, h2, od, e3, hh2, x2, ro, p2⟩ => ?_⟩
    refine ⟨g2, env, h2, e3, hh2, (er.ext x1).ext x2, (PostS.ofR (A := RepV X.wd) p2 ((er.ext x1).ext x2)).imp fun i H3 ⟨g3, h3, id, e4, hh3, x3, ri, p3⟩ => ?_⟩
    cases q : putIx od id vd h3 with
    | none => rw [q] at p3; exact p3.elim
    | some h4 =>
      rw [q] at p3
      exact ⟨g3, h3, od, id, vd, h4, e4, hh3, ro.ext x3, ri, (rv.ext x2).ext x3, q, fun g' hh' x' => p3 g' σ hh' x' ((((er.ext x1).ext x2).ext x3).ext x')⟩⟩
/-! ### op= -/
abbrev IpD (X : Cx) (op : Operator) (g2 : D → D → Hea → Option D) : Prop := PIp X op (rOp2 X.wd g2)
def iaddD (a b : D) (_ : Hea) : Option D := match a, b with
  | .int i, .int j => some (.int (i + j))
  | _, _ => none
theorem id_add : IpD X .Add iaddD := by
  rintro pins s σ H x y v u Q I rx ry ⟨g, heap, a, b, d, rfl, hh, ra, rb, ed, q⟩
  unfold iaddD at ed
  split at ed <;> cases ed
  simp only [RepV] at ra rb
  exact ip_add pins s σ g.H x y v u Q I rx ry ⟨_, _, ra, rb, fin1 hh q (by simp [RepV])⟩
theorem id_sub : IpD X .Sub subD := by
  rintro pins s σ H x y v u Q I rx ry ⟨g, heap, a, b, d, rfl, hh, ra, rb, ed, q⟩
  unfold subD at ed
  split at ed <;> cases ed
  simp only [RepV] at ra rb
  exact ip_sub pins s σ g.H x y v u Q I rx ry ⟨_, _, ra, rb, fin1 hh q (by simp [RepV])⟩
def sAug (i : Nat) (g2 : D → D → Hea → Option D) (f : En → Hea → R D) : FS := fun e h => match (e[i]?).join with
  | some x => (f e h).toS e fun y h1 => match g2 x y h1 with
    | some z => .nx (e.set i (some z)) h1
    | none => .no
  | none => .no
theorem ds_aug {i : Nat} {x : Str} {e : Expr} {f : En → Hea → R D} {g2 : D → D → Hea → Option D} {op : Operator} {pos pos' : Pos} (hN : X.N.Nodup) (hi : X.N[i]? = some x) (hx : Loc X.env.scope x) (he : DE X W e f) (ho : IpD X op g2) (hf : X.fn x = true ∨ X.env.scope.names.lookup x = some .local := by first | exact .inl rfl | exact .inr rfl | assumption) :
    DS X W (.AugAssign (.Name x pos') op e pos) (sAug i g2 f) :=
  ps_imp (ps_aug hN hi hx he ho hf) fun Dn σ H ⟨g, env, heap, e1, hh, er, p⟩ => by
    subst e1
    unfold sAug at p
    cases q : env[i]? with
    | none => rw [q] at p; exact p.elim
    | some o =>
      cases o with
      | none => rw [q] at p; exact p.elim
      | some d =>
        rw [q] at p
        obtain ⟨v, a, b⟩ := er.2 i d q
        refine ⟨v, a, g, env, heap, rfl, hh, er, (PostS.ofR (A := RepV X.wd) p er).imp fun y H1 ⟨g1, h1, yd, e2, hh1, x1, ry, p1⟩ => ?_⟩
        cases q2 : g2 d yd h1 with
        | none => simp only [q2] at p1; exact p1.elim
        | some z =>
          simp only [q2] at p1
          exact ⟨g1, h1, d, yd, z, e2, hh1, b.ext x1, ry, q2, fun g' v' hh' x' r' => p1 g' _ hh' x' (((er.ext x1).ext x').set r' i)⟩
theorem pget_list : PGet X (rIxL X.K) := by
  intro pins s σ H x y v u Q I rx ry h
  obtain ⟨p, xs, i, z, rfl, rfl, hq, he, q⟩ := h
  cases rx
  obtain ⟨t, rfl⟩ := ry
  obtain ⟨its, r, pl, hz⟩ := I.list hq
  obtain ⟨j, h1, h2, h3, h4, h5⟩ := atI_get he
  obtain ⟨w, ew, rw'⟩ := r.get h2
  have hl := r.length
  have hn := line63
  have fin : EP X pins σ Q w s := ⟨z, H, I, rw', q⟩
  by_cases h0 : 0 ≤ i
  · have hj : i.toNat = j := by
      rw [seqIndex_of h0 h5] at h1
      exact Option.some.inj h1
    exact wpAny_getItem_list pl.isList h0 (by omega) (by rw [hj]; simpa using ew) fin
  · have hj : (i + (its.toArray.size : Int)).toNat = j := by
      rw [seqIndex_neg (by omega) h4] at h1
      rw [List.size_toArray, ← hl]
      exact Option.some.inj h1
    exact wpAny_getItem_list_neg pl.isList (by omega) (by rw [List.size_toArray] <;> omega) (by omega) (by rw [hj]; simpa using ew) fin
/-- o[i] of a list or a dict -/
def getIy (o i : D) (h : Hea) : Option D := match dicOf h o with
  | some (t, ks, vs) => if okK t i = true then lkD ks vs i else none
  | none => match i with
    | .int k => (lookL h o).bind fun xs => atI xs k
    | _ => none
theorem get_d (hu : X.A.units + 1 < cLine) : PGet X (rOp2 X.wd getIy) := by
  refine fun pins s σ H x y v u Q I rx ry ⟨g, heap, o, i, d, e, hh, ro, ri, ed, q⟩ => ?_
  subst e
  unfold getIy at ed
  split at ed
  · rename_i t ks vs ec
    split at ed
    · rename_i hk
      obtain ⟨a, us, rfl, dr, rv⟩ := dicOf_rep hh ro ec
      cases rx
      exact (dic_find hu I dr rv ri ry hk).1 ed fun w' s' v I' r rw' => ⟨v, g.H, I', rw', fin1 hh q r⟩
    · cases ed
  · split at ed
    · obtain ⟨xs, e1, e2⟩ := Option.bind_eq_some_iff.mp ed
      obtain ⟨a, us, rfl, sq, t⟩ := lookL_rep hh ro e1
      obtain ⟨w, ev, rv⟩ := atI_rep t e2
      simp only [RepV] at ri; subst ri
      exact pget_list pins s σ g.H _ _ v u Q I rx ry ⟨a, us, _, w, rfl, rfl, .of sq, ev, fin1 hh q rv⟩
    · cases ed
/-- o[i] op= e -/
def sAugS (g2 : D → D → Hea → Option D) (fo fi fe : En → Hea → R D) : FS := fun e h => (fo e h).toS e fun o h1 => (fi e h1).toS e fun i h2 => match getIy o i h2 with
  | some x => (fe e h2).toS e fun y h3 => match g2 x y h3 with
    | some z => match putIx o i z h3 with
      | some h4 => .nx e h4
      | none => .no
    | none => .no
  | none => .no
theorem ds_augS {o i e : Expr} {fo fi fe : En → Hea → R D} {g2 : D → D → Hea → Option D} {op : Operator} {pos tpos : Pos} (hu : X.A.units + 1 < cLine) (ho : DE X W o fo) (hi : DE X W i fi) (he : DE X W e fe) (hp : IpD X op g2)
    (ha : ∀ ov iv new, augStore i ov iv new = (do holding [new, ov, iv] (setItem ov iv new); release [new, ov, iv] []; pure .next) := by intros; rfl) : DS X W (.AugAssign (.Subscript o i tpos) op e pos) (sAugS g2 fo fi fe) :=
  ps_imp (ps_augS ho hi (get_d hu) he hp (set_d hu) ha) fun Dn σ H ⟨g, env, heap, e1, hh, er, p⟩ => ⟨g, env, heap, e1, hh, er, (PostS.ofR (A := RepV X.wd) p er).imp fun ov H1 ⟨g1, h1, od, e2, hh1, x1, ro, p1⟩ => by
    refine ⟨g1, env, h1, e2, hh1, er.ext x1, (PostS.ofR (A := RepV X.wd) p1 (er.ext x1)).imp fun iv H2 ⟨g2', h2, id, e3, hh2, x2, ri, p2⟩ => ?_⟩
    have er2 := (er.ext x1).ext x2
    cases q : getIy od id h2 with
    | none => simp only [q] at p2; exact p2.elim
    | some xd =>
      simp only [q] at p2
      refine ⟨g2', h2, od, id, xd, e3, hh2, ro.ext x2, ri, q, fun g3 xv hh3 x3 rx => ?_⟩
      refine ⟨g3, env, h2, rfl, hh3, er2.ext x3, (PostS.ofR (A := RepV X.wd) (PostS.rebase p2 x3) (er2.ext x3)).imp fun yv H4 ⟨g4, h4, yd, e4, hh4, x4, ry, p4⟩ => ?_⟩
      cases q2 : g2 xd yd h4 with
      | none => simp only [q2] at p4; exact p4.elim
      | some zd =>
        simp only [q2] at p4
        refine ⟨g4, h4, xd, yd, zd, e4, hh4, rx.ext x4, ry, q2, fun g5 zv hh5 x5 rz => ?_⟩
        cases q3 : putIx od id zd h4 with
        | none => simp only [q3] at p4; exact p4.elim
        | some h6 =>
          simp only [q3] at p4
          exact ⟨g5, h4, od, id, zd, h6, rfl, hh5, (((ro.ext x2).ext x3).ext x4).ext x5, ((ri.ext x3).ext x4).ext x5, rz, q3, fun g6 hh6 x6 => p4 g6 σ hh6 (x5.trans x6) ((((er2.ext x3).ext x4).ext x5).ext x6)⟩⟩
end
end DD

set_option Elab.async false
set_option linter.all false
set_option maxRecDepth 100000
set_option maxHeartbeats 1000000
namespace DD
open PySem PySem.Spec PyProof.Rows L2
section
variable {K : Wd}
/-! ### a reserved object becomes a cell -/
abbrev Gd.cel (g : Gd) (Z : List Addr) (p : Addr) : Gd := { g with Z := Z, ρ := fun n => if n = g.N then p else g.ρ n, N := g.N + 1 }
mutual
theorem RepV.cel {g : Gd} {Z : List Addr} {p : Addr} (hz : ∀ a, a ∈ Z → a ∈ g.Z) (hp : p ∈ g.Z) : ∀ {d : D} {v : V}, RepV K g d v → RepV K (g.cel Z p) d v
  | .non, v, h => by simpa [RepV] using h
  | .bl b, v, h => by simpa [RepV] using h
  | .int i, v, h => by simpa [RepV] using h
  | .str x, v, h => by simpa [RepV] using h
  | .cst u, v, h => by simpa [RepV] using h
  | .ref n, v, h => by
    simp only [RepV] at h ⊢
    refine ⟨Nat.lt_succ_of_lt h.1, ?_⟩
    rw [if_neg (Nat.ne_of_lt h.1)]; exact h.2
  | .tup ds, v, h => by
    simp only [RepV] at h ⊢
    obtain ⟨a, xs, e, q, t⟩ := h
    exact ⟨a, xs, e, q, RepVs.cel hz hp t⟩
  | .pr ds, v, h => by
    simp only [RepV] at h ⊢
    obtain ⟨a, xs, e, q, t⟩ := h
    exact ⟨a, xs, e, q, RepVs.cel hz hp t⟩
  | .lst ds, v, h => by
    simp only [RepV] at h ⊢
    obtain ⟨a, xs, e, q, n, t⟩ := h
    exact ⟨a, xs, e, q, ⟨cel_img hz hp n, fun z => n.2 (hz a z)⟩, RepVs.cel hz hp t⟩
  | .fro ds, v, h => by
    simp only [RepV] at h ⊢
    obtain ⟨a, xs, e, q, t⟩ := h
    exact ⟨a, xs, e, q, RepVs.cel hz hp t⟩
  | .dic b ks vs, v, h => by
    simp only [RepV] at h ⊢
    obtain ⟨a, us, e, q, n, t⟩ := h
    exact ⟨a, us, e, q, ⟨cel_img hz hp n, fun z => n.2 (hz a z)⟩, RepVs.cel hz hp t⟩
theorem RepVs.cel {g : Gd} {Z : List Addr} {p : Addr} (hz : ∀ a, a ∈ Z → a ∈ g.Z) (hp : p ∈ g.Z) : ∀ {ds : List D} {xs : List V}, RepVs K g ds xs → RepVs K (g.cel Z p) ds xs
  | [], xs, h => by simpa using h
  | d :: ds, xs, h => by
    obtain ⟨x, r, rfl, q, t⟩ := RepVs_cons.mp h
    exact .cons (RepV.cel hz hp q) (RepVs.cel hz hp t)
theorem cel_img {g : Gd} {Z : List Addr} {p a : Addr} (hz : ∀ a, a ∈ Z → a ∈ g.Z) (hp : p ∈ g.Z) (n : ¬ g.img a ∧ a ∉ g.Z) : ¬ (g.cel Z p).img a := by
  rintro ⟨m, hm, e⟩
  have hm : m < g.N + 1 := hm
  have e : (if m = g.N then p else g.ρ m) = a := e
  by_cases q : m = g.N
  · rw [if_pos q] at e; subst e; exact n.2 hp
  · rw [if_neg q] at e; exact n.1 ⟨m, by omega, e⟩
end
theorem CellRep.cel {g : Gd} {Z : List Addr} {p a : Addr} (hz : ∀ a, a ∈ Z → a ∈ g.Z) (hp : p ∈ g.Z) {c : Cell} (q : CellRep K g a c) : CellRep K (g.cel Z p) a c := by
  cases c with
  | lst ds => obtain ⟨xs, a, b⟩ := q; exact ⟨xs, a, b.cel hz hp⟩
  | dic t kvs => obtain ⟨us, a, b⟩ := q; exact ⟨us, a, b.cel hz hp⟩
  | ins C fs => obtain ⟨dx, fs', a, b, c⟩ := q; exact ⟨dx, fs', a, b, c.cel hz hp⟩
theorem HR.cel {g : Gd} {heap : Hea} {Z : List Addr} {p : Addr} {c : Cell} (hh : HR K g heap) (hz : ∀ a, a ∈ Z → a ∈ g.Z) (hp : p ∈ g.Z) (nz : p ∉ Z) (hc : CellRep K g p c) : HR K (g.cel Z p) (heap ++ [c]) := by
  have old : ∀ n, n < g.N → (g.cel Z p).ρ n = g.ρ n := fun n hn => by show (if n = g.N then p else g.ρ n) = _; rw [if_neg (Nat.ne_of_lt hn)]
  have new : (g.cel Z p).ρ g.N = p := by show (if g.N = g.N then p else g.ρ g.N) = p; rw [if_pos rfl]
  have ne : ∀ n, n < g.N → g.ρ n ≠ p := fun n hn z => hh.dis n hn (by rw [z]; exact hp)
  refine ⟨by simp [hh.len], fun n c' hc' => ?_, fun m n hm hn q => ?_, fun n hn => ?_, fun a z => hh.zt a (hz a z)⟩
  · by_cases q : n < heap.length
    · rw [List.getElem?_append_left q] at hc'
      have hn : n < g.N := hh.len ▸ q
      rw [old n hn]
      exact (hh.cell n c' hc').cel hz hp
    · have hn : n = heap.length := by
        have := (List.getElem?_eq_some_iff.mp hc').1
        simp at this; omega
      subst hn
      simp at hc'; subst hc'
      have : (g.cel Z p).ρ heap.length = p := by rw [← hh.len]; exact new
      rw [this]; exact hc.cel hz hp
  · have hm : m < g.N + 1 := hm
    have hn : n < g.N + 1 := hn
    rcases Nat.lt_succ_iff_lt_or_eq.mp hm with hm | rfl <;> rcases Nat.lt_succ_iff_lt_or_eq.mp hn with hn | rfl
    · rw [old m hm, old n hn] at q; exact hh.inj m n hm hn q
    · rw [old m hm, new] at q; exact absurd q (ne m hm)
    · rw [old n hn, new] at q; exact absurd q.symm (ne n hn)
    · rfl
  · have hn : n < g.N + 1 := hn
    rcases Nat.lt_succ_iff_lt_or_eq.mp hn with hn | rfl
    · rw [old n hn]; exact fun z => hh.dis n hn (hz _ z)
    · rw [new]; exact nz
theorem Ext.cel {g g' : Gd} {p : Addr} (x : Ext g g') (hp : g.H p = none) : Ext g (g'.cel g.Z p) := by
  refine ⟨⟨Nat.le_succ_of_le x.n, fun _ h => h, fun _ h => .inl h, x.w, fun n hn => ?_, fun a u e n z => ⟨(x.k a u e n z).1, ?_⟩, x.s⟩, x.q⟩
  · show (if n = g'.N then p else g'.ρ n) = _
    rw [if_neg (Nat.ne_of_lt (Nat.lt_of_lt_of_le hn x.n))]; exact x.r n hn
  · rintro ⟨m, hm, em⟩
    have hm : m < g'.N + 1 := hm
    have em : (if m = g'.N then p else g'.ρ m) = a := em
    by_cases q : m = g'.N
    · rw [if_pos q] at em; subst em; rw [hp] at e; cases e
    · rw [if_neg q] at em; exact (x.k a u e n z).2 ⟨m, by omega, em⟩
/-- the reserved object at the end: sealed or a cell -/
theorem Tn.sealD {g1 gb : Gd} {heap : Hea} {p : Addr} {t : Bool} {ks vs : List D} {us : List V} (T : Tn K g1 gb heap p) (dr : DicR K gb.H p t ks us) (rv : RepVs K gb vs us) : HR K (gb.unr g1.Z) heap ∧ Ext g1 (gb.unr g1.Z) ∧ RepV K (gb.unr g1.Z) (.dic t ks vs) (.ref p) := by
  refine ⟨T.hh.unr T.x.z, T.x.unr, ?_⟩
  simp only [RepV]
  exact ⟨p, us, rfl, dr, ⟨T.i, T.nz⟩, rv.unr T.x.z⟩
theorem Tn.cell {g1 gb : Gd} {heap : Hea} {p : Addr} {c : Cell} (T : Tn K g1 gb heap p) (hc : CellRep K gb p c) : HR K (gb.cel g1.Z p) (heap ++ [c]) ∧ Ext g1 (gb.cel g1.Z p) ∧ RepV K (gb.cel g1.Z p) (.ref heap.length) (.ref p) := by
  refine ⟨T.hh.cel T.x.z T.z T.nz hc, T.x.cel T.f, ?_⟩
  simp only [RepV]
  rw [← T.hh.len]
  refine ⟨Nat.lt_succ_self _, ?_⟩
  rw [if_pos rfl]
end
section
variable {X : Cx} {W : WX} {K : Wd}
/-! ### dict comprehensions -/
def dcL (fg : D → FS) (ft : En → Hea → R Bool) (fk fv : En → Hea → R D) (vs : List Nat) (e0 : En) : List D → List (D × D) → Hea → R (List (D × D))
  | [], acc, h => .ok acc h
  | x :: xs, acc, h => match fg x (wipeE e0 vs) h with
    | .nx e1 h1 => (ft e1 h1).nox.bind fun b h2 => if b = true then (fk e1 h2).nox.bind fun k h3 => (fv e1 h3).nox.bind fun v h4 => if okK false k = true ∧ acc.length < sizeLine then dcL fg ft fk fv vs e0 xs (putDD acc k v) h4 else .no
        else dcL fg ft fk fv vs e0 xs acc h2
    | _ => .no
/-- a dict's end: sealed or a cell -/
def dcF (cell : Bool) (acc : List (D × D)) (h : Hea) : R D := match cell with
  | false => .ok (.dic false (acc.map (·.1)) (acc.map (·.2))) h
  | true => .ok (.ref h.length) (h ++ [.dic false acc])
def fDc (cell : Bool) (fi : En → Hea → R (List D)) (fg : D → FS) (ft : En → Hea → R Bool) (fk fv : En → Hea → R D) (vs : List Nat) : En → Hea → R D := fun e h => (fi e h).bind fun xs h1 => (dcL fg ft fk fv vs e xs [] h1).bind (dcF cell)
theorem rd_dc {cell : Bool} {fi : En → Hea → R (List D)} {fg : D → FS} {ft : En → Hea → R Bool} {fk fv : En → Hea → R D} {vs : List Nat} {σ : L2.St} {H : Hp} {Q : VK} (p : rd K W (RepV K) (fDc cell fi fg ft fk fv vs) σ H Q) :
    tDc (fun σ H R => rd K W (ItR K) fi σ H fun J H' => R J H') (rdG K vs fg) (rd K WF Eqb ft) (rd K WF (RepV K) fk) (rd K WF (RepV K) fv) vs σ H Q := by
  obtain ⟨g, env, heap, e1, hh, er, p⟩ := p
  refine ⟨g, env, heap, e1, hh, er, (Post.bind (A := ItR K) p).imp fun J H1 ⟨g1, h1, xs, e2, hh1, x1, ri, p1⟩ => ?_⟩
  subst e2
  intro dd hD
  let Iv : Nat → Hp → Prop := fun i H => i ≤ xs.length ∧ ∃ gb heap acc kvs, gb.H = H ∧ Tn K g1 gb heap dd ∧ ER K gb env σ ∧ gb.H dd = some (.dK kvs) ∧ acc.map (·.1) = kvs.map (fun p => kD p.1) ∧ RepVs K gb (acc.map (·.2)) (kvs.map (·.2)) ∧ Post K W (RepV K) σ g1 ((dcL fg ft fk fv vs env (xs.drop i) acc heap).bind (dcF cell)) Q
  refine ⟨fun i m H => m = xs.length - i ∧ Iv i H, ⟨_, rfl, Nat.zero_le _, g1.rsv dd (.dK []), h1, [], [], rfl, .start hh1 hD, (er.ext x1).ext (hh1.rsv hD).1, upd_same, rfl, .nil, p1⟩, ?_⟩
  rintro i m H2 ⟨rfl, hi, gb, heap2, acc, kvs, rfl, t, erb, hp, hk, ra, pp⟩
  by_cases hlt : i < xs.length
  · obtain ⟨go, y⟩ := (ri gb heap2 t.hh t.x.toExtW i).1 xs[i] (by simp [hlt])
    refine .inr ⟨go, Iv (i + 1), fun H' z => ⟨xs.length - (i + 1), by omega, rfl, z⟩, fun x H' yl => ?_⟩
    obtain ⟨g3, e3, hh3, x3, rx⟩ := y x H' yl
    subst e3
    rw [List.drop_eq_getElem_cons hlt] at pp
    refine ⟨g3, wipeE env vs, heap2, xs[i], rfl, hh3, (erb.wipe vs).ext x3, rx, ?_⟩
    unfold dcL at pp
    cases hg : fg xs[i] (wipeE env vs) heap2 with
    | nx e1 h1' =>
      rw [hg] at pp
      dsimp only at pp
      intro g4 σ4 hh4 x4 er4 ch
      have ww : ∀ s : List (Option V), L2.wipe (L2.wipe s vs) vs = L2.wipe s vs := fun s => by
        apply List.ext_getElem?
        intro i
        rw [wipe_get, wipe_get]
        by_cases h : i ∈ vs <;> simp [h, wipe_length]
      refine ⟨by rw [ch.wipe, ww], g4, e1, h1', rfl, hh4, er4, ?_⟩
      cases ht : ft e1 h1' with
      | no => rw [ht] at pp; exact pp.elim
      | ex a b => rw [ht] at pp; exact pp.elim
      | ok b h2 =>
        rw [ht] at pp
        simp only [R.nox_ok, R.bind_ok] at pp
        intro g5 b' hh5 x5 eb
        subst eb
        have xx := (x3.trans x4).trans x5
        obtain ⟨t5, p5⟩ := t.next hp hh5 xx
        have ra5 := ra.ext xx
        cases b' with
        | false =>
          rw [if_neg Bool.false_ne_true] at pp ⊢
          exact ⟨hlt, g5, h2, acc, kvs, rfl, t5, erb.ext xx, p5, hk, ra5, pp⟩
        | true =>
          rw [if_pos rfl] at pp ⊢
          refine ⟨g5, e1, h2, rfl, hh5, er4.ext x5, ?_⟩
          cases he : fk e1 h2 with
          | no => rw [he] at pp; exact pp.elim
          | ex a b => rw [he] at pp; exact pp.elim
          | ok kd h3 =>
            rw [he] at pp
            simp only [R.nox_ok, R.bind_ok] at pp
            intro g6 w hh6 x6 rk
            obtain ⟨t6, p6⟩ := t5.next p5 hh6 x6
            refine ⟨g6, e1, h3, rfl, hh6, (er4.ext x5).ext x6, ?_⟩
            cases hv : fv e1 h3 with
            | no => rw [hv] at pp; exact pp.elim
            | ex a b => rw [hv] at pp; exact pp.elim
            | ok vd h4 =>
              rw [hv] at pp
              simp only [R.nox_ok, R.bind_ok] at pp
              intro g7 z hh7 x7 rz
              obtain ⟨t7, p7⟩ := t6.next p6 hh7 x7
              have ra7 := (ra5.ext x6).ext x7
              split at pp
              · rename_i hok
                obtain ⟨k, ek⟩ := Option.isSome_iff_exists.mp hok.1
                have := keyD_eq ek
                subst this
                have := rep_key (rk.ext x7)
                subst this
                have hlen : kvs.length = acc.length := by have := congrArg List.length hk; simpa using this.symm
                refine ⟨kvs, k, rfl, p7, by omega, ?_⟩
                have t8 := t7.upd (o' := .dK (putK kvs k z)) p7 (fun q => q)
                have xw := ExtW.upZ (o' := .dK (putK kvs k z)) p7 (fun q => q) t7.z
                obtain ⟨k1, k2⟩ := put_k (k := k) (rz.extw xw) hk (ra7.extw xw)
                exact ⟨hlt, _, h4, _, _, rfl, t8, ((((erb.ext xx).ext x6).ext x7).extw xw), upd_same, k1, k2, pp⟩
              · exact pp.elim
    | no => rw [hg] at pp; exact pp.elim
    | rt _ _ => rw [hg] at pp; exact pp.elim
    | bk _ _ => rw [hg] at pp; exact pp.elim
    | ct _ _ => rw [hg] at pp; exact pp.elim
    | ex _ _ _ => rw [hg] at pp; exact pp.elim
  · have e : i = xs.length := by omega
    subst e
    rw [List.drop_length] at pp
    refine .inl ⟨(ri gb heap2 t.hh t.x.toExtW _).2 (Nat.le_refl _), ?_⟩
    have dr : DicR K gb.H dd false (acc.map (·.1)) (kvs.map (·.2)) := ⟨kvs, hp, hk, rfl⟩
    simp only [dcL, R.bind_ok] at pp
    cases cell with
    | false =>
      obtain ⟨a1, a2, a3⟩ := t.sealD dr ra
      have z := pp (gb.unr g1.Z) _ a1 a2 a3
      exact z
    | true =>
      obtain ⟨a1, a2, a3⟩ := t.cell (c := .dic false acc) ⟨_, dr, ra⟩
      have z := pp (gb.cel g1.Z dd) _ a1 a2 a3
      exact z
theorem de_dc {cell : Bool} {kx vx tg iter : Expr} {ifs : List Expr} {scope : Scope} {own : List (Str × Nat)} {pos : Pos} {fi : En → Hea → R (List D)} {fg : D → FS} {ft : En → Hea → R Bool} {fk fv : En → Hea → R D} {vs0 : List Nat} (hc : X.calm = true) (hN : X.N.Nodup) (hi : DI X W tg iter fi) (ok : BlkOk X.N X.env.scope scope own) (hv : ∀ i ∈ vs0, i ∈ own.map (·.2))
    (hg : ∀ (s : Shared) (H : Hp) (C : Addr) (cl : List (Str × Addr)) (fp : List Addr), DG (X.blk s H scope (compEnvC scope cl C X.env) fp) tg vs0 fg) (ht : ∀ (s : Shared) (H : Hp) (C : Addr) (cl : List (Str × Addr)) (fp : List Addr), DTs (X.blk s H scope (compEnvC scope cl C X.env) fp) WF ifs ft)
    (hk : ∀ (s : Shared) (H : Hp) (C : Addr) (cl : List (Str × Addr)) (fp : List Addr), DE (X.blk s H scope (compEnvC scope cl C X.env) fp) WF kx fk)
    (he : ∀ (s : Shared) (H : Hp) (C : Addr) (cl : List (Str × Addr)) (fp : List Addr), DE (X.blk s H scope (compEnvC scope cl C X.env) fp) WF vx fv) (hs : ∀ x, foldedSetIterable iter X.env x = pure x := by intro _; rfl) :
    DE X W (.DictComp kx vx [⟨tg, iter, ifs, 0⟩] scope pos) (fDc cell fi fg ft fk fv (own.map (·.2))) :=
  pe_imp (pe_dc hc hN hi ok (fun s H C cl fp => dg_weak (hg s H C cl fp) hv) ht hk he hs) fun σ H Q p => rd_dc p
/-! ### displays -/
/-- {}: a new cell -/
def fNew (t : Bool) : En → Hea → R D := fun _ h => .ok (.ref h.length) (h ++ [.dic t []])
theorem dt_none {P : Program} {w : World} {K : PySem.W.Frag} {H : Hp} (h : Heap) (hb : sysModules < h.objs.size) : ObjOk P w H (h.push { cls := .type "dict", data := .dict #[] }) h.objs.size (.ext (DTφ ⟨P, w, K⟩ h.objs.size [])) :=
  ⟨⟨Nat.zero_le _, beq_eq_false_iff_ne.mpr (Ne.symm (Nat.ne_of_lt hb)), _, #[], 0, Heap.get?_push_size _ rfl, ⟨rfl, rfl, rfl⟩, rfl, rfl, List.nodup_nil⟩, ⟨_, Heap.get?_push_size _ rfl⟩, fun h1 h2 p st => by
    obtain ⟨z1, z2, o, es, ep, q1, q2, q3, q4, q5⟩ := p
    exact ⟨z1, z2, o, es, ep, st _ q1, q2, q3, q4, q5⟩⟩
theorem cel_rep {g : Gd} {heap : Hea} {p : Addr} {o : HO} (hh : HR K g heap) : RepV K (g.add p o) (.ref heap.length) (.ref p) := by
  simp only [RepV]
  rw [← hh.len]
  refine ⟨Nat.lt_succ_self _, ?_⟩
  rw [if_pos rfl]
theorem de_new {t : Bool} {pos : Pos} : DE X W (.Dict [] [] pos) (fNew t) := by
  refine ⟨fun pins s σ H Q I ⟨g, env, heap, e1, hh, er, p⟩ => ?_⟩
  subst e1
  have hp := I.hok.fresh (Nat.le_refl s.heap.objs.size)
  cases t with
  | false =>
    refine wpAny_Dict_empty ⟨.ref s.heap.objs.size, _, I.laid (a := s.heap.objs.size) (o := .dK []) (t' := s.toks) (fun _ _ q => Heap.get?_push_of_some _ q) (Nat.le_refl _) (dk_empty s.heap I.big), rfl, ?_⟩
    exact p (g.add s.heap.objs.size (.dK [])) _ (hh.add hp ⟨[], ⟨[], upd_same, rfl, rfl⟩, .nil⟩) (hh.ext_add hp) (cel_rep hh)
  | true =>
    refine wpAny_Dict_empty ⟨.ref s.heap.objs.size, _, I.laid (a := s.heap.objs.size) (o := .ext (DTφ X.wd s.heap.objs.size [])) (t' := s.toks) (fun _ _ q => Heap.get?_push_of_some _ q) (Nat.le_refl _) (dt_none s.heap I.big), rfl, ?_⟩
    exact p (g.add s.heap.objs.size (.ext (DTφ X.wd s.heap.objs.size []))) _ (hh.add hp ⟨[], ⟨[], upd_same, rfl, (fun x hx => nomatch hx), .nil⟩, .nil⟩) (hh.ext_add hp) (cel_rep hh)
/-- {k: v}, the key a tuple: a new cell -/
def fOneT (fk fv : En → Hea → R D) : En → Hea → R D := fun e h => (fk e h).bind fun k h1 => (fv e h1).bind fun v h2 => if okK true k = true then .ok (.ref h2.length) (h2 ++ [.dic true [(k, v)]]) else .no
theorem de_oneT {kx vx : Expr} {fk fv : En → Hea → R D} {pos : Pos} (hu : X.A.units < cLine) (hk : DE X WF kx fk) (hv : DE X WF vx fv) : DE X W (.Dict [some kx] [vx] pos) (fun e h => (fOneT fk fv e h).nox) := by
  refine ⟨fun pins s σ H Q I ⟨g, env, heap, e1, hh, er, p⟩ => ?_⟩
  subst e1
  have hp := I.hok.fresh (Nat.le_refl s.heap.objs.size)
  have I1 := I.laid (a := s.heap.objs.size) (o := .ext (DTφ X.wd s.heap.objs.size [])) (t' := s.toks) (fun _ _ q => Heap.get?_push_of_some _ q) (Nat.le_refl _) (dt_none s.heap I.big)
  have T0 : Tn X.wd g (g.rsv s.heap.objs.size (.ext (DTφ X.wd s.heap.objs.size []))) heap s.heap.objs.size := .start hh hp
  have er0 := er.ext (hh.rsv (o := .ext (DTφ X.wd s.heap.objs.size [])) hp).1
  refine wpAny_Dict_any rfl rfl (by simp) (by simp) (pairTrees_cons_walk ?_)
  dsimp only [fOneT] at p
  cases q1 : fk env heap with
  | no => rw [q1] at p; exact p.elim
  | ex a b => rw [q1] at p; exact p.elim
  | ok kd h1 =>
    rw [q1] at p
    simp only [R.bind_ok] at p
    refine thn (hk.run pins _ σ _ (fun v H1 => ∃ g1, g1.H = H1 ∧ HR X.wd g1 h1 ∧ Ext (g.rsv s.heap.objs.size (.ext (DTφ X.wd s.heap.objs.size []))) g1 ∧ RepV X.wd g1 kd v) I1 ⟨_, env, heap, rfl, T0.hh, er0, by rw [q1]; exact fun g' v a b c => ⟨g', rfl, a, b, c⟩⟩) fun ku s1 ⟨kv, H1, I2, rk, g1, e2, hh1, x1, rkd⟩ => ?_
    subst e2
    cases q2 : fv env h1 with
    | no => rw [q2] at p; exact p.elim
    | ex a b => rw [q2] at p; exact p.elim
    | ok vd h2 =>
      rw [q2] at p
      simp only [R.bind_ok] at p
      refine thn (hv.run pins _ σ _ (fun v H2 => ∃ g2, g2.H = H2 ∧ HR X.wd g2 h2 ∧ Ext g1 g2 ∧ RepV X.wd g2 vd v) I2 ⟨_, env, h1, rfl, hh1, er0.ext x1, by rw [q2]; exact fun g' v a b c => ⟨g', rfl, a, b, c⟩⟩) fun vu s2 ⟨vv, H2, I3, rv, g2, e3, hh2, x2, rvd⟩ => ?_
      subst e3
      split at p
      · rename_i hok
        simp only [R.nox_ok] at p
        obtain ⟨T1, p1⟩ := T0.next upd_same hh1 x1
        obtain ⟨T2, p2⟩ := T1.next p1 hh2 x2
        obtain ⟨k, ek⟩ := Option.isSome_iff_exists.mp hok
        have := keyT_eq ek
        subst this
        obtain ⟨b, rfl, tb⟩ := tup_ref (rkd.ext x2)
        cases rk
        refine pairTrees_nil_walk ?_
        have dr0 : DicR X.wd g2.H s.heap.objs.size true [] [] := ⟨[], p2, rfl, (fun x hx => nomatch hx), .nil⟩
        obtain ⟨xs, e, dd, z, hd, e1, e3, e2'⟩ := dt_open I3 dr0
        have hx0 : xs = [] := by simpa using e1.symm
        subst hx0
        show wpAny _ _ (storeAll s.heap.objs.size [(Value.ref b, vu)]) _ _ s2
        unfold storeAll
        rw [List.forIn_cons]
        refine wpAny_bind (wpAny_bind (wpAny_dictSet_heap (hsz := z) (knd := tupleKind (mixKind X.prog X.w)) hu (key_ofT I3 tb) dd fun h5 dd' hs => wpAny_pure ?_))
        obtain ⟨o, es, ep, hq, h2', h3, h4, _, h5'⟩ := dd'
        have new : DTφ X.wd s.heap.objs.size [(k, b, vu)] h5 := ⟨by show 1 ≤ sizeLine; decide, hd, o, es, ep, hq, h2', h3, h4, h5'⟩
        have I' : Inv X pins σ (upd g2.H s.heap.objs.size (.ext (DTφ X.wd s.heap.objs.size [(k, b, vu)]))) { s2 with heap := h5, toks := s2.toks + (tupleKind (mixKind X.prog X.w)).draws k } :=
          d_write I3 (by rw [p2]; exact True.intro) hs ⟨o, hq⟩ ⟨new, ⟨o, hq⟩, fun h1 h2 p st => by
            obtain ⟨z1, z2, o, es, ep, q1, q2, q3, q4, q5⟩ := p
            exact ⟨z1, z2, o, es, ep, st _ q1, q2, q3, q4, q5⟩⟩
        have T3 := T2.upd (o' := .ext (DTφ X.wd s.heap.objs.size [(k, b, vu)])) p2 (fun q => q)
        have xw := ExtW.upZ (o' := .ext (DTφ X.wd s.heap.objs.size [(k, b, vu)])) p2 (fun q => q) T2.z
        refine wpAny_pure ?_
        obtain ⟨a1, a2, a3⟩ := T3.cell (c := .dic true [(.tup (k.map kD), vd)]) ⟨[vv], ⟨[(k, b, vu)], upd_same, rfl, fun x hx => by rw [List.mem_singleton.mp hx]; exact tb.keep xw.s, .cons rv .nil⟩, .cons (rvd.extw xw) .nil⟩
        have zz := p _ _ a1 a2 a3
        exact ⟨.ref s.heap.objs.size, _, I', rfl, zz⟩
      · exact p.elim
end
end DD

set_option Elab.async false
set_option linter.all false
set_option maxRecDepth 100000
set_option maxHeartbeats 1000000
set_option profiler true
set_option profiler.threshold 2000
/-! list(zip(a, b)): the pairs stay in the list, so each turn makes a new one -/
namespace DD
open PySem PySem.Spec PySem.Calls PyProof.Rows L2
section
variable {prog : Program} {w : World} {A : Around} {E : Value → Shared → Prop} {s : Shared} {z TI TO T i1 i2 : Addr} {fp1 fp2 : List Addr} {n1 n2 i : Nat} {P1 P2 : Nat → Value → Prop} {St1 St2 : Nat → Heap → Prop} {f : Bool} {oT : Obj}
theorem lz_next {Q : Value → Shared → Prop} (S : ZipSep2 z TI TO i1 i2 fp1 fp2) (D1 : Draws prog w A i1 fp1 n1 P1 St1) (D2 : Draws prog w A i2 fp2 n2 P2 St2) (hz : IsZipHeld s.heap z TI TO T f) (hT : s.heap.get? T = some oT) (hTI : IsTupOf2 s.heap TI (.ref i1) (.ref i2)) (st1 : St1 i s.heap) (st2 : St2 i s.heap) (l1 : i < n1) (l2 : i < n2)
    (hQ : ∀ x1 x2 h' tk, P1 i x1 → P2 i x2 → IsZipHeld h' z TI TO T true → St1 (i + 1) h' → St2 (i + 1) h' → IsTupOf2 h' s.heap.objs.size x1 x2 → h'.objs.size = s.heap.objs.size + 1 → (∀ c o, c ≠ z → c ≠ i1 → c ≠ i2 → s.heap.get? c = some o → h'.get? c = some o) → Q (.ref s.heap.objs.size) { s with heap := h', toks := tk }) :
    wpAny (model prog w) A (Builtin.«zip.__next__» ⟨[.ref z], []⟩) (fun fin s' => ∃ v, fin = .done (.ret v) ∧ Q v s') E s := by
  obtain ⟨hp, gs, dr, tk, os⟩ := s
  show wpAny _ _ (field (.ref z) 2 >>= _) _ _ _
  refine wpAny_bind (wpAny_field hz rfl (x := .bool false) rfl ?_)
  show wpAny _ _ (field (.ref z) 3 >>= _) _ _ _
  refine wpAny_bind (wpAny_field hz rfl (x := .ref TI) rfl (wpAny_bind (wpAny_seqItems hTI rfl ?_)))
  show wpAny _ _ (Builtin.SmallTypes.ownedTupleIsFree (.ref z) >>= _) _ _ _
  refine wpAny_bind (wpAny_tupleHeld_zip hz hT fun h₁ hz₁ hs₁ => ?_)
  simp only [Bool.false_eq_true, if_false]
  rw [← Array.forIn_toList]
  simp only [List.forIn_cons, List.forIn_nil]
  refine wpAny_bind (wpAny_bind (wpAny_bind (wpAny_holding ?_)))
  show wpAny _ _ (Builtin.SmallTypes.nextOf (.ref i1) >>= _) _ _ ⟨h₁, gs, dr, tk, os⟩
  refine wpAny_bind (D1.item i ⟨h₁, gs, dr, tk, os⟩ _ _ l1 (D1.over st1 hs₁ S.zf1) fun x1 h₂ tk2 hx1 sn1 hs₂ => wpAny_pure (wpAny_pure (wpAny_bind (wpAny_bind (wpAny_holding ?_)))))
  replace hs₂ : Heap.SameBut i1 h₁ h₂ := hs₂
  show wpAny _ _ (Builtin.SmallTypes.nextOf (.ref i2) >>= _) _ _ ⟨h₂, gs, dr, tk2, os⟩
  refine wpAny_bind (D2.item i ⟨h₂, gs, dr, tk2, os⟩ _ _ l2 (D2.over (D2.over st2 hs₁ S.zf2) hs₂ S.sep1_2) fun x2 h₃ tk3 hx2 sn2 hs₃ => wpAny_pure (wpAny_pure (wpAny_pure ?_)))
  replace hs₃ : Heap.SameBut i2 h₂ h₃ := hs₃
  show wpAny _ _ (newTuple [x1, x2] >>= _) _ _ ⟨h₃, gs, dr, tk3, os⟩
  refine wpAny_bind (wpAny_newTuple ?_)
  have hsz : h₃.objs.size = hp.objs.size := by rw [hs₃.1, hs₂.1, hs₁.1]
  have hz₃ : IsZipHeld h₃ z TI TO T true := hs₃.extBut _ _ S.zi2 (hs₂.extBut _ _ S.zi1 hz₁)
  have hk : ∀ c o, c ≠ z → c ≠ i1 → c ≠ i2 → hp.get? c = some o → h₃.get? c = some o := fun c o c1 c2 c3 e => hs₃.extBut _ _ c3 (hs₂.extBut _ _ c2 (hs₁.extBut _ _ c1 e))
  have j1 : St1 (i + 1) h₃ := D1.over sn1 hs₃ S.sep2_1
  refine wpAny_pure ⟨_, rfl, ?_⟩
  show Q (.ref h₃.objs.size) _
  have hp5 : IsTupOf2 (h₃.push { cls := .type "tuple", data := .seq #[x1, x2] }) h₃.objs.size x1 x2 := Heap.get?_push_size _ rfl
  have hz4 : (h₃.push { cls := .type "tuple", data := .seq #[x1, x2] }).objs.size = h₃.objs.size + 1 := Heap.size_push ..
  rw [hsz] at hp5 hz4 ⊢
  exact hQ x1 x2 _ tk3 hx1 hx2 (Heap.get?_push_of_some _ hz₃) (D1.frame _ _ _ j1 fun b _ o e => Heap.get?_push_of_some _ e) (D2.frame _ _ _ sn2 fun b _ o e => Heap.get?_push_of_some _ e) hp5 hz4 fun c o c1 c2 c3 e => Heap.get?_push_of_some _ (hk c o c1 c2 c3 e)
theorem lz_end {Q : Fin → Shared → Prop} (S : ZipSep2 z TI TO i1 i2 fp1 fp2) (D1 : Draws prog w A i1 fp1 n1 P1 St1) (D2 : Draws prog w A i2 fp2 n2 P2 St2) (hz : IsZipHeld s.heap z TI TO T f) (hT : s.heap.get? T = some oT) (hTI : IsTupOf2 s.heap TI (.ref i1) (.ref i2)) (st1 : St1 i s.heap) (st2 : St2 i s.heap) (l1 : i ≤ n1) (l2 : i ≤ n2) (he : i = n1 ∨ i = n2)
    (hE : ∀ h' tk e, (∀ c o, c ≠ z → c ≠ i1 → c ≠ i2 → s.heap.get? c = some o → h'.get? c = some o) → (∃ o, h'.get? e = some o ∧ o.cls = .type "StopIteration") → E (.ref e) { s with heap := h', toks := tk }) :
    wpAny (model prog w) A (Builtin.«zip.__next__» ⟨[.ref z], []⟩) Q E s := by
  obtain ⟨hp, gs, dr, tk, os⟩ := s
  show wpAny _ _ (field (.ref z) 2 >>= _) _ _ _
  refine wpAny_bind (wpAny_field hz rfl (x := .bool false) rfl ?_)
  show wpAny _ _ (field (.ref z) 3 >>= _) _ _ _
  refine wpAny_bind (wpAny_field hz rfl (x := .ref TI) rfl (wpAny_bind (wpAny_seqItems hTI rfl ?_)))
  show wpAny _ _ (Builtin.SmallTypes.ownedTupleIsFree (.ref z) >>= _) _ _ _
  refine wpAny_bind (wpAny_tupleHeld_zip hz hT fun h₁ hz₁ hs₁ => ?_)
  simp only [Bool.false_eq_true, if_false]
  rw [← Array.forIn_toList]
  simp only [List.forIn_cons, List.forIn_nil]
  refine wpAny_bind (wpAny_bind (wpAny_bind (wpAny_holding ?_)))
  show wpAny _ _ (Builtin.SmallTypes.nextOf (.ref i1) >>= _) _ _ ⟨h₁, gs, dr, tk, os⟩
  by_cases hl1 : i < n1
  · refine wpAny_bind (D1.item i ⟨h₁, gs, dr, tk, os⟩ _ _ hl1 (D1.over st1 hs₁ S.zf1) fun x1 h₂ tk2 hx1 sn1 hs₂ => wpAny_pure (wpAny_pure (wpAny_bind (wpAny_bind (wpAny_holding ?_)))))
    replace hs₂ : Heap.SameBut i1 h₁ h₂ := hs₂
    have e2 : i = n2 := by omega
    show wpAny _ _ (Builtin.SmallTypes.nextOf (.ref i2) >>= _) _ _ ⟨h₂, gs, dr, tk2, os⟩
    refine wpAny_bind (D2.done ⟨h₂, gs, dr, tk2, os⟩ _ _ (by rw [← e2]; exact D2.over (D2.over st2 hs₁ S.zf2) hs₂ S.sep1_2) fun h₃ e hs₃ hx => ?_)
    exact hE h₃ tk2 e (fun c o c1 c2 c3 x => hs₃ _ _ c3 (hs₂.extBut _ _ c2 (hs₁.extBut _ _ c1 x))) hx
  · have e1 : i = n1 := by omega
    refine wpAny_bind (D1.done ⟨h₁, gs, dr, tk, os⟩ _ _ (by rw [← e1]; exact D1.over st1 hs₁ S.zf1) fun h₂ e hs₂ hx => ?_)
    exact hE h₂ tk e (fun c o c1 c2 c3 x => hs₂ _ _ c2 (hs₁.extBut _ _ c1 x)) hx
/-- the zip at turn i: its first tuple is not made yet, or the last one is out -/
def LzSt (z TI TO i1 i2 : Addr) (St1 St2 : Nat → Heap → Prop) (i : Nat) (h : Heap) : Prop :=
  ((IsZip h z TI TO .none ∧ ∃ a1 a2, IsTupOf2 h TO a1 a2) ∨ ∃ T f oT, IsZipHeld h z TI TO T f ∧ h.get? T = some oT ∧ T ≠ z ∧ T ≠ TO ∧ T ≠ i1 ∧ T ≠ i2) ∧ IsTupOf2 h TI (.ref i1) (.ref i2) ∧ St1 i h ∧ St2 i h
theorem LzSt.frame (D1 : Draws prog w A i1 fp1 n1 P1 St1) (D2 : Draws prog w A i2 fp2 n2 P2 St2) {S : Addr} {h h' : Heap} (st : LzSt z TI TO i1 i2 St1 St2 i h) (k : ∀ b o, b ≠ S → h.get? b = some o → h'.get? b = some o) (hz : S ≠ z) (hI : S ≠ TI) (hO : S ≠ TO) (h1 : S ∉ fp1) (h2 : S ∉ fp2) (hS : ∀ T, h.get? S ≠ some T → True) (hg : ∀ T f, IsZipHeld h z TI TO T f → S ≠ T) : LzSt z TI TO i1 i2 St1 St2 i h' := by
  obtain ⟨a, b, c, d⟩ := st
  refine ⟨?_, k _ _ (Ne.symm hI) b, D1.frame _ _ _ c fun x hx o e => k _ _ (fun q => h1 (by rw [← q]; exact hx)) e, D2.frame _ _ _ d fun x hx o e => k _ _ (fun q => h2 (by rw [← q]; exact hx)) e⟩
  rcases a with ⟨a, a1, a2, a3⟩ | ⟨T, f, oT, a1, a2, a3⟩
  · exact .inl ⟨k _ _ (Ne.symm hz) a, a1, a2, k _ _ (Ne.symm hO) a3⟩
  · exact .inr ⟨T, f, oT, k _ _ (Ne.symm hz) a1, k _ _ (Ne.symm (hg T f a1)) a2, a3⟩
theorem lz_item {Q : Option Value → Shared → Prop} (S : ZipSep2 z TI TO i1 i2 fp1 fp2) (D1 : Draws prog w A.in1 i1 fp1 n1 P1 St1) (D2 : Draws prog w A.in1 i2 fp2 n2 P2 St2) (st : LzSt z TI TO i1 i2 St1 St2 i s.heap) (l1 : i < n1) (l2 : i < n2)
    (hQ : ∀ x1 x2 h' tk, P1 i x1 → P2 i x2 → LzSt z TI TO i1 i2 St1 St2 (i + 1) h' → IsTupOf2 h' s.heap.objs.size x1 x2 → h'.objs.size = s.heap.objs.size + 1 → (∀ T f, IsZipHeld h' z TI TO T f → T = s.heap.objs.size ∨ ∃ f', IsZipHeld s.heap z TI TO T f') → (∀ c o, c ≠ z → c ≠ TO → c ≠ i1 → c ≠ i2 → s.heap.get? c = some o → h'.get? c = some o) → Q (some (.ref s.heap.objs.size)) { s with heap := h', toks := tk }) :
    wpAny (model prog w) A (pyNext (.ref z)) Q E s := by
  obtain ⟨a, b, c, d⟩ := st
  have lt : ∀ {c o}, s.heap.get? c = some o → s.heap.objs.size ≠ c := fun e => Nat.ne_of_gt (Heap.lt_size e)
  have n1 : s.heap.objs.size ≠ i1 := by obtain ⟨_, e⟩ := D1.live _ _ c; exact lt e
  have n2 : s.heap.objs.size ≠ i2 := by obtain ⟨_, e⟩ := D2.live _ _ d; exact lt e
  rcases a with ⟨a, a1, a2, a3⟩ | ⟨T, f, oT, a1, a2, a3, a4, a5, a6⟩
  · refine wpAny_pyNext_zipD2_item S D1 D2 a b a3 c d l1 l2 fun x1 x2 h' tk y1 y2 b1 b2 d1 d2 b5 b6 b7 => ?_
    refine hQ x1 x2 h' tk y1 y2 ⟨.inr ⟨s.heap.objs.size, false, _, b1, b5, lt a, lt a3, n1, n2⟩, b7 _ _ S.TIz S.TITO S.TIi1 S.TIi2 b, d1, d2⟩ b5 b6 (fun T f e => .inl ?_) b7
    have := b1.symm.trans e
    simp [rawInt] at this
    exact (Int.ofNat_inj.mp this.1).symm
  · have hTy : s.TypeIs (.ref z) "zip" := ⟨_, a1, rfl⟩
    unfold pyNext
    refine wpAny_bind (wpAny_attempt (wpAny_callSpecial?_slot (name := Str.ofString "__next__") hTy F.slot_zip_next (wpAny_call_entry F.slot_zip_next hTy F.entry_zip_next
      (lz_next S D1 D2 a1 a2 b c d l1 l2 fun x1 x2 h' tk y1 y2 b1 d1 d2 b5 b6 b7 => wpAny_pure ?_) (F.args_zip_next_1 _))))
    refine hQ x1 x2 h' tk y1 y2 ⟨.inr ⟨T, true, oT, b1, b7 _ _ a3 a5 a6 a2, a3, a4, a5, a6⟩, b7 _ _ S.TIz S.TIi1 S.TIi2 b, d1, d2⟩ b5 b6 (fun T' f' e => .inr ⟨f, ?_⟩) fun c o c1 _ c3 c4 e => b7 c o c1 c3 c4 e
    have := b1.symm.trans e
    simp [rawInt] at this
    rw [← Int.ofNat_inj.mp this.1]; exact a1
theorem lz_done {Q : Option Value → Shared → Prop} (S : ZipSep2 z TI TO i1 i2 fp1 fp2) (D1 : Draws prog w A.in1 i1 fp1 n1 P1 St1) (D2 : Draws prog w A.in1 i2 fp2 n2 P2 St2) (st : LzSt z TI TO i1 i2 St1 St2 i s.heap) (l1 : i ≤ n1) (l2 : i ≤ n2) (he : i = n1 ∨ i = n2)
    (hQ : ∀ h' tk, (∀ c o, c ≠ z → c ≠ TO → c ≠ i1 → c ≠ i2 → s.heap.get? c = some o → h'.get? c = some o) → Q none { s with heap := h', toks := tk }) : wpAny (model prog w) A (pyNext (.ref z)) Q E s := by
  obtain ⟨a, b, c, d⟩ := st
  rcases a with ⟨a, a1, a2, a3⟩ | ⟨T, f, oT, a1, a2, a3, a4, a5, a6⟩
  · exact wpAny_pyNext_zipD2_end S D1 D2 a b a3 c d l1 l2 he hQ
  · have hTy : s.TypeIs (.ref z) "zip" := ⟨_, a1, rfl⟩
    unfold pyNext
    refine wpAny_bind (wpAny_attempt (wpAny_callSpecial?_slot (name := Str.ofString "__next__") hTy F.slot_zip_next (wpAny_call_entry F.slot_zip_next hTy F.entry_zip_next
      (lz_end S D1 D2 a1 a2 b c d l1 l2 he fun h' tk e hk hx => ?_) (F.args_zip_next_1 _))))
    obtain ⟨o, ho, hc⟩ := hx
    exact wpAny_bind (wpAny_isInstance (T := "StopIteration") (b := true) ⟨o, ho, hc⟩ isSubtype_stop (wpAny_pure (hQ h' tk fun c o c1 _ c3 c4 e => hk c o c1 c3 c4 e)))
/-- the pairs given out -/
def LzGot (P1 P2 : Nat → Value → Prop) (base : Nat) (i : Nat) (Ts : List Addr) (acc : Array Value) (h : Heap) : Prop :=
  acc.toList = Ts.map Value.ref ∧ Ts.length = i ∧ Ts.Nodup ∧ (∀ T ∈ Ts, base ≤ T ∧ T < h.objs.size) ∧ ∀ j T, Ts[j]? = some T → ∃ x y, P1 j x ∧ P2 j y ∧ IsTupOf2 h T x y
theorem lz_loop {R : Result → Shared → Prop} {base n : Nat} {L : Addr} {res : Value} (S : ZipSep2 z TI TO i1 i2 fp1 fp2) (D1 : Draws prog w A.in1.in1 i1 fp1 n1 P1 St1) (D2 : Draws prog w A.in1.in1 i2 fp2 n2 P2 St2) (hn : n = min n1 n2) (hsz : n ≤ sizeLine) (hb : base = L + 1) (bz : z < base) (bO : TO < base) (b1 : i1 < base) (b2 : i2 < base) (Lz : L ≠ z) (LI : L ≠ TI) (LO : L ≠ TO) (L1 : L ∉ fp1) (L2' : L ∉ fp2) :
    ∀ (k i : Nat) (s : Shared) (acc : Array Value) (c : Nat) (Ts : List Addr), n - i = k → i ≤ n → LzSt z TI TO i1 i2 St1 St2 i s.heap → (∀ T f, IsZipHeld s.heap z TI TO T f → base ≤ T) → base ≤ s.heap.objs.size → s.heap.get? L = some { cls := .type "list", dict := none, data := .seq acc c, slots := #[] } → LzGot P1 P2 base i Ts acc s.heap →
    (∀ h' tk acc' c' Ts', (∀ b o, b ≠ L → b ≠ z → b ≠ TO → b ≠ i1 → b ≠ i2 → s.heap.get? b = some o → h'.get? b = some o) → h'.get? L = some { cls := .type "list", dict := none, data := .seq acc' c', slots := #[] } → LzGot P1 P2 base n Ts' acc' h' → R (.ok (.ret res)) { s with heap := h', toks := tk }) →
    codeAny (model prog w) A (.builtin "list.extend.loop" ⟨[.ref L, .ref z, res], []⟩) R s := by
  have z1 : L ≠ i1 := fun e => L1 (by rw [e]; exact S.mem1)
  have z2 : L ≠ i2 := fun e => L2' (by rw [e]; exact S.mem2)
  intro k
  induction k with
  | zero =>
    intro i s acc c Ts hk hi st _ hbs hL got hR
    have e : i = n := by omega
    subst e
    refine codeAny_builtin F.entry_extend_loop ?_
    rw [Around.under_plainId F.plain_extend_loop _]
    show wpAny _ A.in1 (pyNext (.ref z) >>= _) _ _ s
    refine wpAny_bind (lz_done S D1 D2 st (by omega) (by omega) (by omega) fun h' tk hk => wpAny_pure ?_)
    obtain ⟨g1, g2, g3, g4, g5⟩ := got
    have sm : ∀ T ∈ Ts, ∀ o, s.heap.get? T = some o → h'.get? T = some o := fun T hT o e => by
      have nb := (g4 T hT).1
      exact hk T o (Nat.ne_of_gt (Nat.lt_of_lt_of_le bz nb)) (Nat.ne_of_gt (Nat.lt_of_lt_of_le bO nb)) (Nat.ne_of_gt (Nat.lt_of_lt_of_le b1 nb)) (Nat.ne_of_gt (Nat.lt_of_lt_of_le b2 nb)) e
    refine hR h' tk acc c Ts (fun b o _ q1 q2 q3 q4 e => hk b o q1 q2 q3 q4 e) (hk L _ Lz LO z1 z2 hL) ⟨g1, g2, g3, fun T hT => ⟨(g4 T hT).1, ?_⟩, fun j T e => ?_⟩
    · obtain ⟨j, hj⟩ := List.getElem?_of_mem hT
      obtain ⟨x, y, _, _, e⟩ := g5 j T hj
      exact Heap.lt_size (sm T hT _ e)
    · obtain ⟨x, y, p, q, e'⟩ := g5 j T e
      exact ⟨x, y, p, q, sm T (List.mem_of_getElem? e) _ e'⟩
  | succ k ih =>
    intro i s acc c Ts hk hi st hh hbs hL got hR
    have hlt : i < n := by omega
    refine codeAny_builtin F.entry_extend_loop ?_
    rw [Around.under_plainId F.plain_extend_loop _]
    show wpAny _ A.in1 (pyNext (.ref z) >>= _) _ _ s
    refine wpAny_bind (lz_item S D1 D2 st (by omega) (by omega) fun x1 x2 h' tk y1 y2 st' hT hz' hh' hk' => ?_)
    obtain ⟨g1, g2, g3, g4, g5⟩ := got
    have hL' := hk' L _ Lz LO z1 z2 hL
    have hacc : acc.size = i := by rw [← Array.length_toList, g1, List.length_map, g2]
    show wpAny _ A.in1 (updateSeq L (·.push (.ref s.heap.objs.size)) >>= _) _ _ _
    have hLT : L ≠ s.heap.objs.size := Nat.ne_of_lt (Heap.lt_size hL)
    have oth : ∀ b o, b ≠ L → h'.get? b = some o → (h'.update L (Obj.mapSeq (·.push (.ref s.heap.objs.size)))).get? b = some o := fun b o hb e => (Heap.get?_update_other _ _ (Ne.symm hb)).trans e
    refine wpAny_bind (wpAny_updateSeq hL' rfl (wpAny_pure ⟨plainId_quiet F.plain_extend_loop _, ih (i + 1) _ (acc.push (.ref s.heap.objs.size)) _ (Ts ++ [s.heap.objs.size]) (by omega) hlt ?_ ?_ ?_ (Heap.get?_update_self _ hL' rfl) ?_ ?_⟩) (by rw [hacc]; omega) (by show (acc.push _).size ≤ sizeLine + 1; rw [Array.size_push, hacc]; omega))
    · refine st'.frame D1 D2 oth Lz LI LO L1 L2' (fun _ _ => trivial) fun T f e => ?_
      rcases hh' T f e with q | ⟨f', q⟩
      · rw [q]; exact hLT
      · exact Nat.ne_of_lt (Nat.lt_of_lt_of_le (by rw [hb]; exact Nat.lt_succ_self _) (hh T f' q))
    · intro T f e
      have e' : IsZipHeld h' z TI TO T f := by
        have := Heap.get?_update_other (h := h') (f := Obj.mapSeq (·.push (.ref s.heap.objs.size))) (a := L) (b := z) Lz
        exact this.symm.trans e
      rcases hh' T f e' with q | ⟨f', q⟩
      · rw [q]; exact hbs
      · exact hh T f' q
    · show base ≤ (h'.update L _).objs.size
      rw [Heap.size_update, hz']; exact Nat.le_succ_of_le hbs
    · have sm : ∀ T ∈ Ts, ∀ o, s.heap.get? T = some o → (h'.update L (Obj.mapSeq (·.push (.ref s.heap.objs.size)))).get? T = some o := fun T hT o e => by
        have nb := (g4 T hT).1
        exact oth T o (Nat.ne_of_gt (Nat.lt_of_lt_of_le (by rw [hb]; exact Nat.lt_succ_self _) nb)) (hk' T o (Nat.ne_of_gt (Nat.lt_of_lt_of_le bz nb)) (Nat.ne_of_gt (Nat.lt_of_lt_of_le bO nb)) (Nat.ne_of_gt (Nat.lt_of_lt_of_le b1 nb)) (Nat.ne_of_gt (Nat.lt_of_lt_of_le b2 nb)) e)
      refine ⟨by simp [g1], by simp [g2], ?_, fun T hT => ?_, fun j T e => ?_⟩
      · rw [List.nodup_append]
        refine ⟨g3, by simp, fun a ha b hb => ?_⟩
        rw [List.mem_singleton.mp hb]
        exact Nat.ne_of_lt (g4 a ha).2
      · show base ≤ T ∧ T < (h'.update L _).objs.size
        rw [Heap.size_update]
        rw [hz']
        rcases List.mem_append.mp hT with hT | hT
        · exact ⟨(g4 T hT).1, Nat.lt_succ_of_lt (g4 T hT).2⟩
        · rw [List.mem_singleton.mp hT]; exact ⟨hbs, Nat.lt_succ_self _⟩
      · by_cases hj : j < Ts.length
        · rw [List.getElem?_append_left hj] at e
          obtain ⟨x, y, p, q, e'⟩ := g5 j T e
          exact ⟨x, y, p, q, sm T (List.mem_of_getElem? e) _ e'⟩
        · have : j = Ts.length := by
            have := (List.getElem?_eq_some_iff.mp e).1
            simp at this; omega
          subst this
          simp at e
          subst e
          rw [g2]
          exact ⟨x1, x2, y1, y2, oth _ _ (Ne.symm hLT) hT⟩
    · intro h2 tk2 acc' c' Ts' hk2 hL2 got2
      refine hR h2 tk2 acc' c' Ts' (fun b o q0 q1 q2 q3 q4 e => hk2 b o q0 q1 q2 q3 q4 (oth b o q0 (hk' b o q1 q2 q3 q4 e))) hL2 got2
theorem zip_len0 : typeLookup (.type "zip") "__len__" = pure none := by rw [typeLookup_type, builtinLookup_eq_fast]; kernel_rfl
theorem zip_hint0 : typeLookup (.type "zip") "__length_hint__" = pure none := by rw [typeLookup_type, builtinLookup_eq_fast]; kernel_rfl
theorem lz_call {n : Nat} {Q : Value → Shared → Prop} (S : ZipSep2 z TI TO i1 i2 fp1 fp2) (D1 : Draws prog w A.in1.in1.in1 i1 fp1 n1 P1 St1) (D2 : Draws prog w A.in1.in1.in1 i2 fp2 n2 P2 St2) (hn : n = min n1 n2) (hsz : n ≤ sizeLine) (hz : IsZip s.heap z TI TO .none) (hTO : ∃ a1 a2, IsTupOf2 s.heap TO a1 a2) (hTI : IsTupOf2 s.heap TI (.ref i1) (.ref i2)) (st1 : St1 0 s.heap) (st2 : St2 0 s.heap)
    (hf1 : ∀ b ∈ fp1, b < s.heap.objs.size) (hf2 : ∀ b ∈ fp2, b < s.heap.objs.size)
    (hQ : ∀ h' tk acc' c' Ts', (∀ b o, b ≠ z → b ≠ TO → b ≠ i1 → b ≠ i2 → s.heap.get? b = some o → h'.get? b = some o) → h'.get? s.heap.objs.size = some { cls := .type "list", dict := none, data := .seq acc' c', slots := #[] } → LzGot P1 P2 (s.heap.objs.size + 1) n Ts' acc' h' → Q (.ref s.heap.objs.size) { s with heap := h', toks := tk }) :
    wpAny (model prog w) A (call (.type "list") [.ref z]) Q E s := by
  obtain ⟨a1, a2, hTO⟩ := hTO
  have lt : ∀ {c o}, s.heap.get? c = some o → c < s.heap.objs.size := fun e => Heap.lt_size e
  refine callType_codes (Q₁ := fun obj s₁ => obj = .ref s.heap.objs.size ∧ s₁ = { s with heap := s.heap.push { cls := .type "list", data := .seq #[] } }) PySem.F.called_list (PySem.F.typeCall_list_1 _) PySem.F.entry_list_init (code_list_new _ ⟨rfl, rfl⟩) ?_
  rintro obj s₁ ⟨rfl, rfl⟩
  have h0 : (s.heap.push { cls := .type "list", data := .seq #[] }).get? s.heap.objs.size = some { cls := .type "list", data := .seq #[] } := Heap.get?_push_size _ rfl
  refine ⟨⟨_, h0, rfl⟩, PySem.F.args_list_init_2 _ _, ?_⟩
  show wpAny _ _ (do let old ← Builtin.List.listItems (.ref s.heap.objs.size); Builtin.List.listUpdate (.ref s.heap.objs.size) (fun _ => #[]); letGo old.toList.reverse; Builtin.List.listExtendWith (.ref s.heap.objs.size) (.ref z) .none) _ _ _
  refine wpAny_bind ?_
  unfold Builtin.List.listItems
  refine wpAny_bind (wpAny_seqItems h0 rfl (wpAny_pure ?_))
  show wpAny _ _ (updateSeq s.heap.objs.size (fun _ => #[]) >>= fun _ => letGo (#[] : Array Value).toList.reverse >>= fun _ => Builtin.List.listExtendWith (.ref s.heap.objs.size) (.ref z) .none) _ _ _
  refine wpAny_bind (wpAny_updateSeq h0 rfl (wpAny_bind (wpAny_letGo ?_)))
  have h2 := Heap.get?_update_self (Obj.mapSeq (fun _ => (#[] : Array Value))) h0 rfl
  have k2 : ∀ b o, s.heap.get? b = some o → ((s.heap.push { cls := .type "list", data := .seq #[] }).update s.heap.objs.size (Obj.mapSeq (fun _ => (#[] : Array Value)))).get? b = some o := fun b o e => (Heap.get?_update_other _ _ (Nat.ne_of_gt (lt e))).trans (Heap.get?_push_of_some _ e)
  have sz2 : ((s.heap.push { cls := .type "list", data := .seq #[] }).update s.heap.objs.size (Obj.mapSeq (fun _ => (#[] : Array Value)))).objs.size = s.heap.objs.size + 1 := by rw [Heap.size_update, Heap.size_push]
  generalize (s.heap.push { cls := .type "list", data := .seq #[] }).update s.heap.objs.size (Obj.mapSeq (fun _ => (#[] : Array Value))) = hh2 at h2 k2 sz2 ⊢
  unfold Builtin.List.listExtendWith
  have hTy : ∀ {h : Heap}, (∀ b o, s.heap.get? b = some o → h.get? b = some o) → ({ s with heap := h } : Shared).TypeIs (.ref z) "zip" := fun k => ⟨_, k _ _ hz, rfl⟩
  refine wpAny_bind (wpAny_typeOf (T := "zip") (hTy k2) ?_)
  have q1 : Builtin.List.listSameRef (.ref s.heap.objs.size) (.ref z) = false := by simp [Builtin.List.listSameRef, Nat.ne_of_gt (lt hz)]
  have q2 : (Value.type "zip" == Value.type "list") = false := by decide
  have q3 : (Value.type "zip" == Value.type "tuple") = false := by decide
  simp only [q1, q2, q3, Bool.or_false, Bool.false_eq_true, if_false]
  refine wpAny_bind (wpAny_pyIter_zip (k2 _ _ hz) (wpAny_bind (wpAny_holding ?_)))
  unfold Builtin.List.listLengthHint
  refine wpAny_bind (wpAny_specialOf (hTy k2) zip_len0 ?_)
  show wpAny _ _ (specialOf (Value.ref z) (Str.ofString "__length_hint__") >>= _) _ _ _
  refine wpAny_bind (wpAny_specialOf (hTy k2) zip_hint0 (wpAny_pure ?_))
  show wpAny _ _ (rule "list.extend.makes-room" >>= fun _ => Builtin.List.listTouch (.ref s.heap.objs.size) >>= fun _ => again (.builtin "list.extend.loop" ⟨[.ref s.heap.objs.size, .ref z, .none], []⟩)) _ _ _
  refine wpAny_bind (wpAny_rule (wpAny_bind ?_))
  show wpAny _ _ (updateSeq s.heap.objs.size (·.push .none) >>= fun _ => updateSeq s.heap.objs.size (·.pop)) _ _ _
  refine wpAny_bind (wpAny_updateSeq h2 rfl ?_)
  have h3 := Heap.get?_update_self (Obj.mapSeq (·.push Value.none)) h2 rfl
  refine wpAny_updateSeq (hz := by seq_fits) h3 rfl ?_
  have h4 := Heap.get?_update_self (Obj.mapSeq (·.pop)) h3 rfl
  have k4 : ∀ b o, s.heap.get? b = some o → ((hh2.update s.heap.objs.size (Obj.mapSeq (·.push Value.none))).update s.heap.objs.size (Obj.mapSeq (·.pop))).get? b = some o := fun b o e => (Heap.get?_update_other _ _ (Nat.ne_of_gt (lt e))).trans ((Heap.get?_update_other _ _ (Nat.ne_of_gt (lt e))).trans (k2 b o e))
  have sz4 : ((hh2.update s.heap.objs.size (Obj.mapSeq (·.push Value.none))).update s.heap.objs.size (Obj.mapSeq (·.pop))).objs.size = s.heap.objs.size + 1 := by rw [Heap.size_update, Heap.size_update, sz2]
  have g1 : i1 < s.heap.objs.size := hf1 _ S.mem1
  have g2 : i2 < s.heap.objs.size := hf2 _ S.mem2
  refine wpAny_pure ⟨plainId_quiet F.plain_extend_loop _, lz_loop (base := s.heap.objs.size + 1) S D1 D2 hn hsz rfl (Nat.lt_succ_of_lt (lt hz)) (Nat.lt_succ_of_lt (lt hTO)) (Nat.lt_succ_of_lt g1) (Nat.lt_succ_of_lt g2) (Nat.ne_of_gt (lt hz)) (Nat.ne_of_gt (lt hTI)) (Nat.ne_of_gt (lt hTO))
    (fun q => Nat.lt_irrefl _ (hf1 _ q)) (fun q => Nat.lt_irrefl _ (hf2 _ q)) n 0 _ _ _ [] rfl (Nat.zero_le _) ⟨.inl ⟨k4 _ _ hz, a1, a2, k4 _ _ hTO⟩, k4 _ _ hTI, D1.frame _ _ _ st1 fun b _ o e => k4 _ _ e, D2.frame _ _ _ st2 fun b _ o e => k4 _ _ e⟩ (fun T f e => ?_) (Nat.le_of_eq sz4.symm) h4 ⟨rfl, rfl, List.nodup_nil, (fun T hT => nomatch hT), fun j T e => by simp at e⟩ fun h' tk acc' c' Ts' hk hL got => ?_⟩
  · have := (k4 _ _ hz).symm.trans e
    simp [rawInt] at this
  · exact ⟨rfl, hQ h' tk acc' c' Ts' (fun b o c1 c2 c3 c4 e => hk b o (Nat.ne_of_lt (lt e)) c1 c2 c3 c4 (k4 _ _ e)) hL got⟩
end
end DD

set_option Elab.async false
set_option linter.all false
set_option maxRecDepth 100000
set_option maxHeartbeats 1000000
namespace DD
open PySem PySem.Spec PyProof.Rows L2
section
variable {X : Cx} {W : WX} {K : Wd}
/-- a list's or a tuple's iterator -/
theorem seq_draws {pins : List (Addr × Obj)} {σ : L2.St} {H : Hp} {s : Shared} {a : Addr} {us : List V} (I : Inv X pins σ H s) (sq : SqL X.K H a us ∨ SqT X.K H a us) :
    ∃ (o : Obj) (C : Heap → Prop) (its : List Value) (St : Addr → Nat → Heap → Prop), Vals us its ∧ its.length ≤ sizeLine ∧ Begins (.ref a) o C ∧ C s.heap ∧ a < s.heap.objs.size ∧
      (∀ (A : Around) (it : Addr), A.handled = none → a ≠ it → Draws X.prog X.w A it [it, a] its.length (fun i v => its[i]? = some v) (St it)) ∧ (∀ (it : Addr) (h' : Heap), h'.get? it = some o → C h' → St it 0 h') := by
  rcases sq with sq | sq
  · obtain ⟨its, rv, pl, hz⟩ := I.list sq
    refine ⟨_, _, its, fun it i h => h.IsListIter it a i ∧ h.IsList a its.toArray, rv, by rw [← rv.length]; exact hz, begins_list a its.toArray, pl.isList, pl.lt, fun A it hh hne => ?_, fun it h' e c => ⟨⟨_, e, rfl, rfl⟩, c⟩⟩
    have D := Draws.list (prog := X.prog) (w := X.w) (A := A) hh it a hne its.toArray
    simpa using D
  · obtain ⟨its, rv, pl, hz⟩ := I.tuple sq
    have hlt : a < s.heap.objs.size := by obtain ⟨o, e, _⟩ := id pl; exact Heap.lt_size e
    refine ⟨_, _, its, fun it i h => h.IsTupleIter it a i ∧ h.IsTuple a its.toArray, rv, by rw [← rv.length]; exact hz, begins_tuple a its.toArray, pl, hlt, fun A it hh hne => ?_, fun it h' e c => ⟨⟨_, e, rfl, rfl⟩, c⟩⟩
    have D := Draws.tuple (prog := X.prog) (w := X.w) (A := A) hh it a hne its.toArray
    simpa using D
/-- the pairs given out are laid -/
theorem lz_lay {pins : List (Addr × Obj)} {σ : L2.St} {s : Shared} {heap : Hea} {h' : Heap} {tk : Nat} {H0 : Hp} {s0 : Shared} (I0 : Inv X pins σ H0 s0) : ∀ (Ts : List Addr) (ds es : List D) (g : Gd), Inv X pins σ g.H { s with heap := h', toks := tk } → HR X.wd g heap → Ts.Nodup → Ts.length = ds.length → Ts.length = es.length →
    (∀ T ∈ Ts, s0.heap.objs.size ≤ T ∧ g.H T = none) → (∀ (j : Nat) T d e, Ts[j]? = some T → ds[j]? = some d → es[j]? = some e → ∃ x y u v, IsTupOf2 h' T x y ∧ RelV u x ∧ RelV v y ∧ RepV X.wd g d u ∧ RepV X.wd g e v) →
    ∃ g', Inv X pins σ g'.H { s with heap := h', toks := tk } ∧ HR X.wd g' heap ∧ Ext g g' ∧ RepVs X.wd g' ((ds.zip es).map fun p => D.tup [p.1, p.2]) (Ts.map V.ref) ∧ ∀ b, g.H b = none → b ∉ Ts → g'.H b = none
  | [], ds, es, g, I, hh, _, h1, h2, _, _ => ⟨g, I, hh, .refl _, by cases ds <;> cases es <;> simp_all, fun b e _ => e⟩
  | T :: Ts, [], es, g, I, hh, _, h1, _, _, _ => by simp at h1
  | T :: Ts, d :: ds, [], g, I, hh, _, _, h2, _, _ => by simp at h2
  | T :: Ts, d :: ds, e :: es, g, I, hh, nd, h1, h2, hT, hp => by
    obtain ⟨x, y, u, v, ht, ru, rv, rd, re⟩ := hp 0 T d e rfl rfl rfl
    obtain ⟨hb, hn⟩ := hT T List.mem_cons_self
    rw [List.nodup_cons] at nd
    let o : HO := .frz { cls := .type "tuple", data := .seq #[x, y] } (.tup [u, v])
    have I2 : Inv X pins σ (upd g.H T o) { s with heap := h', toks := tk } := I.take (h' := h') (t' := tk) (fun b ob _ e => e) (I0.fpOk hb hn) ⟨ht, by show 2 ≤ sizeLine; decide, [x, y], .cons ru (.cons rv .nil), _, ht, rfl, _, rfl⟩
    have hh2 := hh.put (o := o) hn
    have x2 := hh.ext_put (o := o) hn
    obtain ⟨g', I3, hh3, x3, r3, n3⟩ := lz_lay I0 Ts ds es (g.put T o) I2 hh2 nd.2 (by simpa using h1) (by simpa using h2) (fun T' hT' => by
      obtain ⟨a, b⟩ := hT T' (List.mem_cons_of_mem _ hT')
      refine ⟨a, ?_⟩
      show upd g.H T o T' = none
      rw [upd_ne fun z => nd.1 (by rw [← z]; exact hT')]; exact b) fun j T' d' e' a b c => by
        obtain ⟨x, y, u, v, p1, p2, p3, p4, p5⟩ := hp (j + 1) T' d' e' (by simpa using a) (by simpa using b) (by simpa using c)
        exact ⟨x, y, u, v, p1, p2, p3, p4.ext x2, p5.ext x2⟩
    refine ⟨g', I3, hh3, x2.trans x3, ?_, fun b hb hm => n3 b ?_ fun q => hm (List.mem_cons_of_mem _ q)⟩
    · simp only [List.zip_cons_cons, List.map_cons]
      refine .cons ?_ r3
      simp only [RepV]
      refine ⟨T, [u, v], rfl, ⟨_, x3.s _ _ (by show upd g.H T o T = _; exact upd_same) trivial, rfl⟩, ?_⟩
      exact .cons ((rd.ext x2).ext x3) (.cons ((re.ext x2).ext x3) .nil)
    · show upd g.H T o b = none
      rw [upd_ne fun z => hm (by simp [z])]; exact hb
def fZipL (fa : En → Hea → R (List D)) : En → Hea → R D := fun e h => (fa e h).bind fun as h1 => match as with
  | [a, b] => match seqOf h1 a, seqOf h1 b with
    | some xs, some ys => .ok (.lst ((xs.zip ys).map fun p => .tup [p.1, p.2])) h1
    | _, _ => .no
  | _ => .no
theorem zipV {ps : List Value} {qs : List Value} : min ps.length qs.length = (ps.zip qs).length := by simp
theorem de_listZip {a b : Expr} {fa : En → Hea → R (List D)} {p1 p2 pos1 pos : Pos} (hc : X.calm = true) (hgl : Gl X "list") (hml : X.mg "list" = none) (hgz : Gl X "zip") (hmz : X.mg "zip" = none) (ha : DA X W [a, b] fa)
    (hs : starEach [a, b] X.env = (false, eval a X.env) :: starEach [b] X.env := by rfl) (hpl : (backTo pos1 (starEach [b] X.env)).any (·.1) = false := by rfl)
    (na : starEach [.Call (.Name "zip" p2) [a, b] [] pos1] X.env = (false, eval (.Call (.Name "zip" p2) [a, b] [] pos1) X.env) :: starEach [] X.env := by rfl) :
    DE X W (.Call (.Name "list" p1) [.Call (.Name "zip" p2) [a, b] [] pos1] [] pos) (fZipL fa) := by
  refine ⟨fun pins s σ H Q I ⟨g, env, heap, e1, hh, er, p⟩ => ?_⟩
  refine Call_ (ld_blt I hgl hml boot_list (PyProof.Rows.callWith_type1 (args_cons (Call_ (ld_blt I hgz hmz PyProof.Rows.boot_zip (PyProof.Rows.callWith_type1 (thn (ha.run pos1 pins s σ H _ I ⟨g, env, heap, e1, hh, er, Post.bind (A := RepVs X.wd) p⟩) fun us s1 ⟨vs, H1, I1, r1, g1, h1, as, e2, hh1, x1, ra, pp⟩ => ?_) hs hpl))) na) na))
  subst e2
  split at pp
  · rename_i da db
    obtain ⟨va, vb, rfl, rda, rdb⟩ := ra.two
    split at pp
    · rename_i xs ys exs eys
      obtain ⟨pa, ua, rfl, sa, ta⟩ := seqOf_rep hh1 rda exs
      obtain ⟨pb, ub, rfl, sb, tb⟩ := seqOf_rep hh1 rdb eys
      obtain ⟨w1, w2, rfl, q1, q2⟩ := vals2 r1
      cases q1
      cases q2
      obtain ⟨o1, C1, it1, St1, rv1, z1, B1, c1, l1, D1, st1⟩ := seq_draws I1 sa
      obtain ⟨o2, C2, it2, St2, rv2, z2, B2, c2, l2, D2, st2⟩ := seq_draws I1 sb
      have hcalm := I1.ok.hd hc
      refine zip_begins2 B1 B2 c1 c2 fun h2 hz hTI hTO e1 e2 hsz hk => args_nil ?_
      have S := zip_sep2 (N := s1.heap.objs.size) (fp1 := [pa]) (fp2 := [pb]) (fun b hb => by rw [List.mem_singleton.mp hb]; exact l1) (fun b hb => by rw [List.mem_singleton.mp hb]; exact l2)
      have I2 : Inv X pins σ g1.H { s1 with heap := h2 } := I1.kept (t' := s1.toks) hk
      have n1 : pa ≠ s1.heap.objs.size := Nat.ne_of_lt l1
      have n2 : pb ≠ s1.heap.objs.size + 1 := Nat.ne_of_lt (Nat.lt_succ_of_lt l2)
      refine lz_call (s := { s1 with heap := h2 }) S (D1 _ _ (show X.A.in1.in1.in1.handled = none from hcalm) n1) (D2 _ _ (show X.A.in1.in1.in1.handled = none from hcalm) n2) rfl (by omega) hz ⟨_, _, hTO⟩ hTI (st1 _ _ e1 (B1.keeps _ _ c1 hk)) (st2 _ _ e2 (B2.keeps _ _ c2 hk)) (fun b hb => ?_) (fun b hb => ?_) fun h3 tk acc c Ts hk3 hL got => ?_
      · show b < h2.objs.size
        rw [hsz]
        rcases List.mem_cons.mp hb with z | z
        · rw [z]; exact Nat.lt_add_of_pos_right (by decide)
        · rw [List.mem_singleton.mp z]; exact Nat.lt_add_right _ l1
      · show b < h2.objs.size
        rw [hsz]
        rcases List.mem_cons.mp hb with z | z
        · rw [z]; exact Nat.add_lt_add_left (by decide) _
        · rw [List.mem_singleton.mp z]; exact Nat.lt_add_right _ l2
      have fresh : ∀ c, s1.heap.objs.size ≤ c → FpOk X pins g1.H c := fun c hc => I1.fpOk hc (I1.hok.fresh hc)
      have I3 : Inv X pins σ g1.H { s1 with heap := h3, toks := tk } := Inv.turnedL (s := { s1 with heap := h2 }) (t' := tk) (ch := [s1.heap.objs.size + 4, s1.heap.objs.size + 3, s1.heap.objs.size, s1.heap.objs.size + 1]) I2 (fun b o hb e => hk3 b o (fun q => hb (by simp [q])) (fun q => hb (by simp [q])) (fun q => hb (by simp [q])) (fun q => hb (by simp [q])) e)
        fun b hb => by
          have hb' : b = s1.heap.objs.size + 4 ∨ b = s1.heap.objs.size + 3 ∨ b = s1.heap.objs.size ∨ b = s1.heap.objs.size + 1 := by simpa using hb
          refine fresh b ?_
          rcases hb' with z | z | z | z
          · rw [z]; exact Nat.le_add_right _ _
          · rw [z]; exact Nat.le_add_right _ _
          · rw [z]; exact Nat.le_refl _
          · rw [z]; exact Nat.le_add_right _ _
      obtain ⟨g1', g2', g3', g4', g5'⟩ := got
      have hsz' : ({ s1 with heap := h2 } : Shared).heap.objs.size = s1.heap.objs.size + 5 := hsz
      rw [hsz'] at g4' hL
      have l1' := rv1.length
      have l2' := rv2.length
      have la := ta.len
      have lb := tb.len
      have hlen : Ts.length = min xs.length ys.length := by rw [g2', la, lb, l1', l2']
      obtain ⟨g4, I4, hh4, x4, r4, n4⟩ := lz_lay (h' := h3) (tk := tk) (s := s1) I1 Ts (xs.take Ts.length) (ys.take Ts.length) g1 I3 hh1 g3' (by simp; omega) (by simp; omega) (fun T hT => by
        have := (g4' T hT).1
        have hle : s1.heap.objs.size ≤ T := Nat.le_trans (Nat.le_add_right _ 6) this
        exact ⟨hle, I1.hok.fresh hle⟩) fun j T d e hT hd he => by
          obtain ⟨x, y, px, py, ht⟩ := g5' j T hT
          have hd' : xs[j]? = some d := by
            rw [List.getElem?_take] at hd
            split at hd
            · exact hd
            · cases hd
          have he' : ys[j]? = some e := by
            rw [List.getElem?_take] at he
            split at he
            · exact he
            · cases he
          obtain ⟨u, hu, rdu⟩ := ta.get hd'
          obtain ⟨v, hv, rdv⟩ := tb.get he'
          obtain ⟨x', hx', rx⟩ := rv1.get hu
          obtain ⟨y', hy', ry⟩ := rv2.get hv
          have ex : x' = x := Option.some.inj (hx'.symm.trans px)
          have ey : y' = y := Option.some.inj (hy'.symm.trans py)
          subst ex ey
          exact ⟨_, _, u, v, ht, rx, ry, rdu, rdv⟩
      have hLn : g4.H (s1.heap.objs.size + 5) = none := n4 _ (I1.hok.fresh (Nat.le_add_right _ _)) fun q => absurd (g4' _ q).1 (Nat.not_succ_le_self _)
      have hLf : FpOk X pins g4.H (s1.heap.objs.size + 5) := I1.fpOk (Nat.le_add_right _ _) hLn
      have hzl : (Ts.map V.ref).length ≤ sizeLine := by rw [List.length_map, hlen]; omega
      have I5 : Inv X pins σ (upd g4.H (s1.heap.objs.size + 5) (.lst (Ts.map V.ref))) { s1 with heap := h3, toks := tk } := I4.take (h' := h3) (t' := tk) (fun b ob _ e => e) hLf ⟨hzl, Ts.map Value.ref, c, vals_refs Ts, by
        have : acc = (Ts.map Value.ref).toArray := by rw [← g1']
        rw [← this]; exact hL⟩
      obtain ⟨a1, a2, a3⟩ := hh4.newLst r4 hLn
      have ez : (xs.take Ts.length).zip (ys.take Ts.length) = xs.zip ys := by
        apply List.ext_getElem?
        intro i
        simp only [List.getElem?_zip_eq_some, List.zip_eq_zipWith, List.getElem?_zipWith, List.getElem?_take]
        by_cases hi : i < Ts.length
        · simp [hi]
        · have : xs.length ≤ i ∨ ys.length ≤ i := by omega
          simp only [hi, if_false]
          rcases this with q | q
          · rw [List.getElem?_eq_none q]
          · rw [List.getElem?_eq_none q]
            cases xs[i]? <;> rfl
      rw [ez] at a3
      refine ⟨.ref (s1.heap.objs.size + 5), _, I5, ?_, pp _ _ a1 (x4.trans a2) a3⟩
      show Value.ref h2.objs.size = _
      rw [hsz]
    · exact pp.elim
  · exact pp.elim
/-! ### dict(x) of a list of pairs -/
def prK (d : D) : Option (Key × D) := match tupItems d with
  | some [k, v] => (keyD k).map fun k => (k, v)
  | _ => none
def prsK : List D → Option (List (Key × D))
  | [] => some []
  | d :: ds => (prK d).bind fun p => (prsK ds).map (p :: ·)
def mergeD (kvs : List (D × D)) : List (Key × D) → List (D × D)
  | [] => kvs
  | p :: r => mergeD (putDD kvs (kD p.1) p.2) r
def dictN (as : List D) (h : Hea) : Option D := match as with
  | [d] => ((lookL h d).bind prsK).map fun ps => .dic false ((mergeD [] ps).map (·.1)) ((mergeD [] ps).map (·.2))
  | _ => none
theorem merge_rep {g : Gd} : ∀ {ps : List (Key × D)} {kvs : List (Key × V)} {aD : List (D × D)} {aV : List (Key × V)}, ps.map (·.1) = kvs.map (·.1) → RepVs K g (ps.map (·.2)) (kvs.map (·.2)) → aD.map (·.1) = aV.map (fun p => kD p.1) → RepVs K g (aD.map (·.2)) (aV.map (·.2)) →
    (mergeD aD ps).map (·.1) = (mergeK aV kvs).map (fun p => kD p.1) ∧ RepVs K g ((mergeD aD ps).map (·.2)) ((mergeK aV kvs).map (·.2))
  | [], [], aD, aV, _, _, h1, h2 => ⟨h1, h2⟩
  | [], _ :: _, _, _, h, _, _, _ => by simp at h
  | _ :: _, [], _, _, h, _, _, _ => by simp at h
  | p :: ps, q :: kvs, aD, aV, h, r, h1, h2 => by
    simp only [List.map_cons, List.cons.injEq] at h
    obtain ⟨x, rest, e, rx, rr⟩ := RepVs_cons.mp (show RepVs K g (p.2 :: ps.map (·.2)) (q.2 :: kvs.map (·.2)) from r)
    cases e
    obtain ⟨k1, k2⟩ := put_k (k := p.1) rx h1 h2
    have : mergeK aV (q :: kvs) = mergeK (putK aV p.1 q.2) kvs := by rw [h.1]; rfl
    rw [this]
    exact merge_rep (ps := ps) h.2 rr k1 k2
theorem prs_rep {F : PySem.W.Frag} {g : Gd} (hF : F = K.K) : ∀ {ds : List D} {us : List V} {ps : List (Key × D)}, RepVs K g ds us → prsK ds = some ps → ∃ (as : List Addr) (kvs : List (Key × V)), us = as.map V.ref ∧ Paired (fun p kv => SqT F g.H p [kV kv.1, kv.2]) as kvs ∧ ps.map (·.1) = kvs.map (·.1) ∧ RepVs K g (ps.map (·.2)) (kvs.map (·.2))
  | [], us, ps, r, e => by
    cases e
    rw [RepVs_nil.mp r]
    exact ⟨[], [], rfl, .nil, rfl, .nil⟩
  | d :: ds, us, ps, r, e => by
    subst hF
    obtain ⟨p, e1, e2⟩ := Option.bind_eq_some_iff.mp e
    obtain ⟨l, e3, rfl⟩ := Option.map_eq_some_iff.mp e2
    obtain ⟨x, rest, rfl, rx, rr⟩ := RepVs_cons.mp r
    obtain ⟨as, kvs, rfl, pr, h1, h2⟩ := prs_rep rfl rr e3
    unfold prK at e1
    split at e1
    · rename_i k v et
      obtain ⟨kk, ek, rfl⟩ := Option.map_eq_some_iff.mp e1
      obtain ⟨a, vs, rfl, sq, t⟩ := tupItems_rep rx et
      obtain ⟨y1, y2, rfl, r1, r2⟩ := t.two
      rw [keyD_eq ek] at r1
      have := rep_key r1
      subst this
      exact ⟨a :: as, (kk, y2) :: kvs, rfl, .cons sq pr, by simp [h1], .cons r2 h2⟩
    · cases e1
theorem cd_dict (hc : X.calm = true) : CallD X (.type "dict") dictN := by
  rintro pins s σ H xs us Q I rs ⟨g, heap, as, d, rfl, hh, ra, ed, q⟩
  unfold dictN at ed
  split at ed
  · obtain ⟨x, rfl, rx⟩ := ra.one
    obtain ⟨ps, e1, rfl⟩ := Option.map_eq_some_iff.mp ed
    obtain ⟨ys, e2, e3⟩ := Option.bind_eq_some_iff.mp e1
    obtain ⟨a, ws, rfl, sa, t⟩ := lookL_rep hh rx e2
    obtain ⟨bs, kvs, rfl, pr, h1, h2⟩ := prs_rep rfl t e3
    refine call_dictP hc pins s σ g.H _ us Q I rs ⟨a, bs, kvs, rfl, .of sa, pr, fun p hp => ?_⟩
    have hh2 := hh.put (o := .dK (mergeK [] kvs)) hp
    have x2 := hh.ext_put (o := .dK (mergeK [] kvs)) hp
    obtain ⟨k1, k2⟩ := merge_rep (aD := []) (aV := []) h1 (h2.ext x2) rfl .nil
    refine q (g.put p (.dK (mergeK [] kvs))) _ hh2 x2 ?_
    simp only [RepV]
    exact ⟨p, _, rfl, ⟨_, upd_same, k1, rfl⟩, hh.fresh hp, k2⟩
  · cases ed
/-! ### len -/
def lenG (as : List D) (h : Hea) : Option D := match as with
  | [d] => match dicOf h d with
    | some (_, ks, _) => some (.int ks.length)
    | none => lenN [d] h
  | _ => none
theorem dt_len {A : Around} {E : Value → Shared → Prop} {pins : List (Addr × Obj)} {σ : L2.St} {H : Hp} {s : Shared} {a : Addr} {ks : List D} {us : List V} {Q : Value → Shared → Prop} (I : Inv X pins σ H s) (d : DicR X.wd H a true ks us) (h : ∀ t s', Inv X pins σ H s' → Q (.int ks.length t) s') : wpAny (model X.prog X.w) A (call (.builtin "len") [.ref a]) Q E s := by
  obtain ⟨xs, e, dd, z, hd, e1, e3, e2⟩ := dt_open I d
  subst e1
  rw [List.length_map] at h
  exact call_len_dictH hd dd (by rw [sizeLine_eq] at z; omega) (h _ _ (I.tok _))
theorem cd_lenG : CallD X (.builtin "len") lenG := by
  rintro pins s σ H xs us Q I rs ⟨g, heap, as, d, rfl, hh, ra, ed, q⟩
  unfold lenG at ed
  split at ed
  · split at ed
    · rename_i t ks vs ec
      cases ed
      obtain ⟨x, rfl, rx⟩ := ra.one
      obtain ⟨a, ws, rfl, dr, rv⟩ := dicOf_rep hh rx ec
      obtain ⟨u, rfl, ru⟩ := vals1 rs
      cases ru
      cases t with
      | true => exact dt_len I dr fun t s' I' => ⟨.int ks.length, g.H, I', ⟨_, rfl⟩, fin1 hh q (by simp [RepV])⟩
      | false =>
        obtain ⟨kvs, e, e1, e2⟩ := dr
        subst e1
        refine d_len I (.inl e) fun t s' I' => ⟨.int kvs.length, g.H, I', ⟨_, rfl⟩, ?_⟩
        rw [List.length_map] at q
        exact fin1 hh q (by simp [RepV])
    · exact cd_len pins s σ g.H _ us Q I rs ⟨g, heap, _, d, rfl, hh, ra, ed, q⟩
  · cases ed
/-! ### isinstance -/
def isiD (as : List D) (_ : Hea) : Option D := match as with
  | [.int _, .cst (.ty T)] => if T = "int" then some (.bl true) else if T ∈ ["bool", "str", "tuple", "list", "dict"] then some (.bl false) else none
  | [.bl _, .cst (.ty T)] => if T ∈ ["int", "bool"] then some (.bl true) else if T ∈ ["str", "tuple", "list", "dict"] then some (.bl false) else none
  | [.str _, .cst (.ty T)] => if T = "str" then some (.bl true) else if T ∈ ["int", "bool", "tuple", "list", "dict"] then some (.bl false) else none
  | [.tup _, .cst (.ty T)] => if T = "tuple" then some (.bl true) else if T ∈ ["int", "bool", "str", "list", "dict"] then some (.bl false) else none
  | [.lst _, .cst (.ty T)] => if T = "list" then some (.bl true) else if T ∈ ["int", "bool", "str", "tuple", "dict"] then some (.bl false) else none
  | [.non, .cst (.ty T)] => if T ∈ ["int", "bool", "str", "tuple", "list", "dict"] then some (.bl false) else none
  | _ => none
theorem kit_same {K : PySem.W.Frag} {T : String} : PySem.W.kitOne K (.type T) (.type T) = some true := by
  unfold PySem.W.kitOne
  rw [if_pos (by simp)]
theorem kit_bi {K : PySem.W.Frag} : PySem.W.kitOne K (.type "bool") (.type "int") = some true := by
  first | rfl | (unfold PySem.W.kitOne PySem.W.kitCls; rfl) | (unfold PySem.W.kitOne PySem.W.kitCls; kernel_rfl)
end
end DD

set_option Elab.async false
set_option linter.all false
set_option maxRecDepth 100000
set_option maxHeartbeats 1000000
namespace DD
open PySem PySem.Spec PyProof.Rows L2
section
variable {X : Cx} {W : WX} {K : Wd}
theorem cd_isi : CallD X (.builtin "isinstance") isiD := by
  rintro pins s σ H xs us Q I rs ⟨g, heap, as, d, rfl, hh, ra, ed, q⟩
  have go : ∀ (x : V) (T t : String) (b : Bool), xs = [x, .ty T] → TyX X.K g.H x (.type t) → PySem.W.kitOne X.K (.type t) (.type T) = some b → d = .bl b → wpAny (model X.prog X.w) X.A (call (.builtin "isinstance") us) (EP X pins σ Q) X.xe s := fun x T t b e1 e2 e3 e4 => by
    subst e4
    exact call_isi pins s σ g.H _ us Q I rs ⟨x, .ty T, .type t, .type T, b, e1, .ty T, e2, e3, fin1 hh q (by simp [RepV])⟩
  unfold isiD at ed
  split at ed
  · obtain ⟨x, y, rfl, rx, ry⟩ := ra.two
    simp only [RepV] at rx ry
    subst rx ry
    split at ed
    · rename_i e; subst e; cases ed; exact go _ _ "int" true rfl (.base (.int _)) kit_same rfl
    · split at ed
      · rename_i e; cases ed
        simp only [List.mem_cons, List.not_mem_nil, or_false] at e
        rcases e with rfl | rfl | rfl | rfl | rfl <;> exact go _ _ "int" false rfl (.base (.int _)) rfl rfl
      · cases ed
  · obtain ⟨x, y, rfl, rx, ry⟩ := ra.two
    simp only [RepV] at rx ry
    subst rx ry
    split at ed
    · rename_i e; cases ed
      simp only [List.mem_cons, List.not_mem_nil, or_false] at e
      rcases e with rfl | rfl
      · exact go _ _ "bool" true rfl (.base (.bl _)) kit_bi rfl
      · exact go _ _ "bool" true rfl (.base (.bl _)) kit_same rfl
    · split at ed
      · rename_i e; cases ed
        simp only [List.mem_cons, List.not_mem_nil, or_false] at e
        rcases e with rfl | rfl | rfl | rfl <;> exact go _ _ "bool" false rfl (.base (.bl _)) rfl rfl
      · cases ed
  · obtain ⟨x, y, rfl, rx, ry⟩ := ra.two
    simp only [RepV] at rx ry
    subst rx ry
    split at ed
    · rename_i e; subst e; cases ed; exact go _ _ "str" true rfl (.base (.str _)) kit_same rfl
    · split at ed
      · rename_i e; cases ed
        simp only [List.mem_cons, List.not_mem_nil, or_false] at e
        rcases e with rfl | rfl | rfl | rfl | rfl <;> exact go _ _ "str" false rfl (.base (.str _)) rfl rfl
      · cases ed
  · obtain ⟨x, y, rfl, rx, ry⟩ := ra.two
    simp only [RepV] at rx ry
    subst ry
    obtain ⟨a, ws, rfl, ⟨o, eo, _⟩, _⟩ := rx
    split at ed
    · rename_i e; subst e; cases ed; exact go _ _ "tuple" true rfl (.fTuple eo) kit_same rfl
    · split at ed
      · rename_i e; cases ed
        simp only [List.mem_cons, List.not_mem_nil, or_false] at e
        rcases e with rfl | rfl | rfl | rfl | rfl <;> exact go _ _ "tuple" false rfl (.fTuple eo) rfl rfl
      · cases ed
  · obtain ⟨x, y, rfl, rx, ry⟩ := ra.two
    simp only [RepV] at rx ry
    subst ry
    obtain ⟨a, ws, rfl, eo, _⟩ := rx
    split at ed
    · rename_i e; subst e; cases ed; exact go _ _ "list" true rfl (.base (.lst eo)) kit_same rfl
    · split at ed
      · rename_i e; cases ed
        simp only [List.mem_cons, List.not_mem_nil, or_false] at e
        rcases e with rfl | rfl | rfl | rfl | rfl <;> exact go _ _ "list" false rfl (.base (.lst eo)) rfl rfl
      · cases ed
  · obtain ⟨x, y, rfl, rx, ry⟩ := ra.two
    simp only [RepV] at rx ry
    subst rx ry
    split at ed
    · rename_i e; cases ed
      simp only [List.mem_cons, List.not_mem_nil, or_false] at e
      rcases e with rfl | rfl | rfl | rfl | rfl | rfl <;> exact go _ _ "NoneType" false rfl (.base .non) rfl rfl
    · cases ed
  · cases ed
theorem de_ty {x : Str} {T : String} {p : Pos} (hg : Gl X x) (hm : X.mg x = none) (hv : bootBuiltins x = some (.type T)) (hn : x ≠ "__name__" := by decide) (hd : (x == ("__debug__" : Str)) = false := by decide) : DE X W (.Name x p) (fC (.cst (.ty T))) :=
  de_c (v := .ty T) ⟨fun pins s σ H Q I h => ld_blt I hg hm hv ⟨.ty T, H, I, rfl, h⟩ hn hd⟩ fun g => by simp [RepV]
/-! ### min, max of two texts -/
theorem cmp_str {prog : Program} {w : World} {A : Around} {P : Nat → Value → Prop} (val : Nat → Str) (hv : ∀ i v, P i v → ∃ t, v = .str (val i) t) : CmpOf prog w A .Lt P (fun i j => decide ((val i).cps.toList < (val j).cps.toList)) := fun i j vi vj s Q E hi hj h => by
  obtain ⟨t, rfl⟩ := hv i vi hi
  obtain ⟨u, rfl⟩ := hv j vj hj
  exact PyProof.Rows.lt_str h
theorem cmp_strG {prog : Program} {w : World} {A : Around} {P : Nat → Value → Prop} (val : Nat → Str) (hv : ∀ i v, P i v → ∃ t, v = .str (val i) t) : CmpOf prog w A .Gt P (fun i j => decide ((val j).cps.toList < (val i).cps.toList)) := fun i j vi vj s Q E hi hj h => by
  obtain ⟨t, rfl⟩ := hv i vi hi
  obtain ⟨u, rfl⟩ := hv j vj hj
  exact PySem.richCompare_gives (op := .Gt) (typeIs_str s _ t) (typeIs_str s _ u) PySem.F.slot_str_gt PySem.F.entry_str_gt (PySem.F.args_str_gt_2 _ _) (gives_str_gt _ _ t u) (fun e => nomatch e) h
def minS (a b : Str) : Str := if b.cps.toList < a.cps.toList then b else a
def maxS (a b : Str) : Str := if a.cps.toList < b.cps.toList then b else a
def twoS (a b : Str) (i : Nat) : Str := if i = 0 then a else b
theorem two_items {s : Shared} {a b : Str} {t u : Tok} : (s.heap.push { cls := .type "tuple", data := .seq #[.str a t, .str b u] }).IsTuple s.heap.objs.size #[.str a t, .str b u] := ⟨_, Heap.get?_push_size _ rfl, rfl, 0, rfl⟩
theorem two_at {a b : Str} {t u : Tok} (i : Nat) (v : Value) (e : (#[Value.str a t, .str b u] : Array Value)[i]? = some v) : ∃ t, v = .str (twoS a b i) t := by
  match i, e with
  | 0, e => cases e; exact ⟨t, rfl⟩
  | 1, e => cases e; exact ⟨u, rfl⟩
  | n + 2, e => simp at e
theorem old2 {h h' : Heap} {o1 o2 : Obj} (hk : ∀ c o, c ∉ [(h.push o1).objs.size] → ((h.push o1).push o2).get? c = some o → h'.get? c = some o) : ∀ c o, h.get? c = some o → h'.get? c = some o := fun c o e =>
  hk c o (fun hm => by
    have := Heap.lt_size e
    rw [List.mem_singleton.mp hm, Heap.size_push] at this
    exact Nat.lt_irrefl _ (Nat.lt_of_succ_lt this)) (Heap.get?_push_of_some _ (Heap.get?_push_of_some _ e))
theorem two_fp {h : Heap} {o1 o2 : Obj} : ∀ c ∈ [(h.push o1).objs.size, h.objs.size], c < ((h.push o1).push o2).objs.size := fun c hc => by
  rw [Heap.size_push]
  rcases List.mem_cons.mp hc with e | hc
  · rw [e]; exact Nat.lt_succ_self _
  · rw [List.mem_singleton.mp hc, Heap.size_push]; exact Nat.lt_succ_of_lt (Nat.lt_succ_self _)
def minN (as : List D) (_ : Hea) : Option D := match as with
  | [.str a, .str b] => some (.str (minS a b))
  | [.int a, .int b] => some (.int (if b < a then b else a))
  | _ => none
def maxN (as : List D) (_ : Hea) : Option D := match as with
  | [.str a, .str b] => some (.str (maxS a b))
  | [.int a, .int b] => some (.int (if b > a then b else a))
  | _ => none
theorem cd_min (hc : X.calm = true) : CallD X (.builtin "min") minN := by
  rintro pins s σ H xs us Q I rs ⟨g, heap, as, d, rfl, hh, ra, ed, q⟩
  unfold minN at ed
  split at ed
  · rename_i a b
    cases ed
    obtain ⟨x, y, rfl, rx, ry⟩ := ra.two
    simp only [RepV] at rx ry
    subst rx ry
    obtain ⟨u1, u2, rfl, r1, r2⟩ := vals2 rs
    obtain ⟨t, rfl⟩ := r1
    obtain ⟨u, rfl⟩ := r2
    refine call_min_two (wpAny_pyIter_tuple two_items ?_)
    refine ⟨_, [_, s.heap.objs.size], [_], _, _, _, _, rfl, Walks.tuple (A := X.A.in1) (I.ok.hd hc) _ s.heap.objs.size (by rw [Heap.size_push]; exact Nat.ne_of_lt (Nat.lt_succ_self _)) #[.str a t, .str b u],
      ⟨⟨_, Heap.get?_push_size _ rfl, rfl, rfl⟩, two_items.push _⟩, two_fp, by simp, cmp_str (twoS a b) two_at, fun v h' tk hP hk => ?_⟩
    have I1 : Inv X pins σ g.H { s with heap := h', toks := tk } := I.kept (old2 hk)
    have hv : ∃ t, v = .str (minS a b) t := by
      have e : argBest (fun i j => decide ((twoS a b i).cps.toList < (twoS a b j).cps.toList)) ((#[Value.str a t, .str b u] : Array Value).size - 1) = if b.cps.toList < a.cps.toList then 1 else 0 := by
        show argBest _ 1 = _
        simp [argBest, twoS]
      rw [e] at hP
      obtain ⟨t', ht⟩ := two_at _ v hP
      refine ⟨t', ?_⟩
      rw [ht]
      unfold minS twoS
      split <;> simp
    obtain ⟨t', rfl⟩ := hv
    exact ⟨.str (minS a b), g.H, I1, ⟨_, rfl⟩, fin1 hh q (by simp [RepV])⟩
  · cases ed
    obtain ⟨x, y, rfl, rx, ry⟩ := ra.two
    simp only [RepV] at rx ry
    subst rx ry
    exact call_min2 hc pins s σ g.H _ us Q I rs ⟨_, _, rfl, fin1 hh q (by simp [RepV])⟩
  · cases ed
theorem cd_max (hc : X.calm = true) : CallD X (.builtin "max") maxN := by
  rintro pins s σ H xs us Q I rs ⟨g, heap, as, d, rfl, hh, ra, ed, q⟩
  unfold maxN at ed
  split at ed
  · rename_i a b
    cases ed
    obtain ⟨x, y, rfl, rx, ry⟩ := ra.two
    simp only [RepV] at rx ry
    subst rx ry
    obtain ⟨u1, u2, rfl, r1, r2⟩ := vals2 rs
    obtain ⟨t, rfl⟩ := r1
    obtain ⟨u, rfl⟩ := r2
    refine call_max_two (wpAny_pyIter_tuple two_items ?_)
    refine ⟨_, [_, s.heap.objs.size], [_], _, _, _, _, rfl, Walks.tuple (A := X.A.in1) (I.ok.hd hc) _ s.heap.objs.size (by rw [Heap.size_push]; exact Nat.ne_of_lt (Nat.lt_succ_self _)) #[.str a t, .str b u],
      ⟨⟨_, Heap.get?_push_size _ rfl, rfl, rfl⟩, two_items.push _⟩, two_fp, by simp, cmp_strG (twoS a b) two_at, fun v h' tk hP hk => ?_⟩
    have I1 : Inv X pins σ g.H { s with heap := h', toks := tk } := I.kept (old2 hk)
    have hv : ∃ t, v = .str (maxS a b) t := by
      have e : argBest (fun i j => decide ((twoS a b j).cps.toList < (twoS a b i).cps.toList)) ((#[Value.str a t, .str b u] : Array Value).size - 1) = if a.cps.toList < b.cps.toList then 1 else 0 := by
        show argBest _ 1 = _
        simp [argBest, twoS]
      rw [e] at hP
      obtain ⟨t', ht⟩ := two_at _ v hP
      refine ⟨t', ?_⟩
      rw [ht]
      unfold maxS twoS
      split <;> simp
    obtain ⟨t', rfl⟩ := hv
    exact ⟨.str (maxS a b), g.H, I1, ⟨_, rfl⟩, fin1 hh q (by simp [RepV])⟩
  · cases ed
    obtain ⟨x, y, rfl, rx, ry⟩ := ra.two
    simp only [RepV] at rx ry
    subst rx ry
    exact call_max2 hc pins s σ g.H _ us Q I rs ⟨_, _, rfl, fin1 hh q (by simp [RepV])⟩
  · cases ed
/-! ### xs[::-1] of a list -/
def revD (o : D) (h : Hea) : Option D := (lookL h o).map fun xs => .lst xs.reverse
theorem de_rev {e : Expr} {fe : En → Hea → R D} {k : Nat} {p1 p2 p3 pos : Pos} (he : DE X W e fe) : DE X W (.Subscript e (.Slice none none (some (.UnaryOp .USub (.Constant (.int 1) k p1) p2)) p3) pos) (fUn revD fe) :=
  pe_imp (pe_revL he) fun σ H Q ⟨g, env, heap, e1, hh, er, p⟩ => by
    refine ⟨g, env, heap, e1, hh, er, (Post.bind (A := RepV X.wd) p).imp fun x H1 ⟨g1, h1, o, e2, hh1, x1, ro, p1⟩ => ?_⟩
    subst e2
    obtain ⟨d, ed, q⟩ := p1.of1
    obtain ⟨xs, ex, rfl⟩ := Option.map_eq_some_iff.mp ed
    obtain ⟨a, us, rfl, sa, t⟩ := lookL_rep hh1 ro ex
    refine ⟨a, us, rfl, .of sa, fun p hp => ?_⟩
    obtain ⟨a1, a2, a3⟩ := hh1.newLst t.reverse hp
    exact q _ _ a1 a2 a3
end
end DD

set_option Elab.async false
set_option linter.all false
set_option maxRecDepth 100000
set_option maxHeartbeats 1000000
namespace DD
open PySem PySem.Spec PyProof.Rows L2
section
variable {X : Cx} {W : WX} {K : Wd}
instance (a b : Int) : Decidable (RgOk a b) := inferInstanceAs (Decidable (_ ∧ _))
/-- list(range(n)) -/
def fListRg (fa : En → Hea → R D) : En → Hea → R D := fun e h => (fa e h).bind fun d h1 => match d with
  | .int n => if RgOk 0 n then .ok (.lst (rangeL 0 n.toNat)) h1 else .no
  | _ => .no
theorem de_listRg {a : Expr} {fa : En → Hea → R D} {p p2 pos pos2 : Pos} (hc : X.calm = true) (hg : Gl X "list") (hm : X.mg "list" = none) (hg2 : Gl X "range") (hm2 : X.mg "range" = none) (ha : DE X W a fa)
    (na : starEach [a] X.env = (false, eval a X.env) :: starEach [] X.env := by rfl) (na2 : starEach [.Call (.Name "range" p2) [a] [] pos2] X.env = (false, eval (.Call (.Name "range" p2) [a] [] pos2) X.env) :: starEach [] X.env := by rfl) :
    DE X W (.Call (.Name "list" p) [.Call (.Name "range" p2) [a] [] pos2] [] pos) (fListRg fa) :=
  pe_imp (pe_listRg hc hg hm (prg_1 hg2 hm2 ha na) na2) fun σ H Q ⟨g, env, heap, e1, hh, er, p⟩ => by
    refine ⟨g, env, heap, e1, hh, er, (Post.bind (A := RepV X.wd) p).imp fun x H1 ⟨g1, h1, o, e2, hh1, x1, ro, p1⟩ => ?_⟩
    subst e2
    split at p1
    · split at p1
      · rename_i n hn
        simp only [RepV] at ro
        refine ⟨n, ro, hn, fun q hq => ?_⟩
        have t : RepVs X.wd g1 (rangeL 0 n.toNat) (rgV 0 n) := by
          unfold rangeL rgV
          rw [Int.sub_zero]
          have := ints_rep (K := X.wd) (g := g1) (ns := (List.range n.toNat).map fun i => (0 : Int) + (i : Nat))
          simpa [List.map_map, Function.comp_def] using this
        obtain ⟨a1, a2, a3⟩ := hh1.newLst t hq
        exact p1 _ _ a1 a2 a3
      · exact p1.elim
    · exact p1.elim
/-! ### tuple * int -/
theorem tuple_mul1 (l : Addr) (items : Array Value) (n : Nat) (dd : Option Addr) (sl : Array (Option Value)) (u : Tok) :
    Meets (Builtin.«tuple.__mul__» ⟨[.ref l, .int 1 u], []⟩) (fun _ R s => s.heap.get? l = some { cls := .type "tuple", dict := dd, data := .seq items n, slots := sl } ∧ R (.ok (.ret (Value.ref l))) s) :=
  .of_wp fun prog w A R s h => by
    obtain ⟨hp, g, d, tk, os⟩ := s
    obtain ⟨hl, h⟩ := h
    have f1 := AutoSeq1.idx_int
    have c1 : (items.isEmpty || (1 : Int) == 1) = true := by simp
    wp_walk using wpAny_loadPart' hl
    repeat (first
      | (refine wpAny_ite_true (decide_eq_true (by rw [c1])) ?_; wp_walk using wpAny_loadPart' hl)
      | (refine wpAny_ite_true (by rw [c1]) ?_; wp_walk using wpAny_loadPart' hl))
    all_goals exact ⟨_, rfl, h⟩
def repD {α : Type} (k : Int) (xs : List α) : List α := (List.replicate k.toNat xs).flatten
theorem repD_rep {g : Gd} {xs : List D} {us : List V} (t : RepVs K g xs us) (k : Int) : RepVs K g (repD k xs) (repD k us) := by
  unfold repD
  induction k.toNat with
  | zero => exact .nil
  | succ n ih => rw [List.replicate_succ, List.replicate_succ, List.flatten_cons, List.flatten_cons]; exact t.append ih
def mulG (a b : D) (h : Hea) : Option D := match a, b with
  | .tup xs, .int k => if xs ≠ [] ∧ 1 ≤ k ∧ k ≤ 1000 ∧ xs.length ≤ 1000 then some (.tup (repD k xs)) else none
  | .int i, .int j => mulD (.int i) (.int j) h
  | a, .int k => match lookL h a with
    | some xs => if 0 ≤ k ∧ k < 2 ^ 63 ∧ xs.length * k.toNat ≤ sizeLine then some (.lst (repD k xs)) else none
    | none => none
  | _, _ => none
theorem od_mulG : OpD X (binaryOp .Mult) mulG := by
  rintro pins s σ H x y v u Q I rx ry ⟨g, heap, a, b, d, rfl, hh, ra, rb, ed, q⟩
  unfold mulG at ed
  split at ed
  · rename_i xs k
    split at ed <;> cases ed
    rename_i hk
    obtain ⟨hne, k1, k2, hl⟩ := hk
    have ra' := ra
    simp only [RepV] at ra rb
    subst rb
    obtain ⟨p, us, rfl, ⟨o, eo, ho⟩, t⟩ := ra
    cases rx
    obtain ⟨tk, rfl⟩ := ry
    obtain ⟨e1, hz, its, r, o', e2, hc, n, hd⟩ := I.hok p _ eo
    rw [e1] at e2; cases e2
    obtain ⟨cls, dd, data, sl⟩ := o
    simp only at hc hd ho
    subst hc hd ho
    have hle : its.length = xs.length := by rw [t.len, ← r.length]
    have hsz0 : its.toArray.size = xs.length := by rw [List.size_toArray, hle]
    by_cases h1 : k = 1
    · subst h1
      refine wpAny_binaryOp_repeat_ref (T := "tuple") (U := "int") (by decide) ⟨_, e1, rfl⟩ (fun s' => typeIs_int s' 1 tk) noFill_tuple_mul PySem.F.fills_int_mul PySem.F.slot_int_rmul repeat_tuple PySem.F.slot_int_index.lookup
        (call_meets PySem.F.slot_int_rmul (typeIs_int s 1 tk) PySem.F.entry_int_rmul (PySem.F.args_int_rmul_2 _ _) (int_rmul_tuple 1 tk p its.toArray n none sl)
          ⟨e1, rfl, ⟨_, e1, rfl⟩, call_meets PySem.F.slot_tuple_mul ⟨_, e1, rfl⟩ PySem.F.entry_tuple_mul (PySem.F.args_tuple_mul_2 _ _) (tuple_mul1 p its.toArray n none sl tk) ⟨e1, .ref p, g.H, I, rfl, fin1 hh q ?_⟩⟩)
      have : repD 1 xs = xs := by simp [repD]
      rw [this]; exact ra'
    · have hi : its.toArray.isEmpty = false := by
        cases its with
        | nil => exact absurd (List.eq_nil_of_length_eq_zero hle.symm) hne
        | cons a b => rfl
      have hm : ((its.toArray.size : Nat) : Int) * k ≤ 1000000 := by
        rw [hsz0]
        have a1 : ((xs.length : Nat) : Int) * k ≤ 1000 * k := Int.mul_le_mul_of_nonneg_right (by omega) (by omega)
        omega
      have flen : (List.replicate k.toNat its).flatten.length ≤ sizeLine := by
        rw [PyProof.Rows.lm_len_rep_flat, hle, sizeLine_eq]
        have a1 : k.toNat * xs.length ≤ 1000 * 1000 := Nat.mul_le_mul (by omega) hl
        omega
      have c0 : (decide (k < -(2 ^ 63)) || decide (k ≥ 2 ^ 63)) = false := by
        rw [decide_eq_false (by omega), decide_eq_false (by omega)] <;> rfl
      have c1 : (its.toArray.isEmpty || k == 1) = false := by
        rw [hi, Bool.false_or]
        exact beq_eq_false_iff_ne.mpr h1
      have c2 : (decide (k ≤ 0) || its.toArray.isEmpty) = false := by
        rw [hi, Bool.or_false]
        exact decide_eq_false (by omega)
      have c4 : Builtin.Tuple.tupleTooMany (((its.toArray.size : Nat) : Int) * k) = false := by
        unfold Builtin.Tuple.tupleTooMany
        rw [sizeLine_eq]
        exact decide_eq_false (by omega)
      refine wpAny_binaryOp_repeat_ref (T := "tuple") (U := "int") (by decide) ⟨_, e1, rfl⟩ (fun s' => typeIs_int s' k tk) noFill_tuple_mul PySem.F.fills_int_mul PySem.F.slot_int_rmul repeat_tuple PySem.F.slot_int_index.lookup
        (call_meets PySem.F.slot_int_rmul (typeIs_int s k tk) PySem.F.entry_int_rmul (PySem.F.args_int_rmul_2 _ _) (int_rmul_tuple k tk p its.toArray n none sl)
          ⟨e1, rfl, ⟨_, e1, rfl⟩, call_meets PySem.F.slot_tuple_mul ⟨_, e1, rfl⟩ PySem.F.entry_tuple_mul (PySem.F.args_tuple_mul_2 _ _) (tuple_mulW p its.toArray n none sl k tk c0 c1 c2 (by omega) c4 (by rw [size_rep, List.size_toArray]; exact flen)) ⟨e1, ?_⟩⟩)
      rw [size_rep]
      obtain ⟨hn, I2⟩ := I.newTup (t' := s.toks) (xs := repD k us) (r.rep k.toNat) (by
        have : (repD k us).length = k.toNat * us.length := by unfold repD; exact PyProof.Rows.lm_len_rep_flat _ _
        rw [this, ← t.len, sizeLine_eq]
        have a1 : k.toNat * xs.length ≤ 1000 * 1000 := Nat.mul_le_mul (by omega) hl
        omega)
      obtain ⟨a1, a2, a3⟩ := hh.newTup (repD_rep t k) hn (o := tupOb ((List.replicate k.toNat its).flatten).toArray) rfl
      exact ⟨.ref s.heap.objs.size, _, I2, rfl, q _ _ a1 a2 a3⟩
  · exact od_mul pins s σ _ x y v u Q I rx ry ⟨g, heap, _, _, d, rfl, hh, ra, rb, ed, q⟩
  · split at ed
    · rename_i k _ _ _ xs ex
      split at ed <;> cases ed
      rename_i hk
      obtain ⟨p, us, rfl, sa, t⟩ := lookL_rep hh ra ex
      simp only [RepV] at rb
      subst rb
      refine op_rep pins s σ g.H _ _ v u Q I rx ry ⟨p, k, us, rfl, rfl, sa, by omega, by omega, by rw [← t.len]; exact hk.2.2, fun l hl => ?_⟩
      obtain ⟨a1, a2, a3⟩ := hh.newLst (repD_rep t k) hl
      exact q _ _ a1 a2 a3
    · cases ed
  · cases ed
end
end DD

set_option Elab.async false
set_option linter.all false
set_option maxRecDepth 100000
set_option maxHeartbeats 1000000
namespace DD
open PySem PySem.Spec PySem.Calls PyProof.Rows L2
abbrev Lob (its : List Value) (c : Nat) : Obj := { cls := .type "list", dict := none, data := .seq its.toArray c, slots := #[] }
theorem args_sum2 (a b : Value) : argsOk "sum" ⟨[a, b], []⟩ := by unfold argsOk; kernel_rfl
theorem sub_list_str : isSubtype (.type "list") (.type "str") = pure false := by rw [isSubtype_type]; kernel_rfl
theorem sub_list_bytes : isSubtype (.type "list") (.type "bytes") = pure false := by rw [isSubtype_type]; kernel_rfl
theorem sub_list_bytearray : isSubtype (.type "list") (.type "bytearray") = pure false := by rw [isSubtype_type]; kernel_rfl
section
variable {prog : Program} {w : World} {A : Around} {E : Value → Shared → Prop} {s : Shared} {I l S : Addr} {h0 : Heap}
theorem sumL_loop {R : Result → Shared → Prop} (hh : A.handled = none) (items : List Value) (bs : List (Addr × List Value × Nat)) (hi : items = bs.map fun p => Value.ref p.1) (hb : ∀ p ∈ bs, h0.get? p.1 = some (Lob p.2.1 p.2.2)) (hl : h0.IsList l items.toArray) (IS : I ≠ S) (hI : h0.get? I = none) (hS : h0.get? S = none) :
    ∀ (k i : Nat) (s : Shared) (T : Addr) (acc : List Value) (c c2 : Nat), bs.length - i = k → i ≤ bs.length → s.heap.IsListIter I l i → (∀ b o, h0.get? b = some o → s.heap.get? b = some o) → s.heap.get? S = some { cls := .type "list", dict := none, data := .seq #[.ref T] c, slots := #[] } → s.heap.get? T = some (Lob acc c2) → T ≠ I → T ≠ S →
    (acc ++ ((bs.drop i).map (·.2.1)).flatten).length ≤ sizeLine →
    (∀ h' tk T' c', (∀ b o, h0.get? b = some o → h'.get? b = some o) → h'.get? T' = some (Lob (acc ++ ((bs.drop i).map (·.2.1)).flatten) c') → (T' = T ∨ h0.get? T' = none) → R (.ok (.ret (.ref T'))) { s with heap := h', toks := tk }) →
    codeAny (model prog w) A (.builtin "sum.loop" ⟨[.ref I, .ref S, rawInt 2, rawInt 0], []⟩) R s := by
  have lI : l ≠ I := fun e => by obtain ⟨o, ho, _⟩ := hl; rw [e, hI] at ho; cases ho
  have lS : l ≠ S := fun e => by obtain ⟨o, ho, _⟩ := hl; rw [e, hS] at ho; cases ho
  have W := Walks.list (prog := prog) (w := w) (A := A.in1) hh I l lI items.toArray
  have hsz : items.toArray.size = bs.length := by rw [hi]; simp
  intro k
  induction k with
  | zero =>
    intro i s T acc c c2 hk hi' hit hkeep hSs hT tI tS hlen hR
    have e : i = bs.length := by omega
    subst e
    refine codeAny_builtin F.entry_sum_loop ?_
    rw [Around.under_plainId F.plain_sum_loop _]
    show wpAny _ A.in1 (seqItems? (.ref S) >>= _) _ _ s
    refine wpAny_bind (wpAny_seqItems hSs rfl ?_)
    show wpAny _ A.in1 (tryCatch (pyNext (.ref I)) _ >>= _) _ _ s
    refine wpAny_bind (wpAny_tryCatch (W.done s _ _ (by rw [hsz]; exact ⟨hit, hl.at fun o e => hkeep _ _ e⟩) fun h' tk hk' => ?_))
    refine wpAny_pure (hR h' tk T c2 (fun b o e => hk' b o (fun q => by rw [List.mem_singleton.mp q, hI] at e; cases e) (hkeep b o e)) ?_ (.inl rfl))
    rw [List.drop_length]
    simp only [List.map_nil, List.flatten_nil, List.append_nil]
    exact hk' T _ (fun q => tI (List.mem_singleton.mp q)) hT
  | succ k ih =>
    intro i s T acc c c2 hk hi' hit hkeep hSs hT tI tS hlen hR
    have hlt : i < bs.length := by omega
    refine codeAny_builtin F.entry_sum_loop ?_
    rw [Around.under_plainId F.plain_sum_loop _]
    show wpAny _ A.in1 (seqItems? (.ref S) >>= _) _ _ s
    refine wpAny_bind (wpAny_seqItems hSs rfl ?_)
    show wpAny _ A.in1 (tryCatch (pyNext (.ref I)) _ >>= _) _ _ s
    refine wpAny_bind (wpAny_tryCatch (W.item i s _ _ (by rw [hsz]; exact hlt) ⟨hit, hl.at fun o e => hkeep _ _ e⟩ fun v h' tk hP hst' hk' => ?_))
    have hv : v = .ref (bs[i]).1 := by
      have : items.toArray[i]? = some (Value.ref (bs[i]).1) := by rw [hi]; simp [hlt]
      rw [this] at hP; exact (Option.some.inj hP).symm
    subst hv
    have hmem : bs[i] ∈ bs := List.getElem_mem hlt
    have hbi := hb _ hmem
    have keep1 : ∀ b o, h0.get? b = some o → h'.get? b = some o := fun b o e => hk' b o (fun q => by rw [List.mem_singleton.mp q, hI] at e; cases e) (hkeep b o e)
    have hT' := hk' T _ (fun q => tI (List.mem_singleton.mp q)) hT
    have hS' := hk' S _ (fun q => IS (List.mem_singleton.mp q).symm) hSs
    rw [List.drop_eq_getElem_cons hlt] at hlen hR
    simp only [List.map_cons, List.flatten_cons] at hlen hR
    show wpAny _ A.in1 ((holding [.ref (bs[i]).1] (binaryOp .Add (.ref T) (.ref (bs[i]).1))).attempt >>= _) _ _ _
    refine wpAny_bind (wpAny_attempt (wpAny_holding (PySem.P.add_list (n := c2) (n2 := (bs[i]).2.2) hT' (keep1 _ _ hbi) ?_ (by
      rw [List.size_toArray, List.size_toArray]
      have : (acc ++ ((bs[i]).2.1 ++ ((bs.drop (i + 1)).map (·.2.1)).flatten)).length ≤ sizeLine := hlen
      simp at this; omega))))
    have ea : acc.toArray ++ (bs[i]).2.1.toArray = (acc ++ (bs[i]).2.1).toArray := by simp
    rw [ea]
    have hN : (h'.push { cls := .type "list", data := .seq (acc ++ (bs[i]).2.1).toArray }).get? h'.objs.size = some (Lob (acc ++ (bs[i]).2.1) 0) := Heap.get?_push_size _ rfl
    have hSp : (h'.push { cls := .type "list", data := .seq (acc ++ (bs[i]).2.1).toArray }).get? S = some { cls := .type "list", dict := none, data := .seq #[.ref T] c, slots := #[] } := Heap.get?_push_of_some _ hS'
    have kp : ∀ b o, h'.get? b = some o → (h'.push { cls := .type "list", data := .seq (acc ++ (bs[i]).2.1).toArray }).get? b = some o := fun b o e => Heap.get?_push_of_some _ e
    have szp : (h'.push { cls := .type "list", data := .seq (acc ++ (bs[i]).2.1).toArray }).objs.size = h'.objs.size + 1 := Heap.size_push ..
    generalize h'.push { cls := .type "list", data := .seq (acc ++ (bs[i]).2.1).toArray } = h5 at hN hSp kp szp ⊢
    show wpAny _ A.in1 (updateSeq S (fun _ => #[.ref h'.objs.size]) >>= _) _ _ { s with heap := h5, toks := tk }
    refine wpAny_bind (wpAny_updateSeq hSp rfl (wpAny_bind (wpAny_letGo ?_)))
    have hSq := Heap.get?_update_self (Obj.mapSeq (fun _ => #[Value.ref h'.objs.size])) hSp rfl
    show wpAny _ A.in1 (updateSeq S (fun _ => #[.ref h'.objs.size]) >>= _) _ _ _
    refine wpAny_bind (wpAny_updateSeq hSq rfl ?_)
    have hSr := Heap.get?_update_self (Obj.mapSeq (fun _ => #[Value.ref h'.objs.size])) hSq rfl
    have oth : ∀ b o, b ≠ S → h5.get? b = some o → ((h5.update S (Obj.mapSeq (fun _ => #[Value.ref h'.objs.size]))).update S (Obj.mapSeq (fun _ => #[Value.ref h'.objs.size]))).get? b = some o := fun b o hb e => (Heap.get?_update_other _ _ (Ne.symm hb)).trans ((Heap.get?_update_other _ _ (Ne.symm hb)).trans e)
    have nS : h'.objs.size ≠ S := Nat.ne_of_gt (Heap.lt_size hS')
    have nI : h'.objs.size ≠ I := by obtain ⟨o, ho, _⟩ := hst'.1; exact Nat.ne_of_gt (Heap.lt_size ho)
    refine wpAny_pure ⟨plainId_quiet F.plain_sum_loop _, ih (i + 1) _ h'.objs.size (acc ++ (bs[i]).2.1) _ 0 (by omega) hlt (hst'.1.at fun o e => oth _ _ IS (kp _ _ e)) (fun b o e => oth _ _ (fun q => by rw [q, hS] at e; cases e) (kp _ _ (keep1 b o e))) hSr (oth _ _ nS hN) nI nS (by rw [List.append_assoc]; exact hlen) fun h6 tk6 T6 c6 k6 e6 l6 => ?_⟩
    rw [List.append_assoc] at e6
    refine hR h6 tk6 T6 c6 k6 e6 (.inr ?_)
    rcases l6 with q | q
    · rw [q]
      cases e7 : h0.get? h'.objs.size with
      | none => rfl
      | some o => exact absurd (Heap.lt_size (keep1 _ _ e7)) (Nat.lt_irrefl _)
    · exact q
theorem call_sumL {Q : Value → Shared → Prop} (hh : A.handled = none) (items : List Value) (bs : List (Addr × List Value × Nat)) {T : Addr} {c : Nat} (hi : items = bs.map fun p => Value.ref p.1) (hb : ∀ p ∈ bs, s.heap.get? p.1 = some (Lob p.2.1 p.2.2)) (hl : s.heap.IsList l items.toArray) (hT : s.heap.get? T = some (Lob [] c)) (hz : ((bs.map (·.2.1)).flatten).length ≤ sizeLine)
    (hQ : ∀ h' tk T' c', (∀ b o, s.heap.get? b = some o → h'.get? b = some o) → h'.get? T' = some (Lob ((bs.map (·.2.1)).flatten) c') → (T' = T ∨ s.heap.get? T' = none) → Q (.ref T') { s with heap := h', toks := tk }) :
    wpAny (model prog w) A (call (.builtin "sum") [.ref l, .ref T]) Q E s := by
  refine call_function_tree F.kind_sum F.plain_sum F.entry_sum (args_sum2 _ _) ?_
  unfold Builtin.«sum»
  simp only [List.length_cons, List.length_nil]
  rw [if_neg (by decide)]
  refine wpAny_bind (wpAny_of_eq (show Builtin.Builtins.bindParams "sum" ["start"] 0 ⟨[.ref T], []⟩ = pure [some (.ref T)] from rfl) ?_)
  refine wpAny_bind (wpAny_pyIter_list hl ?_)
  refine wpAny_bind (wpAny_pure ?_)
  have hTy : ∀ h2 : Heap, (∀ b o, s.heap.get? b = some o → h2.get? b = some o) → ({ s with heap := h2 } : Shared).TypeIs (.ref T) "list" := fun h2 k => ⟨_, k _ _ hT, rfl⟩
  have k1 : ∀ b o, s.heap.get? b = some o → (s.heap.push { cls := .type "list_iterator", data := .fields #[.ref l, .int 0 0] }).get? b = some o := fun b o e => Heap.get?_push_of_some _ e
  simp only [List.forIn_cons, List.forIn_nil]
  refine wpAny_bind (wpAny_bind (wpAny_bind (wpAny_isInstance (T := "list") (b := false) (hTy _ k1) sub_list_str ?_)))
  simp only [Bool.false_eq_true, if_false]
  refine wpAny_pure (wpAny_bind (wpAny_bind (wpAny_isInstance (T := "list") (b := false) (hTy _ k1) sub_list_bytes ?_)))
  simp only [Bool.false_eq_true, if_false]
  refine wpAny_pure (wpAny_bind (wpAny_bind (wpAny_isInstance (T := "list") (b := false) (hTy _ k1) sub_list_bytearray ?_)))
  simp only [Bool.false_eq_true, if_false]
  refine wpAny_pure (wpAny_pure (wpAny_bind (wpAny_newObj_type ?_)))
  have n1 : s.heap.get? s.heap.objs.size = none := by
    cases e : s.heap.get? s.heap.objs.size with
    | none => rfl
    | some o => exact absurd (Heap.lt_size e) (Nat.lt_irrefl _)
  have z1 : (s.heap.push { cls := .type "list_iterator", data := .fields #[.ref l, .int 0 0] }).objs.size = s.heap.objs.size + 1 := Heap.size_push ..
  have n2 : s.heap.get? (s.heap.push { cls := .type "list_iterator", data := .fields #[.ref l, .int 0 0] }).objs.size = none := by
    cases e : s.heap.get? (s.heap.push { cls := .type "list_iterator", data := .fields #[.ref l, .int 0 0] }).objs.size with
    | none => rfl
    | some o => have := Heap.lt_size e; rw [z1] at this; exact absurd (Nat.lt_of_succ_lt this) (Nat.lt_irrefl _)
  have hTl := Heap.lt_size hT
  refine wpAny_pure ⟨plainId_quiet F.plain_sum_loop _, sumL_loop (h0 := s.heap) hh items bs hi hb hl (by rw [z1]; exact Nat.ne_of_lt (Nat.lt_succ_self _)) n1 n2 bs.length 0 _ T [] 0 c rfl (Nat.zero_le _) ⟨_, Heap.get?_push_of_some _ (Heap.get?_push_size _ rfl), rfl, rfl⟩ (fun b o e => Heap.get?_push_of_some _ (k1 b o e)) (Heap.get?_push_size _ rfl) (Heap.get?_push_of_some _ (k1 _ _ hT)) (Nat.ne_of_lt hTl) (by rw [z1]; exact Nat.ne_of_lt (Nat.lt_succ_of_lt hTl)) (by simpa using hz) fun h' tk T' c' k e l => hQ h' tk T' c' k (by simpa using e) l⟩
end
theorem ob_there {P : Program} {w : World} {H : Hp} {h : Heap} {a : Addr} {o : HO} (x : ObjOk P w H h a o) : ∃ u, h.get? a = some u := by
  cases o with
  | lst xs => obtain ⟨_, _, _, _, e⟩ := x; exact ⟨_, e⟩
  | tup xs => obtain ⟨_, _, _, o, e, _⟩ := x; exact ⟨_, e⟩
  | dK kvs => obtain ⟨_, _, _, _, o, _, _, e, _⟩ := x; exact ⟨_, e⟩
  | dT kvs => obtain ⟨_, _, _, _, o, _, _, e, _⟩ := x; exact ⟨_, e⟩
  | set S n => obtain ⟨o, _, _, _, e, _⟩ := x; exact ⟨_, e⟩
  | ins C dx fs => obtain ⟨_, _, _, e, _⟩ := x; exact ⟨_, e⟩
  | own y => obtain ⟨_, e⟩ := x; exact ⟨_, e⟩
  | xd fs => obtain ⟨_, ⟨_, _, _, e, _⟩, _⟩ := x; exact ⟨_, e⟩
  | rng lo hi => obtain ⟨_, _, _, e⟩ := x; exact ⟨_, e⟩
  | frz ob u => obtain ⟨e, _⟩ := x; exact ⟨_, e⟩
  | tbl ps => exact ⟨_, (show h.get? a = some _ from x)⟩
  | met f y => exact ⟨_, (show h.get? a = some _ from x)⟩
  | ext φ => obtain ⟨_, e, _⟩ := x; exact e
section
variable {X : Cx} {W : WX} {K : Wd}
def listsOf (h : Hea) : List D → Option (List (List D))
  | [] => some []
  | d :: ds => (lookL h d).bind fun xs => (listsOf h ds).map (xs :: ·)
/-- sum(x), sum(x, []) -/
def sumG (as : List D) (h : Hea) : Option D := match as with
  | [d, .lst []] => ((lookL h d).bind (listsOf h)).bind fun xss => if xss.flatten.length ≤ sizeLine then some (.lst xss.flatten) else none
  | as => sumN as h
theorem lists_rep {pins : List (Addr × Obj)} {σ : L2.St} {s : Shared} {g : Gd} {heap : Hea} (I : Inv X pins σ g.H s) (hh : HR X.wd g heap) : ∀ {ds : List D} {us : List V} {xss : List (List D)}, RepVs X.wd g ds us → listsOf heap ds = some xss →
    ∃ (bs : List (Addr × List Value × Nat)) (vss : List (List V)), us = bs.map (fun p => V.ref p.1) ∧ (∀ p ∈ bs, s.heap.get? p.1 = some (Lob p.2.1 p.2.2)) ∧ Vals vss.flatten ((bs.map (·.2.1)).flatten) ∧ RepVs X.wd g xss.flatten vss.flatten
  | [], us, xss, r, e => by
    cases e
    rw [RepVs_nil.mp r]
    exact ⟨[], [], rfl, (fun p hp => nomatch hp), .nil, .nil⟩
  | d :: ds, us, xss, r, e => by
    obtain ⟨xs, e1, e2⟩ := Option.bind_eq_some_iff.mp e
    obtain ⟨l, e3, rfl⟩ := Option.map_eq_some_iff.mp e2
    obtain ⟨x, rest, rfl, rx, rr⟩ := RepVs_cons.mp r
    obtain ⟨bs, vss, rfl, h1, h2, h3⟩ := lists_rep I hh rr e3
    obtain ⟨a, ws, rfl, sa, t⟩ := lookL_rep hh rx e1
    obtain ⟨its, n, rv, ho, hz⟩ := I.lst sa
    refine ⟨(a, its, n) :: bs, ws :: vss, rfl, fun p hp => ?_, ?_, ?_⟩
    · rcases List.mem_cons.mp hp with z | hp
      · rw [z]; exact ho
      · exact h1 p hp
    · simp only [List.map_cons, List.flatten_cons]; exact rv.append h2
    · simp only [List.flatten_cons]; exact t.append h3
theorem refs_of : ∀ {bs : List (Addr × List Value × Nat)} {its : List Value}, Vals (bs.map fun p => V.ref p.1) its → its = bs.map fun p => Value.ref p.1
  | [], its, r => by cases r; rfl
  | p :: bs, its, r => by
    cases r with
    | cons a b => cases a; rw [refs_of b]; rfl
theorem cd_sumG (hc : X.calm = true) : CallD X (.builtin "sum") sumG := by
  rintro pins s σ H xs us Q I rs ⟨g, heap, as, d, rfl, hh, ra, ed, q⟩
  unfold sumG at ed
  split at ed
  · obtain ⟨x, y, rfl, rx, ry⟩ := ra.two
    obtain ⟨xss, e1, e2⟩ := Option.bind_eq_some_iff.mp ed
    split at e2 <;> cases e2
    rename_i hl
    obtain ⟨ys, e3, e4⟩ := Option.bind_eq_some_iff.mp e1
    obtain ⟨a, ws, rfl, sa, t⟩ := lookL_rep hh rx e3
    have ry0 := ry
    simp only [RepV] at ry
    obtain ⟨T, zs, rfl, sT, _, tT⟩ := ry
    cases RepVs_nil.mp tT
    obtain ⟨u1, u2, rfl, r1, r2⟩ := vals2 rs
    cases r1
    cases r2
    obtain ⟨bs, vss, rfl, h1, h2, h3⟩ := lists_rep I hh t e4
    obtain ⟨its, n, rv, ho, hz⟩ := I.lst sa
    obtain ⟨itT, nT, rvT, hoT, _⟩ := I.lst sT
    cases rvT
    have ei := refs_of rv
    have lenF : ((bs.map (·.2.1)).flatten).length = xss.flatten.length := by rw [← h2.length, ← h3.len]
    refine call_sumL (I.ok.hd hc) its bs ei h1 ⟨_, ho, rfl, n, rfl⟩ hoT (by rw [lenF]; exact hl) fun h' tk T' c' k e l => ?_
    have I1 : Inv X pins σ g.H { s with heap := h', toks := tk } := I.kept k
    rcases l with rfl | l
    · have e0 : ((bs.map (·.2.1)).flatten) = [] := by
        have := (k _ _ hoT).symm.trans e
        simp [Lob] at this
        simpa using this.1
      have x0 : xss.flatten = [] := List.eq_nil_of_length_eq_zero (by rw [← lenF, e0]; rfl)
      rw [x0] at q
      exact ⟨.ref T', g.H, I1, rfl, fin1 hh q ry0⟩
    · have hn : g.H T' = none := by
        cases e5 : g.H T' with
        | none => rfl
        | some o =>
          obtain ⟨u, eu⟩ := ob_there (I.hok T' _ e5)
          rw [l] at eu; cases eu
      have I2 : Inv X pins σ (upd g.H T' (.lst vss.flatten)) { s with heap := h', toks := tk } := Inv.laidN I k l hn ⟨by rw [h2.length, lenF]; exact hl, _, c', h2, e⟩
      obtain ⟨a1, a2, a3⟩ := hh.newLst h3 hn
      exact ⟨.ref T', _, I2, rfl, q _ _ a1 a2 a3⟩
  · exact cd_sum hc pins s σ _ _ us Q I rs ⟨g, heap, _, d, rfl, hh, ra, ed, q⟩
end
end DD

set_option Elab.async false
set_option linter.all false
set_option maxRecDepth 100000
set_option maxHeartbeats 1000000
namespace DD
open PySem PySem.Spec PyProof.Rows L2
open PySem.W (EachIs)
def tup1 : D → Bool
  | .tup (_ :: _) => true
  | _ => false
def noTup : D → Bool
  | .int _ => true
  | .str _ => true
  | .lst _ => true
  | _ => false
def sortB (xs : List D) : Bool := xs.all (okE 59) && xs.all (fun a => xs.all fun b => PySem.W.alike (py a) (py b)) && (decide (xs.length < 2) || xs.all tup1 || xs.all noTup)
def sortD (xs : List D) : List D := xs.mergeSort (PySem.W.dataLe false py)
def RD (X : Cx) (g : Gd) (v : Value) (d : D) : Prop := ∃ u, RelV u v ∧ RepV X.wd g d u
theorem each_of {X : Cx} {g : Gd} : ∀ {ds : List D} {us : List V} {vs : List Value}, RepVs X.wd g ds us → Vals us vs → EachIs (RD X g) vs ds
  | [], us, vs, r, q => by
    rw [RepVs_nil.mp r] at q; cases q; exact .nil
  | d :: ds, us, vs, r, q => by
    obtain ⟨x, rest, rfl, rx, rr⟩ := RepVs_cons.mp r
    cases q with
    | cons a b => exact .cons ⟨x, a, rx⟩ (each_of rr b)
theorem of_each {X : Cx} {g : Gd} : ∀ {ds : List D} {vs : List Value}, EachIs (RD X g) vs ds → ∃ us, Vals us vs ∧ RepVs X.wd g ds us
  | _, _, .nil => ⟨[], .nil, .nil⟩
  | _, _, .cons h t => by
    obtain ⟨u, r1, r2⟩ := h
    obtain ⟨us, s1, s2⟩ := of_each t
    exact ⟨u :: us, .cons r1 s1, .cons r2 s2⟩
theorem sort_short {xs : List D} (h : xs.length < 2) : sortD xs = xs := by
  unfold sortD
  match xs, h with
  | [], _ => simp
  | [x], _ => simp
  | _ :: _ :: _, h => exact absurd h (by simp)
theorem swo0 : SrtO.Swo fun _ _ : Value => false := ⟨fun _ _ _ => rfl, fun _ _ _ _ _ => rfl⟩
theorem perm_short {α : Type} {a b : List α} (p : a.Perm b) (h : b.length < 2) : a = b := by
  match b, h with
  | [], _ => exact p.eq_nil
  | [x], _ => exact List.perm_singleton.mp p
  | _ :: _ :: _, h => exact absurd h (by simp)
section
variable {X : Cx} {W : WX} {K : Wd}
theorem sortB_open {xs : List D} (h : sortB xs = true) : (∀ d ∈ xs, okE 59 d = true) ∧ PySem.W.AllAlike (xs.map py) ∧ (xs.length < 2 ∨ PySem.W.Sortable (xs.map py)) := by
  unfold sortB at h
  simp only [Bool.and_eq_true, Bool.or_eq_true, List.all_eq_true, decide_eq_true_eq] at h
  obtain ⟨⟨h1, h2⟩, h3⟩ := h
  refine ⟨h1, fun d hd d' hd' => ?_, ?_⟩
  · obtain ⟨a, ha, rfl⟩ := List.mem_map.mp hd
    obtain ⟨b, hb, rfl⟩ := List.mem_map.mp hd'
    exact h2 a ha b hb
  · rcases h3 with (h3 | h3) | h3
    · exact .inl h3
    · refine .inr (.inl fun d hd => ?_)
      obtain ⟨a, ha, rfl⟩ := List.mem_map.mp hd
      have := h3 a ha
      unfold tup1 at this
      split at this
      · rename_i x r; exact ⟨py x, pys r, by simp [py, pys]⟩
      · cases this
    · refine .inr (.inr fun d hd => ?_)
      obtain ⟨a, ha, rfl⟩ := List.mem_map.mp hd
      have := h3 a ha
      unfold noTup at this
      split at this <;> first | exact absurd this Bool.false_ne_true | exact ⟨by simp [py], fun xs => by simp [py]⟩
/-- what sorted(x) walks: a list's items or a dict's keys -/
def sortOf (h : Hea) (d : D) : Option (List D) := match dicOf h d with
  | some (_, ks, _) => some ks
  | none => lookL h d
def sortedN (as : List D) (h : Hea) : Option D := match as with
  | [d] => match sortOf h d with
    | some xs => if sortB xs = true then some (.lst (sortD xs)) else none
    | none => none
  | _ => none
theorem rd_reads {pins : List (Addr × Obj)} {σ : L2.St} {s : Shared} {g : Gd} (I : Inv X pins σ g.H s) {v : Value} {d : D} (h : okE 59 d = true) (r : RD X g v d) : ∃ as, Reads s.heap v (py d) as := by
  obtain ⟨u, r1, r2⟩ := r
  exact Dp.reads I (py d) u v (py_dp 59 d u h r2) r1
/-- a list of values that stand for data is sorted: what is asked of the sort, at any heap that keeps the rest -/
theorem sort_list {pins : List (Addr × Obj)} {σ : L2.St} {s : Shared} {g : Gd} {A : Around} {E : Value → Shared → Prop} {vs : List Value} {xs : List D} {a : Addr} {R : PySem.Fin → Shared → Prop} (hu : A.units + 64 < cLine) (I : Inv X pins σ g.H s) (e : EachIs (RD X g) vs xs) (hs : sortB xs = true) (hz : vs.length ≤ sizeLine)
    (ho : s.heap.get? a = some (seqObj "list" vs.toArray 0)) (hn : g.H a = none)
    (hr : ∀ h' : Heap, (∀ b o, b ≠ a → s.heap.get? b = some o → h'.get? b = some o) → EachIs (fun v d => ∃ as, Reads h' v (py d) as) vs xs)
    (h : ∀ out : List Value, EachIs (RD X g) out (sortD xs) → out.length = vs.length → R (.done (.ret .none)) { s with heap := sortedHeap s.heap a vs out.toArray }) :
    wpAny (model X.prog X.w) A (Builtin.«list.sort» ⟨[.ref a], []⟩) R E s := by
  obtain ⟨h1, h2, h3⟩ := sortB_open hs
  by_cases hl : xs.length < 2
  · have hv : vs.length < 2 := by rw [e.length]; exact hl
    refine SrtO.list_sort_ord swo0 ho hz (fun z => absurd hv (by omega)) fun out _ b => ?_
    have : out = vs := perm_short b.perm hv
    subst this
    exact h _ (by rw [sort_short hl]; exact e) rfl
  · have hk : PySem.W.Sortable (xs.map py) := h3.resolve_left hl
    have er := hr (PySem.W.sortingHeap s.heap a vs) fun b o hb eb => PySem.W.sortingHeap_old hb eb
    have S := PySem.W.SortsAt.data (prog := X.prog) (w := X.w) (A := A) (s := { s with heap := PySem.W.sortingHeap s.heap a vs }) (PySem.W.each_map (R := fun v d => ∃ as, Reads (PySem.W.sortingHeap s.heap a vs) v d as) py er) h2 hk fun d hd => by
      obtain ⟨x, hx, rfl⟩ := List.mem_map.mp hd
      have := (py_ok 59 x (h1 x hx)).2
      omega
    refine PySem.W.list_sort_vals ho S hz ?_
    exact h _ (PySem.W.sortVals_data false e er h2) (by rw [PySem.W.sortVals_length false rfl])
theorem cd_sorted (hc : X.calm = true) (hu : X.A.units + 66 < cLine) : CallD X (.builtin "sorted") sortedN := by
  rintro pins s σ H xs us Q I rs ⟨g, heap, as, d, rfl, hh, ra, ed, q⟩
  unfold sortedN at ed
  split at ed
  · split at ed
    · rename_i ys es
      split at ed <;> cases ed
      rename_i hs
      obtain ⟨x, rfl, rx⟩ := ra.one
      -- the items, collected
      have src : ∀ {R : List Value → Shared → Prop} {E : Value → Shared → Prop}, (∀ h' tk acc, (∀ b o, s.heap.get? b = some o → h'.get? b = some o) → EachIs (RD X g) acc ys → ys.length ≤ sizeLine → R acc { s with heap := h', toks := tk }) → ∃ a, us = [Value.ref a] ∧ wpAny (model X.prog X.w) X.A.in1 (collect (.ref a)) R E s := by
        intro R E hR
        unfold sortOf at es
        split at es
        · rename_i t ks vs ec
          cases es
          obtain ⟨a, ws, rfl, dr, rv⟩ := dicOf_rep hh rx ec
          obtain ⟨u, rfl, ru⟩ := vals1 rs
          cases ru
          refine ⟨a, rfl, ?_⟩
          cases t with
          | false =>
            obtain ⟨kvs, e, e1, e2⟩ := dr
            subst e1
            obtain ⟨z, lo, vs', rel, dd⟩ := dk_of I.hok e
            obtain ⟨ep, hat⟩ := dd.dictAt
            refine PySem.W.kdu_collect (PySem.W.kdl_dict (knd := mixKind X.prog X.w) (kvs := vs') (ep := ep) lo) (I.ok.hd hc) hat (by rw [← rel.length]; exact z) fun h' tk acc hk it => hR h' tk acc.toList hk ?_ (by rw [List.length_map]; exact z)
            have rk : Vals (vs'.map fun p => kV p.1) acc.toList := keys_at (by rw [Array.length_toList]; exact it.1) fun j v e => it.2 j v (by rw [← Array.getElem?_toList]; exact e)
            have ek : (kvs.map fun p => kV p.1) = vs'.map fun p => kV p.1 := by
              have := congrArg (List.map kV) rel.keys
              simpa [List.map_map, Function.comp_def] using this
            rw [← ek] at rk
            exact each_of (RepVs.ofMap (fd := fun p : Key × V => kD p.1) (fv := fun p => kV p.1) (ns := kvs) fun p => key_rep) rk
          | true =>
            obtain ⟨xs, e, dd, z, hd, e1, e3, e2⟩ := dt_open I dr
            subst e1
            obtain ⟨o, es, ep, ho, hx, hdt, he, hi, hn⟩ := dd
            have l1 : es.size = xs.length := size_of_entries he
            refine PySem.W.kdu_collect (kdl_raw hd hx hdt) (I.ok.hd hc) ho (by omega) fun h' tk acc hk it => hR h' tk acc.toList hk ?_ (by rw [List.length_map]; exact z)
            have ea : acc.toList = xs.map fun x => Value.ref x.2.1 := by
              apply List.ext_getElem?
              intro j
              rw [List.getElem?_map]
              cases hj : acc.toList[j]? with
              | none =>
                have := List.getElem?_eq_none_iff.mp hj
                rw [Array.length_toList, it.1, l1] at this
                rw [List.getElem?_eq_none this]; rfl
              | some v =>
                obtain ⟨en, hen, hv⟩ := it.2 j v (by rw [← Array.getElem?_toList]; exact hj)
                have qe := entry_at he j
                rw [hen] at qe
                cases hb : xs[j]? with
                | none => rw [hb] at qe; cases qe
                | some b =>
                  rw [hb] at qe
                  cases qe
                  rw [hv]; rfl
            rw [ea]
            have : ∀ l : List (List Key × Addr × Value), (∀ x ∈ l, x ∈ xs) → EachIs (RD X g) (l.map fun x => Value.ref x.2.1) (l.map fun p => D.tup (p.1.map kD)) := by
              intro l
              induction l with
              | nil => intro _; exact .nil
              | cons y l ih =>
                intro hl
                refine .cons ⟨.ref y.2.1, rfl, ?_⟩ (ih fun x hx => hl x (List.mem_cons_of_mem _ hx))
                simp only [RepV]
                exact ⟨_, _, rfl, e2 y (hl y List.mem_cons_self), RepVs.ofMap fun k => key_rep⟩
            exact this xs fun x hx => hx
        · obtain ⟨a, ws, rfl, sa, t⟩ := lookL_rep hh rx es
          obtain ⟨u, rfl, ru⟩ := vals1 rs
          cases ru
          obtain ⟨its, n, rv, ho, hz⟩ := I.lst sa
          refine ⟨a, rfl, collect_list ⟨_, ho, rfl, n, rfl⟩ ?_ (by rw [← rv.length]; exact hz)⟩
          refine hR _ _ its (fun b o e => ?_) (each_of t rv) (by rw [t.len]; exact hz)
          rw [Heap.get?_update_ne _ _ _ _ (Nat.ne_of_lt (Heap.lt_size e))]
          exact Heap.get?_push_of_some _ e
      obtain ⟨a, ea, _⟩ := src (R := fun _ _ => True) (E := fun _ _ => True) fun _ _ _ _ _ _ => trivial
      subst ea
      refine Calls.call_function_entry PyProof.Rows.kind_sorted PyProof.Rows.plain_sorted PyProof.Rows.entry_sorted (PyProof.Rows.args_sorted1 _) ?_
      unfold Builtin.«sorted»
      refine wpAny_bind (m := checkCount "sorted" 1 1 _) (wpAny_pure ?_)
      refine wpAny_bind ?_
      have main : ∀ (E : Value → Shared → Prop) h' tk acc, (∀ b o, s.heap.get? b = some o → h'.get? b = some o) → EachIs (RD X g) acc ys → ys.length ≤ sizeLine → wpAny (model X.prog X.w) X.A.in1 (newList acc >>= fun l => holding [l] (call (.builtin "list.sort") [l]) >>= fun _ => ret l) (fun fin s' => ∃ r, fin = .done (.ret r) ∧ EP X pins σ Q r s') E { s with heap := h', toks := tk } := by
        intro E h' tk acc hk each hzy
        have hlen : acc.length ≤ sizeLine := by rw [each.length]; exact hzy
        have I1 : Inv X pins σ g.H { s with heap := h', toks := tk } := I.kept hk
        refine wpAny_bind (wpAny_newList ?_ hlen)
        have hoL : (h'.push (seqObj "list" acc.toArray 0)).get? h'.objs.size = some (seqObj "list" acc.toArray 0) := Heap.get?_push_size _ rfl
        have I2 : Inv X pins σ g.H { s with heap := h'.push (seqObj "list" acc.toArray 0), toks := tk } := I1.kept (t' := tk) fun b o e => Heap.get?_push_of_some _ e
        have hn : g.H h'.objs.size = none := I1.hok.fresh (Nat.le_refl _)
        obtain ⟨ok, _, _⟩ := sortB_open hs
        show wpAny _ _ _ _ _ { s with heap := h'.push (seqObj "list" acc.toArray 0), toks := tk }
        refine wpAny_bind (wpAny_holding (wpAny_call_entry PyProof.Rows.slot_list_sort ⟨_, hoL, rfl⟩ PyProof.Rows.entry_list_sort (sort_list (by show X.A.units + 1 + 1 + 64 < cLine; omega) I2 each hs hlen hoL hn (fun h6 k6 => ?_) fun out eo lo => ⟨_, rfl, ?_⟩) (PyProof.Rows.args_list_sort _)))
        · refine (PySem.W.each_mem each).mono fun v d ⟨rd, hd⟩ => ?_
          obtain ⟨as, r⟩ := rd_reads I1 (ok d hd) rd
          exact ⟨as, PyProof.Rows.Reads.keeps (fun b o e => k6 b o (Nat.ne_of_lt (Heap.lt_size e)) (Heap.get?_push_of_some _ e)) r⟩
        · obtain ⟨us', r1, r2⟩ := of_each eo
          obtain ⟨e', he'⟩ := PyProof.Rows.sortedHeap_at (vs := acc) (out := out.toArray) hoL
          have hlo : us'.length ≤ sizeLine := by rw [r1.length, lo]; exact hlen
          have I3 : Inv X pins σ (upd g.H h'.objs.size (.lst us')) { s with heap := sortedHeap (h'.push (seqObj "list" acc.toArray 0)) h'.objs.size acc out.toArray, toks := tk } := I1.laid (t' := tk) (fun b u e => by
            have hb : b < h'.objs.size := Heap.lt_size e
            rw [PyProof.Rows.sortedHeap_old (Nat.ne_of_lt hb) (by rw [size_push']; exact Nat.lt_succ_of_lt hb)]
            exact Heap.get?_push_of_some _ e) (Nat.le_refl _) ⟨hlo, out, e', r1, he'⟩
          obtain ⟨a1, a2, a3⟩ := hh.newLst r2 hn
          exact wpAny_pure ⟨_, rfl, .ref h'.objs.size, _, I3, rfl, q _ _ a1 a2 a3⟩
      obtain ⟨a', ea', w0⟩ := src (main X.xe)
      cases ea'
      exact w0
    · cases ed
  · cases ed
end
end DD

set_option Elab.async false
set_option linter.all false
set_option maxRecDepth 100000
set_option maxHeartbeats 1000000
namespace DD
open PySem PySem.Spec PyProof.Rows L2
/-! ### what a def leaves: some of its new cells stay (p: the new place's old place), the others are closed -/
mutual
inductive Sl (h : Hea) (m : Nat) (p : Nat → Nat) : D → D → Prop where
  | non : Sl h m p .non .non
  | bl (b : Bool) : Sl h m p (.bl b) (.bl b)
  | int (i : Int) : Sl h m p (.int i) (.int i)
  | str (x : Str) : Sl h m p (.str x) (.str x)
  | cst (v : V) : Sl h m p (.cst v) (.cst v)
  | keep {k n : Nat} : n < m → p n = k → Sl h m p (.ref k) (.ref n)
  | cellL {n : Nat} {xs ys : List D} : (∀ i, i < m → p i ≠ n) → h[n]? = some (.lst xs) → Sls h m p xs ys → Sl h m p (.ref n) (.lst ys)
  | cellD {n : Nat} {t : Bool} {kvs : List (D × D)} {ys : List D} : (∀ i, i < m → p i ≠ n) → h[n]? = some (.dic t kvs) → Sls h m p (kvs.map (·.2)) ys → Sl h m p (.ref n) (.dic t (kvs.map (·.1)) ys)
  | tup {xs ys : List D} : Sls h m p xs ys → Sl h m p (.tup xs) (.tup ys)
  | lst {xs ys : List D} : Sls h m p xs ys → Sl h m p (.lst xs) (.lst ys)
  | fro {xs ys : List D} : Sls h m p xs ys → Sl h m p (.fro xs) (.fro ys)
  | pr {xs ys : List D} : Sls h m p xs ys → Sl h m p (.pr xs) (.pr ys)
  | dic {t : Bool} {ks xs ys : List D} : Sls h m p xs ys → Sl h m p (.dic t ks xs) (.dic t ks ys)
inductive Sls (h : Hea) (m : Nat) (p : Nat → Nat) : List D → List D → Prop where
  | nil : Sls h m p [] []
  | cons {d d' : D} {ds ds' : List D} : Sl h m p d d' → Sls h m p ds ds' → Sls h m p (d :: ds) (d' :: ds')
end
mutual
theorem Sl.refl {h : Hea} {m n : Nat} {p : Nat → Nat} (hn : n ≤ m) (hp : ∀ i, i < n → p i = i) : ∀ {d : D}, cl n d → Sl h m p d d
  | .non, _ => .non
  | .bl b, _ => .bl b
  | .int i, _ => .int i
  | .str x, _ => .str x
  | .cst v, _ => .cst v
  | .ref k, c => .keep (Nat.lt_of_lt_of_le c hn) (hp k c)
  | .tup xs, c => .tup (Sls.refl hn hp c)
  | .lst xs, c => .lst (Sls.refl hn hp c)
  | .fro xs, c => .fro (Sls.refl hn hp c)
  | .pr xs, c => .pr (Sls.refl hn hp c)
  | .dic t ks vs, c => .dic (Sls.refl hn hp c)
theorem Sls.refl {h : Hea} {m n : Nat} {p : Nat → Nat} (hn : n ≤ m) (hp : ∀ i, i < n → p i = i) : ∀ {ds : List D}, cls n ds → Sls h m p ds ds
  | [], _ => .nil
  | d :: ds, c => .cons (Sl.refl hn hp c.1) (Sls.refl hn hp c.2)
end
def SlC (h : Hea) (m : Nat) (p : Nat → Nat) : Cell → Cell → Prop
  | .lst xs, .lst ys => Sls h m p xs ys
  | .dic t kvs, .dic t' kvs' => t = t' ∧ kvs.map (·.1) = kvs'.map (·.1) ∧ Sls h m p (kvs.map (·.2)) (kvs'.map (·.2))
  | .ins C fs, .ins C' fs' => C = C' ∧ fs.map (·.1) = fs'.map (·.1) ∧ Sls h m p (fs.map (·.2)) (fs'.map (·.2))
  | _, _ => False
theorem SlC.refl {h : Hea} {m n : Nat} {p : Nat → Nat} (hn : n ≤ m) (hp : ∀ i, i < n → p i = i) : ∀ {c : Cell}, clC n c → SlC h m p c c
  | .lst xs, k => Sls.refl hn hp k
  | .dic t kvs, k => ⟨rfl, rfl, Sls.refl hn hp k⟩
  | .ins C fs, k => ⟨rfl, rfl, Sls.refl hn hp k⟩
abbrev Gd.pick (g : Gd) (p : Nat → Nat) (m : Nat) : Gd := { g with ρ := fun i => g.ρ (p i), N := m }
/-- the new places: each an old one, no two the same -/
structure Pick (n m N : Nat) (p : Nat → Nat) : Prop where
  le : n ≤ m
  id : ∀ i, i < n → p i = i
  lt : ∀ i, i < m → p i < N
  inj : ∀ i j, i < m → j < m → p i = p j → i = j
section
variable {K : Wd} {g : Gd} {heap : Hea} {m n : Nat} {p : Nat → Nat}
theorem pick_img (hh : HR K g heap) (P : Pick n m g.N p) {k : Nat} (hk : k < g.N) (h : ∀ i, i < m → p i ≠ k) : ¬ (g.pick p m).img (g.ρ k) := by
  rintro ⟨i, hi, e⟩
  exact h i hi (hh.inj (p i) k (P.lt i hi) hk e)
theorem pick_sub (P : Pick n m g.N p) {a : Addr} (h : ¬ g.img a) : ¬ (g.pick p m).img a := fun ⟨i, hi, e⟩ => h ⟨p i, P.lt i hi, e⟩
mutual
theorem Sl.rep (hh : HR K g heap) (P : Pick n m g.N p) : ∀ {d d' : D} {v : V}, Sl heap m p d d' → RepV K g d v → RepV K (g.pick p m) d' v
  | _, _, v, .non, h => by simpa [RepV] using h
  | _, _, v, .bl b, h => by simpa [RepV] using h
  | _, _, v, .int i, h => by simpa [RepV] using h
  | _, _, v, .str x, h => by simpa [RepV] using h
  | _, _, v, .cst u, h => by simpa [RepV] using h
  | _, _, v, .keep hn e, h => by
    simp only [RepV] at h ⊢
    exact ⟨hn, by rw [e]; exact h.2⟩
  | _, _, v, .cellL hn e t, h => by
    simp only [RepV] at h ⊢
    obtain ⟨us, q1, q2⟩ := hh.cell _ _ e
    exact ⟨_, us, h.2, q1, ⟨pick_img hh P h.1 hn, hh.dis _ h.1⟩, Sls.rep hh P t q2⟩
  | _, _, v, .cellD hn e t, h => by
    simp only [RepV] at h ⊢
    obtain ⟨us, q1, q2⟩ := hh.cell _ _ e
    exact ⟨_, us, h.2, q1, ⟨pick_img hh P h.1 hn, hh.dis _ h.1⟩, Sls.rep hh P t q2⟩
  | _, _, v, .tup t, h => by
    simp only [RepV] at h ⊢
    obtain ⟨a, xs, e, q, r⟩ := h
    exact ⟨a, xs, e, q, Sls.rep hh P t r⟩
  | _, _, v, .pr t, h => by
    simp only [RepV] at h ⊢
    obtain ⟨a, xs, e, q, r⟩ := h
    exact ⟨a, xs, e, q, Sls.rep hh P t r⟩
  | _, _, v, .fro t, h => by
    simp only [RepV] at h ⊢
    obtain ⟨a, xs, e, q, r⟩ := h
    exact ⟨a, xs, e, q, Sls.rep hh P t r⟩
  | _, _, v, .lst t, h => by
    simp only [RepV] at h ⊢
    obtain ⟨a, xs, e, q, k, r⟩ := h
    exact ⟨a, xs, e, q, ⟨pick_sub P k.1, k.2⟩, Sls.rep hh P t r⟩
  | _, _, v, .dic t, h => by
    simp only [RepV] at h ⊢
    obtain ⟨a, xs, e, q, k, r⟩ := h
    exact ⟨a, xs, e, q, ⟨pick_sub P k.1, k.2⟩, Sls.rep hh P t r⟩
theorem Sls.rep (hh : HR K g heap) (P : Pick n m g.N p) : ∀ {ds ds' : List D} {vs : List V}, Sls heap m p ds ds' → RepVs K g ds vs → RepVs K (g.pick p m) ds' vs
  | _, _, vs, .nil, h => by simpa using h
  | _, _, vs, .cons a b, h => by
    obtain ⟨x, r, rfl, q, t⟩ := RepVs_cons.mp h
    exact .cons (Sl.rep hh P a q) (Sls.rep hh P b t)
end
/-- the cells that stay -/
def Kept (h : Hea) (m : Nat) (p : Nat → Nat) (h' : Hea) : Prop := h'.length = m ∧ ∀ (i : Nat) (c' : Cell), h'[i]? = some c' → ∃ c, h[p i]? = some c ∧ SlC h m p c c'
theorem HR.sld {h' : Hea} (hh : HR K g heap) (P : Pick n m g.N p) (k : Kept heap m p h') : HR K (g.pick p m) h' := by
  refine ⟨k.1.symm, fun i c' e => ?_, fun a b ha hb q => P.inj a b ha hb (hh.inj _ _ (P.lt a ha) (P.lt b hb) q), fun i hi => hh.dis _ (P.lt i hi), hh.zt⟩
  obtain ⟨c, e1, s⟩ := k.2 i c' e
  have q := hh.cell (p i) c e1
  cases c with
  | lst xs =>
    cases c' with
    | lst ys => obtain ⟨us, a, t⟩ := q; exact ⟨us, a, Sls.rep hh P s t⟩
    | _ => exact s.elim
  | dic t kvs =>
    cases c' with
    | dic t' kvs' =>
      obtain ⟨rfl, e2, s⟩ := s
      obtain ⟨us, a, r⟩ := q
      exact ⟨us, by rw [← e2]; exact a, Sls.rep hh P s r⟩
    | _ => exact s.elim
  | ins C fs =>
    cases c' with
    | ins C' fs' =>
      obtain ⟨rfl, e2, s⟩ := s
      obtain ⟨dx, us, a, b, r⟩ := q
      exact ⟨dx, us, a, by rw [b, e2], Sls.rep hh P s r⟩
    | _ => exact s.elim
theorem Ext.pick {g0 : Gd} (x : Ext g0 g) (P : Pick g0.N m g.N p) : Ext g0 (g.pick p m) :=
  ⟨⟨P.le, x.z, x.y, x.w, fun i hi => by show g.ρ (p i) = _; rw [P.id i hi]; exact x.r i hi, fun a u e i z => ⟨(x.k a u e i z).1, pick_sub P (x.k a u e i z).2⟩, x.s⟩, x.q⟩
/-- what is computed, and what is told of it at a heap of n cells -/
inductive Tol (n : Nat) : R D → R D → Prop where
  | no {r : R D} : Tol n r .no
  | same {r : R D} : Tol n r r
  | to {d d' : D} {h h' : Hea} {m : Nat} {p : Nat → Nat} : Pick n m h.length p → Kept h m p h' → Sl h m p d d' → Tol n (.ok d h) (.ok d' h')
theorem Tol.post {n : Nat} {r r' : R D} {g : Gd} {W : WX} {σ : L2.St} {Q : VK} (t : Tol n r r') (hn : g.N = n) (q : Post K W (RepV K) σ g r' Q) : Post K W (RepV K) σ g r Q := by
  cases t with
  | no => exact q.elim
  | same => exact q
  | @to d d' hp hp' m p h1 h2 h3 =>
    intro g' v hh x rv
    have P : Pick g.N m g'.N p := by rw [hn, hh.len]; exact h1
    exact q (g'.pick p m) v (hh.sld P h2) (x.pick P) (h3.rep hh P rv)
theorem FnD.tol {E : Wd} {mg : Str → Option Value} {base : Heap} {k : Nat} {f : Addr} {fd : FuncData} {ps : List Str} {gf gf' : List D → Hea → R D} (F : FnD E mg base k f fd ps gf) (h : ∀ ds heap, clH heap.length heap → cls heap.length ds → ds.length = ps.length → Tol heap.length (gf ds heap) (gf' ds heap)) : FnD E mg base k f fd ps gf' :=
  FnOk.imp F fun vs H Q Ex ⟨g, heap, ds, e, hh, r, hn, p⟩ => ⟨g, heap, ds, e, hh, r, hn, (h ds heap hh.clH (by rw [← hh.len]; exact r.cls) hn).post hh.len p⟩
/-- the first cells stay, the rest is forgotten -/
theorem Tol.drop {d d' : D} {h0 h h' : Hea} (hl : h0.length ≤ h.length) (hk : ∀ i, i < h0.length → h[i]? = h'[i]?) (hn : h'.length = h0.length) (hc : clH h0.length h') (s : Sl h h0.length id d d') : Tol h0.length (.ok d h) (.ok d' h') := by
  refine .to (p := id) ⟨Nat.le_refl _, fun _ _ => rfl, fun i hi => Nat.lt_of_lt_of_le hi hl, fun _ _ _ _ e => e⟩ ⟨hn, fun i c' e => ⟨c', ?_, SlC.refl (Nat.le_refl _) (fun _ _ => rfl) (hc i c' e)⟩⟩ s
  have hi : i < h0.length := by rw [← hn]; exact (List.getElem?_eq_some_iff.mp e).1
  show h[i]? = _
  rw [hk i hi]; exact e
end
end DD

set_option Elab.async false
set_option linter.all false
set_option maxRecDepth 100000
set_option maxHeartbeats 1000000
namespace DD
open PySem PySem.Spec PyProof.Rows L2
section
variable {X : Cx} {W : WX} {K : Wd}
theorem ps_setDc {i : Nat} {y : Str} {py : Pos} {kx vx tg iter : Expr} {ifs : List Expr} {scope : Scope} {own : List (Str × Nat)} {pos spos : Pos} {wi : TI} {g : TG} {tt : TT} {tk tv : TE} (hc : X.calm = true) (hN : X.N.Nodup) (hy : X.N[i]? = some y) (hyl : X.env.scope.names.lookup y = some .local)
    (hsw : swapsWith (.DictComp kx vx [⟨tg, iter, ifs, 0⟩] scope pos) (some (.Name y py)) spos.line X.env = pure true) (hi : PI X tg iter wi) (ok : BlkOk X.N X.env.scope scope own)
    (hg : ∀ (s : Shared) (H : Hp) (C : Addr) (cl : List (Str × Addr)) (fp : List Addr), PG (X.blk s H scope (compEnvC scope cl C X.env) fp) tg g) (ht : ∀ (s : Shared) (H : Hp) (C : Addr) (cl : List (Str × Addr)) (fp : List Addr), PTs (X.blk s H scope (compEnvC scope cl C X.env) fp) ifs tt)
    (hk : ∀ (s : Shared) (H : Hp) (C : Addr) (cl : List (Str × Addr)) (fp : List Addr), PE (X.blk s H scope (compEnvC scope cl C X.env) fp) kx tk)
    (he : ∀ (s : Shared) (H : Hp) (C : Addr) (cl : List (Str × Addr)) (fp : List Addr), PE (X.blk s H scope (compEnvC scope cl C X.env) fp) vx tv) (hs : ∀ x, foldedSetIterable iter X.env x = pure x := by intro _; rfl) :
    PS X (.Assign [.Name y py] (.DictComp kx vx [⟨tg, iter, ifs, 0⟩] scope pos) spos) (tAsg (tDc wi g tt tk tv (own.map (·.2))) (gName i)) := by
  refine ⟨fun pins s σ H D I h => ?_⟩
  rw [exec_Assign_Name_used _ _ _ _ hsw]
  refine wpAny_bind (wpAny_standAt (wpAny_bind ?_))
  show wpAny _ X.A (do let _ ← comprehension (.DictComp kx vx [⟨tg, iter, ifs, 0⟩] scope pos) scope X.env (firstIterPos [⟨tg, iter, ifs, 0⟩] pos) newDict false (eval iter X.env) (some (assign (.Name y py) X.env))) _ _ s
  have h : tDc wi g tt tk tv (own.map (·.2)) σ H (fun x H1 => gName i x σ H1 D.nx) := h
  refine wpAny_bind (thn (dc_core (Qf := fun _ s' => SP X pins D .next s') hc hN I hi ok hg ht hk he hs h fun L C s' m H' I' q hn f => ?_) fun _ s' hq => wpAny_pure (wpAny_pure hq))
  show wpAny _ _ (assign (.Name y py) X.env (.ref L)) _ _ _
  refine wpAny_assign_Name (store_ok2 (v := V.ref L) I' hN hy (.inl hyl) rfl (fun s2 I2 ⟨a, sb, ha⟩ => ?_) (.inr hyl))
  obtain ⟨f0, f1, f2, f3, f4, f5⟩ := f
  have hne : C ≠ a := by
    rcases ha with z | z
    · rw [z]; exact f1
    · exact fun e => f4 y a z e.symm
  exact ⟨m, hn.sameBut sb hne, fun h3 sb3 => ⟨_, H', I2.turned (t' := s2.toks) (fun b o hb e => (sb3.2 b hb).trans e) f0 f1 f3 f4 f5, q⟩⟩
theorem ds_setDc {cell : Bool} {i : Nat} {y : Str} {py : Pos} {kx vx tg iter : Expr} {ifs : List Expr} {scope : Scope} {own : List (Str × Nat)} {pos spos : Pos} {fi : En → Hea → R (List D)} {fg : D → FS} {ft : En → Hea → R Bool} {fk fv : En → Hea → R D} {vs0 : List Nat} (hc : X.calm = true) (hN : X.N.Nodup) (hy : X.N[i]? = some y) (hyl : X.env.scope.names.lookup y = some .local)
    (hsw : swapsWith (.DictComp kx vx [⟨tg, iter, ifs, 0⟩] scope pos) (some (.Name y py)) spos.line X.env = pure true) (hi : DI X W tg iter fi) (ok : BlkOk X.N X.env.scope scope own) (hv : ∀ i ∈ vs0, i ∈ own.map (·.2))
    (hg : ∀ (s : Shared) (H : Hp) (C : Addr) (cl : List (Str × Addr)) (fp : List Addr), DG (X.blk s H scope (compEnvC scope cl C X.env) fp) tg vs0 fg) (ht : ∀ (s : Shared) (H : Hp) (C : Addr) (cl : List (Str × Addr)) (fp : List Addr), DTs (X.blk s H scope (compEnvC scope cl C X.env) fp) WF ifs ft)
    (hk : ∀ (s : Shared) (H : Hp) (C : Addr) (cl : List (Str × Addr)) (fp : List Addr), DE (X.blk s H scope (compEnvC scope cl C X.env) fp) WF kx fk)
    (he : ∀ (s : Shared) (H : Hp) (C : Addr) (cl : List (Str × Addr)) (fp : List Addr), DE (X.blk s H scope (compEnvC scope cl C X.env) fp) WF vx fv) (hs : ∀ x, foldedSetIterable iter X.env x = pure x := by intro _; rfl) :
    DS X W (.Assign [.Name y py] (.DictComp kx vx [⟨tg, iter, ifs, 0⟩] scope pos) spos) (sAsg (fDc cell fi fg ft fk fv (own.map (·.2))) (gN i)) :=
  ds_setOf (ps_imp (ps_setDc hc hN hy hyl hsw hi ok (fun s H C cl fp => dg_weak (hg s H C cl fp) hv) ht hk he hs) fun Dn σ H p => rd_dc p)
theorem room66 {k : Nat} {A : Around} (r : Room k A) : A.units + 66 < cLine := by have := r.un; omega
theorem room65 {k : Nat} {A : Around} (r : Room k A) : A.units + 65 < cLine := by have := r.un; omega
theorem room1 {k : Nat} {A : Around} (r : Room k A) : A.units + 1 < cLine := by have := r.un; omega
/-! ### how many arguments -/
def AL (n : Nat) (fa : En → Hea → R (List D)) : Prop := ∀ e h as h', fa e h = .ok as h' → as.length = n
theorem al_nil : AL 0 aNil := fun e h as h' q => by cases q; rfl
theorem al_cons {n : Nat} {f : En → Hea → R D} {fr : En → Hea → R (List D)} (a : AL n fr) : AL (n + 1) (aCons f fr) := fun e h as h' q => by
  unfold aCons at q
  cases q1 : f e h with
  | no => rw [q1] at q; cases q
  | ex _ _ => rw [q1] at q; cases q
  | ok d h1 =>
    rw [q1] at q
    simp only [R.bind_ok] at q
    cases q2 : fr e h1 with
    | no => rw [q2] at q; cases q
    | ex _ _ => rw [q2] at q; cases q
    | ok ds h2 =>
      rw [q2] at q
      simp only [R.bind_ok] at q
      cases q
      simp [a _ _ _ _ q2]
theorem AL.add1 {n : Nat} {fa : En → Hea → R (List D)} (a : AL n fa) : ∀ e h as h', fa e h = .ok as h' → as.length + 1 = n + 1 := fun e h as h' q => by rw [a e h as h' q]
end
end DD

set_option Elab.async false
set_option linter.all false
set_option maxRecDepth 100000
set_option maxHeartbeats 1000000
namespace DD
open PySem PySem.Spec PyProof.Rows L2
/-! ### readings, run -/
section
variable {e : En} {h : Hea}
@[simp] theorem ev_var {i : Nat} : fVar i e h = R.of ((e[i]?).join) h := rfl
@[simp] theorem ev_c {d : D} : fC d e h = .ok d h := rfl
@[simp] theorem ev_bin {g : D → D → Hea → Option D} {a b : En → Hea → R D} : fBin g a b e h = (a e h).bind fun x h1 => (b e h1).bind fun y h2 => R.of (g x y h2) h2 := rfl
@[simp] theorem ev_un {g : D → Hea → Option D} {a : En → Hea → R D} : fUn g a e h = (a e h).bind fun x h1 => R.of (g x h1) h1 := rfl
@[simp] theorem ev_nary {g : List D → Hea → Option D} {a : En → Hea → R (List D)} : fNary g a e h = (a e h).bind fun x h1 => R.of (g x h1) h1 := rfl
@[simp] theorem ev_nil : aNil e h = .ok [] h := rfl
@[simp] theorem ev_cons {f : En → Hea → R D} {r : En → Hea → R (List D)} : aCons f r e h = (f e h).bind fun a h1 => (r e h1).bind fun as h2 => .ok (a :: as) h2 := rfl
@[simp] theorem ev_asB {f : En → Hea → R D} : asB f e h = (f e h).bind fun d h1 => match d with
  | .bl b => .ok b h1
  | _ => .no := rfl
@[simp] theorem ev_and {a b : En → Hea → R Bool} : fAnd a b e h = (a e h).bind fun x h1 => if x = true then b e h1 else .ok false h1 := rfl
@[simp] theorem ev_or {a b : En → Hea → R Bool} : fOr a b e h = (a e h).bind fun x h1 => if x = true then .ok true h1 else b e h1 := rfl
@[simp] theorem ev_not {a : En → Hea → R Bool} : fNot a e h = (a e h).bind fun x h1 => .ok (!x) h1 := rfl
@[simp] theorem ev_if {t : En → Hea → R Bool} {a b : En → Hea → R D} : fIf t a b e h = (t e h).bind fun x h1 => if x = true then a e h1 else b e h1 := rfl
@[simp] theorem ev_andV {a b : En → Hea → R D} : fAndV a b e h = (asB a e h).bind fun x h1 => if x = true then b e h1 else .ok (.bl false) h1 := rfl
@[simp] theorem ev_orV {a b : En → Hea → R D} : fOrV a b e h = (asB a e h).bind fun x h1 => if x = true then .ok (.bl true) h1 else b e h1 := rfl
@[simp] theorem ev_notV {a : En → Hea → R D} : fNotV a e h = (asB a e h).bind fun x h1 => .ok (.bl (!x)) h1 := rfl
@[simp] theorem ev_cell {a : En → Hea → R (List D)} : dCell a e h = (a e h).bind fun as h1 => if as.length ≤ sizeLine then .ok (.ref h1.length) (h1 ++ [.lst as]) else .no := rfl
@[simp] theorem ev_oN : oNone e h = .ok none h := rfl
@[simp] theorem ev_oS {f : En → Hea → R D} : oSome f e h = (f e h).bind fun d h1 => match d with
  | .int i => .ok (some i) h1
  | _ => .no := rfl
@[simp] theorem ev_slice {o : En → Hea → R D} {l u : En → Hea → R (Option Int)} : fSlice o l u e h = (o e h).bind fun x h1 => (l e h1).bind fun l h2 => (u e h2).bind fun u h3 => R.of (slD x l u h3) h3 := rfl
@[simp] theorem ev_call {gf : List D → Hea → R D} {fa : En → Hea → R (List D)} : fCall gf fa e h = (fa e h).bind fun as h1 => (gf as h1).nox := rfl
@[simp] theorem ev_listRg {f : En → Hea → R D} : fListRg f e h = (f e h).bind fun d h1 => match d with
  | .int n => if RgOk 0 n then .ok (.lst (rangeL 0 n.toNat)) h1 else .no
  | _ => .no := rfl
@[simp] theorem ev_new {t : Bool} : fNew t e h = .ok (.ref h.length) (h ++ [.dic t []]) := rfl
@[simp] theorem ev_tOn : tOn e h = .ok true h := rfl
-- statements
@[simp] theorem ev_sNil : sNil e h = .nx e h := rfl
@[simp] theorem ev_sCons {f k : FS} : sCons f k e h = (f e h).seq k := rfl
@[simp] theorem ev_sRet {f : En → Hea → R D} : sRet f e h = (f e h).toS e fun d h1 => .rt d h1 := rfl
@[simp] theorem ev_sExpr {f : En → Hea → R D} : sExpr f e h = (f e h).toS e fun _ h1 => .nx e h1 := rfl
@[simp] theorem ev_sIf {t : En → Hea → R Bool} {f k : FS} : sIf t f k e h = (t e h).toS e fun b h1 => if b = true then f e h1 else k e h1 := rfl
@[simp] theorem ev_sAsg {f : En → Hea → R D} {g : D → FS} : sAsg f g e h = (f e h).toS e fun d h1 => g d e h1 := rfl
@[simp] theorem ev_sPar {i j : Nat} {f : En → Hea → R (List D)} : sPar i j f e h = (f e h).toS e fun ds h1 => match ds with
  | [a, b] => .nx ((e.set i (some a)).set j (some b)) h1
  | _ => .no := rfl
@[simp] theorem ev_sFld {C : Addr} {f : Str} {o v : En → Hea → R D} : sFldD C f o v e h = (v e h).toS e fun y h1 => (o e h1).toS e fun o h2 => match setFD C f o y h2 with
  | some h3 => .nx e h3
  | none => .no := rfl
@[simp] theorem ev_sPut {fv fo fi : En → Hea → R D} : sPut fv fo fi e h = (fv e h).toS e fun v h1 => (fo e h1).toS e fun o h2 => (fi e h2).toS e fun i h3 => match putIx o i v h3 with
  | some h4 => .nx e h4
  | none => .no := rfl
@[simp] theorem ev_sAug {i : Nat} {g : D → D → Hea → Option D} {f : En → Hea → R D} : sAug i g f e h = match (e[i]?).join with
  | some x => (f e h).toS e fun y h1 => match g x y h1 with
    | some z => .nx (e.set i (some z)) h1
    | none => .no
  | none => .no := rfl
@[simp] theorem ev_sAugS {g : D → D → Hea → Option D} {fo fi fe : En → Hea → R D} : sAugS g fo fi fe e h = (fo e h).toS e fun o h1 => (fi e h1).toS e fun i h2 => match getIy o i h2 with
  | some x => (fe e h2).toS e fun y h3 => match g x y h3 with
    | some z => match putIx o i z h3 with
      | some h4 => .nx e h4
      | none => .no
    | none => .no
  | none => .no := rfl
@[simp] theorem ev_sBrk : sBrk e h = .bk e h := rfl
@[simp] theorem ev_sFor {fi : En → Hea → R (List D)} {fg : D → FS} {fb : FS} : sFor fi fg fb e h = (fi e h).toS e fun xs h1 => forL fg fb xs e h1 := rfl
@[simp] theorem ev_gN {i : Nat} {d : D} : gN i d e h = .nx (e.set i (some d)) h := rfl
@[simp] theorem ev_gsNil : gsNil [] e h = .nx e h := rfl
@[simp] theorem ev_gsCons {f : D → FS} {k : List D → FS} {d : D} {ds : List D} : gsCons f k (d :: ds) e h = (f d e h).seq (k ds) := rfl
@[simp] theorem ev_gT {n : Nat} {k : List D → FS} {d : D} : gT n k d e h = match tupItems d with
  | some ds => if ds.length = n then k ds e h else .no
  | none => .no := rfl
@[simp] theorem ti_tup {ds : List D} : tupItems (.tup ds) = some ds := rfl
@[simp] theorem ti_pr {ds : List D} : tupItems (.pr ds) = some ds := rfl
@[simp] theorem jn {α : Type} {a : α} : (some (some a)).join = some a := rfl
@[simp] theorem jn0 {α : Type} : (some (none : Option α)).join = none := rfl
@[simp] theorem ev_lc {fi : En → Hea → R (List D)} {fg : D → FS} {ft : En → Hea → R Bool} {fe : En → Hea → R D} {vs : List Nat} : fLc fi fg ft fe vs e h = (fi e h).bind fun xs h1 => lcEnd [] (lcL fg ft fe vs e xs h1) := rfl
@[simp] theorem lcEnd_ok {ys : List D} (hz : ys.length ≤ sizeLine) : lcEnd [] (.ok ys h) = .ok (.lst ys) h := by
  unfold lcEnd lcTo lcF
  simp [hz]
@[simp] theorem ev_seq {f : En → Hea → R D} : iSeq f e h = (f e h).bind fun d h1 => R.of (tupItems d) h1 := rfl
end
/-- a comprehension whose turns change nothing -/
theorem lcL_pure {fg : D → FS} {ft : En → Hea → R Bool} {fe : En → Hea → R D} {vs : List Nat} {e0 : En} {h : Hea} (T : D → Bool) (F : D → D) : ∀ {xs : List D}, (∀ x ∈ xs, ∃ e1, fg x (wipeE e0 vs) h = .nx e1 h ∧ ft e1 h = .ok (T x) h ∧ (T x = true → fe e1 h = .ok (F x) h)) → lcL fg ft fe vs e0 xs h = .ok ((xs.filter T).map F) h
  | [], _ => rfl
  | x :: xs, hx => by
    obtain ⟨e1, a, b, c⟩ := hx x List.mem_cons_self
    have ih := lcL_pure T F (xs := xs) fun y hy => hx y (List.mem_cons_of_mem _ hy)
    unfold lcL
    rw [a]
    simp only [b, R.nox_ok, R.bind_ok]
    cases q : T x with
    | true => simp only [if_true, c q, R.nox_ok, R.bind_ok, ih, List.filter_cons, q, List.map_cons]
    | false => simp only [Bool.false_eq_true, if_false, ih, List.filter_cons, q]
theorem dcL_pure {fg : D → FS} {ft : En → Hea → R Bool} {fk fv : En → Hea → R D} {vs : List Nat} {e0 : En} {h : Hea} (Kf Vf : D → D) : ∀ {xs : List D} {acc : List (D × D)}, (∀ x ∈ xs, okK false (Kf x) = true ∧ ∃ e1, fg x (wipeE e0 vs) h = .nx e1 h ∧ ft e1 h = .ok true h ∧ fk e1 h = .ok (Kf x) h ∧ fv e1 h = .ok (Vf x) h) → (acc.map (·.1) ++ xs.map Kf).Nodup → acc.length + xs.length ≤ sizeLine →
    dcL fg ft fk fv vs e0 xs acc h = .ok (acc ++ xs.map fun x => (Kf x, Vf x)) h
  | [], acc, _, _, _ => by simp [dcL]
  | x :: xs, acc, hx, hn, hl => by
    obtain ⟨ok, e1, a, b, c, d⟩ := hx x List.mem_cons_self
    have hnew : putDD acc (Kf x) (Vf x) = acc ++ [(Kf x, Vf x)] := by
      unfold putDD
      rw [if_neg]
      simp only [List.any_eq_true, decide_eq_true_eq, not_exists, not_and]
      intro p hp e
      rw [List.nodup_append] at hn
      exact hn.2.2 p.1 (List.mem_map_of_mem hp) (Kf x) (by simp) e
    have ih := dcL_pure (fg := fg) (ft := ft) (fk := fk) (fv := fv) (vs := vs) (e0 := e0) (h := h) Kf Vf (xs := xs) (acc := acc ++ [(Kf x, Vf x)]) (fun y hy => hx y (List.mem_cons_of_mem _ hy)) (by simpa using hn) (by simp at hl ⊢; omega)
    unfold dcL
    rw [a]
    simp only [b, c, d, R.nox_ok, R.bind_ok, if_true]
    rw [if_pos ⟨ok, by simp at hl; omega⟩, hnew, ih]
    simp
end DD

set_option Elab.async false
set_option linter.all false
set_option maxRecDepth 100000
set_option maxHeartbeats 1000000
namespace DD
open PySem PySem.Spec PyProof.Rows L2
/-! ### told otherwise: new cells are dropped -/
/-- the old cells are as they were, or speak of old ones alone -/
def OldOk (h0 h : Hea) : Prop := ∀ (i : Nat) (c : Cell), i < h0.length → h[i]? = some c → h0[i]? = some c ∨ clC h0.length c
open Classical in
noncomputable def dropAll (gf : List D → Hea → R D) : List D → Hea → R D := fun ds h0 => match gf ds h0 with
  | .ok d h => if h0.length ≤ h.length ∧ cl h0.length d ∧ OldOk h0 h then .ok d (h.take h0.length) else .no
  | _ => .no
open Classical in
noncomputable def closeL (gf : List D → Hea → R D) : List D → Hea → R D := fun ds h0 => match gf ds h0 with
  | .ok (.ref k) h => match h[k]? with
    | some (.lst xs) => if h0.length ≤ k ∧ h0.length ≤ h.length ∧ cls h0.length xs ∧ OldOk h0 h then .ok (.lst xs) (h.take h0.length) else .no
    | _ => .no
  | _ => .no
theorem OldOk.take {h0 h : Hea} (o : OldOk h0 h) (c0 : clH h0.length h0) : clH h0.length (h.take h0.length) := fun i c e => by
  rw [List.getElem?_take] at e
  split at e
  · rename_i hi
    rcases o i c hi e with q | q
    · exact c0 i c q
    · exact q
  · cases e
theorem tol_dropAll {gf : List D → Hea → R D} {n : Nat} : ∀ ds heap, clH heap.length heap → cls heap.length ds → ds.length = n → Tol heap.length (gf ds heap) (dropAll gf ds heap) := fun ds h0 c0 _ _ => by
  unfold dropAll
  split
  · rename_i d h e
    split
    · rename_i hc
      obtain ⟨h1, h2, h3⟩ := hc
      rw [e]
      refine Tol.drop h1 (fun i hi => ?_) (by simp; omega) (h3.take c0) (Sl.refl (Nat.le_refl _) (fun _ _ => rfl) h2)
      rw [List.getElem?_take, if_pos hi]
    · exact .no
  · exact .no
theorem tol_closeL {gf : List D → Hea → R D} {n : Nat} : ∀ ds heap, clH heap.length heap → cls heap.length ds → ds.length = n → Tol heap.length (gf ds heap) (closeL gf ds heap) := fun ds h0 c0 _ _ => by
  unfold closeL
  split
  · rename_i k h e
    split
    · rename_i xs hk
      split
      · rename_i hc
        obtain ⟨h0k, h1, h2, h3⟩ := hc
        rw [e]
        refine Tol.drop h1 (fun i hi => ?_) (by simp; omega) (h3.take c0) (.cellL (fun i hi q => ?_) hk (Sls.refl (Nat.le_refl _) (fun _ _ => rfl) h2))
        · rw [List.getElem?_take, if_pos hi]
        · have : i = k := q
          omega
      · exact .no
    · exact .no
  · exact .no
theorem OldOk.app {h0 g : Hea} : OldOk h0 (h0 ++ g) := fun i c hi e => .inl (by rw [List.getElem?_append_left hi] at e; exact e)
/-- a pure def -/
theorem dropAll_of {gf : List D → Hea → R D} {ds : List D} {h g : Hea} {d : D} (e : gf ds h = .ok d (h ++ g)) (c : cl h.length d) : dropAll gf ds h = .ok d h := by
  unfold dropAll
  rw [e]
  simp only
  rw [if_pos ⟨by simp, c, OldOk.app⟩]
  simp
theorem closeL_of {gf : List D → Hea → R D} {ds : List D} {h g : Hea} {k : Nat} {xs : List D} (e : gf ds h = .ok (.ref k) (h ++ g)) (hk : (h ++ g)[k]? = some (.lst xs)) (hl : h.length ≤ k) (c : cls h.length xs) : closeL gf ds h = .ok (.lst xs) h := by
  unfold closeL
  rw [e]
  simp only
  rw [hk]
  simp only
  rw [if_pos ⟨hl, by simp, c, OldOk.app⟩]
  simp
theorem cls_mem {n : Nat} : ∀ {ds : List D}, (∀ d ∈ ds, cl n d) → cls n ds
  | [], _ => trivial
  | d :: ds, h => ⟨h d List.mem_cons_self, cls_mem fun x hx => h x (List.mem_cons_of_mem _ hx)⟩
theorem cls_map {α : Type} {n : Nat} {f : α → D} (h : ∀ a, cl n (f a)) (l : List α) : cls n (l.map f) := cls_mem fun d hd => by
  obtain ⟨a, _, rfl⟩ := List.mem_map.mp hd
  exact h a
end DD

set_option Elab.async false
set_option linter.all false
set_option maxRecDepth 100000
set_option maxHeartbeats 1000000
/-! alphabets and rows as data -/
namespace DD
open PySem PySem.Spec PyProof.Rows L2
abbrev dRow (w : List Str) : D := .tup (w.map D.str)
def decRow : D → Option (List Str)
  | .tup xs => strsOf xs
  | _ => none
@[simp] theorem decRow_d {w : List Str} : decRow (dRow w) = some w := strsOf_map w
theorem decRow_eq {d : D} {w : List Str} (e : decRow d = some w) : d = dRow w := by
  unfold decRow at e
  split at e
  · rw [strsOf_eq e]
  · cases e
abbrev dPr (p : Str × Str) : D := .tup [.str p.1, .str p.2]
def decPr : D → Option (Str × Str)
  | .tup [.str a, .str b] => some (a, b)
  | _ => none
theorem decPr_eq {d : D} {p : Str × Str} (e : decPr d = some p) : d = dPr p := by
  unfold decPr at e
  split at e <;> cases e <;> rfl
def decPrs : List D → Option (List (Str × Str))
  | [] => some []
  | d :: ds => (decPr d).bind fun p => (decPrs ds).map (p :: ·)
theorem decPrs_d : ∀ ps : List (Str × Str), decPrs (ps.map dPr) = some ps
  | [] => rfl
  | p :: ps => by simp [decPrs, decPr, decPrs_d ps]
theorem decPrs_eq : ∀ {ds : List D} {ps : List (Str × Str)}, decPrs ds = some ps → ds = ps.map dPr
  | [], ps, e => by cases e; rfl
  | d :: ds, ps, e => by
    obtain ⟨p, e1, e2⟩ := Option.bind_eq_some_iff.mp e
    obtain ⟨l, e3, rfl⟩ := Option.map_eq_some_iff.mp e2
    rw [decPr_eq e1, decPrs_eq e3]; rfl
structure Alp where
  sg : List Str
  cp : List (Str × Str)
def dAl (A : Alp) : D := .tup [dRow A.sg, .tup (A.cp.map dPr)]
def decAl : D → Option Alp
  | .tup [s, .tup ps] => (decRow s).bind fun ss => (decPrs ps).map fun cs => ⟨ss, cs⟩
  | _ => none
@[simp] theorem decAl_d {A : Alp} : decAl (dAl A) = some A := by simp [decAl, dAl, decPrs_d]
theorem decAl_eq {d : D} {A : Alp} (e : decAl d = some A) : d = dAl A := by
  unfold decAl at e
  split at e
  · obtain ⟨ss, e1, e2⟩ := Option.bind_eq_some_iff.mp e
    obtain ⟨cs, e3, rfl⟩ := Option.map_eq_some_iff.mp e2
    rw [decRow_eq e1, decPrs_eq e3]; rfl
  · cases e
def sLt (a b : Str) : Prop := a.cps.toList < b.cps.toList
instance (a b : Str) : Decidable (sLt a b) := inferInstanceAs (Decidable (_ < _))
theorem sLt_ir (a : Str) : ¬ sLt a a := List.lt_irrefl _
theorem sLt_as (a b : Str) (h : sLt a b) : ¬ sLt b a := List.lt_asymm h
theorem sLt_tr {a b c : Str} (h : sLt a b) (k : sLt b c) : sLt a c := List.lt_trans h k
def free (A : Alp) (a b : Str) : Bool := decide ((minS a b, maxS a b) ∈ A.cp)
def dp (A : Alp) (a b : Str) : Bool := !free A a b
structure Good (A : Alp) : Prop where
  pw : A.sg.Pairwise sLt
  cp : ∀ p ∈ A.cp, sLt p.1 p.2 ∧ p.1 ∈ A.sg ∧ p.2 ∈ A.sg
  ok : ∀ s ∈ A.sg, PyData.strOk s = true
  sz : A.sg.length ≤ 100
structure GoodW (A : Alp) (w : List Str) : Prop where
  sub : ∀ a ∈ w, a ∈ A.sg
  sz : w.length ≤ 1000
theorem nd_of {l : List Str} (h : l.Pairwise sLt) : l.Nodup := h.imp fun {a b} q e => by subst e; exact sLt_ir a q
theorem minS_maxS (a b : Str) : minS a b = minS b a ∧ maxS a b = maxS b a ∨ a = b := by
  by_cases e : a.cps.toList = b.cps.toList
  · right
    have : a.cps = b.cps := Array.toList_inj.mp e
    cases a; cases b; simp_all
  · left
    unfold minS maxS
    by_cases h : a.cps.toList < b.cps.toList
    · have h' := List.lt_asymm h
      simp [h, h']
    · by_cases k : b.cps.toList < a.cps.toList
      · simp [h, k]
      · exact absurd (List.le_antisymm (List.not_lt.mp k) (List.not_lt.mp h)) e
theorem dp_dep {A : Alp} (G : Good A) : Tr.Dep (dp A) := by
  refine ⟨fun a => ?_, fun a b => ?_⟩
  · unfold dp free
    simp only [Bool.not_eq_true', decide_eq_false_iff_not]
    intro h
    have := (G.cp _ h).1
    have e1 : minS a a = a := by simp [minS]
    have e2 : maxS a a = a := by simp [maxS]
    rw [e1, e2] at this
    exact sLt_ir a this
  · unfold dp free
    rcases minS_maxS a b with ⟨h1, h2⟩ | h
    · rw [h1, h2]
    · rw [h]
@[simp] theorem okE_str {n : Nat} {x : Str} : okE (n + 1) (.str x) = PyData.strOk x := rfl
theorem okE_row {n : Nat} {w : List Str} (h : ∀ a ∈ w, PyData.strOk a = true) : okE (n + 2) (dRow w) = true := by
  simp only [okE, List.all_eq_true, List.mem_map]
  rintro _ ⟨a, ha, rfl⟩
  exact h a ha
end DD

set_option Elab.async false
set_option linter.all false
set_option maxRecDepth 100000
set_option maxHeartbeats 1000000
/-! what Left holds, and what it stands for -/
namespace DD
open PySem PySem.Spec PyProof.Rows L2
/-- the places of a sign, from place k on -/
def posF (k : Nat) : List Str → Str → List Nat
  | [], _ => []
  | b :: w, s => if b = s then k :: posF (k + 1) w s else posF (k + 1) w s
/-- the place of the next one, f already taken -/
def nx (k : Nat) (f : Str → Nat) (w : List Str) (s : Str) : Option Nat := (posF k w s)[f s]?
def decF (f : Str → Nat) (b : Str) : Str → Nat := fun s => if s = b then f s - 1 else f s
def incF (f : Str → Nat) (b : Str) : Str → Nat := fun s => if s = b then f s + 1 else f s
/-- what is left of the row -/
def remF : (Str → Nat) → List Str → List Str
  | _, [] => []
  | f, b :: w => if f b = 0 then b :: remF f w else remF (decF f b) w
theorem remF_zero : ∀ w : List Str, remF (fun _ => 0) w = w
  | [] => rfl
  | b :: w => by simp [remF, remF_zero w]
theorem nx_cons {k : Nat} {f : Str → Nat} {b : Str} {w : List Str} {s : Str} : nx k f (b :: w) s = if b = s then (if f s = 0 then some k else nx (k + 1) (decF f b) w s) else nx (k + 1) f w s := by
  unfold nx
  rw [show posF k (b :: w) s = if b = s then k :: posF (k + 1) w s else posF (k + 1) w s from rfl]
  by_cases h : b = s
  · subst h
    simp only [if_true]
    cases e : f b with
    | zero => simp
    | succ n =>
      have : decF f b b = n := by simp [decF, e]
      simp [this]
  · simp [h]
theorem nx_dec {k : Nat} {f : Str → Nat} {b : Str} {w : List Str} {s : Str} (h : b ≠ s) : nx k (decF f b) w s = nx k f w s := by
  unfold nx decF
  rw [if_neg (Ne.symm h)]
theorem nx_le : ∀ {k : Nat} {f : Str → Nat} {w : List Str} {s : Str} {p : Nat}, nx k f w s = some p → k ≤ p
  | k, f, [], s, p, h => by simp [nx, posF] at h
  | k, f, b :: w, s, p, h => by
    rw [nx_cons] at h
    split at h
    · split at h
      · cases h; exact Nat.le_refl _
      · have := nx_le h; omega
    · have := nx_le h; omega
theorem nx_mem : ∀ {k : Nat} {f : Str → Nat} {w : List Str} {s : Str} {p : Nat}, nx k f w s = some p → s ∈ remF f w
  | k, f, [], s, p, h => by simp [nx, posF] at h
  | k, f, b :: w, s, p, h => by
    rw [nx_cons] at h
    unfold remF
    by_cases hb : b = s
    · subst hb
      rw [if_pos rfl] at h
      by_cases h0 : f b = 0
      · simp [h0]
      · rw [if_neg h0] at h ⊢
        exact nx_mem h
    · rw [if_neg hb] at h
      by_cases h0 : f b = 0
      · rw [if_pos h0]; exact List.mem_cons_of_mem _ (nx_mem h)
      · rw [if_neg h0]
        rw [← nx_dec hb] at h
        exact nx_mem h
theorem mem_nx : ∀ {k : Nat} {f : Str → Nat} {w : List Str} {s : Str}, s ∈ remF f w → ∃ p, nx k f w s = some p
  | k, f, [], s, h => by simp [remF] at h
  | k, f, b :: w, s, h => by
    rw [nx_cons]
    unfold remF at h
    by_cases hb : b = s
    · subst hb
      rw [if_pos rfl]
      by_cases h0 : f b = 0
      · rw [if_pos h0]; exact ⟨_, rfl⟩
      · rw [if_neg h0] at h ⊢
        exact mem_nx h
    · rw [if_neg hb]
      by_cases h0 : f b = 0
      · rw [if_pos h0] at h
        rcases List.mem_cons.mp h with e | h
        · exact absurd e.symm hb
        · exact mem_nx h
      · rw [if_neg h0] at h
        obtain ⟨p, hp⟩ := mem_nx (k := k + 1) h
        rw [nx_dec hb] at hp
        exact ⟨p, hp⟩
/-- can be first, by places -/
theorem fst_nx {dep : Str → Str → Bool} : ∀ (k : Nat) (f : Str → Nat) (w : List Str) (s : Str), Tr.fst dep (remF f w) s = true ↔ ∃ p, nx k f w s = some p ∧ ∀ t, t ≠ s → dep t s = true → ∀ q, nx k f w t = some q → p < q
  | k, f, [], s => by simp [remF, Tr.fst, nx, posF]
  | k, f, b :: w, s => by
    unfold remF
    by_cases h0 : f b = 0
    · rw [if_pos h0]
      by_cases hb : b = s
      · subst hb
        simp only [Tr.fst, if_true, true_iff]
        refine ⟨k, by rw [nx_cons]; simp [h0], fun t ht _ q hq => ?_⟩
        rw [nx_cons, if_neg (Ne.symm ht)] at hq
        have := nx_le hq; omega
      · simp only [Tr.fst, hb, if_false, Bool.and_eq_true, Bool.not_eq_true', fst_nx (k + 1) f w s]
        have es : nx k f (b :: w) s = nx (k + 1) f w s := by rw [nx_cons, if_neg hb]
        rw [es]
        constructor
        · rintro ⟨h1, p, hp, h2⟩
          refine ⟨p, hp, fun t ht hd q hq => ?_⟩
          by_cases hbt : b = t
          · subst hbt; rw [h1] at hd; cases hd
          · rw [nx_cons, if_neg hbt] at hq
            exact h2 t ht hd q hq
        · rintro ⟨p, hp, h2⟩
          have hbd : dep b s = false := by
            cases hd : dep b s with
            | false => rfl
            | true =>
              have h3 := h2 b hb hd k (by rw [nx_cons, if_pos rfl, if_pos h0])
              have := nx_le hp; omega
          refine ⟨hbd, p, hp, fun t ht hd q hq => ?_⟩
          by_cases hbt : b = t
          · subst hbt; rw [hbd] at hd; cases hd
          · exact h2 t ht hd q (by rw [nx_cons, if_neg hbt]; exact hq)
    · rw [if_neg h0, fst_nx (k + 1) (decF f b) w s]
      have e : ∀ t, nx k f (b :: w) t = nx (k + 1) (decF f b) w t := fun t => by
        rw [nx_cons]
        by_cases hbt : b = t
        · subst hbt; rw [if_pos rfl, if_neg h0]
        · rw [if_neg hbt, nx_dec hbt]
      simp only [e]
/-- one more is taken -/
theorem remF_inc : ∀ {f : Str → Nat} {w : List Str} {s : Str}, s ∈ remF f w → remF (incF f s) w = (remF f w).erase s
  | f, [], s, h => by simp [remF] at h
  | f, b :: w, s, h => by
    unfold remF at h ⊢
    by_cases hb : b = s
    · subst hb
      have h1 : incF f b b ≠ 0 := by simp [incF]
      rw [if_neg h1]
      have e : decF (incF f b) b = f := by
        funext t
        unfold decF incF
        by_cases ht : t = b <;> simp [ht]
      rw [e]
      by_cases h0 : f b = 0
      · rw [if_pos h0, List.erase_cons_head]
      · rw [if_neg h0] at h ⊢
        have e2 : f = incF (decF f b) b := by
          funext t
          unfold decF incF
          by_cases ht : t = b
          · subst ht; simp; omega
          · simp [ht]
        conv => lhs; rw [e2]
        exact remF_inc h
    · have h1 : incF f s b = f b := by simp [incF, hb]
      rw [h1]
      have hb' : ¬ (b == s) = true := by simpa using hb
      by_cases h0 : f b = 0
      · rw [if_pos h0] at h ⊢
        rw [if_pos h0, List.erase_cons_tail hb']
        rcases List.mem_cons.mp h with e | h
        · exact absurd e.symm hb
        · rw [remF_inc h]
      · rw [if_neg h0] at h ⊢
        rw [if_neg h0]
        have e : decF (incF f s) b = incF (decF f b) s := by
          funext t
          unfold decF incF
          by_cases ht : t = b
          · subst ht; simp [hb]
          · simp [ht]
        rw [e, remF_inc h]
theorem remF_sub : ∀ {f : Str → Nat} {w : List Str} {a : Str}, a ∈ remF f w → a ∈ w
  | f, [], a, h => by simp [remF] at h
  | f, b :: w, a, h => by
    unfold remF at h
    split at h
    · rcases List.mem_cons.mp h with e | h
      · exact List.mem_cons.mpr (.inl e)
      · exact List.mem_cons_of_mem _ (remF_sub h)
    · exact List.mem_cons_of_mem _ (remF_sub h)
theorem remF_len : ∀ {f : Str → Nat} {w : List Str}, (remF f w).length ≤ w.length
  | f, [] => by simp [remF]
  | f, b :: w => by
    unfold remF
    split
    · simp only [List.length_cons]; have := remF_len (f := f) (w := w); omega
    · simp only [List.length_cons]; have := remF_len (f := decF f b) (w := w); omega
/-! ### the couples that are not free -/
def depC (A : Alp) : List (Str × Str) := (couples A.sg).filter fun p => decide (p ∉ A.cp)
where couples : List Str → List (Str × Str)
  | [] => []
  | a :: r => (r.map fun b => (a, b)) ++ couples r
/-- the list that stands at s: s, then its others in order -/
def depL (s : Str) (cs : List (Str × Str)) : List Str := cs.foldl (fun l p => if p.1 = s then l ++ [p.2] else if p.2 = s then l ++ [p.1] else l) [s]
theorem mem_couples {p : Str × Str} : ∀ {sg : List Str}, sg.Pairwise sLt → (p ∈ depC.couples sg ↔ p.1 ∈ sg ∧ p.2 ∈ sg ∧ sLt p.1 p.2)
  | [], _ => by simp [depC.couples]
  | a :: r, h => by
    rw [List.pairwise_cons] at h
    simp only [depC.couples, List.mem_append, List.mem_map, mem_couples h.2, List.mem_cons]
    constructor
    · rintro (⟨b, hb, rfl⟩ | ⟨h1, h2, h3⟩)
      · exact ⟨.inl rfl, .inr hb, h.1 b hb⟩
      · exact ⟨.inr h1, .inr h2, h3⟩
    · rintro ⟨h1, h2, h3⟩
      rcases h1 with e1 | h1
      · rcases h2 with e2 | h2
        · rw [e1, e2] at h3; exact absurd h3 (sLt_ir _)
        · exact .inl ⟨p.2, h2, by rw [← e1]⟩
      · rcases h2 with e2 | h2
        · rw [e2] at h3; exact absurd h3 (sLt_as _ _ (h.1 p.1 h1))
        · exact .inr ⟨h1, h2, h3⟩
theorem mem_depL {s t : Str} : ∀ {cs : List (Str × Str)} {l : List Str}, t ∈ cs.foldl (fun l p => if p.1 = s then l ++ [p.2] else if p.2 = s then l ++ [p.1] else l) l ↔ t ∈ l ∨ ∃ p ∈ cs, (p.1 = s ∧ p.2 = t) ∨ (p.1 ≠ s ∧ p.2 = s ∧ p.1 = t)
  | [], l => by simp
  | p :: cs, l => by
    rw [List.foldl_cons, mem_depL]
    have key : (t ∈ (if p.1 = s then l ++ [p.2] else if p.2 = s then l ++ [p.1] else l)) ↔ t ∈ l ∨ ((p.1 = s ∧ p.2 = t) ∨ (p.1 ≠ s ∧ p.2 = s ∧ p.1 = t)) := by
      by_cases h1 : p.1 = s
      · rw [if_pos h1, List.mem_append, List.mem_singleton]
        constructor
        · rintro (h | h)
          · exact .inl h
          · exact .inr (.inl ⟨h1, h.symm⟩)
        · rintro (h | h | h)
          · exact .inl h
          · exact .inr h.2.symm
          · exact absurd h1 h.1
      · by_cases h2 : p.2 = s
        · rw [if_neg h1, if_pos h2, List.mem_append, List.mem_singleton]
          constructor
          · rintro (h | h)
            · exact .inl h
            · exact .inr (.inr ⟨h1, h2, h.symm⟩)
          · rintro (h | h | h)
            · exact .inl h
            · exact absurd h.1 h1
            · exact .inr h.2.2.symm
        · rw [if_neg h1, if_neg h2]
          constructor
          · exact .inl
          · rintro (h | h | h)
            · exact h
            · exact absurd h.1 h1
            · exact absurd h.2.1 h2
    rw [key]
    simp only [List.mem_cons, exists_eq_or_imp, or_assoc]
/-- who stands in the list: those that are not free with s -/
theorem depL_iff {A : Alp} (G : Good A) {s t : Str} (hs : s ∈ A.sg) : t ∈ depL s (depC A) ↔ t ∈ A.sg ∧ dp A t s = true := by
  have D := dp_dep G
  have hc : ∀ p : Str × Str, p ∈ depC A ↔ p.1 ∈ A.sg ∧ p.2 ∈ A.sg ∧ sLt p.1 p.2 ∧ p ∉ A.cp := fun p => by
    unfold depC
    simp only [List.mem_filter, decide_eq_true_eq, mem_couples G.pw]
    constructor
    · rintro ⟨⟨a, b, c⟩, d⟩; exact ⟨a, b, c, d⟩
    · rintro ⟨a, b, c, d⟩; exact ⟨⟨a, b, c⟩, d⟩
  have hd : ∀ {a b : Str}, sLt a b → (dp A a b = true ↔ (a, b) ∉ A.cp) := fun {a b} h => by
    have h' := sLt_as _ _ h
    have e1 : minS a b = a := by unfold minS; exact if_neg h'
    have e2 : maxS a b = b := by unfold maxS; exact if_pos h
    unfold dp free
    rw [e1, e2]; simp
  unfold depL
  rw [mem_depL]
  constructor
  · rintro (h | ⟨p, hp, h⟩)
    · rw [List.mem_singleton.mp h]; exact ⟨hs, D.r s⟩
    · obtain ⟨h1, h2, h3, h4⟩ := (hc p).mp hp
      rcases h with ⟨e1, e2⟩ | ⟨_, e1, e2⟩
      · subst e2; rw [← e1]
        exact ⟨h2, by rw [D.s]; exact (hd h3).mpr h4⟩
      · subst e2; rw [← e1]
        exact ⟨h1, (hd h3).mpr h4⟩
  · rintro ⟨h1, h2⟩
    by_cases e : t = s
    · exact .inl (by simp [e])
    · right
      by_cases h : sLt s t
      · rw [D.s] at h2
        exact ⟨(s, t), (hc _).mpr ⟨hs, h1, h, (hd h).mp h2⟩, .inl ⟨rfl, rfl⟩⟩
      · have h' : sLt t s := by
          by_cases k : sLt t s
          · exact k
          · exfalso
            have e1 : t.cps.toList = s.cps.toList := List.le_antisymm (List.not_lt.mp h) (List.not_lt.mp k)
            have e2 : t.cps = s.cps := Array.toList_inj.mp e1
            exact e (by cases t; cases s; simp_all)
        exact ⟨(t, s), (hc _).mpr ⟨h1, hs, h', (hd h').mp h2⟩, .inr ⟨e, rfl, rfl⟩⟩
/-! ### Left's fields -/
def dDep (A : Alp) : D := .dic false (A.sg.map D.str) (A.sg.map fun s => D.lst ((depL s (depC A)).map D.str))
def dPla (A : Alp) (w : List Str) : D := .dic false (A.sg.map D.str) (A.sg.map fun s => D.lst ((posF 0 w s).map fun i => D.int (i : Nat)))
def kTak (A : Alp) (f : Str → Nat) : List (D × D) := A.sg.map fun s => (D.str s, D.int (f s : Nat))
def fLeft (A : Alp) (w : List Str) (tk : D) : List (Str × D) := [("row", dRow w), ("signs", dRow A.sg), ("dependent", dDep A), ("places", dPla A w), ("taken", tk)]
/-- a Left at n: its row, what is taken of it -/
structure LeftIs (cL : Addr) (h : Hea) (n : Nat) (A : Alp) (w : List Str) (f : Str → Nat) (tk : D) : Prop where
  at_ : h[n]? = some (.ins cL (fLeft A w tk))
  tk : dicOf h tk = some (false, (kTak A f).map (·.1), (kTak A f).map (·.2))
end DD

set_option Elab.async false
set_option linter.all false
set_option maxRecDepth 100000
set_option maxHeartbeats 1000000
namespace DD
open PySem PySem.Spec PyProof.Rows L2
/-! ### reads by data -/
section
variable {h : Hea} {xs : List D}
@[simp] theorem atI_nat {α : Type} {ys : List α} {k : Nat} : atI ys (k : Int) = ys[k]? := by
  unfold atI ixN
  by_cases hk : k < ys.length
  · have : ((k : Int) < (ys.length : Nat)) := by omega
    simp [this]
  · have : ¬ ((k : Int) < (ys.length : Nat)) := by omega
    simp [this]
    omega
@[simp] theorem atI_0 {α : Type} {ys : List α} : atI ys 0 = ys[0]? := atI_nat (k := 0)
@[simp] theorem atI_1 {α : Type} {ys : List α} : atI ys 1 = ys[1]? := atI_nat (k := 1)
@[simp] theorem atI_2 {α : Type} {ys : List α} : atI ys 2 = ys[2]? := atI_nat (k := 2)
@[simp] theorem atI_3 {α : Type} {ys : List α} : atI ys 3 = ys[3]? := atI_nat (k := 3)
@[simp] theorem gi_tup {i : Int} : getIx (.tup xs) (.int i) h = atI xs i := rfl
@[simp] theorem gi_lst {i : Int} : getIx (.lst xs) (.int i) h = atI xs i := rfl
theorem gi_cell {n : Nat} {i : Int} (e : h[n]? = some (.lst xs)) : getIx (.ref n) (.int i) h = atI xs i := by
  simp [getIx, dicOf, e, ixD, seqOf, DD.tupItems, lookL, view]
@[simp] theorem gi_dic {t : Bool} {ks vs : List D} {i : D} : getIx (.dic t ks vs) i h = if okK t i = true then lkD ks vs i else none := rfl
theorem gi_dcell {n : Nat} {t : Bool} {kvs : List (D × D)} {i : D} (e : h[n]? = some (.dic t kvs)) : getIx (.ref n) i h = if okK t i = true then lkD (kvs.map (·.1)) (kvs.map (·.2)) i else none := by
  simp [getIx, dicOf, e]
theorem gi_of {d i : D} {t : Bool} {ks vs : List D} (e : dicOf h d = some (t, ks, vs)) : getIx d i h = if okK t i = true then lkD ks vs i else none := by
  unfold getIx; rw [e]
@[simp] theorem okK_str {x : Str} : okK false (.str x) = true := rfl
@[simp] theorem okK_int {i : Int} : okK false (.int i) = true := rfl
theorem lkD_map {α : Type} (kf : α → D) (vf : α → D) (inj : ∀ a b, kf a = kf b → a = b) : ∀ {l : List α} {a : α}, a ∈ l → lkD (l.map kf) (l.map vf) (kf a) = some (vf a)
  | [], a, h => by simp at h
  | b :: l, a, hm => by
    simp only [List.map_cons, lkD]
    by_cases e : b = a
    · subst e; rw [if_pos rfl]
    · rw [if_neg fun z => e (inj _ _ z)]
      rcases List.mem_cons.mp hm with z | hm
      · exact absurd z.symm e
      · exact lkD_map kf vf inj hm
theorem str_inj : ∀ a b : Str, D.str a = D.str b → a = b := fun a b e => by injection e
@[simp] theorem vw_str {x : Str} : view h (.str x) = .str x := rfl
@[simp] theorem vw_int {x : Int} : view h (.int x) = .int x := rfl
@[simp] theorem vw_tup : view h (.tup xs) = .tup xs := rfl
@[simp] theorem vw_lst : view h (.lst xs) = .lst xs := rfl
@[simp] theorem vw_non : view h .non = .non := rfl
@[simp] theorem okE_int {n : Nat} {i : Int} : okE (n + 1) (.int i) = true := rfl
@[simp] theorem eq_int {i j : Int} : eqD (.int i) (.int j) h = some (.bl (decide (i = j))) := by
  have e : eqD (.int i) (.int j) h = if (okE 60 (.int i) && okE 60 (.int j)) = true then some (.bl (decide (D.int i = .int j))) else none := rfl
  rw [e]
  simp [okE]
theorem eq_gen {a b : D} (ha : okE 60 (view h a) = true) (hb : okE 60 (view h b) = true) : eqD a b h = some (.bl (decide (view h a = view h b))) := by
  unfold eqD
  split
  · simp [view, okE] at ha
  · rw [ha, hb]; rfl
theorem ne_gen {a b : D} (ha : okE 60 (view h a) = true) (hb : okE 60 (view h b) = true) : neD a b h = some (.bl (!decide (view h a = view h b))) := by
  unfold neD
  split
  · simp [view, okE] at ha
  · rw [ha, hb]; rfl
@[simp] theorem eq_bl {a b : Bool} : eqD (.bl a) (.bl b) h = some (.bl (a == b)) := rfl
@[simp] theorem ne_bl {a b : Bool} : neD (.bl a) (.bl b) h = some (.bl (a != b)) := rfl
theorem eq_str {a b : Str} (ha : PyData.strOk a = true) (hb : PyData.strOk b = true) : eqD (.str a) (.str b) h = some (.bl (decide (a = b))) := by
  rw [eq_gen (by simpa using ha) (by simpa using hb)]
  simp
theorem ne_str {a b : Str} (ha : PyData.strOk a = true) (hb : PyData.strOk b = true) : neD (.str a) (.str b) h = some (.bl (!decide (a = b))) := by
  rw [ne_gen (by simpa using ha) (by simpa using hb)]
  simp
theorem row_inj {u v : List Str} : dRow u = dRow v ↔ u = v := by
  constructor
  · intro e
    have := congrArg decRow e
    simpa using this
  · rintro rfl; rfl
def Oks (w : List Str) : Prop := ∀ a ∈ w, PyData.strOk a = true
theorem eq_row {u v : List Str} (hu : Oks u) (hv : Oks v) : eqD (dRow u) (dRow v) h = some (.bl (decide (u = v))) := by
  rw [eq_gen (okE_row hu) (okE_row hv)]
  simp only [vw_tup, row_inj]
theorem ne_row {u v : List Str} (hu : Oks u) (hv : Oks v) : neD (dRow u) (dRow v) h = some (.bl (!decide (u = v))) := by
  rw [ne_gen (okE_row hu) (okE_row hv)]
  simp only [vw_tup, row_inj]
@[simp] theorem min_str {a b : Str} : minN [.str a, .str b] h = some (.str (minS a b)) := rfl
@[simp] theorem max_str {a b : Str} : maxN [.str a, .str b] h = some (.str (maxS a b)) := rfl
@[simp] theorem dtup {as : List D} (hl : as.length ≤ 1000) : dTup as h = some (.tup as) := by
  unfold dTup
  rw [if_pos (Nat.le_trans hl (by rw [sizeLine_eq]; decide))]
@[simp] theorem dlst {as : List D} (hl : as.length ≤ 1000) : dLst as h = some (.lst as) := by
  unfold dLst
  rw [if_pos (Nat.le_trans hl (by rw [sizeLine_eq]; decide))]
theorem in_gen {a c : D} {ys : List D} (hd : dicOf h c = none) (hs : seqOf h c = some ys) (ha : okE 60 (view h a) = true) (hy : ∀ y ∈ ys, okE 59 y = true) : inG a c h = some (.bl (decide (view h a ∈ ys))) := by
  unfold inG inD
  rw [hd]
  simp only
  rw [hs]
  simp only
  rw [if_pos (by rw [ha]; simpa using hy)]
theorem notin_gen {a c : D} {ys : List D} (hd : dicOf h c = none) (hs : seqOf h c = some ys) (ha : okE 60 (view h a) = true) (hy : ∀ y ∈ ys, okE 59 y = true) : notInG a c h = some (.bl (!decide (view h a ∈ ys))) := by
  unfold notInG notInD
  rw [hd]
  simp only
  rw [hs]
  simp only
  rw [if_pos (by rw [ha]; simpa using hy)]
@[simp] theorem sq_tup : seqOf h (.tup xs) = some xs := rfl
@[simp] theorem sq_lst : seqOf h (.lst xs) = some xs := rfl
theorem sq_cell {n : Nat} (e : h[n]? = some (.lst xs)) : seqOf h (.ref n) = some xs := by simp [seqOf, DD.tupItems, lookL, view, e]
@[simp] theorem lk_lst : lookL h (.lst xs) = some xs := rfl
theorem lk_cell {n : Nat} (e : h[n]? = some (.lst xs)) : lookL h (.ref n) = some xs := by simp [lookL, view, e]
@[simp] theorem dn_tup : dicOf h (.tup xs) = none := rfl
@[simp] theorem dn_lst : dicOf h (.lst xs) = none := rfl
theorem dn_cell {n : Nat} (e : h[n]? = some (.lst xs)) : dicOf h (.ref n) = none := by simp [dicOf, e]
@[simp] theorem len_tup : lenG [.tup xs] h = some (.int xs.length) := rfl
@[simp] theorem len_lst : lenG [.lst xs] h = some (.int xs.length) := rfl
theorem len_cell {n : Nat} (e : h[n]? = some (.lst xs)) : lenG [.ref n] h = some (.int xs.length) := by
  simp [lenG, dn_cell e, lenN, sq_cell e]
@[simp] theorem add_int {i j : Int} : addD (.int i) (.int j) h = some (.int (i + j)) := rfl
@[simp] theorem add_tup {ys : List D} (hl : xs.length + ys.length ≤ 10000) : addD (.tup xs) (.tup ys) h = some (.tup (xs ++ ys)) := by
  show (if xs.length + ys.length ≤ sizeLine then some (D.tup (xs ++ ys)) else none) = _
  rw [if_pos (Nat.le_trans hl (by rw [sizeLine_eq]; decide))]
@[simp] theorem sub_int {i j : Int} : subD (.int i) (.int j) h = some (.int (i - j)) := rfl
@[simp] theorem lt_int {i j : Int} : ltD (.int i) (.int j) h = some (.bl (decide (i < j))) := rfl
@[simp] theorem lt_strs {a b : Str} : ltD (.str a) (.str b) h = some (.bl (decide (sLt a b))) := rfl
@[simp] theorem gt_int {i j : Int} : gtD (.int i) (.int j) h = some (.bl (decide (j < i))) := rfl
@[simp] theorem ge_int {i j : Int} : geD (.int i) (.int j) h = some (.bl (decide (j ≤ i))) := rfl
theorem pr_inj {p q : Str × Str} : dPr p = dPr q ↔ p = q := by
  constructor
  · intro e
    have := congrArg decPr e
    have h2 : p.1 = q.1 ∧ p.2 = q.2 := by simpa [decPr] using this
    exact Prod.ext h2.1 h2.2
  · rintro rfl; rfl
theorem mem_prs {p : Str × Str} {l : List (Str × Str)} : dPr p ∈ l.map dPr ↔ p ∈ l := by
  simp only [List.mem_map]
  constructor
  · rintro ⟨q, hq, e⟩; rw [← pr_inj.mp e]; exact hq
  · intro hp; exact ⟨p, hp, rfl⟩
theorem mem_strs {a : Str} {l : List Str} : D.str a ∈ l.map D.str ↔ a ∈ l := by
  simp only [List.mem_map]
  constructor
  · rintro ⟨q, hq, e⟩; rw [← str_inj _ _ e]; exact hq
  · intro hp; exact ⟨a, hp, rfl⟩
@[simp] theorem ev_bm {T : String} {gm : D → List D → Hea → Option (D × Hea)} {fo : En → Hea → R D} {fa : En → Hea → R (List D)} {e : En} : fBm T gm fo fa e h = (fo e h).bind fun o h1 => if tyB T o h1 = true then (fa e h1).bind fun as h2 => match gm o as h2 with
  | some (d, h3) => .ok d h3
  | none => .no else .no := rfl
@[simp] theorem ty_tup : tyB "tuple" (.tup xs) h = true := rfl
theorem ty_cell {n : Nat} (e : h[n]? = some (.lst xs)) : tyB "list" (.ref n) h = true := by simp [tyB, e]
theorem index_str {w : List Str} {a : Str} (ha : a ∈ w) : mIndexT (dRow w) [.str a] h = some (.int (w.idxOf a : Nat), h) := by
  simp [mIndexT, strsOf_map, ha]
@[simp] theorem sld_tup {lo hi : Option Int} : slD (.tup xs) lo hi h = some (.tup (cutD xs lo hi)) := rfl
@[simp] theorem sld_fro {lo hi : Option Int} : slD (.fro xs) lo hi h = some (.lst (cutD xs lo hi)) := rfl
@[simp] theorem sld_lst {lo hi : Option Int} : slD (.lst xs) lo hi h = some (.lst (cutD xs lo hi)) := rfl
theorem cut_to {α : Type} {ys : List α} {k : Nat} : cutD ys none (some (k : Int)) = ys.take k := by
  unfold cutD
  rw [HT.sIx_nat, HT.sIx_none]
  simp only [List.drop_zero, Nat.sub_zero]
  by_cases hk : k ≤ ys.length
  · rw [Nat.min_eq_left hk]
  · rw [Nat.min_eq_right (by omega), List.take_of_length_le (Nat.le_refl _), List.take_of_length_le (by omega)]
theorem cut_from {α : Type} {ys : List α} {k : Nat} : cutD ys (some (k : Int)) none = ys.drop k := by
  unfold cutD
  rw [HT.sIx_nat, HT.sIx_none]
  by_cases hk : k ≤ ys.length
  · rw [Nat.min_eq_left hk, List.take_of_length_le (by simp)]
  · rw [Nat.min_eq_right (by omega)]
    simp; omega
theorem cut_mid {α : Type} {ys : List α} {k j : Nat} : cutD ys (some (k : Int)) (some (j : Int)) = (ys.take j).drop k := by
  unfold cutD
  rw [HT.sIx_nat, HT.sIx_nat, List.drop_take]
  by_cases hk : k ≤ ys.length
  · rw [Nat.min_eq_left hk]
    by_cases hj : j ≤ ys.length
    · rw [Nat.min_eq_left hj]
    · rw [show min j ys.length = ys.length from Nat.min_eq_right (by omega), List.take_of_length_le (by simp), List.take_of_length_le (by simp; omega)]
  · rw [show min k ys.length = ys.length from Nat.min_eq_right (by omega), List.drop_eq_nil_of_le (Nat.le_refl ys.length), List.drop_eq_nil_of_le (by omega : ys.length ≤ k)]
    simp
theorem okE_pr {n : Nat} {p : Str × Str} (h1 : PyData.strOk p.1 = true) (h2 : PyData.strOk p.2 = true) : okE (n + 2) (dPr p) = true := by simp [okE, h1, h2]
theorem take_erase : ∀ {w : List Str} {a : Str}, a ∈ w → w.take (w.idxOf a) ++ w.drop (w.idxOf a + 1) = w.erase a
  | [], a, h => by simp at h
  | b :: w, a, h => by
    by_cases hb : b = a
    · subst hb; simp
    · have hb' : ¬ (b == a) = true := by simpa using hb
      have hm : a ∈ w := by
        rcases List.mem_cons.mp h with e | h
        · exact absurd e.symm hb
        · exact h
      have hb2 : (b == a) = false := by simpa using hb
      have e : (b :: w).idxOf a = w.idxOf a + 1 := by simp [List.idxOf_cons, hb2]
      rw [e, List.erase_cons_tail hb', List.take_succ_cons, List.drop_succ_cons, List.cons_append, take_erase hm]
/-- enumerate from k on -/
def enF (k : Nat) : List D → List D
  | [] => []
  | x :: xs => .pr [.int (k : Nat), x] :: enF (k + 1) xs
theorem enumL_eq : ∀ (xs : List D), enumL xs = enF 0 xs := by
  have : ∀ (xs : List D) (k : Nat), (xs.mapIdx fun i x => D.pr [.int ((i + k : Nat) : Int), x]) = enF k xs := by
    intro xs
    induction xs with
    | nil => intro k; rfl
    | cons x xs ih =>
      intro k
      rw [List.mapIdx_cons]
      simp only [enF, Nat.zero_add]
      rw [← ih (k + 1)]
      congr 2
      funext i y
      congr 3
      omega
  intro xs
  have := this xs 0
  simpa [enumL] using this
@[simp] theorem ev_enT {fa : En → Hea → R (List D)} {e : En} : iEnumT fa e h = (fa e h).bind fun as h1 => match as with
  | [d] => R.of ((DD.tupItems d).map enumL) h1
  | _ => .no := rfl
@[simp] theorem ev_enL {fa : En → Hea → R (List D)} {e : En} : iEnumL fa e h = (fa e h).bind fun as h1 => match as with
  | [.lst xs] => .ok (enumL xs) h1
  | _ => .no := rfl
@[simp] theorem ev_lst {f : En → Hea → R D} {e : En} : iLst f e h = (f e h).bind fun d h1 => R.of (staysOf d) h1 := rfl
@[simp] theorem st_lst : staysOf (.lst xs) = some xs := rfl
@[simp] theorem ev_rg1 {fa : En → Hea → R (List D)} {e : En} : iRange1 fa e h = (fa e h).bind fun as h1 => match as with
  | [.int j] => if smallI j then .ok (rangeL 0 j.toNat) h1 else .no
  | _ => .no := rfl
@[simp] theorem ev_rg2 {fa : En → Hea → R (List D)} {e : En} : iRange2 fa e h = (fa e h).bind fun as h1 => match as with
  | [.int i, .int j] => if smallI i ∧ smallI j then .ok (rangeL i (j - i).toNat) h1 else .no
  | _ => .no := rfl
theorem append_cell {g : Hea} {x : D} (hl : xs.length ≤ 10000) : mAppend (.ref h.length) [x] (h ++ .lst xs :: g) = some (.non, h ++ .lst (xs ++ [x]) :: g) := by
  have hz : xs.length < sizeLine := Nat.lt_of_le_of_lt hl (by rw [sizeLine_eq]; decide)
  simp [mAppend, cellL, hz]
/-- texts sorted -/
theorem lt_strD {a b : Str} : PySem.W.dataLt (.str a) (.str b) = decide (sLt a b) := by
  have e := congrFun (congrFun (PySem.W.dataLe_str (fun x : Str => x)) b) a
  rw [PySem.W.dataLe_eq] at e
  simp only [cond_false] at e
  have e2 := congrArg Bool.not e
  simp only [Bool.not_not] at e2
  rw [e2]
  unfold sLt
  rw [← decide_not]
  exact decide_eq_decide.mpr (by exact List.not_le)
theorem perm_sorted {l m : List Str} (hl : l.Pairwise sLt) (p : l.Perm m) : sortD (m.map D.str) = l.map D.str := by
  have e : sortD (m.map D.str) = (m.mergeSort fun a b => !decide (sLt b a)).map D.str := by
    unfold sortD
    rw [List.map_mergeSort (r := fun a b => !decide (sLt b a))]
    intro a _ b _
    rw [PySem.W.dataLe_eq]
    simp only [cond_false, py, lt_strD]
  rw [e]
  congr 1
  have hs := List.pairwise_mergeSort (le := fun a b : Str => !decide (sLt b a)) (fun a b c h1 h2 => by
    simp only [Bool.not_eq_true', decide_eq_false_iff_not] at *
    intro h
    exact h2 (by
      rcases Classical.em (sLt b a) with q | q
      · exact absurd q h1
      · unfold sLt at *
        exact Std.lt_of_lt_of_le h (List.not_lt.mp q))) (fun a b => by
    by_cases q : sLt b a
    · simp [q, sLt_as _ _ q]
    · simp [q]) m
  have pm := List.mergeSort_perm m (fun a b => !decide (sLt b a))
  have nd : (m.mergeSort fun a b => !decide (sLt b a)).Nodup := pm.nodup_iff.mpr (p.nodup_iff.mp (nd_of hl))
  refine Tr.same_sorted sLt_ir sLt_as ?_ hl fun x => by rw [pm.mem_iff, p.mem_iff]
  have := hs.and nd
  refine this.imp fun {a b} ⟨h1, h2⟩ => ?_
  simp only [Bool.not_eq_true', decide_eq_false_iff_not] at h1
  by_cases q : sLt a b
  · exact q
  · exfalso
    have e1 : a.cps.toList = b.cps.toList := List.le_antisymm (List.not_lt.mp h1) (List.not_lt.mp q)
    have e2 : a.cps = b.cps := Array.toList_inj.mp e1
    exact h2 (by cases a; cases b; simp_all)
theorem sortB_strs {w : List Str} (hw : Oks w) : sortB (w.map D.str) = true := by
  unfold sortB
  simp only [Bool.and_eq_true, Bool.or_eq_true, List.all_eq_true, decide_eq_true_eq, List.mem_map]
  refine ⟨⟨?_, ?_⟩, .inr ?_⟩
  · rintro _ ⟨a, ha, rfl⟩; exact hw a ha
  · rintro _ ⟨a, ha, rfl⟩ _ ⟨b, hb, rfl⟩; rfl
  · rintro _ ⟨a, ha, rfl⟩; rfl
end
end DD


set_option Elab.async false
set_option linter.all false
set_option maxRecDepth 100000
set_option maxHeartbeats 1000000
namespace W63
open PySem PySem.Spec PyProof.Rows L2 DD
open Classical in
/-- Left(alphabet, row) -/
noncomputable def sp_Left___init__ (cL : Addr) : List D → Hea → R D := fun ds h => match ds with
  | [.ref n, a, b] => match decAl a, decRow b with
    | some A, some w => if Good A ∧ GoodW A w ∧ h[n]? = some (.ins cL []) then .ok .non (h.set n (.ins cL (fLeft A w (.ref h.length))) ++ [.dic false (kTak A fun _ => 0)]) else .no
    | _, _ => .no
  | _ => .no
end W63

set_option Elab.async false
set_option linter.all false
set_option maxRecDepth 100000
set_option maxHeartbeats 4000000
namespace W63
open PySem PySem.Spec PyProof.Rows L2 DD
section
variable (c_Left : Addr) (c_Counted : Addr)
/-- is_number -/
noncomputable def r_is_number : FS := sRet (fAndV (fNary isiD (aCons (fVar 0) (aCons (fC (.cst (.ty "int"))) (aNil)))) (fNotV (fNary isiD (aCons (fVar 0) (aCons (fC (.cst (.ty "bool"))) (aNil))))))
noncomputable def sp_is_number : List D → Hea → R D := defF 1 (r_is_number)
/-- is_index -/
noncomputable def r_is_index : FS := sRet (fAndV (fCall sp_is_number (aCons (fVar 0) (aNil))) (fBin geD (fVar 0) (fC (.int 0))))
noncomputable def sp_is_index : List D → Hea → R D := defF 1 (r_is_index)
/-- dependent_couples -/
noncomputable def c0_dependent_couples : En → Hea → R D := fLc2 (iEnumT (aCons (fVar 1) (aNil))) (gT 2 (gsCons (gN 3) (gsCons (gN 4) (gsNil)))) (tOn) (iSeq (fSlice (fVar 1) (oSome (fBin addD (fVar 3) (fC (.int 1)))) (oNone))) (gN 5) (tOn) (fNary dTup (aCons (fVar 4) (aCons (fVar 5) (aNil)))) [3, 4, 5] [5]
noncomputable def c1_dependent_couples : En → Hea → R D := fLc (iLst (fVar 2)) (gN 6) (asB (fBin notInG (fVar 6) (fBin getIx (fVar 0) (fC (.int 1))))) (fVar 6) [6]
noncomputable def r_dependent_couples : FS := sCons (sAsg (fBin getIx (fVar 0) (fC (.int 0))) (gN 1)) (sCons (sAsg (c0_dependent_couples) (gN 2)) (sRet (fNary tupleN (aCons (c1_dependent_couples) (aNil)))))
noncomputable def sp_dependent_couples : List D → Hea → R D := defF 7 (r_dependent_couples)
/-- Left.__init__ -/
noncomputable def c0_Left___init__ : En → Hea → R D := fDc false (iSeq (fUn (fldD c_Left "signs") (fVar 0))) (gN 6) (tOn) (fVar 6) (dCell (aCons (fVar 6) (aNil))) [6]
noncomputable def g1_Left___init__ : D → FS := gT 2 (gsCons (gN 4) (gsCons (gN 5) (gsNil)))
noncomputable def b2_Left___init__ : FS := sCons (sExpr (fBm "list" mAppend (fBin getIx (fVar 3) (fVar 4)) (aCons (fVar 5) (aNil)))) (sExpr (fBm "list" mAppend (fBin getIx (fVar 3) (fVar 5)) (aCons (fVar 4) (aNil))))
noncomputable def c3_Left___init__ : En → Hea → R D := fLc (iEnumT (aCons (fVar 2) (aNil))) (gT 2 (gsCons (gN 7) (gsCons (gN 8) (gsNil)))) (asB (fBin eqD (fVar 8) (fVar 6))) (fVar 7) [7, 8]
noncomputable def c4_Left___init__ : En → Hea → R D := fDc false (iSeq (fUn (fldD c_Left "signs") (fVar 0))) (gN 6) (tOn) (fVar 6) (c3_Left___init__) [6]
noncomputable def c5_Left___init__ : En → Hea → R D := fDc true (iSeq (fUn (fldD c_Left "signs") (fVar 0))) (gN 6) (tOn) (fVar 6) (fC (.int 0)) [6]
noncomputable def r_Left___init__ : FS := sCons (sFldD c_Left "row" (fVar 0) (fVar 2)) (sCons (sFldD c_Left "signs" (fVar 0) (fBin getIx (fVar 1) (fC (.int 0)))) (sCons (sAsg ((c0_Left___init__ c_Left)) (gN 3)) (sCons (sFor (iSeq (fCall sp_dependent_couples (aCons (fVar 1) (aNil)))) (g1_Left___init__) (b2_Left___init__)) (sCons (sFldD c_Left "dependent" (fVar 0) (fVar 3)) (sCons (sFldD c_Left "places" (fVar 0) ((c4_Left___init__ c_Left))) (sFldD c_Left "taken" (fVar 0) ((c5_Left___init__ c_Left))))))))
/-- Left.place -/
noncomputable def r_Left_place : FS := sCons (sAsg (fBin getIx (fUn (fldD c_Left "taken") (fVar 0)) (fVar 1)) (gN 2)) (sRet (fIf (asB (fBin ltD (fVar 2) (fNary lenG (aCons (fBin getIx (fUn (fldD c_Left "places") (fVar 0)) (fVar 1)) (aNil))))) (fBin getIx (fBin getIx (fUn (fldD c_Left "places") (fVar 0)) (fVar 1)) (fVar 2)) (fC .non)))
noncomputable def sp_Left_place : List D → Hea → R D := defF 3 (r_Left_place c_Left)
/-- Left.can_be_first -/
noncomputable def c0_Left_can_be_first : En → Hea → R D := fLc (iLst (fBin getIx (fUn (fldD c_Left "dependent") (fVar 0)) (fVar 1))) (gN 4) (asB (fBin neD (fVar 4) (fVar 1))) (fMeth c_Left "place" (sp_Left_place c_Left) (fVar 0) (aCons (fVar 4) (aNil))) [4]
noncomputable def c1_Left_can_be_first : En → Hea → R D := fLc (iLst (fVar 3)) (gN 5) (tOn) (fOrV (fBin isN (fVar 5) (fC .non)) (fBin gtD (fVar 5) (fVar 2))) [5]
noncomputable def r_Left_can_be_first : FS := sCons (sAsg (fMeth c_Left "place" (sp_Left_place c_Left) (fVar 0) (aCons (fVar 1) (aNil))) (gN 2)) (sCons (sIf (asB (fBin isN (fVar 2) (fC .non))) (sRet (fC (.bl false))) (sNil)) (sCons (sAsg ((c0_Left_can_be_first c_Left)) (gN 3)) (sRet (fNary allN (aCons (c1_Left_can_be_first) (aNil))))))
noncomputable def sp_Left_can_be_first : List D → Hea → R D := defF 6 (r_Left_can_be_first c_Left)
/-- Left.firsts -/
noncomputable def c0_Left_firsts : En → Hea → R D := fLc (iSeq (fUn (fldD c_Left "signs") (fVar 0))) (gN 1) (asB (fMeth c_Left "can_be_first" (sp_Left_can_be_first c_Left) (fVar 0) (aCons (fVar 1) (aNil)))) (fVar 1) [1]
noncomputable def r_Left_firsts : FS := sRet ((c0_Left_firsts c_Left))
noncomputable def sp_Left_firsts : List D → Hea → R D := defF 2 (r_Left_firsts c_Left)
/-- Left.take -/
noncomputable def r_Left_take : FS := sAugS iaddD (fUn (fldD c_Left "taken") (fVar 0)) (fVar 1) (fC (.int 1))
noncomputable def sp_Left_take : List D → Hea → R D := defF 2 (r_Left_take c_Left)
/-- normal -/
noncomputable def g0_normal : D → FS := gN 4
noncomputable def b1_normal : FS := sCons (sAsg (fBin getIx (fMeth c_Left "firsts" (sp_Left_firsts c_Left) (fVar 2) aNil) (fC (.int 0))) (gN 5)) (sCons (sExpr (fMeth c_Left "take" (sp_Left_take c_Left) (fVar 2) (aCons (fVar 5) (aNil)))) (sExpr (fBm "list" mAppend (fVar 3) (aCons (fVar 5) (aNil)))))
noncomputable def r_normal : FS := sCons (sPar 2 3 (aCons (fMake c_Left (sp_Left___init__ c_Left) (aCons (fVar 0) (aCons (fVar 1) (aNil)))) (aCons (dCell (aNil)) (aNil)))) (sCons (sFor (iRange1 (aCons (fNary lenG (aCons (fVar 1) (aNil))) (aNil))) (g0_normal) ((b1_normal c_Left))) (sRet (fNary tupleN (aCons (fVar 3) (aNil)))))
noncomputable def sp_normal : List D → Hea → R D := dropAll (defF 6 (r_normal c_Left))
/-- steps_of -/
noncomputable def g0_steps_of : D → FS := gN 5
noncomputable def b1_steps_of : FS := sExpr (fMeth c_Left "take" (sp_Left_take c_Left) (fVar 2) (aCons (fVar 5) (aNil)))
noncomputable def t2_steps_of : En → Hea → R Bool := asB (fBin neD (fVar 4) (fNary dLst (aNil)))
noncomputable def b3_steps_of : FS := sCons (sFor (iLst (fVar 4)) (g0_steps_of) ((b1_steps_of c_Left))) (sCons (sExpr (fBm "list" mAppend (fVar 3) (aCons (fNary tupleN (aCons (fVar 4) (aNil))) (aNil)))) (sAsg (fMeth c_Left "firsts" (sp_Left_firsts c_Left) (fVar 2) aNil) (gN 4)))
noncomputable def r_steps_of : FS := sCons (sPar 2 3 (aCons (fMake c_Left (sp_Left___init__ c_Left) (aCons (fVar 0) (aCons (fVar 1) (aNil)))) (aCons (dCell (aNil)) (aNil)))) (sCons (sAsg (fMeth c_Left "firsts" (sp_Left_firsts c_Left) (fVar 2) aNil) (gN 4)) (sCons (whileW (t2_steps_of) ((b3_steps_of c_Left))) (sRet (fNary tupleN (aCons (fVar 3) (aNil))))))
noncomputable def sp_steps_of : List D → Hea → R D := dropAll (defF 6 (r_steps_of c_Left))
/-- height -/
noncomputable def r_height : FS := sRet (fNary lenG (aCons (fCall (sp_steps_of c_Left) (aCons (fVar 0) (aCons (fVar 1) (aNil)))) (aNil)))
noncomputable def sp_height : List D → Hea → R D := defF 2 (r_height c_Left)
/-- is_normal -/
noncomputable def r_is_normal : FS := sRet (fBin eqD (fCall (sp_normal c_Left) (aCons (fVar 0) (aCons (fVar 1) (aNil)))) (fVar 1))
noncomputable def sp_is_normal : List D → Hea → R D := defF 2 (r_is_normal c_Left)
/-- by_steps -/
noncomputable def c0_by_steps : En → Hea → R D := fLc2 (iSeq (fCall (sp_steps_of c_Left) (aCons (fVar 0) (aCons (fVar 1) (aNil))))) (gN 2) (tOn) (iSeq (fVar 2)) (gN 3) (tOn) (fVar 3) [2, 3] [3]
noncomputable def r_by_steps : FS := sRet (fNary tupleN (aCons ((c0_by_steps c_Left)) (aNil)))
noncomputable def sp_by_steps : List D → Hea → R D := defF 4 (r_by_steps c_Left)
/-- is_by_steps -/
noncomputable def r_is_by_steps : FS := sRet (fBin eqD (fCall (sp_by_steps c_Left) (aCons (fVar 0) (aCons (fVar 1) (aNil)))) (fVar 1))
noncomputable def sp_is_by_steps : List D → Hea → R D := defF 2 (r_is_by_steps c_Left)
/-- Counted.next_counts -/
noncomputable def g0_Counted_next_counts : D → FS := gT 2 (gsCons (gN 3) (gsCons (gN 4) (gsNil)))
noncomputable def b1_Counted_next_counts : FS := sIf (asB (fMeth c_Left "can_be_first" (sp_Left_can_be_first c_Left) (fUn (fldD c_Counted "left") (fVar 0)) (aCons (fVar 4) (aNil)))) (sExpr (fBm "list" mAppend (fVar 2) (aCons (fNary dTup (aCons (fVar 4) (aCons (fBin addD (fBin addD (fSlice (fVar 1) (oNone) (oSome (fVar 3))) (fNary dTup (aCons (fBin addD (fBin getIx (fVar 1) (fVar 3)) (fC (.int 1))) (aNil)))) (fSlice (fVar 1) (oSome (fBin addD (fVar 3) (fC (.int 1)))) (oNone))) (aNil)))) (aNil)))) (sNil)
noncomputable def r_Counted_next_counts : FS := sCons (sFldD c_Left "taken" (fUn (fldD c_Counted "left") (fVar 0)) (fNary dictN (aCons (fZipL (aCons (fUn (fldD c_Counted "signs") (fVar 0)) (aCons (fVar 1) (aNil)))) (aNil)))) (sCons (sAsg (dCell (aNil)) (gN 2)) (sCons (sFor (iEnumT (aCons (fUn (fldD c_Counted "signs") (fVar 0)) (aNil))) (g0_Counted_next_counts) ((b1_Counted_next_counts c_Left c_Counted))) (sRet (fVar 2))))
noncomputable def sp_Counted_next_counts : List D → Hea → R D := closeL (defF 5 (r_Counted_next_counts c_Left c_Counted))
/-- Counted.first -/
noncomputable def r_Counted_first : FS := sRet (fBin mulG (fNary dTup (aCons (fC (.int 0)) (aNil))) (fNary lenG (aCons (fUn (fldD c_Counted "signs") (fVar 0)) (aNil))))
noncomputable def sp_Counted_first : List D → Hea → R D := defF 1 (r_Counted_first c_Counted)
/-- Counted.__init__ -/
noncomputable def c0_Counted___init__ : En → Hea → R D := fLc (iSeq (fUn (fldD c_Counted "signs") (fVar 0))) (gN 6) (tOn) (fNary lenG (aCons (fBin getIx (fUn (fldD c_Left "places") (fUn (fldD c_Counted "left") (fVar 0))) (fVar 6)) (aNil))) [6]
noncomputable def g1_Counted___init__ : D → FS := gT 2 (gsCons (gN 6) (gsCons (gN 7) (gsNil)))
noncomputable def b2_Counted___init__ : FS := sIf (asB (fBin notInG (fVar 7) (fVar 5))) (sCons (sPut (fC (.bl true)) (fVar 5) (fVar 7)) (sExpr (fBm "list" mAppend (fVar 3) (aCons (fVar 7) (aNil))))) (sNil)
noncomputable def t3_Counted___init__ : En → Hea → R Bool := asB (fBin ltD (fVar 4) (fNary lenG (aCons (fVar 3) (aNil))))
noncomputable def b4_Counted___init__ : FS := sCons (sPut (fMeth c_Counted "next_counts" (sp_Counted_next_counts c_Left c_Counted) (fVar 0) (aCons (fBin getIx (fVar 3) (fVar 4)) (aNil))) (fUn (fldD c_Counted "nexts") (fVar 0)) (fBin getIx (fVar 3) (fVar 4))) (sCons (sFor (iLst (fBin getIx (fUn (fldD c_Counted "nexts") (fVar 0)) (fBin getIx (fVar 3) (fVar 4)))) (g1_Counted___init__) (b2_Counted___init__)) (sCons (sIf (asB (fBin gtD (fNary lenG (aCons (fVar 3) (aNil))) (fC (.int 20000)))) (sNever) (sNil)) (sAug 4 iaddD (fC (.int 1)))))
noncomputable def c5_Counted___init__ : En → Hea → R D := fLc (iLst (fBin getIx (fUn (fldD c_Counted "nexts") (fVar 0)) (fVar 8))) (gT 2 (gsCons (gN 6) (gsCons (gN 7) (gsNil)))) (tOn) (fBin getIx (fUn (fldD c_Counted "many") (fVar 0)) (fVar 7)) [6, 7]
noncomputable def g6_Counted___init__ : D → FS := gN 8
noncomputable def b7_Counted___init__ : FS := sCons (sAsg ((c5_Counted___init__ c_Counted)) (gN 9)) (sPut (fIf (asB (fBin eqD (fVar 8) (fUn (fldD c_Counted "end") (fVar 0)))) (fC (.int 1)) (fNary sumG (aCons (fVar 9) (aNil)))) (fUn (fldD c_Counted "many") (fVar 0)) (fVar 8))
noncomputable def r_Counted___init__ : FS := sCons (sFldD c_Counted "signs" (fVar 0) (fBin getIx (fVar 1) (fC (.int 0)))) (sCons (sFldD c_Counted "left" (fVar 0) (fMake c_Left (sp_Left___init__ c_Left) (aCons (fVar 1) (aCons (fVar 2) (aNil))))) (sCons (sFldD c_Counted "end" (fVar 0) (fNary tupleN (aCons ((c0_Counted___init__ c_Left c_Counted)) (aNil)))) (sCons (sPar 3 4 (aCons (dCell (aCons (fBin mulG (fNary dTup (aCons (fC (.int 0)) (aNil))) (fNary lenG (aCons (fUn (fldD c_Counted "signs") (fVar 0)) (aNil)))) (aNil))) (aCons (fC (.int 0)) (aNil)))) (sCons (sFldD c_Counted "nexts" (fVar 0) (fNew true)) (sCons (sAsg ((fun e h => (fOneT (fBin getIx (fVar 3) (fC (.int 0))) (fC (.bl true)) e h).nox)) (gN 5)) (sCons (whileW (t3_Counted___init__) ((b4_Counted___init__ c_Left c_Counted))) (sCons (sFldD c_Counted "many" (fVar 0) (fNew true)) (sFor (iLst (fUn revD (fVar 3))) (g6_Counted___init__) ((b7_Counted___init__ c_Counted))))))))))
noncomputable def sp_Counted___init__ : List D → Hea → R D := defF 10 (r_Counted___init__ c_Left c_Counted)
/-- arrival -/
noncomputable def g0_arrival : D → FS := gT 2 (gsCons (gN 6) (gsCons (gN 7) (gsNil)))
noncomputable def b1_arrival : FS := sCons (sIf (asB (fBin ltD (fVar 2) (fBin getIx (fUn (fldD c_Counted "many") (fVar 3)) (fVar 7)))) (sBrk) (sNil)) (sAug 2 subD (fBin getIx (fUn (fldD c_Counted "many") (fVar 3)) (fVar 7)))
noncomputable def t2_arrival : En → Hea → R Bool := asB (fBin neD (fVar 4) (fUn (fldD c_Counted "end") (fVar 3)))
noncomputable def b3_arrival : FS := sCons (sFor (iLst (fBin getIx (fUn (fldD c_Counted "nexts") (fVar 3)) (fVar 4))) (g0_arrival) ((b1_arrival c_Counted))) (sCons (sExpr (fBm "list" mAppend (fVar 5) (aCons (fVar 6) (aNil)))) (sAsg (fVar 7) (gN 4)))
noncomputable def r_arrival : FS := sCons (sAsg (fMake c_Counted (sp_Counted___init__ c_Left c_Counted) (aCons (fVar 0) (aCons (fVar 1) (aNil)))) (gN 3)) (sCons (sPar 4 5 (aCons (fMeth c_Counted "first" (sp_Counted_first c_Counted) (fVar 3) aNil) (aCons (dCell (aNil)) (aNil)))) (sCons (sIf (fOr (fNot (asB (fCall sp_is_index (aCons (fVar 2) (aNil))))) (asB (fBin geD (fVar 2) (fBin getIx (fUn (fldD c_Counted "many") (fVar 3)) (fVar 4))))) (sNever) (sNil)) (sCons (whileW ((t2_arrival c_Counted)) ((b3_arrival c_Counted))) (sRet (fNary tupleN (aCons (fVar 5) (aNil)))))))
noncomputable def sp_arrival : List D → Hea → R D := dropAll (defF 8 (r_arrival c_Left c_Counted))
/-- number_of -/
noncomputable def g0_number_of : D → FS := gT 2 (gsCons (gN 6) (gsCons (gN 7) (gsNil)))
noncomputable def b1_number_of : FS := sCons (sIf (asB (fBin eqD (fVar 6) (fVar 5))) (sBrk) (sNil)) (sAug 4 iaddD (fBin getIx (fUn (fldD c_Counted "many") (fVar 2)) (fVar 7)))
noncomputable def g2_number_of : D → FS := gN 5
noncomputable def b3_number_of : FS := sCons (sFor (iLst (fBin getIx (fUn (fldD c_Counted "nexts") (fVar 2)) (fVar 3))) (g0_number_of) ((b1_number_of c_Counted))) (sAsg (fVar 7) (gN 3))
noncomputable def r_number_of : FS := sCons (sAsg (fMake c_Counted (sp_Counted___init__ c_Left c_Counted) (aCons (fVar 0) (aCons (fVar 1) (aNil)))) (gN 2)) (sCons (sPar 3 4 (aCons (fMeth c_Counted "first" (sp_Counted_first c_Counted) (fVar 2) aNil) (aCons (fC (.int 0)) (aNil)))) (sCons (sFor (iSeq (fVar 1)) (g2_number_of) ((b3_number_of c_Counted))) (sRet (fVar 4))))
noncomputable def sp_number_of : List D → Hea → R D := dropAll (defF 8 (r_number_of c_Left c_Counted))
/-- _law_bag -/
noncomputable def c0__law_bag : En → Hea → R D := fLc (iLst (fSlice (fVar 0) (oNone) (oSome (fC (.int 63))))) (gN 1) (tOn) (fNary absN (aCons (fVar 1) (aNil))) [1]
noncomputable def r__law_bag : FS := sRet (dCell (aCons (fC (.int 0)) (aCons (fC (.int 1234567891)) (aCons (fC (.int 0)) (aCons (c0__law_bag) (aNil))))))
noncomputable def sp__law_bag : List D → Hea → R D := defF 2 (r__law_bag)
/-- _law_take -/
noncomputable def r__law_take : FS := sCons (sIf (asB (fBin eqD (fBin getIx (fVar 0) (fC (.int 0))) (fC (.int 0)))) (sCons (sAsg (fBin getIx (fBin addD (fSlice (fBin getIx (fVar 0) (fC (.int 3))) (oSome (fBin getIx (fVar 0) (fC (.int 2)))) (oNone)) (fNary dLst (aCons (fC (.int 0)) (aNil)))) (fC (.int 0))) (gN 2)) (sCons (sAugS iaddD (fVar 0) (fC (.int 2)) (fC (.int 1))) (sCons (sIf (asB (fBin geD (fVar 2) (fBin powD (fC (.int 10)) (fC (.int 18))))) (sPut (fVar 2) (fVar 0) (fC (.int 0))) (sNil)) (sCons (sAsg (fBin addD (fBin addD (fBin mulG (fBin getIx (fVar 0) (fC (.int 1))) (fC (.int 48271))) (fBin modD (fNary intN (aCons (fVar 2) (aNil))) (fC (.int 2147483647)))) (fBin mulG (fC (.int 7919)) (fBin getIx (fVar 0) (fC (.int 2))))) (gN 3)) (sPut (fBin modD (fNary intN (aCons (fVar 3) (aNil))) (fC (.int 2147483647))) (fVar 0) (fC (.int 1))))))) (sNil)) (sCons (sIf (asB (fBin gtD (fBin getIx (fVar 0) (fC (.int 0))) (fC (.int 0)))) (sCons (sAsg (fBin modD (fNary intN (aCons (fBin getIx (fVar 0) (fC (.int 0))) (aNil))) (fVar 1)) (gN 4)) (sCons (sPut (fBin fdivD (fNary intN (aCons (fBin getIx (fVar 0) (fC (.int 0))) (aNil))) (fVar 1)) (fVar 0) (fC (.int 0))) (sRet (fVar 4)))) (sNil)) (sCons (sAsg (fBin modD (fNary intN (aCons (fBin mulG (fBin addD (fBin getIx (fVar 0) (fC (.int 1))) (fC (.int 1))) (fC (.int 39373))) (aNil))) (fC (.int 1000000007))) (gN 5)) (sCons (sAsg (fBin modD (fNary intN (aCons (fBin mulG (fBin modD (fNary intN (aCons (fBin mulG (fVar 5) (fVar 5)) (aNil))) (fC (.int 998244353))) (fC (.int 30011))) (aNil))) (fC (.int 998244353))) (gN 6)) (sRet (fBin modD (fNary intN (aCons (fBin fdivD (fVar 6) (fC (.int 7))) (aNil))) (fVar 1))))))
noncomputable def sp__law_take : List D → Hea → R D := defF 7 (r__law_take)
/-- _law_some -/
noncomputable def r__law_some : FS := sRet (fBin getIx (fVar 1) (fCall sp__law_take (aCons (fVar 0) (aCons (fNary lenG (aCons (fVar 1) (aNil))) (aNil)))))
noncomputable def sp__law_some : List D → Hea → R D := defF 2 (r__law_some)
/-- _law_alphabet -/
noncomputable def c0__law_alphabet : En → Hea → R D := fLc (iSeq (fSlice (fVar 1) (oSome (fBin addD (fVar 3) (fC (.int 1)))) (oNone))) (gN 5) (asB (fBin ltD (fCall sp__law_take (aCons (fVar 0) (aCons (fC (.int 5)) (aNil)))) (fC (.int 3)))) (fNary dTup (aCons (fVar 4) (aCons (fVar 5) (aNil)))) [5]
noncomputable def g1__law_alphabet : D → FS := gT 2 (gsCons (gN 3) (gsCons (gN 4) (gsNil)))
noncomputable def b2__law_alphabet : FS := sExpr (fBm "list" mExtend (fVar 2) (aCons (c0__law_alphabet) (aNil)))
noncomputable def r__law_alphabet : FS := sCons (sAsg (dCell (aNil)) (gN 2)) (sCons (sFor (iEnumT (aCons (fVar 1) (aNil))) (g1__law_alphabet) (b2__law_alphabet)) (sRet (fNary dTup (aCons (fNary tupleN (aCons (fVar 1) (aNil))) (aCons (fNary tupleN (aCons (fVar 2) (aNil))) (aNil))))))
noncomputable def sp__law_alphabet : List D → Hea → R D := dropAll (defF 6 (r__law_alphabet))
/-- _law_is_free -/
noncomputable def r__law_is_free : FS := sRet (fBin inG (fNary dTup (aCons (fNary minN (aCons (fVar 1) (aCons (fVar 2) (aNil)))) (aCons (fNary maxN (aCons (fVar 1) (aCons (fVar 2) (aNil)))) (aNil)))) (fBin getIx (fVar 0) (fC (.int 1))))
noncomputable def sp__law_is_free : List D → Hea → R D := defF 3 (r__law_is_free)
/-- _law_firsts -/
noncomputable def c0__law_firsts : En → Hea → R D := fLc (iSeq (fSlice (fVar 1) (oNone) (oSome (fVar 3)))) (gN 5) (fNot (asB (fCall sp__law_is_free (aCons (fVar 0) (aCons (fVar 4) (aCons (fVar 5) (aNil))))))) (fVar 5) [5]
noncomputable def g1__law_firsts : D → FS := gT 2 (gsCons (gN 3) (gsCons (gN 4) (gsNil)))
noncomputable def b2__law_firsts : FS := sIf (fAnd (asB (fBin notInG (fVar 4) (fVar 2))) (asB (fBin eqD (c0__law_firsts) (fNary dLst (aNil))))) (sExpr (fBm "list" mAppend (fVar 2) (aCons (fVar 4) (aNil)))) (sNil)
noncomputable def r__law_firsts : FS := sCons (sAsg (dCell (aNil)) (gN 2)) (sCons (sFor (iEnumT (aCons (fVar 1) (aNil))) (g1__law_firsts) (b2__law_firsts)) (sRet (fNary sortedN (aCons (fVar 2) (aNil)))))
noncomputable def sp__law_firsts : List D → Hea → R D := dropAll (defF 6 (r__law_firsts))
/-- _law_without -/
noncomputable def r__law_without : FS := sCons (sAsg (fBm "tuple" mIndexT (fVar 0) (aCons (fVar 1) (aNil))) (gN 2)) (sRet (fBin addD (fSlice (fVar 0) (oNone) (oSome (fVar 2))) (fSlice (fVar 0) (oSome (fBin addD (fVar 2) (fC (.int 1)))) (oNone))))
noncomputable def sp__law_without : List D → Hea → R D := defF 3 (r__law_without)
/-- _law_normal -/
noncomputable def t0__law_normal : En → Hea → R Bool := asB (fBin neD (fVar 1) (fNary dTup (aNil)))
noncomputable def b1__law_normal : FS := sCons (sAsg (fBin getIx (fCall sp__law_firsts (aCons (fVar 0) (aCons (fVar 1) (aNil)))) (fC (.int 0))) (gN 3)) (sPar 2 1 (aCons (fBin addD (fVar 2) (fNary dTup (aCons (fVar 3) (aNil)))) (aCons (fCall sp__law_without (aCons (fVar 1) (aCons (fVar 3) (aNil)))) (aNil))))
noncomputable def r__law_normal : FS := sCons (sAsg (fNary dTup (aNil)) (gN 2)) (sCons (whileW (t0__law_normal) (b1__law_normal)) (sRet (fVar 2)))
noncomputable def sp__law_normal : List D → Hea → R D := defF 4 (r__law_normal)
/-- _law_class -/
noncomputable def g0__law_class : D → FS := gN 6
noncomputable def b1__law_class : FS := sIf (asB (fCall sp__law_is_free (aCons (fVar 0) (aCons (fBin getIx (fVar 5) (fVar 6)) (aCons (fBin getIx (fVar 5) (fBin addD (fVar 6) (fC (.int 1)))) (aNil)))))) (sCons (sAsg (fBin addD (fBin addD (fSlice (fVar 5) (oNone) (oSome (fVar 6))) (fNary dTup (aCons (fBin getIx (fVar 5) (fBin addD (fVar 6) (fC (.int 1)))) (aCons (fBin getIx (fVar 5) (fVar 6)) (aNil))))) (fSlice (fVar 5) (oSome (fBin addD (fVar 6) (fC (.int 2)))) (oNone))) (gN 7)) (sIf (asB (fBin notInG (fVar 7) (fVar 3))) (sCons (sIf (asB (fBin geD (fNary lenG (aCons (fVar 3) (aNil))) (fVar 2))) (sRet (fC (.str "many"))) (sNil)) (sCons (sPut (fC (.bl true)) (fVar 3) (fVar 7)) (sExpr (fBm "list" mAppend (fVar 4) (aCons (fVar 7) (aNil)))))) (sNil))) (sNil)
noncomputable def t2__law_class : En → Hea → R Bool := asB (fBin neD (fVar 4) (fNary dLst (aNil)))
noncomputable def b3__law_class : FS := sCons (sAsg (fBm "list" mPop (fVar 4) aNil) (gN 5)) (sFor (iRange1 (aCons (fBin subD (fNary lenG (aCons (fVar 5) (aNil))) (fC (.int 1))) (aNil))) (g0__law_class) (b1__law_class))
noncomputable def r__law_class : FS := sCons (sPar 3 4 (aCons ((fun e h => (fOneT (fVar 1) (fC (.bl true)) e h).nox)) (aCons (dCell (aCons (fVar 1) (aNil))) (aNil)))) (sCons (whileW (t2__law_class) (b3__law_class)) (sRet (fNary sortedN (aCons (fVar 3) (aNil)))))
noncomputable def sp__law_class : List D → Hea → R D := dropAll (defF 8 (r__law_class))
/-- _law_row -/
noncomputable def c0__law_row : En → Hea → R D := fLc (iRange1 (aCons (fCall sp__law_take (aCons (fVar 0) (aCons (fBin addD (fVar 2) (fC (.int 1))) (aNil)))) (aNil))) (gN 3) (tOn) (fCall sp__law_some (aCons (fVar 0) (aCons (fVar 1) (aNil)))) [3]
noncomputable def r__law_row : FS := sRet (fNary tupleN (aCons (c0__law_row) (aNil)))
noncomputable def sp__law_row : List D → Hea → R D := defF 4 (r__law_row)
/-- _law_steps -/
noncomputable def g0__law_steps : D → FS := gN 4
noncomputable def b1__law_steps : FS := sAsg (fCall sp__law_without (aCons (fVar 1) (aCons (fVar 4) (aNil)))) (gN 1)
noncomputable def t2__law_steps : En → Hea → R Bool := asB (fBin neD (fVar 1) (fNary dTup (aNil)))
noncomputable def b3__law_steps : FS := sCons (sAsg (fCall sp__law_firsts (aCons (fVar 0) (aCons (fVar 1) (aNil)))) (gN 3)) (sCons (sFor (iLst (fVar 3)) (g0__law_steps) (b1__law_steps)) (sExpr (fBm "list" mAppend (fVar 2) (aCons (fNary tupleN (aCons (fVar 3) (aNil))) (aNil)))))
noncomputable def r__law_steps : FS := sCons (sAsg (dCell (aNil)) (gN 2)) (sCons (whileW (t2__law_steps) (b3__law_steps)) (sRet (fVar 2)))
noncomputable def sp__law_steps : List D → Hea → R D := closeL (defF 5 (r__law_steps))
/-- _law_is_least -/
noncomputable def c0__law_is_least : En → Hea → R D := fLc (iSeq (fSlice (fVar 1) (oSome (fVar 2)) (oSome (fVar 4)))) (gN 6) (fNot (asB (fCall sp__law_is_free (aCons (fVar 0) (aCons (fVar 6) (aCons (fBin getIx (fVar 1) (fVar 4)) (aNil))))))) (fVar 6) [6]
noncomputable def g1__law_is_least : D → FS := gN 4
noncomputable def b2__law_is_least : FS := sCons (sAsg (c0__law_is_least) (gN 5)) (sIf (fAnd (asB (fBin ltD (fBin getIx (fVar 1) (fVar 4)) (fVar 3))) (asB (fBin eqD (fVar 5) (fNary dLst (aNil))))) (sRet (fC (.bl false))) (sNil))
noncomputable def g3__law_is_least : D → FS := gT 2 (gsCons (gN 2) (gsCons (gN 3) (gsNil)))
noncomputable def b4__law_is_least : FS := sFor (iRange2 (aCons (fBin addD (fVar 2) (fC (.int 1))) (aCons (fNary lenG (aCons (fVar 1) (aNil))) (aNil)))) (g1__law_is_least) (b2__law_is_least)
noncomputable def r__law_is_least : FS := sCons (sFor (iEnumT (aCons (fVar 1) (aNil))) (g3__law_is_least) (b4__law_is_least)) (sRet (fC (.bl true)))
noncomputable def sp__law_is_least : List D → Hea → R D := defF 7 (r__law_is_least)
/-- law -/
noncomputable def c0_law : En → Hea → R D := fLc (iLst (fVar 6)) (gN 12) (tOn) (fNary listN (aCons (fVar 12) (aNil))) [12]
noncomputable def g1_law : D → FS := gT 2 (gsCons (gN 10) (gsCons (gN 11) (gsNil)))
noncomputable def b2_law : FS := sCons (sIf (fOr (asB (fBin neD (fCall (sp_is_normal c_Left) (aCons (fVar 3) (aCons (fVar 11) (aNil)))) (fBin eqD (fVar 11) (fVar 8)))) (asB (fBin neD (fCall sp__law_is_least (aCons (fVar 3) (aCons (fVar 11) (aNil)))) (fBin eqD (fVar 11) (fVar 8))))) (sRet (fC (.bl false))) (sNil)) (sCons (sIf (fOr (asB (fBin neD (fCall (sp_is_by_steps c_Left) (aCons (fVar 3) (aCons (fVar 11) (aNil)))) (fBin eqD (fVar 11) (fVar 7)))) (asB (fBin neD (fCall (sp_by_steps c_Left) (aCons (fVar 3) (aCons (fVar 11) (aNil)))) (fVar 7)))) (sRet (fC (.bl false))) (sNil)) (sExpr (fBm "list" mAppend (fVar 9) (aCons (fCall (sp_number_of c_Left c_Counted) (aCons (fVar 3) (aCons (fVar 11) (aNil)))) (aNil)))))
noncomputable def c3_law : En → Hea → R D := fLc (iSeq (fVar 12)) (gN 15) (fAnd (asB (fBin neD (fVar 15) (fVar 14))) (fNot (asB (fCall sp__law_is_free (aCons (fVar 3) (aCons (fVar 14) (aCons (fVar 15) (aNil)))))))) (fVar 15) [15]
noncomputable def c4_law : En → Hea → R D := fLc (iSeq (fVar 13)) (gN 15) (fNot (asB (fCall sp__law_is_free (aCons (fVar 3) (aCons (fVar 14) (aCons (fVar 15) (aNil))))))) (fVar 15) [15]
noncomputable def g5_law : D → FS := gN 14
noncomputable def b6_law : FS := sCons (sIf (asB (fBin neD (c3_law) (fNary dLst (aNil)))) (sRet (fC (.bl false))) (sNil)) (sIf (fAnd (asB (fBin gtD (fVar 10) (fC (.int 0)))) (asB (fBin eqD (c4_law) (fNary dLst (aNil))))) (sRet (fC (.bl false))) (sNil))
noncomputable def g7_law : D → FS := gT 2 (gsCons (gN 10) (gsCons (gN 12) (gsNil)))
noncomputable def b8_law : FS := sCons (sAsg (fIf (asB (fBin gtD (fVar 10) (fC (.int 0)))) (fBin getIx (fVar 6) (fBin subD (fVar 10) (fC (.int 1)))) (fNary dTup (aNil))) (gN 13)) (sFor (iSeq (fVar 12)) (g5_law) (b6_law))
noncomputable def g9_law : D → FS := gN 2
noncomputable def b10_law : FS := sCons (sAsg (fCall sp__law_alphabet (aCons (fVar 1) (aCons (fSlice (fNary dTup (aCons (fC (.str "a")) (aCons (fC (.str "b")) (aCons (fC (.str "c")) (aCons (fC (.str "d")) (aNil)))))) (oNone) (oSome (fBin addD (fC (.int 1)) (fCall sp__law_take (aCons (fVar 1) (aCons (fC (.int 4)) (aNil))))))) (aNil)))) (gN 3)) (sCons (sAsg (fCall sp__law_row (aCons (fVar 1) (aCons (fBin getIx (fVar 3) (fC (.int 0))) (aCons (fC (.int 6)) (aNil))))) (gN 4)) (sCons (sAsg (fCall sp__law_class (aCons (fVar 3) (aCons (fVar 4) (aCons (fC (.int 800)) (aNil))))) (gN 5)) (sCons (sIf (asB (fBin eqD (fVar 5) (fC (.str "many")))) (sRet (fC (.bl false))) (sNil)) (sCons (sAsg (fCall sp__law_steps (aCons (fVar 3) (aCons (fVar 4) (aNil)))) (gN 6)) (sCons (sAsg (fNary tupleN (aCons (fNary sumG (aCons (c0_law) (aCons (fNary dLst (aNil)) (aNil)))) (aNil))) (gN 7)) (sCons (sPar 8 9 (aCons (fCall sp__law_normal (aCons (fVar 3) (aCons (fVar 4) (aNil)))) (aCons (dCell (aNil)) (aNil)))) (sCons (sFor (iEnumL (aCons (fVar 5) (aNil))) (g1_law) ((b2_law c_Left c_Counted))) (sCons (sIf (fOr (asB (fBin neD (fVar 9) (fListRg (fNary lenG (aCons (fVar 5) (aNil)))))) (fOr (asB (fBin neD (fBin getIx (fVar 5) (fC (.int 0))) (fVar 8))) (asB (fBin notInG (fVar 7) (fVar 5))))) (sRet (fC (.bl false))) (sNil)) (sCons (sIf (fOr (asB (fBin neD (fCall (sp_normal c_Left) (aCons (fVar 3) (aCons (fVar 4) (aNil)))) (fVar 8))) (asB (fBin neD (fCall (sp_arrival c_Left c_Counted) (aCons (fVar 3) (aCons (fVar 4) (aCons (fC (.int 0)) (aNil))))) (fVar 8)))) (sRet (fC (.bl false))) (sNil)) (sCons (sIf (fOr (asB (fBin neD (fNary listN (aCons (fCall (sp_steps_of c_Left) (aCons (fVar 3) (aCons (fVar 4) (aNil)))) (aNil))) (fVar 6))) (asB (fBin neD (fCall (sp_height c_Left) (aCons (fVar 3) (aCons (fVar 4) (aNil)))) (fNary lenG (aCons (fVar 6) (aNil)))))) (sRet (fC (.bl false))) (sNil)) (sFor (iEnumL (aCons (fVar 6) (aNil))) (g7_law) (b8_law))))))))))))
noncomputable def r_law : FS := sCons (sAsg (fCall sp__law_bag (aCons (fVar 0) (aNil))) (gN 1)) (sCons (sFor (iRange1 (aCons (fC (.int 3)) (aNil))) (g9_law) ((b10_law c_Left c_Counted))) (sRet (fC (.bl true))))
noncomputable def sp_law : List D → Hea → R D := defF 16 (r_law c_Left c_Counted)
end
end W63

set_option Elab.async false
set_option linter.all false
set_option maxRecDepth 100000
set_option maxHeartbeats 0
namespace H63
open PySem PySem.Spec PyProof.Rows L2
def top (i : Nat) : Stmt := PySem.Challenge.pw_anyarrive_k63_whole_normal_rows_and_step.main.body.getD i (.Pass ⟨0, 0, 0, 0⟩)
def s__wall : Stmt := top 0
def s_is_number : Stmt := top 6
def s_is_index : Stmt := top 7
def s_dependent_couples : Stmt := top 9
def s_normal : Stmt := top 12
def s_steps_of : Stmt := top 14
def s_height : Stmt := top 15
def s_is_normal : Stmt := top 17
def s_by_steps : Stmt := top 18
def s_is_by_steps : Stmt := top 19
def s_arrival : Stmt := top 23
def s_number_of : Stmt := top 24
def s__law_bag : Stmt := top 26
def s__law_take : Stmt := top 27
def s__law_some : Stmt := top 28
def s__law_alphabet : Stmt := top 29
def s__law_is_free : Stmt := top 30
def s__law_firsts : Stmt := top 31
def s__law_without : Stmt := top 32
def s__law_normal : Stmt := top 33
def s__law_class : Stmt := top 34
def s__law_row : Stmt := top 35
def s__law_steps : Stmt := top 36
def s__law_is_least : Stmt := top 37
def s_law : Stmt := top 38
def s_Left___init__ : Stmt := inClass (top 11) 0
def s_Left_place : Stmt := inClass (top 11) 1
def s_Left_can_be_first : Stmt := inClass (top 11) 2
def s_Left_firsts : Stmt := inClass (top 11) 3
def s_Left_take : Stmt := inClass (top 11) 4
def s_Left_left : Stmt := inClass (top 11) 5
def s_Counted___init__ : Stmt := inClass (top 22) 0
def s_Counted_next_counts : Stmt := inClass (top 22) 1
def s_Counted_first : Stmt := inClass (top 22) 2
def d__wall : He.DefD := ⟨("_wall", none), "_wall", "_wall", defArgs s__wall, defBody s__wall, defScope s__wall, [], []⟩
def d_is_number : He.DefD := ⟨("is_number", none), "is_number", "is_number", defArgs s_is_number, defBody s_is_number, defScope s_is_number, [], []⟩
def d_is_index : He.DefD := ⟨("is_index", none), "is_index", "is_index", defArgs s_is_index, defBody s_is_index, defScope s_is_index, [], []⟩
def d_dependent_couples : He.DefD := ⟨("dependent_couples", none), "dependent_couples", "dependent_couples", defArgs s_dependent_couples, defBody s_dependent_couples, defScope s_dependent_couples, [], []⟩
def d_normal : He.DefD := ⟨("normal", none), "normal", "normal", defArgs s_normal, defBody s_normal, defScope s_normal, [], []⟩
def d_steps_of : He.DefD := ⟨("steps_of", none), "steps_of", "steps_of", defArgs s_steps_of, defBody s_steps_of, defScope s_steps_of, [], []⟩
def d_height : He.DefD := ⟨("height", none), "height", "height", defArgs s_height, defBody s_height, defScope s_height, [], []⟩
def d_is_normal : He.DefD := ⟨("is_normal", none), "is_normal", "is_normal", defArgs s_is_normal, defBody s_is_normal, defScope s_is_normal, [], []⟩
def d_by_steps : He.DefD := ⟨("by_steps", none), "by_steps", "by_steps", defArgs s_by_steps, defBody s_by_steps, defScope s_by_steps, [], []⟩
def d_is_by_steps : He.DefD := ⟨("is_by_steps", none), "is_by_steps", "is_by_steps", defArgs s_is_by_steps, defBody s_is_by_steps, defScope s_is_by_steps, [], []⟩
def d_arrival : He.DefD := ⟨("arrival", none), "arrival", "arrival", defArgs s_arrival, defBody s_arrival, defScope s_arrival, [], []⟩
def d_number_of : He.DefD := ⟨("number_of", none), "number_of", "number_of", defArgs s_number_of, defBody s_number_of, defScope s_number_of, [], []⟩
def d__law_bag : He.DefD := ⟨("_law_bag", none), "_law_bag", "_law_bag", defArgs s__law_bag, defBody s__law_bag, defScope s__law_bag, [], []⟩
def d__law_take : He.DefD := ⟨("_law_take", none), "_law_take", "_law_take", defArgs s__law_take, defBody s__law_take, defScope s__law_take, [], []⟩
def d__law_some : He.DefD := ⟨("_law_some", none), "_law_some", "_law_some", defArgs s__law_some, defBody s__law_some, defScope s__law_some, [], []⟩
def d__law_alphabet : He.DefD := ⟨("_law_alphabet", none), "_law_alphabet", "_law_alphabet", defArgs s__law_alphabet, defBody s__law_alphabet, defScope s__law_alphabet, [], []⟩
def d__law_is_free : He.DefD := ⟨("_law_is_free", none), "_law_is_free", "_law_is_free", defArgs s__law_is_free, defBody s__law_is_free, defScope s__law_is_free, [], []⟩
def d__law_firsts : He.DefD := ⟨("_law_firsts", none), "_law_firsts", "_law_firsts", defArgs s__law_firsts, defBody s__law_firsts, defScope s__law_firsts, [], []⟩
def d__law_without : He.DefD := ⟨("_law_without", none), "_law_without", "_law_without", defArgs s__law_without, defBody s__law_without, defScope s__law_without, [], []⟩
def d__law_normal : He.DefD := ⟨("_law_normal", none), "_law_normal", "_law_normal", defArgs s__law_normal, defBody s__law_normal, defScope s__law_normal, [], []⟩
def d__law_class : He.DefD := ⟨("_law_class", none), "_law_class", "_law_class", defArgs s__law_class, defBody s__law_class, defScope s__law_class, [], []⟩
def d__law_row : He.DefD := ⟨("_law_row", none), "_law_row", "_law_row", defArgs s__law_row, defBody s__law_row, defScope s__law_row, [], []⟩
def d__law_steps : He.DefD := ⟨("_law_steps", none), "_law_steps", "_law_steps", defArgs s__law_steps, defBody s__law_steps, defScope s__law_steps, [], []⟩
def d__law_is_least : He.DefD := ⟨("_law_is_least", none), "_law_is_least", "_law_is_least", defArgs s__law_is_least, defBody s__law_is_least, defScope s__law_is_least, [], []⟩
def d_law : He.DefD := ⟨("law", none), "law", "law", defArgs s_law, defBody s_law, defScope s_law, [], []⟩
def d_Left___init__ : He.DefD := ⟨("Left", some "__init__"), "__init__", "Left.__init__", defArgs s_Left___init__, defBody s_Left___init__, defScope s_Left___init__, [], []⟩
def d_Left_place : He.DefD := ⟨("Left", some "place"), "place", "Left.place", defArgs s_Left_place, defBody s_Left_place, defScope s_Left_place, [], []⟩
def d_Left_can_be_first : He.DefD := ⟨("Left", some "can_be_first"), "can_be_first", "Left.can_be_first", defArgs s_Left_can_be_first, defBody s_Left_can_be_first, defScope s_Left_can_be_first, [], []⟩
def d_Left_firsts : He.DefD := ⟨("Left", some "firsts"), "firsts", "Left.firsts", defArgs s_Left_firsts, defBody s_Left_firsts, defScope s_Left_firsts, [], []⟩
def d_Left_take : He.DefD := ⟨("Left", some "take"), "take", "Left.take", defArgs s_Left_take, defBody s_Left_take, defScope s_Left_take, [], []⟩
def d_Left_left : He.DefD := ⟨("Left", some "left"), "left", "Left.left", defArgs s_Left_left, defBody s_Left_left, defScope s_Left_left, [], []⟩
def d_Counted___init__ : He.DefD := ⟨("Counted", some "__init__"), "__init__", "Counted.__init__", defArgs s_Counted___init__, defBody s_Counted___init__, defScope s_Counted___init__, [], []⟩
def d_Counted_next_counts : He.DefD := ⟨("Counted", some "next_counts"), "next_counts", "Counted.next_counts", defArgs s_Counted_next_counts, defBody s_Counted_next_counts, defScope s_Counted_next_counts, [], []⟩
def d_Counted_first : He.DefD := ⟨("Counted", some "first"), "first", "Counted.first", defArgs s_Counted_first, defBody s_Counted_first, defScope s_Counted_first, [], []⟩
def fn : List He.DefD := [d__wall, d_is_number, d_is_index, d_dependent_couples, d_normal, d_steps_of, d_height, d_is_normal, d_by_steps, d_is_by_steps, d_arrival, d_number_of, d__law_bag, d__law_take, d__law_some, d__law_alphabet, d__law_is_free, d__law_firsts, d__law_without, d__law_normal, d__law_class, d__law_row, d__law_steps, d__law_is_least, d_law, d_Left___init__, d_Left_place, d_Left_can_be_first, d_Left_firsts, d_Left_take, d_Left_left, d_Counted___init__, d_Counted_next_counts, d_Counted_first]
def fa : List He.Fa := [.glo "_wall",
  .glo "is_number",
  .glo "is_index",
  .glo "dependent_couples",
  .glo "normal",
  .glo "steps_of",
  .glo "height",
  .glo "is_normal",
  .glo "by_steps",
  .glo "is_by_steps",
  .glo "arrival",
  .glo "number_of",
  .glo "_law_bag",
  .glo "_law_take",
  .glo "_law_some",
  .glo "_law_alphabet",
  .glo "_law_is_free",
  .glo "_law_firsts",
  .glo "_law_without",
  .glo "_law_normal",
  .glo "_law_class",
  .glo "_law_row",
  .glo "_law_steps",
  .glo "_law_is_least",
  .glo "law",
  .glo "ArriveError",
  .glo "Nothing",
  .glo "TooLarge",
  .glo "Left",
  .cls "Left",
  .mkr "Left",
  .meth "Left" "place",
  .meth "Left" "can_be_first",
  .meth "Left" "firsts",
  .meth "Left" "take",
  .meth "Left" "left",
  .noat "Left" "dependent",
  .noat "Left" "places",
  .noat "Left" "row",
  .noat "Left" "signs",
  .noat "Left" "taken",
  .glo "Counted",
  .cls "Counted",
  .mkr "Counted",
  .meth "Counted" "next_counts",
  .meth "Counted" "first",
  .noat "Counted" "end",
  .noat "Counted" "left",
  .noat "Counted" "many",
  .noat "Counted" "nexts",
  .noat "Counted" "signs",
  .int "MOST_COUNTS" 20000,
  .free "ValueError",
  .free "abs",
  .free "all",
  .free "bool",
  .free "dict",
  .free "enumerate",
  .free "int",
  .free "isinstance",
  .free "len",
  .free "list",
  .free "max",
  .free "min",
  .free "range",
  .free "sorted",
  .free "sum",
  .free "super",
  .free "tuple",
  .free "zip"]
def looseN : List PySem.Str := ["_wall", "is_number", "is_index", "dependent_couples", "normal", "steps_of", "height", "is_normal", "by_steps", "is_by_steps", "arrival", "number_of", "_law_bag", "_law_take", "_law_some", "_law_alphabet", "_law_is_free", "_law_firsts", "_law_without", "_law_normal", "_law_class", "_law_row", "_law_steps", "_law_is_least", "ArriveError", "Nothing", "TooLarge", "Left", "Counted", "MOST_COUNTS"]
def lawIx : Nat := 38

abbrev R : PySem.W.OpenRow := PySem.W.OpenLaw.row PySem.Challenge.rw_anyarrive_k63_whole_normal_rows_and_step
abbrev hk : PySem.W.Hook := He.hookD 5 fa fn
def ob (s : PySem.W.SharedT) : He.AlD := He.obsDG 5 fa fn (HandSHeadRun.getT s)
theorem ob_eq (s : PySem.W.SharedT) : ob s = hk.obs s.abs := He.obsDG_eq (HandSHeadRun.getT_eq s)
theorem run (w : World) : HandSHeadRun.RunEq R (PySem.W.view R.prog [38]) hk ob 4000 looseN w := by
  intro os
  kernel_rfl
end H63

set_option Elab.async false
set_option linter.all false
set_option maxRecDepth 100000
set_option maxHeartbeats 4000000
namespace W63
open PySem PySem.Spec PyProof.Rows L2 DD
/-- the facts that the walk leans on -/
structure Fx (K : PySem.W.Frag) (mg : Str → Option Value) where
  f_is_number : Addr
  d_is_number : FuncData
  F_is_number : FunD K "is_number" "is_number" (defArgs H63.s_is_number) (defBody H63.s_is_number) (defScope H63.s_is_number) [] [] f_is_number d_is_number
  b_is_number : Binds K d_is_number ["thing"] []
  g_is_number : mg "is_number" = some (.ref f_is_number)
  f_is_index : Addr
  d_is_index : FuncData
  F_is_index : FunD K "is_index" "is_index" (defArgs H63.s_is_index) (defBody H63.s_is_index) (defScope H63.s_is_index) [] [] f_is_index d_is_index
  b_is_index : Binds K d_is_index ["thing"] []
  g_is_index : mg "is_index" = some (.ref f_is_index)
  f_dependent_couples : Addr
  d_dependent_couples : FuncData
  F_dependent_couples : FunD K "dependent_couples" "dependent_couples" (defArgs H63.s_dependent_couples) (defBody H63.s_dependent_couples) (defScope H63.s_dependent_couples) [] [] f_dependent_couples d_dependent_couples
  b_dependent_couples : Binds K d_dependent_couples ["alphabet"] []
  g_dependent_couples : mg "dependent_couples" = some (.ref f_dependent_couples)
  f_Left___init__ : Addr
  d_Left___init__ : FuncData
  F_Left___init__ : FunD K "__init__" "Left.__init__" (defArgs H63.s_Left___init__) (defBody H63.s_Left___init__) (defScope H63.s_Left___init__) [] [] f_Left___init__ d_Left___init__
  b_Left___init__ : Binds K d_Left___init__ ["self", "alphabet", "row"] []
  f_Left_place : Addr
  d_Left_place : FuncData
  F_Left_place : FunD K "place" "Left.place" (defArgs H63.s_Left_place) (defBody H63.s_Left_place) (defScope H63.s_Left_place) [] [] f_Left_place d_Left_place
  b_Left_place : Binds K d_Left_place ["self", "sign"] []
  f_Left_can_be_first : Addr
  d_Left_can_be_first : FuncData
  F_Left_can_be_first : FunD K "can_be_first" "Left.can_be_first" (defArgs H63.s_Left_can_be_first) (defBody H63.s_Left_can_be_first) (defScope H63.s_Left_can_be_first) [] [] f_Left_can_be_first d_Left_can_be_first
  b_Left_can_be_first : Binds K d_Left_can_be_first ["self", "sign"] []
  f_Left_firsts : Addr
  d_Left_firsts : FuncData
  F_Left_firsts : FunD K "firsts" "Left.firsts" (defArgs H63.s_Left_firsts) (defBody H63.s_Left_firsts) (defScope H63.s_Left_firsts) [] [] f_Left_firsts d_Left_firsts
  b_Left_firsts : Binds K d_Left_firsts ["self"] []
  f_Left_take : Addr
  d_Left_take : FuncData
  F_Left_take : FunD K "take" "Left.take" (defArgs H63.s_Left_take) (defBody H63.s_Left_take) (defScope H63.s_Left_take) [] [] f_Left_take d_Left_take
  b_Left_take : Binds K d_Left_take ["self", "sign"] []
  f_normal : Addr
  d_normal : FuncData
  F_normal : FunD K "normal" "normal" (defArgs H63.s_normal) (defBody H63.s_normal) (defScope H63.s_normal) [] [] f_normal d_normal
  b_normal : Binds K d_normal ["alphabet", "row"] []
  g_normal : mg "normal" = some (.ref f_normal)
  f_steps_of : Addr
  d_steps_of : FuncData
  F_steps_of : FunD K "steps_of" "steps_of" (defArgs H63.s_steps_of) (defBody H63.s_steps_of) (defScope H63.s_steps_of) [] [] f_steps_of d_steps_of
  b_steps_of : Binds K d_steps_of ["alphabet", "row"] []
  g_steps_of : mg "steps_of" = some (.ref f_steps_of)
  f_height : Addr
  d_height : FuncData
  F_height : FunD K "height" "height" (defArgs H63.s_height) (defBody H63.s_height) (defScope H63.s_height) [] [] f_height d_height
  b_height : Binds K d_height ["alphabet", "row"] []
  g_height : mg "height" = some (.ref f_height)
  f_is_normal : Addr
  d_is_normal : FuncData
  F_is_normal : FunD K "is_normal" "is_normal" (defArgs H63.s_is_normal) (defBody H63.s_is_normal) (defScope H63.s_is_normal) [] [] f_is_normal d_is_normal
  b_is_normal : Binds K d_is_normal ["alphabet", "row"] []
  g_is_normal : mg "is_normal" = some (.ref f_is_normal)
  f_by_steps : Addr
  d_by_steps : FuncData
  F_by_steps : FunD K "by_steps" "by_steps" (defArgs H63.s_by_steps) (defBody H63.s_by_steps) (defScope H63.s_by_steps) [] [] f_by_steps d_by_steps
  b_by_steps : Binds K d_by_steps ["alphabet", "row"] []
  g_by_steps : mg "by_steps" = some (.ref f_by_steps)
  f_is_by_steps : Addr
  d_is_by_steps : FuncData
  F_is_by_steps : FunD K "is_by_steps" "is_by_steps" (defArgs H63.s_is_by_steps) (defBody H63.s_is_by_steps) (defScope H63.s_is_by_steps) [] [] f_is_by_steps d_is_by_steps
  b_is_by_steps : Binds K d_is_by_steps ["alphabet", "row"] []
  g_is_by_steps : mg "is_by_steps" = some (.ref f_is_by_steps)
  f_Counted_next_counts : Addr
  d_Counted_next_counts : FuncData
  F_Counted_next_counts : FunD K "next_counts" "Counted.next_counts" (defArgs H63.s_Counted_next_counts) (defBody H63.s_Counted_next_counts) (defScope H63.s_Counted_next_counts) [] [] f_Counted_next_counts d_Counted_next_counts
  b_Counted_next_counts : Binds K d_Counted_next_counts ["self", "here"] []
  f_Counted_first : Addr
  d_Counted_first : FuncData
  F_Counted_first : FunD K "first" "Counted.first" (defArgs H63.s_Counted_first) (defBody H63.s_Counted_first) (defScope H63.s_Counted_first) [] [] f_Counted_first d_Counted_first
  b_Counted_first : Binds K d_Counted_first ["self"] []
  f_Counted___init__ : Addr
  d_Counted___init__ : FuncData
  F_Counted___init__ : FunD K "__init__" "Counted.__init__" (defArgs H63.s_Counted___init__) (defBody H63.s_Counted___init__) (defScope H63.s_Counted___init__) [] [] f_Counted___init__ d_Counted___init__
  b_Counted___init__ : Binds K d_Counted___init__ ["self", "alphabet", "row"] []
  f_arrival : Addr
  d_arrival : FuncData
  F_arrival : FunD K "arrival" "arrival" (defArgs H63.s_arrival) (defBody H63.s_arrival) (defScope H63.s_arrival) [] [] f_arrival d_arrival
  b_arrival : Binds K d_arrival ["alphabet", "row", "number"] []
  g_arrival : mg "arrival" = some (.ref f_arrival)
  f_number_of : Addr
  d_number_of : FuncData
  F_number_of : FunD K "number_of" "number_of" (defArgs H63.s_number_of) (defBody H63.s_number_of) (defScope H63.s_number_of) [] [] f_number_of d_number_of
  b_number_of : Binds K d_number_of ["alphabet", "row"] []
  g_number_of : mg "number_of" = some (.ref f_number_of)
  f__law_bag : Addr
  d__law_bag : FuncData
  F__law_bag : FunD K "_law_bag" "_law_bag" (defArgs H63.s__law_bag) (defBody H63.s__law_bag) (defScope H63.s__law_bag) [] [] f__law_bag d__law_bag
  b__law_bag : Binds K d__law_bag ["script"] []
  g__law_bag : mg "_law_bag" = some (.ref f__law_bag)
  f__law_take : Addr
  d__law_take : FuncData
  F__law_take : FunD K "_law_take" "_law_take" (defArgs H63.s__law_take) (defBody H63.s__law_take) (defScope H63.s__law_take) [] [] f__law_take d__law_take
  b__law_take : Binds K d__law_take ["bag", "many"] []
  g__law_take : mg "_law_take" = some (.ref f__law_take)
  f__law_some : Addr
  d__law_some : FuncData
  F__law_some : FunD K "_law_some" "_law_some" (defArgs H63.s__law_some) (defBody H63.s__law_some) (defScope H63.s__law_some) [] [] f__law_some d__law_some
  b__law_some : Binds K d__law_some ["bag", "things"] []
  g__law_some : mg "_law_some" = some (.ref f__law_some)
  f__law_alphabet : Addr
  d__law_alphabet : FuncData
  F__law_alphabet : FunD K "_law_alphabet" "_law_alphabet" (defArgs H63.s__law_alphabet) (defBody H63.s__law_alphabet) (defScope H63.s__law_alphabet) [] [] f__law_alphabet d__law_alphabet
  b__law_alphabet : Binds K d__law_alphabet ["bag", "signs"] []
  g__law_alphabet : mg "_law_alphabet" = some (.ref f__law_alphabet)
  f__law_is_free : Addr
  d__law_is_free : FuncData
  F__law_is_free : FunD K "_law_is_free" "_law_is_free" (defArgs H63.s__law_is_free) (defBody H63.s__law_is_free) (defScope H63.s__law_is_free) [] [] f__law_is_free d__law_is_free
  b__law_is_free : Binds K d__law_is_free ["alphabet", "a", "b"] []
  g__law_is_free : mg "_law_is_free" = some (.ref f__law_is_free)
  f__law_firsts : Addr
  d__law_firsts : FuncData
  F__law_firsts : FunD K "_law_firsts" "_law_firsts" (defArgs H63.s__law_firsts) (defBody H63.s__law_firsts) (defScope H63.s__law_firsts) [] [] f__law_firsts d__law_firsts
  b__law_firsts : Binds K d__law_firsts ["alphabet", "row"] []
  g__law_firsts : mg "_law_firsts" = some (.ref f__law_firsts)
  f__law_without : Addr
  d__law_without : FuncData
  F__law_without : FunD K "_law_without" "_law_without" (defArgs H63.s__law_without) (defBody H63.s__law_without) (defScope H63.s__law_without) [] [] f__law_without d__law_without
  b__law_without : Binds K d__law_without ["row", "a"] []
  g__law_without : mg "_law_without" = some (.ref f__law_without)
  f__law_normal : Addr
  d__law_normal : FuncData
  F__law_normal : FunD K "_law_normal" "_law_normal" (defArgs H63.s__law_normal) (defBody H63.s__law_normal) (defScope H63.s__law_normal) [] [] f__law_normal d__law_normal
  b__law_normal : Binds K d__law_normal ["alphabet", "row"] []
  g__law_normal : mg "_law_normal" = some (.ref f__law_normal)
  f__law_class : Addr
  d__law_class : FuncData
  F__law_class : FunD K "_law_class" "_law_class" (defArgs H63.s__law_class) (defBody H63.s__law_class) (defScope H63.s__law_class) [] [] f__law_class d__law_class
  b__law_class : Binds K d__law_class ["alphabet", "row", "most"] []
  g__law_class : mg "_law_class" = some (.ref f__law_class)
  f__law_row : Addr
  d__law_row : FuncData
  F__law_row : FunD K "_law_row" "_law_row" (defArgs H63.s__law_row) (defBody H63.s__law_row) (defScope H63.s__law_row) [] [] f__law_row d__law_row
  b__law_row : Binds K d__law_row ["bag", "signs", "most"] []
  g__law_row : mg "_law_row" = some (.ref f__law_row)
  f__law_steps : Addr
  d__law_steps : FuncData
  F__law_steps : FunD K "_law_steps" "_law_steps" (defArgs H63.s__law_steps) (defBody H63.s__law_steps) (defScope H63.s__law_steps) [] [] f__law_steps d__law_steps
  b__law_steps : Binds K d__law_steps ["alphabet", "row"] []
  g__law_steps : mg "_law_steps" = some (.ref f__law_steps)
  f__law_is_least : Addr
  d__law_is_least : FuncData
  F__law_is_least : FunD K "_law_is_least" "_law_is_least" (defArgs H63.s__law_is_least) (defBody H63.s__law_is_least) (defScope H63.s__law_is_least) [] [] f__law_is_least d__law_is_least
  b__law_is_least : Binds K d__law_is_least ["alphabet", "row"] []
  g__law_is_least : mg "_law_is_least" = some (.ref f__law_is_least)
  f_law : Addr
  d_law : FuncData
  F_law : FunD K "law" "law" (defArgs H63.s_law) (defBody H63.s_law) (defScope H63.s_law) [] [] f_law d_law
  b_law : Binds K d_law ["script"] []
  g_law : mg "law" = some (.ref f_law)
  c_Left : Addr
  cls_Left : Cls K c_Left
  gc_Left : mg "Left" = some (.ref c_Left)
  mk_Left : Mk K c_Left f_Left___init__
  me_Left_place : Meth K c_Left "place" f_Left_place
  me_Left_can_be_first : Meth K c_Left "can_be_first" f_Left_can_be_first
  me_Left_firsts : Meth K c_Left "firsts" f_Left_firsts
  me_Left_take : Meth K c_Left "take" f_Left_take
  no_Left_row : NoAttr K c_Left "row"
  no_Left_signs : NoAttr K c_Left "signs"
  no_Left_dependent : NoAttr K c_Left "dependent"
  no_Left_places : NoAttr K c_Left "places"
  no_Left_taken : NoAttr K c_Left "taken"
  c_Counted : Addr
  cls_Counted : Cls K c_Counted
  gc_Counted : mg "Counted" = some (.ref c_Counted)
  mk_Counted : Mk K c_Counted f_Counted___init__
  me_Counted_next_counts : Meth K c_Counted "next_counts" f_Counted_next_counts
  me_Counted_first : Meth K c_Counted "first" f_Counted_first
  no_Counted_signs : NoAttr K c_Counted "signs"
  no_Counted_left : NoAttr K c_Counted "left"
  no_Counted_end : NoAttr K c_Counted "end"
  no_Counted_nexts : NoAttr K c_Counted "nexts"
  no_Counted_many : NoAttr K c_Counted "many"
  n_abs : mg "abs" = none
  n_all : mg "all" = none
  n_bool : mg "bool" = none
  n_dict : mg "dict" = none
  n_enumerate : mg "enumerate" = none
  n_int : mg "int" = none
  n_isinstance : mg "isinstance" = none
  n_len : mg "len" = none
  n_list : mg "list" = none
  n_max : mg "max" = none
  n_min : mg "min" = none
  n_range : mg "range" = none
  n_sorted : mg "sorted" = none
  n_sum : mg "sum" = none
  n_tuple : mg "tuple" = none
  n_zip : mg "zip" = none
  i_MOST_COUNTS : ∃ t, mg "MOST_COUNTS" = some (.int 20000 t)
section
variable {E : Wd} {mg : Str → Option Value} (x : Fx E.K mg) {base : Heap}
theorem sc_is_number : FnScope ["thing"] ["thing"] (defScope H63.s_is_number) := ⟨rfl, rfl, rfl, by decide +kernel, rfl, by decide +kernel, by decide +kernel⟩
theorem raw_is_number  : FnD E mg base 1 x.f_is_number x.d_is_number ["thing"] sp_is_number := by
  refine fnD_ok x.F_is_number sc_is_number fun cdv A outer s H Ex hr => ?_
  have nd := (sc_is_number).nd
  exact dss_one (ds_ret (de_and (de_callB cd_isi (by rfl) x.n_isinstance (by decide +kernel) (da_cons (de_var (pv 0)) (da_cons (de_ty (by rfl) x.n_int (by decide +kernel)) (da_nil)))) (de_one (de_not (de_callB cd_isi (by rfl) x.n_isinstance (by decide +kernel) (da_cons (de_var (pv 0)) (da_cons (de_ty (by rfl) x.n_bool (by decide +kernel)) (da_nil))))))))
theorem sc_is_index : FnScope ["thing"] ["thing"] (defScope H63.s_is_index) := ⟨rfl, rfl, rfl, by decide +kernel, rfl, by decide +kernel, by decide +kernel⟩
theorem raw_is_index (o_is_number : FnD E mg base 1 x.f_is_number x.d_is_number ["thing"] sp_is_number) : FnD E mg base 2 x.f_is_index x.d_is_index ["thing"] sp_is_index := by
  refine fnD_ok x.F_is_index sc_is_index fun cdv A outer s H Ex hr => ?_
  have nd := (sc_is_index).nd
  exact dss_one (ds_ret (de_and (de_call o_is_number (hr.mono (by decide)) (by rfl) x.g_is_number x.F_is_number.kp x.b_is_number (da_cons (de_var (pv 0)) (da_nil)) rfl (al_cons al_nil)) (de_one (de_cmp od_ge (de_var (pv 0)) (de_int) (nomark _)))))
theorem sc_dependent_couples : FnScope ["alphabet", "signs", "couples", "at", "a", "b", "couple"] ["alphabet"] (defScope H63.s_dependent_couples) := ⟨rfl, rfl, rfl, by decide +kernel, rfl, by decide +kernel, by decide +kernel⟩
theorem raw_dependent_couples  : FnD E mg base 1 x.f_dependent_couples x.d_dependent_couples ["alphabet"] sp_dependent_couples := by
  refine fnD_ok x.F_dependent_couples sc_dependent_couples fun cdv A outer s H Ex hr => ?_
  have nd := (sc_dependent_couples).nd
  exact dss_cons (ds_set (i := 1) nd rfl (by first | exact Or.inl rfl | exact Or.inr rfl) (de_get (room1 hr) (de_var (pv 0)) (de_int))) (dss_cons (ds_setLc2 (own := [("at", 3), ("a", 4), ("b", 5)]) (i := 2) rfl nd rfl rfl (by rfl) (di_enumT (by rfl) x.n_enumerate (da_cons (de_var (pv 1)) (da_nil))) (blkOk_by (own := [("at", 3), ("a", 4), ("b", 5)]) (by kernel_rfl)) (by decide) (by decide) (fun _ _ _ _ _ => dg_tup rfl (dgs_cons (dg_name (i := 3) nd rfl (by first | exact Or.inl rfl | exact Or.inr rfl)) (dgs_cons (dg_name (i := 4) nd rfl (by first | exact Or.inl rfl | exact Or.inr rfl)) (dgs_nil)))) (fun _ _ _ _ _ => dts_nil) (fun _ _ _ _ _ => di_tup (de_slice (de_var (pv 1)) (do_some (de_op od_add (de_var (pv 3)) (de_int))) (do_none))) (fun _ _ _ _ _ => dg_name (i := 5) nd rfl (by first | exact Or.inl rfl | exact Or.inr rfl)) (fun _ _ _ _ _ => dts_nil) (fun _ _ _ _ _ => de_tup (da_cons (de_var (pv 4)) (da_cons (de_var (pv 5)) (da_nil))))) (dss_one (ds_ret (de_callTy cd_tuple (by rfl) x.n_tuple (by decide +kernel) (da_cons (de_lc (own := [("couple", 6)]) rfl nd (di_lst (de_var (pv 2))) (blkOk_by (own := [("couple", 6)]) (by kernel_rfl)) (by decide) (fun _ _ _ _ _ => dg_name (i := 6) nd rfl (by first | exact Or.inl rfl | exact Or.inr rfl)) (fun _ _ _ _ _ => dts_one (dt_cmp (od_notinG (room65 hr)) (de_var (pv 6)) (de_get (room1 hr) (de_var (pv 0)) (de_int)) rfl)) (fun _ _ _ _ _ => de_var (pv 6))) (da_nil))))))
theorem sc_Left___init__ : FnScope ["self", "alphabet", "row", "dependent", "a", "b", "sign", "at", "one"] ["self", "alphabet", "row"] (defScope H63.s_Left___init__) := ⟨rfl, rfl, rfl, by decide +kernel, rfl, by decide +kernel, by decide +kernel⟩
theorem raw_Left___init__ (o_dependent_couples : FnD E mg base 1 x.f_dependent_couples x.d_dependent_couples ["alphabet"] sp_dependent_couples) : FnD E mg base 2 x.f_Left___init__ x.d_Left___init__ ["self", "alphabet", "row"] (defF 9 (r_Left___init__ x.c_Left)) := by
  refine fnD_ok x.F_Left___init__ sc_Left___init__ fun cdv A outer s H Ex hr => ?_
  have nd := (sc_Left___init__).nd
  exact dss_cons (ds_fld (de_var (pv 0)) (de_var (pv 2)) x.cls_Left x.no_Left_row) (dss_cons (ds_fld (de_var (pv 0)) (de_get (room1 hr) (de_var (pv 1)) (de_int)) x.cls_Left x.no_Left_signs) (dss_cons (ds_setDc (own := [("sign", 6)]) (i := 3) rfl nd rfl rfl (by rfl) (di_tup (de_fld (de_var (pv 0)) x.cls_Left x.no_Left_signs)) (blkOk_by (own := [("sign", 6)]) (by kernel_rfl)) (by decide) (fun _ _ _ _ _ => dg_name (i := 6) nd rfl (by first | exact Or.inl rfl | exact Or.inr rfl)) (fun _ _ _ _ _ => dts_nil) (fun _ _ _ _ _ => de_var (pv 6)) (fun _ _ _ _ _ => de_lstC (da_cons (de_var (pv 6)) (da_nil)))) (dss_cons (ds_for PassesOwn.never rfl (di_tup (de_call o_dependent_couples (hr.mono (by decide)) (by rfl) x.g_dependent_couples x.F_dependent_couples.kp x.b_dependent_couples (da_cons (de_var (pv 1)) (da_nil)) rfl (al_cons al_nil))) (dg_tup rfl (dgs_cons (dg_name (i := 4) nd rfl (by first | exact Or.inl rfl | exact Or.inr rfl)) (dgs_cons (dg_name (i := 5) nd rfl (by first | exact Or.inl rfl | exact Or.inr rfl)) (dgs_nil)))) (dss_cons (ds_expr (de_bm PySem.F.plainAttrs_list PySem.F.slot_list_append PySem.F.type_list_append md_append (de_get (room1 hr) (de_var (pv 3)) (de_var (pv 4))) (da_cons (de_var (pv 5)) (da_nil)))) (dss_one (ds_expr (de_bm PySem.F.plainAttrs_list PySem.F.slot_list_append PySem.F.type_list_append md_append (de_get (room1 hr) (de_var (pv 3)) (de_var (pv 5))) (da_cons (de_var (pv 4)) (da_nil))))))) (dss_cons (ds_fld (de_var (pv 0)) (de_var (pv 3)) x.cls_Left x.no_Left_dependent) (dss_cons (ds_fld (de_var (pv 0)) (de_dc (own := [("sign", 6)]) rfl nd (di_tup (de_fld (de_var (pv 0)) x.cls_Left x.no_Left_signs)) (blkOk_by (own := [("sign", 6)]) (by kernel_rfl)) (by decide) (fun _ _ _ _ _ => dg_name (i := 6) nd rfl (by first | exact Or.inl rfl | exact Or.inr rfl)) (fun _ _ _ _ _ => dts_nil) (fun _ _ _ _ _ => de_var (pv 6)) (fun _ _ _ _ _ => de_lc (own := [("at", 7), ("one", 8)]) rfl nd (di_enumT (by rfl) x.n_enumerate (da_cons (de_var (pv 2)) (da_nil))) (blkOk_by (own := [("at", 7), ("one", 8)]) (by kernel_rfl)) (by decide) (fun _ _ _ _ _ => dg_tup rfl (dgs_cons (dg_name (i := 7) nd rfl (by first | exact Or.inl rfl | exact Or.inr rfl)) (dgs_cons (dg_name (i := 8) nd rfl (by first | exact Or.inl rfl | exact Or.inr rfl)) (dgs_nil)))) (fun _ _ _ _ _ => dts_one (dt_cmp (od_eq hr.units) (de_var (pv 8)) (de_var (pv 6)) (nomark _))) (fun _ _ _ _ _ => de_var (pv 7)))) x.cls_Left x.no_Left_places) (dss_one (ds_fld (de_var (pv 0)) (de_dc (own := [("sign", 6)]) rfl nd (di_tup (de_fld (de_var (pv 0)) x.cls_Left x.no_Left_signs)) (blkOk_by (own := [("sign", 6)]) (by kernel_rfl)) (by decide) (fun _ _ _ _ _ => dg_name (i := 6) nd rfl (by first | exact Or.inl rfl | exact Or.inr rfl)) (fun _ _ _ _ _ => dts_nil) (fun _ _ _ _ _ => de_var (pv 6)) (fun _ _ _ _ _ => de_int)) x.cls_Left x.no_Left_taken)))))))
theorem sc_Left_place : FnScope ["self", "sign", "at"] ["self", "sign"] (defScope H63.s_Left_place) := ⟨rfl, rfl, rfl, by decide +kernel, rfl, by decide +kernel, by decide +kernel⟩
theorem raw_Left_place  : FnD E mg base 1 x.f_Left_place x.d_Left_place ["self", "sign"] (sp_Left_place x.c_Left) := by
  refine fnD_ok x.F_Left_place sc_Left_place fun cdv A outer s H Ex hr => ?_
  have nd := (sc_Left_place).nd
  exact dss_cons (ds_set (i := 2) nd rfl (by first | exact Or.inl rfl | exact Or.inr rfl) (de_get (room1 hr) (de_fld (de_var (pv 0)) x.cls_Left x.no_Left_taken) (de_var (pv 1)))) (dss_one (ds_ret (de_ifExp (dt_cmp od_lt (de_var (pv 2)) (de_callB cd_lenG (by rfl) x.n_len (by decide +kernel) (da_cons (de_get (room1 hr) (de_fld (de_var (pv 0)) x.cls_Left x.no_Left_places) (de_var (pv 1))) (da_nil))) (nomark _)) (de_get (room1 hr) (de_get (room1 hr) (de_fld (de_var (pv 0)) x.cls_Left x.no_Left_places) (de_var (pv 1))) (de_var (pv 2))) (de_non))))
theorem sc_Left_can_be_first : FnScope ["self", "sign", "here", "others", "other", "there"] ["self", "sign"] (defScope H63.s_Left_can_be_first) := ⟨rfl, rfl, rfl, by decide +kernel, rfl, by decide +kernel, by decide +kernel⟩
theorem raw_Left_can_be_first (o_Left_place : FnD E mg base 1 x.f_Left_place x.d_Left_place ["self", "sign"] (sp_Left_place x.c_Left)) : FnD E mg base 2 x.f_Left_can_be_first x.d_Left_can_be_first ["self", "sign"] (sp_Left_can_be_first x.c_Left) := by
  refine fnD_ok x.F_Left_can_be_first sc_Left_can_be_first fun cdv A outer s H Ex hr => ?_
  have nd := (sc_Left_can_be_first).nd
  exact dss_cons (ds_set (i := 2) nd rfl (by first | exact Or.inl rfl | exact Or.inr rfl) (de_meth (de_var (pv 0)) x.cls_Left x.me_Left_place o_Left_place (hr.mono (by decide)) x.b_Left_place (da_cons (de_var (pv 1)) (da_nil)) (AL.add1 (al_cons al_nil)))) (dss_cons (ds_if (dt_cmp od_is (de_var (pv 2)) (de_non) (nomark _)) (dss_one (ds_ret (de_bl))) (dss_nil)) (dss_cons (ds_setLc (own := [("other", 4)]) (i := 3) rfl nd rfl rfl (by rfl) (di_lst (de_get (room1 hr) (de_fld (de_var (pv 0)) x.cls_Left x.no_Left_dependent) (de_var (pv 1)))) (blkOk_by (own := [("other", 4)]) (by kernel_rfl)) (by decide) (fun _ _ _ _ _ => dg_name (i := 4) nd rfl (by first | exact Or.inl rfl | exact Or.inr rfl)) (fun _ _ _ _ _ => dts_one (dt_cmp (od_ne hr.units) (de_var (pv 4)) (de_var (pv 1)) (nomark _))) (fun _ _ _ _ _ => de_meth (de_var (pv 0)) x.cls_Left x.me_Left_place o_Left_place (hr.mono (by decide)) x.b_Left_place (da_cons (de_var (pv 4)) (da_nil)) (AL.add1 (al_cons al_nil)))) (dss_one (ds_ret (de_callB (cd_all rfl) (by rfl) x.n_all (by decide +kernel) (da_cons (de_lc (own := [("there", 5)]) rfl nd (di_lst (de_var (pv 3))) (blkOk_by (own := [("there", 5)]) (by kernel_rfl)) (by decide) (fun _ _ _ _ _ => dg_name (i := 5) nd rfl (by first | exact Or.inl rfl | exact Or.inr rfl)) (fun _ _ _ _ _ => dts_nil) (fun _ _ _ _ _ => de_or (de_cmp od_is (de_var (pv 5)) (de_non) (nomark _)) (de_one (de_cmp od_gt (de_var (pv 5)) (de_var (pv 2)) (nomark _))))) (da_nil)))))))
theorem sc_Left_firsts : FnScope ["self", "sign"] ["self"] (defScope H63.s_Left_firsts) := ⟨rfl, rfl, rfl, by decide +kernel, rfl, by decide +kernel, by decide +kernel⟩
theorem raw_Left_firsts (o_Left_can_be_first : FnD E mg base 2 x.f_Left_can_be_first x.d_Left_can_be_first ["self", "sign"] (sp_Left_can_be_first x.c_Left)) : FnD E mg base 3 x.f_Left_firsts x.d_Left_firsts ["self"] (sp_Left_firsts x.c_Left) := by
  refine fnD_ok x.F_Left_firsts sc_Left_firsts fun cdv A outer s H Ex hr => ?_
  have nd := (sc_Left_firsts).nd
  exact dss_one (ds_ret (de_lc (own := [("sign", 1)]) rfl nd (di_tup (de_fld (de_var (pv 0)) x.cls_Left x.no_Left_signs)) (blkOk_by (own := [("sign", 1)]) (by kernel_rfl)) (by decide) (fun _ _ _ _ _ => dg_name (i := 1) nd rfl (by first | exact Or.inl rfl | exact Or.inr rfl)) (fun _ _ _ _ _ => dts_one (dt_val (de_meth (de_var (pv 0)) x.cls_Left x.me_Left_can_be_first o_Left_can_be_first (hr.mono (by decide)) x.b_Left_can_be_first (da_cons (de_var (pv 1)) (da_nil)) (AL.add1 (al_cons al_nil))))) (fun _ _ _ _ _ => de_var (pv 1))))
theorem sc_Left_take : FnScope ["self", "sign"] ["self", "sign"] (defScope H63.s_Left_take) := ⟨rfl, rfl, rfl, by decide +kernel, rfl, by decide +kernel, by decide +kernel⟩
theorem raw_Left_take  : FnD E mg base 1 x.f_Left_take x.d_Left_take ["self", "sign"] (sp_Left_take x.c_Left) := by
  refine fnD_ok x.F_Left_take sc_Left_take fun cdv A outer s H Ex hr => ?_
  have nd := (sc_Left_take).nd
  exact dss_one (ds_augS (room1 hr) (de_fld (de_var (pv 0)) x.cls_Left x.no_Left_taken) (de_var (pv 1)) (de_int) id_add)
theorem sc_normal : FnScope ["alphabet", "row", "left", "found", "_turn", "sign"] ["alphabet", "row"] (defScope H63.s_normal) := ⟨rfl, rfl, rfl, by decide +kernel, rfl, by decide +kernel, by decide +kernel⟩
theorem raw_normal (o_Left___init__ : FnD E mg base 2 x.f_Left___init__ x.d_Left___init__ ["self", "alphabet", "row"] (sp_Left___init__ x.c_Left)) (o_Left_firsts : FnD E mg base 3 x.f_Left_firsts x.d_Left_firsts ["self"] (sp_Left_firsts x.c_Left)) (o_Left_take : FnD E mg base 1 x.f_Left_take x.d_Left_take ["self", "sign"] (sp_Left_take x.c_Left)) : FnD E mg base 4 x.f_normal x.d_normal ["alphabet", "row"] (defF 6 (r_normal x.c_Left)) := by
  refine fnD_ok x.F_normal sc_normal fun cdv A outer s H Ex hr => ?_
  have nd := (sc_normal).nd
  exact dss_cons (ds_parOf (ps_par (i := 2) (j := 3) rfl nd rfl rfl (by decide) rfl rfl (da_cons (de_make x.mk_Left o_Left___init__ (hr.mono (by decide)) (by rfl) x.gc_Left x.b_Left___init__ (da_cons (de_var (pv 0)) (da_cons (de_var (pv 1)) (da_nil))) (AL.add1 (al_cons (al_cons al_nil)))) (da_cons (de_lstC (da_nil)) (da_nil))) (by rfl))) (dss_cons (ds_for PassesOwn.never rfl (di_range1 (by rfl) x.n_range (da_cons (de_callB cd_lenG (by rfl) x.n_len (by decide +kernel) (da_cons (de_var (pv 1)) (da_nil))) (da_nil))) (dg_name (i := 4) nd rfl (by first | exact Or.inl rfl | exact Or.inr rfl)) (dss_cons (ds_set (i := 5) nd rfl (by first | exact Or.inl rfl | exact Or.inr rfl) (de_get (room1 hr) (de_meth0 (de_var (pv 2)) x.cls_Left x.me_Left_firsts o_Left_firsts (hr.mono (by decide)) x.b_Left_firsts rfl) (de_int))) (dss_cons (ds_expr (de_meth (de_var (pv 2)) x.cls_Left x.me_Left_take o_Left_take (hr.mono (by decide)) x.b_Left_take (da_cons (de_var (pv 5)) (da_nil)) (AL.add1 (al_cons al_nil)))) (dss_one (ds_expr (de_bm PySem.F.plainAttrs_list PySem.F.slot_list_append PySem.F.type_list_append md_append (de_var (pv 3)) (da_cons (de_var (pv 5)) (da_nil)))))))) (dss_one (ds_ret (de_callTy cd_tuple (by rfl) x.n_tuple (by decide +kernel) (da_cons (de_var (pv 3)) (da_nil))))))
theorem sc_steps_of : FnScope ["alphabet", "row", "left", "found", "step", "sign"] ["alphabet", "row"] (defScope H63.s_steps_of) := ⟨rfl, rfl, rfl, by decide +kernel, rfl, by decide +kernel, by decide +kernel⟩
theorem raw_steps_of (o_Left___init__ : FnD E mg base 2 x.f_Left___init__ x.d_Left___init__ ["self", "alphabet", "row"] (sp_Left___init__ x.c_Left)) (o_Left_firsts : FnD E mg base 3 x.f_Left_firsts x.d_Left_firsts ["self"] (sp_Left_firsts x.c_Left)) (o_Left_take : FnD E mg base 1 x.f_Left_take x.d_Left_take ["self", "sign"] (sp_Left_take x.c_Left)) : FnD E mg base 4 x.f_steps_of x.d_steps_of ["alphabet", "row"] (defF 6 (r_steps_of x.c_Left)) := by
  refine fnD_ok x.F_steps_of sc_steps_of fun cdv A outer s H Ex hr => ?_
  have nd := (sc_steps_of).nd
  exact dss_cons (ds_parOf (ps_par (i := 2) (j := 3) rfl nd rfl rfl (by decide) rfl rfl (da_cons (de_make x.mk_Left o_Left___init__ (hr.mono (by decide)) (by rfl) x.gc_Left x.b_Left___init__ (da_cons (de_var (pv 0)) (da_cons (de_var (pv 1)) (da_nil))) (AL.add1 (al_cons (al_cons al_nil)))) (da_cons (de_lstC (da_nil)) (da_nil))) (by rfl))) (dss_cons (ds_set (i := 4) nd rfl (by first | exact Or.inl rfl | exact Or.inr rfl) (de_meth0 (de_var (pv 2)) x.cls_Left x.me_Left_firsts o_Left_firsts (hr.mono (by decide)) x.b_Left_firsts rfl)) (dss_cons (ds_while PassesOwn.never (dt_cmp (od_ne hr.units) (de_var (pv 4)) (de_lst (da_nil)) (nomark _)) (dss_cons (ds_for PassesOwn.never rfl (di_lst (de_var (pv 4))) (dg_name (i := 5) nd rfl (by first | exact Or.inl rfl | exact Or.inr rfl)) (dss_one (ds_expr (de_meth (de_var (pv 2)) x.cls_Left x.me_Left_take o_Left_take (hr.mono (by decide)) x.b_Left_take (da_cons (de_var (pv 5)) (da_nil)) (AL.add1 (al_cons al_nil)))))) (dss_cons (ds_expr (de_bm PySem.F.plainAttrs_list PySem.F.slot_list_append PySem.F.type_list_append md_append (de_var (pv 3)) (da_cons (de_callTy cd_tuple (by rfl) x.n_tuple (by decide +kernel) (da_cons (de_var (pv 4)) (da_nil))) (da_nil)))) (dss_one (ds_set (i := 4) nd rfl (by first | exact Or.inl rfl | exact Or.inr rfl) (de_meth0 (de_var (pv 2)) x.cls_Left x.me_Left_firsts o_Left_firsts (hr.mono (by decide)) x.b_Left_firsts rfl)))))) (dss_one (ds_ret (de_callTy cd_tuple (by rfl) x.n_tuple (by decide +kernel) (da_cons (de_var (pv 3)) (da_nil)))))))
theorem sc_height : FnScope ["alphabet", "row"] ["alphabet", "row"] (defScope H63.s_height) := ⟨rfl, rfl, rfl, by decide +kernel, rfl, by decide +kernel, by decide +kernel⟩
theorem raw_height (o_steps_of : FnD E mg base 4 x.f_steps_of x.d_steps_of ["alphabet", "row"] (sp_steps_of x.c_Left)) : FnD E mg base 5 x.f_height x.d_height ["alphabet", "row"] (sp_height x.c_Left) := by
  refine fnD_ok x.F_height sc_height fun cdv A outer s H Ex hr => ?_
  have nd := (sc_height).nd
  exact dss_one (ds_ret (de_callB cd_lenG (by rfl) x.n_len (by decide +kernel) (da_cons (de_call o_steps_of (hr.mono (by decide)) (by rfl) x.g_steps_of x.F_steps_of.kp x.b_steps_of (da_cons (de_var (pv 0)) (da_cons (de_var (pv 1)) (da_nil))) rfl (al_cons (al_cons al_nil))) (da_nil))))
theorem sc_is_normal : FnScope ["alphabet", "row"] ["alphabet", "row"] (defScope H63.s_is_normal) := ⟨rfl, rfl, rfl, by decide +kernel, rfl, by decide +kernel, by decide +kernel⟩
theorem raw_is_normal (o_normal : FnD E mg base 4 x.f_normal x.d_normal ["alphabet", "row"] (sp_normal x.c_Left)) : FnD E mg base 5 x.f_is_normal x.d_is_normal ["alphabet", "row"] (sp_is_normal x.c_Left) := by
  refine fnD_ok x.F_is_normal sc_is_normal fun cdv A outer s H Ex hr => ?_
  have nd := (sc_is_normal).nd
  exact dss_one (ds_ret (de_cmp (od_eq hr.units) (de_call o_normal (hr.mono (by decide)) (by rfl) x.g_normal x.F_normal.kp x.b_normal (da_cons (de_var (pv 0)) (da_cons (de_var (pv 1)) (da_nil))) rfl (al_cons (al_cons al_nil))) (de_var (pv 1)) (nomark _)))
theorem sc_by_steps : FnScope ["alphabet", "row", "step", "sign"] ["alphabet", "row"] (defScope H63.s_by_steps) := ⟨rfl, rfl, rfl, by decide +kernel, rfl, by decide +kernel, by decide +kernel⟩
theorem raw_by_steps (o_steps_of : FnD E mg base 4 x.f_steps_of x.d_steps_of ["alphabet", "row"] (sp_steps_of x.c_Left)) : FnD E mg base 5 x.f_by_steps x.d_by_steps ["alphabet", "row"] (sp_by_steps x.c_Left) := by
  refine fnD_ok x.F_by_steps sc_by_steps fun cdv A outer s H Ex hr => ?_
  have nd := (sc_by_steps).nd
  exact dss_one (ds_ret (de_callTy cd_tuple (by rfl) x.n_tuple (by decide +kernel) (da_cons (de_lc2 (own := [("step", 2), ("sign", 3)]) rfl nd (di_tup (de_call o_steps_of (hr.mono (by decide)) (by rfl) x.g_steps_of x.F_steps_of.kp x.b_steps_of (da_cons (de_var (pv 0)) (da_cons (de_var (pv 1)) (da_nil))) rfl (al_cons (al_cons al_nil)))) (blkOk_by (own := [("step", 2), ("sign", 3)]) (by kernel_rfl)) (by decide) (by decide) (fun _ _ _ _ _ => dg_name (i := 2) nd rfl (by first | exact Or.inl rfl | exact Or.inr rfl)) (fun _ _ _ _ _ => dts_nil) (fun _ _ _ _ _ => di_tup (de_var (pv 2))) (fun _ _ _ _ _ => dg_name (i := 3) nd rfl (by first | exact Or.inl rfl | exact Or.inr rfl)) (fun _ _ _ _ _ => dts_nil) (fun _ _ _ _ _ => de_var (pv 3))) (da_nil))))
theorem sc_is_by_steps : FnScope ["alphabet", "row"] ["alphabet", "row"] (defScope H63.s_is_by_steps) := ⟨rfl, rfl, rfl, by decide +kernel, rfl, by decide +kernel, by decide +kernel⟩
theorem raw_is_by_steps (o_by_steps : FnD E mg base 5 x.f_by_steps x.d_by_steps ["alphabet", "row"] (sp_by_steps x.c_Left)) : FnD E mg base 6 x.f_is_by_steps x.d_is_by_steps ["alphabet", "row"] (sp_is_by_steps x.c_Left) := by
  refine fnD_ok x.F_is_by_steps sc_is_by_steps fun cdv A outer s H Ex hr => ?_
  have nd := (sc_is_by_steps).nd
  exact dss_one (ds_ret (de_cmp (od_eq hr.units) (de_call o_by_steps (hr.mono (by decide)) (by rfl) x.g_by_steps x.F_by_steps.kp x.b_by_steps (da_cons (de_var (pv 0)) (da_cons (de_var (pv 1)) (da_nil))) rfl (al_cons (al_cons al_nil))) (de_var (pv 1)) (nomark _)))
theorem sc_Counted_next_counts : FnScope ["self", "here", "found", "at", "sign"] ["self", "here"] (defScope H63.s_Counted_next_counts) := ⟨rfl, rfl, rfl, by decide +kernel, rfl, by decide +kernel, by decide +kernel⟩
theorem raw_Counted_next_counts (o_Left_can_be_first : FnD E mg base 2 x.f_Left_can_be_first x.d_Left_can_be_first ["self", "sign"] (sp_Left_can_be_first x.c_Left)) : FnD E mg base 3 x.f_Counted_next_counts x.d_Counted_next_counts ["self", "here"] (defF 5 (r_Counted_next_counts x.c_Left x.c_Counted)) := by
  refine fnD_ok x.F_Counted_next_counts sc_Counted_next_counts fun cdv A outer s H Ex hr => ?_
  have nd := (sc_Counted_next_counts).nd
  exact dss_cons (ds_fld (de_fld (de_var (pv 0)) x.cls_Counted x.no_Counted_left) (de_callTy (cd_dict rfl) (by rfl) x.n_dict (by decide +kernel) (da_cons (de_listZip rfl (by rfl) x.n_list (by rfl) x.n_zip (da_cons (de_fld (de_var (pv 0)) x.cls_Counted x.no_Counted_signs) (da_cons (de_var (pv 1)) (da_nil)))) (da_nil))) x.cls_Left x.no_Left_taken) (dss_cons (ds_set (i := 2) nd rfl (by first | exact Or.inl rfl | exact Or.inr rfl) (de_lstC (da_nil))) (dss_cons (ds_for PassesOwn.never rfl (di_enumT (by rfl) x.n_enumerate (da_cons (de_fld (de_var (pv 0)) x.cls_Counted x.no_Counted_signs) (da_nil))) (dg_tup rfl (dgs_cons (dg_name (i := 3) nd rfl (by first | exact Or.inl rfl | exact Or.inr rfl)) (dgs_cons (dg_name (i := 4) nd rfl (by first | exact Or.inl rfl | exact Or.inr rfl)) (dgs_nil)))) (dss_one (ds_if (dt_val (de_meth (de_fld (de_var (pv 0)) x.cls_Counted x.no_Counted_left) x.cls_Left x.me_Left_can_be_first o_Left_can_be_first (hr.mono (by decide)) x.b_Left_can_be_first (da_cons (de_var (pv 4)) (da_nil)) (AL.add1 (al_cons al_nil)))) (dss_one (ds_expr (de_bm PySem.F.plainAttrs_list PySem.F.slot_list_append PySem.F.type_list_append md_append (de_var (pv 2)) (da_cons (de_tup (da_cons (de_var (pv 4)) (da_cons (de_op od_add (de_op od_add (de_slice (de_var (pv 1)) (do_none) (do_some (de_var (pv 3)))) (de_tup (da_cons (de_op od_add (de_get (room1 hr) (de_var (pv 1)) (de_var (pv 3))) (de_int)) (da_nil)))) (de_slice (de_var (pv 1)) (do_some (de_op od_add (de_var (pv 3)) (de_int))) (do_none))) (da_nil)))) (da_nil))))) (dss_nil)))) (dss_one (ds_ret (de_var (pv 2))))))
theorem sc_Counted_first : FnScope ["self"] ["self"] (defScope H63.s_Counted_first) := ⟨rfl, rfl, rfl, by decide +kernel, rfl, by decide +kernel, by decide +kernel⟩
theorem raw_Counted_first  : FnD E mg base 1 x.f_Counted_first x.d_Counted_first ["self"] (sp_Counted_first x.c_Counted) := by
  refine fnD_ok x.F_Counted_first sc_Counted_first fun cdv A outer s H Ex hr => ?_
  have nd := (sc_Counted_first).nd
  exact dss_one (ds_ret (de_op od_mulG (de_tup (da_cons (de_int) (da_nil))) (de_callB cd_lenG (by rfl) x.n_len (by decide +kernel) (da_cons (de_fld (de_var (pv 0)) x.cls_Counted x.no_Counted_signs) (da_nil)))))
theorem sc_Counted___init__ : FnScope ["self", "alphabet", "row", "line", "at", "there", "sign", "later", "here", "its"] ["self", "alphabet", "row"] (defScope H63.s_Counted___init__) := ⟨rfl, rfl, rfl, by decide +kernel, rfl, by decide +kernel, by decide +kernel⟩
theorem raw_Counted___init__ (o_Left___init__ : FnD E mg base 2 x.f_Left___init__ x.d_Left___init__ ["self", "alphabet", "row"] (sp_Left___init__ x.c_Left)) (o_Counted_next_counts : FnD E mg base 3 x.f_Counted_next_counts x.d_Counted_next_counts ["self", "here"] (sp_Counted_next_counts x.c_Left x.c_Counted)) : FnD E mg base 4 x.f_Counted___init__ x.d_Counted___init__ ["self", "alphabet", "row"] (sp_Counted___init__ x.c_Left x.c_Counted) := by
  refine fnD_ok x.F_Counted___init__ sc_Counted___init__ fun cdv A outer s H Ex hr => ?_
  have nd := (sc_Counted___init__).nd
  exact dss_cons (ds_fld (de_var (pv 0)) (de_get (room1 hr) (de_var (pv 1)) (de_int)) x.cls_Counted x.no_Counted_signs) (dss_cons (ds_fld (de_var (pv 0)) (de_make x.mk_Left o_Left___init__ (hr.mono (by decide)) (by rfl) x.gc_Left x.b_Left___init__ (da_cons (de_var (pv 1)) (da_cons (de_var (pv 2)) (da_nil))) (AL.add1 (al_cons (al_cons al_nil)))) x.cls_Counted x.no_Counted_left) (dss_cons (ds_fld (de_var (pv 0)) (de_callTy cd_tuple (by rfl) x.n_tuple (by decide +kernel) (da_cons (de_lc (own := [("sign", 6)]) rfl nd (di_tup (de_fld (de_var (pv 0)) x.cls_Counted x.no_Counted_signs)) (blkOk_by (own := [("sign", 6)]) (by kernel_rfl)) (by decide) (fun _ _ _ _ _ => dg_name (i := 6) nd rfl (by first | exact Or.inl rfl | exact Or.inr rfl)) (fun _ _ _ _ _ => dts_nil) (fun _ _ _ _ _ => de_callB cd_lenG (by rfl) x.n_len (by decide +kernel) (da_cons (de_get (room1 hr) (de_fld (de_fld (de_var (pv 0)) x.cls_Counted x.no_Counted_left) x.cls_Left x.no_Left_places) (de_var (pv 6))) (da_nil)))) (da_nil))) x.cls_Counted x.no_Counted_end) (dss_cons (ds_parOf (ps_par (i := 3) (j := 4) rfl nd rfl rfl (by decide) rfl rfl (da_cons (de_lstC (da_cons (de_op od_mulG (de_tup (da_cons (de_int) (da_nil))) (de_callB cd_lenG (by rfl) x.n_len (by decide +kernel) (da_cons (de_fld (de_var (pv 0)) x.cls_Counted x.no_Counted_signs) (da_nil)))) (da_nil))) (da_cons (de_int) (da_nil))) (by rfl))) (dss_cons (ds_fld (de_var (pv 0)) (de_new) x.cls_Counted x.no_Counted_nexts) (dss_cons (ds_set (i := 5) nd rfl (by first | exact Or.inl rfl | exact Or.inr rfl) (de_oneT hr.units0 (de_get (room1 hr) (de_var (pv 3)) (de_int)) (de_bl))) (dss_cons (ds_while PassesOwn.never (dt_cmp od_lt (de_var (pv 4)) (de_callB cd_lenG (by rfl) x.n_len (by decide +kernel) (da_cons (de_var (pv 3)) (da_nil))) (nomark _)) (dss_cons (ds_put (room1 hr) (de_fld (de_var (pv 0)) x.cls_Counted x.no_Counted_nexts) (de_get (room1 hr) (de_var (pv 3)) (de_var (pv 4))) (de_meth (de_var (pv 0)) x.cls_Counted x.me_Counted_next_counts o_Counted_next_counts (hr.mono (by decide)) x.b_Counted_next_counts (da_cons (de_get (room1 hr) (de_var (pv 3)) (de_var (pv 4))) (da_nil)) (AL.add1 (al_cons al_nil)))) (dss_cons (ds_for PassesOwn.never rfl (di_lst (de_get (room1 hr) (de_fld (de_var (pv 0)) x.cls_Counted x.no_Counted_nexts) (de_get (room1 hr) (de_var (pv 3)) (de_var (pv 4))))) (dg_tup rfl (dgs_cons (dg_name (i := 6) nd rfl (by first | exact Or.inl rfl | exact Or.inr rfl)) (dgs_cons (dg_name (i := 7) nd rfl (by first | exact Or.inl rfl | exact Or.inr rfl)) (dgs_nil)))) (dss_one (ds_if (dt_cmp (od_notinG (room65 hr)) (de_var (pv 7)) (de_var (pv 5)) rfl) (dss_cons (ds_put (room1 hr) (de_var (pv 5)) (de_var (pv 7)) (de_bl)) (dss_one (ds_expr (de_bm PySem.F.plainAttrs_list PySem.F.slot_list_append PySem.F.type_list_append md_append (de_var (pv 3)) (da_cons (de_var (pv 7)) (da_nil)))))) (dss_nil)))) (dss_cons (ds_if (dt_cmp od_gt (de_callB cd_lenG (by rfl) x.n_len (by decide +kernel) (da_cons (de_var (pv 3)) (da_nil))) (de_gint (by rfl) x.i_MOST_COUNTS) (nomark _)) (dss_one (ds_never)) (dss_nil)) (dss_one (ds_aug (i := 4) nd rfl (by first | exact Or.inl rfl | exact Or.inr rfl) (de_int) id_add)))))) (dss_cons (ds_fld (de_var (pv 0)) (de_new) x.cls_Counted x.no_Counted_many) (dss_one (ds_for PassesOwn.never rfl (di_lst (de_rev (de_var (pv 3)))) (dg_name (i := 8) nd rfl (by first | exact Or.inl rfl | exact Or.inr rfl)) (dss_cons (ds_setLc (own := [("sign", 6), ("later", 7)]) (i := 9) rfl nd rfl rfl (by rfl) (di_lst (de_get (room1 hr) (de_fld (de_var (pv 0)) x.cls_Counted x.no_Counted_nexts) (de_var (pv 8)))) (blkOk_by (own := [("sign", 6), ("later", 7)]) (by kernel_rfl)) (by decide) (fun _ _ _ _ _ => dg_tup rfl (dgs_cons (dg_name (i := 6) nd rfl (by first | exact Or.inl rfl | exact Or.inr rfl)) (dgs_cons (dg_name (i := 7) nd rfl (by first | exact Or.inl rfl | exact Or.inr rfl)) (dgs_nil)))) (fun _ _ _ _ _ => dts_nil) (fun _ _ _ _ _ => de_get (room1 hr) (de_fld (de_var (pv 0)) x.cls_Counted x.no_Counted_many) (de_var (pv 7)))) (dss_one (ds_put (room1 hr) (de_fld (de_var (pv 0)) x.cls_Counted x.no_Counted_many) (de_var (pv 8)) (de_ifExp (dt_cmp (od_eq hr.units) (de_var (pv 8)) (de_fld (de_var (pv 0)) x.cls_Counted x.no_Counted_end) (nomark _)) (de_int) (de_callB (cd_sumG rfl) (by rfl) x.n_sum (by decide +kernel) (da_cons (de_var (pv 9)) (da_nil))))))))))))))))
theorem sc_arrival : FnScope ["alphabet", "row", "number", "counted", "here", "found", "sign", "later"] ["alphabet", "row", "number"] (defScope H63.s_arrival) := ⟨rfl, rfl, rfl, by decide +kernel, rfl, by decide +kernel, by decide +kernel⟩
theorem raw_arrival (o_Counted___init__ : FnD E mg base 4 x.f_Counted___init__ x.d_Counted___init__ ["self", "alphabet", "row"] (sp_Counted___init__ x.c_Left x.c_Counted)) (o_Counted_first : FnD E mg base 1 x.f_Counted_first x.d_Counted_first ["self"] (sp_Counted_first x.c_Counted)) (o_is_index : FnD E mg base 2 x.f_is_index x.d_is_index ["thing"] sp_is_index) : FnD E mg base 6 x.f_arrival x.d_arrival ["alphabet", "row", "number"] (defF 8 (r_arrival x.c_Left x.c_Counted)) := by
  refine fnD_ok x.F_arrival sc_arrival fun cdv A outer s H Ex hr => ?_
  have nd := (sc_arrival).nd
  exact dss_cons (ds_set (i := 3) nd rfl (by first | exact Or.inl rfl | exact Or.inr rfl) (de_make x.mk_Counted o_Counted___init__ (hr.mono (by decide)) (by rfl) x.gc_Counted x.b_Counted___init__ (da_cons (de_var (pv 0)) (da_cons (de_var (pv 1)) (da_nil))) (AL.add1 (al_cons (al_cons al_nil))))) (dss_cons (ds_parOf (ps_par (i := 4) (j := 5) rfl nd rfl rfl (by decide) rfl rfl (da_cons (de_meth0 (de_var (pv 3)) x.cls_Counted x.me_Counted_first o_Counted_first (hr.mono (by decide)) x.b_Counted_first rfl) (da_cons (de_lstC (da_nil)) (da_nil))) (by rfl))) (dss_cons (ds_if (PW.pt (dw_or (dt_not (dt_val (de_call o_is_index (hr.mono (by decide)) (by rfl) x.g_is_index x.F_is_index.kp x.b_is_index (da_cons (de_var (pv 2)) (da_nil)) rfl (al_cons al_nil)))) (dw_or1 (dt_cmp od_ge (de_var (pv 2)) (de_get (room1 hr) (de_fld (de_var (pv 3)) x.cls_Counted x.no_Counted_many) (de_var (pv 4))) (nomark _))))) (dss_one (ds_never)) (dss_nil)) (dss_cons (ds_while PassesOwn.never (dt_cmp (od_ne hr.units) (de_var (pv 4)) (de_fld (de_var (pv 3)) x.cls_Counted x.no_Counted_end) (nomark _)) (dss_cons (ds_for PassesOwn.never rfl (di_lst (de_get (room1 hr) (de_fld (de_var (pv 3)) x.cls_Counted x.no_Counted_nexts) (de_var (pv 4)))) (dg_tup rfl (dgs_cons (dg_name (i := 6) nd rfl (by first | exact Or.inl rfl | exact Or.inr rfl)) (dgs_cons (dg_name (i := 7) nd rfl (by first | exact Or.inl rfl | exact Or.inr rfl)) (dgs_nil)))) (dss_cons (ds_if (dt_cmp od_lt (de_var (pv 2)) (de_get (room1 hr) (de_fld (de_var (pv 3)) x.cls_Counted x.no_Counted_many) (de_var (pv 7))) (nomark _)) (dss_one (ds_break)) (dss_nil)) (dss_one (ds_aug (i := 2) nd rfl (by first | exact Or.inl rfl | exact Or.inr rfl) (de_get (room1 hr) (de_fld (de_var (pv 3)) x.cls_Counted x.no_Counted_many) (de_var (pv 7))) id_sub)))) (dss_cons (ds_expr (de_bm PySem.F.plainAttrs_list PySem.F.slot_list_append PySem.F.type_list_append md_append (de_var (pv 5)) (da_cons (de_var (pv 6)) (da_nil)))) (dss_one (ds_set (i := 4) nd rfl (by first | exact Or.inl rfl | exact Or.inr rfl) (de_var (pv 7))))))) (dss_one (ds_ret (de_callTy cd_tuple (by rfl) x.n_tuple (by decide +kernel) (da_cons (de_var (pv 5)) (da_nil))))))))
theorem sc_number_of : FnScope ["alphabet", "row", "counted", "here", "found", "sign", "one", "later"] ["alphabet", "row"] (defScope H63.s_number_of) := ⟨rfl, rfl, rfl, by decide +kernel, rfl, by decide +kernel, by decide +kernel⟩
theorem raw_number_of (o_Counted___init__ : FnD E mg base 4 x.f_Counted___init__ x.d_Counted___init__ ["self", "alphabet", "row"] (sp_Counted___init__ x.c_Left x.c_Counted)) (o_Counted_first : FnD E mg base 1 x.f_Counted_first x.d_Counted_first ["self"] (sp_Counted_first x.c_Counted)) : FnD E mg base 6 x.f_number_of x.d_number_of ["alphabet", "row"] (defF 8 (r_number_of x.c_Left x.c_Counted)) := by
  refine fnD_ok x.F_number_of sc_number_of fun cdv A outer s H Ex hr => ?_
  have nd := (sc_number_of).nd
  exact dss_cons (ds_set (i := 2) nd rfl (by first | exact Or.inl rfl | exact Or.inr rfl) (de_make x.mk_Counted o_Counted___init__ (hr.mono (by decide)) (by rfl) x.gc_Counted x.b_Counted___init__ (da_cons (de_var (pv 0)) (da_cons (de_var (pv 1)) (da_nil))) (AL.add1 (al_cons (al_cons al_nil))))) (dss_cons (ds_parOf (ps_par (i := 3) (j := 4) rfl nd rfl rfl (by decide) rfl rfl (da_cons (de_meth0 (de_var (pv 2)) x.cls_Counted x.me_Counted_first o_Counted_first (hr.mono (by decide)) x.b_Counted_first rfl) (da_cons (de_int) (da_nil))) (by rfl))) (dss_cons (ds_for PassesOwn.never rfl (di_tup (de_var (pv 1))) (dg_name (i := 5) nd rfl (by first | exact Or.inl rfl | exact Or.inr rfl)) (dss_cons (ds_for PassesOwn.never rfl (di_lst (de_get (room1 hr) (de_fld (de_var (pv 2)) x.cls_Counted x.no_Counted_nexts) (de_var (pv 3)))) (dg_tup rfl (dgs_cons (dg_name (i := 6) nd rfl (by first | exact Or.inl rfl | exact Or.inr rfl)) (dgs_cons (dg_name (i := 7) nd rfl (by first | exact Or.inl rfl | exact Or.inr rfl)) (dgs_nil)))) (dss_cons (ds_if (dt_cmp (od_eq hr.units) (de_var (pv 6)) (de_var (pv 5)) (nomark _)) (dss_one (ds_break)) (dss_nil)) (dss_one (ds_aug (i := 4) nd rfl (by first | exact Or.inl rfl | exact Or.inr rfl) (de_get (room1 hr) (de_fld (de_var (pv 2)) x.cls_Counted x.no_Counted_many) (de_var (pv 7))) id_add)))) (dss_one (ds_set (i := 3) nd rfl (by first | exact Or.inl rfl | exact Or.inr rfl) (de_var (pv 7)))))) (dss_one (ds_ret (de_var (pv 4))))))
theorem sc__law_bag : FnScope ["script", "cell"] ["script"] (defScope H63.s__law_bag) := ⟨rfl, rfl, rfl, by decide +kernel, rfl, by decide +kernel, by decide +kernel⟩
theorem raw__law_bag  : FnD E mg base 1 x.f__law_bag x.d__law_bag ["script"] sp__law_bag := by
  refine fnD_ok x.F__law_bag sc__law_bag fun cdv A outer s H Ex hr => ?_
  have nd := (sc__law_bag).nd
  exact dss_one (ds_ret (de_lstC (da_cons (de_int) (da_cons (de_int) (da_cons (de_int) (da_cons (de_lc (own := [("cell", 1)]) rfl nd (di_lst (de_slice (de_var (pv 0)) (do_none) (do_some (de_int)))) (blkOk_by (own := [("cell", 1)]) (by kernel_rfl)) (by decide) (fun _ _ _ _ _ => dg_name (i := 1) nd rfl (by first | exact Or.inl rfl | exact Or.inr rfl)) (fun _ _ _ _ _ => dts_nil) (fun _ _ _ _ _ => de_callB cd_abs (by rfl) x.n_abs (by decide +kernel) (da_cons (de_var (pv 1)) (da_nil)))) (da_nil)))))))
theorem sc__law_take : FnScope ["bag", "many", "cell", "stirred", "value", "begin", "second"] ["bag", "many"] (defScope H63.s__law_take) := ⟨rfl, rfl, rfl, by decide +kernel, rfl, by decide +kernel, by decide +kernel⟩
theorem raw__law_take  : FnD E mg base 1 x.f__law_take x.d__law_take ["bag", "many"] sp__law_take := by
  refine fnD_ok x.F__law_take sc__law_take fun cdv A outer s H Ex hr => ?_
  have nd := (sc__law_take).nd
  exact dss_cons (ds_if (dt_cmp (od_eq hr.units) (de_get (room1 hr) (de_var (pv 0)) (de_int)) (de_int) (nomark _)) (dss_cons (ds_set (i := 2) nd rfl (by first | exact Or.inl rfl | exact Or.inr rfl) (de_get (room1 hr) (de_op od_add (de_slice (de_get (room1 hr) (de_var (pv 0)) (de_int)) (do_some (de_get (room1 hr) (de_var (pv 0)) (de_int))) (do_none)) (de_lst (da_cons (de_int) (da_nil)))) (de_int))) (dss_cons (ds_augS (room1 hr) (de_var (pv 0)) (de_int) (de_int) id_add) (dss_cons (ds_if (dt_cmp od_ge (de_var (pv 2)) (de_op od_pow (de_int) (de_int)) (nomark _)) (dss_one (ds_put (room1 hr) (de_var (pv 0)) (de_int) (de_var (pv 2)))) (dss_nil)) (dss_cons (ds_set (i := 3) nd rfl (by first | exact Or.inl rfl | exact Or.inr rfl) (de_op od_add (de_op od_add (de_op od_mulG (de_get (room1 hr) (de_var (pv 0)) (de_int)) (de_int)) (de_op od_mod (de_callTy cd_int (by rfl) x.n_int (by decide +kernel) (da_cons (de_var (pv 2)) (da_nil))) (de_int))) (de_op od_mulG (de_int) (de_get (room1 hr) (de_var (pv 0)) (de_int))))) (dss_one (ds_put (room1 hr) (de_var (pv 0)) (de_int) (de_op od_mod (de_callTy cd_int (by rfl) x.n_int (by decide +kernel) (da_cons (de_var (pv 3)) (da_nil))) (de_int)))))))) (dss_nil)) (dss_cons (ds_if (dt_cmp od_gt (de_get (room1 hr) (de_var (pv 0)) (de_int)) (de_int) (nomark _)) (dss_cons (ds_set (i := 4) nd rfl (by first | exact Or.inl rfl | exact Or.inr rfl) (de_op od_mod (de_callTy cd_int (by rfl) x.n_int (by decide +kernel) (da_cons (de_get (room1 hr) (de_var (pv 0)) (de_int)) (da_nil))) (de_var (pv 1)))) (dss_cons (ds_put (room1 hr) (de_var (pv 0)) (de_int) (de_op od_fdiv (de_callTy cd_int (by rfl) x.n_int (by decide +kernel) (da_cons (de_get (room1 hr) (de_var (pv 0)) (de_int)) (da_nil))) (de_var (pv 1)))) (dss_one (ds_ret (de_var (pv 4)))))) (dss_nil)) (dss_cons (ds_set (i := 5) nd rfl (by first | exact Or.inl rfl | exact Or.inr rfl) (de_op od_mod (de_callTy cd_int (by rfl) x.n_int (by decide +kernel) (da_cons (de_op od_mulG (de_op od_add (de_get (room1 hr) (de_var (pv 0)) (de_int)) (de_int)) (de_int)) (da_nil))) (de_int))) (dss_cons (ds_set (i := 6) nd rfl (by first | exact Or.inl rfl | exact Or.inr rfl) (de_op od_mod (de_callTy cd_int (by rfl) x.n_int (by decide +kernel) (da_cons (de_op od_mulG (de_op od_mod (de_callTy cd_int (by rfl) x.n_int (by decide +kernel) (da_cons (de_op od_mulG (de_var (pv 5)) (de_var (pv 5))) (da_nil))) (de_int)) (de_int)) (da_nil))) (de_int))) (dss_one (ds_ret (de_op od_mod (de_callTy cd_int (by rfl) x.n_int (by decide +kernel) (da_cons (de_op od_fdiv (de_var (pv 6)) (de_int)) (da_nil))) (de_var (pv 1))))))))
theorem sc__law_some : FnScope ["bag", "things"] ["bag", "things"] (defScope H63.s__law_some) := ⟨rfl, rfl, rfl, by decide +kernel, rfl, by decide +kernel, by decide +kernel⟩
theorem raw__law_some (o__law_take : FnD E mg base 1 x.f__law_take x.d__law_take ["bag", "many"] sp__law_take) : FnD E mg base 2 x.f__law_some x.d__law_some ["bag", "things"] sp__law_some := by
  refine fnD_ok x.F__law_some sc__law_some fun cdv A outer s H Ex hr => ?_
  have nd := (sc__law_some).nd
  exact dss_one (ds_ret (de_get (room1 hr) (de_var (pv 1)) (de_call o__law_take (hr.mono (by decide)) (by rfl) x.g__law_take x.F__law_take.kp x.b__law_take (da_cons (de_var (pv 0)) (da_cons (de_callB cd_lenG (by rfl) x.n_len (by decide +kernel) (da_cons (de_var (pv 1)) (da_nil))) (da_nil))) rfl (al_cons (al_cons al_nil)))))
theorem sc__law_alphabet : FnScope ["bag", "signs", "couples", "k", "a", "b"] ["bag", "signs"] (defScope H63.s__law_alphabet) := ⟨rfl, rfl, rfl, by decide +kernel, rfl, by decide +kernel, by decide +kernel⟩
theorem raw__law_alphabet (o__law_take : FnD E mg base 1 x.f__law_take x.d__law_take ["bag", "many"] sp__law_take) : FnD E mg base 2 x.f__law_alphabet x.d__law_alphabet ["bag", "signs"] (defF 6 (r__law_alphabet )) := by
  refine fnD_ok x.F__law_alphabet sc__law_alphabet fun cdv A outer s H Ex hr => ?_
  have nd := (sc__law_alphabet).nd
  exact dss_cons (ds_set (i := 2) nd rfl (by first | exact Or.inl rfl | exact Or.inr rfl) (de_lstC (da_nil))) (dss_cons (ds_for PassesOwn.never rfl (di_enumT (by rfl) x.n_enumerate (da_cons (de_var (pv 1)) (da_nil))) (dg_tup rfl (dgs_cons (dg_name (i := 3) nd rfl (by first | exact Or.inl rfl | exact Or.inr rfl)) (dgs_cons (dg_name (i := 4) nd rfl (by first | exact Or.inl rfl | exact Or.inr rfl)) (dgs_nil)))) (dss_one (ds_expr (de_bm PySem.F.plainAttrs_list PySem.F.slot_list_extend PySem.F.type_list_extend md_extend (de_var (pv 2)) (da_cons (de_lc (own := [("b", 5)]) rfl nd (di_tup (de_slice (de_var (pv 1)) (do_some (de_op od_add (de_var (pv 3)) (de_int))) (do_none))) (blkOk_by (own := [("b", 5)]) (by kernel_rfl)) (by decide) (fun _ _ _ _ _ => dg_name (i := 5) nd rfl (by first | exact Or.inl rfl | exact Or.inr rfl)) (fun _ _ _ _ _ => dts_one (dt_cmp od_lt (de_call o__law_take (hr.mono (by decide)) (by rfl) x.g__law_take x.F__law_take.kp x.b__law_take (da_cons (de_var (pv 0)) (da_cons (de_int) (da_nil))) rfl (al_cons (al_cons al_nil))) (de_int) (nomark _))) (fun _ _ _ _ _ => de_tup (da_cons (de_var (pv 4)) (da_cons (de_var (pv 5)) (da_nil))))) (da_nil)))))) (dss_one (ds_ret (de_tup (da_cons (de_callTy cd_tuple (by rfl) x.n_tuple (by decide +kernel) (da_cons (de_var (pv 1)) (da_nil))) (da_cons (de_callTy cd_tuple (by rfl) x.n_tuple (by decide +kernel) (da_cons (de_var (pv 2)) (da_nil))) (da_nil)))))))
theorem sc__law_is_free : FnScope ["alphabet", "a", "b"] ["alphabet", "a", "b"] (defScope H63.s__law_is_free) := ⟨rfl, rfl, rfl, by decide +kernel, rfl, by decide +kernel, by decide +kernel⟩
theorem raw__law_is_free  : FnD E mg base 1 x.f__law_is_free x.d__law_is_free ["alphabet", "a", "b"] sp__law_is_free := by
  refine fnD_ok x.F__law_is_free sc__law_is_free fun cdv A outer s H Ex hr => ?_
  have nd := (sc__law_is_free).nd
  exact dss_one (ds_ret (de_cmp (od_inG (room65 hr)) (de_tup (da_cons (de_callB (cd_min rfl) (by rfl) x.n_min (by decide +kernel) (da_cons (de_var (pv 1)) (da_cons (de_var (pv 2)) (da_nil)))) (da_cons (de_callB (cd_max rfl) (by rfl) x.n_max (by decide +kernel) (da_cons (de_var (pv 1)) (da_cons (de_var (pv 2)) (da_nil)))) (da_nil)))) (de_get (room1 hr) (de_var (pv 0)) (de_int)) rfl))
theorem sc__law_firsts : FnScope ["alphabet", "row", "found", "k", "a", "b"] ["alphabet", "row"] (defScope H63.s__law_firsts) := ⟨rfl, rfl, rfl, by decide +kernel, rfl, by decide +kernel, by decide +kernel⟩
theorem raw__law_firsts (o__law_is_free : FnD E mg base 1 x.f__law_is_free x.d__law_is_free ["alphabet", "a", "b"] sp__law_is_free) : FnD E mg base 2 x.f__law_firsts x.d__law_firsts ["alphabet", "row"] (defF 6 (r__law_firsts )) := by
  refine fnD_ok x.F__law_firsts sc__law_firsts fun cdv A outer s H Ex hr => ?_
  have nd := (sc__law_firsts).nd
  exact dss_cons (ds_set (i := 2) nd rfl (by first | exact Or.inl rfl | exact Or.inr rfl) (de_lstC (da_nil))) (dss_cons (ds_for PassesOwn.never rfl (di_enumT (by rfl) x.n_enumerate (da_cons (de_var (pv 1)) (da_nil))) (dg_tup rfl (dgs_cons (dg_name (i := 3) nd rfl (by first | exact Or.inl rfl | exact Or.inr rfl)) (dgs_cons (dg_name (i := 4) nd rfl (by first | exact Or.inl rfl | exact Or.inr rfl)) (dgs_nil)))) (dss_one (ds_if (PW.pt (dw_and (dt_cmp (od_notinG (room65 hr)) (de_var (pv 4)) (de_var (pv 2)) rfl) (dw_and1 (dt_cmp (od_eq hr.units) (de_lc (own := [("b", 5)]) rfl nd (di_tup (de_slice (de_var (pv 1)) (do_none) (do_some (de_var (pv 3))))) (blkOk_by (own := [("b", 5)]) (by kernel_rfl)) (by decide) (fun _ _ _ _ _ => dg_name (i := 5) nd rfl (by first | exact Or.inl rfl | exact Or.inr rfl)) (fun _ _ _ _ _ => dts_one (dt_not (dt_val (de_call o__law_is_free (hr.mono (by decide)) (by rfl) x.g__law_is_free x.F__law_is_free.kp x.b__law_is_free (da_cons (de_var (pv 0)) (da_cons (de_var (pv 4)) (da_cons (de_var (pv 5)) (da_nil)))) rfl (al_cons (al_cons (al_cons al_nil))))))) (fun _ _ _ _ _ => de_var (pv 5))) (de_lst (da_nil)) (nomark _))))) (dss_one (ds_expr (de_bm PySem.F.plainAttrs_list PySem.F.slot_list_append PySem.F.type_list_append md_append (de_var (pv 2)) (da_cons (de_var (pv 4)) (da_nil))))) (dss_nil)))) (dss_one (ds_ret (de_callB (cd_sorted rfl (room66 hr)) (by rfl) x.n_sorted (by decide +kernel) (da_cons (de_var (pv 2)) (da_nil))))))
theorem sc__law_without : FnScope ["row", "a", "k"] ["row", "a"] (defScope H63.s__law_without) := ⟨rfl, rfl, rfl, by decide +kernel, rfl, by decide +kernel, by decide +kernel⟩
theorem raw__law_without  : FnD E mg base 1 x.f__law_without x.d__law_without ["row", "a"] sp__law_without := by
  refine fnD_ok x.F__law_without sc__law_without fun cdv A outer s H Ex hr => ?_
  have nd := (sc__law_without).nd
  exact dss_cons (ds_set (i := 2) nd rfl (by first | exact Or.inl rfl | exact Or.inr rfl) (de_bm PySem.F.plainAttrs_tuple PySem.F.slot_tuple_index PySem.F.type_tuple_index md_indexT (de_var (pv 0)) (da_cons (de_var (pv 1)) (da_nil)))) (dss_one (ds_ret (de_op od_add (de_slice (de_var (pv 0)) (do_none) (do_some (de_var (pv 2)))) (de_slice (de_var (pv 0)) (do_some (de_op od_add (de_var (pv 2)) (de_int))) (do_none)))))
theorem sc__law_normal : FnScope ["alphabet", "row", "found", "a"] ["alphabet", "row"] (defScope H63.s__law_normal) := ⟨rfl, rfl, rfl, by decide +kernel, rfl, by decide +kernel, by decide +kernel⟩
theorem raw__law_normal (o__law_firsts : FnD E mg base 2 x.f__law_firsts x.d__law_firsts ["alphabet", "row"] sp__law_firsts) (o__law_without : FnD E mg base 1 x.f__law_without x.d__law_without ["row", "a"] sp__law_without) : FnD E mg base 3 x.f__law_normal x.d__law_normal ["alphabet", "row"] sp__law_normal := by
  refine fnD_ok x.F__law_normal sc__law_normal fun cdv A outer s H Ex hr => ?_
  have nd := (sc__law_normal).nd
  exact dss_cons (ds_set (i := 2) nd rfl (by first | exact Or.inl rfl | exact Or.inr rfl) (de_tup (da_nil))) (dss_cons (ds_while PassesOwn.never (dt_cmp (od_ne hr.units) (de_var (pv 1)) (de_tup (da_nil)) (nomark _)) (dss_cons (ds_set (i := 3) nd rfl (by first | exact Or.inl rfl | exact Or.inr rfl) (de_get (room1 hr) (de_call o__law_firsts (hr.mono (by decide)) (by rfl) x.g__law_firsts x.F__law_firsts.kp x.b__law_firsts (da_cons (de_var (pv 0)) (da_cons (de_var (pv 1)) (da_nil))) rfl (al_cons (al_cons al_nil))) (de_int))) (dss_one (ds_parOf (ps_par (i := 2) (j := 1) rfl nd rfl rfl (by decide) rfl rfl (da_cons (de_op od_add (de_var (pv 2)) (de_tup (da_cons (de_var (pv 3)) (da_nil)))) (da_cons (de_call o__law_without (hr.mono (by decide)) (by rfl) x.g__law_without x.F__law_without.kp x.b__law_without (da_cons (de_var (pv 1)) (da_cons (de_var (pv 3)) (da_nil))) rfl (al_cons (al_cons al_nil))) (da_nil))) (by rfl)))))) (dss_one (ds_ret (de_var (pv 2)))))
theorem sc__law_class : FnScope ["alphabet", "row", "most", "found", "line", "here", "k", "other"] ["alphabet", "row", "most"] (defScope H63.s__law_class) := ⟨rfl, rfl, rfl, by decide +kernel, rfl, by decide +kernel, by decide +kernel⟩
theorem raw__law_class (o__law_is_free : FnD E mg base 1 x.f__law_is_free x.d__law_is_free ["alphabet", "a", "b"] sp__law_is_free) : FnD E mg base 2 x.f__law_class x.d__law_class ["alphabet", "row", "most"] (defF 8 (r__law_class )) := by
  refine fnD_ok x.F__law_class sc__law_class fun cdv A outer s H Ex hr => ?_
  have nd := (sc__law_class).nd
  exact dss_cons (ds_parOf (ps_par (i := 3) (j := 4) rfl nd rfl rfl (by decide) rfl rfl (da_cons (de_oneT hr.units0 (de_var (pv 1)) (de_bl)) (da_cons (de_lstC (da_cons (de_var (pv 1)) (da_nil))) (da_nil))) (by rfl))) (dss_cons (ds_while PassesOwn.never (dt_cmp (od_ne hr.units) (de_var (pv 4)) (de_lst (da_nil)) (nomark _)) (dss_cons (ds_set (i := 5) nd rfl (by first | exact Or.inl rfl | exact Or.inr rfl) (de_bm0 PySem.F.plainAttrs_list PySem.F.slot_list_pop PySem.F.type_list_pop md_pop (de_var (pv 4)))) (dss_one (ds_for PassesOwn.never rfl (di_range1 (by rfl) x.n_range (da_cons (de_op od_sub (de_callB cd_lenG (by rfl) x.n_len (by decide +kernel) (da_cons (de_var (pv 5)) (da_nil))) (de_int)) (da_nil))) (dg_name (i := 6) nd rfl (by first | exact Or.inl rfl | exact Or.inr rfl)) (dss_one (ds_if (dt_val (de_call o__law_is_free (hr.mono (by decide)) (by rfl) x.g__law_is_free x.F__law_is_free.kp x.b__law_is_free (da_cons (de_var (pv 0)) (da_cons (de_get (room1 hr) (de_var (pv 5)) (de_var (pv 6))) (da_cons (de_get (room1 hr) (de_var (pv 5)) (de_op od_add (de_var (pv 6)) (de_int))) (da_nil)))) rfl (al_cons (al_cons (al_cons al_nil))))) (dss_cons (ds_set (i := 7) nd rfl (by first | exact Or.inl rfl | exact Or.inr rfl) (de_op od_add (de_op od_add (de_slice (de_var (pv 5)) (do_none) (do_some (de_var (pv 6)))) (de_tup (da_cons (de_get (room1 hr) (de_var (pv 5)) (de_op od_add (de_var (pv 6)) (de_int))) (da_cons (de_get (room1 hr) (de_var (pv 5)) (de_var (pv 6))) (da_nil))))) (de_slice (de_var (pv 5)) (do_some (de_op od_add (de_var (pv 6)) (de_int))) (do_none)))) (dss_one (ds_if (dt_cmp (od_notinG (room65 hr)) (de_var (pv 7)) (de_var (pv 3)) rfl) (dss_cons (ds_if (dt_cmp od_ge (de_callB cd_lenG (by rfl) x.n_len (by decide +kernel) (da_cons (de_var (pv 3)) (da_nil))) (de_var (pv 2)) (nomark _)) (dss_one (ds_ret (de_str))) (dss_nil)) (dss_cons (ds_put (room1 hr) (de_var (pv 3)) (de_var (pv 7)) (de_bl)) (dss_one (ds_expr (de_bm PySem.F.plainAttrs_list PySem.F.slot_list_append PySem.F.type_list_append md_append (de_var (pv 4)) (da_cons (de_var (pv 7)) (da_nil))))))) (dss_nil)))) (dss_nil))))))) (dss_one (ds_ret (de_callB (cd_sorted rfl (room66 hr)) (by rfl) x.n_sorted (by decide +kernel) (da_cons (de_var (pv 3)) (da_nil))))))
theorem sc__law_row : FnScope ["bag", "signs", "most", "k"] ["bag", "signs", "most"] (defScope H63.s__law_row) := ⟨rfl, rfl, rfl, by decide +kernel, rfl, by decide +kernel, by decide +kernel⟩
theorem raw__law_row (o__law_take : FnD E mg base 1 x.f__law_take x.d__law_take ["bag", "many"] sp__law_take) (o__law_some : FnD E mg base 2 x.f__law_some x.d__law_some ["bag", "things"] sp__law_some) : FnD E mg base 3 x.f__law_row x.d__law_row ["bag", "signs", "most"] sp__law_row := by
  refine fnD_ok x.F__law_row sc__law_row fun cdv A outer s H Ex hr => ?_
  have nd := (sc__law_row).nd
  exact dss_one (ds_ret (de_callTy cd_tuple (by rfl) x.n_tuple (by decide +kernel) (da_cons (de_lc (own := [("k", 3)]) rfl nd (di_range1 (by rfl) x.n_range (da_cons (de_call o__law_take (hr.mono (by decide)) (by rfl) x.g__law_take x.F__law_take.kp x.b__law_take (da_cons (de_var (pv 0)) (da_cons (de_op od_add (de_var (pv 2)) (de_int)) (da_nil))) rfl (al_cons (al_cons al_nil))) (da_nil))) (blkOk_by (own := [("k", 3)]) (by kernel_rfl)) (by decide) (fun _ _ _ _ _ => dg_name (i := 3) nd rfl (by first | exact Or.inl rfl | exact Or.inr rfl)) (fun _ _ _ _ _ => dts_nil) (fun _ _ _ _ _ => de_call o__law_some (hr.mono (by decide)) (by rfl) x.g__law_some x.F__law_some.kp x.b__law_some (da_cons (de_var (pv 0)) (da_cons (de_var (pv 1)) (da_nil))) rfl (al_cons (al_cons al_nil)))) (da_nil))))
theorem sc__law_steps : FnScope ["alphabet", "row", "found", "its_round", "a"] ["alphabet", "row"] (defScope H63.s__law_steps) := ⟨rfl, rfl, rfl, by decide +kernel, rfl, by decide +kernel, by decide +kernel⟩
theorem raw__law_steps (o__law_firsts : FnD E mg base 2 x.f__law_firsts x.d__law_firsts ["alphabet", "row"] sp__law_firsts) (o__law_without : FnD E mg base 1 x.f__law_without x.d__law_without ["row", "a"] sp__law_without) : FnD E mg base 3 x.f__law_steps x.d__law_steps ["alphabet", "row"] (defF 5 (r__law_steps )) := by
  refine fnD_ok x.F__law_steps sc__law_steps fun cdv A outer s H Ex hr => ?_
  have nd := (sc__law_steps).nd
  exact dss_cons (ds_set (i := 2) nd rfl (by first | exact Or.inl rfl | exact Or.inr rfl) (de_lstC (da_nil))) (dss_cons (ds_while PassesOwn.never (dt_cmp (od_ne hr.units) (de_var (pv 1)) (de_tup (da_nil)) (nomark _)) (dss_cons (ds_set (i := 3) nd rfl (by first | exact Or.inl rfl | exact Or.inr rfl) (de_call o__law_firsts (hr.mono (by decide)) (by rfl) x.g__law_firsts x.F__law_firsts.kp x.b__law_firsts (da_cons (de_var (pv 0)) (da_cons (de_var (pv 1)) (da_nil))) rfl (al_cons (al_cons al_nil)))) (dss_cons (ds_for PassesOwn.never rfl (di_lst (de_var (pv 3))) (dg_name (i := 4) nd rfl (by first | exact Or.inl rfl | exact Or.inr rfl)) (dss_one (ds_set (i := 1) nd rfl (by first | exact Or.inl rfl | exact Or.inr rfl) (de_call o__law_without (hr.mono (by decide)) (by rfl) x.g__law_without x.F__law_without.kp x.b__law_without (da_cons (de_var (pv 1)) (da_cons (de_var (pv 4)) (da_nil))) rfl (al_cons (al_cons al_nil)))))) (dss_one (ds_expr (de_bm PySem.F.plainAttrs_list PySem.F.slot_list_append PySem.F.type_list_append md_append (de_var (pv 2)) (da_cons (de_callTy cd_tuple (by rfl) x.n_tuple (by decide +kernel) (da_cons (de_var (pv 3)) (da_nil))) (da_nil)))))))) (dss_one (ds_ret (de_var (pv 2)))))
theorem sc__law_is_least : FnScope ["alphabet", "row", "k", "b", "j", "between", "sign"] ["alphabet", "row"] (defScope H63.s__law_is_least) := ⟨rfl, rfl, rfl, by decide +kernel, rfl, by decide +kernel, by decide +kernel⟩
theorem raw__law_is_least (o__law_is_free : FnD E mg base 1 x.f__law_is_free x.d__law_is_free ["alphabet", "a", "b"] sp__law_is_free) : FnD E mg base 2 x.f__law_is_least x.d__law_is_least ["alphabet", "row"] sp__law_is_least := by
  refine fnD_ok x.F__law_is_least sc__law_is_least fun cdv A outer s H Ex hr => ?_
  have nd := (sc__law_is_least).nd
  exact dss_cons (ds_for PassesOwn.never rfl (di_enumT (by rfl) x.n_enumerate (da_cons (de_var (pv 1)) (da_nil))) (dg_tup rfl (dgs_cons (dg_name (i := 2) nd rfl (by first | exact Or.inl rfl | exact Or.inr rfl)) (dgs_cons (dg_name (i := 3) nd rfl (by first | exact Or.inl rfl | exact Or.inr rfl)) (dgs_nil)))) (dss_one (ds_for PassesOwn.never rfl (di_range2 (by rfl) x.n_range (da_cons (de_op od_add (de_var (pv 2)) (de_int)) (da_cons (de_callB cd_lenG (by rfl) x.n_len (by decide +kernel) (da_cons (de_var (pv 1)) (da_nil))) (da_nil)))) (dg_name (i := 4) nd rfl (by first | exact Or.inl rfl | exact Or.inr rfl)) (dss_cons (ds_setLc (own := [("sign", 6)]) (i := 5) rfl nd rfl rfl (by rfl) (di_tup (de_slice (de_var (pv 1)) (do_some (de_var (pv 2))) (do_some (de_var (pv 4))))) (blkOk_by (own := [("sign", 6)]) (by kernel_rfl)) (by decide) (fun _ _ _ _ _ => dg_name (i := 6) nd rfl (by first | exact Or.inl rfl | exact Or.inr rfl)) (fun _ _ _ _ _ => dts_one (dt_not (dt_val (de_call o__law_is_free (hr.mono (by decide)) (by rfl) x.g__law_is_free x.F__law_is_free.kp x.b__law_is_free (da_cons (de_var (pv 0)) (da_cons (de_var (pv 6)) (da_cons (de_get (room1 hr) (de_var (pv 1)) (de_var (pv 4))) (da_nil)))) rfl (al_cons (al_cons (al_cons al_nil))))))) (fun _ _ _ _ _ => de_var (pv 6))) (dss_one (ds_if (PW.pt (dw_and (dt_cmp od_lt (de_get (room1 hr) (de_var (pv 1)) (de_var (pv 4))) (de_var (pv 3)) (nomark _)) (dw_and1 (dt_cmp (od_eq hr.units) (de_var (pv 5)) (de_lst (da_nil)) (nomark _))))) (dss_one (ds_ret (de_bl))) (dss_nil))))))) (dss_one (ds_ret (de_bl)))
theorem sc_law : FnScope ["script", "bag", "lap", "alphabet", "row", "every", "rounds", "by_round", "least", "ranks", "k", "other", "its_round", "ahead", "a", "b"] ["script"] (defScope H63.s_law) := ⟨rfl, rfl, rfl, by decide +kernel, rfl, by decide +kernel, by decide +kernel⟩
theorem raw_law (o__law_bag : FnD E mg base 1 x.f__law_bag x.d__law_bag ["script"] sp__law_bag) (o__law_alphabet : FnD E mg base 2 x.f__law_alphabet x.d__law_alphabet ["bag", "signs"] sp__law_alphabet) (o__law_take : FnD E mg base 1 x.f__law_take x.d__law_take ["bag", "many"] sp__law_take) (o__law_row : FnD E mg base 3 x.f__law_row x.d__law_row ["bag", "signs", "most"] sp__law_row) (o__law_class : FnD E mg base 2 x.f__law_class x.d__law_class ["alphabet", "row", "most"] sp__law_class) (o__law_steps : FnD E mg base 3 x.f__law_steps x.d__law_steps ["alphabet", "row"] sp__law_steps) (o__law_normal : FnD E mg base 3 x.f__law_normal x.d__law_normal ["alphabet", "row"] sp__law_normal) (o_is_normal : FnD E mg base 5 x.f_is_normal x.d_is_normal ["alphabet", "row"] (sp_is_normal x.c_Left)) (o__law_is_least : FnD E mg base 2 x.f__law_is_least x.d__law_is_least ["alphabet", "row"] sp__law_is_least) (o_is_by_steps : FnD E mg base 6 x.f_is_by_steps x.d_is_by_steps ["alphabet", "row"] (sp_is_by_steps x.c_Left)) (o_by_steps : FnD E mg base 5 x.f_by_steps x.d_by_steps ["alphabet", "row"] (sp_by_steps x.c_Left)) (o_number_of : FnD E mg base 6 x.f_number_of x.d_number_of ["alphabet", "row"] (sp_number_of x.c_Left x.c_Counted)) (o_normal : FnD E mg base 4 x.f_normal x.d_normal ["alphabet", "row"] (sp_normal x.c_Left)) (o_arrival : FnD E mg base 6 x.f_arrival x.d_arrival ["alphabet", "row", "number"] (sp_arrival x.c_Left x.c_Counted)) (o_steps_of : FnD E mg base 4 x.f_steps_of x.d_steps_of ["alphabet", "row"] (sp_steps_of x.c_Left)) (o_height : FnD E mg base 5 x.f_height x.d_height ["alphabet", "row"] (sp_height x.c_Left)) (o__law_is_free : FnD E mg base 1 x.f__law_is_free x.d__law_is_free ["alphabet", "a", "b"] sp__law_is_free) : FnD E mg base 7 x.f_law x.d_law ["script"] (sp_law x.c_Left x.c_Counted) := by
  refine fnD_ok x.F_law sc_law fun cdv A outer s H Ex hr => ?_
  have nd := (sc_law).nd
  exact dss_cons (ds_set (i := 1) nd rfl (by first | exact Or.inl rfl | exact Or.inr rfl) (de_call o__law_bag (hr.mono (by decide)) (by rfl) x.g__law_bag x.F__law_bag.kp x.b__law_bag (da_cons (de_var (pv 0)) (da_nil)) rfl (al_cons al_nil))) (dss_cons (ds_for PassesOwn.never rfl (di_range1 (by rfl) x.n_range (da_cons (de_int) (da_nil))) (dg_name (i := 2) nd rfl (by first | exact Or.inl rfl | exact Or.inr rfl)) (dss_cons (ds_set (i := 3) nd rfl (by first | exact Or.inl rfl | exact Or.inr rfl) (de_call o__law_alphabet (hr.mono (by decide)) (by rfl) x.g__law_alphabet x.F__law_alphabet.kp x.b__law_alphabet (da_cons (de_var (pv 1)) (da_cons (de_slice (de_tup (da_cons (de_str) (da_cons (de_str) (da_cons (de_str) (da_cons (de_str) (da_nil)))))) (do_none) (do_some (de_op od_add (de_int) (de_call o__law_take (hr.mono (by decide)) (by rfl) x.g__law_take x.F__law_take.kp x.b__law_take (da_cons (de_var (pv 1)) (da_cons (de_int) (da_nil))) rfl (al_cons (al_cons al_nil)))))) (da_nil))) rfl (al_cons (al_cons al_nil)))) (dss_cons (ds_set (i := 4) nd rfl (by first | exact Or.inl rfl | exact Or.inr rfl) (de_call o__law_row (hr.mono (by decide)) (by rfl) x.g__law_row x.F__law_row.kp x.b__law_row (da_cons (de_var (pv 1)) (da_cons (de_get (room1 hr) (de_var (pv 3)) (de_int)) (da_cons (de_int) (da_nil)))) rfl (al_cons (al_cons (al_cons al_nil))))) (dss_cons (ds_set (i := 5) nd rfl (by first | exact Or.inl rfl | exact Or.inr rfl) (de_call o__law_class (hr.mono (by decide)) (by rfl) x.g__law_class x.F__law_class.kp x.b__law_class (da_cons (de_var (pv 3)) (da_cons (de_var (pv 4)) (da_cons (de_int) (da_nil)))) rfl (al_cons (al_cons (al_cons al_nil))))) (dss_cons (ds_if (dt_cmp (od_eq hr.units) (de_var (pv 5)) (de_str) (nomark _)) (dss_one (ds_ret (de_bl))) (dss_nil)) (dss_cons (ds_set (i := 6) nd rfl (by first | exact Or.inl rfl | exact Or.inr rfl) (de_call o__law_steps (hr.mono (by decide)) (by rfl) x.g__law_steps x.F__law_steps.kp x.b__law_steps (da_cons (de_var (pv 3)) (da_cons (de_var (pv 4)) (da_nil))) rfl (al_cons (al_cons al_nil)))) (dss_cons (ds_set (i := 7) nd rfl (by first | exact Or.inl rfl | exact Or.inr rfl) (de_callTy cd_tuple (by rfl) x.n_tuple (by decide +kernel) (da_cons (de_callB (cd_sumG rfl) (by rfl) x.n_sum (by decide +kernel) (da_cons (de_lc (own := [("its_round", 12)]) rfl nd (di_lst (de_var (pv 6))) (blkOk_by (own := [("its_round", 12)]) (by kernel_rfl)) (by decide) (fun _ _ _ _ _ => dg_name (i := 12) nd rfl (by first | exact Or.inl rfl | exact Or.inr rfl)) (fun _ _ _ _ _ => dts_nil) (fun _ _ _ _ _ => de_callTy cd_list (by rfl) x.n_list (by decide +kernel) (da_cons (de_var (pv 12)) (da_nil)))) (da_cons (de_lst (da_nil)) (da_nil)))) (da_nil)))) (dss_cons (ds_parOf (ps_par (i := 8) (j := 9) rfl nd rfl rfl (by decide) rfl rfl (da_cons (de_call o__law_normal (hr.mono (by decide)) (by rfl) x.g__law_normal x.F__law_normal.kp x.b__law_normal (da_cons (de_var (pv 3)) (da_cons (de_var (pv 4)) (da_nil))) rfl (al_cons (al_cons al_nil))) (da_cons (de_lstC (da_nil)) (da_nil))) (by rfl))) (dss_cons (ds_for PassesOwn.never rfl (di_enum (by rfl) x.n_enumerate (da_cons (de_var (pv 5)) (da_nil))) (dg_tup rfl (dgs_cons (dg_name (i := 10) nd rfl (by first | exact Or.inl rfl | exact Or.inr rfl)) (dgs_cons (dg_name (i := 11) nd rfl (by first | exact Or.inl rfl | exact Or.inr rfl)) (dgs_nil)))) (dss_cons (ds_if (PW.pt (dw_or (dt_cmp (od_ne hr.units) (de_call o_is_normal (hr.mono (by decide)) (by rfl) x.g_is_normal x.F_is_normal.kp x.b_is_normal (da_cons (de_var (pv 3)) (da_cons (de_var (pv 11)) (da_nil))) rfl (al_cons (al_cons al_nil))) (de_cmp (od_eq hr.units) (de_var (pv 11)) (de_var (pv 8)) (nomark _)) (nomark _)) (dw_or1 (dt_cmp (od_ne hr.units) (de_call o__law_is_least (hr.mono (by decide)) (by rfl) x.g__law_is_least x.F__law_is_least.kp x.b__law_is_least (da_cons (de_var (pv 3)) (da_cons (de_var (pv 11)) (da_nil))) rfl (al_cons (al_cons al_nil))) (de_cmp (od_eq hr.units) (de_var (pv 11)) (de_var (pv 8)) (nomark _)) (nomark _))))) (dss_one (ds_ret (de_bl))) (dss_nil)) (dss_cons (ds_if (PW.pt (dw_or (dt_cmp (od_ne hr.units) (de_call o_is_by_steps (hr.mono (by decide)) (by rfl) x.g_is_by_steps x.F_is_by_steps.kp x.b_is_by_steps (da_cons (de_var (pv 3)) (da_cons (de_var (pv 11)) (da_nil))) rfl (al_cons (al_cons al_nil))) (de_cmp (od_eq hr.units) (de_var (pv 11)) (de_var (pv 7)) (nomark _)) (nomark _)) (dw_or1 (dt_cmp (od_ne hr.units) (de_call o_by_steps (hr.mono (by decide)) (by rfl) x.g_by_steps x.F_by_steps.kp x.b_by_steps (da_cons (de_var (pv 3)) (da_cons (de_var (pv 11)) (da_nil))) rfl (al_cons (al_cons al_nil))) (de_var (pv 7)) (nomark _))))) (dss_one (ds_ret (de_bl))) (dss_nil)) (dss_one (ds_expr (de_bm PySem.F.plainAttrs_list PySem.F.slot_list_append PySem.F.type_list_append md_append (de_var (pv 9)) (da_cons (de_call o_number_of (hr.mono (by decide)) (by rfl) x.g_number_of x.F_number_of.kp x.b_number_of (da_cons (de_var (pv 3)) (da_cons (de_var (pv 11)) (da_nil))) rfl (al_cons (al_cons al_nil))) (da_nil)))))))) (dss_cons (ds_if (PW.pt (dw_or (dt_cmp (od_ne hr.units) (de_var (pv 9)) (de_listRg rfl (by rfl) x.n_list (by rfl) x.n_range (de_callB cd_lenG (by rfl) x.n_len (by decide +kernel) (da_cons (de_var (pv 5)) (da_nil)))) (nomark _)) (dw_or (dt_cmp (od_ne hr.units) (de_get (room1 hr) (de_var (pv 5)) (de_int)) (de_var (pv 8)) (nomark _)) (dw_or1 (dt_cmp (od_notinG (room65 hr)) (de_var (pv 7)) (de_var (pv 5)) rfl))))) (dss_one (ds_ret (de_bl))) (dss_nil)) (dss_cons (ds_if (PW.pt (dw_or (dt_cmp (od_ne hr.units) (de_call o_normal (hr.mono (by decide)) (by rfl) x.g_normal x.F_normal.kp x.b_normal (da_cons (de_var (pv 3)) (da_cons (de_var (pv 4)) (da_nil))) rfl (al_cons (al_cons al_nil))) (de_var (pv 8)) (nomark _)) (dw_or1 (dt_cmp (od_ne hr.units) (de_call o_arrival (hr.mono (by decide)) (by rfl) x.g_arrival x.F_arrival.kp x.b_arrival (da_cons (de_var (pv 3)) (da_cons (de_var (pv 4)) (da_cons (de_int) (da_nil)))) rfl (al_cons (al_cons (al_cons al_nil)))) (de_var (pv 8)) (nomark _))))) (dss_one (ds_ret (de_bl))) (dss_nil)) (dss_cons (ds_if (PW.pt (dw_or (dt_cmp (od_ne hr.units) (de_callTy cd_list (by rfl) x.n_list (by decide +kernel) (da_cons (de_call o_steps_of (hr.mono (by decide)) (by rfl) x.g_steps_of x.F_steps_of.kp x.b_steps_of (da_cons (de_var (pv 3)) (da_cons (de_var (pv 4)) (da_nil))) rfl (al_cons (al_cons al_nil))) (da_nil))) (de_var (pv 6)) (nomark _)) (dw_or1 (dt_cmp (od_ne hr.units) (de_call o_height (hr.mono (by decide)) (by rfl) x.g_height x.F_height.kp x.b_height (da_cons (de_var (pv 3)) (da_cons (de_var (pv 4)) (da_nil))) rfl (al_cons (al_cons al_nil))) (de_callB cd_lenG (by rfl) x.n_len (by decide +kernel) (da_cons (de_var (pv 6)) (da_nil))) (nomark _))))) (dss_one (ds_ret (de_bl))) (dss_nil)) (dss_one (ds_for PassesOwn.never rfl (di_enum (by rfl) x.n_enumerate (da_cons (de_var (pv 6)) (da_nil))) (dg_tup rfl (dgs_cons (dg_name (i := 10) nd rfl (by first | exact Or.inl rfl | exact Or.inr rfl)) (dgs_cons (dg_name (i := 12) nd rfl (by first | exact Or.inl rfl | exact Or.inr rfl)) (dgs_nil)))) (dss_cons (ds_set (i := 13) nd rfl (by first | exact Or.inl rfl | exact Or.inr rfl) (de_ifExp (dt_cmp od_gt (de_var (pv 10)) (de_int) (nomark _)) (de_get (room1 hr) (de_var (pv 6)) (de_op od_sub (de_var (pv 10)) (de_int))) (de_tup (da_nil)))) (dss_one (ds_for PassesOwn.never rfl (di_tup (de_var (pv 12))) (dg_name (i := 14) nd rfl (by first | exact Or.inl rfl | exact Or.inr rfl)) (dss_cons (ds_if (dt_cmp (od_ne hr.units) (de_lc (own := [("b", 15)]) rfl nd (di_tup (de_var (pv 12))) (blkOk_by (own := [("b", 15)]) (by kernel_rfl)) (by decide) (fun _ _ _ _ _ => dg_name (i := 15) nd rfl (by first | exact Or.inl rfl | exact Or.inr rfl)) (fun _ _ _ _ _ => dts_one (PW.pt (dw_and (dt_cmp (od_ne hr.units) (de_var (pv 15)) (de_var (pv 14)) (nomark _)) (dw_and1 (dt_not (dt_val (de_call o__law_is_free (hr.mono (by decide)) (by rfl) x.g__law_is_free x.F__law_is_free.kp x.b__law_is_free (da_cons (de_var (pv 3)) (da_cons (de_var (pv 14)) (da_cons (de_var (pv 15)) (da_nil)))) rfl (al_cons (al_cons (al_cons al_nil)))))))))) (fun _ _ _ _ _ => de_var (pv 15))) (de_lst (da_nil)) (nomark _)) (dss_one (ds_ret (de_bl))) (dss_nil)) (dss_one (ds_if (PW.pt (dw_and (dt_cmp od_gt (de_var (pv 10)) (de_int) (nomark _)) (dw_and1 (dt_cmp (od_eq hr.units) (de_lc (own := [("b", 15)]) rfl nd (di_tup (de_var (pv 13))) (blkOk_by (own := [("b", 15)]) (by kernel_rfl)) (by decide) (fun _ _ _ _ _ => dg_name (i := 15) nd rfl (by first | exact Or.inl rfl | exact Or.inr rfl)) (fun _ _ _ _ _ => dts_one (dt_not (dt_val (de_call o__law_is_free (hr.mono (by decide)) (by rfl) x.g__law_is_free x.F__law_is_free.kp x.b__law_is_free (da_cons (de_var (pv 3)) (da_cons (de_var (pv 14)) (da_cons (de_var (pv 15)) (da_nil)))) rfl (al_cons (al_cons (al_cons al_nil))))))) (fun _ _ _ _ _ => de_var (pv 15))) (de_lst (da_nil)) (nomark _))))) (dss_one (ds_ret (de_bl))) (dss_nil))))))))))))))))))))) (dss_one (ds_ret (de_bl))))
end
end W63

set_option Elab.async false
set_option linter.all false
set_option maxRecDepth 100000
set_option maxHeartbeats 1000000
namespace W63
open PySem DD
theorem minmax_ok {a b : Str} (ha : PyData.strOk a = true) (hb : PyData.strOk b = true) : PyData.strOk (minS a b) = true ∧ PyData.strOk (maxS a b) = true := by
  unfold minS maxS
  constructor <;> split <;> assumption
theorem cp_ok {A : Alp} (G : Good A) : ∀ p ∈ A.cp, PyData.strOk p.1 = true ∧ PyData.strOk p.2 = true := fun p hp => ⟨G.ok _ (G.cp p hp).2.1, G.ok _ (G.cp p hp).2.2⟩
theorem Good.oks {A : Alp} (G : Good A) {w : List Str} (hw : ∀ a ∈ w, a ∈ A.sg) : Oks w := fun a ha => G.ok a (hw a ha)
theorem dal0 {A : Alp} {h : Hea} : getIx (dAl A) (.int 0) h = some (dRow A.sg) := by simp [dAl]
theorem dal1 {A : Alp} {h : Hea} : getIx (dAl A) (.int 1) h = some (.tup (A.cp.map dPr)) := by simp [dAl]
theorem l_is_free {A : Alp} (G : Good A) {a b : Str} {h : Hea} (ha : PyData.strOk a = true) (hb : PyData.strOk b = true) : sp__law_is_free [dAl A, .str a, .str b] h = .ok (.bl (free A a b)) h := by
  obtain ⟨m1, m2⟩ := minmax_ok ha hb
  have e : inG (.tup [.str (minS a b), .str (maxS a b)]) (.tup (A.cp.map dPr)) h = some (.bl (free A a b)) := by
    rw [in_gen (ys := A.cp.map dPr) rfl rfl (okE_pr (p := (minS a b, maxS a b)) m1 m2) (fun y hy => by
      obtain ⟨p, hp, rfl⟩ := List.mem_map.mp hy
      exact okE_pr (cp_ok G p hp).1 (cp_ok G p hp).2)]
    simp only [vw_tup]
    unfold free
    congr 2
    exact decide_eq_decide.mpr (mem_prs (p := (minS a b, maxS a b)))
  unfold sp__law_is_free defF r__law_is_free
  simp [dal1, e]
theorem l_without {w : List Str} {a : Str} {h : Hea} (ha : a ∈ w) (hz : w.length ≤ 1000) : sp__law_without [dRow w, .str a] h = .ok (dRow (w.erase a)) h := by
  have e : addD (.tup (cutD (w.map D.str) none (some (w.idxOf a : Nat)))) (.tup (cutD (w.map D.str) (some ((w.idxOf a : Nat) + 1 : Int)) none)) h = some (dRow (w.erase a)) := by
    have e1 : ((w.idxOf a : Nat) + 1 : Int) = ((w.idxOf a + 1 : Nat) : Int) := by omega
    rw [e1, cut_to, cut_from, add_tup (by simp; omega)]
    rw [← List.map_take, ← List.map_drop, ← List.map_append, take_erase ha]
  unfold sp__law_without defF r__law_without
  simp [index_str ha, e]
/-! ### the law's first signs -/
def fo (A : Alp) : List Str → List Str → List Str → List Str
  | _, found, [] => found
  | pre, found, a :: r => fo A (pre ++ [a]) (if a ∉ found ∧ (pre.all fun b => free A a b) = true then found ++ [a] else found) r
theorem l_c0 {A : Alp} (G : Good A) {h : Hea} {a : Str} {pre r : List Str} {x2 x5 : Option D} (ha : PyData.strOk a = true) (hp : ∀ b ∈ pre, b ∈ A.sg) (hl : pre.length ≤ 1000) :
    c0__law_firsts [some (dAl A), some (dRow (pre ++ r)), x2, some (.int (pre.length : Nat)), some (.str a), x5] h = .ok (.lst ((pre.filter fun b => !free A a b).map D.str)) h := by
  have cut : cutD ((pre ++ r).map D.str) none (some (pre.length : Nat)) = pre.map D.str := by
    rw [cut_to]; simp
  have lc : lcL (gN 5) (fNot (asB (fCall sp__law_is_free (aCons (fVar 0) (aCons (fVar 4) (aCons (fVar 5) aNil)))))) (fVar 5) [5] [some (dAl A), some (dRow (pre ++ r)), x2, some (.int (pre.length : Nat)), some (.str a), x5] (pre.map D.str) h = .ok (((pre.map D.str).filter fun d => match d with
      | .str b => !free A a b
      | _ => false).map id) h := by
    refine lcL_pure _ id fun x hx => ?_
    obtain ⟨b, hb, rfl⟩ := List.mem_map.mp hx
    refine ⟨_, rfl, ?_, fun _ => ?_⟩
    · simp [wipeE, l_is_free G ha (G.ok b (hp b hb))]
    · simp [wipeE]
  have e : ((pre.map D.str).filter fun d => match d with
      | .str b => !free A a b
      | _ => false).map id = (pre.filter fun b => !free A a b).map D.str := by
    rw [List.map_id, List.filter_map]; rfl
  unfold c0__law_firsts
  have hz : ((pre.filter fun b => !free A a b).map D.str).length ≤ sizeLine := by
    rw [List.length_map]
    exact Nat.le_trans (List.length_filter_le _ _) (Nat.le_trans hl (by rw [sizeLine_eq]; decide))
  simp only [ev_lc, ev_seq, ev_slice, ev_var, ev_oN, ev_oS, List.getElem?_cons_succ, List.getElem?_cons_zero, jn, R.of_some, R.bind_ok, sld_tup, cut, ti_tup, lc, e]
  exact lcEnd_ok hz
theorem l_firsts_loop {A : Alp} (G : Good A) (h : Hea) : ∀ (rest pre found : List Str) (x3 x4 x5 : Option D), (∀ a ∈ pre, a ∈ A.sg) → (∀ a ∈ rest, a ∈ A.sg) → (∀ a ∈ found, a ∈ A.sg) → found.length + rest.length ≤ 1000 → pre.length + rest.length ≤ 1000 →
    ∃ e', forL g1__law_firsts b2__law_firsts (enF pre.length (rest.map D.str)) [some (dAl A), some (dRow (pre ++ rest)), some (.ref h.length), x3, x4, x5] (h ++ [.lst (found.map D.str)]) = .nx e' (h ++ [.lst ((fo A pre found rest).map D.str)]) ∧ e'[2]? = some (some (.ref h.length))
  | [], pre, found, x3, x4, x5, _, _, _, _, _ => ⟨_, rfl, rfl⟩
  | a :: r, pre, found, x3, x4, x5, hp, hr, hf, hl, hl2 => by
    have ha := hr a List.mem_cons_self
    have hc : (h ++ [Cell.lst (found.map D.str)])[h.length]? = some (.lst (found.map D.str)) := by simp
    have e1 : notInG (.str a) (.ref h.length) (h ++ [Cell.lst (found.map D.str)]) = some (.bl (!decide (a ∈ found))) := by
      rw [notin_gen (dn_cell hc) (sq_cell hc) (by simpa using G.ok a ha) (fun y hy => by
        obtain ⟨b, hb, rfl⟩ := List.mem_map.mp hy
        exact G.ok b (hf b hb))]
      simp only [vw_str]
      congr 3
      exact decide_eq_decide.mpr mem_strs
    have e2 := l_c0 (r := a :: r) (x2 := some (.ref h.length)) (x5 := x5) (h := h ++ [Cell.lst (found.map D.str)]) G (G.ok a ha) hp (by omega)
    have e3 : eqD (.lst ((pre.filter fun b => !free A a b).map D.str)) (.lst []) (h ++ [Cell.lst (found.map D.str)]) = some (.bl (pre.all fun b => free A a b)) := by
      rw [eq_gen (by
        simp only [vw_lst, okE, List.all_eq_true, List.mem_map]
        rintro _ ⟨b, hb, rfl⟩
        exact G.ok b (hp b (List.mem_filter.mp hb).1)) (by simp [okE])]
      simp only [vw_lst]
      congr 2
      rw [Bool.eq_iff_iff]
      simp [List.filter_eq_nil_iff]
    have ih : ∀ (found' : List Str) (x5' : Option D), (∀ b ∈ found', b ∈ A.sg) → found'.length + r.length ≤ 1000 → _ := fun found' x5' h1 h2 => l_firsts_loop G h r (pre ++ [a]) found' (some (.int (pre.length : Nat))) (some (.str a)) x5' (fun b hb => by
      rcases List.mem_append.mp hb with q | q
      · exact hp b q
      · rw [List.mem_singleton.mp q]; exact ha) (fun b hb => hr b (List.mem_cons_of_mem _ hb)) h1 h2 (by simp at hl2 ⊢; omega)
    have el : (pre ++ [a]).length = pre.length + 1 := by simp
    have ea : pre ++ [a] ++ r = pre ++ a :: r := by simp
    simp only [el, ea] at ih
    simp only [List.map_cons, enF]
    unfold forL
    have tg : g1__law_firsts (.pr [.int (pre.length : Nat), .str a]) [some (dAl A), some (dRow (pre ++ a :: r)), some (.ref h.length), x3, x4, x5] (h ++ [Cell.lst (found.map D.str)]) = .nx [some (dAl A), some (dRow (pre ++ a :: r)), some (.ref h.length), some (.int (pre.length : Nat)), some (.str a), x5] (h ++ [Cell.lst (found.map D.str)]) := by
      unfold g1__law_firsts; simp
    rw [tg]
    simp only
    have bd : b2__law_firsts [some (dAl A), some (dRow (pre ++ a :: r)), some (.ref h.length), some (.int (pre.length : Nat)), some (.str a), x5] (h ++ [Cell.lst (found.map D.str)]) = .nx [some (dAl A), some (dRow (pre ++ a :: r)), some (.ref h.length), some (.int (pre.length : Nat)), some (.str a), x5] (h ++ [Cell.lst ((if a ∉ found ∧ (pre.all fun b => free A a b) = true then found ++ [a] else found).map D.str)]) := by
      unfold b2__law_firsts
      by_cases q1 : a ∈ found
      · simp [e1, q1]
      · cases q2 : pre.all fun b => free A a b with
        | false => simp [e1, q1, e2, e3, q2]
        | true =>
          have ap := append_cell (h := h) (xs := found.map D.str) (g := []) (x := .str a) (by simp; omega)
          simp [e1, q1, e2, e3, q2, ty_cell hc, ap]
    rw [bd]
    simp only [fo]
    refine ih _ x5 (fun b hb => ?_) ?_
    · split at hb
      · rcases List.mem_append.mp hb with q | q
        · exact hf b q
        · rw [List.mem_singleton.mp q]; exact ha
      · exact hf b hb
    · split
      · simp at hl ⊢; omega
      · simp at hl ⊢; omega
theorem fst_snoc {dep : Str → Str → Bool} {c a : Str} : ∀ {u : List Str}, Tr.fst dep (u ++ [c]) a = true ↔ Tr.fst dep u a = true ∨ (a ∉ u ∧ (∀ b ∈ u, dep b a = false) ∧ c = a)
  | [] => by
    simp only [List.nil_append, Tr.fst]
    by_cases h : c = a <;> simp [h]
  | b :: u => by
    simp only [List.cons_append, Tr.fst]
    by_cases hb : b = a
    · simp [hb]
    · simp only [hb, if_false, Bool.and_eq_true, fst_snoc (u := u), Bool.not_eq_true', List.mem_cons, not_or, forall_eq_or_imp]
      constructor
      · rintro ⟨h1, h2 | ⟨h2, h3, h4⟩⟩
        · exact .inl ⟨h1, h2⟩
        · exact .inr ⟨⟨fun e => hb e.symm, h2⟩, ⟨h1, h3⟩, h4⟩
      · rintro (⟨h1, h2⟩ | ⟨⟨_, h2⟩, ⟨h1, h3⟩, h4⟩)
        · exact ⟨h1, .inl h2⟩
        · exact ⟨h1, .inr ⟨h2, h3, h4⟩⟩
theorem fo_spec {A : Alp} (G : Good A) : ∀ (rest pre found : List Str), found.Nodup → (∀ a, a ∈ found ↔ Tr.fst (dp A) pre a = true) → (fo A pre found rest).Nodup ∧ ∀ a, a ∈ fo A pre found rest ↔ Tr.fst (dp A) (pre ++ rest) a = true
  | [], pre, found, h1, h2 => by simpa [fo] using ⟨h1, h2⟩
  | c :: r, pre, found, h1, h2 => by
    have D := dp_dep G
    have hd : ∀ b, dp A b c = false ↔ free A c b = true := fun b => by rw [D.s]; unfold dp; simp
    have key := fo_spec G r (pre ++ [c]) (if c ∉ found ∧ (pre.all fun b => free A c b) = true then found ++ [c] else found)
    have ea : pre ++ [c] ++ r = pre ++ c :: r := by simp
    rw [ea] at key
    unfold fo
    refine key ?_ fun a => ?_
    · split
      · rename_i q
        rw [List.nodup_append]
        exact ⟨h1, by simp, fun x hx y hy => by rw [List.mem_singleton.mp hy]; exact fun e => q.1 (by rw [← e]; exact hx)⟩
      · exact h1
    · rw [fst_snoc]
      have hall : (pre.all fun b => free A c b) = true ↔ ∀ b ∈ pre, dp A b c = false := by
        rw [List.all_eq_true]
        exact ⟨fun h b hb => (hd b).mpr (h b hb), fun h b hb => (hd b).mp (h b hb)⟩
      split
      · rename_i q
        rw [List.mem_append, List.mem_singleton, h2]
        constructor
        · rintro (h | h)
          · exact .inl h
          · subst h
            refine .inr ⟨fun hm => ?_, hall.mp q.2, rfl⟩
            have := hall.mp q.2 a hm
            rw [D.r] at this; cases this
        · rintro (h | h)
          · exact .inl h
          · exact .inr h.2.2.symm
      · rename_i q
        rw [h2]
        constructor
        · exact .inl
        · rintro (h | ⟨h3, h4, h5⟩)
          · exact h
          · subst h5
            refine absurd ⟨fun hm => ?_, hall.mpr h4⟩ q
            exact h3 (Tr.fst_mem ((h2 c).mp hm))
theorem fo_perm {A : Alp} (G : Good A) {w : List Str} (hw : ∀ a ∈ w, a ∈ A.sg) : (Tr.firsts (dp A) A.sg w).Perm (fo A [] [] w) := by
  obtain ⟨h1, h2⟩ := fo_spec G w [] [] List.nodup_nil (by simp [Tr.fst])
  refine (List.perm_ext_iff_of_nodup (Tr.firsts_nd (nd_of G.pw) w) h1).mpr fun a => ?_
  rw [h2, Tr.mem_firsts, List.nil_append]
  exact ⟨fun h => h.2, fun h => ⟨hw a (Tr.fst_mem h), h⟩⟩
theorem l_firsts {A : Alp} (G : Good A) {w : List Str} (W : GoodW A w) {h : Hea} : sp__law_firsts [dAl A, dRow w] h = .ok (.lst ((Tr.firsts (dp A) A.sg w).map D.str)) h := by
  obtain ⟨e', e1, e2⟩ := l_firsts_loop G h w [] [] none none none (by simp) W.sub (by simp) (by simpa using W.sz) (by simpa using W.sz)
  have hc : (h ++ [Cell.lst ((fo A [] [] w).map D.str)])[h.length]? = some (.lst ((fo A [] [] w).map D.str)) := by simp
  have p := fo_perm G W.sub
  have hok : Oks (fo A [] [] w) := fun a ha => G.ok a (Tr.mem_firsts.mp (p.mem_iff.mpr ha)).1
  have es : sortedN [.ref h.length] (h ++ [Cell.lst ((fo A [] [] w).map D.str)]) = some (.lst ((Tr.firsts (dp A) A.sg w).map D.str)) := by
    simp only [sortedN, sortOf, dn_cell hc, lk_cell hc]
    rw [if_pos (sortB_strs hok), perm_sorted (Tr.firsts_pw G.pw w) p]
  have ee : e'[2]? = some (some (D.ref h.length)) := e2
  simp only [List.length_nil, List.map_nil, List.nil_append] at e1
  refine dropAll_of (g := [Cell.lst ((fo A [] [] w).map D.str)]) ?_ (show cls h.length (_ : List D) from cls_map (f := D.str) (fun _ => trivial) _)
  unfold defF r__law_firsts
  simp [enumL_eq, e1, ee, es]
end W63

set_option Elab.async false
set_option linter.all false
set_option maxRecDepth 100000
set_option maxHeartbeats 1000000
namespace W63
open PySem DD
theorem GoodW.erase {A : Alp} {w : List Str} {a : Str} (W : GoodW A w) : GoodW A (w.erase a) := ⟨Tr.erase_sub W.sub, Nat.le_trans List.length_erase_le W.sz⟩
theorem oks_of {A : Alp} (G : Good A) {w : List Str} (W : GoodW A w) : Oks w := fun a ha => G.ok a (W.sub a ha)
/-- row != () -/
theorem ne_nil {A : Alp} (G : Good A) {w : List Str} (W : GoodW A w) {h : Hea} : neD (dRow w) (.tup []) h = some (.bl (!decide (w = []))) := ne_row (v := []) (oks_of G W) (fun _ h => nomatch h)
theorem l_lnormal_loop {A : Alp} (G : Good A) (h : Hea) : ∀ (n : Nat) (w u : List Str) (x3 : Option D), w.length = n → GoodW A w → u.length + w.length ≤ 2000 → ∃ e', whileW t0__law_normal b1__law_normal [some (dAl A), some (dRow w), some (dRow u), x3] h = .nx e' h ∧ e'[2]? = some (some (dRow (u ++ Tr.nf (dp A) A.sg w)))
  | 0, w, u, x3, hn, W, _ => by
    have : w = [] := List.eq_nil_of_length_eq_zero hn
    subst this
    rw [whileW_eq]
    have t : t0__law_normal [some (dAl A), some (dRow []), some (dRow u), x3] h = .ok false h := by
      unfold t0__law_normal
      have q : neD (dRow []) (.tup []) h = some (.bl false) := by rw [ne_nil G W]; rfl
      simp only [List.map_nil, dRow] at q ⊢
      simp [q]
    rw [t]
    exact ⟨_, rfl, by simp [Tr.nf_nil]⟩
  | n + 1, w, u, x3, hn, W, hl => by
    have hne : w ≠ [] := fun e => by subst e; simp at hn
    rw [whileW_eq]
    have t : t0__law_normal [some (dAl A), some (dRow w), some (dRow u), x3] h = .ok true h := by
      unfold t0__law_normal
      simp [ne_nil G W, hne]
    rw [t]
    cases e : Tr.firsts (dp A) A.sg w with
    | nil => exact absurd ((Tr.firsts_nil W.sub).mp e) hne
    | cons a f =>
      have fa := (Tr.mem_firsts.mp (by rw [e]; exact List.mem_cons_self : a ∈ Tr.firsts (dp A) A.sg w)).2
      have hm := Tr.fst_mem fa
      have hn' := Tr.len_erase hm hn
      have b : b1__law_normal [some (dAl A), some (dRow w), some (dRow u), x3] h = .nx [some (dAl A), some (dRow (w.erase a)), some (dRow (u ++ [a])), some (.str a)] h := by
        unfold b1__law_normal
        have ad : addD (dRow u) (.tup [.str a]) h = some (dRow (u ++ [a])) := by
          rw [add_tup (by simp; omega)]
          simp
        simp [l_firsts G W, e, ad, l_without hm W.sz]
      simp only [R.toS_ok, if_true]
      rw [b]
      simp only
      obtain ⟨e', h1, h2⟩ := l_lnormal_loop G h n (w.erase a) (u ++ [a]) (some (.str a)) hn' (GoodW.erase W) (by simp; omega)
      refine ⟨e', h1, ?_⟩
      rw [h2, Tr.nf_cons e]
      simp
theorem l_lnormal {A : Alp} (G : Good A) {w : List Str} (W : GoodW A w) {h : Hea} : sp__law_normal [dAl A, dRow w] h = .ok (dRow (Tr.nf (dp A) A.sg w)) h := by
  obtain ⟨e', h1, h2⟩ := l_lnormal_loop G h _ w [] none rfl W (by have := W.sz; simp; omega)
  unfold sp__law_normal defF r__law_normal
  simp only [dRow, List.map_nil, List.nil_append] at h1 h2
  simp [h1, h2]
/-! ### steps -/
theorem l_fold {A : Alp} (h : Hea) (x2 x3 : Option D) : ∀ (f w : List Str) (x4 : Option D), w.length ≤ 1000 → (∀ (g : List Str) (a : Str) (r : List Str), f = g ++ a :: r → a ∈ g.foldl List.erase w) → ∃ x4', forL g0__law_steps b1__law_steps (f.map D.str) [some (dAl A), some (dRow w), x2, x3, x4] h = .nx [some (dAl A), some (dRow (f.foldl List.erase w)), x2, x3, x4'] h
  | [], w, x4, _, _ => ⟨x4, rfl⟩
  | a :: f, w, x4, hl, hm => by
    have ha : a ∈ w := hm [] a f rfl
    have t : g0__law_steps (.str a) [some (dAl A), some (dRow w), x2, x3, x4] h = .nx [some (dAl A), some (dRow w), x2, x3, some (.str a)] h := by unfold g0__law_steps; simp
    have b : b1__law_steps [some (dAl A), some (dRow w), x2, x3, some (.str a)] h = .nx [some (dAl A), some (dRow (w.erase a)), x2, x3, some (.str a)] h := by
      unfold b1__law_steps
      simp [l_without ha hl]
    obtain ⟨x4', ih⟩ := l_fold h x2 x3 f (w.erase a) (some (.str a)) (Nat.le_trans List.length_erase_le hl) fun g c r e => hm (a :: g) c r (by rw [e]; rfl)
    refine ⟨x4', ?_⟩
    simp only [List.map_cons]
    unfold forL
    rw [t]
    simp only
    rw [b]
    exact ih
theorem mem_fold {dep : Str → Str → Bool} : ∀ (g : List Str) {w : List Str} {a : Str}, a ∉ g → Tr.fst dep w a = true → Tr.fst dep (g.foldl List.erase w) a = true
  | [], w, a, _, h => h
  | b :: g, w, a, hm, h => mem_fold g (fun q => hm (List.mem_cons_of_mem _ q)) (Tr.fst_erase (fun e => hm (by rw [e]; exact List.mem_cons_self)) h)
theorem fold_ok {A : Alp} (G : Good A) {w : List Str} : ∀ (g : List Str) (a : Str) (r : List Str), Tr.firsts (dp A) A.sg w = g ++ a :: r → a ∈ g.foldl List.erase w := fun g a r e => by
  have nd := Tr.firsts_nd (dep := dp A) (nd_of G.pw) w
  have fa := (Tr.mem_firsts.mp (by rw [e]; simp : a ∈ Tr.firsts (dp A) A.sg w)).2
  rw [e, List.nodup_append] at nd
  exact Tr.fst_mem (mem_fold g (fun q => nd.2.2 a q a List.mem_cons_self rfl) fa)
theorem GoodW.fold {A : Alp} {w : List Str} (f : List Str) (W : GoodW A w) : GoodW A (f.foldl List.erase w) := by
  induction f generalizing w with
  | nil => exact W
  | cons a f ih => exact ih (GoodW.erase W)
theorem okE_rows {n : Nat} {l : List (List Str)} (h : ∀ w ∈ l, Oks w) : ∀ y ∈ l.map dRow, okE (n + 2) y = true := fun y hy => by
  obtain ⟨w, hw, rfl⟩ := List.mem_map.mp hy
  exact okE_row (h w hw)
theorem l_lsteps_loop {A : Alp} (G : Good A) (h : Hea) : ∀ (n : Nat) (w : List Str) (u : List (List Str)) (x3 x4 : Option D), w.length ≤ n → GoodW A w → u.length + w.length ≤ 2000 →
    ∃ e', whileW t2__law_steps b3__law_steps [some (dAl A), some (dRow w), some (.ref h.length), x3, x4] (h ++ [.lst (u.map dRow)]) = .nx e' (h ++ [.lst ((u ++ Tr.steps (dp A) A.sg w).map dRow)]) ∧ e'[2]? = some (some (.ref h.length)) := by
  intro n
  induction n with
  | zero =>
    intro w u x3 x4 hn W _
    have : w = [] := List.eq_nil_of_length_eq_zero (by omega)
    subst this
    rw [whileW_eq]
    have t : t2__law_steps [some (dAl A), some (dRow []), some (.ref h.length), x3, x4] (h ++ [.lst (u.map dRow)]) = .ok false (h ++ [.lst (u.map dRow)]) := by
      unfold t2__law_steps
      have q : neD (dRow []) (.tup []) (h ++ [.lst (u.map dRow)]) = some (.bl false) := by rw [ne_nil G W]; rfl
      simp only [List.map_nil, dRow] at q ⊢
      simp [q]
    rw [t]
    exact ⟨_, by rw [Tr.steps_end ((Tr.firsts_nil W.sub).mpr rfl), List.append_nil]; rfl, rfl⟩
  | succ n ih =>
    intro w u x3 x4 hn W hl
    by_cases hne : w = []
    · subst hne
      rw [whileW_eq]
      have t : t2__law_steps [some (dAl A), some (dRow []), some (.ref h.length), x3, x4] (h ++ [.lst (u.map dRow)]) = .ok false (h ++ [.lst (u.map dRow)]) := by
        unfold t2__law_steps
        have q : neD (dRow []) (.tup []) (h ++ [.lst (u.map dRow)]) = some (.bl false) := by rw [ne_nil G W]; rfl
        simp only [List.map_nil, dRow] at q ⊢
        simp [q]
      rw [t]
      exact ⟨_, by rw [Tr.steps_end ((Tr.firsts_nil W.sub).mpr rfl), List.append_nil]; rfl, rfl⟩
    · rw [whileW_eq]
      have t : t2__law_steps [some (dAl A), some (dRow w), some (.ref h.length), x3, x4] (h ++ [.lst (u.map dRow)]) = .ok true (h ++ [.lst (u.map dRow)]) := by
        unfold t2__law_steps
        simp [ne_nil G W, hne]
      rw [t]
      cases e : Tr.firsts (dp A) A.sg w with
      | nil => exact absurd ((Tr.firsts_nil W.sub).mp e) hne
      | cons a f =>
        have ff : ∀ b ∈ a :: f, Tr.fst (dp A) w b = true := fun b hb => (Tr.mem_firsts.mp (by rw [e]; exact hb)).2
        have nd : (a :: f).Nodup := by rw [← e]; exact Tr.firsts_nd (nd_of G.pw) w
        have hlen := (Tr.fold_front (dp_dep G) (a :: f) w nd ff).2
        obtain ⟨x4', hf⟩ := l_fold (A := A) (h ++ [.lst (u.map dRow)]) (some (.ref h.length)) (some (.lst ((a :: f).map D.str))) (a :: f) w x4 W.sz (by rw [← e]; exact fold_ok G)
        have hc : (h ++ [Cell.lst (u.map dRow)])[h.length]? = some (.lst (u.map dRow)) := by simp
        have ap := append_cell (h := h) (xs := u.map dRow) (g := []) (x := dRow (a :: f)) (by simp; omega)
        have b : b3__law_steps [some (dAl A), some (dRow w), some (.ref h.length), x3, x4] (h ++ [.lst (u.map dRow)]) = .nx [some (dAl A), some (dRow ((a :: f).foldl List.erase w)), some (.ref h.length), some (.lst ((a :: f).map D.str)), x4'] (h ++ [.lst ((u ++ [a :: f]).map dRow)]) := by
          unfold b3__law_steps
          have ap2 : mAppend (.ref h.length) [.tup (D.str a :: f.map D.str)] (h ++ [Cell.lst (u.map dRow)]) = some (.non, h ++ [.lst ((u ++ [a :: f]).map dRow)]) := by
            rw [show D.tup (D.str a :: f.map D.str) = dRow (a :: f) from rfl, ap]
            simp
          simp only [List.map_cons] at hf
          simp [l_firsts G W, e, hf, ty_cell hc, ap2, tupleN]
        simp only [R.toS_ok, if_true]
        rw [b]
        simp only
        obtain ⟨e', h1, h2⟩ := ih ((a :: f).foldl List.erase w) (u ++ [a :: f]) (some (.lst ((a :: f).map D.str))) x4' (by simp at hlen ⊢; omega) (GoodW.fold _ W) (by simp at hlen ⊢; omega)
        refine ⟨e', ?_, h2⟩
        rw [h1, Tr.steps_rec (dp_dep G) (nd_of G.pw) e]
        simp
theorem l_lsteps {A : Alp} (G : Good A) {w : List Str} (W : GoodW A w) {h : Hea} : sp__law_steps [dAl A, dRow w] h = .ok (.lst ((Tr.steps (dp A) A.sg w).map dRow)) h := by
  obtain ⟨e', h1, h2⟩ := l_lsteps_loop G h _ w [] none none (Nat.le_refl _) W (by have := W.sz; simp; omega)
  simp only [List.map_nil, List.nil_append] at h1
  refine closeL_of (g := [Cell.lst ((Tr.steps (dp A) A.sg w).map dRow)]) (k := h.length) ?_ (by simp) (Nat.le_refl _) (cls_map (f := dRow) (fun a => cls_map (f := D.str) (fun _ => trivial) a) _)
  unfold defF r__law_steps
  simp [h1, h2]
end W63

set_option Elab.async false
set_option linter.all false
set_option maxRecDepth 100000
set_option maxHeartbeats 1000000
namespace W63
open PySem DD
theorem lcL_map {α : Type} {fg : D → FS} {ft : En → Hea → R Bool} {fe : En → Hea → R D} {vs : List Nat} {e0 : En} {h : Hea} (xf : α → D) (t : α → Bool) (f : α → D) : ∀ {l : List α}, (∀ a ∈ l, ∃ e1, fg (xf a) (wipeE e0 vs) h = .nx e1 h ∧ ft e1 h = .ok (t a) h ∧ (t a = true → fe e1 h = .ok (f a) h)) → lcL fg ft fe vs e0 (l.map xf) h = .ok ((l.filter t).map f) h
  | [], _ => rfl
  | x :: xs, hx => by
    obtain ⟨e1, a, b, c⟩ := hx x List.mem_cons_self
    have ih := lcL_map (fg := fg) (ft := ft) (fe := fe) (vs := vs) (e0 := e0) (h := h) xf t f (l := xs) fun y hy => hx y (List.mem_cons_of_mem _ hy)
    rw [List.map_cons]
    unfold lcL
    rw [a]
    simp only [b, R.nox_ok, R.bind_ok]
    cases q : t x with
    | true => simp only [if_true, c q, R.nox_ok, R.bind_ok, ih, List.filter_cons, q, List.map_cons]
    | false => simp only [Bool.false_eq_true, if_false, ih, List.filter_cons, q]
theorem forL_nx {fg : D → FS} {fb : FS} {x : D} {xs : List D} {e e1 e2 : En} {h h1 h2 : Hea} (t : fg x e h = .nx e1 h1) (b : fb e1 h1 = .nx e2 h2) : forL fg fb (x :: xs) e h = forL fg fb xs e2 h2 := by
  rw [forL, t]; simp only; rw [b]
theorem forL_rt {fg : D → FS} {fb : FS} {x : D} {xs : List D} {e e1 : En} {h h1 h2 : Hea} {d : D} (t : fg x e h = .nx e1 h1) (b : fb e1 h1 = .rt d h2) : forL fg fb (x :: xs) e h = .rt d h2 := by
  rw [forL, t]; simp only; rw [b]
theorem forL_bk {fg : D → FS} {fb : FS} {x : D} {xs : List D} {e e1 e2 : En} {h h1 h2 : Hea} (t : fg x e h = .nx e1 h1) (b : fb e1 h1 = .bk e2 h2) : forL fg fb (x :: xs) e h = .nx e2 h2 := by
  rw [forL, t]; simp only; rw [b]
@[simp] theorem forL_nil {fg : D → FS} {fb : FS} {e : En} {h : Hea} : forL fg fb [] e h = .nx e h := rfl
theorem whileW_nx {t : En → Hea → R Bool} {fb : FS} {e e2 : En} {h h1 h2 : Hea} (q : t e h = .ok true h1) (b : fb e h1 = .nx e2 h2) : whileW t fb e h = whileW t fb e2 h2 := by
  rw [whileW_eq, q]; simp only [R.toS_ok, if_true]; rw [b]
theorem whileW_end {t : En → Hea → R Bool} {fb : FS} {e : En} {h h1 : Hea} (q : t e h = .ok false h1) : whileW t fb e h = .nx e h1 := by
  rw [whileW_eq, q]; simp
theorem enF_cons {k : Nat} {d : D} {ds : List D} : enF k (d :: ds) = .pr [.int (k : Nat), d] :: enF (k + 1) ds := rfl
theorem small_nat {n : Nat} (h : n ≤ 1000000) : smallI (n : Int) := by
  unfold smallI
  have e : (2 : Int) ^ 62 = 4611686018427387904 := rfl
  rw [e]
  omega
theorem rangeL_succ {k n : Nat} : rangeL (k : Int) (n + 1) = D.int (k : Int) :: rangeL ((k + 1 : Nat) : Int) n := by
  unfold rangeL
  rw [List.range_succ_eq_map]
  simp only [List.map_cons, List.map_map]
  congr 1
  · simp
    intro i _
    omega
@[simp] theorem rangeL_zero {k : Int} : rangeL k 0 = [] := rfl
theorem eq_strs_nil {l : List Str} {h : Hea} (ho : Oks l) : eqD (.lst (l.map D.str)) (.lst []) h = some (.bl (decide (l = []))) := by
  rw [eq_gen (by
    simp only [vw_lst, okE, List.all_eq_true, List.mem_map]
    rintro _ ⟨b, hb, rfl⟩
    exact ho b hb) (by simp [okE])]
  simp only [vw_lst]
  congr 2
  rw [Bool.eq_iff_iff]
  simp
/-! ### is it the least -/
def vi (A : Alp) (b : Str) : List Str → List Str → Bool
  | _, [] => false
  | q, a :: r => (decide (sLt a b) && decide (q.filter (fun c => !free A c a) = [])) || vi A b (q ++ [a]) r
def le (A : Alp) : List Str → Bool
  | [] => true
  | b :: x => !vi A b [b] x && le A x
theorem vi_iff {A : Alp} {b : Str} : ∀ {r q : List Str}, vi A b q r = true ↔ ∃ p a s, r = p ++ a :: s ∧ sLt a b ∧ ∀ c ∈ q ++ p, dp A c a = false
  | [], q => by simp [vi]
  | a :: r, q => by
    simp only [vi, Bool.or_eq_true, Bool.and_eq_true, decide_eq_true_eq, vi_iff (r := r) (q := q ++ [a])]
    constructor
    · rintro (⟨h1, h2⟩ | ⟨p, a', s, rfl, h1, h2⟩)
      · refine ⟨[], a, r, rfl, h1, fun c hc => ?_⟩
        simp at hc
        have := List.filter_eq_nil_iff.mp h2 c hc
        simpa [dp] using this
      · refine ⟨a :: p, a', s, rfl, h1, fun c hc => h2 c ?_⟩
        simpa using hc
    · rintro ⟨p, a', s, e, h1, h2⟩
      cases p with
      | nil =>
        simp only [List.nil_append, List.cons.injEq] at e
        obtain ⟨rfl, rfl⟩ := e
        refine .inl ⟨h1, List.filter_eq_nil_iff.mpr fun c hc => ?_⟩
        have := h2 c (by simpa using hc)
        simpa [dp] using this
      | cons c p =>
        simp only [List.cons_append, List.cons.injEq] at e
        obtain ⟨rfl, rfl⟩ := e
        exact .inr ⟨p, a', s, rfl, h1, fun c hc => h2 c (by simpa using hc)⟩
theorem le_iff {A : Alp} : ∀ {w : List Str}, le A w = true ↔ Tr.Least (dep := dp A) sLt w
  | [] => by simp [le, Tr.Least]
  | b :: x => by
    simp only [le, Bool.and_eq_true, Bool.not_eq_true', le_iff (w := x), Tr.Least]
    refine and_congr ?_ Iff.rfl
    rw [Bool.eq_false_iff, ne_eq, vi_iff]
    constructor
    · intro h p a q e hl
      refine Classical.byContradiction fun hn => h ⟨p, a, q, e, hl, fun c hc => ?_⟩
      cases hd : dp A c a with
      | false => rfl
      | true => exact absurd ⟨c, hc, hd⟩ hn
    · rintro h ⟨p, a, s, e, hl, hc⟩
      obtain ⟨c, h1, h2⟩ := h p a s e hl
      rw [hc c h1] at h2; cases h2
theorem l_c0l {A : Alp} (G : Good A) {h : Hea} {w q : List Str} {k j : Nat} {a : Str} {x3 x5 x6 : Option D} (hw : ∀ b ∈ w, b ∈ A.sg) (hl : w.length ≤ 1000) (hq : (w.take j).drop k = q) (hj : w[j]? = some a) :
    c0__law_is_least [some (dAl A), some (dRow w), some (.int (k : Nat)), x3, some (.int (j : Int)), x5, x6] h = .ok (.lst ((q.filter fun c => !free A c a).map D.str)) h := by
  have ha : PyData.strOk a = true := G.ok a (hw a (List.mem_of_getElem? hj))
  have sub : ∀ b ∈ q, b ∈ A.sg := fun b hb => hw b (List.mem_of_mem_take (List.mem_of_mem_drop (by rw [hq]; exact hb)))
  have cut : cutD (w.map D.str) (some (k : Nat)) (some (j : Int)) = q.map D.str := by
    rw [cut_mid, ← List.map_take, ← List.map_drop, hq]
  have ga : L2.atI (w.map D.str) (j : Int) = some (.str a) := by
    rw [atI_nat, List.getElem?_map, hj]; rfl
  have lc : lcL (gN 6) (fNot (asB (fCall sp__law_is_free (aCons (fVar 0) (aCons (fVar 6) (aCons (fBin getIx (fVar 1) (fVar 4)) (aNil))))))) (fVar 6) [6] [some (dAl A), some (dRow w), some (.int (k : Nat)), x3, some (.int (j : Int)), x5, x6] (q.map D.str) h = .ok ((q.filter fun c => !free A c a).map D.str) h := by
    refine lcL_map D.str (fun c => !free A c a) D.str fun b hb => ?_
    refine ⟨_, rfl, ?_, fun _ => ?_⟩
    · simp only [wipeE, ev_not, ev_asB, ev_call, ev_cons, ev_bin, ev_var, ev_nil, List.foldl_cons, List.foldl_nil, List.set_cons_succ, List.set_cons_zero, List.getElem?_cons_succ, List.getElem?_cons_zero, jn, R.of_some, R.bind_ok, gi_tup, ga, l_is_free G (G.ok b (sub b hb)) ha, R.nox_ok]
    · simp [wipeE]
  unfold c0__law_is_least
  have hz : ((q.filter fun b => !free A b a).map D.str).length ≤ sizeLine := by
    rw [List.length_map]
    refine Nat.le_trans (List.length_filter_le _ _) (Nat.le_trans (m := 1000) ?_ (by rw [sizeLine_eq]; decide))
    rw [← hq]; simp; omega
  simp only [ev_lc, ev_seq, ev_slice, ev_var, ev_oS, List.getElem?_cons_succ, List.getElem?_cons_zero, jn, R.of_some, R.bind_ok, sld_tup, cut, ti_tup, lc]
  exact lcEnd_ok hz
theorem l_b2l {A : Alp} (G : Good A) {h : Hea} {w q : List Str} {k j : Nat} {a b : Str} {x5 x6 : Option D} (hw : ∀ b ∈ w, b ∈ A.sg) (hl : w.length ≤ 1000) (hq : (w.take j).drop k = q) (hj : w[j]? = some a) :
    b2__law_is_least [some (dAl A), some (dRow w), some (.int (k : Nat)), some (.str b), some (.int (j : Int)), x5, x6] h = if (decide (sLt a b) && decide (q.filter (fun c => !free A c a) = [])) = true then .rt (.bl false) h else .nx [some (dAl A), some (dRow w), some (.int (k : Nat)), some (.str b), some (.int (j : Int)), some (.lst ((q.filter fun c => !free A c a).map D.str)), x6] h := by
  have sub : ∀ b ∈ q, b ∈ A.sg := fun b hb => hw b (List.mem_of_mem_take (List.mem_of_mem_drop (by rw [hq]; exact hb)))
  have hoq : Oks (q.filter fun c => !free A c a) := fun c hc => G.ok c (sub c (List.mem_filter.mp hc).1)
  have e3 := eq_strs_nil (h := h) hoq
  have ga : L2.atI (w.map D.str) (j : Int) = some (.str a) := by
    rw [atI_nat, List.getElem?_map, hj]; rfl
  unfold b2__law_is_least
  have hc := l_c0l (x3 := some (.str b)) (x5 := x5) (x6 := x6) (h := h) G hw hl hq hj
  generalize (q.filter fun c => !free A c a) = l at hc e3
  simp only [ev_sCons, ev_sAsg, hc, R.toS_ok, ev_gN, RS.seq_nx, List.set_cons_succ, List.set_cons_zero, ev_sIf, ev_and, ev_asB, ev_bin, ev_var, ev_c, ev_nary, ev_nil, List.getElem?_cons_succ, List.getElem?_cons_zero, jn, R.of_some, R.bind_ok, gi_tup, ga, lt_strs, dlst (as := []) (by simp), e3, ev_sRet, ev_sNil]
  by_cases h1 : sLt a b <;> by_cases h2 : l = [] <;> simp [h1, h2]
theorem l_least_in {A : Alp} (G : Good A) (h : Hea) (w p : List Str) (b : Str) (hw : ∀ c ∈ w, c ∈ A.sg) (hl : w.length ≤ 1000) : ∀ (r q : List Str) (j : Nat) (x4 x5 x6 : Option D), w = p ++ q ++ r → j = p.length + q.length → ∃ y4 y5 y6,
    forL g1__law_is_least b2__law_is_least (rangeL (j : Int) r.length) [some (dAl A), some (dRow w), some (.int (p.length : Nat)), some (.str b), x4, x5, x6] h = if vi A b q r = true then .rt (.bl false) h else .nx [some (dAl A), some (dRow w), some (.int (p.length : Nat)), some (.str b), y4, y5, y6] h
  | [], q, j, x4, x5, x6, _, _ => ⟨x4, x5, x6, by simp [vi]⟩
  | a :: r, q, j, x4, x5, x6, e, ej => by
    obtain ⟨y4, y5, y6, ih⟩ := l_least_in G h w p b hw hl r (q ++ [a]) (j + 1) (some (.int (j : Int))) (some (.lst ((q.filter fun c => !free A c a).map D.str))) x6 (by rw [e]; simp) (by simp; omega)
    have hq : (w.take j).drop p.length = q := by
      rw [e, ej, show p.length + q.length = (p ++ q).length by simp, List.take_left, List.drop_left]
    have hj : w[j]? = some a := by
      rw [e, ej, show p.length + q.length = (p ++ q).length by simp, List.getElem?_append_right (Nat.le_refl _)]; simp
    have tg : g1__law_is_least (.int (j : Int)) [some (dAl A), some (dRow w), some (.int (p.length : Nat)), some (.str b), x4, x5, x6] h = .nx [some (dAl A), some (dRow w), some (.int (p.length : Nat)), some (.str b), some (.int (j : Int)), x5, x6] h := by unfold g1__law_is_least; simp
    have bd := l_b2l (b := b) (x5 := x5) (x6 := x6) (h := h) G hw hl hq hj
    refine ⟨y4, y5, y6, ?_⟩
    rw [List.length_cons, rangeL_succ]
    unfold forL
    rw [tg]
    simp only
    rw [bd]
    by_cases hv : (decide (sLt a b) && decide (q.filter (fun c => !free A c a) = [])) = true
    · have : vi A b q (a :: r) = true := by simp only [vi, hv, Bool.true_or]
      rw [if_pos this, if_pos hv]
    · have : vi A b q (a :: r) = vi A b (q ++ [a]) r := by
        simp only [vi, Bool.eq_false_iff.mpr hv, Bool.false_or]
      rw [this, if_neg hv]
      exact ih
theorem rg2_ok {fa : En → Hea → R (List D)} {e : En} {h h1 : Hea} {i j : Int} (hf : fa e h = .ok [.int i, .int j] h1) (hi : smallI i) (hj : smallI j) : iRange2 fa e h = .ok (rangeL i (j - i).toNat) h1 := by
  rw [ev_rg2, hf]
  simp only [R.bind_ok]
  rw [if_pos (And.intro hi hj)]
theorem rg1_ok {fa : En → Hea → R (List D)} {e : En} {h h1 : Hea} {j : Int} (hf : fa e h = .ok [.int j] h1) (hj : smallI j) : iRange1 fa e h = .ok (rangeL 0 j.toNat) h1 := by
  rw [ev_rg1, hf]
  simp only [R.bind_ok]
  rw [if_pos hj]
theorem l_b4l {A : Alp} {h : Hea} {w : List Str} {k m : Nat} {b : Str} {x4 x5 x6 : Option D} (hl : w.length ≤ 1000) (hk : w.length = k + 1 + m) :
    b4__law_is_least [some (dAl A), some (dRow w), some (.int (k : Nat)), some (.str b), x4, x5, x6] h = forL g1__law_is_least b2__law_is_least (rangeL ((k + 1 : Nat) : Int) m) [some (dAl A), some (dRow w), some (.int (k : Nat)), some (.str b), x4, x5, x6] h := by
  have s3 : ((w.length : Int) - ((k + 1 : Nat) : Int)).toNat = m := by omega
  unfold b4__law_is_least
  rw [ev_sFor, rg2_ok (i := ((k + 1 : Nat) : Int)) (j := (w.length : Int)) (h1 := h) ?_ (small_nat (by omega)) (small_nat (by omega)), R.toS_ok, s3]
  simp only [ev_cons, ev_bin, ev_nary, ev_var, ev_c, ev_nil, List.getElem?_cons_succ, List.getElem?_cons_zero, jn, R.of_some, R.bind_ok, add_int, len_tup, List.length_map]
  rfl
end W63

set_option Elab.async false
set_option linter.all false
set_option maxRecDepth 100000
set_option maxHeartbeats 1000000
namespace W63
open PySem DD
theorem l_least_out {A : Alp} (G : Good A) (h : Hea) : ∀ (x p : List Str) (x2 x3 x4 x5 x6 : Option D), (∀ c ∈ p ++ x, c ∈ A.sg) → (p ++ x).length ≤ 1000 → ∃ e',
    forL g3__law_is_least b4__law_is_least (enF p.length (x.map D.str)) [some (dAl A), some (dRow (p ++ x)), x2, x3, x4, x5, x6] h = if le A x = true then .nx e' h else .rt (.bl false) h
  | [], p, x2, x3, x4, x5, x6, _, _ => ⟨_, rfl⟩
  | b :: x, p, x2, x3, x4, x5, x6, hw, hl => by
    have ec : p ++ [b] ++ x = p ++ b :: x := by simp
    obtain ⟨y4, y5, y6, hi⟩ := l_least_in G h (p ++ b :: x) p b hw hl x [b] _ x4 x5 x6 ec.symm rfl
    obtain ⟨e', ih⟩ := l_least_out G h x (p ++ [b]) (some (.int (p.length : Nat))) (some (.str b)) y4 y5 y6 (by rw [ec]; exact hw) (by rw [ec]; exact hl)
    have el : (p ++ [b]).length = p.length + 1 := by simp
    rw [ec, el] at ih
    refine ⟨e', ?_⟩
    have tg : g3__law_is_least (.pr [.int (p.length : Nat), .str b]) [some (dAl A), some (dRow (p ++ b :: x)), x2, x3, x4, x5, x6] h = .nx [some (dAl A), some (dRow (p ++ b :: x)), some (.int (p.length : Nat)), some (.str b), x4, x5, x6] h := by unfold g3__law_is_least; simp
    have bd := l_b4l (A := A) (h := h) (w := p ++ b :: x) (k := p.length) (m := x.length) (b := b) (x4 := x4) (x5 := x5) (x6 := x6) hl (by simp; omega)
    rw [List.map_cons, enF_cons]
    rw [show (p.length + [b].length) = p.length + 1 from rfl] at hi
    rw [hi] at bd
    by_cases hv : vi A b [b] x = true
    · rw [if_pos hv] at bd
      rw [forL_rt tg bd]
      have : le A (b :: x) = false := by simp [le, hv]
      rw [this]; rfl
    · rw [if_neg hv] at bd
      rw [forL_nx tg bd]
      have : le A (b :: x) = le A x := by simp [le, hv]
      rw [this]
      exact ih
theorem l_is_least {A : Alp} (G : Good A) {w : List Str} (W : GoodW A w) {h : Hea} : sp__law_is_least [dAl A, dRow w] h = .ok (.bl (decide (Tr.nf (dp A) A.sg w = w))) h := by
  obtain ⟨e', h1⟩ := l_least_out G h w [] none none none none none (by simpa using W.sub) (by simpa using W.sz)
  have key : le A w = decide (Tr.nf (dp A) A.sg w = w) := by
    rw [Bool.eq_iff_iff, le_iff, decide_eq_true_eq]
    exact Tr.least_iff (dp_dep G) sLt_ir sLt_as G.pw w W.sub
  rw [key] at h1
  unfold sp__law_is_least defF r__law_is_least
  simp only [List.nil_append, dRow, List.length_nil] at h1
  by_cases q : Tr.nf (dp A) A.sg w = w
  · simp [enumL_eq, h1, q]
  · simp [enumL_eq, h1, q]
end W63

set_option Elab.async false
set_option linter.all false
set_option maxRecDepth 100000
set_option maxHeartbeats 1000000
namespace W63
open PySem DD
open L2 (CMul CDiv CPow)
/-! ### the bag -/
def Bag (b0 b1 b2 : Int) (T : List Int) : Cell := .lst [.int b0, .int b1, .int b2, .lst (T.map D.int)]
section
variable {h : Hea} {n : Nat} {b0 b1 b2 : Int} {T : List Int}
theorem bgAt (hn : n < h.length) : (h.set n (Bag b0 b1 b2 T))[n]? = some (Bag b0 b1 b2 T) := by simp [hn]
theorem bg0 (hn : n < h.length) : getIx (.ref n) (.int 0) (h.set n (Bag b0 b1 b2 T)) = some (.int b0) := by rw [gi_cell (bgAt hn)]; rfl
theorem bg1 (hn : n < h.length) : getIx (.ref n) (.int 1) (h.set n (Bag b0 b1 b2 T)) = some (.int b1) := by rw [gi_cell (bgAt hn)]; rfl
theorem bg2 (hn : n < h.length) : getIx (.ref n) (.int 2) (h.set n (Bag b0 b1 b2 T)) = some (.int b2) := by rw [gi_cell (bgAt hn)]; rfl
theorem bg3 (hn : n < h.length) : getIx (.ref n) (.int 3) (h.set n (Bag b0 b1 b2 T)) = some (.lst (T.map D.int)) := by rw [gi_cell (bgAt hn)]; rfl
theorem by2 (hn : n < h.length) : getIy (.ref n) (.int 2) (h.set n (Bag b0 b1 b2 T)) = some (.int b2) := by
  unfold getIy
  rw [dn_cell (bgAt hn)]
  simp only [lk_cell (bgAt hn)]
  rfl
theorem bp0 {x : Int} (hn : n < h.length) : putIx (.ref n) (.int 0) (.int x) (h.set n (Bag b0 b1 b2 T)) = some (h.set n (Bag x b1 b2 T)) := by
  unfold putIx
  simp only [bgAt hn]
  simp [Bag, L2.ixN]
theorem bp1 {x : Int} (hn : n < h.length) : putIx (.ref n) (.int 1) (.int x) (h.set n (Bag b0 b1 b2 T)) = some (h.set n (Bag b0 x b2 T)) := by
  unfold putIx
  simp only [bgAt hn]
  simp [Bag, L2.ixN]
theorem bp2 {x : Int} (hn : n < h.length) : putIx (.ref n) (.int 2) (.int x) (h.set n (Bag b0 b1 b2 T)) = some (h.set n (Bag b0 b1 x T)) := by
  unfold putIx
  simp only [bgAt hn]
  simp [Bag, L2.ixN]
theorem mulI {i j : Int} (q : CMul i j) : mulG (.int i) (.int j) h = some (.int (i * j)) := by
  simp only [mulG, mulD]; rw [if_pos q]
theorem modI {i j : Int} (q : 0 < j) : modD (.int i) (.int j) h = some (.int (i % j)) := by
  simp only [modD]; rw [if_pos q]
theorem fdivI {i j : Int} (q : CDiv i j) : fdivD (.int i) (.int j) h = some (.int (i / j)) := by
  simp only [fdivD]; rw [if_pos q]
theorem intI {i : Int} : intN [.int i] h = some (.int i) := rfl
theorem iaddI {i j : Int} : iaddD (.int i) (.int j) h = some (.int (i + j)) := rfl
theorem cutD_map {α β : Type} {f : α → β} {xs : List α} {lo hi : Option Int} : cutD (xs.map f) lo hi = (cutD xs lo hi).map f := by
  unfold cutD
  simp [List.map_take, List.map_drop]
theorem cut_len {α : Type} {xs : List α} {lo hi : Option Int} : (cutD xs lo hi).length ≤ xs.length := by
  unfold cutD
  simp only [List.length_take, List.length_drop]
  omega
theorem powI {i j : Int} (q : CPow i j) : powD (.int i) (.int j) h = some (.int (i ^ j.toNat)) := by
  simp only [powD]; rw [if_pos q]
theorem head_cell {lo : Option Int} (ht : T.length ≤ 63) : ∃ (c : Int) (ys : List D), addD (.lst (cutD (T.map D.int) lo none)) (.lst [.int 0]) h = some (.lst ys) ∧ getIx (.lst ys) (.int 0) h = some (.int c) := by
  have hl := cut_len (xs := T) (lo := lo) (hi := none)
  rw [cutD_map]
  generalize cutD T lo none = l at hl
  have e : addD (.lst (l.map D.int)) (.lst [.int 0]) h = some (.lst (l.map D.int ++ [.int 0])) := by
    unfold addD
    simp only [lk_lst]
    rw [if_pos]
    rw [sizeLine_eq]; simp; omega
  cases l with
  | nil => exact ⟨_, _, e, by rw [gi_lst, atI_0]; rfl⟩
  | cons c l => exact ⟨_, _, e, by rw [gi_lst, atI_0]; rfl⟩
theorem bset (hn : n < h.length) (e : h[n]? = some (Bag b0 b1 b2 T)) : h = h.set n (Bag b0 b1 b2 T) := by
  apply List.ext_getElem?
  intro i
  rw [List.getElem?_set]
  split
  · rename_i q; subst q; simpa [hn] using e
  · rfl
end
def tk1 : FS := sIf (asB (fBin eqD (fBin getIx (fVar 0) (fC (.int 0))) (fC (.int 0)))) (sCons (sAsg (fBin getIx (fBin addD (fSlice (fBin getIx (fVar 0) (fC (.int 3))) (oSome (fBin getIx (fVar 0) (fC (.int 2)))) (oNone)) (fNary dLst (aCons (fC (.int 0)) (aNil)))) (fC (.int 0))) (gN 2)) (sCons (sAugS iaddD (fVar 0) (fC (.int 2)) (fC (.int 1))) (sCons (sIf (asB (fBin geD (fVar 2) (fBin powD (fC (.int 10)) (fC (.int 18))))) (sPut (fVar 2) (fVar 0) (fC (.int 0))) (sNil)) (sCons (sAsg (fBin addD (fBin addD (fBin mulG (fBin getIx (fVar 0) (fC (.int 1))) (fC (.int 48271))) (fBin modD (fNary intN (aCons (fVar 2) (aNil))) (fC (.int 2147483647)))) (fBin mulG (fC (.int 7919)) (fBin getIx (fVar 0) (fC (.int 2))))) (gN 3)) (sPut (fBin modD (fNary intN (aCons (fVar 3) (aNil))) (fC (.int 2147483647))) (fVar 0) (fC (.int 1))))))) (sNil)
def tk2 : FS := sIf (asB (fBin gtD (fBin getIx (fVar 0) (fC (.int 0))) (fC (.int 0)))) (sCons (sAsg (fBin modD (fNary intN (aCons (fBin getIx (fVar 0) (fC (.int 0))) (aNil))) (fVar 1)) (gN 4)) (sCons (sPut (fBin fdivD (fNary intN (aCons (fBin getIx (fVar 0) (fC (.int 0))) (aNil))) (fVar 1)) (fVar 0) (fC (.int 0))) (sRet (fVar 4)))) (sNil)
def tk3 : FS := sCons (sAsg (fBin modD (fNary intN (aCons (fBin mulG (fBin addD (fBin getIx (fVar 0) (fC (.int 1))) (fC (.int 1))) (fC (.int 39373))) (aNil))) (fC (.int 1000000007))) (gN 5)) (sCons (sAsg (fBin modD (fNary intN (aCons (fBin mulG (fBin modD (fNary intN (aCons (fBin mulG (fVar 5) (fVar 5)) (aNil))) (fC (.int 998244353))) (fC (.int 30011))) (aNil))) (fC (.int 998244353))) (gN 6)) (sRet (fBin modD (fNary intN (aCons (fBin fdivD (fVar 6) (fC (.int 7))) (aNil))) (fVar 1))))
theorem tk_eq : r__law_take = sCons tk1 (sCons tk2 tk3) := rfl
section
variable {h : Hea} {n : Nat} {many : Int} {T : List Int}
theorem l_tk1 {b0 b1 b2 : Int} (hn : n < h.length) (ht : T.length ≤ 63) : ∃ c0 c1 c2 x2 x3,
    tk1 [some (.ref n), some (.int many), none, none, none, none, none] (h.set n (Bag b0 b1 b2 T)) = .nx [some (.ref n), some (.int many), x2, x3, none, none, none] (h.set n (Bag c0 c1 c2 T)) := by
  unfold tk1
  by_cases hb : b0 = 0
  · obtain ⟨c, ys, e1, e2⟩ := head_cell (h := h.set n (Bag b0 b1 b2 T)) (lo := some b2) ht
    have m1 : ∀ (i : Int) (h : Hea), mulG (.int i) (.int 48271) h = some (.int (i * 48271)) := fun i h => mulI (.inr (by decide))
    have m2 : ∀ (i : Int) (h : Hea), mulG (.int 7919) (.int i) h = some (.int (7919 * i)) := fun i h => mulI (.inl (by decide))
    have m3 : ∀ (i : Int) (h : Hea), modD (.int i) (.int 2147483647) h = some (.int (i % 2147483647)) := fun i h => modI (by decide)
    have p1 : ∀ h : Hea, powD (.int 10) (.int 18) h = some (.int (10 ^ (18 : Int).toNat)) := fun h => powI (by decide)
    generalize (10 : Int) ^ (18 : Int).toNat = M at p1
    rw [hb] at e1 e2
    refine ⟨if M ≤ c then c else 0, (b1 * 48271 + c % 2147483647 + 7919 * (b2 + 1)) % 2147483647, b2 + 1, some (.int c), some (.int (b1 * 48271 + c % 2147483647 + 7919 * (b2 + 1))), ?_⟩
    simp only [ev_sIf, ev_sCons, ev_sAsg, ev_sPut, ev_sAugS, ev_sNil, ev_gN, ev_asB, ev_bin, ev_nary, ev_cons, ev_nil, ev_slice, ev_oS, ev_oN, ev_var, ev_c, List.getElem?_cons_succ, List.getElem?_cons_zero, jn, R.of_some, R.bind_ok, R.toS_ok, RS.seq_nx, List.set_cons_succ, List.set_cons_zero,
      bg0 hn, bg1 hn, bg2 hn, bg3 hn, by2 hn, bp0 hn, bp1 hn, bp2 hn, iaddI, intI, eq_int, hb, decide_true, if_true, sld_lst, dlst (as := [D.int 0]) (by simp), ge_int, add_int, m1, m2, m3, p1, e1, e2]
    by_cases hc : M ≤ c
    · simp only [hc, decide_true, if_true, RS.seq_nx, ev_sCons, ev_sAsg, ev_sPut, ev_gN, ev_bin, ev_nary, ev_cons, ev_nil, ev_var, ev_c, List.getElem?_cons_succ, List.getElem?_cons_zero, jn, R.of_some, R.bind_ok, R.toS_ok, List.set_cons_succ, List.set_cons_zero, bg0 hn, bg1 hn, bg2 hn, bp0 hn, bp1 hn, intI, add_int, m1, m2, m3]
    · simp only [hc, decide_false, Bool.false_eq_true, if_false, RS.seq_nx, ev_sCons, ev_sAsg, ev_sPut, ev_gN, ev_bin, ev_nary, ev_cons, ev_nil, ev_var, ev_c, List.getElem?_cons_succ, List.getElem?_cons_zero, jn, R.of_some, R.bind_ok, R.toS_ok, List.set_cons_succ, List.set_cons_zero, bg0 hn, bg1 hn, bg2 hn, bp0 hn, bp1 hn, intI, add_int, m1, m2, m3]
  · refine ⟨b0, b1, b2, none, none, ?_⟩
    simp [bg0 hn, hb]
theorem l_tk23 {b0 b1 b2 : Int} {x2 x3 : Option D} (hn : n < h.length) (h0 : 0 < many) (h1 : many ≤ 1000) : ∃ v c0 e',
    sCons tk2 tk3 [some (.ref n), some (.int many), x2, x3, none, none, none] (h.set n (Bag b0 b1 b2 T)) = .rt (.int v) (h.set n (Bag c0 b1 b2 T)) ∧ 0 ≤ v ∧ v < many ∧ e' = (0 : Int) := by
  have hd : CDiv b0 many := ⟨h0, by omega⟩
  have pos : ∀ i : Int, 0 ≤ i % many ∧ i % many < many := fun i => ⟨Int.emod_nonneg _ (by omega), Int.emod_lt_of_pos _ h0⟩
  by_cases hb : 0 < b0
  · refine ⟨b0 % many, b0 / many, 0, ?_, (pos _).1, (pos _).2, rfl⟩
    unfold tk2
    simp only [ev_sCons, ev_sIf, ev_asB, ev_bin, ev_nary, ev_cons, ev_nil, ev_var, ev_c, ev_sAsg, ev_gN, ev_sPut, ev_sRet, List.getElem?_cons_succ, List.getElem?_cons_zero, jn, R.of_some, R.bind_ok, R.toS_ok, RS.seq_nx, RS.seq_rt, List.set_cons_succ, List.set_cons_zero, bg0 hn, bp0 hn, gt_int, hb, decide_true, if_true, intI, modI h0, fdivI hd]
  · have c1 : ∀ (i : Int) (h : Hea), mulG (.int i) (.int 39373) h = some (.int (i * 39373)) := fun i h => mulI (.inr (by decide))
    have c2 : ∀ (i : Int) (h : Hea), mulG (.int i) (.int 30011) h = some (.int (i * 30011)) := fun i h => mulI (.inr (by decide))
    have c3 : ∀ (i : Int) (h : Hea), modD (.int i) (.int 1000000007) h = some (.int (i % 1000000007)) := fun i h => modI (by decide)
    have c4 : ∀ (i : Int) (h : Hea), modD (.int i) (.int 998244353) h = some (.int (i % 998244353)) := fun i h => modI (by decide)
    have c5 : ∀ (i : Int) (h : Hea), fdivD (.int i) (.int 7) h = some (.int (i / 7)) := fun i h => fdivI ⟨by decide, by decide⟩
    have c6 : ∀ (i : Int) (h : Hea), mulG (.int (i % 1000000007)) (.int (i % 1000000007)) h = some (.int (i % 1000000007 * (i % 1000000007))) := fun i h => mulI (.inl ⟨by
      have := Int.emod_nonneg i (b := 1000000007) (by decide)
      have e : (2 : Int) ^ 64 = 18446744073709551616 := rfl
      rw [e]; omega, by
      have := Int.emod_lt_of_pos i (b := 1000000007) (by decide)
      have e : (2 : Int) ^ 64 = 18446744073709551616 := rfl
      rw [e]; omega⟩)
    refine ⟨(((((b1 + 1) * 39373) % 1000000007) * (((b1 + 1) * 39373) % 1000000007) % 998244353 * 30011) % 998244353 / 7) % many, b0, 0, ?_, (pos _).1, (pos _).2, rfl⟩
    unfold tk2 tk3
    simp only [ev_sCons, ev_sIf, ev_sNil, ev_asB, ev_bin, ev_nary, ev_cons, ev_nil, ev_var, ev_c, ev_sAsg, ev_gN, ev_sPut, ev_sRet, List.getElem?_cons_succ, List.getElem?_cons_zero, jn, R.of_some, R.bind_ok, R.toS_ok, RS.seq_nx, RS.seq_rt, List.set_cons_succ, List.set_cons_zero, bg0 hn, bg1 hn, bp0 hn, gt_int, hb, decide_false, Bool.false_eq_true, if_false, intI, add_int, modI h0, c1, c2, c3, c4, c5, c6]
theorem l_take {b0 b1 b2 : Int} (hn : n < h.length) (ht : T.length ≤ 63) (h0 : 0 < many) (h1 : many ≤ 1000) :
    ∃ v c0 c1 c2 : Int, sp__law_take [.ref n, .int many] (h.set n (Bag b0 b1 b2 T)) = .ok (.int v) (h.set n (Bag c0 c1 c2 T)) ∧ 0 ≤ v ∧ v < many := by
  obtain ⟨a0, a1, a2, x2, x3, e1⟩ := l_tk1 (many := many) (b0 := b0) (b1 := b1) (b2 := b2) hn ht
  obtain ⟨v, c0, _, e2, v0, v1, _⟩ := l_tk23 (T := T) (b0 := a0) (b1 := a1) (b2 := a2) (x2 := x2) (x3 := x3) hn h0 h1
  refine ⟨v, c0, a1, a2, ?_, v0, v1⟩
  unfold sp__law_take defF
  rw [tk_eq]
  rw [ev_sCons] at e2
  simp only [ev_sCons, List.length_cons, List.length_nil, List.map_cons, List.map_nil]
  simp [e1, e2]
end
end W63

set_option Elab.async false
set_option linter.all false
set_option maxRecDepth 100000
set_option maxHeartbeats 1000000
namespace W63
open PySem DD
section
variable {h : Hea} {n : Nat} {T : List Int}
theorem l_some {b0 b1 b2 : Int} {sg : List Str} (hn : n < h.length) (ht : T.length ≤ 63) (h0 : sg ≠ []) (h1 : sg.length ≤ 1000) :
    ∃ (a : Str) (c0 c1 c2 : Int), sp__law_some [.ref n, dRow sg] (h.set n (Bag b0 b1 b2 T)) = .ok (.str a) (h.set n (Bag c0 c1 c2 T)) ∧ a ∈ sg := by
  have hp : 0 < sg.length := List.length_pos_iff.mpr h0
  obtain ⟨v, c0, c1, c2, e, v0, v1⟩ := l_take (T := T) (b0 := b0) (b1 := b1) (b2 := b2) (many := (sg.length : Int)) hn ht (by omega) (by omega)
  obtain ⟨k, rfl⟩ := Int.eq_ofNat_of_zero_le v0
  have hk : k < sg.length := by omega
  refine ⟨sg[k], c0, c1, c2, ?_, List.getElem_mem hk⟩
  have g : L2.atI (sg.map D.str) (k : Int) = some (.str sg[k]) := by
    rw [atI_nat, List.getElem?_map, List.getElem?_eq_getElem hk]; rfl
  unfold sp__law_some defF r__law_some
  simp [e, g]
theorem l_row_loop {sg : List Str} {x2 x3 : Option D} (hn : n < h.length) (ht : T.length ≤ 63) (h0 : sg ≠ []) (h1 : sg.length ≤ 1000) : ∀ (xs : List D) (b0 b1 b2 : Int), ∃ (w : List Str) (c0 c1 c2 : Int),
    lcL (gN 3) tOn (fCall sp__law_some (aCons (fVar 0) (aCons (fVar 1) aNil))) [3] [some (.ref n), some (dRow sg), x2, x3] xs (h.set n (Bag b0 b1 b2 T)) = .ok (w.map D.str) (h.set n (Bag c0 c1 c2 T)) ∧ w.length = xs.length ∧ ∀ a ∈ w, a ∈ sg
  | [], b0, b1, b2 => ⟨[], b0, b1, b2, rfl, rfl, by simp⟩
  | x :: xs, b0, b1, b2 => by
    obtain ⟨a, c0, c1, c2, e, ha⟩ := l_some (T := T) (b0 := b0) (b1 := b1) (b2 := b2) hn ht h0 h1
    obtain ⟨w, d0, d1, d2, ih, hw, hs⟩ := l_row_loop (x2 := x2) (x3 := x3) hn ht h0 h1 xs c0 c1 c2
    refine ⟨a :: w, d0, d1, d2, ?_, by simp [hw], by simpa using ⟨ha, hs⟩⟩
    rw [lcL]
    simp only [dRow] at e ih ⊢
    simp [wipeE, e, ih]
theorem l_row {b0 b1 b2 : Int} {sg : List Str} (hn : n < h.length) (ht : T.length ≤ 63) (h0 : sg ≠ []) (h1 : sg.length ≤ 1000) :
    ∃ (w : List Str) (c0 c1 c2 : Int), sp__law_row [.ref n, dRow sg, .int 6] (h.set n (Bag b0 b1 b2 T)) = .ok (dRow w) (h.set n (Bag c0 c1 c2 T)) ∧ w.length ≤ 6 ∧ ∀ a ∈ w, a ∈ sg := by
  obtain ⟨v, c0, c1, c2, e, v0, v1⟩ := l_take (T := T) (b0 := b0) (b1 := b1) (b2 := b2) (many := 7) hn ht (by omega) (by omega)
  obtain ⟨k, rfl⟩ := Int.eq_ofNat_of_zero_le v0
  obtain ⟨w, d0, d1, d2, e2, hw, hs⟩ := l_row_loop (x2 := some (.int 6)) (x3 := none) hn ht h0 h1 (rangeL 0 k) c0 c1 c2
  have hk : (rangeL 0 k).length = k := by simp [rangeL]
  refine ⟨w, d0, d1, d2, ?_, by omega, hs⟩
  have r : iRange1 (aCons (fCall sp__law_take (aCons (fVar 0) (aCons (fBin addD (fVar 2) (fC (.int 1))) (aNil)))) (aNil)) [some (.ref n), some (dRow sg), some (.int 6), none] (h.set n (Bag b0 b1 b2 T)) = .ok (rangeL 0 k) (h.set n (Bag c0 c1 c2 T)) := by
    rw [rg1_ok (j := (k : Int)) (h1 := h.set n (Bag c0 c1 c2 T)) ?_ (small_nat (by omega))]
    · rw [Int.toNat_natCast]
    · simp only [ev_cons, ev_call, ev_bin, ev_var, ev_c, ev_nil, List.getElem?_cons_succ, List.getElem?_cons_zero, jn, R.of_some, R.bind_ok, add_int, show (6 : Int) + 1 = 7 from rfl, e, R.nox_ok]
  unfold sp__law_row defF r__law_row c0__law_row
  have hz : (w.map D.str).length ≤ sizeLine := by rw [sizeLine_eq, List.length_map]; omega
  simp only [dRow] at r e2 ⊢
  simp [r, e2, lcEnd_ok hz, tupleN, -ev_rg1]
/-! ### the alphabet -/
theorem dropAll_of' {gf : List D → Hea → R D} {ds : List D} {h h' g : Hea} {d : D} (e : gf ds h = .ok d (h' ++ g)) (hl : h'.length = h.length) (o : OldOk h (h' ++ g)) (c : cl h.length d) : dropAll gf ds h = .ok d h' := by
  unfold dropAll
  rw [e]
  simp only
  rw [if_pos ⟨by simp; omega, c, o⟩]
  simp [← hl]
theorem l_cps_loop {a : Str} {sg : List Str} {x2 x3 x5 : Option D} (hn : n < h.length) (ht : T.length ≤ 63) : ∀ (bs : List Str) (b0 b1 b2 : Int), ∃ (ps : List (Str × Str)) (c0 c1 c2 : Int),
    lcL (gN 5) (asB (fBin ltD (fCall sp__law_take (aCons (fVar 0) (aCons (fC (.int 5)) (aNil)))) (fC (.int 3)))) (fNary dTup (aCons (fVar 4) (aCons (fVar 5) (aNil)))) [5] [some (.ref n), some (dRow sg), x2, x3, some (.str a), x5] (bs.map D.str) (h.set n (Bag b0 b1 b2 T)) = .ok (ps.map dPr) (h.set n (Bag c0 c1 c2 T)) ∧ ps.length ≤ bs.length ∧ ∀ p ∈ ps, p.1 = a ∧ p.2 ∈ bs
  | [], b0, b1, b2 => ⟨[], b0, b1, b2, rfl, Nat.le_refl _, by simp⟩
  | x :: xs, b0, b1, b2 => by
    obtain ⟨v, c0, c1, c2, e, v0, v1⟩ := l_take (T := T) (b0 := b0) (b1 := b1) (b2 := b2) (many := 5) hn ht (by omega) (by omega)
    obtain ⟨ps, d0, d1, d2, ih, hw, hs⟩ := l_cps_loop (a := a) (sg := sg) (x2 := x2) (x3 := x3) (x5 := x5) hn ht xs c0 c1 c2
    by_cases hv : v < 3
    · refine ⟨(a, x) :: ps, d0, d1, d2, ?_, by simp [hw], fun p hp => ?_⟩
      · rw [List.map_cons, lcL]
        simp only [dRow] at ih ⊢
        simp [wipeE, e, ih, hv]
      · rcases List.mem_cons.mp hp with rfl | hp
        · exact ⟨rfl, List.mem_cons_self⟩
        · exact ⟨(hs p hp).1, List.mem_cons_of_mem _ (hs p hp).2⟩
    · refine ⟨ps, d0, d1, d2, ?_, by simp; omega, fun p hp => ⟨(hs p hp).1, List.mem_cons_of_mem _ (hs p hp).2⟩⟩
      rw [List.map_cons, lcL]
      simp only [dRow] at ih ⊢
      simp [wipeE, e, ih, hv]
end
end W63

set_option Elab.async false
set_option linter.all false
set_option maxRecDepth 100000
set_option maxHeartbeats 1000000
namespace W63
open PySem DD
section
variable {h : Hea} {n : Nat} {T : List Int}
theorem set_app {α : Type} {h : List α} {g : List α} {n : Nat} {c : α} (hn : n < h.length) : h.set n c ++ g = (h ++ g).set n c := (List.set_append_left n c hn).symm
theorem l_alp_loop {sg : List Str} (hn : n < h.length) (ht : T.length ≤ 63) (hs : sg.length ≤ 4) (pw : sg.Pairwise sLt) : ∀ (r p : List Str) (ps : List (Str × Str)) (b0 b1 b2 : Int) (x3 x4 x5 : Option D), sg = p ++ r → ps.length + 4 * r.length ≤ 1000 → (∀ q ∈ ps, sLt q.1 q.2 ∧ q.1 ∈ sg ∧ q.2 ∈ sg) →
    ∃ (qs : List (Str × Str)) (c0 c1 c2 : Int) (y3 y4 y5 : Option D), forL g1__law_alphabet b2__law_alphabet (enF p.length (r.map D.str)) [some (.ref n), some (dRow sg), some (.ref h.length), x3, x4, x5] ((h ++ [Cell.lst (ps.map dPr)]).set n (Bag b0 b1 b2 T)) = .nx [some (.ref n), some (dRow sg), some (.ref h.length), y3, y4, y5] ((h ++ [Cell.lst (qs.map dPr)]).set n (Bag c0 c1 c2 T)) ∧ (∀ q ∈ qs, sLt q.1 q.2 ∧ q.1 ∈ sg ∧ q.2 ∈ sg) ∧ qs.length ≤ 1000
  | [], p, ps, b0, b1, b2, x3, x4, x5, _, hl, hq => ⟨ps, b0, b1, b2, x3, x4, x5, rfl, hq, by omega⟩
  | a :: r, p, ps, b0, b1, b2, x3, x4, x5, e, hl, hq => by
    have hn' : n < (h ++ [Cell.lst (ps.map dPr)]).length := by simp; omega
    obtain ⟨ns, c0, c1, c2, e1, hnl, hns⟩ := l_cps_loop (h := h ++ [Cell.lst (ps.map dPr)]) (n := n) (T := T) (a := a) (sg := sg) (x2 := some (.ref h.length)) (x3 := some (.int (p.length : Nat))) (x5 := x5) hn' ht r b0 b1 b2
    have hrl : r.length ≤ 3 := by rw [e] at hs; simp at hs; omega
    have pa : ∀ b ∈ r, sLt a b := by
      rw [e, List.pairwise_append] at pw
      exact (List.pairwise_cons.mp pw.2.1).1
    obtain ⟨qs, d0, d1, d2, y3, y4, y5, ih, h1, h2⟩ := l_alp_loop hn ht hs pw r (p ++ [a]) (ps ++ ns) c0 c1 c2 (some (.int (p.length : Nat))) (some (.str a)) x5 (by rw [e]; simp) (by simp at hl ⊢; omega) (fun q hm => by
      rcases List.mem_append.mp hm with hm | hm
      · exact hq q hm
      · obtain ⟨q1, q2⟩ := hns q hm
        rw [q1]
        exact ⟨pa _ q2, by rw [e]; simp, by rw [e]; simp [q2]⟩)
    rw [show (p ++ [a]).length = p.length + 1 by simp] at ih
    refine ⟨qs, d0, d1, d2, y3, y4, y5, ?_, h1, h2⟩
    rw [List.map_cons, enF_cons]
    have tg : g1__law_alphabet (.pr [.int (p.length : Nat), .str a]) [some (.ref n), some (dRow sg), some (.ref h.length), x3, x4, x5] ((h ++ [Cell.lst (ps.map dPr)]).set n (Bag b0 b1 b2 T)) = .nx [some (.ref n), some (dRow sg), some (.ref h.length), some (.int (p.length : Nat)), some (.str a), x5] ((h ++ [Cell.lst (ps.map dPr)]).set n (Bag b0 b1 b2 T)) := by unfold g1__law_alphabet; simp
    have cut : cutD (sg.map D.str) (some ((p.length : Nat) + 1 : Int)) none = r.map D.str := by
      rw [show ((p.length : Nat) + 1 : Int) = ((p.length + 1 : Nat) : Int) by omega, cut_from, e, ← List.map_drop]
      congr 1
      rw [show p ++ a :: r = (p ++ [a]) ++ r by simp, show p.length + 1 = (p ++ [a]).length by simp, List.drop_left]
    have hz : (ns.map dPr).length ≤ sizeLine := by rw [sizeLine_eq, List.length_map]; omega
    have cc : c0__law_alphabet [some (.ref n), some (dRow sg), some (.ref h.length), some (.int (p.length : Nat)), some (.str a), x5] ((h ++ [Cell.lst (ps.map dPr)]).set n (Bag b0 b1 b2 T)) = .ok (.lst (ns.map dPr)) ((h ++ [Cell.lst (ps.map dPr)]).set n (Bag c0 c1 c2 T)) := by
      unfold c0__law_alphabet
      simp only [ev_lc, ev_seq, ev_slice, ev_var, ev_oS, ev_oN, ev_bin, ev_c, add_int, List.getElem?_cons_succ, List.getElem?_cons_zero, jn, R.of_some, R.bind_ok, sld_tup, cut, ti_tup, e1, lcEnd_ok hz]
    have hat : ∀ (c0 c1 c2 : Int), ((h ++ [Cell.lst (ps.map dPr)]).set n (Bag c0 c1 c2 T))[h.length]? = some (.lst (ps.map dPr)) := fun c0 c1 c2 => by
      rw [List.getElem?_set, if_neg (by omega)]; simp
    have ex : mExtend (.ref h.length) [.lst (ns.map dPr)] ((h ++ [Cell.lst (ps.map dPr)]).set n (Bag c0 c1 c2 T)) = some (.non, (h ++ [Cell.lst ((ps ++ ns).map dPr)]).set n (Bag c0 c1 c2 T)) := by
      unfold mExtend cellL
      simp only [hat]
      simp only [lk_lst]
      rw [if_pos (by rw [sizeLine_eq]; simp; omega)]
      congr 2
      rw [← set_app hn, ← set_app hn, List.set_append_right _ _ (by simp)]
      simp
    have bd : b2__law_alphabet [some (.ref n), some (dRow sg), some (.ref h.length), some (.int (p.length : Nat)), some (.str a), x5] ((h ++ [Cell.lst (ps.map dPr)]).set n (Bag b0 b1 b2 T)) = .nx [some (.ref n), some (dRow sg), some (.ref h.length), some (.int (p.length : Nat)), some (.str a), x5] ((h ++ [Cell.lst ((ps ++ ns).map dPr)]).set n (Bag c0 c1 c2 T)) := by
      unfold b2__law_alphabet
      simp only [ev_sExpr, ev_bm, ev_var, ev_cons, ev_nil, List.getElem?_cons_succ, List.getElem?_cons_zero, jn, R.of_some, R.bind_ok, ty_cell (hat _ _ _), if_true, cc, ex, R.toS_ok]
    rw [forL_nx tg bd]
    exact ih
theorem clC_bag {m : Nat} {b0 b1 b2 : Int} : clC m (Bag b0 b1 b2 T) := ⟨trivial, trivial, trivial, cls_map (f := D.int) (fun _ => trivial) T, trivial⟩
theorem l_alphabet {b0 b1 b2 : Int} {sg : List Str} (hn : n < h.length) (ht : T.length ≤ 63) (hs : sg.length ≤ 4) (pw : sg.Pairwise sLt) (ok : Oks sg) :
    ∃ (A : Alp) (c0 c1 c2 : Int), sp__law_alphabet [.ref n, dRow sg] (h.set n (Bag b0 b1 b2 T)) = .ok (dAl A) (h.set n (Bag c0 c1 c2 T)) ∧ Good A ∧ A.sg = sg := by
  obtain ⟨qs, c0, c1, c2, y3, y4, y5, e, hq, hl⟩ := l_alp_loop hn ht hs pw sg [] [] b0 b1 b2 none none none rfl (by simp; omega) (by simp)
  refine ⟨⟨sg, qs⟩, c0, c1, c2, ?_, ⟨pw, hq, ok, by simp; omega⟩, rfl⟩
  refine dropAll_of' (g := [.lst (qs.map dPr)]) ?_ (by simp) ?_ ?_
  · unfold defF r__law_alphabet
    have hat : (h.set n (Bag c0 c1 c2 T) ++ [Cell.lst (qs.map dPr)])[h.length]? = some (.lst (qs.map dPr)) := by
      rw [List.getElem?_append_right (by simp)]; simp
    simp only [List.map_nil, List.length_nil] at e
    rw [← set_app hn, ← set_app hn] at e
    simp only [dRow] at e ⊢
    simp [enumL_eq, e, lk_cell hat, tupleN, dAl]
  · intro i c hi ec
    simp at hi
    rw [set_app hn, List.getElem?_set] at ec
    split at ec
    · rename_i q; subst q
      split at ec
      · cases ec; exact .inr clC_bag
      · cases ec
    · rename_i q
      rw [List.getElem?_append_left hi] at ec
      exact .inl (by rw [List.getElem?_set, if_neg q]; exact ec)
  · exact ⟨cls_map (f := D.str) (fun _ => trivial) _, cls_map (f := dPr) (fun _ => ⟨trivial, trivial, trivial⟩) _, trivial⟩
end
end W63

set_option Elab.async false
set_option linter.all false
set_option maxRecDepth 100000
set_option maxHeartbeats 1000000
namespace W63
open PySem DD
open PySem.W (dataLt keyToksAll alike alikeAll)
theorem pys_map : ∀ w : List Str, pys (w.map D.str) = w.map PyData.str
  | [] => by simp [pys]
  | a :: w => by simp [pys, py, pys_map w]
theorem py_row (w : List Str) : py (dRow w) = .tuple (w.map PyData.str) := by
  simp only [dRow, py, pys_map]
theorem al_strs : ∀ u v : List Str, alikeAll (u.map PyData.str) (v.map PyData.str) = true
  | [], _ => by simp [alikeAll]
  | a :: u, [] => by simp [alikeAll]
  | a :: u, b :: v => by simp [alikeAll, alike, al_strs u v]
theorem al_rows (u v : List Str) : alike (py (dRow u)) (py (dRow v)) = true := by
  rw [py_row, py_row]
  simp only [alike, al_strs]
theorem lt_rows : ∀ u v : List Str, PyProof.Rows.lexLt PyProof.Rows.itemOrd (keyToksAll (u.map PyData.str)) (keyToksAll (v.map PyData.str)) = true ↔ List.Lex sLt u v
  | [], [] => by
    rw [PyProof.Rows.lex_irrefl]
    exact ⟨fun h => (by cases h), fun h => (by cases h)⟩
  | [], b :: v => by
    constructor
    · intro _; exact .nil
    · intro _
      rw [List.map_nil, List.map_cons, PySem.W.toks_all_cons, keyToksAll, PyProof.Rows.lex_cons (O := PyProof.Rows.itemOrd)]
      rfl
  | a :: u, [] => by
    constructor
    · intro h
      rw [List.map_nil, List.map_cons, PySem.W.toks_all_cons, keyToksAll, PyProof.Rows.lex_cons (O := PyProof.Rows.itemOrd)] at h
      exact absurd (show false = true from h) Bool.false_ne_true
    · intro h; cases h
  | a :: u, b :: v => by
    have e := PySem.W.dataLt_cons (x := .str a) (y := .str b) rfl (u.map PyData.str) (v.map PyData.str)
    rw [List.map_cons, List.map_cons, e]
    by_cases h : a = b
    · subst h
      have : PyData.eqv (.str a) (.str a) = true := by simp [PyData.eqv]
      rw [if_pos this, lt_rows u v]
      constructor
      · exact .cons
      · intro q
        cases q with
        | cons q => exact q
        | rel q => exact absurd q (sLt_ir a)
    · have : ¬ PyData.eqv (.str a) (.str b) = true := by simpa [PyData.eqv] using h
      rw [if_neg this, lt_strD, decide_eq_true_eq]
      constructor
      · exact .rel
      · intro q
        cases q with
        | cons q => exact absurd rfl h
        | rel q => exact q
theorem lt_rowD {u v : List Str} : dataLt (py (dRow u)) (py (dRow v)) = true ↔ List.Lex sLt u v := by
  rw [py_row, py_row, PySem.W.dataLt_tuple, lt_rows]
theorem lex_ir (u : List Str) : ¬ List.Lex sLt u u := by
  induction u with
  | nil => intro h; cases h
  | cons a u ih =>
    intro h
    cases h with
    | cons q => exact ih q
    | rel q => exact sLt_ir a q
theorem lex_as : ∀ u v : List Str, List.Lex sLt u v → ¬ List.Lex sLt v u
  | [], _, _, k => by cases k
  | a :: u, v, h, k => by
    cases h with
    | cons q => cases k with
      | cons r => exact lex_as _ _ q r
      | rel r => exact sLt_ir a r
    | rel q => cases k with
      | cons r => exact sLt_ir a q
      | rel r => exact sLt_as _ _ q r
theorem sLt_tri {a b : Str} (h1 : ¬ sLt a b) (h2 : ¬ sLt b a) : a = b := by
  have e1 : a.cps.toList = b.cps.toList := List.le_antisymm (List.not_lt.mp h2) (List.not_lt.mp h1)
  have e2 : a.cps = b.cps := Array.toList_inj.mp e1
  cases a; cases b; simp_all
theorem lex_tri : ∀ u v : List Str, ¬ List.Lex sLt u v → ¬ List.Lex sLt v u → u = v
  | [], [], _, _ => rfl
  | [], b :: v, h, _ => absurd .nil h
  | a :: u, [], _, h => absurd .nil h
  | a :: u, b :: v, h1, h2 => by
    have e : a = b := sLt_tri (fun q => h1 (.rel q)) (fun q => h2 (.rel q))
    subst e
    rw [lex_tri u v (fun q => h1 (.cons q)) (fun q => h2 (.cons q))]
theorem lex_tr : ∀ u v w : List Str, List.Lex sLt u v → List.Lex sLt v w → List.Lex sLt u w
  | [], _, [], _, k => by cases k
  | [], _, c :: w, _, _ => .nil
  | a :: u, v, w, h, k => by
    cases h with
    | cons q => cases k with
      | cons r => exact .cons (lex_tr _ _ _ q r)
      | rel r => exact .rel r
    | rel q => cases k with
      | cons r => exact .rel q
      | rel r => exact .rel (sLt_tr q r)
theorem perm_rows {l m : List (List Str)} (hl : l.Pairwise (List.Lex sLt)) (p : l.Perm m) : sortD (m.map dRow) = l.map dRow := by
  have e : sortD (m.map dRow) = (m.mergeSort fun a b => !dataLt (py (dRow b)) (py (dRow a))).map dRow := by
    unfold sortD
    rw [List.map_mergeSort (r := fun a b => !dataLt (py (dRow b)) (py (dRow a)))]
    intro a _ b _
    rw [PySem.W.dataLe_eq]
    simp only [cond_false]
  rw [e]
  congr 1
  have hs := List.pairwise_mergeSort (le := fun a b : List Str => !dataLt (py (dRow b)) (py (dRow a))) (fun a b c h1 h2 => by
    simp only [Bool.not_eq_true', Bool.eq_false_iff, ne_eq, lt_rowD] at *
    intro h
    by_cases q : List.Lex sLt b c
    · exact h1 (lex_tr _ _ _ q h)
    · have := lex_tri _ _ q h2; subst this; exact h1 h) (fun a b => by
    cases q : dataLt (py (dRow b)) (py (dRow a)) with
    | false => simp
    | true =>
      have := lex_as _ _ (lt_rowD.mp q)
      have : dataLt (py (dRow a)) (py (dRow b)) = false := by rw [Bool.eq_false_iff, ne_eq, lt_rowD]; exact this
      simp [this]) m
  have pm := List.mergeSort_perm m (fun a b => !dataLt (py (dRow b)) (py (dRow a)))
  have ndl : l.Nodup := hl.imp fun {a b} q e => by subst e; exact lex_ir a q
  have nd : (m.mergeSort fun a b => !dataLt (py (dRow b)) (py (dRow a))).Nodup := pm.nodup_iff.mpr (p.nodup_iff.mp ndl)
  refine Tr.same_sorted lex_ir lex_as ?_ hl fun x => by rw [pm.mem_iff, p.mem_iff]
  have := hs.and nd
  refine this.imp fun {a b} ⟨h1, h2⟩ => ?_
  simp only [Bool.not_eq_true', Bool.eq_false_iff, ne_eq, lt_rowD] at h1
  by_cases q : List.Lex sLt a b
  · exact q
  · exact absurd (lex_tri _ _ q h1) h2
theorem sortB_rows {l : List (List Str)} (ho : ∀ w ∈ l, Oks w) (hn : l.length < 2 ∨ ∀ w ∈ l, w ≠ []) : sortB (l.map dRow) = true := by
  unfold sortB
  simp only [Bool.and_eq_true, Bool.or_eq_true, List.all_eq_true, decide_eq_true_eq, List.mem_map]
  refine ⟨⟨?_, ?_⟩, ?_⟩
  · rintro _ ⟨a, ha, rfl⟩; exact okE_row (n := 57) (ho a ha)
  · rintro _ ⟨a, ha, rfl⟩ _ ⟨b, hb, rfl⟩; exact al_rows a b
  · rcases hn with hn | hn
    · exact .inl (.inl (by simpa using hn))
    · refine .inl (.inr ?_)
      rintro _ ⟨a, ha, rfl⟩
      cases a with
      | nil => exact absurd rfl (hn _ ha)
      | cons x r => rfl
end W63

set_option Elab.async false
set_option linter.all false
set_option maxRecDepth 100000
set_option maxHeartbeats 1000000
namespace W63
open PySem DD
/-! ### the class: cells -/
def hC (h : Hea) (F L : List (List Str)) : Hea := h ++ [.dic true (F.map fun v => (dRow v, D.bl true)), .lst (L.map dRow)]
section
variable {h : Hea} {F L : List (List Str)}
theorem hC0 : (hC h F L)[h.length]? = some (.dic true (F.map fun v => (dRow v, D.bl true))) := by simp [hC]
theorem hC1 : (hC h F L)[h.length + 1]? = some (.lst (L.map dRow)) := by simp [hC]
theorem okK_row (w : List Str) : okK true (dRow w) = true := by
  have : ∀ w : List Str, (keysD (w.map D.str)).isSome = true := fun w => by
    induction w with
    | nil => rfl
    | cons a w ih => 
      obtain ⟨l, hl⟩ := Option.isSome_iff_exists.mp ih
      simp [keysD, keyD, hl]
  exact this w
theorem dicC : dicOf (hC h F L) (.ref h.length) = some (true, F.map dRow, F.map fun _ => D.bl true) := by
  unfold dicOf
  simp only [hC0]
  simp
theorem mem_rows {v : List Str} {l : List (List Str)} : dRow v ∈ l.map dRow ↔ v ∈ l := by
  rw [List.mem_map]
  exact ⟨fun ⟨a, ha, e⟩ => by rw [← row_inj.mp e]; exact ha, fun h => ⟨v, h, rfl⟩⟩
theorem notinC {o : List Str} : notInG (dRow o) (.ref h.length) (hC h F L) = some (.bl (!decide (o ∈ F))) := by
  unfold notInG
  rw [dicC]
  simp only [okK_row, if_true]
  congr 3
  exact decide_eq_decide.mpr mem_rows
theorem lenC : lenG [.ref h.length] (hC h F L) = some (.int (F.length : Nat)) := by
  unfold lenG
  simp [dicC]
theorem putC {o : List Str} (hn : o ∉ F) (hl : F.length ≤ 5000) : putIx (.ref h.length) (dRow o) (.bl true) (hC h F L) = some (hC h (F ++ [o]) L) := by
  unfold putIx
  simp only [hC0]
  rw [if_pos ⟨okK_row o, by rw [sizeLine_eq]; simp; omega⟩]
  have : putDD (F.map fun v => (dRow v, D.bl true)) (dRow o) (.bl true) = (F ++ [o]).map fun v => (dRow v, D.bl true) := by
    unfold putDD
    rw [if_neg]
    · simp
    · simp only [List.any_map, List.any_eq_true, Function.comp, decide_eq_true_eq, not_exists, not_and]
      intro v hv e
      exact hn (by rw [← row_inj.mp e]; exact hv)
  rw [this]
  unfold hC
  rw [List.set_append_right _ _ (Nat.le_refl _)]
  simp
theorem appC {o : List Str} (hl : L.length ≤ 5000) : mAppend (.ref (h.length + 1)) [dRow o] (hC h F L) = some (.non, hC h F (L ++ [o])) := by
  have e := append_cell (h := h ++ [.dic true (F.map fun v => (dRow v, D.bl true))]) (xs := L.map dRow) (g := []) (x := dRow o) (by simp; omega)
  simp only [List.length_append, List.length_singleton, List.append_assoc, List.singleton_append] at e
  unfold hC
  rw [e]
  simp
theorem popC {v : List Str} : mPop (.ref (h.length + 1)) [] (hC h F (L ++ [v])) = some (dRow v, hC h F L) := by
  unfold mPop cellL
  simp only [hC1]
  simp
  unfold hC
  rw [List.set_append_right _ _ (by omega)]
  simp
theorem okE_lst {n : Nat} {xs : List D} (h : ∀ x ∈ xs, okE n x = true) : okE (n + 1) (.lst xs) = true := by
  simp only [okE, List.all_eq_true]
  exact h
theorem neC (ho : ∀ w ∈ L, Oks w) : neD (.ref (h.length + 1)) (.lst []) (hC h F L) = some (.bl (!decide (L = []))) := by
  have ev : view (hC h F L) (.ref (h.length + 1)) = .lst (L.map dRow) := by
    unfold view
    simp only [hC1]
  rw [ne_gen (by
    rw [ev]
    exact okE_lst (n := 59) (okE_rows (n := 57) ho)) (by simp [okE]), ev]
  congr 3
  exact decide_eq_decide.mpr (by simp)
/-! ### one neighbour -/
def nb (A : Alp) (v : List Str) (k : Nat) : Option (List Str) := match v.drop k with
  | a :: b :: q => if free A a b = true then some (v.take k ++ b :: a :: q) else none
  | _ => none
theorem ev_call2 {gf : List D → Hea → R D} {fa : En → Hea → R (List D)} {e : En} {h : Hea} : fCall gf fa e h = (fa e h).bind fun as h1 => (gf as h1).nox := rfl
theorem l_nb {A : Alp} (G : Good A) {v : List Str} {k : Nat} {x1 x2 x7 : Option D} {N : Nat} (hk : k + 1 < v.length) (hs : ∀ a ∈ v, a ∈ A.sg) (hz : v.length ≤ 1000) (hF : F.length < 800) (hL : L.length ≤ 5000) : 
    b1__law_class [some (dAl A), x1, some (.int 800), some (.ref h.length), some (.ref (h.length + 1)), some (dRow v), some (.int (k : Nat)), x7] (hC h F L) = match nb A v k with
      | some o => .nx [some (dAl A), x1, some (.int 800), some (.ref h.length), some (.ref (h.length + 1)), some (dRow v), some (.int (k : Nat)), some (dRow o)] (if o ∈ F then hC h F L else hC h (F ++ [o]) (L ++ [o]))
      | none => .nx [some (dAl A), x1, some (.int 800), some (.ref h.length), some (.ref (h.length + 1)), some (dRow v), some (.int (k : Nat)), x7] (hC h F L) := by
  have d0 : v.drop k = v[k] :: v[k + 1] :: v.drop (k + 2) := by
    rw [List.drop_eq_getElem_cons (by omega), List.drop_eq_getElem_cons (by omega)]
  have g0 : getIx (dRow v) (.int (k : Nat)) (hC h F L) = some (.str v[k]) := by
    rw [gi_tup, atI_nat, List.getElem?_map, List.getElem?_eq_getElem (by omega)]; rfl
  have g1 : getIx (dRow v) (.int ((k : Nat) + 1)) (hC h F L) = some (.str v[k + 1]) := by
    rw [show ((k : Nat) + 1 : Int) = ((k + 1 : Nat) : Int) by omega, gi_tup, atI_nat, List.getElem?_map, List.getElem?_eq_getElem (by omega)]; rfl
  have c0 : cutD (v.map D.str) none (some (k : Nat)) = (v.take k).map D.str := by rw [cut_to, List.map_take]
  have c1 : cutD (v.map D.str) (some ((k : Nat) + 2)) none = (v.drop (k + 2)).map D.str := by
    rw [show ((k : Nat) + 2 : Int) = ((k + 2 : Nat) : Int) by omega, cut_from, List.map_drop]
  have k0 : PyData.strOk v[k] = true := G.ok _ (hs _ (List.getElem_mem _))
  have k1 : PyData.strOk v[k + 1] = true := G.ok _ (hs _ (List.getElem_mem _))
  have en : nb A v k = if free A v[k] v[k + 1] = true then some (v.take k ++ v[k + 1] :: v[k] :: v.drop (k + 2)) else none := by
    unfold nb; rw [d0]
  have fr := l_is_free (h := hC h F L) G k0 k1
  generalize ho : v.take k ++ v[k + 1] :: v[k] :: v.drop (k + 2) = o at en
  have ad1 : addD (.tup ((v.take k).map D.str)) (.tup [.str v[k + 1], .str v[k]]) (hC h F L) = some (.tup ((v.take k ++ [v[k + 1], v[k]]).map D.str)) := by
    rw [add_tup (by simp; omega)]; simp
  have ad2 : addD (.tup ((v.take k ++ [v[k + 1], v[k]]).map D.str)) (.tup ((v.drop (k + 2)).map D.str)) (hC h F L) = some (dRow o) := by
    rw [add_tup (by simp; omega), ← ho]; simp
  generalize v[k] = a at *
  generalize v[k + 1] = b at *
  rw [en]
  unfold b1__law_class
  simp only [dRow] at g0 g1
  cases hf : free A a b with
  | false =>
    rw [hf] at fr
    simp only [ev_sIf, ev_asB, ev_call, ev_cons, ev_bin, ev_var, ev_c, ev_nil, ev_sNil, List.getElem?_cons_succ, List.getElem?_cons_zero, jn, R.of_some, R.bind_ok, add_int, g0, g1, fr, R.nox_ok, R.toS_ok, Bool.false_eq_true, if_false]
  | true =>
    rw [hf] at fr
    have ni := notinC (h := h) (F := F) (L := L) (o := o)
    have ge : geD (.int (F.length : Nat)) (.int 800) (hC h F L) = some (.bl false) := by
      rw [ge_int]; simp; omega
    simp only [ev_sIf, ev_asB, ev_call, ev_cons, ev_bin, ev_var, ev_c, ev_nil, ev_sNil, List.getElem?_cons_succ, List.getElem?_cons_zero, jn, R.of_some, R.bind_ok, add_int, g0, g1, fr, R.nox_ok, R.toS_ok, if_true, ev_sCons, ev_sAsg, ev_gN, ev_slice, ev_oN, ev_oS, ev_nary, sld_tup, c0, c1, dtup (as := [D.str b, D.str a]) (by simp), ad1, ad2, RS.seq_nx, List.set_cons_succ, List.set_cons_zero, ni]
    by_cases hm : o ∈ F
    · simp only [hm, decide_true, Bool.not_true, Bool.false_eq_true, if_false, if_true]
    · simp only [hm, decide_false, Bool.not_false, if_true, if_false, lenC, ge, R.of_some, R.bind_ok, R.toS_ok, Bool.false_eq_true, RS.seq_nx, ev_sPut, ev_sExpr, ev_bm, ev_cons, ev_nil, ev_var, ev_c, List.getElem?_cons_succ, List.getElem?_cons_zero, jn, putC hm (by omega : F.length ≤ 5000), ty_cell hC1, appC hL, ev_sCons]
end
end W63

set_option Elab.async false
set_option linter.all false
set_option maxRecDepth 100000
set_option maxHeartbeats 1000000
namespace W63
open PySem DD
theorem nd_le {α : Type} [DecidableEq α] : ∀ {l m : List α}, l.Nodup → (∀ x ∈ l, x ∈ m) → l.length ≤ m.length
  | [], _, _, _ => Nat.zero_le _
  | a :: l, m, hn, hs => by
    rw [List.nodup_cons] at hn
    have ha := hs a List.mem_cons_self
    have := nd_le (l := l) (m := m.erase a) hn.2 fun x hx => (List.mem_erase_of_ne (fun e => hn.1 (by rw [← e]; exact hx))).mpr (hs x (List.mem_cons_of_mem _ hx))
    rw [List.length_erase_of_mem ha] at this
    have hp : 0 < m.length := List.length_pos_of_mem ha
    simp only [List.length_cons]; omega
def fac : Nat → Nat
  | 0 => 1
  | n + 1 => (n + 1) * fac n
theorem sum_le {α : Type} {f : α → Nat} {c : Nat} : ∀ {l : List α}, (∀ a ∈ l, f a ≤ c) → (l.map f).sum ≤ l.length * c
  | [], _ => by simp
  | a :: l, h => by
    have := sum_le (l := l) fun b hb => h b (List.mem_cons_of_mem _ hb)
    have := h a List.mem_cons_self
    simp only [List.map_cons, List.sum_cons, List.length_cons, Nat.succ_mul]; omega
theorem cnt_fac {A : Alp} (G : Good A) : ∀ (n : Nat) (w : List Str), w.length = n → (∀ a ∈ w, a ∈ A.sg) → Tr.cnt (dp A) A.sg w ≤ fac n
  | 0, w, hn, _ => by
    have : w = [] := List.eq_nil_of_length_eq_zero hn
    subst this; exact Nat.le_refl 1
  | n + 1, w, hn, hw => by
    have hne : w ≠ [] := fun e => by rw [e] at hn; simp at hn
    rw [Tr.cnt_cons hne]
    have hf : (Tr.firsts (dp A) A.sg w).length ≤ n + 1 := by
      rw [← hn]
      exact nd_le (Tr.firsts_nd (nd_of G.pw) w) fun a ha => Tr.fst_mem (Tr.mem_firsts.mp ha).2
    refine Nat.le_trans (sum_le (c := fac n) fun a ha => ?_) (Nat.mul_le_mul_right _ hf)
    have hm := Tr.fst_mem (Tr.mem_firsts.mp ha).2
    exact cnt_fac G n _ (Tr.len_erase hm hn) (Tr.erase_sub hw)
theorem nb_eqv {A : Alp} {v o : List Str} {k : Nat} (e : nb A v k = some o) : Tr.Eqv (dp A) o v := by
  unfold nb at e
  split at e
  · rename_i a b q hd
    split at e
    · rename_i hf
      cases e
      have : v = v.take k ++ a :: b :: q := by rw [← hd, List.take_append_drop]
      have h1 : Tr.Eqv (dp A) (v.take k ++ b :: a :: q) (v.take k ++ a :: b :: q) := Tr.Eqv.app _ (.one (.sw (by
        unfold dp free at *
        rcases minS_maxS b a with ⟨h1, h2⟩ | h
        · rw [h1, h2]; simpa using hf
        · rw [h]; rw [h] at hf; simpa using hf)))
      rw [← this] at h1
      exact h1
    · cases e
  · cases e
theorem eq1_nb {A : Alp} {u x : List Str} (e : Tr.Eq1 (dp A) u x) : ∃ k, k + 1 < u.length ∧ nb A u k = some x := by
  induction e with
  | @sw a b w h =>
    refine ⟨0, by simp, ?_⟩
    have : free A a b = true := by unfold dp at h; simpa using h
    simp [nb, this]
  | @cons a u v h ih =>
    obtain ⟨k, hk, e⟩ := ih
    refine ⟨k + 1, by simp; omega, ?_⟩
    unfold nb at e ⊢
    rw [List.drop_succ_cons]
    split at e
    · rename_i p q r hd
      split at e
      · rename_i hf
        rw [if_pos hf]
        cases e
        simp
      · cases e
    · cases e
/-! ### the loops -/
structure CI (A : Alp) (w : List Str) (F L : List (List Str)) : Prop where
  nd : F.Nodup
  eq : ∀ v ∈ F, Tr.Eqv (dp A) v w
  sub : ∀ v ∈ L, v ∈ F
  le : L.length ≤ F.length
theorem CI.sz {A : Alp} (G : Good A) {w : List Str} (W : GoodW A w) (h6 : w.length ≤ 6) {F L : List (List Str)} (c : CI A w F L) : F.length ≤ Tr.cnt (dp A) A.sg w ∧ Tr.cnt (dp A) A.sg w ≤ 720 := by
  refine ⟨nd_le c.nd fun v hv => (Tr.mem_lin (dp_dep G) W.sub).mpr (c.eq v hv), Nat.le_trans (cnt_fac G _ w rfl W.sub) ?_⟩
  have : ∀ n, n ≤ 6 → fac n ≤ 720 := by decide
  exact this _ h6
theorem eqv_len {A : Alp} {v w : List Str} (e : Tr.Eqv (dp A) v w) : v.length = w.length := e.perm.length_eq
theorem l_cls_in {A : Alp} (G : Good A) {w : List Str} (W : GoodW A w) (h6 : w.length ≤ 6) (h : Hea) {v : List Str} (ev : Tr.Eqv (dp A) v w) (x1 : Option D) : ∀ (m k : Nat) (F L : List (List Str)) (x6 x7 : Option D), k + m ≤ v.length - 1 → CI A w F L →
    ∃ (F' L' : List (List Str)) (y6 y7 : Option D), forL g0__law_class b1__law_class (rangeL (k : Int) m) [some (dAl A), x1, some (.int 800), some (.ref h.length), some (.ref (h.length + 1)), some (dRow v), x6, x7] (hC h F L) = .nx [some (dAl A), x1, some (.int 800), some (.ref h.length), some (.ref (h.length + 1)), some (dRow v), y6, y7] (hC h F' L') ∧ CI A w F' L' ∧ (∀ o ∈ F, o ∈ F') ∧ (∀ o ∈ L, o ∈ L') ∧ (∀ o ∈ F', o ∈ F ∨ o ∈ L') ∧ L'.length + F.length = L.length + F'.length ∧ ∀ j, k ≤ j → j < k + m → ∀ o, nb A v j = some o → o ∈ F'
  | 0, k, F, L, x6, x7, _, c => ⟨F, L, x6, x7, rfl, c, fun _ h => h, fun _ h => h, fun _ h => .inl h, rfl, fun j h1 h2 => by omega⟩
  | m + 1, k, F, L, x6, x7, hk, c => by
    have sz := c.sz G W h6
    have vs : ∀ a ∈ v, a ∈ A.sg := fun a ha => W.sub a (ev.perm.mem_iff.mp ha)
    have vz : v.length ≤ 1000 := by rw [eqv_len ev]; exact W.sz
    have cle := c.le
    have tg : g0__law_class (.int (k : Nat)) [some (dAl A), x1, some (.int 800), some (.ref h.length), some (.ref (h.length + 1)), some (dRow v), x6, x7] (hC h F L) = .nx [some (dAl A), x1, some (.int 800), some (.ref h.length), some (.ref (h.length + 1)), some (dRow v), some (.int (k : Nat)), x7] (hC h F L) := by unfold g0__law_class; simp
    have bd := l_nb (h := h) (F := F) (L := L) (x1 := x1) (x2 := none) (x7 := x7) (N := 0) (k := k) G (by omega) vs vz (by omega) (by omega)
    rw [rangeL_succ]
    cases en : nb A v k with
    | none =>
      rw [en] at bd
      obtain ⟨F', L', y6, y7, e, c', s1, s2, s3, s4, s5⟩ := l_cls_in G W h6 h ev x1 m (k + 1) F L (some (.int (k : Nat))) x7 (by omega) c
      refine ⟨F', L', y6, y7, by rw [forL_nx tg bd]; exact e, c', s1, s2, s3, s4, fun j j1 j2 o eo => ?_⟩
      by_cases q : j = k
      · rw [q, en] at eo; cases eo
      · exact s5 j (by omega) (by omega) o eo
    | some o =>
      rw [en] at bd
      by_cases hm : o ∈ F
      · simp only [if_pos hm] at bd
        obtain ⟨F', L', y6, y7, e, c', s1, s2, s3, s4, s5⟩ := l_cls_in G W h6 h ev x1 m (k + 1) F L (some (.int (k : Nat))) (some (dRow o)) (by omega) c
        refine ⟨F', L', y6, y7, by rw [forL_nx tg bd]; exact e, c', s1, s2, s3, s4, fun j j1 j2 o' eo => ?_⟩
        by_cases q : j = k
        · rw [q, en] at eo; cases eo; exact s1 _ hm
        · exact s5 j (by omega) (by omega) o' eo
      · simp only [if_neg hm] at bd
        have c2 : CI A w (F ++ [o]) (L ++ [o]) := by
          refine ⟨?_, fun u hu => ?_, fun u hu => ?_, by simp; omega⟩
          · rw [List.nodup_append]
            exact ⟨c.nd, by simp, fun x hx y hy => by rw [List.mem_singleton.mp hy]; exact fun e => hm (by rw [← e]; exact hx)⟩
          · rcases List.mem_append.mp hu with q | q
            · exact c.eq u q
            · rw [List.mem_singleton.mp q]; exact (nb_eqv en).trans ev
          · rcases List.mem_append.mp hu with q | q
            · exact List.mem_append_left _ (c.sub u q)
            · exact List.mem_append_right _ q
        obtain ⟨F', L', y6, y7, e, c', s1, s2, s3, s4, s5⟩ := l_cls_in G W h6 h ev x1 m (k + 1) (F ++ [o]) (L ++ [o]) (some (.int (k : Nat))) (some (dRow o)) (by omega) c2
        refine ⟨F', L', y6, y7, by rw [forL_nx tg bd]; exact e, c', fun u hu => s1 u (List.mem_append_left _ hu), fun u hu => s2 u (List.mem_append_left _ hu), fun u hu => ?_, ?_, fun j j1 j2 o' eo => ?_⟩
        · rcases s3 u hu with q | q
          · rcases List.mem_append.mp q with q | q
            · exact .inl q
            · exact .inr (s2 u (List.mem_append_right _ q))
          · exact .inr q
        · simp at s4; omega
        · by_cases q : j = k
          · rw [q, en] at eo; cases eo; exact s1 _ (by simp)
          · exact s5 j (by omega) (by omega) o' eo
end W63

set_option Elab.async false
set_option linter.all false
set_option maxRecDepth 100000
set_option maxHeartbeats 1000000
namespace W63
open PySem DD
theorem small_pred {n : Nat} (h : n ≤ 1000000) : smallI ((n : Int) - 1) := by
  unfold smallI
  have e : (2 : Int) ^ 62 = 4611686018427387904 := rfl
  rw [e]
  omega
theorem l_cls_out {A : Alp} (G : Good A) {w : List Str} (W : GoodW A w) (h6 : w.length ≤ 6) (h : Hea) (x1 : Option D) : ∀ (n : Nat) (F L : List (List Str)) (x5 x6 x7 : Option D), 2 * (Tr.cnt (dp A) A.sg w - F.length) + L.length ≤ n → CI A w F L → (∀ v ∈ F, v ∉ L → ∀ k o, k + 1 < v.length → nb A v k = some o → o ∈ F) →
    ∃ (F' : List (List Str)) (e' : En), whileW t2__law_class b3__law_class [some (dAl A), x1, some (.int 800), some (.ref h.length), some (.ref (h.length + 1)), x5, x6, x7] (hC h F L) = .nx e' (hC h F' []) ∧ e'[3]? = some (some (.ref h.length)) ∧ CI A w F' [] ∧ (∀ o ∈ F, o ∈ F') ∧ (∀ v ∈ F', ∀ k o, k + 1 < v.length → nb A v k = some o → o ∈ F') := by
  intro n
  induction n with
  | zero =>
    intro F L x5 x6 x7 hn c cl
    have : L = [] := List.eq_nil_of_length_eq_zero (by omega)
    subst this
    refine ⟨F, _, whileW_end ?_, rfl, c, fun _ h => h, fun v hv => cl v hv (by simp)⟩
    unfold t2__law_class
    have e := neC (h := h) (F := F) (L := []) (by simp)
    simp only [ev_asB, ev_bin, ev_var, ev_nary, ev_nil, List.getElem?_cons_succ, List.getElem?_cons_zero, jn, R.of_some, R.bind_ok, dlst (as := []) (by simp), e, decide_true, Bool.not_true]
  | succ n ih =>
    intro F L x5 x6 x7 hn c cl
    have lo : ∀ v ∈ L, Oks v := fun v hv a ha => G.ok a (W.sub a ((c.eq v (c.sub v hv)).perm.mem_iff.mp ha))
    have e := neC (h := h) (F := F) (L := L) lo
    rcases List.eq_nil_or_concat L with q | ⟨L0, v, q⟩
    · subst q
      refine ⟨F, _, whileW_end ?_, rfl, c, fun _ h => h, fun v hv => cl v hv (by simp)⟩
      unfold t2__law_class
      simp only [ev_asB, ev_bin, ev_var, ev_nary, ev_nil, List.getElem?_cons_succ, List.getElem?_cons_zero, jn, R.of_some, R.bind_ok, dlst (as := []) (by simp), e, decide_true, Bool.not_true]
    · rw [List.concat_eq_append] at q
      subst q
      have tt : t2__law_class [some (dAl A), x1, some (.int 800), some (.ref h.length), some (.ref (h.length + 1)), x5, x6, x7] (hC h F (L0 ++ [v])) = .ok true (hC h F (L0 ++ [v])) := by
        unfold t2__law_class
        have : decide (L0 ++ [v] = []) = false := by simp
        simp only [ev_asB, ev_bin, ev_var, ev_nary, ev_nil, List.getElem?_cons_succ, List.getElem?_cons_zero, jn, R.of_some, R.bind_ok, dlst (as := []) (by simp), e, this, Bool.not_false]
      have hv : v ∈ F := c.sub v (by simp)
      have ev := c.eq v hv
      have c0 : CI A w F L0 := ⟨c.nd, c.eq, fun u hu => c.sub u (List.mem_append_left _ hu), by have := c.le; simp at this; omega⟩
      obtain ⟨F', L', y6, y7, e1, c', s1, s2, s3, s4, s5⟩ := l_cls_in G W h6 h ev x1 (v.length - 1) 0 F L0 x6 x7 (by omega) c0
      have bd : b3__law_class [some (dAl A), x1, some (.int 800), some (.ref h.length), some (.ref (h.length + 1)), x5, x6, x7] (hC h F (L0 ++ [v])) = .nx [some (dAl A), x1, some (.int 800), some (.ref h.length), some (.ref (h.length + 1)), some (dRow v), y6, y7] (hC h F' L') := by
        unfold b3__law_class
        have hr : iRange1 (aCons (fBin subD (fNary lenG (aCons (fVar 5) (aNil))) (fC (.int 1))) (aNil)) [some (dAl A), x1, some (.int 800), some (.ref h.length), some (.ref (h.length + 1)), some (dRow v), x6, x7] (hC h F L0) = .ok (rangeL 0 (v.length - 1)) (hC h F L0) := by
          rw [rg1_ok (j := (v.length : Int) - 1) (h1 := hC h F L0) ?_ (small_pred (by rw [eqv_len ev]; have := W.sz; omega))]
          · congr 2; omega
          · simp only [ev_cons, ev_bin, ev_nary, ev_var, ev_c, ev_nil, List.getElem?_cons_succ, List.getElem?_cons_zero, jn, R.of_some, R.bind_ok, len_tup, List.length_map, sub_int]
        simp only [ev_sCons, ev_sAsg, ev_bm, ev_var, ev_nil, List.getElem?_cons_succ, List.getElem?_cons_zero, jn, R.of_some, R.bind_ok, ty_cell hC1, if_true, popC, R.toS_ok, ev_gN, List.set_cons_succ, List.set_cons_zero, RS.seq_nx, ev_sFor, hr]
        exact e1
      have cle := c'.le
      have z1 := c.sz G W h6
      have z2 := c'.sz G W h6
      have z3 := nd_le c.nd s1
      obtain ⟨F2, e', e2, e3, c2, t1, t2⟩ := ih F' L' (some (dRow v)) y6 y7 (by simp at hn; omega) c' (fun u hu hn' k o hk eo => by
        rcases s3 u hu with q | q
        · by_cases quv : u = v
          · subst quv
            exact s5 k (Nat.zero_le _) (by omega) o eo
          · refine s1 o (cl u q (fun hm => ?_) k o hk eo)
            rcases List.mem_append.mp hm with hm | hm
            · exact hn' (s2 u hm)
            · exact quv (List.mem_singleton.mp hm)
        · exact absurd q hn')
      exact ⟨F2, e', by rw [whileW_nx tt bd]; exact e2, e3, c2, fun o ho => t1 o (s1 o ho), t2⟩
theorem cls_all {A : Alp} {F : List (List Str)} (cl : ∀ v ∈ F, ∀ k o, k + 1 < v.length → nb A v k = some o → o ∈ F) {u x : List Str} (e : Tr.Eqv (dp A) u x) : u ∈ F → x ∈ F := by
  induction e with
  | refl => exact id
  | step h _ ih =>
    intro hu
    obtain ⟨k, hk, ek⟩ := eq1_nb h
    exact ih (cl _ hu k _ hk ek)
theorem l_class {A : Alp} (G : Good A) {w : List Str} (W : GoodW A w) (h6 : w.length ≤ 6) {h : Hea} : sp__law_class [dAl A, dRow w, .int 800] h = .ok (.lst ((Tr.lin (dp A) A.sg w).map dRow)) h := by
  have c0 : CI A w [w] [w] := ⟨by simp, by simp; exact .refl, by simp, Nat.le_refl _⟩
  obtain ⟨F, e', e1, e2, c, s1, s2⟩ := l_cls_out G W h6 h (some (dRow w)) _ [w] [w] none none none (Nat.le_refl _) c0 (by simp)
  have hp : (Tr.lin (dp A) A.sg w).Perm F := by
    refine (List.perm_ext_iff_of_nodup ((Tr.lin_pw G.pw w).imp fun {a b} q e => by subst e; exact lex_ir a q) c.nd).mpr fun x => ?_
    rw [Tr.mem_lin (dp_dep G) W.sub]
    exact ⟨fun e => cls_all s2 (e.symm (dp_dep G)) (s1 w (by simp)), c.eq x⟩
  have hs : sortedN [.ref h.length] (hC h F []) = some (.lst ((Tr.lin (dp A) A.sg w).map dRow)) := by
    unfold sortedN sortOf
    simp only [dicC]
    rw [if_pos (sortB_rows (fun v hv a ha => G.ok a (W.sub a ((c.eq v hv).perm.mem_iff.mp ha))) ?_), perm_rows (Tr.lin_pw G.pw w) hp]
    by_cases hw : w = []
    · left
      have := (c.sz G W h6).1
      rw [hw, Tr.cnt_nil] at this
      omega
    · exact .inr fun v hv e => hw (by have := eqv_len (c.eq v hv); rw [e] at this; exact List.eq_nil_of_length_eq_zero this.symm)
  refine dropAll_of (g := [.dic true (F.map fun v => (dRow v, D.bl true)), .lst []]) ?_ (show cls h.length (_ : List D) from cls_map (f := dRow) (fun a => cls_map (f := D.str) (fun _ => trivial) a) _)
  unfold defF r__law_class
  have one : fOneT (fVar 1) (fC (.bl true)) [some (dAl A), some (dRow w), some (.int 800), none, none, none, none, none] h = .ok (.ref h.length) (h ++ [.dic true [(dRow w, .bl true)]]) := by
    unfold fOneT
    simp only [ev_var, ev_c, List.getElem?_cons_succ, List.getElem?_cons_zero, jn, R.of_some, R.bind_ok, okK_row, if_true]
  have one' : (fun (e : En) (h : Hea) => (fOneT (fVar 1) (fC (.bl true)) e h).nox) [some (dAl A), some (dRow w), some (.int 800), none, none, none, none, none] h = .ok (.ref h.length) (h ++ [.dic true [(dRow w, .bl true)]]) := by
    simp only [one, R.nox_ok]
  have hc : h ++ [Cell.dic true [(dRow w, .bl true)]] ++ [Cell.lst [dRow w]] = hC h [w] [w] := by simp [hC]
  have hl : (h ++ [Cell.dic true [(dRow w, D.bl true)]]).length = h.length + 1 := by simp
  have z1 : ([dRow w] : List D).length ≤ sizeLine := by rw [sizeLine_eq, List.length_singleton]; decide
  have pr : ∀ k : FS, sCons (sPar 3 4 (aCons ((fun e h => (fOneT (fVar 1) (fC (.bl true)) e h).nox)) (aCons (dCell (aCons (fVar 1) (aNil))) (aNil)))) k [some (dAl A), some (dRow w), some (.int 800), none, none, none, none, none] h = k [some (dAl A), some (dRow w), some (.int 800), some (.ref h.length), some (.ref (h.length + 1)), none, none, none] (hC h [w] [w]) := fun k => by
    rw [← hc, ← hl]
    simp only [ev_sCons, ev_sPar, ev_cons, ev_nil, ev_cell, ev_var, List.getElem?_cons_succ, List.getElem?_cons_zero, jn, R.of_some, one, R.nox_ok, R.bind_ok, z1, if_true, R.toS_ok, List.set_cons_succ, List.set_cons_zero, RS.seq_nx]
  have en : ([dAl A, dRow w, D.int 800].map some ++ List.replicate (8 - [dAl A, dRow w, D.int 800].length) none) = [some (dAl A), some (dRow w), some (.int 800), none, none, none, none, none] := rfl
  rw [en, pr]
  simp only [ev_sCons, e1, RS.seq_nx, ev_sRet, ev_nary, ev_cons, ev_nil, ev_var, e2, jn, R.of_some, R.bind_ok, hs, R.toS_ok]
  rfl
end W63

set_option Elab.async false
set_option linter.all false
set_option maxRecDepth 100000
set_option maxHeartbeats 1000000
namespace W63
open PySem DD
/-! ### dependent_couples -/
theorem okE_prs {n : Nat} {l : List (Str × Str)} (h : ∀ p ∈ l, PyData.strOk p.1 = true ∧ PyData.strOk p.2 = true) : ∀ y ∈ l.map dPr, okE (n + 2) y = true := fun y hy => by
  obtain ⟨p, hp, rfl⟩ := List.mem_map.mp hy
  exact okE_pr (h p hp).1 (h p hp).2
theorem couples_len : ∀ sg : List Str, (depC.couples sg).length ≤ sg.length * sg.length
  | [] => by simp [depC.couples]
  | a :: r => by
    have := couples_len r
    simp only [depC.couples, List.length_append, List.length_map, List.length_cons, Nat.succ_mul, Nat.mul_succ]
    omega
theorem l_dc0 {x0 x2 x3 x4 x5 x6 : Option D} {sg : List Str} (h : Hea) : ∀ (r p : List Str), sg = p ++ r →
    lc2L (gT 2 (gsCons (gN 3) (gsCons (gN 4) (gsNil)))) (tOn) (iSeq (fSlice (fVar 1) (oSome (fBin addD (fVar 3) (fC (.int 1)))) (oNone))) (gN 5) (tOn) (fNary dTup (aCons (fVar 4) (aCons (fVar 5) (aNil)))) [3, 4, 5] [5] [x0, some (dRow sg), x2, x3, x4, x5, x6] (enF p.length (r.map D.str)) h = .ok ((depC.couples r).map dPr) h
  | [], p, e => rfl
  | a :: r, p, e => by
    have ih := l_dc0 (x0 := x0) (x2 := x2) (x3 := x3) (x4 := x4) (x5 := x5) (x6 := x6) (sg := sg) h r (p ++ [a]) (by rw [e]; simp)
    rw [show (p ++ [a]).length = p.length + 1 by simp] at ih
    have cut : cutD (sg.map D.str) (some ((p.length : Nat) + 1 : Int)) none = r.map D.str := by
      rw [show ((p.length : Nat) + 1 : Int) = ((p.length + 1 : Nat) : Int) by omega, cut_from, e, ← List.map_drop]
      congr 1
      rw [show p ++ a :: r = (p ++ [a]) ++ r by simp, show p.length + 1 = (p ++ [a]).length by simp, List.drop_left]
    have inner := lcL_map (fg := gN 5) (ft := tOn) (fe := fNary dTup (aCons (fVar 4) (aCons (fVar 5) (aNil)))) (vs := [5]) (e0 := [x0, some (dRow sg), x2, some (.int (p.length : Nat)), some (.str a), none, x6]) (h := h) D.str (fun _ => true) (fun b => dPr (a, b)) (l := r) fun b _ => ⟨_, rfl, rfl, fun _ => by simp [wipeE]⟩
    have ef : r.filter (fun _ => true) = r := by simp
    rw [ef] at inner
    rw [List.map_cons, enF_cons, lc2L]
    simp only [wipeE, List.foldl_cons, List.foldl_nil, List.set_cons_succ, List.set_cons_zero, ev_gT, ti_pr, List.length_cons, List.length_nil, if_true, ev_gsCons, ev_gN, RS.seq_nx, ev_gsNil, ev_tOn, R.nox_ok, R.bind_ok, ev_seq, ev_slice, ev_oS, ev_oN, ev_bin, ev_var, ev_c, List.getElem?_cons_succ, List.getElem?_cons_zero, jn, R.of_some, add_int, sld_tup, cut, ti_tup, inner, ih]
    simp [depC.couples]
theorem l_dependent {A : Alp} (G : Good A) {h : Hea} : sp_dependent_couples [dAl A] h = .ok (.tup ((depC A).map dPr)) h := by
  have hl : (depC.couples A.sg).length ≤ 10000 := Nat.le_trans (couples_len _) (Nat.mul_le_mul G.sz G.sz)
  have cok : ∀ p ∈ depC.couples A.sg, PyData.strOk p.1 = true ∧ PyData.strOk p.2 = true := fun p hp => by
    obtain ⟨h1, h2, _⟩ := (mem_couples G.pw).mp hp
    exact ⟨G.ok _ h1, G.ok _ h2⟩
  have e0 : c0_dependent_couples [some (dAl A), some (dRow A.sg), none, none, none, none, none] h = .ok (.lst ((depC.couples A.sg).map dPr)) h := by
    have e := l_dc0 (x0 := some (dAl A)) (x2 := none) (x3 := none) (x4 := none) (x5 := none) (x6 := none) (sg := A.sg) h A.sg [] rfl
    have hz : ((depC.couples A.sg).map dPr).length ≤ sizeLine := by rw [sizeLine_eq, List.length_map]; omega
    unfold c0_dependent_couples fLc2
    simp only [List.length_nil] at e
    simp only [ev_enT, ev_cons, ev_nil, ev_var, List.getElem?_cons_succ, List.getElem?_cons_zero, jn, R.of_some, R.bind_ok, ti_tup, Option.map_some, enumL_eq, e]
    exact lcEnd_ok hz
  have e1 : c1_dependent_couples [some (dAl A), some (dRow A.sg), some (.lst ((depC.couples A.sg).map dPr)), none, none, none, none] h = .ok (.lst ((depC A).map dPr)) h := by
    have e := lcL_map (fg := gN 6) (ft := asB (fBin notInG (fVar 6) (fBin getIx (fVar 0) (fC (.int 1))))) (fe := fVar 6) (vs := [6]) (e0 := [some (dAl A), some (dRow A.sg), some (.lst ((depC.couples A.sg).map dPr)), none, none, none, none]) (h := h) dPr (fun p => decide (p ∉ A.cp)) dPr (l := depC.couples A.sg) fun p hp => by
      refine ⟨_, rfl, ?_, fun _ => by simp [wipeE]⟩
      have ni : notInG (dPr p) (.tup (A.cp.map dPr)) h = some (.bl (decide (p ∉ A.cp))) := by
        rw [notin_gen (ys := A.cp.map dPr) rfl rfl (okE_pr (cok p hp).1 (cok p hp).2) (okE_prs (n := 57) (cp_ok G))]
        rw [← decide_not]
        congr 2
        exact decide_eq_decide.mpr (not_congr (by rw [vw_tup]; exact mem_prs))
      simp only [wipeE, List.foldl_cons, List.foldl_nil, ev_gN, List.set_cons_succ, List.set_cons_zero, ev_asB, ev_bin, ev_var, ev_c, List.getElem?_cons_succ, List.getElem?_cons_zero, jn, R.of_some, R.bind_ok, dal1, ni]
    have hz : ((depC A).map dPr).length ≤ sizeLine := by
      rw [sizeLine_eq, List.length_map]
      exact Nat.le_trans (List.length_filter_le _ _) (by omega)
    unfold c1_dependent_couples
    rw [ev_lc]
    simp only [ev_lst, ev_var, List.getElem?_cons_succ, List.getElem?_cons_zero, jn, R.of_some, R.bind_ok, st_lst, e]
    exact lcEnd_ok hz
  unfold sp_dependent_couples defF r_dependent_couples
  have en : ([dAl A].map some ++ List.replicate (7 - [dAl A].length) none) = [some (dAl A), none, none, none, none, none, none] := rfl
  rw [en]
  simp only [ev_sCons, ev_sAsg, ev_bin, ev_var, ev_c, List.getElem?_cons_succ, List.getElem?_cons_zero, jn, R.of_some, R.bind_ok, dal0, R.toS_ok, ev_gN, List.set_cons_succ, List.set_cons_zero, RS.seq_nx, e0, e1, ev_sRet, ev_nary, ev_cons, ev_nil, tupleN, lk_lst, Option.map_some]
end W63

set_option Elab.async false
set_option linter.all false
set_option maxRecDepth 100000
set_option maxHeartbeats 1000000
namespace W63
open PySem DD
/-! ### Left's methods -/
theorem fld_of {C : Addr} {fs : List (Str × D)} {f : Str} {h : Hea} {n : Nat} (e : h[n]? = some (.ins C fs)) : fldD C f (.ref n) h = fs.lookup f := by simp [fldD, e]
theorem meth_at {C : Addr} {m : Str} {gf : List D → Hea → R D} {fo : En → Hea → R D} {fa : En → Hea → R (List D)} {e : En} {h h1 h2 : Hea} {n : Nat} {fs : List (Str × D)} {as : List D} (ho : fo e h = .ok (.ref n) h1) (hn : h1[n]? = some (.ins C fs)) (hm : fs.lookup m = none) (ha : fa e h1 = .ok as h2) : fMeth C m gf fo fa e h = (gf (.ref n :: as) h2).nox := by
  unfold fMeth
  rw [ho]
  simp only [R.bind_ok, hn, hm, and_self, if_true, ha]
theorem depL_len (s : Str) : ∀ (cs : List (Str × Str)) (l : List Str), (cs.foldl (fun l p => if p.1 = s then l ++ [p.2] else if p.2 = s then l ++ [p.1] else l) l).length ≤ l.length + cs.length
  | [], l => by simp
  | p :: cs, l => by
    rw [List.foldl_cons]
    refine Nat.le_trans (depL_len s cs _) ?_
    simp only [List.length_cons]
    split
    · simp; omega
    · split
      · simp; omega
      · omega
def oN : Option Nat → D
  | some p => .int (p : Nat)
  | none => .non
section
variable {cL : Addr} {h : Hea} {n : Nat} {A : Alp} {w : List Str} {f : Str → Nat} {tk : D}
theorem lk_signs : List.lookup ("signs" : Str) (fLeft A w tk) = some (dRow A.sg) := by rfl
theorem lk_dep : List.lookup ("dependent" : Str) (fLeft A w tk) = some (dDep A) := by rfl
theorem lk_pla : List.lookup ("places" : Str) (fLeft A w tk) = some (dPla A w) := by rfl
theorem lk_tak : List.lookup ("taken" : Str) (fLeft A w tk) = some tk := by rfl
theorem lk_place : List.lookup ("place" : Str) (fLeft A w tk) = none := by rfl
theorem lk_cbf : List.lookup ("can_be_first" : Str) (fLeft A w tk) = none := by rfl
theorem lk_firsts : List.lookup ("firsts" : Str) (fLeft A w tk) = none := by rfl
theorem lk_take : List.lookup ("take" : Str) (fLeft A w tk) = none := by rfl
theorem kTak_get {s : Str} (hs : s ∈ A.sg) : lkD ((kTak A f).map (·.1)) ((kTak A f).map (·.2)) (.str s) = some (.int (f s : Nat)) := by
  have e1 : (kTak A f).map (·.1) = A.sg.map D.str := by simp [kTak, Function.comp_def]
  have e2 : (kTak A f).map (·.2) = A.sg.map fun s => D.int (f s : Nat) := by simp [kTak, Function.comp_def]
  rw [e1, e2]
  exact lkD_map D.str (fun s => D.int (f s : Nat)) str_inj hs
theorem tk_get (L : LeftIs cL h n A w f tk) {s : Str} (hs : s ∈ A.sg) : getIx tk (.str s) h = some (.int (f s : Nat)) := by
  rw [gi_of L.tk]
  simp only [okK_str, if_true]
  exact kTak_get hs
theorem pla_get {s : Str} (hs : s ∈ A.sg) : getIx (dPla A w) (.str s) h = some (.lst ((posF 0 w s).map fun i => D.int (i : Nat))) := by
  unfold dPla
  rw [gi_dic]
  simp only [okK_str, if_true]
  exact lkD_map D.str (fun s => D.lst ((posF 0 w s).map fun i => D.int (i : Nat))) str_inj hs
theorem dep_get {s : Str} (hs : s ∈ A.sg) : getIx (dDep A) (.str s) h = some (.lst ((depL s (depC A)).map D.str)) := by
  unfold dDep
  rw [gi_dic]
  simp only [okK_str, if_true]
  exact lkD_map D.str (fun s => D.lst ((depL s (depC A)).map D.str)) str_inj hs
theorem l_place (L : LeftIs cL h n A w f tk) {s : Str} (hs : s ∈ A.sg) : sp_Left_place cL [.ref n, .str s] h = .ok (oN (nx 0 f w s)) h := by
  unfold sp_Left_place defF r_Left_place
  have en : ([D.ref n, .str s].map some ++ List.replicate (3 - [D.ref n, .str s].length) none) = [some (.ref n), some (.str s), none] := rfl
  rw [en]
  have lt : ltD (.int (f s : Nat)) (.int ((posF 0 w s).map fun i => D.int (i : Nat)).length) h = some (.bl (decide (f s < (posF 0 w s).length))) := by
    rw [lt_int, List.length_map]
    congr 2
    exact decide_eq_decide.mpr (by omega)
  have g := atI_nat (ys := (posF 0 w s).map fun i => D.int (i : Nat)) (k := f s)
  simp only [ev_sCons, ev_sAsg, ev_bin, ev_un, ev_var, ev_c, List.getElem?_cons_succ, List.getElem?_cons_zero, jn, R.of_some, R.bind_ok, fld_of L.at_, lk_tak, lk_pla, tk_get L hs, pla_get hs, R.toS_ok, ev_gN, List.set_cons_succ, List.set_cons_zero, RS.seq_nx, ev_sRet, ev_if, ev_asB, ev_nary, ev_cons, ev_nil, len_lst, lt, gi_lst, g]
  unfold nx
  by_cases q : f s < (posF 0 w s).length
  · simp only [q, decide_true, if_true, List.getElem?_map, List.getElem?_eq_getElem q, Option.map_some, R.of_some, R.toS_ok]
    rfl
  · simp only [q, decide_false, Bool.false_eq_true, if_false, R.toS_ok]
    rw [List.getElem?_eq_none (by omega)]
    rfl
theorem is_non {d : D} : isN d .non h = some (.bl (match d with | .non => true | _ => false)) ∨ isN d .non h = none := by
  cases d <;> simp [isN]
def gtB (p : Nat) : Option Nat → Bool
  | none => true
  | some q => decide (p < q)
theorem fst_all (G : Good A) (W : GoodW A w) {s : Str} (hs : s ∈ A.sg) {p : Nat} (hp : nx 0 f w s = some p) : (((depL s (depC A)).filter fun t => decide (t ≠ s)).map fun t => gtB p (nx 0 f w t)).all id = Tr.fst (dp A) (remF f w) s := by
  rw [Bool.eq_iff_iff, fst_nx 0 f w s, List.all_map, List.all_eq_true]
  constructor
  · intro H
    refine ⟨p, hp, fun t ht hd q hq => ?_⟩
    have hm : t ∈ A.sg := W.sub t (remF_sub (nx_mem hq))
    have := H t (List.mem_filter.mpr ⟨(depL_iff G hs).mpr ⟨hm, hd⟩, by simpa using ht⟩)
    simp only [Function.comp, id, hq, gtB, decide_eq_true_eq] at this
    exact this
  · rintro ⟨p', hp', H⟩ t ht
    rw [hp] at hp'
    cases hp'
    obtain ⟨h1, h2⟩ := List.mem_filter.mp ht
    have h3 := (depL_iff G hs).mp h1
    simp only [Function.comp, id]
    cases hq : nx 0 f w t with
    | none => rfl
    | some q =>
      have := H t (by simpa using h2) h3.2 q hq
      simpa [gtB] using this
theorem bls_map {α : Type} (g : α → Bool) : ∀ l : List α, blsOf (l.map fun a => D.bl (g a)) = some (l.map g)
  | [] => rfl
  | a :: l => by simp [blsOf, bls_map g l]
theorem l_can_be_first (G : Good A) (W : GoodW A w) (L : LeftIs cL h n A w f tk) {s : Str} (hs : s ∈ A.sg) : sp_Left_can_be_first cL [.ref n, .str s] h = .ok (.bl (Tr.fst (dp A) (remF f w) s)) h := by
  unfold sp_Left_can_be_first defF r_Left_can_be_first
  have en : ([D.ref n, .str s].map some ++ List.replicate (6 - [D.ref n, .str s].length) none) = [some (.ref n), some (.str s), none, none, none, none] := rfl
  rw [en]
  have m1 : fMeth cL "place" (sp_Left_place cL) (fVar 0) (aCons (fVar 1) aNil) [some (.ref n), some (.str s), none, none, none, none] h = .ok (oN (nx 0 f w s)) h := by
    rw [meth_at (n := n) (as := [.str s]) (h1 := h) (h2 := h) rfl L.at_ lk_place rfl, l_place L hs]; rfl
  simp only [ev_sCons, ev_sAsg, m1, R.toS_ok, ev_gN, List.set_cons_succ, List.set_cons_zero, RS.seq_nx]
  cases hp : nx 0 f w s with
  | none =>
    have ff : Tr.fst (dp A) (remF f w) s = false := by
      cases q : Tr.fst (dp A) (remF f w) s with
      | false => rfl
      | true =>
        obtain ⟨p, hp', _⟩ := (fst_nx 0 f w s).mp q
        rw [hp] at hp'; cases hp'
    have i1 : isN (oN none) .non h = some (.bl true) := rfl
    simp only [ev_sIf, ev_asB, ev_bin, ev_var, ev_c, List.getElem?_cons_succ, List.getElem?_cons_zero, jn, R.of_some, R.bind_ok, i1, R.toS_ok, if_true, ev_sRet, RS.seq_rt, ff]
  | some p =>
    have i1 : isN (oN (some p)) .non h = some (.bl false) := rfl
    have ds : ∀ t ∈ depL s (depC A), t ∈ A.sg := fun t ht => ((depL_iff G hs).mp ht).1
    have dl : (depL s (depC A)).length ≤ 10001 := by
      have h1 := depL_len s (depC A) [s]
      have h2 : (depC A).length ≤ (depC.couples A.sg).length := List.length_filter_le _ _
      have h3 := couples_len A.sg
      have h4 := Nat.mul_le_mul G.sz G.sz
      have h5 : (depL s (depC A)).length ≤ [s].length + (depC A).length := h1
      simp only [List.length_singleton] at h5
      omega
    have c0 : c0_Left_can_be_first cL [some (.ref n), some (.str s), some (oN (some p)), none, none, none] h = .ok (.lst (((depL s (depC A)).filter fun t => decide (t ≠ s)).map fun t => oN (nx 0 f w t))) h := by
      have e := lcL_map (fg := gN 4) (ft := asB (fBin neD (fVar 4) (fVar 1))) (fe := fMeth cL "place" (sp_Left_place cL) (fVar 0) (aCons (fVar 4) aNil)) (vs := [4]) (e0 := [some (.ref n), some (.str s), some (oN (some p)), none, none, none]) (h := h) D.str (fun t => decide (t ≠ s)) (fun t => oN (nx 0 f w t)) (l := depL s (depC A)) fun t ht => by
        refine ⟨_, rfl, ?_, fun _ => ?_⟩
        · have q := ne_str (h := h) (G.ok t (ds t ht)) (G.ok s hs)
          simp only [wipeE, List.foldl_cons, List.foldl_nil, List.set_cons_succ, List.set_cons_zero, ev_asB, ev_bin, ev_var, List.getElem?_cons_succ, List.getElem?_cons_zero, jn, R.of_some, R.bind_ok, q]
          simp
        · rw [meth_at (n := n) (as := [.str t]) (h1 := h) (h2 := h) rfl L.at_ lk_place rfl, l_place L (ds t ht)]; rfl
      have hz : (((depL s (depC A)).filter fun t => decide (t ≠ s)).map fun t => oN (nx 0 f w t)).length ≤ sizeLine := by
        rw [sizeLine_eq, List.length_map]
        exact Nat.le_trans (List.length_filter_le _ _) (by omega)
      unfold c0_Left_can_be_first
      rw [ev_lc]
      simp only [ev_lst, ev_bin, ev_un, ev_var, List.getElem?_cons_succ, List.getElem?_cons_zero, jn, R.of_some, R.bind_ok, fld_of L.at_, lk_dep, dep_get hs, st_lst, e]
      exact lcEnd_ok hz
    have c1 : c1_Left_can_be_first [some (.ref n), some (.str s), some (oN (some p)), some (.lst (((depL s (depC A)).filter fun t => decide (t ≠ s)).map fun t => oN (nx 0 f w t))), none, none] h = .ok (.lst (((depL s (depC A)).filter fun t => decide (t ≠ s)).map fun t => D.bl (gtB p (nx 0 f w t)))) h := by
      have e := lcL_map (fg := gN 5) (ft := tOn) (fe := fOrV (fBin isN (fVar 5) (fC .non)) (fBin gtD (fVar 5) (fVar 2))) (vs := [5]) (e0 := [some (.ref n), some (.str s), some (oN (some p)), some (.lst (((depL s (depC A)).filter fun t => decide (t ≠ s)).map fun t => oN (nx 0 f w t))), none, none]) (h := h) (fun t => oN (nx 0 f w t)) (fun _ => true) (fun t => D.bl (gtB p (nx 0 f w t))) (l := (depL s (depC A)).filter fun t => decide (t ≠ s)) fun t ht => by
        refine ⟨_, rfl, rfl, fun _ => ?_⟩
        simp only [wipeE, List.foldl_cons, List.foldl_nil, List.set_cons_succ, List.set_cons_zero]
        cases nx 0 f w t with
        | none => rfl
        | some q =>
          have i2 : isN (oN (some q)) .non h = some (.bl false) := rfl
          have g2 : gtD (oN (some q)) (oN (some p)) h = some (.bl (decide (p < q))) := by
            show gtD (.int (q : Nat)) (.int (p : Nat)) h = _
            rw [gt_int]
            congr 2
            exact decide_eq_decide.mpr (by omega)
          simp only [ev_orV, ev_asB, ev_bin, ev_var, ev_c, List.getElem?_cons_succ, List.getElem?_cons_zero, jn, R.of_some, R.bind_ok, i2, g2, Bool.false_eq_true, if_false, gtB]
      have ef : ∀ l : List Str, l.filter (fun _ => true) = l := fun l => by simp
      rw [ef] at e
      have hz : (((depL s (depC A)).filter fun t => decide (t ≠ s)).map fun t => D.bl (gtB p (nx 0 f w t))).length ≤ sizeLine := by
        rw [sizeLine_eq, List.length_map]
        exact Nat.le_trans (List.length_filter_le _ _) (by omega)
      unfold c1_Left_can_be_first
      rw [ev_lc]
      simp only [ev_lst, ev_var, List.getElem?_cons_succ, List.getElem?_cons_zero, jn, R.of_some, R.bind_ok, st_lst, e]
      exact lcEnd_ok hz
    have al : allN [.lst (((depL s (depC A)).filter fun t => decide (t ≠ s)).map fun t => D.bl (gtB p (nx 0 f w t)))] h = some (.bl (Tr.fst (dp A) (remF f w) s)) := by
      unfold allN
      simp only [lk_lst, Option.bind_some, bls_map, Option.map_some]
      rw [fst_all G W hs hp]
    simp only [ev_sIf, ev_asB, ev_bin, ev_var, ev_c, List.getElem?_cons_succ, List.getElem?_cons_zero, jn, R.of_some, R.bind_ok, i1, R.toS_ok, Bool.false_eq_true, if_false, ev_sNil, RS.seq_nx, c0, ev_sCons, ev_sAsg, ev_gN, List.set_cons_succ, List.set_cons_zero, ev_sRet, ev_nary, ev_cons, ev_nil, c1, al]
theorem l_Lfirsts (G : Good A) (W : GoodW A w) (L : LeftIs cL h n A w f tk) : sp_Left_firsts cL [.ref n] h = .ok (.lst ((Tr.firsts (dp A) A.sg (remF f w)).map D.str)) h := by
  unfold sp_Left_firsts defF r_Left_firsts
  have en : ([D.ref n].map some ++ List.replicate (2 - [D.ref n].length) none) = [some (.ref n), none] := rfl
  rw [en]
  have e := lcL_map (fg := gN 1) (ft := asB (fMeth cL "can_be_first" (sp_Left_can_be_first cL) (fVar 0) (aCons (fVar 1) (aNil)))) (fe := fVar 1) (vs := [1]) (e0 := [some (.ref n), none]) (h := h) D.str (fun t => Tr.fst (dp A) (remF f w) t) D.str (l := A.sg) fun t ht => by
    refine ⟨_, rfl, ?_, fun _ => rfl⟩
    rw [ev_asB, meth_at (n := n) (as := [.str t]) (h1 := h) (h2 := h) rfl L.at_ lk_cbf rfl, l_can_be_first G W L ht]; rfl
  have hz : ((A.sg.filter fun t => Tr.fst (dp A) (remF f w) t).map D.str).length ≤ sizeLine := by
    rw [sizeLine_eq, List.length_map]
    exact Nat.le_trans (List.length_filter_le _ _) (by have := G.sz; omega)
  unfold c0_Left_firsts
  simp only [ev_sRet, ev_lc, ev_seq, ev_un, ev_var, List.getElem?_cons_succ, List.getElem?_cons_zero, jn, R.of_some, R.bind_ok, fld_of L.at_, lk_signs, ti_tup, e, lcEnd_ok hz, R.toS_ok]
  rfl
end
/-- a Left with its own dict -/
def LH (h0 : Hea) (cL : Addr) (A : Alp) (w : List Str) (f : Str → Nat) (g : Hea) : Hea := h0 ++ .ins cL (fLeft A w (.ref (h0.length + 1))) :: .dic false (kTak A f) :: g
section
variable {h0 g : Hea} {cL : Addr} {A : Alp} {w : List Str} {f : Str → Nat}
theorem lh0 : (LH h0 cL A w f g)[h0.length]? = some (.ins cL (fLeft A w (.ref (h0.length + 1)))) := by simp [LH]
theorem lh1 : (LH h0 cL A w f g)[h0.length + 1]? = some (.dic false (kTak A f)) := by simp [LH]
theorem lh_left : LeftIs cL (LH h0 cL A w f g) h0.length A w f (.ref (h0.length + 1)) := ⟨lh0, by simp [dicOf, lh1]⟩
theorem put_tak {s : Str} (nd : A.sg.Nodup) (hs : s ∈ A.sg) : putDD (kTak A f) (.str s) (.int ((f s : Nat) + 1 : Int)) = kTak A (incF f s) := by
  unfold putDD
  rw [if_pos (by
    rw [List.any_eq_true]
    exact ⟨(.str s, .int (f s : Nat)), List.mem_map.mpr ⟨s, hs, rfl⟩, by simp⟩)]
  unfold kTak
  rw [List.map_map]
  apply List.map_congr_left
  intro t _
  simp only [Function.comp]
  by_cases q : t = s
  · subst q; simp [incF]
  · have : ¬ D.str t = D.str s := fun e => q (str_inj _ _ e)
    rw [if_neg this]
    simp [incF, q]
theorem l_Ltake (G : Good A) {s : Str} (hs : s ∈ A.sg) : sp_Left_take cL [.ref h0.length, .str s] (LH h0 cL A w f g) = .ok .non (LH h0 cL A w (incF f s) g) := by
  unfold sp_Left_take defF r_Left_take
  have en : ([D.ref h0.length, .str s].map some ++ List.replicate (2 - [D.ref h0.length, .str s].length) none) = [some (.ref h0.length), some (.str s)] := rfl
  rw [en]
  have gy : getIy (.ref (h0.length + 1)) (.str s) (LH h0 cL A w f g) = some (.int (f s : Nat)) := by
    unfold getIy
    rw [show dicOf (LH h0 cL A w f g) (.ref (h0.length + 1)) = some (false, (kTak A f).map (·.1), (kTak A f).map (·.2)) by simp [dicOf, lh1]]
    simp only [okK_str, if_true]
    exact kTak_get hs
  have pu : putIx (.ref (h0.length + 1)) (.str s) (.int ((f s : Nat) + 1 : Int)) (LH h0 cL A w f g) = some (LH h0 cL A w (incF f s) g) := by
    unfold putIx
    simp only [lh1]
    have hl : (kTak A f).length < sizeLine := by
      rw [sizeLine_eq]; simp only [kTak, List.length_map]; have := G.sz; omega
    rw [if_pos ⟨rfl, hl⟩, put_tak (nd_of G.pw) hs]
    congr 1
    unfold LH
    rw [List.set_append_right _ _ (by omega)]
    simp
  simp only [ev_sAugS, ev_un, ev_var, ev_c, List.getElem?_cons_succ, List.getElem?_cons_zero, jn, R.of_some, R.bind_ok, fld_of lh0, lk_tak, R.toS_ok, gy, iaddI, pu]
end
end W63

set_option Elab.async false
set_option linter.all false
set_option maxRecDepth 100000
set_option maxHeartbeats 1000000
namespace W63
open PySem DD
/-! ### Left's __init__ -/
theorem app_at {h : Hea} {n : Nat} {xs : List D} {x : D} (e : h[n]? = some (.lst xs)) (hl : xs.length ≤ 1000000) : mAppend (.ref n) [x] h = some (.non, h.set n (.lst (xs ++ [x]))) := by
  have hz : xs.length < sizeLine := Nat.lt_of_le_of_lt hl (by rw [sizeLine_eq]; decide)
  simp [mAppend, cellL, e, hz]
def refs (k : Nat) : List Str → List D
  | [] => []
  | _ :: r => .ref k :: refs (k + 1) r
theorem lkD_refs {a : Str} : ∀ {sg : List Str} {k : Nat}, a ∈ sg → lkD (sg.map D.str) (refs k sg) (.str a) = some (.ref (k + sg.idxOf a))
  | [], k, h => by simp at h
  | b :: sg, k, h => by
    simp only [List.map_cons, refs, lkD]
    by_cases q : b = a
    · subst q; rw [if_pos rfl]; simp
    · rw [if_neg fun e => q (str_inj _ _ e)]
      have hm : a ∈ sg := by
        rcases List.mem_cons.mp h with e | e
        · exact absurd e.symm q
        · exact e
      have hb : (b == a) = false := by simpa using q
      rw [lkD_refs hm, List.idxOf_cons, hb]
      simp; omega
theorem set_map {α β : Type} [DecidableEq α] {G : α → β} {x : β} {a : α} : ∀ {l : List α}, l.Nodup → a ∈ l → (l.map G).set (l.idxOf a) x = l.map fun s => if s = a then x else G s
  | [], _, h => by simp at h
  | b :: l, nd, h => by
    rw [List.nodup_cons] at nd
    by_cases q : b = a
    · subst q
      have : l.map (fun s => if s = b then x else G s) = l.map G := List.map_congr_left fun s hs => by rw [if_neg fun e => nd.1 (by rw [← e]; exact hs)]
      simp [this]
    · have hm : a ∈ l := by
        rcases List.mem_cons.mp h with e | e
        · exact absurd e.symm q
        · exact e
      have hb : (b == a) = false := by simpa using q
      rw [List.idxOf_cons, hb]
      simp only [cond_false, List.map_cons, List.set_cons_succ, set_map nd.2 hm, if_neg q]
theorem get_map {α β : Type} [DecidableEq α] {G : α → β} {a : α} {l : List α} (h : a ∈ l) : (l.map G)[l.idxOf a]? = some (G a) := by
  rw [List.getElem?_map, List.getElem?_eq_getElem (List.idxOf_lt_length_of_mem h)]
  simp
theorem l_i0 {e0 : En} (he : e0.length = 9) : ∀ (ss : List Str) (acc : List (D × D)) (h : Hea), (acc.map (·.1) ++ ss.map D.str).Nodup → acc.length + ss.length ≤ 1000 →
    dcL (gN 6) (tOn) (fVar 6) (dCell (aCons (fVar 6) (aNil))) [6] e0 (ss.map D.str) acc h = .ok (acc ++ (ss.map D.str).zip (refs h.length ss)) (h ++ ss.map fun s => Cell.lst [.str s])
  | [], acc, h, _, _ => by simp [dcL, refs]
  | s :: ss, acc, h, nd, hl => by
    have hnew : putDD acc (.str s) (.ref h.length) = acc ++ [(.str s, .ref h.length)] := by
      unfold putDD
      rw [if_neg]
      simp only [List.any_eq_true, decide_eq_true_eq, not_exists, not_and]
      intro p hp e
      rw [List.nodup_append] at nd
      exact nd.2.2 p.1 (List.mem_map_of_mem hp) (.str s) (by simp) e
    have ih := l_i0 he ss (acc ++ [(.str s, .ref h.length)]) (h ++ [.lst [.str s]]) (by simpa using nd) (by simp at hl ⊢; omega)
    have hw : ((wipeE e0 [6]).set 6 (some (D.str s)))[6]? = some (some (.str s)) := by
      simp [wipeE, he]
    have z1 : ([D.str s] : List D).length ≤ sizeLine := by rw [sizeLine_eq, List.length_singleton]; decide
    have z2 : acc.length < sizeLine := by rw [sizeLine_eq]; simp at hl; omega
    rw [List.map_cons, dcL]
    simp only [ev_gN, ev_tOn, R.nox_ok, R.bind_ok, if_true, ev_var, hw, jn, R.of_some, ev_cell, ev_cons, ev_nil, z1, okK_str, z2, and_self, hnew, ih]
    simp [refs]
/-! the couples, appended -/
def hD (H : Hea) (sg : List Str) (F : Str → List Str) : Hea := H ++ sg.map fun s => Cell.lst ((F s).map D.str)
theorem app_D {H : Hea} {sg : List Str} {F : Str → List Str} {a b : Str} (nd : sg.Nodup) (ha : a ∈ sg) (hl : (F a).length ≤ 1000000) : mAppend (.ref (H.length + sg.idxOf a)) [.str b] (hD H sg F) = some (.non, hD H sg fun s => if s = a then F s ++ [b] else F s) := by
  have g : (hD H sg F)[H.length + sg.idxOf a]? = some (.lst ((F a).map D.str)) := by
    unfold hD
    rw [List.getElem?_append_right (by omega), Nat.add_sub_cancel_left, get_map ha]
  rw [app_at g (by simpa using hl)]
  congr 2
  unfold hD
  rw [List.set_append_right _ _ (by omega), Nat.add_sub_cancel_left, set_map nd ha]
  congr 1
  apply List.map_congr_left
  intro s _
  by_cases q : s = a
  · subst q; simp
  · simp [q]
def stepD (F : Str → List Str) (p : Str × Str) : Str → List Str := fun s => if p.1 = s then F s ++ [p.2] else if p.2 = s then F s ++ [p.1] else F s
theorem l_ib {H : Hea} {sg : List Str} {F : Str → List Str} {p : Str × Str} {e0 e1 e2 x4 x5 e6 e7 e8 : Option D} (nd : sg.Nodup) (h1 : p.1 ∈ sg) (h2 : p.2 ∈ sg) (hne : p.1 ≠ p.2) (hl : ∀ s, (F s).length ≤ 100000) :
    b2_Left___init__ [e0, e1, e2, some (.dic false (sg.map D.str) (refs H.length sg)), some (.str p.1), some (.str p.2), e6, e7, e8] (hD H sg F) = .nx [e0, e1, e2, some (.dic false (sg.map D.str) (refs H.length sg)), some (.str p.1), some (.str p.2), e6, e7, e8] (hD H sg (stepD F p)) := by
  have g1 : ∀ h, getIx (.dic false (sg.map D.str) (refs H.length sg)) (.str p.1) h = some (.ref (H.length + sg.idxOf p.1)) := fun h => by
    rw [gi_dic]; simp only [okK_str, if_true]; exact lkD_refs h1
  have g2 : ∀ h, getIx (.dic false (sg.map D.str) (refs H.length sg)) (.str p.2) h = some (.ref (H.length + sg.idxOf p.2)) := fun h => by
    rw [gi_dic]; simp only [okK_str, if_true]; exact lkD_refs h2
  have t1 : ∀ (F : Str → List Str) {a : Str}, a ∈ sg → tyB "list" (.ref (H.length + sg.idxOf a)) (hD H sg F) = true := fun F a ha => by
    refine ty_cell (xs := (F a).map D.str) ?_
    unfold hD
    rw [List.getElem?_append_right (by omega), Nat.add_sub_cancel_left, get_map ha]
  have a1 := app_D (H := H) (F := F) (b := p.2) nd h1 (by have := hl p.1; omega)
  have a2 := app_D (H := H) (F := fun s => if s = p.1 then F s ++ [p.2] else F s) (b := p.1) nd h2 (by rw [if_neg (Ne.symm hne)]; have := hl p.2; omega)
  have e : (fun s => if s = p.2 then (if s = p.1 then F s ++ [p.2] else F s) ++ [p.1] else if s = p.1 then F s ++ [p.2] else F s) = stepD F p := by
    funext s
    unfold stepD
    by_cases q1 : p.1 = s
    · subst q1; simp [hne]
    · by_cases q2 : p.2 = s
      · subst q2; simp [q1, Ne.symm hne]
      · simp [q1, q2, Ne.symm q1, Ne.symm q2]
  rw [e] at a2
  unfold b2_Left___init__
  simp only [ev_sCons, ev_sExpr, ev_bm, ev_bin, ev_var, ev_cons, ev_nil, List.getElem?_cons_succ, List.getElem?_cons_zero, jn, R.of_some, R.bind_ok, g1, g2, t1 _ h1, t1 _ h2, if_true, a1, a2, R.toS_ok, RS.seq_nx]
theorem l_il {H : Hea} {sg : List Str} {e0 e1 e2 e6 e7 e8 : Option D} (nd : sg.Nodup) : ∀ (ps : List (Str × Str)) (F : Str → List Str) (x4 x5 : Option D), (∀ p ∈ ps, p.1 ∈ sg ∧ p.2 ∈ sg ∧ p.1 ≠ p.2) → (∀ s, (F s).length + ps.length ≤ 100000) → ∃ y4 y5,
    forL g1_Left___init__ b2_Left___init__ (ps.map dPr) [e0, e1, e2, some (.dic false (sg.map D.str) (refs H.length sg)), x4, x5, e6, e7, e8] (hD H sg F) = .nx [e0, e1, e2, some (.dic false (sg.map D.str) (refs H.length sg)), y4, y5, e6, e7, e8] (hD H sg (ps.foldl stepD F))
  | [], F, x4, x5, _, _ => ⟨x4, x5, rfl⟩
  | p :: ps, F, x4, x5, hp, hl => by
    obtain ⟨h1, h2, h3⟩ := hp p List.mem_cons_self
    have tg : g1_Left___init__ (dPr p) [e0, e1, e2, some (.dic false (sg.map D.str) (refs H.length sg)), x4, x5, e6, e7, e8] (hD H sg F) = .nx [e0, e1, e2, some (.dic false (sg.map D.str) (refs H.length sg)), some (.str p.1), some (.str p.2), e6, e7, e8] (hD H sg F) := by
      unfold g1_Left___init__
      simp only [ev_gT, ti_tup, List.length_cons, List.length_nil, if_true, ev_gsCons, ev_gN, RS.seq_nx, List.set_cons_succ, List.set_cons_zero, ev_gsNil]
    have bd := l_ib (H := H) (F := F) (p := p) (e0 := e0) (e1 := e1) (e2 := e2) (x4 := x4) (x5 := x5) (e6 := e6) (e7 := e7) (e8 := e8) nd h1 h2 h3 (fun s => by have := hl s; omega)
    obtain ⟨y4, y5, ih⟩ := l_il (H := H) (e0 := e0) (e1 := e1) (e2 := e2) (e6 := e6) (e7 := e7) (e8 := e8) nd ps (stepD F p) (some (.str p.1)) (some (.str p.2)) (fun q hq => hp q (List.mem_cons_of_mem _ hq)) (fun s => by
      have := hl s
      simp only [List.length_cons] at this
      unfold stepD
      split
      · simp; omega
      · split
        · simp; omega
        · omega)
    exact ⟨y4, y5, by rw [List.map_cons, forL_nx tg bd]; exact ih⟩
theorem foldD_eq (s : Str) : ∀ (ps : List (Str × Str)) (F : Str → List Str), ps.foldl stepD F s = ps.foldl (fun l p => if p.1 = s then l ++ [p.2] else if p.2 = s then l ++ [p.1] else l) (F s)
  | [], F => rfl
  | p :: ps, F => by
    rw [List.foldl_cons, List.foldl_cons, foldD_eq s ps]
    rfl
theorem depL_fold (A : Alp) (s : Str) : (depC A).foldl stepD (fun s => [s]) s = depL s (depC A) := foldD_eq s _ _
/-! the places -/
theorem posF_enum {s : Str} {e0 : En} {h : Hea} (e0l : e0.length = 9) (e06 : e0[6]? = some (some (.str s))) (hs : PyData.strOk s = true) : ∀ (w : List Str) (k : Nat), Oks w → lcL (gT 2 (gsCons (gN 7) (gsCons (gN 8) (gsNil)))) (asB (fBin eqD (fVar 8) (fVar 6))) (fVar 7) [7, 8] e0 (enF k (w.map D.str)) h = .ok ((posF k w s).map fun i => D.int (i : Nat)) h
  | [], k, _ => rfl
  | b :: w, k, ho => by
    have ih := posF_enum (h := h) e0l e06 hs w (k + 1) fun a ha => ho a (List.mem_cons_of_mem _ ha)
    have q := eq_str (h := h) (ho b List.mem_cons_self) hs
    have g6 : (((wipeE e0 [7, 8]).set 7 (some (D.int (k : Nat)))).set 8 (some (D.str b)))[6]? = some (some (.str s)) := by simp [wipeE, e06]
    have g7 : (((wipeE e0 [7, 8]).set 7 (some (D.int (k : Nat)))).set 8 (some (D.str b)))[7]? = some (some (.int (k : Nat))) := by simp [wipeE, e0l]
    have g8 : (((wipeE e0 [7, 8]).set 7 (some (D.int (k : Nat)))).set 8 (some (D.str b)))[8]? = some (some (.str b)) := by simp [wipeE, e0l]
    rw [List.map_cons, enF_cons, lcL]
    simp only [ev_gT, ti_pr, List.length_cons, List.length_nil, if_true, ev_gsCons, ev_gN, RS.seq_nx, ev_gsNil, ev_asB, ev_bin, ev_var, g6, g7, g8, jn, R.of_some, R.bind_ok, q, R.nox_ok, ih]
    by_cases hb : b = s
    · simp [posF, hb]
    · simp [posF, hb]
theorem posF_len (s : Str) : ∀ (w : List Str) (k : Nat), (posF k w s).length ≤ w.length
  | [], k => by simp [posF]
  | b :: w, k => by
    have := posF_len s w (k + 1)
    simp only [posF, List.length_cons]
    split
    · simp; omega
    · omega
theorem en9 {d0 d1 d2 : D} : ([d0, d1, d2].map some ++ List.replicate (9 - [d0, d1, d2].length) none) = [some d0, some d1, some d2, none, none, none, none, none, none] := rfl
theorem setF {C : Addr} {f : Str} {y : D} {h : Hea} {n : Nat} {fs : List (Str × D)} (e : h[n]? = some (.ins C fs)) (hl : fs.length < 1000) : setFD C f (.ref n) y h = some (h.set n (.ins C (putFD f y fs))) := by
  unfold setFD
  simp only [e]
  rw [if_pos ⟨trivial, hl⟩]
/-- what __init__ leaves -/
theorem l_init_raw {cL : Addr} {A : Alp} {w : List Str} (G : Good A) (W : GoodW A w) {h : Hea} {n : Nat} (hn : h[n]? = some (.ins cL [])) :
    defF 9 (r_Left___init__ cL) [.ref n, dAl A, dRow w] h = .ok .non (hD (h.set n (.ins cL [("row", dRow w), ("signs", dRow A.sg), ("dependent", .dic false (A.sg.map D.str) (refs h.length A.sg)), ("places", dPla A w), ("taken", .ref (h.length + A.sg.length))])) A.sg (fun s => depL s (depC A)) ++ [.dic false (kTak A fun _ => 0)]) := by
  have hlt : n < h.length := (List.getElem?_eq_some_iff.mp hn).1
  have nd := nd_of G.pw
  have sz := G.sz
  have g : ∀ (fs : List (Str × D)) (g : Hea), (h.set n (.ins cL fs) ++ g)[n]? = some (.ins cL fs) := fun fs g => by
    rw [List.getElem?_append_left (by simpa using hlt)]; simp [hlt]
  have g' : ∀ (fs : List (Str × D)), (h.set n (.ins cL fs))[n]? = some (.ins cL fs) := fun fs => by simp [hlt]
  have st : ∀ (fs fs' : List (Str × D)) (g : Hea), (h.set n (.ins cL fs) ++ g).set n (.ins cL fs') = h.set n (.ins cL fs') ++ g := fun fs fs' g => by
    rw [List.set_append_left _ _ (by simpa using hlt), List.set_set]
  have sl : ∀ (fs : List (Str × D)), (h.set n (.ins cL fs)).length = h.length := fun fs => by simp
  have s1 : setFD cL "row" (.ref n) (dRow w) h = some (h.set n (.ins cL [("row", dRow w)])) := by rw [setF hn (by simp)]; rfl
  have s2 : setFD cL "signs" (.ref n) (dRow A.sg) (h.set n (.ins cL [("row", dRow w)])) = some (h.set n (.ins cL [("row", dRow w), ("signs", dRow A.sg)])) := by
    rw [setF (g' _) (by simp), List.set_set]; rfl
  have l1 : ∀ g : Hea, fldD cL "signs" (.ref n) (h.set n (.ins cL [("row", dRow w), ("signs", dRow A.sg)]) ++ g) = some (dRow A.sg) := fun g' => by rw [fld_of (g _ g')]; rfl
  have l1' : fldD cL "signs" (.ref n) (h.set n (.ins cL [("row", dRow w), ("signs", dRow A.sg)])) = some (dRow A.sg) := by rw [fld_of (g' _)]; rfl
  have nds : (A.sg.map D.str).Nodup := List.Pairwise.map D.str (fun a b q e => q (str_inj a b e)) nd
  have rl : ∀ (sg : List Str) (k : Nat), (refs k sg).length = sg.length := fun sg => by
    induction sg with
    | nil => intro k; rfl
    | cons a sg ih => intro k; simp [refs, ih]
  -- the lists of the dependent ones
  have c0 : c0_Left___init__ cL [some (.ref n), some (dAl A), some (dRow w), none, none, none, none, none, none] (h.set n (.ins cL [("row", dRow w), ("signs", dRow A.sg)])) = .ok (.dic false (A.sg.map D.str) (refs h.length A.sg)) (hD (h.set n (.ins cL [("row", dRow w), ("signs", dRow A.sg)])) A.sg fun s => [s]) := by
    have e := l_i0 (e0 := [some (.ref n), some (dAl A), some (dRow w), none, none, none, none, none, none]) rfl A.sg [] (h.set n (.ins cL [("row", dRow w), ("signs", dRow A.sg)])) (by simpa using nds) (by simp; omega)
    rw [sl, List.nil_append] at e
    unfold c0_Left___init__ fDc
    simp only [ev_seq, ev_un, ev_var, List.getElem?_cons_zero, jn, R.of_some, R.bind_ok, l1', ti_tup, e, dcF]
    rw [List.map_fst_zip (by simp [rl]), List.map_snd_zip (by simp [rl])]
    rfl
  -- the couples
  have cp : ∀ p ∈ depC A, p.1 ∈ A.sg ∧ p.2 ∈ A.sg ∧ p.1 ≠ p.2 := fun p hp => by
    have := (mem_couples G.pw).mp (List.mem_filter.mp hp |>.1)
    exact ⟨this.1, this.2.1, fun e => by have q := this.2.2; rw [e] at q; exact sLt_ir _ q⟩
  have cl : (depC A).length ≤ 10000 := Nat.le_trans (List.length_filter_le _ _) (Nat.le_trans (couples_len _) (Nat.mul_le_mul sz sz))
  obtain ⟨y4, y5, il⟩ := l_il (H := h.set n (.ins cL [("row", dRow w), ("signs", dRow A.sg)])) (sg := A.sg) (e0 := some (.ref n)) (e1 := some (dAl A)) (e2 := some (dRow w)) (e6 := none) (e7 := none) (e8 := none) nd (depC A) (fun s => [s]) none none cp (fun s => by simp; omega)
  rw [sl] at il
  have ef : (depC A).foldl stepD (fun s => [s]) = fun s => depL s (depC A) := funext fun s => depL_fold A s
  rw [ef] at il
  have l2 : ∀ g : Hea, fldD cL "signs" (.ref n) (h.set n (.ins cL [("row", dRow w), ("signs", dRow A.sg), ("dependent", .dic false (A.sg.map D.str) (refs h.length A.sg))]) ++ g) = some (dRow A.sg) := fun g' => by rw [fld_of (g _ g')]; rfl
  have l3 : ∀ g : Hea, fldD cL "signs" (.ref n) (h.set n (.ins cL [("row", dRow w), ("signs", dRow A.sg), ("dependent", .dic false (A.sg.map D.str) (refs h.length A.sg)), ("places", dPla A w)]) ++ g) = some (dRow A.sg) := fun g' => by rw [fld_of (g _ g')]; rfl
  have s3 : ∀ g' : Hea, setFD cL "dependent" (.ref n) (.dic false (A.sg.map D.str) (refs h.length A.sg)) (h.set n (.ins cL [("row", dRow w), ("signs", dRow A.sg)]) ++ g') = some (h.set n (.ins cL [("row", dRow w), ("signs", dRow A.sg), ("dependent", .dic false (A.sg.map D.str) (refs h.length A.sg))]) ++ g') := fun g' => by
    rw [setF (g _ g') (by simp), st]; rfl
  have s4 : ∀ g' : Hea, setFD cL "places" (.ref n) (dPla A w) (h.set n (.ins cL [("row", dRow w), ("signs", dRow A.sg), ("dependent", .dic false (A.sg.map D.str) (refs h.length A.sg))]) ++ g') = some (h.set n (.ins cL [("row", dRow w), ("signs", dRow A.sg), ("dependent", .dic false (A.sg.map D.str) (refs h.length A.sg)), ("places", dPla A w)]) ++ g') := fun g' => by
    rw [setF (g _ g') (by simp), st]; rfl
  have s5 : ∀ g' : Hea, setFD cL "taken" (.ref n) (.ref (h.length + A.sg.length)) (h.set n (.ins cL [("row", dRow w), ("signs", dRow A.sg), ("dependent", .dic false (A.sg.map D.str) (refs h.length A.sg)), ("places", dPla A w)]) ++ g') = some (h.set n (.ins cL [("row", dRow w), ("signs", dRow A.sg), ("dependent", .dic false (A.sg.map D.str) (refs h.length A.sg)), ("places", dPla A w), ("taken", .ref (h.length + A.sg.length))]) ++ g') := fun g' => by
    rw [setF (g _ g') (by simp), st]; rfl
  -- the places
  have c4 : ∀ g' : Hea, c4_Left___init__ cL [some (.ref n), some (dAl A), some (dRow w), some (.dic false (A.sg.map D.str) (refs h.length A.sg)), y4, y5, none, none, none] (h.set n (.ins cL [("row", dRow w), ("signs", dRow A.sg), ("dependent", .dic false (A.sg.map D.str) (refs h.length A.sg))]) ++ g') = .ok (dPla A w) (h.set n (.ins cL [("row", dRow w), ("signs", dRow A.sg), ("dependent", .dic false (A.sg.map D.str) (refs h.length A.sg))]) ++ g') := fun g' => by
    have e := dcL_pure (fg := gN 6) (ft := tOn) (fk := fVar 6) (fv := c3_Left___init__) (vs := [6]) (e0 := [some (.ref n), some (dAl A), some (dRow w), some (.dic false (A.sg.map D.str) (refs h.length A.sg)), y4, y5, none, none, none]) (h := h.set n (.ins cL [("row", dRow w), ("signs", dRow A.sg), ("dependent", .dic false (A.sg.map D.str) (refs h.length A.sg))]) ++ g') (fun d => d) (fun d => match d with
      | .str s => D.lst ((posF 0 w s).map fun i => D.int (i : Nat))
      | _ => .non) (xs := A.sg.map D.str) (acc := []) (fun x hx => by
        obtain ⟨s, hs, rfl⟩ := List.mem_map.mp hx
        refine ⟨rfl, _, rfl, rfl, rfl, ?_⟩
        have e := posF_enum (s := s) (e0 := [some (.ref n), some (dAl A), some (dRow w), some (.dic false (A.sg.map D.str) (refs h.length A.sg)), y4, y5, some (.str s), none, none]) (h := h.set n (.ins cL [("row", dRow w), ("signs", dRow A.sg), ("dependent", .dic false (A.sg.map D.str) (refs h.length A.sg))]) ++ g') rfl rfl (G.ok s hs) w 0 (oks_of G W)
        have hz : ((posF 0 w s).map fun i => D.int (i : Nat)).length ≤ sizeLine := by
          rw [sizeLine_eq, List.length_map]
          have := posF_len s w 0
          have := W.sz
          omega
        unfold c3_Left___init__
        simp only [wipeE, List.foldl_cons, List.foldl_nil, List.set_cons_succ, List.set_cons_zero, ev_lc, ev_enT, ev_cons, ev_nil, ev_var, List.getElem?_cons_succ, List.getElem?_cons_zero, jn, R.of_some, R.bind_ok, ti_tup, Option.map_some, enumL_eq, e]
        exact lcEnd_ok hz) (by simpa [Function.comp_def] using nds) (by rw [sizeLine_eq]; simp; omega)
    unfold c4_Left___init__ fDc
    simp only [ev_seq, ev_un, ev_var, List.getElem?_cons_zero, jn, R.of_some, R.bind_ok, l2 g', ti_tup, e, dcF, List.nil_append, List.map_map, Function.comp_def]
    rfl
  -- how many are taken
  have c5 : ∀ g' : Hea, (h.set n (.ins cL [("row", dRow w), ("signs", dRow A.sg), ("dependent", .dic false (A.sg.map D.str) (refs h.length A.sg)), ("places", dPla A w)]) ++ g').length = h.length + A.sg.length → c5_Left___init__ cL [some (.ref n), some (dAl A), some (dRow w), some (.dic false (A.sg.map D.str) (refs h.length A.sg)), y4, y5, none, none, none] (h.set n (.ins cL [("row", dRow w), ("signs", dRow A.sg), ("dependent", .dic false (A.sg.map D.str) (refs h.length A.sg)), ("places", dPla A w)]) ++ g') = .ok (.ref (h.length + A.sg.length)) (h.set n (.ins cL [("row", dRow w), ("signs", dRow A.sg), ("dependent", .dic false (A.sg.map D.str) (refs h.length A.sg)), ("places", dPla A w)]) ++ (g' ++ [.dic false (kTak A fun _ => 0)])) := fun g' hl => by
    have e := dcL_pure (fg := gN 6) (ft := tOn) (fk := fVar 6) (fv := fC (.int 0)) (vs := [6]) (e0 := [some (.ref n), some (dAl A), some (dRow w), some (.dic false (A.sg.map D.str) (refs h.length A.sg)), y4, y5, none, none, none]) (h := h.set n (.ins cL [("row", dRow w), ("signs", dRow A.sg), ("dependent", .dic false (A.sg.map D.str) (refs h.length A.sg)), ("places", dPla A w)]) ++ g') (fun d => d) (fun _ => .int 0) (xs := A.sg.map D.str) (acc := []) (fun x hx => by
        obtain ⟨s, hs, rfl⟩ := List.mem_map.mp hx
        exact ⟨rfl, _, rfl, rfl, rfl, rfl⟩) (by simpa [Function.comp_def] using nds) (by rw [sizeLine_eq]; simp; omega)
    unfold c5_Left___init__ fDc
    simp only [ev_seq, ev_un, ev_var, List.getElem?_cons_zero, jn, R.of_some, R.bind_ok, l3 g', ti_tup, e, dcF, List.nil_append, List.map_map, Function.comp_def, hl, List.append_assoc]
    rfl
  have ll : (h.set n (.ins cL [("row", dRow w), ("signs", dRow A.sg), ("dependent", .dic false (A.sg.map D.str) (refs h.length A.sg)), ("places", dPla A w)]) ++ A.sg.map fun s => Cell.lst ((depL s (depC A)).map D.str)).length = h.length + A.sg.length := by simp
  have c5' := c5 _ ll
  have s5' := s5 ((A.sg.map fun s => Cell.lst ((depL s (depC A)).map D.str)) ++ [.dic false (kTak A fun _ => 0)])
  have s3' := s3 (A.sg.map fun s => Cell.lst ((depL s (depC A)).map D.str))
  have s4' := s4 (A.sg.map fun s => Cell.lst ((depL s (depC A)).map D.str))
  have c4' := c4 (A.sg.map fun s => Cell.lst ((depL s (depC A)).map D.str))
  unfold defF r_Left___init__
  rw [en9]
  unfold hD at c0 il ⊢
  simp only [ev_sCons, ev_sFld, ev_bin, ev_var, ev_c, List.getElem?_cons_succ, List.getElem?_cons_zero, jn, R.of_some, R.bind_ok, R.toS_ok, dal0, s1, s2, RS.seq_nx, ev_sAsg, c0, ev_gN, List.set_cons_succ, List.set_cons_zero, ev_sFor, ev_seq, ev_call, ev_cons, ev_nil, l_dependent G, R.nox_ok, ti_tup, il, s3', c4', s4', c5', s5', List.append_assoc]
end W63

set_option Elab.async false
set_option linter.all false
set_option maxRecDepth 100000
set_option maxHeartbeats 1000000
namespace W63
open PySem DD
theorem sls_refs {h : Hea} {m : Nat} {p : Nat → Nat} {G : Str → List Str} : ∀ (sg : List Str) (k : Nat), (∀ i, i < sg.length → ∀ j, j < m → p j ≠ k + i) → (∀ i s, sg[i]? = some s → h[k + i]? = some (.lst ((G s).map D.str))) → Sls h m p (refs k sg) (sg.map fun s => D.lst ((G s).map D.str))
  | [], k, _, _ => .nil
  | s :: sg, k, h1, h2 => by
    refine .cons (.cellL (fun i hi => by simpa using h1 0 (by simp) i hi) (by simpa using h2 0 s rfl) (Sls.refl (n := 0) (Nat.zero_le _) (fun i hi => absurd hi (Nat.not_lt_zero _)) (cls_map (f := D.str) (fun _ => trivial) _))) ?_
    refine sls_refs sg (k + 1) (fun i hi j hj => ?_) fun i s' e => ?_
    · have := h1 (i + 1) (by simp; omega) j hj
      omega
    · have := h2 (i + 1) s' (by simpa using e)
      rw [show k + 1 + i = k + (i + 1) by omega]
      exact this
theorem tol_Left___init__ (cL : Addr) : ∀ ds heap, clH heap.length heap → cls heap.length ds → ds.length = 3 → Tol heap.length (defF 9 (r_Left___init__ cL) ds heap) (sp_Left___init__ cL ds heap) := fun ds h ch cd hds => by
  unfold sp_Left___init__
  split
  · rename_i n a b
    split
    · rename_i A w ea eb
      split
      · rename_i hc
        obtain ⟨G, W, hn⟩ := hc
        have hlt : n < h.length := (List.getElem?_eq_some_iff.mp hn).1
        rw [decAl_eq ea, decRow_eq eb, l_init_raw G W hn]
        have z : ∀ {d : D}, cl 0 d → ∀ {h : Hea} {m : Nat} {p : Nat → Nat}, Sl h m p d d := by
          intro d c h m p
          exact Sl.refl (n := 0) (Nat.zero_le _) (fun i hi => absurd hi (Nat.not_lt_zero _)) c
        refine Tol.to (m := h.length + 1) (p := fun i => if i < h.length then i else h.length + A.sg.length) ⟨by omega, fun i hi => if_pos hi, fun i hi => ?_, fun i j hi hj e => ?_⟩ ⟨by simp, fun i c' e => ?_⟩ .non
        · simp only [hD, List.length_append, List.length_set, List.length_map, List.length_singleton]
          split <;> omega
        · replace e : (if i < h.length then i else h.length + A.sg.length) = (if j < h.length then j else h.length + A.sg.length) := e
          split at e <;> split at e <;> omega
        · by_cases hi : i < h.length
          · simp only [if_pos hi]
            rw [List.getElem?_append_left (by simpa using hi)] at e
            unfold hD
            rw [List.append_assoc, List.getElem?_append_left (by simpa using hi)]
            by_cases q : i = n
            · subst q
              rw [List.getElem?_set_self hlt] at e ⊢
              cases e
              refine ⟨_, rfl, rfl, rfl, ?_⟩
              refine .cons (z (d := dRow w) (show cls 0 (w.map D.str) from cls_map (f := D.str) (fun _ => trivial) _)) (.cons (z (d := dRow A.sg) (show cls 0 (A.sg.map D.str) from cls_map (f := D.str) (fun _ => trivial) _)) (.cons (.dic ?_) (.cons (z (d := dPla A w) ?_) (.cons (.keep (Nat.lt_succ_self _) ?_) .nil))))
              · refine sls_refs A.sg h.length (fun i hi j hj => ?_) fun i s e => ?_
                · show (if j < h.length then j else h.length + A.sg.length) ≠ h.length + i
                  split <;> omega
                · rw [List.getElem?_append_right (by simp)]
                  simp only [List.length_set, Nat.add_sub_cancel_left]
                  have hi : i < A.sg.length := (List.getElem?_eq_some_iff.mp e).1
                  rw [List.getElem?_append_left (by simpa using hi), List.getElem?_map, e]
                  rfl
              · exact cls_map (f := fun s => D.lst ((posF 0 w s).map fun i => D.int (i : Nat))) (fun s => cls_map (f := fun i : Nat => D.int (i : Nat)) (fun _ => trivial) _) _
              · exact if_neg (Nat.lt_irrefl _)
            · rw [List.getElem?_set_ne (Ne.symm q)] at e ⊢
              exact ⟨c', e, SlC.refl (n := h.length) (Nat.le_succ _) (fun i hi => if_pos hi) (ch i c' e)⟩
          · simp only [if_neg hi]
            rw [List.getElem?_append_right (by simp; omega)] at e
            have hi2 : i = h.length := by
              have := (List.getElem?_eq_some_iff.mp e).1
              simp at this
              omega
            subst hi2
            simp only [List.length_set, Nat.sub_self, List.getElem?_cons_zero, Option.some.injEq] at e
            subst e
            refine ⟨.dic false (kTak A fun _ => 0), ?_, SlC.refl (n := 0) (Nat.zero_le _) (fun i hi => absurd hi (Nat.not_lt_zero _)) ?_⟩
            · rw [List.getElem?_append_right (by simp [hD])]
              simp [hD]
            · show cls 0 ((kTak A fun _ => 0).map (·.2))
              rw [kTak, List.map_map]
              exact cls_map (f := fun s => D.int 0) (fun _ => trivial) _
      · exact .no
    · exact .no
  · exact .no
/-! ### Left(alphabet, row) -/
theorem l_make {cL : Addr} {A : Alp} {w : List Str} (G : Good A) (W : GoodW A w) {h : Hea} {fa : En → Hea → R (List D)} {e : En} (ha : fa e h = .ok [dAl A, dRow w] h) : fMake cL (sp_Left___init__ cL) fa e h = .ok (.ref h.length) (LH h cL A w (fun _ => 0) []) := by
  unfold fMake
  rw [ha]
  simp only [R.bind_ok]
  have q : sp_Left___init__ cL [.ref h.length, dAl A, dRow w] (h ++ [.ins cL []]) = .ok .non (LH h cL A w (fun _ => 0) []) := by
    unfold sp_Left___init__
    simp only [decAl_d, decRow_d]
    rw [if_pos ⟨G, W, by simp⟩]
    congr 1
    unfold LH
    rw [List.set_append_right _ _ (by omega)]
    simp
  rw [q]
  rfl
/-! ### normal -/
theorem lh_app {h0 : Hea} {cL : Addr} {A : Alp} {w : List Str} {f : Str → Nat} {g : Hea} {xs : List D} {x : D} (hl : xs.length ≤ 1000000) : mAppend (.ref (h0.length + 2)) [x] (LH h0 cL A w f (.lst xs :: g)) = some (.non, LH h0 cL A w f (.lst (xs ++ [x]) :: g)) := by
  rw [app_at (xs := xs) (by simp [LH]) hl]
  congr 2
  unfold LH
  rw [List.set_append_right _ _ (by omega)]
  simp
theorem lh_ty {h0 : Hea} {cL : Addr} {A : Alp} {w : List Str} {f : Str → Nat} {g : Hea} {xs : List D} : tyB "list" (.ref (h0.length + 2)) (LH h0 cL A w f (.lst xs :: g)) = true := ty_cell (xs := xs) (by simp [LH])
theorem l_b1n {cL : Addr} {A : Alp} {w : List Str} (G : Good A) (W : GoodW A w) {h : Hea} {f : Str → Nat} {found : List Str} {a : Str} {fs : List Str} {x0 x1 x4 x5 : Option D} (e : Tr.firsts (dp A) A.sg (remF f w) = a :: fs) (hl : found.length ≤ 100000) :
    b1_normal cL [x0, x1, some (.ref h.length), some (.ref (h.length + 2)), x4, x5] (LH h cL A w f [.lst (found.map D.str)]) = .nx [x0, x1, some (.ref h.length), some (.ref (h.length + 2)), x4, some (.str a)] (LH h cL A w (incF f a) [.lst ((found ++ [a]).map D.str)]) := by
  have ha : a ∈ A.sg := (Tr.mem_firsts.mp (by rw [e]; exact List.mem_cons_self : a ∈ Tr.firsts (dp A) A.sg (remF f w))).1
  have m1 : fMeth cL "firsts" (sp_Left_firsts cL) (fVar 2) aNil [x0, x1, some (.ref h.length), some (.ref (h.length + 2)), x4, x5] (LH h cL A w f [.lst (found.map D.str)]) = .ok (.lst ((a :: fs).map D.str)) (LH h cL A w f [.lst (found.map D.str)]) := by
    rw [meth_at (n := h.length) (as := []) (h1 := LH h cL A w f [.lst (found.map D.str)]) (h2 := LH h cL A w f [.lst (found.map D.str)]) rfl lh0 lk_firsts rfl, l_Lfirsts G W lh_left, e]; rfl
  have m2 : fMeth cL "take" (sp_Left_take cL) (fVar 2) (aCons (fVar 5) aNil) [x0, x1, some (.ref h.length), some (.ref (h.length + 2)), x4, some (.str a)] (LH h cL A w f [.lst (found.map D.str)]) = .ok .non (LH h cL A w (incF f a) [.lst (found.map D.str)]) := by
    rw [meth_at (n := h.length) (as := [.str a]) (h1 := LH h cL A w f [.lst (found.map D.str)]) (h2 := LH h cL A w f [.lst (found.map D.str)]) rfl lh0 lk_take rfl, l_Ltake G ha]; rfl
  have ap := lh_app (h0 := h) (cL := cL) (A := A) (w := w) (f := incF f a) (g := []) (xs := found.map D.str) (x := .str a) (by simp; omega)
  have g0 : getIx (.lst ((a :: fs).map D.str)) (.int 0) (LH h cL A w f [.lst (found.map D.str)]) = some (.str a) := by rw [gi_lst, atI_0]; rfl
  unfold b1_normal
  simp only [ev_sCons, ev_sAsg, ev_bin, ev_c, m1, R.bind_ok, g0, R.of_some, R.toS_ok, ev_gN, List.set_cons_succ, List.set_cons_zero, RS.seq_nx, ev_sExpr, m2, ev_bm, ev_var, ev_cons, ev_nil, List.getElem?_cons_succ, List.getElem?_cons_zero, jn, lh_ty, if_true, ap]
  simp
theorem l_normal_loop {cL : Addr} {A : Alp} {w : List Str} (G : Good A) (W : GoodW A w) {h : Hea} {x0 x1 : Option D} : ∀ (m : Nat) (k : Int) (f : Str → Nat) (found : List Str) (x4 x5 : Option D), (remF f w).length = m → found.length + m ≤ 100000 → ∃ f' y4 y5,
    forL g0_normal (b1_normal cL) (rangeL k m) [x0, x1, some (.ref h.length), some (.ref (h.length + 2)), x4, x5] (LH h cL A w f [.lst (found.map D.str)]) = .nx [x0, x1, some (.ref h.length), some (.ref (h.length + 2)), y4, y5] (LH h cL A w f' [.lst ((found ++ Tr.nf (dp A) A.sg (remF f w)).map D.str)])
  | 0, k, f, found, x4, x5, hm, _ => by
    have e : remF f w = [] := List.eq_nil_of_length_eq_zero hm
    rw [e, Tr.nf_nil, List.append_nil]
    exact ⟨f, x4, x5, rfl⟩
  | m + 1, k, f, found, x4, x5, hm, hl => by
    have sub : ∀ a ∈ remF f w, a ∈ A.sg := fun a ha => W.sub a (remF_sub ha)
    cases e : Tr.firsts (dp A) A.sg (remF f w) with
    | nil =>
      have := (Tr.firsts_nil sub).mp e
      rw [this] at hm; simp at hm
    | cons a fs =>
      have fa := (Tr.mem_firsts.mp (by rw [e]; exact List.mem_cons_self : a ∈ Tr.firsts (dp A) A.sg (remF f w))).2
      have ma := Tr.fst_mem fa
      have er := remF_inc ma
      obtain ⟨f', y4, y5, ih⟩ := l_normal_loop G W (h := h) (x0 := x0) (x1 := x1) m (k + 1) (incF f a) (found ++ [a]) (some (.int k)) (some (.str a)) (by rw [er]; exact Tr.len_erase ma hm) (by simp; omega)
      refine ⟨f', y4, y5, ?_⟩
      have er2 : rangeL k (m + 1) = .int k :: rangeL (k + 1) m := by
        unfold rangeL
        rw [List.range_succ_eq_map]
        simp only [List.map_cons, List.map_map]
        congr 1
        · simp
        · apply List.map_congr_left
          intro i _
          simp only [Function.comp]
          congr 1
          omega
      rw [er2, forL_nx (e1 := [x0, x1, some (.ref h.length), some (.ref (h.length + 2)), some (.int k), x5]) (h1 := LH h cL A w f [.lst (found.map D.str)]) (by unfold g0_normal; rfl) (l_b1n G W e (by omega)), ih, er, Tr.nf_cons e]
      simp
theorem l_normal {cL : Addr} {A : Alp} {w : List Str} (G : Good A) (W : GoodW A w) {h : Hea} : sp_normal cL [dAl A, dRow w] h = .ok (dRow (Tr.nf (dp A) A.sg w)) h := by
  obtain ⟨f', y4, y5, e⟩ := l_normal_loop (cL := cL) G W (h := h) (x0 := some (dAl A)) (x1 := some (dRow w)) w.length 0 (fun _ => 0) [] none none (by rw [remF_zero]) (by have := W.sz; simp; omega)
  rw [remF_zero, List.nil_append] at e
  have mk : fMake cL (sp_Left___init__ cL) (aCons (fVar 0) (aCons (fVar 1) (aNil))) [some (dAl A), some (dRow w), none, none, none, none] h = .ok (.ref h.length) (LH h cL A w (fun _ => 0) []) := l_make G W rfl
  have hz : ([] : List D).length ≤ sizeLine := Nat.zero_le _
  have ll : (LH h cL A w (fun _ => 0) []).length = h.length + 2 := by simp [LH]
  have la : LH h cL A w (fun _ => 0) [] ++ [Cell.lst []] = LH h cL A w (fun _ => 0) [.lst []] := by simp [LH]
  have hr : iRange1 (aCons (fNary lenG (aCons (fVar 1) (aNil))) (aNil)) [some (dAl A), some (dRow w), some (.ref h.length), some (.ref (h.length + 2)), none, none] (LH h cL A w (fun _ => 0) [.lst []]) = .ok (rangeL 0 w.length) (LH h cL A w (fun _ => 0) [.lst []]) := by
    rw [rg1_ok (j := (w.length : Int)) (h1 := LH h cL A w (fun _ => 0) [.lst []]) ?_ (small_nat (by have := W.sz; omega))]
    · rw [Int.toNat_natCast]
    · simp only [ev_cons, ev_nary, ev_var, ev_nil, List.getElem?_cons_succ, List.getElem?_cons_zero, jn, R.of_some, R.bind_ok, len_tup, List.length_map]
  have tt : tupleN [.ref (h.length + 2)] (LH h cL A w f' [.lst ((Tr.nf (dp A) A.sg w).map D.str)]) = some (dRow (Tr.nf (dp A) A.sg w)) := by
    have q := lk_cell (n := h.length + 2) (h := LH h cL A w f' [.lst ((Tr.nf (dp A) A.sg w).map D.str)]) (xs := (Tr.nf (dp A) A.sg w).map D.str) (by simp [LH])
    simp only [tupleN, q, Option.map_some]
  refine dropAll_of (g := .ins cL (fLeft A w (.ref (h.length + 1))) :: .dic false (kTak A f') :: [.lst ((Tr.nf (dp A) A.sg w).map D.str)]) ?_ (show cls h.length (_ : List D) from cls_map (f := D.str) (fun _ => trivial) _)
  unfold defF r_normal
  have en : ([dAl A, dRow w].map some ++ List.replicate (6 - [dAl A, dRow w].length) none) = [some (dAl A), some (dRow w), none, none, none, none] := rfl
  rw [en]
  simp only [List.map_nil] at e
  have pr : ∀ k : FS, sCons (sPar 2 3 (aCons (fMake cL (sp_Left___init__ cL) (aCons (fVar 0) (aCons (fVar 1) (aNil)))) (aCons (dCell (aNil)) (aNil)))) k [some (dAl A), some (dRow w), none, none, none, none] h = k [some (dAl A), some (dRow w), some (.ref h.length), some (.ref (h.length + 2)), none, none] (LH h cL A w (fun _ => 0) [.lst []]) := fun k => by
    simp only [ev_sCons, ev_sPar, ev_cons, ev_nil, mk, R.bind_ok, ev_cell, hz, if_true, ll, la, R.toS_ok, List.set_cons_succ, List.set_cons_zero, RS.seq_nx]
  rw [pr]
  have p2 : sFor (iRange1 (aCons (fNary lenG (aCons (fVar 1) (aNil))) (aNil))) (g0_normal) ((b1_normal cL)) [some (dAl A), some (dRow w), some (.ref h.length), some (.ref (h.length + 2)), none, none] (LH h cL A w (fun _ => 0) [.lst []]) = .nx [some (dAl A), some (dRow w), some (.ref h.length), some (.ref (h.length + 2)), y4, y5] (LH h cL A w f' [.lst ((Tr.nf (dp A) A.sg w).map D.str)]) := by
    rw [ev_sFor, hr, R.toS_ok, e]
  rw [ev_sCons, p2]
  simp only [RS.seq_nx, ev_sRet, ev_nary, ev_cons, ev_nil, ev_var, List.getElem?_cons_succ, List.getElem?_cons_zero, jn, R.of_some, R.bind_ok, tt, R.toS_ok]
  rfl
theorem l_is_normal {cL : Addr} {A : Alp} {w : List Str} (G : Good A) (W : GoodW A w) {h : Hea} : sp_is_normal cL [dAl A, dRow w] h = .ok (.bl (decide (Tr.nf (dp A) A.sg w = w))) h := by
  have ho : Oks (Tr.nf (dp A) A.sg w) := fun a ha => G.ok a (W.sub a ((Tr.nf_of W.sub).perm.mem_iff.mpr ha))
  have q := eq_row (h := h) ho (oks_of G W)
  unfold sp_is_normal defF r_is_normal
  have en : ([dAl A, dRow w].map some ++ List.replicate (2 - [dAl A, dRow w].length) none) = [some (dAl A), some (dRow w)] := rfl
  rw [en]
  simp only [ev_sRet, ev_bin, ev_call, ev_cons, ev_nil, ev_var, List.getElem?_cons_succ, List.getElem?_cons_zero, jn, R.of_some, R.bind_ok, l_normal G W, R.nox_ok, q, R.toS_ok]
end W63

set_option Elab.async false
set_option linter.all false
set_option maxRecDepth 100000
set_option maxHeartbeats 1000000
namespace W63
open PySem DD
/-! ### steps_of -/
theorem l_take_all {cL : Addr} {A : Alp} {w : List Str} (G : Good A) {h g : Hea} {x0 x1 x3 x4 : Option D} : ∀ (fs : List Str) (f : Str → Nat) (x5 : Option D), (∀ a ∈ fs, a ∈ A.sg) → fs.Nodup → (∀ a ∈ fs, a ∈ remF f w) → ∃ f' y5,
    forL g0_steps_of (b1_steps_of cL) (fs.map D.str) [x0, x1, some (.ref h.length), x3, x4, x5] (LH h cL A w f g) = .nx [x0, x1, some (.ref h.length), x3, x4, y5] (LH h cL A w f' g) ∧ remF f' w = fs.foldl List.erase (remF f w)
  | [], f, x5, _, _, _ => ⟨f, x5, rfl, rfl⟩
  | a :: fs, f, x5, hs, nd, hm => by
    rw [List.nodup_cons] at nd
    have er := remF_inc (hm a List.mem_cons_self)
    obtain ⟨f', y5, ih, e⟩ := l_take_all G (h := h) (g := g) (cL := cL) (x0 := x0) (x1 := x1) (x3 := x3) (x4 := x4) fs (incF f a) (some (.str a)) (fun b hb => hs b (List.mem_cons_of_mem _ hb)) nd.2 (fun b hb => by
      rw [er]
      exact (List.mem_erase_of_ne fun e => nd.1 (by rw [← e]; exact hb)).mpr (hm b (List.mem_cons_of_mem _ hb)))
    refine ⟨f', y5, ?_, by rw [e, er]; rfl⟩
    have bd : b1_steps_of cL [x0, x1, some (.ref h.length), x3, x4, some (.str a)] (LH h cL A w f g) = .nx [x0, x1, some (.ref h.length), x3, x4, some (.str a)] (LH h cL A w (incF f a) g) := by
      have m2 : fMeth cL "take" (sp_Left_take cL) (fVar 2) (aCons (fVar 5) aNil) [x0, x1, some (.ref h.length), x3, x4, some (.str a)] (LH h cL A w f g) = .ok .non (LH h cL A w (incF f a) g) := by
        rw [meth_at (n := h.length) (as := [.str a]) (h1 := LH h cL A w f g) (h2 := LH h cL A w f g) rfl lh0 lk_take rfl, l_Ltake G (hs a List.mem_cons_self)]; rfl
      unfold b1_steps_of
      simp only [ev_sExpr, m2, R.toS_ok]
    rw [List.map_cons, forL_nx (e1 := [x0, x1, some (.ref h.length), x3, x4, some (.str a)]) (h1 := LH h cL A w f g) (by unfold g0_steps_of; rfl) bd]
    exact ih
theorem ne_strs {l : List Str} {h : Hea} (ho : Oks l) : neD (.lst (l.map D.str)) (.lst []) h = some (.bl (!decide (l = []))) := by
  rw [ne_gen (by
    simp only [vw_lst, okE, List.all_eq_true, List.mem_map]
    rintro _ ⟨b, hb, rfl⟩
    exact ho b hb) (by simp [okE])]
  simp only [vw_lst]
  congr 3
  simp
theorem l_steps_loop {cL : Addr} {A : Alp} {w : List Str} (G : Good A) (W : GoodW A w) {h : Hea} {x0 x1 : Option D} : ∀ (m : Nat) (f : Str → Nat) (u : List (List Str)) (x5 : Option D), (remF f w).length ≤ m → u.length + m ≤ 100000 → ∃ f' e',
    whileW t2_steps_of (b3_steps_of cL) [x0, x1, some (.ref h.length), some (.ref (h.length + 2)), some (.lst ((Tr.firsts (dp A) A.sg (remF f w)).map D.str)), x5] (LH h cL A w f [.lst (u.map dRow)]) = .nx e' (LH h cL A w f' [.lst ((u ++ Tr.steps (dp A) A.sg (remF f w)).map dRow)]) ∧ e'[3]? = some (some (.ref (h.length + 2))) := by
  intro m
  induction m with
  | zero =>
    intro f u x5 hm _
    have e : remF f w = [] := List.eq_nil_of_length_eq_zero (by omega)
    have ef : Tr.firsts (dp A) A.sg ([] : List Str) = [] := (Tr.firsts_nil (by simp)).mpr rfl
    rw [e, Tr.steps_end ef, List.append_nil, ef]
    refine ⟨f, _, whileW_end (h1 := LH h cL A w f [.lst (u.map dRow)]) ?_, rfl⟩
    have q := ne_strs (l := []) (h := LH h cL A w f [.lst (u.map dRow)]) (by simp [Oks])
    unfold t2_steps_of
    simp only [ev_asB, ev_bin, ev_var, ev_nary, ev_nil, List.getElem?_cons_succ, List.getElem?_cons_zero, jn, R.of_some, R.bind_ok, dlst (as := []) (by simp), q, decide_true, Bool.not_true]
  | succ m ih =>
    intro f u x5 hm hl
    have sub : ∀ a ∈ remF f w, a ∈ A.sg := fun a ha => W.sub a (remF_sub ha)
    cases e : Tr.firsts (dp A) A.sg (remF f w) with
    | nil =>
      rw [Tr.steps_end e, List.append_nil]
      refine ⟨f, _, whileW_end (h1 := LH h cL A w f [.lst (u.map dRow)]) ?_, rfl⟩
      have q := ne_strs (l := []) (h := LH h cL A w f [.lst (u.map dRow)]) (by simp [Oks])
      unfold t2_steps_of
      simp only [ev_asB, ev_bin, ev_var, ev_nary, ev_nil, List.getElem?_cons_succ, List.getElem?_cons_zero, jn, R.of_some, R.bind_ok, dlst (as := []) (by simp), q, decide_true, Bool.not_true]
    | cons a fs =>
      have mem : ∀ b ∈ a :: fs, b ∈ A.sg ∧ Tr.fst (dp A) (remF f w) b = true := fun b hb => Tr.mem_firsts.mp (by rw [e]; exact hb)
      have nd : (a :: fs).Nodup := by rw [← e]; exact Tr.firsts_nd (nd_of G.pw) _
      have ho : Oks (a :: fs) := fun b hb => G.ok b (mem b hb).1
      have q := ne_strs (l := a :: fs) (h := LH h cL A w f [.lst (u.map dRow)]) ho
      have tt : t2_steps_of [x0, x1, some (.ref h.length), some (.ref (h.length + 2)), some (.lst ((a :: fs).map D.str)), x5] (LH h cL A w f [.lst (u.map dRow)]) = .ok true (LH h cL A w f [.lst (u.map dRow)]) := by
        unfold t2_steps_of
        simp only [ev_asB, ev_bin, ev_var, ev_nary, ev_nil, List.getElem?_cons_succ, List.getElem?_cons_zero, jn, R.of_some, R.bind_ok, dlst (as := []) (by simp), q]
        rfl
      obtain ⟨f1, y5, e1, r1⟩ := l_take_all G (h := h) (g := [.lst (u.map dRow)]) (cL := cL) (w := w) (x0 := x0) (x1 := x1) (x3 := some (.ref (h.length + 2))) (x4 := some (.lst ((a :: fs).map D.str))) (a :: fs) f x5 (fun b hb => (mem b hb).1) nd (fun b hb => Tr.fst_mem (mem b hb).2)
      have hlen := (Tr.fold_front (dp_dep G) (a :: fs) (remF f w) nd fun b hb => (mem b hb).2).2
      rw [← r1] at hlen
      have ap := lh_app (h0 := h) (cL := cL) (A := A) (w := w) (f := f1) (g := []) (xs := u.map dRow) (x := dRow (a :: fs)) (by simp; omega)
      have m1 : fMeth cL "firsts" (sp_Left_firsts cL) (fVar 2) aNil [x0, x1, some (.ref h.length), some (.ref (h.length + 2)), some (.lst ((a :: fs).map D.str)), y5] (LH h cL A w f1 [.lst (u.map dRow ++ [dRow (a :: fs)])]) = .ok (.lst ((Tr.firsts (dp A) A.sg (remF f1 w)).map D.str)) (LH h cL A w f1 [.lst (u.map dRow ++ [dRow (a :: fs)])]) := by
        rw [meth_at (n := h.length) (as := []) (h1 := LH h cL A w f1 [.lst (u.map dRow ++ [dRow (a :: fs)])]) (h2 := LH h cL A w f1 [.lst (u.map dRow ++ [dRow (a :: fs)])]) rfl lh0 lk_firsts rfl, l_Lfirsts G W lh_left]; rfl
      have tn : tupleN [.lst ((a :: fs).map D.str)] (LH h cL A w f1 [.lst (u.map dRow)]) = some (dRow (a :: fs)) := rfl
      have bd : b3_steps_of cL [x0, x1, some (.ref h.length), some (.ref (h.length + 2)), some (.lst ((a :: fs).map D.str)), x5] (LH h cL A w f [.lst (u.map dRow)]) = .nx [x0, x1, some (.ref h.length), some (.ref (h.length + 2)), some (.lst ((Tr.firsts (dp A) A.sg (remF f1 w)).map D.str)), y5] (LH h cL A w f1 [.lst ((u ++ [a :: fs]).map dRow)]) := by
        rw [List.map_append, List.map_singleton]
        unfold b3_steps_of
        simp only [ev_sCons, ev_sFor, ev_lst, ev_var, List.getElem?_cons_succ, List.getElem?_cons_zero, jn, R.of_some, R.bind_ok, st_lst, R.toS_ok, e1, RS.seq_nx, ev_sExpr, ev_bm, lh_ty, if_true, ev_cons, ev_nary, ev_nil, tn, ap, ev_sAsg, m1, ev_gN, List.set_cons_succ, List.set_cons_zero]
      obtain ⟨f', e', h1, h2⟩ := ih f1 (u ++ [a :: fs]) y5 (by simp only [List.length_cons] at hlen; omega) (by simp; omega)
      refine ⟨f', e', ?_, h2⟩
      rw [whileW_nx tt bd, h1, Tr.steps_rec (dp_dep G) (nd_of G.pw) e, ← r1]
      simp
theorem l_steps_of {cL : Addr} {A : Alp} {w : List Str} (G : Good A) (W : GoodW A w) {h : Hea} : sp_steps_of cL [dAl A, dRow w] h = .ok (.tup ((Tr.steps (dp A) A.sg w).map dRow)) h := by
  obtain ⟨f', e', e, e3⟩ := l_steps_loop (cL := cL) G W (h := h) (x0 := some (dAl A)) (x1 := some (dRow w)) w.length (fun _ => 0) [] none (by rw [remF_zero]; exact Nat.le_refl _) (by have := W.sz; simp; omega)
  rw [remF_zero, List.nil_append] at e
  have mk : fMake cL (sp_Left___init__ cL) (aCons (fVar 0) (aCons (fVar 1) (aNil))) [some (dAl A), some (dRow w), none, none, none, none] h = .ok (.ref h.length) (LH h cL A w (fun _ => 0) []) := l_make G W rfl
  have hz : ([] : List D).length ≤ sizeLine := Nat.zero_le _
  have ll : (LH h cL A w (fun _ => 0) []).length = h.length + 2 := by simp [LH]
  have la : LH h cL A w (fun _ => 0) [] ++ [Cell.lst []] = LH h cL A w (fun _ => 0) [.lst []] := by simp [LH]
  have m1 : fMeth cL "firsts" (sp_Left_firsts cL) (fVar 2) aNil [some (dAl A), some (dRow w), some (.ref h.length), some (.ref (h.length + 2)), none, none] (LH h cL A w (fun _ => 0) [.lst []]) = .ok (.lst ((Tr.firsts (dp A) A.sg w).map D.str)) (LH h cL A w (fun _ => 0) [.lst []]) := by
    rw [meth_at (n := h.length) (as := []) (h1 := LH h cL A w (fun _ => 0) [.lst []]) (h2 := LH h cL A w (fun _ => 0) [.lst []]) rfl lh0 lk_firsts rfl, l_Lfirsts G W lh_left, remF_zero]; rfl
  have tt : tupleN [.ref (h.length + 2)] (LH h cL A w f' [.lst ((Tr.steps (dp A) A.sg w).map dRow)]) = some (.tup ((Tr.steps (dp A) A.sg w).map dRow)) := by
    have q := lk_cell (n := h.length + 2) (h := LH h cL A w f' [.lst ((Tr.steps (dp A) A.sg w).map dRow)]) (xs := (Tr.steps (dp A) A.sg w).map dRow) (by simp [LH])
    simp only [tupleN, q, Option.map_some]
  refine dropAll_of (g := .ins cL (fLeft A w (.ref (h.length + 1))) :: .dic false (kTak A f') :: [.lst ((Tr.steps (dp A) A.sg w).map dRow)]) ?_ (show cls h.length (_ : List D) from cls_map (f := dRow) (fun a => cls_map (f := D.str) (fun _ => trivial) a) _)
  unfold defF r_steps_of
  have en : ([dAl A, dRow w].map some ++ List.replicate (6 - [dAl A, dRow w].length) none) = [some (dAl A), some (dRow w), none, none, none, none] := rfl
  rw [en]
  simp only [List.map_nil] at e
  have pr : ∀ k : FS, sCons (sPar 2 3 (aCons (fMake cL (sp_Left___init__ cL) (aCons (fVar 0) (aCons (fVar 1) (aNil)))) (aCons (dCell (aNil)) (aNil)))) k [some (dAl A), some (dRow w), none, none, none, none] h = k [some (dAl A), some (dRow w), some (.ref h.length), some (.ref (h.length + 2)), none, none] (LH h cL A w (fun _ => 0) [.lst []]) := fun k => by
    simp only [ev_sCons, ev_sPar, ev_cons, ev_nil, mk, R.bind_ok, ev_cell, hz, if_true, ll, la, R.toS_ok, List.set_cons_succ, List.set_cons_zero, RS.seq_nx]
  rw [pr]
  rw [ev_sCons, ev_sAsg, m1]
  simp only [R.toS_ok, ev_gN, List.set_cons_succ, List.set_cons_zero, RS.seq_nx]
  rw [ev_sCons, e]
  simp only [RS.seq_nx, ev_sRet, ev_nary, ev_cons, ev_nil, ev_var, e3, jn, R.of_some, R.bind_ok, tt, R.toS_ok]
  rfl
theorem l_height {cL : Addr} {A : Alp} {w : List Str} (G : Good A) (W : GoodW A w) {h : Hea} : sp_height cL [dAl A, dRow w] h = .ok (.int (Tr.steps (dp A) A.sg w).length) h := by
  unfold sp_height defF r_height
  have en : ([dAl A, dRow w].map some ++ List.replicate (2 - [dAl A, dRow w].length) none) = [some (dAl A), some (dRow w)] := rfl
  rw [en]
  simp only [ev_sRet, ev_nary, ev_call, ev_cons, ev_nil, ev_var, List.getElem?_cons_succ, List.getElem?_cons_zero, jn, R.of_some, R.bind_ok, l_steps_of G W, R.nox_ok, len_tup, List.length_map, R.toS_ok]
theorem l_bs0 {x0 x1 x2 x3 : Option D} {h : Hea} : ∀ (ss : List (List Str)), lc2L (gN 2) (tOn) (iSeq (fVar 2)) (gN 3) (tOn) (fVar 3) [2, 3] [3] [x0, x1, x2, x3] (ss.map dRow) h = .ok (ss.flatten.map D.str) h
  | [] => rfl
  | s :: ss => by
    have ih := l_bs0 (x0 := x0) (x1 := x1) (x2 := x2) (x3 := x3) (h := h) ss
    have inner := lcL_map (fg := gN 3) (ft := tOn) (fe := fVar 3) (vs := [3]) (e0 := [x0, x1, some (dRow s), none]) (h := h) D.str (fun _ => true) D.str (l := s) fun b _ => ⟨_, rfl, rfl, fun _ => by simp [wipeE]⟩
    have ef : s.filter (fun _ => true) = s := by simp
    rw [ef] at inner
    rw [List.map_cons, lc2L]
    simp only [wipeE, List.foldl_cons, List.foldl_nil, List.set_cons_succ, List.set_cons_zero, ev_gN, ev_tOn, R.nox_ok, R.bind_ok, if_true, ev_seq, ev_var, List.getElem?_cons_succ, List.getElem?_cons_zero, jn, R.of_some, ti_tup, inner, ih]
    simp
theorem steps_len {A : Alp} (G : Good A) {w : List Str} (W : GoodW A w) : (Tr.steps (dp A) A.sg w).flatten.length ≤ 1000 := by
  rw [← (Tr.steps_flat (dp_dep G) (nd_of G.pw) _ w (Nat.le_refl _) W.sub).perm.length_eq]
  exact W.sz
theorem l_by_steps {cL : Addr} {A : Alp} {w : List Str} (G : Good A) (W : GoodW A w) {h : Hea} : sp_by_steps cL [dAl A, dRow w] h = .ok (dRow (Tr.steps (dp A) A.sg w).flatten) h := by
  have hz : ((Tr.steps (dp A) A.sg w).flatten.map D.str).length ≤ sizeLine := by
    rw [sizeLine_eq, List.length_map]
    have := steps_len G W
    omega
  have e := l_bs0 (x0 := some (dAl A)) (x1 := some (dRow w)) (x2 := none) (x3 := none) (h := h) (Tr.steps (dp A) A.sg w)
  have c0 : c0_by_steps cL [some (dAl A), some (dRow w), none, none] h = .ok (.lst ((Tr.steps (dp A) A.sg w).flatten.map D.str)) h := by
    unfold c0_by_steps fLc2
    simp only [ev_seq, ev_call, ev_cons, ev_nil, ev_var, List.getElem?_cons_succ, List.getElem?_cons_zero, jn, R.of_some, R.bind_ok, l_steps_of G W, R.nox_ok, ti_tup, e]
    exact lcEnd_ok hz
  unfold sp_by_steps defF r_by_steps
  have en : ([dAl A, dRow w].map some ++ List.replicate (4 - [dAl A, dRow w].length) none) = [some (dAl A), some (dRow w), none, none] := rfl
  rw [en]
  simp only [ev_sRet, ev_nary, ev_cons, ev_nil, c0, R.bind_ok, tupleN, lk_lst, Option.map_some, R.of_some, R.toS_ok]
theorem l_is_by_steps {cL : Addr} {A : Alp} {w : List Str} (G : Good A) (W : GoodW A w) {h : Hea} : sp_is_by_steps cL [dAl A, dRow w] h = .ok (.bl (decide ((Tr.steps (dp A) A.sg w).flatten = w))) h := by
  have ho : Oks (Tr.steps (dp A) A.sg w).flatten := fun a ha => G.ok a (W.sub a ((Tr.steps_flat (dp_dep G) (nd_of G.pw) _ w (Nat.le_refl _) W.sub).perm.mem_iff.mpr ha))
  have q := eq_row (h := h) ho (oks_of G W)
  unfold sp_is_by_steps defF r_is_by_steps
  have en : ([dAl A, dRow w].map some ++ List.replicate (2 - [dAl A, dRow w].length) none) = [some (dAl A), some (dRow w)] := rfl
  rw [en]
  simp only [ev_sRet, ev_bin, ev_call, ev_cons, ev_nil, ev_var, List.getElem?_cons_succ, List.getElem?_cons_zero, jn, R.of_some, R.bind_ok, l_by_steps G W, R.nox_ok, q, R.toS_ok]
end W63

set_option Elab.async false
set_option linter.all false
set_option maxRecDepth 100000
set_option maxHeartbeats 1000000
namespace W63
open PySem DD
/-! ### counts as rows of numbers -/
def dV (v : List Nat) : D := .tup (v.map fun i => D.int (i : Nat))
def fOf : List Str → List Nat → Str → Nat
  | s :: ss, n :: ns, t => if s = t then n else fOf ss ns t
  | _, _, _ => 0
def incV : List Str → List Nat → Str → List Nat
  | s :: ss, n :: ns, t => if s = t then (n + 1) :: ns else n :: incV ss ns t
  | _, v, _ => v
theorem dV_inj : ∀ a b : List Nat, dV a = dV b → a = b := fun a b e => by
  unfold dV at e
  injection e with e
  have inj : Function.Injective fun i : Nat => D.int (i : Nat) := fun x y q => by
    injection q with q
    omega
  exact (List.map_inj_right fun x y q => inj q).mp e
theorem fOf_map : ∀ {sg : List Str} {v : List Nat}, sg.Nodup → v.length = sg.length → sg.map (fOf sg v) = v
  | [], [], _, _ => rfl
  | [], _ :: _, _, h => by simp at h
  | _ :: _, [], _, h => by simp at h
  | s :: sg, n :: v, nd, h => by
    rw [List.nodup_cons] at nd
    rw [List.map_cons]
    congr 1
    · simp [fOf]
    · rw [← fOf_map nd.2 (show v.length = sg.length by simpa using h)]
      apply List.map_congr_left
      intro t ht
      have : s ≠ t := fun e => nd.1 (by rw [e]; exact ht)
      rw [fOf_map nd.2 (by simpa using h)]
      simp [fOf, this]
theorem fOf_inc : ∀ {sg : List Str} {v : List Nat} {s : Str}, v.length = sg.length → s ∈ sg → fOf sg (incV sg v s) = incF (fOf sg v) s
  | [], _, s, _, h => by simp at h
  | _ :: _, [], s, h, _ => by simp at h
  | a :: sg, n :: v, s, h, hs => by
    by_cases q : a = s
    · subst q
      funext t
      by_cases qt : a = t
      · subst qt; simp [incV, fOf, incF]
      · simp [incV, fOf, incF, qt, Ne.symm qt]
    · have hm : s ∈ sg := by
        rcases List.mem_cons.mp hs with e | e
        · exact absurd e.symm q
        · exact e
      have ih := fOf_inc (sg := sg) (v := v) (by simpa using h) hm
      funext t
      have iht := congrFun ih t
      by_cases qt : a = t
      · subst qt; simp [incV, fOf, incF, q]
      · simp only [incV, q, if_false, fOf, qt]
        rw [iht]
        simp [incF, fOf, qt]
theorem incV_len : ∀ {sg : List Str} {v : List Nat} {s : Str}, (incV sg v s).length = v.length
  | [], v, s => by simp [incV]
  | _ :: _, [], s => by simp [incV]
  | a :: sg, n :: v, s => by
    unfold incV
    split
    · rfl
    · simp [incV_len (sg := sg) (v := v)]
theorem incV_at : ∀ {p r : List Str} {q u : List Nat} {s : Str} {n : Nat}, p.length = q.length → s ∉ p → incV (p ++ s :: r) (q ++ n :: u) s = q ++ (n + 1) :: u
  | [], r, [], u, s, n, _, _ => by simp [incV]
  | [], _, _ :: _, _, _, _, h, _ => by simp at h
  | _ :: _, _, [], _, _, _, h, _ => by simp at h
  | a :: p, r, b :: q, u, s, n, h, hs => by
    have ha : a ≠ s := fun e => hs (by simp [e])
    simp only [List.cons_append, incV, ha, if_false]
    rw [incV_at (by simpa using h) (fun m => hs (List.mem_cons_of_mem _ m))]
theorem fOf_zero : ∀ (sg : List Str), fOf sg (List.replicate sg.length 0) = fun _ => 0
  | [] => by funext t; rfl
  | s :: sg => by
    funext t
    have := congrFun (fOf_zero sg) t
    simp only [List.length_cons, List.replicate_succ, fOf]
    split
    · rfl
    · exact this
def dTk (A : Alp) (v : List Nat) : D := .dic false (A.sg.map D.str) (v.map fun i => D.int (i : Nat))
theorem dTk_of {h : Hea} {A : Alp} {v : List Nat} (nd : A.sg.Nodup) (hv : v.length = A.sg.length) : dicOf h (dTk A v) = some (false, (kTak A (fOf A.sg v)).map (·.1), (kTak A (fOf A.sg v)).map (·.2)) := by
  have e1 : (kTak A (fOf A.sg v)).map (·.1) = A.sg.map D.str := by simp [kTak, Function.comp_def]
  have e2 : (kTak A (fOf A.sg v)).map (·.2) = v.map fun i => D.int (i : Nat) := by
    conv => rhs; rw [← fOf_map nd hv]
    simp [kTak, Function.comp_def]
  rw [e1, e2]; rfl
theorem keyD_str {s : Str} : keyD (.str s) = some (.inr s) := rfl
theorem merge_new : ∀ (ss : List Str) (v : List Nat) (acc : List (D × D)), (acc.map (·.1) ++ ss.map D.str).Nodup → v.length = ss.length →
    mergeD acc ((ss.zip v).map fun p => ((.inr p.1 : L2.Key), D.int (p.2 : Nat))) = acc ++ (ss.zip v).map fun p => (D.str p.1, D.int (p.2 : Nat))
  | [], [], acc, _, _ => by simp [mergeD]
  | [], _ :: _, _, _, h => by simp at h
  | _ :: _, [], _, _, h => by simp at h
  | s :: ss, n :: v, acc, nd, h => by
    have hnew : putDD acc (.str s) (.int (n : Nat)) = acc ++ [(.str s, .int (n : Nat))] := by
      unfold putDD
      rw [if_neg]
      simp only [List.any_eq_true, decide_eq_true_eq, not_exists, not_and]
      intro p hp e
      rw [List.nodup_append] at nd
      exact nd.2.2 p.1 (List.mem_map_of_mem hp) (.str s) (by simp) e
    have ih := merge_new ss v (acc ++ [(.str s, .int (n : Nat))]) (by simpa using nd) (by simpa using h)
    simp only [List.zip_cons_cons, List.map_cons, mergeD, kD, hnew, ih]
    simp
theorem prsK_zip : ∀ (ss : List Str) (v : List Nat), prsK ((ss.map D.str).zip (v.map fun i => D.int (i : Nat)) |>.map fun p => D.tup [p.1, p.2]) = some ((ss.zip v).map fun p => ((.inr p.1 : L2.Key), D.int (p.2 : Nat)))
  | [], v => by simp [prsK]
  | _ :: _, [] => by simp [prsK]
  | s :: ss, n :: v => by
    simp only [List.map_cons, List.zip_cons_cons, prsK, prK, ti_tup, keyD_str, Option.map_some, Option.bind_some, prsK_zip ss v]
theorem nds_of {A : Alp} (G : Good A) : (A.sg.map D.str).Nodup := List.Pairwise.map D.str (fun a b q e => q (str_inj a b e)) (nd_of G.pw)
theorem dict_zip {A : Alp} (G : Good A) {v : List Nat} (hv : v.length = A.sg.length) {h : Hea} : dictN [.lst (((A.sg.map D.str).zip (v.map fun i => D.int (i : Nat))).map fun p => .tup [p.1, p.2])] h = some (dTk A v) := by
  unfold dictN
  simp only [lk_lst, Option.bind_some, prsK_zip, Option.map_some]
  rw [merge_new A.sg v [] (by simpa using nds_of G) hv, List.nil_append]
  unfold dTk
  congr 2
  · rw [List.map_map]
    conv => rhs; rw [← List.map_fst_zip (l₁ := A.sg) (l₂ := v) (by omega)]
    simp [Function.comp_def]
  · rw [List.map_map]
    conv => rhs; rw [← List.map_snd_zip (l₁ := A.sg) (l₂ := v) (by omega)]
    simp [Function.comp_def]
/-! ### Counted.next_counts -/
def nxV (A : Alp) (w : List Str) (v : List Nat) : List (Str × List Nat) := (Tr.firsts (dp A) A.sg (remF (fOf A.sg v) w)).map fun s => (s, incV A.sg v s)
def dNx (A : Alp) (w : List Str) (v : List Nat) : D := .lst ((nxV A w v).map fun p => D.tup [.str p.1, dV p.2])
section
variable {cL cC : Addr} {A : Alp} {w : List Str} {h : Hea} {m n : Nat} {fs : List (Str × D)}
theorem l_nc_loop (G : Good A) (W : GoodW A w) {v : List Nat} (hv : v.length = A.sg.length) (L : LeftIs cL h n A w (fOf A.sg v) (dTk A v)) (hm : h[m]? = some (.ins cC fs)) (hl : List.lookup ("left" : Str) fs = some (.ref n)) : ∀ (r p : List Str) (acc : List (Str × List Nat)) (x3 x4 : Option D), p ++ r = A.sg → acc.length + r.length ≤ 1000 → ∃ e',
    forL g0_Counted_next_counts (b1_Counted_next_counts cL cC) (enF p.length (r.map D.str)) [some (.ref m), some (dV v), some (.ref h.length), x3, x4] (h ++ [.lst (acc.map fun p => D.tup [.str p.1, dV p.2])]) = .nx e' (h ++ [.lst ((acc ++ (r.filter fun s => Tr.fst (dp A) (remF (fOf A.sg v) w) s).map fun s => (s, incV A.sg v s)).map fun p => D.tup [.str p.1, dV p.2])]) ∧ e'[2]? = some (some (.ref h.length))
  | [], p, acc, x3, x4, _, _ => ⟨_, by simp; rfl, rfl⟩
  | s :: r, p, acc, x3, x4, ep, hz => by
    have hs : s ∈ A.sg := by rw [← ep]; simp
    have hn' : n < h.length := (List.getElem?_eq_some_iff.mp L.at_).1
    have hm' : m < h.length := (List.getElem?_eq_some_iff.mp hm).1
    have LL : LeftIs cL (h ++ [.lst (acc.map fun p => D.tup [.str p.1, dV p.2])]) n A w (fOf A.sg v) (dTk A v) := ⟨by rw [List.getElem?_append_left hn']; exact L.at_, L.tk⟩
    have hm2 : (h ++ [Cell.lst (acc.map fun p => D.tup [.str p.1, dV p.2])])[m]? = some (.ins cC fs) := by rw [List.getElem?_append_left hm']; exact hm
    have tg : g0_Counted_next_counts (.pr [.int (p.length : Nat), .str s]) [some (.ref m), some (dV v), some (.ref h.length), x3, x4] (h ++ [.lst (acc.map fun p => D.tup [.str p.1, dV p.2])]) = .nx [some (.ref m), some (dV v), some (.ref h.length), some (.int (p.length : Nat)), some (.str s)] (h ++ [.lst (acc.map fun p => D.tup [.str p.1, dV p.2])]) := by
      unfold g0_Counted_next_counts
      simp only [ev_gT, ti_pr, List.length_cons, List.length_nil, if_true, ev_gsCons, ev_gN, RS.seq_nx, List.set_cons_succ, List.set_cons_zero, ev_gsNil]
    have m1 : fMeth cL "can_be_first" (sp_Left_can_be_first cL) (fUn (fldD cC "left") (fVar 0)) (aCons (fVar 4) aNil) [some (.ref m), some (dV v), some (.ref h.length), some (.int (p.length : Nat)), some (.str s)] (h ++ [.lst (acc.map fun p => D.tup [.str p.1, dV p.2])]) = .ok (.bl (Tr.fst (dp A) (remF (fOf A.sg v) w) s)) (h ++ [.lst (acc.map fun p => D.tup [.str p.1, dV p.2])]) := by
      have ho : fUn (fldD cC "left") (fVar 0) [some (.ref m), some (dV v), some (.ref h.length), some (.int (p.length : Nat)), some (.str s)] (h ++ [.lst (acc.map fun p => D.tup [.str p.1, dV p.2])]) = .ok (.ref n) (h ++ [.lst (acc.map fun p => D.tup [.str p.1, dV p.2])]) := by
        simp only [ev_un, ev_var, List.getElem?_cons_zero, jn, R.of_some, R.bind_ok, fld_of hm2, hl]
      rw [meth_at (n := n) (as := [.str s]) (h2 := h ++ [.lst (acc.map fun p => D.tup [.str p.1, dV p.2])]) ho LL.at_ lk_cbf rfl, l_can_be_first G W LL hs]; rfl
    obtain ⟨q, x, u, ev, hq⟩ : ∃ q x u, v = q ++ x :: u ∧ p.length = q.length := by
      have hp : p.length < v.length := by rw [hv, ← ep]; simp
      refine ⟨v.take p.length, v[p.length], v.drop (p.length + 1), ?_, by simp; omega⟩
      rw [← List.drop_eq_getElem_cons hp, List.take_append_drop]
    have hsp : s ∉ p := fun hm => by
      have nd := nd_of G.pw
      rw [← ep, List.nodup_append] at nd
      exact nd.2.2 s hm s (by simp) rfl
    have ei : incV A.sg v s = q ++ (x + 1) :: u := by rw [← ep, ev]; exact incV_at hq hsp
    have ih := fun acc' hz' => l_nc_loop G W hv L hm hl r (p ++ [s]) acc' (some (.int (p.length : Nat))) (some (.str s)) (by rw [← ep]; simp) hz'
    rw [show (p ++ [s]).length = p.length + 1 by simp] at ih
    rw [List.map_cons, enF_cons]
    cases hf : Tr.fst (dp A) (remF (fOf A.sg v) w) s with
    | false =>
      rw [hf] at m1
      obtain ⟨e', e1, e2⟩ := ih acc (by simp at hz; omega)
      refine ⟨e', ?_, e2⟩
      rw [forL_nx (e2 := [some (.ref m), some (dV v), some (.ref h.length), some (.int (p.length : Nat)), some (.str s)]) (h2 := h ++ [.lst (acc.map fun p => D.tup [.str p.1, dV p.2])]) tg (by
        unfold b1_Counted_next_counts
        simp only [ev_sIf, ev_asB, m1, R.bind_ok, R.toS_ok, Bool.false_eq_true, if_false, ev_sNil]), e1]
      simp [hf]
    | true =>
      rw [hf] at m1
      obtain ⟨e', e1, e2⟩ := ih (acc ++ [(s, incV A.sg v s)]) (by simp at hz ⊢; omega)
      refine ⟨e', ?_, e2⟩
      have ty : tyB "list" (.ref h.length) (h ++ [.lst (acc.map fun p => D.tup [.str p.1, dV p.2])]) = true := ty_cell (xs := acc.map fun p => D.tup [.str p.1, dV p.2]) (by simp)
      have ap := append_cell (h := h) (xs := acc.map fun p => D.tup [.str p.1, dV p.2]) (g := []) (x := D.tup [.str s, dV (incV A.sg v s)]) (by simp at hz ⊢; omega)
      have vl : v.length ≤ 100 := by rw [hv]; exact G.sz
      have c1 : cutD (v.map fun i => D.int (i : Nat)) none (some (p.length : Nat)) = q.map fun i => D.int (i : Nat) := by
        rw [cut_to, ev, hq, ← List.map_take, List.take_left]
      have c2 : cutD (v.map fun i => D.int (i : Nat)) (some ((p.length : Nat) + 1 : Int)) none = u.map fun i => D.int (i : Nat) := by
        rw [show ((p.length : Nat) + 1 : Int) = ((p.length + 1 : Nat) : Int) by omega, cut_from, ev, hq, ← List.map_drop]
        congr 1
        rw [show q ++ x :: u = (q ++ [x]) ++ u by simp, show q.length + 1 = (q ++ [x]).length by simp, List.drop_left]
      have g1 : L2.atI (v.map fun i => D.int (i : Nat)) ((p.length : Nat) : Int) = some (.int (x : Nat)) := by
        rw [atI_nat, ev, hq]; simp
      have el : v.length = q.length + u.length + 1 := by rw [ev]; simp; omega
      have a1 : ∀ h' : Hea, addD (.tup (q.map fun i => D.int (i : Nat))) (.tup [.int ((x : Nat) + 1 : Int)]) h' = some (.tup (q.map (fun i => D.int (i : Nat)) ++ [.int ((x : Nat) + 1 : Int)])) := fun h' => add_tup (by simp; omega)
      have a2 : ∀ h' : Hea, addD (.tup (q.map (fun i => D.int (i : Nat)) ++ [.int ((x : Nat) + 1 : Int)])) (.tup (u.map fun i => D.int (i : Nat))) h' = some (.tup ((incV A.sg v s).map fun i => D.int (i : Nat))) := fun h' => by
        rw [add_tup (by simp; omega), ei]
        simp
      rw [forL_nx (e2 := [some (.ref m), some (dV v), some (.ref h.length), some (.int (p.length : Nat)), some (.str s)]) (h2 := h ++ [.lst ((acc ++ [(s, incV A.sg v s)]).map fun p => D.tup [.str p.1, dV p.2])]) tg (by
        unfold b1_Counted_next_counts
        simp only [dV] at m1 ⊢
        simp only [dV] at ap ty
        simp only [ev_sIf, ev_asB, m1, R.bind_ok, R.toS_ok, if_true, ev_sExpr, ev_bm, ev_var, List.getElem?_cons_succ, List.getElem?_cons_zero, jn, R.of_some, ty, ev_cons, ev_nary, ev_bin, ev_slice, ev_oN, ev_oS, ev_c, ev_nil, sld_tup, c1, c2, gi_tup, g1, add_int, dtup (as := [D.int ((x : Nat) + 1 : Int)]) (by simp), a1, a2, dtup (as := [D.str s, .tup ((incV A.sg v s).map fun i => D.int (i : Nat))]) (by simp), ap]
        simp), e1]
      simp [hf]
end
end W63

set_option Elab.async false
set_option linter.all false
set_option maxRecDepth 100000
set_option maxHeartbeats 1000000
namespace W63
open PySem DD
theorem closeL_of' {gf : List D → Hea → R D} {ds : List D} {h h' g : Hea} {k : Nat} {xs : List D} (e : gf ds h = .ok (.ref k) (h' ++ g)) (hlen : h'.length = h.length) (o : OldOk h (h' ++ g)) (hk : (h' ++ g)[k]? = some (.lst xs)) (hl : h.length ≤ k) (c : cls h.length xs) : closeL gf ds h = .ok (.lst xs) h' := by
  unfold closeL
  rw [e]
  simp only
  rw [hk]
  simp only
  rw [if_pos ⟨hl, by simp; omega, c, o⟩]
  simp [← hlen]
theorem ev_zip {fa : En → Hea → R (List D)} {e : En} {h : Hea} : fZipL fa e h = (fa e h).bind fun as h1 => match as with
  | [a, b] => match seqOf h1 a, seqOf h1 b with
    | some xs, some ys => .ok (.lst ((xs.zip ys).map fun p => .tup [p.1, p.2])) h1
    | _, _ => .no
  | _ => .no := rfl
section
variable {cL cC : Addr} {A : Alp} {w : List Str} {h : Hea} {m n : Nat} {fs : List (Str × D)} {tk : D}
theorem l_next (G : Good A) (W : GoodW A w) {v : List Nat} (hv : v.length = A.sg.length) (hm : h[m]? = some (.ins cC fs)) (hs : List.lookup ("signs" : Str) fs = some (dRow A.sg)) (hl : List.lookup ("left" : Str) fs = some (.ref n)) (hn : h[n]? = some (.ins cL (fLeft A w tk))) (hne : m ≠ n) :
    sp_Counted_next_counts cL cC [.ref m, dV v] h = .ok (dNx A w v) (h.set n (.ins cL (fLeft A w (dTk A v)))) := by
  have hn' : n < h.length := (List.getElem?_eq_some_iff.mp hn).1
  have hm2 : (h.set n (.ins cL (fLeft A w (dTk A v))))[m]? = some (.ins cC fs) := by rw [List.getElem?_set_ne (Ne.symm hne)]; exact hm
  have LL : LeftIs cL (h.set n (.ins cL (fLeft A w (dTk A v)))) n A w (fOf A.sg v) (dTk A v) := ⟨by simp [hn'], dTk_of (nd_of G.pw) hv⟩
  obtain ⟨e', e1, e2⟩ := l_nc_loop (cL := cL) (cC := cC) G W hv LL hm2 hl A.sg [] [] none none rfl (by have := G.sz; simp; omega)
  simp only [List.length_nil, List.map_nil, List.nil_append, List.length_set] at e1 e2
  have en : ([D.ref m, dV v].map some ++ List.replicate (5 - [D.ref m, dV v].length) none) = [some (.ref m), some (dV v), none, none, none] := rfl
  have z1 : fUn (fldD cC "left") (fVar 0) [some (.ref m), some (dV v), none, none, none] h = .ok (.ref n) h := by
    simp only [ev_un, ev_var, List.getElem?_cons_zero, jn, R.of_some, R.bind_ok, fld_of hm, hl]
  have z2 : fNary dictN (aCons (fZipL (aCons (fUn (fldD cC "signs") (fVar 0)) (aCons (fVar 1) (aNil)))) (aNil)) [some (.ref m), some (dV v), none, none, none] h = .ok (dTk A v) h := by
    have dz := dict_zip G hv (h := h)
    unfold dV
    simp only [ev_nary, ev_cons, ev_zip, ev_un, ev_var, List.getElem?_cons_succ, List.getElem?_cons_zero, jn, R.of_some, R.bind_ok, fld_of hm, hs, ev_nil, sq_tup, dz]
  have z3 : setFD cL "taken" (.ref n) (dTk A v) h = some (h.set n (.ins cL (fLeft A w (dTk A v)))) := by rw [setF hn (by simp [fLeft])]; rfl
  have z4 : iEnumT (aCons (fUn (fldD cC "signs") (fVar 0)) (aNil)) [some (.ref m), some (dV v), some (.ref h.length), none, none] (h.set n (.ins cL (fLeft A w (dTk A v))) ++ [.lst []]) = .ok (enF 0 (A.sg.map D.str)) (h.set n (.ins cL (fLeft A w (dTk A v))) ++ [.lst []]) := by
    have hm3 : (h.set n (.ins cL (fLeft A w (dTk A v))) ++ [Cell.lst []])[m]? = some (.ins cC fs) := by
      rw [List.getElem?_append_left (List.getElem?_eq_some_iff.mp hm2).1]; exact hm2
    simp only [ev_enT, ev_cons, ev_un, ev_var, List.getElem?_cons_zero, jn, R.of_some, R.bind_ok, fld_of hm3, hs, ev_nil, ti_tup, Option.map_some, enumL_eq]
  have z5 : ([] : List D).length ≤ sizeLine := Nat.zero_le _
  refine closeL_of' (k := h.length) (g := [.lst ((nxV A w v).map fun p => D.tup [.str p.1, dV p.2])]) ?_ (by simp) (fun i c hi e => ?_) (by simp) (Nat.le_refl _) ?_
  · unfold defF r_Counted_next_counts
    rw [en, ev_sCons, ev_sFld, z2, R.toS_ok, z1, R.toS_ok, z3]
    simp only [RS.seq_nx]
    rw [ev_sCons, ev_sAsg, ev_cell]
    simp only [ev_nil, R.bind_ok, z5, if_true, R.toS_ok, ev_gN, List.set_cons_succ, List.set_cons_zero, RS.seq_nx, List.length_set]
    rw [ev_sCons, ev_sFor, z4, R.toS_ok, e1]
    simp only [RS.seq_nx, ev_sRet, ev_var, e2, jn, R.of_some, R.toS_ok]
    rfl
  · rw [List.getElem?_append_left (by simpa using hi)] at e
    by_cases q : i = n
    · subst q
      rw [List.getElem?_set_self hn'] at e
      cases e
      right
      refine ⟨cls_map (f := D.str) (fun _ => trivial) _, cls_map (f := D.str) (fun _ => trivial) _, cls_map (f := fun s => D.lst ((depL s (depC A)).map D.str)) (fun s => cls_map (f := D.str) (fun _ => trivial) _) _, cls_map (f := fun s => D.lst ((posF 0 w s).map fun i => D.int (i : Nat))) (fun s => cls_map (f := fun i : Nat => D.int (i : Nat)) (fun _ => trivial) _) _, cls_map (f := fun i : Nat => D.int (i : Nat)) (fun _ => trivial) _, trivial⟩
    · rw [List.getElem?_set_ne (Ne.symm q)] at e
      exact .inl e
  · exact cls_map (f := fun p : Str × List Nat => D.tup [.str p.1, dV p.2]) (fun p => ⟨trivial, cls_map (f := fun i : Nat => D.int (i : Nat)) (fun _ => trivial) _, trivial⟩) _
end
/-! ### Counted's __init__, to the loop -/
def CH (h0 : Hea) (cC cL : Addr) (A : Alp) (w : List Str) (fs : List (Str × D)) (tk : D) (L : List (List Nat)) (NX TH : List (D × D)) (g : Hea) : Hea :=
  h0 ++ .ins cC fs :: .ins cL (fLeft A w tk) :: .dic false (kTak A fun _ => 0) :: .lst (L.map dV) :: .dic true NX :: .dic true TH :: g
def endV (A : Alp) (w : List Str) : List Nat := A.sg.map fun s => (posF 0 w s).length
def fsC (N : Nat) (A : Alp) (w : List Str) : List (Str × D) := [("signs", dRow A.sg), ("left", .ref (N + 1)), ("end", dV (endV A w)), ("nexts", .ref (N + 4))]
def zeroV (A : Alp) : List Nat := List.replicate A.sg.length 0
theorem mid_get {h0 r : Hea} {c : Cell} {n : Nat} (hn : n = h0.length) : (h0 ++ c :: r)[n]? = some c := by subst hn; simp
theorem mid_set {h0 r : Hea} {c d : Cell} {n : Nat} (hn : n = h0.length) : (h0 ++ c :: r).set n d = h0 ++ d :: r := by
  subst hn
  rw [List.set_append_right _ _ (Nat.le_refl _)]; simp
theorem okK_dV (v : List Nat) : okK true (dV v) = true := by
  have : dV v = .tup ((v.map fun (i : Nat) => (.inl (Int.ofNat i) : L2.Key)).map kD) := by
    unfold dV
    rw [List.map_map]
    rfl
  rw [this]
  simp only [okK, keyT, keysD_map, Option.isSome_some]
theorem zero_mul {A : Alp} {h : Hea} (h0 : A.sg ≠ []) (h1 : A.sg.length ≤ 100) : mulG (.tup [.int 0]) (.int (A.sg.length : Nat)) h = some (dV (zeroV A)) := by
  have hp : 0 < A.sg.length := List.length_pos_iff.mpr h0
  show (if [D.int 0] ≠ [] ∧ 1 ≤ ((A.sg.length : Nat) : Int) ∧ ((A.sg.length : Nat) : Int) ≤ 1000 ∧ [D.int 0].length ≤ 1000 then some (D.tup (repD ((A.sg.length : Nat) : Int) [D.int 0])) else none) = _
  rw [if_pos ⟨by simp, by omega, by omega, by simp⟩]
  unfold repD zeroV dV
  rw [Int.toNat_natCast, List.flatten_replicate_singleton, List.map_replicate]
  rfl
theorem en10 {d0 d1 d2 : D} : ([d0, d1, d2].map some ++ List.replicate (10 - [d0, d1, d2].length) none) = [some d0, some d1, some d2, none, none, none, none, none, none, none] := rfl
theorem l_ci_a {cL cC : Addr} {A : Alp} {w : List Str} (G : Good A) (W : GoodW A w) (ne : A.sg ≠ []) {h0 : Hea} (k : FS) :
    sCons (sFldD cC "signs" (fVar 0) (fBin getIx (fVar 1) (fC (.int 0)))) (sCons (sFldD cC "left" (fVar 0) (fMake cL (sp_Left___init__ cL) (aCons (fVar 1) (aCons (fVar 2) (aNil))))) (sCons (sFldD cC "end" (fVar 0) (fNary tupleN (aCons ((c0_Counted___init__ cL cC)) (aNil)))) (sCons (sPar 3 4 (aCons (dCell (aCons (fBin mulG (fNary dTup (aCons (fC (.int 0)) (aNil))) (fNary lenG (aCons (fUn (fldD cC "signs") (fVar 0)) (aNil)))) (aNil))) (aCons (fC (.int 0)) (aNil)))) (sCons (sFldD cC "nexts" (fVar 0) (fNew true)) (sCons (sAsg ((fun e h => (fOneT (fBin getIx (fVar 3) (fC (.int 0))) (fC (.bl true)) e h).nox)) (gN 5)) k)))))
      [some (.ref h0.length), some (dAl A), some (dRow w), none, none, none, none, none, none, none] (h0 ++ [.ins cC []]) = k [some (.ref h0.length), some (dAl A), some (dRow w), some (.ref (h0.length + 3)), some (.int 0), some (.ref (h0.length + 5)), none, none, none, none] (CH h0 cC cL A w (fsC h0.length A w) (.ref (h0.length + 2)) [zeroV A] [] [(dV (zeroV A), .bl true)] []) := by
  have sz := G.sz
  have s1 : setFD cC "signs" (.ref h0.length) (dRow A.sg) (h0 ++ [.ins cC []]) = some (h0 ++ [.ins cC [("signs", dRow A.sg)]]) := by
    rw [setF (mid_get rfl) (by simp), mid_set rfl]; rfl
  have mk : fMake cL (sp_Left___init__ cL) (aCons (fVar 1) (aCons (fVar 2) (aNil))) [some (.ref h0.length), some (dAl A), some (dRow w), none, none, none, none, none, none, none] (h0 ++ [.ins cC [("signs", dRow A.sg)]]) = .ok (.ref (h0.length + 1)) (h0 ++ .ins cC [("signs", dRow A.sg)] :: .ins cL (fLeft A w (.ref (h0.length + 2))) :: [.dic false (kTak A fun _ => 0)]) := by
    rw [l_make G W rfl]
    simp [LH]
  have s2 : setFD cC "left" (.ref h0.length) (.ref (h0.length + 1)) (h0 ++ .ins cC [("signs", dRow A.sg)] :: .ins cL (fLeft A w (.ref (h0.length + 2))) :: [.dic false (kTak A fun _ => 0)]) = some (h0 ++ .ins cC [("signs", dRow A.sg), ("left", .ref (h0.length + 1))] :: .ins cL (fLeft A w (.ref (h0.length + 2))) :: [.dic false (kTak A fun _ => 0)]) := by
    rw [setF (mid_get rfl) (by simp), mid_set rfl]; rfl
  have g1 : ∀ (fs : List (Str × D)) (f : Str) (r : Hea), fldD cC f (.ref h0.length) (h0 ++ .ins cC fs :: r) = fs.lookup f := fun fs f r => fld_of (mid_get rfl)
  have c0 : c0_Counted___init__ cL cC [some (.ref h0.length), some (dAl A), some (dRow w), none, none, none, none, none, none, none] (h0 ++ .ins cC [("signs", dRow A.sg), ("left", .ref (h0.length + 1))] :: .ins cL (fLeft A w (.ref (h0.length + 2))) :: [.dic false (kTak A fun _ => 0)]) = .ok (.lst ((endV A w).map fun i => D.int (i : Nat))) (h0 ++ .ins cC [("signs", dRow A.sg), ("left", .ref (h0.length + 1))] :: .ins cL (fLeft A w (.ref (h0.length + 2))) :: [.dic false (kTak A fun _ => 0)]) := by
    have g2 : fldD cL "places" (.ref (h0.length + 1)) (h0 ++ .ins cC [("signs", dRow A.sg), ("left", .ref (h0.length + 1))] :: .ins cL (fLeft A w (.ref (h0.length + 2))) :: [.dic false (kTak A fun _ => 0)]) = some (dPla A w) := by
      rw [fld_of (fs := fLeft A w (.ref (h0.length + 2))) (by simp)]; rfl
    have e := lcL_map (fg := gN 6) (ft := tOn) (fe := fNary lenG (aCons (fBin getIx (fUn (fldD cL "places") (fUn (fldD cC "left") (fVar 0))) (fVar 6)) (aNil))) (vs := [6]) (e0 := [some (.ref h0.length), some (dAl A), some (dRow w), none, none, none, none, none, none, none]) (h := h0 ++ .ins cC [("signs", dRow A.sg), ("left", .ref (h0.length + 1))] :: .ins cL (fLeft A w (.ref (h0.length + 2))) :: [.dic false (kTak A fun _ => 0)]) D.str (fun _ => true) (fun s => D.int ((posF 0 w s).length : Nat)) (l := A.sg) fun s hs => by
      refine ⟨_, rfl, rfl, fun _ => ?_⟩
      have lk : List.lookup ("left" : Str) [(("signs" : Str), dRow A.sg), ("left", D.ref (h0.length + 1))] = some (D.ref (h0.length + 1)) := rfl
      simp only [wipeE, List.foldl_cons, List.foldl_nil, List.set_cons_succ, List.set_cons_zero, ev_nary, ev_cons, ev_bin, ev_un, ev_var, List.getElem?_cons_succ, List.getElem?_cons_zero, jn, R.of_some, R.bind_ok, g1, lk, g2, pla_get hs, ev_nil, len_lst, List.length_map]
    have ef : A.sg.filter (fun _ => true) = A.sg := by simp
    rw [ef] at e
    have hz : ((endV A w).map fun i => D.int (i : Nat)).length ≤ sizeLine := by
      rw [sizeLine_eq]; simp only [endV, List.length_map]; omega
    have lk : List.lookup ("signs" : Str) [(("signs" : Str), dRow A.sg), ("left", D.ref (h0.length + 1))] = some (dRow A.sg) := rfl
    have em : A.sg.map (fun s => D.int ((posF 0 w s).length : Nat)) = (endV A w).map fun i => D.int (i : Nat) := by
      unfold endV; rw [List.map_map]; rfl
    rw [em] at e
    unfold c0_Counted___init__
    simp only [ev_lc, ev_seq, ev_un, ev_var, List.getElem?_cons_zero, jn, R.of_some, R.bind_ok, g1, lk, ti_tup, e]
    exact lcEnd_ok hz
  have s3 : setFD cC "end" (.ref h0.length) (dV (endV A w)) (h0 ++ .ins cC [("signs", dRow A.sg), ("left", .ref (h0.length + 1))] :: .ins cL (fLeft A w (.ref (h0.length + 2))) :: [.dic false (kTak A fun _ => 0)]) = some (h0 ++ .ins cC [("signs", dRow A.sg), ("left", .ref (h0.length + 1)), ("end", dV (endV A w))] :: .ins cL (fLeft A w (.ref (h0.length + 2))) :: [.dic false (kTak A fun _ => 0)]) := by
    rw [setF (mid_get rfl) (by simp), mid_set rfl]; rfl
  have lk3 : List.lookup ("signs" : Str) [(("signs" : Str), dRow A.sg), ("left", D.ref (h0.length + 1)), ("end", dV (endV A w))] = some (dRow A.sg) := rfl
  have z1 : ([dV (zeroV A)] : List D).length ≤ sizeLine := by rw [sizeLine_eq, List.length_singleton]; decide
  have s4 : setFD cC "nexts" (.ref h0.length) (.ref (h0.length + 4)) (h0 ++ .ins cC [("signs", dRow A.sg), ("left", .ref (h0.length + 1)), ("end", dV (endV A w))] :: .ins cL (fLeft A w (.ref (h0.length + 2))) :: .dic false (kTak A fun _ => 0) :: .lst [dV (zeroV A)] :: [.dic true []]) = some (h0 ++ .ins cC (fsC h0.length A w) :: .ins cL (fLeft A w (.ref (h0.length + 2))) :: .dic false (kTak A fun _ => 0) :: .lst [dV (zeroV A)] :: [.dic true []]) := by
    rw [setF (mid_get rfl) (by simp), mid_set rfl]; rfl
  have gl : ∀ (a b c : Cell) (r : Hea), getIx (.ref (h0.length + 3)) (.int 0) (h0 ++ a :: b :: c :: .lst [dV (zeroV A)] :: r) = some (dV (zeroV A)) := fun a b c r => by
    rw [gi_cell (xs := [dV (zeroV A)]) (by simp), atI_0]; rfl
  rw [ev_sCons, ev_sFld]
  simp only [ev_bin, ev_var, ev_c, List.getElem?_cons_succ, List.getElem?_cons_zero, jn, R.of_some, R.bind_ok, dal0, R.toS_ok, s1, RS.seq_nx]
  rw [ev_sCons, ev_sFld, mk]
  simp only [ev_var, List.getElem?_cons_zero, jn, R.of_some, R.toS_ok, s2, RS.seq_nx]
  have tn : tupleN [.lst ((endV A w).map fun i => D.int (i : Nat))] (h0 ++ .ins cC [("signs", dRow A.sg), ("left", .ref (h0.length + 1))] :: .ins cL (fLeft A w (.ref (h0.length + 2))) :: [.dic false (kTak A fun _ => 0)]) = some (dV (endV A w)) := rfl
  rw [ev_sCons, ev_sFld]
  simp only [ev_nary, ev_cons, c0, R.bind_ok, ev_nil, tn, R.of_some, R.toS_ok, ev_var, List.getElem?_cons_zero, jn, s3, RS.seq_nx]
  rw [ev_sCons, ev_sPar]
  simp only [ev_cons, ev_cell, ev_bin, ev_nary, ev_c, ev_nil, ev_un, ev_var, List.getElem?_cons_zero, jn, R.of_some, R.bind_ok, dtup (as := [D.int 0]) (by simp), g1, lk3, len_tup, List.length_map, zero_mul ne sz, z1, if_true, R.toS_ok, List.set_cons_succ, List.set_cons_zero, RS.seq_nx]
  have l1 : (h0 ++ .ins cC [("signs", dRow A.sg), ("left", .ref (h0.length + 1)), ("end", dV (endV A w))] :: .ins cL (fLeft A w (.ref (h0.length + 2))) :: [.dic false (kTak A fun _ => 0)] : Hea).length = h0.length + 3 := by simp
  have l2 : (h0 ++ .ins cC [("signs", dRow A.sg), ("left", .ref (h0.length + 1)), ("end", dV (endV A w))] :: .ins cL (fLeft A w (.ref (h0.length + 2))) :: .dic false (kTak A fun _ => 0) :: [.lst [dV (zeroV A)]] : Hea).length = h0.length + 4 := by simp
  have l3 : (h0 ++ .ins cC (fsC h0.length A w) :: .ins cL (fLeft A w (.ref (h0.length + 2))) :: .dic false (kTak A fun _ => 0) :: .lst [dV (zeroV A)] :: [.dic true []] : Hea).length = h0.length + 5 := by simp
  simp only [l1, List.append_assoc, List.cons_append, List.nil_append]
  rw [ev_sCons, ev_sFld, ev_new]
  simp only [R.toS_ok, ev_var, List.getElem?_cons_zero, jn, R.of_some, l2, List.append_assoc, List.cons_append, List.nil_append, s4, RS.seq_nx]
  have one : fOneT (fBin getIx (fVar 3) (fC (.int 0))) (fC (.bl true)) [some (.ref h0.length), some (dAl A), some (dRow w), some (.ref (h0.length + 3)), some (.int 0), none, none, none, none, none] (h0 ++ .ins cC (fsC h0.length A w) :: .ins cL (fLeft A w (.ref (h0.length + 2))) :: .dic false (kTak A fun _ => 0) :: .lst [dV (zeroV A)] :: [.dic true []]) = .ok (.ref (h0.length + 5)) (CH h0 cC cL A w (fsC h0.length A w) (.ref (h0.length + 2)) [zeroV A] [] [(dV (zeroV A), .bl true)] []) := by
    unfold fOneT
    simp only [ev_bin, ev_var, ev_c, List.getElem?_cons_succ, List.getElem?_cons_zero, jn, R.of_some, R.bind_ok, gl, okK_dV, if_true, l3]
    simp [CH]
  rw [ev_sCons, ev_sAsg, one]
  simp only [R.nox_ok, R.toS_ok, ev_gN, List.set_cons_succ, List.set_cons_zero, RS.seq_nx]
end W63

set_option Elab.async false
set_option linter.all false
set_option maxRecDepth 100000
set_option maxHeartbeats 1000000
namespace W63
open PySem DD
/-! ### all counts come to -/
def rl (A : Alp) (w : List Str) (v : List Nat) : Nat := (remF (fOf A.sg v) w).length
structure OkV (A : Alp) (w : List Str) (v : List Nat) : Prop where
  len : v.length = A.sg.length
  le : ∀ s ∈ A.sg, fOf A.sg v s ≤ (posF 0 w s).length
theorem nx_step {A : Alp} (G : Good A) {w : List Str} {v : List Nat} (o : OkV A w v) {p : Str × List Nat} (hp : p ∈ nxV A w v) : OkV A w p.2 ∧ rl A w p.2 + 1 = rl A w v ∧ remF (fOf A.sg p.2) w = (remF (fOf A.sg v) w).erase p.1 := by
  obtain ⟨s, hs, rfl⟩ := List.mem_map.mp hp
  obtain ⟨h1, h2⟩ := Tr.mem_firsts.mp hs
  have hm := Tr.fst_mem h2
  have e := fOf_inc (v := v) o.len h1
  have er := remF_inc hm
  simp only
  refine ⟨⟨by rw [incV_len]; exact o.len, fun t ht => ?_⟩, ?_, by rw [e, er]⟩
  · rw [e]
    unfold incF
    split
    · rename_i q
      subst q
      obtain ⟨q, hq⟩ := mem_nx (k := 0) hm
      exact (List.getElem?_eq_some_iff.mp hq).1
    · exact o.le t ht
  · unfold rl
    rw [e, er, List.length_erase_of_mem hm]
    have := List.length_pos_of_mem hm
    omega
def addV : List (List Nat) → List (Str × List Nat) → List (List Nat)
  | L, [] => L
  | L, p :: ps => addV (if p.2 ∈ L then L else L ++ [p.2]) ps
theorem addV_spec : ∀ (ps : List (Str × List Nat)) (L : List (List Nat)), L.Nodup → ∃ E, addV L ps = L ++ E ∧ (L ++ E).Nodup ∧ (∀ p ∈ ps, p.2 ∈ L ++ E) ∧ ∀ e ∈ E, ∃ p ∈ ps, p.2 = e
  | [], L, nd => ⟨[], by simp [addV], by simpa using nd, by simp, by simp⟩
  | p :: ps, L, nd => by
    by_cases q : p.2 ∈ L
    · obtain ⟨E, e1, e2, e3, e4⟩ := addV_spec ps L nd
      refine ⟨E, by simp [addV, q, e1], e2, fun r hr => ?_, fun e he => ?_⟩
      · rcases List.mem_cons.mp hr with rfl | hr
        · exact List.mem_append_left _ q
        · exact e3 r hr
      · obtain ⟨r, hr, er⟩ := e4 e he
        exact ⟨r, List.mem_cons_of_mem _ hr, er⟩
    · have nd' : (L ++ [p.2]).Nodup := by
        rw [List.nodup_append]
        exact ⟨nd, by simp, fun x hx y hy => by rw [List.mem_singleton.mp hy]; exact fun e => q (by rw [← e]; exact hx)⟩
      obtain ⟨E, e1, e2, e3, e4⟩ := addV_spec ps (L ++ [p.2]) nd'
      have ea : L ++ [p.2] ++ E = L ++ p.2 :: E := by simp
      rw [ea] at e1 e2 e3
      refine ⟨p.2 :: E, by simp [addV, q, e1], e2, fun r hr => ?_, fun e he => ?_⟩
      · rcases List.mem_cons.mp hr with rfl | hr
        · simp
        · exact e3 r hr
      · rcases List.mem_cons.mp he with rfl | he
        · exact ⟨p, List.mem_cons_self, rfl⟩
        · obtain ⟨r, hr, er⟩ := e4 e he
          exact ⟨r, List.mem_cons_of_mem _ hr, er⟩
structure BI (A : Alp) (w : List Str) (done todo : List (List Nat)) : Prop where
  nd : (done ++ todo).Nodup
  ok : ∀ v ∈ done ++ todo, OkV A w v
  cl : ∀ v ∈ done, ∀ p ∈ nxV A w v, p.2 ∈ done ++ todo
  pw : (done ++ todo).Pairwise fun a b => rl A w b ≤ rl A w a
  hd : ∀ u ∈ done ++ todo, ∀ y ∈ todo, rl A w y ≤ rl A w u + 1
theorem BI.step {A : Alp} (G : Good A) {w : List Str} {done todo : List (List Nat)} {v : List Nat} (b : BI A w done (v :: todo)) : ∃ E, addV (done ++ v :: todo) (nxV A w v) = done ++ v :: todo ++ E ∧ BI A w (done ++ [v]) (todo ++ E) := by
  obtain ⟨E, e1, e2, e3, e4⟩ := addV_spec (nxV A w v) (done ++ v :: todo) b.nd
  have ea : done ++ [v] ++ (todo ++ E) = done ++ v :: todo ++ E := by simp
  have ov := b.ok v (by simp)
  have eE : ∀ e ∈ E, OkV A w e ∧ rl A w e + 1 = rl A w v := fun e he => by
    obtain ⟨p, hp, rfl⟩ := e4 e he
    exact ⟨(nx_step G ov hp).1, (nx_step G ov hp).2.1⟩
  have pv : ∀ y ∈ todo, rl A w y ≤ rl A w v := fun y hy => by
    have q := (List.pairwise_append.mp b.pw).2.1
    rw [List.pairwise_cons] at q
    exact q.1 y hy
  refine ⟨E, e1, ⟨by rw [ea]; exact e2, fun u hu => ?_, fun u hu p hp => ?_, ?_, fun u hu y hy => ?_⟩⟩
  · rw [ea] at hu
    rcases List.mem_append.mp hu with q | q
    · exact b.ok u q
    · exact (eE u q).1
  · rw [ea]
    rcases List.mem_append.mp hu with q | q
    · exact List.mem_append_left _ (b.cl u q p hp)
    · rw [List.mem_singleton.mp q] at hp
      exact e3 p hp
  · rw [ea, List.pairwise_append]
    refine ⟨b.pw, ?_, fun u hu e he => ?_⟩
    · have : ∀ a ∈ E, ∀ b ∈ E, rl A w b ≤ rl A w a := fun a ha b hb => by have := (eE a ha).2; have := (eE b hb).2; omega
      exact List.pairwise_of_forall_mem_list this
    · have := b.hd u hu v (by simp)
      have := (eE e he).2
      omega
  · rw [ea] at hu
    have hy2 : rl A w y ≤ rl A w v := by
      rcases List.mem_append.mp hy with q | q
      · exact pv y q
      · have := (eE y q).2; omega
    rcases List.mem_append.mp hu with q | q
    · have := b.hd u q v (by simp)
      omega
    · have := (eE u q).2
      omega
/-! how many they are -/
def allV : Nat → List (List Nat)
  | 0 => [[]]
  | n + 1 => (List.range 7).flatMap fun i => (allV n).map (i :: ·)
theorem mem_allV : ∀ (n : Nat) (v : List Nat), v.length = n → (∀ i ∈ v, i ≤ 6) → v ∈ allV n
  | 0, v, h, _ => by rw [List.eq_nil_of_length_eq_zero h]; simp [allV]
  | n + 1, [], h, _ => by simp at h
  | n + 1, i :: v, h, hi => by
    unfold allV
    rw [List.mem_flatMap]
    refine ⟨i, ?_, List.mem_map_of_mem (mem_allV n v (by simpa using h) fun j hj => hi j (List.mem_cons_of_mem _ hj))⟩
    have := hi i List.mem_cons_self
    simp; omega
theorem allV_len : ∀ n, (allV n).length = 7 ^ n
  | 0 => rfl
  | n + 1 => by
    unfold allV
    rw [List.length_flatMap]
    simp only [List.length_map, allV_len n]
    rw [Nat.pow_succ]
    simp [List.range, List.range.loop]
    omega
theorem okV_all {A : Alp} (G : Good A) {w : List Str} (h6 : w.length ≤ 6) {v : List Nat} (o : OkV A w v) : v ∈ allV A.sg.length := by
  refine mem_allV _ v o.len fun i hi => ?_
  rw [← fOf_map (nd_of G.pw) o.len] at hi
  obtain ⟨s, hs, rfl⟩ := List.mem_map.mp hi
  exact Nat.le_trans (o.le s hs) (Nat.le_trans (posF_len s w 0) h6)
theorem BI.sz {A : Alp} (G : Good A) (h4 : A.sg.length ≤ 4) {w : List Str} (h6 : w.length ≤ 6) {done todo : List (List Nat)} (b : BI A w done todo) : done.length + todo.length ≤ 2401 := by
  have := nd_le b.nd fun v hv => okV_all G h6 (b.ok v hv)
  rw [List.length_append, allV_len] at this
  have h : ∀ n, n ≤ 4 → 7 ^ n ≤ 2401 := by decide
  have := h _ h4
  omega
theorem zero_ok {A : Alp} {w : List Str} : OkV A w (zeroV A) := ⟨by simp [zeroV], fun s _ => by rw [zeroV, fOf_zero]; exact Nat.zero_le _⟩
theorem BI.zero {A : Alp} {w : List Str} : BI A w [] [zeroV A] :=
  ⟨by simp, fun v hv => by have e : v = zeroV A := by simpa using hv
                           rw [e]; exact zero_ok, fun v hv => by simp at hv, by simp, fun u hu y hy => by
    have e : u = zeroV A := by simpa using hu
    rw [e, List.mem_singleton.mp hy]; omega⟩
/-! ### the loops -/
section
variable {h0 g : Hea} {cC cL : Addr} {A : Alp} {w : List Str} {fs : List (Str × D)} {tk : D} {L : List (List Nat)} {NX TH : List (D × D)}
theorem ch0 : (CH h0 cC cL A w fs tk L NX TH g)[h0.length]? = some (.ins cC fs) := by simp [CH]
theorem ch1 : (CH h0 cC cL A w fs tk L NX TH g)[h0.length + 1]? = some (.ins cL (fLeft A w tk)) := by simp [CH]
theorem ch3 : (CH h0 cC cL A w fs tk L NX TH g)[h0.length + 3]? = some (.lst (L.map dV)) := by simp [CH]
theorem ch4 : (CH h0 cC cL A w fs tk L NX TH g)[h0.length + 4]? = some (.dic true NX) := by simp [CH]
theorem ch5 : (CH h0 cC cL A w fs tk L NX TH g)[h0.length + 5]? = some (.dic true TH) := by simp [CH]
theorem cs1 {tk' : D} : (CH h0 cC cL A w fs tk L NX TH g).set (h0.length + 1) (.ins cL (fLeft A w tk')) = CH h0 cC cL A w fs tk' L NX TH g := by
  unfold CH; rw [List.set_append_right _ _ (by omega)]; simp
theorem cs3 {L' : List (List Nat)} : (CH h0 cC cL A w fs tk L NX TH g).set (h0.length + 3) (.lst (L'.map dV)) = CH h0 cC cL A w fs tk L' NX TH g := by
  unfold CH; rw [List.set_append_right _ _ (by omega)]; simp
theorem cs4 {NX' : List (D × D)} : (CH h0 cC cL A w fs tk L NX TH g).set (h0.length + 4) (.dic true NX') = CH h0 cC cL A w fs tk L NX' TH g := by
  unfold CH; rw [List.set_append_right _ _ (by omega)]; simp
theorem cs5 {TH' : List (D × D)} : (CH h0 cC cL A w fs tk L NX TH g).set (h0.length + 5) (.dic true TH') = CH h0 cC cL A w fs tk L NX TH' g := by
  unfold CH; rw [List.set_append_right _ _ (by omega)]; simp
theorem mem_dV {v : List Nat} {L : List (List Nat)} : dV v ∈ L.map dV ↔ v ∈ L := by
  simp only [List.mem_map]
  constructor
  · rintro ⟨q, hq, e⟩; rw [← dV_inj _ _ e]; exact hq
  · intro hp; exact ⟨v, hp, rfl⟩
theorem put_newV {f : List Nat → D} {v : List Nat} {x : D} {L : List (List Nat)} (h : v ∉ L) : putDD (L.map fun v => (dV v, f v)) (dV v) x = (L.map fun v => (dV v, f v)) ++ [(dV v, x)] := by
  unfold putDD
  rw [if_neg]
  simp only [List.any_map, List.any_eq_true, Function.comp, decide_eq_true_eq, not_exists, not_and]
  intro u hu e
  exact h (by rw [← dV_inj _ _ e]; exact hu)
theorem get_V {f : List Nat → D} {n : Nat} {h : Hea} {v : List Nat} {L : List (List Nat)} (e : h[n]? = some (.dic true (L.map fun v => (dV v, f v)))) (hv : v ∈ L) : getIx (.ref n) (dV v) h = some (f v) := by
  rw [gi_dcell e, if_pos (okK_dV v), List.map_map, List.map_map]
  exact lkD_map dV f dV_inj hv
abbrev TrueD (L : List (List Nat)) : List (D × D) := L.map fun v => (dV v, D.bl true)
theorem l_ci_in {x0 x1 x2 x4 x8 x9 : Option D} : ∀ (ps : List (Str × List Nat)) (L : List (List Nat)) (x6 x7 : Option D), L.length + ps.length ≤ 100000 → ∃ y6 y7,
    forL g1_Counted___init__ b2_Counted___init__ (ps.map fun p => D.tup [.str p.1, dV p.2]) [x0, x1, x2, some (.ref (h0.length + 3)), x4, some (.ref (h0.length + 5)), x6, x7, x8, x9] (CH h0 cC cL A w fs tk L NX (TrueD L) []) = .nx [x0, x1, x2, some (.ref (h0.length + 3)), x4, some (.ref (h0.length + 5)), y6, y7, x8, x9] (CH h0 cC cL A w fs tk (addV L ps) NX (TrueD (addV L ps)) [])
  | [], L, x6, x7, _ => ⟨x6, x7, rfl⟩
  | p :: ps, L, x6, x7, hl => by
    have hl' : L.length + (ps.length + 1) ≤ 100000 := by simpa using hl
    obtain ⟨y6, y7, ih⟩ := l_ci_in (x0 := x0) (x1 := x1) (x2 := x2) (x4 := x4) (x8 := x8) (x9 := x9) ps (if p.2 ∈ L then L else L ++ [p.2]) (some (.str p.1)) (some (dV p.2)) (by split <;> first | omega | (simp; omega))
    refine ⟨y6, y7, ?_⟩
    have tg : g1_Counted___init__ (.tup [.str p.1, dV p.2]) [x0, x1, x2, some (.ref (h0.length + 3)), x4, some (.ref (h0.length + 5)), x6, x7, x8, x9] (CH h0 cC cL A w fs tk L NX (TrueD L) []) = .nx [x0, x1, x2, some (.ref (h0.length + 3)), x4, some (.ref (h0.length + 5)), some (.str p.1), some (dV p.2), x8, x9] (CH h0 cC cL A w fs tk L NX (TrueD L) []) := by
      unfold g1_Counted___init__
      simp only [ev_gT, ti_tup, List.length_cons, List.length_nil, if_true, ev_gsCons, ev_gN, RS.seq_nx, List.set_cons_succ, List.set_cons_zero, ev_gsNil]
    have ni : notInG (dV p.2) (.ref (h0.length + 5)) (CH h0 cC cL A w fs tk L NX (TrueD L) []) = some (.bl (!decide (p.2 ∈ L))) := by
      unfold notInG
      rw [show dicOf (CH h0 cC cL A w fs tk L NX (TrueD L) []) (.ref (h0.length + 5)) = some (true, L.map dV, L.map fun _ => D.bl true) by
        simp only [dicOf, ch5]
        simp [TrueD, Function.comp_def]]
      simp only [okK_dV, if_true]
      congr 3
      exact decide_eq_decide.mpr mem_dV
    have bd : b2_Counted___init__ [x0, x1, x2, some (.ref (h0.length + 3)), x4, some (.ref (h0.length + 5)), some (.str p.1), some (dV p.2), x8, x9] (CH h0 cC cL A w fs tk L NX (TrueD L) []) = .nx [x0, x1, x2, some (.ref (h0.length + 3)), x4, some (.ref (h0.length + 5)), some (.str p.1), some (dV p.2), x8, x9] (CH h0 cC cL A w fs tk (if p.2 ∈ L then L else L ++ [p.2]) NX (TrueD (if p.2 ∈ L then L else L ++ [p.2])) []) := by
      unfold b2_Counted___init__
      by_cases q : p.2 ∈ L
      · simp only [ev_sIf, ev_asB, ev_bin, ev_var, List.getElem?_cons_succ, List.getElem?_cons_zero, jn, R.of_some, R.bind_ok, ni, q, decide_true, Bool.not_true, R.toS_ok, Bool.false_eq_true, if_false, ev_sNil, if_true]
      · have pu : putIx (.ref (h0.length + 5)) (dV p.2) (.bl true) (CH h0 cC cL A w fs tk L NX (TrueD L) []) = some (CH h0 cC cL A w fs tk L NX (TrueD (L ++ [p.2])) []) := by
          unfold putIx
          simp only [ch5]
          rw [if_pos ⟨okK_dV _, by rw [sizeLine_eq]; simp only [TrueD, List.length_map]; omega⟩, put_newV q, cs5]
          congr 2
          simp [TrueD]
        have ap : mAppend (.ref (h0.length + 3)) [dV p.2] (CH h0 cC cL A w fs tk L NX (TrueD (L ++ [p.2])) []) = some (.non, CH h0 cC cL A w fs tk (L ++ [p.2]) NX (TrueD (L ++ [p.2])) []) := by
          have e := cs3 (h0 := h0) (g := []) (cC := cC) (cL := cL) (A := A) (w := w) (fs := fs) (tk := tk) (NX := NX) (TH := TrueD (L ++ [p.2])) (L := L) (L' := L ++ [p.2])
          rw [List.map_append, List.map_singleton] at e
          rw [app_at ch3 (by simp; omega), e]
        have ty : tyB "list" (.ref (h0.length + 3)) (CH h0 cC cL A w fs tk L NX (TrueD (L ++ [p.2])) []) = true := ty_cell ch3
        simp only [ev_sIf, ev_asB, ev_bin, ev_var, List.getElem?_cons_succ, List.getElem?_cons_zero, jn, R.of_some, R.bind_ok, ni, q, decide_false, Bool.not_false, R.toS_ok, if_true, ev_sCons, ev_sPut, ev_c, pu, RS.seq_nx, ev_sExpr, ev_bm, ty, ev_cons, ev_nil, ap, if_false]
    rw [List.map_cons, forL_nx tg bd]
    exact ih
end
end W63

set_option Elab.async false
set_option linter.all false
set_option maxRecDepth 100000
set_option maxHeartbeats 1000000
namespace W63
open PySem DD
section
variable {h0 : Hea} {cC cL : Addr} {A : Alp} {w : List Str}
theorem l_t3 {x0 x1 x2 x5 x6 x7 x8 x9 : Option D} {k : Nat} {h : Hea} {n : Nat} {L : List D} (e : h[n]? = some (.lst L)) : t3_Counted___init__ [x0, x1, x2, some (.ref n), some (.int (k : Nat)), x5, x6, x7, x8, x9] h = .ok (decide (k < L.length)) h := by
  have lt : ltD (.int (k : Nat)) (.int (L.length : Nat)) h = some (.bl (decide (k < L.length))) := by
    rw [lt_int]
    congr 2
    exact decide_eq_decide.mpr (by omega)
  unfold t3_Counted___init__
  simp only [ev_asB, ev_bin, ev_nary, ev_cons, ev_nil, ev_var, List.getElem?_cons_succ, List.getElem?_cons_zero, jn, R.of_some, R.bind_ok, len_cell e, lt]
abbrev NxD (A : Alp) (w : List Str) (L : List (List Nat)) : List (D × D) := L.map fun v => (dV v, dNx A w v)
theorem l_b4 (G : Good A) (W : GoodW A w) (h4 : A.sg.length ≤ 4) (h6 : w.length ≤ 6) {done todo : List (List Nat)} {v : List Nat} {tk : D} {x1 x2 x6 x7 x8 x9 : Option D} (b : BI A w done (v :: todo)) : ∃ E y6 y7, BI A w (done ++ [v]) (todo ++ E) ∧
    b4_Counted___init__ cL cC [some (.ref h0.length), x1, x2, some (.ref (h0.length + 3)), some (.int (done.length : Nat)), some (.ref (h0.length + 5)), x6, x7, x8, x9] (CH h0 cC cL A w (fsC h0.length A w) tk (done ++ v :: todo) (NxD A w done) (TrueD (done ++ v :: todo)) []) = .nx [some (.ref h0.length), x1, x2, some (.ref (h0.length + 3)), some (.int ((done.length + 1 : Nat) : Int)), some (.ref (h0.length + 5)), y6, y7, x8, x9] (CH h0 cC cL A w (fsC h0.length A w) (dTk A v) (done ++ v :: todo ++ E) (NxD A w (done ++ [v])) (TrueD (done ++ v :: todo ++ E)) []) := by
  obtain ⟨E, eE, b'⟩ := b.step G
  have sz := b.sz G h4 h6
  have sz' := b'.sz G h4 h6
  have ov := b.ok v (by simp)
  have nv : v ∉ done := fun hm => by
    have nd := b.nd
    rw [List.nodup_append] at nd
    exact nd.2.2 v hm v (by simp) rfl
  obtain ⟨y6, y7, il⟩ := l_ci_in (h0 := h0) (cC := cC) (cL := cL) (A := A) (w := w) (fs := fsC h0.length A w) (tk := dTk A v) (NX := NxD A w (done ++ [v])) (x0 := some (.ref h0.length)) (x1 := x1) (x2 := x2) (x4 := some (.int (done.length : Nat))) (x8 := x8) (x9 := x9) (nxV A w v) (done ++ v :: todo) x6 x7 (by
    have : (nxV A w v).length ≤ A.sg.length := by
      unfold nxV
      rw [List.length_map]
      exact List.length_filter_le _ _
    simp at sz ⊢; omega)
  rw [eE] at il
  refine ⟨E, y6, y7, b', ?_⟩
  have gl : ∀ (tk : D) (NX TH : List (D × D)), getIx (.ref (h0.length + 3)) (.int (done.length : Nat)) (CH h0 cC cL A w (fsC h0.length A w) tk (done ++ v :: todo) NX TH []) = some (dV v) := fun tk NX TH => by
    rw [gi_cell ch3, atI_nat]; simp
  have nc : sp_Counted_next_counts cL cC [.ref h0.length, dV v] (CH h0 cC cL A w (fsC h0.length A w) tk (done ++ v :: todo) (NxD A w done) (TrueD (done ++ v :: todo)) []) = .ok (dNx A w v) (CH h0 cC cL A w (fsC h0.length A w) (dTk A v) (done ++ v :: todo) (NxD A w done) (TrueD (done ++ v :: todo)) []) := by
    rw [l_next G W ov.len ch0 (by rfl) (n := h0.length + 1) (by rfl) ch1 (by omega), cs1]
  have lm : List.lookup ("next_counts" : Str) (fsC h0.length A w) = none := by rfl
  have ln : List.lookup ("nexts" : Str) (fsC h0.length A w) = some (.ref (h0.length + 4)) := by rfl
  have m1 : fMeth cC "next_counts" (sp_Counted_next_counts cL cC) (fVar 0) (aCons (fBin getIx (fVar 3) (fVar 4)) (aNil)) [some (.ref h0.length), x1, x2, some (.ref (h0.length + 3)), some (.int (done.length : Nat)), some (.ref (h0.length + 5)), x6, x7, x8, x9] (CH h0 cC cL A w (fsC h0.length A w) tk (done ++ v :: todo) (NxD A w done) (TrueD (done ++ v :: todo)) []) = .ok (dNx A w v) (CH h0 cC cL A w (fsC h0.length A w) (dTk A v) (done ++ v :: todo) (NxD A w done) (TrueD (done ++ v :: todo)) []) := by
    rw [meth_at (n := h0.length) (as := [dV v]) (h1 := CH h0 cC cL A w (fsC h0.length A w) tk (done ++ v :: todo) (NxD A w done) (TrueD (done ++ v :: todo)) []) (h2 := CH h0 cC cL A w (fsC h0.length A w) tk (done ++ v :: todo) (NxD A w done) (TrueD (done ++ v :: todo)) []) rfl ch0 lm (by
      simp only [ev_cons, ev_bin, ev_var, List.getElem?_cons_succ, List.getElem?_cons_zero, jn, R.of_some, R.bind_ok, gl, ev_nil]), nc]
    rfl
  have pu : putIx (.ref (h0.length + 4)) (dV v) (dNx A w v) (CH h0 cC cL A w (fsC h0.length A w) (dTk A v) (done ++ v :: todo) (NxD A w done) (TrueD (done ++ v :: todo)) []) = some (CH h0 cC cL A w (fsC h0.length A w) (dTk A v) (done ++ v :: todo) (NxD A w (done ++ [v])) (TrueD (done ++ v :: todo)) []) := by
    unfold putIx
    simp only [ch4]
    rw [if_pos ⟨okK_dV _, by rw [sizeLine_eq]; simp only [NxD, List.length_map]; omega⟩, put_newV nv, cs4]
    congr 2
    simp [NxD]
  have fn : ∀ (tk : D) (L : List (List Nat)) (NX TH : List (D × D)), fldD cC "nexts" (.ref h0.length) (CH h0 cC cL A w (fsC h0.length A w) tk L NX TH []) = some (.ref (h0.length + 4)) := fun tk L NX TH => by rw [fld_of ch0]; exact ln
  have gn : ∀ (tk : D) (L : List (List Nat)) (TH : List (D × D)), getIx (.ref (h0.length + 4)) (dV v) (CH h0 cC cL A w (fsC h0.length A w) tk L (NxD A w (done ++ [v])) TH []) = some (dNx A w v) := fun tk L TH => get_V (f := dNx A w) ch4 (by simp)
  have gt : gtD (.int ((done ++ v :: todo ++ E).length : Nat)) (.int 20000) (CH h0 cC cL A w (fsC h0.length A w) (dTk A v) (done ++ v :: todo ++ E) (NxD A w (done ++ [v])) (TrueD (done ++ v :: todo ++ E)) []) = some (.bl false) := by
    rw [gt_int]
    congr 2
    rw [decide_eq_false_iff_not]
    simp at sz' ⊢; omega
  unfold b4_Counted___init__
  rw [ev_sCons, ev_sPut, m1]
  simp only [R.toS_ok, ev_un, ev_bin, ev_var, List.getElem?_cons_succ, List.getElem?_cons_zero, jn, R.of_some, R.bind_ok, fn, gl, pu, RS.seq_nx]
  rw [ev_sCons, ev_sFor]
  have it : iLst (fBin getIx (fUn (fldD cC "nexts") (fVar 0)) (fBin getIx (fVar 3) (fVar 4))) [some (.ref h0.length), x1, x2, some (.ref (h0.length + 3)), some (.int (done.length : Nat)), some (.ref (h0.length + 5)), x6, x7, x8, x9] (CH h0 cC cL A w (fsC h0.length A w) (dTk A v) (done ++ v :: todo) (NxD A w (done ++ [v])) (TrueD (done ++ v :: todo)) []) = .ok ((nxV A w v).map fun p => D.tup [.str p.1, dV p.2]) (CH h0 cC cL A w (fsC h0.length A w) (dTk A v) (done ++ v :: todo) (NxD A w (done ++ [v])) (TrueD (done ++ v :: todo)) []) := by
    simp only [ev_lst, ev_un, ev_bin, ev_var, List.getElem?_cons_succ, List.getElem?_cons_zero, jn, R.of_some, R.bind_ok, fn, gl, gn]
    rfl
  rw [it, R.toS_ok, il]
  simp only [RS.seq_nx]
  rw [ev_sCons]
  have le : lenG [.ref (h0.length + 3)] (CH h0 cC cL A w (fsC h0.length A w) (dTk A v) (done ++ v :: todo ++ E) (NxD A w (done ++ [v])) (TrueD (done ++ v :: todo ++ E)) []) = some (.int ((done ++ v :: todo ++ E).length : Nat)) := by
    rw [len_cell ch3, List.length_map]
  have ad : ∀ h : Hea, iaddD (.int (done.length : Nat)) (.int 1) h = some (.int ((done.length + 1 : Nat) : Int)) := fun h => by
    rw [iaddI]; congr 2
  simp only [ev_sIf, ev_asB, ev_bin, ev_nary, ev_cons, ev_nil, ev_var, ev_c, List.getElem?_cons_succ, List.getElem?_cons_zero, jn, R.of_some, R.bind_ok, le, gt, R.toS_ok, Bool.false_eq_true, if_false, ev_sNil, RS.seq_nx, ev_sAug, ad, List.set_cons_succ, List.set_cons_zero]
theorem l_ci_wh (G : Good A) (W : GoodW A w) (h4 : A.sg.length ≤ 4) (h6 : w.length ≤ 6) {x1 x2 x8 x9 : Option D} : ∀ (n : Nat) (done todo : List (List Nat)) (tk : D) (x6 x7 : Option D), 2402 - done.length ≤ n → BI A w done todo → ∃ L tk' y4 y6 y7, BI A w L [] ∧ (∀ u ∈ done ++ todo, u ∈ L) ∧
    whileW t3_Counted___init__ (b4_Counted___init__ cL cC) [some (.ref h0.length), x1, x2, some (.ref (h0.length + 3)), some (.int (done.length : Nat)), some (.ref (h0.length + 5)), x6, x7, x8, x9] (CH h0 cC cL A w (fsC h0.length A w) tk (done ++ todo) (NxD A w done) (TrueD (done ++ todo)) []) = .nx [some (.ref h0.length), x1, x2, some (.ref (h0.length + 3)), y4, some (.ref (h0.length + 5)), y6, y7, x8, x9] (CH h0 cC cL A w (fsC h0.length A w) tk' L (NxD A w L) (TrueD L) []) := by
  intro n
  induction n with
  | zero =>
    intro done todo tk x6 x7 hn b
    have := b.sz G h4 h6
    omega
  | succ n ih =>
    intro done todo tk x6 x7 hn b
    cases todo with
    | nil =>
      refine ⟨done, tk, some (.int (done.length : Nat)), x6, x7, b, fun u hu => by simpa using hu, ?_⟩
      rw [List.append_nil]
      refine whileW_end (h1 := CH h0 cC cL A w (fsC h0.length A w) tk done (NxD A w done) (TrueD done) []) ?_
      rw [l_t3 ch3]
      simp
    | cons v todo =>
      obtain ⟨E, y6, y7, b', e⟩ := l_b4 (h0 := h0) (cC := cC) (cL := cL) (tk := tk) (x1 := x1) (x2 := x2) (x6 := x6) (x7 := x7) (x8 := x8) (x9 := x9) G W h4 h6 b
      have el : (done ++ [v]).length = done.length + 1 := by simp
      have ea : done ++ [v] ++ (todo ++ E) = done ++ v :: todo ++ E := by simp
      obtain ⟨L, tk', z4, z6, z7, b2, sub, e2⟩ := ih (done ++ [v]) (todo ++ E) (dTk A v) y6 y7 (by omega) b'
      rw [el, ea] at e2
      refine ⟨L, tk', z4, z6, z7, b2, fun u hu => sub u (by rw [ea]; exact List.mem_append_left _ hu), ?_⟩
      rw [whileW_nx (h1 := CH h0 cC cL A w (fsC h0.length A w) tk (done ++ v :: todo) (NxD A w done) (TrueD (done ++ v :: todo)) []) ?_ e]
      · exact e2
      · rw [l_t3 ch3]
        simp
end
end W63

set_option Elab.async false
set_option linter.all false
set_option maxRecDepth 100000
set_option maxHeartbeats 1000000
namespace W63
open PySem DD
/-! ### how many go on -/
def cV (A : Alp) (w : List Str) (v : List Nat) : Nat := Tr.cnt (dp A) A.sg (remF (fOf A.sg v) w)
abbrev MnD (A : Alp) (w : List Str) (P : List (List Nat)) : List (D × D) := P.map fun v => (dV v, D.int (cV A w v : Nat))
def fsM (N : Nat) (A : Alp) (w : List Str) : List (Str × D) := [("signs", dRow A.sg), ("left", .ref (N + 1)), ("end", dV (endV A w)), ("nexts", .ref (N + 4)), ("many", .ref (N + 6))]
theorem okE_dV (v : List Nat) : okE 60 (dV v) = true := by simp [dV, okE]
theorem eq_dV {u v : List Nat} {h : Hea} : eqD (dV u) (dV v) h = some (.bl (decide (u = v))) := by
  rw [eq_gen (a := dV u) (b := dV v) (okE_dV u) (okE_dV v)]
  congr 2
  exact decide_eq_decide.mpr ⟨fun e => dV_inj _ _ e, fun e => by rw [e]⟩
theorem ne_dV {u v : List Nat} {h : Hea} : neD (dV u) (dV v) h = some (.bl (!decide (u = v))) := by
  rw [ne_gen (a := dV u) (b := dV v) (okE_dV u) (okE_dV v)]
  congr 3
  exact decide_eq_decide.mpr ⟨fun e => dV_inj _ _ e, fun e => by rw [e]⟩
theorem nx_none {f : Str → Nat} {w : List Str} {s : Str} : nx 0 f w s = none ↔ (posF 0 w s).length ≤ f s := by
  unfold nx
  exact List.getElem?_eq_none_iff
theorem end_iff {A : Alp} (G : Good A) {w : List Str} (W : GoodW A w) {v : List Nat} (o : OkV A w v) : v = endV A w ↔ remF (fOf A.sg v) w = [] := by
  have ef : v = A.sg.map (fOf A.sg v) := (fOf_map (nd_of G.pw) o.len).symm
  have key : v = endV A w ↔ ∀ s ∈ A.sg, fOf A.sg v s = (posF 0 w s).length := by
    constructor
    · intro e s hs
      have q : A.sg.map (fOf A.sg v) = A.sg.map fun s => (posF 0 w s).length := by rw [← ef]; exact e
      exact List.map_inj_left.mp q s hs
    · intro h
      have q : A.sg.map (fOf A.sg v) = A.sg.map fun s => (posF 0 w s).length := List.map_inj_left.mpr h
      rw [ef, q]; rfl
  rw [key]
  constructor
  · intro h
    apply List.eq_nil_iff_forall_not_mem.mpr
    intro a ha
    obtain ⟨p, hp⟩ := mem_nx (k := 0) ha
    have := nx_none (f := fOf A.sg v).mpr (Nat.le_of_eq (h a (W.sub a (remF_sub ha))).symm)
    rw [hp] at this; cases this
  · intro h s hs
    refine Nat.le_antisymm (o.le s hs) (nx_none.mp ?_)
    cases q : nx 0 (fOf A.sg v) w s with
    | none => rfl
    | some p =>
      have := nx_mem q
      rw [h] at this; simp at this
theorem cV_end {A : Alp} (G : Good A) {w : List Str} (W : GoodW A w) {v : List Nat} (o : OkV A w v) (e : v = endV A w) : cV A w v = 1 := by
  unfold cV
  rw [(end_iff G W o).mp e, Tr.cnt_nil]
theorem cV_sum {A : Alp} (G : Good A) {w : List Str} (W : GoodW A w) {v : List Nat} (o : OkV A w v) (e : v ≠ endV A w) : cV A w v = ((nxV A w v).map fun p => cV A w p.2).sum := by
  unfold cV
  rw [Tr.cnt_cons fun q => e ((end_iff G W o).mpr q)]
  unfold nxV
  rw [List.map_map]
  congr 1
  apply List.map_congr_left
  intro s hs
  have := (nx_step G o (p := (s, incV A.sg v s)) (List.mem_map.mpr ⟨s, hs, rfl⟩)).2.2
  simp only [Function.comp]
  rw [this]
theorem cV_pos {A : Alp} (G : Good A) {w : List Str} (W : GoodW A w) {v : List Nat} : 0 < cV A w v := Tr.cnt_pos (dp_dep G) fun a ha => W.sub a (remF_sub ha)
theorem ints_map {α : Type} (g : α → Nat) : ∀ l : List α, intsOf (l.map fun a => D.int (g a : Nat)) = some (l.map fun a => ((g a : Nat) : Int))
  | [] => rfl
  | a :: l => by simp [intsOf, ints_map g l]
theorem sum_cast {α : Type} (g : α → Nat) : ∀ l : List α, (l.map fun a => ((g a : Nat) : Int)).sum = ((l.map g).sum : Nat)
  | [] => rfl
  | a :: l => by simp [sum_cast g l]
theorem later_in {A : Alp} (G : Good A) {w : List Str} {L P rest : List (List Nat)} {v : List Nat} (b : BI A w L []) (e : L.reverse = P ++ v :: rest) {p : Str × List Nat} (hp : p ∈ nxV A w v) : p.2 ∈ P := by
  have eL : L = rest.reverse ++ v :: P.reverse := by
    rw [← List.reverse_reverse L, e]; simp
  have hv : v ∈ L := by rw [eL]; simp
  have hm : p.2 ∈ L := by simpa using b.cl v hv p hp
  have st := (nx_step G (b.ok v (by simpa using hv)) hp).2.1
  have pw := b.pw
  rw [List.append_nil, eL, List.pairwise_append] at pw
  rw [eL] at hm
  rcases List.mem_append.mp hm with q | q
  · have := pw.2.2 p.2 q v (by simp)
    omega
  · rcases List.mem_cons.mp q with q | q
    · rw [q] at st; omega
    · exact List.mem_reverse.mp q
section
variable {h0 : Hea} {cC cL : Addr} {A : Alp} {w : List Str} {tk : D} {L : List (List Nat)}
def CM (h0 : Hea) (cC cL : Addr) (A : Alp) (w : List Str) (tk : D) (L P : List (List Nat)) (g : Hea) : Hea := CH h0 cC cL A w (fsM h0.length A w) tk L (NxD A w L) (TrueD L) (.dic true (MnD A w P) :: g)
theorem cm6 {P : List (List Nat)} {g : Hea} : (CM h0 cC cL A w tk L P g)[h0.length + 6]? = some (.dic true (MnD A w P)) := by simp [CM, CH]
theorem cm4 {P : List (List Nat)} {g : Hea} : (CM h0 cC cL A w tk L P g)[h0.length + 4]? = some (.dic true (NxD A w L)) := by simp [CM, CH]
theorem cm3 {P : List (List Nat)} {g : Hea} : (CM h0 cC cL A w tk L P g)[h0.length + 3]? = some (.lst (L.map dV)) := by simp [CM, CH]
theorem cm0 {P : List (List Nat)} {g : Hea} : (CM h0 cC cL A w tk L P g)[h0.length]? = some (.ins cC (fsM h0.length A w)) := by simp [CM, CH]
theorem cms6 {P : List (List Nat)} {g : Hea} {M : List (D × D)} : (CM h0 cC cL A w tk L P g).set (h0.length + 6) (.dic true M) = CH h0 cC cL A w (fsM h0.length A w) tk L (NxD A w L) (TrueD L) (.dic true M :: g) := by
  unfold CM CH; rw [List.set_append_right _ _ (by omega)]; simp
theorem cm_nexts {P : List (List Nat)} {g : Hea} : fldD cC "nexts" (.ref h0.length) (CM h0 cC cL A w tk L P g) = some (.ref (h0.length + 4)) := by rw [fld_of cm0]; rfl
theorem cm_many {P : List (List Nat)} {g : Hea} : fldD cC "many" (.ref h0.length) (CM h0 cC cL A w tk L P g) = some (.ref (h0.length + 6)) := by rw [fld_of cm0]; rfl
theorem cm_end {P : List (List Nat)} {g : Hea} : fldD cC "end" (.ref h0.length) (CM h0 cC cL A w tk L P g) = some (dV (endV A w)) := by rw [fld_of cm0]; rfl
theorem cm_gn {P : List (List Nat)} {g : Hea} {v : List Nat} (hv : v ∈ L) : getIx (.ref (h0.length + 4)) (dV v) (CM h0 cC cL A w tk L P g) = some (dNx A w v) := get_V (f := dNx A w) cm4 hv
theorem cm_gm {P : List (List Nat)} {g : Hea} {v : List Nat} (hv : v ∈ P) : getIx (.ref (h0.length + 6)) (dV v) (CM h0 cC cL A w tk L P g) = some (.int (cV A w v : Nat)) := get_V (f := fun v => D.int (cV A w v : Nat)) cm6 hv
theorem l_b7 (G : Good A) (W : GoodW A w) (h4 : A.sg.length ≤ 4) (h6 : w.length ≤ 6) (b : BI A w L []) {P rest : List (List Nat)} {v : List Nat} (e : L.reverse = P ++ v :: rest) {x1 x2 x3 x4 x5 x6 x7 x9 : Option D} : ∃ y9,
    b7_Counted___init__ cC [some (.ref h0.length), x1, x2, x3, x4, x5, x6, x7, some (dV v), x9] (CM h0 cC cL A w tk L P []) = .nx [some (.ref h0.length), x1, x2, x3, x4, x5, x6, x7, some (dV v), y9] (CM h0 cC cL A w tk L (P ++ [v]) []) := by
  have hv : v ∈ L := by rw [← List.mem_reverse, e]; simp
  have ov := b.ok v (by simpa using hv)
  have sz : L.length ≤ 2401 := by simpa using b.sz G h4 h6
  have nP : v ∉ P := fun hm => by
    have nd : L.reverse.Nodup := (List.reverse_perm L).nodup_iff.mpr (by simpa using b.nd)
    rw [e, List.nodup_append] at nd
    exact nd.2.2 v hm v (by simp) rfl
  have lP : P.length ≤ 2401 := by
    have := congrArg List.length e
    simp at this; omega
  have c5 : c5_Counted___init__ cC [some (.ref h0.length), x1, x2, x3, x4, x5, x6, x7, some (dV v), x9] (CM h0 cC cL A w tk L P []) = .ok (.lst ((nxV A w v).map fun p => D.int (cV A w p.2 : Nat))) (CM h0 cC cL A w tk L P []) := by
    have ee := lcL_map (fg := gT 2 (gsCons (gN 6) (gsCons (gN 7) (gsNil)))) (ft := tOn) (fe := fBin getIx (fUn (fldD cC "many") (fVar 0)) (fVar 7)) (vs := [6, 7]) (e0 := [some (.ref h0.length), x1, x2, x3, x4, x5, x6, x7, some (dV v), x9]) (h := CM h0 cC cL A w tk L P []) (fun p : Str × List Nat => D.tup [.str p.1, dV p.2]) (fun _ => true) (fun p => D.int (cV A w p.2 : Nat)) (l := nxV A w v) fun p hp => by
      refine ⟨[some (.ref h0.length), x1, x2, x3, x4, x5, some (.str p.1), some (dV p.2), some (dV v), x9], ?_, rfl, fun _ => ?_⟩
      · simp only [wipeE, List.foldl_cons, List.foldl_nil, List.set_cons_succ, List.set_cons_zero, ev_gT, ti_tup, List.length_cons, List.length_nil, if_true, ev_gsCons, ev_gN, RS.seq_nx, ev_gsNil]
      · simp only [ev_bin, ev_un, ev_var, List.getElem?_cons_succ, List.getElem?_cons_zero, jn, R.of_some, R.bind_ok, cm_many, cm_gm (later_in G b e hp)]
    have ef : (nxV A w v).filter (fun _ => true) = nxV A w v := by simp
    rw [ef] at ee
    have hz : ((nxV A w v).map fun p => D.int (cV A w p.2 : Nat)).length ≤ sizeLine := by
      rw [sizeLine_eq, List.length_map]
      unfold nxV
      rw [List.length_map]
      exact Nat.le_trans (List.length_filter_le _ _) (by omega)
    unfold c5_Counted___init__
    rw [ev_lc]
    simp only [ev_lst, ev_bin, ev_un, ev_var, List.getElem?_cons_succ, List.getElem?_cons_zero, jn, R.of_some, R.bind_ok, cm_nexts, cm_gn hv]
    unfold dNx
    simp only [st_lst, R.of_some, R.bind_ok, ee]
    exact lcEnd_ok hz
  have pu : putIx (.ref (h0.length + 6)) (dV v) (.int (cV A w v : Nat)) (CM h0 cC cL A w tk L P []) = some (CM h0 cC cL A w tk L (P ++ [v]) []) := by
    unfold putIx
    simp only [cm6]
    rw [if_pos ⟨okK_dV _, by rw [sizeLine_eq]; simp only [MnD, List.length_map]; omega⟩, put_newV (f := fun v => D.int (cV A w v : Nat)) nP, cms6]
    congr 1
    simp [CM, MnD]
  refine ⟨some (.lst ((nxV A w v).map fun p => D.int (cV A w p.2 : Nat))), ?_⟩
  unfold b7_Counted___init__
  rw [ev_sCons, ev_sAsg, c5]
  simp only [R.toS_ok, ev_gN, List.set_cons_succ, List.set_cons_zero, RS.seq_nx]
  rw [ev_sPut]
  have sm : sumG [.lst ((nxV A w v).map fun p => D.int (cV A w p.2 : Nat))] (CM h0 cC cL A w tk L P []) = some (.int ((((nxV A w v).map fun p => cV A w p.2).sum : Nat) : Int)) := by
    show sumN [.lst ((nxV A w v).map fun p => D.int (cV A w p.2 : Nat))] (CM h0 cC cL A w tk L P []) = _
    unfold sumN
    simp only [lk_lst, Option.bind_some, ints_map, Option.map_some, sum_cast]
  by_cases q : v = endV A w
  · have cv := cV_end G W ov q
    rw [cv] at pu
    have eq1 : eqD (dV v) (dV (endV A w)) (CM h0 cC cL A w tk L P []) = some (.bl true) := by rw [eq_dV, decide_eq_true q]
    simp only [ev_if, ev_asB, ev_bin, ev_un, ev_var, ev_c, List.getElem?_cons_succ, List.getElem?_cons_zero, jn, R.of_some, R.bind_ok, cm_end, eq1, if_true, R.toS_ok, cm_many]
    rw [show ((1 : Nat) : Int) = 1 from rfl] at pu
    simp only [pu]
  · have cv := cV_sum G W ov q
    rw [← cv] at sm
    have eq1 : eqD (dV v) (dV (endV A w)) (CM h0 cC cL A w tk L P []) = some (.bl false) := by rw [eq_dV, decide_eq_false q]
    simp only [ev_if, ev_asB, ev_bin, ev_un, ev_var, ev_c, List.getElem?_cons_succ, List.getElem?_cons_zero, jn, R.of_some, R.bind_ok, cm_end, eq1, Bool.false_eq_true, if_false, ev_nary, ev_cons, ev_nil, sm, R.toS_ok, cm_many, pu]
theorem l_ci_many (G : Good A) (W : GoodW A w) (h4 : A.sg.length ≤ 4) (h6 : w.length ≤ 6) (b : BI A w L []) {x1 x2 x3 x4 x5 x6 x7 : Option D} : ∀ (rest P : List (List Nat)) (x8 x9 : Option D), L.reverse = P ++ rest → ∃ y8 y9,
    forL g6_Counted___init__ (b7_Counted___init__ cC) (rest.map dV) [some (.ref h0.length), x1, x2, x3, x4, x5, x6, x7, x8, x9] (CM h0 cC cL A w tk L P []) = .nx [some (.ref h0.length), x1, x2, x3, x4, x5, x6, x7, y8, y9] (CM h0 cC cL A w tk L (P ++ rest) [])
  | [], P, x8, x9, _ => ⟨x8, x9, by rw [List.append_nil]; rfl⟩
  | v :: rest, P, x8, x9, e => by
    obtain ⟨y9, bd⟩ := l_b7 (h0 := h0) (cC := cC) (cL := cL) (tk := tk) G W h4 h6 b e (x1 := x1) (x2 := x2) (x3 := x3) (x4 := x4) (x5 := x5) (x6 := x6) (x7 := x7) (x9 := x9)
    obtain ⟨z8, z9, ih⟩ := l_ci_many G W h4 h6 b (x1 := x1) (x2 := x2) (x3 := x3) (x4 := x4) (x5 := x5) (x6 := x6) (x7 := x7) rest (P ++ [v]) (some (dV v)) y9 (by rw [e]; simp)
    refine ⟨z8, z9, ?_⟩
    rw [List.map_cons, forL_nx (e1 := [some (.ref h0.length), x1, x2, x3, x4, x5, x6, x7, some (dV v), x9]) (h1 := CM h0 cC cL A w tk L P []) (by unfold g6_Counted___init__; rfl) bd, ih]
    simp
theorem l_counted (G : Good A) (W : GoodW A w) (ne : A.sg ≠ []) (h4 : A.sg.length ≤ 4) (h6 : w.length ≤ 6) {fa : En → Hea → R (List D)} {e : En} (ha : fa e h0 = .ok [dAl A, dRow w] h0) : ∃ L tk, BI A w L [] ∧ zeroV A ∈ L ∧ fMake cC (sp_Counted___init__ cL cC) fa e h0 = .ok (.ref h0.length) (CM h0 cC cL A w tk L L.reverse []) := by
  obtain ⟨L, tk, y4, y6, y7, b, sub, e1⟩ := l_ci_wh (h0 := h0) (cC := cC) (cL := cL) G W h4 h6 (x1 := some (dAl A)) (x2 := some (dRow w)) (x8 := none) (x9 := none) 2402 [] [zeroV A] (.ref (h0.length + 2)) none none (by simp) BI.zero
  obtain ⟨z8, z9, e2⟩ := l_ci_many (h0 := h0) (cC := cC) (cL := cL) (tk := tk) G W h4 h6 b (x1 := some (dAl A)) (x2 := some (dRow w)) (x3 := some (.ref (h0.length + 3))) (x4 := y4) (x5 := some (.ref (h0.length + 5))) (x6 := y6) (x7 := y7) L.reverse [] none none rfl
  refine ⟨L, tk, b, sub _ (by simp), ?_⟩
  have init : sp_Counted___init__ cL cC [.ref h0.length, dAl A, dRow w] (h0 ++ [.ins cC []]) = .ok .non (CM h0 cC cL A w tk L L.reverse []) := by
    unfold sp_Counted___init__ defF r_Counted___init__
    rw [en10, l_ci_a G W ne]
    simp only [List.length_nil, List.nil_append, List.map_nil, List.map_cons] at e1
    have e1' : whileW t3_Counted___init__ (b4_Counted___init__ cL cC) [some (.ref h0.length), some (dAl A), some (dRow w), some (.ref (h0.length + 3)), some (.int 0), some (.ref (h0.length + 5)), none, none, none, none] (CH h0 cC cL A w (fsC h0.length A w) (.ref (h0.length + 2)) [zeroV A] [] [(dV (zeroV A), .bl true)] []) = _ := e1
    rw [ev_sCons, e1']
    simp only [RS.seq_nx]
    have s5 : setFD cC "many" (.ref h0.length) (.ref (h0.length + 6)) (CH h0 cC cL A w (fsC h0.length A w) tk L (NxD A w L) (TrueD L) [.dic true []]) = some (CM h0 cC cL A w tk L [] []) := by
      unfold CH
      rw [setF (mid_get rfl) (by simp [fsC]), mid_set rfl]; rfl
    have ll : (CH h0 cC cL A w (fsC h0.length A w) tk L (NxD A w L) (TrueD L) []).length = h0.length + 6 := by simp [CH]
    have la : CH h0 cC cL A w (fsC h0.length A w) tk L (NxD A w L) (TrueD L) [] ++ [Cell.dic true []] = CH h0 cC cL A w (fsC h0.length A w) tk L (NxD A w L) (TrueD L) [.dic true []] := by simp [CH]
    rw [ev_sCons, ev_sFld, ev_new]
    simp only [R.toS_ok, ev_var, List.getElem?_cons_zero, jn, R.of_some, ll, la, s5, RS.seq_nx]
    have it : iLst (fUn revD (fVar 3)) [some (.ref h0.length), some (dAl A), some (dRow w), some (.ref (h0.length + 3)), y4, some (.ref (h0.length + 5)), y6, y7, none, none] (CM h0 cC cL A w tk L [] []) = .ok (L.reverse.map dV) (CM h0 cC cL A w tk L [] []) := by
      have q : revD (.ref (h0.length + 3)) (CM h0 cC cL A w tk L [] []) = some (.lst (L.reverse.map dV)) := by
        unfold revD
        rw [lk_cell cm3]
        simp
      simp only [ev_lst, ev_un, ev_var, List.getElem?_cons_succ, List.getElem?_cons_zero, jn, R.of_some, R.bind_ok, q, st_lst]
    rw [ev_sFor, it, R.toS_ok, e2]
    rfl
  unfold fMake
  rw [ha]
  simp only [R.bind_ok, init]
  rfl
end
end W63

set_option Elab.async false
set_option linter.all false
set_option maxRecDepth 100000
set_option maxHeartbeats 1000000
namespace W63
open PySem DD
/-! ### arrival, number_of -/
section
variable {h0 : Hea} {cC cL : Addr} {A : Alp} {w : List Str} {tk : D} {L : List (List Nat)}
theorem l_first (ne : A.sg ≠ []) (sz : A.sg.length ≤ 100) {P : List (List Nat)} {g : Hea} : sp_Counted_first cC [.ref h0.length] (CM h0 cC cL A w tk L P g) = .ok (dV (zeroV A)) (CM h0 cC cL A w tk L P g) := by
  have fs : fldD cC "signs" (.ref h0.length) (CM h0 cC cL A w tk L P g) = some (dRow A.sg) := by rw [fld_of cm0]; rfl
  unfold sp_Counted_first defF r_Counted_first
  have en : ([D.ref h0.length].map some ++ List.replicate (1 - [D.ref h0.length].length) none) = [some (.ref h0.length)] := rfl
  rw [en]
  simp only [ev_sRet, ev_bin, ev_nary, ev_cons, ev_c, ev_nil, ev_un, ev_var, List.getElem?_cons_zero, jn, R.of_some, R.bind_ok, dtup (as := [D.int 0]) (by simp), fs, len_tup, List.length_map, zero_mul ne sz, R.toS_ok]
theorem meth0_first (ne : A.sg ≠ []) (sz : A.sg.length ≤ 100) {P : List (List Nat)} {g : Hea} {fo : En → Hea → R D} {e : En} (ho : fo e (CM h0 cC cL A w tk L P g) = .ok (.ref h0.length) (CM h0 cC cL A w tk L P g)) : fMeth cC "first" (sp_Counted_first cC) fo aNil e (CM h0 cC cL A w tk L P g) = .ok (dV (zeroV A)) (CM h0 cC cL A w tk L P g) := by
  rw [meth_at (n := h0.length) (as := []) (h2 := CM h0 cC cL A w tk L P g) ho cm0 (by rfl) rfl, l_first ne sz]; rfl
theorem cm_app {P : List (List Nat)} {xs : List D} {x : D} (hl : xs.length ≤ 1000000) : mAppend (.ref (h0.length + 7)) [x] (CM h0 cC cL A w tk L P [.lst xs]) = some (.non, CM h0 cC cL A w tk L P [.lst (xs ++ [x])]) := by
  rw [app_at (xs := xs) (by simp [CM, CH]) hl]
  congr 2
  unfold CM CH
  rw [List.set_append_right _ _ (by omega)]
  simp
theorem l_ar_loop (G : Good A) (W : GoodW A w) (b : BI A w L []) {x0 x1 : Option D} : ∀ (n : Nat) (v : List Nat) (u : List Str) (x6 x7 : Option D), rl A w v = n → v ∈ L → u.length + n ≤ 100000 → ∃ y4 y6 y7,
    whileW (t2_arrival cC) (b3_arrival cC) [x0, x1, some (.int 0), some (.ref h0.length), some (dV v), some (.ref (h0.length + 7)), x6, x7] (CM h0 cC cL A w tk L L.reverse [.lst (u.map D.str)]) = .nx [x0, x1, some (.int 0), some (.ref h0.length), y4, some (.ref (h0.length + 7)), y6, y7] (CM h0 cC cL A w tk L L.reverse [.lst ((u ++ Tr.nf (dp A) A.sg (remF (fOf A.sg v) w)).map D.str)]) := by
  intro n
  induction n with
  | zero =>
    intro v u x6 x7 hn hv hl
    have ov := b.ok v (by simpa using hv)
    have er : remF (fOf A.sg v) w = [] := List.eq_nil_of_length_eq_zero hn
    have ev := (end_iff G W ov).mpr er
    refine ⟨some (dV v), x6, x7, ?_⟩
    rw [er, Tr.nf_nil, List.append_nil]
    refine whileW_end (h1 := CM h0 cC cL A w tk L L.reverse [.lst (u.map D.str)]) ?_
    have q : neD (dV v) (dV (endV A w)) (CM h0 cC cL A w tk L L.reverse [.lst (u.map D.str)]) = some (.bl false) := by rw [ne_dV, decide_eq_true ev]; rfl
    unfold t2_arrival
    simp only [ev_asB, ev_bin, ev_un, ev_var, List.getElem?_cons_succ, List.getElem?_cons_zero, jn, R.of_some, R.bind_ok, cm_end, q]
  | succ n ih =>
    intro v u x6 x7 hn hv hl
    have ov := b.ok v (by simpa using hv)
    have sub : ∀ a ∈ remF (fOf A.sg v) w, a ∈ A.sg := fun a ha => W.sub a (remF_sub ha)
    cases e : Tr.firsts (dp A) A.sg (remF (fOf A.sg v) w) with
    | nil =>
      have := (Tr.firsts_nil sub).mp e
      unfold rl at hn
      rw [this] at hn; simp at hn
    | cons a fs =>
      have ev : v ≠ endV A w := fun q => by
        have := (end_iff G W ov).mp q
        unfold rl at hn
        rw [this] at hn; simp at hn
      have enx : nxV A w v = (a, incV A.sg v a) :: fs.map fun s => (s, incV A.sg v s) := by unfold nxV; rw [e]; rfl
      have hp : (a, incV A.sg v a) ∈ nxV A w v := by rw [enx]; exact List.mem_cons_self
      obtain ⟨o2, r2, er2⟩ := nx_step G ov hp
      simp only at o2 r2 er2
      have hv2 : incV A.sg v a ∈ L := by simpa using b.cl v hv _ hp
      have q : neD (dV v) (dV (endV A w)) (CM h0 cC cL A w tk L L.reverse [.lst (u.map D.str)]) = some (.bl true) := by rw [ne_dV, decide_eq_false ev]; rfl
      have tt : t2_arrival cC [x0, x1, some (.int 0), some (.ref h0.length), some (dV v), some (.ref (h0.length + 7)), x6, x7] (CM h0 cC cL A w tk L L.reverse [.lst (u.map D.str)]) = .ok true (CM h0 cC cL A w tk L L.reverse [.lst (u.map D.str)]) := by
        unfold t2_arrival
        simp only [ev_asB, ev_bin, ev_un, ev_var, List.getElem?_cons_succ, List.getElem?_cons_zero, jn, R.of_some, R.bind_ok, cm_end, q]
      have cp := cV_pos G W (v := incV A.sg v a)
      have lt : ltD (.int 0) (.int (cV A w (incV A.sg v a) : Nat)) (CM h0 cC cL A w tk L L.reverse [.lst (u.map D.str)]) = some (.bl true) := by
        rw [lt_int]
        congr 2
        rw [decide_eq_true_eq]; omega
      have tg : g0_arrival (.tup [.str a, dV (incV A.sg v a)]) [x0, x1, some (.int 0), some (.ref h0.length), some (dV v), some (.ref (h0.length + 7)), x6, x7] (CM h0 cC cL A w tk L L.reverse [.lst (u.map D.str)]) = .nx [x0, x1, some (.int 0), some (.ref h0.length), some (dV v), some (.ref (h0.length + 7)), some (.str a), some (dV (incV A.sg v a))] (CM h0 cC cL A w tk L L.reverse [.lst (u.map D.str)]) := by
        unfold g0_arrival
        simp only [ev_gT, ti_tup, List.length_cons, List.length_nil, if_true, ev_gsCons, ev_gN, RS.seq_nx, List.set_cons_succ, List.set_cons_zero, ev_gsNil]
      have bi : b1_arrival cC [x0, x1, some (.int 0), some (.ref h0.length), some (dV v), some (.ref (h0.length + 7)), some (.str a), some (dV (incV A.sg v a))] (CM h0 cC cL A w tk L L.reverse [.lst (u.map D.str)]) = .bk [x0, x1, some (.int 0), some (.ref h0.length), some (dV v), some (.ref (h0.length + 7)), some (.str a), some (dV (incV A.sg v a))] (CM h0 cC cL A w tk L L.reverse [.lst (u.map D.str)]) := by
        unfold b1_arrival
        simp only [ev_sCons, ev_sIf, ev_asB, ev_bin, ev_un, ev_var, List.getElem?_cons_succ, List.getElem?_cons_zero, jn, R.of_some, R.bind_ok, cm_many, cm_gm (List.mem_reverse.mpr hv2), lt, R.toS_ok, if_true, ev_sBrk, RS.seq_bk]
      have ap := cm_app (h0 := h0) (cC := cC) (cL := cL) (A := A) (w := w) (tk := tk) (L := L) (P := L.reverse) (xs := u.map D.str) (x := .str a) (by simp; omega)
      have ty : tyB "list" (.ref (h0.length + 7)) (CM h0 cC cL A w tk L L.reverse [.lst (u.map D.str)]) = true := ty_cell (xs := u.map D.str) (by simp [CM, CH])
      have it : iLst (fBin getIx (fUn (fldD cC "nexts") (fVar 3)) (fVar 4)) [x0, x1, some (.int 0), some (.ref h0.length), some (dV v), some (.ref (h0.length + 7)), x6, x7] (CM h0 cC cL A w tk L L.reverse [.lst (u.map D.str)]) = .ok ((nxV A w v).map fun p => D.tup [.str p.1, dV p.2]) (CM h0 cC cL A w tk L L.reverse [.lst (u.map D.str)]) := by
        simp only [ev_lst, ev_un, ev_bin, ev_var, List.getElem?_cons_succ, List.getElem?_cons_zero, jn, R.of_some, R.bind_ok, cm_nexts, cm_gn hv]
        rfl
      have bd : b3_arrival cC [x0, x1, some (.int 0), some (.ref h0.length), some (dV v), some (.ref (h0.length + 7)), x6, x7] (CM h0 cC cL A w tk L L.reverse [.lst (u.map D.str)]) = .nx [x0, x1, some (.int 0), some (.ref h0.length), some (dV (incV A.sg v a)), some (.ref (h0.length + 7)), some (.str a), some (dV (incV A.sg v a))] (CM h0 cC cL A w tk L L.reverse [.lst ((u ++ [a]).map D.str)]) := by
        rw [List.map_append, List.map_singleton]
        unfold b3_arrival
        rw [ev_sCons, ev_sFor, it, R.toS_ok, enx, List.map_cons, forL_bk tg bi]
        simp only [RS.seq_nx, ev_sCons, ev_sExpr, ev_bm, ev_var, List.getElem?_cons_succ, List.getElem?_cons_zero, jn, R.of_some, R.bind_ok, ty, if_true, ev_cons, ev_nil, ap, R.toS_ok, ev_sAsg, ev_gN, List.set_cons_succ, List.set_cons_zero]
      obtain ⟨y4, y6, y7, e2⟩ := ih (incV A.sg v a) (u ++ [a]) (some (.str a)) (some (dV (incV A.sg v a))) (by omega) hv2 (by simp; omega)
      refine ⟨y4, y6, y7, ?_⟩
      rw [whileW_nx tt bd, e2, er2, Tr.nf_cons e]
      simp
end
theorem sRng {i : Int} {h : Hea} : sp_is_index [.int i] h = .ok (.bl (decide (0 ≤ i))) h := by
  have e1 : isiD [.int i, .cst (.ty "int")] h = some (.bl true) := rfl
  have e2 : isiD [.int i, .cst (.ty "bool")] h = some (.bl false) := rfl
  have en : ([D.int i].map some ++ List.replicate (1 - [D.int i].length) none) = [some (.int i)] := rfl
  have en2 : ([D.int i].map some ++ List.replicate (2 - [D.int i].length) none) = [some (.int i), none] := rfl
  have n1 : sp_is_number [.int i] h = .ok (.bl true) h := by
    unfold sp_is_number defF r_is_number
    rw [en]
    simp only [ev_sRet, ev_andV, ev_asB, ev_nary, ev_cons, ev_nil, ev_var, ev_c, List.getElem?_cons_zero, jn, R.of_some, R.bind_ok, e1, e2, if_true, ev_notV, Bool.not_false, R.toS_ok]
  unfold sp_is_index defF r_is_index
  have en3 : ([D.int i].map some ++ List.replicate (1 - [D.int i].length) none) = [some (.int i)] := rfl
  first
  | rw [en]
    simp only [ev_sRet, ev_andV, ev_asB, ev_call, ev_bin, ev_cons, ev_nil, ev_var, ev_c, List.getElem?_cons_zero, jn, R.of_some, R.bind_ok, n1, R.nox_ok, if_true, ge_int, R.toS_ok]
  | rw [en2]
    simp only [ev_sRet, ev_andV, ev_asB, ev_call, ev_bin, ev_cons, ev_nil, ev_var, ev_c, List.getElem?_cons_zero, jn, R.of_some, R.bind_ok, n1, R.nox_ok, if_true, ge_int, R.toS_ok]
theorem l_arrival {cL cC : Addr} {A : Alp} {w : List Str} (G : Good A) (W : GoodW A w) (ne : A.sg ≠ []) (h4 : A.sg.length ≤ 4) (h6 : w.length ≤ 6) {h : Hea} : sp_arrival cL cC [dAl A, dRow w, .int 0] h = .ok (dRow (Tr.nf (dp A) A.sg w)) h := by
  obtain ⟨L, tk, b, hz, mk⟩ := l_counted (cL := cL) (cC := cC) (h0 := h) G W ne h4 h6 (fa := aCons (fVar 0) (aCons (fVar 1) (aNil))) (e := [some (dAl A), some (dRow w), some (.int 0), none, none, none, none, none]) rfl
  have z0 : remF (fOf A.sg (zeroV A)) w = w := by rw [zeroV, fOf_zero, remF_zero]
  obtain ⟨y4, y6, y7, e1⟩ := l_ar_loop (h0 := h) (cC := cC) (cL := cL) (tk := tk) G W b (x0 := some (dAl A)) (x1 := some (dRow w)) w.length (zeroV A) [] none none (by unfold rl; rw [z0]) hz (by have := W.sz; simp; omega)
  rw [z0, List.nil_append, List.map_nil] at e1
  have cp := cV_pos G W (v := zeroV A)
  have hz0 : ([] : List D).length ≤ sizeLine := Nat.zero_le _
  have ll : (CM h cC cL A w tk L L.reverse []).length = h.length + 7 := by simp [CM, CH]
  have la : CM h cC cL A w tk L L.reverse [] ++ [Cell.lst []] = CM h cC cL A w tk L L.reverse [.lst []] := by simp [CM, CH]
  have mf := meth0_first (h0 := h) (cC := cC) (cL := cL) (A := A) (w := w) (tk := tk) (L := L) ne G.sz (P := L.reverse) (g := []) (fo := fVar 3) (e := [some (dAl A), some (dRow w), some (.int 0), some (.ref h.length), none, none, none, none]) rfl
  have ge : geD (.int 0) (.int (cV A w (zeroV A) : Nat)) (CM h cC cL A w tk L L.reverse [.lst []]) = some (.bl false) := by
    rw [ge_int]
    congr 2
    rw [decide_eq_false_iff_not]; omega
  have gm : getIx (.ref (h.length + 6)) (dV (zeroV A)) (CM h cC cL A w tk L L.reverse [.lst []]) = some (.int (cV A w (zeroV A) : Nat)) := cm_gm (List.mem_reverse.mpr hz)
  have tt : tupleN [.ref (h.length + 7)] (CM h cC cL A w tk L L.reverse [.lst ((Tr.nf (dp A) A.sg w).map D.str)]) = some (dRow (Tr.nf (dp A) A.sg w)) := by
    have q := lk_cell (n := h.length + 7) (h := CM h cC cL A w tk L L.reverse [.lst ((Tr.nf (dp A) A.sg w).map D.str)]) (xs := (Tr.nf (dp A) A.sg w).map D.str) (by simp [CM, CH])
    simp only [tupleN, q, Option.map_some]
  have idx := sRng (i := 0) (h := CM h cC cL A w tk L L.reverse [.lst []])
  obtain ⟨g, hg⟩ : ∃ g, CM h cC cL A w tk L L.reverse [.lst ((Tr.nf (dp A) A.sg w).map D.str)] = h ++ g := ⟨_, rfl⟩
  refine dropAll_of (g := g) ?_ (show cls h.length (_ : List D) from cls_map (f := D.str) (fun _ => trivial) _)
  rw [← hg]
  unfold defF r_arrival
  have en : ([dAl A, dRow w, D.int 0].map some ++ List.replicate (8 - [dAl A, dRow w, D.int 0].length) none) = [some (dAl A), some (dRow w), some (.int 0), none, none, none, none, none] := rfl
  rw [en, ev_sCons, ev_sAsg, mk]
  simp only [R.toS_ok, ev_gN, List.set_cons_succ, List.set_cons_zero, RS.seq_nx]
  rw [ev_sCons, ev_sPar]
  simp only [ev_cons, mf, R.bind_ok, ev_cell, ev_nil, hz0, if_true, ll, la, R.toS_ok, List.set_cons_succ, List.set_cons_zero, RS.seq_nx]
  rw [ev_sCons]
  have idx' : (decide ((0 : Int) ≤ 0)) = true := rfl
  simp only [ev_sIf, ev_or, ev_not, ev_asB, ev_call, ev_cons, ev_nil, ev_bin, ev_un, ev_var, List.getElem?_cons_succ, List.getElem?_cons_zero, jn, R.of_some, R.bind_ok, idx, idx', R.nox_ok, Bool.not_true, Bool.false_eq_true, if_false, cm_many, gm, ge, R.toS_ok, ev_sNil, RS.seq_nx]
  rw [ev_sCons, e1]
  simp only [RS.seq_nx, ev_sRet, ev_nary, ev_cons, ev_nil, ev_var, List.getElem?_cons_succ, List.getElem?_cons_zero, jn, R.of_some, R.bind_ok, tt, R.toS_ok]
/-! number_of -/
section
variable {h0 : Hea} {cC cL : Addr} {A : Alp} {w : List Str} {tk : D} {L : List (List Nat)}
theorem l_no_in {v : List Nat} {s : Str} (hs : PyData.strOk s = true) {x0 x1 x3 : Option D} : ∀ (fl : List Str) (n : Nat) (x6 x7 : Option D), s ∈ fl → (∀ t ∈ fl, PyData.strOk t = true ∧ incV A.sg v t ∈ L) → 
    forL g0_number_of (b1_number_of cC) ((fl.map fun t => (t, incV A.sg v t)).map fun p => D.tup [.str p.1, dV p.2]) [x0, x1, some (.ref h0.length), x3, some (.int (n : Nat)), some (.str s), x6, x7] (CM h0 cC cL A w tk L L.reverse []) = .nx [x0, x1, some (.ref h0.length), x3, some (.int ((n + ((fl.takeWhile fun b => decide (b ≠ s)).map fun t => cV A w (incV A.sg v t)).sum : Nat) : Int)), some (.str s), some (.str s), some (dV (incV A.sg v s))] (CM h0 cC cL A w tk L L.reverse [])
  | [], n, x6, x7, h, _ => by simp at h
  | t :: fl, n, x6, x7, h, hf => by
    obtain ⟨ht, hL⟩ := hf t List.mem_cons_self
    have tg : g0_number_of (.tup [.str t, dV (incV A.sg v t)]) [x0, x1, some (.ref h0.length), x3, some (.int (n : Nat)), some (.str s), x6, x7] (CM h0 cC cL A w tk L L.reverse []) = .nx [x0, x1, some (.ref h0.length), x3, some (.int (n : Nat)), some (.str s), some (.str t), some (dV (incV A.sg v t))] (CM h0 cC cL A w tk L L.reverse []) := by
      unfold g0_number_of
      simp only [ev_gT, ti_tup, List.length_cons, List.length_nil, if_true, ev_gsCons, ev_gN, RS.seq_nx, List.set_cons_succ, List.set_cons_zero, ev_gsNil]
    have q := eq_str (h := CM h0 cC cL A w tk L L.reverse []) ht hs
    by_cases e : t = s
    · subst e
      have bd : b1_number_of cC [x0, x1, some (.ref h0.length), x3, some (.int (n : Nat)), some (.str t), some (.str t), some (dV (incV A.sg v t))] (CM h0 cC cL A w tk L L.reverse []) = .bk [x0, x1, some (.ref h0.length), x3, some (.int (n : Nat)), some (.str t), some (.str t), some (dV (incV A.sg v t))] (CM h0 cC cL A w tk L L.reverse []) := by
        unfold b1_number_of
        simp only [ev_sCons, ev_sIf, ev_asB, ev_bin, ev_var, List.getElem?_cons_succ, List.getElem?_cons_zero, jn, R.of_some, R.bind_ok, q, decide_true, R.toS_ok, if_true, ev_sBrk, RS.seq_bk]
      rw [List.map_cons, List.map_cons, forL_bk tg bd]
      simp
    · have hm : s ∈ fl := by
        rcases List.mem_cons.mp h with e' | e'
        · exact absurd e'.symm e
        · exact e'
      have ad : ∀ h : Hea, iaddD (.int (n : Nat)) (.int (cV A w (incV A.sg v t) : Nat)) h = some (.int ((n + cV A w (incV A.sg v t) : Nat) : Int)) := fun h => by
        rw [iaddI]; congr 2
      have bd : b1_number_of cC [x0, x1, some (.ref h0.length), x3, some (.int (n : Nat)), some (.str s), some (.str t), some (dV (incV A.sg v t))] (CM h0 cC cL A w tk L L.reverse []) = .nx [x0, x1, some (.ref h0.length), x3, some (.int ((n + cV A w (incV A.sg v t) : Nat) : Int)), some (.str s), some (.str t), some (dV (incV A.sg v t))] (CM h0 cC cL A w tk L L.reverse []) := by
        unfold b1_number_of
        simp only [ev_sCons, ev_sIf, ev_asB, ev_bin, ev_un, ev_var, List.getElem?_cons_succ, List.getElem?_cons_zero, jn, R.of_some, R.bind_ok, q, e, decide_false, R.toS_ok, Bool.false_eq_true, if_false, ev_sNil, RS.seq_nx, ev_sAug, cm_many, cm_gm (List.mem_reverse.mpr hL), ad, List.set_cons_succ, List.set_cons_zero]
      rw [List.map_cons, List.map_cons, forL_nx tg bd, l_no_in hs fl _ _ _ hm fun u hu => hf u (List.mem_cons_of_mem _ hu)]
      have et : (t :: fl).takeWhile (fun b => decide (b ≠ s)) = t :: fl.takeWhile fun b => decide (b ≠ s) := by simp [List.takeWhile_cons, e]
      rw [et, List.map_cons, List.sum_cons, Nat.add_assoc]
theorem l_no_loop (G : Good A) (W : GoodW A w) (b : BI A w L []) {x0 x1 : Option D} : ∀ (u : List Str) (v : List Nat) (n : Nat) (x5 x6 x7 : Option D), remF (fOf A.sg v) w = u → v ∈ L → ∃ y3 y5 y6 y7,
    forL g2_number_of (b3_number_of cC) (u.map D.str) [x0, x1, some (.ref h0.length), some (dV v), some (.int (n : Nat)), x5, x6, x7] (CM h0 cC cL A w tk L L.reverse []) = .nx [x0, x1, some (.ref h0.length), y3, some (.int ((n + Tr.rank (dp A) A.sg u : Nat) : Int)), y5, y6, y7] (CM h0 cC cL A w tk L L.reverse [])
  | [], v, n, x5, x6, x7, _, _ => ⟨some (dV v), x5, x6, x7, rfl⟩
  | a :: u, v, n, x5, x6, x7, er, hv => by
    have ov := b.ok v (by simpa using hv)
    have ha : a ∈ A.sg := W.sub a (remF_sub (by rw [er]; exact List.mem_cons_self))
    have fa : a ∈ Tr.firsts (dp A) A.sg (remF (fOf A.sg v) w) := by
      rw [Tr.mem_firsts, er]
      exact ⟨ha, by simp [Tr.fst]⟩
    have hp : ∀ t ∈ Tr.firsts (dp A) A.sg (remF (fOf A.sg v) w), (t, incV A.sg v t) ∈ nxV A w v := fun t ht => List.mem_map.mpr ⟨t, ht, rfl⟩
    have st := nx_step G ov (hp a fa)
    simp only at st
    have er2 : remF (fOf A.sg (incV A.sg v a)) w = u := by rw [st.2.2, er, List.erase_cons_head]
    have inn := l_no_in (h0 := h0) (cC := cC) (cL := cL) (A := A) (w := w) (tk := tk) (L := L) (v := v) (s := a) (G.ok a ha) (x0 := x0) (x1 := x1) (x3 := some (dV v)) (Tr.firsts (dp A) A.sg (remF (fOf A.sg v) w)) n x6 x7 fa fun t ht => ⟨G.ok t (Tr.mem_firsts.mp ht).1, by simpa using b.cl v hv _ (hp t ht)⟩
    obtain ⟨y3, y5, y6, y7, ih⟩ := l_no_loop G W b (x0 := x0) (x1 := x1) u (incV A.sg v a) (n + (((Tr.firsts (dp A) A.sg (remF (fOf A.sg v) w)).takeWhile fun b => decide (b ≠ a)).map fun t => cV A w (incV A.sg v t)).sum) (some (.str a)) (some (.str a)) (some (dV (incV A.sg v a))) er2 (by simpa using b.cl v hv _ (hp a fa))
    refine ⟨y3, y5, y6, y7, ?_⟩
    have it : iLst (fBin getIx (fUn (fldD cC "nexts") (fVar 2)) (fVar 3)) [x0, x1, some (.ref h0.length), some (dV v), some (.int (n : Nat)), some (.str a), x6, x7] (CM h0 cC cL A w tk L L.reverse []) = .ok ((nxV A w v).map fun p => D.tup [.str p.1, dV p.2]) (CM h0 cC cL A w tk L L.reverse []) := by
      simp only [ev_lst, ev_un, ev_bin, ev_var, List.getElem?_cons_succ, List.getElem?_cons_zero, jn, R.of_some, R.bind_ok, cm_nexts, cm_gn hv]
      rfl
    have bd : b3_number_of cC [x0, x1, some (.ref h0.length), some (dV v), some (.int (n : Nat)), some (.str a), x6, x7] (CM h0 cC cL A w tk L L.reverse []) = .nx [x0, x1, some (.ref h0.length), some (dV (incV A.sg v a)), some (.int ((n + (((Tr.firsts (dp A) A.sg (remF (fOf A.sg v) w)).takeWhile fun b => decide (b ≠ a)).map fun t => cV A w (incV A.sg v t)).sum : Nat) : Int)), some (.str a), some (.str a), some (dV (incV A.sg v a))] (CM h0 cC cL A w tk L L.reverse []) := by
      unfold b3_number_of
      rw [ev_sCons, ev_sFor, it, R.toS_ok]
      unfold nxV
      rw [inn]
      simp only [RS.seq_nx, ev_sAsg, ev_var, List.getElem?_cons_succ, List.getElem?_cons_zero, jn, R.of_some, R.toS_ok, ev_gN, List.set_cons_succ, List.set_cons_zero]
    rw [List.map_cons, forL_nx (e1 := [x0, x1, some (.ref h0.length), some (dV v), some (.int (n : Nat)), some (.str a), x6, x7]) (h1 := CM h0 cC cL A w tk L L.reverse []) (by unfold g2_number_of; rfl) bd, ih]
    have rk : Tr.rank (dp A) A.sg (a :: u) = (((Tr.firsts (dp A) A.sg (a :: u)).takeWhile fun b => decide (b ≠ a)).map fun b => Tr.cnt (dp A) A.sg ((a :: u).erase b)).sum + Tr.rank (dp A) A.sg u := rfl
    have em : ((Tr.firsts (dp A) A.sg (remF (fOf A.sg v) w)).takeWhile fun b => decide (b ≠ a)).map (fun t => cV A w (incV A.sg v t)) = ((Tr.firsts (dp A) A.sg (a :: u)).takeWhile fun b => decide (b ≠ a)).map fun b => Tr.cnt (dp A) A.sg ((a :: u).erase b) := by
      rw [er]
      apply List.map_congr_left
      intro t ht
      have hf : t ∈ Tr.firsts (dp A) A.sg (remF (fOf A.sg v) w) := by rw [er]; exact (List.takeWhile_sublist _).subset ht
      unfold cV
      rw [(nx_step G ov (hp t hf)).2.2, er]
    rw [em, rk, Nat.add_assoc]
end
theorem l_number_of {cL cC : Addr} {A : Alp} {w : List Str} (G : Good A) (W : GoodW A w) (ne : A.sg ≠ []) (h4 : A.sg.length ≤ 4) (h6 : w.length ≤ 6) {h : Hea} : sp_number_of cL cC [dAl A, dRow w] h = .ok (.int (Tr.rank (dp A) A.sg w : Nat)) h := by
  obtain ⟨L, tk, b, hz, mk⟩ := l_counted (cL := cL) (cC := cC) (h0 := h) G W ne h4 h6 (fa := aCons (fVar 0) (aCons (fVar 1) (aNil))) (e := [some (dAl A), some (dRow w), none, none, none, none, none, none]) rfl
  have z0 : remF (fOf A.sg (zeroV A)) w = w := by rw [zeroV, fOf_zero, remF_zero]
  obtain ⟨y3, y5, y6, y7, e1⟩ := l_no_loop (h0 := h) (cC := cC) (cL := cL) (tk := tk) G W b (x0 := some (dAl A)) (x1 := some (dRow w)) w (zeroV A) 0 none none none z0 hz
  rw [Nat.zero_add] at e1
  have mf := meth0_first (h0 := h) (cC := cC) (cL := cL) (A := A) (w := w) (tk := tk) (L := L) ne G.sz (P := L.reverse) (g := []) (fo := fVar 2) (e := [some (dAl A), some (dRow w), some (.ref h.length), none, none, none, none, none]) rfl
  obtain ⟨g, hg⟩ : ∃ g, CM h cC cL A w tk L L.reverse [] = h ++ g := ⟨_, rfl⟩
  refine dropAll_of (g := g) ?_ trivial
  rw [← hg]
  unfold defF r_number_of
  have en : ([dAl A, dRow w].map some ++ List.replicate (8 - [dAl A, dRow w].length) none) = [some (dAl A), some (dRow w), none, none, none, none, none, none] := rfl
  rw [en, ev_sCons, ev_sAsg, mk]
  simp only [R.toS_ok, ev_gN, List.set_cons_succ, List.set_cons_zero, RS.seq_nx]
  rw [ev_sCons, ev_sPar]
  simp only [ev_cons, mf, R.bind_ok, ev_c, ev_nil, R.toS_ok, List.set_cons_succ, List.set_cons_zero, RS.seq_nx]
  have e1' : forL g2_number_of (b3_number_of cC) (w.map D.str) [some (dAl A), some (dRow w), some (.ref h.length), some (dV (zeroV A)), some (.int 0), none, none, none] (CM h cC cL A w tk L L.reverse []) = _ := e1
  rw [ev_sCons, ev_sFor]
  simp only [ev_seq, ev_var, List.getElem?_cons_succ, List.getElem?_cons_zero, jn, R.of_some, R.bind_ok, ti_tup, R.toS_ok, e1', RS.seq_nx, ev_sRet]
end W63

set_option Elab.async false
set_option linter.all false
set_option maxRecDepth 100000
set_option maxHeartbeats 1000000
namespace W63
open PySem DD
/-! ### the law -/
theorem lin_head {A : Alp} : ∀ (n : Nat) (w : List Str), w.length = n → (∀ a ∈ w, a ∈ A.sg) → ∃ r, Tr.lin (dp A) A.sg w = Tr.nf (dp A) A.sg w :: r
  | 0, w, hn, _ => by
    rw [List.eq_nil_of_length_eq_zero hn]
    exact ⟨[], rfl⟩
  | n + 1, w, hn, hw => by
    have hne : w ≠ [] := fun e => by subst e; simp at hn
    cases e : Tr.firsts (dp A) A.sg w with
    | nil => exact absurd ((Tr.firsts_nil hw).mp e) hne
    | cons a f =>
      have fa := (Tr.mem_firsts.mp (by rw [e]; exact List.mem_cons_self : a ∈ Tr.firsts (dp A) A.sg w)).2
      obtain ⟨r, hr⟩ := lin_head n (w.erase a) (Tr.len_erase (Tr.fst_mem fa) hn) (Tr.erase_sub hw)
      rw [Tr.lin_cons hne, e, List.flatMap_cons, hr, Tr.nf_cons e]
      exact ⟨_, rfl⟩
theorem l_bag {T : List Int} {h : Hea} : ∃ T', T'.length ≤ 63 ∧ sp__law_bag [.fro (T.map D.int)] h = .ok (.ref h.length) (h ++ [Bag 0 1234567891 0 T']) := by
  let ab : Int → Int := fun i => if i < 0 then -i else i
  refine ⟨(T.take 63).map ab, by simp; omega, ?_⟩
  have cut : cutD (T.map D.int) none (some 63) = (T.take 63).map D.int := by
    have := cut_to (ys := T.map D.int) (k := 63)
    rw [List.map_take]
    exact this
  have c0 : c0__law_bag [some (.fro (T.map D.int)), none] h = .ok (.lst (((T.take 63).map ab).map D.int)) h := by
    have e := lcL_map (fg := gN 1) (ft := tOn) (fe := fNary absN (aCons (fVar 1) aNil)) (vs := [1]) (e0 := [some (.fro (T.map D.int)), none]) (h := h) D.int (fun _ => true) (fun i => D.int (ab i)) (l := T.take 63) fun i _ => ⟨_, rfl, rfl, fun _ => rfl⟩
    have ef : (T.take 63).filter (fun _ => true) = T.take 63 := by simp
    rw [ef] at e
    have hz : ((T.take 63).map fun i => D.int (ab i)).length ≤ sizeLine := by rw [sizeLine_eq]; simp; omega
    unfold c0__law_bag
    rw [ev_lc]
    simp only [ev_lst, ev_slice, ev_oN, ev_oS, ev_c, ev_var, List.getElem?_cons_zero, jn, R.of_some, R.bind_ok, sld_fro, cut, st_lst, e]
    rw [lcEnd_ok hz, List.map_map]
    rfl
  have z : ([D.int 0, .int 1234567891, .int 0, .lst (((T.take 63).map ab).map D.int)] : List D).length ≤ sizeLine := by rw [sizeLine_eq]; simp
  unfold sp__law_bag defF r__law_bag
  have en : ([D.fro (T.map D.int)].map some ++ List.replicate (2 - [D.fro (T.map D.int)].length) none) = [some (.fro (T.map D.int)), none] := rfl
  rw [en]
  simp only [ev_sRet, ev_cell, ev_cons, ev_c, R.bind_ok, c0, ev_nil, z, if_true, R.toS_ok]
  rfl
/-! the rows, one by one -/
section
variable {cL cC : Addr} {A : Alp} {w : List Str} {H : Hea} {n : Nat} {B : Cell}
theorem good_eqv (W : GoodW A w) {o : List Str} (e : Tr.Eqv (dp A) o w) : GoodW A o := ⟨fun a ha => W.sub a (e.perm.mem_iff.mp ha), by rw [e.perm.length_eq]; exact W.sz⟩
theorem l_row1 (G : Good A) (W : GoodW A w) (ne : A.sg ≠ []) (h4 : A.sg.length ≤ 4) (h6 : w.length ≤ 6) (hn : n < H.length) {o : List Str} (e : Tr.Eqv (dp A) o w) {rk : List Nat} (hl : rk.length ≤ 10000) {x0 x1 x2 x4 x5 x6 x10 x12 x13 x14 x15 : Option D} :
    b2_law cL cC [x0, x1, x2, some (dAl A), x4, x5, x6, some (dRow (Tr.steps (dp A) A.sg w).flatten), some (dRow (Tr.nf (dp A) A.sg w)), some (.ref H.length), x10, some (dRow o), x12, x13, x14, x15] (H.set n B ++ [.lst (rk.map fun i => D.int (i : Nat))]) = .nx [x0, x1, x2, some (dAl A), x4, x5, x6, some (dRow (Tr.steps (dp A) A.sg w).flatten), some (dRow (Tr.nf (dp A) A.sg w)), some (.ref H.length), x10, some (dRow o), x12, x13, x14, x15] (H.set n B ++ [.lst ((rk ++ [Tr.rank (dp A) A.sg o]).map fun i => D.int (i : Nat))]) := by
  have Wo := good_eqv W e
  have oo := oks_of G Wo
  have DP := dp_dep G
  have en : Tr.nf (dp A) A.sg o = Tr.nf (dp A) A.sg w := Tr.nf_eqv DP e
  have es : Tr.steps (dp A) A.sg o = Tr.steps (dp A) A.sg w := Tr.steps_eqv DP e
  have on : Oks (Tr.nf (dp A) A.sg w) := fun a ha => G.ok a (W.sub a ((Tr.nf_of W.sub).perm.mem_iff.mpr ha))
  have os : Oks (Tr.steps (dp A) A.sg w).flatten := fun a ha => G.ok a (W.sub a ((Tr.steps_flat DP (nd_of G.pw) _ w (Nat.le_refl _) W.sub).perm.mem_iff.mpr ha))
  have q1 := fun h => eq_row (h := h) oo on
  have q2 := fun h => eq_row (h := h) oo os
  have b1 : (decide (Tr.nf (dp A) A.sg o = o) != decide (o = Tr.nf (dp A) A.sg w)) = false := by
    rw [en]
    have : decide (Tr.nf (dp A) A.sg w = o) = decide (o = Tr.nf (dp A) A.sg w) := decide_eq_decide.mpr ⟨Eq.symm, Eq.symm⟩
    rw [this]; simp
  have b2 : (decide ((Tr.steps (dp A) A.sg o).flatten = o) != decide (o = (Tr.steps (dp A) A.sg w).flatten)) = false := by
    rw [es]
    have : decide ((Tr.steps (dp A) A.sg w).flatten = o) = decide (o = (Tr.steps (dp A) A.sg w).flatten) := decide_eq_decide.mpr ⟨Eq.symm, Eq.symm⟩
    rw [this]; simp
  have b3 : ∀ h, neD (dRow (Tr.steps (dp A) A.sg o).flatten) (dRow (Tr.steps (dp A) A.sg w).flatten) h = some (.bl false) := fun h => by
    rw [es, ne_row os os]; simp
  have h6' : o.length ≤ 6 := by rw [e.perm.length_eq]; exact h6
  have at_ : (H.set n B ++ [Cell.lst (rk.map fun i => D.int (i : Nat))])[H.length]? = some (.lst (rk.map fun i => D.int (i : Nat))) := by
    rw [List.getElem?_append_right (by simp)]; simp
  have ap := app_at (x := .int (Tr.rank (dp A) A.sg o : Nat)) at_ (by simp; omega)
  rw [List.set_append_right _ _ (by simp)] at ap
  simp only [List.length_set, Nat.sub_self, List.set_cons_zero] at ap
  rw [List.map_append, List.map_singleton]
  unfold b2_law
  rw [ev_sCons]
  simp only [ev_sIf, ev_or, ev_asB, ev_bin, ev_call, ev_cons, ev_nil, ev_var, List.getElem?_cons_succ, List.getElem?_cons_zero, jn, R.of_some, R.bind_ok, l_is_normal G Wo, l_is_least G Wo, R.nox_ok, q1, ne_bl, b1, R.toS_ok, Bool.false_eq_true, if_false, ev_sNil, RS.seq_nx]
  rw [ev_sCons]
  simp only [ev_sIf, ev_or, ev_asB, ev_bin, ev_call, ev_cons, ev_nil, ev_var, List.getElem?_cons_succ, List.getElem?_cons_zero, jn, R.of_some, R.bind_ok, l_is_by_steps G Wo, l_by_steps G Wo, R.nox_ok, q2, ne_bl, b2, b3, R.toS_ok, Bool.false_eq_true, if_false, ev_sNil, RS.seq_nx]
  simp only [ev_sExpr, ev_bm, ev_call, ev_cons, ev_nil, ev_var, List.getElem?_cons_succ, List.getElem?_cons_zero, jn, R.of_some, R.bind_ok, ty_cell at_, if_true, l_number_of G Wo ne h4 h6', R.nox_ok, ap, R.toS_ok]
theorem l_rows (G : Good A) (W : GoodW A w) (ne : A.sg ≠ []) (h4 : A.sg.length ≤ 4) (h6 : w.length ≤ 6) (hn : n < H.length) {x0 x1 x2 x4 x5 x6 x12 x13 x14 x15 : Option D} : ∀ (os : List (List Str)) (k : Nat) (rk : List Nat) (x10 x11 : Option D), (∀ o ∈ os, Tr.Eqv (dp A) o w) → rk.length + os.length ≤ 10000 → ∃ y10 y11,
    forL g1_law (b2_law cL cC) (enF k (os.map dRow)) [x0, x1, x2, some (dAl A), x4, x5, x6, some (dRow (Tr.steps (dp A) A.sg w).flatten), some (dRow (Tr.nf (dp A) A.sg w)), some (.ref H.length), x10, x11, x12, x13, x14, x15] (H.set n B ++ [.lst (rk.map fun i => D.int (i : Nat))]) = .nx [x0, x1, x2, some (dAl A), x4, x5, x6, some (dRow (Tr.steps (dp A) A.sg w).flatten), some (dRow (Tr.nf (dp A) A.sg w)), some (.ref H.length), y10, y11, x12, x13, x14, x15] (H.set n B ++ [.lst ((rk ++ os.map (Tr.rank (dp A) A.sg)).map fun i => D.int (i : Nat))])
  | [], k, rk, x10, x11, _, _ => ⟨x10, x11, by rw [List.map_nil, List.map_nil, List.append_nil, show enF k [] = [] from rfl, forL_nil]⟩
  | o :: os, k, rk, x10, x11, he, hl => by
    have hl' : rk.length + (os.length + 1) ≤ 10000 := by simpa using hl
    obtain ⟨y10, y11, ih⟩ := l_rows G W ne h4 h6 hn (x0 := x0) (x1 := x1) (x2 := x2) (x4 := x4) (x5 := x5) (x6 := x6) (x12 := x12) (x13 := x13) (x14 := x14) (x15 := x15) os (k + 1) (rk ++ [Tr.rank (dp A) A.sg o]) (some (.int (k : Nat))) (some (dRow o)) (fun u hu => he u (List.mem_cons_of_mem _ hu)) (by simp; omega)
    refine ⟨y10, y11, ?_⟩
    have bd := l_row1 (cL := cL) (cC := cC) (B := B) G W ne h4 h6 hn (he o List.mem_cons_self) (rk := rk) (by omega) (x0 := x0) (x1 := x1) (x2 := x2) (x4 := x4) (x5 := x5) (x6 := x6) (x10 := some (.int (k : Nat))) (x12 := x12) (x13 := x13) (x14 := x14) (x15 := x15)
    have tg : g1_law (.pr [.int (k : Nat), dRow o]) [x0, x1, x2, some (dAl A), x4, x5, x6, some (dRow (Tr.steps (dp A) A.sg w).flatten), some (dRow (Tr.nf (dp A) A.sg w)), some (.ref H.length), x10, x11, x12, x13, x14, x15] (H.set n B ++ [.lst (rk.map fun i => D.int (i : Nat))]) = .nx [x0, x1, x2, some (dAl A), x4, x5, x6, some (dRow (Tr.steps (dp A) A.sg w).flatten), some (dRow (Tr.nf (dp A) A.sg w)), some (.ref H.length), some (.int (k : Nat)), some (dRow o), x12, x13, x14, x15] (H.set n B ++ [.lst (rk.map fun i => D.int (i : Nat))]) := by
      unfold g1_law
      simp only [ev_gT, ti_pr, List.length_cons, List.length_nil, if_true, ev_gsCons, ev_gN, RS.seq_nx, List.set_cons_succ, List.set_cons_zero, ev_gsNil]
    rw [List.map_cons, enF_cons, forL_nx tg bd, ih, List.map_cons, List.append_assoc, List.singleton_append]
end
/-! the rounds -/
section
variable {A : Alp} {h : Hea}
theorem ne_nil_strs {l : List Str} (ho : Oks l) : neD (.lst (l.map D.str)) (.lst []) h = some (.bl (!decide (l = []))) := ne_strs ho
theorem l_c3 (G : Good A) {x0 x1 x2 x4 x5 x6 x7 x8 x9 x10 x11 x13 x15 : Option D} {f : List Str} {a : Str} (hf : ∀ b ∈ f, b ∈ A.sg) (ha : a ∈ A.sg) (hz : f.length ≤ 1000) : c3_law [x0, x1, x2, some (dAl A), x4, x5, x6, x7, x8, x9, x10, x11, some (dRow f), x13, some (.str a), x15] h = .ok (.lst ((f.filter fun b => decide (b ≠ a) && !free A a b).map D.str)) h := by
  have e := lcL_map (fg := gN 15) (ft := fAnd (asB (fBin neD (fVar 15) (fVar 14))) (fNot (asB (fCall sp__law_is_free (aCons (fVar 3) (aCons (fVar 14) (aCons (fVar 15) (aNil)))))))) (fe := fVar 15) (vs := [15]) (e0 := [x0, x1, x2, some (dAl A), x4, x5, x6, x7, x8, x9, x10, x11, some (dRow f), x13, some (.str a), x15]) (h := h) D.str (fun b => decide (b ≠ a) && !free A a b) D.str (l := f) fun b hb => by
    refine ⟨_, rfl, ?_, fun _ => rfl⟩
    have q := ne_str (h := h) (G.ok b (hf b hb)) (G.ok a ha)
    simp only [wipeE, List.foldl_cons, List.foldl_nil, List.set_cons_succ, List.set_cons_zero, ev_and, ev_not, ev_asB, ev_bin, ev_call, ev_cons, ev_nil, ev_var, List.getElem?_cons_succ, List.getElem?_cons_zero, jn, R.of_some, R.bind_ok, q, l_is_free G (G.ok a ha) (G.ok b (hf b hb)), R.nox_ok]
    by_cases e : b = a
    · simp [e]
    · simp [e]
  have hz : ((f.filter fun b => decide (b ≠ a) && !free A a b).map D.str).length ≤ sizeLine := by
    rw [sizeLine_eq, List.length_map]
    exact Nat.le_trans (List.length_filter_le _ _) (by omega)
  unfold c3_law
  rw [ev_lc]
  simp only [ev_seq, ev_var, List.getElem?_cons_succ, List.getElem?_cons_zero, jn, R.of_some, R.bind_ok, ti_tup, e]
  exact lcEnd_ok hz
theorem l_c4 (G : Good A) {x0 x1 x2 x4 x5 x6 x7 x8 x9 x10 x11 x12 x15 : Option D} {f : List Str} {a : Str} (hf : ∀ b ∈ f, b ∈ A.sg) (ha : a ∈ A.sg) (hz : f.length ≤ 1000) : c4_law [x0, x1, x2, some (dAl A), x4, x5, x6, x7, x8, x9, x10, x11, x12, some (dRow f), some (.str a), x15] h = .ok (.lst ((f.filter fun b => !free A a b).map D.str)) h := by
  have e := lcL_map (fg := gN 15) (ft := fNot (asB (fCall sp__law_is_free (aCons (fVar 3) (aCons (fVar 14) (aCons (fVar 15) (aNil))))))) (fe := fVar 15) (vs := [15]) (e0 := [x0, x1, x2, some (dAl A), x4, x5, x6, x7, x8, x9, x10, x11, x12, some (dRow f), some (.str a), x15]) (h := h) D.str (fun b => !free A a b) D.str (l := f) fun b hb => by
    refine ⟨_, rfl, ?_, fun _ => rfl⟩
    simp only [wipeE, List.foldl_cons, List.foldl_nil, List.set_cons_succ, List.set_cons_zero, ev_not, ev_asB, ev_call, ev_cons, ev_nil, ev_var, List.getElem?_cons_succ, List.getElem?_cons_zero, jn, R.of_some, R.bind_ok, l_is_free G (G.ok a ha) (G.ok b (hf b hb)), R.nox_ok]
  have hz : ((f.filter fun b => !free A a b).map D.str).length ≤ sizeLine := by
    rw [sizeLine_eq, List.length_map]
    exact Nat.le_trans (List.length_filter_le _ _) (by omega)
  unfold c4_law
  rw [ev_lc]
  simp only [ev_seq, ev_var, List.getElem?_cons_succ, List.getElem?_cons_zero, jn, R.of_some, R.bind_ok, ti_tup, e]
  exact lcEnd_ok hz
theorem l_b6 (G : Good A) {x0 x1 x2 x4 x5 x6 x7 x8 x9 x11 x15 : Option D} {f g : List Str} {a : Str} {k : Nat} (hf : ∀ b ∈ f, b ∈ A.sg) (hg : ∀ b ∈ g, b ∈ A.sg) (ha : a ∈ A.sg) (zf : f.length ≤ 1000) (zg : g.length ≤ 1000) (h1 : ∀ b ∈ f, b ≠ a → free A a b = true) (h2 : 0 < k → ∃ b ∈ g, free A a b = false) :
    b6_law [x0, x1, x2, some (dAl A), x4, x5, x6, x7, x8, x9, some (.int (k : Nat)), x11, some (dRow f), some (dRow g), some (.str a), x15] h = .nx [x0, x1, x2, some (dAl A), x4, x5, x6, x7, x8, x9, some (.int (k : Nat)), x11, some (dRow f), some (dRow g), some (.str a), x15] h := by
  have e1 : f.filter (fun b => decide (b ≠ a) && !free A a b) = [] := by
    rw [List.filter_eq_nil_iff]
    intro b hb
    by_cases q : b = a
    · simp [q]
    · simp [h1 b hb q]
  have n1 := ne_strs (l := f.filter fun b => decide (b ≠ a) && !free A a b) (h := h) (fun b hb => G.ok b (hf b (List.mem_filter.mp hb).1))
  have n2 := eq_strs_nil (l := g.filter fun b => !free A a b) (h := h) (fun b hb => G.ok b (hg b (List.mem_filter.mp hb).1))
  rw [e1] at n1
  have gt : gtD (.int (k : Nat)) (.int 0) h = some (.bl (decide (0 < k))) := by
    rw [gt_int]
    congr 2
    exact decide_eq_decide.mpr (by omega)
  have n1' : neD (.lst ([] : List D)) (.lst []) h = some (.bl false) := by
    have := n1
    simp only [List.map_nil] at this
    rw [this]; rfl
  have c3 := l_c3 (h := h) G (x0 := x0) (x1 := x1) (x2 := x2) (x4 := x4) (x5 := x5) (x6 := x6) (x7 := x7) (x8 := x8) (x9 := x9) (x10 := some (.int (k : Nat))) (x11 := x11) (x13 := some (dRow g)) (x15 := x15) hf ha zf
  rw [e1, List.map_nil] at c3
  have c4 := l_c4 (h := h) G (x0 := x0) (x1 := x1) (x2 := x2) (x4 := x4) (x5 := x5) (x6 := x6) (x7 := x7) (x8 := x8) (x9 := x9) (x10 := some (.int (k : Nat))) (x11 := x11) (x12 := some (dRow f)) (x15 := x15) hg ha zg
  unfold b6_law
  rw [ev_sCons]
  simp only [ev_sIf, ev_asB, ev_bin, c3, R.bind_ok, ev_nary, ev_nil, dlst (as := []) (by simp), R.of_some, n1', R.toS_ok, Bool.false_eq_true, if_false, ev_sNil, RS.seq_nx]
  by_cases hk : 0 < k
  · obtain ⟨b, hb, fb⟩ := h2 hk
    have e2 : decide (g.filter (fun b => !free A a b) = []) = false := by
      rw [decide_eq_false_iff_not]
      intro q
      have := List.filter_eq_nil_iff.mp q b hb
      simp [fb] at this
    rw [e2] at n2
    simp only [ev_and, ev_asB, ev_bin, ev_var, ev_c, List.getElem?_cons_succ, List.getElem?_cons_zero, jn, R.of_some, R.bind_ok, gt, hk, decide_true, if_true, c4, ev_nary, ev_nil, dlst (as := []) (by simp), n2, R.toS_ok, Bool.false_eq_true, if_false]
  · simp only [ev_and, ev_asB, ev_bin, ev_var, ev_c, List.getElem?_cons_succ, List.getElem?_cons_zero, jn, R.of_some, R.bind_ok, gt, hk, decide_false, Bool.false_eq_true, if_false, R.toS_ok]
theorem l_round1 (G : Good A) {x0 x1 x2 x4 x5 x6 x7 x8 x9 x11 : Option D} {f g : List Str} {k : Nat} (hf : ∀ b ∈ f, b ∈ A.sg) (hg : ∀ b ∈ g, b ∈ A.sg) (zf : f.length ≤ 1000) (zg : g.length ≤ 1000) : ∀ (l : List Str) (x14 x15 : Option D), (∀ a ∈ l, a ∈ f) → (∀ a ∈ l, (∀ b ∈ f, b ≠ a → free A a b = true) ∧ (0 < k → ∃ b ∈ g, free A a b = false)) → ∃ y14,
    forL g5_law b6_law (l.map D.str) [x0, x1, x2, some (dAl A), x4, x5, x6, x7, x8, x9, some (.int (k : Nat)), x11, some (dRow f), some (dRow g), x14, x15] h = .nx [x0, x1, x2, some (dAl A), x4, x5, x6, x7, x8, x9, some (.int (k : Nat)), x11, some (dRow f), some (dRow g), y14, x15] h
  | [], x14, x15, _, _ => ⟨x14, rfl⟩
  | a :: l, x14, x15, hl, hh => by
    obtain ⟨y14, ih⟩ := l_round1 G hf hg zf zg (x0 := x0) (x1 := x1) (x2 := x2) (x4 := x4) (x5 := x5) (x6 := x6) (x7 := x7) (x8 := x8) (x9 := x9) (x11 := x11) (k := k) l (some (.str a)) x15 (fun b hb => hl b (List.mem_cons_of_mem _ hb)) (fun b hb => hh b (List.mem_cons_of_mem _ hb))
    refine ⟨y14, ?_⟩
    rw [List.map_cons, forL_nx (e1 := [x0, x1, x2, some (dAl A), x4, x5, x6, x7, x8, x9, some (.int (k : Nat)), x11, some (dRow f), some (dRow g), some (.str a), x15]) (h1 := h) (by unfold g5_law; rfl) (l_b6 G hf hg (hf a (hl a List.mem_cons_self)) zf zg (hh a List.mem_cons_self).1 (hh a List.mem_cons_self).2), ih]
end
end W63

set_option Elab.async false
set_option linter.all false
set_option maxRecDepth 100000
set_option maxHeartbeats 1000000
namespace W63
open PySem DD
section
variable {A : Alp} {h : Hea}
theorem firsts_sub {w : List Str} : ∀ b ∈ Tr.firsts (dp A) A.sg w, b ∈ A.sg := fun b hb => (Tr.mem_firsts.mp hb).1
theorem firsts_len (G : Good A) {w : List Str} : (Tr.firsts (dp A) A.sg w).length ≤ 1000 := Nat.le_trans (List.length_filter_le _ _) (Nat.le_trans G.sz (by decide))
theorem in_round (G : Good A) {w : List Str} {a : Str} (ha : a ∈ Tr.firsts (dp A) A.sg w) : ∀ b ∈ Tr.firsts (dp A) A.sg w, b ≠ a → free A a b = true := fun b hb hne => by
  have := Tr.fst_two (dp_dep G) (Ne.symm hne) (Tr.mem_firsts.mp ha).2 (Tr.mem_firsts.mp hb).2
  unfold dp at this
  simpa using this
theorem of_ahead (G : Good A) {w : List Str} {a : Str} (ha : a ∈ Tr.firsts (dp A) A.sg ((Tr.firsts (dp A) A.sg w).foldl List.erase w)) : ∃ b ∈ Tr.firsts (dp A) A.sg w, free A a b = false := by
  have D := dp_dep G
  apply Classical.byContradiction
  intro hc
  have hb : ∀ b ∈ Tr.firsts (dp A) A.sg w, dp A b a = false := fun b hb => by
    rw [D.s]
    unfold dp
    cases q : free A a b with
    | true => rfl
    | false => exact absurd ⟨b, hb, q⟩ hc
  obtain ⟨h1, h2⟩ := Tr.mem_firsts.mp ha
  have h3 := Tr.waits D _ w a (Tr.firsts_nd (nd_of G.pw) w) h2 hb
  have := hb a (Tr.mem_firsts.mpr ⟨h1, h3⟩)
  rw [D.r] at this; cases this
theorem l_b8 (G : Good A) {w' : List Str} {pre suf : List (List Str)} {x0 x1 x2 x4 x5 x7 x8 x9 x11 x13 x14 x15 : Option D} (hp : pre = [] ∨ ∃ w0 pre0, pre = pre0 ++ [Tr.firsts (dp A) A.sg w0] ∧ w' = (Tr.firsts (dp A) A.sg w0).foldl List.erase w0) : ∃ y13 y14,
    b8_law [x0, x1, x2, some (dAl A), x4, x5, some (.lst ((pre ++ suf).map dRow)), x7, x8, x9, some (.int (pre.length : Nat)), x11, some (dRow (Tr.firsts (dp A) A.sg w')), x13, x14, x15] h = .nx [x0, x1, x2, some (dAl A), x4, x5, some (.lst ((pre ++ suf).map dRow)), x7, x8, x9, some (.int (pre.length : Nat)), x11, some (dRow (Tr.firsts (dp A) A.sg w')), y13, y14, x15] h := by
  rcases hp with hp | ⟨w0, pre0, hp, hw⟩
  · subst hp
    have gt : gtD (.int ((([] : List (List Str)).length : Nat) : Int)) (.int 0) h = some (.bl false) := rfl
    obtain ⟨y14, e⟩ := l_round1 (h := h) (k := ([] : List (List Str)).length) G (firsts_sub (w := w')) (g := []) (by simp) (firsts_len G) (by simp) (x0 := x0) (x1 := x1) (x2 := x2) (x4 := x4) (x5 := x5) (x6 := some (.lst (([] ++ suf).map dRow))) (x7 := x7) (x8 := x8) (x9 := x9) (x11 := x11) (Tr.firsts (dp A) A.sg w') x14 x15 (fun a ha => ha) (fun a ha => ⟨in_round G ha, fun hk => absurd hk (Nat.lt_irrefl 0)⟩)
    refine ⟨some (dRow []), y14, ?_⟩
    have d0 : dTup [] h = some (dRow []) := dtup (by simp)
    unfold b8_law
    rw [ev_sCons, ev_sAsg]
    simp only [ev_if, ev_asB, ev_bin, ev_var, ev_c, List.getElem?_cons_succ, List.getElem?_cons_zero, jn, R.of_some, R.bind_ok, gt, Bool.false_eq_true, if_false, ev_nary, ev_nil, d0, R.toS_ok, ev_gN, List.set_cons_succ, List.set_cons_zero, RS.seq_nx]
    rw [ev_sFor]
    simp only [ev_seq, ev_var, List.getElem?_cons_succ, List.getElem?_cons_zero, jn, R.of_some, R.bind_ok, ti_tup, R.toS_ok]
    exact e
  · have el : pre.length = pre0.length + 1 := by rw [hp]; simp
    have gt : gtD (.int (pre.length : Nat)) (.int 0) h = some (.bl true) := by
      rw [gt_int]; congr 2; rw [decide_eq_true_eq]; omega
    have sb : subD (.int (pre.length : Nat)) (.int 1) h = some (.int (pre0.length : Nat)) := by
      rw [sub_int]; congr 2; omega
    have gi : getIx (.lst ((pre ++ suf).map dRow)) (.int (pre0.length : Nat)) h = some (dRow (Tr.firsts (dp A) A.sg w0)) := by
      rw [gi_lst, atI_nat, List.getElem?_map, hp]
      simp
    obtain ⟨y14, e⟩ := l_round1 (h := h) (k := pre.length) G (firsts_sub (w := w')) (firsts_sub (w := w0)) (firsts_len G) (firsts_len G) (x0 := x0) (x1 := x1) (x2 := x2) (x4 := x4) (x5 := x5) (x6 := some (.lst ((pre ++ suf).map dRow))) (x7 := x7) (x8 := x8) (x9 := x9) (x11 := x11) (Tr.firsts (dp A) A.sg w') x14 x15 (fun a ha => ha) (fun a ha => ⟨in_round G ha, fun _ => of_ahead G (by rw [← hw]; exact ha)⟩)
    refine ⟨some (dRow (Tr.firsts (dp A) A.sg w0)), y14, ?_⟩
    unfold b8_law
    rw [ev_sCons, ev_sAsg]
    simp only [ev_if, ev_asB, ev_bin, ev_var, ev_c, List.getElem?_cons_succ, List.getElem?_cons_zero, jn, R.of_some, R.bind_ok, gt, if_true, sb, gi, R.toS_ok, ev_gN, List.set_cons_succ, List.set_cons_zero, RS.seq_nx]
    rw [ev_sFor]
    simp only [ev_seq, ev_var, List.getElem?_cons_succ, List.getElem?_cons_zero, jn, R.of_some, R.bind_ok, ti_tup, R.toS_ok]
    exact e
theorem l_rounds (G : Good A) {rounds : List (List Str)} {x0 x1 x2 x4 x5 x7 x8 x9 x11 x15 : Option D} : ∀ (n : Nat) (w' : List Str) (pre : List (List Str)) (x10 x12 x13 x14 : Option D), w'.length ≤ n → (∀ a ∈ w', a ∈ A.sg) → rounds = pre ++ Tr.steps (dp A) A.sg w' → (pre = [] ∨ ∃ w0 pre0, pre = pre0 ++ [Tr.firsts (dp A) A.sg w0] ∧ w' = (Tr.firsts (dp A) A.sg w0).foldl List.erase w0) → ∃ y10 y12 y13 y14,
    forL g7_law b8_law (enF pre.length ((Tr.steps (dp A) A.sg w').map dRow)) [x0, x1, x2, some (dAl A), x4, x5, some (.lst (rounds.map dRow)), x7, x8, x9, x10, x11, x12, x13, x14, x15] h = .nx [x0, x1, x2, some (dAl A), x4, x5, some (.lst (rounds.map dRow)), x7, x8, x9, y10, x11, y12, y13, y14, x15] h := by
  intro n
  induction n with
  | zero =>
    intro w' pre x10 x12 x13 x14 hn hw hr hp
    have e : w' = [] := List.eq_nil_of_length_eq_zero (by omega)
    subst e
    refine ⟨x10, x12, x13, x14, ?_⟩
    rw [Tr.steps_end ((Tr.firsts_nil (by simp)).mpr rfl), List.map_nil, show enF pre.length [] = [] from rfl, forL_nil]
  | succ n ih =>
    intro w' pre x10 x12 x13 x14 hn hw hr hp
    cases e : Tr.firsts (dp A) A.sg w' with
    | nil =>
      refine ⟨x10, x12, x13, x14, ?_⟩
      rw [Tr.steps_end e, List.map_nil, show enF pre.length [] = [] from rfl, forL_nil]
    | cons a f =>
      have er := Tr.steps_rec (dp_dep G) (nd_of G.pw) e
      rw [← e] at er
      have fl := (Tr.fold_front (dp_dep G) (Tr.firsts (dp A) A.sg w') w' (Tr.firsts_nd (nd_of G.pw) w') fun b hb => (Tr.mem_firsts.mp hb).2).2
      have l1 : 1 ≤ (Tr.firsts (dp A) A.sg w').length := by rw [e]; simp
      obtain ⟨y13, y14, bd⟩ := l_b8 (h := h) G (w' := w') (pre := pre) (suf := Tr.steps (dp A) A.sg w') (x0 := x0) (x1 := x1) (x2 := x2) (x4 := x4) (x5 := x5) (x7 := x7) (x8 := x8) (x9 := x9) (x11 := x11) (x13 := x13) (x14 := x14) (x15 := x15) hp
      rw [← hr] at bd
      have tg : g7_law (.pr [.int (pre.length : Nat), dRow (Tr.firsts (dp A) A.sg w')]) [x0, x1, x2, some (dAl A), x4, x5, some (.lst (rounds.map dRow)), x7, x8, x9, x10, x11, x12, x13, x14, x15] h = .nx [x0, x1, x2, some (dAl A), x4, x5, some (.lst (rounds.map dRow)), x7, x8, x9, some (.int (pre.length : Nat)), x11, some (dRow (Tr.firsts (dp A) A.sg w')), x13, x14, x15] h := by
        unfold g7_law
        simp only [ev_gT, ti_pr, List.length_cons, List.length_nil, if_true, ev_gsCons, ev_gN, RS.seq_nx, List.set_cons_succ, List.set_cons_zero, ev_gsNil]
      obtain ⟨z10, z12, z13, z14, e2⟩ := ih ((Tr.firsts (dp A) A.sg w').foldl List.erase w') (pre ++ [Tr.firsts (dp A) A.sg w']) (some (.int (pre.length : Nat))) (some (dRow (Tr.firsts (dp A) A.sg w'))) y13 y14 (by omega) (Tr.fold_sub hw) (by rw [hr, er]; simp) (.inr ⟨w', pre, rfl, rfl⟩)
      rw [show (pre ++ [Tr.firsts (dp A) A.sg w']).length = pre.length + 1 by simp] at e2
      refine ⟨z10, z12, z13, z14, ?_⟩
      rw [er, List.map_cons, enF_cons, forL_nx tg bd, e2]
end
/-! ### one lap -/
theorem lists_of {h : Hea} : ∀ l : List (List Str), listsOf h (l.map fun r => D.lst (r.map D.str)) = some (l.map fun r => r.map D.str)
  | [] => rfl
  | r :: l => by simp [listsOf, lists_of l]
theorem l_c0law {x0 x1 x2 x3 x4 x5 x7 x8 x9 x10 x11 x12 x13 x14 x15 : Option D} {h : Hea} {rounds : List (List Str)} (hz : rounds.length ≤ 10000) : c0_law [x0, x1, x2, x3, x4, x5, some (.lst (rounds.map dRow)), x7, x8, x9, x10, x11, x12, x13, x14, x15] h = .ok (.lst (rounds.map fun r => D.lst (r.map D.str))) h := by
  have e := lcL_map (fg := gN 12) (ft := tOn) (fe := fNary listN (aCons (fVar 12) (aNil))) (vs := [12]) (e0 := [x0, x1, x2, x3, x4, x5, some (.lst (rounds.map dRow)), x7, x8, x9, x10, x11, x12, x13, x14, x15]) (h := h) dRow (fun _ => true) (fun r => D.lst (r.map D.str)) (l := rounds) fun r _ => by
    refine ⟨_, rfl, rfl, fun _ => ?_⟩
    simp only [wipeE, List.foldl_cons, List.foldl_nil, List.set_cons_succ, List.set_cons_zero, ev_nary, ev_cons, ev_nil, ev_var, List.getElem?_cons_succ, List.getElem?_cons_zero, jn, R.of_some, R.bind_ok, listN, sq_tup, Option.map_some]
  have ef : rounds.filter (fun _ => true) = rounds := by simp
  rw [ef] at e
  have hz : (rounds.map fun r => D.lst (r.map D.str)).length ≤ sizeLine := by rw [sizeLine_eq, List.length_map]; omega
  unfold c0_law
  rw [ev_lc]
  simp only [ev_lst, ev_var, List.getElem?_cons_succ, List.getElem?_cons_zero, jn, R.of_some, R.bind_ok, st_lst, e]
  exact lcEnd_ok hz
theorem okE_rowsL {h : Hea} {l : List (List Str)} (ho : ∀ w ∈ l, Oks w) : okE 60 (D.lst (l.map dRow)) = true := by
  show ((l.map dRow).all (okE 59)) = true
  rw [List.all_eq_true]
  exact okE_rows (n := 57) ho
theorem okE_ints (l : List D) (hl : ∀ d ∈ l, ∃ i, d = .int i) : okE 60 (D.lst l) = true := by
  show (l.all (okE 59)) = true
  rw [List.all_eq_true]
  intro d hd
  obtain ⟨i, rfl⟩ := hl d hd
  exact okE_int (n := 58)
theorem steps_count {A : Alp} (G : Good A) : ∀ (n : Nat) (w : List Str), w.length ≤ n → (Tr.steps (dp A) A.sg w).length ≤ n := by
  intro n
  induction n with
  | zero =>
    intro w hn
    have e : w = [] := List.eq_nil_of_length_eq_zero (by omega)
    subst e
    rw [Tr.steps_end ((Tr.firsts_nil (by simp)).mpr rfl)]
    exact Nat.le_refl _
  | succ n ih =>
    intro w hn
    cases e : Tr.firsts (dp A) A.sg w with
    | nil => rw [Tr.steps_end e]; exact Nat.zero_le _
    | cons a f =>
      have fl := (Tr.fold_front (dp_dep G) (Tr.firsts (dp A) A.sg w) w (Tr.firsts_nd (nd_of G.pw) w) fun b hb => (Tr.mem_firsts.mp hb).2).2
      rw [e] at fl
      rw [Tr.steps_rec (dp_dep G) (nd_of G.pw) e, List.length_cons]
      have := ih ((a :: f).foldl List.erase w) (by simp at fl ⊢; omega)
      omega
end W63

set_option Elab.async false
set_option linter.all false
set_option maxRecDepth 100000
set_option maxHeartbeats 1000000
namespace W63
open PySem DD
def letters : List Str := ["a", "b", "c", "d"]
theorem letters_pw : letters.Pairwise sLt := by
  unfold letters
  decide +kernel
theorem letters_ok : Oks letters := by
  unfold Oks letters
  decide +kernel
theorem asB_bin {g : D → D → Hea → Option D} {a b : En → Hea → R D} {e : En} {h h1 h2 : Hea} {x y : D} {r : Bool} (ha : a e h = .ok x h1) (hb : b e h1 = .ok y h2) (hg : g x y h2 = some (.bl r)) : asB (fBin g a b) e h = .ok r h2 := by
  rw [ev_asB, ev_bin, ha, R.bind_ok, hb, R.bind_ok, hg]
  rfl
theorem or_ff {a b : En → Hea → R Bool} {e : En} {h h1 h2 : Hea} (ha : a e h = .ok false h1) (hb : b e h1 = .ok false h2) : fOr a b e h = .ok false h2 := by
  rw [ev_or, ha, R.bind_ok, if_neg Bool.false_ne_true, hb]
theorem sIf_f {t : En → Hea → R Bool} {f : FS} {e : En} {h h1 : Hea} (ht : t e h = .ok false h1) : sIf t f sNil e h = .nx e h1 := by
  rw [ev_sIf, ht, R.toS_ok, if_neg Bool.false_ne_true]
  rfl
theorem var_at {i : Nat} {e : En} {h : Hea} {d : D} (he : e[i]? = some (some d)) : fVar i e h = .ok d h := by
  rw [ev_var, he]; rfl
theorem enL_at {i : Nat} {e : En} {h : Hea} {xs : List D} (he : e[i]? = some (some (.lst xs))) : iEnumL (aCons (fVar i) aNil) e h = .ok (enF 0 xs) h := by
  rw [ev_enL, ev_cons, var_at he, R.bind_ok, ev_nil, R.bind_ok, R.bind_ok, ← enumL_eq]
theorem listRg_ok {f : En → Hea → R D} {e : En} {h h1 : Hea} {n : Nat} (hf : f e h = .ok (.int (n : Nat)) h1) (hn : n ≤ 1000000) : fListRg f e h = .ok (.lst (rangeL 0 n)) h1 := by
  have q : L2.RgOk 0 (n : Int) := by
    have e1 : (2 : Int) ^ 62 = 4611686018427387904 := rfl
    have e2 : (2 : Nat) ^ 24 = 16777216 := rfl
    unfold L2.RgOk
    rw [e1, e2]
    omega
  unfold fListRg
  rw [hf, R.bind_ok]
  show (if L2.RgOk 0 (n : Int) then R.ok (D.lst (rangeL 0 (n : Int).toNat)) h1 else .no) = _
  rw [if_pos q, Int.toNat_natCast]
theorem sFor_of {fi : En → Hea → R (List D)} {fg : D → FS} {fb : FS} {e : En} {h h1 : Hea} {xs : List D} {r : RS} (hi : fi e h = .ok xs h1) (hf : forL fg fb xs e h1 = r) : sFor fi fg fb e h = r := by
  rw [ev_sFor, hi, R.toS_ok, hf]
section
variable {cL cC : Addr} {H : Hea} {n : Nat} {T : List Int}
/-- the alphabet and the row are drawn -/
theorem l_draw (hn : n < H.length) (ht : T.length ≤ 63) {b0 b1 b2 : Int} {x0 x2 x3 x4 x5 x6 x7 x8 x9 x10 x11 x12 x13 x14 x15 : Option D} (k : FS) : ∃ (A : Alp) (w : List Str) (c0 c1 c2 : Int), Good A ∧ GoodW A w ∧ A.sg ≠ [] ∧ A.sg.length ≤ 4 ∧ w.length ≤ 6 ∧
    sCons (sAsg (fCall sp__law_alphabet (aCons (fVar 1) (aCons (fSlice (fNary dTup (aCons (fC (.str "a")) (aCons (fC (.str "b")) (aCons (fC (.str "c")) (aCons (fC (.str "d")) (aNil)))))) (oNone) (oSome (fBin addD (fC (.int 1)) (fCall sp__law_take (aCons (fVar 1) (aCons (fC (.int 4)) (aNil))))))) (aNil)))) (gN 3)) (sCons (sAsg (fCall sp__law_row (aCons (fVar 1) (aCons (fBin getIx (fVar 3) (fC (.int 0))) (aCons (fC (.int 6)) (aNil))))) (gN 4)) k)
      [x0, some (.ref n), x2, x3, x4, x5, x6, x7, x8, x9, x10, x11, x12, x13, x14, x15] (H.set n (Bag b0 b1 b2 T)) = k [x0, some (.ref n), x2, some (dAl A), some (dRow w), x5, x6, x7, x8, x9, x10, x11, x12, x13, x14, x15] (H.set n (Bag c0 c1 c2 T)) := by
  obtain ⟨v, a0, a1, a2, e1, v0, v1⟩ := l_take (T := T) (b0 := b0) (b1 := b1) (b2 := b2) (many := 4) hn ht (by omega) (by omega)
  obtain ⟨m, rfl⟩ := Int.eq_ofNat_of_zero_le v0
  have l4 : (letters.take (1 + m)).length ≤ 4 := by rw [List.length_take]; exact Nat.min_le_right _ _
  have lne : letters.take (1 + m) ≠ [] := by
    rw [Nat.add_comm]; unfold letters; simp
  obtain ⟨A, c0, c1, c2, e2, G, es⟩ := l_alphabet (T := T) (b0 := a0) (b1 := a1) (b2 := a2) (sg := letters.take (1 + m)) hn ht l4 (letters_pw.sublist (List.take_sublist _ _)) (fun a ha => letters_ok a (List.mem_of_mem_take ha))
  obtain ⟨w, d0, d1, d2, e3, w6, ws⟩ := l_row (T := T) (b0 := c0) (b1 := c1) (b2 := c2) (sg := A.sg) hn ht (by rw [es]; exact lne) (by rw [es]; omega)
  refine ⟨A, w, d0, d1, d2, G, ⟨ws, by omega⟩, by rw [es]; exact lne, by rw [es]; exact l4, w6, ?_⟩
  have sl : slD (.tup [.str "a", .str "b", .str "c", .str "d"]) none (some (1 + (m : Nat) : Int)) (H.set n (Bag a0 a1 a2 T)) = some (dRow (letters.take (1 + m))) := by
    rw [sld_tup, show (1 + (m : Nat) : Int) = ((1 + m : Nat) : Int) by omega, cut_to]
    unfold dRow
    rw [List.map_take]
    rfl
  have dt : ∀ h, dTup [D.str "a", .str "b", .str "c", .str "d"] h = some (.tup [.str "a", .str "b", .str "c", .str "d"]) := fun h => dtup (by simp)
  rw [ev_sCons, ev_sAsg]
  simp only [ev_call, ev_cons, ev_slice, ev_nary, ev_oN, ev_oS, ev_bin, ev_c, ev_var, ev_nil, List.getElem?_cons_succ, List.getElem?_cons_zero, jn, R.of_some, R.bind_ok, dt, e1, R.nox_ok, add_int, sl, e2, R.toS_ok, ev_gN, List.set_cons_succ, List.set_cons_zero, RS.seq_nx]
  rw [ev_sCons, ev_sAsg]
  simp only [ev_call, ev_cons, ev_bin, ev_c, ev_var, ev_nil, List.getElem?_cons_succ, List.getElem?_cons_zero, jn, R.of_some, R.bind_ok, dal0, e3, R.nox_ok, R.toS_ok, ev_gN, List.set_cons_succ, List.set_cons_zero, RS.seq_nx]
theorem l_lap (hn : n < H.length) (ht : T.length ≤ 63) {b0 b1 b2 : Int} {x0 x2 x3 x4 x5 x6 x7 x8 x9 x10 x11 x12 x13 x14 x15 : Option D} : ∃ (c : Cell) (c0 c1 c2 : Int) (y3 y4 y5 y6 y7 y8 y9 y10 y11 y12 y13 y14 y15 : Option D),
    b10_law cL cC [x0, some (.ref n), x2, x3, x4, x5, x6, x7, x8, x9, x10, x11, x12, x13, x14, x15] (H.set n (Bag b0 b1 b2 T)) = .nx [x0, some (.ref n), x2, y3, y4, y5, y6, y7, y8, y9, y10, y11, y12, y13, y14, y15] ((H ++ [c]).set n (Bag c0 c1 c2 T)) := by
  have dr := fun k => l_draw (b0 := b0) (b1 := b1) (b2 := b2) hn ht (x0 := x0) (x2 := x2) (x3 := x3) (x4 := x4) (x5 := x5) (x6 := x6) (x7 := x7) (x8 := x8) (x9 := x9) (x10 := x10) (x11 := x11) (x12 := x12) (x13 := x13) (x14 := x14) (x15 := x15) k
  unfold b10_law
  generalize hk : sCons (sAsg (fCall sp__law_class _) _) _ = k
  obtain ⟨A, w, c0, c1, c2, G, W, ne, h4, h6, e1⟩ := dr k
  rw [e1, ← hk]
  clear e1 dr hk
  have DP := dp_dep G
  have nd := nd_of G.pw
  have cnt : (Tr.lin (dp A) A.sg w).length ≤ 720 := by
    have c0' : CI A w [w] [w] := ⟨by simp, by simp; exact .refl, by simp, Nat.le_refl _⟩
    exact (c0'.sz G W h6).2
  have eqv : ∀ o ∈ Tr.lin (dp A) A.sg w, Tr.Eqv (dp A) o w := fun o ho => (Tr.mem_lin DP W.sub).mp ho
  have orow : ∀ o ∈ Tr.lin (dp A) A.sg w, Oks o := fun o ho => oks_of G (good_eqv W (eqv o ho))
  have sz : (Tr.steps (dp A) A.sg w).length ≤ 6 := Nat.le_trans (steps_count G _ w (Nat.le_refl _)) h6
  have fe := Tr.steps_flat DP nd _ w (Nat.le_refl _) W.sub
  have flz : (Tr.steps (dp A) A.sg w).flatten.length ≤ 6 := by rw [← fe.perm.length_eq]; exact h6
  have on : Oks (Tr.nf (dp A) A.sg w) := oks_of G (good_eqv W ((Tr.nf_of W.sub).symm DP))
  have ofl : Oks (Tr.steps (dp A) A.sg w).flatten := oks_of G (good_eqv W (fe.symm DP))
  have ost : ∀ r ∈ Tr.steps (dp A) A.sg w, Oks r := fun r hr a ha => ofl a (List.mem_flatten.mpr ⟨r, hr, ha⟩)
  obtain ⟨rest, hd⟩ := lin_head (A := A) _ w rfl W.sub
  -- the class
  have q1 : ∀ h, eqD (.lst ((Tr.lin (dp A) A.sg w).map dRow)) (.str "many") h = some (.bl false) := fun h => by
    rw [eq_gen (a := .lst ((Tr.lin (dp A) A.sg w).map dRow)) (b := .str "many") (okE_rowsL (h := h) orow) (show okE 60 (.str "many") = true by decide +kernel)]
    congr 2
  have q2 : ∀ h, sumG [.lst ((Tr.steps (dp A) A.sg w).map fun r => D.lst (r.map D.str)), .lst []] h = some (.lst ((Tr.steps (dp A) A.sg w).flatten.map D.str)) := fun h => by
    show (((lookL h (.lst ((Tr.steps (dp A) A.sg w).map fun r => D.lst (r.map D.str)))).bind (listsOf h)).bind fun xss => if xss.flatten.length ≤ sizeLine then some (D.lst xss.flatten) else none) = _
    simp only [lk_lst, Option.bind_some, lists_of]
    have e : ((Tr.steps (dp A) A.sg w).map fun r => r.map D.str).flatten = (Tr.steps (dp A) A.sg w).flatten.map D.str := by rw [List.map_flatten]
    rw [e, if_pos (by rw [sizeLine_eq, List.length_map]; omega)]
  have q3 : ∀ h, tupleN [.lst ((Tr.steps (dp A) A.sg w).flatten.map D.str)] h = some (dRow (Tr.steps (dp A) A.sg w).flatten) := fun h => rfl
  have hz0 : ([] : List D).length ≤ sizeLine := Nat.zero_le _
  rw [ev_sCons, ev_sAsg]
  simp only [ev_call, ev_cons, ev_c, ev_var, ev_nil, List.getElem?_cons_succ, List.getElem?_cons_zero, jn, R.of_some, R.bind_ok, l_class G W h6, R.nox_ok, R.toS_ok, ev_gN, List.set_cons_succ, List.set_cons_zero]
  rw [RS.seq_nx]
  rw [ev_sCons]
  simp only [ev_sIf, ev_asB, ev_bin, ev_c, ev_var, List.getElem?_cons_succ, List.getElem?_cons_zero, jn, R.of_some, R.bind_ok, q1, R.toS_ok, Bool.false_eq_true, if_false, ev_sNil]
  rw [RS.seq_nx]
  rw [ev_sCons, ev_sAsg]
  simp only [ev_call, ev_cons, ev_c, ev_var, ev_nil, List.getElem?_cons_succ, List.getElem?_cons_zero, jn, R.of_some, R.bind_ok, l_lsteps G W, R.nox_ok, R.toS_ok, ev_gN, List.set_cons_succ, List.set_cons_zero]
  rw [RS.seq_nx]
  rw [ev_sCons, ev_sAsg]
  simp only [ev_nary, ev_cons, l_c0law (rounds := Tr.steps (dp A) A.sg w) (by omega), ev_nil, R.bind_ok, dlst (as := []) (by simp), R.of_some, q2, q3, R.toS_ok, ev_gN, List.set_cons_succ, List.set_cons_zero]
  rw [RS.seq_nx]
  rw [ev_sCons, ev_sPar]
  simp only [ev_call, ev_cons, ev_c, ev_var, ev_nil, ev_cell, hz0, if_true, List.getElem?_cons_succ, List.getElem?_cons_zero, jn, R.of_some, R.bind_ok, l_lnormal G W, R.nox_ok, R.toS_ok, List.set_cons_succ, List.set_cons_zero, List.length_set]
  rw [RS.seq_nx]
  -- every row
  obtain ⟨y10, y11, er⟩ := l_rows (cL := cL) (cC := cC) (H := H) (n := n) (B := Bag c0 c1 c2 T) G W ne h4 h6 hn (x0 := x0) (x1 := some (.ref n)) (x2 := x2) (x4 := some (dRow w)) (x5 := some (.lst ((Tr.lin (dp A) A.sg w).map dRow))) (x6 := some (.lst ((Tr.steps (dp A) A.sg w).map dRow))) (x12 := x12) (x13 := x13) (x14 := x14) (x15 := x15) (Tr.lin (dp A) A.sg w) 0 [] x10 x11 eqv (by simp; omega)
  rw [List.map_nil, List.nil_append, Tr.ranks DP nd _ w rfl W.sub] at er
  rw [ev_sCons, sFor_of (enL_at rfl) er]
  rw [RS.seq_nx]
  -- the numbers, the first one, the one by rounds
  have at_ : (H.set n (Bag c0 c1 c2 T) ++ [Cell.lst ((List.range (Tr.cnt (dp A) A.sg w)).map fun i => D.int (i : Nat))])[H.length]? = some (.lst ((List.range (Tr.cnt (dp A) A.sg w)).map fun i => D.int (i : Nat))) := by
    rw [List.getElem?_append_right (by simp)]; simp
  generalize hh : H.set n (Bag c0 c1 c2 T) ++ [Cell.lst ((List.range (Tr.cnt (dp A) A.sg w)).map fun i => D.int (i : Nat))] = hp at at_
  have vw : view hp (.ref H.length) = .lst ((List.range (Tr.cnt (dp A) A.sg w)).map fun i => D.int (i : Nat)) := by simp only [view, at_]
  have rg : rangeL 0 (Tr.lin (dp A) A.sg w).length = (List.range (Tr.cnt (dp A) A.sg w)).map fun i => D.int (i : Nat) := by
    unfold rangeL Tr.cnt
    apply List.map_congr_left
    intro i _
    rw [Int.zero_add]
  have r1 : neD (.ref H.length) (.lst (rangeL 0 (Tr.lin (dp A) A.sg w).length)) hp = some (.bl false) := by
    have oi : okE 60 (D.lst ((List.range (Tr.cnt (dp A) A.sg w)).map fun i => D.int (i : Nat))) = true := okE_ints _ fun d hd => by
      obtain ⟨i, _, rfl⟩ := List.mem_map.mp hd
      exact ⟨_, rfl⟩
    rw [ne_gen (by rw [vw]; exact oi) (by rw [rg]; exact oi), vw, rg, vw_lst]
    simp
  have r3 : getIx (.lst ((Tr.lin (dp A) A.sg w).map dRow)) (.int 0) hp = some (dRow (Tr.nf (dp A) A.sg w)) := by
    rw [gi_lst, atI_0, hd]; rfl
  have r4 : neD (dRow (Tr.nf (dp A) A.sg w)) (dRow (Tr.nf (dp A) A.sg w)) hp = some (.bl false) := by rw [ne_row on on]; simp
  have r5 : notInG (dRow (Tr.steps (dp A) A.sg w).flatten) (.lst ((Tr.lin (dp A) A.sg w).map dRow)) hp = some (.bl false) := by
    rw [notin_gen (ys := (Tr.lin (dp A) A.sg w).map dRow) rfl rfl (okE_row ofl) (okE_rows (n := 57) orow)]
    congr 2
    have : dRow (Tr.steps (dp A) A.sg w).flatten ∈ (Tr.lin (dp A) A.sg w).map dRow := mem_rows.mpr ((Tr.mem_lin DP W.sub).mpr (fe.symm DP))
    rw [vw_tup, decide_eq_true this]; rfl
  have r6 : lenG [.lst ((Tr.lin (dp A) A.sg w).map dRow)] hp = some (.int ((Tr.lin (dp A) A.sg w).length : Nat)) := by rw [len_lst, List.length_map]
  have r7 : listN [.tup ((Tr.steps (dp A) A.sg w).map dRow)] hp = some (.lst ((Tr.steps (dp A) A.sg w).map dRow)) := rfl
  have r8 : neD (.lst ((Tr.steps (dp A) A.sg w).map dRow)) (.lst ((Tr.steps (dp A) A.sg w).map dRow)) hp = some (.bl false) := by
    rw [ne_gen (a := .lst ((Tr.steps (dp A) A.sg w).map dRow)) (b := .lst ((Tr.steps (dp A) A.sg w).map dRow)) (okE_rowsL (h := hp) ost) (okE_rowsL (h := hp) ost)]
    simp
  have r9 : lenG [.lst ((Tr.steps (dp A) A.sg w).map dRow)] hp = some (.int ((Tr.steps (dp A) A.sg w).length : Nat)) := by rw [len_lst, List.length_map]
  have r10 : neD (.int ((Tr.steps (dp A) A.sg w).length : Nat)) (.int ((Tr.steps (dp A) A.sg w).length : Nat)) hp = some (.bl false) := by
    rw [ne_gen (a := .int ((Tr.steps (dp A) A.sg w).length : Nat)) (b := .int ((Tr.steps (dp A) A.sg w).length : Nat)) (okE_int (n := 59)) (okE_int (n := 59))]
    simp
  have lr : fListRg (fNary lenG (aCons (fVar 5) (aNil))) [x0, some (.ref n), x2, some (dAl A), some (dRow w), some (.lst ((Tr.lin (dp A) A.sg w).map dRow)), some (.lst ((Tr.steps (dp A) A.sg w).map dRow)), some (dRow (Tr.steps (dp A) A.sg w).flatten), some (dRow (Tr.nf (dp A) A.sg w)), some (.ref H.length), y10, y11, x12, x13, x14, x15] hp = .ok (.lst (rangeL 0 (Tr.lin (dp A) A.sg w).length)) hp := listRg_ok (by
    rw [ev_nary, ev_cons, var_at rfl, R.bind_ok, ev_nil, R.bind_ok, R.bind_ok, r6]
    rfl) (by omega)
  rw [ev_sCons, sIf_f (h1 := hp) (or_ff (h1 := hp) (asB_bin (h1 := hp) (h2 := hp) (var_at rfl) lr r1) (or_ff (h1 := hp) (asB_bin (h1 := hp) (h2 := hp) (by
    rw [ev_bin, var_at (i := 5) rfl, R.bind_ok, ev_c, R.bind_ok, r3]; rfl) (var_at rfl) r4) (asB_bin (h1 := hp) (h2 := hp) (var_at rfl) (var_at rfl) r5)))]
  rw [RS.seq_nx]
  rw [ev_sCons]
  simp only [ev_sIf, ev_or, ev_asB, ev_bin, ev_call, ev_cons, ev_nil, ev_c, ev_var, List.getElem?_cons_succ, List.getElem?_cons_zero, jn, R.of_some, R.bind_ok, l_normal G W, l_arrival G W ne h4 h6, R.nox_ok, r4, R.toS_ok, Bool.false_eq_true, if_false, ev_sNil]
  rw [RS.seq_nx]
  rw [ev_sCons]
  simp only [ev_sIf, ev_or, ev_asB, ev_bin, ev_nary, ev_call, ev_cons, ev_nil, ev_c, ev_var, List.getElem?_cons_succ, List.getElem?_cons_zero, jn, R.of_some, R.bind_ok, l_steps_of G W, l_height G W, R.nox_ok, r7, r8, r9, r10, R.toS_ok, Bool.false_eq_true, if_false, ev_sNil]
  rw [RS.seq_nx]
  -- the rounds
  obtain ⟨z10, z12, z13, z14, e3⟩ := l_rounds (h := hp) G (rounds := Tr.steps (dp A) A.sg w) (x0 := x0) (x1 := some (.ref n)) (x2 := x2) (x4 := some (dRow w)) (x5 := some (.lst ((Tr.lin (dp A) A.sg w).map dRow))) (x7 := some (dRow (Tr.steps (dp A) A.sg w).flatten)) (x8 := some (dRow (Tr.nf (dp A) A.sg w))) (x9 := some (.ref H.length)) (x11 := y11) (x15 := x15) w.length w [] y10 x12 x13 x14 (Nat.le_refl _) W.sub rfl (.inl rfl)
  rw [List.length_nil] at e3
  rw [sFor_of (enL_at rfl) e3, ← hh, set_app hn]
  exact ⟨_, c0, c1, c2, _, _, _, _, _, _, _, _, _, _, _, _, _, rfl⟩
theorem l_laps (ht : T.length ≤ 63) {x0 : Option D} : ∀ (m : Nat) (k : Int) (H : Hea) (b0 b1 b2 : Int) (x2 x3 x4 x5 x6 x7 x8 x9 x10 x11 x12 x13 x14 x15 : Option D), n < H.length → ∃ (H' : Hea) (e' : En), forL g9_law (b10_law cL cC) (rangeL k m) [x0, some (.ref n), x2, x3, x4, x5, x6, x7, x8, x9, x10, x11, x12, x13, x14, x15] (H.set n (Bag b0 b1 b2 T)) = .nx e' H'
  | 0, k, H, b0, b1, b2, x2, x3, x4, x5, x6, x7, x8, x9, x10, x11, x12, x13, x14, x15, hn => ⟨_, _, rfl⟩
  | m + 1, k, H, b0, b1, b2, x2, x3, x4, x5, x6, x7, x8, x9, x10, x11, x12, x13, x14, x15, hn => by
    obtain ⟨c, c0, c1, c2, y3, y4, y5, y6, y7, y8, y9, y10, y11, y12, y13, y14, y15, e1⟩ := l_lap (cL := cL) (cC := cC) hn ht (b0 := b0) (b1 := b1) (b2 := b2) (x0 := x0) (x2 := some (.int k)) (x3 := x3) (x4 := x4) (x5 := x5) (x6 := x6) (x7 := x7) (x8 := x8) (x9 := x9) (x10 := x10) (x11 := x11) (x12 := x12) (x13 := x13) (x14 := x14) (x15 := x15)
    obtain ⟨H', e', e2⟩ := l_laps ht m (k + 1) (H ++ [c]) c0 c1 c2 (some (.int k)) y3 y4 y5 y6 y7 y8 y9 y10 y11 y12 y13 y14 y15 (by simp; omega)
    refine ⟨H', e', ?_⟩
    have er2 : rangeL k (m + 1) = .int k :: rangeL (k + 1) m := by
      unfold rangeL
      rw [List.range_succ_eq_map]
      simp only [List.map_cons, List.map_map]
      congr 1
      · simp
      · apply List.map_congr_left
        intro i _
        simp only [Function.comp]
        congr 1
        omega
    have tg : g9_law (.int k) [x0, some (.ref n), x2, x3, x4, x5, x6, x7, x8, x9, x10, x11, x12, x13, x14, x15] (H.set n (Bag b0 b1 b2 T)) = .nx [x0, some (.ref n), some (.int k), x3, x4, x5, x6, x7, x8, x9, x10, x11, x12, x13, x14, x15] (H.set n (Bag b0 b1 b2 T)) := by unfold g9_law; rfl
    rw [er2, forL_nx tg e1]
    exact e2
end
/-- the law holds -/
theorem l_law {cL cC : Addr} {T : List Int} {h : Hea} : ∃ h', sp_law cL cC [.fro (T.map D.int)] h = .ok (.bl true) h' := by
  obtain ⟨T', ht, eb⟩ := l_bag (T := T) (h := h)
  have hs : h ++ [Bag 0 1234567891 0 T'] = (h ++ [Cell.lst []]).set h.length (Bag 0 1234567891 0 T') := by
    rw [List.set_append_right _ _ (Nat.le_refl _)]; simp
  obtain ⟨H', e', e2⟩ := l_laps (cL := cL) (cC := cC) (n := h.length) ht (x0 := some (.fro (T.map D.int))) 3 0 (h ++ [.lst []]) 0 1234567891 0 none none none none none none none none none none none none none none (by simp)
  refine ⟨H', ?_⟩
  have r : iRange1 (aCons (fC (.int 3)) (aNil)) [some (.fro (T.map D.int)), some (.ref h.length), none, none, none, none, none, none, none, none, none, none, none, none, none, none] ((h ++ [Cell.lst []]).set h.length (Bag 0 1234567891 0 T')) = .ok (rangeL 0 3) ((h ++ [Cell.lst []]).set h.length (Bag 0 1234567891 0 T')) := by
    rw [rg1_ok (j := 3) (h1 := (h ++ [Cell.lst []]).set h.length (Bag 0 1234567891 0 T')) rfl (small_nat (n := 3) (by omega))]
    rfl
  unfold sp_law defF r_law
  have en : ([D.fro (T.map D.int)].map some ++ List.replicate (16 - [D.fro (T.map D.int)].length) none) = [some (.fro (T.map D.int)), none, none, none, none, none, none, none, none, none, none, none, none, none, none, none] := rfl
  rw [en, ev_sCons, ev_sAsg]
  simp only [ev_call, ev_cons, ev_nil, ev_var, List.getElem?_cons_zero, jn, R.of_some, R.bind_ok, eb, R.nox_ok, R.toS_ok, ev_gN, List.set_cons_succ, List.set_cons_zero, RS.seq_nx, hs]
  rw [ev_sCons, ev_sFor, r, R.toS_ok, e2]
  simp only [RS.seq_nx, ev_sRet, ev_c, R.toS_ok]
end W63


set_option Elab.async false
set_option linter.all false
set_option maxRecDepth 100000
set_option maxHeartbeats 4000000
namespace W63
open PySem PySem.Spec PyProof.Rows L2 DD
section
variable {E : Wd} {mg : Str → Option Value} (x : Fx E.K mg) {base : Heap}
theorem ok_is_number : FnD E mg base 1 x.f_is_number x.d_is_number ["thing"] sp_is_number := raw_is_number x
theorem ok_is_index : FnD E mg base 2 x.f_is_index x.d_is_index ["thing"] sp_is_index := raw_is_index x (ok_is_number x)
theorem ok_dependent_couples : FnD E mg base 1 x.f_dependent_couples x.d_dependent_couples ["alphabet"] sp_dependent_couples := raw_dependent_couples x
theorem ok_Left___init__ : FnD E mg base 2 x.f_Left___init__ x.d_Left___init__ ["self", "alphabet", "row"] (sp_Left___init__ x.c_Left) := FnD.tol (raw_Left___init__ x (ok_dependent_couples x)) (tol_Left___init__ x.c_Left)
theorem ok_Left_place : FnD E mg base 1 x.f_Left_place x.d_Left_place ["self", "sign"] (sp_Left_place x.c_Left) := raw_Left_place x
theorem ok_Left_can_be_first : FnD E mg base 2 x.f_Left_can_be_first x.d_Left_can_be_first ["self", "sign"] (sp_Left_can_be_first x.c_Left) := raw_Left_can_be_first x (ok_Left_place x)
theorem ok_Left_firsts : FnD E mg base 3 x.f_Left_firsts x.d_Left_firsts ["self"] (sp_Left_firsts x.c_Left) := raw_Left_firsts x (ok_Left_can_be_first x)
theorem ok_Left_take : FnD E mg base 1 x.f_Left_take x.d_Left_take ["self", "sign"] (sp_Left_take x.c_Left) := raw_Left_take x
theorem ok_normal : FnD E mg base 4 x.f_normal x.d_normal ["alphabet", "row"] (sp_normal x.c_Left) := FnD.tol (raw_normal x (ok_Left___init__ x) (ok_Left_firsts x) (ok_Left_take x)) tol_dropAll
theorem ok_steps_of : FnD E mg base 4 x.f_steps_of x.d_steps_of ["alphabet", "row"] (sp_steps_of x.c_Left) := FnD.tol (raw_steps_of x (ok_Left___init__ x) (ok_Left_firsts x) (ok_Left_take x)) tol_dropAll
theorem ok_height : FnD E mg base 5 x.f_height x.d_height ["alphabet", "row"] (sp_height x.c_Left) := raw_height x (ok_steps_of x)
theorem ok_is_normal : FnD E mg base 5 x.f_is_normal x.d_is_normal ["alphabet", "row"] (sp_is_normal x.c_Left) := raw_is_normal x (ok_normal x)
theorem ok_by_steps : FnD E mg base 5 x.f_by_steps x.d_by_steps ["alphabet", "row"] (sp_by_steps x.c_Left) := raw_by_steps x (ok_steps_of x)
theorem ok_is_by_steps : FnD E mg base 6 x.f_is_by_steps x.d_is_by_steps ["alphabet", "row"] (sp_is_by_steps x.c_Left) := raw_is_by_steps x (ok_by_steps x)
theorem ok_Counted_next_counts : FnD E mg base 3 x.f_Counted_next_counts x.d_Counted_next_counts ["self", "here"] (sp_Counted_next_counts x.c_Left x.c_Counted) := FnD.tol (raw_Counted_next_counts x (ok_Left_can_be_first x)) tol_closeL
theorem ok_Counted_first : FnD E mg base 1 x.f_Counted_first x.d_Counted_first ["self"] (sp_Counted_first x.c_Counted) := raw_Counted_first x
theorem ok_Counted___init__ : FnD E mg base 4 x.f_Counted___init__ x.d_Counted___init__ ["self", "alphabet", "row"] (sp_Counted___init__ x.c_Left x.c_Counted) := raw_Counted___init__ x (ok_Left___init__ x) (ok_Counted_next_counts x)
theorem ok_arrival : FnD E mg base 6 x.f_arrival x.d_arrival ["alphabet", "row", "number"] (sp_arrival x.c_Left x.c_Counted) := FnD.tol (raw_arrival x (ok_Counted___init__ x) (ok_Counted_first x) (ok_is_index x)) tol_dropAll
theorem ok_number_of : FnD E mg base 6 x.f_number_of x.d_number_of ["alphabet", "row"] (sp_number_of x.c_Left x.c_Counted) := FnD.tol (raw_number_of x (ok_Counted___init__ x) (ok_Counted_first x)) tol_dropAll
theorem ok__law_bag : FnD E mg base 1 x.f__law_bag x.d__law_bag ["script"] sp__law_bag := raw__law_bag x
theorem ok__law_take : FnD E mg base 1 x.f__law_take x.d__law_take ["bag", "many"] sp__law_take := raw__law_take x
theorem ok__law_some : FnD E mg base 2 x.f__law_some x.d__law_some ["bag", "things"] sp__law_some := raw__law_some x (ok__law_take x)
theorem ok__law_alphabet : FnD E mg base 2 x.f__law_alphabet x.d__law_alphabet ["bag", "signs"] sp__law_alphabet := FnD.tol (raw__law_alphabet x (ok__law_take x)) tol_dropAll
theorem ok__law_is_free : FnD E mg base 1 x.f__law_is_free x.d__law_is_free ["alphabet", "a", "b"] sp__law_is_free := raw__law_is_free x
theorem ok__law_firsts : FnD E mg base 2 x.f__law_firsts x.d__law_firsts ["alphabet", "row"] sp__law_firsts := FnD.tol (raw__law_firsts x (ok__law_is_free x)) tol_dropAll
theorem ok__law_without : FnD E mg base 1 x.f__law_without x.d__law_without ["row", "a"] sp__law_without := raw__law_without x
theorem ok__law_normal : FnD E mg base 3 x.f__law_normal x.d__law_normal ["alphabet", "row"] sp__law_normal := raw__law_normal x (ok__law_firsts x) (ok__law_without x)
theorem ok__law_class : FnD E mg base 2 x.f__law_class x.d__law_class ["alphabet", "row", "most"] sp__law_class := FnD.tol (raw__law_class x (ok__law_is_free x)) tol_dropAll
theorem ok__law_row : FnD E mg base 3 x.f__law_row x.d__law_row ["bag", "signs", "most"] sp__law_row := raw__law_row x (ok__law_take x) (ok__law_some x)
theorem ok__law_steps : FnD E mg base 3 x.f__law_steps x.d__law_steps ["alphabet", "row"] sp__law_steps := FnD.tol (raw__law_steps x (ok__law_firsts x) (ok__law_without x)) tol_closeL
theorem ok__law_is_least : FnD E mg base 2 x.f__law_is_least x.d__law_is_least ["alphabet", "row"] sp__law_is_least := raw__law_is_least x (ok__law_is_free x)
theorem ok_law : FnD E mg base 7 x.f_law x.d_law ["script"] (sp_law x.c_Left x.c_Counted) := raw_law x (ok__law_bag x) (ok__law_alphabet x) (ok__law_take x) (ok__law_row x) (ok__law_class x) (ok__law_steps x) (ok__law_normal x) (ok_is_normal x) (ok__law_is_least x) (ok_is_by_steps x) (ok_by_steps x) (ok_number_of x) (ok_normal x) (ok_arrival x) (ok_steps_of x) (ok_height x) (ok__law_is_free x)
end
end W63

set_option Elab.async false
set_option linter.all false
set_option maxRecDepth 100000
set_option maxHeartbeats 4000000
namespace W63
open PySem PySem.Spec PyProof.Rows L2 DD
theorem fill {K : PySem.W.Frag} {h : Heap} {mg : Str → Option Value} (X : K.In h) (G : h.Ns mainGlobals mg) (c : He.SaysD H63.fa H63.fn K) : ∃ x : Fx K mg, x.f_law = He.ga K "law" := by
  obtain ⟨d_is_number, F_is_number⟩ := c.def_ 1 (d := H63.d_is_number) rfl
  obtain ⟨d_is_index, F_is_index⟩ := c.def_ 2 (d := H63.d_is_index) rfl
  obtain ⟨d_dependent_couples, F_dependent_couples⟩ := c.def_ 3 (d := H63.d_dependent_couples) rfl
  obtain ⟨d_Left___init__, F_Left___init__⟩ := c.def_ 25 (d := H63.d_Left___init__) rfl
  obtain ⟨d_Left_place, F_Left_place⟩ := c.def_ 26 (d := H63.d_Left_place) rfl
  obtain ⟨d_Left_can_be_first, F_Left_can_be_first⟩ := c.def_ 27 (d := H63.d_Left_can_be_first) rfl
  obtain ⟨d_Left_firsts, F_Left_firsts⟩ := c.def_ 28 (d := H63.d_Left_firsts) rfl
  obtain ⟨d_Left_take, F_Left_take⟩ := c.def_ 29 (d := H63.d_Left_take) rfl
  obtain ⟨d_normal, F_normal⟩ := c.def_ 4 (d := H63.d_normal) rfl
  obtain ⟨d_steps_of, F_steps_of⟩ := c.def_ 5 (d := H63.d_steps_of) rfl
  obtain ⟨d_height, F_height⟩ := c.def_ 6 (d := H63.d_height) rfl
  obtain ⟨d_is_normal, F_is_normal⟩ := c.def_ 7 (d := H63.d_is_normal) rfl
  obtain ⟨d_by_steps, F_by_steps⟩ := c.def_ 8 (d := H63.d_by_steps) rfl
  obtain ⟨d_is_by_steps, F_is_by_steps⟩ := c.def_ 9 (d := H63.d_is_by_steps) rfl
  obtain ⟨d_Counted_next_counts, F_Counted_next_counts⟩ := c.def_ 32 (d := H63.d_Counted_next_counts) rfl
  obtain ⟨d_Counted_first, F_Counted_first⟩ := c.def_ 33 (d := H63.d_Counted_first) rfl
  obtain ⟨d_Counted___init__, F_Counted___init__⟩ := c.def_ 31 (d := H63.d_Counted___init__) rfl
  obtain ⟨d_arrival, F_arrival⟩ := c.def_ 10 (d := H63.d_arrival) rfl
  obtain ⟨d_number_of, F_number_of⟩ := c.def_ 11 (d := H63.d_number_of) rfl
  obtain ⟨d__law_bag, F__law_bag⟩ := c.def_ 12 (d := H63.d__law_bag) rfl
  obtain ⟨d__law_take, F__law_take⟩ := c.def_ 13 (d := H63.d__law_take) rfl
  obtain ⟨d__law_some, F__law_some⟩ := c.def_ 14 (d := H63.d__law_some) rfl
  obtain ⟨d__law_alphabet, F__law_alphabet⟩ := c.def_ 15 (d := H63.d__law_alphabet) rfl
  obtain ⟨d__law_is_free, F__law_is_free⟩ := c.def_ 16 (d := H63.d__law_is_free) rfl
  obtain ⟨d__law_firsts, F__law_firsts⟩ := c.def_ 17 (d := H63.d__law_firsts) rfl
  obtain ⟨d__law_without, F__law_without⟩ := c.def_ 18 (d := H63.d__law_without) rfl
  obtain ⟨d__law_normal, F__law_normal⟩ := c.def_ 19 (d := H63.d__law_normal) rfl
  obtain ⟨d__law_class, F__law_class⟩ := c.def_ 20 (d := H63.d__law_class) rfl
  obtain ⟨d__law_row, F__law_row⟩ := c.def_ 21 (d := H63.d__law_row) rfl
  obtain ⟨d__law_steps, F__law_steps⟩ := c.def_ 22 (d := H63.d__law_steps) rfl
  obtain ⟨d__law_is_least, F__law_is_least⟩ := c.def_ 23 (d := H63.d__law_is_least) rfl
  obtain ⟨d_law, F_law⟩ := c.def_ 24 (d := H63.d_law) rfl
  refine ⟨{
    f_is_number := (He.ga K "is_number"),
    d_is_number := d_is_number,
    F_is_number := F_is_number,
    b_is_number := FunD.bindsN F_is_number (fun _ _ _ _ _ _ us hl => match us, hl with | [_], _ => rfl),
    g_is_number := He.glo_ok X G (c.fact 1 (f := .glo "is_number") rfl),
    f_is_index := (He.ga K "is_index"),
    d_is_index := d_is_index,
    F_is_index := F_is_index,
    b_is_index := FunD.bindsN F_is_index (fun _ _ _ _ _ _ us hl => match us, hl with | [_], _ => rfl),
    g_is_index := He.glo_ok X G (c.fact 2 (f := .glo "is_index") rfl),
    f_dependent_couples := (He.ga K "dependent_couples"),
    d_dependent_couples := d_dependent_couples,
    F_dependent_couples := F_dependent_couples,
    b_dependent_couples := FunD.bindsN F_dependent_couples (fun _ _ _ _ _ _ us hl => match us, hl with | [_], _ => rfl),
    g_dependent_couples := He.glo_ok X G (c.fact 3 (f := .glo "dependent_couples") rfl),
    f_Left___init__ := (He.ma K (He.ga K "Left") "__init__"),
    d_Left___init__ := d_Left___init__,
    F_Left___init__ := F_Left___init__,
    b_Left___init__ := FunD.bindsN F_Left___init__ (fun _ _ _ _ _ _ us hl => match us, hl with | [_, _, _], _ => rfl),
    f_Left_place := (He.ma K (He.ga K "Left") "place"),
    d_Left_place := d_Left_place,
    F_Left_place := F_Left_place,
    b_Left_place := FunD.bindsN F_Left_place (fun _ _ _ _ _ _ us hl => match us, hl with | [_, _], _ => rfl),
    f_Left_can_be_first := (He.ma K (He.ga K "Left") "can_be_first"),
    d_Left_can_be_first := d_Left_can_be_first,
    F_Left_can_be_first := F_Left_can_be_first,
    b_Left_can_be_first := FunD.bindsN F_Left_can_be_first (fun _ _ _ _ _ _ us hl => match us, hl with | [_, _], _ => rfl),
    f_Left_firsts := (He.ma K (He.ga K "Left") "firsts"),
    d_Left_firsts := d_Left_firsts,
    F_Left_firsts := F_Left_firsts,
    b_Left_firsts := FunD.bindsN F_Left_firsts (fun _ _ _ _ _ _ us hl => match us, hl with | [_], _ => rfl),
    f_Left_take := (He.ma K (He.ga K "Left") "take"),
    d_Left_take := d_Left_take,
    F_Left_take := F_Left_take,
    b_Left_take := FunD.bindsN F_Left_take (fun _ _ _ _ _ _ us hl => match us, hl with | [_, _], _ => rfl),
    f_normal := (He.ga K "normal"),
    d_normal := d_normal,
    F_normal := F_normal,
    b_normal := FunD.bindsN F_normal (fun _ _ _ _ _ _ us hl => match us, hl with | [_, _], _ => rfl),
    g_normal := He.glo_ok X G (c.fact 4 (f := .glo "normal") rfl),
    f_steps_of := (He.ga K "steps_of"),
    d_steps_of := d_steps_of,
    F_steps_of := F_steps_of,
    b_steps_of := FunD.bindsN F_steps_of (fun _ _ _ _ _ _ us hl => match us, hl with | [_, _], _ => rfl),
    g_steps_of := He.glo_ok X G (c.fact 5 (f := .glo "steps_of") rfl),
    f_height := (He.ga K "height"),
    d_height := d_height,
    F_height := F_height,
    b_height := FunD.bindsN F_height (fun _ _ _ _ _ _ us hl => match us, hl with | [_, _], _ => rfl),
    g_height := He.glo_ok X G (c.fact 6 (f := .glo "height") rfl),
    f_is_normal := (He.ga K "is_normal"),
    d_is_normal := d_is_normal,
    F_is_normal := F_is_normal,
    b_is_normal := FunD.bindsN F_is_normal (fun _ _ _ _ _ _ us hl => match us, hl with | [_, _], _ => rfl),
    g_is_normal := He.glo_ok X G (c.fact 7 (f := .glo "is_normal") rfl),
    f_by_steps := (He.ga K "by_steps"),
    d_by_steps := d_by_steps,
    F_by_steps := F_by_steps,
    b_by_steps := FunD.bindsN F_by_steps (fun _ _ _ _ _ _ us hl => match us, hl with | [_, _], _ => rfl),
    g_by_steps := He.glo_ok X G (c.fact 8 (f := .glo "by_steps") rfl),
    f_is_by_steps := (He.ga K "is_by_steps"),
    d_is_by_steps := d_is_by_steps,
    F_is_by_steps := F_is_by_steps,
    b_is_by_steps := FunD.bindsN F_is_by_steps (fun _ _ _ _ _ _ us hl => match us, hl with | [_, _], _ => rfl),
    g_is_by_steps := He.glo_ok X G (c.fact 9 (f := .glo "is_by_steps") rfl),
    f_Counted_next_counts := (He.ma K (He.ga K "Counted") "next_counts"),
    d_Counted_next_counts := d_Counted_next_counts,
    F_Counted_next_counts := F_Counted_next_counts,
    b_Counted_next_counts := FunD.bindsN F_Counted_next_counts (fun _ _ _ _ _ _ us hl => match us, hl with | [_, _], _ => rfl),
    f_Counted_first := (He.ma K (He.ga K "Counted") "first"),
    d_Counted_first := d_Counted_first,
    F_Counted_first := F_Counted_first,
    b_Counted_first := FunD.bindsN F_Counted_first (fun _ _ _ _ _ _ us hl => match us, hl with | [_], _ => rfl),
    f_Counted___init__ := (He.ma K (He.ga K "Counted") "__init__"),
    d_Counted___init__ := d_Counted___init__,
    F_Counted___init__ := F_Counted___init__,
    b_Counted___init__ := FunD.bindsN F_Counted___init__ (fun _ _ _ _ _ _ us hl => match us, hl with | [_, _, _], _ => rfl),
    f_arrival := (He.ga K "arrival"),
    d_arrival := d_arrival,
    F_arrival := F_arrival,
    b_arrival := FunD.bindsN F_arrival (fun _ _ _ _ _ _ us hl => match us, hl with | [_, _, _], _ => rfl),
    g_arrival := He.glo_ok X G (c.fact 10 (f := .glo "arrival") rfl),
    f_number_of := (He.ga K "number_of"),
    d_number_of := d_number_of,
    F_number_of := F_number_of,
    b_number_of := FunD.bindsN F_number_of (fun _ _ _ _ _ _ us hl => match us, hl with | [_, _], _ => rfl),
    g_number_of := He.glo_ok X G (c.fact 11 (f := .glo "number_of") rfl),
    f__law_bag := (He.ga K "_law_bag"),
    d__law_bag := d__law_bag,
    F__law_bag := F__law_bag,
    b__law_bag := FunD.bindsN F__law_bag (fun _ _ _ _ _ _ us hl => match us, hl with | [_], _ => rfl),
    g__law_bag := He.glo_ok X G (c.fact 12 (f := .glo "_law_bag") rfl),
    f__law_take := (He.ga K "_law_take"),
    d__law_take := d__law_take,
    F__law_take := F__law_take,
    b__law_take := FunD.bindsN F__law_take (fun _ _ _ _ _ _ us hl => match us, hl with | [_, _], _ => rfl),
    g__law_take := He.glo_ok X G (c.fact 13 (f := .glo "_law_take") rfl),
    f__law_some := (He.ga K "_law_some"),
    d__law_some := d__law_some,
    F__law_some := F__law_some,
    b__law_some := FunD.bindsN F__law_some (fun _ _ _ _ _ _ us hl => match us, hl with | [_, _], _ => rfl),
    g__law_some := He.glo_ok X G (c.fact 14 (f := .glo "_law_some") rfl),
    f__law_alphabet := (He.ga K "_law_alphabet"),
    d__law_alphabet := d__law_alphabet,
    F__law_alphabet := F__law_alphabet,
    b__law_alphabet := FunD.bindsN F__law_alphabet (fun _ _ _ _ _ _ us hl => match us, hl with | [_, _], _ => rfl),
    g__law_alphabet := He.glo_ok X G (c.fact 15 (f := .glo "_law_alphabet") rfl),
    f__law_is_free := (He.ga K "_law_is_free"),
    d__law_is_free := d__law_is_free,
    F__law_is_free := F__law_is_free,
    b__law_is_free := FunD.bindsN F__law_is_free (fun _ _ _ _ _ _ us hl => match us, hl with | [_, _, _], _ => rfl),
    g__law_is_free := He.glo_ok X G (c.fact 16 (f := .glo "_law_is_free") rfl),
    f__law_firsts := (He.ga K "_law_firsts"),
    d__law_firsts := d__law_firsts,
    F__law_firsts := F__law_firsts,
    b__law_firsts := FunD.bindsN F__law_firsts (fun _ _ _ _ _ _ us hl => match us, hl with | [_, _], _ => rfl),
    g__law_firsts := He.glo_ok X G (c.fact 17 (f := .glo "_law_firsts") rfl),
    f__law_without := (He.ga K "_law_without"),
    d__law_without := d__law_without,
    F__law_without := F__law_without,
    b__law_without := FunD.bindsN F__law_without (fun _ _ _ _ _ _ us hl => match us, hl with | [_, _], _ => rfl),
    g__law_without := He.glo_ok X G (c.fact 18 (f := .glo "_law_without") rfl),
    f__law_normal := (He.ga K "_law_normal"),
    d__law_normal := d__law_normal,
    F__law_normal := F__law_normal,
    b__law_normal := FunD.bindsN F__law_normal (fun _ _ _ _ _ _ us hl => match us, hl with | [_, _], _ => rfl),
    g__law_normal := He.glo_ok X G (c.fact 19 (f := .glo "_law_normal") rfl),
    f__law_class := (He.ga K "_law_class"),
    d__law_class := d__law_class,
    F__law_class := F__law_class,
    b__law_class := FunD.bindsN F__law_class (fun _ _ _ _ _ _ us hl => match us, hl with | [_, _, _], _ => rfl),
    g__law_class := He.glo_ok X G (c.fact 20 (f := .glo "_law_class") rfl),
    f__law_row := (He.ga K "_law_row"),
    d__law_row := d__law_row,
    F__law_row := F__law_row,
    b__law_row := FunD.bindsN F__law_row (fun _ _ _ _ _ _ us hl => match us, hl with | [_, _, _], _ => rfl),
    g__law_row := He.glo_ok X G (c.fact 21 (f := .glo "_law_row") rfl),
    f__law_steps := (He.ga K "_law_steps"),
    d__law_steps := d__law_steps,
    F__law_steps := F__law_steps,
    b__law_steps := FunD.bindsN F__law_steps (fun _ _ _ _ _ _ us hl => match us, hl with | [_, _], _ => rfl),
    g__law_steps := He.glo_ok X G (c.fact 22 (f := .glo "_law_steps") rfl),
    f__law_is_least := (He.ga K "_law_is_least"),
    d__law_is_least := d__law_is_least,
    F__law_is_least := F__law_is_least,
    b__law_is_least := FunD.bindsN F__law_is_least (fun _ _ _ _ _ _ us hl => match us, hl with | [_, _], _ => rfl),
    g__law_is_least := He.glo_ok X G (c.fact 23 (f := .glo "_law_is_least") rfl),
    f_law := (He.ga K "law"),
    d_law := d_law,
    F_law := F_law,
    b_law := FunD.bindsN F_law (fun _ _ _ _ _ _ us hl => match us, hl with | [_], _ => rfl),
    g_law := He.glo_ok X G (c.fact 24 (f := .glo "law") rfl),
    c_Left := He.ga K "Left",
    cls_Left := He.cls_ok (c.fact 29 (f := .cls "Left") rfl),
    gc_Left := He.glo_ok X G (c.fact 28 (f := .glo "Left") rfl),
    mk_Left := He.mkr_ok (c.fact 30 (f := .mkr "Left") rfl),
    me_Left_place := He.meth_ok (c.fact 31 (f := .meth "Left" "place") rfl),
    me_Left_can_be_first := He.meth_ok (c.fact 32 (f := .meth "Left" "can_be_first") rfl),
    me_Left_firsts := He.meth_ok (c.fact 33 (f := .meth "Left" "firsts") rfl),
    me_Left_take := He.meth_ok (c.fact 34 (f := .meth "Left" "take") rfl),
    no_Left_row := He.noat_ok (c.fact 38 (f := .noat "Left" "row") rfl),
    no_Left_signs := He.noat_ok (c.fact 39 (f := .noat "Left" "signs") rfl),
    no_Left_dependent := He.noat_ok (c.fact 36 (f := .noat "Left" "dependent") rfl),
    no_Left_places := He.noat_ok (c.fact 37 (f := .noat "Left" "places") rfl),
    no_Left_taken := He.noat_ok (c.fact 40 (f := .noat "Left" "taken") rfl),
    c_Counted := He.ga K "Counted",
    cls_Counted := He.cls_ok (c.fact 42 (f := .cls "Counted") rfl),
    gc_Counted := He.glo_ok X G (c.fact 41 (f := .glo "Counted") rfl),
    mk_Counted := He.mkr_ok (c.fact 43 (f := .mkr "Counted") rfl),
    me_Counted_next_counts := He.meth_ok (c.fact 44 (f := .meth "Counted" "next_counts") rfl),
    me_Counted_first := He.meth_ok (c.fact 45 (f := .meth "Counted" "first") rfl),
    no_Counted_signs := He.noat_ok (c.fact 50 (f := .noat "Counted" "signs") rfl),
    no_Counted_left := He.noat_ok (c.fact 47 (f := .noat "Counted" "left") rfl),
    no_Counted_end := He.noat_ok (c.fact 46 (f := .noat "Counted" "end") rfl),
    no_Counted_nexts := He.noat_ok (c.fact 49 (f := .noat "Counted" "nexts") rfl),
    no_Counted_many := He.noat_ok (c.fact 48 (f := .noat "Counted" "many") rfl),
    n_abs := He.free_ok X G (c.fact 53 (f := .free "abs") rfl),
    n_all := He.free_ok X G (c.fact 54 (f := .free "all") rfl),
    n_bool := He.free_ok X G (c.fact 55 (f := .free "bool") rfl),
    n_dict := He.free_ok X G (c.fact 56 (f := .free "dict") rfl),
    n_enumerate := He.free_ok X G (c.fact 57 (f := .free "enumerate") rfl),
    n_int := He.free_ok X G (c.fact 58 (f := .free "int") rfl),
    n_isinstance := He.free_ok X G (c.fact 59 (f := .free "isinstance") rfl),
    n_len := He.free_ok X G (c.fact 60 (f := .free "len") rfl),
    n_list := He.free_ok X G (c.fact 61 (f := .free "list") rfl),
    n_max := He.free_ok X G (c.fact 62 (f := .free "max") rfl),
    n_min := He.free_ok X G (c.fact 63 (f := .free "min") rfl),
    n_range := He.free_ok X G (c.fact 64 (f := .free "range") rfl),
    n_sorted := He.free_ok X G (c.fact 65 (f := .free "sorted") rfl),
    n_sum := He.free_ok X G (c.fact 66 (f := .free "sum") rfl),
    n_tuple := He.free_ok X G (c.fact 68 (f := .free "tuple") rfl),
    n_zip := He.free_ok X G (c.fact 69 (f := .free "zip") rfl),
    i_MOST_COUNTS := He.int_ok X G (c.fact 51 (f := .int "MOST_COUNTS" 20000) rfl) }, rfl⟩
theorem sp_end {E : Wd} {cLeft cCounted : Addr} {H : Hp} {a : Addr} {ns : List Int} (hO : Only H) (hS : SqL E.K H a (ns.map V.int)) : spD E 1 (sp_law cLeft cCounted) [.ref a] H (fun v _ => v = .bl true) fun _ _ _ => False := by
  obtain ⟨h', e⟩ := l_law (cL := cLeft) (cC := cCounted) (T := ns) (h := [])
  refine ⟨⟨H, fun _ => 0, 0, []⟩, [], [.fro (ns.map D.int)], rfl, ⟨rfl, fun n c e => by simp at e, fun m n hm => absurd hm (Nat.not_lt_zero _), fun n hn => absurd hn (Nat.not_lt_zero _), fun a ha => by simp at ha⟩, .cons ?_ .nil, rfl, ?_⟩
  · simp only [RepV]
    refine ⟨a, ns.map V.int, rfl, SqF.of hS fun ys hy => ?_, ints_rep⟩
    rcases hO a with z | ⟨o, xs, z⟩
    · rw [show H a = _ from hy] at z; cases z
    · rw [show H a = _ from hy] at z; cases z
  · rw [e]
    intro g' v hh x r
    simpa [RepV] using r
theorem facts {P : Program} {w : World} {K : PySem.W.Frag} {h : Heap} {mg : Str → Option Value} {f : Addr} (X : K.In h) (G : h.Ns mainGlobals mg) (hfa : mg ("law" : Str) = some (.ref f)) (c : He.SaysD H63.fa H63.fn K) :
    ∃ (fd : FuncData) (sp : Sp), (∀ (s : Shared) (v : Value), BindsTo s fd ⟨[v], []⟩ [("script", v)]) ∧ (∀ (H : Hp) (a : Addr) (ns : List Int), Only H → SqL K H a (ns.map V.int) → sp [.ref a] H (fun v _ => v = .bl true) fun _ _ _ => False) ∧ ∀ base : Heap, K.In base → base.Ns mainGlobals mg → FnOk P w K mg base CX0 7 f fd ["script"] sp := by
  obtain ⟨x, ex⟩ := fill X G c
  have e := hfa.symm.trans x.g_law
  cases e
  have b := FunD.bindsA (ps := ["script"]) x.F_law fun _ _ _ _ _ _ us hl => match us, hl with | [_], _ => rfl
  exact ⟨x.d_law, spD ⟨P, w, K⟩ 1 (sp_law x.c_Left x.c_Counted), fun s v => b s [v] rfl, fun H a ns hO hS => sp_end (E := ⟨P, w, K⟩) hO hS, fun base _ _ => ok_law (E := ⟨P, w, K⟩) x⟩
end W63
open PySem PySem.W PySem.Calls PyProof.Rows
theorem PySem.Challenge.cw_anyarrive_k63_whole_normal_rows_and_step_holds : PySem.Challenge.rw_anyarrive_k63_whole_normal_rows_and_step.Holds := by
  w_on; o_law
  refine HandSHeadRun.head_any (r := OpenLaw.row PySem.Challenge.rw_anyarrive_k63_whole_normal_rows_and_step) (q := view (OpenLaw.row PySem.Challenge.rw_anyarrive_k63_whole_normal_rows_and_step).prog [38]) (H := H63.hk) (ob := H63.ob) (M := 4000) (loose := H63.looseN) (d := HandSHeadRun.topDef (OpenLaw.row PySem.Challenge.rw_anyarrive_k63_whole_normal_rows_and_step).prog 38) (kwd := []) H63.ob_eq
    (by kernel_rfl) (fun s => by kernel_rfl) H63.run (by kernel_rfl) (by kernel_rfl) (by kernel_rfl) (by rfl) (by first | assumption | decide +kernel) (by decide +kernel) ⟨rfl, rfl, rfl, rfl, rfl, by decide +kernel⟩ ?hw ?hc
  case hw => w_witness2
  case hc =>
    refine L2.walk_ofE (l := PySem.Challenge.rw_anyarrive_k63_whole_normal_rows_and_step) (n := 63) (k := 7) (x := "script") (CX := L2.CX0) rfl (by decide) (by kernel_rfl) ⟨rfl, by decide, by decide⟩ ?F (fun _ _ _ _ z => z)
    intro w mg fa h Y G hmg0
    obtain ⟨K, KX, c⟩ := Y
    have hmg : mg ("law" : PySem.Str) = some (.ref fa) := by
      have e : (HandSHeadRun.topDef (OpenLaw.row PySem.Challenge.rw_anyarrive_k63_whole_normal_rows_and_step).prog 38).name = ("law" : PySem.Str) := by kernel_rfl
      rw [← e]
      exact hmg0
    obtain ⟨fd, sp, hb, hs, hF⟩ := W63.facts (P := (PySem.Challenge.rw_anyarrive_k63_whole_normal_rows_and_step).prog) (w := w) KX G hmg c
    exact ⟨K, fd, sp, KX, hb, fun H a ns _ hO hS => hs H a ns hO hS, hF⟩
