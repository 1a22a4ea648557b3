import PyProof.Rows.All
import Wide.All
import OpenK.AllK
import Wide.FinOn
import HandS.ForSpec
import HandS.TupSets
import KE.SortData
import HandS.Dict
import HandS.WordsDict
import HandS.Evl
import KE.KDictKeyed
import PyProof.Rows.SeqRoads
import HandS.Base
import HandS.Call
import HandS.List
import HandS.Ends
import HandS.Exc
import HandS.ExcOwn
import HandS.TryOnly
import HandS.TryMany
import HandS.ExcCtx
import HandS.Hot
import HandS.HotCalls
import HandS.SuiteRaise
import HandS.RaiseFrom
import HandS.ExcInit
import HandS.ExcInitHot
import HandS.ExcField
import HandS.Words
import HandS.WordsExc
import HandS.Style
import HandS.Zip
import HandS.Text
import HandS.Iter
import HandS.Steps
import HandS.NoneIn
import HandS.WideBits
import HandS.ForMost
import PyProof.EqKinds
import KE.KRevSl
import HandS.Deep
import HandS.AnyAll
import HandS.CallSlots
import PySem.Challenge.RW_alikestates_s01_answers
import KE.KEqDeep
import Open.SpecLaws
import KE.OsGo
section
set_option linter.unusedVariables false
/-! Likeness, the mathematics, part A: numberings by first places, rounds, how soon they stand. -/
namespace Lk
open Ln

/-! ### lists -/
theorem getD_map_range {α : Type} (f : Nat → α) (n i : Nat) (d : α) (h : i < n) : ((List.range n).map f).getD i d = f i := by
  simp [List.getD_eq_getElem?_getD, h]
theorem getD_lt {α : Type} (l : List α) (i : Nat) (d : α) (h : i < l.length) : l.getD i d = l[i] := by
  simp [List.getD_eq_getElem?_getD, h]

/-- numbers of things by their first places -/
def numb {α : Type} [DecidableEq α] (l : List α) : List Nat := l.map fun x => l.eraseDups.idxOf x
theorem numb_length {α : Type} [DecidableEq α] (l : List α) : (numb l).length = l.length := by simp [numb]

/-- the loop: what is known so far, the rest -/
def numGo {α : Type} [DecidableEq α] : List α → List α → List Nat
  | _, [] => []
  | ks, x :: r => if x ∈ ks then ks.idxOf x :: numGo ks r else ks.length :: numGo (ks ++ [x]) r

theorem eraseDups_filter_go {α : Type} [DecidableEq α] : ∀ (l ks : List α), ks.Nodup →
    numGo ks l = l.map fun x => (ks ++ (l.filter fun y => decide (y ∉ ks)).eraseDups).idxOf x
  | [], _, _ => rfl
  | x :: r, ks, hk => by
    by_cases hx : x ∈ ks
    · have e : (x :: r).filter (fun y => decide (y ∉ ks)) = r.filter fun y => decide (y ∉ ks) := by simp [hx]
      rw [numGo, if_pos hx, e, List.map_cons, eraseDups_filter_go r ks hk, List.idxOf_append, if_pos hx]
    · have e : (x :: r).filter (fun y => decide (y ∉ ks)) = x :: r.filter fun y => decide (y ∉ ks) := by simp [hx]
      have nd : (ks ++ [x]).Nodup := by
        rw [List.nodup_append]
        exact ⟨hk, by simp, fun a ha b hb => by simp at hb; subst hb; exact fun e => hx (e ▸ ha)⟩
      have e2 : (r.filter fun y => decide (y ∉ ks)).filter (fun b => !b == x) = r.filter fun y => decide (y ∉ ks ++ [x]) := by
        rw [List.filter_filter]
        apply List.filter_congr
        intro y _
        by_cases h1 : y = x <;> by_cases h2 : y ∈ ks <;> simp [h1, h2]
      have e3 : ks ++ x :: (r.filter fun y => decide (y ∉ ks ++ [x])).eraseDups = (ks ++ [x]) ++ (r.filter fun y => decide (y ∉ ks ++ [x])).eraseDups := by simp
      rw [numGo, if_neg hx, e, List.eraseDups_cons, e2, e3, List.map_cons, eraseDups_filter_go r (ks ++ [x]) nd]
      congr 1
      rw [List.idxOf_append, if_pos (by simp), List.idxOf_append, if_neg hx]
      simp
theorem numb_go {α : Type} [DecidableEq α] (l : List α) : numb l = numGo [] l := by
  rw [eraseDups_filter_go l [] List.nodup_nil]
  have e : (l.filter fun y => decide (y ∉ ([] : List α))) = l := List.filter_eq_self.mpr fun a _ => by simp
  rw [e]
  rfl

/-- two rows of things of one pattern have one numbering -/
theorem numGo_pattern {α β : Type} [DecidableEq α] [DecidableEq β] : ∀ (zs ks : List (α × β)), (∀ p ∈ ks ++ zs, ∀ q ∈ ks ++ zs, p.1 = q.1 ↔ p.2 = q.2) →
    numGo (ks.map (·.1)) (zs.map (·.1)) = numGo (ks.map (·.2)) (zs.map (·.2))
  | [], _, _ => rfl
  | z :: r, ks, h => by
    have idx : ∀ (ls : List (α × β)), (∀ p ∈ ls, p.1 = z.1 ↔ p.2 = z.2) → (ls.map (·.1)).idxOf z.1 = (ls.map (·.2)).idxOf z.2 := by
      intro ls
      induction ls with
      | nil => intro _; rfl
      | cons p ls ih =>
        intro hp
        rw [List.map_cons, List.map_cons, List.idxOf_cons, List.idxOf_cons, ih fun q hq => hp q (List.mem_cons_of_mem _ hq)]
        have e : (p.1 == z.1) = (p.2 == z.2) := by
          rw [Bool.eq_iff_iff, beq_iff_eq, beq_iff_eq]; exact hp p List.mem_cons_self
        rw [e]
    have hm : z.1 ∈ ks.map (·.1) ↔ z.2 ∈ ks.map (·.2) := by
      constructor
      · intro hz
        obtain ⟨p, hp, e⟩ := List.mem_map.mp hz
        exact List.mem_map.mpr ⟨p, hp, (h p (by simp [hp]) z (by simp)).mp e⟩
      · intro hz
        obtain ⟨p, hp, e⟩ := List.mem_map.mp hz
        exact List.mem_map.mpr ⟨p, hp, (h p (by simp [hp]) z (by simp)).mpr e⟩
    have hi := idx ks fun p hp => h p (by simp [hp]) z (by simp)
    rw [List.map_cons, List.map_cons, numGo, numGo]
    by_cases hz : z.1 ∈ ks.map (·.1)
    · rw [if_pos hz, if_pos (hm.mp hz), hi, numGo_pattern r ks fun p hp q hq => h p (by
        rcases List.mem_append.mp hp with a | a <;> simp [a]) q (by rcases List.mem_append.mp hq with a | a <;> simp [a])]
    · rw [if_neg hz, if_neg fun c => hz (hm.mpr c), List.length_map, List.length_map]
      have step := numGo_pattern r (ks ++ [z]) fun p hp q hq => h p (by simpa using hp) q (by simpa using hq)
      rw [List.map_append, List.map_append] at step
      exact congrArg (ks.length :: ·) step
theorem numb_pattern {α β : Type} [DecidableEq α] [DecidableEq β] (l : List α) (m : List β) (hl : l.length = m.length)
    (h : ∀ i j (hi : i < l.length) (hj : j < l.length), l[i] = l[j] ↔ m[i] = m[j]) : numb l = numb m := by
  have e1 : (l.zip m).map (·.1) = l := List.map_fst_zip (by omega)
  have e2 : (l.zip m).map (·.2) = m := List.map_snd_zip (by omega)
  have key := numGo_pattern (l.zip m) [] (by
    intro p hp q hq
    rw [List.nil_append] at hp hq
    obtain ⟨i, hi, rfl⟩ := List.mem_iff_getElem.mp hp
    obtain ⟨j, hj, rfl⟩ := List.mem_iff_getElem.mp hq
    rw [List.length_zip] at hi hj
    simp only [List.getElem_zip]
    exact h i j (by omega) (by omega))
  rw [e1, e2] at key
  rw [numb_go, numb_go]
  exact key
theorem numb_eq_iff {α : Type} [DecidableEq α] (l : List α) (i j : Nat) (hi : i < l.length) (hj : j < l.length) : (numb l).getD i 0 = (numb l).getD j 0 ↔ l[i] = l[j] := by
  rw [getD_lt _ _ _ (by rw [numb_length]; exact hi), getD_lt _ _ _ (by rw [numb_length]; exact hj)]
  simp only [numb, List.getElem_map]
  constructor
  · intro e
    have m1 : l[i] ∈ l.eraseDups := List.mem_eraseDups.mpr (List.getElem_mem hi)
    have m2 : l[j] ∈ l.eraseDups := List.mem_eraseDups.mpr (List.getElem_mem hj)
    have h1 := List.idxOf_lt_length_iff.mpr m1
    have h2 := List.idxOf_lt_length_iff.mpr m2
    have g1 := List.getElem_idxOf h1
    have g2 := List.getElem_idxOf h2
    rw [← g1, ← g2]
    simp only [e]
  · intro e; rw [e]

/-! ### what is seen of a state: its colour, its arcs' labels with the numbers to which they lead -/
def fol (S : Sys) (w : List Nat) (s : Nat) : List (Nat × Nat) := ((S.from_ s).map fun (x : Nat × Nat) => (x.1, w.getD x.2 0)).foldr putPair []
def seenC (S : Sys) (w : List Nat) (s : Nat) : Nat × List (Nat × Nat) := (S.colours.getD s 0, fol S w s)
theorem seen_eq (S : Sys) (w : List Nat) (s : Nat) : seen S w s = (w.getD s 0, 0) :: fol S w s := rfl

def pairLt (a b : Nat × Nat) : Prop := a.1 < b.1 ∨ (a.1 = b.1 ∧ a.2 < b.2)
theorem pairLt_trans {a b c : Nat × Nat} (h : pairLt a b) (h' : pairLt b c) : pairLt a c := by unfold pairLt at *; omega
theorem pairLt_irrefl (a : Nat × Nat) : ¬ pairLt a a := by unfold pairLt; omega
theorem pairLt_tri {a b : Nat × Nat} (h : a ≠ b) (h' : ¬ pairLt a b) : pairLt b a := by
  unfold pairLt at *
  have : ¬ (a.1 = b.1 ∧ a.2 = b.2) := fun e => h (Prod.ext e.1 e.2)
  omega
theorem mem_putPair (a x : Nat × Nat) : ∀ l : List (Nat × Nat), x ∈ putPair a l ↔ x = a ∨ x ∈ l
  | [] => by simp [putPair]
  | b :: r => by
    unfold putPair
    split
    · rename_i e; subst e; simp
    · split
      · simp
      · rw [List.mem_cons, mem_putPair a x r]; simp only [List.mem_cons]
        constructor
        · rintro (h | h | h) <;> simp [h]
        · rintro (h | h | h) <;> simp [h]
theorem putPair_sorted (a : Nat × Nat) : ∀ l : List (Nat × Nat), l.Pairwise pairLt → (putPair a l).Pairwise pairLt
  | [], _ => by simp [putPair]
  | b :: r, h => by
    unfold putPair
    split
    · exact h
    · rename_i hne
      split
      · rename_i hlt
        refine List.pairwise_cons.mpr ⟨fun c hc => ?_, h⟩
        rcases List.mem_cons.mp hc with rfl | hc
        · exact hlt
        · exact pairLt_trans hlt ((List.pairwise_cons.mp h).1 c hc)
      · rename_i hlt
        have h2 := List.pairwise_cons.mp h
        refine List.pairwise_cons.mpr ⟨fun c hc => ?_, putPair_sorted a r h2.2⟩
        rcases (mem_putPair a c r).mp hc with rfl | hc
        · exact pairLt_tri hne hlt
        · exact h2.1 c hc
theorem foldr_put_sorted (l : List (Nat × Nat)) : (l.foldr putPair []).Pairwise pairLt := by
  induction l with
  | nil => simp
  | cons a r ih => exact putPair_sorted a _ ih
theorem mem_foldr_put (x : Nat × Nat) (l : List (Nat × Nat)) : x ∈ l.foldr putPair [] ↔ x ∈ l := by
  induction l with
  | nil => simp
  | cons a r ih => rw [List.foldr_cons, mem_putPair, ih]; simp
/-- rising rows of the same members are one -/
theorem rising_unique {α : Type} {R : α → α → Prop} (tr : ∀ a b c : α, R a b → R b c → R a c) (ir : ∀ a, ¬ R a a) : ∀ {l m : List α}, l.Pairwise R → m.Pairwise R → (∀ x, x ∈ l ↔ x ∈ m) → l = m
  | [], [], _, _, _ => rfl
  | [], b :: m, _, _, h => by have := (h b).mpr List.mem_cons_self; simp at this
  | a :: l, [], _, _, h => by have := (h a).mp List.mem_cons_self; simp at this
  | a :: l, b :: m, hl, hm, h => by
    have hl' := List.pairwise_cons.mp hl
    have hm' := List.pairwise_cons.mp hm
    have e : a = b := by
      have h1 := (h a).mp List.mem_cons_self
      have h2 := (h b).mpr List.mem_cons_self
      rcases List.mem_cons.mp h1 with e | h1
      · exact e
      · rcases List.mem_cons.mp h2 with e | h2
        · exact e.symm
        · exact absurd (tr _ _ _ (hm'.1 a h1) (hl'.1 b h2)) (ir b)
    subst e
    have rest : ∀ x, x ∈ l ↔ x ∈ m := fun x => by
      constructor
      · intro hx
        rcases List.mem_cons.mp ((h x).mp (List.mem_cons_of_mem _ hx)) with e | hx'
        · subst e; exact absurd (hl'.1 x hx) (ir x)
        · exact hx'
      · intro hx
        rcases List.mem_cons.mp ((h x).mpr (List.mem_cons_of_mem _ hx)) with e | hx'
        · subst e; exact absurd (hm'.1 x hx) (ir x)
        · exact hx'
    rw [rising_unique tr ir hl'.2 hm'.2 rest]
theorem fol_sorted (S : Sys) (w : List Nat) (s : Nat) : (fol S w s).Pairwise pairLt := foldr_put_sorted _
theorem mem_fol (S : Sys) (w : List Nat) (s : Nat) (x : Nat × Nat) : x ∈ fol S w s ↔ ∃ a ∈ S.from_ s, (a.1, w.getD a.2 0) = x := by
  unfold fol
  rw [mem_foldr_put, List.mem_map]
theorem fol_eq_of (S : Sys) (w : List Nat) (s t : Nat) (h : ∀ x, x ∈ fol S w s ↔ x ∈ fol S w t) : fol S w s = fol S w t :=
  rising_unique (R := pairLt) (fun _ _ _ h1 h2 => pairLt_trans h1 h2) pairLt_irrefl (fol_sorted S w s) (fol_sorted S w t) h

/-! ### well-formed systems -/
def arcLt (a b : Arc) : Prop := a.1 < b.1 ∨ (a.1 = b.1 ∧ (a.2.1 < b.2.1 ∨ (a.2.1 = b.2.1 ∧ a.2.2 < b.2.2)))
theorem arcLt_trans {a b c : Arc} (h : arcLt a b) (h' : arcLt b c) : arcLt a c := by unfold arcLt at *; omega
theorem arcLt_irrefl (a : Arc) : ¬ arcLt a a := by unfold arcLt; omega
theorem arcLt_tri {a b : Arc} (h : a ≠ b) (h' : ¬ arcLt a b) : arcLt b a := by
  unfold arcLt at *
  have : ¬ (a.1 = b.1 ∧ a.2.1 = b.2.1 ∧ a.2.2 = b.2.2) := fun e => h (Prod.ext e.1 (Prod.ext e.2.1 e.2.2))
  omega
theorem arcBefore_iff (a b : Arc) : arcBefore a b = true ↔ arcLt a b := by
  unfold arcBefore arcLt
  simp only [Bool.or_eq_true, Bool.and_eq_true, decide_eq_true_eq, beq_iff_eq]
theorem mem_putArc (a x : Arc) : ∀ l : List Arc, x ∈ putArc a l ↔ x = a ∨ x ∈ l
  | [] => by simp [putArc]
  | b :: r => by
    unfold putArc
    split
    · rename_i e; subst e; simp
    · split
      · simp
      · rw [List.mem_cons, mem_putArc a x r]; simp only [List.mem_cons]
        constructor
        · rintro (h | h | h) <;> simp [h]
        · rintro (h | h | h) <;> simp [h]
theorem putArc_sorted (a : Arc) : ∀ l : List Arc, l.Pairwise arcLt → (putArc a l).Pairwise arcLt
  | [], _ => by simp [putArc]
  | b :: r, h => by
    unfold putArc
    split
    · exact h
    · rename_i hne
      split
      · rename_i hlt
        have hlt := (arcBefore_iff _ _).mp hlt
        refine List.pairwise_cons.mpr ⟨fun c hc => ?_, h⟩
        rcases List.mem_cons.mp hc with rfl | hc
        · exact hlt
        · exact arcLt_trans hlt ((List.pairwise_cons.mp h).1 c hc)
      · rename_i hlt
        have hlt := fun z => hlt ((arcBefore_iff a b).mpr z)
        have h2 := List.pairwise_cons.mp h
        refine List.pairwise_cons.mpr ⟨fun c hc => ?_, putArc_sorted a r h2.2⟩
        rcases (mem_putArc a c r).mp hc with rfl | hc
        · exact arcLt_tri hne hlt
        · exact h2.1 c hc
theorem putArc_length (a : Arc) : ∀ l : List Arc, (putArc a l).length ≤ l.length + 1
  | [] => by simp [putArc]
  | b :: r => by
    unfold putArc
    split
    · simp
    · split
      · simp
      · have := putArc_length a r; simp; omega
theorem foldr_putArc_sorted (l : List Arc) : (l.foldr putArc []).Pairwise arcLt := by
  induction l with
  | nil => simp
  | cons a r ih => exact putArc_sorted a _ ih
theorem mem_foldr_putArc (x : Arc) (l : List Arc) : x ∈ l.foldr putArc [] ↔ x ∈ l := by
  induction l with
  | nil => simp
  | cons a r ih => rw [List.foldr_cons, mem_putArc, ih]; simp
theorem foldr_putArc_length (l : List Arc) : (l.foldr putArc []).length ≤ l.length := by
  induction l with
  | nil => simp
  | cons a r ih => have := putArc_length a (r.foldr putArc []); simp only [List.foldr_cons, List.length_cons]; omega

structure Wf (S : Sys) : Prop where
  pos : 1 ≤ S.states
  most : S.states ≤ 32
  col : ∀ c ∈ S.colours, c < 256
  bd : ∀ a ∈ S.arcs, a.1 < S.states ∧ a.2.1 < 64 ∧ a.2.2 < S.states
  few : S.arcs.length ≤ 256
  up : S.arcs.Pairwise arcLt
theorem mem_from (S : Sys) (s : Nat) (x : Nat × Nat) : x ∈ S.from_ s ↔ (s, x.1, x.2) ∈ S.arcs := by
  unfold Sys.from_
  rw [List.mem_map]
  constructor
  · rintro ⟨a, ha, rfl⟩
    rw [List.mem_filter] at ha
    have e : a.1 = s := by simpa using ha.2
    obtain ⟨a1, a2, a3⟩ := a
    simp at e; subst e
    exact ha.1
  · intro h
    exact ⟨(s, x.1, x.2), List.mem_filter.mpr ⟨h, by simp⟩, rfl⟩
theorem mem_by (S : Sys) (s a v : Nat) : v ∈ S.by_ s a ↔ (a, v) ∈ S.from_ s := by
  unfold Sys.by_
  rw [List.mem_map]
  constructor
  · rintro ⟨x, hx, rfl⟩
    rw [List.mem_filter] at hx
    have e : x.1 = a := by simpa using hx.2
    subst e
    exact hx.1
  · intro h
    exact ⟨(a, v), List.mem_filter.mpr ⟨h, by simp⟩, rfl⟩
theorem Wf.to {S : Sys} (W : Wf S) {s : Nat} {x : Nat × Nat} (h : x ∈ S.from_ s) : s < S.states ∧ x.1 < 64 ∧ x.2 < S.states := by
  have := W.bd _ ((mem_from S s x).mp h)
  exact this

/-! ### the rounds -/
def R (S : Sys) : Nat → List Nat
  | 0 => numb S.colours
  | k + 1 => numb ((List.range S.states).map (seenC S (R S k)))
theorem R_length (S : Sys) : ∀ k, (R S k).length = S.states
  | 0 => numb_length _
  | k + 1 => by rw [R, numb_length]; simp
theorem R_zero_iff (S : Sys) {s t : Nat} (hs : s < S.states) (ht : t < S.states) : (R S 0).getD s 0 = (R S 0).getD t 0 ↔ S.colours.getD s 0 = S.colours.getD t 0 := by
  rw [R, numb_eq_iff S.colours s t hs ht, getD_lt _ _ _ hs, getD_lt _ _ _ ht]
theorem R_succ_iff (S : Sys) (k : Nat) {s t : Nat} (hs : s < S.states) (ht : t < S.states) : (R S (k + 1)).getD s 0 = (R S (k + 1)).getD t 0 ↔ seenC S (R S k) s = seenC S (R S k) t := by
  rw [R, numb_eq_iff _ s t (by simpa using hs) (by simpa using ht)]
  simp
/-- a coarser numbering shows no more -/
theorem fol_coarse (S : Sys) (W : Wf S) {v w : List Nat} (h : ∀ x y, x < S.states → y < S.states → w.getD x 0 = w.getD y 0 → v.getD x 0 = v.getD y 0) {s t : Nat} (e : fol S w s = fol S w t) : fol S v s = fol S v t := by
  have half : ∀ s t, fol S w s = fol S w t → ∀ x, x ∈ fol S v s → x ∈ fol S v t := by
    intro s t e x hx
    obtain ⟨a, ha, rfl⟩ := (mem_fol S v s x).mp hx
    have m : (a.1, w.getD a.2 0) ∈ fol S w t := by rw [← e]; exact (mem_fol S w s _).mpr ⟨a, ha, rfl⟩
    obtain ⟨b, hb, eb⟩ := (mem_fol S w t _).mp m
    obtain ⟨e1, e2⟩ := Prod.mk.inj eb
    exact (mem_fol S v t _).mpr ⟨b, hb, by rw [e1, h b.2 a.2 (W.to hb).2.2 (W.to ha).2.2 e2]⟩
  exact fol_eq_of S v s t fun x => ⟨half s t e x, half t s e.symm x⟩
theorem R_refine (S : Sys) (W : Wf S) : ∀ (k : Nat) {s t : Nat}, s < S.states → t < S.states → (R S (k + 1)).getD s 0 = (R S (k + 1)).getD t 0 → (R S k).getD s 0 = (R S k).getD t 0
  | 0, s, t, hs, ht, h => by
    rw [R_succ_iff S 0 hs ht] at h
    exact (R_zero_iff S hs ht).mpr (congrArg Prod.fst h)
  | k + 1, s, t, hs, ht, h => by
    rw [R_succ_iff S (k + 1) hs ht] at h
    refine (R_succ_iff S k hs ht).mpr (Prod.ext (show S.colours.getD s 0 = S.colours.getD t 0 from congrArg Prod.fst h) ?_)
    exact fol_coarse S W (fun x y hx hy e => R_refine S W k hx hy e) (congrArg Prod.snd h)
theorem R_refine_le (S : Sys) (W : Wf S) {j k : Nat} (hjk : j ≤ k) {s t : Nat} (hs : s < S.states) (ht : t < S.states) (h : (R S k).getD s 0 = (R S k).getD t 0) : (R S j).getD s 0 = (R S j).getD t 0 := by
  induction k with
  | zero => have : j = 0 := by omega
            subst this; exact h
  | succ k ih =>
    by_cases e : j = k + 1
    · subst e; exact h
    · exact ih (by omega) (R_refine S W k hs ht h)
/-- two numberings of one pattern -/
theorem R_same_pattern (S : Sys) (k : Nat) (m : List Nat) (hm : m.length = S.states) (h : ∀ s t, s < S.states → t < S.states → ((R S k).getD s 0 = (R S k).getD t 0 ↔ m.getD s 0 = m.getD t 0)) : numb m = R S k := by
  have key : ∀ {α : Type} [DecidableEq α] (l : List α), l.length = S.states → R S k = numb l → numb m = numb l := by
    intro α _ l hl e
    refine numb_pattern m l (by omega) fun i j hi hj => ?_
    have := h i j (by omega) (by omega)
    rw [e, numb_eq_iff l i j (by omega) (by omega), getD_lt m i 0 hi, getD_lt m j 0 hj] at this
    exact this.symm
  cases k with
  | zero => exact key S.colours rfl rfl
  | succ k => exact key ((List.range S.states).map (seenC S (R S k))) (by simp) rfl
theorem numb_R (S : Sys) (k : Nat) : numb (R S k) = R S k := R_same_pattern S k (R S k) (R_length S k) fun _ _ _ _ => Iff.rfl

/-- the specification's rounds -/
def specR (S : Sys) : Nat → List Nat
  | 0 => colourNumbers S
  | k + 1 => nextNumbers S (specR S k)
theorem beq_one {α : Type} [DecidableEq α] (i : BEq α) (l : @LawfulBEq α i) : i = instBEqOfDecidableEq := by
  have e : i.beq = (instBEqOfDecidableEq : BEq α).beq := by
    funext a b
    show (@BEq.beq α i a b) = decide (a = b)
    by_cases h : a = b
    · subst h
      rw [@beq_self_eq_true α i _ a]
      simp
    · rw [(@beq_eq_false_iff_ne α i l a b).mpr h]
      simp [h]
  cases i
  exact congrArg BEq.mk e
def numbB {α : Type} (i : BEq α) (l : List α) : List Nat := l.map fun x => l.eraseDups.idxOf x
theorem numbered_eq (l : List (List (Nat × Nat))) : numbered l = numb l := by
  have e : numbered l = numbB inferInstance l := rfl
  rw [e, beq_one (inferInstance : BEq (List (Nat × Nat))) inferInstance]
  rfl
theorem specR_eq (S : Sys) (W : Wf S) : ∀ k, specR S k = R S k
  | 0 => by
    show numbered (S.colours.map fun (c : Nat) => [(c, 0)]) = numb S.colours
    rw [numbered_eq]
    refine numb_pattern _ _ (by simp) fun i j hi hj => ?_
    simp
  | k + 1 => by
    show nextNumbers S (specR S k) = R S (k + 1)
    rw [specR_eq S W k]
    show numbered ((List.range S.states).map (seen S (R S k))) = numb ((List.range S.states).map (seenC S (R S k)))
    rw [numbered_eq]
    refine numb_pattern _ _ (by simp) fun i j hi hj => ?_
    have hi' : i < S.states := by simpa using hi
    have hj' : j < S.states := by simpa using hj
    simp only [List.getElem_map, List.getElem_range, seen_eq, List.cons.injEq, Prod.mk.injEq, and_true]
    constructor
    · rintro ⟨h1, h2⟩
      exact Prod.ext ((R_zero_iff S hi' hj').mp (R_refine_le S W (Nat.zero_le k) hi' hj' h1)) h2
    · intro h
      have h2 : fol S (R S k) i = fol S (R S k) j := congrArg Prod.snd h
      refine ⟨?_, h2⟩
      cases k with
      | zero => exact (R_zero_iff S hi' hj').mpr (congrArg Prod.fst h)
      | succ k =>
        refine (R_succ_iff S k hi' hj').mpr (Prod.ext (show S.colours.getD i 0 = S.colours.getD j 0 from congrArg Prod.fst h) ?_)
        exact fol_coarse S W (fun x y hx hy e => R_refine S W k hx hy e) h2
theorem roundsFrom_eq (S : Sys) (W : Wf S) : ∀ (m k : Nat), roundsFrom S m (R S k) = (List.range (m + 1)).map fun i => R S (k + i)
  | 0, k => by simp [roundsFrom]
  | m + 1, k => by
    have e : nextNumbers S (R S k) = R S (k + 1) := by
      have := specR_eq S W (k + 1)
      rw [← this, specR, specR_eq S W k]
    rw [roundsFrom, e, roundsFrom_eq S W m (k + 1), List.range_succ_eq_map (n := m + 1), List.map_cons, List.map_map]
    congr 1
    apply List.map_congr_left
    intro i _
    show R S (k + 1 + i) = R S (k + (i + 1))
    congr 1
    omega
theorem rounds_eq (S : Sys) (W : Wf S) : S.rounds = (List.range (S.states + 1)).map (R S) := by
  have e0 : colourNumbers S = R S 0 := specR_eq S W 0
  unfold Sys.rounds
  rw [e0, roundsFrom_eq S W S.states 0]
  apply List.map_congr_left
  intro i _
  rw [Nat.zero_add]
theorem rounds_getD (S : Sys) (W : Wf S) {k : Nat} (h : k ≤ S.states) : S.rounds.getD k [] = R S k := by
  rw [rounds_eq S W, getD_map_range _ _ _ _ (by omega)]
theorem classes_eq (S : Sys) (W : Wf S) : S.classes = R S S.states := by
  unfold Sys.classes
  rw [rounds_eq S W, List.range_succ, List.map_append]
  simp

/-! ### how soon they stand -/
def isFirst (w : List Nat) (s : Nat) : Bool := !((List.range s).any fun (t : Nat) => w.getD t 0 == w.getD s 0)
theorem isFirst_iff (w : List Nat) (s : Nat) : isFirst w s = true ↔ ∀ t, t < s → w.getD t 0 ≠ w.getD s 0 := by
  unfold isFirst
  simp
theorem exists_first (w : List Nat) : ∀ s, ∃ f, f ≤ s ∧ isFirst w f = true ∧ w.getD f 0 = w.getD s 0 := by
  intro s
  induction s using Nat.strongRecOn with
  | _ s ih =>
    by_cases h : isFirst w s = true
    · exact ⟨s, Nat.le_refl _, h, rfl⟩
    · have : ∃ t, t < s ∧ w.getD t 0 = w.getD s 0 := by
        have h2 := mt (isFirst_iff w s).mpr h
        exact Classical.byContradiction fun hn => h2 fun t ht e => hn ⟨t, ht, e⟩
      obtain ⟨t, ht, e⟩ := this
      obtain ⟨f, h1, h2, h3⟩ := ih t ht
      exact ⟨f, by omega, h2, h3.trans e⟩
theorem first_unique {w : List Nat} {f g : Nat} (hf : isFirst w f = true) (hg : isFirst w g = true) (e : w.getD f 0 = w.getD g 0) : f = g := by
  rcases Nat.lt_trichotomy f g with h | h | h
  · exact absurd e ((isFirst_iff w g).mp hg f h)
  · exact h
  · exact absurd e.symm ((isFirst_iff w f).mp hf g h)
theorem filter_len_le {p q : Nat → Bool} (h : ∀ x, p x = true → q x = true) : ∀ l : List Nat, (l.filter p).length ≤ (l.filter q).length
  | [] => Nat.le_refl _
  | x :: l => by
    have ih := filter_len_le h l
    rw [List.filter_cons, List.filter_cons]
    by_cases hp : p x = true
    · rw [if_pos hp, if_pos (h x hp)]; simp; exact ih
    · rw [if_neg hp]
      split
      · simp; omega
      · exact ih
theorem filter_len_eq {p q : Nat → Bool} (h : ∀ x, p x = true → q x = true) : ∀ l : List Nat, (l.filter p).length = (l.filter q).length → ∀ x ∈ l, q x = true → p x = true
  | [], _, x, hx, _ => by simp at hx
  | y :: l, e, x, hx, hq => by
    have ih := filter_len_le h l
    rw [List.filter_cons, List.filter_cons] at e
    by_cases hp : p y = true
    · rw [if_pos hp, if_pos (h y hp)] at e
      rcases List.mem_cons.mp hx with rfl | hx
      · exact hp
      · exact filter_len_eq h l (by simpa using e) x hx hq
    · rw [if_neg hp] at e
      by_cases hqy : q y = true
      · rw [if_pos hqy] at e
        simp at e; omega
      · rw [if_neg hqy] at e
        rcases List.mem_cons.mp hx with rfl | hx
        · exact absurd hq hqy
        · exact filter_len_eq h l e x hx hq
def nFirst (S : Sys) (k : Nat) : Nat := ((List.range S.states).filter (isFirst (R S k))).length
/-- states that are first in a round are first in the next -/
theorem first_mono (S : Sys) (W : Wf S) (k : Nat) (s : Nat) (hs : s < S.states) (h : isFirst (R S k) s = true) : isFirst (R S (k + 1)) s = true := by
  rw [isFirst_iff] at *
  intro t ht e
  exact h t ht (R_refine S W k (by omega) hs e)
theorem nFirst_step (S : Sys) (W : Wf S) (k : Nat) (hne : R S (k + 1) ≠ R S k) : nFirst S k < nFirst S (k + 1) := by
  have le : ((List.range S.states).filter fun s => decide (s < S.states) && isFirst (R S k) s).length ≤ ((List.range S.states).filter fun s => decide (s < S.states) && isFirst (R S (k + 1)) s).length :=
    filter_len_le (fun x hx => by
      simp only [Bool.and_eq_true, decide_eq_true_eq] at *
      exact ⟨hx.1, first_mono S W k x hx.1 hx.2⟩) _
  have conv : ∀ j, (List.range S.states).filter (fun s => decide (s < S.states) && isFirst (R S j) s) = (List.range S.states).filter (isFirst (R S j)) := fun j => by
    apply List.filter_congr
    intro x hx
    have : x < S.states := by simpa using hx
    simp [this]
  have le2 : nFirst S k ≤ nFirst S (k + 1) := by
    rw [conv, conv] at le; exact le
  rcases Nat.lt_or_ge (nFirst S k) (nFirst S (k + 1)) with h | h
  · exact h
  · exfalso
    have e : nFirst S k = nFirst S (k + 1) := by omega
    have back : ∀ s, s < S.states → isFirst (R S (k + 1)) s = true → isFirst (R S k) s = true := by
      have := filter_len_eq (p := fun s => decide (s < S.states) && isFirst (R S k) s) (q := fun s => decide (s < S.states) && isFirst (R S (k + 1)) s) (fun x hx => by
        simp only [Bool.and_eq_true, decide_eq_true_eq] at *
        exact ⟨hx.1, first_mono S W k x hx.1 hx.2⟩) (List.range S.states) (by rw [conv, conv]; exact e)
      intro s hs hf
      have q := this s (by simpa using hs) (by simp [hs, hf])
      simp only [Bool.and_eq_true] at q
      exact q.2
    apply hne
    have pat : ∀ s t, s < S.states → t < S.states → ((R S k).getD s 0 = (R S k).getD t 0 ↔ (R S (k + 1)).getD s 0 = (R S (k + 1)).getD t 0) := by
      intro s t hs ht
      refine ⟨fun h => ?_, R_refine S W k hs ht⟩
      obtain ⟨f, f1, f2, f3⟩ := exists_first (R S (k + 1)) s
      obtain ⟨g, g1, g2, g3⟩ := exists_first (R S (k + 1)) t
      have hf := back f (by omega) f2
      have hg := back g (by omega) g2
      have ef := R_refine S W k (by omega) hs f3
      have eg := R_refine S W k (by omega) ht g3
      have : f = g := first_unique hf hg (ef.trans (h.trans eg.symm))
      subst this
      exact f3.symm.trans g3
    rw [← R_same_pattern S k (R S (k + 1)) (R_length S _) pat, numb_R]
theorem nFirst_le (S : Sys) (k : Nat) : nFirst S k ≤ S.states := by
  unfold nFirst
  exact Nat.le_trans (List.length_filter_le _ _) (by simp)
theorem nFirst_pos (S : Sys) (W : Wf S) (k : Nat) : 1 ≤ nFirst S k := by
  unfold nFirst
  have : 0 ∈ (List.range S.states).filter (isFirst (R S k)) := List.mem_filter.mpr ⟨List.mem_range.mpr W.pos, by rw [isFirst_iff]; intro t ht; omega⟩
  exact List.length_pos_of_mem this
theorem nFirst_grow (S : Sys) (W : Wf S) : ∀ m, (∀ k, k < m → R S (k + 1) ≠ R S k) → m + 1 ≤ nFirst S m
  | 0, _ => nFirst_pos S W 0
  | m + 1, h => by
    have := nFirst_grow S W m fun k hk => h k (by omega)
    have := nFirst_step S W m (h m (by omega))
    omega
/-- where the rounds part no more -/
theorem exists_stop (S : Sys) (W : Wf S) : ∃ m, m < S.states ∧ R S (m + 1) = R S m ∧ ∀ k, k < m → R S (k + 1) ≠ R S k := by
  have : ∃ m, R S (m + 1) = R S m := by
    apply Classical.byContradiction
    intro h
    have := nFirst_grow S W S.states fun k _ e => h ⟨k, e⟩
    have := nFirst_le S S.states
    omega
  obtain ⟨m, hm⟩ := this
  have least : ∃ m, R S (m + 1) = R S m ∧ ∀ k, k < m → R S (k + 1) ≠ R S k := by
    clear W
    induction m using Nat.strongRecOn with
    | _ m ih =>
      by_cases h : ∃ k, k < m ∧ R S (k + 1) = R S k
      · obtain ⟨k, hk, e⟩ := h
        exact ih k hk e
      · exact ⟨m, hm, fun k hk e => h ⟨k, hk, e⟩⟩
  obtain ⟨m, h1, h2⟩ := least
  have := nFirst_grow S W m h2
  have := nFirst_le S m
  exact ⟨m, by omega, h1, h2⟩
theorem R_stays (S : Sys) {m : Nat} (h : R S (m + 1) = R S m) : ∀ j, R S (m + j) = R S m
  | 0 => rfl
  | j + 1 => by
    have ih := R_stays S h j
    show R S (m + j + 1) = R S m
    rw [R, ih]
    rw [R] at h
    exact h
theorem R_last (S : Sys) {m k : Nat} (h : R S (m + 1) = R S m) (hk : m ≤ k) : R S k = R S m := by
  have := R_stays S h (k - m)
  rwa [show m + (k - m) = k by omega] at this
/-- the last round -/
theorem classes_stop (S : Sys) (W : Wf S) {m : Nat} (hm : m < S.states) (h : R S (m + 1) = R S m) : S.classes = R S m := by
  rw [classes_eq S W, R_last S h (by omega)]
end Lk
end

section
set_option linter.unusedVariables false
/-! Likeness, the mathematics, part B: how soon states part, counts, the smallest system, likenesses told by numbers. -/
namespace Lk
open Ln

/-! ### how soon they part -/
theorem alikeIn_eq (S : Sys) (W : Wf S) {k : Nat} (h : k ≤ S.states) (s t : Nat) : alikeIn S.rounds k s t = ((R S k).getD s 0 == (R S k).getD t 0) := by
  unfold alikeIn; rw [rounds_getD S W h]
theorem depth_none (S : Sys) (W : Wf S) {m s t : Nat} (hm : m < S.states) (st : R S (m + 1) = R S m) (hs : s < S.states) (ht : t < S.states) (h : (R S m).getD s 0 = (R S m).getD t 0) : S.depth s t = none := by
  unfold Sys.depth
  rw [List.find?_eq_none]
  intro k hk
  have hk' : k ≤ S.states := by have := List.mem_range.mp hk; omega
  rw [alikeIn_eq S W hk']
  have e : (R S k).getD s 0 = (R S k).getD t 0 := by
    by_cases c : k ≤ m
    · exact R_refine_le S W c hs ht h
    · rw [R_last S st (by omega)]; exact h
  rw [e]; simp only [beq_self_eq_true, Bool.not_true, Bool.false_eq_true, not_false_eq_true]
theorem depth_some (S : Sys) (W : Wf S) {j s t : Nat} (hj : j ≤ S.states) (h : (R S j).getD s 0 ≠ (R S j).getD t 0) (hb : ∀ i, i < j → (R S i).getD s 0 = (R S i).getD t 0) : S.depth s t = some j := by
  unfold Sys.depth
  rw [List.find?_eq_some_iff_append]
  refine ⟨by rw [alikeIn_eq S W hj]; simp only [Bool.not_eq_true', beq_eq_false_iff_ne, ne_eq]; exact h, List.range j, (List.range (S.states - j)).map (· + (j + 1)), ?_, ?_⟩
  · have e : S.states + 1 = j + (S.states - j + 1) := by omega
    rw [e, List.range_add, List.range_succ_eq_map]
    simp only [List.map_cons, List.map_map, Nat.add_zero]
    congr 2
    apply List.map_congr_left
    intro x _
    simp only [Function.comp, Nat.succ_eq_add_one]
    omega
  · intro i hi
    have hi' : i < j := List.mem_range.mp hi
    rw [alikeIn_eq S W (by omega), hb i hi']
    simp
theorem part_at (S : Sys) {m s t : Nat} (h : (R S m).getD s 0 ≠ (R S m).getD t 0) : ∃ j, j ≤ m ∧ (R S j).getD s 0 ≠ (R S j).getD t 0 ∧ ∀ i, i < j → (R S i).getD s 0 = (R S i).getD t 0 := by
  induction m using Nat.strongRecOn with
  | _ m ih =>
    by_cases c : ∃ i, i < m ∧ (R S i).getD s 0 ≠ (R S i).getD t 0
    · obtain ⟨i, hi, hne⟩ := c
      obtain ⟨j, h1, h2, h3⟩ := ih i hi hne
      exact ⟨j, by omega, h2, h3⟩
    · exact ⟨m, Nat.le_refl _, h, fun i hi => Classical.byContradiction fun e => c ⟨i, hi, e⟩⟩
theorem depth_stop (S : Sys) (W : Wf S) {m s t : Nat} (hm : m < S.states) (st : R S (m + 1) = R S m) (hs : s < S.states) (ht : t < S.states) : (S.depth s t).isNone = decide ((R S m).getD s 0 = (R S m).getD t 0) := by
  by_cases c : (R S m).getD s 0 = (R S m).getD t 0
  · rw [depth_none S W hm st hs ht c]; simp only [Option.isNone_none, c, decide_true]
  · obtain ⟨j, h1, h2, h3⟩ := part_at S c
    rw [depth_some S W (by omega) h2 h3]; simp only [Option.isNone_some, c, decide_false]

/-! ### first states -/
theorem isFirst_append (l : List Nat) (x s : Nat) (hs : s < l.length) : isFirst (l ++ [x]) s = isFirst l s := by
  have g : ∀ i, i < l.length → (l ++ [x]).getD i 0 = l.getD i 0 := fun i hi => by
    simp [List.getD_eq_getElem?_getD, List.getElem?_append_left hi]
  rw [Bool.eq_iff_iff, isFirst_iff, isFirst_iff]
  constructor
  · intro h t ht; rw [← g t (by omega), ← g s hs]; exact h t ht
  · intro h t ht; rw [g t (by omega), g s hs]; exact h t ht
theorem rev_ind {α : Type} {p : List α → Prop} (h0 : p []) (hs : ∀ l x, p l → p (l ++ [x])) (l : List α) : p l := by
  have : ∀ n (l : List α), l.length = n → p l := by
    intro n
    induction n with
    | zero => intro l hl; rw [List.eq_nil_of_length_eq_zero hl]; exact h0
    | succ n ih =>
      intro l hl
      have hne : l ≠ [] := by intro e; rw [e] at hl; simp at hl
      rw [← List.dropLast_concat_getLast hne]
      exact hs _ _ (ih _ (by rw [List.length_dropLast]; omega))
  exact this _ l rfl
theorem eraseDups_firsts (l : List Nat) : l.eraseDups = ((List.range l.length).filter (isFirst l)).map fun s => l.getD s 0 := by
  refine rev_ind (p := fun l => l.eraseDups = ((List.range l.length).filter (isFirst l)).map fun s => l.getD s 0) rfl (fun l x ih => ?_) l
  have g : ∀ i, i < l.length → (l ++ [x]).getD i 0 = l.getD i 0 := fun i hi => by
    simp [List.getD_eq_getElem?_getD, List.getElem?_append_left hi]
  have gl : (l ++ [x]).getD l.length 0 = x := by simp [List.getD_eq_getElem?_getD]
  have e1 : (List.range l.length).filter (isFirst (l ++ [x])) = (List.range l.length).filter (isFirst l) := by
    apply List.filter_congr
    intro s hs
    exact isFirst_append l x s (List.mem_range.mp hs)
  have e2 : ((List.range l.length).filter (isFirst l)).map (fun s => (l ++ [x]).getD s 0) = ((List.range l.length).filter (isFirst l)).map fun s => l.getD s 0 := by
    apply List.map_congr_left
    intro s hs
    exact g s (List.mem_range.mp (List.mem_filter.mp hs).1)
  rw [List.eraseDups_append, ih, List.length_append, List.length_singleton, List.range_succ, List.filter_append, List.map_append, e1, e2]
  congr 1
  by_cases hx : x ∈ l
  · have r : [x].removeAll l = [] := by simp [List.removeAll, hx]
    have f : isFirst (l ++ [x]) l.length = false := by
      rw [← Bool.not_eq_true, isFirst_iff]
      intro h
      obtain ⟨i, hi, e⟩ := List.mem_iff_getElem.mp hx
      exact h i hi (by rw [g i hi, gl, getD_lt l i 0 hi, e])
    rw [r, List.filter_cons, f]; rfl
  · have r : [x].removeAll l = [x] := by simp [List.removeAll, hx]
    have f : isFirst (l ++ [x]) l.length = true := by
      rw [isFirst_iff]
      intro t ht e
      rw [g t ht, gl, getD_lt l t 0 ht] at e
      exact hx (e ▸ List.getElem_mem ht)
    have e3 : ([x] : List Nat).eraseDups = [x] := by rw [List.eraseDups_cons]; rfl
    rw [r, List.filter_cons, f, e3]
    simp
theorem firsts_eq (S : Sys) : S.firsts = (List.range S.states).filter (isFirst S.classes) := rfl
theorem classes_length (S : Sys) (W : Wf S) : S.classes.length = S.states := by rw [classes_eq S W, R_length]
theorem count_eq (S : Sys) (W : Wf S) : S.count = S.firsts.length := by
  unfold Sys.count
  rw [eraseDups_firsts, List.length_map, classes_length S W, firsts_eq]
theorem numb_classes (S : Sys) (W : Wf S) : numb S.classes = S.classes := by rw [classes_eq S W, numb_R]
theorem class_idx (S : Sys) (W : Wf S) {s : Nat} (hs : s < S.states) : S.classes.getD s 0 = S.classes.eraseDups.idxOf (S.classes.getD s 0) := by
  have h := numb_classes S W
  have hl := classes_length S W
  have e : (numb S.classes).getD s 0 = S.classes.eraseDups.idxOf (S.classes.getD s 0) := by
    rw [getD_lt _ _ _ (by rw [numb_length]; omega), getD_lt _ _ _ (by omega)]
    simp [numb]
  rw [h] at e
  exact e
theorem class_lt (S : Sys) (W : Wf S) {s : Nat} (hs : s < S.states) : S.classes.getD s 0 < S.count := by
  have hl := classes_length S W
  rw [class_idx S W hs]
  unfold Sys.count
  apply List.idxOf_lt_length_iff.mpr
  rw [List.mem_eraseDups, getD_lt _ _ _ (by omega)]
  exact List.getElem_mem _
theorem firsts_lt (S : Sys) {c : Nat} (hc : c < S.firsts.length) : S.firsts[c] < S.states := by
  have h : ∀ x ∈ S.firsts, x < S.states := fun x hx => by
    rw [firsts_eq, List.mem_filter, List.mem_range] at hx; exact hx.1
  exact h _ (List.getElem_mem hc)
theorem firsts_first (S : Sys) {c : Nat} (hc : c < S.firsts.length) : isFirst S.classes S.firsts[c] = true := by
  have h : ∀ x ∈ S.firsts, isFirst S.classes x = true := fun x hx => by
    rw [firsts_eq, List.mem_filter, List.mem_range] at hx; exact hx.2
  exact h _ (List.getElem_mem hc)
/-- the c-th first state has the number c -/
theorem class_first (S : Sys) (W : Wf S) {c : Nat} (hc : c < S.firsts.length) : S.classes.getD S.firsts[c] 0 = c := by
  have hlt := firsts_lt S hc
  have hl := classes_length S W
  have he : S.classes.eraseDups = S.firsts.map fun s => S.classes.getD s 0 := by rw [eraseDups_firsts, hl, firsts_eq]
  have hi := class_idx S W hlt
  have hcount := class_lt S W hlt
  rw [count_eq S W] at hcount
  have hmem : S.classes.getD S.firsts[c] 0 ∈ S.classes.eraseDups := by
    rw [List.mem_eraseDups, getD_lt _ _ _ (by omega)]; exact List.getElem_mem _
  obtain ⟨j, hj, h1⟩ : ∃ j, S.classes.getD S.firsts[c] 0 = j ∧ S.classes.eraseDups[j]? = some (S.classes.getD S.firsts[c] 0) :=
    ⟨_, hi, by rw [List.getElem?_eq_getElem (List.idxOf_lt_length_iff.mpr hmem), List.getElem_idxOf]⟩
  have hj2 : j < S.firsts.length := by rw [← hj]; exact hcount
  have h2 : S.classes.getD S.firsts[j] 0 = S.classes.getD S.firsts[c] 0 := by
    rw [he, List.getElem?_map, List.getElem?_eq_getElem hj2] at h1
    exact Option.some.inj h1
  have h3 : S.firsts[j] = S.firsts[c] := first_unique (firsts_first S hj2) (firsts_first S hc) h2
  have nd : S.firsts.Nodup := by rw [firsts_eq]; exact List.Pairwise.filter _ List.nodup_range
  have h4 : j = c := (List.getElem_inj nd).mp h3
  rw [hj]; exact h4
theorem class_colour (S : Sys) (W : Wf S) {s t : Nat} (hs : s < S.states) (ht : t < S.states) (h : S.classes.getD s 0 = S.classes.getD t 0) : S.colours.getD s 0 = S.colours.getD t 0 := by
  rw [classes_eq S W] at h
  exact (R_zero_iff S hs ht).mp (R_refine_le S W (Nat.zero_le _) hs ht h)

/-! ### the smallest system -/
theorem quot_colours (S : Sys) (W : Wf S) (q : List Nat) (hl : q.length = S.count) (h : ∀ s, s < S.states → q.getD (S.classes.getD s 0) 0 = S.colours.getD s 0) : q = S.quotient.colours := by
  show q = S.firsts.map fun (s : Nat) => S.colours.getD s 0
  apply List.ext_getElem
  · rw [hl, List.length_map, count_eq S W]
  · intro c h1 h2
    have hc : c < S.firsts.length := by simpa using h2
    have := h S.firsts[c] (firsts_lt S hc)
    rw [class_first S W hc, getD_lt q c 0 h1] at this
    rw [this]
    simp
/-- one store of the loop over the states -/
theorem quot_step (S : Sys) (W : Wf S) {q : List Nat} {i : Nat} (hi : i < S.states) (hl : q.length = S.count) (h : ∀ t, t < i → q.getD (S.classes.getD t 0) 0 = S.colours.getD t 0) :
    ∀ t, t < i + 1 → (q.set (S.classes.getD i 0) (S.colours.getD i 0)).getD (S.classes.getD t 0) 0 = S.colours.getD t 0 := by
  intro t ht
  have hw := class_lt S W hi
  by_cases e : S.classes.getD t 0 = S.classes.getD i 0
  · rw [e, List.getD_eq_getElem?_getD, List.getElem?_set_self (by omega)]
    exact (class_colour S W (by omega) hi e).symm
  · rw [List.getD_eq_getElem?_getD, List.getElem?_set_ne (Ne.symm e), ← List.getD_eq_getElem?_getD]
    refine h t ?_
    have : t ≠ i := fun z => e (by rw [z])
    omega
theorem quot_states (S : Sys) (W : Wf S) : S.quotient.states = S.count := by
  show (S.firsts.map fun (s : Nat) => S.colours.getD s 0).length = S.count
  rw [List.length_map, count_eq S W]
theorem count_le (S : Sys) (W : Wf S) : S.count ≤ S.states := by
  rw [count_eq S W, firsts_eq]
  exact Nat.le_trans (List.length_filter_le _ _) (by simp)
theorem count_pos (S : Sys) (W : Wf S) : 1 ≤ S.count := by have := class_lt S W W.pos; omega
def quotArcs (S : Sys) : List Arc := S.arcs.map fun (a : Arc) => (S.classes.getD a.1 0, a.2.1, S.classes.getD a.2.2 0)
theorem quot_arcs (S : Sys) : S.quotient.arcs = (quotArcs S).foldr putArc [] := rfl
theorem wf_quotient (S : Sys) (W : Wf S) : Wf S.quotient where
  pos := by rw [quot_states S W]; exact count_pos S W
  most := by rw [quot_states S W]; have := count_le S W; have := W.most; omega
  col := by
    intro c hc
    obtain ⟨s, hs, rfl⟩ := List.mem_map.mp (show c ∈ S.firsts.map fun (s : Nat) => S.colours.getD s 0 from hc)
    have hs2 : s < S.states := by
      rw [firsts_eq, List.mem_filter, List.mem_range] at hs; exact hs.1
    rw [getD_lt _ _ _ hs2]
    exact W.col _ (List.getElem_mem _)
  bd := by
    intro a ha
    rw [quot_arcs, mem_foldr_putArc] at ha
    obtain ⟨b, hb, rfl⟩ := List.mem_map.mp ha
    have := W.bd b hb
    rw [quot_states S W]
    exact ⟨class_lt S W this.1, this.2.1, class_lt S W this.2.2⟩
  few := by
    rw [quot_arcs]
    refine Nat.le_trans (foldr_putArc_length _) ?_
    unfold quotArcs
    rw [List.length_map]; exact W.few
  up := by rw [quot_arcs]; exact foldr_putArc_sorted _

/-! ### a row of numbers that is a likeness -/
def Like (S : Sys) (w : List Nat) : Prop := ∀ s t, s < S.states → t < S.states → w.getD s 0 = w.getD t 0 → seenC S w s = seenC S w t
theorem stable_iff (S : Sys) (W : Wf S) (w : List Nat) : S.stable w = true ↔ Like S w := by
  unfold Sys.stable Like
  simp only [List.all_eq_true, List.mem_range, Bool.or_eq_true, bne_iff_ne, ne_eq, Bool.and_eq_true, beq_iff_eq, List.any_eq_true]
  constructor
  · intro h s t hs ht e
    have one : ∀ s t, s < S.states → t < S.states → w.getD s 0 = w.getD t 0 → ∀ x, x ∈ fol S w s → x ∈ fol S w t := by
      intro s t hs ht e x hx
      obtain ⟨a, ha, rfl⟩ := (mem_fol S w s x).mp hx
      rcases h s hs t ht with q | q
      · exact absurd e q
      · obtain ⟨v, hv, ev⟩ := q.2 a ha
        exact (mem_fol S w t _).mpr ⟨(a.1, v), (mem_by S t a.1 v).mp hv, by rw [ev]⟩
    rcases h s hs t ht with q | q
    · exact absurd e q
    · exact Prod.ext q.1 (fol_eq_of S w s t fun x => ⟨one s t hs ht e x, one t s ht hs e.symm x⟩)
  · intro h s hs t ht
    by_cases e : w.getD s 0 = w.getD t 0
    · right
      have q := h s t hs ht e
      refine ⟨congrArg Prod.fst q, fun x hx => ?_⟩
      have m : (x.1, w.getD x.2 0) ∈ fol S w t := by
        have : fol S w s = fol S w t := congrArg Prod.snd q
        rw [← this]; exact (mem_fol S w s _).mpr ⟨x, hx, rfl⟩
      obtain ⟨b, hb, eb⟩ := (mem_fol S w t _).mp m
      obtain ⟨e1, e2⟩ := Prod.mk.inj eb
      exact ⟨b.2, (mem_by S t x.1 b.2).mpr (by rw [← e1]; exact hb), e2.symm⟩
    · exact .inl e
/-- up to a state nothing was met that fights -/
def LikeTo (S : Sys) (w : List Nat) (i : Nat) : Prop := ∀ s t, s < i → t < i → w.getD s 0 = w.getD t 0 → seenC S w s = seenC S w t
theorem like_all (S : Sys) (w : List Nat) : LikeTo S w S.states ↔ Like S w := Iff.rfl
theorem likeTo_step {S : Sys} {w : List Nat} {i : Nat} (h : LikeTo S w i) (hn : ∀ t, t < i → w.getD t 0 = w.getD i 0 → seenC S w t = seenC S w i) : LikeTo S w (i + 1) := by
  intro s t hs ht e
  by_cases h1 : s = i
  · by_cases h2 : t = i
    · rw [h1, h2]
    · rw [h1]; rw [h1] at e; exact (hn t (by omega) e.symm).symm
  · by_cases h2 : t = i
    · rw [h2]; rw [h2] at e; exact hn s (by omega) e
    · exact h s t (by omega) (by omega) e

/-! ### the other changes -/
theorem wf_fresh {n : Nat} (h : 1 ≤ n ∧ n ≤ 32) : Wf ⟨List.replicate n 0, []⟩ where
  pos := by show 1 ≤ (List.replicate n 0).length; simp; exact h.1
  most := by show (List.replicate n 0).length ≤ 32; simp; exact h.2
  col := by intro c hc; have := List.eq_of_mem_replicate hc; omega
  bd := by intro a ha; simp at ha
  few := by simp
  up := List.Pairwise.nil
theorem wf_paint {S : Sys} (W : Wf S) {k c : Nat} (hc : c < 256) : Wf { S with colours := S.colours.set k c } := by
  have hl : ({ S with colours := S.colours.set k c } : Sys).states = S.states := by show (S.colours.set k c).length = _; simp; rfl
  refine ⟨by rw [hl]; exact W.pos, by rw [hl]; exact W.most, fun x hx => ?_, by rw [hl]; exact W.bd, W.few, W.up⟩
  rcases List.mem_or_eq_of_mem_set hx with h | h
  · exact W.col x h
  · omega
theorem wf_put {S : Sys} (W : Wf S) {s a t : Nat} (hs : s < S.states) (ha : a < 64) (ht : t < S.states) (hf : S.arcs.length < 256) : Wf { S with arcs := putArc (s, a, t) S.arcs } where
  pos := W.pos
  most := W.most
  col := W.col
  bd := by
    intro b hb
    rcases (mem_putArc _ _ _).mp hb with rfl | hb
    · exact ⟨hs, ha, ht⟩
    · exact W.bd b hb
  few := by have := putArc_length (s, a, t) S.arcs; show (putArc (s, a, t) S.arcs).length ≤ 256; omega
  up := putArc_sorted _ _ W.up
theorem wf_cut {S : Sys} (W : Wf S) (p : Arc → Bool) : Wf { S with arcs := S.arcs.filter p } where
  pos := W.pos
  most := W.most
  col := W.col
  bd := fun b hb => W.bd b (List.mem_filter.mp hb).1
  few := Nat.le_trans (List.length_filter_le _ _) W.few
  up := List.Pairwise.filter _ W.up
/-- rising rows of arcs of the same members are one -/
theorem arcs_unique {l m : List Arc} (hl : l.Pairwise arcLt) (hm : m.Pairwise arcLt) (h : ∀ x, x ∈ l ↔ x ∈ m) : l = m :=
  rising_unique (R := arcLt) (fun _ _ _ h1 h2 => arcLt_trans h1 h2) arcLt_irrefl hl hm h
theorem pairs_unique {l m : List (Nat × Nat)} (hl : l.Pairwise pairLt) (hm : m.Pairwise pairLt) (h : ∀ x, x ∈ l ↔ x ∈ m) : l = m :=
  rising_unique (R := pairLt) (fun _ _ _ h1 h2 => pairLt_trans h1 h2) pairLt_irrefl hl hm h
end Lk
end

section
set_option linter.unusedVariables false
/-! Likeness, the mathematics, part C: formulas: where they hold as a number's bits; reading by a stack of what waits. -/
namespace Lk
open Ln

/-! ### bits -/
def mask (p : Nat → Bool) : Nat → Nat
  | 0 => 0
  | n + 1 => mask p n + (if p n = true then 2 ^ n else 0)
theorem mask_lt (p : Nat → Bool) : ∀ n, mask p n < 2 ^ n
  | 0 => by simp [mask]
  | n + 1 => by
    have := mask_lt p n
    rw [mask, Nat.pow_succ]
    split <;> omega
theorem testBit_mask (p : Nat → Bool) : ∀ n s, (mask p n).testBit s = (decide (s < n) && p s)
  | 0, s => by simp [mask]
  | n + 1, s => by
    have ih := testBit_mask p n
    have hlt := mask_lt p n
    rw [mask]
    by_cases hp : p n = true
    · rw [if_pos hp, Nat.add_comm]
      by_cases e : s = n
      · subst e
        rw [Nat.testBit_two_pow_add_eq, ih]
        simp [hp]
      · by_cases l : s < n
        · rw [Nat.testBit_two_pow_add_gt l, ih]
          have : s < n + 1 := by omega
          simp [l, this]
        · have e1 : (2 ^ n + mask p n).testBit s = false := by
            apply Nat.testBit_lt_two_pow
            refine Nat.lt_of_lt_of_le (m := 2 ^ (n + 1)) (by rw [Nat.pow_succ]; omega) (Nat.pow_le_pow_right (by omega) (by omega))
          have : ¬ s < n + 1 := by omega
          rw [e1]; simp [this]
    · rw [if_neg hp, Nat.add_zero, ih]
      by_cases e : s = n
      · subst e; simp [hp]
      · by_cases l : s < n
        · have : s < n + 1 := by omega
          simp [l, this]
        · have : ¬ s < n + 1 := by omega
          simp [l, this]
theorem mask_congr {p q : Nat → Bool} {n : Nat} (h : ∀ s, s < n → p s = q s) : mask p n = mask q n := by
  apply Nat.eq_of_testBit_eq
  intro s
  rw [testBit_mask, testBit_mask]
  by_cases l : s < n
  · rw [h s l]
  · simp [l]
theorem mask_all (n : Nat) : mask (fun _ => true) n + 1 = 2 ^ n := by
  induction n with
  | zero => simp [mask]
  | succ n ih => rw [mask, if_pos rfl, Nat.pow_succ]; omega
theorem mask_not (p : Nat → Bool) (n : Nat) : mask p n + mask (fun s => !p s) n = mask (fun _ => true) n := by
  induction n with
  | zero => simp [mask]
  | succ n ih =>
    have e1 : mask (fun s => !p s) (n + 1) = mask (fun s => !p s) n + (if p n = true then 0 else 2 ^ n) := by
      rw [mask]; by_cases h : p n = true <;> simp [h]
    rw [e1, mask, mask, if_pos (rfl : (fun _ : Nat => true) n = true)]
    by_cases h : p n = true
    · rw [if_pos h, if_pos h]; omega
    · rw [if_neg h, if_neg h]; omega
theorem mask_and (p q : Nat → Bool) (n : Nat) : mask p n &&& mask q n = mask (fun s => p s && q s) n := by
  apply Nat.eq_of_testBit_eq
  intro s
  rw [Nat.testBit_and, testBit_mask, testBit_mask, testBit_mask]
  by_cases l : s < n <;> simp [l]
theorem mask_and_all (p : Nat → Bool) (n : Nat) : mask (fun _ => true) n &&& mask p n = mask p n := by
  rw [mask_and]; exact mask_congr fun s _ => by simp
theorem mask_or_all (p : Nat → Bool) (n : Nat) : mask (fun _ => true) n ||| mask p n = mask (fun _ => true) n := by
  apply Nat.eq_of_testBit_eq
  intro s
  rw [Nat.testBit_or, testBit_mask, testBit_mask]
  by_cases l : s < n <;> simp [l]
/-- the bits of some places, added -/
theorem mask_sum (p : Nat → Bool) (n : Nat) : (((List.range n).filter p).map fun k => 2 ^ k).sum = mask p n := by
  induction n with
  | zero => rfl
  | succ n ih =>
    rw [List.range_succ, List.filter_append, List.map_append, List.sum_append, ih, mask]
    cases h : p n <;> simp [h]

/-! ### the states with an arc that leads to some -/
def leadStep (l m : Nat) (f : Nat) (a : Arc) : Nat := if a.2.1 = l ∧ m.testBit a.2.2 = true then f ||| 2 ^ a.1 else f
def leadMask (S : Sys) (l m : Nat) : Nat := S.arcs.foldl (leadStep l m) 0
theorem testBit_lead (l m : Nat) : ∀ (as : List Arc) (f s : Nat), (as.foldl (leadStep l m) f).testBit s = (f.testBit s || as.any fun a => a.1 == s && (a.2.1 == l && m.testBit a.2.2))
  | [], f, s => by simp
  | a :: r, f, s => by
    rw [List.foldl_cons, testBit_lead l m r, List.any_cons]
    unfold leadStep
    by_cases c : a.2.1 = l ∧ m.testBit a.2.2 = true
    · rw [if_pos c, Nat.testBit_or, Nat.testBit_two_pow]
      have e : (a.2.1 == l && m.testBit a.2.2) = true := by simp [c.1, c.2]
      rw [e, Bool.and_true]
      have e2 : decide (a.1 = s) = (a.1 == s) := by rw [Bool.beq_eq_decide_eq]
      rw [e2, Bool.or_assoc]
    · rw [if_neg c]
      have e : (a.2.1 == l && m.testBit a.2.2) = false := by
        rw [← Bool.not_eq_true]
        simpa using c
      rw [e]
      simp
theorem lead_mask (S : Sys) (W : Wf S) (l : Nat) (p : Nat → Bool) : leadMask S l (mask p S.states) = mask (fun s => (S.by_ s l).any p) S.states := by
  apply Nat.eq_of_testBit_eq
  intro s
  unfold leadMask
  rw [testBit_lead, testBit_mask, Nat.zero_testBit, Bool.false_or, Bool.eq_iff_iff, Bool.and_eq_true, decide_eq_true_eq, List.any_eq_true, List.any_eq_true]
  constructor
  · rintro ⟨a, ha, h⟩
    simp only [Bool.and_eq_true, beq_iff_eq, testBit_mask, decide_eq_true_eq] at h
    obtain ⟨h1, h2, h3, h4⟩ := h
    have b := W.bd a ha
    refine ⟨by rw [← h1]; exact b.1, a.2.2, ?_, h4⟩
    rw [mem_by, mem_from]
    obtain ⟨a1, a2, a3⟩ := a
    simp only at h1 h2
    subst h1; subst h2
    exact ha
  · rintro ⟨hs, v, hv, hp⟩
    rw [mem_by, mem_from] at hv
    have b := W.bd _ hv
    exact ⟨(s, l, v), hv, by simp [testBit_mask, b.2.2, hp]⟩

def holdMask (S : Sys) (f : Form) : Nat := mask (f.holds S) S.states
theorem hold_top (S : Sys) : holdMask S .top = mask (fun _ => true) S.states := mask_congr fun s _ => rfl
theorem hold_colour (S : Sys) (c : Nat) : holdMask S (.colour c) = mask (fun s => S.colours.getD s 0 == c) S.states := mask_congr fun s _ => rfl
theorem hold_neg (S : Sys) (f : Form) : holdMask S (.neg f) = mask (fun _ => true) S.states - holdMask S f := by
  have h := mask_not (f.holds S) S.states
  have e : holdMask S (.neg f) = mask (fun s => !f.holds S s) S.states := mask_congr fun s _ => rfl
  unfold holdMask at *
  rw [e]
  omega
theorem hold_both (S : Sys) (f g : Form) : holdMask S (.both f g) = holdMask S f &&& holdMask S g := by
  unfold holdMask
  rw [mask_and]
  exact mask_congr fun s _ => rfl
theorem hold_after (S : Sys) (W : Wf S) (l : Nat) (f : Form) : holdMask S (.after l f) = leadMask S l (holdMask S f) := by
  unfold holdMask
  rw [lead_mask S W]
  exact mask_congr fun s _ => rfl

/-! ### reading: what waits stands innermost first -/
structure MS where
  at_ : Nat
  wait : List (Nat × Nat)
  found : Option Nat
def beginM (S : Sys) (t : Bytes) (p : Nat) (W : List (Nat × Nat)) : Except Nat MS := match t.drop p with
  | [] => .error p
  | c :: s => if 500 ≤ W.length then .error p
    else if c = 116 then .ok ⟨p + 1, W, some (holdMask S .top)⟩
    else if c = 99 then (match numIn 256 (p + 1, s) with
      | .error e => .error e
      | .ok x => .ok ⟨x.2.1, W, some (holdMask S (.colour x.1))⟩)
    else if c = 33 then .ok ⟨p + 1, (33, 0) :: W, none⟩
    else if c = 40 then .ok ⟨p + 1, (40, 0) :: W, none⟩
    else if c = 60 then (match numIn 64 (p + 1, s) with
      | .error e => .error e
      | .ok x => match byteIn 62 x.2 with
        | .error e => .error e
        | .ok q => .ok ⟨q.1, (60, x.1) :: W, none⟩)
    else .error p
def endM (S : Sys) (t : Bytes) (p : Nat) (W : List (Nat × Nat)) (m : Nat) : Except Nat MS := match W with
  | [] => .error p
  | (sg, told) :: r => if sg = 33 then .ok ⟨p, r, some (mask (fun _ => true) S.states - m)⟩
    else if sg = 60 then .ok ⟨p, r, some (leadMask S told m)⟩
    else if sg = 40 then (match byteIn 38 (p, t.drop p) with
      | .error e => .error e
      | .ok q => .ok ⟨q.1, (38, m) :: r, none⟩)
    else (match byteIn 41 (p, t.drop p) with
      | .error e => .error e
      | .ok q => .ok ⟨q.1, r, some (told &&& m)⟩)
/-- so many turns lead to that: a fault's place, or where the whole holds and the place behind it -/
inductive OutN (S : Sys) (t : Bytes) : Nat → MS → Except Nat (Nat × Nat) → Prop where
  | fin (p m : Nat) : OutN S t 0 ⟨p, [], some m⟩ (.ok (m, p))
  | begErr {p : Nat} {W : List (Nat × Nat)} {e : Nat} (h : beginM S t p W = .error e) : OutN S t 1 ⟨p, W, none⟩ (.error e)
  | beg {p k : Nat} {W : List (Nat × Nat)} {st : MS} {r : Except Nat (Nat × Nat)} (h : beginM S t p W = .ok st) (n : OutN S t k st r) : OutN S t (k + 1) ⟨p, W, none⟩ r
  | endErr {p m : Nat} {w : Nat × Nat} {W : List (Nat × Nat)} {e : Nat} (h : endM S t p (w :: W) m = .error e) : OutN S t 1 ⟨p, w :: W, some m⟩ (.error e)
  | en {p m k : Nat} {w : Nat × Nat} {W : List (Nat × Nat)} {st : MS} {r : Except Nat (Nat × Nat)} (h : endM S t p (w :: W) m = .ok st) (n : OutN S t k st r) : OutN S t (k + 1) ⟨p, w :: W, some m⟩ r

theorem takeWhile_le {α : Type} (f : α → Bool) : ∀ l : List α, (l.takeWhile f).length ≤ l.length
  | [] => Nat.le_refl _
  | a :: l => by
    rw [List.takeWhile_cons]
    split
    · have := takeWhile_le f l; simp; exact this
    · simp
theorem numIn_ok {n : Nat} {t : Bytes} {p : Nat} {x : Nat × Rest} (hp : p ≤ t.length) (h : numIn n (p, t.drop p) = .ok x) : x.2.2 = t.drop x.2.1 ∧ x.2.1 ≤ t.length ∧ p < x.2.1 ∧ x.1 < n := by
  unfold numIn at h
  dsimp only at h
  split at h
  · cases h
  · rename_i c
    have e := Except.ok.inj h
    subst e
    have := takeWhile_le isDigit (t.drop p)
    rw [List.length_drop] at this
    simp only [not_or, Nat.not_le] at c
    refine ⟨by rw [List.drop_drop], by dsimp only; omega, by dsimp only; omega, c.2.2.2⟩
theorem byteIn_ok {c : UInt8} {t : Bytes} {p : Nat} {q : Rest} (h : byteIn c (p, t.drop p) = .ok q) : q = (p + 1, t.drop (p + 1)) ∧ p < t.length ∧ t[p]? = some c := by
  unfold byteIn at h
  dsimp only at h
  split at h
  · rename_i d s hd
    split at h
    · rename_i e
      have hlt : p < t.length := by
        rcases Nat.lt_or_ge p t.length with z | z
        · exact z
        · rw [List.drop_eq_nil_of_le z] at hd; cases hd
      have e2 := Except.ok.inj h
      subst e2
      rw [List.drop_eq_getElem_cons hlt] at hd
      obtain ⟨h1, h2⟩ := List.cons.inj hd
      exact ⟨by rw [← h2], hlt, by rw [List.getElem?_eq_getElem hlt, h1, e]⟩
    · cases h
  · cases h

def Lands (S : Sys) (t : Bytes) (p : Nat) (W : List (Nat × Nat)) : Except Nat (Form × Rest) → Prop
  | .error e => ∃ n, OutN S t n ⟨p, W, none⟩ (.error e)
  | .ok x => x.2.2 = t.drop x.2.1 ∧ x.2.1 ≤ t.length ∧ ∀ j r, OutN S t j ⟨x.2.1, W, some (holdMask S x.1)⟩ r → ∃ n, OutN S t n ⟨p, W, none⟩ r

theorem lands (S : Sys) (wf : Wf S) (t : Bytes) : ∀ (k : Nat) (p : Nat) (W : List (Nat × Nat)), W.length + k = 500 → p ≤ t.length → Lands S t p W (formIn k (p, t.drop p))
  | 0, p, W, hW, hp => by
    show ∃ n, OutN S t n ⟨p, W, none⟩ (.error p)
    refine ⟨1, .begErr ?_⟩
    unfold beginM
    split
    · rfl
    · rw [if_pos (by omega)]
  | k + 1, p, W, hW, hp => by
    have notdeep : ¬ 500 ≤ W.length := by omega
    unfold formIn
    cases hd : t.drop p with
    | nil =>
      show ∃ n, OutN S t n ⟨p, W, none⟩ (.error p)
      exact ⟨1, .begErr (by unfold beginM; rw [hd])⟩
    | cons c s =>
      have hlt : p < t.length := by
        rcases Nat.lt_or_ge p t.length with z | z
        · exact z
        · rw [List.drop_eq_nil_of_le z] at hd; cases hd
      have hs : s = t.drop (p + 1) := by
        rw [List.drop_eq_getElem_cons hlt] at hd
        exact (List.cons.inj hd).2.symm
      dsimp only
      by_cases c1 : c = 116
      · rw [if_pos c1]
        refine ⟨hs, by dsimp only; omega, fun j r h => ⟨j + 1, .beg ?_ h⟩⟩
        unfold beginM; rw [hd]; dsimp only; rw [if_neg notdeep, if_pos c1]
      rw [if_neg c1]
      by_cases c2 : c = 99
      · rw [if_pos c2]
        have hb : beginM S t p W = (match numIn 256 (p + 1, s) with
            | .error e => .error e
            | .ok x => .ok ⟨x.2.1, W, some (holdMask S (.colour x.1))⟩) := by
          unfold beginM; rw [hd]; dsimp only; rw [if_neg notdeep, if_neg c1, if_pos c2]
        show Lands S t p W ((numIn COLOURS (p + 1, s)).map fun (x : Nat × Rest) => (.colour x.1, x.2))
        cases hn : numIn COLOURS (p + 1, s) with
        | error e =>
          have hn' : numIn 256 (p + 1, s) = .error e := hn
          rw [hn'] at hb
          exact ⟨1, .begErr hb⟩
        | ok x =>
          have hn' : numIn 256 (p + 1, s) = .ok x := hn
          rw [hn'] at hb
          rw [hs] at hn'
          have q := numIn_ok (by omega) hn'
          exact ⟨q.1, q.2.1, fun j r h => ⟨j + 1, .beg hb h⟩⟩
      rw [if_neg c2]
      by_cases c3 : c = 33
      · rw [if_pos c3]
        have hb : beginM S t p W = .ok ⟨p + 1, (33, 0) :: W, none⟩ := by
          unfold beginM; rw [hd]; dsimp only; rw [if_neg notdeep, if_neg c1, if_neg c2, if_pos c3]
        have ih := lands S wf t k (p + 1) ((33, 0) :: W) (by simp; omega) (by omega)
        rw [← hs] at ih
        cases hf : formIn k (p + 1, s) with
        | error e =>
          rw [hf] at ih
          obtain ⟨n, h⟩ := ih
          exact ⟨n + 1, .beg hb h⟩
        | ok x =>
          rw [hf] at ih
          obtain ⟨h1, h2, h3⟩ := ih
          refine ⟨h1, h2, fun j r h => ?_⟩
          have he : endM S t x.2.1 ((33, 0) :: W) (holdMask S x.1) = .ok ⟨x.2.1, W, some (holdMask S (.neg x.1))⟩ := by
            unfold endM; dsimp only; rw [if_pos rfl, hold_neg]
          obtain ⟨n, hn⟩ := h3 (j + 1) r (.en he h)
          exact ⟨n + 1, .beg hb hn⟩
      rw [if_neg c3]
      by_cases c4 : c = 40
      · rw [if_pos c4]
        have hb : beginM S t p W = .ok ⟨p + 1, (40, 0) :: W, none⟩ := by
          unfold beginM; rw [hd]; dsimp only; rw [if_neg notdeep, if_neg c1, if_neg c2, if_neg c3, if_pos c4]
        have ih := lands S wf t k (p + 1) ((40, 0) :: W) (by simp; omega) (by omega)
        rw [← hs] at ih
        cases hf : formIn k (p + 1, s) with
        | error e =>
          rw [hf] at ih
          obtain ⟨n, h⟩ := ih
          exact ⟨n + 1, .beg hb h⟩
        | ok x =>
          rw [hf] at ih
          obtain ⟨h1, h2, h3⟩ := ih
          dsimp only
          have hx : x.2 = (x.2.1, t.drop x.2.1) := Prod.ext rfl h1
          cases hq : byteIn 38 x.2 with
          | error e =>
            have he : endM S t x.2.1 ((40, 0) :: W) (holdMask S x.1) = .error e := by
              unfold endM; dsimp only; rw [if_neg (by decide), if_neg (by decide), if_pos rfl, ← hx, hq]
            obtain ⟨n, hn⟩ := h3 1 _ (.endErr he)
            exact ⟨n + 1, .beg hb hn⟩
          | ok q =>
            have hq' := hq
            rw [hx] at hq'
            obtain ⟨q1, q2, _⟩ := byteIn_ok hq'
            have he : endM S t x.2.1 ((40, 0) :: W) (holdMask S x.1) = .ok ⟨q.1, (38, holdMask S x.1) :: W, none⟩ := by
              unfold endM; dsimp only; rw [if_neg (by decide), if_neg (by decide), if_pos rfl, ← hx, hq]
            have ih2 := lands S wf t k q.1 ((38, holdMask S x.1) :: W) (by simp; omega) (by rw [q1]; dsimp only; omega)
            have hq2 : q = (q.1, t.drop q.1) := by rw [q1]
            rw [← hq2] at ih2
            dsimp only
            cases hg : formIn k q with
            | error e =>
              rw [hg] at ih2
              obtain ⟨n, h⟩ := ih2
              obtain ⟨n2, hn⟩ := h3 (n + 1) _ (.en he h)
              exact ⟨n2 + 1, .beg hb hn⟩
            | ok y =>
              rw [hg] at ih2
              obtain ⟨g1, g2, g3⟩ := ih2
              have hy : y.2 = (y.2.1, t.drop y.2.1) := Prod.ext rfl g1
              dsimp only
              cases hz : byteIn 41 y.2 with
              | error e =>
                have hee : endM S t y.2.1 ((38, holdMask S x.1) :: W) (holdMask S y.1) = .error e := by
                  unfold endM; dsimp only; rw [if_neg (by decide), if_neg (by decide), if_neg (by decide), ← hy, hz]
                obtain ⟨n, h⟩ := g3 1 _ (.endErr hee)
                obtain ⟨n2, hn⟩ := h3 (n + 1) _ (.en he h)
                exact ⟨n2 + 1, .beg hb hn⟩
              | ok z =>
                have hz' := hz
                rw [hy] at hz'
                obtain ⟨z1, z2, _⟩ := byteIn_ok hz'
                refine ⟨by rw [z1], by rw [z1]; dsimp only; omega, fun j r h => ?_⟩
                have hee : endM S t y.2.1 ((38, holdMask S x.1) :: W) (holdMask S y.1) = .ok ⟨z.1, W, some (holdMask S (.both x.1 y.1))⟩ := by
                  unfold endM; dsimp only; rw [if_neg (by decide), if_neg (by decide), if_neg (by decide), ← hy, hz, hold_both]
                obtain ⟨n, h⟩ := g3 (j + 1) r (.en hee h)
                obtain ⟨n2, hn⟩ := h3 (n + 1) _ (.en he h)
                exact ⟨n2 + 1, .beg hb hn⟩
      rw [if_neg c4]
      by_cases c5 : c = 60
      · rw [if_pos c5]
        have hb : beginM S t p W = (match numIn 64 (p + 1, s) with
            | .error e => .error e
            | .ok x => match byteIn 62 x.2 with
              | .error e => .error e
              | .ok q => .ok ⟨q.1, (60, x.1) :: W, none⟩) := by
          unfold beginM; rw [hd]; dsimp only; rw [if_neg notdeep, if_neg c1, if_neg c2, if_neg c3, if_neg c4, if_pos c5]
        cases hn : numIn LABELS (p + 1, s) with
        | error e =>
          have hn' : numIn 64 (p + 1, s) = .error e := hn
          rw [hn'] at hb
          exact ⟨1, .begErr hb⟩
        | ok x =>
          have hn' : numIn 64 (p + 1, s) = .ok x := hn
          rw [hn'] at hb
          rw [hs] at hn'
          have nq := numIn_ok (by omega) hn'
          have hx : x.2 = (x.2.1, t.drop x.2.1) := Prod.ext rfl nq.1
          dsimp only at hb ⊢
          cases hq : byteIn 62 x.2 with
          | error e =>
            rw [hq] at hb
            exact ⟨1, .begErr hb⟩
          | ok q =>
            rw [hq] at hb
            have hq' := hq
            rw [hx] at hq'
            obtain ⟨q1, q2, _⟩ := byteIn_ok hq'
            have ih := lands S wf t k q.1 ((60, x.1) :: W) (by simp; omega) (by rw [q1]; dsimp only; omega)
            have hq2 : q = (q.1, t.drop q.1) := by rw [q1]
            rw [← hq2] at ih
            dsimp only
            cases hf : formIn k q with
            | error e =>
              rw [hf] at ih
              obtain ⟨n, h⟩ := ih
              exact ⟨n + 1, .beg hb h⟩
            | ok y =>
              rw [hf] at ih
              obtain ⟨h1, h2, h3⟩ := ih
              refine ⟨h1, h2, fun j r h => ?_⟩
              have he : endM S t y.2.1 ((60, x.1) :: W) (holdMask S y.1) = .ok ⟨y.2.1, W, some (holdMask S (.after x.1 y.1))⟩ := by
                unfold endM; dsimp only; rw [if_neg (by decide), if_pos rfl, hold_after S wf]
              obtain ⟨n, hn⟩ := h3 (j + 1) r (.en he h)
              exact ⟨n + 1, .beg hb hn⟩
      rw [if_neg c5]
      show ∃ n, OutN S t n ⟨p, W, none⟩ (.error p)
      refine ⟨1, .begErr ?_⟩
      unfold beginM; rw [hd]; dsimp only; rw [if_neg notdeep, if_neg c1, if_neg c2, if_neg c3, if_neg c4, if_neg c5]

/-- the whole reading: a fault's place, or where the formula holds -/
def whereM (S : Sys) (t : Bytes) : Except Nat Nat := (readForm t).map (holdMask S)
theorem asked_out (S : Sys) (wf : Wf S) (t : Bytes) : ∃ n r, OutN S t n ⟨0, [], none⟩ r ∧
    (match r with
      | .error e => whereM S t = .error e
      | .ok (m, p) => if p = t.length then whereM S t = .ok m else whereM S t = .error p) := by
  have h := lands S wf t 500 0 [] (by simp) (by omega)
  rw [List.drop_zero] at h
  have e : readForm t = (match formIn 500 (0, t) with
    | .error e => .error e
    | .ok x => if x.2.2.isEmpty = true then .ok x.1 else .error x.2.1) := rfl
  cases hf : formIn 500 (0, t) with
  | error e0 =>
    rw [hf] at h e
    obtain ⟨n, hn⟩ := h
    exact ⟨n, _, hn, by unfold whereM; rw [e]; rfl⟩
  | ok x =>
    rw [hf] at h e
    obtain ⟨h1, h2, h3⟩ := h
    obtain ⟨n, hn⟩ := h3 0 _ (.fin x.2.1 (holdMask S x.1))
    refine ⟨n, _, hn, ?_⟩
    dsimp only at e ⊢
    by_cases c : x.2.1 = t.length
    · rw [if_pos c]
      have : x.2.2.isEmpty = true := by rw [h1, c]; simp
      rw [if_pos this] at e
      unfold whereM; rw [e]; rfl
    · rw [if_neg c]
      have : ¬ x.2.2.isEmpty = true := by
        rw [h1, List.isEmpty_iff, List.drop_eq_nil_iff]
        omega
      rw [if_neg this] at e
      unfold whereM; rw [e]; rfl
end Lk
end

section
set_option linter.unusedVariables false
/-! Likeness, the mathematics, part D: the formula that tells two states, without a bound; the specification's is the same while it fits. -/
namespace Lk
open Ln

def tform (S : Sys) : Nat → Nat → Nat → Form
  | 0, s, _ => .colour (S.colours.getD s 0)
  | k + 1, s, t => if (R S k).getD s 0 = (R S k).getD t 0 then
      (match loneArc S (R S k) s t with
        | some z => .after z.1 (joined ((S.by_ t z.1).map (tform S k z.2)))
        | none => match loneArc S (R S k) t s with
          | some z => .neg (.after z.1 (joined ((S.by_ s z.1).map (tform S k z.2))))
          | none => .top)
      else tform S k s t
theorem tform_down (S : Sys) {k s t : Nat} (h : (R S k).getD s 0 ≠ (R S k).getD t 0) : tform S (k + 1) s t = tform S k s t := by
  rw [tform, if_neg h]
theorem tform_le (S : Sys) (W : Wf S) {j k s t : Nat} (hjk : j ≤ k) (hs : s < S.states) (ht : t < S.states) (h : (R S j).getD s 0 ≠ (R S j).getD t 0) : tform S k s t = tform S j s t := by
  induction k with
  | zero => have : j = 0 := by omega
            subst this; rfl
  | succ k ih =>
    by_cases e : j = k + 1
    · subst e; rfl
    · rw [tform_down S fun q => h (R_refine_le S W (by omega) hs ht q)]
      exact ih (by omega)
/-- the formula that tells s from t -/
def tf (S : Sys) (s t : Nat) : Form := tform S ((S.depth s t).getD 0) s t
theorem tf_at (S : Sys) (W : Wf S) {k s t : Nat} (hk : k ≤ S.states) (hs : s < S.states) (ht : t < S.states) (h : (R S k).getD s 0 ≠ (R S k).getD t 0) : tform S k s t = tf S s t := by
  obtain ⟨j, h1, h2, h3⟩ := part_at S h
  unfold tf
  rw [depth_some S W (by omega) h2 h3]
  exact tform_le S W h1 hs ht h2

theorem loneArc_some {S : Sys} {w : List Nat} {x y : Nat} {z : Nat × Nat} (h : loneArc S w x y = some z) : z ∈ S.from_ x ∧ ∀ v ∈ S.by_ y z.1, w.getD z.2 0 ≠ w.getD v 0 := by
  unfold loneArc at h
  have h1 := List.mem_of_find?_eq_some h
  have h2 := List.find?_some h
  refine ⟨h1, fun v hv => ?_⟩
  rw [List.all_eq_true] at h2
  simpa using h2 v hv
theorem loneArc_none {S : Sys} {w : List Nat} {x y : Nat} (h : loneArc S w x y = none) : ∀ p, p ∈ fol S w x → p ∈ fol S w y := by
  unfold loneArc at h
  rw [List.find?_eq_none] at h
  intro p hp
  obtain ⟨a, ha, rfl⟩ := (mem_fol S w x p).mp hp
  have := h a ha
  rw [List.all_eq_true] at this
  have : ∃ v, v ∈ S.by_ y a.1 ∧ w.getD a.2 0 = w.getD v 0 := by
    apply Classical.byContradiction
    intro hn
    apply this
    intro v hv
    simp only [bne_iff_ne, ne_eq]
    exact fun e => hn ⟨v, hv, e⟩
  obtain ⟨v, hv, e⟩ := this
  exact (mem_fol S w y _).mpr ⟨(a.1, v), (mem_by S y a.1 v).mp hv, by rw [e]⟩
/-- where two part there's a lone arc on one side -/
theorem lone_one (S : Sys) (W : Wf S) {k s t : Nat} (hs : s < S.states) (ht : t < S.states) (he : (R S k).getD s 0 = (R S k).getD t 0) (hn : (R S (k + 1)).getD s 0 ≠ (R S (k + 1)).getD t 0) (h1 : loneArc S (R S k) s t = none) : ∃ z, loneArc S (R S k) t s = some z := by
  cases h2 : loneArc S (R S k) t s with
  | some z => exact ⟨z, rfl⟩
  | none =>
    exfalso
    apply hn
    rw [R_succ_iff S k hs ht]
    refine Prod.ext ((R_zero_iff S hs ht).mp (R_refine_le S W (Nat.zero_le k) hs ht he)) ?_
    exact fol_eq_of S _ s t fun x => ⟨loneArc_none h1 x, loneArc_none h2 x⟩

def joinText : List Bytes → Bytes
  | [] => [116]
  | x :: r => match r with
    | [] => x
    | _ => 40 :: (x ++ (38 :: (joinText r ++ [41])))
theorem joined_text : ∀ fs : List Form, (joined fs).text = joinText (fs.map (·.text))
  | [] => rfl
  | [f] => rfl
  | f :: g :: r => by
    have ih := joined_text (g :: r)
    show 40 :: (f.text ++ (38 :: ((joined (g :: r)).text ++ [41]))) = 40 :: (f.text ++ (38 :: (joinText ((g :: r).map (·.text)) ++ [41])))
    rw [ih]
def sumLen (l : List Bytes) : Nat := (l.map List.length).sum
theorem joinText_length : ∀ l : List Bytes, (joinText l).length = (if l.length = 0 then 1 else sumLen l + 3 * (l.length - 1))
  | [] => rfl
  | [x] => by simp [joinText, sumLen]
  | x :: y :: r => by
    have ih := joinText_length (y :: r)
    show (40 :: (x ++ (38 :: (joinText (y :: r) ++ [41])))).length = _
    simp only [List.length_cons, List.length_append, ih, sumLen, List.map_cons, List.sum_cons, List.length_nil]
    simp
    omega
theorem after_length (a : Nat) (gs : List Form) : (Form.after a (joined gs)).text.length = around a gs.length + sumLen (gs.map (·.text)) := by
  show (60 :: (dec a ++ (62 :: (joined gs).text))).length = _
  rw [joined_text]
  simp only [List.length_cons, List.length_append, joinText_length, List.length_map, around]
  split <;> simp_all [sumLen] <;> omega

/-- the many behind an arc, told with so many bytes left -/
theorem fold_tell (S : Sys) (k : Nat) (to : Nat) (ih : ∀ (b v : Nat), v < S.states → (R S k).getD to 0 ≠ (R S k).getD v 0 →
      tellIn S S.rounds k b to v = if (tform S k to v).text.length ≤ b then some (tform S k to v, b - (tform S k to v).text.length) else none) :
    ∀ (vs : List Nat) (fs : List Form) (b : Nat), (∀ v ∈ vs, v < S.states ∧ (R S k).getD to 0 ≠ (R S k).getD v 0) →
      vs.foldl (fun (o : Option (List Form × Nat)) (v : Nat) => o.bind fun (p : List Form × Nat) => (tellIn S S.rounds k p.2 to v).map fun (q : Form × Nat) => (p.1 ++ [q.1], q.2)) (some (fs, b)) =
        if sumLen ((vs.map (tform S k to)).map (·.text)) ≤ b then some (fs ++ vs.map (tform S k to), b - sumLen ((vs.map (tform S k to)).map (·.text))) else none
  | [], fs, b, _ => by simp [sumLen]
  | v :: vs, fs, b, h => by
    have hv := h v List.mem_cons_self
    have none_fold : ∀ l : List Nat, l.foldl (fun (o : Option (List Form × Nat)) (v : Nat) => o.bind fun (p : List Form × Nat) => (tellIn S S.rounds k p.2 to v).map fun (q : Form × Nat) => (p.1 ++ [q.1], q.2)) none = none := by
      intro l
      induction l with
      | nil => rfl
      | cons a l ihl => rw [List.foldl_cons]; exact ihl
    rw [List.foldl_cons, Option.bind_some, ih b v hv.1 hv.2]
    have es : sumLen (((v :: vs).map (tform S k to)).map (·.text)) = (tform S k to v).text.length + sumLen ((vs.map (tform S k to)).map (·.text)) := by simp [sumLen]
    rw [es]
    by_cases c : (tform S k to v).text.length ≤ b
    · rw [if_pos c, Option.map_some, fold_tell S k to ih vs _ _ fun u hu => h u (List.mem_cons_of_mem _ hu)]
      dsimp only
      by_cases d : sumLen ((vs.map (tform S k to)).map (·.text)) ≤ b - (tform S k to v).text.length
      · rw [if_pos d, if_pos (by omega)]
        simp only [List.map_cons, List.append_assoc, List.singleton_append]
        congr 2
        omega
      · rw [if_neg d, if_neg (by omega)]
    · rw [if_neg c, Option.map_none, none_fold, if_neg (by omega)]
theorem tellIn_eq (S : Sys) (W : Wf S) : ∀ (k : Nat), k ≤ S.states → ∀ (b s t : Nat), s < S.states → t < S.states → (R S k).getD s 0 ≠ (R S k).getD t 0 →
    tellIn S S.rounds k b s t = if (tform S k s t).text.length ≤ b then some (tform S k s t, b - (tform S k s t).text.length) else none
  | 0, _, b, s, t, hs, ht, h => by
    show (if 1 + (dec (S.colours.getD s 0)).length ≤ b then some ((Form.colour (S.colours.getD s 0)), b - (1 + (dec (S.colours.getD s 0)).length)) else none) = _
    have e : (tform S 0 s t).text.length = 1 + (dec (S.colours.getD s 0)).length := by
      show (99 :: dec (S.colours.getD s 0)).length = _
      simp; omega
    rw [e]; rfl
  | k + 1, hk, b, s, t, hs, ht, h => by
    by_cases c : (R S k).getD s 0 = (R S k).getD t 0
    · have al : alikeIn S.rounds k s t = true := by rw [alikeIn_eq S W (by omega), c]; simp
      have side : ∀ (x y b : Nat) (z : Nat × Nat), x < S.states → y < S.states → loneArc S (R S k) x y = some z →
          (if b < around z.1 (S.by_ y z.1).length then none else
            ((S.by_ y z.1).foldl (fun (o : Option (List Form × Nat)) (v : Nat) => o.bind fun (p : List Form × Nat) => (tellIn S S.rounds k p.2 z.2 v).map fun (q : Form × Nat) => (p.1 ++ [q.1], q.2)) (some ([], b - around z.1 (S.by_ y z.1).length))).map fun (p : List Form × Nat) => ((.after z.1 (joined p.1) : Form), p.2)) =
          if (Form.after z.1 (joined ((S.by_ y z.1).map (tform S k z.2)))).text.length ≤ b then some (Form.after z.1 (joined ((S.by_ y z.1).map (tform S k z.2))), b - (Form.after z.1 (joined ((S.by_ y z.1).map (tform S k z.2)))).text.length) else none := by
        intro x y b z hx hy hz
        obtain ⟨h1, h2⟩ := loneArc_some hz
        rw [after_length, List.length_map]
        by_cases d : b < around z.1 (S.by_ y z.1).length
        · rw [if_pos d, if_neg (by omega)]
        · rw [if_neg d, fold_tell S k z.2 (fun b v hv hn => tellIn_eq S W k (by omega) b z.2 v (W.to h1).2.2 hv hn) _ _ _ fun v hv => ⟨(W.to ((mem_by S y z.1 v).mp hv)).2.2, h2 v hv⟩]
          by_cases f : sumLen ((List.map (tform S k z.2) (S.by_ y z.1)).map (·.text)) ≤ b - around z.1 (S.by_ y z.1).length
          · rw [if_pos f, if_pos (by omega), Option.map_some]
            simp only [List.nil_append]
            congr 2
            omega
          · rw [if_neg f, if_neg (by omega), Option.map_none]
      have un : tellIn S S.rounds (k + 1) b s t = (match loneArc S (R S k) s t with
          | some z => (if b < around z.1 (S.by_ t z.1).length then none else
            ((S.by_ t z.1).foldl (fun (o : Option (List Form × Nat)) (v : Nat) => o.bind fun (p : List Form × Nat) => (tellIn S S.rounds k p.2 z.2 v).map fun (q : Form × Nat) => (p.1 ++ [q.1], q.2)) (some ([], b - around z.1 (S.by_ t z.1).length))).map fun (p : List Form × Nat) => ((.after z.1 (joined p.1) : Form), p.2))
          | none => match loneArc S (R S k) t s with
            | some z => if b = 0 then none else ((if b - 1 < around z.1 (S.by_ s z.1).length then none else
              ((S.by_ s z.1).foldl (fun (o : Option (List Form × Nat)) (v : Nat) => o.bind fun (p : List Form × Nat) => (tellIn S S.rounds k p.2 z.2 v).map fun (q : Form × Nat) => (p.1 ++ [q.1], q.2)) (some ([], b - 1 - around z.1 (S.by_ s z.1).length))).map fun (p : List Form × Nat) => ((.after z.1 (joined p.1) : Form), p.2))).map fun (q : Form × Nat) => (.neg q.1, q.2)
            | none => none) := by
        rw [tellIn, if_neg (by rw [al]; decide), rounds_getD S W (by omega : k ≤ S.states)]
        rfl
      rw [un, tform, if_pos c]
      cases h1 : loneArc S (R S k) s t with
      | some z => exact side s t b z hs ht h1
      | none =>
        obtain ⟨z, h2⟩ := lone_one S W hs ht c h h1
        rw [h2]
        dsimp only
        rw [side t s (b - 1) z ht hs h2]
        have ln : ∀ f : Form, (Form.neg f).text.length = f.text.length + 1 := fun f => rfl
        rw [ln]
        by_cases b0 : b = 0
        · rw [if_pos b0, if_neg (by omega)]
        · rw [if_neg b0]
          by_cases d : (Form.after z.1 (joined ((S.by_ s z.1).map (tform S k z.2)))).text.length ≤ b - 1
          · rw [if_pos d, if_pos (by omega), Option.map_some]
            congr 2
            omega
          · rw [if_neg d, if_neg (by omega), Option.map_none]
    · rw [tform_down S c, ← tellIn_eq S W k (by omega) b s t hs ht c]
      rw [tellIn, if_pos]
      rw [alikeIn_eq S W (by omega)]
      simpa using c
/-- the specification's telling: the formula, if it has at most 500 bytes -/
theorem tell_eq (S : Sys) (W : Wf S) {k s t : Nat} (hk : k ≤ S.states) (hs : s < S.states) (ht : t < S.states) (h : S.depth s t = some k) : Ln.tell S k s t = if (tf S s t).text.length ≤ 500 then some (tf S s t) else none := by
  have hp : (R S k).getD s 0 ≠ (R S k).getD t 0 := by
    have := List.find?_some (show (List.range (S.states + 1)).find? (fun (k : Nat) => !alikeIn S.rounds k s t) = some k from h)
    rw [alikeIn_eq S W hk] at this
    simpa using this
  have e : tf S s t = tform S k s t := by unfold tf; rw [h]; rfl
  unfold Ln.tell
  rw [tellIn_eq S W k hk MOST s t hs ht hp, ← e]
  show (if (tf S s t).text.length ≤ 500 then some (tf S s t, 500 - (tf S s t).text.length) else none).map (fun (q : Form × Nat) => q.1) = _
  split <;> rfl

/-! ### one turn of the telling, by how soon two part -/
theorem tf_zero (S : Sys) {s t : Nat} (h : S.depth s t = some 0) : tf S s t = .colour (S.colours.getD s 0) := by
  unfold tf; rw [h]; rfl
theorem depth_part (S : Sys) (W : Wf S) {k s t : Nat} (h : S.depth s t = some k) : k ≤ S.states ∧ (R S k).getD s 0 ≠ (R S k).getD t 0 ∧ ∀ i, i < k → (R S i).getD s 0 = (R S i).getD t 0 := by
  have hd : (List.range (S.states + 1)).find? (fun (k : Nat) => !alikeIn S.rounds k s t) = some k := h
  have hm := List.mem_range.mp (List.mem_of_find?_eq_some hd)
  have hk : k ≤ S.states := by omega
  have hn : (R S k).getD s 0 ≠ (R S k).getD t 0 := by
    have := List.find?_some hd
    rw [alikeIn_eq S W hk] at this
    simpa using this
  refine ⟨hk, hn, fun i hi => Classical.byContradiction fun c => ?_⟩
  obtain ⟨j, h1, h2, h3⟩ := part_at S c
  have := depth_some S W (by omega) h2 h3
  rw [h] at this
  have := Option.some.inj this
  omega
theorem depth_swap (S : Sys) (W : Wf S) {k s t : Nat} (h : S.depth s t = some k) : S.depth t s = some k := by
  obtain ⟨h1, h2, h3⟩ := depth_part S W h
  exact depth_some S W h1 (Ne.symm h2) fun i hi => (h3 i hi).symm
theorem tf_succ (S : Sys) (W : Wf S) {k s t : Nat} (hs : s < S.states) (ht : t < S.states) (h : S.depth s t = some (k + 1)) :
    tf S s t = (match loneArc S (R S k) s t with
      | some z => .after z.1 (joined ((S.by_ t z.1).map (tf S z.2)))
      | none => .neg (tf S t s)) := by
  obtain ⟨h1, h2, h3⟩ := depth_part S W h
  have sub : ∀ (x y : Nat) (z : Nat × Nat), loneArc S (R S k) x y = some z → (S.by_ y z.1).map (tform S k z.2) = (S.by_ y z.1).map (tf S z.2) := by
    intro x y z hz
    obtain ⟨a1, a2⟩ := loneArc_some hz
    apply List.map_congr_left
    intro v hv
    exact tf_at S W (by omega) (W.to a1).2.2 (W.to ((mem_by S y z.1 v).mp hv)).2.2 (a2 v hv)
  have one : ∀ x y, S.depth x y = some (k + 1) → (R S k).getD x 0 = (R S k).getD y 0 → ∀ z, loneArc S (R S k) x y = some z → tf S x y = .after z.1 (joined ((S.by_ y z.1).map (tf S z.2))) := by
    intro x y hd he z hz
    unfold tf
    rw [hd]
    show tform S (k + 1) x y = _
    rw [tform, if_pos he, hz]
    dsimp only
    rw [sub x y z hz]
    rfl
  cases c : loneArc S (R S k) s t with
  | some z => exact one s t h (h3 k (by omega)) z c
  | none =>
    obtain ⟨z, hz⟩ := lone_one S W hs ht (h3 k (by omega)) h2 c
    dsimp only
    rw [one t s (depth_swap S W h) (h3 k (by omega)).symm z hz]
    unfold tf
    rw [h]
    show tform S (k + 1) s t = _
    rw [tform, if_pos (h3 k (by omega)), c]
    dsimp only
    rw [hz]
    dsimp only
    rw [sub t s z hz]
    rfl
/-- states behind a lone arc part sooner -/
theorem lone_sooner (S : Sys) (W : Wf S) {k s t v : Nat} {z : Nat × Nat} (hk : k ≤ S.states) (h : loneArc S (R S k) s t = some z) (hv : v ∈ S.by_ t z.1) : ∃ j, j ≤ k ∧ S.depth z.2 v = some j := by
  obtain ⟨h1, h2⟩ := loneArc_some h
  obtain ⟨j, a, b, c⟩ := part_at S (h2 v hv)
  exact ⟨j, a, depth_some S W (by omega) b c⟩
end Lk
end

section
set_option Elab.async false
set_option linter.all false
set_option maxRecDepth 100000
set_option maxHeartbeats 2000000
/-! Sets of tuples of whole numbers with up to 300 members: the table may grow to 512 slots. -/
namespace LkS
open PySem PySem.Spec PyProof.Rows L2

/-! ### a mask whose round i -> 5 i + 1 comes everywhere -/
def Full (m : Nat) : Prop := ∀ i j, i ≤ m → j ≤ m → ∃ k, k ≤ m ∧ lcgI m i k = j
def orb (m : Nat) : Nat → Nat → List Nat
  | 0, _ => []
  | n + 1, x => x :: orb m n ((x * 5 + 1) % (m + 1))
theorem orb_get (m : Nat) : ∀ n a b, b < n → (orb m n (lcgN m a))[b]? = some (lcgN m (a + b))
  | 0, _, _, h => absurd h (Nat.not_lt_zero _)
  | n + 1, a, 0, _ => rfl
  | n + 1, a, b + 1, h => by
    have e := orb_get m n (a + 1) b (Nat.lt_of_succ_lt_succ h)
    rw [show a + (b + 1) = a + 1 + b by omega]
    exact e
theorem orb_len (m : Nat) : ∀ n x, (orb m n x).length = n
  | 0, _ => rfl
  | n + 1, x => congrArg (· + 1) (orb_len m n _)
def bitsOf (l : List Nat) : Nat := l.foldl (fun acc x => acc ||| 2 ^ x) 0
theorem bits_mem (j : Nat) : ∀ (l : List Nat) (a : Nat), (l.foldl (fun acc x => acc ||| 2 ^ x) a).testBit j = true → a.testBit j = true ∨ j ∈ l
  | [], a, h => .inl h
  | x :: l, a, h => by
    rcases bits_mem j l _ h with z | z
    · rw [Nat.testBit_or, Nat.testBit_two_pow, Bool.or_eq_true, decide_eq_true_eq] at z
      rcases z with z | z
      · exact .inl z
      · exact .inr (by rw [z]; exact List.mem_cons_self)
    · exact .inr (List.mem_cons_of_mem _ z)
theorem all511 : bitsOf (orb 511 512 0) = 1 <<< 512 - 1 := by decide +kernel
theorem round511 : lcgN 511 512 = 0 := by decide +kernel
theorem meets511 {j : Nat} (h : j ≤ 511) : ∃ b, b ≤ 511 ∧ lcgN 511 b = j := by
  have t : (bitsOf (orb 511 512 0)).testBit j = true := by
    rw [all511, Nat.shiftLeft_eq, Nat.one_mul, Nat.testBit_two_pow_sub_one, decide_eq_true_eq]; omega
  rcases bits_mem j _ 0 t with z | z
  · rw [Nat.zero_testBit] at z; cases z
  · obtain ⟨b, hb, e⟩ := List.mem_iff_getElem.mp z
    rw [orb_len] at hb
    have q := orb_get 511 512 0 b hb
    have q2 : (orb 511 512 0)[b]? = some j := by rw [List.getElem?_eq_getElem (by rw [orb_len]; exact hb), e]
    have q3 : (orb 511 512 0)[b]? = some (lcgN 511 (0 + b)) := q
    rw [q2, Nat.zero_add] at q3
    exact ⟨b, by omega, (Option.some.inj q3).symm⟩
theorem wrap511 : ∀ k, lcgN 511 (512 + k) = lcgN 511 k
  | 0 => round511
  | k + 1 => by
    show (lcgN 511 (512 + k) * 5 + 1) % 512 = (lcgN 511 k * 5 + 1) % 512
    rw [wrap511 k]
theorem full511 : Full 511 := by
  intro i j hi hj
  obtain ⟨a, ha, ea⟩ := meets511 hi
  obtain ⟨b, hb, eb⟩ := meets511 hj
  rw [← ea, ← eb]
  by_cases c : a ≤ b
  · exact ⟨b - a, by omega, by rw [lcgN_add]; congr 1; omega⟩
  · refine ⟨512 + b - a, by omega, ?_⟩
    rw [lcgN_add, show a + (512 + b - a) = 512 + b by omega, wrap511]
/-- the masks that come -/
def Mk4 (m : Nat) : Prop := m = 7 ∨ m = 31 ∨ m = 127 ∨ m = 511
theorem Mk4.full {m : Nat} (h : Mk4 m) : Full m := by
  rcases h with e | e | e | e
  · exact fun i j hi hj => lcgI_all (.inl e) hi hj
  · exact fun i j hi hj => lcgI_all (.inr (.inl e)) hi hj
  · exact fun i j hi hj => lcgI_all (.inr (.inr e)) hi hj
  · subst e; exact full511
theorem Mk4.le {m : Nat} (h : Mk4 m) : m ≤ 511 := by rcases h with e | e | e | e <;> omega

/-! ### the steps of a search -/
/-- where a search for the hash h stands behind k steps -/
def stp (m : Nat) (h : Int) (k : Nat) : SetTable.Probe := nth m (runAt m (SetTable.bits h % (m + 1)) (SetTable.bits h)) k
abbrev pl (m : Nat) (h : Int) (k : Nat) : Nat := (stp m h k).j
theorem stp_add (m : Nat) (h : Int) (a k : Nat) : nth m (stp m h a) k = stp m h (a + k) := (nth_add m a _ k).symm
theorem stp_clean (m : Nat) (h : Int) (k : Nat) : (stp m h k).dummy = none := by
  have go : ∀ (n : Nat) (p : SetTable.Probe), p.dummy = none → (nth m p n).dummy = none := by
    intro n
    induction n with
    | zero => exact fun _ q => q
    | succ n ih => exact fun p q => ih (adv m p) (by unfold adv; split <;> exact q)
  exact go k _ rfl
theorem pl_le (m : Nat) (h : Int) (k : Nat) : pl m h k ≤ m := by
  have b0 : SetTable.bits h % (m + 1) ≤ m := Nat.le_of_lt_succ (Nat.mod_lt _ (Nat.succ_pos _))
  have e := runEnd_bd b0
  have z := nth_in (m := m) k (runAt m (SetTable.bits h % (m + 1)) (SetTable.bits h)) (by
    show SetTable.bits h % (m + 1) + (SetTable.runEnd m (SetTable.bits h % (m + 1)) - SetTable.bits h % (m + 1)) ≤ m
    omega)
  exact Nat.le_trans (Nat.le_add_right _ _) z
theorem run_at {m : Nat} (F : Full m) (h : Int) {j : Nat} (hj : j ≤ m) : ∃ n, n ≤ m + 12 ∧ runI m (SetTable.bits h) n = j := by
  obtain ⟨k, q, e⟩ := F _ j (runI_le m (SetTable.bits h) 12) hj
  exact ⟨12 + k, by omega, (runI_tail (bits_lt h) k).trans e⟩
theorem pl_at {m : Nat} (F : Full m) (h : Int) {j : Nat} (hj : j ≤ m) : ∃ k, k < 10 * SetTable.turns m ∧ pl m h k = j := by
  obtain ⟨n, q, e⟩ := run_at F h hj
  obtain ⟨k, hk, ek⟩ := run_nth m (SetTable.bits h) n
  refine ⟨k, by unfold SetTable.turns; omega, ?_⟩
  show (nth m (runAt m (SetTable.bits h % (m + 1)) (SetTable.bits h)) k).j = j
  rw [ek]; exact e

/-! ### a table in order -/
structure Tab (t : SetTable) (hs : List Int) : Prop where
  up : Ris t.place.toList
  no : t.dummies = #[]
  len : t.place.size = hs.length
  fm : Mk4 t.mask
  bd : ∀ x ∈ t.place.toList, x ≤ t.mask
  way : ∀ (i : Nat) (h : Int) (j : Nat), hs[i]? = some h → t.place.toList[i]? = some j → ∃ k, pl t.mask h k = j ∧ ∀ k', k' < k → pl t.mask h k' ∈ t.place.toList
section
variable {t : SetTable} {hs : List Int}
theorem Tab.open_ (T : Tab t hs) (hl : hs.length ≤ t.mask) (h : Int) : ∃ K, K < 10 * SetTable.turns t.mask ∧ pl t.mask h K ∉ t.place.toList ∧ ∀ k, k < K → pl t.mask h k ∈ t.place.toList := by
  obtain ⟨j, hj, hn⟩ := st_missing t.place.toList (t.mask + 1) (by rw [Array.length_toList, T.len]; omega)
  obtain ⟨k, hk, e⟩ := pl_at T.fm.full h (Nat.le_of_lt_succ hj)
  obtain ⟨K, l, a, b⟩ := st_least (p := fun k => pl t.mask h k ∉ t.place.toList) k (e ▸ hn)
  exact ⟨K, by omega, a, fun k' hk' => Classical.byContradiction fun c => b k' hk' c⟩
theorem Tab.ahead (T : Tab t hs) {h : Int} {K i j : Nat} (hK : pl t.mask h K ∉ t.place.toList) (hi : hs[i]? = some h) (hj : t.place.toList[i]? = some j) : ∃ k, k < K ∧ pl t.mask h k = j := by
  obtain ⟨k, e, hb⟩ := T.way i h j hi hj
  refine ⟨k, ?_, e⟩
  rcases Nat.lt_trichotomy k K with c | c | c
  · exact c
  · exact absurd (c ▸ e ▸ List.mem_of_getElem? hj) hK
  · exact absurd (hb K c) hK
theorem Tab.put (T : Tab t hs) {h : Int} {K j p : Nat} (ej : pl t.mask h K = j) (ep : SetTable.below t.place j = p) (hK : j ∉ t.place.toList) (hb : ∀ k, k < K → pl t.mask h k ∈ t.place.toList) :
    p ≤ hs.length ∧ Tab (t.put j).1 (hs.take p ++ h :: hs.drop p) ∧ (t.put j).1.fill = hs.length + 1 := by
  have cut := (below_cut T.up j).1
  rw [ep] at cut
  have p1 : p ≤ t.place.toList.length := by rw [Array.length_toList]; exact cut
  have p2 : p ≤ hs.length := by rw [← T.len]; exact cut
  have pp := put_place t j
  rw [ep] at pp
  have sz : (t.put j).1.place.size = hs.length + 1 := by rw [← Array.length_toList, pp, len_ins _ p1, Array.length_toList, T.len]
  have old : ∀ x, x ∈ t.place.toList → x ∈ (t.put j).1.place.toList := fun x hx => by rw [pp]; exact mem_ins.2 (.inr hx)
  have nw : t.place[SetTable.below t.place j]? ≠ some j := fun e => hK (List.mem_of_getElem? (by rw [Array.getElem?_toList]; exact e))
  refine ⟨p2, ⟨ris_insert T.up nw, put_dm T.no j, ?_, T.fm, ?_, ?_⟩, ?_⟩
  · rw [len_ins _ p2]; exact sz
  · intro x hx
    rw [pp] at hx
    rcases mem_ins.1 hx with z | z
    · rw [z, ← ej]; exact pl_le _ _ _
    · exact T.bd x z
  · intro i h' j' h1 h2
    rw [tins_get hs p2] at h1
    rw [pp, tins_get _ p1] at h2
    by_cases c : i < p
    · rw [if_pos c] at h1 h2
      obtain ⟨k, e, z⟩ := T.way i h' j' h1 h2
      exact ⟨k, e, fun k' q => old _ (z k' q)⟩
    · rw [if_neg c] at h1 h2
      by_cases d : i = p
      · rw [if_pos d] at h1 h2
        cases h1
        cases h2
        exact ⟨K, ej, fun k' q => old _ (hb k' q)⟩
      · rw [if_neg d] at h1 h2
        obtain ⟨k, e, z⟩ := T.way (i - 1) h' j' h1 h2
        exact ⟨k, e, fun k' q => old _ (z k' q)⟩
  · show (t.put j).1.place.size + (t.put j).1.dummies.size = hs.length + 1
    rw [sz, put_dm T.no j]; rfl
end

/-! ### laying all anew -/
theorem lay_free {m : Nat} (F : Full m) (owner : Array (Option Nat)) (h : Int) {j : Nat} (hj : j ≤ m) (hf : oAt owner j = none) :
    ∃ K, SetTable.layClean.free m owner (SetTable.turns m) (SetTable.bits h % (m + 1)) (SetTable.bits h) = some (pl m h K) ∧ oAt owner (pl m h K) = none ∧ ∀ k, k < K → oAt owner (pl m h k) ≠ none := by
  obtain ⟨n, hn, e⟩ := run_at F h hj
  have at_n : pl m h (off m (SetTable.bits h % (m + 1)) (SetTable.bits h) n) = j := by
    unfold pl stp
    rw [nth_off, itL_run]
    exact e
  obtain ⟨K, a, b, c⟩ := st_least (p := fun k => oAt owner (pl m h k) = none) _ (show oAt owner (pl m h (off m (SetTable.bits h % (m + 1)) (SetTable.bits h) n)) = none by rw [at_n]; exact hf)
  have occ : ∀ k, k < K → (oAt owner (pl m h k)).isNone = false := fun k hk => by
    cases z : oAt owner (pl m h k) with
    | none => exact absurd z (c k hk)
    | some _ => rfl
  exact ⟨K, free_spec m owner (SetTable.turns m) n _ _ K (by unfold SetTable.turns; omega) a occ (by rw [show oAt owner (nth m (runAt m (SetTable.bits h % (m + 1)) (SetTable.bits h)) K).j = none from b]; rfl), b, c⟩
/-- who sits where, behind so many -/
structure Seat (m : Nat) (done : List Int) (owner : Array (Option Nat)) : Prop where
  sz : owner.size = m + 1
  who : ∀ j k, j ≤ m → oAt owner j = some k → ∃ h K, done[k]? = some h ∧ pl m h K = j ∧ ∀ k', k' < K → oAt owner (pl m h k') ≠ none
  all : ∀ k, k < done.length → ∃ j, j ≤ m ∧ oAt owner j = some k
  few : ∃ ps : List Nat, ps.length = done.length ∧ ∀ j, j ≤ m → oAt owner j ≠ none → j ∈ ps
theorem Seat.zero (m : Nat) : Seat m [] (Array.replicate (m + 1) none) :=
  ⟨by simp, fun j k hj e => (by rw [oAt_init hj] at e; cases e), fun k hk => absurd hk (Nat.not_lt_zero _), ⟨[], rfl, fun j hj e => absurd (oAt_init hj) e⟩⟩
theorem Seat.next {m : Nat} (F : Full m) {done : List Int} {owner : Array (Option Nat)} (W : Seat m done owner) (hl : done.length ≤ m) (h : Int) :
    ∃ j, SetTable.layClean.free m owner (SetTable.turns m) (SetTable.bits h % (m + 1)) (SetTable.bits h) = some j ∧ Seat m (done ++ [h]) (owner.setIfInBounds j (some done.length)) := by
  obtain ⟨ps, l, inn⟩ := W.few
  obtain ⟨g, hg, ng⟩ := st_missing ps (m + 1) (by omega)
  have fg : oAt owner g = none := Classical.byContradiction fun c => ng (inn g (Nat.le_of_lt_succ hg) c)
  obtain ⟨K, e1, e2, e3⟩ := lay_free F owner h (Nat.le_of_lt_succ hg) fg
  generalize ej : pl m h K = j at e1 e2
  have jm : j ≤ m := ej ▸ pl_le m h K
  have self := oAt_set_self (some done.length) (show j < owner.size by rw [W.sz]; omega)
  have stay : ∀ i, oAt owner i ≠ none → oAt (owner.setIfInBounds j (some done.length)) i ≠ none := fun i hi => by
    by_cases c : i = j
    · rw [c, self]; exact fun z => nomatch z
    · rw [oAt_set_ne _ c]; exact hi
  refine ⟨j, e1, ⟨by rw [Array.size_setIfInBounds]; exact W.sz, fun i k hi e => ?_, fun k hk => ?_, j :: ps, by simp [l], fun i hi e => ?_⟩⟩
  · by_cases c : i = j
    · rw [c, self] at e
      cases e
      exact ⟨h, K, by simp, ej.trans c.symm, fun k' q => stay _ (e3 k' q)⟩
    · rw [oAt_set_ne _ c] at e
      obtain ⟨h', K', a1, a2, a3⟩ := W.who i k hi e
      exact ⟨h', K', by rw [List.getElem?_append_left (List.getElem?_eq_some_iff.mp a1).1]; exact a1, a2, fun k' q => stay _ (a3 k' q)⟩
  · rw [List.length_append, List.length_singleton] at hk
    by_cases c : k < done.length
    · obtain ⟨i, hi, e⟩ := W.all k c
      exact ⟨i, hi, by rw [oAt_set_ne _ (fun z => by rw [z, e2] at e; cases e)]; exact e⟩
    · rw [show k = done.length by omega]
      exact ⟨j, jm, self⟩
  · by_cases c : i = j
    · rw [c]; exact List.mem_cons_self
    · rw [oAt_set_ne _ c] at e
      exact List.mem_cons_of_mem _ (inn i hi e)
theorem seat_all {m : Nat} (F : Full m) : ∀ (rest done : List Int) (owner : Array (Option Nat)), Seat m done owner → done.length + rest.length ≤ m →
    ∃ o2, rest.foldl (stepF m) (some (owner, done.length)) = some (o2, (done ++ rest).length) ∧ Seat m (done ++ rest) o2
  | [], done, owner, W, _ => ⟨owner, by simp, by rw [List.append_nil]; exact W⟩
  | h :: rest, done, owner, W, hl => by
    rw [List.length_cons] at hl
    obtain ⟨j, e, W2⟩ := W.next F (by omega) h
    obtain ⟨o2, f, W3⟩ := seat_all F rest (done ++ [h]) _ W2 (by rw [List.length_append, List.length_singleton]; omega)
    rw [List.append_assoc] at f W3
    rw [List.length_append (as := done) (bs := [h]), List.length_singleton] at f
    refine ⟨o2, ?_, W3⟩
    rw [List.foldl_cons, stepF_some e]
    exact f
theorem lay_clean {m : Nat} (F : Full m) {hs : Array Int} (hn : hs.size ≤ m) : ∃ owner, SetTable.layClean m hs = some owner ∧ Seat m hs.toList owner := by
  obtain ⟨o, f, W⟩ := seat_all F hs.toList [] _ (Seat.zero m) (by show 0 + hs.size ≤ m; omega)
  rw [List.nil_append] at W f
  refine ⟨o, ?_, W⟩
  rw [layClean_eq, show (0 : Nat) = ([] : List Int).length from rfl, f]
  rfl
theorem relaid_tab (t : SetTable) {hs : Array Int} {wanted M : Nat} (hw : SetTable.sizeAbove wanted - 1 = M) (hM : Mk4 M) (hn : hs.size ≤ M) :
    ∃ t2 order, t.relaid hs wanted = some (t2, order) ∧ order.toList.Perm (List.range hs.size) ∧ Tab t2 (order.toList.map fun i => hs.getD i 0) ∧ t2.mask = M ∧ t2.led = t.led ∧ t2.plain = t.plain := by
  obtain ⟨owner, e, W⟩ := lay_clean hM.full hn
  have up := ris_live (fun j => owner.getD j none) (List.range (M + 1)) List.pairwise_lt_range
  have u1 : Ris ((liveOf M owner).map (·.1)) := up.1
  have nd : ((liveOf M owner).map (·.1)).Nodup := u1.imp fun h => Nat.ne_of_lt h
  obtain ⟨ps, p1, p2⟩ := W.few
  have le1 := nat_nodup_len ((liveOf M owner).map (·.1)) ps nd fun x hx => by
    obtain ⟨⟨y, k⟩, hq, rfl⟩ := List.mem_map.mp hx
    obtain ⟨b1, b2⟩ := (mem_live W.sz).1 hq
    exact p2 y b1 (by rw [b2]; exact fun z => nomatch z)
  have seen : ∀ k, k < hs.size → k ∈ (liveOf M owner).map (·.2) := fun k hk => by
    obtain ⟨j, b1, b2⟩ := W.all k (by rw [Array.length_toList]; exact hk)
    exact List.mem_map.mpr ⟨(j, k), (mem_live W.sz).2 ⟨b1, b2⟩, rfl⟩
  have le2 := nat_nodup_len (List.range hs.size) ((liveOf M owner).map (·.2)) List.nodup_range fun k hk => seen k (List.mem_range.mp hk)
  rw [List.length_map, p1] at le1
  rw [List.length_map, List.length_range] at le2
  refine ⟨tabOf t M owner, ((liveOf M owner).map (·.2)).toArray, by rw [relaid_eq, hw, e]; rfl, perm_range hs.size _ (by rw [List.length_map]; show (liveOf M owner).length = hs.size; have zz : hs.toList.length = hs.size := rfl; omega) seen, ⟨u1, rfl, by rw [List.length_map]; show ((liveOf M owner).map (·.1)).toArray.size = ((liveOf M owner).map (·.2)).length; simp, hM, fun x hx => ?_, fun i h j h1 h2 => ?_⟩, rfl, rfl, rfl⟩
  · have := up.2 x hx
    exact Nat.le_of_lt_succ (List.mem_range.mp this)
  · have h1 : (((liveOf M owner).map (·.2)).map fun i => hs.getD i 0)[i]? = some h := h1
    have h2 : ((liveOf M owner).map (·.1))[i]? = some j := h2
    rw [List.getElem?_map] at h2
    rw [List.getElem?_map, List.getElem?_map] at h1
    cases hq : (liveOf M owner)[i]? with
    | none => rw [hq] at h2; cases h2
    | some q =>
      obtain ⟨y, k⟩ := q
      rw [hq] at h1 h2
      have ey : y = j := Option.some.inj h2
      subst ey
      have eh : hs.getD k 0 = h := Option.some.inj h1
      obtain ⟨b1, b2⟩ := (mem_live W.sz).1 (List.mem_of_getElem? hq)
      obtain ⟨g, K, a1, a2, a3⟩ := W.who y k b1 b2
      have eg : g = h := by
        rw [← eh, Array.getD_eq_getD_getElem?, ← Array.getElem?_toList, a1]; rfl
      subst eg
      refine ⟨K, a2, fun k' q => ?_⟩
      cases z : oAt owner (pl M g k') with
      | none => exact absurd z (a3 k' q)
      | some k2 => exact List.mem_map.mpr ⟨(pl M g k', k2), (mem_live W.sz).2 ⟨pl_le _ _ _, z⟩, rfl⟩
end LkS
end

section
set_option Elab.async false
set_option linter.all false
set_option maxRecDepth 100000
set_option maxHeartbeats 2000000
/-! Sets of tuples, further: the search, adding, set(xs). -/
namespace LkS
open PySem PySem.Spec PyProof.Rows L2
section
variable {P : Program} {w : World} {A : Around} {E : Value → Shared → Prop} {s : Shared}

abbrev hsOf (P : Program) (w : World) (L : List (Addr × List Int)) : List Int := L.map fun p => thash P w p.2
/-- the set at a holds the tuples L -/
structure SB (P : Program) (w : World) (h : Heap) (a : Addr) (L : List (Addr × List Int)) (es : Array (Int × Value)) (ep : Nat) (t : SetTable) : Prop where
  ob : ∃ o, h.get? a = some o ∧ o.ExactSet ∧ o.data = .set es ep t
  rows : es.toList = rowsOf P w L
  tab : Tab t (hsOf P w L)
  nd : (L.map (·.2)).Nodup
  tup : ∀ p ∈ L, IsT P w h p.2 p.1
  plain : t.plain = true
  led : w.params.followText "set-order" = true ∨ t.led = true
  room : L.length * 5 < t.mask * 3
  few : L.length ≤ 300
variable {a : Addr} {L : List (Addr × List Int)} {es : Array (Int × Value)} {ep : Nat} {t : SetTable}
theorem rows_size {L : List (Addr × List Int)} {es : Array (Int × Value)} (h : es.toList = rowsOf P w L) : es.size = L.length := by
  rw [← Array.length_toList, h]; simp [rowsOf]
theorem fits_of {L : List (Addr × List Int)} {es : Array (Int × Value)} {t : SetTable} (h : es.toList = rowsOf P w L) (T : Tab t (hsOf P w L)) (r : L.length ≤ t.mask) : t.fits es.size = true := by
  have h1 := T.len
  rw [List.length_map] at h1
  unfold SetTable.fits SetTable.fill
  rw [rows_size h, T.no, h1]
  simp
  exact r
theorem SB.fits (R : SB P w s.heap a L es ep t) : t.fits es.size = true := fits_of R.rows R.tab (by have := R.room; omega)
theorem SB.entry (R : SB P w s.heap a L es ep t) {i : Nat} {p : Addr × List Int} (h : L[i]? = some p) : es[i]? = some (thash P w p.2, Value.ref p.1) := by
  rw [← Array.getElem?_toList, R.rows, rowsOf, List.getElem?_map, h]; rfl
theorem SB.calm (R : SB P w s.heap a L es ep t) : ¬ t.gaveWay = true := by
  unfold SetTable.gaveWay
  rcases R.tab.fm with e | e | e | e <;> rw [e] <;> decide

/-- the search from its c-th step on -/
theorem look_from (R : SB P w s.heap a L es ep t) {x : Addr} {k : List Int} (hx : IsT P w s.heap k x) (hu : A.units < cLine) {K : Nat} (hKf : K < 10 * SetTable.turns t.mask)
    (hK : pl t.mask (thash P w k) K ∉ t.place.toList) (hKb : ∀ c, c < K → pl t.mask (thash P w k) c ∈ t.place.toList) {Q : SetFound → Shared → Prop}
    (yes : k ∈ L.map (·.2) → Q (.there none) s) (no : k ∉ L.map (·.2) → Q (.free (pl t.mask (thash P w k) K) false) s) :
    ∀ (f c : Nat) (stand : Option SetTable.Probe), stand.getD (t.probeStart (thash P w k)) = stp t.mask (thash P w k) c → c ≤ K → K - c < f →
      (∀ (i : Nat) p, L[i]? = some p → p.2 = k → ∃ c', c ≤ c' ∧ c' < K ∧ t.place.toList[i]? = some (pl t.mask (thash P w k) c')) →
      wpAny (model P w) A (setSearchFrom a (.ref x) (thash P w k) true f stand) Q E s := by
  intro f
  induction f with
  | zero => exact fun c _ _ _ hf _ => absurd hf (Nat.not_lt_zero _)
  | succ f ih =>
    intro c stand hst hc hf still
    obtain ⟨o, ho, hex, hd⟩ := R.ob
    have place_at : ∀ q, (nth t.mask (stp t.mask (thash P w k) c) q).j = pl t.mask (thash P w k) (c + q) := fun q => by rw [stp_add]
    have hash_at : ∀ (i : Nat) p, L[i]? = some p → (es[i]?.map (·.1)).getD 0 = thash P w p.2 := fun i p hp => by rw [R.entry hp]; rfl
    have spec := go_spec t R.tab.up R.tab.no (fun i => (es[i]?.map (·.1)).getD 0) (thash P w k) (10 * SetTable.turns t.mask) (K - c) (stp t.mask (thash P w k) c) (stp_clean _ _ _) (by omega)
      (fun q hq => by rw [place_at]; exact hKb _ (by omega)) (by rw [place_at, show c + (K - c) = K by omega]; exact hK)
    rw [setSearchFrom_succ]
    refine wpAny_bind (wpAny_setState_of ho hd R.fits ?_)
    dsimp only
    refine wp_if_neg R.calm ?_
    try refine wpAny_bind (wpAny_pure ?_)
    rcases spec with ⟨q, i, hq, hi, hh, early, hpr⟩ | ⟨early, hpr⟩
    · have met : t.probe (fun i => (es[i]?.map (·.1)).getD 0) (thash P w k) (stand.getD (t.probeStart (thash P w k))) = some (.candidate (pl t.mask (thash P w k) (c + q)) i (stp t.mask (thash P w k) (c + (q + 1)))) := by
        rw [hst, ← place_at q, ← stp_add]; exact hpr
      rw [met]
      dsimp only
      rw [place_at] at hi
      have lt : i < L.length := by
        have h1 := (List.getElem?_eq_some_iff.mp hi).1
        have h2 := R.tab.len
        rw [List.length_map] at h2
        rw [Array.length_toList] at h1
        omega
      obtain ⟨p, hp⟩ : ∃ p, L[i]? = some p := ⟨_, List.getElem?_eq_getElem lt⟩
      have pm : p ∈ L := List.mem_of_getElem? hp
      have slot := slot_live R.tab.up hi
      have behind : wpAny (model P w) A (searchRest a (.ref x) (thash P w k) true f es t (pl t.mask (thash P w k) (c + q)) i (stp t.mask (thash P w k) (c + (q + 1)))) Q E s := by
        unfold searchRest
        rw [R.entry hp]
        dsimp only
        refine wpAny_bind (wpAny_holding (wpAny_eqBool_tuple hu (R.tup p pm) hx ?_))
        refine wpAny_bind (wpAny_setState_of ho hd R.fits ?_)
        dsimp only
        by_cases same : p.2 = k
        · exact wp_if_pos (by simp [same]) (wpAny_pure (yes (List.mem_map.mpr ⟨p, pm, same⟩)))
        · refine wp_if_neg (by simp [same]) ?_
          try refine wpAny_bind (wpAny_pure ?_)
          rw [sameMem]
          dsimp only
          simp only [if_true, slot, R.entry hp]
          refine wpAny_bind (wpAny_isSame_ref_self (wpAny_bind (wpAny_pure ?_)))
          simp only [if_true]
          refine wp_if_neg (by simp [same]) (ih (c + (q + 1)) _ rfl (by omega) (by omega) fun i0 p0 h0 e0 => ?_)
          obtain ⟨c', a1, a2, a3⟩ := still i0 p0 h0 e0
          refine ⟨c', ?_, a2, a3⟩
          rcases Nat.lt_trichotomy c' (c + q) with z | z | z
          · exact absurd ((hash_at i0 p0 h0).trans (congrArg (thash P w) e0)) (early (c' - c) i0 (by omega) (by rw [place_at, show c + (c' - c) = c' by omega]; exact a3))
          · subst z
            have s0 := slot_live R.tab.up a3
            rw [slot] at s0
            injection s0 with s0
            rw [← s0, hp] at h0
            exact absurd ((congrArg Prod.snd (Option.some.inj h0)).trans e0) same
          · omega
      by_cases hl : t.led = true
      · refine wp_if_neg (by simp [hl]) ?_
        try refine wpAny_bind (wpAny_pure ?_)
        exact behind
      · refine wp_if_pos (by simp [hl]) (wpAny_bind (seen_tup hx (fun y hy => ?_) (wp_if_neg (by decide) ?_)))
        · obtain ⟨e, he, rfl⟩ := List.mem_map.mp hy
          have m : e ∈ es.toList := by
            have := (show e ∈ es ∧ e.1 = thash P w k by simpa using he).1
            simpa using this
          rw [R.rows] at m
          obtain ⟨p2, hp2, rfl⟩ := List.mem_map.mp m
          exact ⟨p2.2, p2.1, rfl, R.tup p2 hp2⟩
        · try refine wpAny_bind (wpAny_pure ?_)
          exact behind
    · have met : t.probe (fun i => (es[i]?.map (·.1)).getD 0) (thash P w k) (stand.getD (t.probeStart (thash P w k))) = some (.empty (pl t.mask (thash P w k) K) none) := by
        have e2 : pl t.mask (thash P w k) K = (nth t.mask (stp t.mask (thash P w k) c) (K - c)).j := by rw [place_at, show c + (K - c) = K by omega]
        rw [hst, e2]; exact hpr
      rw [met]
      dsimp only
      refine wpAny_pure (no fun m => ?_)
      obtain ⟨p0, h0, e0⟩ := List.mem_map.mp m
      obtain ⟨i0, hi0, q0⟩ := List.getElem_of_mem h0
      have h00 : L[i0]? = some p0 := by rw [List.getElem?_eq_getElem hi0, q0]
      obtain ⟨c', a1, a2, a3⟩ := still i0 p0 h00 e0
      exact early (c' - c) i0 (by omega) (by rw [place_at, show c + (c' - c) = c' by omega]; exact a3) ((hash_at i0 p0 h00).trans (congrArg (thash P w) e0))
theorem look_at (R : SB P w s.heap a L es ep t) {x : Addr} {k : List Int} (hx : IsT P w s.heap k x) (hu : A.units < cLine) {Q : SetFound → Shared → Prop}
    (yes : k ∈ L.map (·.2) → Q (.there none) s)
    (no : ∀ K, k ∉ L.map (·.2) → pl t.mask (thash P w k) K ∉ t.place.toList → (∀ c, c < K → pl t.mask (thash P w k) c ∈ t.place.toList) → Q (.free (pl t.mask (thash P w k) K) false) s) :
    wpAny (model P w) A (setSearch a (.ref x) (thash P w k) true) Q E s := by
  have room := R.room
  obtain ⟨K, f, n, b⟩ := R.tab.open_ (by rw [List.length_map]; omega) (thash P w k)
  have small : K < 100000 := by have := R.tab.fm.le; unfold SetTable.turns at f; omega
  unfold setSearch
  refine look_from R hx hu f n b yes (fun z => no K z n b) 100000 0 none rfl (Nat.zero_le _) (by omega) fun i p hp e => ?_
  have hi : (hsOf P w L)[i]? = some (thash P w k) := by rw [List.getElem?_map, hp, ← e]; rfl
  have lt : i < t.place.toList.length := by
    have h1 := (List.getElem?_eq_some_iff.mp hp).1
    have h2 := R.tab.len
    rw [List.length_map] at h2
    rw [Array.length_toList]; omega
  obtain ⟨c, hc, q⟩ := R.tab.ahead n hi (List.getElem?_eq_getElem lt)
  exact ⟨c, Nat.zero_le _, hc, by rw [List.getElem?_eq_getElem lt, q]⟩

/-- the table laid anew, larger -/
theorem grow_at {o : Obj} (ho : s.heap.get? a = some o) (hex : o.ExactSet) (hd : o.data = .set es ep t) (hr : es.toList = rowsOf P w L) (T : Tab t (hsOf P w L)) (hm : L.length ≤ t.mask)
    (nd : (L.map (·.2)).Nodup) (tup : ∀ p ∈ L, IsT P w s.heap p.2 p.1) (hp : t.plain = true) (hl : w.params.followText "set-order" = true ∨ t.led = true) (few : L.length ≤ 300) {wanted M : Nat}
    (hw : SetTable.sizeAbove wanted = M + 1) (hM : Mk4 M) (hn : L.length * 5 < M * 3) {Q : Unit → Shared → Prop}
    (hQ : ∀ h2 L2 es2 ep2 t2, Heap.SameBut a s.heap h2 → SB P w h2 a L2 es2 ep2 t2 → L2.Perm L → Q () { s with heap := h2 }) : wpAny (model P w) A (setRelay a wanted) Q E s := by
  have sz := rows_size hr
  obtain ⟨t2, order, e, pm, T2, em, el, ep2⟩ := relaid_tab t (hs := es.map (·.1)) (wanted := wanted) (M := M) (by omega) hM (by rw [Array.size_map, sz]; omega)
  rw [Array.size_map, sz] at pm
  obtain ⟨L2, r1, r2, r3⟩ := order_rows L es order hr pm
  rw [← r3] at T2
  have s2 : (order.filterMap (es[·]?)).size = es.size := by rw [rows_size r1, r2.length_eq, sz]
  rw [setRelay_eq]
  refine wpAny_bind (wpAny_setState_of ho hd (fits_of hr T hm) ?_)
  dsimp only
  refine wp_if_neg (by rw [sizeLine_eq, hw]; have := hM.le; omega) ?_
  try refine wpAny_bind (wpAny_pure ?_)
  rw [e]
  dsimp only
  refine wpAny_bind (wp_if_neg (by rw [s2]; simp) ?_)
  try refine wpAny_bind (wpAny_pure ?_)
  refine wpAny_pure ?_
  dsimp only
  refine wpAny_storeSet_of ho hd ?_ (by rw [s2, sz, sizeLine_eq]; omega)
  have sb : Heap.SameBut a s.heap (s.heap.update a (Obj.putSet (order.filterMap (es[·]?)) t2)) := Heap.SameBut.update ..
  exact hQ _ L2 _ (ep + 1) t2 sb ⟨⟨_, store_at ho hd, ⟨hex.1, hex.2.1, hex.2.2⟩, rfl⟩, r1, T2, (r2.map (·.2)).nodup_iff.mpr nd, fun p m => isT_same (tup p (r2.mem_iff.mp m)) ho hd sb, by rw [ep2]; exact hp, by rw [el]; exact hl,
    by rw [r2.length_eq, em]; exact hn, by rw [r2.length_eq]; exact few⟩ r2
theorem size308 : SetTable.sizeAbove (SetTable.grown 77) = 512 := by decide +kernel
/-- one is added -/
theorem put_at (R : SB P w s.heap a L es ep t) {x : Addr} {k : List Int} (hx : IsT P w s.heap k x) (hu : A.units < cLine) (hfew : L.length + 1 ≤ 300) {Q : Bool → Shared → Prop}
    (hQ : ∀ b h2 L2 es2 ep2 t2, Heap.SameBut a s.heap h2 → SB P w h2 a L2 es2 ep2 t2 → (k ∈ L.map (·.2) → L2 = L) → (k ∉ L.map (·.2) → L2.Perm ((x, k) :: L)) → Q b { s with heap := h2 }) :
    wpAny (model P w) A (setAddHashed a (.ref x) (thash P w k)) Q E s := by
  obtain ⟨o, ho, hex, hd⟩ := R.ob
  have room := R.room
  have sz := rows_size R.rows
  unfold setAddHashed
  refine wpAny_holding ?_
  rw [show (100000 : Nat) = 99999 + 1 from rfl, setAddHashedIn_succ]
  refine wpAny_bind (wpAny_setState_of ho hd R.fits ?_)
  dsimp only
  refine wp_if_neg (by simp [byScan, Value.scannable]) ?_
  try refine wpAny_bind (wpAny_pure ?_)
  refine wpAny_bind (look_at R hx hu (fun m => ?_) fun K nm n b => ?_)
  · dsimp only
    exact wpAny_pure (hQ false s.heap L es ep t (Heap.SameBut.refl a s.heap) R (fun _ => rfl) fun z => absurd m z)
  · dsimp only
    refine wpAny_bind (wpAny_setState_of ho hd R.fits ?_)
    dsimp only
    generalize ej : pl t.mask (thash P w k) K = j at n ⊢
    obtain ⟨p, epl⟩ : ∃ p, SetTable.below t.place j = p := ⟨_, rfl⟩
    obtain ⟨q2, q3, q9⟩ := R.tab.put ej epl n b
    have e2 : (t.put j).2 = p := epl
    have hp1 : (t.put j).1.plain = true := R.plain
    have ld1 : w.params.followText "set-order" = true ∨ (t.put j).1.led = true := R.led
    have hmk : (t.put j).1.mask = t.mask := rfl
    generalize hpt : t.put j = pt at e2 q3 q9 hp1 ld1 hmk ⊢
    obtain ⟨t1, p'⟩ := pt
    dsimp only at e2 q3 q9 hp1 ld1 hmk ⊢
    subst e2
    first
      | (refine wpAny_bind ?_; refine wp_if_pos hp1 ?_; refine hashBy_tup hx ?_)
      | refine wp_if_pos hp1 (wpAny_bind (hashBy_tup hx ?_))
    simp only [if_true]
    have new : (SetTable.insertAt es p' (thash P w k, Value.ref x)).toList = rowsOf P w (L.take p' ++ (x, k) :: L.drop p') := by
      rw [SetTable.toList_insertAt, rows_put, R.rows]
    have pm := put_perm L p' (x, k)
    have hh : hsOf P w (L.take p' ++ (x, k) :: L.drop p') = (hsOf P w L).take p' ++ thash P w k :: (hsOf P w L).drop p' := by
      simp [hsOf, List.map_take, List.map_drop]
    rw [← hh] at q3
    generalize SetTable.insertAt es p' (thash P w k, Value.ref x) = es1 at new ⊢
    generalize L.take p' ++ (x, k) :: L.drop p' = L1 at pm q3 new
    have len1 : L1.length = L.length + 1 := pm.length_eq
    have sz1 := rows_size new
    rw [List.length_map] at q9
    refine wpAny_bind (wpAny_storeSet_of ho hd ?_ (by rw [sz1, len1, sizeLine_eq]; omega))
    have sb : Heap.SameBut a s.heap (s.heap.update a (Obj.putSet es1 t1)) := Heap.SameBut.update ..
    have ho1 := store_at (es' := es1) (t' := t1) ho hd
    generalize s.heap.update a (Obj.putSet es1 t1) = h1 at sb ho1 ⊢
    have tup1 : ∀ p ∈ L1, IsT P w h1 p.2 p.1 := fun p hp => by
      rcases List.mem_cons.mp (pm.mem_iff.mp hp) with e | hp
      · rw [e]; exact isT_same hx ho hd sb
      · exact isT_same (R.tup p hp) ho hd sb
    have nd1 : (L1.map (·.2)).Nodup := (pm.map (·.2)).nodup_iff.mpr (by rw [List.map_cons]; exact List.nodup_cons.mpr ⟨nm, R.nd⟩)
    have full : t1.tooFull = true ↔ (L.length + 1) * 5 ≥ t.mask * 3 := by
      unfold SetTable.tooFull
      rw [decide_eq_true_eq, q9, hmk]
    by_cases hf : t1.tooFull = true
    · first
        | (refine wpAny_bind ?_; refine wp_if_pos (by simp [hf]) ?_)
        | (refine wp_if_pos (by simp [hf]) ?_; refine wpAny_bind ?_)
      have ge := full.mp hf
      rw [sz]
      have go : ∀ M, SetTable.sizeAbove (SetTable.grown (L.length + 1)) = M + 1 → Mk4 M → (L.length + 1) * 5 < M * 3 →
          wpAny (model P w) A (setRelay a (SetTable.grown (L.length + 1))) (fun _ s' => wpAny (model P w) A (pure true) Q E s') E { s with heap := h1 } := fun M g1 g2 g3 =>
        grow_at (s := { s with heap := h1 }) ho1 ⟨hex.1, hex.2.1, hex.2.2⟩ rfl new q3 (by rw [len1, hmk]; omega) nd1 tup1 hp1 ld1 (by omega) g1 g2 (by rw [len1]; exact g3)
          fun h2 L2 es2 ep2 t2 sb2 R2 pm2 => wpAny_pure (hQ true h2 L2 es2 ep2 t2 (sb.trans sb2) R2 (fun z => absurd z nm) fun _ => pm2.trans pm)
      rcases R.tab.fm with e | e | e | e
      · have l4 : L.length = 4 := by rw [e] at ge room; omega
        exact go 31 (by rw [l4, size_20]) (.inr (.inl rfl)) (by omega)
      · have l18 : L.length = 18 := by rw [e] at ge room; omega
        exact go 127 (by rw [l18, size_76]) (.inr (.inr (.inl rfl))) (by omega)
      · have l76 : L.length = 76 := by rw [e] at ge room; omega
        exact go 511 (by rw [l76, size308]) (.inr (.inr (.inr rfl))) (by omega)
      · rw [e] at ge; omega
    · first
        | refine wp_if_neg (by simp [hf]) ?_
        | (refine wpAny_bind ?_; refine wp_if_neg (by simp [hf]) ?_; refine wpAny_pure ?_)
      refine wpAny_pure (hQ true h1 L1 es1 (ep + 1) t1 sb ⟨⟨_, ho1, ⟨hex.1, hex.2.1, hex.2.2⟩, rfl⟩, new, q3, nd1, tup1, hp1, ld1, ?_, by omega⟩ (fun z => absurd z nm) fun _ => pm)
      have lt := mt full.mpr hf
      rw [len1, hmk]; omega
end
end LkS
end

section
set_option Elab.async false
set_option linter.all false
set_option maxRecDepth 100000
set_option maxHeartbeats 2000000
/-! Sets of tuples, the last part: set(xs); sorted of a list and of a set of tuples, any length. -/
namespace LkS
open PySem PySem.Spec PyProof.Rows L2
section
variable {P : Program} {w : World} {A : Around} {E : Value → Shared → Prop} {s : Shared}

theorem SB.keep {h h' : Heap} {a : Addr} {L : List (Addr × List Int)} {es : Array (Int × Value)} {ep : Nat} {t : SetTable} (R : SB P w h a L es ep t) (ha : ∀ o, h.get? a = some o → h'.get? a = some o) (ht : ∀ p ∈ L, IsT P w h' p.2 p.1) : SB P w h' a L es ep t :=
  let ⟨o, ho, r⟩ := R.ob
  ⟨⟨o, ha o ho, r⟩, R.rows, R.tab, R.nd, ht, R.plain, R.led, R.room, R.few⟩
theorem sb_new {h : Heap} {a : Addr} (ho : h.get? a = some { cls := .type "set", dict := none, data := .set #[] 0 (.fresh 0 0 (!w.params.followText "set-order")) }) : SB P w h a [] #[] 0 (.fresh 0 0 (!w.params.followText "set-order")) where
  ob := ⟨_, ho, ⟨rfl, rfl, rfl⟩, rfl⟩
  rows := rfl
  tab := ⟨List.Pairwise.nil, rfl, rfl, .inl rfl, fun _ z => (nomatch z), fun i h j z => (nomatch z)⟩
  nd := List.nodup_nil
  tup := fun _ z => nomatch z
  plain := rfl
  led := by
    show _ ∨ (!w.params.followText "set-order") = true
    cases w.params.followText "set-order"
    · exact .inr rfl
    · exact .inl rfl
  room := by show 0 * 5 < 7 * 3; decide
  few := by show 0 ≤ 300; decide

/-- the loop that takes all items of a walk -/
theorem take_all {I : Addr} {fp wr : List Addr} {G : Array GenState → Array GenState → Prop} {n : Nat} {Pv : Nat → Value → Prop} {St : Nat → Shared → Prop} {R : Result → Shared → Prop}
    (W : WalksS P w A.in1 I fp wr G n Pv St) (S : Addr) (nS : S ∉ fp) (ks : List (Addr × List Int)) (hn : n = ks.length) (few : ks.length ≤ 300) (val : ∀ i v, Pv i v → ∃ p, ks[i]? = some p ∧ v = .ref p.1)
    (h0 : Heap) (hk : ∀ p ∈ ks, IsT P w h0 p.2 p.1) (fS : h0.get? S = none) (fw : ∀ b ∈ wr, h0.get? b = none) (hu : A.in1.units < cLine) :
    ∀ (k i : Nat) (s : Shared), n - i = k → i ≤ n → St i s → (∀ b o, h0.get? b = some o → s.heap.get? b = some o) → (∃ L es ep t, SB P w s.heap S L es ep t ∧ Got ks i L) →
      (∀ s' L es ep t, Moved (S :: wr) G s s' → SB P w s'.heap S L es ep t → Got ks n L → (∀ b o, h0.get? b = some o → s'.heap.get? b = some o) → R (.ok (.ret .none)) s') →
      codeAny (model P w) A (.builtin "set.update.loop" ⟨[.ref S, .ref I], []⟩) R s := by
  have nw : S ∉ wr := fun z => nS (W.sub _ z)
  have more : ∀ b ∈ wr, b ∈ S :: wr := fun b z => List.mem_cons_of_mem _ z
  have on : ∀ {s s' : Shared}, Moved wr G s s' → (∀ b o, h0.get? b = some o → s.heap.get? b = some o) → ∀ b o, h0.get? b = some o → s'.heap.get? b = some o := fun hm kp b o e =>
    hm.heap b o (fun z => by rw [fw b z] at e; cases e) (kp b o e)
  intro k
  induction k with
  | zero =>
    intro i s ek le st kp ⟨L, es, ep, t, hS, g⟩ fin
    obtain rfl : i = n := by omega
    refine codeAny_builtin F.entry_set_update_loop ?_
    rw [Around.under_plainId F.plain_set_update_loop _]
    show wpAny _ A.in1 (pyNext (.ref I) >>= _) _ _ s
    refine wpAny_bind (W.done s _ _ st fun s' hm => ?_)
    show wpAny _ A.in1 (ret Value.none) _ _ s'
    have kp' := on hm kp
    exact wpAny_pure (fin s' L es ep t (hm.mono more) (hS.keep (fun o e => hm.heap S o nw e) fun p z => isT_keep (hk p (List.mem_of_mem_take (g.sub p z))) kp') g kp')
  | succ k ih =>
    intro i s ek le st kp ⟨L, es, ep, t, hS, g⟩ fin
    have lt : i < n := by omega
    refine codeAny_builtin F.entry_set_update_loop ?_
    rw [Around.under_plainId F.plain_set_update_loop _]
    show wpAny _ A.in1 (pyNext (.ref I) >>= _) _ _ s
    refine wpAny_bind (W.item i s _ _ lt st fun v s' hP st' hm => ?_)
    obtain ⟨p, hp, rfl⟩ := val i v hP
    have kp' := on hm kp
    have hS' : SB P w s'.heap S L es ep t := hS.keep (fun o e => hm.heap S o nw e) fun q z => isT_keep (hk q (List.mem_of_mem_take (g.sub q z))) kp'
    have tp : IsT P w s'.heap p.2 p.1 := isT_keep (hk p (List.mem_of_getElem? hp)) kp'
    show wpAny _ A.in1 (holding [Value.ref p.1] (setAdd S (.ref p.1)) >>= _) _ _ s'
    refine wpAny_bind (wpAny_holding ?_)
    unfold setAdd
    refine wpAny_holding (wpAny_bind (wpAny_pyHash_tuple hu tp ?_))
    refine put_at (s := { s' with toks := s'.toks + (p.2.length + 1) }) hS' tp hu (by have := g.len; omega) fun b h' L' es' ep' t' sb hS2 c1 c2 => ?_
    have g' : Got ks (i + 1) L' := by
      rcases Classical.em (p.2 ∈ L.map (·.2)) with c | c
      · rw [c1 c]; exact g.same hp c
      · exact g.more hp (c2 c)
    have kp2 : ∀ b o, h0.get? b = some o → h'.get? b = some o := fun b o e => (sb.2 b (fun z => by rw [z, fS] at e; cases e)).trans (kp' b o e)
    refine wpAny_pure ⟨plainId_quiet F.plain_set_update_loop _, ih (i + 1) _ (by omega) lt (W.frame _ s' _ _ st' (Nat.le_add_right _ _) fun b hb o e => ?_) kp2 ⟨L', es', ep', t', hS2, g'⟩ fun s2 L2 es2 ep2 t2 hm2 hS3 g2 kp3 => ?_⟩
    · rw [sb.2 b (fun z : b = S => nS (z ▸ hb))]; exact e
    · refine fin s2 L2 es2 ep2 t2 (Moved.trans W.gtrans ((hm.mono more).then_heap (Nat.le_add_right _ _) fun b o hb e => ?_) hm2) hS3 g2 kp3
      rw [sb.2 b (fun z : b = S => hb (z ▸ List.mem_cons_self))]; exact e

set_option maxHeartbeats 4000000 in
/-- set(xs), xs a list of tuples -/
theorem set_of_list {l : Addr} {items : Array Value} (ks : List (Addr × List Int)) {Q : Value → Shared → Prop} (hh : A.handled = none) (hl : s.heap.IsList l items) (hit : items.toList = ks.map fun p => Value.ref p.1)
    (hk : ∀ p ∈ ks, IsT P w s.heap p.2 p.1) (few : ks.length ≤ 300) (hu : A.units + 3 < cLine)
    (fin : ∀ (h' : Heap) (tk : Nat) L es ep t, SB P w h' s.heap.objs.size L es ep t → Got ks ks.length L → (∀ b o, s.heap.get? b = some o → h'.get? b = some o) → Q (.ref s.heap.objs.size) { s with heap := h', toks := tk }) :
    wpAny (model P w) A (call (.type "set") [.ref l]) Q E s := by
  have isz : items.size = ks.length := by rw [← Array.length_toList, hit, List.length_map]
  obtain ⟨c, tl, hmro⟩ := F.called_set.mro
  have g1 := F.called_set.made
  have g2 := F.called_set.sub
  refine wpAny_call (codeAny_of_tree ?_)
  show wpAny _ _ (callAny (.type "set") _) _ _ _
  refine wpAny_pure ⟨Code.quiet_builtin _ (by decide +kernel), codeAny_builtin F.entry_type_call ?_⟩
  rw [Around.under_plain (weight_type_call_type "set" [.ref l] []) rfl]
  have g3 := F.called_set.notType
  have g4 := F.called_set.canCreate
  have g5 := F.typeCall_set_1 (.ref l)
  repeat (any_goals (first | assumption | wp_step))
  let S0 : Heap := s.heap.push { cls := .type "set", dict := none, data := .set #[] 0 (.fresh 0 0 (!w.params.followText "set-order")) }
  refine codeAny_mono (code_set_led1 (.ref l) (E := E) (Q₁ := fun obj s₁ => obj = .ref s.heap.objs.size ∧ s₁ = { s with heap := S0 }) ⟨rfl, rfl⟩) fun r s₁ hr => ?_
  cases r with
  | error e => exact hr
  | ok fl =>
    cases fl with
    | ret obj =>
      obtain ⟨rfl, rfl⟩ := hr
      have oS : S0.get? s.heap.objs.size = some { cls := .type "set", dict := none, data := .set #[] 0 (.fresh 0 0 (!w.params.followText "set-order")) } := Heap.get?_push_size _ rfl
      have hT : Shared.TypeIs { s with heap := S0 } (.ref s.heap.objs.size) "set" := ⟨_, oS, rfl⟩
      have g6 := F.called_set.init.lookup
      have g7 := F.called_set.init.bind (.ref s.heap.objs.size)
      repeat (any_goals (first | assumption | wp_step))
      refine codeAny_mono (codeAny_call_builtin (R := wants (fun r s₂ => r = .none ∧ ∃ h' tk L es ep t, s₂ = { s with heap := h', toks := tk } ∧ SB P w h' s.heap.objs.size L es ep t ∧ Got ks ks.length L ∧
          (∀ b o, s.heap.get? b = some o → h'.get? b = some o)) E) F.called_set.init.plain F.entry_set_init (check_set_init_1 hT ?_)) fun r₂ s₂ hr₂ => ?_
      · obtain ⟨ol, eol, hcl, nl, hdl⟩ := hl
        obtain ⟨ocls, odict, odata, oslots⟩ := ol
        simp only at hcl hdl
        subst hcl; subst hdl
        have eol' : S0.get? l = some { cls := .type "list", dict := odict, data := .seq items nl, slots := oslots } := Heap.get?_push_of_some _ eol
        have g8 := F.sub_list_set
        have g9 := F.sub_list_frozenset
        have g10 : (Value.type "list" == Value.type "dict") = false := by decide
        have il : S0.IsList l items := ⟨_, eol', rfl, nl, rfl⟩
        unfold Builtin.«set.__init__» noKeywords Builtin.Frozenset.updateFrom
        generalize hPI : pyIter = PI
        wp_walk
        subst hPI
        refine wpAny_pyIter_list il (wpAny_bind (wpAny_runValue ?_))
        have lt : l < s.heap.objs.size := Heap.lt_size eol
        have hh3 : A.in1.in1.in1.handled = none := by simp [hh]
        have sz0 : S0.objs.size = s.heap.objs.size + 1 := Heap.size_push ..
        have ne : l ≠ S0.objs.size := by rw [sz0]; exact Nat.ne_of_lt (Nat.lt_succ_of_lt lt)
        have free : ∀ b, s.heap.objs.size ≤ b → s.heap.get? b = none := fun b hb => by
          cases q : s.heap.get? b with
          | none => rfl
          | some o => exact absurd (Heap.lt_size q) (Nat.not_lt.mpr hb)
        have val : ∀ (i : Nat) (v : Value), items[i]? = some v → ∃ p, ks[i]? = some p ∧ v = .ref p.1 := fun i v hv => by
          rw [← Array.getElem?_toList, hit, List.getElem?_map] at hv
          cases hq : ks[i]? with
          | none => rw [hq] at hv; cases hv
          | some p => rw [hq] at hv; exact ⟨p, rfl, (Option.some.inj hv).symm⟩
        refine take_all ((Walks.list hh3 _ l ne items).toS) s.heap.objs.size
          (by rw [sz0]; simp only [List.mem_cons, List.not_mem_nil, or_false, not_or]; exact ⟨Nat.ne_of_lt (Nat.lt_succ_self _), Nat.ne_of_gt lt⟩) ks isz few val s.heap hk (free _ (Nat.le_refl _)) (fun b hb => free b (by rw [List.mem_singleton.mp hb, sz0]; exact Nat.le_succ _)) hu (items.size - 0) 0 _ (by omega) (Nat.zero_le _)
          ⟨⟨_, Heap.get?_push_size _ rfl, rfl, rfl⟩, (il.push _)⟩ (fun b o e => Heap.get?_push_of_some _ (Heap.get?_push_of_some _ e)) ?start ?last
        case start => exact ⟨[], #[], 0, _, sb_new (Heap.get?_push_of_some _ oS), Got.zero ks⟩
        case last =>
          intro s' L es ep t hm hS' g' kp
          obtain ⟨h', ga, d', tk', os'⟩ := s'
          obtain rfl : ga = s.gens := hm.gens
          obtain rfl : d' = s.drawn := hm.drawn
          obtain rfl : os' = s.os := hm.os
          show wpAny _ _ _ _ _ _
          refine wpAny_pure ?_
          show wpAny _ _ (ret Value.none) _ _ _
          rw [isz] at g'
          exact wpAny_pure ⟨rfl, h', tk', L, es, ep, t, rfl, hS', g', kp⟩
      · cases r₂ with
        | error e => exact hr₂
        | ok fl₂ =>
          cases fl₂ with
          | ret r =>
            obtain ⟨rfl, h', tk, L, es, ep, t, rfl, hS', g', kp⟩ := hr₂
            repeat (any_goals (first | assumption | wp_step))
            exact fin _ _ _ _ _ _ hS' g' kp
          | _ => exact hr₂.elim
    | _ => exact hr.elim

/-! ### the order of tuples of whole numbers -/
theorem reads_ints {h : Heap} : ∀ {k : List Int} {vs : List Value}, ItemsAre (intKind P w) k vs → ReadsAll h vs (k.map .int) []
  | _, _, .nil => .nil
  | _, _, .cons e r => by
    obtain ⟨t, rfl⟩ := Value.isInt_shape e
    exact ReadsAll.cons (.int _ _) (reads_ints r)
theorem reads_tup {h : Heap} {k : List Int} {b : Addr} (x : IsT P w h k b) : Reads h (.ref b) (.tuple (k.map .int)) [] := by
  obtain ⟨o, items, n, ho, hc, hd, hi⟩ := x
  exact .tuple ho hc hd (reads_ints hi)
abbrev encT (p : Addr × List Int) : PyData := .tuple (p.2.map .int)
abbrev leT (p q : Addr × List Int) : Bool := decide (p.2 ≤ q.2)
theorem le_tups : PySem.W.dataLe false encT = leT := by
  funext p q
  show (!PySem.W.rowLt (q.2.map .int) (p.2.map .int)) = _
  rw [PySem.W.dataLt_ints]
  by_cases h : q.2 < p.2
  · have h' : ¬ p.2 ≤ q.2 := fun r => List.not_lt.mpr r h
    simp [h, h']
  · have h' : p.2 ≤ q.2 := List.not_lt.mp h
    simp [h, h']
theorem alike_tups (ks : List (Addr × List Int)) : PySem.W.AllAlike (ks.map encT) := PySem.W.AllAlike.of fun b b' => by
  show PySem.W.alikeAll _ _ = true
  exact PySem.W.alike_ints _ _
theorem sortable_tups {ks : List (Addr × List Int)} (h : ∀ p ∈ ks, p.2 ≠ []) : PySem.W.Sortable (ks.map encT) := .inl fun d hd => by
  obtain ⟨p, hp, rfl⟩ := List.mem_map.mp hd
  cases e : p.2 with
  | nil => exact absurd e (h p hp)
  | cons x r => exact ⟨.int x, r.map .int, by simp [encT, e]⟩
theorem depth_tup (p : Addr × List Int) : (encT p).depth ≤ 1 := by
  show PyData.depth (.tuple (p.2.map .int)) ≤ 1
  rw [PyData.depth, PySem.W.depth_ints]
  omega
theorem each_refs {h : Heap} : ∀ (ks : List (Addr × List Int)), (∀ p ∈ ks, IsT P w h p.2 p.1) → PySem.W.EachIs (fun v b => ∃ as, Reads h v (encT b) as) (ks.map fun p => Value.ref p.1) ks
  | [], _ => .nil
  | p :: ks, hk => .cons ⟨[], reads_tup (hk p List.mem_cons_self)⟩ (each_refs ks fun q hq => hk q (List.mem_cons_of_mem _ hq))
theorem each_refsN {h : Heap} (a : Addr) : ∀ (ks : List (Addr × List Int)), (∀ p ∈ ks, IsT P w h p.2 p.1) → PySem.W.EachIs (fun v b => ∃ as, Reads h v (encT b) as ∧ a ∉ as) (ks.map fun p => Value.ref p.1) ks
  | [], _ => .nil
  | p :: ks, hk => .cons ⟨[], reads_tup (hk p List.mem_cons_self), by simp⟩ (each_refsN a ks fun q hq => hk q (List.mem_cons_of_mem _ hq))
theorem each_is : ∀ (ks : List (Addr × List Int)), PySem.W.EachIs (fun v b => v = Value.ref b.1) (ks.map fun p => Value.ref p.1) ks
  | [] => .nil
  | p :: ks => .cons rfl (each_is ks)
theorem is_each : ∀ {vs : List Value} {ks : List (Addr × List Int)}, PySem.W.EachIs (fun v b => v = Value.ref b.1) vs ks → vs = ks.map fun p => Value.ref p.1
  | _, _, .nil => rfl
  | _, _, .cons e r => by rw [e, is_each r]; rfl
/-- sorted(xs), xs a list of tuples -/
theorem sorted_list {l : Addr} {ks : List (Addr × List Int)} {Q : Value → Shared → Prop} (hl : s.heap.IsList l (ks.map fun p => Value.ref p.1).toArray) (hk : ∀ p ∈ ks, IsT P w s.heap p.2 p.1) (ne : ∀ p ∈ ks, p.2 ≠ []) (few : ks.length ≤ 100000) (hu : A.units + 64 < cLine)
    (fin : ∀ (h' : Heap) (c : Nat), (∀ b o, s.heap.get? b = some o → h'.get? b = some o) → h'.get? (s.heap.objs.size + 1) = some { cls := .type "list", data := .seq ((ks.mergeSort leT).map fun p => Value.ref p.1).toArray c } → Q (.ref (s.heap.objs.size + 1)) { s with heap := h' }) :
    wpAny (model P w) A (call (.builtin "sorted") [.ref l]) Q E s := by
  refine PySem.W.sorted_data (bs := ks) (enc := encT) (R := fun v b => v = Value.ref b.1) hl (each_is ks) (each_refs ks hk) (alike_tups ks) (sortable_tups ne) (by rw [sizeLine_eq]; omega) (fun b _ => by have := depth_tup b; omega) fun out ho eo => ?_
  rw [le_tups] at eo
  rw [is_each eo]
  obtain ⟨c, hc⟩ := sortedAll_at s.heap (ks.map fun p => Value.ref p.1) ((ks.mergeSort leT).map fun p => Value.ref p.1).toArray
  exact fin _ c (fun b o e => sortedAll_old e) hc
/-- xs.sort() within sorted(set) -/
theorem sort_in {a : Addr} {ks : List (Addr × List Int)} {n : Nat} {Q : Value → Shared → Prop} (ho : s.heap.get? a = some (seqObj "list" (ks.map fun p => Value.ref p.1).toArray n)) (hk : ∀ p ∈ ks, IsT P w s.heap p.2 p.1) (ne : ∀ p ∈ ks, p.2 ≠ []) (few : ks.length ≤ 100000) (hu : A.units + 64 < cLine)
    (fin : Q .none { s with heap := sortedHeap s.heap a (ks.map fun p => Value.ref p.1) ((ks.mergeSort leT).map fun p => Value.ref p.1).toArray }) :
    wpAny (model P w) A (call (.builtin "list.sort") [.ref a]) Q E s := by
  refine PySem.W.list_sort_data (bs := ks) (enc := encT) (R := fun v b => v = Value.ref b.1) ho (each_is ks) (each_refsN a ks hk) (alike_tups ks) (sortable_tups ne) (by rw [sizeLine_eq]; omega) (fun b _ => by have := depth_tup b; omega) fun out ho eo => ?_
  rw [le_tups] at eo
  rw [is_each eo]
  exact fin
/-- sorted(set) -/
theorem sorted_set {a : Addr} {L : List (Addr × List Int)} {es : Array (Int × Value)} {ep : Nat} {t : SetTable} {Q : Value → Shared → Prop} (R : SB P w s.heap a L es ep t) (hh : A.handled = none) (ne : ∀ p ∈ L, p.2 ≠ []) (hu : A.units + 70 < cLine)
    (fin : ∀ s' p c (L' : List (Addr × List Int)), (∀ b o, s.heap.get? b = some o → s'.heap.get? b = some o) → s'.gens = s.gens → s'.os = s.os → s.heap.objs.size ≤ p →
      s'.heap.get? p = some (seqObj "list" ((L'.mergeSort leT).map fun q => Value.ref q.1).toArray c) → L'.Perm L → Q (.ref p) s') :
    wpAny (model P w) A (call (.builtin "sorted") [.ref a]) Q E s := by
  obtain ⟨o, ho, hex, hd⟩ := R.ob
  have few := R.few
  have sz := rows_size R.rows
  refine Calls.call_function_entry kind_sorted plain_sorted entry_sorted (args_sorted1 _) ?_
  unfold Builtin.«sorted»
  refine wpAny_bind (m := checkCount "sorted" 1 1 _) (wpAny_pure ?_)
  refine wpAny_bind (collect_set (A := A.in1) hh ⟨o, ho, hex.1, hd⟩ R.fits (by unfold scanBound; omega) R.tab.up R.led fun s1 vs k1 hz g1 o1 pm => ?_)
  have hes : es.toList.map (·.2) = L.map fun q => Value.ref q.1 := by rw [R.rows, rowsOf, List.map_map]; rfl
  rw [hes] at pm
  obtain ⟨L', e', pL⟩ : ∃ L' : List (Addr × List Int), vs = L'.map (fun q => Value.ref q.1) ∧ L'.Perm L := by
    have go : ∀ {us vs : List Value}, us.Perm vs → ∀ {L : List (Addr × List Int)}, vs = L.map (fun q => Value.ref q.1) → ∃ L' : List (Addr × List Int), us = L'.map (fun q => Value.ref q.1) ∧ L'.Perm L := by
      intro us vs p
      induction p with
      | nil => intro L e; exact ⟨L, e, .refl _⟩
      | @cons x l1 l2 _ ih =>
        intro L e
        cases L with
        | nil => cases e
        | cons q L =>
          rw [List.map_cons] at e
          obtain ⟨e1, e2⟩ := List.cons.inj e
          obtain ⟨L', f1, f2⟩ := ih e2
          exact ⟨q :: L', by rw [List.map_cons, e1, f1], f2.cons q⟩
      | swap x y l =>
        intro L e
        cases L with
        | nil => cases e
        | cons q L =>
          cases L with
          | nil => rw [List.map_cons] at e; cases (List.cons.inj e).2
          | cons r L =>
            rw [List.map_cons, List.map_cons] at e
            obtain ⟨e1, e2⟩ := List.cons.inj e
            obtain ⟨e3, e4⟩ := List.cons.inj e2
            exact ⟨r :: q :: L, by rw [List.map_cons, List.map_cons, e1, e3, e4], .swap q r L⟩
      | trans _ _ ih1 ih2 =>
        intro L e
        obtain ⟨L1, f1, f2⟩ := ih2 e
        obtain ⟨L2, f3, f4⟩ := ih1 f1
        exact ⟨L2, f3, f4.trans f2⟩
    exact go pm rfl
  subst e'
  have len : L'.length ≤ 300 := by rw [pL.length_eq]; exact few
  refine wpAny_bind (wpAny_newList ?_ (by rw [List.length_map, sizeLine_eq]; omega))
  have oL : (s1.heap.push (seqObj "list" (L'.map fun q => Value.ref q.1).toArray 0)).get? s1.heap.objs.size = some (seqObj "list" (L'.map fun q => Value.ref q.1).toArray 0) := Heap.get?_push_size _ rfl
  have tk : ∀ q ∈ L', IsT P w (s1.heap.push (seqObj "list" (L'.map fun q => Value.ref q.1).toArray 0)) q.2 q.1 := fun q hq => isT_keep (R.tup q (pL.mem_iff.mp hq)) fun b u e => Heap.get?_push_of_some _ (k1 b u e)
  refine wpAny_bind (wpAny_holding (sort_in (s := { s1 with heap := s1.heap.push (seqObj "list" (L'.map fun q => Value.ref q.1).toArray 0) }) oL tk (fun p hp => ne p (pL.mem_iff.mp hp)) (by omega) (by show A.units + 1 + 64 < cLine; omega) ?_))
  obtain ⟨c, hc⟩ := sortedHeap_at (vs := L'.map fun q => Value.ref q.1) (out := ((L'.mergeSort leT).map fun p => Value.ref p.1).toArray) oL
  refine wpAny_pure ⟨_, rfl, fin _ s1.heap.objs.size c L' (fun b u e => ?_) g1 o1 hz hc pL⟩
  have q := k1 b u e
  have lt := Heap.lt_size q
  show (sortedHeap (s1.heap.push (seqObj "list" (L'.map fun q => Value.ref q.1).toArray 0)) s1.heap.objs.size _ _).get? b = some u
  rw [sortedHeap_old (Nat.ne_of_lt lt) (by rw [size_push']; exact Nat.lt_succ_of_lt lt)]
  exact Heap.get?_push_of_some _ q
end

/-! ### the layer's rules -/
/-- the set at a, without the tuples themselves -/
def SetB0 (P : Program) (w : World) (h : Heap) (a : Addr) (L : List (Addr × List Int)) : Prop :=
  ∃ (es : Array (Int × Value)) (ep : Nat) (t : SetTable), (∃ o, h.get? a = some o ∧ o.ExactSet ∧ o.data = .set es ep t) ∧ es.toList = rowsOf P w L ∧ Tab t (hsOf P w L) ∧ (L.map (·.2)).Nodup ∧ t.plain = true ∧
    (w.params.followText "set-order" = true ∨ t.led = true) ∧ L.length * 5 < t.mask * 3 ∧ L.length ≤ 300
def SetBO (P : Program) (w : World) (a : Addr) (L : List (Addr × List Int)) : HO := .ext fun h => SetB0 P w h a L
theorem setBO_new {P : Program} {w : World} {H : Hp} {h : Heap} {a : Addr} {L : List (Addr × List Int)} {es : Array (Int × Value)} {ep : Nat} {t : SetTable} (R : SB P w h a L es ep t) : ObjOk P w H h a (SetBO P w a L) := by
  obtain ⟨o, ho, hx⟩ := R.ob
  refine ⟨⟨es, ep, t, ⟨o, ho, hx⟩, R.rows, R.tab, R.nd, R.plain, R.led, R.room, R.few⟩, ⟨o, ho⟩, ?_⟩
  rintro h1 h2 ⟨es, ep, t, ⟨o, ho, hx⟩, r⟩ k
  exact ⟨es, ep, t, ⟨o, k o ho, hx⟩, r⟩
section
variable {X : Cx}
/-- set(xs), xs a list of tuples of whole numbers -/
def rSetB (K : PySem.W.Frag) (P : Program) (w : World) : List V → Hp → VK → Prop := fun xs H Q => ∃ (l : Addr) (ks : List (Addr × List Int)), xs = [V.ref l] ∧ SqL K H l (ks.map fun p => V.ref p.1) ∧ (∀ p ∈ ks, SqT K H p.1 (p.2.map V.int)) ∧ ks.length ≤ 300 ∧
  ∀ a L, H a = none → (∀ p ∈ L, p ∈ ks) → (∀ p ∈ ks, p.2 ∈ L.map (·.2)) → (L.map (·.2)).Nodup → Q (.ref a) (upd H a (SetBO P w a L))
theorem cr_setB (hc : X.calm = true) (hu : X.A.units + 64 < cLine) : CallR X (.type "set") (rSetB X.K X.prog X.w) := by
  intro pins s σ H vs us Q I r h
  obtain ⟨l, ks, rfl, hq, hk, few, q⟩ := h
  obtain ⟨its, rv, hp, _⟩ := I.list hq
  rw [Vals.ref1 r]
  have hl : s.heap.IsList l its.toArray := by
    obtain ⟨o, n, e, hc', _, d⟩ := hp
    exact ⟨o, e, hc', n, d⟩
  have e := refs_of_vals rv
  refine set_of_list ks (I.ok.hd hc) hl (by simpa using e) (fun p hp => I.isT (hk p hp)) few (by omega) fun h' tk L es ep t R g kp => ?_
  have hn : H s.heap.objs.size = none := I.hok.fresh (Nat.le_refl _)
  have gs : ∀ p ∈ L, p ∈ ks := fun p hp => by have := g.sub p hp; rwa [List.take_length] at this
  have ga : ∀ p ∈ ks, p.2 ∈ L.map (·.2) := fun p hp => g.all p (by rw [List.take_length]; exact hp)
  exact ⟨.ref s.heap.objs.size, _, I.laid (t' := tk) kp (Nat.le_refl _) (setBO_new R), rfl, q _ L hn gs ga R.nd⟩
/-- sorted(set) -/
def rSortSB (K : PySem.W.Frag) (P : Program) (w : World) : List V → Hp → VK → Prop := fun vs H Q => ∃ (a : Addr) (L : List (Addr × List Int)), vs = [V.ref a] ∧ H a = some (SetBO P w a L) ∧ (∀ p ∈ L, SqT K H p.1 (p.2.map V.int) ∧ p.2 ≠ []) ∧
  ∀ (L' : List (Addr × List Int)) (p : Addr), L'.Perm L → H p = none → Q (.ref p) (upd H p (.lst ((L'.mergeSort leT).map fun q => V.ref q.1)))
theorem cr_sortSB (hc : X.calm = true) (hu : X.A.units + 70 < cLine) : CallR X (.builtin "sorted") (rSortSB X.K X.prog X.w) := by
  intro pins s σ H vs us Q I r h
  obtain ⟨a, L, rfl, ha, hk, q⟩ := h
  obtain ⟨es, ep, t, ob, r1, r2, r3, r4, r5, r6, r7⟩ : SetB0 X.prog X.w s.heap a L := (I.hok a _ ha).1
  have R : SB X.prog X.w s.heap a L es ep t := ⟨ob, r1, r2, r3, fun p hp => I.isT (hk p hp).1, r4, r5, r6, r7⟩
  rw [Vals.ref1 r]
  refine sorted_set R (I.ok.hd hc) (fun p hp => (hk p hp).2) hu fun s' p c L' k g o hp hg pm => ?_
  have len : (L'.mergeSort leT).length ≤ 300 := by rw [List.length_mergeSort, pm.length_eq]; exact r7
  have hn : H p = none := I.hok.fresh hp
  have J : Inv X pins σ (upd H p (.lst ((L'.mergeSort leT).map fun q => V.ref q.1))) { s with heap := s'.heap, gens := s'.gens, drawn := s'.drawn, toks := s'.toks } :=
    I.call (ch := []) (Un.laid k hp hn) (I.hok.laid k hp ⟨by rw [List.length_map, sizeLine_eq]; omega, _, c, vals_of_refs _, hg⟩) (by rw [g]; exact I.bare) (fun _ z => nomatch z)
  have e : s' = { s with heap := s'.heap, gens := s'.gens, drawn := s'.drawn, toks := s'.toks } := by
    cases s'
    cases s
    cases o
    rfl
  rw [e]
  exact ⟨.ref p, _, J, rfl, q L' p pm hn⟩
/-- sorted(xs), xs a list of tuples -/
def rSortLB (K : PySem.W.Frag) : List V → Hp → VK → Prop := fun vs H Q => ∃ (a : Addr) (ks : List (Addr × List Int)), vs = [V.ref a] ∧ SqL K H a (ks.map fun p => V.ref p.1) ∧ (∀ p ∈ ks, SqT K H p.1 (p.2.map V.int) ∧ p.2 ≠ []) ∧ ks.length ≤ 100000 ∧
  ∀ (p : Addr), H p = none → Q (.ref p) (upd H p (.lst ((ks.mergeSort leT).map fun q => V.ref q.1)))
theorem cr_sortLB (hu : X.A.units + 64 < cLine) : CallR X (.builtin "sorted") (rSortLB X.K) := by
  intro pins s σ H vs us Q I r h
  obtain ⟨a, ks, rfl, hq, hk, few, q⟩ := h
  obtain ⟨its, rv, hp, _⟩ := I.list hq
  rw [Vals.ref1 r]
  have e := refs_of_vals rv
  subst e
  have hl : s.heap.IsList a (ks.map fun p => Value.ref p.1).toArray := by
    obtain ⟨o, n, e, hc', _, d⟩ := hp
    exact ⟨o, e, hc', n, d⟩
  refine sorted_list (P := X.prog) (w := X.w) hl (fun p hp => I.isT (hk p hp).1) (fun p hp => (hk p hp).2) few hu fun h' c kp hc => ?_
  have hn : H (s.heap.objs.size + 1) = none := I.hok.fresh (Nat.le_succ _)
  have new : ObjOk X.prog X.w (upd H (s.heap.objs.size + 1) (.lst ((ks.mergeSort leT).map fun q => V.ref q.1))) h' (s.heap.objs.size + 1) (.lst ((ks.mergeSort leT).map fun q => V.ref q.1)) :=
    ⟨by rw [List.length_map, List.length_mergeSort, sizeLine_eq]; omega, _, c, vals_of_refs _, hc⟩
  exact ⟨.ref (s.heap.objs.size + 1), _, I.laid (t' := s.toks) kp (Nat.le_succ _) new, rfl, q _ hn⟩
end
end LkS
end

section
set_option Elab.async false
set_option linter.all false
set_option maxRecDepth 100000
set_option maxHeartbeats 2000000
/-! A dict that numbers things by their first places; the things are whole numbers, or tuples of numbers and tuples. -/
namespace LkN
open PySem PySem.Spec PyProof.Rows L2

/-! ### keys over the tracked heap -/
mutual
inductive KeyN (K : PySem.W.Frag) (H : Hp) : V → NestedKey → Prop
  | num (i : Int) : KeyN K H (.int i) (.num i)
  | tup {a : Addr} {xs : List V} {ks : List NestedKey} : SqT K H a xs → KeyNs K H xs ks → KeyN K H (.ref a) (.tup ks)
inductive KeyNs (K : PySem.W.Frag) (H : Hp) : List V → List NestedKey → Prop
  | nil : KeyNs K H [] []
  | cons {v : V} {vs : List V} {k : NestedKey} {ks : List NestedKey} : KeyN K H v k → KeyNs K H vs ks → KeyNs K H (v :: vs) (k :: ks)
end
mutual
theorem KeyN.mono {K : PySem.W.Frag} {H H' : Hp} (e : Evl.Ex H H') : ∀ (k : NestedKey) (v : V), KeyN K H v k → KeyN K H' v k
  | _, _, .num i => .num i
  | _, _, .tup h t => .tup (Evl.ex_t e h) (KeyNs.mono e _ _ t)
theorem KeyNs.mono {K : PySem.W.Frag} {H H' : Hp} (e : Evl.Ex H H') : ∀ (ks : List NestedKey) (vs : List V), KeyNs K H vs ks → KeyNs K H' vs ks
  | _, _, .nil => .nil
  | _, _, .cons h t => .cons (KeyN.mono e _ _ h) (KeyNs.mono e _ _ t)
end
section
variable {X : Cx} {pins : List (Addr × Obj)} {σ : L2.St} {H : Hp} {s : Shared}
mutual
theorem KeyN.is (I : Inv X pins σ H s) : ∀ (k : NestedKey) (v : V) (u : Value), KeyN X.K H v k → RelV v u → NestedIs s.heap k u
  | .num i, _, _, h, r => by
    cases h
    obtain ⟨t, rfl⟩ := r
    exact .int _ _
  | .tup ks, _, _, h, r => by
    cases h with
    | tup hq ht =>
      cases r
      obtain ⟨its, rv, ⟨o, ho, hc, n, hd⟩, _⟩ := I.tuple hq
      exact .tup ho hc hd (by simpa using KeyNs.is I ks _ _ ht rv)
  | .none, _, _, h, _ => by cases h
  | .text _, _, _, h, _ => by cases h
theorem KeyNs.is (I : Inv X pins σ H s) : ∀ (ks : List NestedKey) (vs : List V) (us : List Value), KeyNs X.K H vs ks → Vals vs us → NestedAll s.heap ks us
  | [], _, _, h, r => by
    cases h
    cases r
    exact .nil
  | k :: ks, _, _, h, r => by
    cases h with
    | cons h1 h2 =>
      cases r with
      | cons r1 r2 => exact .cons (KeyN.is I k _ _ h1 r1) (KeyNs.is I ks _ _ h2 r2)
end
end

/-! ### the dicts -/
/-- whole numbers to their places -/
def numKv (ks : List Int) : List (Key × V) := ks.zipIdx.map fun p => (Sum.inl p.1, V.int (p.2 : Nat))
abbrev dI (ks : List Int) : HO := .dK (numKv ks)
theorem numKv_length (ks : List Int) : (numKv ks).length = ks.length := by simp [numKv]
theorem numKv_snoc (ks : List Int) (k : Int) : numKv (ks ++ [k]) = numKv ks ++ [(Sum.inl k, V.int (ks.length : Nat))] := by
  simp [numKv, List.zipIdx_append]
theorem numKv_val (k : Int) : ∀ (ks : List Int) (n : Nat), valV (κ := Key) (ks.zipIdx n |>.map fun p => (Sum.inl p.1, V.int (p.2 : Nat))) (Sum.inl k) = if k ∈ ks then some (V.int ((n + ks.idxOf k : Nat) : Int)) else none
  | [], n => by simp [valV]
  | x :: r, n => by
    rw [List.zipIdx_cons, List.map_cons]
    by_cases e : x = k
    · subst e
      rw [valV_pos (p := (Sum.inl x, V.int (n : Nat))) rfl, if_pos List.mem_cons_self, List.idxOf_cons_self]
      simp
    · rw [valV_neg (p := ((Sum.inl x : Key), V.int (n : Nat))) (fun q => e (Sum.inl.inj q)), numKv_val k r (n + 1), List.idxOf_cons]
      have : ¬ k = x := fun q => e q.symm
      have hb : (x == k) = false := beq_eq_false_iff_ne.mpr e
      rw [hb]
      by_cases m : k ∈ r
      · rw [if_pos m, if_pos (List.mem_cons_of_mem _ m)]
        congr 2
        simp only [cond_false]
        omega
      · rw [if_neg m, if_neg (by simp [this, m])]
theorem numKv_at (k : Int) (ks : List Int) : valV (numKv ks) (Sum.inl k) = if k ∈ ks then some (V.int ((ks.idxOf k : Nat) : Int)) else none := by
  have := numKv_val k ks 0
  rw [Nat.zero_add] at this
  exact this

/-- at d a dict: these tuples, which stand there, to their places -/
def NDat (P : Program) (w : World) (d : Addr) (kas : List (NestedKey × Addr)) (h : Heap) : Prop :=
  ∃ xs : List (NestedKey × Addr × Value), xs.map (fun x => (x.1, x.2.1)) = kas ∧ (∀ (i : Nat) x, xs[i]? = some x → ∃ t, x.2.2 = .int (i : Nat) t) ∧ (kas.map (·.1)).Nodup ∧ (d == sysModules) = false ∧
    ∃ o es ep, h.get? d = some o ∧ o.ExactDict ∧ o.data = .dict es ep ∧ es.toList = xs.map (entryOfKey (nestedKind P w))
def NDO (P : Program) (w : World) (d : Addr) (kas : List (NestedKey × Addr)) : HO := .ext (NDat P w d kas)
theorem ndo_ok {P : Program} {w : World} {H : Hp} {h : Heap} {d : Addr} {kas : List (NestedKey × Addr)} (x : NDat P w d kas h) : ObjOk P w H h d (NDO P w d kas) := by
  refine ⟨x, ?_, ?_⟩
  · obtain ⟨_, _, _, _, _, o, _, _, ho, _⟩ := x
    exact ⟨o, ho⟩
  · rintro h1 h2 ⟨xs, a, b, c, e, o, es, ep, ho, r⟩ k
    exact ⟨xs, a, b, c, e, o, es, ep, k o ho, r⟩
/-- its keys stand -/
def KeysN (K : PySem.W.Frag) (H : Hp) (kas : List (NestedKey × Addr)) : Prop := ∀ p ∈ kas, KeyN K H (.ref p.2) p.1 ∧ p.1.depth ≤ 8
theorem KeysN.mono {K : PySem.W.Frag} {H H' : Hp} (e : Evl.Ex H H') {kas : List (NestedKey × Addr)} (h : KeysN K H kas) : KeysN K H' kas := fun p hp => ⟨(h p hp).1.mono e, (h p hp).2⟩
theorem atKey_ix {xs : List (NestedKey × Addr × Value)} (hv : ∀ (i : Nat) x, xs[i]? = some x → ∃ t, x.2.2 = .int (i : Nat) t) (k : NestedKey) :
    (k ∉ xs.map (·.1) → atKey xs k = none) ∧ (k ∈ xs.map (·.1) → ∃ b t, atKey xs k = some (b, .int (((xs.map (·.1)).idxOf k : Nat) : Int) t)) := by
  have go : ∀ (ys : List (NestedKey × Addr × Value)) (n : Nat), (∀ (i : Nat) x, ys[i]? = some x → ∃ t, x.2.2 = .int ((n + i : Nat) : Int) t) →
      (k ∉ ys.map (·.1) → atKey ys k = none) ∧ (k ∈ ys.map (·.1) → ∃ b t, atKey ys k = some (b, .int ((n + (ys.map (·.1)).idxOf k : Nat) : Int) t)) := by
    intro ys
    induction ys with
    | nil => intro n _; exact ⟨fun _ => rfl, fun h => by simp at h⟩
    | cons y ys ih =>
      intro n hy
      have rest := ih (n + 1) fun i x hx => by
        obtain ⟨t, e⟩ := hy (i + 1) x (by simpa using hx)
        exact ⟨t, by rw [e]; congr 2; omega⟩
      by_cases e : y.1 = k
      · have h1 : atKey (y :: ys) k = some y.2 := by unfold atKey; rw [List.find?_cons_of_pos (by simp [e])]; rfl
        refine ⟨fun hn => absurd (by simp [e]) hn, fun _ => ?_⟩
        obtain ⟨t, et⟩ := hy 0 y rfl
        refine ⟨y.2.1, t, ?_⟩
        rw [h1, List.map_cons, e, List.idxOf_cons_self]
        exact congrArg some (Prod.ext rfl et)
      · have h1 : atKey (y :: ys) k = atKey ys k := by unfold atKey; rw [List.find?_cons_of_neg (by simp [e])]
        have ne : ¬ k = y.1 := fun q => e q.symm
        rw [h1, List.map_cons]
        refine ⟨fun hn => rest.1 fun m => hn (List.mem_cons_of_mem _ m), fun hm => ?_⟩
        rcases List.mem_cons.mp hm with q | q
        · exact absurd q ne
        · obtain ⟨b, t, eb⟩ := rest.2 q
          refine ⟨b, t, ?_⟩
          rw [eb, List.idxOf_cons, beq_eq_false_iff_ne.mpr e]
          simp only [cond_false]
          congr 3
          omega
  have := go xs 0 fun i x hx => by rw [Nat.zero_add]; exact hv i x hx
  rw [Nat.zero_add] at this
  exact this

section
variable {X : Cx} {pins : List (Addr × Obj)} {σ : L2.St} {H : Hp} {s : Shared} {d : Addr} {kas : List (NestedKey × Addr)}
/-- what the library knows of such a dict -/
theorem nd_of (I : Inv X pins σ H s) (e : H d = some (NDO X.prog X.w d kas)) (hk : KeysN X.K H kas) : ∃ xs : List (NestedKey × Addr × Value), s.heap.DictOfH (nestedKind X.prog X.w) d xs ∧ xs.map (fun x => (x.1, x.2.1)) = kas ∧
    (∀ (i : Nat) x, xs[i]? = some x → ∃ t, x.2.2 = .int (i : Nat) t) ∧ (d == sysModules) = false ∧ xs.map (·.1) = kas.map (·.1) := by
  obtain ⟨xs, ex, hv, nd, hs, o, es, ep, ho, h1, h2, h3⟩ : NDat X.prog X.w d kas s.heap := (I.hok d _ e).1
  have e1 : xs.map (·.1) = kas.map (·.1) := by rw [← ex, List.map_map]; rfl
  refine ⟨xs, ⟨o, es, ep, ho, h1, h2, h3, fun x hx => ?_, by rw [e1]; exact nd⟩, ex, hv, hs, e1⟩
  have := hk (x.1, x.2.1) (by rw [← ex]; exact List.mem_map.mpr ⟨x, hx, rfl⟩)
  exact ⟨KeyN.is I x.1 _ _ this.1 rfl, this.2⟩
end

/-! ### the rules: a dict of whole numbers, or of tuples -/
def tDNewN (P : Program) (w : World) : TE := fun _ H Q => (∀ p, H p = none → Q (.ref p) (upd H p (dI []))) ∨ ∀ p, H p = none → Q (.ref p) (upd H p (NDO P w p []))
def rNI (K : PySem.W.Frag) (P : Program) (w : World) : R2 := fun x y H Q =>
  (∃ d ks i, y = .ref d ∧ x = .int i ∧ H d = some (dI ks) ∧ Q (.bl (!decide (i ∈ ks))) H) ∨
  ∃ d kas a k, y = .ref d ∧ x = .ref a ∧ H d = some (NDO P w d kas) ∧ KeysN K H kas ∧ KeyN K H (.ref a) k ∧ k.depth ≤ 8 ∧ Q (.bl (!decide (k ∈ kas.map (·.1)))) H
/-- d[x], there -/
def rNG (K : PySem.W.Frag) (P : Program) (w : World) : R2 := fun y x H Q =>
  (∃ d ks i, y = .ref d ∧ x = .int i ∧ H d = some (dI ks) ∧ i ∈ ks ∧ Q (.int ((ks.idxOf i : Nat) : Int)) H) ∨
  ∃ d kas a k, y = .ref d ∧ x = .ref a ∧ H d = some (NDO P w d kas) ∧ KeysN K H kas ∧ KeyN K H (.ref a) k ∧ k.depth ≤ 8 ∧ k ∈ kas.map (·.1) ∧ Q (.int (((kas.map (·.1)).idxOf k : Nat) : Int)) H
/-- d[x] = how many there are, x not there -/
def rNS (K : PySem.W.Frag) (P : Program) (w : World) : TSet := fun y x v H Q =>
  (∃ d ks i, y = .ref d ∧ x = .int i ∧ v = .int (ks.length : Nat) ∧ H d = some (dI ks) ∧ i ∉ ks ∧ ks.length < 10000 ∧ Q (upd H d (dI (ks ++ [i])))) ∨
  ∃ d kas a k, y = .ref d ∧ x = .ref a ∧ v = .int (kas.length : Nat) ∧ H d = some (NDO P w d kas) ∧ KeysN K H kas ∧ KeyN K H (.ref a) k ∧ k.depth ≤ 8 ∧ k ∉ kas.map (·.1) ∧ kas.length < 10000 ∧ Q (upd H d (NDO P w d (kas ++ [(k, a)])))
def rNL (P : Program) (w : World) : List V → Hp → VK → Prop := fun xs H Q =>
  (∃ d ks, xs = [.ref d] ∧ H d = some (dI ks) ∧ Q (.int (ks.length : Nat)) H) ∨ ∃ d kas, xs = [.ref d] ∧ H d = some (NDO P w d kas) ∧ kas.length < 10000 ∧ Q (.int (kas.length : Nat)) H
section
variable {X : Cx} {pos : Pos}
theorem pe_dnewN : PE X (.Dict [] [] pos) (tDNewN X.prog X.w) := ⟨fun pins s σ H Q I h => by
  rcases h with h | h
  · exact (pe_dnewK (X := X) (pos := pos)).run pins s σ H Q I h
  · have hs : (s.heap.objs.size == sysModules) = false := beq_eq_false_iff_ne.mpr (Nat.ne_of_gt I.big)
    have new : NDat X.prog X.w s.heap.objs.size [] (s.heap.push { cls := .type "dict", data := .dict #[] }) :=
      ⟨[], rfl, fun i x z => by simp at z, List.nodup_nil, hs, _, #[], 0, Heap.get?_push_size _ rfl, ⟨rfl, rfl, rfl⟩, rfl, rfl⟩
    exact wpAny_Dict_empty ⟨.ref s.heap.objs.size, _, I.laid (a := s.heap.objs.size) (o := NDO X.prog X.w s.heap.objs.size []) (t' := s.toks) (fun _ _ q => Heap.get?_push_of_some _ q) (Nat.le_refl _) (ndo_ok new), rfl, h _ (I.hok.fresh (Nat.le_refl _))⟩⟩
theorem op_notInN (hu : X.A.units + 64 < cLine) : OpR X (compareOp .NotIn) (rNI X.K X.prog X.w) := by
  intro pins s σ H x y v u Q I rx ry h
  rcases h with ⟨d, ks, i, rfl, rfl, hd, q⟩ | ⟨d, kas, a, k, rfl, rfl, hd, hk, ha, dp, q⟩
  · cases (show u = Value.ref d from ry)
    refine d_notIn (y := kV (Sum.inl i)) (by omega) I (DGet.k (k := Sum.inl i) hd) rx fun s' I' => ⟨.bl (!decide (i ∈ ks)), H, I', ?_, q⟩
    rw [numKv_at]
    by_cases c : i ∈ ks
    · rw [if_pos c, decide_eq_true c]; rfl
    · rw [if_neg c, decide_eq_false c]; rfl
  · cases (show u = Value.ref d from ry)
    cases (show v = Value.ref a from rx)
    obtain ⟨xs, hm, ex, hv, hs, e1⟩ := nd_of I hd hk
    have key : (nestedKind X.prog X.w).is s.heap k a := ⟨KeyN.is I k _ _ ha rfl, dp⟩
    refine notIn_keyed (knd := nestedKind X.prog X.w) (kvs := pairsH xs) (show X.A.units + 1 + 8 < cLine by omega) key hs ⟨xs, hm, rfl⟩ ⟨.bl (!decide (k ∈ kas.map (·.1))), H, I.tok _, ?_, q⟩
    rw [valueAt_pairsH, ← e1]
    have t := atKey_ix hv k
    by_cases c : k ∈ xs.map (·.1)
    · obtain ⟨b, t1, et⟩ := t.2 c
      rw [et, decide_eq_true c]; rfl
    · rw [t.1 c, decide_eq_false c]; rfl
theorem ix_N (hu : X.A.units + 64 < cLine) {o i : Expr} {td ty : TE} (ho : PE X o td) (hi : PE X i ty) (hs : NoSl i) : PE X (.Subscript o i pos) (tOp (rNG X.K X.prog X.w) td ty) := by
  refine ⟨fun pins s σ H Q I h => ?_⟩
  refine subD_of PySem.F.slot_dict_getitem.lookup hs (thn (ho.run pins s σ H _ I h) fun u s1 ⟨x, H1, I1, rx, q1⟩ => thn (hi.run pins s1 σ H1 _ I1 q1) fun iv s2 ⟨y, H2, I2, ry, q2⟩ => ?_)
  rcases q2 with ⟨d, ks, j, rfl, rfl, hd, hm, q⟩ | ⟨d, kas, a, k, rfl, rfl, hd, hk, ha, dp, hm, q⟩
  · obtain rfl : u = Value.ref d := rx
    have g : DGet H2 d (kV (Sum.inl j)) (some (.int ((ks.idxOf j : Nat) : Int))) := by
      have := DGet.k (k := Sum.inl j) hd
      rwa [numKv_at, if_pos hm] at this
    exact ⟨dict_typeIs I2 g, d_getItem (y := kV (Sum.inl j)) (by omega) I2 g ry fun w' s3 I3 rw' => ⟨_, H2, I3, rw', q⟩⟩
  · obtain rfl : u = Value.ref d := rx
    obtain rfl : iv = Value.ref a := ry
    obtain ⟨xs, hx, ex, hv, hs', e1⟩ := nd_of I2 hd hk
    have key : (nestedKind X.prog X.w).is s2.heap k a := ⟨KeyN.is I2 k _ _ ha rfl, dp⟩
    obtain ⟨b, t, et⟩ := (atKey_ix hv k).2 (by rw [e1]; exact hm)
    refine ⟨Heap.DictKeyed.typeIs (knd := nestedKind X.prog X.w) ⟨xs, hx, rfl⟩, wpAny_getItem_heap (knd := nestedKind X.prog X.w) (show X.A.units + 1 + 8 < cLine by omega) key hx et ⟨.int (((kas.map (·.1)).idxOf k : Nat) : Int), H2, I2.tok _, ⟨t, ?_⟩, q⟩⟩
    rw [e1]
theorem set_N (hu : X.A.units + 64 < cLine) : PSet X (rNS X.K X.prog X.w) := by
  intro pins s σ H o i v ov iv u Q I ro ri rv h
  rcases h with ⟨d, ks, j, rfl, rfl, rfl, hd, hm, hl, q⟩ | ⟨d, kas, a, k, rfl, rfl, rfl, hd, hk, ha, dp, hm, hl, q⟩
  · cases (show ov = Value.ref d from ro)
    have g : DPut H d (kV (Sum.inl j)) (.int (ks.length : Nat)) (upd H d (dI (ks ++ [j]))) := by
      have := DPut.k (k := Sum.inl j) (v := .int (ks.length : Nat)) hd (by rw [numKv_length, sizeLine_eq]; omega)
      rwa [putK_new _ (by rw [numKv_at, if_neg hm]), ← numKv_snoc] at this
    exact d_setItem (y := kV (Sum.inl j)) (by omega) I g ri rv fun s' I' => ⟨_, I', q⟩
  · cases (show ov = Value.ref d from ro)
    cases (show iv = Value.ref a from ri)
    obtain ⟨t, rfl⟩ := (show ∃ t, u = Value.int (kas.length : Nat) t from rv)
    obtain ⟨xs, hx, ex, hv, hs', e1⟩ := nd_of I hd hk
    have key : (nestedKind X.prog X.w).is s.heap k a := ⟨KeyN.is I k _ _ ha rfl, dp⟩
    have len : xs.length = kas.length := by rw [← ex, List.length_map]
    have none_ := (atKey_ix hv k).1 (by rw [e1]; exact hm)
    refine wpAny_setItem_heap (hsz := by rw [len, sizeLine_eq]; omega) (show X.A.units + 1 + 8 < cLine by omega) key hx fun h' dd hsb => ?_
    rw [storedH_new none_] at dd
    obtain ⟨q1, es, ep, hq, h2, h3, h4, _, h5⟩ := dd
    have new : NDat X.prog X.w d (kas ++ [(k, a)]) h' := by
      refine ⟨_, by rw [List.map_append, ex]; rfl, fun i x hx' => ?_, ?_, hs', q1, es, ep, hq, h2, h3, h4⟩
      · by_cases c : i < xs.length
        · rw [List.getElem?_append_left c] at hx'; exact hv i x hx'
        · rw [List.getElem?_append_right (by omega)] at hx'
          have e0 : i - xs.length = 0 := by
            have := (List.getElem?_eq_some_iff.mp hx').1
            simp at this
            omega
          rw [e0] at hx'
          have e2 : (k, a, Value.int (kas.length : Nat) t) = x := Option.some.inj hx'
          subst e2
          exact ⟨t, by rw [show i = kas.length by omega]⟩
      · rw [List.map_append, ← e1]
        rw [List.map_append] at h5
        exact h5
    exact ⟨_, d_write I (by rw [hd]; exact True.intro) hsb ⟨q1, hq⟩ (ndo_ok new), q⟩
theorem call_lenN : CallR X (.builtin "len") (rNL X.prog X.w) := by
  intro pins s σ H xs us Q I r h
  rcases h with ⟨d, ks, rfl, hd, q⟩ | ⟨d, kas, rfl, hd, lt, q⟩
  · exact call_lenD pins s σ H _ us Q I r ⟨d, _, rfl, hd, by rw [numKv_length]; exact q⟩
  · rw [Vals.ref1 r]
    obtain ⟨xs, ex, hv, nd, hs, o, es, ep, ho, h1, h2, h3⟩ : NDat X.prog X.w d kas s.heap := (I.hok d _ hd).1
    have len : xs.length = kas.length := by rw [← ex, List.length_map]
    have esz : es.size = kas.length := by rw [← Array.length_toList, h3, List.length_map, len]
    have hT : s.TypeIs (.ref d) "dict" := ⟨o, ho, h1.1⟩
    have b1 : ¬ ((kas.length : Nat) : Int) < 0 := by omega
    have raw : s.heap.DictRaw d es ep := ⟨o, ho, h1, h2⟩
    refine PyProof.Rows.call_len_slot (n := (kas.length : Nat)) hT F.slot_dict_len (fun Q' hq => call_len_raw hs raw (by rw [esz]; exact hq)) b1 ?_ ⟨.int (kas.length : Nat), H, I.tok _, ⟨_, rfl⟩, q⟩
    omega
end
end LkN
end

section
set_option Elab.async false
set_option linter.all false
set_option maxRecDepth 100000
set_option maxHeartbeats 2000000
/-! Rules lacking: try .. except X as n whose suite raises out of the def; an exception of one's own made where nothing is handled, its context told. -/
namespace LkX
open PySem PySem.Spec PyProof.Rows L2 L2H HotX

theorem frames_but {L : Addr} {h h' base : Heap} (k : ∀ b, b ≠ L → h'.get? b = h.get? b) (hL : ∃ o, h'.get? L = some o ∧ ∀ vs, o.data ≠ .fields vs) : ∀ {l : List Env}, h.FunFrames base l → h'.FunFrames base l
  | [], _ => trivial
  | env :: rest, ⟨hk, ⟨L', o, hf, hn, ho, hd⟩, hr⟩ => by
    refine ⟨hk, ?_, frames_but k hL hr⟩
    by_cases e : L' = L
    · subst e
      obtain ⟨o', h1, h2⟩ := hL
      exact ⟨L', o', hf, hn, h1, h2⟩
    · exact ⟨L', o, hf, hn, (k L' e).trans ho, hd⟩
theorem ns_nofields {h : Heap} {L : Addr} {m : Str → Option Value} (hn : h.Ns L m) : ∃ o, h.get? L = some o ∧ ∀ vs, o.data ≠ .fields vs := by
  obtain ⟨o, es, ep, ho, hd, _⟩ := hn
  exact ⟨o, ho, fun vs z => by rw [hd] at z; cases z⟩

/-- the context of the suite of «except X as n», which may raise -/
abbrev suiteY (X : Cx) (a : Addr) (pn : List (Addr × Obj)) (xe : Value → Shared → Prop) : Cx := { X with A := X.A.mark (some (.ref a)), calm := false, pn := pn, xe := xe }
theorem suiteY_of {X : Cx} {a : Addr} {pn pn' : List (Addr × Obj)} {σ : L2.St} {H : Hp} {s : Shared} {xe : Value → Shared → Prop} (I : Inv (X.suite a pn) pn' σ H s) : Inv (suiteY X a pn xe) pn' σ H s := Inv.wish (X := X.suite a pn) I xe
theorem unsuiteY {X : Cx} {pins : List (Addr × Obj)} {σ : L2.St} {H : Hp} {s : Shared} {a : Addr} {q : Addr × Obj} {pn' : List (Addr × Obj)} {xe : Value → Shared → Prop} (I : Inv (suiteY X a (q :: (X.pn ++ pins)) xe) pn' σ H s) (ok : X.Ok) : Inv X pins σ H s :=
  Inv.unsuite (X := X) (a := a) (q := q) (pn' := pn') (Inv.wish (X := suiteY X a (q :: (X.pn ++ pins)) xe) I (fun _ _ => False)) ok

section
variable {X : Cx}
/-- an exception that leaves the suite: noted, the name gone, out of the def -/
theorem as_leaves {a0 : Addr} {q : Addr × Obj} {pins : List (Addr × Obj)} {xe : Value → Shared → Prop} {n : Str} {pos' : Pos} (ok : X.Ok) (hs : X.stack = X.env :: X.outer) (hf : X.env.frame = some X.env.locals) (hex : X.ex = []) (hln : X.env.kindOf n = some .local)
    {E : XK} {E₁ : Value → Shared → Prop} (hx : X.xe = fun e s' => wpAny (model X.prog X.w) X.A (leaving X.env e) (fun _ s'' => L2.CX X.prog X.w X.outer X.H_0 X.s_0 E e s'') E₁ s')
    {W : WX} (hW : ∀ cls d σ H, W cls d σ H → E cls d H) {N : Value → Shared → Prop} {G : Value → Shared → Prop} (hN : ∀ e s', X.xe e s' → N e s') {u : Value} {s' : Shared} (x : L2.XE (suiteY X a0 (q :: (X.pn ++ pins)) xe) W u s') :
    wpAny (model X.prog X.w) (X.A.mark (some (.ref a0))) (noteFrame u X.env) (fun _ s₃' => wpAny (model X.prog X.w) (X.A.mark (some (.ref a0))) (do bindName X.env n .none; unbindBehindTheSuite X.env n pos')
      (fun _ s₄ => wpAny (model X.prog X.w) (X.A.mark (some (.ref a0))) (passOn "try.except-as" u X.env : Sem Flow) (fun _ _ => False) N s₄)
      (fun y s₄ => wpAny (model X.prog X.w) (X.A.mark (some (.ref a0))) (setFlight u none) (fun _ s₅ => N y s₅) N s₄) s₃') G s' := by
  obtain ⟨a, B, sI, pins', σ, H, cls, d, rfl, I, nb, up, sky, na, os, ag, w⟩ := x
  have hfr : (X.A.mark (some (.ref a0))).frames = some (X.env :: X.outer) := by
    have := I.ok.frames
    rw [show (suiteY X a0 (q :: (X.pn ++ pins)) xe).stack = X.env :: X.outer from hs] at this
    exact this
  have sky' : Sky B (X.env :: X.outer) a (Zc cls d) X.env.locals s'.heap := by
    have z : Sky B X.stack a (Zc cls d) X.env.locals s'.heap := sky
    rw [hs] at z
    exact z
  have land : ∀ {Q : Unit → Shared → Prop}, (∀ h3, HandSPX.HeldZ B (X.env :: X.outer) a (Zc cls d) X.env.locals h3 → s'.heap.UpToSlots h3 → Q () { s' with heap := h3 }) → wpAny (model X.prog X.w) (X.A.mark (some (.ref a0))) (noteFrame (.ref a) X.env) Q G s' := by
    intro Q hQ
    rcases sky' with ⟨hB, hn, hl, oe, vs, he, hz, hd, h1⟩ | fl | hd
    · exact HandSPX.look_newZ Zc.steady hfr hl hf he hB hn hd h1 hz hQ
    · exact HandSPX.looks_onZ Zc.steady hfr hf fl hQ
    · exact HandSPX.againZ hf hd.2.2.2 (hQ s'.heap hd fun b o e _ => ⟨o.slots, e⟩)
  refine land fun h3 hd3 up3 => ?_
  have J3 : Inv (suiteY X a0 (q :: (X.pn ++ pins)) xe) pins' σ H { s' with heap := h3 } := I.landed nb hd3.1 (up.trans up3) os ag
  obtain ⟨m, hn, _⟩ := J3.loc
  have hcls : (X.env.scope.kind == .class || (X.env.scope.kind == .module && X.env.locals != X.env.globals)) = false := by
    have := I.ok.kind
    rw [this]; rfl
  refine wpAny_nameGoes_keeps hln hn hcls fun h4 v hn4 hs4 => ?_
  have LB : B.get? X.env.locals = none := (hd3.2.2.1.mem (List.mem_filterMap.mpr ⟨X.env, List.mem_cons_self, hf⟩)).1
  have same4 : ∀ b o, b ≠ X.env.locals → h3.get? b = some o → h4.get? b = some o := fun b o hb e => (hs4.2 b hb).trans e
  have L3 : ∀ {vs : Array Value} {b : Addr} {o : Obj}, h3.get? b = some o → o.data = .fields vs → b ≠ X.env.locals := fun {vs b o} e dd z => by
    obtain ⟨o', e', hnf⟩ := ns_nofields hn
    rw [z] at e
    rw [show ({ s' with heap := h3 } : Shared).heap = h3 from rfl] at e'
    rw [e] at e'
    cases e'
    exact hnf _ dd
  have st4 : B.StaysIn h4 := fun b o e => same4 b o (fun z => by rw [z, LB] at e; cases e) (hd3.1 b o e)
  have hd4 : HandSPX.HeldZ B (X.env :: X.outer) a (Zc cls d) X.env.locals h4 := by
    obtain ⟨k1, k2, k3, oe, vs, T, oT, ts, e1, e2, e3, e4, e5, e6, e7, e8, e9⟩ := hd3
    exact ⟨st4, k2, frames_but hs4.2 (ns_nofields hn4) k3, oe, vs, T, oT, ts, same4 _ _ (L3 e1 e3) e1, e2, e3, e4, e5, e6, same4 _ _ (L3 e7 e8) e7, e8, e9⟩
  -- the raise goes on
  obtain ⟨k1, k2, k3, oe, vs, T, oT, ts, e1, e2, e3, e4, e5, e6, e7, e8, e9⟩ := id hd4
  unfold PySem.passOn
  refine wpAny_bind (wpAny_field e1 e3 e4 ?_)
  rw [if_neg (show ¬ ((Value.ref T == Value.none) = true) from by simp)]
  have nst : ∀ b o, X.s_0.heap.get? b = some o → b ∉ X.fs → b ∉ frs X.stack := fun b o e hb hm => by
    rcases List.mem_cons.mp (I.stkSub b hm) with z | z
    · have h1 := Heap.lt_size e
      have h2 : X.s_0.heap.objs.size ≤ X.env.locals := I.ok.above
      rw [show (suiteY X a0 (q :: (X.pn ++ pins)) xe).env.locals = X.env.locals from rfl] at z
      rw [z] at h1
      exact absurd (Nat.lt_of_lt_of_le h1 h2) (Nat.lt_irrefl _)
    · exact hb z
  have hex' : ∀ b, b ∉ X.ex := fun b hb => by rw [hex] at hb; cases hb
  have hokB := I.inGround nb
  have fin5 : ∀ h5, HandSPX.HeldZ B (X.env :: X.outer) a (Zc cls d) X.env.locals h5 → h4.UpToSlots h5 → ∀ tk, X.xe (.ref a) { s' with heap := h5, toks := tk } := by
    intro h5 hd5 up5 tk
    rw [hx]
    refine HandSPX.leaves_heldZ hf hd5 fun h6 fl6 up6 => ?_
    refine ⟨a, B, H, cls, d, rfl, fl6, hokB, ⟨fun b o e n hb => nb b o (I.base.keep b o e n hb (hex' b)) (nst b o e hb), fun b o e hb => ?_, fun b o e n => I.base.free b o e n (hex' b), fun b o e hb => ?_, I.base.tups, I.base.frzs, I.base.tbls⟩,
      na, os.trans I.os, ag, hW _ _ _ _ w⟩
    · obtain ⟨_, o₀, e₀, hnf⟩ := ok.funs.mem hb
      rw [e] at e₀; cases e₀
      obtain ⟨sl, z1⟩ := I.base.slot b o e (I.ok.frf b hb) hb (hex' b)
      obtain ⟨sl2, z2⟩ := up b _ z1 hnf
      obtain ⟨sl3, z3⟩ := up3 b _ z2 hnf
      have bL : b ≠ X.env.locals := fun z => by
        have h1 := Heap.lt_size e
        have h2 : X.s_0.heap.objs.size ≤ X.env.locals := ok.above
        rw [z] at h1
        exact absurd (Nat.lt_of_lt_of_le h1 h2) (Nat.lt_irrefl _)
      have z4 := same4 b _ bL z3
      obtain ⟨sl5, z5⟩ := up5 b _ z4 hnf
      obtain ⟨sl6, z6⟩ := up6 b _ z5 hnf
      exact ⟨sl6, z6⟩
    · obtain ⟨o', z1⟩ := I.base.there b o e (hex' b)
      exact ⟨o', nb b o' z1 (nst b o e hb)⟩
  have fin : wpAny (model X.prog X.w) (X.A.mark (some (.ref a0))) (setFlight (.ref a) X.env.frame) (fun _ s4 => wpAny (model X.prog X.w) (X.A.mark (some (.ref a0))) (throw (.ref a) : Sem Flow) (fun _ _ => False) N s4) N { s' with heap := h4, toks := s'.toks + 1 } := by
    rw [hf]
    exact HandSPX.setFlight_onZ hd4 fun h5 hh5 up5 => wpAny_throw (hN _ _ (fin5 h5 hh5 up5 _))
  first
    | exact wpAny_bind (wpAny_pure (wpAny_bind fin))
    | exact wpAny_bind fin
end

section
variable {X : Cx} {x n : Str} {c : Value} {i : Nat} {body suite : List Stmt} {b₀ : Stmt} {np pos pos' : Pos} {tb : WX → TS} {ts : Addr → Value → Option Addr → TS} {E : XK}
/-- try: body, except x as n: suite; the suite may raise out of the def -/
theorem ps_try_asX {E₁ : Value → Shared → Prop} (hs : X.stack = X.env :: X.outer) (hf : X.env.frame = some X.env.locals) (hex : X.ex = []) (hx : X.xe = fun e s' => wpAny (model X.prog X.w) X.A (leaving X.env e) (fun _ s'' => L2.CX X.prog X.w X.outer X.H_0 X.s_0 E e s'') E₁ s')
    (hN : X.N.Nodup) (hi : X.N[i]? = some n) (hln : X.env.kindOf n = some .local) (hc : Names X x c)
    (hb : ∀ (W : WX) (pn : List (Addr × Obj)) (xe : Value → Shared → Prop), L2N.Takes (X.tr pn xe) W → PassesOwn (model X.prog X.w) X.A X.env xe → PSs (X.tr pn xe) body (tb W))
    (hsu : ∀ (a : Addr) (oe : Obj) (cls : Value) (d : Option Addr) (pn : List (Addr × Obj)) (xe : Value → Shared → Prop), L2N.Zn cls d oe → (∃ vs, oe.data = .fields vs) → L2.Takes (suiteY X a ((a, oe) :: pn) xe) (fun cls d _ H => E cls d H) → HotC (suiteY X a ((a, oe) :: pn) xe) →
      PSs (suiteY X a ((a, oe) :: pn) xe) (b₀ :: suite) (ts a cls d)) :
    PS X (.Try body [.ExceptHandler (some (.Name x np)) (some n) (b₀ :: suite) pos'] [] [] pos) (fun D σ H => tb (wAs X.K c i ts (fun cls d _ H => E cls d H) D) D σ H) := by
  have tk : L2.Takes X (fun cls d _ H => E cls d H) := L2.takes_of hs hf hex hx
  have hpa : ∀ hd : Option Value, PassesOwnAt (model X.prog X.w) (X.A.mark hd) X.A X.env X.xe := passesAt_of hx
  refine ⟨fun pins s σ H D I h => ?_⟩
  have ok := I.ok
  have hfr : X.A.frames = some (X.env :: X.outer) := by rw [ok.frames, hs]
  have hloc : Loc X.env.scope n := .inl hln
  have notFr : ∀ {B h : Heap} {a : Addr} {o : Obj} {vs : Array Value}, h.FunFrames B (X.env :: X.outer) → h.get? a = some o → o.data = .fields vs → a ∉ frs (X.env :: X.outer) := fun {B h a o vs} ff e dd hm => by
    obtain ⟨_, o', e', hnf⟩ := ff.mem hm
    rw [e] at e'; cases e'
    exact hnf _ dd
  refine wpAny_Try_except ?_
  refine wpAny_mono ((hb (wAs X.K c i ts (fun cls d _ H => E cls d H) D) (X.pn ++ pins) (fun e s₁ => wpAny (model X.prog X.w) X.A (noteFrame e X.env) (fun _ s₂ => wpAny (model X.prog X.w) X.A (setFlight e none) (fun _ s₃ =>
    wpAny (model X.prog X.w) X.A (handleBy e X.env [.ExceptHandler (some (.Name x np)) (some n) (b₀ :: suite) pos']) (SP X pins D) X.xe s₃) X.xe s₂) X.xe s₁) (fun u s' xx => ?_) PassesOwn.looking).run [] s σ H D (I.toTry _) h) (fun f s1 hsp => ?_) (fun e s1 he => he)
  · obtain ⟨a, B, sI, pins', σ', H', cls, d, rfl, J', nb, up, sky, na, os, ag, b, hb1, hyes, hno⟩ := xx
    have J : Inv X pins σ' H' sI := J'.ofTry ok
    have sky' : Sky B (X.env :: X.outer) a (L2N.Zn cls d) X.env.locals s'.heap := by rw [← hs]; exact sky
    show wpAny (model X.prog X.w) X.A (noteFrame (.ref a) X.env) _ _ _
    refine L2N.Sky.land L2N.Zn.steady hfr hf sky' fun h3 fl3 up3 => ?_
    have J3 : Inv X pins σ' H' { s' with heap := h3 } := J.landed nb fl3.1 (up.trans up3) os ag
    obtain ⟨oe3, vs3, he3, hz3, hd3⟩ := fl3.there
    have nfr : a ∉ frs (X.env :: X.outer) := notFr fl3.2.2.1 he3 hd3
    have nL : a ≠ X.env.locals := fun z => nfr (List.mem_filterMap.mpr ⟨X.env, List.mem_cons_self, by rw [hf, z]⟩)
    have nF : a ∉ X.fs := fun hm => by
      obtain ⟨e, he, q⟩ := List.mem_filterMap.mp hm
      exact nfr (List.mem_filterMap.mpr ⟨e, List.mem_cons_of_mem _ he, q⟩)
    have S3 := J3.suite he3 hd3 na nL nF
    refine wpAny_handleBy_cons (codeAny_handlers_test ?_) (by intro q; cases q)
    have LT : PySem.W.Looks (model X.prog X.w) h3 (typeOf (.ref a)) cls := fun A Q E s k q => wpAny_typeOf_ref (k _ _ he3) (by rw [hz3.1]; exact q)
    have LM := PySem.W.exm_one (M := model X.prog X.w) (J3.kIn) LT hb1
    have test : ∀ {Q : Value → Shared → Prop} {E : Value → Shared → Prop}, Q c { s' with heap := h3 } → wpAny (model X.prog X.w) (X.A.mark (some (.ref a))) (eval (.Name x np) X.env) Q E { s' with heap := h3 } := fun {Q E} q => by
      obtain ⟨hg, hdbg, hm | ⟨hm, hv, hnn⟩⟩ := hc
      · exact ld_glob (X := X.suite a ((a, oe3) :: (X.pn ++ pins))) S3 hg hm q hdbg
      · exact ld_blt (X := X.suite a ((a, oe3) :: (X.pn ++ pins))) S3 hg hm hv q hnn hdbg
    refine test (LM.here ?_)
    cases b with
    | true =>
      refine codeAny_handlers_suite_as ?_
      refine HandSPX.lands_againZ fl3 fun h4 fl4 up4 => ?_
      have J4 : Inv X pins σ' H' { s' with heap := h4 } := J.landed nb fl4.1 ((up.trans up3).trans up4) os ag
      obtain ⟨oe4, vs4, he4, hz4, hd4⟩ := fl4.there
      have S4 := J4.suite he4 hd4 na nL nF
      refine store_ok (X := X.suite a ((a, oe4) :: (X.pn ++ pins))) (v := .ref a) S4 hN hi hloc rfl (fun s5 S5 => ?_) (.inr hln)
      refine wpAny_mono ((hsu a oe4 cls d (X.pn ++ pins) _ hz4 ⟨_, hd4⟩ ?_ ⟨(a, oe4), ⟨rfl, vs4, hd4, hz4.2.2 vs4 hd4⟩, List.mem_cons_self⟩).run [] s5 _ H' _ (suiteY_of S5) (hyes rfl a na)) (fun f s6 hsp => ?_) (fun e6 s6 z => z)
      · intro u2 s2 x2
        exact as_leaves ok hs hf hex hln hx (fun _ _ _ _ z => z) (fun e' s'' z => hpa (some (.ref a)) e' s'' z) x2
      have end_ : ∀ {xe' : Value → Shared → Prop} {σ6 : L2.St} {H6 : Hp} {Q : Shared → Prop}, Inv (suiteY X a ((a, oe4) :: (X.pn ++ pins)) xe') [] σ6 H6 s6 → (∀ s7, Inv X pins (σ6.set i none) H6 s7 → Q s7) →
          wpAny (model X.prog X.w) X.A (do bindName X.env n .none; unbindBehindTheSuite X.env n pos') (fun _ s7 => Q s7) X.xe s6 := fun {xe' σ6 H6 Q} S6 hq => gone_ok (unsuiteY S6 ok) hN hi hln hq
      cases f with
      | next =>
        obtain ⟨σ6, H6, S6, q6⟩ := hsp
        exact end_ S6 fun s7 J7 => ⟨_, _, J7, q6⟩
      | brk =>
        obtain ⟨σ6, H6, S6, q6⟩ := hsp
        exact end_ S6 fun s7 J7 => ⟨_, _, J7, q6⟩
      | cont =>
        obtain ⟨σ6, H6, S6, q6⟩ := hsp
        exact end_ S6 fun s7 J7 => ⟨_, _, J7, q6⟩
      | ret u =>
        obtain ⟨v6, σ6, H6, S6, r6, q6⟩ := hsp
        exact end_ S6 fun s7 J7 => ⟨_, _, _, J7, r6, q6⟩
    | false =>
      show wpAny _ X.A (handleBy (.ref a) X.env []) _ _ _
      refine wpAny_handleBy_nil ?_
      obtain ⟨k1, k2, k3, oe, vs, T, oT, ts', he, hz, hd, h1, hr⟩ := id fl3
      unfold PySem.passOn
      refine wpAny_bind (wpAny_field he hd h1 ?_)
      rw [if_neg (show ¬ ((Value.ref T == Value.none) = true) from by simp)]
      have fin : wpAny (model X.prog X.w) X.A (setFlight (.ref a) X.env.frame) (fun _ s4 => wpAny (model X.prog X.w) X.A (throw (.ref a) : Sem Flow) (SP X pins D) X.xe s4) X.xe { s' with heap := h3 } := by
        rw [hf]
        refine HandSPX.setFlight_upZ (flyingZ_imp (fun o z => z.zc) fl3) fun h4 hh4 up4 => wpAny_throw (tk _ _ ?_)
        exact ⟨a, B, sI, pins, σ', H', cls, d, rfl, J, nb, (up.trans up3).trans up4, .inr (.inr (by rw [hs]; exact hh4)), na, os, ag, hno rfl⟩
      first
        | exact wpAny_bind (wpAny_pure (wpAny_bind fin))
        | exact wpAny_bind fin
  · cases f with
    | next =>
      obtain ⟨σ', H', J', q⟩ := hsp
      exact wpAny_execs_nil ⟨σ', H', J'.ofTry ok, q⟩
    | brk =>
      obtain ⟨σ', H', J', q⟩ := hsp
      exact ⟨σ', H', J'.ofTry ok, q⟩
    | cont =>
      obtain ⟨σ', H', J', q⟩ := hsp
      exact ⟨σ', H', J'.ofTry ok, q⟩
    | ret u =>
      obtain ⟨v, σ', H', J', r, q⟩ := hsp
      exact ⟨v, σ', H', J'.ofTry ok, r, q⟩
end

/-! ### C(e, ..) where nothing is handled, its context None -/
section
variable {X : Cx} {e : Expr} {es : List Expr} {ta : TA} {p pos : Pos}
theorem pmkN_oex {CX : CXT} {x : Str} {C fI : Addr} {k : Nat} {fd : FuncData} {ps : List Str} {sp : Sp} {ds : List Value} {dvs : List V} (T : OexC X.K C) (iC : PySem.W.findIn X.K (.ref C) "__init__" = some (some (.ref fI))) (tI : PySem.W.typeIn X.K (.ref fI) = some (.type "function"))
    (F1 : FnOk X.prog X.w X.K X.mg X.base CX k fI fd ps sp) (hr : Room (k + 1) X.A) (hb : Binds X.K fd ps ds) (hd : Vals dvs ds) (hx : Passes CX X (fun _ _ _ => False)) (hg : Gl X x) (hm : X.mg x = some (.ref C)) (ha : PA X (e :: es) ta)
    (hdb : (x == ("__debug__" : Str)) = false := by decide) (he : starEach (e :: es) X.env = (false, eval e X.env) :: starEach es X.env := by rfl) (hpl : (backTo pos (starEach es X.env)).any (·.1) = false := by rfl) :
    L2N.PMk X (.Call (.Name x p) (e :: es) [] pos) (tMkO C sp dvs ta) := by
  intro pins s σ H Q I h
  obtain ⟨nm, q, N, bs, bm, sn, sub, ab, col, dd, k0, k1, k2, k3, k5, hC, hbm⟩ := T.cls
  refine wpAny_Call_Name_kw (ld_glob I hg hm ?_ hdb)
  refine PySem.W.callWith_K (h₀ := X.base) I.ok.mod.kin T.kC (thn (ha.run pos pins s σ H _ I h) fun us s1 ⟨vs, H1, I1, r1, hz, q1⟩ => ⟨I1.kIn, ?_⟩) he hpl
  show wpAny _ _ (call (.ref C) us) _ _ _
  obtain ⟨hp, g, dr, tk, os⟩ := s1
  have hsz : hp.objs.size ≤ hp.objs.size + 1 := Nat.le_succ _
  have hn : H1 (hp.objs.size + 1) = none := I1.hok.fresh hsz
  have hq := q1 (hp.objs.size + 1) hn
  have kk : ∀ b o, hp.get? b = some o → ((hp.push (PySem.W.kdv_tup us)).push (PySem.HandSPX.excO C hp.objs.size)).get? b = some o := fun b o e => Heap.get?_push_of_some _ (Heap.get?_push_of_some _ e)
  have hget : ((hp.push (PySem.W.kdv_tup us)).push (PySem.HandSPX.excO C hp.objs.size)).get? (hp.objs.size + 1) = some (PySem.HandSPX.excO C hp.objs.size) := by heap_get
  have I2 : Inv X pins σ (upd H1 (hp.objs.size + 1) (exo (hp.objs.size + 1) C none)) ⟨(hp.push (PySem.W.kdv_tup us)).push (PySem.HandSPX.excO C hp.objs.size), g, dr, tk, os⟩ :=
    I1.laid (t' := tk) (a := hp.objs.size + 1) (o := exo (hp.objs.size + 1) C none) (h' := (hp.push (PySem.W.kdv_tup us)).push (PySem.HandSPX.excO C hp.objs.size)) kk hsz (exo_ok hget)
  have r2 : Vals (V.ref (hp.objs.size + 1) :: (vs ++ dvs)) (Value.ref (hp.objs.size + 1) :: (us ++ ds)) := .cons rfl (r1.append hd)
  have hl : (Value.ref (hp.objs.size + 1) :: us ++ ds).length = ps.length := by
    have e := r2.length
    rw [F1.len _ _ _ _ hq] at e
    exact e.symm
  have hus : us.length ≤ sizeLine := by
    rw [← Paired.length r1, sizeLine_eq]
    omega
  refine wpAny_call (PySem.HandSPX.call_own F.excBase_ValueError (fun Y => PySem.HandSPX.refsVE_contains Y bm hbm) (I1.kIn _ _ hC) (PySem.W.looks_findIn I1.kIn iC) (fun self => PySem.W.bind_fn I1.kIn self tI) hus
    (codeAny_mono (F1.run _ X.stack _ _ ⟨Value.ref (hp.objs.size + 1) :: us, []⟩ (Value.ref (hp.objs.size + 1) :: (us ++ ds)) _ _ (fun _ _ _ => False) (hr.make C us []) (I2.env0.make C us []) (hb _ (Value.ref (hp.objs.size + 1) :: us) I2.kIn hl) r2 hq) fun r s' hq' => ?_))
  cases r with
  | error er => exact hx pins σ _ _ er s' I2 hq'
  | ok fl =>
    cases fl with
    | ret u =>
      obtain ⟨v, H2, os2, bare2, un2, hok2, rv, ev, d, fs, ea, ed, hd1, q2⟩ := hq'
      subst ev
      obtain ⟨h2, g2, d2, t2, os'⟩ := s'
      refine ⟨rv, ?_⟩
      obtain ⟨t0, G, J, kG, ge, hoe, na⟩ := mk_end0 (d2 := d2) (t2 := t2) I1 hsz kk un2 hok2 os2 bare2 ea ed hd1
      exact ⟨hp.objs.size + 1, _, _, ⟨G, g2, d2, t2, os'⟩, _, .ref C, some d, rfl, J, kG, ge, hoe, ⟨rfl, rfl, fun vs q => by cases q; rfl⟩, rfl, rfl, na, rfl, bare2, raises_own T.exC T.tyC, q2⟩
    | next => exact False.elim hq'
    | brk => exact False.elim hq'
    | cont => exact False.elim hq'
end

section
variable {P : Program} {w : World} {K : PySem.W.Frag} {mg : Str → Option Value} {base : Heap}
/-- as Fun.okX, what leaves having the context None -/
theorem okN {x qual : Str} {st : Stmt} {f : Addr} {fd : FuncData} {N ps : List Str} {k : Nat} {sp : Sp} (F : Fun K x qual st f fd) (S : FnScope N ps (defScope st)) (len : ∀ vs H Q E, sp vs H Q E → vs.length = ps.length)
    (hbody : ∀ (cdv : Value) (A : Around) (outer : List Env) (s : Shared) (H : Hp) (vs : List V) (Q : VK) (E : XK), Room k (A.deeper (envOfC qual (defScope st) s.heap.objs.size f cdv)) → sp vs H Q E →
      ∃ t, PSs (cxOf (L2N.CX P w) P w K mg base N qual (defScope st) f cdv A outer s H E) (defBody st) t ∧ t { nx := fun _ H' => Q .non H', rt := Q } (start N vs) H) : FnOk P w K mg base (L2N.CX P w) (k + 1) f fd ps sp := by
  obtain ⟨oc, od, kV, doc, pm, an, cdv, ct, osl, rfl, lk, hcd⟩ := F.ex
  exact fn_of lk hcd S len fun A outer s H vs Q E hr hsp => hbody cdv A outer s H vs Q E hr hsp
/-- a def that may be called while an exception is handled (nothing leaves it) -/
theorem okH {x qual : Str} {st : Stmt} {f : Addr} {fd : FuncData} {N ps : List Str} {k : Nat} {sp : Sp} (F : Fun K x qual st f fd) (S : FnScope N ps (defScope st)) (len : ∀ vs H Q E, sp vs H Q E → vs.length = ps.length)
    (hbody : ∀ (cdv : Value) (A : Around) (outer : List Env) (s : Shared) (H : Hp) (vs : List V) (Q : VK) (E : XK) (p : Addr × Obj), Hot1 A p → RoomH k (A.deeper (envOfC qual (defScope st) s.heap.objs.size f cdv)) → sp vs H Q E →
      ∃ t, PSs (cxH CX0 P w K mg base N qual (defScope st) f cdv A outer s H E p) (defBody st) t ∧ t { nx := fun _ H' => Q .non H', rt := Q } (start N vs) H) : FnH P w K mg base CX0 (k + 1) f fd ps sp := by
  obtain ⟨oc, od, kV, doc, pm, an, cdv, ct, osl, rfl, lk, hcd⟩ := F.ex
  exact fn_ofH lk hcd S len fun A outer s H vs Q E p hh hr hsp => hbody cdv A outer s H vs Q E p hh hr hsp
end
end LkX
end

section
set_option Elab.async false
set_option linter.all false
set_option maxRecDepth 100000
set_option maxHeartbeats 2000000
/-! More rules: None among lists; xs[-2::-1]; how many differ; bits of numbers. -/
namespace LkM
open PySem PySem.Spec PyProof.Rows L2

/-! ### None in a list of lists and Nones -/
def LoN (K : PySem.W.Frag) (H : Hp) (v : V) : Prop := v = .non ∨ ∃ a ys, v = .ref a ∧ SqL K H a ys
def rNoneIn (K : PySem.W.Frag) : R2 := fun x y H Q => ∃ p xs, x = .non ∧ y = .ref p ∧ SqL K H p xs ∧ (∀ v ∈ xs, LoN K H v) ∧ ∀ b : Bool, (b = true ↔ V.non ∈ xs) → Q (.bl b) H
def isN : Value → Bool
  | .none => true
  | _ => false
section
variable {X : Cx}
theorem eqs_none {A : Around} {s : Shared} {pins : List (Addr × Obj)} {σ : L2.St} {H : Hp} (I : Inv X pins σ H s) (hu : A.units < cLine) : ∀ {xs : List V} {us : List Value}, Vals xs us → (∀ v ∈ xs, LoN X.K H v) → (∀ u ∈ us, SeqAt.EqAt A s u .none (isN u)) ∧ (us.any isN = true ↔ V.non ∈ xs)
  | _, _, .nil, _ => ⟨fun u hu => absurd hu (by simp), by simp⟩
  | y :: xs, u :: us, .cons r t, h => by
    obtain ⟨h1, h2⟩ := eqs_none I hu t fun v hv => h v (List.mem_cons_of_mem _ hv)
    rcases h y List.mem_cons_self with e | ⟨a, ys, e, hq⟩
    · subst e
      obtain rfl : u = .none := r
      refine ⟨fun w hw => ?_, by simp [isN]⟩
      rcases List.mem_cons.mp hw with e | hw
      · rw [e]
        exact SeqAt.EqAt.same _
      · exact h1 w hw
    · subst e
      obtain rfl : u = .ref a := r
      refine ⟨fun w hw => ?_, ?_⟩
      · rcases List.mem_cons.mp hw with e | hw
        · rw [e]
          obtain ⟨its, r, pl, hz⟩ := I.list hq
          exact SeqAt.EqAt.list_none pl.isList hu
        · exact h1 w hw
      · rw [List.any_cons, show isN (.ref a) = false from rfl, Bool.false_or, h2]
        simp
theorem op_noneIn (hu : X.A.units + 64 < cLine) : OpR X (compareOp .In) (rNoneIn X.K) := by
  intro pins s σ H x y v u Q I rx ry h
  obtain ⟨p, xs, rfl, rfl, hq, hx, q⟩ := h
  cases ry
  obtain rfl : v = .none := rx
  obtain ⟨its, r, pl, hz⟩ := I.list hq
  obtain ⟨h1, h2⟩ := eqs_none (A := X.A.in1) I (by show X.A.units + 1 < cLine; omega) r hx
  refine SeqAt.in_listAt isN pl.isList (fun w hw => h1 w (by simpa using hw)) ⟨.bl _, H, I, rfl, q _ ?_⟩
  rw [show its.toArray.any isN = its.any isN by simp]
  exact h2

/-! ### xs[-2::-1]: all but the last, backwards -/
theorem bounds2 (n : Nat) : sliceBounds (some (-2)) none (some (-1)) n = (((n - 1 : Nat) : Int) - 1, -1, -1) := by
  unfold sliceBounds
  simp only [Option.getD_some]
  refine Prod.ext ?_ rfl
  simp only
  rw [if_neg (by decide : ¬ ((-1 : Int) > 0)), if_pos (by decide : (-2 : Int) < 0)]
  omega
theorem pick2 (items : Array Value) : slicePick items (some (-2)) none (some (-1)) = items.toList.dropLast.reverse.toArray := by
  unfold slicePick
  rw [bounds2]
  dsimp only
  rw [PySem.W.krv_sliceRange, PySem.W.krv_range, List.filterMap_reverse]
  have h := pick_run items 0 (items.size - 1)
  have e : (List.range (items.size - 1)).map (0 + ·) = List.range (items.size - 1) := by
    rw [show ((0 + ·) : Nat → Nat) = id from funext fun k => Nat.zero_add k, List.map_id]
  rw [e, List.drop_zero] at h
  rw [h, List.dropLast_eq_take, Array.length_toList]
def tRev2 (K : PySem.W.Frag) (te : TE) : TE := fun σ H Q => te σ H fun x H1 => ∃ a xs, x = .ref a ∧ SqL K H1 a xs ∧ ∀ p, H1 p = none → Q (.ref p) (upd H1 p (.lst xs.dropLast.reverse))
theorem pe_rev2 {e : Expr} {te : TE} {k j : Nat} {p0 p00 p1 p2 p3 pos : Pos} (he : PE X e te) : PE X (.Subscript e (.Slice (some (.UnaryOp .USub (.Constant (.int 2) j p0) p00)) none (some (.UnaryOp .USub (.Constant (.int 1) k p1) p2)) p3) pos) (tRev2 X.K te) := by
  refine ⟨fun pins s σ H Q I h => ?_⟩
  refine Subscript_ (thn (he.run pins s σ H _ I h) fun v s1 ⟨x, H1, I1, r1, a, xs, ex, hx, q⟩ => ?_)
  subst ex
  cases r1
  have two : PO X (some (.UnaryOp .USub (.Constant (.int 2) j p0) p00)) (tPart (tUn (rU fun i => .int (-i)) (tC (.int 2)))) := po_some (pe_un un_neg pe_int)
  have one : PO X (some (.UnaryOp .USub (.Constant (.int 1) k p1) p2)) (tPart (tUn (rU fun i => .int (-i)) (tC (.int 1)))) := po_some (pe_un un_neg pe_int)
  refine wpAny_Slice (thn (two.run pins s1 σ H1 (fun o H2 => o = some (-2) ∧ H2 = H1) I1 ⟨2, rfl, -2, rfl, rfl, rfl⟩) fun vl s2 ⟨l, H2, I2, pl, el, e2⟩ => ?_)
  subst el e2
  refine thn (po_none.run pins s2 σ H2 (fun o H3 => o = none ∧ H3 = H2) I2 ⟨rfl, rfl⟩) fun vu s3 ⟨u, H3, I3, pu, eu, e3⟩ => ?_
  subst eu e3
  refine thn (one.run pins s3 σ H3 (fun o H4 => o = some (-1) ∧ H4 = H3) I3 ⟨1, rfl, -1, rfl, rfl, rfl⟩) fun vs s4 ⟨o, H4, I4, ps, eo, e4⟩ => ?_
  subst eo e4
  have I5 : Inv X pins σ H4 { s4 with heap := s4.heap.push { cls := .type "slice", data := .fields #[vl, vu, vs] } } := I4.kept (t' := s4.toks) fun b ob q => Heap.get?_push_of_some _ q
  obtain ⟨its, r, ht, hz⟩ := I5.list hx
  have hlen := r.length
  show wpAny (model X.prog X.w) X.A (subscriptTail e (.Slice (some (.UnaryOp .USub (.Constant (.int 2) j p0) p00)) none (some (.UnaryOp .USub (.Constant (.int 1) k p1) p2)) p3) (.ref a) (.ref s4.heap.objs.size)) (EP X pins σ Q) X.xe { s4 with heap := s4.heap.push { cls := .type "slice", data := .fields #[vl, vu, vs] } }
  refine tail_any (ops := [.ref a, .ref s4.heap.objs.size]) ht.isList.typeIs (PySem.slot_list_getitem.lookup) ?_ (by with_unfolding_all rfl)
  refine wpAny_getItem_list_slice ht.isList (Heap.IsSliceOf.new _ vl vu vs) pl pu ps (by decide) ?_ (by rw [List.size_toArray]; omega)
  rw [pick2]
  have rr : Vals xs.dropLast.reverse its.toArray.toList.dropLast.reverse := by
    rw [List.dropLast_eq_take, List.dropLast_eq_take, List.toList_toArray, hlen]
    exact (r.take _).reverse
  refine ⟨.ref _, _, I5.laid (t' := s4.toks) (o := .lst xs.dropLast.reverse) (fun b ob q => Heap.get?_push_of_some _ q) (Nat.le_refl _) ?_, rfl, q _ (I5.hok.fresh (Nat.le_refl _))⟩
  exact ⟨by rw [List.length_reverse, List.length_dropLast]; omega, _, 0, rr, Heap.get?_push_size _ rfl⟩

/-! ### len(set(numbers)) -/
def addNew (acc : List Int) (x : Int) : List Int := PyProof.Rows.step_dedup acc x
theorem firstMet_eq (ns : List Int) : PyProof.Rows.firstMet (fun i => ns.getD i 0) ns.length = ns.eraseDups := by
  have hmap : (List.range ns.length).map (fun i => ns.getD i 0) = ns := by
    apply List.ext_getElem
    · simp
    · intro i h1 h2
      simp only [List.getElem_map, List.getElem_range]
      exact Lk.getD_lt ns i 0 h2
  unfold PyProof.Rows.firstMet
  rw [hmap]
  have go : ∀ (l : List Int), l.foldl PyProof.Rows.step_dedup [] = l.eraseDups := by
    intro l
    refine Lk.rev_ind (p := fun (l : List Int) => l.foldl PyProof.Rows.step_dedup [] = l.eraseDups) rfl (fun l x ih => ?_) l
    rw [List.foldl_append, ih, List.eraseDups_append]
    simp only [List.foldl_cons, List.foldl_nil]
    unfold PyProof.Rows.step_dedup
    by_cases h : x ∈ l.eraseDups
    · have h' : x ∈ l := List.mem_eraseDups.mp h
      simp [h', h, List.removeAll]
    · have h' : ¬ x ∈ l := fun z => h (List.mem_eraseDups.mpr z)
      have one : [x].eraseDups = [x] := rfl
      simp [h', h, List.removeAll, one]
  exact go ns
def tLenSet (K : PySem.W.Frag) (ta : TE) : TE := fun σ H Q => ta σ H fun x H1 => ∃ (l : Addr) (ns : List Int), x = .ref l ∧ SqL K H1 l (ns.map V.int) ∧ ns.length ≤ 4000 ∧ Q (.int (ns.eraseDups.length : Nat)) H1
theorem pe_lenSet {a : Expr} {ta : TE} {p p2 q pos : Pos} (hg : Gl X "len") (hm : X.mg "len" = none) (hg2 : Gl X "set") (hm2 : X.mg "set" = none) (ha : PE X a ta) (hc : X.calm = true := by rfl)
    (na : starEach [a] X.env = (false, eval a X.env) :: starEach [] X.env := by rfl) : PE X (.Call (.Name "len" p) [.Call (.Name "set" p2) [a] [] q] [] pos) (tLenSet X.K ta) := by
  refine ⟨fun pins s σ H Q I h => ?_⟩
  refine Call_ (ld_blt I hg hm boot_len ?_)
  refine PyProof.Rows.callWith_builtin1 (PyProof.Rows.args_cons ?_ rfl) rfl rfl
  refine Call_ (ld_blt I hg2 hm2 boot_set ?_)
  refine PyProof.Rows.callWith_type1 (PyProof.Rows.args_cons (thn (ha.run pins s σ H _ I h) fun v s1 ⟨x, H1, I1, r1, l, ns, ex, hq, hl, q1⟩ => PyProof.Rows.args_nil ?_) na) na rfl
  subst ex
  cases r1
  obtain ⟨its, r, pl, hz⟩ := I1.list hq
  have hlen : its.toArray.size = ns.length := by rw [List.size_toArray, ← r.length, List.length_map]
  refine call_set_list (I1.ok.hd hc) pl.isList (by simpa using RZ.intsAre_vals r) (by rw [hlen]; unfold scanBound; omega) fun h' tk hS hk => ?_
  refine PyProof.Rows.args_nil ?_
  rw [hlen, firstMet_eq] at hS
  obtain ⟨o, es, ep, t, ho, hex, hd, _, _, _, hf, hn⟩ := hS
  have hle : ns.eraseDups.length ≤ ns.length := by
    rw [← firstMet_eq]
    exact PyProof.Rows.firstMet_length_le _ _
  have I2 : Inv X pins σ H1 { s1 with heap := h', toks := tk } := I1.kept fun b o e => hk b o (Heap.lt_size e) e
  exact call_len_set ho hex hd hf (by rw [hn] <;> omega) ⟨.int ns.eraseDups.length, H1, I2.tok _, ⟨_, by rw [hn]⟩, q1⟩
end

/-! ### bits of numbers -/
theorem band_nn (x y : Nat) : Builtin.bitAnd (x : Int) (y : Int) = ((x &&& y : Nat) : Int) := by
  unfold Builtin.bitAnd
  rw [decide_eq_true (Int.natCast_nonneg x), decide_eq_true (Int.natCast_nonneg y)]
  simp
theorem bor_nn (x y : Nat) : Builtin.bitOr (x : Int) (y : Int) = ((x ||| y : Nat) : Int) := by
  rw [Bits.bitOr_pp (Int.natCast_nonneg x) (Int.natCast_nonneg y)]
  simp
theorem bxor_nn (x y : Nat) : Builtin.bitXor (x : Int) (y : Int) = ((x ^^^ y : Nat) : Int) := by
  rw [Bits.bitXor_pp (Int.natCast_nonneg x) (Int.natCast_nonneg y)]
  simp
theorem bit_is (x k : Nat) : Builtin.bitAnd ((x : Int) / 2 ^ ((k : Int).toNat)) 1 = ((x.testBit k).toNat : Int) := by
  have e : (x : Int) / 2 ^ ((k : Int).toNat) = ((x >>> k : Nat) : Int) := by
    rw [Nat.shiftRight_eq_div_pow, Int.toNat_natCast]
    simp
  rw [e]
  have h : Builtin.bitAnd ((x >>> k : Nat) : Int) ((1 : Nat) : Int) = _ := band_nn (x >>> k) 1
  rw [show (1 : Int) = ((1 : Nat) : Int) from rfl, h, Nat.testBit]
  have h2 : (x >>> k) &&& 1 = (x >>> k) % 2 := Nat.and_one_is_mod _
  have h3 : 1 &&& (x >>> k) = (x >>> k) % 2 := by rw [Nat.and_comm]; exact h2
  rw [h2, h3]
  rcases Nat.mod_two_eq_zero_or_one (x >>> k) with h | h <;> rw [h] <;> rfl
theorem bit_one (x k : Nat) : decide (Builtin.bitAnd ((x : Int) / 2 ^ ((k : Int).toNat)) 1 = 1) = x.testBit k := by
  rw [bit_is]
  cases x.testBit k <;> rfl
end LkM
end

section
set_option Elab.async false
set_option linter.all false
set_option maxRecDepth 100000
set_option maxHeartbeats 2000000
/-! The words of this program's walk: facts of the top; what evaluates to what. -/
namespace LkW
open PySem PySem.Spec PyProof.Rows L2

/-! ### facts -/
structure FnT (K : PySem.W.Frag) (mg : Str → Option Value) (nm : Str) (st : Stmt) where
  f : Addr
  fd : FuncData
  F : Fun K nm nm st f fd
  g : mg nm = some (.ref f)
structure MtT (K : PySem.W.Frag) (C : Addr) (nm qual : Str) (st : Stmt) where
  f : Addr
  fd : FuncData
  F : Fun K nm qual st f fd
  m : Meth K C nm f
structure ClT (K : PySem.W.Frag) (mg : Str → Option Value) (nm : Str) where
  C : Addr
  cl : Cls K C
  mi : PySem.W.makesIn K C = true
  kc : PySem.W.keepIn K (.ref C) = true
  g : mg nm = some (.ref C)
/-- an exception's class, its one field -/
structure XcT (K : PySem.W.Frag) (mg : Str → Option Value) (nm fld : Str) where
  C : Addr
  g : mg nm = some (.ref C)
  ox : OexC K C
  xf : XfC K C
  nf : PySem.W.findIn K (.ref C) fld = some none
  self : PySem.W.exmOne K (.ref C) (.ref C) = some true
structure XiT (K : PySem.W.Frag) (C : Addr) (qual : Str) (st : Stmt) where
  f : Addr
  fd : FuncData
  F : Fun K "__init__" qual st f fd
  iC : PySem.W.findIn K (.ref C) "__init__" = some (some (.ref f))
  tI : PySem.W.typeIn K (.ref f) = some (.type "function")
/-- a written tuple of numbers -/
structure TuK (K : PySem.W.Frag) (mg : Str → Option Value) (nm : Str) (l : List Int) where
  a : Addr
  g : mg nm = some (.ref a)
  t : ∀ H, SqT K H a (l.map V.int)
section
variable {X : Cx}
theorem pe_K {x : Str} {i : Int} {pos : Pos} (hg : Gl X x) (h : ∃ t, X.mg x = some (.int i t)) (hd : (x == ("__debug__" : Str)) = false := by decide) : PE X (.Name x pos) (tC (.int i)) := by
  obtain ⟨t, h⟩ := h
  exact pe_glob hg h ⟨t, rfl⟩ hd
theorem pe_tupK {x : Str} {l : List Int} {pos : Pos} (hg : Gl X x) (h : TuK X.K X.mg x l) (hd : (x == ("__debug__" : Str)) = false := by decide) : PE X (.Name x pos) (tC (.ref h.a)) :=
  pe_glob hg h.g rfl hd
theorem units65 {k : Nat} {A : Around} (r : Room k A) : A.units + 65 < cLine := by have := r.un; omega
theorem units70 {k : Nat} {A : Around} (r : Room k A) : A.units + 70 < cLine := by have := r.un; omega
theorem units1 {k : Nat} {A : Around} (r : Room k A) : A.units + 1 < cLine := by have := r.un; omega
/-- o.m(e, ..) within a try -/
def tMethS (C : Addr) (m : Str) (sp : Sp) (E : L2.St → XK) (ta : TE) (t : TA) : TE := fun σ H Q => ta σ H fun x H1 => ∃ a dx fs, x = .ref a ∧ H1 a = some (.ins C dx fs) ∧ fs.lookup m = none ∧ t σ H1 fun vs H2 => sp (x :: vs) H2 Q (E σ)
theorem pe_methS {CX : CXT} {k : Nat} {f C : Addr} {fd : FuncData} {ps : List Str} {sp : Sp} {E : L2.St → XK} {m : Str} {pos apos : Pos} {e o : Expr} {es : List Expr} {ta : TE} {t : TA} {pl : Sem Bool} (he : PE X o ta) (c : Cls X.K C) (hm : Meth X.K C m f)
    (F : FnOk X.prog X.w X.K X.mg X.base CX k f fd ps sp) (hr : Room k X.A) (hb : Binds X.K fd ps []) (hx : ∀ σ, PassesAt CX X σ (E σ)) (ha : PA X (e :: es) t)
    (hst : starEach (e :: es) X.env = (false, eval e X.env) :: starEach es X.env := by rfl) (hpl : (backTo pos (starEach es X.env)).any (·.1) = false := by rfl)
    (ht : eval (.Call (.Attribute o m apos) (e :: es) [] pos) X.env = (do
      let ov ← eval o X.env
      standAt apos.atName
      let (f, first) ← holding [ov] (getMethod ov m pl)
      callWith pos f first (backTo pos (starEach (e :: es) X.env)) (backToKw pos (keywordEach [] X.env))) := by rfl) :
    PE X (.Call (.Attribute o m apos) (e :: es) [] pos) (tMethS C m sp E ta t) := by
  refine ⟨fun pins s σ H Q I h => ?_⟩
  refine PySem.W.methodCall_KW (pl := pl) (thn (he.run pins s σ H _ I h) fun u s1 ⟨x, H1, I1, rx, a, dx, fs, ex, ea, l, q⟩ => ?_) ht
  subst ex
  obtain rfl : u = Value.ref a := rx
  refine getmeth_ok I1 ea c hm l ?_
  refine PySem.W.callWith_K (first := [.ref a]) (h₀ := X.base) I.ok.mod.kin hm.kp (thn (ha.run pos pins s1 σ H1 _ I1 q) fun us s2 ⟨vs, H2, I2, r, q2⟩ => ⟨I2.kIn, ?_⟩) hst hpl
  exact run_fnS (us := .ref a :: us) (vs := .ref a :: vs) F hr hb (hx σ) I2 (.cons rfl r) q2
end
abbrev top (i : Nat) : Stmt := PySem.Challenge.pw_alikestates_s01_answers.main.body.getD i (.Pass ⟨0, 0, 0, 0⟩)
abbrev s_Fault_init0 : Stmt := inClass (top 13) 0
abbrev s_figures_end : Stmt := top 14
abbrev s_number_at : Stmt := top 15
abbrev s_Asker_init0 : Stmt := inClass (top 16) 0
abbrev s_Asker_byte : Stmt := inClass (top 16) 1
abbrev s_Asker_need : Stmt := inClass (top 16) 2
abbrev s_Asker_everywhere : Stmt := inClass (top 16) 3
abbrev s_Asker_of_colour : Stmt := inClass (top 16) 4
abbrev s_Asker_leading : Stmt := inClass (top 16) 5
abbrev s_Asker_number : Stmt := inClass (top 16) 6
abbrev s_Asker_begin : Stmt := inClass (top 16) 7
abbrev s_Asker_end : Stmt := inClass (top 16) 8
abbrev s_Asker_asked : Stmt := inClass (top 16) 9
abbrev s_where_holds : Stmt := top 17
abbrev s_codes : Stmt := top 18
abbrev s_Teller_init0 : Stmt := inClass (top 19) 0
abbrev s_Teller_tell : Stmt := inClass (top 19) 1
abbrev s_Teller_made : Stmt := inClass (top 19) 2
abbrev s_Teller_is_alike : Stmt := inClass (top 19) 3
abbrev s_Teller_by_arc : Stmt := inClass (top 19) 4
abbrev s_short : Stmt := top 20
abbrev s_all_of : Stmt := top 21
abbrev s_System_init0 : Stmt := inClass (top 27) 0
abbrev s_System_many : Stmt := inClass (top 27) 1
abbrev s_System_painted : Stmt := inClass (top 27) 2
abbrev s_System_with_arc : Stmt := inClass (top 27) 3
abbrev s_System_without_arc : Stmt := inClass (top 27) 4
abbrev s_System_arcs_from : Stmt := inClass (top 27) 5
abbrev s_System_led_to : Stmt := inClass (top 27) 6
abbrev s_System_followed : Stmt := inClass (top 27) 7
abbrev s_System_is_likeness : Stmt := inClass (top 27) 8
abbrev s_numbered : Stmt := top 28
abbrev s_empty_system : Stmt := top 29
abbrev s_Levels_init0 : Stmt := inClass (top 30) 0
abbrev s_Levels_classes : Stmt := inClass (top 30) 1
abbrev s_Levels_count : Stmt := inClass (top 30) 2
abbrev s_Levels_are_same : Stmt := inClass (top 30) 3
abbrev s_Levels_depth : Stmt := inClass (top 30) 4
abbrev s_Levels_quotient : Stmt := inClass (top 30) 5
abbrev s_Refused_init0 : Stmt := inClass (top 41) 0
abbrev s_want : Stmt := top 42
abbrev s_full : Stmt := top 43
abbrev s_Desk_init0 : Stmt := inClass (top 44) 0
abbrev s_Desk_put : Stmt := inClass (top 44) 1
abbrev s_Desk_known_levels : Stmt := inClass (top 44) 2
abbrev s_Desk_want_states : Stmt := inClass (top 44) 3
abbrev s_Desk_want_arc : Stmt := inClass (top 44) 4
abbrev s_Desk_init : Stmt := inClass (top 44) 5
abbrev s_Desk_paint : Stmt := inClass (top 44) 6
abbrev s_Desk_arc : Stmt := inClass (top 44) 7
abbrev s_Desk_cut : Stmt := inClass (top 44) 8
abbrev s_Desk_has : Stmt := inClass (top 44) 9
abbrev s_Desk_look : Stmt := inClass (top 44) 10
abbrev s_Desk_same : Stmt := inClass (top 44) 11
abbrev s_Desk_unlike : Stmt := inClass (top 44) 12
abbrev s_Desk_depth : Stmt := inClass (top 44) 13
abbrev s_Desk_number : Stmt := inClass (top 44) 14
abbrev s_Desk_tell : Stmt := inClass (top 44) 15
abbrev s_Desk_where : Stmt := inClass (top 44) 16
abbrev s_Desk_holds : Stmt := inClass (top 44) 17
abbrev s_Desk_told_where : Stmt := inClass (top 44) 18
abbrev s_Desk_check : Stmt := inClass (top 44) 19
abbrev s_Desk_quotient : Stmt := inClass (top 44) 20
abbrev s_Desk_of_arcs : Stmt := inClass (top 44) 21
abbrev s_Desk_of_likeness : Stmt := inClass (top 44) 22
abbrev s_Desk_answer : Stmt := inClass (top 44) 23
abbrev s_answers : Stmt := top 45
abbrev n_Fault_init0 : List Str := ["self", "place"]
theorem sc_Fault_init0 : FnScope n_Fault_init0 ["self", "place"] (defScope s_Fault_init0) := ⟨rfl, rfl, rfl, by decide +kernel, rfl, by decide +kernel, by decide +kernel⟩
abbrev n_figures_end : List Str := ["text", "at"]
theorem sc_figures_end : FnScope n_figures_end ["text", "at"] (defScope s_figures_end) := ⟨rfl, rfl, rfl, by decide +kernel, rfl, by decide +kernel, by decide +kernel⟩
abbrev n_number_at : List Str := ["text", "at", "most", "end", "row", "found", "byte"]
theorem sc_number_at : FnScope n_number_at ["text", "at", "most"] (defScope s_number_at) := ⟨rfl, rfl, rfl, by decide +kernel, rfl, by decide +kernel, by decide +kernel⟩
abbrev n_Asker_init0 : List Str := ["self", "system", "text"]
theorem sc_Asker_init0 : FnScope n_Asker_init0 ["self", "system", "text"] (defScope s_Asker_init0) := ⟨rfl, rfl, rfl, by decide +kernel, rfl, by decide +kernel, by decide +kernel⟩
abbrev n_Asker_byte : List Str := ["self"]
theorem sc_Asker_byte : FnScope n_Asker_byte ["self"] (defScope s_Asker_byte) := ⟨rfl, rfl, rfl, by decide +kernel, rfl, by decide +kernel, by decide +kernel⟩
abbrev n_Asker_need : List Str := ["self", "byte"]
theorem sc_Asker_need : FnScope n_Asker_need ["self", "byte"] (defScope s_Asker_need) := ⟨rfl, rfl, rfl, by decide +kernel, rfl, by decide +kernel, by decide +kernel⟩
abbrev n_Asker_everywhere : List Str := ["self"]
theorem sc_Asker_everywhere : FnScope n_Asker_everywhere ["self"] (defScope s_Asker_everywhere) := ⟨rfl, rfl, rfl, by decide +kernel, rfl, by decide +kernel, by decide +kernel⟩
abbrev n_Asker_of_colour : List Str := ["self", "colour", "k", "own"]
theorem sc_Asker_of_colour : FnScope n_Asker_of_colour ["self", "colour"] (defScope s_Asker_of_colour) := ⟨rfl, rfl, rfl, by decide +kernel, rfl, by decide +kernel, by decide +kernel⟩
abbrev n_Asker_leading : List Str := ["self", "label", "where", "found", "begin", "own", "to"]
theorem sc_Asker_leading : FnScope n_Asker_leading ["self", "label", "where"] (defScope s_Asker_leading) := ⟨rfl, rfl, rfl, by decide +kernel, rfl, by decide +kernel, by decide +kernel⟩
abbrev n_Asker_number : List Str := ["self", "most", "found", "end"]
theorem sc_Asker_number : FnScope n_Asker_number ["self", "most"] (defScope s_Asker_number) := ⟨rfl, rfl, rfl, by decide +kernel, rfl, by decide +kernel, by decide +kernel⟩
abbrev n_Asker_begin : List Str := ["self", "byte", "told"]
theorem sc_Asker_begin : FnScope n_Asker_begin ["self"] (defScope s_Asker_begin) := ⟨rfl, rfl, rfl, by decide +kernel, rfl, by decide +kernel, by decide +kernel⟩
abbrev n_Asker_end : List Str := ["self", "where", "sign", "told"]
theorem sc_Asker_end : FnScope n_Asker_end ["self", "where"] (defScope s_Asker_end) := ⟨rfl, rfl, rfl, by decide +kernel, rfl, by decide +kernel, by decide +kernel⟩
abbrev n_Asker_asked : List Str := ["self", "found"]
theorem sc_Asker_asked : FnScope n_Asker_asked ["self"] (defScope s_Asker_asked) := ⟨rfl, rfl, rfl, by decide +kernel, rfl, by decide +kernel, by decide +kernel⟩
abbrev n_where_holds : List Str := ["system", "text", "asker"]
theorem sc_where_holds : FnScope n_where_holds ["system", "text"] (defScope s_where_holds) := ⟨rfl, rfl, rfl, by decide +kernel, rfl, by decide +kernel, by decide +kernel⟩
abbrev n_codes : List Str := ["text", "sign"]
theorem sc_codes : FnScope n_codes ["text"] (defScope s_codes) := ⟨rfl, rfl, rfl, by decide +kernel, rfl, by decide +kernel, by decide +kernel⟩
abbrev n_Teller_init0 : List Str := ["self", "levels"]
theorem sc_Teller_init0 : FnScope n_Teller_init0 ["self", "levels"] (defScope s_Teller_init0) := ⟨rfl, rfl, rfl, by decide +kernel, rfl, by decide +kernel, by decide +kernel⟩
abbrev n_Teller_tell : List Str := ["self", "one", "other"]
theorem sc_Teller_tell : FnScope n_Teller_tell ["self", "one", "other"] (defScope s_Teller_tell) := ⟨rfl, rfl, rfl, by decide +kernel, rfl, by decide +kernel, by decide +kernel⟩
abbrev n_Teller_made : List Str := ["self", "one", "other", "k", "label", "to", "some", "text", "beside"]
theorem sc_Teller_made : FnScope n_Teller_made ["self", "one", "other"] (defScope s_Teller_made) := ⟨rfl, rfl, rfl, by decide +kernel, rfl, by decide +kernel, by decide +kernel⟩
abbrev n_Teller_is_alike : List Str := ["self", "one", "other", "steps", "row"]
theorem sc_Teller_is_alike : FnScope n_Teller_is_alike ["self", "one", "other", "steps"] (defScope s_Teller_is_alike) := ⟨rfl, rfl, rfl, by decide +kernel, rfl, by decide +kernel, by decide +kernel⟩
abbrev n_Teller_by_arc : List Str := ["self", "label", "to", "some", "texts", "beside"]
theorem sc_Teller_by_arc : FnScope n_Teller_by_arc ["self", "label", "to", "some"] (defScope s_Teller_by_arc) := ⟨rfl, rfl, rfl, by decide +kernel, rfl, by decide +kernel, by decide +kernel⟩
abbrev n_short : List Str := ["text"]
theorem sc_short : FnScope n_short ["text"] (defScope s_short) := ⟨rfl, rfl, rfl, by decide +kernel, rfl, by decide +kernel, by decide +kernel⟩
abbrev n_all_of : List Str := ["texts", "found", "text"]
theorem sc_all_of : FnScope n_all_of ["texts"] (defScope s_all_of) := ⟨rfl, rfl, rfl, by decide +kernel, rfl, by decide +kernel, by decide +kernel⟩
abbrev n_System_init0 : List Str := ["self", "colours", "arcs"]
theorem sc_System_init0 : FnScope n_System_init0 ["self", "colours", "arcs"] (defScope s_System_init0) := ⟨rfl, rfl, rfl, by decide +kernel, rfl, by decide +kernel, by decide +kernel⟩
abbrev n_System_many : List Str := ["self"]
theorem sc_System_many : FnScope n_System_many ["self"] (defScope s_System_many) := ⟨rfl, rfl, rfl, by decide +kernel, rfl, by decide +kernel, by decide +kernel⟩
abbrev n_System_painted : List Str := ["self", "state", "colour"]
theorem sc_System_painted : FnScope n_System_painted ["self", "state", "colour"] (defScope s_System_painted) := ⟨rfl, rfl, rfl, by decide +kernel, rfl, by decide +kernel, by decide +kernel⟩
abbrev n_System_with_arc : List Str := ["self", "arc"]
theorem sc_System_with_arc : FnScope n_System_with_arc ["self", "arc"] (defScope s_System_with_arc) := ⟨rfl, rfl, rfl, by decide +kernel, rfl, by decide +kernel, by decide +kernel⟩
abbrev n_System_without_arc : List Str := ["self", "arc", "other"]
theorem sc_System_without_arc : FnScope n_System_without_arc ["self", "arc"] (defScope s_System_without_arc) := ⟨rfl, rfl, rfl, by decide +kernel, rfl, by decide +kernel, by decide +kernel⟩
abbrev n_System_arcs_from : List Str := ["self", "state", "begin", "label", "to"]
theorem sc_System_arcs_from : FnScope n_System_arcs_from ["self", "state"] (defScope s_System_arcs_from) := ⟨rfl, rfl, rfl, by decide +kernel, rfl, by decide +kernel, by decide +kernel⟩
abbrev n_System_led_to : List Str := ["self", "state", "label", "own", "to"]
theorem sc_System_led_to : FnScope n_System_led_to ["self", "state", "label"] (defScope s_System_led_to) := ⟨rfl, rfl, rfl, by decide +kernel, rfl, by decide +kernel, by decide +kernel⟩
abbrev n_System_followed : List Str := ["self", "state", "numbers", "label", "to"]
theorem sc_System_followed : FnScope n_System_followed ["self", "state", "numbers"] (defScope s_System_followed) := ⟨rfl, rfl, rfl, by decide +kernel, rfl, by decide +kernel, by decide +kernel⟩
abbrev n_System_is_likeness : List Str := ["self", "numbers", "told", "state", "behind"]
theorem sc_System_is_likeness : FnScope n_System_is_likeness ["self", "numbers"] (defScope s_System_is_likeness) := ⟨rfl, rfl, rfl, by decide +kernel, rfl, by decide +kernel, by decide +kernel⟩
abbrev n_numbered : List Str := ["things", "known", "found", "thing"]
theorem sc_numbered : FnScope n_numbered ["things"] (defScope s_numbered) := ⟨rfl, rfl, rfl, by decide +kernel, rfl, by decide +kernel, by decide +kernel⟩
abbrev n_empty_system : List Str := ["many"]
theorem sc_empty_system : FnScope n_empty_system ["many"] (defScope s_empty_system) := ⟨rfl, rfl, rfl, by decide +kernel, rfl, by decide +kernel, by decide +kernel⟩
abbrev n_Levels_init0 : List Str := ["self", "system", "goes_on", "last", "following", "state"]
theorem sc_Levels_init0 : FnScope n_Levels_init0 ["self", "system"] (defScope s_Levels_init0) := ⟨rfl, rfl, rfl, by decide +kernel, rfl, by decide +kernel, by decide +kernel⟩
abbrev n_Levels_classes : List Str := ["self"]
theorem sc_Levels_classes : FnScope n_Levels_classes ["self"] (defScope s_Levels_classes) := ⟨rfl, rfl, rfl, by decide +kernel, rfl, by decide +kernel, by decide +kernel⟩
abbrev n_Levels_count : List Str := ["self"]
theorem sc_Levels_count : FnScope n_Levels_count ["self"] (defScope s_Levels_count) := ⟨rfl, rfl, rfl, by decide +kernel, rfl, by decide +kernel, by decide +kernel⟩
abbrev n_Levels_are_same : List Str := ["self", "one", "other"]
theorem sc_Levels_are_same : FnScope n_Levels_are_same ["self", "one", "other"] (defScope s_Levels_are_same) := ⟨rfl, rfl, rfl, by decide +kernel, rfl, by decide +kernel, by decide +kernel⟩
abbrev n_Levels_depth : List Str := ["self", "one", "other", "row"]
theorem sc_Levels_depth : FnScope n_Levels_depth ["self", "one", "other"] (defScope s_Levels_depth) := ⟨rfl, rfl, rfl, by decide +kernel, rfl, by decide +kernel, by decide +kernel⟩
abbrev n_Levels_quotient : List Str := ["self", "classes", "colours", "state", "colour", "arcs", "begin", "label", "to"]
theorem sc_Levels_quotient : FnScope n_Levels_quotient ["self"] (defScope s_Levels_quotient) := ⟨rfl, rfl, rfl, by decide +kernel, rfl, by decide +kernel, by decide +kernel⟩
abbrev n_Refused_init0 : List Str := ["self", "told"]
theorem sc_Refused_init0 : FnScope n_Refused_init0 ["self", "told"] (defScope s_Refused_init0) := ⟨rfl, rfl, rfl, by decide +kernel, rfl, by decide +kernel, by decide +kernel⟩
abbrev n_want : List Str := ["truth", "number"]
theorem sc_want : FnScope n_want ["truth", "number"] (defScope s_want) := ⟨rfl, rfl, rfl, by decide +kernel, rfl, by decide +kernel, by decide +kernel⟩
abbrev n_full : List Str := ["number", "row", "text"]
theorem sc_full : FnScope n_full ["number", "row", "text"] (defScope s_full) := ⟨rfl, rfl, rfl, by decide +kernel, rfl, by decide +kernel, by decide +kernel⟩
abbrev n_Desk_init0 : List Str := ["self"]
theorem sc_Desk_init0 : FnScope n_Desk_init0 ["self"] (defScope s_Desk_init0) := ⟨rfl, rfl, rfl, by decide +kernel, rfl, by decide +kernel, by decide +kernel⟩
abbrev n_Desk_put : List Str := ["self", "system"]
theorem sc_Desk_put : FnScope n_Desk_put ["self", "system"] (defScope s_Desk_put) := ⟨rfl, rfl, rfl, by decide +kernel, rfl, by decide +kernel, by decide +kernel⟩
abbrev n_Desk_known_levels : List Str := ["self"]
theorem sc_Desk_known_levels : FnScope n_Desk_known_levels ["self"] (defScope s_Desk_known_levels) := ⟨rfl, rfl, rfl, by decide +kernel, rfl, by decide +kernel, by decide +kernel⟩
abbrev n_Desk_want_states : List Str := ["self", "some", "state"]
theorem sc_Desk_want_states : FnScope n_Desk_want_states ["self", "some"] (defScope s_Desk_want_states) := ⟨rfl, rfl, rfl, by decide +kernel, rfl, by decide +kernel, by decide +kernel⟩
abbrev n_Desk_want_arc : List Str := ["self", "n"]
theorem sc_Desk_want_arc : FnScope n_Desk_want_arc ["self", "n"] (defScope s_Desk_want_arc) := ⟨rfl, rfl, rfl, by decide +kernel, rfl, by decide +kernel, by decide +kernel⟩
abbrev n_Desk_init : List Str := ["self", "n"]
theorem sc_Desk_init : FnScope n_Desk_init ["self", "n"] (defScope s_Desk_init) := ⟨rfl, rfl, rfl, by decide +kernel, rfl, by decide +kernel, by decide +kernel⟩
abbrev n_Desk_paint : List Str := ["self", "state", "colour"]
theorem sc_Desk_paint : FnScope n_Desk_paint ["self", "state", "colour"] (defScope s_Desk_paint) := ⟨rfl, rfl, rfl, by decide +kernel, rfl, by decide +kernel, by decide +kernel⟩
abbrev n_Desk_arc : List Str := ["self", "n"]
theorem sc_Desk_arc : FnScope n_Desk_arc ["self", "n"] (defScope s_Desk_arc) := ⟨rfl, rfl, rfl, by decide +kernel, rfl, by decide +kernel, by decide +kernel⟩
abbrev n_Desk_cut : List Str := ["self", "n"]
theorem sc_Desk_cut : FnScope n_Desk_cut ["self", "n"] (defScope s_Desk_cut) := ⟨rfl, rfl, rfl, by decide +kernel, rfl, by decide +kernel, by decide +kernel⟩
abbrev n_Desk_has : List Str := ["self", "n"]
theorem sc_Desk_has : FnScope n_Desk_has ["self", "n"] (defScope s_Desk_has) := ⟨rfl, rfl, rfl, by decide +kernel, rfl, by decide +kernel, by decide +kernel⟩
abbrev n_Desk_look : List Str := ["self", "state"]
theorem sc_Desk_look : FnScope n_Desk_look ["self", "state"] (defScope s_Desk_look) := ⟨rfl, rfl, rfl, by decide +kernel, rfl, by decide +kernel, by decide +kernel⟩
abbrev n_Desk_same : List Str := ["self", "one", "other"]
theorem sc_Desk_same : FnScope n_Desk_same ["self", "one", "other"] (defScope s_Desk_same) := ⟨rfl, rfl, rfl, by decide +kernel, rfl, by decide +kernel, by decide +kernel⟩
abbrev n_Desk_unlike : List Str := ["self", "one", "other", "levels"]
theorem sc_Desk_unlike : FnScope n_Desk_unlike ["self", "one", "other"] (defScope s_Desk_unlike) := ⟨rfl, rfl, rfl, by decide +kernel, rfl, by decide +kernel, by decide +kernel⟩
abbrev n_Desk_depth : List Str := ["self", "one", "other"]
theorem sc_Desk_depth : FnScope n_Desk_depth ["self", "one", "other"] (defScope s_Desk_depth) := ⟨rfl, rfl, rfl, by decide +kernel, rfl, by decide +kernel, by decide +kernel⟩
abbrev n_Desk_number : List Str := ["self", "state"]
theorem sc_Desk_number : FnScope n_Desk_number ["self", "state"] (defScope s_Desk_number) := ⟨rfl, rfl, rfl, by decide +kernel, rfl, by decide +kernel, by decide +kernel⟩
abbrev n_Desk_tell : List Str := ["self", "one", "other", "teller", "found"]
theorem sc_Desk_tell : FnScope n_Desk_tell ["self", "one", "other"] (defScope s_Desk_tell) := ⟨rfl, rfl, rfl, by decide +kernel, rfl, by decide +kernel, by decide +kernel⟩
abbrev n_Desk_where : List Str := ["self", "text", "found", "e", "state"]
theorem sc_Desk_where : FnScope n_Desk_where ["self", "text"] (defScope s_Desk_where) := ⟨rfl, rfl, rfl, by decide +kernel, rfl, by decide +kernel, by decide +kernel⟩
abbrev n_Desk_holds : List Str := ["self", "state", "text"]
theorem sc_Desk_holds : FnScope n_Desk_holds ["self", "state", "text"] (defScope s_Desk_holds) := ⟨rfl, rfl, rfl, by decide +kernel, rfl, by decide +kernel, by decide +kernel⟩
abbrev n_Desk_told_where : List Str := ["self", "text", "found"]
theorem sc_Desk_told_where : FnScope n_Desk_told_where ["self", "text"] (defScope s_Desk_told_where) := ⟨rfl, rfl, rfl, by decide +kernel, rfl, by decide +kernel, by decide +kernel⟩
abbrev n_Desk_check : List Str := ["self", "row"]
theorem sc_Desk_check : FnScope n_Desk_check ["self", "row"] (defScope s_Desk_check) := ⟨rfl, rfl, rfl, by decide +kernel, rfl, by decide +kernel, by decide +kernel⟩
abbrev n_Desk_quotient : List Str := ["self"]
theorem sc_Desk_quotient : FnScope n_Desk_quotient ["self"] (defScope s_Desk_quotient) := ⟨rfl, rfl, rfl, by decide +kernel, rfl, by decide +kernel, by decide +kernel⟩
abbrev n_Desk_of_arcs : List Str := ["self", "call", "n"]
theorem sc_Desk_of_arcs : FnScope n_Desk_of_arcs ["self", "call", "n"] (defScope s_Desk_of_arcs) := ⟨rfl, rfl, rfl, by decide +kernel, rfl, by decide +kernel, by decide +kernel⟩
abbrev n_Desk_of_likeness : List Str := ["self", "call", "n", "row"]
theorem sc_Desk_of_likeness : FnScope n_Desk_of_likeness ["self", "call", "n", "row"] (defScope s_Desk_of_likeness) := ⟨rfl, rfl, rfl, by decide +kernel, rfl, by decide +kernel, by decide +kernel⟩
abbrev n_Desk_answer : List Str := ["self", "call", "n", "row", "e"]
theorem sc_Desk_answer : FnScope n_Desk_answer ["self", "call", "n", "row"] (defScope s_Desk_answer) := ⟨rfl, rfl, rfl, by decide +kernel, rfl, by decide +kernel, by decide +kernel⟩
abbrev n_answers : List Str := ["calls", "desk", "found", "place", "call", "end", "numbers", "row", "told"]
theorem sc_answers : FnScope n_answers ["calls"] (defScope s_answers) := ⟨rfl, rfl, rfl, by decide +kernel, rfl, by decide +kernel, by decide +kernel⟩
structure Txt (K : PySem.W.Frag) (mg : Str → Option Value) where
  xFault : XcT K mg "Fault" "place"
  cAsker : ClT K mg "Asker"
  nAsker_system : NoAttr K cAsker.C "system"
  nAsker_text : NoAttr K cAsker.C "text"
  nAsker_at : NoAttr K cAsker.C "at"
  nAsker_waiting : NoAttr K cAsker.C "waiting"
  cTeller : ClT K mg "Teller"
  nTeller_levels : NoAttr K cTeller.C "levels"
  nTeller_system : NoAttr K cTeller.C "system"
  nTeller_texts : NoAttr K cTeller.C "texts"
  cSystem : ClT K mg "System"
  nSystem_colours : NoAttr K cSystem.C "colours"
  nSystem_arcs : NoAttr K cSystem.C "arcs"
  cLevels : ClT K mg "Levels"
  nLevels_system : NoAttr K cLevels.C "system"
  nLevels_rows : NoAttr K cLevels.C "rows"
  xRefused : XcT K mg "Refused" "told"
  cDesk : ClT K mg "Desk"
  nDesk_system : NoAttr K cDesk.C "system"
  nDesk_levels : NoAttr K cDesk.C "levels"
  Fault_init0 : XiT K xFault.C "Fault.__init__" s_Fault_init0
  figures_end : FnT K mg "figures_end" s_figures_end
  number_at : FnT K mg "number_at" s_number_at
  Asker_init0 : MtT K cAsker.C "__init__" "Asker.__init__" s_Asker_init0
  Asker_byte : MtT K cAsker.C "byte" "Asker.byte" s_Asker_byte
  Asker_need : MtT K cAsker.C "need" "Asker.need" s_Asker_need
  Asker_everywhere : MtT K cAsker.C "everywhere" "Asker.everywhere" s_Asker_everywhere
  Asker_of_colour : MtT K cAsker.C "of_colour" "Asker.of_colour" s_Asker_of_colour
  Asker_leading : MtT K cAsker.C "leading" "Asker.leading" s_Asker_leading
  Asker_number : MtT K cAsker.C "number" "Asker.number" s_Asker_number
  Asker_begin : MtT K cAsker.C "begin" "Asker.begin" s_Asker_begin
  Asker_end : MtT K cAsker.C "end" "Asker.end" s_Asker_end
  Asker_asked : MtT K cAsker.C "asked" "Asker.asked" s_Asker_asked
  where_holds : FnT K mg "where_holds" s_where_holds
  codes : FnT K mg "codes" s_codes
  Teller_init0 : MtT K cTeller.C "__init__" "Teller.__init__" s_Teller_init0
  Teller_tell : MtT K cTeller.C "tell" "Teller.tell" s_Teller_tell
  Teller_made : MtT K cTeller.C "made" "Teller.made" s_Teller_made
  Teller_is_alike : MtT K cTeller.C "is_alike" "Teller.is_alike" s_Teller_is_alike
  Teller_by_arc : MtT K cTeller.C "by_arc" "Teller.by_arc" s_Teller_by_arc
  short : FnT K mg "short" s_short
  all_of : FnT K mg "all_of" s_all_of
  System_init0 : MtT K cSystem.C "__init__" "System.__init__" s_System_init0
  System_many : MtT K cSystem.C "many" "System.many" s_System_many
  System_painted : MtT K cSystem.C "painted" "System.painted" s_System_painted
  System_with_arc : MtT K cSystem.C "with_arc" "System.with_arc" s_System_with_arc
  System_without_arc : MtT K cSystem.C "without_arc" "System.without_arc" s_System_without_arc
  System_arcs_from : MtT K cSystem.C "arcs_from" "System.arcs_from" s_System_arcs_from
  System_led_to : MtT K cSystem.C "led_to" "System.led_to" s_System_led_to
  System_followed : MtT K cSystem.C "followed" "System.followed" s_System_followed
  System_is_likeness : MtT K cSystem.C "is_likeness" "System.is_likeness" s_System_is_likeness
  numbered : FnT K mg "numbered" s_numbered
  empty_system : FnT K mg "empty_system" s_empty_system
  Levels_init0 : MtT K cLevels.C "__init__" "Levels.__init__" s_Levels_init0
  Levels_classes : MtT K cLevels.C "classes" "Levels.classes" s_Levels_classes
  Levels_count : MtT K cLevels.C "count" "Levels.count" s_Levels_count
  Levels_are_same : MtT K cLevels.C "are_same" "Levels.are_same" s_Levels_are_same
  Levels_depth : MtT K cLevels.C "depth" "Levels.depth" s_Levels_depth
  Levels_quotient : MtT K cLevels.C "quotient" "Levels.quotient" s_Levels_quotient
  Refused_init0 : XiT K xRefused.C "Refused.__init__" s_Refused_init0
  want : FnT K mg "want" s_want
  full : FnT K mg "full" s_full
  Desk_init0 : MtT K cDesk.C "__init__" "Desk.__init__" s_Desk_init0
  Desk_put : MtT K cDesk.C "put" "Desk.put" s_Desk_put
  Desk_known_levels : MtT K cDesk.C "known_levels" "Desk.known_levels" s_Desk_known_levels
  Desk_want_states : MtT K cDesk.C "want_states" "Desk.want_states" s_Desk_want_states
  Desk_want_arc : MtT K cDesk.C "want_arc" "Desk.want_arc" s_Desk_want_arc
  Desk_init : MtT K cDesk.C "init" "Desk.init" s_Desk_init
  Desk_paint : MtT K cDesk.C "paint" "Desk.paint" s_Desk_paint
  Desk_arc : MtT K cDesk.C "arc" "Desk.arc" s_Desk_arc
  Desk_cut : MtT K cDesk.C "cut" "Desk.cut" s_Desk_cut
  Desk_has : MtT K cDesk.C "has" "Desk.has" s_Desk_has
  Desk_look : MtT K cDesk.C "look" "Desk.look" s_Desk_look
  Desk_same : MtT K cDesk.C "same" "Desk.same" s_Desk_same
  Desk_unlike : MtT K cDesk.C "unlike" "Desk.unlike" s_Desk_unlike
  Desk_depth : MtT K cDesk.C "depth" "Desk.depth" s_Desk_depth
  Desk_number : MtT K cDesk.C "number" "Desk.number" s_Desk_number
  Desk_tell : MtT K cDesk.C "tell" "Desk.tell" s_Desk_tell
  Desk_where : MtT K cDesk.C "where" "Desk.where" s_Desk_where
  Desk_holds : MtT K cDesk.C "holds" "Desk.holds" s_Desk_holds
  Desk_told_where : MtT K cDesk.C "told_where" "Desk.told_where" s_Desk_told_where
  Desk_check : MtT K cDesk.C "check" "Desk.check" s_Desk_check
  Desk_quotient : MtT K cDesk.C "quotient" "Desk.quotient" s_Desk_quotient
  Desk_of_arcs : MtT K cDesk.C "of_arcs" "Desk.of_arcs" s_Desk_of_arcs
  Desk_of_likeness : MtT K cDesk.C "of_likeness" "Desk.of_likeness" s_Desk_of_likeness
  Desk_answer : MtT K cDesk.C "answer" "Desk.answer" s_Desk_answer
  answers : FnT K mg "answers" s_answers
  g_len : mg "len" = none
  g_enumerate : mg "enumerate" = none
  g_sum : mg "sum" = none
  g_ord : mg "ord" = none
  g_str : mg "str" = none
  g_any : mg "any" = none
  g_all : mg "all" = none
  g_sorted : mg "sorted" = none
  g_tuple : mg "tuple" = none
  g_set : mg "set" = none
  g_range : mg "range" = none
  g_int : mg "int" = none
  g_ValueError : mg "ValueError" = none
  vV : PySem.W.findCls K (.type "ValueError") (.type "type") "__init__" = some (.val (.builtin "ValueError.__init__"))
  k_MOST_DEEP : ∃ t, mg "MOST_DEEP" = some (.int 500 t)
  k_MOST_TOLD : ∃ t, mg "MOST_TOLD" = some (.int 500 t)
  k_MOST_COLOUR_formulas : ∃ t, mg "MOST_COLOUR_formulas" = some (.int 255 t)
  k_MOST_LABEL_formulas : ∃ t, mg "MOST_LABEL_formulas" = some (.int 63 t)
  k_TRUE : ∃ t, mg "TRUE" = some (.int 116 t)
  k_COLOUR : ∃ t, mg "COLOUR" = some (.int 99 t)
  k_NOT : ∃ t, mg "NOT" = some (.int 33 t)
  k_LEFT : ∃ t, mg "LEFT" = some (.int 40 t)
  k_AND : ∃ t, mg "AND" = some (.int 38 t)
  k_RIGHT : ∃ t, mg "RIGHT" = some (.int 41 t)
  k_LESS : ∃ t, mg "LESS" = some (.int 60 t)
  k_MORE : ∃ t, mg "MORE" = some (.int 62 t)
  k_MOST_STATES : ∃ t, mg "MOST_STATES" = some (.int 32 t)
  k_MOST_COLOUR_states : ∃ t, mg "MOST_COLOUR_states" = some (.int 255 t)
  k_MOST_LABEL_states : ∃ t, mg "MOST_LABEL_states" = some (.int 63 t)
  k_MOST_ARCS : ∃ t, mg "MOST_ARCS" = some (.int 256 t)
  k_BAD : ∃ t, mg "BAD" = some (.int (-1) t)
  k_REFUSED : ∃ t, mg "REFUSED" = some (.int (-2) t)
  k_NO_FORMULA : ∃ t, mg "NO_FORMULA" = some (.int (-3) t)
  k_TOO_LONG : ∃ t, mg "TOO_LONG" = some (.int (-7) t)
  k_NO_SYSTEM : ∃ t, mg "NO_SYSTEM" = some (.int (-8) t)
  k_MOST_BYTES : ∃ t, mg "MOST_BYTES" = some (.int 10000 t)
  t_NUMBERS : TuK K mg "NUMBERS" [0, 1, 2, 3, 3, 3, 1, 2, 2, 1, 0, 2, 1, 0, 0, 0]
  t_WITH_ROW : TuK K mg "WITH_ROW" [12, 13, 14]
  k_INIT : ∃ t, mg "INIT" = some (.int 1 t)
section
variable {K : PySem.W.Frag} {mg : Str → Option Value} (T : Txt K mg)
theorem Txt.b_Fault_init0 : Binds K T.Fault_init0.fd ["self", "place"] [] := T.Fault_init0.F.binds (ps := ["self", "place"]) fun _ _ _ _ _ _ us hl => match us, hl with | [_, _], _ => rfl
theorem Txt.b_figures_end : Binds K T.figures_end.fd ["text", "at"] [] := T.figures_end.F.binds (ps := ["text", "at"]) fun _ _ _ _ _ _ us hl => match us, hl with | [_, _], _ => rfl
theorem Txt.b_number_at : Binds K T.number_at.fd ["text", "at", "most"] [] := T.number_at.F.binds (ps := ["text", "at", "most"]) fun _ _ _ _ _ _ us hl => match us, hl with | [_, _, _], _ => rfl
theorem Txt.b_Asker_init0 : Binds K T.Asker_init0.fd ["self", "system", "text"] [] := T.Asker_init0.F.binds (ps := ["self", "system", "text"]) fun _ _ _ _ _ _ us hl => match us, hl with | [_, _, _], _ => rfl
theorem Txt.b_Asker_byte : Binds K T.Asker_byte.fd ["self"] [] := T.Asker_byte.F.binds (ps := ["self"]) fun _ _ _ _ _ _ us hl => match us, hl with | [_], _ => rfl
theorem Txt.b_Asker_need : Binds K T.Asker_need.fd ["self", "byte"] [] := T.Asker_need.F.binds (ps := ["self", "byte"]) fun _ _ _ _ _ _ us hl => match us, hl with | [_, _], _ => rfl
theorem Txt.b_Asker_everywhere : Binds K T.Asker_everywhere.fd ["self"] [] := T.Asker_everywhere.F.binds (ps := ["self"]) fun _ _ _ _ _ _ us hl => match us, hl with | [_], _ => rfl
theorem Txt.b_Asker_of_colour : Binds K T.Asker_of_colour.fd ["self", "colour"] [] := T.Asker_of_colour.F.binds (ps := ["self", "colour"]) fun _ _ _ _ _ _ us hl => match us, hl with | [_, _], _ => rfl
theorem Txt.b_Asker_leading : Binds K T.Asker_leading.fd ["self", "label", "where"] [] := T.Asker_leading.F.binds (ps := ["self", "label", "where"]) fun _ _ _ _ _ _ us hl => match us, hl with | [_, _, _], _ => rfl
theorem Txt.b_Asker_number : Binds K T.Asker_number.fd ["self", "most"] [] := T.Asker_number.F.binds (ps := ["self", "most"]) fun _ _ _ _ _ _ us hl => match us, hl with | [_, _], _ => rfl
theorem Txt.b_Asker_begin : Binds K T.Asker_begin.fd ["self"] [] := T.Asker_begin.F.binds (ps := ["self"]) fun _ _ _ _ _ _ us hl => match us, hl with | [_], _ => rfl
theorem Txt.b_Asker_end : Binds K T.Asker_end.fd ["self", "where"] [] := T.Asker_end.F.binds (ps := ["self", "where"]) fun _ _ _ _ _ _ us hl => match us, hl with | [_, _], _ => rfl
theorem Txt.b_Asker_asked : Binds K T.Asker_asked.fd ["self"] [] := T.Asker_asked.F.binds (ps := ["self"]) fun _ _ _ _ _ _ us hl => match us, hl with | [_], _ => rfl
theorem Txt.b_where_holds : Binds K T.where_holds.fd ["system", "text"] [] := T.where_holds.F.binds (ps := ["system", "text"]) fun _ _ _ _ _ _ us hl => match us, hl with | [_, _], _ => rfl
theorem Txt.b_codes : Binds K T.codes.fd ["text"] [] := T.codes.F.binds (ps := ["text"]) fun _ _ _ _ _ _ us hl => match us, hl with | [_], _ => rfl
theorem Txt.b_Teller_init0 : Binds K T.Teller_init0.fd ["self", "levels"] [] := T.Teller_init0.F.binds (ps := ["self", "levels"]) fun _ _ _ _ _ _ us hl => match us, hl with | [_, _], _ => rfl
theorem Txt.b_Teller_tell : Binds K T.Teller_tell.fd ["self", "one", "other"] [] := T.Teller_tell.F.binds (ps := ["self", "one", "other"]) fun _ _ _ _ _ _ us hl => match us, hl with | [_, _, _], _ => rfl
theorem Txt.b_Teller_made : Binds K T.Teller_made.fd ["self", "one", "other"] [] := T.Teller_made.F.binds (ps := ["self", "one", "other"]) fun _ _ _ _ _ _ us hl => match us, hl with | [_, _, _], _ => rfl
theorem Txt.b_Teller_is_alike : Binds K T.Teller_is_alike.fd ["self", "one", "other", "steps"] [] := T.Teller_is_alike.F.binds (ps := ["self", "one", "other", "steps"]) fun _ _ _ _ _ _ us hl => match us, hl with | [_, _, _, _], _ => rfl
theorem Txt.b_Teller_by_arc : Binds K T.Teller_by_arc.fd ["self", "label", "to", "some"] [] := T.Teller_by_arc.F.binds (ps := ["self", "label", "to", "some"]) fun _ _ _ _ _ _ us hl => match us, hl with | [_, _, _, _], _ => rfl
theorem Txt.b_short : Binds K T.short.fd ["text"] [] := T.short.F.binds (ps := ["text"]) fun _ _ _ _ _ _ us hl => match us, hl with | [_], _ => rfl
theorem Txt.b_all_of : Binds K T.all_of.fd ["texts"] [] := T.all_of.F.binds (ps := ["texts"]) fun _ _ _ _ _ _ us hl => match us, hl with | [_], _ => rfl
theorem Txt.b_System_init0 : Binds K T.System_init0.fd ["self", "colours", "arcs"] [] := T.System_init0.F.binds (ps := ["self", "colours", "arcs"]) fun _ _ _ _ _ _ us hl => match us, hl with | [_, _, _], _ => rfl
theorem Txt.b_System_many : Binds K T.System_many.fd ["self"] [] := T.System_many.F.binds (ps := ["self"]) fun _ _ _ _ _ _ us hl => match us, hl with | [_], _ => rfl
theorem Txt.b_System_painted : Binds K T.System_painted.fd ["self", "state", "colour"] [] := T.System_painted.F.binds (ps := ["self", "state", "colour"]) fun _ _ _ _ _ _ us hl => match us, hl with | [_, _, _], _ => rfl
theorem Txt.b_System_with_arc : Binds K T.System_with_arc.fd ["self", "arc"] [] := T.System_with_arc.F.binds (ps := ["self", "arc"]) fun _ _ _ _ _ _ us hl => match us, hl with | [_, _], _ => rfl
theorem Txt.b_System_without_arc : Binds K T.System_without_arc.fd ["self", "arc"] [] := T.System_without_arc.F.binds (ps := ["self", "arc"]) fun _ _ _ _ _ _ us hl => match us, hl with | [_, _], _ => rfl
theorem Txt.b_System_arcs_from : Binds K T.System_arcs_from.fd ["self", "state"] [] := T.System_arcs_from.F.binds (ps := ["self", "state"]) fun _ _ _ _ _ _ us hl => match us, hl with | [_, _], _ => rfl
theorem Txt.b_System_led_to : Binds K T.System_led_to.fd ["self", "state", "label"] [] := T.System_led_to.F.binds (ps := ["self", "state", "label"]) fun _ _ _ _ _ _ us hl => match us, hl with | [_, _, _], _ => rfl
theorem Txt.b_System_followed : Binds K T.System_followed.fd ["self", "state", "numbers"] [] := T.System_followed.F.binds (ps := ["self", "state", "numbers"]) fun _ _ _ _ _ _ us hl => match us, hl with | [_, _, _], _ => rfl
theorem Txt.b_System_is_likeness : Binds K T.System_is_likeness.fd ["self", "numbers"] [] := T.System_is_likeness.F.binds (ps := ["self", "numbers"]) fun _ _ _ _ _ _ us hl => match us, hl with | [_, _], _ => rfl
theorem Txt.b_numbered : Binds K T.numbered.fd ["things"] [] := T.numbered.F.binds (ps := ["things"]) fun _ _ _ _ _ _ us hl => match us, hl with | [_], _ => rfl
theorem Txt.b_empty_system : Binds K T.empty_system.fd ["many"] [] := T.empty_system.F.binds (ps := ["many"]) fun _ _ _ _ _ _ us hl => match us, hl with | [_], _ => rfl
theorem Txt.b_Levels_init0 : Binds K T.Levels_init0.fd ["self", "system"] [] := T.Levels_init0.F.binds (ps := ["self", "system"]) fun _ _ _ _ _ _ us hl => match us, hl with | [_, _], _ => rfl
theorem Txt.b_Levels_classes : Binds K T.Levels_classes.fd ["self"] [] := T.Levels_classes.F.binds (ps := ["self"]) fun _ _ _ _ _ _ us hl => match us, hl with | [_], _ => rfl
theorem Txt.b_Levels_count : Binds K T.Levels_count.fd ["self"] [] := T.Levels_count.F.binds (ps := ["self"]) fun _ _ _ _ _ _ us hl => match us, hl with | [_], _ => rfl
theorem Txt.b_Levels_are_same : Binds K T.Levels_are_same.fd ["self", "one", "other"] [] := T.Levels_are_same.F.binds (ps := ["self", "one", "other"]) fun _ _ _ _ _ _ us hl => match us, hl with | [_, _, _], _ => rfl
theorem Txt.b_Levels_depth : Binds K T.Levels_depth.fd ["self", "one", "other"] [] := T.Levels_depth.F.binds (ps := ["self", "one", "other"]) fun _ _ _ _ _ _ us hl => match us, hl with | [_, _, _], _ => rfl
theorem Txt.b_Levels_quotient : Binds K T.Levels_quotient.fd ["self"] [] := T.Levels_quotient.F.binds (ps := ["self"]) fun _ _ _ _ _ _ us hl => match us, hl with | [_], _ => rfl
theorem Txt.b_Refused_init0 : Binds K T.Refused_init0.fd ["self", "told"] [] := T.Refused_init0.F.binds (ps := ["self", "told"]) fun _ _ _ _ _ _ us hl => match us, hl with | [_, _], _ => rfl
theorem Txt.b_want : Binds K T.want.fd ["truth", "number"] [] := T.want.F.binds (ps := ["truth", "number"]) fun _ _ _ _ _ _ us hl => match us, hl with | [_, _], _ => rfl
theorem Txt.b_full : Binds K T.full.fd ["number", "row", "text"] [] := T.full.F.binds (ps := ["number", "row", "text"]) fun _ _ _ _ _ _ us hl => match us, hl with | [_, _, _], _ => rfl
theorem Txt.b_Desk_init0 : Binds K T.Desk_init0.fd ["self"] [] := T.Desk_init0.F.binds (ps := ["self"]) fun _ _ _ _ _ _ us hl => match us, hl with | [_], _ => rfl
theorem Txt.b_Desk_put : Binds K T.Desk_put.fd ["self", "system"] [] := T.Desk_put.F.binds (ps := ["self", "system"]) fun _ _ _ _ _ _ us hl => match us, hl with | [_, _], _ => rfl
theorem Txt.b_Desk_known_levels : Binds K T.Desk_known_levels.fd ["self"] [] := T.Desk_known_levels.F.binds (ps := ["self"]) fun _ _ _ _ _ _ us hl => match us, hl with | [_], _ => rfl
theorem Txt.b_Desk_want_states : Binds K T.Desk_want_states.fd ["self", "some"] [] := T.Desk_want_states.F.binds (ps := ["self", "some"]) fun _ _ _ _ _ _ us hl => match us, hl with | [_, _], _ => rfl
theorem Txt.b_Desk_want_arc : Binds K T.Desk_want_arc.fd ["self", "n"] [] := T.Desk_want_arc.F.binds (ps := ["self", "n"]) fun _ _ _ _ _ _ us hl => match us, hl with | [_, _], _ => rfl
theorem Txt.b_Desk_init : Binds K T.Desk_init.fd ["self", "n"] [] := T.Desk_init.F.binds (ps := ["self", "n"]) fun _ _ _ _ _ _ us hl => match us, hl with | [_, _], _ => rfl
theorem Txt.b_Desk_paint : Binds K T.Desk_paint.fd ["self", "state", "colour"] [] := T.Desk_paint.F.binds (ps := ["self", "state", "colour"]) fun _ _ _ _ _ _ us hl => match us, hl with | [_, _, _], _ => rfl
theorem Txt.b_Desk_arc : Binds K T.Desk_arc.fd ["self", "n"] [] := T.Desk_arc.F.binds (ps := ["self", "n"]) fun _ _ _ _ _ _ us hl => match us, hl with | [_, _], _ => rfl
theorem Txt.b_Desk_cut : Binds K T.Desk_cut.fd ["self", "n"] [] := T.Desk_cut.F.binds (ps := ["self", "n"]) fun _ _ _ _ _ _ us hl => match us, hl with | [_, _], _ => rfl
theorem Txt.b_Desk_has : Binds K T.Desk_has.fd ["self", "n"] [] := T.Desk_has.F.binds (ps := ["self", "n"]) fun _ _ _ _ _ _ us hl => match us, hl with | [_, _], _ => rfl
theorem Txt.b_Desk_look : Binds K T.Desk_look.fd ["self", "state"] [] := T.Desk_look.F.binds (ps := ["self", "state"]) fun _ _ _ _ _ _ us hl => match us, hl with | [_, _], _ => rfl
theorem Txt.b_Desk_same : Binds K T.Desk_same.fd ["self", "one", "other"] [] := T.Desk_same.F.binds (ps := ["self", "one", "other"]) fun _ _ _ _ _ _ us hl => match us, hl with | [_, _, _], _ => rfl
theorem Txt.b_Desk_unlike : Binds K T.Desk_unlike.fd ["self", "one", "other"] [] := T.Desk_unlike.F.binds (ps := ["self", "one", "other"]) fun _ _ _ _ _ _ us hl => match us, hl with | [_, _, _], _ => rfl
theorem Txt.b_Desk_depth : Binds K T.Desk_depth.fd ["self", "one", "other"] [] := T.Desk_depth.F.binds (ps := ["self", "one", "other"]) fun _ _ _ _ _ _ us hl => match us, hl with | [_, _, _], _ => rfl
theorem Txt.b_Desk_number : Binds K T.Desk_number.fd ["self", "state"] [] := T.Desk_number.F.binds (ps := ["self", "state"]) fun _ _ _ _ _ _ us hl => match us, hl with | [_, _], _ => rfl
theorem Txt.b_Desk_tell : Binds K T.Desk_tell.fd ["self", "one", "other"] [] := T.Desk_tell.F.binds (ps := ["self", "one", "other"]) fun _ _ _ _ _ _ us hl => match us, hl with | [_, _, _], _ => rfl
theorem Txt.b_Desk_where : Binds K T.Desk_where.fd ["self", "text"] [] := T.Desk_where.F.binds (ps := ["self", "text"]) fun _ _ _ _ _ _ us hl => match us, hl with | [_, _], _ => rfl
theorem Txt.b_Desk_holds : Binds K T.Desk_holds.fd ["self", "state", "text"] [] := T.Desk_holds.F.binds (ps := ["self", "state", "text"]) fun _ _ _ _ _ _ us hl => match us, hl with | [_, _, _], _ => rfl
theorem Txt.b_Desk_told_where : Binds K T.Desk_told_where.fd ["self", "text"] [] := T.Desk_told_where.F.binds (ps := ["self", "text"]) fun _ _ _ _ _ _ us hl => match us, hl with | [_, _], _ => rfl
theorem Txt.b_Desk_check : Binds K T.Desk_check.fd ["self", "row"] [] := T.Desk_check.F.binds (ps := ["self", "row"]) fun _ _ _ _ _ _ us hl => match us, hl with | [_, _], _ => rfl
theorem Txt.b_Desk_quotient : Binds K T.Desk_quotient.fd ["self"] [] := T.Desk_quotient.F.binds (ps := ["self"]) fun _ _ _ _ _ _ us hl => match us, hl with | [_], _ => rfl
theorem Txt.b_Desk_of_arcs : Binds K T.Desk_of_arcs.fd ["self", "call", "n"] [] := T.Desk_of_arcs.F.binds (ps := ["self", "call", "n"]) fun _ _ _ _ _ _ us hl => match us, hl with | [_, _, _], _ => rfl
theorem Txt.b_Desk_of_likeness : Binds K T.Desk_of_likeness.fd ["self", "call", "n", "row"] [] := T.Desk_of_likeness.F.binds (ps := ["self", "call", "n", "row"]) fun _ _ _ _ _ _ us hl => match us, hl with | [_, _, _, _], _ => rfl
theorem Txt.b_Desk_answer : Binds K T.Desk_answer.fd ["self", "call", "n", "row"] [] := T.Desk_answer.F.binds (ps := ["self", "call", "n", "row"]) fun _ _ _ _ _ _ us hl => match us, hl with | [_, _, _, _], _ => rfl
theorem Txt.b_answers : Binds K T.answers.fd ["calls"] [] := T.answers.F.binds (ps := ["calls"]) fun _ _ _ _ _ _ us hl => match us, hl with | [_], _ => rfl
theorem Txt.mk_Asker : Mk K T.cAsker.C T.Asker_init0.f := ⟨T.cAsker.mi, T.Asker_init0.m.at_, T.Asker_init0.m.fn, T.cAsker.kc⟩
theorem Txt.mk_Teller : Mk K T.cTeller.C T.Teller_init0.f := ⟨T.cTeller.mi, T.Teller_init0.m.at_, T.Teller_init0.m.fn, T.cTeller.kc⟩
theorem Txt.mk_System : Mk K T.cSystem.C T.System_init0.f := ⟨T.cSystem.mi, T.System_init0.m.at_, T.System_init0.m.fn, T.cSystem.kc⟩
theorem Txt.mk_Levels : Mk K T.cLevels.C T.Levels_init0.f := ⟨T.cLevels.mi, T.Levels_init0.m.at_, T.Levels_init0.m.fn, T.cLevels.kc⟩
theorem Txt.mk_Desk : Mk K T.cDesk.C T.Desk_init0.f := ⟨T.cDesk.mi, T.Desk_init0.m.at_, T.Desk_init0.m.fn, T.cDesk.kc⟩
end

end LkW
end

section
set_option Elab.async false
set_option linter.all false
set_option maxRecDepth 100000
set_option maxHeartbeats 2000000
/-! What stands in the heap; what evaluates to what. -/
namespace LkW
open PySem PySem.Spec PyProof.Rows L2 Evl Lk
open Ln (Sys Arc)

theorem getD_get {α : Type} {l : List α} {i : Nat} {d : α} (h : i < l.length) : l[i]? = some (l.getD i d) := by
  rw [List.getD_eq_getElem?_getD, List.getElem?_eq_getElem h]
  rfl
/-! ### fields by name -/
theorem lk_here {k : Str} {v : V} {r : List (Str × V)} : List.lookup k ((k, v) :: r) = some v := by
  have e : (k == k) = true := beq_self_eq_true k
  simp only [List.lookup, e]
theorem lk_past {k g : Str} {v : V} {r : List (Str × V)} (h : (k == g) = false) : List.lookup k ((g, v) :: r) = List.lookup k r := by
  simp only [List.lookup, h]
theorem put_here {f : Str} {v x : V} {r : List (Str × V)} : putF f v ((f, x) :: r) = (f, v) :: r := if_pos rfl
theorem put_past {f g : Str} {v x : V} {r : List (Str × V)} (h : ¬ g = f) : putF f v ((g, x) :: r) = (g, x) :: putF f v r := if_neg h

/-! ### numbers, arcs -/
def vN (l : List Nat) : List V := l.map fun (n : Nat) => V.int (n : Int)
theorem vN_len (l : List Nat) : (vN l).length = l.length := List.length_map ..
theorem vN_get {l : List Nat} {i : Nat} (h : i < l.length) : (vN l)[i]? = some (.int ((l.getD i 0 : Nat) : Int)) := by
  unfold vN
  rw [List.getElem?_map, getD_get (d := 0) h]
  rfl
theorem vN_at {l : List Nat} {i : Nat} (h : i < l.length) : atI (vN l) (i : Int) = some (.int ((l.getD i 0 : Nat) : Int)) := atI_nat (vN_get h)
theorem vN_int (l : List Nat) : vN l = (l.map fun (n : Nat) => (n : Int)).map V.int := by
  unfold vN
  rw [List.map_map]
  rfl
theorem vN_app (l m : List Nat) : vN (l ++ m) = vN l ++ vN m := List.map_append ..
def arcI (a : Arc) : List Int := [(a.1 : Int), (a.2.1 : Int), (a.2.2 : Int)]
def pairI (a : Nat × Nat) : List Int := [(a.1 : Int), (a.2 : Int)]
theorem arcI_inj {a b : Arc} (h : arcI a = arcI b) : a = b := by
  unfold arcI at h
  simp only [List.cons.injEq, Int.natCast_inj, and_true] at h
  exact Prod.ext h.1 (Prod.ext h.2.1 h.2.2)
theorem pairI_inj {a b : Nat × Nat} (h : pairI a = pairI b) : a = b := by
  unfold pairI at h
  simp only [List.cons.injEq, Int.natCast_inj, and_true] at h
  exact Prod.ext h.1 h.2
/-- at a: a list of tuples -/
def LT (H : Hp) (a : Addr) (L : List (List Int)) : Prop := ∃ ks : List (Addr × List Int), H a = some (.lst (ks.map fun p => V.ref p.1)) ∧ ks.map (·.2) = L ∧ ∀ p ∈ ks, H p.1 = some (.tup (p.2.map V.int))
theorem LT.mono {H H' : Hp} {a : Addr} {L : List (List Int)} (e : Ex H H') (h : LT H a L) : LT H' a L := by
  obtain ⟨ks, h1, h2, h3⟩ := h
  exact ⟨ks, e _ _ h1, h2, fun p hp => e _ _ (h3 p hp)⟩
def sysF (c a : V) : List (Str × V) := [("colours", c), ("arcs", a)]
def SysAt (C : Addr) (H : Hp) (p : Addr) (S : Sys) : Prop := ∃ dx c a, H p = some (.ins C dx (sysF (.ref c) (.ref a))) ∧ H c = some (.lst (vN S.colours)) ∧ LT H a (S.arcs.map arcI)
theorem SysAt.mono {C : Addr} {H H' : Hp} {p : Addr} {S : Sys} (e : Ex H H') (h : SysAt C H p S) : SysAt C H' p S := by
  obtain ⟨dx, c, a, h1, h2, h3⟩ := h
  exact ⟨dx, c, a, e _ _ h1, e _ _ h2, h3.mono e⟩
def levF (s r : V) : List (Str × V) := [("system", s), ("rows", r)]
/-- rows of numbers -/
def Rows (H : Hp) (rs : List Addr) (L : List (List Nat)) : Prop := rs.length = L.length ∧ ∀ (i : Nat) r l, rs[i]? = some r → L[i]? = some l → H r = some (.lst (vN l))
theorem Rows.mono {H H' : Hp} {rs : List Addr} {L : List (List Nat)} (e : Ex H H') (h : Rows H rs L) : Rows H' rs L := ⟨h.1, fun i r l a b => e _ _ (h.2 i r l a b)⟩
/-- the rounds up to the m-th -/
def rndS (S : Sys) (m : Nat) : List (List Nat) := (List.range (m + 1)).map (R S)
def LevAt (CS CL : Addr) (H : Hp) (p : Addr) (S : Sys) (m : Nat) : Prop := m < S.states ∧ R S (m + 1) = R S m ∧ ∃ dx sp ra rs, H p = some (.ins CL dx (levF (.ref sp) (.ref ra))) ∧ SysAt CS H sp S ∧ H ra = some (.lst (rs.map V.ref)) ∧ Rows H rs (rndS S m)
theorem LevAt.mono {CS CL : Addr} {H H' : Hp} {p : Addr} {S : Sys} {m : Nat} (e : Ex H H') (h : LevAt CS CL H p S m) : LevAt CS CL H' p S m := by
  obtain ⟨a, b, dx, sp, ra, rs, h1, h2, h3, h4⟩ := h
  exact ⟨a, b, dx, sp, ra, rs, e _ _ h1, h2.mono e, e _ _ h3, h4.mono e⟩

/-! ### what evaluates to what, by a predicate -/
def EvP (te : TE) (σ : L2.St) (H : Hp) (P : V → Hp → Prop) : Prop := ∀ H1, Ex H H1 → ∀ Q : VK, (∀ v H2, Ex H1 H2 → P v H2 → Q v H2) → te σ H1 Q
theorem EvP.mono {te : TE} {σ : L2.St} {H H' : Hp} {P : V → Hp → Prop} (e : Ex H H') (h : EvP te σ H P) : EvP te σ H' P := fun H1 e1 => h H1 (e.trans e1)
theorem EvP.imp {te : TE} {σ : L2.St} {H : Hp} {P P' : V → Hp → Prop} (h : EvP te σ H P) (i : ∀ v H2, Ex H H2 → P v H2 → P' v H2) : EvP te σ H P' := fun H1 e Q k => h H1 e Q fun v H2 e2 p => k v H2 e2 (i v H2 (e.trans e2) p)
theorem evp {te : TE} {σ : L2.St} {H : Hp} {v : V} (h : Ev te σ H v) : EvP te σ H (fun x _ => x = v) := fun H1 e Q k => h H1 e Q fun H2 e2 => k v H2 e2 rfl
theorem evv {te : TE} {σ : L2.St} {H : Hp} {v : V} (h : EvP te σ H (fun x _ => x = v)) : Ev te σ H v := fun H1 e Q k => h H1 e Q fun x H2 e2 p => by subst p; exact k H2 e2
/-- what a promise gives -/
def Gives (H : Hp) (Q : VK) (P : V → Hp → Prop) : Prop := ∀ v H2, Ex H H2 → P v H2 → Q v H2
def SpP (sp : Sp) (vs : List V) (H : Hp) (P : V → Hp → Prop) : Prop := ∀ H1, Ex H H1 → ∀ (Q : VK) (E : XK), Gives H1 Q P → sp vs H1 Q E
section
variable {K : PySem.W.Frag} {σ : L2.St} {H H' : Hp} {ta tb te tx : TE} {t u : TT} {x y z v : V} {r : R2} {C p dx : Addr} {fs : List (Str × V)} {f m : Str} {sp : Sp} {E : XK} {P : V → Hp → Prop} {vs : List V} {targs : TA}
theorem ev_fld (h : Ev te σ H (.ref p)) (ho : H p = some (.ins C dx fs)) (c : Cls K C) (n : NoAttr K C f) (l : fs.lookup f = some v) : Ev (tFld K te f) σ H v :=
  fun H1 e Q k => h H1 e _ fun H2 e2 => ⟨p, C, dx, fs, v, rfl, e2 _ _ (e _ _ ho), c, n, l, k H2 e2⟩
theorem evp_meth (h : Ev te σ H (.ref p)) (ho : H p = some (.ins C dx fs)) (l : fs.lookup m = none) (ha : EvA targs σ H vs) (hs : SpP sp (.ref p :: vs) H P) : EvP (tMeth C m sp [] E te targs) σ H P :=
  fun H1 e Q k => h H1 e _ fun H2 e2 => ⟨p, dx, fs, rfl, e2 _ _ (e _ _ ho), l, ha H2 (e.trans e2) _ fun H3 e3 => by
    rw [List.append_nil]
    exact hs H3 ((e.trans e2).trans e3) Q E fun v H4 e4 q => k v H4 ((e2.trans e3).trans e4) q⟩
theorem evp_call (ha : EvA targs σ H vs) (hs : SpP sp vs H P) : EvP (tCall sp [] E targs) σ H P :=
  fun H1 e Q k => ha H1 e _ fun H3 e3 => by
    rw [List.append_nil]
    exact hs H3 (e.trans e3) Q E fun v H4 e4 q => k v H4 (e3.trans e4) q
theorem ev_meth (h : Ev te σ H (.ref p)) (ho : H p = some (.ins C dx fs)) (l : fs.lookup m = none) (ha : EvA targs σ H vs) (hs : SpP sp (.ref p :: vs) H (fun x _ => x = v)) : Ev (tMeth C m sp [] E te targs) σ H v := evv (evp_meth h ho l ha hs)
theorem ev_lenL {a : Addr} {xs : List V} (ha : Ev ta σ H (.ref a)) (h : SqL K H a xs) : Ev (tCB (rLenS K) (tCons ta tNil)) σ H (.int (xs.length : Int)) := ev_len ha h
variable {D : Ends} {tu tw tz : TS}
theorem s_asgP {i : Nat} (h : EvP te σ H P) (k : ∀ v H1, Ex H H1 → P v H1 → D.nx (σ.set i (some v)) H1) : tAsg te (gName i) D σ H := h H (Ex.refl H) _ fun v H2 e q => k v H2 e q
theorem s_retP (h : EvP te σ H P) (k : ∀ v H1, Ex H H1 → P v H1 → D.rt v H1) : tRet te D σ H := h H (Ex.refl H) _ fun v H2 e q => k v H2 e q
theorem q_asgP {i : Nat} (h : EvP te σ H P) (k : ∀ v H1, Ex H H1 → P v H1 → tz D (σ.set i (some v)) H1) : tSeq (tAsg te (gName i)) tz D σ H := s_asgP (D := { D with nx := tz D }) h k
end

section
variable {σ : L2.St} {H : Hp} {te : TE} {targs : TA} {C p dx : Addr} {fs : List (Str × V)} {m : Str} {sp : Sp} {E : XK} {vs : List V} {Q : VK} {D : Ends} {tz : TS} {g : TG} {i : Nat}
/-! what may change what stands -/
theorem x_call (ha : EvA targs σ H vs) (hs : ∀ H1, Ex H H1 → sp vs H1 Q E) : tCall sp [] E targs σ H Q :=
  ha H (Ex.refl H) _ fun H1 e1 => by
    rw [List.append_nil]
    exact hs H1 e1
theorem x_meth (h : Ev te σ H (.ref p)) (ho : H p = some (.ins C dx fs)) (l : fs.lookup m = none) (ha : EvA targs σ H vs) (hs : ∀ H1, Ex H H1 → sp (.ref p :: vs) H1 Q E) : tMeth C m sp [] E te targs σ H Q :=
  h H (Ex.refl H) _ fun H1 e1 => ⟨p, dx, fs, rfl, e1 _ _ ho, l, ha H1 e1 _ fun H2 e2 => by
    rw [List.append_nil]
    exact hs H2 (e1.trans e2)⟩
theorem asg_x (h : te σ H fun v H1 => D.nx (σ.set i (some v)) H1) : tAsg te (gName i) D σ H := h
theorem qasg_x (h : te σ H fun v H1 => tz D (σ.set i (some v)) H1) : tSeq (tAsg te (gName i)) tz D σ H := h
theorem qasg_g (h : te σ H fun v H1 => g v σ H1 (tz D)) : tSeq (tAsg te g) tz D σ H := h
theorem ret_x (h : te σ H D.rt) : tRet te D σ H := h
theorem drop_x (h : te σ H fun _ H1 => D.nx σ H1) : tDrop te D σ H := h
theorem qdrop_x (h : te σ H fun _ H1 => tz D σ H1) : tSeq (tDrop te) tz D σ H := h
end
/-- a list, at a place of its own or not -/
def Lst (xs : List V) : V → Hp → Prop := fun v H => ∃ p, v = .ref p ∧ H p = some (.lst xs)
theorem Lst.mono {xs : List V} {v : V} {H H' : Hp} (e : Ex H H') (h : Lst xs v H) : Lst xs v H' := by
  obtain ⟨p, h1, h2⟩ := h
  exact ⟨p, h1, e _ _ h2⟩
theorem lst_l {te : TE} {σ : L2.St} {H : Hp} {xs : List V} (h : EvL te σ H xs) : EvP te σ H (Lst xs) := fun H1 e Q k => h H1 e Q fun p H2 n e2 hp => k _ H2 e2 ⟨p, rfl, hp⟩
theorem lst_v {te : TE} {σ : L2.St} {H : Hp} {xs : List V} {p : Addr} (h : Ev te σ H (.ref p)) (hp : H p = some (.lst xs)) : EvP te σ H (Lst xs) := fun H1 e Q k => h H1 e Q fun H2 e2 => k _ H2 e2 ⟨p, rfl, e2 _ _ (e _ _ hp)⟩
/-- a list of tuples -/
def Lts (L : List (List Int)) : V → Hp → Prop := fun v H => ∃ p, v = .ref p ∧ LT H p L
theorem Lts.mono {L : List (List Int)} {v : V} {H H' : Hp} (e : Ex H H') (h : Lts L v H) : Lts L v H' := by
  obtain ⟨p, h1, h2⟩ := h
  exact ⟨p, h1, h2.mono e⟩
theorem lts_v {te : TE} {σ : L2.St} {H : Hp} {L : List (List Int)} {p : Addr} (h : Ev te σ H (.ref p)) (hp : LT H p L) : EvP te σ H (Lts L) := fun H1 e Q k => h H1 e Q fun H2 e2 => k _ H2 e2 ⟨p, rfl, hp.mono (e.trans e2)⟩
/-! ### updates and tuples -/
theorem tup_upd {H : Hp} {D t : Addr} {o : HO} {xs : List V} (h : H t = some (.tup xs)) (hd : ∀ ys, H D ≠ some (.tup ys)) : upd H D o t = some (.tup xs) := by
  rw [upd_ne]
  · exact h
  · intro e
    rw [e] at h
    exact hd _ h
theorem rd_upd {H : Hp} {D t : Addr} {o u : HO} (h : H t = some u) (hd : H D ≠ some u) : upd H D o t = some u := by
  rw [upd_ne]
  · exact h
  · intro e
    rw [e] at h
    exact hd h

/-! ### comprehensions: what is given, turn by turn -/
def GivP (f : Nat → Bool) (P : Nat → V → Hp → Prop) (H : Hp) : Nat → List V → Prop
  | 0, ys => ys = []
  | n + 1, ys => if f n = true then ∃ ys0 y, ys = ys0 ++ [y] ∧ GivP f P H n ys0 ∧ P n y H else GivP f P H n ys
theorem GivP.imp {f : Nat → Bool} {P P' : Nat → V → Hp → Prop} {H H' : Hp} (h : ∀ i v, P i v H → P' i v H') : ∀ {n : Nat} {ys : List V}, GivP f P H n ys → GivP f P' H' n ys
  | 0, _, g => g
  | n + 1, ys, g => by
    unfold GivP at g ⊢
    split at g
    · rename_i c
      rw [if_pos c]
      obtain ⟨ys0, y, e, g0, p⟩ := g
      exact ⟨ys0, y, e, GivP.imp h g0, h _ _ p⟩
    · rename_i c
      rw [if_neg c]
      exact GivP.imp h g
theorem GivP.len {f : Nat → Bool} {P : Nat → V → Hp → Prop} {H : Hp} : ∀ {n : Nat} {ys : List V}, GivP f P H n ys → ys.length ≤ n
  | 0, _, g => by rw [show _ = _ from g]; simp
  | n + 1, ys, g => by
    unfold GivP at g
    split at g
    · obtain ⟨ys0, y, e, g0, p⟩ := g
      have := GivP.len g0
      rw [e]
      simp
      omega
    · have := GivP.len g
      omega
theorem GivP.vals {f : Nat → Bool} {w : Nat → V} {H : Hp} : ∀ {n : Nat} {ys : List V}, GivP f (fun i y _ => y = w i) H n ys → ys = ((List.range n).filter f).map w
  | 0, _, g => by rw [show _ = _ from g]; rfl
  | n + 1, ys, g => by
    unfold GivP at g
    rw [List.range_succ, List.filter_append, List.map_append]
    split at g
    · rename_i c
      obtain ⟨ys0, y, e, g0, p⟩ := g
      rw [e, GivP.vals g0, show y = w n from p]
      simp [c]
    · rename_i c
      rw [GivP.vals g]
      simp [c]
/-- new tuples -/
theorem GivP.tups {f : Nat → Bool} {w : Nat → List Int} {H : Hp} : ∀ {n : Nat} {ys : List V}, GivP f (fun i y H => ∃ t, y = .ref t ∧ H t = some (.tup ((w i).map V.int))) H n ys →
    ∃ ks : List (Addr × List Int), ys = ks.map (fun p => V.ref p.1) ∧ ks.map (·.2) = ((List.range n).filter f).map w ∧ ∀ p ∈ ks, H p.1 = some (.tup (p.2.map V.int))
  | 0, _, g => ⟨[], by rw [show _ = _ from g]; rfl, rfl, fun p hp => by cases hp⟩
  | n + 1, ys, g => by
    unfold GivP at g
    rw [List.range_succ, List.filter_append, List.map_append]
    split at g
    · rename_i c
      obtain ⟨ys0, y, e, g0, t, p1, p2⟩ := g
      obtain ⟨ks, h1, h2, h3⟩ := GivP.tups g0
      refine ⟨ks ++ [(t, w n)], ?_, ?_, ?_⟩
      · rw [e, h1, p1, List.map_append]
        rfl
      · rw [List.map_append, h2]
        simp [c]
      · intro p hp
        rcases List.mem_append.mp hp with h | h
        · exact h3 p h
        · rw [List.mem_singleton.mp h]
          exact p2
    · rename_i c
      obtain ⟨ks, h1, h2, h3⟩ := GivP.tups g
      exact ⟨ks, h1, by rw [h2]; simp [c], h3⟩
/-- a new list, by a predicate -/
def ElP (te : TE) (σ : L2.St) (H : Hp) (P : List V → Hp → Prop) : Prop := ∀ H1, Ex H H1 → ∀ Q : VK, (∀ p ys H2, H1 p = none → Ex H1 H2 → H2 p = some (.lst ys) → P ys H2 → Q (.ref p) H2) → te σ H1 Q
theorem ElP.mono {te : TE} {σ : L2.St} {H H' : Hp} {P : List V → Hp → Prop} (e : Ex H H') (h : ElP te σ H P) : ElP te σ H' P := fun H1 e1 => h H1 (e.trans e1)
theorem elp_p {te : TE} {σ : L2.St} {H : Hp} {P : List V → Hp → Prop} (h : ElP te σ H P) : EvP te σ H (fun v H2 => ∃ p ys, v = .ref p ∧ H2 p = some (.lst ys) ∧ P ys H2) :=
  fun H1 e Q k => h H1 e Q fun p ys H2 _ e2 hp q => k (.ref p) H2 e2 ⟨p, ys, rfl, hp, q⟩
theorem elp_l {te : TE} {σ : L2.St} {H : Hp} {xs : List V} (h : ElP te σ H (fun ys _ => ys = xs)) : EvL te σ H xs := fun H1 e Q k => h H1 e Q fun p ys H2 n e2 hp q => by subst q; exact k p H2 n e2 hp
theorem ElP.imp {te : TE} {σ : L2.St} {H : Hp} {P P' : List V → Hp → Prop} (h : ElP te σ H P) (i : ∀ ys H2, Ex H H2 → P ys H2 → P' ys H2) : ElP te σ H P' := fun H1 e Q k => h H1 e Q fun p ys H2 n e2 hp q => k p ys H2 n e2 hp (i ys H2 (e.trans e2) q)

/-- stays when the list that is being made grows -/
def Stays (P : Nat → V → Hp → Prop) : Prop := (∀ i v H H', Ex H H' → P i v H → P i v H') ∧ ∀ i v H D acc o, H D = some (.lst acc) → P i v H → P i v (upd H D (.lst o))
theorem stays_val {w : Nat → V} : Stays (fun i y _ => y = w i) := ⟨fun _ _ _ _ _ h => h, fun _ _ _ _ _ _ _ h => h⟩
theorem stays_tup {w : Nat → List Int} : Stays (fun i y H => ∃ t, y = .ref t ∧ H t = some (.tup ((w i).map V.int))) :=
  ⟨fun i v H H' e ⟨t, h1, h2⟩ => ⟨t, h1, e _ _ h2⟩, fun i v H D acc o hd ⟨t, h1, h2⟩ => ⟨t, h1, tup_upd h2 fun ys z => by rw [hd] at z; cases z⟩⟩
section
variable {K : PySem.W.Frag} {σ : L2.St} {H : Hp} {wi : TI} {g : TG} {tt : TT} {te : TE} {vs : List Nat}
/-- one turn: the target's slots, the test, the item -/
def Turn (σ : L2.St) (H : Hp) (g : TG) (tt : TT) (te : TE) (vs : List Nat) (f : Nat → Bool) (P : Nat → V → Hp → Prop) (i : Nat) (x : V) : Prop :=
  ∃ σ2, wipe σ2 vs = wipe σ vs ∧ (∀ Q : L2.St → Hp → Prop, ∀ H1, Ex H H1 → Q σ2 H1 → g x (wipe σ vs) H1 Q) ∧ EvT tt σ2 H (f i) ∧ (f i = true → EvP te σ2 H (P i))
theorem turn_of {f : Nat → Bool} {P : Nat → V → Hp → Prop} {i : Nat} {x : V} {σ2 : L2.St} (hg : ∀ Q : L2.St → Hp → Prop, ∀ H1, Ex H H1 → Q σ2 H1 → g x (wipe σ vs) H1 Q) (hw : wipe σ2 vs = wipe σ vs) (ht : EvT tt σ2 H (f i)) (he : f i = true → EvP te σ2 H (P i)) : Turn σ H g tt te vs f P i x := ⟨σ2, hw, hg, ht, he⟩
theorem lc_any {J : It} {n : Nat} {Item : Nat → V → Hp → Prop} (f : Nat → Bool) (P : Nat → V → Hp → Prop) (hP : Stays P) (hn : n ≤ 40000) (hgo : ∀ i H1, Ex H H1 → i < n → J.go i H1) (hstop : ∀ i H1, Ex H H1 → n ≤ i → J.stop i H1)
    (hy : ∀ i H1 x H2, Ex H H1 → i < n → J.yld i H1 x H2 → Ex H1 H2 ∧ Item i x H2) (ht : ∀ i x H1, Ex H H1 → i < n → Item i x H1 → Turn σ H1 g tt te vs f P i x)
    {Q : VK} (k : ∀ p ys H2, H p = none → Ex H H2 → H2 p = some (.lst ys) → GivP f P H2 n ys → Q (.ref p) H2) : ∀ D, H D = none → ∃ W : Nat → Nat → Hp → Prop, (∃ m, W 0 m (upd H D (.lst []))) ∧ ∀ i m H, W i m H →
      (J.stop i H ∧ Q (.ref D) H) ∨ (J.go i H ∧ ∃ Nx : Hp → Prop, (∀ H', Nx H' → ∃ m', m' < m ∧ W (i + 1) m' H') ∧ ∀ x H', J.yld i H x H' → g x (wipe σ vs) H' fun σ2 H2 => wipe σ2 vs = wipe σ vs ∧ tt σ2 H2 fun b H3 =>
        if b = true then te σ2 H3 fun y H4 => ∃ acc, H4 D = some (.lst acc) ∧ acc.length < sizeLine ∧ Nx (upd H4 D (.lst (acc ++ [y]))) else Nx H3) := by
  intro D hD
  refine ⟨fun i m H' => m = n - i ∧ i ≤ n ∧ Ex H H' ∧ ∃ acc, H' D = some (.lst acc) ∧ GivP f P H' i acc, ⟨n, by simp, Nat.zero_le _, Ex.new hD, [], upd_same, rfl⟩, ?_⟩
  rintro i m H' ⟨rfl, hi, e, acc, hd, gv⟩
  by_cases hlt : i < n
  · refine .inr ⟨hgo i H' e hlt, fun H2 => i + 1 ≤ n ∧ Ex H H2 ∧ ∃ acc, H2 D = some (.lst acc) ∧ GivP f P H2 (i + 1) acc, fun H2 q => ⟨n - (i + 1), by omega, rfl, q.1, q.2⟩, fun x H2 y => ?_⟩
    obtain ⟨e2, it⟩ := hy i H' x H2 e hlt y
    obtain ⟨σ2, w, hg, ht1, he⟩ := ht i x H2 (e.trans e2) hlt it
    refine hg _ H2 (Ex.refl _) ⟨w, ht1 H2 (Ex.refl _) _ fun H3 e3 => ?_⟩
    cases c : f i with
    | false =>
      rw [if_neg (by decide)]
      refine ⟨hlt, (e.trans e2).trans e3, acc, e3 _ _ (e2 _ _ hd), ?_⟩
      unfold GivP
      rw [if_neg (by rw [c]; decide)]
      exact gv.imp fun j v q => hP.1 j v _ _ (e2.trans e3) q
    | true =>
      rw [if_pos rfl]
      refine he c H3 e3 _ fun v H4 e4 pv => ?_
      have hd4 : H4 D = some (.lst acc) := e4 _ _ (e3 _ _ (e2 _ _ hd))
      have gl := gv.len
      refine ⟨acc, hd4, sz_lt (by omega), hlt, Ex.mut (((e.trans e2).trans e3).trans e4) hD, acc ++ [v], upd_same, ?_⟩
      unfold GivP
      rw [if_pos c]
      exact ⟨acc, v, rfl, gv.imp fun j u q => hP.2 j u _ _ acc _ hd4 (hP.1 j u _ _ ((e2.trans e3).trans e4) q), hP.2 _ _ _ _ acc _ hd4 pv⟩
  · have ei : i = n := by omega
    subst ei
    exact .inl ⟨hstop i H' e (Nat.le_refl _), k D acc H' hD e hd gv⟩
theorem el_lcLP {a : Addr} {xs : List V} {tl : TE} (f : Nat → Bool) (P : Nat → V → Hp → Prop) (hP : Stays P) (h : Ev tl σ H (.ref a)) (hx : SqL K H a xs) (hz : xs.length ≤ 40000)
    (ht : ∀ i x H1, Ex H H1 → xs[i]? = some x → Turn σ H1 g tt te vs f P i x) : ElP (tLc (iList K tl) g tt te vs) σ H (fun ys H2 => GivP f P H2 xs.length ys) :=
  fun H1 e Q k => h H1 e _ fun H2 e2 => by
    have e12 := e.trans e2
    refine ⟨a, rfl, ⟨xs, ex_l e12 hx⟩, lc_any (J := Itl K a) (Item := fun i x _ => xs[i]? = some x) f P hP hz (fun i H3 e3 hi => ⟨xs, xs[i], ex_l (e12.trans e3) hx, by simp [hi]⟩) (fun i H3 e3 hi => ⟨xs, ex_l (e12.trans e3) hx, hi⟩)
      (fun i H3 x H4 e3 hi y => ?_) (fun i x H3 e3 hi it => ht i x H3 (e12.trans e3) it) (fun p ys H3 n e3 hp q => k p ys H3 (fresh_back e2 n) (e2.trans e3) hp q)⟩
    obtain ⟨rfl, y⟩ := y
    exact ⟨Ex.refl _, y xs (ex_l (e12.trans e3) hx)⟩
theorem el_lcNLP {xs : List V → Prop} {tl : TE} (f : List V → Nat → Bool) (P : List V → Nat → V → Hp → Prop) {P0 : List V → Hp → Prop} (h : ElP tl σ H P0) (hP : ∀ xs, Stays (P xs)) (hz : ∀ xs H1, Ex H H1 → P0 xs H1 → xs.length ≤ 40000)
    (ht : ∀ p xs H0, Ex H H0 → P0 xs H0 → H0 p = some (.lst xs) → ∀ i x H1, Ex H0 H1 → xs[i]? = some x → Turn σ H1 g tt te vs (f xs) (P xs) i x) :
    ElP (tLc (iList K tl) g tt te vs) σ H (fun ys H2 => ∃ xs H0, Ex H H0 ∧ Ex H0 H2 ∧ P0 xs H0 ∧ GivP (f xs) (P xs) H2 xs.length ys) :=
  fun H1 e Q k => h H1 e _ fun a xs H2 n e2 hp p0 => by
    have e12 := e.trans e2
    have hx : SqL K H2 a xs := sq_of hp
    refine ⟨a, rfl, ⟨xs, hx⟩, lc_any (J := Itl K a) (H := H2) (Item := fun i x _ => xs[i]? = some x) (f xs) (P xs) (hP xs) (hz xs H2 e12 p0) (fun i H3 e3 hi => ⟨xs, xs[i], ex_l e3 hx, by simp [hi]⟩) (fun i H3 e3 hi => ⟨xs, ex_l e3 hx, hi⟩)
      (fun i H3 x H4 e3 hi y => ?_) (fun i x H3 e3 hi it => ht a xs H2 e12 p0 hp i x H3 e3 it) (fun p ys H3 n3 e3 hp3 q => k p ys H3 (fresh_back e2 n3) (e2.trans e3) hp3 ⟨xs, H2, e12, e3, p0, q⟩)⟩
    obtain ⟨rfl, y⟩ := y
    exact ⟨Ex.refl _, y xs (ex_l e3 hx)⟩
theorem el_lcRP {ta : TA} {n : Nat} (f : Nat → Bool) (P : Nat → V → Hp → Prop) (hP : Stays P) (h : EvA ta σ H [.int (n : Int)]) (hz : n ≤ 40000)
    (ht : ∀ i H1, Ex H H1 → i < n → Turn σ H1 g tt te vs f P i (.int (i : Int))) : ElP (tLc (iRng1 ta) g tt te vs) σ H (fun ys H2 => GivP f P H2 n ys) :=
  fun H1 e Q k => h H1 e _ fun H2 e2 => by
    have e12 := e.trans e2
    refine ⟨(n : Int), rfl, by omega, by omega, ?_⟩
    have en : ((n : Int) - 0).toNat = n := by omega
    refine lc_any (J := Itr 0 ((n : Int) - 0).toNat) (n := n) (Item := fun i x _ => x = .int (i : Int)) f P hP hz (fun i H3 e3 hi => by show i < ((n : Int) - 0).toNat; omega) (fun i H3 e3 hi => by show ((n : Int) - 0).toNat ≤ i; omega)
      (fun i H3 x H4 e3 hi y => ?_) (fun i x H3 e3 hi it => by rw [it]; exact ht i H3 (e12.trans e3) hi) (fun p ys H3 n e3 hp q => k p ys H3 (fresh_back e2 n) (e2.trans e3) hp q)
    obtain ⟨rfl, y⟩ := y
    exact ⟨Ex.refl _, by rw [y, Int.zero_add]⟩
/-- over enumerate -/
theorem el_lcEP {a : Addr} {xs : List V} {ta : TA} (f : Nat → Bool) (P : Nat → V → Hp → Prop) (hP : Stays P) (h : EvA ta σ H [.ref a]) (hx : SqL K H a xs) (hz : xs.length ≤ 40000)
    (ht : ∀ (i : Nat) x T H1, Ex H H1 → xs[i]? = some x → H1 T = some (.tup [.int (i : Int), x]) → Turn σ H1 g tt te vs f P i (.ref T)) : ElP (tLc (iEnum K ta) g tt te vs) σ H (fun ys H2 => GivP f P H2 xs.length ys) :=
  fun H1 e Q k => h H1 e _ fun H2 e2 => by
    have e12 := e.trans e2
    refine ⟨a, xs, rfl, ex_l e12 hx, lc_any (J := Ite K a) (Item := fun (i : Nat) v H => ∃ T x, v = .ref T ∧ xs[i]? = some x ∧ H T = some (.tup [.int (i : Int), x])) f P hP hz (fun i H3 e3 hi => ⟨xs, xs[i], ex_l (e12.trans e3) hx, by simp [hi]⟩) (fun i H3 e3 hi => ⟨xs, ex_l (e12.trans e3) hx, hi⟩)
      (fun i H3 v H4 e3 hi y => ?_) (fun i v H3 e3 hi it => ?_) (fun p ys H3 n e3 hp q => k p ys H3 (fresh_back e2 n) (e2.trans e3) hp q)⟩
    · obtain ⟨T, x, rfl, nT, rfl, y⟩ := y
      exact ⟨Ex.new nT, T, x, rfl, y xs (ex_l (e12.trans e3) hx), upd_same⟩
    · obtain ⟨T, x, rfl, hx2, hT⟩ := it
      exact ht i x T H3 (e12.trans e3) hx2 hT
end
end LkW
end

section
set_option Elab.async false
set_option linter.all false
set_option maxRecDepth 100000
set_option maxHeartbeats 2000000
/-! Data: numbers, tuples of numbers, lists of such: what == says. -/
namespace LkW
open PySem PySem.Spec PyProof.Rows L2 Evl Lk
open Ln (Sys Arc)
theorem map_inj {α β : Type} {f : α → β} (hf : ∀ a b, f a = f b → a = b) : ∀ {l m : List α}, l.map f = m.map f → l = m
  | [], [], _ => rfl
  | [], _ :: _, h => by cases h
  | _ :: _, [], h => by cases h
  | a :: r, b :: t, h => by
    injection h with h1 h2
    rw [hf _ _ h1, map_inj hf h2]
def dT (l : List Int) : PyData := .tuple (l.map PyData.int)
def dTs (L : List (List Int)) : List PyData := L.map dT
theorem eqv_T (l m : List Int) : PyData.eqv (dT l) (dT m) = decide (l = m) := by
  unfold dT
  rw [PyData.eqv, PySem.W.ked_eqvAll]
theorem eqv_Ts : ∀ L M : List (List Int), PyData.eqvAll (dTs L) (dTs M) = decide (L = M)
  | [], [] => by simp [dTs, PyData.eqvAll]
  | [], _ :: _ => by simp [dTs, PyData.eqvAll]
  | _ :: _, [] => by simp [dTs, PyData.eqvAll]
  | a :: r, b :: t => by
    have ih := eqv_Ts r t
    unfold dTs at ih ⊢
    simp only [List.map_cons, PyData.eqvAll, eqv_T, ih]
    by_cases h : a = b <;> by_cases h' : r = t <;> simp [h, h']
theorem any_T (L : List (List Int)) (l : List Int) : ((dTs L).any fun z => PyData.eqv z (dT l)) = decide (l ∈ L) := by
  induction L with
  | nil => simp [dTs]
  | cons a r ih =>
    unfold dTs at ih ⊢
    rw [List.map_cons, List.any_cons, ih, eqv_T]
    by_cases h : a = l
    · simp [h]
    · have h2 : ¬ l = a := fun z => h z.symm
      by_cases h' : l ∈ r <;> simp [h, h2, h']
theorem lay_T (l : List Int) : (dT l).canLay0 = true := by
  unfold dT
  rw [PyData.canLay0]
  exact PySem.W.ke_canLayAll0 l
theorem depth_T (l : List Int) : (dT l).depth ≤ 1 := by
  unfold dT
  simp only [PyData.depth, PySem.W.ke_depthAll]
  omega
theorem lay_Ts : ∀ L : List (List Int), PyData.canLayAll0 (dTs L) = true
  | [] => by simp [dTs, PyData.canLayAll0]
  | a :: r => by
    have ih := lay_Ts r
    unfold dTs at ih ⊢
    simp [PyData.canLayAll0, lay_T, ih]
theorem depth_Ts : ∀ L : List (List Int), PyData.depthAll (dTs L) ≤ 1
  | [] => by simp [dTs, PyData.depthAll]
  | a :: r => by
    have ih := depth_Ts r
    have h := depth_T a
    unfold dTs at ih ⊢
    simp only [List.map_cons, PyData.depthAll]
    omega
theorem shaped_of {d : PyData} (h1 : d.canLay0 = true) (h2 : d.depth ≤ 64) : SeqAt.shaped d = true := by
  show (d.canLay0 && decide (d.depth ≤ 64)) = true
  rw [h1, decide_eq_true h2]
  rfl
theorem shaped_T (l : List Int) : SeqAt.shaped (dT l) = true := shaped_of (lay_T l) (by have := depth_T l; omega)
theorem shaped_Ts (L : List (List Int)) : SeqAt.shaped (.list (dTs L)) = true := shaped_of (by rw [PyData.canLay0]; exact lay_Ts L) (by have := depth_Ts L; simp only [PyData.depth]; omega)
/-- lists of lists -/
def dL (l : List Int) : PyData := .list (l.map PyData.int)
theorem shaped_Ls (L : List (List Int)) : SeqAt.shaped (.list (L.map dL)) = true := by
  have h1 : ∀ L : List (List Int), PyData.canLayAll0 (L.map dL) = true := by
    intro L
    induction L with
    | nil => simp [PyData.canLayAll0]
    | cons a r ih => simp [PyData.canLayAll0, dL, PyData.canLay0, PySem.W.ke_canLayAll0, ih]
  have h2 : ∀ L : List (List Int), PyData.depthAll (L.map dL) ≤ 1 := by
    intro L
    induction L with
    | nil => simp [PyData.depthAll]
    | cons a r ih =>
      simp only [List.map_cons, PyData.depthAll, dL, PyData.depth, PySem.W.ke_depthAll]
      omega
  exact shaped_of (by rw [PyData.canLay0]; exact h1 L) (by have := h2 L; simp only [PyData.depth]; omega)
/-- (a colour, (pairs)) -/
def dF (c : Nat) (fl : List (Nat × Nat)) : PyData := .tuple [.int c, .tuple (dTs (fl.map pairI))]
theorem eqv_F (c c' : Nat) (fl fl' : List (Nat × Nat)) : PyData.eqv (dF c fl) (dF c' fl') = decide (c = c' ∧ fl = fl') := by
  unfold dF
  simp only [PyData.eqv, PyData.eqvAll, Bool.and_true]
  rw [eqv_Ts]
  have e : (fl.map pairI = fl'.map pairI) ↔ fl = fl' := ⟨fun h => map_inj (fun a b => pairI_inj) h, fun h => by rw [h]⟩
  have e2 : ((c : Int) == (c' : Int)) = decide (c = c') := by
    by_cases h : c = c'
    · simp [h]
    · have : ¬ (c : Int) = (c' : Int) := by omega
      simp [h, this]
  rw [e2]
  by_cases h1 : c = c' <;> by_cases h2 : fl = fl' <;> simp [h1, h2, e]
theorem shaped_F (c : Nat) (fl : List (Nat × Nat)) : SeqAt.shaped (dF c fl) = true := by
  have h := depth_Ts (fl.map pairI)
  refine shaped_of ?_ ?_
  · unfold dF
    simp [PyData.canLay0, PyData.canLayAll0, lay_Ts]
  · unfold dF
    simp only [PyData.depth, PyData.depthAll]
    omega
section
variable {K : PySem.W.Frag} {H : Hp}
theorem dp_ints : ∀ l : List Int, DpAll K H (l.map V.int) (l.map PyData.int)
  | [] => .nil
  | a :: r => .cons (.int a) (dp_ints r)
theorem dp_T {t : Addr} {l : List Int} (h : H t = some (.tup (l.map V.int))) : Dp K H (.ref t) (dT l) := .tup (st_of h) (dp_ints l)
theorem dp_Ks : ∀ (ks : List (Addr × List Int)), (∀ p ∈ ks, H p.1 = some (.tup (p.2.map V.int))) → DpAll K H (ks.map fun p => V.ref p.1) (dTs (ks.map (·.2)))
  | [], _ => .nil
  | k :: r, h => .cons (dp_T (h k List.mem_cons_self)) (dp_Ks r fun p hp => h p (List.mem_cons_of_mem _ hp))
theorem dp_LT {a : Addr} {L : List (List Int)} (h : LT H a L) : Dp K H (.ref a) (.list (dTs L)) := by
  obtain ⟨ks, h1, h2, h3⟩ := h
  subst h2
  exact .lst (sq_of h1) (dp_Ks ks h3)
theorem dp_L {a : Addr} {l : List Int} (h : H a = some (.lst (l.map V.int))) : Dp K H (.ref a) (dL l) := .lst (sq_of h) (dp_ints l)
theorem dp_vN {a : Addr} {l : List Nat} (h : H a = some (.lst (vN l))) : Dp K H (.ref a) (dL (l.map fun (n : Nat) => (n : Int))) := dp_L (by rw [h, vN_int])
theorem dp_nil {a : Addr} (h : H a = some (.lst [])) : Dp K H (.ref a) (.list []) := .lst (sq_of h) .nil
end
theorem rv_neD {K : PySem.W.Frag} {H : Hp} {t u : Addr} {l m : List Int} (h1 : H t = some (.tup (l.map V.int))) (h2 : H u = some (.tup (m.map V.int))) : RV (rNeD K) (.ref t) (.ref u) H (.bl (!PyData.eqv (dT l) (dT m))) :=
  fun H1 e Q k => ⟨dT l, dT m, dp_T (e _ _ h1), dp_T (e _ _ h2), shaped_T l, shaped_T m, k H1 (Ex.refl _)⟩
/-- (a colour, (pairs)) in the heap -/
def FolAt (H : Hp) (v : V) (x : Nat × List (Nat × Nat)) : Prop := ∃ (t u : Addr) (ks : List (Addr × List Int)), v = .ref t ∧ H t = some (.tup [.int (x.1 : Int), .ref u]) ∧ H u = some (.tup (ks.map fun p => V.ref p.1)) ∧ ks.map (·.2) = x.2.map pairI ∧ ∀ p ∈ ks, H p.1 = some (.tup (p.2.map V.int))
theorem FolAt.mono {H H' : Hp} {v : V} {x : Nat × List (Nat × Nat)} (e : Ex H H') (h : FolAt H v x) : FolAt H' v x := by
  obtain ⟨t, u, ks, h1, h2, h3, h4, h5⟩ := h
  exact ⟨t, u, ks, h1, e _ _ h2, e _ _ h3, h4, fun p hp => e _ _ (h5 p hp)⟩
theorem FolAt.upd {H : Hp} {v : V} {x : Nat × List (Nat × Nat)} {D : Addr} {o : HO} (hd : ∀ ys, H D ≠ some (.tup ys)) (h : FolAt H v x) : FolAt (L2.upd H D o) v x := by
  obtain ⟨t, u, ks, h1, h2, h3, h4, h5⟩ := h
  exact ⟨t, u, ks, h1, tup_upd h2 hd, tup_upd h3 hd, h4, fun p hp => tup_upd (h5 p hp) hd⟩
theorem FolAt.dp {K : PySem.W.Frag} {H : Hp} {v : V} {x : Nat × List (Nat × Nat)} (h : FolAt H v x) : Dp K H v (dF x.1 x.2) := by
  obtain ⟨t, u, ks, h1, h2, h3, h4, h5⟩ := h
  subst h1
  have z := dp_Ks (K := K) ks h5
  rw [h4] at z
  exact .tup (st_of h2) (.cons (.int _) (.cons (.tup (st_of h3) z) .nil))
/-! as a key -/
def kT (l : List Int) : NestedKey := .tup (l.map .num)
def kF (x : Nat × List (Nat × Nat)) : NestedKey := .tup [.num x.1, .tup ((x.2.map pairI).map kT)]
theorem num_inj : ∀ {l m : List Int}, l.map NestedKey.num = m.map NestedKey.num → l = m
  | [], [], _ => rfl
  | [], _ :: _, h => by cases h
  | _ :: _, [], h => by cases h
  | a :: r, b :: t, h => by
    injection h with h1 h2
    injection h1 with h1
    rw [h1, num_inj h2]
theorem kT_inj {l m : List Int} (h : kT l = kT m) : l = m := by
  unfold kT at h
  injection h with h
  exact num_inj h
theorem kF_inj {x y : Nat × List (Nat × Nat)} (h : kF x = kF y) : x = y := by
  unfold kF at h
  injection h with h
  injection h with h1 h2
  injection h1 with h1
  injection h2 with h2 _
  injection h2 with h2
  have e : x.2.map pairI = y.2.map pairI := map_inj (fun a b => kT_inj) h2
  have e2 : x.2 = y.2 := map_inj (fun a b => pairI_inj) e
  exact Prod.ext (by omega) e2
section
variable {K : PySem.W.Frag} {H : Hp}
theorem kn_ints : ∀ l : List Int, LkN.KeyNs K H (l.map V.int) (l.map .num)
  | [] => .nil
  | a :: r => .cons (.num a) (kn_ints r)
theorem kn_Ks : ∀ (ks : List (Addr × List Int)), (∀ p ∈ ks, H p.1 = some (.tup (p.2.map V.int))) → LkN.KeyNs K H (ks.map fun p => V.ref p.1) ((ks.map (·.2)).map kT)
  | [], _ => .nil
  | k :: r, h => .cons (.tup (st_of (h k List.mem_cons_self)) (kn_ints _)) (kn_Ks r fun p hp => h p (List.mem_cons_of_mem _ hp))
theorem FolAt.key {v : V} {x : Nat × List (Nat × Nat)} (h : FolAt H v x) : LkN.KeyN K H v (kF x) := by
  obtain ⟨t, u, ks, h1, h2, h3, h4, h5⟩ := h
  subst h1
  have z := kn_Ks (K := K) ks h5
  rw [h4] at z
  exact .tup (st_of h2) (.cons (.num _) (.cons (.tup (st_of h3) z) .nil))
end
end LkW
end

section
set_option Elab.async false
set_option linter.all false
set_option maxRecDepth 100000
set_option maxHeartbeats 2000000
/-! Systems: the walks. -/
namespace LkW
open PySem PySem.Spec PyProof.Rows L2 Evl Lk
open Ln (Sys Arc)

/-! ### sorting by codes -/
theorem sort_enc {α : Type} (enc : α → List Int) (dec : List Int → α) (hd : ∀ a, dec (enc a) = a) (lt : α → α → Prop) (hlt : ∀ a b, enc a ≤ enc b → a ≠ b → lt a b) {ks : List (Addr × List Int)} {l : List α} (h : (ks.map (·.2)).Perm (l.map enc)) (nd : l.Nodup) :
    ∃ m : List α, (ks.mergeSort LkS.leT).map (·.2) = m.map enc ∧ m.Pairwise lt ∧ ∀ x, x ∈ m ↔ x ∈ l := by
  have pm : ((ks.mergeSort LkS.leT).map (·.2)).Perm (l.map enc) := ((List.mergeSort_perm ks LkS.leT).map _).trans h
  have em : (((ks.mergeSort LkS.leT).map (·.2)).map dec).map enc = (ks.mergeSort LkS.leT).map (·.2) := by
    rw [List.map_map]
    conv => rhs; rw [← List.map_id ((ks.mergeSort LkS.leT).map (·.2))]
    apply List.map_congr_left
    intro x hx
    obtain ⟨a, _, rfl⟩ := List.mem_map.mp (pm.mem_iff.mp hx)
    simp [hd]
  have pl : (((ks.mergeSort LkS.leT).map (·.2)).map dec).Perm l := by
    have := pm.map dec
    have ei : (l.map enc).map dec = l := by
      rw [List.map_map, show dec ∘ enc = id from funext hd, List.map_id]
    rw [ei] at this
    exact this
  refine ⟨((ks.mergeSort LkS.leT).map (·.2)).map dec, em.symm, ?_, fun x => pl.mem_iff⟩
  have srt : (ks.mergeSort LkS.leT).Pairwise (fun p q => LkS.leT p q = true) := List.pairwise_mergeSort (fun a b c h1 h2 => by
      have h1 : a.2 ≤ b.2 := of_decide_eq_true h1
      have h2 : b.2 ≤ c.2 := of_decide_eq_true h2
      exact decide_eq_true (List.le_trans h1 h2)) (fun a b => by
      rcases List.le_total a.2 b.2 with h | h
      · simp [LkS.leT, h]
      · simp [LkS.leT, h]) ks
  have nd2 : (((ks.mergeSort LkS.leT).map (·.2)).map dec).Nodup := pl.nodup_iff.mpr nd
  have le2 : (((ks.mergeSort LkS.leT).map (·.2)).map dec).Pairwise (fun a b => enc a ≤ enc b) := by
    rw [← List.pairwise_map (f := enc) (R := fun a b => a ≤ b), em, List.pairwise_map]
    exact srt.imp fun {p q} h => of_decide_eq_true h
  exact List.Pairwise.imp₂ (fun a b h1 h2 => hlt a b h1 h2) le2 nd2
theorem list_le_cons {a b : Int} {l m : List Int} (h : a :: l ≤ b :: m) : a < b ∨ (a = b ∧ l ≤ m) := by
  rcases List.le_iff_lt_or_eq.mp h with h | h
  · rcases List.cons_lt_cons_iff.mp h with h | ⟨h1, h2⟩
    · exact .inl h
    · exact .inr ⟨h1, List.le_of_lt h2⟩
  · injection h with h1 h2
    exact .inr ⟨h1, h2 ▸ List.le_refl _⟩
theorem arc_lt_of {a b : Arc} (h : arcI a ≤ arcI b) (hne : a ≠ b) : arcLt a b := by
  unfold arcLt
  have ne : ¬ (a.1 = b.1 ∧ a.2.1 = b.2.1 ∧ a.2.2 = b.2.2) := fun z => hne (Prod.ext z.1 (Prod.ext z.2.1 z.2.2))
  rcases list_le_cons h with h | ⟨h1, h⟩
  · omega
  rcases list_le_cons h with h | ⟨h2, h⟩
  · omega
  rcases list_le_cons h with h | ⟨h3, h⟩ <;> omega
theorem pair_lt_of {a b : Nat × Nat} (h : pairI a ≤ pairI b) (hne : a ≠ b) : pairLt a b := by
  unfold pairLt
  have ne : ¬ (a.1 = b.1 ∧ a.2 = b.2) := fun z => hne (Prod.ext z.1 z.2)
  rcases list_le_cons h with h | ⟨h1, h⟩
  · omega
  rcases list_le_cons h with h | ⟨h2, h⟩ <;> omega
def decA (l : List Int) : Arc := ((l.getD 0 0).toNat, (l.getD 1 0).toNat, (l.getD 2 0).toNat)
theorem decA_enc (a : Arc) : decA (arcI a) = a := rfl
def decP (l : List Int) : Nat × Nat := ((l.getD 0 0).toNat, (l.getD 1 0).toNat)
theorem decP_enc (a : Nat × Nat) : decP (pairI a) = a := rfl

section
variable {K : PySem.W.Frag} {σ : L2.St} {H H' : Hp} {ta tb te : TE} {xs ys : List V}
theorem el_cat (ha : EvL ta σ H xs) (hb : EvL tb σ H ys) (hz : xs.length + ys.length ≤ 100000) : EvL (tOp rCat ta tb) σ H (xs ++ ys) :=
  fun H1 e Q k => ha H1 e _ fun p H2 n e2 hp => hb H2 (e.trans e2) _ fun q H3 n3 e3 hq => ⟨p, q, xs, ys, rfl, rfl, e3 _ _ hp, hq, sz_of hz, fun r hr => k r _ (fresh_back (e2.trans e3) hr) ((e2.trans e3).trans (Ex.new hr)) upd_same⟩
theorem el_catV {a : Addr} (ha : Ev ta σ H (.ref a)) (h : H a = some (.lst xs)) (hb : EvL tb σ H ys) (hz : xs.length + ys.length ≤ 100000) : EvL (tOp rCat ta tb) σ H (xs ++ ys) :=
  fun H1 e Q k => ha H1 e _ fun H2 e2 => hb H2 (e.trans e2) _ fun q H3 n3 e3 hq => ⟨a, q, xs, ys, rfl, rfl, e3 _ _ (e2 _ _ (e _ _ h)), hq, sz_of hz, fun r hr => k r _ (fresh_back (e2.trans e3) hr) ((e2.trans e3).trans (Ex.new hr)) upd_same⟩
theorem el_catR {b : Addr} (ha : EvL ta σ H xs) (hb : Ev tb σ H (.ref b)) (h : H b = some (.lst ys)) (hz : xs.length + ys.length ≤ 100000) : EvL (tOp rCat ta tb) σ H (xs ++ ys) :=
  fun H1 e Q k => ha H1 e _ fun p H2 n e2 hp => hb H2 (e.trans e2) _ fun H3 e3 => ⟨p, b, xs, ys, rfl, rfl, e3 _ _ hp, e3 _ _ (e2 _ _ (e _ _ h)), sz_of hz, fun r hr => k r _ (fresh_back (e2.trans e3) hr) ((e2.trans e3).trans (Ex.new hr)) upd_same⟩
end
theorem add0 (i j : Int) : RV (fun x y H Q => ∃ i j, x = V.int i ∧ y = V.int j ∧ Q (.int (i + j)) H) (.int i) (.int j) H (.int (i + j)) := rv_I0

section
variable {P : Program} {w : World} {K : PySem.W.Frag} {mg : Str → Option Value} {base : Heap} (T : Txt K mg)

def spSInit (C : Addr) : Sp := fun vs H Q _ => ∃ (p dx : Addr) (c a : V), vs = [.ref p, c, a] ∧ H p = some (.ins C dx []) ∧ ∀ H' : Hp, H' p = some (.ins C dx (sysF c a)) → (∀ b o, H b = some o → b ≠ p → H' b = some o) → Q .non H'
theorem ok_System_init0 : FnOk P w K mg base CX0 1 T.System_init0.f T.System_init0.fd ["self", "colours", "arcs"] (spSInit T.cSystem.C) := by
  refine T.System_init0.F.ok sc_System_init0 (fun vs H Q E h => ?_) (fun cdv A outer s H vs Q E hr h => ⟨_, (pss_cons (ps_fld (pv 0) (pv 1) (by rfl)) (pss_one (ps_fld (pv 0) (pv 2) (by rfl)))), ?_⟩)
  · obtain ⟨p, dx, c, a, rfl, _⟩ := h
    rfl
  · obtain ⟨p, dx, c, a, rfl, hp, k⟩ := h
    refine ⟨_, rfl, _, rfl, p, _, dx, [], rfl, hp, T.cSystem.cl, T.nSystem_colours, (by show 0 < 1000; decide), ?_⟩
    refine ⟨_, rfl, _, rfl, p, _, dx, _, rfl, upd_same, T.cSystem.cl, T.nSystem_arcs, (by show 1 < 1000; decide), ?_⟩
    refine k _ (Eq.trans upd_same (congrArg (fun q => some (HO.ins T.cSystem.C dx q)) ((put_past (by decide +kernel)).trans rfl))) fun b o e hb => by
      rw [upd_ne hb, upd_ne hb]
      exact e
theorem make_sys {C : Addr} {H1 : Hp} {S : Sys} {c a : Addr} {Q : VK} {E : XK} (hc : H1 c = some (.lst (vN S.colours))) (ha : LT H1 a (S.arcs.map arcI)) (k : ∀ x H2, H1 x = none → Ex H1 H2 → SysAt C H2 x S → Q (.ref x) H2) :
    ∀ x dx, H1 x = none → H1 dx = none → dx ≠ x → spSInit C (.ref x :: ([.ref c, .ref a] ++ [])) (upd (upd H1 dx (.own x)) x (.ins C dx [])) (fun v H2 => v = .non ∧ Q (.ref x) H2) E := by
  intro x dx nx nd ne
  refine ⟨x, dx, .ref c, .ref a, rfl, upd_same, fun H' h1 h2 => ⟨rfl, ?_⟩⟩
  have e : Ex H1 H' := Same.made nx nd h2
  exact k x H' nx e ⟨dx, c, a, h1, e _ _ hc, ha.mono e⟩

theorem lst_is {te : TE} {σ : L2.St} {H : Hp} {xs ys : List V} (h : EvP te σ H (Lst xs)) (e : xs = ys) : EvP te σ H (Lst ys) := e ▸ h
theorem cutV_to {xs : List V} {s : Nat} (h : s ≤ xs.length) : cutV xs none (some (s : Int)) = xs.take s := by
  unfold cutV
  rw [HT.sIx_none, HT.sIx_nat, List.drop_zero, Nat.min_eq_left h, Nat.sub_zero]
theorem cutV_from {xs : List V} {s : Nat} (h : s ≤ xs.length) : cutV xs (some (s : Int)) none = xs.drop s := by
  unfold cutV
  rw [HT.sIx_none, HT.sIx_nat, Nat.min_eq_left h]
  exact List.take_of_length_le (by rw [List.length_drop]; exact Nat.le_refl _)
theorem cut_set {l : List Nat} {s c : Nat} (h : s < l.length) : cutV (vN l) none (some (s : Int)) ++ [V.int (c : Int)] ++ cutV (vN l) (some ((s : Int) + 1)) none = vN (l.set s c) := by
  have e : ((s : Int) + 1) = ((s + 1 : Nat) : Int) := rfl
  rw [e, cutV_to (by rw [vN_len]; omega), cutV_from (by rw [vN_len]; omega)]
  unfold vN
  rw [← List.map_take, ← List.map_drop, List.set_eq_take_append_cons_drop, if_pos h]
  simp
def SysG (C : Addr) (S : Sys) : V → Hp → Prop := fun v H => ∃ p, v = .ref p ∧ SysAt C H p S
section
variable {T} {σ : L2.St} {H : Hp} {te : TE} {p : Addr} {S : Sys}
theorem lk_col (c a : V) : (sysF c a).lookup ("colours" : Str) = some c := lk_here
theorem lk_arc (c a : V) : (sysF c a).lookup ("arcs" : Str) = some a := (lk_past (by decide +kernel)).trans lk_here
theorem ev_col {dx c a : Addr} (h : Ev te σ H (.ref p)) (hp : H p = some (.ins T.cSystem.C dx (sysF (.ref c) (.ref a)))) : Ev (tFld K te "colours") σ H (.ref c) := ev_fld h hp T.cSystem.cl T.nSystem_colours (lk_col _ _)
theorem ev_arc {dx c a : Addr} (h : Ev te σ H (.ref p)) (hp : H p = some (.ins T.cSystem.C dx (sysF (.ref c) (.ref a)))) : Ev (tFld K te "arcs") σ H (.ref a) := ev_fld h hp T.cSystem.cl T.nSystem_arcs (lk_arc _ _)
end

theorem evp_sys {C : Addr} {σ : L2.St} {H : Hp} {S : Sys} {t1 t2 : TE} (h1 : EvP t1 σ H (Lst (vN S.colours))) (h2 : EvP t2 σ H (Lts (S.arcs.map arcI))) : EvP (tMake C (spSInit C) [] E0 (tCons t1 (tCons t2 tNil))) σ H (SysG C S) :=
  fun H1 e Q k => h1 H1 e _ fun v H2 e2 ⟨c, ev, hc⟩ => h2 H2 (e.trans e2) _ fun u H3 e3 ⟨a, eu, ha⟩ => by
    subst ev
    subst eu
    exact make_sys (e3 _ _ hc) ha fun x H4 nx e4 hx => k _ H4 ((e2.trans e3).trans e4) ⟨x, rfl, hx⟩

/-! #### many -/
def spMany (C : Addr) : Sp := fun vs H Q _ => ∃ p S, vs = [.ref p] ∧ SysAt C H p S ∧ Gives H Q (fun v _ => v = .int (S.states : Int))
theorem ok_System_many : FnOk P w K mg base CX0 1 T.System_many.f T.System_many.fd ["self"] (spMany T.cSystem.C) := by
  refine T.System_many.F.ok sc_System_many (fun vs H Q E h => ?_) (fun cdv A outer s H vs Q E hr h => ⟨_, (pss_one (ps_ret (pe_callB call_len_seq (by rfl) T.g_len (by decide +kernel) (pa_cons (pe_fld (pv 0) (by rfl)) pa_nil)))), ?_⟩)
  · obtain ⟨p, S, rfl, _⟩ := h
    rfl
  · obtain ⟨p, S, rfl, ⟨dx, c, a, h1, h2, h3⟩, k⟩ := h
    refine s_retP (evp (ev_len (ev_col (ev_var rfl) h1) (sq_of h2))) fun v H1 e1 q => k v H1 e1 ?_
    rw [q, vN_len]
    rfl
theorem sp_many {C : Addr} {H : Hp} {p : Addr} {S : Sys} (h : SysAt C H p S) : SpP (spMany C) [.ref p] H (fun v _ => v = .int (S.states : Int)) := fun H1 e Q E k => ⟨p, S, rfl, h.mono e, k⟩
theorem many_none (c a : V) : (sysF c a).lookup ("many" : Str) = none := (lk_past (by decide +kernel)).trans ((lk_past (by decide +kernel)).trans rfl)

/-! #### painted -/
def spPainted (C : Addr) : Sp := fun vs H Q _ => ∃ p S s c, vs = [.ref p, .int (s : Nat), .int (c : Nat)] ∧ SysAt C H p S ∧ s < S.states ∧ S.states ≤ 1000 ∧ Gives H Q (SysG C { S with colours := S.colours.set s c })
theorem ok_System_painted : FnOk P w K mg base CX0 3 T.System_painted.f T.System_painted.fd ["self", "state", "colour"] (spPainted T.cSystem.C) := by
  have G_System_init0 := ok_System_init0 (P := P) (w := w) (base := base) T
  refine T.System_painted.F.ok sc_System_painted (fun vs H Q E h => ?_) (fun cdv A outer s H vs Q E hr h => ⟨_, (pss_one (ps_ret (pe_make T.mk_System G_System_init0 (hr.mono (by first | decide | omega)) (by rfl) T.cSystem.g T.b_System_init0 .nil pass0 (pa_cons (pe_op op_cat (pe_op op_cat (pe_slice sl_list (pe_fld (pv 0) (by rfl)) po_none (po_some (pv 1))) (pe_lst (pa_cons (pv 2) pa_nil))) (pe_slice sl_list (pe_fld (pv 0) (by rfl)) (po_some (pe_op op_add (pv 1) pe_int)) po_none)) (pa_cons (pe_fld (pv 0) (by rfl)) pa_nil))))), ?_⟩)
  · obtain ⟨p, S, s, c, rfl, _⟩ := h
    rfl
  · obtain ⟨p, S, s, c, rfl, ⟨dx, ca, aa, h1, h2, h3⟩, hs, hm, k⟩ := h
    have hl : (vN S.colours).length = S.states := vN_len _
    refine s_retP (evp_sys (S := { S with colours := S.colours.set s c }) (lst_is (lst_l (el_cat (el_cat (el_sl (ev_col (ev_var rfl) h1) eo_none (eo_some (ev_var rfl)) (sq_of h2)) (el_lst (ea_cons (ev_var rfl) ea_nil) (by simp)) ?_)
      (el_sl (ev_col (ev_var rfl) h1) (eo_some (ev_op (ev_var rfl) ev_c rv_I0)) eo_none (sq_of h2)) ?_)) ?_) (lts_v (ev_arc (ev_var rfl) h1) h3)) fun v H1 e1 q => k v H1 e1 q
    · have := cutV_length (vN S.colours) none (some (s : Int))
      simp
      omega
    · have := cutV_length (vN S.colours) none (some (s : Int))
      have := cutV_length (vN S.colours) (some ((s : Int) + 1)) none
      simp
      omega
    · exact cut_set hs
end
end LkW
end

section
set_option Elab.async false
set_option linter.all false
set_option maxRecDepth 100000
set_option maxHeartbeats 2000000
/-! Systems: arcs. -/
namespace LkW
open PySem PySem.Spec PyProof.Rows L2 Evl Lk
open Ln (Sys Arc)

theorem rfm {α β : Type} (l : List α) (d : α) (g : α → Bool) (h : α → β) : ((List.range l.length).filter fun i => g (l.getD i d)).map (fun i => h (l.getD i d)) = (l.filter g).map h := by
  have e : l = (List.range l.length).map fun i => l.getD i d := by
    apply List.ext_getElem
    · simp
    · intro i h1 h2
      simp only [List.getElem_map, List.getElem_range]
      exact (getD_lt l i d h1).symm
  conv => rhs; rw [e, List.filter_map, List.map_map]
  rfl
section
variable {K : PySem.W.Frag} {P : Program} {w : World} {σ : L2.St} {H : Hp} {te ta tb : TE}
/-- over a list of tuples -/
theorem el_lcT {L : List (List Int)} {g : TG} {tt : TT} {vs : List Nat} {tl : TE} (f : Nat → Bool) (Pv : Nat → V → Hp → Prop) (hP : Stays Pv) (h : EvP tl σ H (Lts L)) (hz : L.length ≤ 40000)
    (ht : ∀ i x t H1, Ex H H1 → L[i]? = some x → H1 t = some (.tup (x.map V.int)) → Turn σ H1 g tt te vs f Pv i (.ref t)) : ElP (tLc (iList K tl) g tt te vs) σ H (fun ys H2 => GivP f Pv H2 L.length ys) :=
  fun H1 e Q k => h H1 e _ fun v H2 e2 ⟨a, ev, ks, h1, h2, h3⟩ => by
    have e12 := e.trans e2
    subst ev
    subst h2
    have hx : SqL K H2 a (ks.map fun p => V.ref p.1) := sq_of h1
    have len : (ks.map fun p => V.ref p.1).length = (ks.map (·.2)).length := by rw [List.length_map, List.length_map]
    refine ⟨a, rfl, ⟨_, hx⟩, lc_any (J := Itl K a) (H := H2) (n := (ks.map (·.2)).length) (Item := fun i x _ => (ks.map fun p => V.ref p.1)[i]? = some x) f Pv hP hz (fun i H3 e3 hi => ?_) (fun i H3 e3 hi => ⟨_, ex_l e3 hx, by rw [len]; exact hi⟩)
      (fun i H3 x H4 e3 hi y => ?_) (fun i x H3 e3 hi it => ?_) (fun p ys H3 n3 e3 hp3 q => k p ys H3 (fresh_back e2 n3) (e2.trans e3) hp3 q)⟩
    · have hi' : i < (ks.map fun p => V.ref p.1).length := by rw [len]; exact hi
      exact ⟨_, _, ex_l e3 hx, List.getElem?_eq_getElem hi'⟩
    · obtain ⟨rfl, y⟩ := y
      exact ⟨Ex.refl _, y _ (ex_l e3 hx)⟩
    · have hi' : i < ks.length := by rw [List.length_map] at hi; exact hi
      have it' : (ks.map fun p => V.ref p.1)[i]? = some x := it
      rw [List.getElem?_map, List.getElem?_eq_getElem hi'] at it'
      have ex : V.ref ks[i].1 = x := Option.some.inj it'
      rw [← ex]
      exact ht i ks[i].2 ks[i].1 H3 (e12.trans e3) (by rw [List.getElem?_map, List.getElem?_eq_getElem hi']; rfl) (e3 _ _ (h3 _ (List.getElem_mem hi')))
/-- a comprehension that makes tuples -/
theorem lts_giv {L : List (List Int)} {n : Nat} {f : Nat → Bool} {w : Nat → List Int} (h : ElP te σ H (fun ys H2 => GivP f (fun i y H => ∃ t, y = V.ref t ∧ H t = some (.tup ((w i).map V.int))) H2 n ys)) (e : ((List.range n).filter f).map w = L) : EvP te σ H (Lts L) :=
  fun H1 e1 Q k => h H1 e1 Q fun p ys H2 n e2 hp g => by
    obtain ⟨ks, h1, h2, h3⟩ := g.tups
    exact k (.ref p) H2 e2 ⟨p, rfl, ks, by rw [hp, h1], h2.trans e, h3⟩
theorem evp_sortLB {α : Type} {enc : α → List Int} (dec : List Int → α) (hd : ∀ a, dec (enc a) = a) (lt : α → α → Prop) (hlt : ∀ a b, enc a ≤ enc b → a ≠ b → lt a b) (tr : ∀ a b c : α, lt a b → lt b c → lt a c) (ir : ∀ a, ¬ lt a a) (ne : ∀ a, enc a ≠ [])
    {l m : List α} (h : EvP te σ H (Lts (l.map enc))) (nd : l.Nodup) (few : l.length ≤ 1000) (hm : m.Pairwise lt) (hx : ∀ x, x ∈ m ↔ x ∈ l) : EvP (tCB (LkS.rSortLB K) (tCons te tNil)) σ H (Lts (m.map enc)) :=
  fun H1 e Q k => h H1 e _ fun v H2 e2 ⟨a, ev, ks, h1, h2, h3⟩ => by
    subst ev
    obtain ⟨m', s1, s2, s3⟩ := sort_enc enc dec hd lt hlt (ks := ks) (l := l) (by rw [h2]) nd
    have em : m' = m := rising_unique tr ir s2 hm fun x => (s3 x).trans (hx x).symm
    have hl : ks.length = l.length := by
      have := congrArg List.length h2
      simpa using this
    refine ⟨a, ks, rfl, sq_of h1, fun p hp => ⟨st_of (h3 p hp), fun z => ?_⟩, by omega, fun p np => k _ _ (e2.trans (Ex.new np)) ⟨p, rfl, ks.mergeSort LkS.leT, upd_same, by rw [s1, em], fun q hq => ?_⟩⟩
    · have : p.2 ∈ ks.map (·.2) := List.mem_map.mpr ⟨p, hp, rfl⟩
      rw [h2] at this
      obtain ⟨x, _, hx⟩ := List.mem_map.mp this
      exact ne x (hx.trans z)
    · have hq' : q ∈ ks := (List.mergeSort_perm ks LkS.leT).mem_iff.mp hq
      exact Ex.new np _ _ (h3 q hq')
theorem evp_setsort {α : Type} {enc : α → List Int} (dec : List Int → α) (hd : ∀ a, dec (enc a) = a) (lt : α → α → Prop) (hlt : ∀ a b, enc a ≤ enc b → a ≠ b → lt a b) (tr : ∀ a b c : α, lt a b → lt b c → lt a c) (ir : ∀ a, ¬ lt a a) (ne : ∀ a, enc a ≠ [])
    {l m : List α} (h : EvP te σ H (Lts (l.map enc))) (few : l.length ≤ 300) (hm : m.Pairwise lt) (hx : ∀ x, x ∈ m ↔ x ∈ l) : EvP (tCB (LkS.rSortSB K P w) (tCons (tCB (LkS.rSetB K P w) (tCons te tNil)) tNil)) σ H (Lts (m.map enc)) :=
  fun H1 e Q k => h H1 e _ fun v H2 e2 ⟨a, ev, ks, h1, h2, h3⟩ => by
    subst ev
    have hl : ks.length = l.length := by
      have := congrArg List.length h2
      simpa using this
    refine ⟨a, ks, rfl, sq_of h1, fun p hp => st_of (h3 p hp), by omega, fun b L nb sub all nd => ?_⟩
    have h3' : ∀ p ∈ L, (upd H2 b (LkS.SetBO P w b L)) p.1 = some (.tup (p.2.map V.int)) := fun p hp => Ex.new nb _ _ (h3 p (sub p hp))
    refine ⟨b, L, rfl, upd_same, fun p hp => ⟨st_of (h3' p hp), fun z => ?_⟩, fun L' p pm np => ?_⟩
    · have : p.2 ∈ ks.map (·.2) := List.mem_map.mpr ⟨p, sub p hp, rfl⟩
      rw [h2] at this
      obtain ⟨x, _, hx⟩ := List.mem_map.mp this
      exact ne x (hx.trans z)
    · -- what is in the set, decoded
      have in1 : ∀ y, y ∈ L.map (·.2) ↔ y ∈ l.map enc := fun y => by
        rw [← h2]
        constructor
        · intro hy
          obtain ⟨q, hq, rfl⟩ := List.mem_map.mp hy
          exact List.mem_map.mpr ⟨q, sub q hq, rfl⟩
        · intro hy
          obtain ⟨q, hq, rfl⟩ := List.mem_map.mp hy
          exact all q hq
      have em : ((L.map (·.2)).map dec).map enc = L.map (·.2) := by
        rw [List.map_map]
        conv => rhs; rw [← List.map_id (L.map (·.2))]
        apply List.map_congr_left
        intro x hx
        obtain ⟨a, _, rfl⟩ := List.mem_map.mp ((in1 x).mp hx)
        simp [hd]
      have nd' : ((L.map (·.2)).map dec).Nodup := by
        have : (((L.map (·.2)).map dec).map enc).Nodup := by rw [em]; exact nd
        exact List.Pairwise.imp (fun {a b} h z => h (by rw [z])) (List.pairwise_map.mp this)
      have in2 : ∀ x, x ∈ (L.map (·.2)).map dec ↔ x ∈ l := fun x => by
        constructor
        · intro hx
          obtain ⟨y, hy, rfl⟩ := List.mem_map.mp hx
          obtain ⟨a, ha, rfl⟩ := List.mem_map.mp ((in1 y).mp hy)
          rw [hd]
          exact ha
        · intro hx
          exact List.mem_map.mpr ⟨enc x, (in1 _).mpr (List.mem_map.mpr ⟨x, hx, rfl⟩), hd x⟩
      obtain ⟨m', s1, s2, s3⟩ := sort_enc enc dec hd lt hlt (ks := L') (l := (L.map (·.2)).map dec) (by rw [em]; exact pm.map _) nd'
      have e' : m' = m := rising_unique tr ir s2 hm fun x => ((s3 x).trans (in2 x)).trans (hx x).symm
      refine k _ _ ((e2.trans (Ex.new nb)).trans (Ex.new np)) ⟨p, rfl, L'.mergeSort LkS.leT, upd_same, by rw [s1, e'], fun q hq => ?_⟩
      have hq' : q ∈ L := pm.mem_iff.mp ((List.mergeSort_perm L' LkS.leT).mem_iff.mp hq)
      exact Ex.new np _ _ (h3' q hq')
theorem evp_catT {L : List (List Int)} {x : List Int} {t : Addr} (h1 : EvP ta σ H (Lts L)) (hb : EvL tb σ H [.ref t]) (ht : H t = some (.tup (x.map V.int))) (hz : L.length ≤ 1000) : EvP (tOp rCat ta tb) σ H (Lts (L ++ [x])) :=
  fun H1 e Q k => h1 H1 e _ fun v H2 e2 ⟨a, ev, ks, k1, k2, k3⟩ => hb H2 (e.trans e2) _ fun q H3 n3 e3 hq => by
    subst ev
    have hl : ks.length = L.length := by
      have := congrArg List.length k2
      simpa using this
    refine ⟨a, q, _, _, rfl, rfl, e3 _ _ k1, hq, sz_of (by simp; omega), fun r hr => k _ _ ((e2.trans e3).trans (Ex.new hr)) ⟨r, rfl, ks ++ [(t, x)], ?_, ?_, fun p hp => ?_⟩⟩
    · rw [upd_same, List.map_append]
      rfl
    · rw [List.map_append, k2]
      rfl
    · rcases List.mem_append.mp hp with h | h
      · exact Ex.new hr _ _ (e3 _ _ (k3 p h))
      · rw [List.mem_singleton.mp h]
        exact Ex.new hr _ _ (e3 _ _ (e2 _ _ (e _ _ ht)))
theorem ev_eqN {a b : Nat} (ha : Ev ta σ H (.int (a : Int))) (hb : Ev tb σ H (.int (b : Int))) : EvT (tTest (tOp rEq ta tb)) σ H (a == b) :=
  et_test (ev_is (ev_op ha hb (rv_eq rfl)) (by
    congr 1
    by_cases h : a = b
    · simp [h]
    · have : ¬ (a : Int) = (b : Int) := by omega
      simp [h, this]))
theorem gtup2 {x y : V} {t : Addr} {i j : Nat} {σ : L2.St} {H : Hp} {Q : L2.St → Hp → Prop} (h : H t = some (.tup [x, y])) (q : Q ((σ.set i (some x)).set j (some y)) H) : gTup K 2 (gCons (gName i) (gCons (gName j) gNil)) (.ref t) σ H Q :=
  ⟨t, _, rfl, st_of h, rfl, x, _, rfl, y, _, rfl, rfl, q⟩
theorem gtup3 {x y z : V} {t : Addr} {i j k : Nat} {σ : L2.St} {H : Hp} {Q : L2.St → Hp → Prop} (h : H t = some (.tup [x, y, z])) (q : Q (((σ.set i (some x)).set j (some y)).set k (some z)) H) : gTup K 3 (gCons (gName i) (gCons (gName j) (gCons (gName k) gNil))) (.ref t) σ H Q :=
  ⟨t, _, rfl, st_of h, rfl, x, _, rfl, y, _, rfl, z, _, rfl, rfl, q⟩
theorem evp_tup {targs : TA} {x : List Int} {w : List V} (h : EvA targs σ H w) (e : w = x.map V.int) (hl : w.length ≤ 1000) : EvP (tTup targs) σ H (fun y H => ∃ t, y = V.ref t ∧ H t = some (.tup (x.map V.int))) :=
  fun H1 e1 Q k => eu_tup h (by omega) H1 e1 Q fun p H2 n e2 hp => k _ H2 e2 ⟨p, rfl, by rw [hp, e]⟩
end

section
variable {P : Program} {w : World} {K : PySem.W.Frag} {mg : Str → Option Value} {base : Heap} (T : Txt K mg)
theorem sysF_none (c a : V) (m : Str) (h1 : (m == ("colours" : Str)) = false := by decide +kernel) (h2 : (m == ("arcs" : Str)) = false := by decide +kernel) : (sysF c a).lookup m = none := (lk_past h1).trans ((lk_past h2).trans rfl)

/-! #### with_arc -/
def spWith (C : Addr) : Sp := fun vs H Q _ => ∃ p t S a, vs = [.ref p, .ref t] ∧ SysAt C H p S ∧ Wf S ∧ H t = some (.tup ((arcI a).map V.int)) ∧ a ∉ S.arcs ∧ Gives H Q (SysG C { S with arcs := Ln.putArc a S.arcs })
theorem ok_System_with_arc : FnOk P w K mg base CX0 3 T.System_with_arc.f T.System_with_arc.fd ["self", "arc"] (spWith T.cSystem.C) := by
  have G_System_init0 := ok_System_init0 (P := P) (w := w) (base := base) T
  refine T.System_with_arc.F.ok sc_System_with_arc (fun vs H Q E h => ?_) (fun cdv A outer s H vs Q E hr h => ⟨_, (pss_one (ps_ret (pe_make T.mk_System G_System_init0 (hr.mono (by first | decide | omega)) (by rfl) T.cSystem.g T.b_System_init0 .nil pass0 (pa_cons (pe_fld (pv 0) (by rfl)) (pa_cons (pe_callB (LkS.cr_sortLB hr.units) (by rfl) T.g_sorted (by decide +kernel) (pa_cons (pe_op op_cat (pe_fld (pv 0) (by rfl)) (pe_lst (pa_cons (pv 1) pa_nil))) pa_nil)) pa_nil))))), ?_⟩)
  · obtain ⟨p, t, S, a, rfl, _⟩ := h
    rfl
  · obtain ⟨p, t, S, a, rfl, ⟨dx, ca, aa, h1, h2, h3⟩, W, ht, ha, k⟩ := h
    refine s_retP (evp_sys (S := { S with arcs := Ln.putArc a S.arcs }) (lst_v (ev_col (ev_var rfl) h1) h2)
      (evp_sortLB (l := S.arcs ++ [a]) decA decA_enc arcLt (fun _ _ => arc_lt_of) (fun _ _ _ => arcLt_trans) arcLt_irrefl (fun a => by simp [arcI]) ?_ ?_ (by have := W.few; simp; omega) (putArc_sorted a _ W.up) (fun x => ?_))) fun v H1 e1 q => k v H1 e1 q
    · rw [List.map_append]
      exact evp_catT (lts_v (ev_arc (ev_var rfl) h1) h3) (el_lst (ea_cons (ev_var rfl) ea_nil) (by simp)) ht (by have := W.few; rw [List.length_map]; omega)
    · refine List.nodup_append.mpr ⟨W.up.imp fun {a b} h z => by subst z; exact arcLt_irrefl _ h, by simp, fun x hx y hy => ?_⟩
      rw [List.mem_singleton.mp hy]
      exact fun z => ha (z ▸ hx)
    · rw [mem_putArc, List.mem_append, List.mem_singleton]
      exact ⟨fun h => h.symm, fun h => h.symm⟩

/-! #### without_arc -/
def spWithout (C : Addr) : Sp := fun vs H Q _ => ∃ p t S a, vs = [.ref p, .ref t] ∧ SysAt C H p S ∧ Wf S ∧ H t = some (.tup ((arcI a).map V.int)) ∧ Gives H Q (SysG C { S with arcs := S.arcs.filter fun (x : Arc) => x != a })
theorem ok_System_without_arc : FnOk P w K mg base CX0 3 T.System_without_arc.f T.System_without_arc.fd ["self", "arc"] (spWithout T.cSystem.C) := by
  have G_System_init0 := ok_System_init0 (P := P) (w := w) (base := base) T
  refine T.System_without_arc.F.ok sc_System_without_arc (fun vs H Q E h => ?_) (fun cdv A outer s H vs Q E hr h => ⟨_, (pss_one (ps_ret (pe_make T.mk_System G_System_init0 (hr.mono (by first | decide | omega)) (by rfl) T.cSystem.g T.b_System_init0 .nil pass0 (pa_cons (pe_fld (pv 0) (by rfl)) (pa_cons (pe_lc (own := [("other", 2)]) (g := gName 2) (tt := tTest (tOp (rNeD K) (tVar 2) (tVar 1))) (by rfl) sc_System_without_arc.nd (pi_list (pe_fld (pv 0) (by rfl))) (blkOk_by (own := [("other", 2)]) (N := n_System_without_arc) (sc := defScope s_System_without_arc) (by decide +kernel)) (fun _ _ _ _ _ => (pg_name (i := 2) sc_System_without_arc.nd rfl (Or.inl rfl))) (fun _ _ _ _ _ => pts_one (pt_cmpR (op_neD hr.units) (pv 2) (pv 1) (nomark _))) (fun _ _ _ _ _ => (pv 2))) pa_nil))))), ?_⟩)
  · obtain ⟨p, t, S, a, rfl, _⟩ := h
    rfl
  · obtain ⟨p, t, S, a, rfl, ⟨dx, ca, aa, h1, h2, h3⟩, W, ht, k⟩ := h
    refine s_retP (evp_sys (S := { S with arcs := S.arcs.filter fun (x : Arc) => x != a }) (lst_v (ev_col (ev_var rfl) h1) h2)
      (lts_giv (el_lcT (L := S.arcs.map arcI) (fun i => S.arcs.getD i (0, 0, 0) != a) (fun i y H => ∃ t, y = V.ref t ∧ H t = some (.tup ((arcI (S.arcs.getD i (0, 0, 0))).map V.int))) stays_tup (lts_v (ev_arc (ev_var rfl) h1) h3) (by have := W.few; rw [List.length_map]; omega) ?_) ?_)) fun v H1 e1 q => k v H1 e1 q
    · intro i x t' H1 e1 hx ht'
      have hi : i < S.arcs.length := by
        rw [List.getElem?_map] at hx
        cases h : S.arcs[i]? with
        | none => rw [h] at hx; cases hx
        | some y => exact (List.getElem?_eq_some_iff.mp h).1
      have ex : x = arcI (S.arcs.getD i (0, 0, 0)) := by
        rw [List.getElem?_map, getD_get (d := (0, 0, 0)) hi] at hx
        exact (Option.some.inj hx).symm
      subst ex
      refine turn_of (fun Q H2 e2 q => q) rfl (et_test (ev_is (ev_op (ev_var rfl) (ev_var rfl) (rv_neD ht' (e1 _ _ ht))) ?_)) (fun _ => EvP.imp (evp (ev_var rfl)) fun v H2 e2 q => ⟨t', q, e2 _ _ ht'⟩)
      congr 1
      rw [eqv_T]
      generalize S.arcs.getD i (0, 0, 0) = y
      by_cases z : y = a
      · subst z
        simp
      · have : ¬ arcI y = arcI a := fun y => z (arcI_inj y)
        simp [z, this]
    · rw [List.length_map]
      exact rfm S.arcs (0, 0, 0) (fun x => x != a) arcI

/-! #### arcs_from -/
def spFrom (C : Addr) : Sp := fun vs H Q _ => ∃ p S s, vs = [.ref p, .int (s : Nat)] ∧ SysAt C H p S ∧ Wf S ∧ Gives H Q (Lts ((S.from_ s).map pairI))
theorem arcs_at {S : Sys} {i : Nat} {x : List Int} (hx : (S.arcs.map arcI)[i]? = some x) : i < S.arcs.length ∧ x = arcI (S.arcs.getD i (0, 0, 0)) := by
  have hi : i < S.arcs.length := by
    rw [List.getElem?_map] at hx
    cases h : S.arcs[i]? with
    | none => rw [h] at hx; cases hx
    | some y => exact (List.getElem?_eq_some_iff.mp h).1
  refine ⟨hi, ?_⟩
  rw [List.getElem?_map, getD_get (d := (0, 0, 0)) hi] at hx
  exact (Option.some.inj hx).symm
theorem ok_System_arcs_from : FnOk P w K mg base CX0 1 T.System_arcs_from.f T.System_arcs_from.fd ["self", "state"] (spFrom T.cSystem.C) := by
  refine T.System_arcs_from.F.ok sc_System_arcs_from (fun vs H Q E h => ?_) (fun cdv A outer s H vs Q E hr h => ⟨_, (pss_one (ps_ret (pe_lc (own := [("begin", 2), ("label", 3), ("to", 4)]) (g := gTup K 3 (gCons (gName 2) (gCons (gName 3) (gCons (gName 4) gNil))))  (by rfl) sc_System_arcs_from.nd (pi_list (pe_fld (pv 0) (by rfl))) (blkOk_by (own := [("begin", 2), ("label", 3), ("to", 4)]) (N := n_System_arcs_from) (sc := defScope s_System_arcs_from) (by decide +kernel)) (fun _ _ _ _ _ => (pg_tup (by rfl) (pgs_cons (pg_name (i := 2) sc_System_arcs_from.nd rfl (Or.inl rfl)) (pgs_cons (pg_name (i := 3) sc_System_arcs_from.nd rfl (Or.inl rfl)) (pgs_cons (pg_name (i := 4) sc_System_arcs_from.nd rfl (Or.inl rfl)) pgs_nil))))) (fun _ _ _ _ _ => pts_one (pt_cmpR op_eq (pv 2) (pv 1) (nomark _))) (fun _ _ _ _ _ => (pe_tup (pa_cons (pv 3) (pa_cons (pv 4) pa_nil))))))), ?_⟩)
  · obtain ⟨p, S, s, rfl, _⟩ := h
    rfl
  · obtain ⟨p, S, s, rfl, ⟨dx, ca, aa, h1, h2, h3⟩, W, k⟩ := h
    refine s_retP (lts_giv (el_lcT (L := S.arcs.map arcI) (fun i => (S.arcs.getD i (0, 0, 0)).1 == s) (fun i y H => ∃ t, y = V.ref t ∧ H t = some (.tup ((pairI (S.arcs.getD i (0, 0, 0)).2).map V.int))) stays_tup (lts_v (ev_arc (ev_var rfl) h1) h3) (by have := W.few; rw [List.length_map]; omega) ?_) ?_) fun v H1 e1 q => k v H1 e1 q
    · intro i x t' H1 e1 hx ht'
      obtain ⟨hi, rfl⟩ := arcs_at hx
      exact turn_of (fun Q H2 e2 q => gtup3 (e2 _ _ ht') q) rfl (ev_eqN (ev_var rfl) (ev_var rfl)) (fun _ => evp_tup (x := pairI (S.arcs.getD i (0, 0, 0)).2) (ea_cons (ev_var rfl) (ea_cons (ev_var rfl) ea_nil)) rfl (by simp))
    · rw [List.length_map]
      unfold Sys.from_
      rw [List.map_map]
      exact rfm S.arcs (0, 0, 0) (fun a => a.1 == s) (fun a => pairI a.2)
theorem sp_from {C : Addr} {H : Hp} {p : Addr} {S : Sys} {s : Nat} (h : SysAt C H p S) (W : Wf S) : SpP (spFrom C) [.ref p, .int (s : Int)] H (Lts ((S.from_ s).map pairI)) := fun H1 e Q E k => ⟨p, S, s, rfl, h.mono e, W, k⟩
theorem from_len {S : Sys} (W : Wf S) (s : Nat) : (S.from_ s).length ≤ 256 := by
  unfold Sys.from_
  rw [List.length_map]
  have := List.length_filter_le (fun (a : Arc) => a.1 == s) S.arcs
  have := W.few
  omega
theorem pairs_at {l : List (Nat × Nat)} {i : Nat} {x : List Int} (hx : (l.map pairI)[i]? = some x) : i < l.length ∧ x = pairI (l.getD i (0, 0)) := by
  have hi : i < l.length := by
    rw [List.getElem?_map] at hx
    cases h : l[i]? with
    | none => rw [h] at hx; cases hx
    | some y => exact (List.getElem?_eq_some_iff.mp h).1
  refine ⟨hi, ?_⟩
  rw [List.getElem?_map, getD_get (d := (0, 0)) hi] at hx
  exact (Option.some.inj hx).symm

/-! #### led_to -/
def spLed (C : Addr) : Sp := fun vs H Q _ => ∃ p S s a, vs = [.ref p, .int (s : Nat), .int (a : Nat)] ∧ SysAt C H p S ∧ Wf S ∧ Gives H Q (Lst (vN (S.by_ s a)))
theorem ok_System_led_to : FnOk P w K mg base CX0 2 T.System_led_to.f T.System_led_to.fd ["self", "state", "label"] (spLed T.cSystem.C) := by
  have G_System_arcs_from := ok_System_arcs_from (P := P) (w := w) (base := base) T
  refine T.System_led_to.F.ok sc_System_led_to (fun vs H Q E h => ?_) (fun cdv A outer s H vs Q E hr h => ⟨_, (pss_one (ps_ret (pe_lc (own := [("own", 3), ("to", 4)]) (g := gTup K 2 (gCons (gName 3) (gCons (gName 4) gNil)))  (by rfl) sc_System_led_to.nd (pi_list (pe_meth (pv 0) T.cSystem.cl T.System_arcs_from.m G_System_arcs_from (hr.mono (by first | decide | omega)) T.b_System_arcs_from .nil pass0 (pa_cons (pv 1) pa_nil))) (blkOk_by (own := [("own", 3), ("to", 4)]) (N := n_System_led_to) (sc := defScope s_System_led_to) (by decide +kernel)) (fun _ _ _ _ _ => (pg_tup (by rfl) (pgs_cons (pg_name (i := 3) sc_System_led_to.nd rfl (Or.inl rfl)) (pgs_cons (pg_name (i := 4) sc_System_led_to.nd rfl (Or.inl rfl)) pgs_nil)))) (fun _ _ _ _ _ => pts_one (pt_cmpR op_eq (pv 3) (pv 2) (nomark _))) (fun _ _ _ _ _ => (pv 4))))), ?_⟩)
  · obtain ⟨p, S, s, a, rfl, _⟩ := h
    rfl
  · obtain ⟨p, S, s, a, rfl, ⟨dx, ca, aa, h1, h2, h3⟩, W, k⟩ := h
    refine s_retP (lst_l (elp_l (ElP.imp (el_lcT (L := (S.from_ s).map pairI) (fun i => ((S.from_ s).getD i (0, 0)).1 == a) (fun i y H => y = V.int ((((S.from_ s).getD i (0, 0)).2 : Nat) : Int)) stays_val
      (evp_meth (ev_var rfl) h1 (sysF_none _ _ _) (ea_cons (ev_var rfl) ea_nil) (sp_from ⟨dx, ca, aa, h1, h2, h3⟩ W)) (by have := from_len W s; rw [List.length_map]; omega) ?_) fun ys H2 e2 g => ?_))) fun v H1 e1 q => k v H1 e1 q
    · intro i x t' H1 e1 hx ht'
      obtain ⟨hi, rfl⟩ := pairs_at hx
      exact turn_of (fun Q H2 e2 q => gtup2 (e2 _ _ ht') q) rfl (ev_eqN (ev_var rfl) (ev_var rfl)) (fun _ => evp (ev_var rfl))
    · rw [g.vals, List.length_map]
      unfold Sys.by_ vN
      rw [List.map_map]
      exact rfm (S.from_ s) (0, 0) (fun x => x.1 == a) (fun x => V.int ((x.2 : Nat) : Int))
theorem sp_led {C : Addr} {H : Hp} {p : Addr} {S : Sys} {s a : Nat} (h : SysAt C H p S) (W : Wf S) : SpP (spLed C) [.ref p, .int (s : Int), .int (a : Int)] H (Lst (vN (S.by_ s a))) := fun H1 e Q E k => ⟨p, S, s, a, rfl, h.mono e, W, k⟩
end
end LkW
end

section
set_option Elab.async false
set_option linter.all false
set_option maxRecDepth 100000
set_option maxHeartbeats 2000000
/-! Systems: what's behind a state; likenesses; numbers of things. -/
namespace LkW
open PySem PySem.Spec PyProof.Rows L2 Evl Lk
open Ln (Sys Arc)

section
variable {K : PySem.W.Frag} {P : Program} {w : World} {σ : L2.St} {H : Hp} {te ta tb : TE}
/-- tuple(list of tuples) -/
def TupOf (L : List (List Int)) : V → Hp → Prop := fun v H => ∃ (u : Addr) (ks : List (Addr × List Int)), v = .ref u ∧ H u = some (.tup (ks.map fun p => V.ref p.1)) ∧ ks.map (·.2) = L ∧ ∀ p ∈ ks, H p.1 = some (.tup (p.2.map V.int))
theorem evp_tupleof {L : List (List Int)} {r : List V → Hp → VK → Prop} (hr : r = fun xs H Q => ∃ p ys, xs = [V.ref p] ∧ ((SqL K H p ys ∧ ∀ l, H l = none → Q (.ref l) (upd H l (.tup ys))) ∨ (SqT K H p ys ∧ Q (.ref p) H))) (h : EvP te σ H (Lts L)) : EvP (tCB r (tCons te tNil)) σ H (TupOf L) :=
  fun H1 e Q k => h H1 e _ fun v H2 e2 ⟨a, ev, ks, h1, h2, h3⟩ => by
    subst ev
    subst hr
    exact ⟨a, _, rfl, .inl ⟨sq_of h1, fun l hl => k _ _ (e2.trans (Ex.new hl)) ⟨l, ks, rfl, upd_same, h2, fun p hp => Ex.new hl _ _ (h3 p hp)⟩⟩⟩
theorem ev_ixN {a : Addr} {l : List Nat} {i : Nat} (ha : Ev ta σ H (.ref a)) (hb : Ev tb σ H (.int (i : Int))) (h : H a = some (.lst (vN l))) (hi : i < l.length) : Ev (tOp (rIxL K) ta tb) σ H (.int ((l.getD i 0 : Nat) : Int)) :=
  ev_op ha hb (rv_ixL (sq_of h) (vN_at hi))
end
theorem from_to {S : Sys} (W : Wf S) {s : Nat} {x : Nat × Nat} (h : x ∈ S.from_ s) : x.2 < S.states := (W.to h).2.2
theorem getD_mem {α : Type} {l : List α} {i : Nat} {d : α} (h : i < l.length) : l.getD i d ∈ l := by
  rw [getD_lt l i d h]
  exact List.getElem_mem h

section
variable {P : Program} {w : World} {K : PySem.W.Frag} {mg : Str → Option Value} {base : Heap} (T : Txt K mg)
/-! #### followed -/
def spFol (C : Addr) : Sp := fun vs H Q _ => ∃ p q S s w, vs = [.ref p, .int (s : Nat), .ref q] ∧ SysAt C H p S ∧ Wf S ∧ s < S.states ∧ H q = some (.lst (vN w)) ∧ w.length = S.states ∧ Gives H Q (fun v H2 => FolAt H2 v (seenC S w s))
theorem ok_System_followed : FnOk P w K mg base CX0 2 T.System_followed.f T.System_followed.fd ["self", "state", "numbers"] (spFol T.cSystem.C) := by
  have G_System_arcs_from := ok_System_arcs_from (P := P) (w := w) (base := base) T
  refine T.System_followed.F.ok sc_System_followed (fun vs H Q E h => ?_) (fun cdv A outer s H vs Q E hr h => ⟨_, (pss_one (ps_ret (pe_tup (pa_cons (pe_ix ix_list (pe_fld (pv 0) (by rfl)) (pv 1) (fun _ _ => rfl)) (pa_cons (pe_callTy call_tuple_of (by rfl) T.g_tuple (by decide +kernel) (pa_cons (pe_callB (LkS.cr_sortSB (by rfl) (units70 hr)) (by rfl) T.g_sorted (by decide +kernel) (pa_cons (pe_callTy (LkS.cr_setB (by rfl) hr.units) (by rfl) T.g_set (by decide +kernel) (pa_cons (pe_lc (own := [("label", 3), ("to", 4)]) (g := gTup K 2 (gCons (gName 3) (gCons (gName 4) gNil))) (te := tTup (tCons (tVar 3) (tCons (tOp (rIxL K) (tVar 2) (tVar 4)) tNil))) (by rfl) sc_System_followed.nd (pi_list (pe_meth (pv 0) T.cSystem.cl T.System_arcs_from.m G_System_arcs_from (hr.mono (by first | decide | omega)) T.b_System_arcs_from .nil pass0 (pa_cons (pv 1) pa_nil))) (blkOk_by (own := [("label", 3), ("to", 4)]) (N := n_System_followed) (sc := defScope s_System_followed) (by decide +kernel)) (fun _ _ _ _ _ => (pg_tup (by rfl) (pgs_cons (pg_name (i := 3) sc_System_followed.nd rfl (Or.inl rfl)) (pgs_cons (pg_name (i := 4) sc_System_followed.nd rfl (Or.inl rfl)) pgs_nil)))) (fun _ _ _ _ _ => pts_nil) (fun _ _ _ _ _ => (pe_tup (pa_cons (pv 3) (pa_cons (pe_ix ix_list (pv 2) (pv 4) (fun _ _ => rfl)) pa_nil))))) pa_nil)) pa_nil)) pa_nil)) pa_nil))))), ?_⟩)
  · obtain ⟨p, q, S, s, w, rfl, _⟩ := h
    rfl
  · obtain ⟨p, q, S, s, nw, rfl, ⟨dx, ca, aa, h1, h2, h3⟩, W, hs, hq, hl, k⟩ := h
    have body : EvP _ _ H (TupOf ((fol S nw s).map pairI)) := evp_tupleof (K := K) rfl (evp_setsort (K := K) (P := P) (w := w) (l := (S.from_ s).map fun (x : Nat × Nat) => (x.1, nw.getD x.2 0)) (m := fol S nw s) decP decP_enc pairLt (fun _ _ => pair_lt_of) (fun _ _ _ => pairLt_trans) pairLt_irrefl (fun a => by simp [pairI])
      (lts_giv (σ := start n_System_followed [.ref p, .int (s : Int), .ref q]) (te := tLc (iList K (tMeth T.cSystem.C "arcs_from" (spFrom T.cSystem.C) [] E0 (tVar 0) (tCons (tVar 1) tNil))) (gTup K 2 (gCons (gName 3) (gCons (gName 4) gNil))) tYes (tTup (tCons (tVar 3) (tCons (tOp (rIxL K) (tVar 2) (tVar 4)) tNil))) [3, 4])
        (el_lcT (L := (S.from_ s).map pairI) (fun i => true) (fun i y H => ∃ t, y = V.ref t ∧ H t = some (.tup ((pairI (((S.from_ s).getD i (0, 0)).1, nw.getD ((S.from_ s).getD i (0, 0)).2 0)).map V.int))) stays_tup
        (evp_meth (ev_var rfl) h1 (sysF_none _ _ _) (ea_cons (ev_var rfl) ea_nil) (sp_from ⟨dx, ca, aa, h1, h2, h3⟩ W)) (by have := from_len W s; rw [List.length_map]; omega) (fun i x t' H1 e1 hx ht' => by
          obtain ⟨hi, rfl⟩ := pairs_at hx
          exact turn_of (fun Q H2 e2 q => gtup2 (e2 _ _ ht') q) rfl (fun H2 e2 Q k => k H2 (Ex.refl _)) (fun _ => evp_tup (ea_cons (ev_var rfl) (ea_cons (ev_ixN (ev_var rfl) (ev_var rfl) (e1 _ _ hq) (by rw [hl]; exact from_to W (getD_mem hi))) ea_nil)) rfl (by simp))))
        (by
          rw [List.length_map, List.map_map]
          exact rfm (S.from_ s) (0, 0) (fun _ => true) (fun x => pairI (x.1, nw.getD x.2 0)) |>.trans (by rw [List.filter_eq_self.mpr (fun _ _ => rfl)]; rfl)))
      (by rw [List.length_map]; have := from_len W s; omega) (fol_sorted S nw s) (fun x => by rw [mem_fol, List.mem_map]))
    refine ev_ixN (K := K) (ev_col (T := T) (ev_var rfl) h1) (ev_var rfl) h2 hs H (Ex.refl H) _ fun H2 e2 => ?_
    refine body H2 e2 _ fun v H3 e3 ⟨u, ks, ev, b1, b2, b3⟩ => ⟨by show 2 ≤ sizeLine; decide, fun t nt => ?_⟩
    subst ev
    exact k _ _ ((e2.trans e3).trans (Ex.new nt)) ⟨t, u, ks, rfl, upd_same, Ex.new nt _ _ b1, b2, fun p hp => Ex.new nt _ _ (b3 p hp)⟩
theorem sp_fol {C : Addr} {H : Hp} {p q : Addr} {S : Sys} {s : Nat} {w : List Nat} (h : SysAt C H p S) (W : Wf S) (hs : s < S.states) (hq : H q = some (.lst (vN w))) (hl : w.length = S.states) : SpP (spFol C) [.ref p, .int (s : Int), .ref q] H (fun v H2 => FolAt H2 v (seenC S w s)) :=
  fun H1 e Q E k => ⟨p, q, S, s, w, rfl, h.mono e, W, hs, e _ _ hq, hl, k⟩

/-! #### empty_system -/
def spEmpty (C : Addr) : Sp := fun vs H Q _ => ∃ n : Nat, vs = [.int (n : Int)] ∧ n ≤ 32 ∧ Gives H Q (SysG C ⟨List.replicate n 0, []⟩)
theorem ok_empty_system : FnOk P w K mg base CX0 3 T.empty_system.f T.empty_system.fd ["many"] (spEmpty T.cSystem.C) := by
  have G_System_init0 := ok_System_init0 (P := P) (w := w) (base := base) T
  refine T.empty_system.F.ok sc_empty_system (fun vs H Q E h => ?_) (fun cdv A outer s H vs Q E hr h => ⟨_, (pss_one (ps_ret (pe_make T.mk_System G_System_init0 (hr.mono (by first | decide | omega)) (by rfl) T.cSystem.g T.b_System_init0 .nil pass0 (pa_cons (pe_op op_rep (pe_lst (pa_cons pe_int pa_nil)) (pv 0)) (pa_cons (pe_lst pa_nil) pa_nil))))), ?_⟩)
  · obtain ⟨n, rfl, _⟩ := h
    rfl
  · obtain ⟨n, rfl, hn, k⟩ := h
    refine s_retP (evp_sys (S := ⟨List.replicate n 0, []⟩) ?_ ?_) fun v H1 e1 q => k v H1 e1 q
    · refine fun H1 e Q k => el_lst (ea_cons ev_c ea_nil) (by simp) H1 e _ fun q H2 n2 e2 hq => ⟨_, rfl, q, (n : Int), _, rfl, rfl, hq, by omega, by omega, ?_, fun r hr => k _ _ (e2.trans (Ex.new hr)) ⟨r, rfl, ?_⟩⟩
      · rw [Int.toNat_natCast]
        exact sz_of (by simp; omega)
      · rw [upd_same]
        congr 2
        rw [Int.toNat_natCast]
        unfold vN
        simp
    · exact fun H1 e Q k => el_lst ea_nil (by simp) H1 e Q fun q H2 n2 e2 hq => k _ H2 e2 ⟨q, rfl, [], hq, rfl, fun p hp => by cases hp⟩
end
end LkW
end

section
set_option Elab.async false
set_option linter.all false
set_option maxRecDepth 100000
set_option maxHeartbeats 2000000
/-! Likenesses; numbers of things. -/
namespace LkW
open PySem PySem.Spec PyProof.Rows L2 Evl Lk
open Ln (Sys Arc)

theorem putK_len {κ : Type} [DecidableEq κ] (kvs : List (κ × V)) (k : κ) (v : V) : (putK kvs k v).length ≤ kvs.length + 1 := by
  unfold putK
  split
  · rw [List.length_map]; omega
  · simp
/-- what the dict knows of the first i states -/
structure Told (S : Sys) (w : List Nat) (i : Nat) (H : Hp) (kvs : List (Key × V)) : Prop where
  len : kvs.length ≤ i
  val : ∀ (k : Key) v, valV kvs k = some v → ∃ t, t < i ∧ k = Sum.inl ((w.getD t 0 : Nat) : Int) ∧ FolAt H v (seenC S w t)
  all : ∀ t, t < i → valV kvs (Sum.inl ((w.getD t 0 : Nat) : Int)) ≠ none
theorem dk_notup {kvs : List (Key × V)} : ∀ ys, some (HO.dK kvs) ≠ some (.tup ys) := fun ys z => by cases z
theorem Told.mono {S : Sys} {w : List Nat} {i : Nat} {H H' : Hp} {kvs : List (Key × V)} (e : Ex H H') (h : Told S w i H kvs) : Told S w i H' kvs := ⟨h.len, fun k v q => by
  obtain ⟨t, a, b, c⟩ := h.val k v q
  exact ⟨t, a, b, c.mono e⟩, h.all⟩

section
variable {P : Program} {w : World} {K : PySem.W.Frag} {mg : Str → Option Value} {base : Heap} (T : Txt K mg)
def spLike (C : Addr) : Sp := fun vs H Q _ => ∃ p q S w, vs = [.ref p, .ref q] ∧ SysAt C H p S ∧ Wf S ∧ H q = some (.lst (vN w)) ∧ w.length = S.states ∧ Gives H Q (fun v _ => v = .bl (S.stable w))
theorem ok_System_is_likeness : FnOk P w K mg base CX0 3 T.System_is_likeness.f T.System_is_likeness.fd ["self", "numbers"] (spLike T.cSystem.C) := by
  have G_System_many := ok_System_many (P := P) (w := w) (base := base) T
  have G_System_followed := ok_System_followed (P := P) (w := w) (base := base) T
  refine T.System_is_likeness.F.ok sc_System_is_likeness (fun vs H Q E h => ?_) (fun cdv A outer s H vs Q E hr h => ⟨_, (pss_cons (ps_set (i := 2) sc_System_is_likeness.nd rfl (Or.inl rfl) pe_dnewK) (pss_cons (ps_for PassesOwn.never (by rfl) (pi_range1 (by rfl) T.g_range (pa_cons (pe_meth0 (pv 0) T.cSystem.cl T.System_many.m G_System_many (hr.mono (by first | decide | omega)) T.b_System_many .nil pass0) pa_nil)) (pg_name (i := 3) sc_System_is_likeness.nd rfl (Or.inl rfl)) (pss_cons (ps_set (i := 4) sc_System_is_likeness.nd rfl (Or.inl rfl) (pe_meth (pv 0) T.cSystem.cl T.System_followed.m G_System_followed (hr.mono (by first | decide | omega)) T.b_System_followed .nil pass0 (pa_cons (pv 3) (pa_cons (pv 1) pa_nil)))) (pss_cons (ps_if (pt_cmpR (op_neD hr.units) (pe_dget2 (units1 hr) (pv 2) (pe_ix ix_list (pv 1) (pv 3) (fun _ _ => rfl)) (pv 4) ⟨rfl, rfl, rfl, rfl⟩) (pv 4) (nomark _)) (pss_one (ps_ret pe_bl)) pss_nil) (pss_one (ps_dput (units1 hr) (pv 2) (pe_ix ix_list (pv 1) (pv 3) (fun _ _ => rfl)) (pv 4) (by rfl)))))) (pss_one (ps_ret pe_bl)))), ?_⟩)
  · obtain ⟨p, q, S, nw, rfl, _⟩ := h
    rfl
  · obtain ⟨p, q, S, nw, rfl, hS, W, hq, hl, k⟩ := h
    obtain ⟨dx, ca, aa, h1, h2, h3⟩ := id hS
    intro d nd
    have e0 : Ex H (upd H d (.dK [])) := Ex.new nd
    refine q_forR1 (n := (S.states : Int)) (ea_cons (ev_meth (ev_var rfl) (e0 _ _ h1) (sysF_none _ _ _) ea_nil (sp_many (hS.mono e0))) ea_nil) ⟨by omega, by have := W.most; omega⟩
      (fun i σ' H' => ∃ v3 v4 kvs, σ' = [some (.ref p), some (.ref q), some (.ref d), v3, v4] ∧ Ex H H' ∧ H' d = some (.dK kvs) ∧ Told S nw i H' kvs ∧ LikeTo S nw i) ?_ ?_ ?_
    · intro H1 e
      exact ⟨none, none, [], rfl, e0.trans e, e _ _ upd_same, ⟨Nat.le_refl 0, fun k v q => absurd (show (none : Option V) = some v from q) (by simp), fun t ht => absurd ht (Nat.not_lt_zero t)⟩, fun s t hs => absurd hs (Nat.not_lt_zero s)⟩
    · rintro i σ' H' hi ⟨v3, v4, kvs, rfl, e, hd, told, like⟩
      have hi' : i < S.states := by omega
      have hiw : i < nw.length := by omega
      refine q_asgP (evp_meth (ev_var rfl) (e _ _ h1) (sysF_none _ _ _) (ea_cons (ev_var rfl) (ea_cons (ev_var rfl) ea_nil)) (sp_fol (hS.mono e) W hi' (e _ _ hq) hl)) fun b H1 e1 fb => ?_
      have hd1 : H1 d = some (.dK kvs) := e1 _ _ hd
      have told1 := told.mono e1
      have hq1 : H1 q = some (.lst (vN nw)) := e1 _ _ (e _ _ hq)
      -- told.get(numbers[state], behind) != behind
      have key : ∀ (ov : Option V), valV kvs (Sum.inl ((nw.getD i 0 : Nat) : Int)) = ov → ∀ (c : Nat × List (Nat × Nat)), FolAt H1 (ov.getD b) c → EvT (tTest (tOp (rNeD K) (tDGet2 (tVar 2) (tOp (rIxL K) (tVar 1) (tVar 3)) (tVar 4)) (tVar 4))) [some (.ref p), some (.ref q), some (.ref d), some (.int (i : Int)), some b] H1 (!decide (c = seenC S nw i)) := by
        intro ov hov c hc
        refine et_test fun H2 e2 Q2 k2 => ⟨_, rfl, d, rfl, .inl ⟨kvs, .inl (e2 _ _ hd1)⟩, ev_ixN (K := K) (ev_var rfl) (ev_var rfl) hq1 hiw H2 e2 _ fun H3 e3 => ⟨_, rfl, ov, ?_, _, rfl, dF c.1 c.2, dF (seenC S nw i).1 (seenC S nw i).2, (hc.mono (e2.trans e3)).dp, (fb.mono (e2.trans e3)).dp, shaped_F _ _, shaped_F _ _, ?_⟩⟩
        · rw [← hov]
          exact DGet.k (k := Sum.inl ((nw.getD i 0 : Nat) : Int)) (e3 _ _ (e2 _ _ hd1))
        · rw [eqv_F]
          have ee : (c.1 = (seenC S nw i).1 ∧ c.2 = (seenC S nw i).2) ↔ c = seenC S nw i := ⟨fun z => Prod.ext z.1 z.2, fun z => by rw [z]; exact ⟨rfl, rfl⟩⟩
          rw [decide_eq_decide.mpr ee]
          exact k2 H3 e3
      -- what the next turn has
      have put : ∀ (ov : Option V), valV kvs (Sum.inl ((nw.getD i 0 : Nat) : Int)) = ov → LikeTo S nw (i + 1) → ∀ H2, Ex H1 H2 → sDPut (tVar 2) (tOp (rIxL K) (tVar 1) (tVar 3)) (tVar 4)
          { nx := fun σ' H' => ∃ v3 v4 kvs, σ' = [some (.ref p), some (.ref q), some (.ref d), v3, v4] ∧ Ex H H' ∧ H' d = some (.dK kvs) ∧ Told S nw (i + 1) H' kvs ∧ LikeTo S nw (i + 1), rt := Q } [some (.ref p), some (.ref q), some (.ref d), some (.int (i : Int)), some b] H2 := by
        intro ov hov lk H2 e2
        refine ⟨_, rfl, _, rfl, ev_ixN (K := K) (ev_var rfl) (ev_var rfl) hq1 hiw H2 e2 _ fun H3 e3 => ⟨d, _, rfl, DPut.k (k := Sum.inl ((nw.getD i 0 : Nat) : Int)) (e3 _ _ (e2 _ _ hd1)) (by have := told.len; have := W.most; exact small1000 (by omega)), ?_⟩⟩
        have hd3 : H3 d = some (.dK kvs) := e3 _ _ (e2 _ _ hd1)
        refine ⟨_, _, putK kvs (Sum.inl ((nw.getD i 0 : Nat) : Int)) b, rfl, Ex.mut (((e.trans e1).trans e2).trans e3) nd, upd_same, ⟨?_, fun k v hv => ?_, fun t ht => ?_⟩, lk⟩
        · have := putK_len kvs (Sum.inl ((nw.getD i 0 : Nat) : Int)) b
          have := told.len
          omega
        · rw [valV_put] at hv
          by_cases c : k = Sum.inl ((nw.getD i 0 : Nat) : Int)
          · rw [if_pos c] at hv
            cases hv
            exact ⟨i, by omega, c, (fb.mono (e2.trans e3)).upd (by rw [hd3]; exact dk_notup)⟩
          · rw [if_neg c] at hv
            obtain ⟨t, a1, a2, a3⟩ := told1.val k v hv
            exact ⟨t, by omega, a2, (a3.mono (e2.trans e3)).upd (by rw [hd3]; exact dk_notup)⟩
        · rw [valV_put]
          split
          · simp
          · rename_i c
            have : t ≠ i := fun z => c (by rw [z])
            exact told.all t (by omega)
      cases ho : valV kvs (Sum.inl ((nw.getD i 0 : Nat) : Int)) with
      | none =>
        have lk : LikeTo S nw (i + 1) := likeTo_step like fun t ht e => by
          have := told.all t ht
          rw [e] at this
          exact absurd ho this
        refine q_when (key none ho (seenC S nw i) fb) (fun z => by simp at z) fun _ H2 e2 => put none ho lk H2 e2
      | some v =>
        obtain ⟨t, a1, a2, a3⟩ := told1.val _ _ ho
        have et : nw.getD t 0 = nw.getD i 0 := by
          injection a2 with a2
          omega
        refine q_when (key (some v) ho (seenC S nw t) a3) (fun z H2 e2 => ?_) fun z H2 e2 => put (some v) ho (likeTo_step like fun t' ht' e' => ?_) H2 e2
        · refine s_ret ev_c fun H3 e3 => k _ H3 (((e.trans e1).trans e2).trans e3) ?_
          have : S.stable nw = false := by
            cases st : S.stable nw with
            | false => rfl
            | true =>
              have l := (stable_iff S W nw).mp st t i (by omega) hi' et
              rw [l] at z
              simp at z
          rw [this]
        · have zt : seenC S nw t = seenC S nw i := by simpa using z
          rw [like t' t ht' a1 (e'.trans et.symm), zt]
    · rintro σ' H' ⟨v3, v4, kvs, rfl, e, hd, told, like⟩
      refine s_ret ev_c fun H1 e1 => k _ H1 (e.trans e1) ?_
      rw [(stable_iff S W nw).mpr ((like_all S nw).mp (by simpa using like))]
end
end LkW
end

section
set_option Elab.async false
set_option linter.all false
set_option maxRecDepth 100000
set_option maxHeartbeats 2000000
/-! Numbers of things. -/
namespace LkW
open PySem PySem.Spec PyProof.Rows L2 Evl Lk
open Ln (Sys Arc)

theorem sqT_upd {K : PySem.W.Frag} {H : Hp} {D t : Addr} {o u : HO} {xs : List V} (hD : H D = some u) (h1 : ∀ ys, u ≠ .tup ys) (h2 : ∀ o ys, u ≠ .frz o (.tup ys)) (h : SqT K H t xs) : SqT K (upd H D o) t xs := by
  rcases h with (h | ⟨ob, h⟩) | h
  · refine .inl (.inl ?_)
    rw [upd_ne]
    · exact h
    · intro e
      rw [e, hD] at h
      exact h1 _ (Option.some.inj h)
  · refine .inl (.inr ⟨ob, ?_⟩)
    rw [upd_ne]
    · exact h
    · intro e
      rw [e, hD] at h
      exact h2 _ _ (Option.some.inj h)
  · exact .inr h
mutual
theorem keyN_tt {K : PySem.W.Frag} {H H' : Hp} (e : ∀ a xs, SqT K H a xs → SqT K H' a xs) : ∀ (k : NestedKey) (v : V), LkN.KeyN K H v k → LkN.KeyN K H' v k
  | _, _, .num i => .num i
  | _, _, .tup h t => .tup (e _ _ h) (keyNs_tt e _ _ t)
theorem keyNs_tt {K : PySem.W.Frag} {H H' : Hp} (e : ∀ a xs, SqT K H a xs → SqT K H' a xs) : ∀ (ks : List NestedKey) (vs : List V), LkN.KeyNs K H vs ks → LkN.KeyNs K H' vs ks
  | _, _, .nil => .nil
  | _, _, .cons h t => .cons (keyN_tt e _ _ h) (keyNs_tt e _ _ t)
end
/-- a dict that numbers things of a kind -/
structure NumR (K : PySem.W.Frag) (P : Program) (w : World) (d : Addr) (κ : Type) [DecidableEq κ] where
  KD : Hp → List κ → Prop
  KX : Hp → V → κ → Prop
  xmono : ∀ H H' v k, Ex H H' → KX H v k → KX H' v k
  dmono : ∀ H H' ks, Ex H H' → KD H ks → KD H' ks
  dupd : ∀ H D acc o ks, H D = some (.lst acc) → KD H ks → KD (upd H D o) ks
  noL : ∀ H ks acc, KD H ks → H d ≠ some (.lst acc)
  ask : ∀ H ks v k Q, KD H ks → KX H v k → Q (.bl (!decide (k ∈ ks))) H → LkN.rNI K P w v (.ref d) H Q
  get : ∀ H ks v k Q, KD H ks → KX H v k → k ∈ ks → Q (.int ((ks.idxOf k : Nat) : Int)) H → LkN.rNG K P w (.ref d) v H Q
  len : ∀ H ks Q, KD H ks → ks.length < 10000 → Q (.int (ks.length : Nat)) H → LkN.rNL P w [.ref d] H Q
  put : ∀ H ks v k Q, KD H ks → KX H v k → k ∉ ks → ks.length < 10000 → (∀ o, KD (upd H d o) (ks ++ [k]) → KX (upd H d o) v k → Q (upd H d o)) → LkN.rNS K P w (.ref d) v (.int (ks.length : Nat)) H Q
theorem dI_inj {ks ms : List Int} (h : LkN.dI ks = LkN.dI ms) : LkN.numKv ks = LkN.numKv ms := by
  injection h
def numInts (K : PySem.W.Frag) (P : Program) (w : World) (d : Addr) : NumR K P w d Int where
  KD H ks := H d = some (LkN.dI ks)
  KX H v k := v = .int k
  xmono _ _ _ _ _ h := h
  dmono _ _ _ e h := e _ _ h
  dupd H D acc o ks hD h := by
    rw [upd_ne]
    · exact h
    · intro e
      rw [e, hD] at h
      cases h
  noL H ks acc h z := by
    rw [h] at z
    cases z
  ask H ks v k Q hd hx q := .inl ⟨d, ks, k, rfl, hx, hd, q⟩
  get H ks v k Q hd hx hk q := .inl ⟨d, ks, k, rfl, hx, hd, hk, q⟩
  len H ks Q hd _ q := .inl ⟨d, ks, rfl, hd, q⟩
  put H ks v k Q hd hx hk hl q := .inl ⟨d, ks, k, rfl, hx, rfl, hd, hk, hl, q _ upd_same hx⟩
def numTups (K : PySem.W.Frag) (P : Program) (w : World) (d : Addr) : NumR K P w d NestedKey where
  KD H ks := ∃ kas, H d = some (LkN.NDO P w d kas) ∧ LkN.KeysN K H kas ∧ ks = kas.map (·.1)
  KX H v k := ∃ a, v = .ref a ∧ LkN.KeyN K H (.ref a) k ∧ k.depth ≤ 8
  xmono _ _ _ _ e h := by
    obtain ⟨a, h1, h2, h3⟩ := h
    exact ⟨a, h1, h2.mono e, h3⟩
  dmono _ _ _ e h := by
    obtain ⟨kas, h1, h2, h3⟩ := h
    exact ⟨kas, e _ _ h1, h2.mono e, h3⟩
  dupd H D acc o ks hD h := by
    obtain ⟨kas, h1, h2, h3⟩ := h
    refine ⟨kas, ?_, fun p hp => ⟨keyN_tt (fun a xs => sqT_upd hD (fun ys z => by cases z) (fun o ys z => by cases z)) _ _ (h2 p hp).1, (h2 p hp).2⟩, h3⟩
    rw [upd_ne]
    · exact h1
    · intro e
      rw [e, hD] at h1
      have z := Option.some.inj h1
      cases z
  noL H ks acc h z := by
    obtain ⟨kas, h1, h2, h3⟩ := h
    rw [h1] at z
    have z := Option.some.inj z
    cases z
  ask H ks v k Q hd hx q := by
    obtain ⟨kas, h1, h2, rfl⟩ := hd
    obtain ⟨a, rfl, h3, h4⟩ := hx
    exact .inr ⟨d, kas, a, k, rfl, rfl, h1, h2, h3, h4, q⟩
  get H ks v k Q hd hx hk q := by
    obtain ⟨kas, h1, h2, rfl⟩ := hd
    obtain ⟨a, rfl, h3, h4⟩ := hx
    exact .inr ⟨d, kas, a, k, rfl, rfl, h1, h2, h3, h4, hk, q⟩
  len H ks Q hd hl q := by
    obtain ⟨kas, h1, h2, rfl⟩ := hd
    rw [List.length_map] at hl q
    exact .inr ⟨d, kas, rfl, h1, hl, q⟩
  put H ks v k Q hd hx hk hl q := by
    obtain ⟨kas, h1, h2, rfl⟩ := hd
    obtain ⟨a, rfl, h3, h4⟩ := hx
    rw [List.length_map] at hl
    have tt : ∀ o a xs, SqT K H a xs → SqT K (upd H d o) a xs := fun o a xs => sqT_upd h1 (fun ys z => by cases z) (fun o ys z => by cases z)
    refine .inr ⟨d, kas, a, k, rfl, rfl, by rw [List.length_map], h1, h2, h3, h4, hk, hl, q _ ⟨kas ++ [(k, a)], upd_same, fun p hp => ?_, by rw [List.map_append]; rfl⟩ ⟨a, rfl, keyN_tt (tt _) _ _ h3, h4⟩⟩
    rcases List.mem_append.mp hp with hp | hp
    · exact ⟨keyN_tt (tt _) _ _ (h2 p hp).1, (h2 p hp).2⟩
    · rw [List.mem_singleton.mp hp]
      exact ⟨keyN_tt (tt _) _ _ h3, h4⟩

theorem numGo_in {α : Type} [DecidableEq α] {ks : List α} {l : List α} {i : Nat} {x : α} (h : l[i]? = some x) (hx : x ∈ ks) : numGo ks (l.drop i) = ks.idxOf x :: numGo ks (l.drop (i + 1)) := by
  obtain ⟨hi, e⟩ := List.getElem?_eq_some_iff.mp h
  rw [List.drop_eq_getElem_cons hi, e, numGo, if_pos hx]
theorem numGo_out {α : Type} [DecidableEq α] {ks : List α} {l : List α} {i : Nat} {x : α} (h : l[i]? = some x) (hx : x ∉ ks) : numGo ks (l.drop i) = ks.length :: numGo (ks ++ [x]) (l.drop (i + 1)) := by
  obtain ⟨hi, e⟩ := List.getElem?_eq_some_iff.mp h
  rw [List.drop_eq_getElem_cons hi, e, numGo, if_neg hx]
theorem idx_snoc {α : Type} [DecidableEq α] {ks : List α} {x : α} (h : x ∉ ks) : (ks ++ [x]).idxOf x = ks.length := by
  rw [List.idxOf_append, if_neg h]
  simp

section
variable {P : Program} {w : World} {K : PySem.W.Frag} {mg : Str → Option Value} {base : Heap} (T : Txt K mg)
def spNum (K : PySem.W.Frag) : Sp := fun vs H Q _ => ∃ p xs, vs = [.ref p] ∧ SqL K H p xs ∧ xs.length ≤ 1000 ∧
  ((∃ l : List Int, xs = l.map V.int ∧ Gives H Q (Lst (vN (numb l)))) ∨
    ∃ l : List NestedKey, l.length = xs.length ∧ (∀ (i : Nat) x k, xs[i]? = some x → l[i]? = some k → ∃ a, x = .ref a ∧ LkN.KeyN K H (.ref a) k ∧ k.depth ≤ 8) ∧ Gives H Q (Lst (vN (numb l))))
def t_num (K : PySem.W.Frag) (P : Program) (w : World) : TS :=
  tSeq (tAsg (tLst tNil) (gName 2)) (tSeq (tFor (iList K (tVar 0)) (gName 3) (tSeq (tIfS (tTest (tOp (LkN.rNI K P w) (tVar 3) (tVar 1))) (tAsg (tCB (LkN.rNL P w) (tCons (tVar 1) tNil)) (gSub (tVar 1) (tVar 3) (LkN.rNS K P w))) tNext)
    (tDrop (tBM K "list" rAppend (tVar 2) (tCons (tOp (LkN.rNG K P w) (tVar 1) (tVar 3)) tNil))))) (tRet (tVar 2)))
theorem num_go {κ : Type} [DecidableEq κ] {d p : Addr} {xs : List V} {l : List κ} {H H0 : Hp} {Q : VK} (N : NumR K P w d κ) (e0 : Ex H H0) (nd : H d = none) (hp : SqL K H p xs) (hl : l.length = xs.length) (few : xs.length ≤ 1000) (hx : ∀ (i : Nat) x k, xs[i]? = some x → l[i]? = some k → N.KX H x k)
    (hd : N.KD H0 []) (k : Gives H Q (Lst (vN (numb l)))) : t_num K P w { nx := fun _ H' => Q .non H', rt := Q } [some (.ref p), some (.ref d), none, none] H0 := by
  refine q_asgL (el_lst ea_nil (by simp)) fun f H1 nf e1 hf => ?_
  have e01 := e0.trans e1
  have nf0 : H f = none := fresh_back e0 nf
  refine q_forLn (ev_var rfl) (ex_l e01 hp) (fun i σ' H' => ∃ v3 ks acc, σ' = [some (.ref p), some (.ref d), some (.ref f), v3] ∧ Ex H H' ∧ N.KD H' ks ∧ H' f = some (.lst (vN acc)) ∧ numb l = acc ++ numGo ks (l.drop i) ∧ acc.length = i ∧ ks.length ≤ i) ?_ ?_ ?_ ?_
  · intro H2 e2
    exact ⟨none, [], [], rfl, e01.trans e2, N.dmono _ _ _ (e1.trans e2) hd, e2 _ _ hf, by rw [numb_go]; rfl, rfl, Nat.le_refl 0⟩
  · rintro i σ' H' hi ⟨v3, ks, acc, rfl, e, _⟩
    exact ex_l e hp
  · rintro i x σ' H' hi ⟨v3, ks, acc, rfl, e, kd, hf', hn, ha, hk⟩
    have hlt : i < xs.length := (List.getElem?_eq_some_iff.mp hi).1
    have hlt' : i < l.length := by omega
    obtain ⟨z, hz⟩ : ∃ z, l[i]? = some z := ⟨_, List.getElem?_eq_getElem hlt'⟩
    have kx : N.KX H' x z := N.xmono _ _ _ _ e (hx i x z hi hz)
    -- the rest of the turn, once the thing is known
    have rest : ∀ (ks' : List κ) H2, Ex H H2 → N.KD H2 ks' → N.KX H2 x z → H2 f = some (.lst (vN acc)) → z ∈ ks' → numGo ks (l.drop i) = ks'.idxOf z :: numGo ks' (l.drop (i + 1)) → ks'.length ≤ i + 1 →
        tDrop (tBM K "list" rAppend (tVar 2) (tCons (tOp (LkN.rNG K P w) (tVar 1) (tVar 3)) tNil)) { nx := fun σ' H' => ∃ v3 ks acc, σ' = [some (.ref p), some (.ref d), some (.ref f), v3] ∧ Ex H H' ∧ N.KD H' ks ∧ H' f = some (.lst (vN acc)) ∧ numb l = acc ++ numGo ks (l.drop (i + 1)) ∧ acc.length = i + 1 ∧ ks.length ≤ i + 1, rt := Q }
          [some (.ref p), some (.ref d), some (.ref f), some x] H2 := by
      intro ks' H2 e2 kd2 kx2 hf2 hin hgo hlen
      refine ⟨_, rfl, .inl ⟨rfl, _, sq_of hf2⟩, _, rfl, _, rfl, N.get _ _ _ _ _ kd2 kx2 hin ⟨f, _, _, rfl, rfl, hf2, by rw [vN_len]; exact small1000 (by omega), ?_⟩⟩
      refine ⟨_, ks', acc ++ [ks'.idxOf z], rfl, Ex.mut e2 nf0, N.dupd _ _ _ _ _ hf2 kd2, ?_, ?_, by simp [ha], hlen⟩
      · rw [upd_same, vN_app]
        rfl
      · rw [hn, hgo]
        simp
    by_cases c : z ∈ ks
    · refine ⟨_, rfl, _, rfl, N.ask _ _ _ _ _ kd kx ⟨_, rfl, ?_⟩⟩
      rw [decide_eq_true c]
      exact iteF (rest ks H' e kd kx hf' c (numGo_in hz c) (by omega))
    · refine ⟨_, rfl, _, rfl, N.ask _ _ _ _ _ kd kx ⟨_, rfl, ?_⟩⟩
      rw [decide_eq_false c]
      refine iteT ⟨_, rfl, ?_⟩
      dsimp only [tNil]
      refine N.len _ _ _ kd (by omega) ⟨_, rfl, _, rfl, N.put _ _ _ _ _ kd kx c (by omega) fun o kd2 kx2 => ?_⟩
      refine rest (ks ++ [z]) _ (Ex.mut e nd) kd2 kx2 ?_ (by simp) ?_ (by simp; omega)
      · rw [upd_ne]
        · exact hf'
        · intro z2
          rw [z2] at hf'
          exact N.noL _ _ _ kd hf'
      · rw [numGo_out hz c, idx_snoc c]
  · rintro σ' H' ⟨v3, ks, acc, rfl, e, kd, hf', hn, ha, hk⟩
    refine s_ret (ev_var rfl) fun H2 e2 => k _ H2 (e.trans e2) ⟨f, rfl, ?_⟩
    rw [hn, List.drop_of_length_le (by omega)]
    show H2 f = some (.lst (vN (acc ++ [])))
    rw [List.append_nil]
    exact e2 _ _ hf'
theorem ok_numbered : FnOk P w K mg base CX0 1 T.numbered.f T.numbered.fd ["things"] (spNum K) := by
  refine T.numbered.F.ok sc_numbered (fun vs H Q E h => ?_) (fun cdv A outer s H vs Q E hr h => ⟨_, (pss_cons (ps_set (i := 1) sc_numbered.nd rfl (Or.inl rfl) LkN.pe_dnewN) (pss_cons (ps_set (i := 2) sc_numbered.nd rfl (Or.inl rfl) (pe_lst pa_nil)) (pss_cons (ps_for PassesOwn.never (by rfl) (pi_list (pv 0)) (pg_name (i := 3) sc_numbered.nd rfl (Or.inl rfl)) (pss_cons (ps_if (pt_cmpR (LkN.op_notInN hr.units) (pv 3) (pv 1) (by rfl)) (pss_one (ps_asg (pe_callB LkN.call_lenN (by rfl) T.g_len (by decide +kernel) (pa_cons (pv 1) pa_nil)) (pg_sub (pv 1) (pv 3) (LkN.set_N hr.units)))) pss_nil) (pss_one (ps_expr (pe_bm PySem.F.plainAttrs_list PySem.F.slot_list_append PySem.F.type_list_append mt_append (pv 2) (pa_cons (LkN.ix_N hr.units (pv 1) (pv 3) (fun _ _ => rfl)) pa_nil)))))) (pss_one (ps_ret (pv 2)))))), ?_⟩)
  · obtain ⟨p, xs, rfl, _⟩ := h
    rfl
  · obtain ⟨p, xs, rfl, hp, few, ⟨l, rfl, k⟩ | ⟨l, hl, hx, k⟩⟩ := h
    · refine .inl fun d nd => num_go (K := K) (P := P) (w := w) (numInts K P w d) (Ex.new nd) nd hp (by rw [List.length_map]) few (fun i x k h1 h2 => ?_) upd_same k
      rw [List.getElem?_map, h2] at h1
      exact (Option.some.inj h1).symm
    · exact .inr fun d nd => num_go (K := K) (P := P) (w := w) (numTups K P w d) (Ex.new nd) nd hp hl few hx ⟨[], upd_same, fun p hp => absurd hp (by simp), rfl⟩ k
end
end LkW
end

section
set_option Elab.async false
set_option linter.all false
set_option maxRecDepth 100000
set_option maxHeartbeats 2000000
/-! Levels. -/
namespace LkW
open PySem PySem.Spec PyProof.Rows L2 Evl Lk
open Ln (Sys Arc)

theorem numb_map {α β : Type} [DecidableEq α] [DecidableEq β] (f : α → β) (hf : ∀ a b, f a = f b → a = b) (l : List α) : numb (l.map f) = numb l :=
  numb_pattern _ _ (List.length_map ..) fun i j hi hj => by
    simp only [List.getElem_map]
    exact ⟨fun h => hf _ _ h, fun h => by rw [h]⟩
theorem dedup_map {α β : Type} [DecidableEq α] [DecidableEq β] (f : α → β) (hf : ∀ a b, f a = f b → a = b) (l : List α) : (l.map f).eraseDups.length = l.eraseDups.length := by
  have h : ∀ (l : List α), (l.map f).eraseDups = l.eraseDups.map f := by
    intro l
    refine rev_ind (p := fun (l : List α) => (l.map f).eraseDups = l.eraseDups.map f) rfl (fun l x ih => ?_) l
    rw [List.map_append, List.eraseDups_append, List.eraseDups_append, ih, List.map_append]
    congr 1
    by_cases c : x ∈ l
    · have c' : f x ∈ l.map f := List.mem_map.mpr ⟨x, c, rfl⟩
      simp only [List.removeAll, List.map_cons, List.map_nil]
      rw [List.filter_cons_of_neg (by simpa using List.mem_map.mp c'), List.filter_cons_of_neg (by simp [c])]
      rfl
    · have c' : ¬ f x ∈ l.map f := fun z => by
        obtain ⟨y, hy, e⟩ := List.mem_map.mp z
        exact c (hf _ _ e ▸ hy)
      have one : [x].eraseDups = [x] := rfl
      have one' : [f x].eraseDups = [f x] := rfl
      simp only [List.removeAll, List.map_cons, List.map_nil]
      rw [List.filter_cons_of_pos (by simp [c']), List.filter_cons_of_pos (by simp [c])]
      simp [one, one']
  rw [h, List.length_map]
theorem levF_none (c a : V) (m : Str) (h1 : (m == ("system" : Str)) = false := by decide +kernel) (h2 : (m == ("rows" : Str)) = false := by decide +kernel) : (levF c a).lookup m = none := (lk_past h1).trans ((lk_past h2).trans rfl)
theorem lk_sys (c a : V) : (levF c a).lookup ("system" : Str) = some c := lk_here
theorem lk_rows (c a : V) : (levF c a).lookup ("rows" : Str) = some a := (lk_past (by decide +kernel)).trans lk_here
theorem rows_snoc {H : Hp} {rs : List Addr} {L : List (List Nat)} {r : Addr} {l : List Nat} (h : Rows H rs L) (hr : H r = some (.lst (vN l))) : Rows H (rs ++ [r]) (L ++ [l]) := by
  refine ⟨by simp [h.1], fun i r' l' h1 h2 => ?_⟩
  by_cases c : i < rs.length
  · rw [List.getElem?_append_left c] at h1
    rw [List.getElem?_append_left (by rw [← h.1]; exact c)] at h2
    exact h.2 i r' l' h1 h2
  · rw [List.getElem?_append_right (by omega)] at h1
    rw [List.getElem?_append_right (by rw [← h.1]; omega)] at h2
    rw [← h.1] at h2
    cases k : i - rs.length with
    | zero =>
      rw [k] at h1 h2
      cases h1
      cases h2
      exact hr
    | succ n =>
      rw [k] at h1
      cases h1
theorem rnd_succ (S : Sys) (j : Nat) : rndS S (j + 1) = rndS S j ++ [R S (j + 1)] := by
  unfold rndS
  rw [List.range_succ, List.map_append]
  rfl
theorem rnd_len (S : Sys) (j : Nat) : (rndS S j).length = j + 1 := by simp [rndS]
theorem rnd_get (S : Sys) {j i : Nat} (h : i ≤ j) : (rndS S j)[i]? = some (R S i) := by
  unfold rndS
  rw [List.getElem?_map, List.getElem?_range (by omega)]
  rfl
theorem rows_at {H : Hp} {rs : List Addr} {S : Sys} {j i : Nat} (h : Rows H rs (rndS S j)) (hi : i ≤ j) : ∃ r, rs[i]? = some r ∧ H r = some (.lst (vN (R S i))) := by
  have len : i < rs.length := by rw [h.1, rnd_len]; omega
  exact ⟨rs[i], List.getElem?_eq_getElem len, h.2 i _ _ (List.getElem?_eq_getElem len) (rnd_get S hi)⟩
theorem rows_last {H : Hp} {rs : List Addr} {S : Sys} {j : Nat} (h : Rows H rs (rndS S j)) : ∃ r, atI (rs.map V.ref) (-1) = some (V.ref r) ∧ H r = some (.lst (vN (R S j))) := by
  obtain ⟨r, h1, h2⟩ := rows_at h (Nat.le_refl j)
  have len : rs.length = j + 1 := by rw [h.1, rnd_len]
  obtain ⟨rs', e⟩ : ∃ rs', rs = rs' ++ [r] := by
    refine ⟨rs.take j, ?_⟩
    have := List.take_append_drop j rs
    rw [← List.take_append_drop j rs]
    congr 1
    · simp
    · obtain ⟨hj, ej⟩ := List.getElem?_eq_some_iff.mp h1
      rw [List.drop_eq_getElem_cons hj, ej, List.drop_of_length_le (by omega)]
  refine ⟨r, ?_, h2⟩
  rw [e, List.map_append]
  exact atI_last _ _
/-- all but the object at p stands -/
def But (p : Addr) (H H' : Hp) : Prop := ∀ b o, H b = some o → b ≠ p → H' b = some o
theorem But.trans {p : Addr} {H H1 H2 : Hp} (a : But p H H1) (b : But p H1 H2) : But p H H2 := fun c o h n => b c o (a c o h n) n
theorem But.ex {p : Addr} {H H1 : Hp} (e : Ex H H1) : But p H H1 := fun b o h _ => e b o h
theorem But.upd {p : Addr} {H H1 : Hp} {o : HO} (h : But p H H1) : But p H (upd H1 p o) := fun b u hb n => by
  rw [upd_ne n]
  exact h b u hb n
theorem But.mut {p a : Addr} {H H1 : Hp} {o : HO} (h : But p H H1) (n : H a = none) : But p H (L2.upd H1 a o) := fun b u hb n' => by
  rw [upd_ne (ne_of_none hb n)]
  exact h b u hb n'
theorem but_lst {p C dx : Addr} {fs : List (Str × V)} {H H' : Hp} {a : Addr} {xs : List V} (hp : H p = some (.ins C dx fs)) (k : But p H H') (h : H a = some (.lst xs)) : H' a = some (.lst xs) := k _ _ h fun e => by
  rw [e, hp] at h
  cases h
theorem but_tup {p C dx : Addr} {fs : List (Str × V)} {H H' : Hp} {a : Addr} {xs : List V} (hp : H p = some (.ins C dx fs)) (k : But p H H') (h : H a = some (.tup xs)) : H' a = some (.tup xs) := k _ _ h fun e => by
  rw [e, hp] at h
  cases h
theorem but_LT {p C dx : Addr} {fs : List (Str × V)} {H H' : Hp} {a : Addr} {L : List (List Int)} (hp : H p = some (.ins C dx fs)) (k : But p H H') (h : LT H a L) : LT H' a L := by
  obtain ⟨ks, h1, h2, h3⟩ := h
  exact ⟨ks, but_lst hp k h1, h2, fun q hq => but_tup hp k (h3 q hq)⟩
theorem but_sys {p C C' dx : Addr} {fs : List (Str × V)} {H H' : Hp} {a : Addr} {S : Sys} (hp : H p = some (.ins C dx fs)) (hne : ∀ c a, fs ≠ sysF c a) (k : But p H H') (h : SysAt C' H a S) : SysAt C' H' a S := by
  obtain ⟨d, c, a', h1, h2, h3⟩ := h
  refine ⟨d, c, a', k _ _ h1 fun e => ?_, but_lst hp k h2, but_LT hp k h3⟩
  rw [e, hp] at h1
  have z := Option.some.inj h1
  injection z with _ _ z
  exact hne _ _ z

section
variable {P : Program} {w : World} {K : PySem.W.Frag} {mg : Str → Option Value} {base : Heap} (T : Txt K mg)
section
variable {T} {σ : L2.St} {H : Hp} {te : TE} {p : Addr}
theorem ev_lsys {dx : Addr} {s r : V} (h : Ev te σ H (.ref p)) (hp : H p = some (.ins T.cLevels.C dx (levF s r))) : Ev (tFld K te "system") σ H s := ev_fld h hp T.cLevels.cl T.nLevels_system (lk_sys _ _)
theorem ev_rows {dx : Addr} {s r : V} (h : Ev te σ H (.ref p)) (hp : H p = some (.ins T.cLevels.C dx (levF s r))) : Ev (tFld K te "rows") σ H r := ev_fld h hp T.cLevels.cl T.nLevels_rows (lk_rows _ _)
end
/-- numbered, of a list of numbers | of what's behind states -/
theorem evp_num0 {σ : L2.St} {H : Hp} {te : TE} {c : Addr} {S : Sys} (h : Ev te σ H (.ref c)) (hc : H c = some (.lst (vN S.colours))) (few : S.states ≤ 1000) : EvP (tCall (spNum K) [] E0 (tCons te tNil)) σ H (Lst (vN (R S 0))) :=
  evp_call (ea_cons h ea_nil) fun H1 e Q E k => ⟨c, _, rfl, sq_of (e _ _ hc), by rw [vN_len]; exact few, .inl ⟨S.colours.map fun (n : Nat) => (n : Int), vN_int _, by
    rw [numb_map _ (fun a b h => by omega)]
    exact k⟩⟩
theorem depth_kF (x : Nat × List (Nat × Nat)) : (kF x).depth ≤ 8 := by
  have h1 : ∀ l : List Int, NestedKey.depthAll (l.map .num) = 0 := by
    intro l
    induction l with
    | nil => rfl
    | cons a r ih => simp [NestedKey.depthAll, NestedKey.depth, ih]
  have h2 : ∀ L : List (List Int), NestedKey.depthAll (L.map kT) ≤ 1 := by
    intro L
    induction L with
    | nil => simp [NestedKey.depthAll]
    | cons a r ih =>
      simp only [List.map_cons, NestedKey.depthAll, kT, NestedKey.depth, h1]
      omega
  have := h2 (x.2.map pairI)
  unfold kF
  simp only [NestedKey.depth, NestedKey.depthAll]
  omega
theorem stays_fol {x : Nat → Nat × List (Nat × Nat)} : Stays (fun i y H => FolAt H y (x i)) :=
  ⟨fun i v H H' e h => h.mono e, fun i v H D acc o hd h => h.upd fun ys z => by rw [hd] at z; cases z⟩
theorem givP_len {P : Nat → V → Hp → Prop} {H : Hp} : ∀ {n : Nat} {ys : List V}, GivP (fun _ => true) P H n ys → ys.length = n ∧ ∀ i x, ys[i]? = some x → P i x H
  | 0, ys, g => by
    rw [show ys = [] from g]
    exact ⟨rfl, fun i x h => by cases h⟩
  | n + 1, ys, g => by
    unfold GivP at g
    rw [if_pos rfl] at g
    obtain ⟨ys0, y, e, g0, p⟩ := g
    obtain ⟨h1, h2⟩ := givP_len g0
    subst e
    refine ⟨by simp [h1], fun i x h => ?_⟩
    by_cases c : i < ys0.length
    · rw [List.getElem?_append_left c] at h
      exact h2 i x h
    · rw [List.getElem?_append_right (by omega)] at h
      cases k : i - ys0.length with
      | zero =>
        rw [k] at h
        cases h
        rw [show i = n by omega]
        exact p
      | succ m =>
        rw [k] at h
        cases h
theorem evp_numF {σ : L2.St} {H : Hp} {te : TE} {S : Sys} {j : Nat} (h : ElP te σ H (fun ys H2 => GivP (fun _ => true) (fun i y H => FolAt H y (seenC S (R S j) i)) H2 S.states ys)) (few : S.states ≤ 1000) : EvP (tCall (spNum K) [] E0 (tCons te tNil)) σ H (Lst (vN (R S (j + 1)))) :=
  fun H1 e Q k => h H1 e _ fun q ys H2 n e2 hq g => by
    obtain ⟨h1, h2⟩ := givP_len g
    refine ⟨q, ys, rfl, sq_of hq, by omega, .inr ⟨(List.range S.states).map (fun i => kF (seenC S (R S j) i)), by simp [h1], fun i x kk hx hk => ?_, fun v H3 e3 p => k v H3 (e2.trans e3) ?_⟩⟩
    · have hi : i < S.states := by
        rw [← h1]
        exact (List.getElem?_eq_some_iff.mp hx).1
      rw [List.getElem?_map, List.getElem?_range hi] at hk
      have ek : kF (seenC S (R S j) i) = kk := Option.some.inj hk
      have f := h2 i x hx
      obtain ⟨t, _, _, e1, _⟩ := id f
      refine ⟨t, e1, ?_, by rw [← ek]; exact depth_kF _⟩
      rw [← ek, ← e1]
      exact f.key
    · have e1 : numb ((List.range S.states).map (fun i => kF (seenC S (R S j) i))) = R S (j + 1) := by
        rw [show (List.range S.states).map (fun i => kF (seenC S (R S j) i)) = ((List.range S.states).map (seenC S (R S j))).map kF by rw [List.map_map]; rfl, numb_map _ (fun a b h => kF_inj h)]
        rfl
      rw [e1] at p
      exact p

/-! #### Levels.__init__ -/
def spLevInit (CS CL : Addr) : Sp := fun vs H Q _ => ∃ p dx sp S, vs = [.ref p, .ref sp] ∧ H p = some (.ins CL dx []) ∧ SysAt CS H sp S ∧ Wf S ∧ ∀ H' m, LevAt CS CL H' p S m → But p H H' → Q .non H'
theorem putRows (x y : V) : putF ("rows" : Str) y [(("system" : Str), x)] = levF x y := (put_past (by decide +kernel)).trans rfl
theorem ok_Levels_init0 : FnOk P w K mg base CX0 3 T.Levels_init0.f T.Levels_init0.fd ["self", "system"] (spLevInit T.cSystem.C T.cLevels.C) := by
  have G_numbered := ok_numbered (P := P) (w := w) (base := base) T
  have G_System_many := ok_System_many (P := P) (w := w) (base := base) T
  have G_System_followed := ok_System_followed (P := P) (w := w) (base := base) T
  refine T.Levels_init0.F.ok sc_Levels_init0 (fun vs H Q E h => ?_) (fun cdv A outer s H vs Q E hr h => ⟨_, (pss_cons (ps_fld (pv 0) (pv 1) (by rfl)) (pss_cons (ps_fld (pv 0) (pe_lst (pa_cons (pe_call G_numbered (hr.mono (by first | decide | omega)) (by rfl) T.numbered.g T.numbered.F.kp T.b_numbered .nil pass0 (pa_cons (pe_fld (pv 1) (by rfl)) pa_nil)) pa_nil)) (by rfl)) (pss_cons (ps_set (i := 2) sc_Levels_init0.nd rfl (Or.inl rfl) pe_bl) (pss_one (ps_while PassesOwn.never (pt_val (pv 2)) (pss_cons (ps_set (i := 3) sc_Levels_init0.nd rfl (Or.inr rfl) (pe_ix ix_list (pe_fld (pv 0) (by rfl)) (pe_un un_neg pe_int) (fun _ _ => rfl))) (pss_cons (ps_set (i := 4) sc_Levels_init0.nd rfl (Or.inl rfl) (pe_call G_numbered (hr.mono (by first | decide | omega)) (by rfl) T.numbered.g T.numbered.F.kp T.b_numbered .nil pass0 (pa_cons (pe_lc (own := [("state", 5)]) (g := gName 5)  (by rfl) sc_Levels_init0.nd (pi_range1 (by rfl) T.g_range (pa_cons (pe_meth0 (pv 1) T.cSystem.cl T.System_many.m G_System_many (hr.mono (by first | decide | omega)) T.b_System_many .nil pass0) pa_nil)) (blkOk_by (own := [("state", 5)]) (N := n_Levels_init0) (sc := defScope s_Levels_init0) (by decide +kernel)) (fun _ _ _ _ _ => (pg_name (i := 5) sc_Levels_init0.nd rfl (Or.inl rfl))) (fun _ _ _ _ _ => pts_nil) (fun _ _ _ _ _ => (pe_meth (pv 1) T.cSystem.cl T.System_followed.m G_System_followed (hr.mono (by first | decide | omega)) T.b_System_followed .nil pass0 (pa_cons (pv 5) (pa_cons (pv 3) pa_nil))))) pa_nil))) (pss_cons (ps_set (i := 2) sc_Levels_init0.nd rfl (Or.inl rfl) (pe_cmpR (op_neD hr.units) (pv 4) (pv 3) (nomark _))) (pss_one (ps_if (pt_val (pv 2)) (pss_one (ps_expr (pe_bm PySem.F.plainAttrs_list PySem.F.slot_list_append PySem.F.type_list_append mt_append (pe_fld (pv 0) (by rfl)) (pa_cons (pv 4) pa_nil)))) pss_nil)))))))))), ?_⟩)
  · obtain ⟨p, dx, sp, S, rfl, _⟩ := h
    rfl
  · obtain ⟨p, dx, sp, S, rfl, hp, hS, W, k⟩ := h
    obtain ⟨m, hm, hst, hne⟩ := exists_stop S W
    have few : S.states ≤ 1000 := by have := W.most; omega
    refine ⟨_, rfl, _, rfl, p, _, dx, [], rfl, hp, T.cLevels.cl, T.nLevels_system, (by show 0 < 1000; decide), ?_⟩
    -- self.rows = [numbered(system.colours)]
    have b1 : But p H (upd H p (.ins T.cLevels.C dx (putF "system" (.ref sp) []))) := But.upd (But.ex (Ex.refl H))
    have hp1 : (upd H p (.ins T.cLevels.C dx (putF "system" (.ref sp) []))) p = some (.ins T.cLevels.C dx [(("system" : Str), .ref sp)]) := upd_same
    generalize upd H p (.ins T.cLevels.C dx (putF "system" (.ref sp) [])) = H1 at b1 hp1 ⊢
    have hS1 : SysAt T.cSystem.C H1 sp S := but_sys hp (fun c a z => by cases z) b1 hS
    obtain ⟨dS, cS, aS, s1, s2, s3⟩ := id hS1
    refine evp_num0 (K := K) (ev_col (T := T) (ev_var rfl) s1) s2 few H1 (Ex.refl H1) _ fun v H2 e2 ⟨r0, ev, hr0⟩ => ⟨by show 1 ≤ sizeLine; decide, fun ra nra => ?_⟩
    subst ev
    have e3 : Ex H1 (upd H2 ra (.lst [.ref r0])) := e2.trans (Ex.new nra)
    have hra : (upd H2 ra (.lst [.ref r0])) ra = some (.lst [.ref r0]) := upd_same
    have hr0' : (upd H2 ra (.lst [.ref r0])) r0 = some (.lst (vN (R S 0))) := Ex.new nra _ _ hr0
    have nra1 : H1 ra = none := fresh_back e2 nra
    have nra0 : H ra = none := by
      cases e : H ra with
      | none => rfl
      | some o =>
        by_cases z : ra = p
        · rw [z, hp1] at nra1
          cases nra1
        · rw [b1 _ _ e z] at nra1
          cases nra1
    generalize upd H2 ra (.lst [.ref r0]) = H3 at e3 hra hr0' ⊢
    refine ⟨_, rfl, p, _, dx, _, rfl, e3 _ _ hp1, T.cLevels.cl, T.nLevels_rows, (by show 1 < 1000; decide), ?_⟩
    rw [putRows]
    have b4 : But p H (upd H3 p (.ins T.cLevels.C dx (levF (.ref sp) (.ref ra)))) := But.upd (b1.trans (But.ex e3))
    have hp4 : (upd H3 p (.ins T.cLevels.C dx (levF (.ref sp) (.ref ra)))) p = some (.ins T.cLevels.C dx (levF (.ref sp) (.ref ra))) := upd_same
    have hra4 : (upd H3 p (.ins T.cLevels.C dx (levF (.ref sp) (.ref ra)))) ra = some (.lst ([r0].map V.ref)) := rd_upd hra (by rw [e3 _ _ hp1]; intro z; cases z)
    have hr4 : Rows (upd H3 p (.ins T.cLevels.C dx (levF (.ref sp) (.ref ra)))) [r0] (rndS S 0) := ⟨rfl, fun i r l h1 h2 => by
      cases i with
      | zero =>
        cases h1
        cases h2
        exact rd_upd hr0' (by rw [e3 _ _ hp1]; intro z; cases z)
      | succ n => cases h1⟩
    generalize upd H3 p (.ins T.cLevels.C dx (levF (.ref sp) (.ref ra))) = H4 at b4 hp4 hra4 hr4 ⊢
    refine q_asg ev_c fun H5 e5 => ?_
    refine s_while (fun n σ' H' => ∃ (j : Nat) (g : Bool) (v3 v4 v5 : Option V) (rs : List Addr), σ' = [some (.ref p), some (.ref sp), some (.bl g), v3, v4, v5] ∧ But p H H' ∧ H' p = some (.ins T.cLevels.C dx (levF (.ref sp) (.ref ra))) ∧ H' ra = some (.lst (rs.map V.ref)) ∧ Rows H' rs (rndS S j) ∧ j ≤ m ∧ (g = true → n = m - j + 1) ∧ (g = false → j = m))
      (m + 1) ⟨0, true, none, none, none, [r0], rfl, b4.trans (But.ex e5), e5 _ _ hp4, e5 _ _ hra4, hr4.mono e5, Nat.zero_le m, fun _ => rfl, fun z => by cases z⟩ ?_
    rintro n σ' H' ⟨j, g, v3, v4, v5, rs, rfl, b, hp', hra', rows, hj, g1, g2⟩
    refine ⟨g, et_B (ev_var rfl), fun gt H6 e6 => ?_, fun gf H6 e6 => ?_⟩
    · subst gt
      have hS' : SysAt T.cSystem.C H' sp S := but_sys hp (fun c a z => by cases z) b hS
      obtain ⟨dS', cS', aS', t1, t2, t3⟩ := id hS'
      obtain ⟨rl, hl1, hl2⟩ := rows_last rows
      refine ⟨fun σ2 H2 => ∃ n', n' < n ∧ ∃ (j : Nat) (g : Bool) (v3 v4 v5 : Option V) (rs : List Addr), σ2 = [some (.ref p), some (.ref sp), some (.bl g), v3, v4, v5] ∧ But p H H2 ∧ H2 p = some (.ins T.cLevels.C dx (levF (.ref sp) (.ref ra))) ∧ H2 ra = some (.lst (rs.map V.ref)) ∧ Rows H2 rs (rndS S j) ∧ j ≤ m ∧ (g = true → n' = m - j + 1) ∧ (g = false → j = m), fun σ2 H2 q => q, ?_⟩
      -- last = self.rows[-1]
      refine q_asg (v := .ref rl) (ev_op (ev_rows (T := T) (ev_var rfl) (e6 _ _ hp')) (ev_un ev_c ru_neg) (rv_ixL (sq_of (e6 _ _ hra')) hl1)) fun H7 e7 => ?_
      have e67 := e6.trans e7
      -- following = numbered([..])
      refine q_asgP (evp_numF (K := K) (S := S) (j := j) (el_lcRP (n := S.states) (fun _ => true) (fun i y H => FolAt H y (seenC S (R S j) i)) stays_fol (ea_cons (ev_meth (ev_var rfl) (e67 _ _ t1) (sysF_none _ _ _) ea_nil (sp_many (hS'.mono e67))) ea_nil) (by omega) fun i H8 e8 hi => ?_) few) fun v H8 e8 ⟨rf, ev, hrf⟩ => ?_
      · exact turn_of (fun Q H2 e2 q => q) rfl (fun H2 e2 Q k => k H2 (Ex.refl _)) (fun _ => evp_meth (ev_var rfl) (e8 _ _ (e67 _ _ t1)) (sysF_none _ _ _) (ea_cons (ev_var rfl) (ea_cons (ev_var rfl) ea_nil)) (sp_fol (hS'.mono (e67.trans e8)) W hi (e8 _ _ (e67 _ _ hl2)) (R_length S j)))
      subst ev
      have e68 := e67.trans e8
      -- goes_on = following != last
      refine q_asg (v := .bl (!decide (R S (j + 1) = R S j))) (ev_op (ev_var rfl) (ev_var rfl) fun H9 e9 Q k => ⟨_, _, dp_vN (e9 _ _ hrf), dp_vN (e9 _ _ (e68 _ _ hl2)), PySem.W.ke_shaped_ints _, PySem.W.ke_shaped_ints _, ?_⟩) fun H9 e9 => ?_
      · unfold dL
        rw [PyData.eqv, PySem.W.ked_eqvAll]
        have e1 : (List.map (fun (n : Nat) => (n : Int)) (R S (j + 1)) = List.map (fun (n : Nat) => (n : Int)) (R S j)) ↔ R S (j + 1) = R S j := ⟨fun z => map_inj (fun a b h => by omega) z, fun z => by rw [z]⟩
        rw [decide_eq_decide.mpr e1]
        exact k H9 (Ex.refl _)
      have e69 := e68.trans e9
      refine s_when (et_B (ev_var rfl)) (fun ct H10 e10 => ?_) (fun cf H10 e10 => ?_)
      · have ne : R S (j + 1) ≠ R S j := by simpa using ct
        have jm : j < m := by
          rcases Nat.lt_or_ge j m with z | z
          · exact z
          · have : j = m := by omega
            subst this
            exact absurd hst ne
        have e610 := e69.trans e10
        refine s_app (e610 _ _ hra') (ev_rows (T := T) (ev_var rfl) (e610 _ _ hp')) (ev_var rfl) (by rw [List.length_map, rows.1, rnd_len]; have := W.most; omega) fun H11 e11 => ?_
        have e611 := e610.trans e11
        have bb : But p H H11 := b.trans (But.ex e611)
        refine ⟨m - (j + 1) + 1, by have := g1 rfl; omega, j + 1, true, some (.ref rl), some (.ref rf), v5, rs ++ [rf], ?_, bb.mut nra0, ?_, ?_, ?_, jm, fun _ => rfl, fun z => by cases z⟩
        · rw [decide_eq_false ne]
          rfl
        · refine rd_upd (e611 _ _ hp') ?_
          rw [e611 _ _ hra']
          intro z
          cases z
        · rw [upd_same, List.map_append]
          rfl
        · have hrf11 : H11 rf = some (.lst (vN (R S (j + 1)))) := (e9.trans (e10.trans e11)) _ _ hrf
          have rowsN : Rows H11 (rs ++ [rf]) (rndS S (j + 1)) := by
            rw [rnd_succ]
            exact rows_snoc (rows.mono e611) hrf11
          refine ⟨rowsN.1, fun i r l h1 h2 => rd_upd (rowsN.2 i r l h1 h2) ?_⟩
          rw [e611 _ _ hra']
          intro z
          have z := Option.some.inj z
          injection z with z
          -- a list of addresses is none of numbers, unless both are empty
          have ll : l ≠ [] := by
            intro zl
            have hi : i ≤ j + 1 := by
              have := (List.getElem?_eq_some_iff.mp h2).1
              rw [rnd_len] at this
              omega
            rw [rnd_get S hi] at h2
            have e1 := Option.some.inj h2
            have e2 := R_length S i
            rw [e1, zl] at e2
            have := W.pos
            simp at e2
            omega
          cases l with
          | nil => exact ll rfl
          | cons a t =>
            cases rs with
            | nil => cases z
            | cons b u =>
              injection z with z1 z2
              cases z1
      · have eq : R S (j + 1) = R S j := by simpa using cf
        have jm : j = m := by
          rcases Nat.lt_or_ge j m with z | z
          · exact absurd eq (hne j z)
          · omega
        have e610 := e69.trans e10
        refine ⟨0, by have := g1 rfl; omega, j, false, some (.ref rl), some (.ref rf), v5, rs, ?_, b.trans (But.ex e610), e610 _ _ hp', e610 _ _ hra', rows.mono e610, hj, (fun z => by cases z), fun _ => jm⟩
        rw [decide_eq_true eq]
        rfl
    · subst gf
      have jm := g2 rfl
      subst jm
      exact k H6 j ⟨hm, hst, dx, sp, ra, rs, e6 _ _ hp', (but_sys hp (fun c a z => by cases z) b hS).mono e6, e6 _ _ hra', rows.mono e6⟩ (b.trans (But.ex e6))
end
end LkW
end

section
set_option Elab.async false
set_option linter.all false
set_option maxRecDepth 100000
set_option maxHeartbeats 2000000
/-! Levels: classes and the smallest system. -/
namespace LkW
open PySem PySem.Spec PyProof.Rows L2 Evl Lk
open Ln (Sys Arc)

section
variable {K : PySem.W.Frag} {σ : L2.St} {H : Hp}
theorem ev_lenset {te : TE} {l : List Nat} (h : EvP te σ H (Lst (vN l))) (few : l.length ≤ 1000) : Ev (LkM.tLenSet K te) σ H (.int (l.eraseDups.length : Nat)) :=
  fun H1 e Q k => h H1 e _ fun v H2 e2 ⟨c, ev, hc⟩ => by
    subst ev
    refine ⟨c, l.map fun (n : Nat) => (n : Int), rfl, sq_of (by rw [hc, vN_int]), by rw [List.length_map]; omega, ?_⟩
    rw [dedup_map _ (fun a b h => by omega)]
    exact k H2 e2
theorem ev_index {te ty : TE} {ys : List V} {y z : V} {j : Nat} (h : EvL te σ H ys) (hy : ∀ H1, Ex H H1 → Ev ty σ H1 y) (fy : flatV y = true) (fs : ys.all flatV = true) (hz : ys[j]? = some z) (e1 : eqV z y = true) (no : ∀ (m : Nat) z', m < j → ys[m]? = some z' → eqV z' y = false) :
    Ev (tBM K "list" (rIndex K) te (tCons ty tNil)) σ H (.int (j : Nat)) :=
  fun H1 e Q k => h H1 e _ fun q H2 nq e2 hq => ⟨.inl ⟨rfl, _, sq_of hq⟩, hy H2 (e.trans e2) H2 (Ex.refl _) _ fun H3 e3 => ⟨q, ys, y, j, z, rfl, rfl, sq_of (e3 _ _ hq), fy, fs, hz, e1, no, k H3 (e2.trans e3)⟩⟩
/-- for over enumerate -/
theorem s_forE {a : Addr} {xs : List V} {ta : TA} {g : TG} {tu : TS} {D : Ends} (h : EvA ta σ H [.ref a]) (hx : SqL K H a xs) (Pv : Nat → L2.St → Hp → Prop) (h0 : ∀ H1, Ex H H1 → Pv 0 σ H1) (hl : ∀ i σ' H', i ≤ xs.length → Pv i σ' H' → SqL K H' a xs)
    (hs : ∀ (i : Nat) x T σ' H', xs[i]? = some x → Pv i σ' H' → H' T = none → g (.ref T) σ' (upd H' T (.tup [.int (i : Int), x])) fun σ2 H2 => tu { D with nx := Pv (i + 1), ct := Pv (i + 1), bk := D.nx } σ2 H2) (hd : ∀ σ' H', Pv xs.length σ' H' → D.nx σ' H') : tFor (iEnum K ta) g tu D σ H :=
  h H (Ex.refl H) _ fun H2 e2 => by
    refine ⟨a, xs, rfl, ex_l e2 hx, fun i m σ' H' => m = xs.length - i ∧ i ≤ xs.length ∧ Pv i σ' H', ⟨xs.length, by simp, Nat.zero_le _, h0 H2 e2⟩, ?_⟩
    rintro i m σ' H' ⟨rfl, hi, p⟩
    have q := hl i σ' H' hi p
    by_cases hlt : i < xs.length
    · refine .inr ⟨⟨xs, xs[i], q, by simp [hlt]⟩, Pv (i + 1), fun σ2 H2 p' => ⟨xs.length - (i + 1), by omega, rfl, hlt, p'⟩, fun x H3 y => ?_⟩
      obtain ⟨T, z, rfl, nT, rfl, y⟩ := y
      exact hs i z T σ' H' (y xs q) p nT
    · have e : i = xs.length := by omega
      subst e
      exact .inl ⟨⟨xs, q, Nat.le_refl _⟩, hd σ' H' p⟩
end

section
variable {P : Program} {w : World} {K : PySem.W.Frag} {mg : Str → Option Value} {base : Heap} (T : Txt K mg)
/-! #### classes -/
def spCls (CS CL : Addr) : Sp := fun vs H Q _ => ∃ p S m, vs = [.ref p] ∧ LevAt CS CL H p S m ∧ Wf S ∧ Gives H Q (Lst (vN S.classes))
theorem ok_Levels_classes : FnOk P w K mg base CX0 1 T.Levels_classes.f T.Levels_classes.fd ["self"] (spCls T.cSystem.C T.cLevels.C) := by
  refine T.Levels_classes.F.ok sc_Levels_classes (fun vs H Q E h => ?_) (fun cdv A outer s H vs Q E hr h => ⟨_, (pss_one (ps_ret (pe_ix ix_list (pe_fld (pv 0) (by rfl)) (pe_un un_neg pe_int) (fun _ _ => rfl)))), ?_⟩)
  · obtain ⟨p, S, m, rfl, _⟩ := h
    rfl
  · obtain ⟨p, S, m, rfl, ⟨hm, hst, dx, sp, ra, rs, h1, h2, h3, h4⟩, W, k⟩ := h
    obtain ⟨r, l1, l2⟩ := rows_last h4
    refine s_ret (v := .ref r) (ev_op (ev_rows (T := T) (ev_var rfl) h1) (ev_un ev_c ru_neg) (rv_ixL (sq_of h3) l1)) fun H1 e1 => k _ H1 e1 ⟨r, rfl, ?_⟩
    rw [classes_stop S W hm hst]
    exact e1 _ _ l2
theorem sp_cls {CS CL : Addr} {H : Hp} {p : Addr} {S : Sys} {m : Nat} (h : LevAt CS CL H p S m) (W : Wf S) : SpP (spCls CS CL) [.ref p] H (Lst (vN S.classes)) := fun H1 e Q E k => ⟨p, S, m, rfl, h.mono e, W, k⟩
theorem evp_cls {σ : L2.St} {H : Hp} {te : TE} {p : Addr} {S : Sys} {m : Nat} {CS CL : Addr} (h : Ev te σ H (.ref p)) (hL : LevAt CS CL H p S m) (W : Wf S) : EvP (tMeth CL "classes" (spCls CS CL) [] E0 te tNil) σ H (Lst (vN S.classes)) := by
  obtain ⟨hm, hst, dx, sp, ra, rs, h1, h2, h3, h4⟩ := id hL
  exact evp_meth h h1 (levF_none _ _ _) ea_nil (sp_cls hL W)

/-! #### count -/
def spCount (CS CL : Addr) : Sp := fun vs H Q _ => ∃ p S m, vs = [.ref p] ∧ LevAt CS CL H p S m ∧ Wf S ∧ Gives H Q (fun v _ => v = .int (S.count : Int))
theorem ok_Levels_count : FnOk P w K mg base CX0 2 T.Levels_count.f T.Levels_count.fd ["self"] (spCount T.cSystem.C T.cLevels.C) := by
  have G_Levels_classes := ok_Levels_classes (P := P) (w := w) (base := base) T
  refine T.Levels_count.F.ok sc_Levels_count (fun vs H Q E h => ?_) (fun cdv A outer s H vs Q E hr h => ⟨_, (pss_one (ps_ret (LkM.pe_lenSet (by rfl) T.g_len (by rfl) T.g_set (pe_meth0 (pv 0) T.cLevels.cl T.Levels_classes.m G_Levels_classes (hr.mono (by first | decide | omega)) T.b_Levels_classes .nil pass0)))), ?_⟩)
  · obtain ⟨p, S, m, rfl, _⟩ := h
    rfl
  · obtain ⟨p, S, m, rfl, hL, W, k⟩ := h
    exact s_ret (ev_lenset (evp_cls (ev_var rfl) hL W) (by rw [classes_length S W]; have := W.most; omega)) fun H1 e1 => k _ H1 e1 rfl
theorem sp_count {CS CL : Addr} {H : Hp} {p : Addr} {S : Sys} {m : Nat} (h : LevAt CS CL H p S m) (W : Wf S) : SpP (spCount CS CL) [.ref p] H (fun v _ => v = .int (S.count : Int)) := fun H1 e Q E k => ⟨p, S, m, rfl, h.mono e, W, k⟩
theorem ev_count {σ : L2.St} {H : Hp} {te : TE} {p : Addr} {S : Sys} {m : Nat} {CS CL : Addr} (h : Ev te σ H (.ref p)) (hL : LevAt CS CL H p S m) (W : Wf S) : Ev (tMeth CL "count" (spCount CS CL) [] E0 te tNil) σ H (.int (S.count : Int)) := by
  obtain ⟨hm, hst, dx, sp, ra, rs, h1, h2, h3, h4⟩ := id hL
  exact ev_meth h h1 (levF_none _ _ _) ea_nil (sp_count hL W)

/-! #### are_same -/
def spSame (CS CL : Addr) : Sp := fun vs H Q _ => ∃ p S m s t, vs = [.ref p, .int (s : Nat), .int (t : Nat)] ∧ LevAt CS CL H p S m ∧ Wf S ∧ s < S.states ∧ t < S.states ∧ Gives H Q (fun v _ => v = .bl (S.depth s t).isNone)
theorem ok_Levels_are_same : FnOk P w K mg base CX0 2 T.Levels_are_same.f T.Levels_are_same.fd ["self", "one", "other"] (spSame T.cSystem.C T.cLevels.C) := by
  have G_Levels_classes := ok_Levels_classes (P := P) (w := w) (base := base) T
  refine T.Levels_are_same.F.ok sc_Levels_are_same (fun vs H Q E h => ?_) (fun cdv A outer s H vs Q E hr h => ⟨_, (pss_one (ps_ret (pe_cmpR op_eq (pe_ix ix_list (pe_meth0 (pv 0) T.cLevels.cl T.Levels_classes.m G_Levels_classes (hr.mono (by first | decide | omega)) T.b_Levels_classes .nil pass0) (pv 1) (fun _ _ => rfl)) (pe_ix ix_list (pe_meth0 (pv 0) T.cLevels.cl T.Levels_classes.m G_Levels_classes (hr.mono (by first | decide | omega)) T.b_Levels_classes .nil pass0) (pv 2) (fun _ _ => rfl)) (nomark _)))), ?_⟩)
  · obtain ⟨p, S, m, s, t, rfl, _⟩ := h
    rfl
  · obtain ⟨p, S, m, s, t, rfl, hL, W, hs, ht, k⟩ := h
    have ix : ∀ (i j : Nat), i < S.states → (L2.start n_Levels_are_same [.ref p, .int (s : Int), .int (t : Int)])[j]? = some (some (.int (i : Int))) → Ev (tOp (rIxL K) (tMeth T.cLevels.C "classes" (spCls T.cSystem.C T.cLevels.C) [] E0 (tVar 0) tNil) (tVar j)) (L2.start n_Levels_are_same [.ref p, .int (s : Int), .int (t : Int)]) H (.int ((S.classes.getD i 0 : Nat) : Int)) :=
      fun i j hi hj H1 e Q k => evp_cls (σ := L2.start n_Levels_are_same [.ref p, .int (s : Int), .int (t : Int)]) (te := tVar 0) (ev_var rfl) hL W H1 e _ fun v H2 e2 ⟨c, ev, hc⟩ => by
        subst ev
        exact ⟨_, hj, c, _, (i : Int), _, rfl, rfl, sq_of hc, vN_at (by rw [classes_length S W]; exact hi), k _ e2⟩
    refine s_ret (ev_op (ix s 1 hs rfl) (ix t 2 ht rfl) (rv_eq rfl)) fun H1 e1 => k _ H1 e1 ?_
    obtain ⟨hm, hst, _⟩ := hL
    rw [depth_stop S W hm hst hs ht, classes_stop S W hm hst]
    congr 1
    exact decide_eq_decide.mpr ⟨fun h => by injection h with h; omega, fun h => by rw [h]⟩
theorem sp_same {CS CL : Addr} {H : Hp} {p : Addr} {S : Sys} {m s t : Nat} (h : LevAt CS CL H p S m) (W : Wf S) (hs : s < S.states) (ht : t < S.states) : SpP (spSame CS CL) [.ref p, .int (s : Int), .int (t : Int)] H (fun v _ => v = .bl (S.depth s t).isNone) := fun H1 e Q E k => ⟨p, S, m, s, t, rfl, h.mono e, W, hs, ht, k⟩

/-! #### depth -/
def spDepth (CS CL : Addr) : Sp := fun vs H Q _ => ∃ p S m s t d, vs = [.ref p, .int (s : Nat), .int (t : Nat)] ∧ LevAt CS CL H p S m ∧ Wf S ∧ s < S.states ∧ t < S.states ∧ S.depth s t = some d ∧ Gives H Q (fun v _ => v = .int (d : Int))
theorem ok_Levels_depth : FnOk P w K mg base CX0 1 T.Levels_depth.f T.Levels_depth.fd ["self", "one", "other"] (spDepth T.cSystem.C T.cLevels.C) := by
  refine T.Levels_depth.F.ok sc_Levels_depth (fun vs H Q E h => ?_) (fun cdv A outer s H vs Q E hr h => ⟨_, (pss_one (ps_ret (pe_bm PySem.F.plainAttrs_list PySem.F.slot_list_index PySem.F.type_list_index mt_index (pe_lc (own := [("row", 3)]) (g := gName 3) (te := tOp rEq (tOp (rIxL K) (tVar 3) (tVar 1)) (tOp (rIxL K) (tVar 3) (tVar 2))) (by rfl) sc_Levels_depth.nd (pi_list (pe_fld (pv 0) (by rfl))) (blkOk_by (own := [("row", 3)]) (N := n_Levels_depth) (sc := defScope s_Levels_depth) (by decide +kernel)) (fun _ _ _ _ _ => (pg_name (i := 3) sc_Levels_depth.nd rfl (Or.inl rfl))) (fun _ _ _ _ _ => pts_nil) (fun _ _ _ _ _ => (pe_cmpR op_eq (pe_ix ix_list (pv 3) (pv 1) (fun _ _ => rfl)) (pe_ix ix_list (pv 3) (pv 2) (fun _ _ => rfl)) (nomark _)))) (pa_cons pe_bl pa_nil)))), ?_⟩)
  · obtain ⟨p, S, m, s, t, d, rfl, _⟩ := h
    rfl
  · obtain ⟨p, S, m, s, t, d, rfl, ⟨hm, hst, dx, sp, ra, rs, h1, h2, h3, h4⟩, W, hs, ht, hd, k⟩ := h
    obtain ⟨dk, dn, db⟩ := depth_part S W hd
    have dm : d ≤ m := by
      rcases Nat.lt_or_ge m d with z | z
      · have e1 := db m z
        have e2 := R_last S hst (Nat.le_of_lt z)
        rw [e2] at dn
        exact absurd e1 dn
      · exact z
    have len : rs.length = m + 1 := by rw [h4.1, rnd_len]
    refine s_ret (ev_index (K := K) (ys := (List.range (m + 1)).map fun i => V.bl (decide ((R S i).getD s 0 = (R S i).getD t 0))) (z := .bl false) (j := d) (elp_l (ElP.imp (el_lcLP (fun _ => true) (fun i y H => y = V.bl (decide ((R S i).getD s 0 = (R S i).getD t 0))) stays_val (ev_rows (T := T) (ev_var rfl) h1) (sq_of h3)
        (by rw [List.length_map, len]; have := W.most; omega) fun i x H1 e1 hx => ?_) fun ys H2 e2 g => ?_)) (fun H1 e1 => ev_c) rfl ?_ ?_ rfl fun i z hi hz => ?_) fun H1 e1 => k _ H1 e1 rfl
    · have hi : i ≤ m := by
        have := (List.getElem?_eq_some_iff.mp hx).1
        rw [List.length_map, len] at this
        omega
      obtain ⟨r, r1, r2⟩ := rows_at h4 hi
      rw [List.getElem?_map, r1] at hx
      have ex : V.ref r = x := Option.some.inj hx
      subst ex
      refine turn_of (fun Q H2 e2 q => q) rfl (fun H2 e2 Q k => k H2 (Ex.refl _)) (fun _ => evp (ev_is (ev_op (ev_ixN (ev_var rfl) (ev_var rfl) (e1 _ _ r2) (by rw [R_length]; exact hs)) (ev_ixN (ev_var rfl) (ev_var rfl) (e1 _ _ r2) (by rw [R_length]; exact ht)) (rv_eq rfl)) ?_))
      congr 1
      exact decide_eq_decide.mpr ⟨fun h => by injection h with h; omega, fun h => by rw [h]⟩
    · rw [g.vals, List.length_map, len, List.filter_eq_self.mpr (fun _ _ => rfl)]
    · rw [List.all_map]
      exact List.all_eq_true.mpr fun x _ => rfl
    · rw [List.getElem?_map, List.getElem?_range (by omega)]
      show some (V.bl _) = _
      rw [decide_eq_false dn]
    · rw [List.getElem?_map, List.getElem?_range (by omega)] at hz
      have ez : V.bl (decide ((R S i).getD s 0 = (R S i).getD t 0)) = z := Option.some.inj hz
      rw [decide_eq_true (db i hi)] at ez
      subst ez
      rfl
theorem sp_depth {CS CL : Addr} {H : Hp} {p : Addr} {S : Sys} {m s t d : Nat} (h : LevAt CS CL H p S m) (W : Wf S) (hs : s < S.states) (ht : t < S.states) (hd : S.depth s t = some d) : SpP (spDepth CS CL) [.ref p, .int (s : Int), .int (t : Int)] H (fun v _ => v = .int (d : Int)) := fun H1 e Q E k => ⟨p, S, m, s, t, d, rfl, h.mono e, W, hs, ht, hd, k⟩

/-! #### quotient -/
def spQuot (CS CL : Addr) : Sp := fun vs H Q _ => ∃ p S m, vs = [.ref p] ∧ LevAt CS CL H p S m ∧ Wf S ∧ Gives H Q (SysG CS S.quotient)
theorem ok_Levels_quotient : FnOk P w K mg base CX0 3 T.Levels_quotient.f T.Levels_quotient.fd ["self"] (spQuot T.cSystem.C T.cLevels.C) := by
  have G_Levels_classes := ok_Levels_classes (P := P) (w := w) (base := base) T
  have G_Levels_count := ok_Levels_count (P := P) (w := w) (base := base) T
  have G_System_init0 := ok_System_init0 (P := P) (w := w) (base := base) T
  refine T.Levels_quotient.F.ok sc_Levels_quotient (fun vs H Q E h => ?_) (fun cdv A outer s H vs Q E hr h => ⟨_, (pss_cons (ps_set (i := 1) sc_Levels_quotient.nd rfl (Or.inr rfl) (pe_meth0 (pv 0) T.cLevels.cl T.Levels_classes.m G_Levels_classes (hr.mono (by first | decide | omega)) T.b_Levels_classes .nil pass0)) (pss_cons (ps_set (i := 2) sc_Levels_quotient.nd rfl (Or.inl rfl) (pe_op op_rep (pe_lst (pa_cons pe_int pa_nil)) (pe_meth0 (pv 0) T.cLevels.cl T.Levels_count.m G_Levels_count (hr.mono (by first | decide | omega)) T.b_Levels_count .nil pass0))) (pss_cons (ps_for PassesOwn.never (by rfl) (pi_enum (by rfl) T.g_enumerate (pa_cons (pe_fld (pe_fld (pv 0) (by rfl)) (by rfl)) pa_nil)) (pg_tup (by rfl) (pgs_cons (pg_name (i := 3) sc_Levels_quotient.nd rfl (Or.inl rfl)) (pgs_cons (pg_name (i := 4) sc_Levels_quotient.nd rfl (Or.inl rfl)) pgs_nil))) (pss_one (ps_asg (pv 4) (pg_sub (pv 2) (pe_ix ix_list (pv 1) (pv 3) (fun _ _ => rfl)) set_list)))) (pss_cons (ps_setLc (i := 5) (own := [("begin", 6), ("label", 7), ("to", 8)]) (g := gTup K 3 (gCons (gName 6) (gCons (gName 7) (gCons (gName 8) gNil)))) (te := tTup (tCons (tOp (rIxL K) (tVar 1) (tVar 6)) (tCons (tVar 7) (tCons (tOp (rIxL K) (tVar 1) (tVar 8)) tNil)))) (by rfl) sc_Levels_quotient.nd rfl rfl (sw_true rfl rfl rfl (by decide +kernel)) (pi_list (pe_fld (pe_fld (pv 0) (by rfl)) (by rfl))) (blkOk_by (own := [("begin", 6), ("label", 7), ("to", 8)]) (N := n_Levels_quotient) (sc := defScope s_Levels_quotient) (by decide +kernel)) (fun _ _ _ _ _ => (pg_tup (by rfl) (pgs_cons (pg_name (i := 6) sc_Levels_quotient.nd rfl (Or.inl rfl)) (pgs_cons (pg_name (i := 7) sc_Levels_quotient.nd rfl (Or.inl rfl)) (pgs_cons (pg_name (i := 8) sc_Levels_quotient.nd rfl (Or.inl rfl)) pgs_nil))))) (fun _ _ _ _ _ => pts_nil) (fun _ _ _ _ _ => (pe_tup (pa_cons (pe_ix ix_list (pv 1) (pv 6) (fun _ _ => rfl)) (pa_cons (pv 7) (pa_cons (pe_ix ix_list (pv 1) (pv 8) (fun _ _ => rfl)) pa_nil)))))) (pss_one (ps_ret (pe_make T.mk_System G_System_init0 (hr.mono (by first | decide | omega)) (by rfl) T.cSystem.g T.b_System_init0 .nil pass0 (pa_cons (pv 2) (pa_cons (pe_callB (LkS.cr_sortSB (by rfl) (units70 hr)) (by rfl) T.g_sorted (by decide +kernel) (pa_cons (pe_callTy (LkS.cr_setB (by rfl) hr.units) (by rfl) T.g_set (by decide +kernel) (pa_cons (pv 5) pa_nil)) pa_nil)) pa_nil))))))))), ?_⟩)
  · obtain ⟨p, S, m, rfl, _⟩ := h
    rfl
  · obtain ⟨p, S, m, rfl, hL, W, k⟩ := h
    obtain ⟨hm, hst, dx, sp, ra, rs, h1, h2, h3, h4⟩ := id hL
    obtain ⟨dS, cS, aS, s1, s2, s3⟩ := id h2
    have clen := classes_length S W
    have cle := count_le S W
    have most := W.most
    -- classes = self.classes()
    refine q_asgP (evp_cls (ev_var rfl) hL W) fun v H1 e1 ⟨c, ev, hc⟩ => ?_
    subst ev
    -- colours = [0] * self.count()
    refine q_asgL (xs := vN (List.replicate S.count 0)) (fun H2 e2 Q k => el_lst (ea_cons ev_c ea_nil) (by simp) H2 e2 _ fun q H3 n3 e3 hq => ev_count (σ := [some (.ref p), some (.ref c), none, none, none, none, none, none, none]) (ev_var rfl) (hL.mono ((e1.trans e2).trans e3)) W H3 (Ex.refl _) _ fun H4 e4 => ⟨q, (S.count : Int), _, rfl, rfl, e4 _ _ hq, by omega, by omega, ?_, fun r hr => k r _ (fresh_back (e3.trans e4) hr) ((e3.trans e4).trans (Ex.new hr)) ?_⟩) fun cl H2 ncl e2 hcl => ?_
    · rw [Int.toNat_natCast]
      exact sz_of (by simp; omega)
    · rw [upd_same]
      congr 2
      rw [Int.toNat_natCast]
      unfold vN
      simp
    have e12 := e1.trans e2
    -- for state, colour in enumerate(..)
    refine s_forE (D := { nx := _, rt := Q }) (xs := vN S.colours) (ea_cons (ev_col (T := T) (ev_lsys (T := T) (ev_var rfl) (e12 _ _ h1)) (e12 _ _ s1)) ea_nil) (sq_of (e12 _ _ s2))
      (fun i σ' H' => ∃ (v3 v4 : Option V) (q : List Nat), σ' = [some (.ref p), some (.ref c), some (.ref cl), v3, v4, none, none, none, none] ∧ Ex H1 H' ∧ H' cl = some (.lst (vN q)) ∧ q.length = S.count ∧ ∀ t, t < i → q.getD (S.classes.getD t 0) 0 = S.colours.getD t 0) ?_ ?_ ?_ ?_
    · intro H3 e3
      exact ⟨none, none, _, rfl, e2.trans e3, e3 _ _ hcl, by simp, fun t ht => absurd ht (Nat.not_lt_zero t)⟩
    · rintro i σ' H' hi ⟨v3, v4, q, rfl, e, _⟩
      exact sq_of (e _ _ (e1 _ _ s2))
    · rintro i x t σ' H' hx ⟨v3, v4, q, rfl, e, hq, ql, qv⟩ nt
      have hi : i < S.states := by
        have := (List.getElem?_eq_some_iff.mp hx).1
        rw [vN_len] at this
        exact this
      rw [vN_get hi] at hx
      have ex := Option.some.inj hx
      subst ex
      have hlt := class_lt S W hi
      refine gtup2 upd_same ?_
      have e' : Ex H1 (upd H' t (.tup [.int (i : Int), .int ((S.colours.getD i 0 : Nat) : Int)])) := e.trans (Ex.new nt)
      have hq' : (upd H' t (.tup [.int (i : Int), .int ((S.colours.getD i 0 : Nat) : Int)])) cl = some (.lst (vN q)) := Ex.new nt _ _ hq
      generalize upd H' t (.tup [.int (i : Int), .int ((S.colours.getD i 0 : Nat) : Int)]) = H3 at e' hq' ⊢
      refine s_setL (j := S.classes.getD i 0) hq' (ev_var rfl) (ev_var rfl) (ev_ixN (K := K) (ev_var rfl) (ev_var rfl) (e' _ _ hc) (by rw [clen]; exact hi)) (by rw [vN_len, ql]; exact hlt) fun H4 e4 => ?_
      have eset : (vN q).set (S.classes.getD i 0) (.int ((S.colours.getD i 0 : Nat) : Int)) = vN (q.set (S.classes.getD i 0) (S.colours.getD i 0)) := by
        unfold vN
        rw [List.map_set]
      exact ⟨_, _, q.set (S.classes.getD i 0) (S.colours.getD i 0), rfl, Ex.mut (e'.trans e4) ncl, by rw [upd_same, eset], by simp [ql], quot_step S W hi ql qv⟩
    · rintro σ' H' ⟨v3, v4, q, rfl, e, hq, ql, qv⟩
      rw [vN_len] at qv
      have eq : q = S.quotient.colours := quot_colours S W q ql qv
      subst eq
      have e' := e1.trans e
      -- arcs = [..]
      refine q_asgP (P := Lts ((quotArcs S).map arcI)) (lts_giv (el_lcT (L := S.arcs.map arcI) (fun _ => true) (fun i y H => ∃ t, y = V.ref t ∧ H t = some (.tup ((arcI (S.classes.getD (S.arcs.getD i (0, 0, 0)).1 0, (S.arcs.getD i (0, 0, 0)).2.1, S.classes.getD (S.arcs.getD i (0, 0, 0)).2.2 0)).map V.int))) stays_tup
        (lts_v (ev_arc (T := T) (ev_lsys (T := T) (ev_var rfl) (e' _ _ h1)) (e' _ _ s1)) (s3.mono e')) (by rw [List.length_map]; have := W.few; omega) ?_) ?_) fun v H5 e5 ⟨al, ev, hal⟩ => ?_
      · intro i x t H5 e5 hx ht
        obtain ⟨hi, rfl⟩ := arcs_at hx
        have bd := W.bd _ (getD_mem (d := (0, 0, 0)) hi)
        exact turn_of (fun Q H2 e2 q => gtup3 (e2 _ _ ht) q) rfl (fun H2 e2 Q k => k H2 (Ex.refl _)) (fun _ => evp_tup (ea_cons (ev_ixN (ev_var rfl) (ev_var rfl) (e5 _ _ (e _ _ hc)) (by rw [clen]; exact bd.1)) (ea_cons (ev_var rfl) (ea_cons (ev_ixN (ev_var rfl) (ev_var rfl) (e5 _ _ (e _ _ hc)) (by rw [clen]; exact bd.2.2)) ea_nil))) rfl (by simp))
      · rw [List.length_map]
        unfold quotArcs
        rw [List.map_map]
        exact (rfm S.arcs (0, 0, 0) (fun _ => true) (fun a => arcI (S.classes.getD a.1 0, a.2.1, S.classes.getD a.2.2 0))).trans (by rw [List.filter_eq_self.mpr (fun _ _ => rfl)]; rfl)
      · subst ev
        have WQ := wf_quotient S W
        refine s_retP (evp_sys (S := S.quotient) (lst_v (ev_var rfl) (e5 _ _ hq)) (evp_setsort (K := K) (P := P) (w := w) (l := quotArcs S) (m := S.quotient.arcs) decA decA_enc arcLt (fun _ _ => arc_lt_of) (fun _ _ _ => arcLt_trans) arcLt_irrefl (fun a => by simp [arcI]) (lts_v (ev_var rfl) hal) ?_ WQ.up (fun x => ?_))) fun v H6 e6 q => k v H6 ((e'.trans e5).trans e6) q
        · unfold quotArcs
          rw [List.length_map]
          have := W.few
          omega
        · rw [quot_arcs, mem_foldr_putArc]
end
end LkW
end

section
set_option Elab.async false
set_option linter.all false
set_option maxRecDepth 100000
set_option maxHeartbeats 2000000
/-! Formulas: numbers in a text; faults. -/
namespace LkW
open PySem PySem.Spec PyProof.Rows L2 Evl Lk
open Ln (Sys Arc Bytes isDigit valueOf numIn byteIn)

def bV (t : Bytes) : List V := t.map fun (b : UInt8) => V.int (b.toNat : Int)
theorem bV_len (t : Bytes) : (bV t).length = t.length := List.length_map ..
theorem bV_get {t : Bytes} {i : Nat} (h : i < t.length) : (bV t)[i]? = some (.int ((t[i].toNat : Nat) : Int)) := by
  unfold bV
  rw [List.getElem?_map, List.getElem?_eq_getElem h]
  rfl
theorem bV_int (t : Bytes) : bV t = (t.map fun (b : UInt8) => (b.toNat : Int)).map V.int := by
  unfold bV
  rw [List.map_map]
  rfl
abbrev rLe : R2 := rI0 fun i j => .bl (decide (i ≤ j))
abbrev rLt : R2 := rI0 fun i j => .bl (decide (i < j))
/-- an exception of one's own leaves, from the heap H on -/
def Rs (C : Addr) (f : Str) (v : V) (H : Hp) (E : XK) : Prop := ∀ d H2, Ex H H2 → H2 d = some (.xd [(f, v)]) → E (.ref C) (some d) H2
theorem Rs.go {C : Addr} {f : Str} {v : V} {H H' : Hp} {E : XK} (e : Ex H H') (h : Rs C f v H E) : Rs C f v H' E := fun d H2 e2 q => h d H2 (e.trans e2) q
section
variable {K : PySem.W.Frag} {σ : L2.St} {H : Hp} {ta tb tc te : TE}
theorem et_chain {a b c : Int} (ha : Ev ta σ H (.int a)) (hb : Ev tb σ H (.int b)) (hc : Ev tc σ H (.int c)) : EvT (tTest (tChain rLe rLe ta tb tc)) σ H (decide (a ≤ b) && decide (b ≤ c)) :=
  fun H1 e Q k => ha H1 e _ fun H2 e2 => hb H2 (e.trans e2) _ fun H3 e3 => ⟨a, b, rfl, rfl, decide (a ≤ b), rfl, by
    cases h : decide (a ≤ b) with
    | true =>
      rw [if_pos rfl]
      refine hc H3 ((e.trans e2).trans e3) _ fun H4 e4 => ⟨b, c, rfl, rfl, decide (b ≤ c), rfl, ?_⟩
      rw [h, Bool.true_and] at k
      exact k H4 ((e2.trans e3).trans e4)
    | false =>
      rw [if_neg (by decide)]
      refine ⟨false, rfl, ?_⟩
      rw [h, Bool.false_and] at k
      exact k H3 (e2.trans e3)⟩
theorem ev_chainB {r r' : R2} {a b c : Int} {g g' : Int → Int → Bool} (hr : r = rI0 fun i j => .bl (g i j)) (hr' : r' = rI0 fun i j => .bl (g' i j)) (ha : Ev ta σ H (.int a)) (hb : Ev tb σ H (.int b)) (hc : Ev tc σ H (.int c)) : Ev (tChain r r' ta tb tc) σ H (.bl (g a b && g' b c)) := by
  subst hr
  subst hr'
  exact fun H1 e Q k => ha H1 e _ fun H2 e2 => hb H2 (e.trans e2) _ fun H3 e3 => ⟨a, b, rfl, rfl, g a b, rfl, by
    cases h : g a b with
    | true =>
      rw [if_pos rfl]
      refine hc H3 ((e.trans e2).trans e3) _ fun H4 e4 => ⟨b, c, rfl, rfl, ?_⟩
      rw [h, Bool.true_and] at k
      exact k H4 ((e2.trans e3).trans e4)
    | false =>
      rw [if_neg (by decide)]
      rw [h, Bool.false_and] at k
      exact k H3 (e2.trans e3)⟩
/-- the making of such an exception -/
def spXInit (C : Addr) (f : Str) : Sp := fun vs H Q _ => ∃ (a : Addr) (v : V), vs = [.ref a, v] ∧ H a = some (exo a C none) ∧ ∀ dx, H dx = none → dx ≠ a → Q .non (upd (upd H dx (exd dx [(f, v)])) a (exo a C (some dx)))
theorem mk_x {C : Addr} {f : Str} {targs : TA} {v : V} {Q : XK} (ha : EvA targs σ H [v]) (k : Rs C f v H Q) : tMkO C (spXInit C f) [] targs σ H Q := by
  refine ha H (Ex.refl H) _ fun H1 e1 => ⟨by simp, fun a na => ⟨a, v, rfl, upd_same, fun dx nx ne => ⟨rfl, dx, [(f, v)], upd_same, ?_, ?_, ?_⟩⟩⟩
  · rw [upd_ne ne, upd_same]
  · rw [upd_ne ne] at nx
    exact nx
  · have nx1 : H1 dx = none := by
      rw [upd_ne ne] at nx
      exact nx
    refine k dx _ (e1.trans fun b o hb => ?_) upd_same
    have b1 : b ≠ a := fun z => by rw [z, na] at hb; cases hb
    have b2 : b ≠ dx := fun z => by rw [z, nx1] at hb; cases hb
    rw [upd_ne b2, del_ne b1, upd_ne b1, upd_ne b2, upd_ne b1]
    exact hb
end

theorem ge48 {c : UInt8} : (48 : UInt8) ≤ c ↔ 48 ≤ c.toNat := by rw [UInt8.le_iff_toNat_le]; rfl
theorem le57 {c : UInt8} : c ≤ (57 : UInt8) ↔ c.toNat ≤ 57 := by rw [UInt8.le_iff_toNat_le]; rfl
theorem digit_is (c : UInt8) : isDigit c = (decide ((48 : Int) ≤ (c.toNat : Int)) && decide ((c.toNat : Int) ≤ 57)) := by
  unfold isDigit
  congr 1
  · exact decide_eq_decide.mpr (ge48.trans (by omega))
  · exact decide_eq_decide.mpr (le57.trans (by omega))
/-- how many digits stand from a place on -/
def digs (t : Bytes) (i : Nat) : Nat := ((t.drop i).takeWhile isDigit).length
theorem digs_yes {t : Bytes} {i : Nat} (h : i < t.length) (hd : isDigit t[i] = true) : digs t i = digs t (i + 1) + 1 := by
  unfold digs
  rw [List.drop_eq_getElem_cons h, List.takeWhile_cons, if_pos hd, List.length_cons]
theorem digs_no {t : Bytes} {i : Nat} (h : i < t.length) (hd : isDigit t[i] = false) : digs t i = 0 := by
  unfold digs
  rw [List.drop_eq_getElem_cons h, List.takeWhile_cons, hd]
  rfl
theorem digs_end {t : Bytes} {i : Nat} (h : t.length ≤ i) : digs t i = 0 := by
  unfold digs
  rw [List.drop_of_length_le h]
  rfl
theorem digs_le (t : Bytes) (i : Nat) : digs t i ≤ t.length - i := by
  unfold digs
  have := takeWhile_le isDigit (t.drop i)
  rw [List.length_drop] at this
  exact this

section
variable {P : Program} {w : World} {K : PySem.W.Frag} {mg : Str → Option Value} {base : Heap} (T : Txt K mg)
theorem ok_Fault_init0 : FnOk P w K mg base CX0 1 T.Fault_init0.f T.Fault_init0.fd ["self", "place"] (spXInit T.xFault.C "place") := by
  refine T.Fault_init0.F.ok sc_Fault_init0 (fun vs H Q E h => ?_) (fun cdv A outer s H vs Q E hr h => ⟨_, (pss_cons (ps_expr (pe_veinit (by rfl) T.g_ValueError T.vV (pa_cons (pv 0) (pa_cons pe_str pa_nil)))) (pss_one (ps_ost (pv 0) (pv 1)))), ?_⟩)
  · obtain ⟨a, v, rfl, _⟩ := h
    rfl
  · obtain ⟨a, v, rfl, ha, k⟩ := h
    exact ⟨_, rfl, a, T.xFault.C, _, rfl, by simp, T.xFault.ox, ha, _, rfl, _, rfl, a, T.xFault.C, rfl, T.xFault.ox, T.xFault.nf, .inl ⟨ha, fun dx nx ne => k dx nx ne⟩⟩
theorem ok_Refused_init0 : FnOk P w K mg base CX0 1 T.Refused_init0.f T.Refused_init0.fd ["self", "told"] (spXInit T.xRefused.C "told") := by
  refine T.Refused_init0.F.ok sc_Refused_init0 (fun vs H Q E h => ?_) (fun cdv A outer s H vs Q E hr h => ⟨_, (pss_cons (ps_expr (pe_veinit (by rfl) T.g_ValueError T.vV (pa_cons (pv 0) (pa_cons pe_str pa_nil)))) (pss_one (ps_ost (pv 0) (pv 1)))), ?_⟩)
  · obtain ⟨a, v, rfl, _⟩ := h
    rfl
  · obtain ⟨a, v, rfl, ha, k⟩ := h
    exact ⟨_, rfl, a, T.xRefused.C, _, rfl, by simp, T.xRefused.ox, ha, _, rfl, _, rfl, a, T.xRefused.C, rfl, T.xRefused.ox, T.xRefused.nf, .inl ⟨ha, fun dx nx ne => k dx nx ne⟩⟩
/-- .. while an exception is handled -/
theorem okH_Refused_init0 : L2H.FnH P w K mg base CX0 1 T.Refused_init0.f T.Refused_init0.fd ["self", "told"] (spXInit T.xRefused.C "told") := by
  refine LkX.okH T.Refused_init0.F sc_Refused_init0 (fun vs H Q E h => ?_) (fun cdv A outer s H vs Q E p hp hr h => ⟨_, (pss_cons (ps_expr (pe_veinit (by rfl) T.g_ValueError T.vV (pa_cons (pv 0) (pa_cons pe_str pa_nil)))) (pss_one (ps_ost (pv 0) (pv 1)))), ?_⟩)
  · obtain ⟨a, v, rfl, _⟩ := h
    rfl
  · obtain ⟨a, v, rfl, ha, k⟩ := h
    exact ⟨_, rfl, a, T.xRefused.C, _, rfl, by simp, T.xRefused.ox, ha, _, rfl, _, rfl, a, T.xRefused.C, rfl, T.xRefused.ox, T.xRefused.nf, .inl ⟨ha, fun dx nx ne => k dx nx ne⟩⟩
/-! #### figures_end -/
def spFig : Sp := fun vs H Q _ => ∃ tx t i, vs = [.ref tx, .int (i : Nat)] ∧ H tx = some (.lst (bV t)) ∧ Gives H Q (fun v _ => v = .int ((i + digs t i : Nat) : Int))
theorem ok_figures_end : FnOk P w K mg base CX0 1 T.figures_end.f T.figures_end.fd ["text", "at"] spFig := by
  refine T.figures_end.F.ok sc_figures_end (fun vs H Q E h => ?_) (fun cdv A outer s H vs Q E hr h => ⟨_, (pss_cons (ps_while PassesOwn.never (PW.pt (pw_and (pt_cmpR op_lt (pv 1) (pe_callB call_len_seq (by rfl) T.g_len (by decide +kernel) (pa_cons (pv 0) pa_nil)) (nomark _)) (pw_and1 (pt_chain op_le op_le pe_int (pe_ix ix_list (pv 0) (pv 1) (fun _ _ => rfl)) pe_int)))) (pss_one (ps_set (i := 1) sc_figures_end.nd rfl (Or.inl rfl) (pe_op op_add (pv 1) pe_int)))) (pss_one (ps_ret (pv 1)))), ?_⟩)
  · obtain ⟨tx, t, i, rfl, _⟩ := h
    rfl
  · obtain ⟨tx, t, i, rfl, ht, k⟩ := h
    refine q_while (fun n σ' H' => ∃ j : Nat, σ' = [some (.ref tx), some (.int (j : Int))] ∧ Ex H H' ∧ j + digs t j = i + digs t i ∧ n = t.length - j) (t.length - i) ⟨i, rfl, Ex.refl H, rfl, rfl⟩ ?_
    rintro n σ' H' ⟨j, rfl, e, hj, hn⟩
    have t1 : EvT _ [some (.ref tx), some (.int (j : Int))] H' (decide ((j : Int) < (t.length : Int))) := et_test (ev_is (ev_op (r := rLt) (ta := tVar 1) (ev_var rfl) (ev_len (K := K) (ta := tVar 0) (ev_var rfl) (sq_of (e _ _ ht))) rv_I0) (by rw [bV_len]))
    by_cases c : j < t.length
    · have t2 : EvT _ [some (.ref tx), some (.int (j : Int))] H' (isDigit t[j]) := et_is (et_chain (ta := tC (.int 48)) (tb := tOp (rIxL K) (tVar 0) (tVar 1)) (tc := tC (.int 57)) ev_c (ev_op (ev_var rfl) (ev_var rfl) (rv_ixL (sq_of (e _ _ ht)) (atI_nat (bV_get c)))) ev_c) (digit_is _).symm
      refine ⟨_, et_and t1 fun _ => t2, fun h H1 e1 => ?_, fun h H1 e1 => ?_⟩
      · have hd : isDigit t[j] = true := by
          rw [Bool.and_eq_true] at h
          exact h.2
        have := digs_yes c hd
        refine ⟨fun σ2 H2 => ∃ m', m' < n ∧ ∃ j : Nat, σ2 = [some (.ref tx), some (.int (j : Int))] ∧ Ex H H2 ∧ j + digs t j = i + digs t i ∧ m' = t.length - j, fun σ2 H2 q => q, s_asg (ev_op (ev_var rfl) ev_c rv_I0) fun H2 e2 => ⟨t.length - (j + 1), by omega, j + 1, rfl, (e.trans e1).trans e2, by omega, rfl⟩⟩
      · have hd : isDigit t[j] = false := by
          rw [decide_eq_true (by omega : (j : Int) < (t.length : Int)), Bool.true_and] at h
          exact h
        have := digs_no c hd
        refine s_ret (ev_var rfl) fun H2 e2 => k _ H2 ((e.trans e1).trans e2) ?_
        congr 2
        omega
    · refine ⟨_, et_and (b := false) t1 fun h => absurd (of_decide_eq_true h) (by omega), (fun h H1 e1 => absurd h (by simp)), fun h H1 e1 => ?_⟩
      have := digs_end (t := t) (i := j) (by omega)
      refine s_ret (ev_var rfl) fun H2 e2 => k _ H2 ((e.trans e1).trans e2) ?_
      congr 2
      omega
end
end LkW
end

section
set_option Elab.async false
set_option linter.all false
set_option maxRecDepth 100000
set_option maxHeartbeats 2000000
/-! Formulas: number_at. -/
namespace LkW
open PySem PySem.Spec PyProof.Rows L2 Evl Lk
open Ln (Sys Arc Bytes isDigit valueOf numIn byteIn)

section
variable {K : PySem.W.Frag} {σ : L2.St} {H : Hp} {ta tb te : TE}
/-- xs == [], xs a list of numbers -/
theorem et_empty {xs : List Int} {a : Addr} (ha : Ev ta σ H (.ref a)) (h : H a = some (.lst (xs.map V.int))) : EvT (tTest (tOp (rEqD K) ta (tLst tNil))) σ H (decide (xs = [])) :=
  fun H1 e Q k => ha H1 e _ fun H2 e2 => ⟨by simp, fun q nq => ⟨dL xs, .list [], dp_L (Ex.new nq _ _ (e2 _ _ (e _ _ h))), dp_nil upd_same, PySem.W.ke_shaped_ints _, PySem.W.ke_shaped_ints [], _, rfl, by
    unfold dL
    rw [PyData.eqv]
    have := PySem.W.ked_eqvAll xs []
    rw [List.map_nil] at this
    rw [this]
    exact k _ (e2.trans (Ex.new nq))⟩⟩
end
theorem take_more {α : Type} {l : List α} {i : Nat} {x : α} (h : l[i]? = some x) : l.take (i + 1) = l.take i ++ [x] := by
  obtain ⟨hi, e⟩ := List.getElem?_eq_some_iff.mp h
  rw [List.take_succ, h]
  rfl
theorem value_more {d : Bytes} {i : Nat} (h : i < d.length) : valueOf (d.take (i + 1)) = 10 * valueOf (d.take i) + (d[i].toNat - 48) := by
  rw [take_more (List.getElem?_eq_getElem h)]
  unfold valueOf
  rw [List.foldl_append]
  rfl
theorem cut_digs {t : Bytes} {i : Nat} (hi : i ≤ t.length) : cutV (bV t) (some (i : Int)) (some ((i + digs t i : Nat) : Int)) = bV ((t.drop i).takeWhile isDigit) := by
  have hd := digs_le t i
  unfold cutV
  rw [HT.sIx_nat, HT.sIx_nat, bV_len, Nat.min_eq_left hi, Nat.min_eq_left (by omega), Nat.add_sub_cancel_left]
  unfold bV
  rw [← List.map_drop, ← List.map_take]
  congr 1
  unfold digs
  exact (List.prefix_iff_eq_take.mp (List.takeWhile_prefix isDigit)).symm
theorem digits_all (t : Bytes) : ∀ c ∈ t.takeWhile isDigit, isDigit c = true := fun c hc => by
  have := List.all_takeWhile (p := isDigit) (l := t)
  exact List.all_eq_true.mp this c hc
section
variable {P : Program} {w : World} {K : PySem.W.Frag} {mg : Str → Option Value} {base : Heap} (T : Txt K mg)
def spNumAt (CF : Addr) : Sp := fun vs H Q E => ∃ tx t i most, vs = [.ref tx, .int (i : Nat), .int (most : Nat)] ∧ H tx = some (.lst (bV t)) ∧ i ≤ t.length ∧ most ≤ 255 ∧
  (match numIn (most + 1) (i, t.drop i) with
    | .error e => Rs CF "place" (.int (e : Nat)) H E
    | .ok x => Gives H Q fun v H2 => ∃ q, v = .ref q ∧ H2 q = some (.tup [.int ((x.1 : Nat) : Int), .int ((x.2.1 : Nat) : Int)]))
theorem ok_number_at : FnOk P w K mg base (L2N.CX P w) 3 T.number_at.f T.number_at.fd ["text", "at", "most"] (spNumAt T.xFault.C) := by
  have G_figures_end := ok_figures_end (P := P) (w := w) (base := base) T
  have G_Fault_init0 := ok_Fault_init0 (P := P) (w := w) (base := base) T
  refine LkX.okN T.number_at.F sc_number_at (fun vs H Q E h => ?_) (fun cdv A outer s H vs Q E hr h => ⟨_, (pss_cons (ps_set (i := 3) sc_number_at.nd rfl (Or.inl rfl) (pe_call G_figures_end (hr.mono (by first | decide | omega)) (by rfl) T.figures_end.g T.figures_end.F.kp T.b_figures_end .nil pass0 (pa_cons (pv 0) (pa_cons (pv 1) pa_nil)))) (pss_cons (ps_set (i := 4) sc_number_at.nd rfl (Or.inl rfl) (pe_slice sl_list (pv 0) (po_some (pv 1)) (po_some (pv 3)))) (pss_cons (ps_if (PW.pt (pw_or (pt_cmpR (op_eqD hr.units) (pv 4) (pe_lst pa_nil) (nomark _)) (pw_or (pt_cmpR op_gt (pe_callB call_len_seq (by rfl) T.g_len (by decide +kernel) (pa_cons (pv 4) pa_nil)) pe_int (nomark _)) (pw_or1 (PW.pt (pw_and (pt_cmpR op_eq (pe_ix ix_list (pv 4) pe_int (fun _ _ => rfl)) pe_int (nomark _)) (pw_and1 (pt_cmpR op_gt (pe_callB call_len_seq (by rfl) T.g_len (by decide +kernel) (pa_cons (pv 4) pa_nil)) pe_int (nomark _))))))))) (pss_one (L2N.ps_raise (by rfl) (L2N.takes_of rfl rfl rfl rfl) (LkX.pmkN_oex T.xFault.ox T.Fault_init0.iC T.Fault_init0.tI G_Fault_init0 (hr.mono (by first | decide | omega)) T.b_Fault_init0 .nil pass0 (by rfl) T.xFault.g (pa_cons (pv 1) pa_nil)))) pss_nil) (pss_cons (ps_set (i := 5) sc_number_at.nd rfl (Or.inl rfl) pe_int) (pss_cons (ps_for PassesOwn.leaving (by rfl) (pi_list (pv 4)) (pg_name (i := 6) sc_number_at.nd rfl (Or.inl rfl)) (pss_one (ps_set (i := 5) sc_number_at.nd rfl (Or.inl rfl) (pe_op op_sub (pe_op op_add (pe_op op_mul pe_int (pv 5)) (pv 6)) pe_int)))) (pss_cons (ps_if (pt_cmpR op_gt (pv 5) (pv 2) (nomark _)) (pss_one (L2N.ps_raise (by rfl) (L2N.takes_of rfl rfl rfl rfl) (LkX.pmkN_oex T.xFault.ox T.Fault_init0.iC T.Fault_init0.tI G_Fault_init0 (hr.mono (by first | decide | omega)) T.b_Fault_init0 .nil pass0 (by rfl) T.xFault.g (pa_cons (pv 1) pa_nil)))) pss_nil) (pss_one (ps_ret (pe_tup (pa_cons (pv 5) (pa_cons (pv 3) pa_nil))))))))))), ?_⟩)
  · obtain ⟨tx, t, i, most, rfl, _⟩ := h
    rfl
  · obtain ⟨tx, t, i, most, rfl, ht, hi, hm, k⟩ := h
    have hdl := digs_le t i
    -- end
    refine q_asg (v := .int ((i + digs t i : Nat) : Int)) (evv (evp_call (ea_cons (ev_var rfl) (ea_cons (ev_var rfl) ea_nil)) fun H1 e Q E k => ⟨tx, t, i, rfl, e _ _ ht, k⟩)) fun H1 e1 => ?_
    -- row
    refine q_asgL (el_sl (K := K) (lo := some (i : Int)) (hi := some ((i + digs t i : Nat) : Int)) (ev_var rfl) (eo_some (ev_var rfl)) (eo_some (ev_var rfl)) (sq_of (e1 _ _ ht))) fun r H2 nr e2 hrow => ?_
    rw [cut_digs hi] at hrow
    have hdef : numIn (most + 1) (i, t.drop i) = (if ((t.drop i).takeWhile isDigit).length = 0 ∨ 4 < ((t.drop i).takeWhile isDigit).length ∨ (1 < ((t.drop i).takeWhile isDigit).length ∧ ((t.drop i).takeWhile isDigit).headD 0 = 48) ∨ most + 1 ≤ valueOf ((t.drop i).takeWhile isDigit) then .error i else .ok (valueOf ((t.drop i).takeWhile isDigit), (i + ((t.drop i).takeWhile isDigit).length, (t.drop i).drop ((t.drop i).takeWhile isDigit).length))) := rfl
    have hend : i + digs t i = i + ((t.drop i).takeWhile isDigit).length := rfl
    have hall := digits_all (t.drop i)
    rw [hend]
    rw [hdef] at k
    generalize (t.drop i).takeWhile isDigit = d at hrow hall k ⊢
    have e12 := e1.trans e2
    have hrowI : H2 r = some (.lst ((d.map fun (b : UInt8) => (b.toNat : Int)).map V.int)) := by rw [hrow, bV_int]
    have raise : ∀ H3, Ex H2 H3 → (d.length = 0 ∨ 4 < d.length ∨ (1 < d.length ∧ d.headD 0 = 48) ∨ most + 1 ≤ valueOf d) → Rs T.xFault.C "place" (.int (i : Int)) H3 E := fun H3 e3 c => by
      rw [if_pos c] at k
      exact Rs.go (e12.trans e3) k
    have head : ∀ (h : 0 < d.length), d[0] = d.headD 0 := fun h => by
      cases d with
      | nil => cases h
      | cons a l => rfl
    have dig : ∀ j (h : j < d.length), 48 ≤ d[j].toNat ∧ d[j].toNat ≤ 57 := fun j h => by
      have := hall d[j] (List.getElem_mem h)
      rw [digit_is, Bool.and_eq_true, decide_eq_true_eq, decide_eq_true_eq] at this
      omega
    -- the three tests
    have t1 : ∀ H3, Ex H2 H3 → EvT _ [some (.ref tx), some (.int (i : Int)), some (.int (most : Int)), some (.int ((i + d.length : Nat) : Int)), some (.ref r), none, none] H3 (decide (d.length = 0)) := fun H3 e3 => et_is (et_empty (K := K) (ta := tVar 4) (ev_var rfl) (e3 _ _ hrowI)) (decide_eq_decide.mpr (by simp))
    have t2 : ∀ H3, Ex H2 H3 → EvT _ [some (.ref tx), some (.int (i : Int)), some (.int (most : Int)), some (.int ((i + d.length : Nat) : Int)), some (.ref r), none, none] H3 (decide (3 < d.length)) := fun H3 e3 => et_test (te := tOp (rI0 fun i j => .bl (decide (j < i))) (tCB (rLenS K) (tCons (tVar 4) tNil)) (tC (.int 3))) (ev_is (ev_op (ev_len (ev_var rfl) (sq_of (e3 _ _ hrow))) ev_c rv_I0) (by
      congr 1
      rw [bV_len]
      exact decide_eq_decide.mpr (by omega)))
    have t3 : ∀ H3, Ex H2 H3 → 0 < d.length → EvT _ [some (.ref tx), some (.int (i : Int)), some (.int (most : Int)), some (.int ((i + d.length : Nat) : Int)), some (.ref r), none, none] H3 (decide (d.headD 0 = 48) && decide (1 < d.length)) := fun H3 e3 hpos => et_and
      (et_test (te := tOp rEq (tOp (rIxL K) (tVar 4) (tC (.int 0))) (tC (.int 48))) (ev_is (ev_op (ev_op (ev_var rfl) ev_c (rv_ixL (i := ((0 : Nat) : Int)) (sq_of (e3 _ _ hrow)) (atI_nat (bV_get hpos)))) ev_c (rv_eq rfl)) (by
        congr 1
        refine decide_eq_decide.mpr ?_
        rw [← head hpos]
        constructor
        · intro z
          injection z with z
          exact UInt8.toNat_inj.mp (by show d[0].toNat = 48; omega)
        · intro z
          rw [z]
          rfl)))
      fun _ => et_test (te := tOp (rI0 fun i j => .bl (decide (j < i))) (tCB (rLenS K) (tCons (tVar 4) tNil)) (tC (.int 1))) (ev_is (ev_op (ev_len (ev_var rfl) (sq_of (e3 _ _ hrow))) ev_c rv_I0) (by
        congr 1
        rw [bV_len]
        exact decide_eq_decide.mpr (by omega)))
    refine q_when (et_or (t1 H2 (Ex.refl _)) fun h1 => et_or (t2 H2 (Ex.refl _)) fun h2 => t3 H2 (Ex.refl _) (by have := of_decide_eq_false h1; omega)) (fun h H3 e3 => ?_) fun h H3 e3 => ?_
    · refine mk_x (ea_cons (ev_var rfl) ea_nil) (raise H3 e3 ?_)
      rw [Bool.or_eq_true, Bool.or_eq_true, Bool.and_eq_true, decide_eq_true_eq, decide_eq_true_eq, decide_eq_true_eq, decide_eq_true_eq] at h
      rcases h with h | h | h
      · exact .inl h
      · by_cases c4 : 4 < d.length
        · exact .inr (.inl c4)
        · -- four figures: a nought ahead, or too great
          have l4 : d.length = 4 := by omega
          by_cases c0 : d.headD 0 = 48
          · exact .inr (.inr (.inl ⟨by omega, c0⟩))
          · refine .inr (.inr (.inr ?_))
            have d0 := dig 0 (by omega)
            have ne : d[0].toNat ≠ 48 := fun z => c0 (by
              rw [← head (by omega)]
              exact UInt8.toNat_inj.mp (by show d[0].toNat = 48; exact z))
            have v1 : valueOf (d.take 1) = 10 * valueOf (d.take 0) + (d[0].toNat - 48) := value_more (by omega)
            have v2 : valueOf (d.take 2) = 10 * valueOf (d.take 1) + (d[1].toNat - 48) := value_more (by omega)
            have v3 : valueOf (d.take 3) = 10 * valueOf (d.take 2) + (d[2].toNat - 48) := value_more (by omega)
            have v4 : valueOf (d.take 4) = 10 * valueOf (d.take 3) + (d[3].toNat - 48) := value_more (by omega)
            have v0 : valueOf (d.take 0) = 0 := rfl
            rw [List.take_of_length_le (by omega)] at v4
            omega
      · exact .inr (.inr (.inl ⟨h.2, h.1⟩))
    · rw [Bool.or_eq_false_iff, Bool.or_eq_false_iff, Bool.and_eq_false_iff, decide_eq_false_iff_not, decide_eq_false_iff_not, decide_eq_false_iff_not, decide_eq_false_iff_not] at h
      obtain ⟨c1, c2, c3⟩ := h
      refine q_asg ev_c fun H4 e4 => ?_
      have e24 := e3.trans e4
      refine q_forLn (ev_var rfl) (sq_of (e24 _ _ hrow)) (fun j σ' H' => ∃ v6, σ' = [some (.ref tx), some (.int (i : Int)), some (.int (most : Int)), some (.int ((i + d.length : Nat) : Int)), some (.ref r), some (.int ((valueOf (d.take j) : Nat) : Int)), v6] ∧ Ex H2 H') ?_ ?_ ?_ ?_
      · intro H5 e5
        exact ⟨none, rfl, e24.trans e5⟩
      · rintro j σ' H' hj ⟨v6, rfl, e⟩
        exact sq_of (e _ _ hrow)
      · rintro j x σ' H' hx ⟨v6, rfl, e⟩
        have hj : j < d.length := by
          have := (List.getElem?_eq_some_iff.mp hx).1
          rw [bV_len] at this
          exact this
        rw [bV_get hj] at hx
        have ex := Option.some.inj hx
        subst ex
        have dj := dig j hj
        refine s_asg (v := .int ((valueOf (d.take (j + 1)) : Nat) : Int)) (ev_is (ev_op (ev_op (ev_op ev_c (ev_var rfl) (rv_I (.inl ⟨by decide, by decide⟩))) (ev_var rfl) rv_I0) ev_c rv_I0) ?_) fun H5 e5 => ⟨_, rfl, e.trans e5⟩
        congr 1
        rw [value_more hj]
        omega
      · rintro σ' H' ⟨v6, rfl, e⟩
        rw [bV_len, List.take_of_length_le (Nat.le_refl _)]
        refine q_when (et_test (ev_op (r := rI0 fun i j => .bl (decide (j < i))) (ev_var rfl) (ev_var rfl) rv_I0)) (fun h H5 e5 => ?_) fun h H5 e5 => ?_
        · have h := of_decide_eq_true h
          exact mk_x (ea_cons (ev_var rfl) ea_nil) (raise H5 (e.trans e5) (.inr (.inr (.inr (by omega)))))
        · have h := of_decide_eq_false h
          rw [if_neg (by
            rintro (z | z | z | z)
            · exact c1 z
            · omega
            · rcases c3 with y | y
              · exact y z.2
              · exact y z.1
            · omega)] at k
          exact s_retU (eu_tup (ea_cons (ev_var rfl) (ea_cons (ev_var rfl) ea_nil)) (by simp)) fun q H6 nq e6 hq => k _ H6 ((e12.trans (e.trans e5)).trans e6) ⟨q, rfl, hq⟩
end
end LkW
end

section
set_option Elab.async false
set_option linter.all false
set_option maxRecDepth 100000
set_option maxHeartbeats 2000000
/-! Formulas: where they hold: the asker's small steps. -/
namespace LkW
open PySem PySem.Spec PyProof.Rows L2 Evl Lk
open Ln (Sys Arc Bytes isDigit valueOf numIn byteIn Form)

section
variable {K : PySem.W.Frag} {σ : L2.St} {H : Hp} {te : TE}
theorem ev_sum {ns : List Int} (h : EvL te σ H (ns.map V.int)) : Ev (tCB (rSum K) (tCons te tNil)) σ H (.int ns.sum) :=
  fun H1 e Q k => h H1 e _ fun q H2 nq e2 hq => ⟨q, ns, rfl, sq_of hq, k H2 e2⟩
end
def askF (sp tx a wl : V) : List (Str × V) := [("system", sp), ("text", tx), ("at", a), ("waiting", wl)]
theorem lk_aSys (a b c d : V) : (askF a b c d).lookup ("system" : Str) = some a := lk_here
theorem lk_aTxt (a b c d : V) : (askF a b c d).lookup ("text" : Str) = some b := (lk_past (by decide +kernel)).trans lk_here
theorem lk_aAt (a b c d : V) : (askF a b c d).lookup ("at" : Str) = some c := (lk_past (by decide +kernel)).trans ((lk_past (by decide +kernel)).trans lk_here)
theorem lk_aWl (a b c d : V) : (askF a b c d).lookup ("waiting" : Str) = some d := (lk_past (by decide +kernel)).trans ((lk_past (by decide +kernel)).trans ((lk_past (by decide +kernel)).trans lk_here))
theorem askF_none (a b c d : V) (m : Str) (h1 : (m == ("system" : Str)) = false := by decide +kernel) (h2 : (m == ("text" : Str)) = false := by decide +kernel) (h3 : (m == ("at" : Str)) = false := by decide +kernel) (h4 : (m == ("waiting" : Str)) = false := by decide +kernel) : (askF a b c d).lookup m = none :=
  (lk_past h1).trans ((lk_past h2).trans ((lk_past h3).trans ((lk_past h4).trans rfl)))
theorem put_at (a b c d x : V) : putF ("at" : Str) x (askF a b c d) = askF a b x d := (put_past (by decide +kernel)).trans (congrArg _ ((put_past (by decide +kernel)).trans (congrArg _ put_here)))
/-- an asker and what it asks about -/
structure AC where
  H0 : Hp
  dx : Addr
  sp : Addr
  tx : Addr
  wl : Addr
  p : Addr
  S : Sys
  t : Bytes
structure AskG (CS CA : Addr) (c : AC) (i : Nat) (W : List (Nat × Nat)) (H : Hp) : Prop where
  ex : Ex c.H0 H
  np : c.H0 c.p = none
  nw : c.H0 c.wl = none
  sys : SysAt CS c.H0 c.sp c.S
  wf : Wf c.S
  txt : c.H0 c.tx = some (.lst (bV c.t))
  few : c.t.length ≤ 10000
  obj : H c.p = some (.ins CA c.dx (askF (.ref c.sp) (.ref c.tx) (.int (i : Int)) (.ref c.wl)))
  wait : LT H c.wl (W.reverse.map pairI)
  le : i ≤ c.t.length
  dep : W.length ≤ 500
theorem AskG.mono {CS CA : Addr} {c : AC} {i : Nat} {W : List (Nat × Nat)} {H H' : Hp} (e : Ex H H') (h : AskG CS CA c i W H) : AskG CS CA c i W H' :=
  ⟨h.ex.trans e, h.np, h.nw, h.sys, h.wf, h.txt, h.few, e _ _ h.obj, h.wait.mono e, h.le, h.dep⟩
/-- the place is set -/
theorem AskG.setAt {CS CA : Addr} {c : AC} {i j : Nat} {W : List (Nat × Nat)} {H : Hp} (h : AskG CS CA c i W H) (hj : j ≤ c.t.length) : AskG CS CA c j W (upd H c.p (.ins CA c.dx (askF (.ref c.sp) (.ref c.tx) (.int (j : Int)) (.ref c.wl)))) where
  ex := h.ex.mut h.np
  np := h.np
  nw := h.nw
  sys := h.sys
  wf := h.wf
  txt := h.txt
  few := h.few
  obj := upd_same
  wait := by
    obtain ⟨ks, h1, h2, h3⟩ := h.wait
    refine ⟨ks, rd_upd h1 (by rw [h.obj]; intro z; cases z), h2, fun q hq => rd_upd (h3 q hq) (by rw [h.obj]; intro z; cases z)⟩
  le := hj
  dep := h.dep
/-- what waits is set -/
theorem AskG.setW {CS CA : Addr} {c : AC} {i : Nat} {W W' : List (Nat × Nat)} {H : Hp} {xs : List V} {ks : List (Addr × List Int)} (h : AskG CS CA c i W H) (hw : H c.wl = some (.lst xs)) (h2 : ks.map (·.2) = W'.reverse.map pairI) (h3 : ∀ p ∈ ks, H p.1 = some (.tup (p.2.map V.int))) (hd : W'.length ≤ 500) :
    AskG CS CA c i W' (upd H c.wl (.lst (ks.map fun p => V.ref p.1))) where
  ex := h.ex.mut h.nw
  np := h.np
  nw := h.nw
  sys := h.sys
  wf := h.wf
  txt := h.txt
  few := h.few
  obj := rd_upd h.obj (by rw [hw]; intro z; cases z)
  wait := ⟨ks, upd_same, h2, fun q hq => tup_upd (h3 q hq) (by rw [hw]; intro ys z; cases z)⟩
  le := h.le
  dep := hd
/-- the next byte's number, -1 at the end -/
def nb (t : Bytes) (i : Nat) : Int := match t.drop i with
  | [] => -1
  | c :: _ => (c.toNat : Int)
theorem nb_lt {t : Bytes} {i : Nat} (h : i < t.length) : nb t i = ((t[i].toNat : Nat) : Int) := by
  unfold nb
  rw [List.drop_eq_getElem_cons h]
theorem nb_end {t : Bytes} {i : Nat} (h : t.length ≤ i) : nb t i = -1 := by
  unfold nb
  rw [List.drop_of_length_le h]

section
variable {P : Program} {w : World} {K : PySem.W.Frag} {mg : Str → Option Value} {base : Heap} (T : Txt K mg)
section
variable {T} {σ : L2.St} {H : Hp} {te : TE} {c : AC} {i : Nat} {W : List (Nat × Nat)}
theorem ev_aSys (h : Ev te σ H (.ref c.p)) (g : AskG T.cSystem.C T.cAsker.C c i W H) : Ev (tFld K te "system") σ H (.ref c.sp) := ev_fld h g.obj T.cAsker.cl T.nAsker_system (lk_aSys _ _ _ _)
theorem ev_aTxt (h : Ev te σ H (.ref c.p)) (g : AskG T.cSystem.C T.cAsker.C c i W H) : Ev (tFld K te "text") σ H (.ref c.tx) := ev_fld h g.obj T.cAsker.cl T.nAsker_text (lk_aTxt _ _ _ _)
theorem ev_aAt (h : Ev te σ H (.ref c.p)) (g : AskG T.cSystem.C T.cAsker.C c i W H) : Ev (tFld K te "at") σ H (.int (i : Int)) := ev_fld h g.obj T.cAsker.cl T.nAsker_at (lk_aAt _ _ _ _)
theorem ev_aWl (h : Ev te σ H (.ref c.p)) (g : AskG T.cSystem.C T.cAsker.C c i W H) : Ev (tFld K te "waiting") σ H (.ref c.wl) := ev_fld h g.obj T.cAsker.cl T.nAsker_waiting (lk_aWl _ _ _ _)
end
/-! #### byte -/
def spByte (CS CA : Addr) : Sp := fun vs H Q _ => ∃ c i W, vs = [.ref c.p] ∧ AskG CS CA c i W H ∧ Gives H Q (fun v _ => v = .int (nb c.t i))
theorem ok_Asker_byte : FnOk P w K mg base CX0 1 T.Asker_byte.f T.Asker_byte.fd ["self"] (spByte T.cSystem.C T.cAsker.C) := by
  refine T.Asker_byte.F.ok sc_Asker_byte (fun vs H Q E h => ?_) (fun cdv A outer s H vs Q E hr h => ⟨_, (pss_cons (ps_if (pt_cmpR op_lt (pe_fld (pv 0) (by rfl)) (pe_callB call_len_seq (by rfl) T.g_len (by decide +kernel) (pa_cons (pe_fld (pv 0) (by rfl)) pa_nil)) (nomark _)) (pss_one (ps_ret (pe_ix ix_list (pe_fld (pv 0) (by rfl)) (pe_fld (pv 0) (by rfl)) (fun _ _ => rfl)))) pss_nil) (pss_one (ps_ret (pe_un un_neg pe_int)))), ?_⟩)
  · obtain ⟨c, i, W, rfl, _⟩ := h
    rfl
  · obtain ⟨c, i, W, rfl, g, k⟩ := h
    have htx := g.ex _ _ g.txt
    refine q_when (et_test (ev_op (r := rLt) (ev_aAt (T := T) (ev_var rfl) g) (ev_len (K := K) (ev_aTxt (T := T) (ev_var rfl) g) (sq_of htx)) rv_I0)) (fun h H1 e1 => ?_) fun h H1 e1 => ?_
    · have h := of_decide_eq_true h
      rw [bV_len] at h
      have hi : i < c.t.length := by omega
      refine s_ret (ev_op (ev_aTxt (T := T) (ev_var rfl) (g.mono e1)) (ev_aAt (T := T) (ev_var rfl) (g.mono e1)) (rv_ixL (sq_of (e1 _ _ htx)) (atI_nat (bV_get hi)))) fun H2 e2 => k _ H2 (e1.trans e2) ?_
      rw [nb_lt hi]
    · have h := of_decide_eq_false h
      rw [bV_len] at h
      refine s_ret (ev_un ev_c ru_neg) fun H2 e2 => k _ H2 (e1.trans e2) ?_
      rw [nb_end (by omega)]
theorem sp_byte {CS CA : Addr} {c : AC} {i : Nat} {W : List (Nat × Nat)} {H : Hp} (g : AskG CS CA c i W H) : SpP (spByte CS CA) [.ref c.p] H (fun v _ => v = .int (nb c.t i)) := fun H1 e Q E k => ⟨c, i, W, rfl, g.mono e, k⟩

/-! #### need -/
def spNeed (CS CA CF : Addr) : Sp := fun vs H Q E => ∃ c i W b, vs = [.ref c.p, .int ((b : UInt8).toNat : Int)] ∧ AskG CS CA c i W H ∧
  (match byteIn b (i, c.t.drop i) with
    | .error e => Rs CF "place" (.int (e : Nat)) c.H0 E
    | .ok q => ∀ H2, AskG CS CA c q.1 W H2 → Q .non H2)
theorem ok_Asker_need : FnOk P w K mg base (L2N.CX P w) 3 T.Asker_need.f T.Asker_need.fd ["self", "byte"] (spNeed T.cSystem.C T.cAsker.C T.xFault.C) := by
  have G_Asker_byte := ok_Asker_byte (P := P) (w := w) (base := base) T
  have G_Fault_init0 := ok_Fault_init0 (P := P) (w := w) (base := base) T
  refine LkX.okN T.Asker_need.F sc_Asker_need (fun vs H Q E h => ?_) (fun cdv A outer s H vs Q E hr h => ⟨_, (pss_cons (ps_if (pt_cmpR op_ne (pe_meth0 (pv 0) T.cAsker.cl T.Asker_byte.m G_Asker_byte (hr.mono (by first | decide | omega)) T.b_Asker_byte .nil pass0) (pv 1) (nomark _)) (pss_one (L2N.ps_raise (by rfl) (L2N.takes_of rfl rfl rfl rfl) (LkX.pmkN_oex T.xFault.ox T.Fault_init0.iC T.Fault_init0.tI G_Fault_init0 (hr.mono (by first | decide | omega)) T.b_Fault_init0 .nil pass0 (by rfl) T.xFault.g (pa_cons (pe_fld (pv 0) (by rfl)) pa_nil)))) pss_nil) (pss_one (ps_fld (pv 0) (pe_op op_add (pe_fld (pv 0) (by rfl)) pe_int) (by rfl)))), ?_⟩)
  · obtain ⟨c, i, W, b, rfl, _⟩ := h
    rfl
  · obtain ⟨c, i, W, b, rfl, g, k⟩ := h
    have ne : ∀ j : Int, (V.int (nb c.t i) = V.int j) ↔ nb c.t i = j := fun j => ⟨fun z => by injection z, fun z => by rw [z]⟩
    refine q_when (et_test (ev_op (ev_meth (ev_var rfl) g.obj (askF_none _ _ _ _ _) ea_nil (sp_byte g)) (ev_var rfl) (rv_ne rfl))) (fun h H1 e1 => ?_) fun h H1 e1 => ?_
    · have h : ¬ nb c.t i = ((b.toNat : Nat) : Int) := by
        rw [Bool.not_eq_true', decide_eq_false_iff_not, ne] at h
        exact h
      refine mk_x (ea_cons (ev_aAt (T := T) (ev_var rfl) (g.mono e1)) ea_nil) ?_
      have er : byteIn b (i, c.t.drop i) = .error i := by
        unfold byteIn
        unfold nb at h
        cases hd : c.t.drop i with
        | nil => rfl
        | cons d s =>
          rw [hd] at h
          dsimp only at h ⊢
          rw [if_neg]
          intro z
          exact h (by rw [z])
      rw [er] at k
      exact Rs.go (g.ex.trans e1) k
    · have h : nb c.t i = ((b.toNat : Nat) : Int) := by
        rw [Bool.not_eq_false', decide_eq_true_eq, ne] at h
        exact h
      have hi : i < c.t.length := by
        rcases Nat.lt_or_ge i c.t.length with z | z
        · exact z
        · rw [nb_end z] at h
          omega
      have er : byteIn b (i, c.t.drop i) = .ok (i + 1, c.t.drop (i + 1)) := by
        unfold byteIn
        rw [nb_lt hi] at h
        rw [List.drop_eq_getElem_cons hi]
        dsimp only
        rw [if_pos (UInt8.toNat_inj.mp (by omega))]
      rw [er] at k
      have g1 := g.mono e1
      refine (ev_op (ev_aAt (T := T) (ev_var rfl) g1) ev_c rv_I0) H1 (Ex.refl _) _ fun H2 e2 => ⟨_, rfl, c.p, _, c.dx, _, rfl, e2 _ _ g1.obj, T.cAsker.cl, T.nAsker_at, (by show 4 < 1000; decide), ?_⟩
      rw [put_at]
      exact k _ ((g1.mono e2).setAt (j := i + 1) (by omega))
theorem lt_pow {n : Nat} (h : n ≤ 32) : 2 ^ n ≤ 2 ^ 32 := Nat.pow_le_pow_right (by decide) h

/-! #### everywhere -/
def spEvery (CS CA : Addr) : Sp := fun vs H Q _ => ∃ c i W, vs = [.ref c.p] ∧ AskG CS CA c i W H ∧ Gives H Q (fun v _ => v = .int ((mask (fun _ => true) c.S.states : Nat) : Int))
theorem ok_Asker_everywhere : FnOk P w K mg base CX0 2 T.Asker_everywhere.f T.Asker_everywhere.fd ["self"] (spEvery T.cSystem.C T.cAsker.C) := by
  have G_System_many := ok_System_many (P := P) (w := w) (base := base) T
  refine T.Asker_everywhere.F.ok sc_Asker_everywhere (fun vs H Q E h => ?_) (fun cdv A outer s H vs Q E hr h => ⟨_, (pss_one (ps_ret (pe_op op_sub (pe_op op_shl pe_int (pe_meth0 (pe_fld (pv 0) (by rfl)) T.cSystem.cl T.System_many.m G_System_many (hr.mono (by first | decide | omega)) T.b_System_many .nil pass0)) pe_int))), ?_⟩)
  · obtain ⟨c, i, W, rfl, _⟩ := h
    rfl
  · obtain ⟨c, i, W, rfl, g, k⟩ := h
    have hs := g.sys.mono g.ex
    obtain ⟨d, ca, aa, s1, s2, s3⟩ := id hs
    have most := g.wf.most
    refine s_ret (ev_op (ev_op ev_c (ev_meth (ev_aSys (T := T) (ev_var rfl) g) s1 (sysF_none _ _ _) ea_nil (sp_many hs)) (rv_I ⟨by omega, by omega, by decide⟩)) ev_c rv_I0) fun H1 e1 => k _ H1 e1 ?_
    have := mask_all c.S.states
    congr 1
    rw [Int.toNat_natCast]
    have e : ((2 : Int) ^ c.S.states) = ((2 ^ c.S.states : Nat) : Int) := by simp
    rw [e]
    omega
theorem sp_every {CS CA : Addr} {c : AC} {i : Nat} {W : List (Nat × Nat)} {H : Hp} (g : AskG CS CA c i W H) : SpP (spEvery CS CA) [.ref c.p] H (fun v _ => v = .int ((mask (fun _ => true) c.S.states : Nat) : Int)) := fun H1 e Q E k => ⟨c, i, W, rfl, g.mono e, k⟩

/-! #### of_colour -/
def spOfCol (CS CA : Addr) : Sp := fun vs H Q _ => ∃ c i W col, vs = [.ref c.p, .int (col : Nat)] ∧ AskG CS CA c i W H ∧ Gives H Q (fun v _ => v = .int ((mask (fun s => c.S.colours.getD s 0 == col) c.S.states : Nat) : Int))
theorem ok_Asker_of_colour : FnOk P w K mg base CX0 1 T.Asker_of_colour.f T.Asker_of_colour.fd ["self", "colour"] (spOfCol T.cSystem.C T.cAsker.C) := by
  refine T.Asker_of_colour.F.ok sc_Asker_of_colour (fun vs H Q E h => ?_) (fun cdv A outer s H vs Q E hr h => ⟨_, (pss_one (ps_ret (pe_callB (cr_sum (by rfl)) (by rfl) T.g_sum (by decide +kernel) (pa_cons (pe_lc (own := [("k", 2), ("own", 3)]) (g := gTup K 2 (gCons (gName 2) (gCons (gName 3) gNil)))  (by rfl) sc_Asker_of_colour.nd (pi_enum (by rfl) T.g_enumerate (pa_cons (pe_fld (pe_fld (pv 0) (by rfl)) (by rfl)) pa_nil)) (blkOk_by (own := [("k", 2), ("own", 3)]) (N := n_Asker_of_colour) (sc := defScope s_Asker_of_colour) (by decide +kernel)) (fun _ _ _ _ _ => (pg_tup (by rfl) (pgs_cons (pg_name (i := 2) sc_Asker_of_colour.nd rfl (Or.inl rfl)) (pgs_cons (pg_name (i := 3) sc_Asker_of_colour.nd rfl (Or.inl rfl)) pgs_nil)))) (fun _ _ _ _ _ => pts_one (pt_cmpR op_eq (pv 3) (pv 1) (nomark _))) (fun _ _ _ _ _ => (pe_op op_shl pe_int (pv 2)))) pa_nil)))), ?_⟩)
  · obtain ⟨c, i, W, col, rfl, _⟩ := h
    rfl
  · obtain ⟨c, i, W, col, rfl, g, k⟩ := h
    obtain ⟨d, ca, aa, s1, s2, s3⟩ := g.sys.mono g.ex
    have most := g.wf.most
    have cl : c.S.colours.length = c.S.states := rfl
    refine s_ret (ev_sum (K := K) (ns := ((List.range (vN c.S.colours).length).filter fun s => c.S.colours.getD s 0 == col).map fun (s : Nat) => ((2 ^ s : Nat) : Int)) (elp_l (ElP.imp (el_lcEP (fun s => c.S.colours.getD s 0 == col) (fun s y H => y = V.int ((2 ^ s : Nat) : Int)) stays_val (ea_cons (ev_col (T := T) (ev_aSys (T := T) (ev_var rfl) g) s1) ea_nil) (sq_of s2)
      (by rw [vN_len]; omega) fun s x t H1 e1 hx ht => ?_) fun ys H2 e2 q => ?_))) fun H1 e1 => k _ H1 e1 ?_
    · have hs : s < c.S.colours.length := by
        have := (List.getElem?_eq_some_iff.mp hx).1
        rw [vN_len] at this
        exact this
      rw [vN_get hs] at hx
      have ex := Option.some.inj hx
      subst ex
      exact turn_of (fun Q H2 e2 q => gtup2 (e2 _ _ ht) q) rfl (ev_eqN (ev_var rfl) (ev_var rfl)) (fun _ => evp (ev_is (ev_op ev_c (ev_var rfl) (rv_I ⟨by omega, by omega, by decide⟩)) (by rw [Int.toNat_natCast]; simp)))
    · rw [q.vals, List.map_map]
      rfl
    · rw [vN_len, cl, ← mask_sum]
      congr 1
      generalize (List.range c.S.states).filter (fun s => c.S.colours.getD s 0 == col) = l
      induction l with
      | nil => rfl
      | cons a r ih =>
        simp only [List.map_cons, List.sum_cons]
        rw [ih]
        omega
theorem sp_ofcol {CS CA : Addr} {c : AC} {i col : Nat} {W : List (Nat × Nat)} {H : Hp} (g : AskG CS CA c i W H) : SpP (spOfCol CS CA) [.ref c.p, .int (col : Int)] H (fun v _ => v = .int ((mask (fun s => c.S.colours.getD s 0 == col) c.S.states : Nat) : Int)) := fun H1 e Q E k => ⟨c, i, W, col, rfl, g.mono e, k⟩

/-! #### leading -/
def spLead (CS CA : Addr) : Sp := fun vs H Q _ => ∃ c i W l m, vs = [.ref c.p, .int (l : Nat), .int (m : Nat)] ∧ AskG CS CA c i W H ∧ Gives H Q (fun v _ => v = .int ((leadMask c.S l m : Nat) : Int))
theorem ok_Asker_leading : FnOk P w K mg base CX0 1 T.Asker_leading.f T.Asker_leading.fd ["self", "label", "where"] (spLead T.cSystem.C T.cAsker.C) := by
  refine T.Asker_leading.F.ok sc_Asker_leading (fun vs H Q E h => ?_) (fun cdv A outer s H vs Q E hr h => ⟨_, (pss_cons (ps_set (i := 3) sc_Asker_leading.nd rfl (Or.inl rfl) pe_int) (pss_cons (ps_for PassesOwn.never (by rfl) (pi_list (pe_fld (pe_fld (pv 0) (by rfl)) (by rfl))) (pg_tup (by rfl) (pgs_cons (pg_name (i := 4) sc_Asker_leading.nd rfl (Or.inl rfl)) (pgs_cons (pg_name (i := 5) sc_Asker_leading.nd rfl (Or.inl rfl)) (pgs_cons (pg_name (i := 6) sc_Asker_leading.nd rfl (Or.inl rfl)) pgs_nil)))) (pss_one (ps_if (PW.pt (pw_and (pt_cmpR op_eq (pv 5) (pv 1) (nomark _)) (pw_and1 (pt_cmpR op_eq (pe_op op_and (pe_op op_shr (pv 2) (pv 6)) pe_int) pe_int (nomark _))))) (pss_one (ps_set (i := 3) sc_Asker_leading.nd rfl (Or.inl rfl) (pe_op op_or (pv 3) (pe_op op_shl pe_int (pv 4))))) pss_nil))) (pss_one (ps_ret (pv 3))))), ?_⟩)
  · obtain ⟨c, i, W, l, m, rfl, _⟩ := h
    rfl
  · obtain ⟨c, i, W, l, m, rfl, g, k⟩ := h
    obtain ⟨d, ca, aa, s1, s2, ks, a1, a2, a3⟩ := g.sys.mono g.ex
    have most := g.wf.most
    refine q_asg ev_c fun H1 e1 => ?_
    refine q_forL (ev_arc (T := T) (ev_aSys (T := T) (ev_var rfl) (g.mono e1)) (e1 _ _ s1)) (sq_of (e1 _ _ a1)) (fun j σ' H' => ∃ v4 v5 v6, σ' = [some (.ref c.p), some (.int (l : Int)), some (.int (m : Int)), some (.int (((c.S.arcs.take j).foldl (leadStep l m) 0 : Nat) : Int)), v4, v5, v6] ∧ Ex H H') ?_ ?_ ?_ ?_
    · intro H2 e2
      exact ⟨none, none, none, rfl, e1.trans e2⟩
    · rintro j σ' H' hj ⟨v4, v5, v6, rfl, e⟩
      exact sq_of (e _ _ a1)
    · rintro j x σ' H' hx ⟨v4, v5, v6, rfl, e⟩
      have hj : j < ks.length := by
        have := (List.getElem?_eq_some_iff.mp hx).1
        rw [List.length_map] at this
        exact this
      rw [List.getElem?_map, List.getElem?_eq_getElem hj] at hx
      have ex : V.ref ks[j].1 = x := Option.some.inj hx
      subst ex
      have len : ks.length = c.S.arcs.length := by
        have := congrArg List.length a2
        simpa using this
      have hj' : j < c.S.arcs.length := by omega
      have e2 : ks[j].2 = arcI c.S.arcs[j] := by
        have q1 : (ks.map (·.2))[j]? = some ks[j].2 := by rw [List.getElem?_map, List.getElem?_eq_getElem hj]; rfl
        rw [a2, List.getElem?_map, List.getElem?_eq_getElem hj'] at q1
        exact (Option.some.inj q1).symm
      have ht := e _ _ (a3 _ (List.getElem_mem hj))
      rw [e2] at ht
      have bd := g.wf.bd _ (List.getElem_mem hj')
      have more : (c.S.arcs.take (j + 1)).foldl (leadStep l m) 0 = leadStep l m ((c.S.arcs.take j).foldl (leadStep l m) 0) c.S.arcs[j] := by
        rw [take_more (List.getElem?_eq_getElem hj'), List.foldl_append]
        rfl
      refine gtup3 ht ?_
      refine s_when (et_and (ev_eqN (ev_var rfl) (ev_var rfl)) fun _ => et_test (ev_is (ev_op (ev_op (ev_op (ev_var rfl) (ev_var rfl) (rv_I (by omega))) ev_c rv_I0) ev_c (rv_eq rfl)) (show _ = V.bl (m.testBit c.S.arcs[j].2.2) from ?_))) (fun h H2 e2 => ?_) fun h H2 e2 => ?_
      · rw [← LkM.bit_one]
        congr 1
        exact decide_eq_decide.mpr ⟨fun z => by injection z, fun z => by rw [z]⟩
      · rw [Bool.and_eq_true, beq_iff_eq] at h
        refine s_asg (v := .int ((((c.S.arcs.take (j + 1)).foldl (leadStep l m) 0 : Nat)) : Int)) (ev_is (ev_op (ev_var rfl) (ev_op ev_c (ev_var rfl) (rv_I ⟨by omega, by omega, by decide⟩)) rv_I0) ?_) fun H3 e3 => ⟨_, _, _, rfl, (e.trans e2).trans e3⟩
        rw [more]
        unfold leadStep
        rw [if_pos h, Int.one_mul, Int.toNat_natCast]
        have ep : ((2 : Int) ^ c.S.arcs[j].1) = ((2 ^ c.S.arcs[j].1 : Nat) : Int) := by simp
        rw [ep, LkM.bor_nn]
      · refine ⟨some (.int (c.S.arcs[j].1 : Int)), some (.int (c.S.arcs[j].2.1 : Int)), some (.int (c.S.arcs[j].2.2 : Int)), ?_, e.trans e2⟩
        rw [more]
        unfold leadStep
        rw [if_neg (by
          intro z
          rw [Bool.and_eq_false_iff] at h
          rcases h with h | h
          · rw [beq_eq_false_iff_ne] at h
            exact h z.1
          · rw [z.2] at h
            cases h)]
        rfl
    · rintro σ' H' ⟨v4, v5, v6, rfl, e⟩
      refine s_ret (ev_var rfl) fun H2 e2 => k _ H2 (e.trans e2) ?_
      have len : ks.length = c.S.arcs.length := by
        have := congrArg List.length a2
        simpa using this
      rw [List.length_map, len, List.take_of_length_le (Nat.le_refl _)]
      rfl
theorem sp_lead {CS CA : Addr} {c : AC} {i l m : Nat} {W : List (Nat × Nat)} {H : Hp} (g : AskG CS CA c i W H) : SpP (spLead CS CA) [.ref c.p, .int (l : Int), .int (m : Int)] H (fun v _ => v = .int ((leadMask c.S l m : Nat) : Int)) := fun H1 e Q E k => ⟨c, i, W, l, m, rfl, g.mono e, k⟩
end
end LkW
end

section
set_option Elab.async false
set_option linter.all false
set_option maxRecDepth 100000
set_option maxHeartbeats 2000000
/-! Formulas: where they hold. -/
namespace LkW
open PySem PySem.Spec PyProof.Rows L2 Evl Lk
open Ln (Sys Arc Bytes isDigit valueOf numIn byteIn Form)

section
variable {P : Program} {w : World} {K : PySem.W.Frag} {mg : Str → Option Value} {base : Heap} (T : Txt K mg)
/-! #### number -/
def spNumb (CS CA CF : Addr) : Sp := fun vs H Q E => ∃ c i W most, vs = [.ref c.p, .int (most : Nat)] ∧ AskG CS CA c i W H ∧ most ≤ 255 ∧
  (match numIn (most + 1) (i, c.t.drop i) with
    | .error e => Rs CF "place" (.int (e : Nat)) c.H0 E
    | .ok x => ∀ H2, AskG CS CA c x.2.1 W H2 → Q (.int ((x.1 : Nat) : Int)) H2)
theorem ok_Asker_number : FnOk P w K mg base (L2N.CX P w) 4 T.Asker_number.f T.Asker_number.fd ["self", "most"] (spNumb T.cSystem.C T.cAsker.C T.xFault.C) := by
  have G_number_at := ok_number_at (P := P) (w := w) (base := base) T
  refine LkX.okN T.Asker_number.F sc_Asker_number (fun vs H Q E h => ?_) (fun cdv A outer s H vs Q E hr h => ⟨_, (pss_cons (ps_asg (pe_call G_number_at (hr.mono (by first | decide | omega)) (by rfl) T.number_at.g T.number_at.F.kp T.b_number_at .nil (L2N.passes_call (L2N.takes_of rfl rfl rfl rfl) (fun _ _ _ _ z => z)) (pa_cons (pe_fld (pv 0) (by rfl)) (pa_cons (pe_fld (pv 0) (by rfl)) (pa_cons (pv 1) pa_nil)))) (pg_tup (by rfl) (pgs_cons (pg_name (i := 2) sc_Asker_number.nd rfl (Or.inl rfl)) (pgs_cons (pg_name (i := 3) sc_Asker_number.nd rfl (Or.inl rfl)) pgs_nil)))) (pss_cons (ps_fld (pv 0) (pv 3) (by rfl)) (pss_one (ps_ret (pv 2))))), ?_⟩)
  · obtain ⟨c, i, W, most, rfl, _⟩ := h
    rfl
  · obtain ⟨c, i, W, most, rfl, g, hm, k⟩ := h
    refine qasg_g (x_call (ea_cons (ev_aTxt (T := T) (ev_var rfl) g) (ea_cons (ev_aAt (T := T) (ev_var rfl) g) (ea_cons (ev_var rfl) ea_nil))) fun H2 e12 => ?_)
    have g2 := g.mono e12
    refine ⟨c.tx, c.t, i, most, rfl, g2.ex _ _ g2.txt, g2.le, hm, ?_⟩
    cases hn : numIn (most + 1) (i, c.t.drop i) with
    | error e =>
      rw [hn] at k
      exact Rs.go g2.ex k
    | ok x =>
      rw [hn] at k
      intro v H3 e3 ⟨q, ev, hq⟩
      subst ev
      have hx := numIn_ok g.le hn
      have g3 := g2.mono e3
      refine gtup2 hq ⟨_, rfl, _, rfl, c.p, _, c.dx, _, rfl, g3.obj, T.cAsker.cl, T.nAsker_at, (by show 4 < 1000; decide), ?_⟩
      rw [put_at]
      exact ⟨_, rfl, k _ (g3.setAt hx.2.1)⟩

/-! #### begin -/
def foV : Option Nat → V
  | none => .non
  | some m => .int (m : Int)
def spBeg (CS CA CF : Addr) : Sp := fun vs H Q E => ∃ c i W, vs = [.ref c.p] ∧ AskG CS CA c i W H ∧
  (match beginM c.S c.t i W with
    | .error e => Rs CF "place" (.int (e : Nat)) c.H0 E
    | .ok st => ∀ H2, AskG CS CA c st.at_ st.wait H2 → Q (foV st.found) H2)
theorem wait_len {H : Hp} {a : Addr} {L : List (List Int)} (h : LT H a L) : ∃ xs, H a = some (.lst xs) ∧ xs.length = L.length := by
  obtain ⟨ks, h1, h2, h3⟩ := h
  refine ⟨_, h1, ?_⟩
  have := congrArg List.length h2
  simpa using this
/-- waiting.append((sign, told)) -/
theorem push_wait {CS CA : Addr} {c : AC} {i : Nat} {W : List (Nat × Nat)} {H : Hp} {t : Addr} {x : Nat × Nat} (g : AskG CS CA c i W H) (ht : H t = some (.tup ((pairI x).map V.int))) (hl : W.length < 500) : ∃ xs, H c.wl = some (.lst xs) ∧ xs.length < 1000 ∧ AskG CS CA c i (x :: W) (upd H c.wl (.lst (xs ++ [.ref t]))) := by
  obtain ⟨ks, h1, h2, h3⟩ := g.wait
  have len : ks.length = W.length := by
    have := congrArg List.length h2
    simpa using this
  refine ⟨_, h1, by rw [List.length_map]; omega, ?_⟩
  have := g.setW (W' := x :: W) (ks := ks ++ [(t, pairI x)]) h1 (by rw [List.map_append, h2]; simp) (fun p hp => by
    rcases List.mem_append.mp hp with hp | hp
    · exact h3 p hp
    · rw [List.mem_singleton.mp hp]
      exact ht) (by simp; omega)
  rw [List.map_append] at this
  exact this
theorem byte_ne {c : UInt8} {n : Nat} (hn : n < 256) : (c.toNat : Int) = (n : Int) ↔ c = UInt8.ofNat n := by
  constructor
  · intro h
    apply UInt8.toNat_inj.mp
    rw [UInt8.toNat_ofNat_of_lt' (by omega)]
    omega
  · intro h
    rw [h, UInt8.toNat_ofNat_of_lt' (by omega)]
theorem ok_Asker_begin : FnOk P w K mg base (L2N.CX P w) 5 T.Asker_begin.f T.Asker_begin.fd ["self"] (spBeg T.cSystem.C T.cAsker.C T.xFault.C) := by
  have G_Asker_byte := ok_Asker_byte (P := P) (w := w) (base := base) T
  have G_Fault_init0 := ok_Fault_init0 (P := P) (w := w) (base := base) T
  have G_Asker_everywhere := ok_Asker_everywhere (P := P) (w := w) (base := base) T
  have G_Asker_of_colour := ok_Asker_of_colour (P := P) (w := w) (base := base) T
  have G_Asker_number := ok_Asker_number (P := P) (w := w) (base := base) T
  have G_Asker_need := ok_Asker_need (P := P) (w := w) (base := base) T
  refine LkX.okN T.Asker_begin.F sc_Asker_begin (fun vs H Q E h => ?_) (fun cdv A outer s H vs Q E hr h => ⟨_, (pss_cons (ps_set (i := 1) sc_Asker_begin.nd rfl (Or.inl rfl) (pe_meth0 (pv 0) T.cAsker.cl T.Asker_byte.m G_Asker_byte (hr.mono (by first | decide | omega)) T.b_Asker_byte .nil pass0)) (pss_cons (ps_if (PW.pt (pw_or (pt_cmpR op_ge (pe_callB call_len_seq (by rfl) T.g_len (by decide +kernel) (pa_cons (pe_fld (pv 0) (by rfl)) pa_nil)) (pe_K (by rfl) T.k_MOST_DEEP) (nomark _)) (pw_or1 (pt_cmpR op_notIn_seq (pv 1) (pe_tup (pa_cons (pe_K (by rfl) T.k_TRUE) (pa_cons (pe_K (by rfl) T.k_COLOUR) (pa_cons (pe_K (by rfl) T.k_NOT) (pa_cons (pe_K (by rfl) T.k_LEFT) (pa_cons (pe_K (by rfl) T.k_LESS) pa_nil)))))) (by rfl))))) (pss_one (L2N.ps_raise (by rfl) (L2N.takes_of rfl rfl rfl rfl) (LkX.pmkN_oex T.xFault.ox T.Fault_init0.iC T.Fault_init0.tI G_Fault_init0 (hr.mono (by first | decide | omega)) T.b_Fault_init0 .nil pass0 (by rfl) T.xFault.g (pa_cons (pe_fld (pv 0) (by rfl)) pa_nil)))) pss_nil) (pss_cons (ps_fld (pv 0) (pe_op op_add (pe_fld (pv 0) (by rfl)) pe_int) (by rfl)) (pss_cons (ps_if (pt_cmpR op_eq (pv 1) (pe_K (by rfl) T.k_TRUE) (nomark _)) (pss_one (ps_ret (pe_meth0 (pv 0) T.cAsker.cl T.Asker_everywhere.m G_Asker_everywhere (hr.mono (by first | decide | omega)) T.b_Asker_everywhere .nil pass0))) pss_nil) (pss_cons (ps_if (pt_cmpR op_eq (pv 1) (pe_K (by rfl) T.k_COLOUR) (nomark _)) (pss_one (ps_ret (pe_meth (pv 0) T.cAsker.cl T.Asker_of_colour.m G_Asker_of_colour (hr.mono (by first | decide | omega)) T.b_Asker_of_colour .nil pass0 (pa_cons (pe_meth (pv 0) T.cAsker.cl T.Asker_number.m G_Asker_number (hr.mono (by first | decide | omega)) T.b_Asker_number .nil (L2N.passes_call (L2N.takes_of rfl rfl rfl rfl) (fun _ _ _ _ z => z)) (pa_cons (pe_K (by rfl) T.k_MOST_COLOUR_formulas) pa_nil)) pa_nil)))) pss_nil) (pss_cons (ps_set (i := 2) sc_Asker_begin.nd rfl (Or.inl rfl) pe_int) (pss_cons (ps_if (pt_cmpR op_eq (pv 1) (pe_K (by rfl) T.k_LESS) (nomark _)) (pss_cons (ps_set (i := 2) sc_Asker_begin.nd rfl (Or.inl rfl) (pe_meth (pv 0) T.cAsker.cl T.Asker_number.m G_Asker_number (hr.mono (by first | decide | omega)) T.b_Asker_number .nil (L2N.passes_call (L2N.takes_of rfl rfl rfl rfl) (fun _ _ _ _ z => z)) (pa_cons (pe_K (by rfl) T.k_MOST_LABEL_formulas) pa_nil))) (pss_one (ps_expr (pe_meth (pv 0) T.cAsker.cl T.Asker_need.m G_Asker_need (hr.mono (by first | decide | omega)) T.b_Asker_need .nil (L2N.passes_call (L2N.takes_of rfl rfl rfl rfl) (fun _ _ _ _ z => z)) (pa_cons (pe_K (by rfl) T.k_MORE) pa_nil))))) pss_nil) (pss_cons (ps_expr (pe_bm PySem.F.plainAttrs_list PySem.F.slot_list_append PySem.F.type_list_append mt_append (pe_fld (pv 0) (by rfl)) (pa_cons (pe_tup (pa_cons (pv 1) (pa_cons (pv 2) pa_nil))) pa_nil))) (pss_one (ps_ret pe_non)))))))))), ?_⟩)
  · obtain ⟨c, i, W, rfl, _⟩ := h
    rfl
  · obtain ⟨c, i, W, rfl, g, k⟩ := h
    refine q_asg (v := .int (nb c.t i)) (ev_meth (ev_var rfl) g.obj (askF_none _ _ _ _ _) ea_nil (sp_byte g)) fun H1 e1 => ?_
    have g1 := g.mono e1
    obtain ⟨xs, w1, w2⟩ := wait_len g1.wait
    rw [List.length_map, List.length_reverse] at w2
    have tnot : ∀ H2, Ex H1 H2 → EvT _ [some (.ref c.p), some (.int (nb c.t i)), none] H2 (!inV (.int (nb c.t i)) [.int 116, .int 99, .int 33, .int 40, .int 60]) := fun H2 e2 => et_test (te := tOp (rIn K true) (tVar 1) (tTup (tCons (tC (.int 116)) (tCons (tC (.int 99)) (tCons (tC (.int 33)) (tCons (tC (.int 40)) (tCons (tC (.int 60)) tNil))))))) (ev_niU (ev_var rfl) (eu_tup (ea_cons ev_c (ea_cons ev_c (ea_cons ev_c (ea_cons ev_c (ea_cons ev_c ea_nil))))) (by simp)) rfl rfl)
    have inV5 : inV (.int (nb c.t i)) [.int 116, .int 99, .int 33, .int 40, .int 60] = true ↔ nb c.t i = 116 ∨ nb c.t i = 99 ∨ nb c.t i = 33 ∨ nb c.t i = 40 ∨ nb c.t i = 60 := by
      unfold inV
      simp only [List.any_cons, List.any_nil, Bool.or_false, Bool.or_eq_true]
      have e : ∀ j k : Int, eqV (.int j) (.int k) = true ↔ k = j := fun j k => by
        show decide (j = k) = true ↔ k = j
        rw [decide_eq_true_eq]
        exact eq_comm
      rw [e, e, e, e, e]
    refine q_when (et_or (et_test (ev_op (r := rI0 fun i j => .bl (decide (j ≤ i))) (ev_len (K := K) (ev_aWl (T := T) (ev_var rfl) g1) (sq_of w1)) ev_c rv_I0)) fun h1 => tnot H1 (Ex.refl _)) (fun h H2 e2 => ?_) fun h H2 e2 => ?_
    · refine mk_x (ea_cons (ev_aAt (T := T) (ev_var rfl) (g1.mono e2)) ea_nil) ?_
      have er : beginM c.S c.t i W = .error i := by
        unfold beginM
        cases hd : c.t.drop i with
        | nil => rfl
        | cons b r =>
          dsimp only
          rw [Bool.or_eq_true, decide_eq_true_eq, w2] at h
          by_cases c5 : 500 ≤ W.length
          · rw [if_pos c5]
          · have hb : nb c.t i = ((b.toNat : Nat) : Int) := by unfold nb; rw [hd]
            have h' : ¬ (nb c.t i = 116 ∨ nb c.t i = 99 ∨ nb c.t i = 33 ∨ nb c.t i = 40 ∨ nb c.t i = 60) := by
              rcases h with h | h
              · omega
              · rw [← inV5]
                simpa using h
            rw [hb] at h'
            rw [if_neg c5, if_neg (fun z => h' (.inl (by rw [z]; rfl))), if_neg (fun z => h' (.inr (.inl (by rw [z]; rfl)))), if_neg (fun z => h' (.inr (.inr (.inl (by rw [z]; rfl))))), if_neg (fun z => h' (.inr (.inr (.inr (.inl (by rw [z]; rfl)))))), if_neg (fun z => h' (.inr (.inr (.inr (.inr (by rw [z]; rfl))))))]
      rw [er] at k
      exact Rs.go (g1.mono e2).ex k
    · rw [Bool.or_eq_false_iff, decide_eq_false_iff_not, w2, Bool.not_eq_false'] at h
      obtain ⟨hW, hin⟩ := h
      rw [inV5] at hin
      have hi : i < c.t.length := by
        rcases Nat.lt_or_ge i c.t.length with z | z
        · exact z
        · rw [nb_end z] at hin
          omega
      have hd := List.drop_eq_getElem_cons hi
      have hb := nb_lt hi
      rw [hb] at hin ⊢
      generalize hbd : c.t[i] = b at hd hin ⊢
      have def1 : beginM c.S c.t i W = (if b = 116 then .ok ⟨i + 1, W, some (holdMask c.S .top)⟩
          else if b = 99 then (match numIn 256 (i + 1, c.t.drop (i + 1)) with
            | .error e => .error e
            | .ok x => .ok ⟨x.2.1, W, some (holdMask c.S (.colour x.1))⟩)
          else if b = 33 then .ok ⟨i + 1, (33, 0) :: W, none⟩
          else if b = 40 then .ok ⟨i + 1, (40, 0) :: W, none⟩
          else if b = 60 then (match numIn 64 (i + 1, c.t.drop (i + 1)) with
            | .error e => .error e
            | .ok x => match byteIn 62 x.2 with
              | .error e => .error e
              | .ok q => .ok ⟨q.1, (60, x.1) :: W, none⟩)
          else .error i) := by
        unfold beginM
        rw [hd]
        dsimp only
        rw [if_neg (by omega)] <;> rfl
      rw [def1] at k
      have g2 := g1.mono e2
      -- self.at = self.at + 1
      refine ev_op (ev_aAt (T := T) (ev_var rfl) g2) ev_c rv_I0 H2 (Ex.refl _) _ fun H3 e3 => ⟨_, rfl, c.p, _, c.dx, _, rfl, e3 _ _ g2.obj, T.cAsker.cl, T.nAsker_at, (by show 4 < 1000; decide), ?_⟩
      rw [put_at]
      have g4 := (g2.mono e3).setAt (j := i + 1) (by omega)
      have ei : ((i : Int) + 1) = ((i + 1 : Nat) : Int) := rfl
      rw [← ei] at g4
      generalize upd H3 c.p (.ins T.cAsker.C c.dx (askF (.ref c.sp) (.ref c.tx) (.int ((i : Int) + 1)) (.ref c.wl))) = H4 at g4 ⊢
      have tb : ∀ (n : Nat) H5, n < 256 → EvT (tTest (tOp rEq (tVar 1) (tC (.int (n : Int))))) [some (.ref c.p), some (.int ((b.toNat : Nat) : Int)), none] H5 (decide (b = UInt8.ofNat n)) := fun n H5 hn => et_test (ev_is (ev_op (ev_var rfl) ev_c (rv_eq rfl)) (by
        congr 1
        exact decide_eq_decide.mpr ⟨fun z => (byte_ne hn).mp (by injection z), fun z => by rw [(byte_ne hn).mpr z]⟩))
      -- t
      refine q_when (tb 116 H4 (by omega)) (fun h H5 e5 => ?_) fun h H5 e5 => ?_
      · have h : b = 116 := of_decide_eq_true h
        rw [if_pos h] at k
        have g5 := g4.mono e5
        refine s_ret (ev_meth (ev_var rfl) g5.obj (askF_none _ _ _ _ _) ea_nil (sp_every g5)) fun H6 e6 => ?_
        have := k H6 (g5.mono e6)
        rw [hold_top] at this
        exact this
      have n116 : b ≠ 116 := of_decide_eq_false h
      rw [if_neg n116] at k
      have g5 := g4.mono e5
      -- c
      refine q_when (tb 99 H5 (by omega)) (fun h H6 e6 => ?_) fun h H6 e6 => ?_
      · have h : b = 99 := of_decide_eq_true h
        rw [if_pos h] at k
        have g6 := g5.mono e6
        refine ⟨_, rfl, c.p, c.dx, _, rfl, g6.obj, askF_none _ _ _ _ _, ⟨_, rfl, c.p, c.dx, _, rfl, g6.obj, askF_none _ _ _ _ _, c, i + 1, W, 255, rfl, g6, by omega, ?_⟩⟩
        show (match numIn 256 (i + 1, c.t.drop (i + 1)) with | .error e => _ | .ok x => _)
        cases hn : numIn 256 (i + 1, c.t.drop (i + 1)) with
        | error e =>
          rw [hn] at k
          exact k
        | ok x =>
          rw [hn] at k
          intro H7 g7
          refine ⟨c, x.2.1, W, x.1, rfl, g7, fun v H8 e8 q => ?_⟩
          subst q
          have := k H8 (g7.mono e8)
          rw [hold_colour] at this
          exact this
      have n99 : b ≠ 99 := of_decide_eq_false h
      rw [if_neg n99] at k
      have g6 := g5.mono e6
      -- told = 0
      refine q_asg ev_c fun H7 e7 => ?_
      have g7 := g6.mono e7
      -- the end: self.waiting.append((byte, told)); return None
      have last : ∀ (x : Nat) (j : Nat) H8, AskG T.cSystem.C T.cAsker.C c j W H8 → (∀ H9, AskG T.cSystem.C T.cAsker.C c j ((b.toNat, x) :: W) H9 → Q .non H9) → tSeq (tDrop (tBM K "list" rAppend (tFld K (tVar 0) "waiting") (tCons (tTup (tCons (tVar 1) (tCons (tVar 2) tNil))) tNil))) (tRet (tC .non)) { nx := fun _ H' => Q .non H', rt := Q }
          [some (.ref c.p), some (.int ((b.toNat : Nat) : Int)), some (.int (x : Int))] H8 := by
        intro x j H8 g8 kk
        obtain ⟨ys, y1, y2⟩ := wait_len g8.wait
        refine q_appU y1 (ev_aWl (T := T) (ev_var rfl) g8) (eu_tup (ea_cons (ev_var rfl) (ea_cons (ev_var rfl) ea_nil)) (by simp)) (by rw [y2, List.length_map, List.length_reverse]; have := g8.dep; omega) fun t H10 nt e10 ht => ?_
        obtain ⟨zs, z1, z2, z3⟩ := push_wait (x := (b.toNat, x)) (g8.mono e10) ht (by omega)
        have ez : zs = ys := by
          rw [e10 _ _ y1] at z1
          injection Option.some.inj z1 with z
          exact z.symm
        subst ez
        exact kk _ z3
      have fin : ∀ (m : Nat), m < 256 → b = UInt8.ofNat m → b.toNat = m := fun m hm hb => by rw [hb, UInt8.toNat_ofNat_of_lt' (by omega)]
      refine q_when (tb 60 H7 (by omega)) (fun h H8 e8 => ?_) fun h H8 e8 => ?_
      · have h : b = 60 := of_decide_eq_true h
        rw [if_neg (by rw [h]; decide), if_neg (by rw [h]; decide), if_pos h] at k
        have g8 := g7.mono e8
        refine ⟨_, rfl, c.p, c.dx, _, rfl, g8.obj, askF_none _ _ _ _ _, c, i + 1, W, 63, rfl, g8, by omega, ?_⟩
        show (match numIn 64 (i + 1, c.t.drop (i + 1)) with | .error e => _ | .ok x => _)
        cases hn : numIn 64 (i + 1, c.t.drop (i + 1)) with
        | error e =>
          rw [hn] at k
          exact k
        | ok x =>
          rw [hn] at k
          dsimp only at k ⊢
          intro H9 g9
          have hx := numIn_ok (show i + 1 ≤ c.t.length by omega) hn
          have ex2 : x.2 = (x.2.1, c.t.drop x.2.1) := Prod.ext rfl hx.1
          refine ⟨_, rfl, c.p, c.dx, _, rfl, g9.obj, askF_none _ _ _ _ _, c, x.2.1, W, 62, rfl, g9, ?_⟩
          rw [ex2] at k
          cases hq : byteIn 62 (x.2.1, c.t.drop x.2.1) with
          | error e =>
            rw [hq] at k
            exact k
          | ok q =>
            rw [hq] at k
            intro H10 g10
            refine last x.1 q.1 H10 g10 fun H11 g11 => ?_
            rw [fin 60 (by omega) h] at g11
            exact k H11 g11
      have n60 : b ≠ 60 := of_decide_eq_false h
      have g8 := g7.mono e8
      refine last 0 (i + 1) H8 g8 fun H9 g9 => ?_
      by_cases c33 : b = 33
      · rw [if_pos c33] at k
        rw [fin 33 (by omega) c33] at g9
        exact k H9 g9
      · rw [if_neg c33] at k
        have c40 : b = 40 := by
          rcases hin with z | z | z | z | z
          · exact absurd ((byte_ne (c := b) (n := 116) (by omega)).mp z) n116
          · exact absurd ((byte_ne (c := b) (n := 99) (by omega)).mp z) n99
          · exact absurd ((byte_ne (c := b) (n := 33) (by omega)).mp z) c33
          · exact (byte_ne (c := b) (n := 40) (by omega)).mp z
          · exact absurd ((byte_ne (c := b) (n := 60) (by omega)).mp z) n60
        rw [if_pos c40] at k
        rw [fin 40 (by omega) c40] at g9
        exact k H9 g9
end
end LkW
end

section
set_option Elab.async false
set_option linter.all false
set_option maxRecDepth 100000
set_option maxHeartbeats 2000000
/-! Formulas: the end of one, and the whole. -/
namespace LkW
open PySem PySem.Spec PyProof.Rows L2 Evl Lk
open Ln (Sys Arc Bytes isDigit valueOf numIn byteIn Form)

section
variable {K : PySem.W.Frag} {σ : L2.St} {H : Hp} {ta : TE}
/-- xs != [], xs a list of tuples -/
theorem et_noLT {L : List (List Int)} (h : EvP ta σ H (Lts L)) : EvT (tTest (tOp (rNeD K) ta (tLst tNil))) σ H (!decide (L = [])) :=
  fun H1 e Q k => h H1 e _ fun v H2 e2 ⟨a, ev, ha⟩ => ⟨by simp, fun q nq => ⟨.list (dTs L), .list [], by subst ev; exact dp_LT (ha.mono (Ex.new nq)), dp_nil upd_same, shaped_Ts _, PySem.W.ke_shaped_ints [], _, rfl, by
    have ev := eqv_Ts L []
    unfold dTs at ev ⊢
    rw [List.map_nil] at ev
    rw [PyData.eqv, ev]
    exact k _ (e2.trans (Ex.new nq))⟩⟩
end
theorem xor_all {n m : Nat} (h : m < 2 ^ n) : (mask (fun _ => true) n) ^^^ m = mask (fun _ => true) n - m := by
  have e : mask (fun _ => true) n - m = 2 ^ n - (m + 1) := by have := mask_all n; omega
  apply Nat.eq_of_testBit_eq
  intro i
  rw [e, Nat.testBit_two_pow_sub_succ h, Nat.testBit_xor, testBit_mask]
  by_cases c : i < n
  · simp [c]
  · have : m.testBit i = false := Nat.testBit_lt_two_pow (Nat.lt_of_lt_of_le h (Nat.pow_le_pow_right (by omega) (by omega)))
    simp [c, this]
theorem lead_lt {S : Sys} (W : Wf S) (l m : Nat) : leadMask S l m < 2 ^ S.states := by
  apply Nat.lt_pow_two_of_testBit
  intro i hi
  unfold leadMask
  rw [testBit_lead, Nat.zero_testBit, Bool.false_or, Bool.eq_false_iff]
  intro z
  obtain ⟨a, ha, h⟩ := List.any_eq_true.mp z
  have := (W.bd a ha).1
  rw [Bool.and_eq_true, beq_iff_eq] at h
  omega
/-- a state's numbers are of so many bits -/
def MsOk (S : Sys) (st : MS) : Prop := ∀ m, st.found = some m → m < 2 ^ S.states
theorem begin_ok {S : Sys} {t : Bytes} {i : Nat} {W : List (Nat × Nat)} {st : MS} (h : beginM S t i W = .ok st) : MsOk S st := by
  intro m hm
  unfold beginM at h
  split at h
  · cases h
  · split at h
    · cases h
    · split at h
      · have := Except.ok.inj h
        subst this
        rw [← Option.some.inj hm]
        exact mask_lt _ _
      · split at h
        · split at h
          · cases h
          · have := Except.ok.inj h
            subst this
            rw [← Option.some.inj hm]
            exact mask_lt _ _
        · split at h
          · have := Except.ok.inj h
            subst this
            cases hm
          · split at h
            · have := Except.ok.inj h
              subst this
              cases hm
            · split at h
              · split at h
                · cases h
                · split at h
                  · cases h
                  · have := Except.ok.inj h
                    subst this
                    cases hm
              · cases h
theorem end_ok {S : Sys} (wf : Wf S) {t : Bytes} {i : Nat} {W : List (Nat × Nat)} {m : Nat} {st : MS} (hm0 : m < 2 ^ S.states) (h : endM S t i W m = .ok st) : MsOk S st := by
  intro k hk
  unfold endM at h
  split at h
  · cases h
  · split at h
    · have := Except.ok.inj h
      subst this
      rw [← Option.some.inj hk]
      have := mask_lt (fun _ => true) S.states
      omega
    · split at h
      · have := Except.ok.inj h
        subst this
        rw [← Option.some.inj hk]
        exact lead_lt wf _ _
      · split at h
        · split at h
          · cases h
          · have := Except.ok.inj h
            subst this
            cases hk
        · split at h
          · cases h
          · have := Except.ok.inj h
            subst this
            rw [← Option.some.inj hk]
            exact Nat.lt_of_le_of_lt Nat.and_le_right hm0

section
variable {P : Program} {w : World} {K : PySem.W.Frag} {mg : Str → Option Value} {base : Heap} (T : Txt K mg)
/-! #### end -/
def spEnd (CS CA CF : Addr) : Sp := fun vs H Q E => ∃ c i W x m, vs = [.ref c.p, .int (m : Nat)] ∧ AskG CS CA c i (x :: W) H ∧ m < 2 ^ c.S.states ∧
  (match endM c.S c.t i (x :: W) m with
    | .error e => Rs CF "place" (.int (e : Nat)) c.H0 E
    | .ok st => ∀ H2, AskG CS CA c st.at_ st.wait H2 → Q (foV st.found) H2)
theorem ok_Asker_end : FnOk P w K mg base (L2N.CX P w) 5 T.Asker_end.f T.Asker_end.fd ["self", "where"] (spEnd T.cSystem.C T.cAsker.C T.xFault.C) := by
  have G_Asker_everywhere := ok_Asker_everywhere (P := P) (w := w) (base := base) T
  have G_Asker_leading := ok_Asker_leading (P := P) (w := w) (base := base) T
  have G_Asker_need := ok_Asker_need (P := P) (w := w) (base := base) T
  refine LkX.okN T.Asker_end.F sc_Asker_end (fun vs H Q E h => ?_) (fun cdv A outer s H vs Q E hr h => ⟨_, (pss_cons (ps_asg (pe_bm0 PySem.F.plainAttrs_list PySem.F.slot_list_pop PySem.F.type_list_pop mt_pop (pe_fld (pv 0) (by rfl))) (pg_tup (by rfl) (pgs_cons (pg_name (i := 2) sc_Asker_end.nd rfl (Or.inl rfl)) (pgs_cons (pg_name (i := 3) sc_Asker_end.nd rfl (Or.inl rfl)) pgs_nil)))) (pss_cons (ps_if (pt_cmpR op_eq (pv 2) (pe_K (by rfl) T.k_NOT) (nomark _)) (pss_one (ps_ret (pe_op op_xor (pe_meth0 (pv 0) T.cAsker.cl T.Asker_everywhere.m G_Asker_everywhere (hr.mono (by first | decide | omega)) T.b_Asker_everywhere .nil pass0) (pv 1)))) pss_nil) (pss_cons (ps_if (pt_cmpR op_eq (pv 2) (pe_K (by rfl) T.k_LESS) (nomark _)) (pss_one (ps_ret (pe_meth (pv 0) T.cAsker.cl T.Asker_leading.m G_Asker_leading (hr.mono (by first | decide | omega)) T.b_Asker_leading .nil pass0 (pa_cons (pv 3) (pa_cons (pv 1) pa_nil))))) pss_nil) (pss_cons (ps_if (pt_cmpR op_eq (pv 2) (pe_K (by rfl) T.k_LEFT) (nomark _)) (pss_cons (ps_expr (pe_meth (pv 0) T.cAsker.cl T.Asker_need.m G_Asker_need (hr.mono (by first | decide | omega)) T.b_Asker_need .nil (L2N.passes_call (L2N.takes_of rfl rfl rfl rfl) (fun _ _ _ _ z => z)) (pa_cons (pe_K (by rfl) T.k_AND) pa_nil))) (pss_cons (ps_expr (pe_bm PySem.F.plainAttrs_list PySem.F.slot_list_append PySem.F.type_list_append mt_append (pe_fld (pv 0) (by rfl)) (pa_cons (pe_tup (pa_cons (pe_K (by rfl) T.k_AND) (pa_cons (pv 1) pa_nil))) pa_nil))) (pss_one (ps_ret pe_non)))) pss_nil) (pss_cons (ps_expr (pe_meth (pv 0) T.cAsker.cl T.Asker_need.m G_Asker_need (hr.mono (by first | decide | omega)) T.b_Asker_need .nil (L2N.passes_call (L2N.takes_of rfl rfl rfl rfl) (fun _ _ _ _ z => z)) (pa_cons (pe_K (by rfl) T.k_RIGHT) pa_nil))) (pss_one (ps_ret (pe_op op_and (pv 3) (pv 1))))))))), ?_⟩)
  · obtain ⟨c, i, W, x, m, rfl, _⟩ := h
    rfl
  · obtain ⟨c, i, W, x, m, rfl, g, hm, k⟩ := h
    have most := g.wf.most
    -- sign, told = self.waiting.pop()
    obtain ⟨ks, a1, a2, a3⟩ := g.wait
    obtain ⟨ks0, tk, eks⟩ : ∃ ks0 tk, ks = ks0 ++ [tk] := by
      have len : ks.length = W.length + 1 := by
        have := congrArg List.length a2
        simpa using this
      exact ⟨ks.dropLast, ks.getLast (by intro z; rw [z] at len; simp at len), (List.dropLast_concat_getLast _).symm⟩
    subst eks
    have a2' : ks0.map (·.2) ++ [tk.2] = W.reverse.map pairI ++ [pairI x] := by
      have := a2
      simp only [List.map_append, List.map_cons, List.map_nil, List.reverse_cons] at this
      exact this
    obtain ⟨b1, b2⟩ := List.append_inj' a2' rfl
    have b2 : tk.2 = pairI x := by injection b2
    refine qasg_g (ev_aWl (T := T) (te := tVar 0) (σ := [some (.ref c.p), some (.int (m : Int)), none, none]) (ev_var rfl) g H (Ex.refl _) (fun y H1 => tyV K "list" y H1 ∧ rPop y [] H1 _) fun H1 e1 => ?_)
    have g1 := g.mono e1
    have w1 : H1 c.wl = some (.lst ((ks0 ++ [tk]).map fun p => V.ref p.1)) := e1 _ _ a1
    refine ⟨.inl ⟨rfl, _, sq_of w1⟩, c.wl, _, .ref tk.1, rfl, rfl, w1, by simp, ?_⟩
    have g2 : AskG T.cSystem.C T.cAsker.C c i W (upd H1 c.wl (.lst (((ks0 ++ [tk]).map fun p => V.ref p.1).dropLast))) := by
      have := g1.setW (W' := W) (ks := ks0) w1 b1 (fun p hp => e1 _ _ (a3 p (List.mem_append_left _ hp))) (by have := g.dep; simp at this; omega)
      rw [List.map_append, List.map_cons, List.map_nil, List.dropLast_concat]
      exact this
    have ht2 : (upd H1 c.wl (.lst (((ks0 ++ [tk]).map fun p => V.ref p.1).dropLast))) tk.1 = some (.tup [.int (x.1 : Int), .int (x.2 : Int)]) := by
      have := tup_upd (o := .lst (((ks0 ++ [tk]).map fun p => V.ref p.1).dropLast)) (D := c.wl) (e1 _ _ (a3 tk (List.mem_append_right _ (List.mem_singleton.mpr rfl)))) (by rw [w1]; intro ys z; cases z)
      rw [b2] at this
      exact this
    generalize upd H1 c.wl (.lst (((ks0 ++ [tk]).map fun p => V.ref p.1).dropLast)) = H2 at g2 ht2 ⊢
    refine gtup2 ht2 ?_
    have eqt : ∀ (n : Nat) H3, EvT (tTest (tOp rEq (tVar 2) (tC (.int (n : Int))))) [some (.ref c.p), some (.int (m : Int)), some (.int (x.1 : Int)), some (.int (x.2 : Int))] H3 (x.1 == n) := fun n H3 => ev_eqN (ev_var rfl) ev_c
    have def1 : endM c.S c.t i (x :: W) m = (if x.1 = 33 then .ok ⟨i, W, some (mask (fun _ => true) c.S.states - m)⟩
        else if x.1 = 60 then .ok ⟨i, W, some (leadMask c.S x.2 m)⟩
        else if x.1 = 40 then (match byteIn 38 (i, c.t.drop i) with
          | .error e => .error e
          | .ok q => .ok ⟨q.1, (38, m) :: W, none⟩)
        else (match byteIn 41 (i, c.t.drop i) with
          | .error e => .error e
          | .ok q => .ok ⟨q.1, W, some (x.2 &&& m)⟩)) := by
      unfold endM
      rfl
    rw [def1] at k
    refine q_when (eqt 33 H2) (fun h H3 e3 => ?_) fun h H3 e3 => ?_
    · rw [beq_iff_eq] at h
      rw [if_pos h] at k
      have g3 := g2.mono e3
      refine s_ret (v := .int ((mask (fun _ => true) c.S.states - m : Nat) : Int)) (ev_is (ev_op (ev_meth (ev_var rfl) g3.obj (askF_none _ _ _ _ _) ea_nil (sp_every g3)) (ev_var rfl) rv_I0) ?_) fun H4 e4 => k H4 (g3.mono e4)
      rw [LkM.bxor_nn, xor_all hm]
    rw [beq_eq_false_iff_ne] at h
    rw [if_neg h] at k
    have g3 := g2.mono e3
    refine q_when (eqt 60 H3) (fun h H4 e4 => ?_) fun h H4 e4 => ?_
    · rw [beq_iff_eq] at h
      rw [if_pos h] at k
      have g4 := g3.mono e4
      exact s_ret (ev_meth (ev_var rfl) g4.obj (askF_none _ _ _ _ _) (ea_cons (ev_var rfl) (ea_cons (ev_var rfl) ea_nil)) (sp_lead g4)) fun H5 e5 => k H5 (g4.mono e5)
    rw [beq_eq_false_iff_ne] at h
    rw [if_neg h] at k
    have g4 := g3.mono e4
    refine q_when (eqt 40 H4) (fun h H5 e5 => ?_) fun h H5 e5 => ?_
    · rw [beq_iff_eq] at h
      rw [if_pos h] at k
      have g5 := g4.mono e5
      refine qdrop_x (x_meth (ev_var rfl) g5.obj (askF_none _ _ _ _ _) (ea_cons ev_c ea_nil) fun H6 e6 => ⟨c, i, W, 38, rfl, g5.mono e6, ?_⟩)
      cases hq : byteIn 38 (i, c.t.drop i) with
      | error e =>
        rw [hq] at k
        exact k
      | ok q =>
        rw [hq] at k
        intro H7 g7
        obtain ⟨ys, y1, y2⟩ := wait_len g7.wait
        have hd := g.dep
        rw [List.length_cons] at hd
        refine q_appU y1 (ev_aWl (T := T) (ev_var rfl) g7) (eu_tup (ea_cons ev_c (ea_cons (ev_var rfl) ea_nil)) (by simp)) (by rw [y2, List.length_map, List.length_reverse]; omega) fun t H10 nt e10 ht => ?_
        obtain ⟨zs, z1, z2, z3⟩ := push_wait (x := (38, m)) (g7.mono e10) ht (by omega)
        have ez : zs = ys := by
          rw [e10 _ _ y1] at z1
          injection Option.some.inj z1 with z
          exact z.symm
        subst ez
        exact k _ z3
    rw [beq_eq_false_iff_ne] at h
    rw [if_neg h] at k
    have g5 := g4.mono e5
    refine qdrop_x (x_meth (ev_var rfl) g5.obj (askF_none _ _ _ _ _) (ea_cons ev_c ea_nil) fun H6 e6 => ⟨c, i, W, 41, rfl, g5.mono e6, ?_⟩)
    cases hq : byteIn 41 (i, c.t.drop i) with
    | error e =>
      rw [hq] at k
      exact k
    | ok q =>
      rw [hq] at k
      intro H7 g7
      refine s_ret (v := .int ((x.2 &&& m : Nat) : Int)) (ev_is (ev_op (ev_var rfl) (ev_var rfl) rv_I0) ?_) fun H8 e8 => k H8 (g7.mono e8)
      rw [LkM.band_nn]

/-! #### asked -/
def spAsked (CS CA CF : Addr) : Sp := fun vs H Q E => ∃ c, vs = [.ref c.p] ∧ AskG CS CA c 0 [] H ∧
  (match whereM c.S c.t with
    | .error e => Rs CF "place" (.int (e : Nat)) c.H0 E
    | .ok m => ∀ H2, Ex c.H0 H2 → Q (.int (m : Int)) H2)
theorem ok_Asker_asked : FnOk P w K mg base (L2N.CX P w) 6 T.Asker_asked.f T.Asker_asked.fd ["self"] (spAsked T.cSystem.C T.cAsker.C T.xFault.C) := by
  have G_Asker_begin := ok_Asker_begin (P := P) (w := w) (base := base) T
  have G_Asker_end := ok_Asker_end (P := P) (w := w) (base := base) T
  have G_Fault_init0 := ok_Fault_init0 (P := P) (w := w) (base := base) T
  refine LkX.okN T.Asker_asked.F sc_Asker_asked (fun vs H Q E h => ?_) (fun cdv A outer s H vs Q E hr h => ⟨_, (pss_cons (ps_set (i := 1) sc_Asker_asked.nd rfl (Or.inl rfl) (pe_meth0 (pv 0) T.cAsker.cl T.Asker_begin.m G_Asker_begin (hr.mono (by first | decide | omega)) T.b_Asker_begin .nil (L2N.passes_call (L2N.takes_of rfl rfl rfl rfl) (fun _ _ _ _ z => z)))) (pss_cons (ps_while PassesOwn.leaving (PW.pt (pw_or (pt_cmpR op_isN (pv 1) pe_non (nomark _)) (pw_or1 (pt_cmpR (op_neD hr.units) (pe_fld (pv 0) (by rfl)) (pe_lst pa_nil) (nomark _))))) (pss_one (ps_if (pt_cmpR op_isN (pv 1) pe_non (nomark _)) (pss_one (ps_set (i := 1) sc_Asker_asked.nd rfl (Or.inl rfl) (pe_meth0 (pv 0) T.cAsker.cl T.Asker_begin.m G_Asker_begin (hr.mono (by first | decide | omega)) T.b_Asker_begin .nil (L2N.passes_call (L2N.takes_of rfl rfl rfl rfl) (fun _ _ _ _ z => z))))) (pss_one (ps_set (i := 1) sc_Asker_asked.nd rfl (Or.inl rfl) (pe_meth (pv 0) T.cAsker.cl T.Asker_end.m G_Asker_end (hr.mono (by first | decide | omega)) T.b_Asker_end .nil (L2N.passes_call (L2N.takes_of rfl rfl rfl rfl) (fun _ _ _ _ z => z)) (pa_cons (pv 1) pa_nil))))))) (pss_cons (ps_if (pt_cmpR op_ne (pe_fld (pv 0) (by rfl)) (pe_callB call_len_seq (by rfl) T.g_len (by decide +kernel) (pa_cons (pe_fld (pv 0) (by rfl)) pa_nil)) (nomark _)) (pss_one (L2N.ps_raise (by rfl) (L2N.takes_of rfl rfl rfl rfl) (LkX.pmkN_oex T.xFault.ox T.Fault_init0.iC T.Fault_init0.tI G_Fault_init0 (hr.mono (by first | decide | omega)) T.b_Fault_init0 .nil pass0 (by rfl) T.xFault.g (pa_cons (pe_fld (pv 0) (by rfl)) pa_nil)))) pss_nil) (pss_one (ps_ret (pv 1)))))), ?_⟩)
  · obtain ⟨c, rfl, _⟩ := h
    rfl
  · obtain ⟨c, rfl, g, k⟩ := h
    obtain ⟨n, r, hout, hr2⟩ := asked_out c.S g.wf c.t
    have kerr : ∀ e, r = .error e → Rs T.xFault.C "place" (.int (e : Nat)) c.H0 E := fun e z => by
      subst z
      rw [hr2] at k
      exact k
    -- what follows once the first beginning is read
    have go : ∀ (n : Nat) (st : MS) H1, OutN c.S c.t n st r → MsOk c.S st → AskG T.cSystem.C T.cAsker.C c st.at_ st.wait H1 → ∀ D : Ends, D.rt = Q →
        tSeq (tWhile (tOr (tTest (tOp rIsN (tVar 1) (tC .non))) (tTest (tOp (rNeD K) (tFld K (tVar 0) "waiting") (tLst tNil))))
          (tIfS (tTest (tOp rIsN (tVar 1) (tC .non))) (tAsg (tMeth T.cAsker.C "begin" (spBeg T.cSystem.C T.cAsker.C T.xFault.C) [] E (tVar 0) tNil) (gName 1)) (tAsg (tMeth T.cAsker.C "end" (spEnd T.cSystem.C T.cAsker.C T.xFault.C) [] E (tVar 0) (tCons (tVar 1) tNil)) (gName 1))))
          (tSeq (tIfS (tTest (tOp rNe (tFld K (tVar 0) "at") (tCB (rLenS K) (tCons (tFld K (tVar 0) "text") tNil)))) (fun _ σ H => tMkO T.xFault.C (spXInit T.xFault.C "place") [] (tCons (tFld K (tVar 0) "at") tNil) σ H fun cls d H' => E cls d H') tNext) (tRet (tVar 1)))
          D [some (.ref c.p), some (foV st.found)] H1 := by
      intro n st H1 ho hms g1 D hD
      refine q_while (fun n σ' H' => ∃ st : MS, σ' = [some (.ref c.p), some (foV st.found)] ∧ OutN c.S c.t n st r ∧ MsOk c.S st ∧ AskG T.cSystem.C T.cAsker.C c st.at_ st.wait H') n ⟨st, rfl, ho, hms, g1⟩ ?_
      rintro n σ' H' ⟨st, rfl, ho, hms, g'⟩
      obtain ⟨i, W, fo⟩ := st
      have t1 : ∀ H2, EvT (tTest (tOp rIsN (tVar 1) (tC .non))) [some (.ref c.p), some (foV fo)] H2 fo.isNone := fun H2 => et_test (ev_is (ev_op (ev_var rfl) ev_c fun H3 e3 Q k => ⟨rfl, k H3 (Ex.refl _)⟩) (by
        congr 1
        cases fo with
        | none => rfl
        | some m => rfl))
      have t2 : EvT (tTest (tOp (rNeD K) (tFld K (tVar 0) "waiting") (tLst tNil))) [some (.ref c.p), some (foV fo)] H' (!decide (W = [])) := et_is (et_noLT (lts_v (ev_aWl (T := T) (ev_var rfl) g') g'.wait)) (by
        congr 1
        exact decide_eq_decide.mpr (by simp))
      refine ⟨_, et_or (t1 H') fun _ => t2, fun h H2 e2 => ?_, fun h H2 e2 => ?_⟩
      · have g2 := g'.mono e2
        cases fo with
        | none =>
          cases ho with
          | begErr hb =>
            refine ⟨fun _ _ => False, fun _ _ z => z.elim, s_if (t1 H2) (fun _ H3 e3 => asg_x (x_meth (ev_var rfl) (g2.mono e3).obj (askF_none _ _ _ _ _) ea_nil fun H4 e4 => ⟨c, i, W, rfl, (g2.mono e3).mono e4, ?_⟩)) fun z => nomatch z⟩
            rw [hb]
            exact kerr _ rfl
          | beg hb ho' =>
            rename_i kk st'
            refine ⟨fun σ2 H2 => ∃ m', m' < kk + 1 ∧ ∃ st : MS, σ2 = [some (.ref c.p), some (foV st.found)] ∧ OutN c.S c.t m' st r ∧ MsOk c.S st ∧ AskG T.cSystem.C T.cAsker.C c st.at_ st.wait H2, fun _ _ z => z, s_if (t1 H2) (fun _ H3 e3 => asg_x (x_meth (ev_var rfl) (g2.mono e3).obj (askF_none _ _ _ _ _) ea_nil fun H4 e4 => ⟨c, i, W, rfl, (g2.mono e3).mono e4, ?_⟩)) fun z => nomatch z⟩
            rw [hb]
            exact fun H5 g5 => ⟨kk, Nat.lt_succ_self _, st', rfl, ho', begin_ok hb, g5⟩
        | some m =>
          have hm := hms m rfl
          cases ho with
          | fin => simp at h
          | endErr hb =>
            refine ⟨fun _ _ => False, fun _ _ z => z.elim, s_if (t1 H2) (fun z => nomatch z) fun _ H3 e3 => asg_x (x_meth (ev_var rfl) (g2.mono e3).obj (askF_none _ _ _ _ _) (ea_cons (ev_var rfl) ea_nil) fun H4 e4 => ⟨c, i, _, _, m, rfl, (g2.mono e3).mono e4, hm, ?_⟩)⟩
            rw [hb]
            exact kerr _ rfl
          | en hb ho' =>
            rename_i kk x W' st'
            refine ⟨fun σ2 H2 => ∃ m', m' < kk + 1 ∧ ∃ st : MS, σ2 = [some (.ref c.p), some (foV st.found)] ∧ OutN c.S c.t m' st r ∧ MsOk c.S st ∧ AskG T.cSystem.C T.cAsker.C c st.at_ st.wait H2, fun _ _ z => z, s_if (t1 H2) (fun z => nomatch z) fun _ H3 e3 => asg_x (x_meth (ev_var rfl) (g2.mono e3).obj (askF_none _ _ _ _ _) (ea_cons (ev_var rfl) ea_nil) fun H4 e4 => ⟨c, i, _, _, m, rfl, (g2.mono e3).mono e4, hm, ?_⟩)⟩
            rw [hb]
            exact fun H5 g5 => ⟨kk, Nat.lt_succ_self _, st', rfl, ho', end_ok g2.wf hm hb, g5⟩
      · rw [Bool.or_eq_false_iff] at h
        obtain ⟨h1, h2⟩ := h
        have hW : W = [] := by simpa using h2
        subst hW
        cases fo with
        | none => cases h1
        | some m =>
          cases ho with
          | fin =>
            have g2 := g'.mono e2
            have htx := g2.ex _ _ g2.txt
            dsimp only at hr2
            refine q_when (et_test (ev_op (ev_aAt (T := T) (ev_var rfl) g2) (ev_len (K := K) (ev_aTxt (T := T) (ev_var rfl) g2) (sq_of htx)) (rv_ne rfl))) (fun hc H3 e3 => ?_) fun hc H3 e3 => ?_
            · have ne : i ≠ c.t.length := by
                intro z
                rw [z, bV_len] at hc
                simp at hc
              rw [if_neg ne] at hr2
              rw [hr2] at k
              exact mk_x (ea_cons (ev_aAt (T := T) (ev_var rfl) (g2.mono e3)) ea_nil) (Rs.go (g2.mono e3).ex k)
            · have eq : i = c.t.length := by
                rw [bV_len, Bool.not_eq_false', decide_eq_true_eq] at hc
                exact Int.ofNat.inj (V.int.inj hc)
              rw [if_pos eq] at hr2
              rw [hr2] at k
              refine s_ret (ev_var rfl) fun H4 e4 => ?_
              rw [hD]
              exact k H4 ((g2.mono e3).mono e4).ex
    refine qasg_x (x_meth (ev_var rfl) g.obj (askF_none _ _ _ _ _) ea_nil fun H1 e1 => ⟨c, 0, [], rfl, g.mono e1, ?_⟩)
    cases hout with
    | begErr hb =>
      rw [hb]
      exact kerr _ rfl
    | beg hb ho' =>
      rw [hb]
      exact fun H2 g2 => go _ _ H2 ho' (begin_ok hb) g2 _ rfl

/-! #### Asker.__init__, where_holds -/
def spAInit (CA : Addr) : Sp := fun vs H Q _ => ∃ (p dx : Addr) (a b : V), vs = [.ref p, a, b] ∧ H p = some (.ins CA dx []) ∧ ∀ (H' : Hp) (wl : Addr), H' p = some (.ins CA dx (askF a b (.int 0) (.ref wl))) → H wl = none → H' wl = some (.lst []) → But p H H' → Q .non H'
theorem ok_Asker_init0 : FnOk P w K mg base CX0 1 T.Asker_init0.f T.Asker_init0.fd ["self", "system", "text"] (spAInit T.cAsker.C) := by
  refine T.Asker_init0.F.ok sc_Asker_init0 (fun vs H Q E h => ?_) (fun cdv A outer s H vs Q E hr h => ⟨_, (pss_cons (ps_fld (pv 0) (pv 1) (by rfl)) (pss_cons (ps_fld (pv 0) (pv 2) (by rfl)) (pss_cons (ps_fld (pv 0) pe_int (by rfl)) (pss_one (ps_fld (pv 0) (pe_lst pa_nil) (by rfl)))))), ?_⟩)
  · obtain ⟨p, dx, a, b, rfl, _⟩ := h
    rfl
  · obtain ⟨p, dx, a, b, rfl, hp, k⟩ := h
    refine ⟨_, rfl, _, rfl, p, _, dx, [], rfl, hp, T.cAsker.cl, T.nAsker_system, (by show 0 < 1000; decide), ?_⟩
    refine ⟨_, rfl, _, rfl, p, _, dx, _, rfl, upd_same, T.cAsker.cl, T.nAsker_text, (by show 1 < 1000; decide), ?_⟩
    refine ⟨_, rfl, p, _, dx, _, rfl, upd_same, T.cAsker.cl, T.nAsker_at, (by show 2 < 1000; decide), ?_⟩
    refine ⟨by simp, fun wl nw => ⟨_, rfl, p, _, dx, _, rfl, Ex.new nw _ _ upd_same, T.cAsker.cl, T.nAsker_waiting, (by show 3 < 1000; decide), ?_⟩⟩
    have nwp : wl ≠ p := fun z => by
      rw [z, upd_same] at nw
      cases nw
    refine k _ wl ?_ ?_ ?_ ?_
    · rw [upd_same]
      congr 2
    · rw [upd_ne nwp, upd_ne nwp, upd_ne nwp] at nw
      exact nw
    · rw [upd_ne nwp, upd_same]
    · intro z o hz ne
      have zw : z ≠ wl := fun y => by
        rw [upd_ne nwp, upd_ne nwp, upd_ne nwp] at nw
        rw [y, nw] at hz
        cases hz
      rw [upd_ne ne, upd_ne zw, upd_ne ne, upd_ne ne, upd_ne ne]
      exact hz
def spWh (CS CF : Addr) : Sp := fun vs H Q E => ∃ sp tx S t, vs = [.ref sp, .ref tx] ∧ SysAt CS H sp S ∧ Wf S ∧ H tx = some (.lst (bV t)) ∧ t.length ≤ 10000 ∧
  (match whereM S t with
    | .error e => Rs CF "place" (.int (e : Nat)) H E
    | .ok m => Gives H Q fun v _ => v = .int (m : Int))
theorem ok_where_holds : FnOk P w K mg base (L2N.CX P w) 7 T.where_holds.f T.where_holds.fd ["system", "text"] (spWh T.cSystem.C T.xFault.C) := by
  have G_Asker_init0 := ok_Asker_init0 (P := P) (w := w) (base := base) T
  have G_Asker_asked := ok_Asker_asked (P := P) (w := w) (base := base) T
  refine LkX.okN T.where_holds.F sc_where_holds (fun vs H Q E h => ?_) (fun cdv A outer s H vs Q E hr h => ⟨_, (pss_cons (ps_set (i := 2) sc_where_holds.nd rfl (Or.inl rfl) (pe_make T.mk_Asker G_Asker_init0 (hr.mono (by first | decide | omega)) (by rfl) T.cAsker.g T.b_Asker_init0 .nil pass0 (pa_cons (pv 0) (pa_cons (pv 1) pa_nil)))) (pss_one (ps_ret (pe_meth0 (pv 2) T.cAsker.cl T.Asker_asked.m G_Asker_asked (hr.mono (by first | decide | omega)) T.b_Asker_asked .nil (L2N.passes_call (L2N.takes_of rfl rfl rfl rfl) (fun _ _ _ _ z => z)))))), ?_⟩)
  · obtain ⟨sp, tx, S, t, rfl, _⟩ := h
    rfl
  · obtain ⟨sp, tx, S, t, rfl, hS, W, ht, few, k⟩ := h
    refine qasg_x ⟨_, rfl, _, rfl, fun x dx nx nd ne => ⟨x, dx, .ref sp, .ref tx, rfl, upd_same, fun H1 wl h1 h2 h3 h4 => ⟨rfl, ?_⟩⟩⟩
    have nw : H wl = none := by
      have wx : wl ≠ x := fun z => by
        rw [z, upd_same] at h2
        cases h2
      have wd : wl ≠ dx := fun z => by
        rw [z, upd_ne ne, upd_same] at h2
        cases h2
      rw [upd_ne wx, upd_ne wd] at h2
      exact h2
    have e1 : Ex H H1 := Same.made nx nd h4
    have g : AskG T.cSystem.C T.cAsker.C ⟨H, dx, sp, tx, wl, x, S, t⟩ 0 [] H1 := ⟨e1, nx, nw, hS, W, ht, few, h1, ⟨[], h3, rfl, fun p hp => by cases hp⟩, Nat.zero_le _, Nat.zero_le _⟩
    refine ret_x (x_meth (p := x) (ev_var rfl) h1 (askF_none _ _ _ _ _) ea_nil fun H2 e2 => ⟨⟨H, dx, sp, tx, wl, x, S, t⟩, rfl, g.mono e2, ?_⟩)
    show (match whereM S t with | .error e => _ | .ok m => _)
    cases hw : whereM S t with
    | error e =>
      rw [hw] at k
      exact k
    | ok m =>
      rw [hw] at k
      exact fun H3 e3 => k _ H3 e3 rfl
end
end LkW
end

section
set_option Elab.async false
set_option linter.all false
set_option maxRecDepth 100000
set_option maxHeartbeats 2000000
/-! Telling: texts. -/
namespace LkW
open PySem PySem.Spec PyProof.Rows L2 Evl Lk
open Ln (Sys Arc Bytes dec Form)

theorem dec_map : ∀ n, n < 256 → (Nat.toDigits 10 n).map Char.toNat = (dec n).map UInt8.toNat := by decide +kernel
theorem log_small : ∀ n, n < 256 → n.log2 < 1920 := by decide +kernel
theorem codes_app (a b : Str) : (a ++ b).cps.toList = a.cps.toList ++ b.cps.toList := by
  show (a.cps ++ b.cps).toList = _
  simp
theorem codes_str (s : String) : (Str.ofString s).cps.toList = s.toList.map Char.toNat := by
  rw [Str.ofString_eq_toList]
theorem str_dec {n : Nat} (h : n < 256) : (Str.ofString (toString ((n : Nat) : Int))).cps.toList = (dec n).map UInt8.toNat := by
  rw [codes_str, ← dec_map n h]
  congr 1
  show (Nat.repr n).toList = _
  unfold Nat.repr
  simp
theorem bV_map (t : Bytes) : bV t = (t.map UInt8.toNat).map fun (n : Nat) => V.int (n : Int) := by
  unfold bV
  rw [List.map_map]
  rfl
theorem bV_app (a b : Bytes) : bV (a ++ b) = bV a ++ bV b := List.map_append ..
theorem dec_len : ∀ n, n < 256 → (dec n).length ≤ 3 := by decide +kernel

section
variable {K : PySem.W.Frag} {σ : L2.St} {H : Hp} {ta tb te : TE} {xs ys : List V}
theorem el_catP (ha : EvP ta σ H (Lst xs)) (hb : EvP tb σ H (Lst ys)) (hz : xs.length + ys.length ≤ 1000000) : EvL (tOp rCat ta tb) σ H (xs ++ ys) :=
  fun H1 e Q k => ha H1 e _ fun v H2 e2 ⟨a, ev, h1⟩ => hb H2 (e.trans e2) _ fun u H3 e3 ⟨b, eu, h2⟩ => ⟨a, b, xs, ys, ev, eu, e3 _ _ h1, h2, by rw [sizeLine_eq]; omega, fun r hr => k r _ (fresh_back (e2.trans e3) hr) ((e2.trans e3).trans (Ex.new hr)) upd_same⟩
/-- over a text -/
theorem el_lcSP {z : Str} {tl : TE} {g : TG} {tt : TT} {vs : List Nat} (f : Nat → Bool) (P : Nat → V → Hp → Prop) (hP : Stays P) (h : Ev tl σ H (.str z)) (hz : z.cps.size ≤ 40000)
    (ht : ∀ i c H1, Ex H H1 → z.cps[i]? = some c → Turn σ H1 g tt te vs f P i (.str ⟨#[c]⟩)) : ElP (tLc (iStr tl) g tt te vs) σ H (fun ys H2 => GivP f P H2 z.cps.size ys) :=
  fun H1 e Q k => h H1 e _ fun H2 e2 => by
    have e12 := e.trans e2
    refine ⟨z, rfl, lc_any (J := Its z) (Item := fun i x _ => ∃ c, z.cps[i]? = some c ∧ x = .str ⟨#[c]⟩) f P hP hz (fun i H3 e3 hi => hi) (fun i H3 e3 hi => hi)
      (fun i H3 x H4 e3 hi y => ?_) (fun i x H3 e3 hi it => ?_) (fun p ys H3 n e3 hp q => k p ys H3 (fresh_back e2 n) (e2.trans e3) hp q)⟩
    · obtain ⟨rfl, y⟩ := y
      exact ⟨Ex.refl _, y⟩
    · obtain ⟨c, h1, h2⟩ := it
      subst h2
      exact ht i c H3 (e12.trans e3) h1
end
section
variable {P : Program} {w : World} {K : PySem.W.Frag} {mg : Str → Option Value} {base : Heap} (T : Txt K mg)
/-! #### codes -/
def spCodes : Sp := fun vs H Q _ => ∃ z, vs = [.str z] ∧ z.cps.size ≤ 40000 ∧ ∀ p H2, H p = none → Ex H H2 → H2 p = some (.lst (vN z.cps.toList)) → Q (.ref p) H2
theorem ok_codes : FnOk P w K mg base CX0 1 T.codes.f T.codes.fd ["text"] spCodes := by
  refine T.codes.F.ok sc_codes (fun vs H Q E h => ?_) (fun cdv A outer s H vs Q E hr h => ⟨_, (pss_one (ps_ret (pe_lc (own := [("sign", 1)]) (g := gName 1)  (by rfl) sc_codes.nd (pi_str (pv 0)) (blkOk_by (own := [("sign", 1)]) (N := n_codes) (sc := defScope s_codes) (by decide +kernel)) (fun _ _ _ _ _ => (pg_name (i := 1) sc_codes.nd rfl (Or.inl rfl))) (fun _ _ _ _ _ => pts_nil) (fun _ _ _ _ _ => (pe_callB call_ord (by rfl) T.g_ord (by decide +kernel) (pa_cons (pv 1) pa_nil)))))), ?_⟩)
  · obtain ⟨z, rfl, _⟩ := h
    rfl
  · obtain ⟨z, rfl, hz, k⟩ := h
    refine s_retL (xs := vN z.cps.toList) (elp_l (ElP.imp (el_lcSP (fun _ => true) (fun i y H => y = V.int ((z.cps.toList.getD i 0 : Nat) : Int)) stays_val (ev_var rfl) hz fun i c H1 e1 hc => ?_) fun ys H2 e2 q => ?_)) fun p H1 np e1 hp => k p H1 np e1 hp
    · refine turn_of (fun Q H2 e2 q => q) rfl (fun H2 e2 Q k => k H2 (Ex.refl _)) (fun _ => evp (ev_cb (ea_cons (ev_var rfl) ea_nil) fun H2 e2 Q k => ⟨⟨#[c]⟩, rfl, rfl, ?_⟩))
      have : z.cps.toList.getD i 0 = c := by
        rw [List.getD_eq_getElem?_getD, Array.getElem?_toList, hc]
        rfl
      have kk := k H2 (Ex.refl _)
      rw [this] at kk
      exact kk
    · rw [q.vals, List.filter_eq_self.mpr (fun _ _ => rfl)]
      unfold vN
      apply List.ext_getElem
      · simp
      · intro i h1 h2
        simp only [List.getElem_map, List.getElem_range]
        have h3 : i < z.cps.toList.length := by simpa using h2
        rw [getD_lt z.cps.toList i 0 h3]
theorem el_codes {σ : L2.St} {H : Hp} {te : TE} {z : Str} (h : Ev te σ H (.str z)) (hz : z.cps.toList.length ≤ 40000) : EvL (tCall spCodes [] E0 (tCons te tNil)) σ H (vN z.cps.toList) :=
  fun H1 e Q k => h H1 e _ fun H2 e2 => ⟨z, rfl, by simpa using hz, fun p H3 np e3 hp => k p H3 (fresh_back e2 np) (e2.trans e3) hp⟩
theorem vN_codes {z : Str} {t : Bytes} (h : z.cps.toList = t.map UInt8.toNat) : vN z.cps.toList = bV t := by
  rw [h, bV_map]
  rfl
theorem el_text {σ : L2.St} {H : Hp} {te : TE} {z : Str} {t : Bytes} (h : Ev te σ H (.str z)) (hz : z.cps.toList = t.map UInt8.toNat) (hl : t.length ≤ 40000) : EvL (tCall spCodes [] E0 (tCons te tNil)) σ H (bV t) := by
  rw [← vN_codes hz]
  exact el_codes h (by rw [hz, List.length_map]; exact hl)
theorem one_text (c : Char) {b : UInt8} (h : c.toNat = b.toNat) : (Str.ofString (String.ofList [c])).cps.toList = [b].map UInt8.toNat := by
  rw [codes_str]
  simp [h]

/-! #### short -/
/-- a text that may be too long, made: None only if it's too long -/
def MadeV (H : Hp) (v : V) (b : Bytes) : Prop := (∃ a, v = .ref a ∧ H a = some (.lst (bV b)) ∧ b.length ≤ 200000) ∨ (v = .non ∧ 500 < b.length)
def TxtV (H : Hp) (v : V) (b : Bytes) : Prop := (b.length ≤ 500 ∧ ∃ a, v = .ref a ∧ H a = some (.lst (bV b))) ∨ (500 < b.length ∧ v = .non)
theorem TxtV.mono {H H' : Hp} {v : V} {b : Bytes} (e : Ex H H') (h : TxtV H v b) : TxtV H' v b := by
  rcases h with ⟨h1, a, h2, h3⟩ | h
  · exact .inl ⟨h1, a, h2, e _ _ h3⟩
  · exact .inr h
theorem MadeV.mono {H H' : Hp} {v : V} {b : Bytes} (e : Ex H H') (h : MadeV H v b) : MadeV H' v b := by
  rcases h with ⟨a, h2, h3, h4⟩ | h
  · exact .inl ⟨a, h2, e _ _ h3, h4⟩
  · exact .inr h
def spShort : Sp := fun vs H Q _ => ∃ v b, vs = [v] ∧ MadeV H v b ∧ Gives H Q (fun u H2 => TxtV H2 u b)
theorem ok_short : FnOk P w K mg base CX0 1 T.short.f T.short.fd ["text"] spShort := by
  refine T.short.F.ok sc_short (fun vs H Q E h => ?_) (fun cdv A outer s H vs Q E hr h => ⟨_, (pss_cons (ps_if (PW.pt (pw_or (pt_cmpR op_isN (pv 0) pe_non (nomark _)) (pw_or1 (pt_cmpR op_gt (pe_callB call_len_seq (by rfl) T.g_len (by decide +kernel) (pa_cons (pv 0) pa_nil)) (pe_K (by rfl) T.k_MOST_TOLD) (nomark _))))) (pss_one (ps_ret pe_non)) pss_nil) (pss_one (ps_ret (pv 0)))), ?_⟩)
  · obtain ⟨v, b, rfl, _⟩ := h
    rfl
  · obtain ⟨v, b, rfl, hv, k⟩ := h
    rcases hv with ⟨a, rfl, ha, hl⟩ | ⟨rfl, hl⟩
    · refine q_when (et_or (a := false) (et_test (ev_is (ev_op (ev_var rfl) ev_c fun H3 e3 Q k => ⟨rfl, k H3 (Ex.refl _)⟩) rfl)) fun _ => et_test (ev_op (r := rI0 fun i j => .bl (decide (j < i))) (ev_len (K := K) (ev_var rfl) (sq_of ha)) ev_c rv_I0)) (fun h H1 e1 => ?_) fun h H1 e1 => ?_
      · rw [Bool.false_or, decide_eq_true_eq, bV_len] at h
        exact s_ret ev_c fun H2 e2 => k _ H2 (e1.trans e2) (.inr ⟨by omega, rfl⟩)
      · rw [Bool.false_or, decide_eq_false_iff_not, bV_len] at h
        exact s_ret (ev_var rfl) fun H2 e2 => k _ H2 (e1.trans e2) (.inl ⟨by omega, a, rfl, e2 _ _ (e1 _ _ ha)⟩)
    · refine q_when (b := true) (et_is (et_or (a := true) (b := true) (et_test (ev_is (ev_op (ev_var rfl) ev_c fun H3 e3 Q k => ⟨rfl, k H3 (Ex.refl _)⟩) rfl)) fun z => nomatch z) rfl) (fun h H1 e1 => ?_) fun h => nomatch h
      exact s_ret ev_c fun H2 e2 => k _ H2 (e1.trans e2) (.inr ⟨hl, rfl⟩)

/-! #### all_of -/
/-- lists of bytes at their places -/
def TxtsAt (H : Hp) (rs : List Addr) (ts : List Bytes) : Prop := rs.length = ts.length ∧ ∀ (i : Nat) r t, rs[i]? = some r → ts[i]? = some t → H r = some (.lst (bV t))
theorem TxtsAt.mono {H H' : Hp} {rs : List Addr} {ts : List Bytes} (e : Ex H H') (h : TxtsAt H rs ts) : TxtsAt H' rs ts := ⟨h.1, fun i r t a b => e _ _ (h.2 i r t a b)⟩
theorem dp_txts {K : PySem.W.Frag} {H : Hp} : ∀ {rs : List Addr} {ts : List Bytes}, TxtsAt H rs ts → DpAll K H (rs.map V.ref) (ts.map fun t => dL (t.map fun (b : UInt8) => (b.toNat : Int)))
  | [], [], _ => .nil
  | [], _ :: _, h => by cases h.1
  | _ :: _, [], h => by cases h.1
  | r :: rs, t :: ts, h => .cons (dp_L (by rw [h.2 0 r t rfl rfl, bV_int])) (dp_txts ⟨by have := h.1; simpa using this, fun i r' t' a b => h.2 (i + 1) r' t' a b⟩)
def spAllOf : Sp := fun vs H Q _ => ∃ p rs ts, vs = [.ref p] ∧ H p = some (.lst (rs.map V.ref)) ∧ TxtsAt H rs ts ∧ ts.length ≤ 256 ∧ (∀ t ∈ ts, t.length ≤ 500) ∧ Gives H Q (Lst (bV (joinText ts)))
theorem sum_le : ∀ {ts : List Bytes}, (∀ t ∈ ts, t.length ≤ 500) → sumLen ts ≤ 500 * ts.length
  | [], _ => by simp [sumLen]
  | t :: ts, h => by
    have h1 := h t List.mem_cons_self
    have h2 := sum_le fun u hu => h u (List.mem_cons_of_mem _ hu)
    unfold sumLen at h2 ⊢
    simp only [List.map_cons, List.sum_cons, List.length_cons]
    omega
theorem join_le {ts : List Bytes} (h : ∀ t ∈ ts, t.length ≤ 500) : (joinText ts).length ≤ 503 * ts.length + 1 := by
  have := sum_le h
  rw [joinText_length]
  split <;> omega
theorem ok_all_of : FnOk P w K mg base CX0 2 T.all_of.f T.all_of.fd ["texts"] spAllOf := by
  have G_codes := ok_codes (P := P) (w := w) (base := base) T
  refine T.all_of.F.ok sc_all_of (fun vs H Q E h => ?_) (fun cdv A outer s H vs Q E hr h => ⟨_, (pss_cons (ps_if (pt_cmpR (op_eqD hr.units) (pv 0) (pe_lst pa_nil) (nomark _)) (pss_one (ps_ret (pe_call G_codes (hr.mono (by first | decide | omega)) (by rfl) T.codes.g T.codes.F.kp T.b_codes .nil pass0 (pa_cons pe_str pa_nil)))) pss_nil) (pss_cons (ps_set (i := 1) sc_all_of.nd rfl (Or.inl rfl) (pe_ix ix_list (pv 0) (pe_un un_neg pe_int) (fun _ _ => rfl))) (pss_cons (ps_for PassesOwn.never (by rfl) (pi_list (LkM.pe_rev2 (pv 0))) (pg_name (i := 2) sc_all_of.nd rfl (Or.inl rfl)) (pss_one (ps_set (i := 1) sc_all_of.nd rfl (Or.inl rfl) (pe_op op_cat (pe_op op_cat (pe_op op_cat (pe_op op_cat (pe_call G_codes (hr.mono (by first | decide | omega)) (by rfl) T.codes.g T.codes.F.kp T.b_codes .nil pass0 (pa_cons pe_str pa_nil)) (pv 2)) (pe_call G_codes (hr.mono (by first | decide | omega)) (by rfl) T.codes.g T.codes.F.kp T.b_codes .nil pass0 (pa_cons pe_str pa_nil))) (pv 1)) (pe_call G_codes (hr.mono (by first | decide | omega)) (by rfl) T.codes.g T.codes.F.kp T.b_codes .nil pass0 (pa_cons pe_str pa_nil)))))) (pss_one (ps_ret (pv 1)))))), ?_⟩)
  · obtain ⟨p, rs, ts, rfl, _⟩ := h
    rfl
  · obtain ⟨p, rs, ts, rfl, hp, ht, few, hlen, k⟩ := h
    have small : ∀ d : Nat, (joinText (ts.drop d)).length ≤ 140000 := fun d => by
      have h1 := join_le (ts := ts.drop d) fun t h => hlen t (List.mem_of_mem_drop h)
      rw [List.length_drop] at h1
      have := Nat.mul_le_mul_left 503 (show ts.length - d ≤ 256 by omega)
      omega
    have tz : EvT (tTest (tOp (rEqD K) (tVar 0) (tLst tNil))) [some (.ref p), none, none] H (decide (ts = [])) := fun H1 e Q2 k2 => ⟨_, rfl, by simp, fun q nq => ⟨.list (ts.map fun t => dL (t.map fun (b : UInt8) => (b.toNat : Int))), .list [], .lst (sq_of (Ex.new nq _ _ (e _ _ hp))) (dp_txts (ht.mono (e.trans (Ex.new nq)))), dp_nil upd_same, by
        have := shaped_Ls (ts.map fun t => t.map fun (b : UInt8) => (b.toNat : Int))
        rw [List.map_map] at this
        exact this, PySem.W.ke_shaped_ints [], _, rfl, by
        have e1 : PyData.eqv (.list (ts.map fun t => dL (t.map fun (b : UInt8) => (b.toNat : Int)))) (.list []) = decide (ts = []) := by
          cases ts with
          | nil => simp [PyData.eqv, PyData.eqvAll]
          | cons a r => simp [PyData.eqv, PyData.eqvAll]
        rw [e1]
        exact k2 _ (Ex.new nq)⟩⟩
    refine q_when tz (fun h H1 e1 => ?_) fun h H1 e1 => ?_
    · have h := of_decide_eq_true h
      subst h
      refine s_retP (lst_l (el_text (t := [116]) ev_c ?_ (by simp))) fun v H2 e2 q => k v H2 (e1.trans e2) q
      exact one_text 't' rfl
    · have h : ts ≠ [] := of_decide_eq_false h
      have len := ht.1
      have pos : 0 < ts.length := List.length_pos_iff.mpr h
      -- found = texts[-1]
      have hlast : ∃ r, atI (rs.map V.ref) (-1) = some (V.ref r) ∧ H r = some (.lst (bV (joinText (ts.drop (ts.length - 1))))) := by
        have hr : ts.length - 1 < rs.length := by omega
        refine ⟨rs[ts.length - 1], ?_, ?_⟩
        · have e2 : rs = rs.take (ts.length - 1) ++ [rs[ts.length - 1]] := by
            have := List.take_append_drop (ts.length - 1) rs
            rw [List.drop_eq_getElem_cons hr, List.drop_of_length_le (by omega)] at this
            exact this.symm
          conv => lhs; rw [e2, List.map_append]
          exact atI_last _ _
        · rw [ht.2 (ts.length - 1) _ _ (List.getElem?_eq_getElem hr) (List.getElem?_eq_getElem (by omega)), List.drop_eq_getElem_cons (by omega), List.drop_of_length_le (by omega)]
          rfl
      obtain ⟨rl, l1, l2⟩ := hlast
      refine q_asg (v := .ref rl) (ev_op (ev_var rfl) (ev_un ev_c ru_neg) (rv_ixL (sq_of (e1 _ _ hp)) l1)) fun H2 e2 => ?_
      have e12 := e1.trans e2
      have rev : EvL (LkM.tRev2 K (tVar 0)) [some (.ref p), some (.ref rl), none] H2 ((rs.map V.ref).dropLast.reverse) := fun H3 e3 Q3 k3 => ⟨_, rfl, p, _, rfl, sq_of (e3 _ _ (e12 _ _ hp)), fun q nq => k3 q _ nq (Ex.new nq) upd_same⟩
      refine q_forNLn rev (fun q i σ' H' => ∃ a v2, σ' = [some (.ref p), some (.ref a), v2] ∧ Ex H H' ∧ H' q = some (.lst ((rs.map V.ref).dropLast.reverse)) ∧ H' a = some (.lst (bV (joinText (ts.drop (ts.length - 1 - i)))))) ?_ ?_ ?_ ?_
      · intro q H3 nq e3 hq
        exact ⟨rl, none, rfl, e12.trans e3, hq, e3 _ _ (e12 _ _ l2)⟩
      · rintro q i σ' H' hi ⟨a, v2, rfl, e, hq, ha⟩
        exact sq_of hq
      · rintro q i x σ' H' hx ⟨a, v2, rfl, e, hq, ha⟩
        have hi : i < ts.length - 1 := by
          have := (List.getElem?_eq_some_iff.mp hx).1
          simp at this
          omega
        have hr : ts.length - 2 - i < rs.length := by omega
        have ex : x = V.ref rs[ts.length - 2 - i] := by
          rw [List.getElem?_reverse (by simp; omega)] at hx
          rw [List.dropLast_eq_take, List.getElem?_take, if_pos (by simp; omega), List.getElem?_map] at hx
          simp only [List.length_take, List.length_map] at hx
          rw [show min (rs.length - 1) rs.length - 1 - i = ts.length - 2 - i by omega, List.getElem?_eq_getElem hr] at hx
          exact (Option.some.inj hx).symm
        subst ex
        have hts : ts.length - 2 - i < ts.length := by omega
        have hx2 := ht.2 (ts.length - 2 - i) _ _ (List.getElem?_eq_getElem hr) (List.getElem?_eq_getElem hts)
        have l500 := hlen _ (List.getElem_mem hts)
        have sm := small (ts.length - 1 - i)
        have ejoin : bV [40] ++ bV ts[ts.length - 2 - i] ++ bV [38] ++ bV (joinText (ts.drop (ts.length - 1 - i))) ++ bV [41] = bV (joinText (ts.drop (ts.length - 1 - (i + 1)))) := by
          rw [show ts.length - 1 - (i + 1) = ts.length - 2 - i by omega, List.drop_eq_getElem_cons hts, show ts.length - 2 - i + 1 = ts.length - 1 - i by omega]
          rw [← bV_app, ← bV_app, ← bV_app, ← bV_app]
          congr 1
          have hd : ts.drop (ts.length - 1 - i) ≠ [] := by
            intro z
            have := congrArg List.length z
            rw [List.length_drop] at this
            simp at this
            omega
          cases hq : ts.drop (ts.length - 1 - i) with
          | nil => exact absurd hq hd
          | cons y r => simp [joinText]
        refine s_asgL (xs := bV (joinText (ts.drop (ts.length - 1 - (i + 1))))) ?_ fun a' H3 na e3 ha' => ⟨a', _, rfl, e.trans e3, e3 _ _ hq, ha'⟩
        rw [← ejoin]
        have b1 := el_text (σ := [some (.ref p), some (.ref a), some (.ref rs[ts.length - 2 - i])]) (H := H') (te := tC (.str "(")) (t := [40]) ev_c (one_text '(' rfl) (by simp)
        have b2 := el_text (σ := [some (.ref p), some (.ref a), some (.ref rs[ts.length - 2 - i])]) (H := H') (te := tC (.str "&")) (t := [38]) ev_c (one_text '&' rfl) (by simp)
        have b3 := el_text (σ := [some (.ref p), some (.ref a), some (.ref rs[ts.length - 2 - i])]) (H := H') (te := tC (.str ")")) (t := [41]) ev_c (one_text ')' rfl) (by simp)
        have ll : ∀ t : Bytes, (bV t).length = t.length := bV_len
        exact el_catP (lst_l (el_catP (lst_l (el_catP (lst_l (el_catP (lst_l b1) (lst_v (ev_var rfl) (e _ _ hx2)) (by simp only [ll, List.length_cons, List.length_nil]; omega))) (lst_l b2) (by simp only [List.length_append, ll, List.length_cons, List.length_nil]; omega))) (lst_v (ev_var rfl) ha) (by simp only [List.length_append, ll, List.length_cons, List.length_nil]; omega))) (lst_l b3) (by simp only [List.length_append, ll, List.length_cons, List.length_nil]; omega)
      · rintro q σ' H' ⟨a, v2, rfl, e, hq, ha⟩
        refine s_ret (ev_var rfl) fun H3 e3 => k _ H3 (e.trans e3) ⟨a, rfl, ?_⟩
        have : ts.length - 1 - ((rs.map V.ref).dropLast.reverse).length = 0 := by
          simp
          omega
        rw [this, List.drop_zero] at ha
        exact e3 _ _ ha
end
end LkW
end

section
set_option Elab.async false
set_option linter.all false
set_option maxRecDepth 100000
set_option maxHeartbeats 2000000
/-! Telling: the recursion. -/
namespace LkW
open PySem PySem.Spec PyProof.Rows L2 Evl Lk
open Ln (Sys Arc Bytes dec Form loneArc joined)

theorem text_ne (f : Form) : f.text ≠ [] := by
  cases f <;> (unfold Form.text; simp)
theorem text_nodup : ∀ (n : Nat) (l : List Nat), l.Nodup → (∀ x ∈ l, x < n) → l.length ≤ n
  | 0, [], _, _ => Nat.le_refl 0
  | 0, a :: l, _, h => absurd (h a List.mem_cons_self) (Nat.not_lt_zero a)
  | n + 1, l, nd, h => by
    by_cases c : n ∈ l
    · have h1 := List.length_erase_of_mem c
      have h2 := text_nodup n (l.erase n) (nd.erase n) fun x hx => by
        have := (nd.mem_erase_iff).mp hx
        have := h x this.2
        omega
      omega
    · have := text_nodup n l nd fun x hx => by
        have h1 := h x hx
        have h2 : x ≠ n := fun z => c (z ▸ hx)
        omega
      omega
def telF (l s t : V) : List (Str × V) := [("levels", l), ("system", s), ("texts", t)]
theorem lk_tLev (a b c : V) : (telF a b c).lookup ("levels" : Str) = some a := lk_here
theorem lk_tSys (a b c : V) : (telF a b c).lookup ("system" : Str) = some b := (lk_past (by decide +kernel)).trans lk_here
theorem lk_tTxt (a b c : V) : (telF a b c).lookup ("texts" : Str) = some c := (lk_past (by decide +kernel)).trans ((lk_past (by decide +kernel)).trans lk_here)
theorem telF_none (a b c : V) (m : Str) (h1 : (m == ("levels" : Str)) = false := by decide +kernel) (h2 : (m == ("system" : Str)) = false := by decide +kernel) (h3 : (m == ("texts" : Str)) = false := by decide +kernel) : (telF a b c).lookup m = none := (lk_past h1).trans ((lk_past h2).trans ((lk_past h3).trans rfl))
/-- how deep the telling goes -/
def rk (S : Sys) (s t : Nat) : Nat := match S.depth s t with
  | some (k + 1) => 2 * (k + 1) + (if (loneArc S (R S k) s t).isNone = true then 1 else 0)
  | _ => 0
theorem rk_le {S : Sys} {s t d : Nat} (h : S.depth s t = some d) : rk S s t ≤ 2 * d + 1 := by
  unfold rk
  rw [h]
  cases d with
  | zero => exact Nat.zero_le _
  | succ k =>
    dsimp only
    split <;> omega
theorem rk_succ {S : Sys} {s t k : Nat} (h : S.depth s t = some (k + 1)) : rk S s t = 2 * (k + 1) + (if (loneArc S (R S k) s t).isNone = true then 1 else 0) := by
  unfold rk
  rw [h]
abbrev kP (s t : Nat) : List Key := [Sum.inl (s : Int), Sum.inl (t : Int)]
structure TextsOk (S : Sys) (kvs : List (List Key × V)) (H : Hp) : Prop where
  nd : (kvs.map (·.1)).Nodup
  val : ∀ p ∈ kvs, ∃ s t d, p.1 = kP s t ∧ s < S.states ∧ t < S.states ∧ S.depth s t = some d ∧ TxtV H p.2 (tf S s t).text
theorem valV_mem {κ : Type} [DecidableEq κ] {kvs : List (κ × V)} {k : κ} {v : V} (h : valV kvs k = some v) : (k, v) ∈ kvs := by
  unfold valV at h
  cases hf : kvs.find? (fun kv => decide (kv.1 = k)) with
  | none => rw [hf] at h; cases h
  | some p =>
    rw [hf] at h
    have h1 := List.mem_of_find?_eq_some hf
    have h2 := of_decide_eq_true (List.find?_some (p := fun (kv : κ × V) => decide (kv.1 = k)) hf)
    have h3 : p.2 = v := Option.some.inj h
    obtain ⟨a, b⟩ := p
    dsimp only at h2 h3
    rw [← h2, ← h3]
    exact h1
theorem kP_inj {s t s' t' : Nat} (h : kP s t = kP s' t') : s = s' ∧ t = t' := by
  injection h with h1 h2
  injection h1 with h1
  injection h2 with h2 _
  injection h2 with h2
  omega
theorem TextsOk.few {S : Sys} {kvs : List (List Key × V)} {H : Hp} (W : Wf S) (h : TextsOk S kvs H) : kvs.length ≤ 1024 := by
  have most := W.most
  have key : ∀ p ∈ kvs, ∃ s t, p.1 = kP s t ∧ s < 32 ∧ t < 32 := fun p hp => by
    obtain ⟨s, t, d, h1, h2, h3, _⟩ := h.val p hp
    exact ⟨s, t, h1, by omega, by omega⟩
  have code : ∀ k : List Key, ∃ n : Nat, ∀ s t, k = kP s t → s < 32 → t < 32 → n = s * 32 + t := fun k => by
    by_cases c : ∃ s t, k = kP s t
    · obtain ⟨s, t, e⟩ := c
      exact ⟨s * 32 + t, fun s' t' e' _ _ => by
        have := kP_inj (e.symm.trans e')
        rw [this.1, this.2]⟩
    · exact ⟨0, fun s t e => absurd ⟨s, t, e⟩ c⟩
  let cd : List Key → Nat := fun k => Classical.choose (code k)
  have hcd : ∀ s t, s < 32 → t < 32 → cd (kP s t) = s * 32 + t := fun s t hs ht => Classical.choose_spec (code (kP s t)) s t rfl hs ht
  have nd : ((kvs.map (·.1)).map cd).Nodup := by
    refine List.pairwise_map.mpr (List.Pairwise.imp_of_mem (fun {a b} ha hb hne z => ?_) h.nd)
    obtain ⟨p, hp, rfl⟩ := List.mem_map.mp ha
    obtain ⟨q, hq, rfl⟩ := List.mem_map.mp hb
    obtain ⟨s, t, e1, b1, b2⟩ := key p hp
    obtain ⟨s', t', e2, b3, b4⟩ := key q hq
    rw [e1, e2, hcd s t b1 b2, hcd s' t' b3 b4] at z
    have hs : s = s' := by omega
    have ht : t = t' := by omega
    exact hne (by rw [e1, e2, hs, ht])
  have := text_nodup 1024 _ nd fun x hx => by
    rw [List.map_map] at hx
    obtain ⟨p, hp, rfl⟩ := List.mem_map.mp hx
    obtain ⟨s, t, e1, b1, b2⟩ := key p hp
    show cd p.1 < 1024
    rw [e1, hcd s t b1 b2]
    omega
  rw [List.length_map, List.length_map] at this
  exact this
section
variable {σ : L2.St} {H : Hp} {td ty : TE} {a : Addr} {kvs : List (List Key × V)} {xs : List V} {s t : Nat}
theorem et_notinT (hy : EvU ty σ H [.int (s : Int), .int (t : Int)]) (hd : Ev td σ H (.ref a)) (h : H a = some (.dT kvs)) : EvT (tB (tDNotIn ty td)) σ H (!(valV kvs (kP s t)).isSome) :=
  fun H1 e Q k => hy H1 e _ fun y H2 ny e2 hy' => hd H2 (e.trans e2) _ fun H3 e3 => ⟨a, _, rfl, DGet.t (k := kP s t) (e3 _ _ (e2 _ _ (e _ _ h))) (show H3 y = some (.tup ((kP s t).map kV)) from e3 _ _ hy'), _, rfl, k H3 (e2.trans e3)⟩
theorem ev_dgetT {v : V} (hd : Ev td σ H (.ref a)) (hy : EvU ty σ H [.int (s : Int), .int (t : Int)]) (h : H a = some (.dT kvs)) (hv : valV kvs (kP s t) = some v) : Ev (tDGet td ty) σ H v :=
  fun H1 e Q k => hd H1 e _ fun H2 e2 => hy H2 (e.trans e2) _ fun y H3 ny e3 hy' => ⟨a, v, rfl, by
    have := DGet.t (k := kP s t) (e3 _ _ (e2 _ _ (e _ _ h))) (show H3 y = some (.tup ((kP s t).map kV)) from hy')
    rw [hv] at this
    exact this, k H3 (e2.trans e3)⟩
end
/-- a teller and what it tells of -/
structure TC where
  H0 : Hp
  dx : Addr
  lv : Addr
  sp : Addr
  td : Addr
  p : Addr
  S : Sys
  m : Nat
structure TelG (CS CL CT : Addr) (c : TC) (H : Hp) : Prop where
  ex : Ex c.H0 H
  np : c.H0 c.p = none
  nt : c.H0 c.td = none
  lev : LevAt CS CL c.H0 c.lv c.S c.m
  sys : SysAt CS c.H0 c.sp c.S
  wf : Wf c.S
  obj : H c.p = some (.ins CT c.dx (telF (.ref c.lv) (.ref c.sp) (.ref c.td)))
  txt : ∃ kvs, H c.td = some (.dT kvs) ∧ TextsOk c.S kvs H
theorem TextsOk.mono {S : Sys} {kvs : List (List Key × V)} {H H' : Hp} (e : Ex H H') (h : TextsOk S kvs H) : TextsOk S kvs H' := ⟨h.nd, fun p hp => by
  obtain ⟨s, t, d, h1, h2, h3, h4, h5⟩ := h.val p hp
  exact ⟨s, t, d, h1, h2, h3, h4, h5.mono e⟩⟩
theorem TelG.mono {CS CL CT : Addr} {c : TC} {H H' : Hp} (e : Ex H H') (g : TelG CS CL CT c H) : TelG CS CL CT c H' := ⟨g.ex.trans e, g.np, g.nt, g.lev, g.sys, g.wf, e _ _ g.obj, by
  obtain ⟨kvs, h1, h2⟩ := g.txt
  exact ⟨kvs, e _ _ h1, h2.mono e⟩⟩
theorem TxtV.upd {H : Hp} {v : V} {b : Bytes} {D : Addr} {o u : HO} (hd : H D = some u) (ne : u ≠ .lst (bV b)) (h : TxtV H v b) : TxtV (L2.upd H D o) v b := by
  rcases h with ⟨h1, a, h2, h3⟩ | h
  · exact .inl ⟨h1, a, h2, rd_upd h3 (by rw [hd]; exact fun z => ne (Option.some.inj z))⟩
  · exact .inr h
theorem TxtV.but {H H' : Hp} {v : V} {b : Bytes} {td : Addr} {kvs : List (List Key × V)} (hd : H td = some (.dT kvs)) (k : But td H H') (h : TxtV H v b) : TxtV H' v b := by
  rcases h with ⟨h1, a, h2, h3⟩ | h
  · refine .inl ⟨h1, a, h2, k _ _ h3 fun z => ?_⟩
    rw [z, hd] at h3
    cases h3
  · exact .inr h
theorem dT_lst {kvs : List (List Key × V)} {b : Bytes} : HO.dT kvs ≠ .lst (bV b) := fun z => by cases z
/-- a list that is being made grows -/
theorem TelG.grow {CS CL CT : Addr} {c : TC} {H : Hp} {D : Addr} {acc : List V} {o : HO} (g : TelG CS CL CT c H) (hD0 : c.H0 D = none) (hd : H D = some (.lst acc)) (ha : ∀ v ∈ acc, ∀ i : Int, v ≠ .int i) : TelG CS CL CT c (L2.upd H D o) where
  ex := g.ex.mut hD0
  np := g.np
  nt := g.nt
  lev := g.lev
  sys := g.sys
  wf := g.wf
  obj := rd_upd g.obj (by rw [hd]; intro z; cases z)
  txt := by
    obtain ⟨kvs, h1, h2⟩ := g.txt
    refine ⟨kvs, rd_upd h1 (by rw [hd]; intro z; cases z), h2.nd, fun p hp => ?_⟩
    obtain ⟨s, t, d, k1, k2, k3, k4, k5⟩ := h2.val p hp
    refine ⟨s, t, d, k1, k2, k3, k4, k5.upd hd fun z => ?_⟩
    injection z with z
    have ne := text_ne (tf c.S s t)
    cases hb : (tf c.S s t).text with
    | nil => exact ne hb
    | cons x r =>
      rw [hb] at z
      have : V.int ((x.toNat : Nat) : Int) ∈ acc := by rw [z]; exact List.mem_cons_self
      exact ha _ this _ rfl
theorem txt_noint {H : Hp} {v : V} {b : Bytes} (h : TxtV H v b) : ∀ i : Int, v ≠ .int i := fun i z => by
  rcases h with ⟨_, a, h2, _⟩ | ⟨_, h2⟩ <;> (rw [z] at h2; cases h2)

section
variable {P : Program} {w : World} {K : PySem.W.Frag} {mg : Str → Option Value} {base : Heap} (T : Txt K mg)
section
variable {T} {σ : L2.St} {H : Hp} {te : TE} {c : TC}
theorem ev_tLev (h : Ev te σ H (.ref c.p)) (g : TelG T.cSystem.C T.cLevels.C T.cTeller.C c H) : Ev (tFld K te "levels") σ H (.ref c.lv) := ev_fld h g.obj T.cTeller.cl T.nTeller_levels (lk_tLev _ _ _)
theorem ev_tSys (h : Ev te σ H (.ref c.p)) (g : TelG T.cSystem.C T.cLevels.C T.cTeller.C c H) : Ev (tFld K te "system") σ H (.ref c.sp) := ev_fld h g.obj T.cTeller.cl T.nTeller_system (lk_tSys _ _ _)
theorem ev_tTxt (h : Ev te σ H (.ref c.p)) (g : TelG T.cSystem.C T.cLevels.C T.cTeller.C c H) : Ev (tFld K te "texts") σ H (.ref c.td) := ev_fld h g.obj T.cTeller.cl T.nTeller_texts (lk_tTxt _ _ _)
end
/-! #### is_alike -/
def spAlike (CS CL CT : Addr) : Sp := fun vs H Q _ => ∃ c x y k, vs = [.ref c.p, .int (x : Nat), .int (y : Nat), .int (k : Nat)] ∧ TelG CS CL CT c H ∧ x < c.S.states ∧ y < c.S.states ∧ k ≤ c.m ∧ Gives H Q (fun v _ => v = .bl (decide ((R c.S k).getD x 0 = (R c.S k).getD y 0)))
theorem ok_Teller_is_alike : FnOk P w K mg base CX0 1 T.Teller_is_alike.f T.Teller_is_alike.fd ["self", "one", "other", "steps"] (spAlike T.cSystem.C T.cLevels.C T.cTeller.C) := by
  refine T.Teller_is_alike.F.ok sc_Teller_is_alike (fun vs H Q E h => ?_) (fun cdv A outer s H vs Q E hr h => ⟨_, (pss_cons (ps_set (i := 4) sc_Teller_is_alike.nd rfl (Or.inl rfl) (pe_ix ix_list (pe_fld (pe_fld (pv 0) (by rfl)) (by rfl)) (pv 3) (fun _ _ => rfl))) (pss_one (ps_ret (pe_cmpR op_eq (pe_ix ix_list (pv 4) (pv 1) (fun _ _ => rfl)) (pe_ix ix_list (pv 4) (pv 2) (fun _ _ => rfl)) (nomark _))))), ?_⟩)
  · obtain ⟨c, x, y, k, rfl, _⟩ := h
    rfl
  · obtain ⟨c, x, y, k, rfl, g, hx, hy, hk, kk⟩ := h
    obtain ⟨hm, hst, dx, sp, ra, rs, h1, h2, h3, h4⟩ := g.lev.mono g.ex
    obtain ⟨r, r1, r2⟩ := rows_at h4 hk
    refine q_asg (v := .ref r) (ev_op (ev_rows (T := T) (ev_tLev (T := T) (ev_var rfl) g) h1) (ev_var rfl) (rv_ixL (sq_of h3) (atI_nat (by rw [List.getElem?_map, r1]; rfl)))) fun H1 e1 => ?_
    refine s_ret (ev_op (ev_ixN (K := K) (ev_var rfl) (ev_var rfl) (e1 _ _ r2) (by rw [R_length]; exact hx)) (ev_ixN (K := K) (ev_var rfl) (ev_var rfl) (e1 _ _ r2) (by rw [R_length]; exact hy)) (rv_eq rfl)) fun H2 e2 => kk _ H2 (e1.trans e2) ?_
    congr 1
    exact decide_eq_decide.mpr ⟨fun h => by injection h with h; omega, fun h => by rw [h]⟩
theorem sp_alike {CS CL CT : Addr} {H : Hp} {c : TC} {x y k : Nat} (g : TelG CS CL CT c H) (hx : x < c.S.states) (hy : y < c.S.states) (hk : k ≤ c.m) : SpP (spAlike CS CL CT) [.ref c.p, .int (x : Int), .int (y : Int), .int (k : Int)] H (fun v _ => v = .bl (decide ((R c.S k).getD x 0 = (R c.S k).getD y 0))) := fun H1 e Q E kk => ⟨c, x, y, k, rfl, g.mono e, hx, hy, hk, kk⟩

/-! #### the three -/
def spTell (CS CL CT : Addr) (n : Nat) : Sp := fun vs H Q _ => ∃ c s t d, vs = [.ref c.p, .int (s : Nat), .int (t : Nat)] ∧ TelG CS CL CT c H ∧ s < c.S.states ∧ t < c.S.states ∧ c.S.depth s t = some d ∧ rk c.S s t < n ∧
  ∀ v H2, TelG CS CL CT c H2 → But c.td H H2 → TxtV H2 v (tf c.S s t).text → Q v H2
def spMade (CS CL CT : Addr) (n : Nat) : Sp := fun vs H Q _ => ∃ c s t d, vs = [.ref c.p, .int (s : Nat), .int (t : Nat)] ∧ TelG CS CL CT c H ∧ s < c.S.states ∧ t < c.S.states ∧ c.S.depth s t = some d ∧ rk c.S s t ≤ n ∧
  ∀ v H2, TelG CS CL CT c H2 → But c.td H H2 → MadeV H2 v (tf c.S s t).text → Q v H2
def spByArc (CS CL CT : Addr) (n : Nat) : Sp := fun vs H Q _ => ∃ c a x q ws, vs = [.ref c.p, .int (a : Nat), .int (x : Nat), .ref q] ∧ TelG CS CL CT c H ∧ H q = some (.lst (vN ws)) ∧ a < 256 ∧ x < c.S.states ∧ ws.length ≤ 256 ∧ (∀ v ∈ ws, v < c.S.states ∧ ∃ d, c.S.depth x v = some d ∧ rk c.S x v < n) ∧
  ∀ v H2, TelG CS CL CT c H2 → But c.td H H2 → MadeV H2 v (Form.after a (joined (ws.map (tf c.S x)))).text → Q v H2
theorem tell_base : FnOk P w K mg base CX0 2 T.Teller_tell.f T.Teller_tell.fd ["self", "one", "other"] (spTell T.cSystem.C T.cLevels.C T.cTeller.C 0) :=
  ⟨fun vs H Q E ⟨c, s, t, d, h, _⟩ => by rw [h]; rfl, fun A outer s H args us vs Q E _ _ _ _ ⟨c, s, t, d, _, _, _, _, _, h, _⟩ => absurd h (Nat.not_lt_zero _)⟩
theorem tell_step {n : Nat} (G_Teller_made : FnOk P w K mg base CX0 (3 * n + 4) T.Teller_made.f T.Teller_made.fd ["self", "one", "other"] (spMade T.cSystem.C T.cLevels.C T.cTeller.C n)) :
    FnOk P w K mg base CX0 (3 * n + 5) T.Teller_tell.f T.Teller_tell.fd ["self", "one", "other"] (spTell T.cSystem.C T.cLevels.C T.cTeller.C (n + 1)) := by
  have G_short := ok_short (P := P) (w := w) (base := base) T
  refine T.Teller_tell.F.ok sc_Teller_tell (fun vs H Q E h => ?_) (fun cdv A outer s H vs Q E hr h => ⟨_, (pss_cons (ps_if (pt_cmp (pc_dnotin (units1 hr) (pe_tup (pa_cons (pv 1) (pa_cons (pv 2) pa_nil))) (pe_fld (pv 0) (by rfl)))) (pss_one (ps_dput (units1 hr) (pe_fld (pv 0) (by rfl)) (pe_tup (pa_cons (pv 1) (pa_cons (pv 2) pa_nil))) (pe_call G_short (hr.mono (by first | decide | omega)) (by rfl) T.short.g T.short.F.kp T.b_short .nil pass0 (pa_cons (pe_meth (pv 0) T.cTeller.cl T.Teller_made.m G_Teller_made (hr.mono (by first | decide | omega)) T.b_Teller_made .nil pass0 (pa_cons (pv 1) (pa_cons (pv 2) pa_nil))) pa_nil)) (by rfl))) pss_nil) (pss_one (ps_ret (pe_dget (units1 hr) (pe_fld (pv 0) (by rfl)) (pe_tup (pa_cons (pv 1) (pa_cons (pv 2) pa_nil))) (fun _ _ => rfl))))), ?_⟩)
  · obtain ⟨c, s, t, d, rfl, _⟩ := h
    rfl
  · obtain ⟨c, s, t, d, rfl, g, hs, ht, hd, hn, k⟩ := h
    obtain ⟨kvs, h1, h2⟩ := g.txt
    -- the end: return self.texts[(one, other)]
    have last : ∀ H1 v kvs, TelG T.cSystem.C T.cLevels.C T.cTeller.C c H1 → But c.td H H1 → H1 c.td = some (.dT kvs) → valV kvs (kP s t) = some v → TxtV H1 v (tf c.S s t).text →
        tRet (tDGet (tFld K (tVar 0) "texts") (tTup (tCons (tVar 1) (tCons (tVar 2) tNil)))) { nx := fun _ H' => Q .non H', rt := Q } [some (.ref c.p), some (.int (s : Int)), some (.int (t : Int))] H1 := by
      intro H1 v kvs g1 b1 hd1 hv tx
      exact s_ret (v := v) (ev_dgetT (ev_tTxt (T := T) (ev_var rfl) g1) (eu_tup (ea_cons (ev_var rfl) (ea_cons (ev_var rfl) ea_nil)) (by simp)) hd1 hv) fun H2 e2 => k v H2 (g1.mono e2) (b1.trans (But.ex e2)) (tx.mono e2)
    -- the test
    have test : ∀ {tu tw : TS} {D : Ends}, (valV kvs (kP s t) = none → ∀ H1, Ex H H1 → tu D [some (.ref c.p), some (.int (s : Int)), some (.int (t : Int))] H1) → (∀ v, valV kvs (kP s t) = some v → ∀ H1, Ex H H1 → tw D [some (.ref c.p), some (.int (s : Int)), some (.int (t : Int))] H1) →
        tIfS (tB (tDNotIn (tTup (tCons (tVar 1) (tCons (tVar 2) tNil))) (tFld K (tVar 0) "texts"))) tu tw D [some (.ref c.p), some (.int (s : Int)), some (.int (t : Int))] H := by
      intro tu tw D a b
      refine s_if (et_notinT (eu_tup (ea_cons (ev_var rfl) (ea_cons (ev_var rfl) ea_nil)) (by simp)) (ev_tTxt (T := T) (ev_var rfl) g) h1) (fun z H1 e1 => ?_) fun z H1 e1 => ?_
      · cases hv : valV kvs (kP s t) with
        | none => exact a hv H1 e1
        | some v => rw [hv] at z; cases z
      · cases hv : valV kvs (kP s t) with
        | none => rw [hv] at z; cases z
        | some v => exact b v hv H1 e1
    refine test (D := { nx := _, rt := Q }) (fun hv H1 e1 => ?_) fun v hv H1 e1 => ?_
    · -- self.texts[(one, other)] = short(self.made(one, other))
      refine ⟨_, rfl, c.p, c.dx, _, rfl, (g.mono e1).obj, telF_none _ _ _ _, _, rfl, _, rfl, c, s, t, d, rfl, g.mono e1, hs, ht, hd, by omega, fun v H2 g2 b2 mv => ⟨v, (tf c.S s t).text, rfl, mv, fun u H3 e3 tx => ?_⟩⟩
      have g3 := g2.mono e3
      have b3 : But c.td H H3 := (But.ex e1).trans (b2.trans (But.ex e3))
      refine ev_tTxt (T := T) (te := tVar 0) (σ := [some (.ref c.p), some (.int (s : Int)), some (.int (t : Int))]) (ev_var rfl) g3 H3 (Ex.refl _) (fun x H2 => tTup (tCons (tVar 1) (tCons (tVar 2) tNil)) [some (.ref c.p), some (.int (s : Int)), some (.int (t : Int))] H2 fun y H3 => ∃ a H4, x = .ref a ∧ DPut H3 a y u H4 ∧ _) fun H4 e4 => ?_
      refine eu_tup (σ := [some (.ref c.p), some (.int (s : Int)), some (.int (t : Int))]) (ea_cons (ev_var rfl) (ea_cons (ev_var rfl) ea_nil)) (by simp) H4 (Ex.refl _) _ fun y H5 ny e5 hy => ?_
      have e45 := e4.trans e5
      have g5 := g3.mono e45
      obtain ⟨kvs5, k1, k2⟩ := g5.txt
      have tx5 := tx.mono e45
      refine ⟨c.td, _, rfl, DPut.t (k := kP s t) k1 (show H5 y = some (.tup ((kP s t).map kV)) from hy) (by have := k2.few g.wf; rw [sizeLine_eq]; omega), ?_⟩
      have b5 : But c.td H (upd H5 c.td (.dT (putK kvs5 (kP s t) u))) := But.upd (b3.trans (But.ex e45))
      have tk : ∀ (l : List (List Key × V)) {v b}, TxtV H5 v b → TxtV (upd H5 c.td (.dT l)) v b := fun l v b h => h.upd k1 dT_lst
      have g6 : TelG T.cSystem.C T.cLevels.C T.cTeller.C c (upd H5 c.td (.dT (putK kvs5 (kP s t) u))) := by
        refine ⟨g5.ex.mut g.nt, g.np, g.nt, g.lev, g.sys, g.wf, rd_upd g5.obj (by rw [k1]; intro z; cases z), _, upd_same, ?_⟩
        cases hv5 : valV kvs5 (kP s t) with
        | none =>
          refine ⟨nd_putK u k2.nd hv5, fun p hp => ?_⟩
          rw [putK_new u hv5] at hp
          rcases List.mem_append.mp hp with hp | hp
          · obtain ⟨s', t', d', q1, q2, q3, q4, q5⟩ := k2.val p hp
            exact ⟨s', t', d', q1, q2, q3, q4, tk _ q5⟩
          · rw [List.mem_singleton.mp hp]
            exact ⟨s, t, d, rfl, hs, ht, hd, tk _ tx5⟩
        | some v5 =>
          have em : putK kvs5 (kP s t) u = kvs5.map (fun kv => if kv.1 = kP s t then (kv.1, u) else kv) := by
            unfold putK
            rw [if_pos (by rw [valV_any, hv5]; rfl)]
          rw [em]
          refine ⟨?_, fun p hp => ?_⟩
          · have e2 : (kvs5.map (fun kv => if kv.1 = kP s t then (kv.1, u) else kv)).map (·.1) = kvs5.map (·.1) := by
              rw [List.map_map]
              apply List.map_congr_left
              intro kv _
              show (if kv.1 = kP s t then (kv.1, u) else kv).1 = kv.1
              split <;> rfl
            rw [e2]
            exact k2.nd
          · obtain ⟨kv, hkv, rfl⟩ := List.mem_map.mp hp
            split
            · rename_i z
              exact ⟨s, t, d, z, hs, ht, hd, tk _ tx5⟩
            · obtain ⟨s', t', d', q1, q2, q3, q4, q5⟩ := k2.val kv hkv
              exact ⟨s', t', d', q1, q2, q3, q4, tk _ q5⟩
      refine last _ u _ g6 b5 upd_same ?_ (tk _ tx5)
      rw [valV_put, if_pos rfl]
    · obtain ⟨s', t', d', q1, q2, q3, q4, q5⟩ := h2.val _ (valV_mem hv)
      obtain ⟨rfl, rfl⟩ := kP_inj q1
      exact last H1 v kvs (g.mono e1) (But.ex e1) (e1 _ _ h1) hv (q5.mono e1)
end
end LkW
end

section
set_option Elab.async false
set_option linter.all false
set_option maxRecDepth 100000
set_option maxHeartbeats 2000000
/-! Telling: by an arc; made; the whole. -/
namespace LkW
open PySem PySem.Spec PyProof.Rows L2 Evl Lk
open Ln (Sys Arc Bytes dec Form loneArc joined)

theorem str_len {z : Str} {t : Bytes} (h : z.cps.toList = t.map UInt8.toNat) : z.length = t.length := by
  have := congrArg List.length h
  rw [List.length_map] at this
  rw [← this]
  show z.cps.size = _
  simp
/-- the texts gathered so far -/
structure GatW (S : Sys) (x : Nat) (ws : List Nat) (i : Nat) (H : Hp) (acc : List V) : Prop where
  len : acc.length = i
  val : ∀ (j : Nat) v u, acc[j]? = some v → ws[j]? = some u → TxtV H v (tf S x u).text
theorem GatW.noint {S : Sys} {x : Nat} {ws : List Nat} {i : Nat} {H : Hp} {acc : List V} (h : GatW S x ws i H acc) (hl : i ≤ ws.length) : ∀ v ∈ acc, ∀ k : Int, v ≠ .int k := fun v hv => by
  obtain ⟨j, hj⟩ := List.getElem?_of_mem hv
  have jl := (List.getElem?_eq_some_iff.mp hj).1
  rw [h.len] at jl
  exact txt_noint (h.val j v _ hj (List.getElem?_eq_getElem (by omega)))
theorem lst_noint {acc : List V} {b : Bytes} (hb : b ≠ []) (ha : ∀ v ∈ acc, ∀ k : Int, v ≠ .int k) : HO.lst acc ≠ .lst (bV b) := fun z => by
  injection z with z
  cases b with
  | nil => exact hb rfl
  | cons x r => exact ha _ (by rw [z]; exact List.mem_cons_self) _ rfl
section
variable {P : Program} {w : World} {K : PySem.W.Frag} {mg : Str → Option Value} {base : Heap} (T : Txt K mg)
theorem byarc_step {n : Nat} (G_Teller_tell : FnOk P w K mg base CX0 (3 * n + 2) T.Teller_tell.f T.Teller_tell.fd ["self", "one", "other"] (spTell T.cSystem.C T.cLevels.C T.cTeller.C n)) :
    FnOk P w K mg base CX0 (3 * n + 3) T.Teller_by_arc.f T.Teller_by_arc.fd ["self", "label", "to", "some"] (spByArc T.cSystem.C T.cLevels.C T.cTeller.C n) := by
  have G_codes := ok_codes (P := P) (w := w) (base := base) T
  have G_all_of := ok_all_of (P := P) (w := w) (base := base) T
  refine T.Teller_by_arc.F.ok sc_Teller_by_arc (fun vs H Q E h => ?_) (fun cdv A outer s H vs Q E hr h => ⟨_, (pss_cons (ps_setLc (i := 4) (own := [("beside", 5)]) (g := gName 5)  (by rfl) sc_Teller_by_arc.nd rfl rfl (sw_true rfl rfl rfl (by decide +kernel)) (pi_list (pv 3)) (blkOk_by (own := [("beside", 5)]) (N := n_Teller_by_arc) (sc := defScope s_Teller_by_arc) (by decide +kernel)) (fun _ _ _ _ _ => (pg_name (i := 5) sc_Teller_by_arc.nd rfl (Or.inl rfl))) (fun _ _ _ _ _ => pts_nil) (fun _ _ _ _ _ => (pe_meth (pv 0) T.cTeller.cl T.Teller_tell.m G_Teller_tell (hr.mono (by first | decide | omega)) T.b_Teller_tell .nil pass0 (pa_cons (pv 2) (pa_cons (pv 5) pa_nil))))) (pss_cons (ps_if (pt_cmpR (LkM.op_noneIn hr.units) pe_non (pv 4) (by rfl)) (pss_one (ps_ret pe_non)) pss_nil) (pss_one (ps_ret (pe_op op_cat (pe_call G_codes (hr.mono (by first | decide | omega)) (by rfl) T.codes.g T.codes.F.kp T.b_codes .nil pass0 (pa_cons (pe_op op_add_str (pe_op op_add_str pe_str (pe_callTy call_str_int (by rfl) T.g_str (by decide +kernel) (pa_cons (pv 1) pa_nil))) pe_str) pa_nil)) (pe_call G_all_of (hr.mono (by first | decide | omega)) (by rfl) T.all_of.g T.all_of.F.kp T.b_all_of .nil pass0 (pa_cons (pv 4) pa_nil))))))), ?_⟩)
  · obtain ⟨c, a, x, q, ws, rfl, _⟩ := h
    rfl
  · obtain ⟨c, a, x, q, ws, rfl, g, hq, ha, hx, few, hws, k⟩ := h
    have hdT := g.txt
    obtain ⟨kvs0, t1, _⟩ := hdT
    -- what follows the comprehension
    have fin : ∀ p H1 acc, TelG T.cSystem.C T.cLevels.C T.cTeller.C c H1 → But c.td H H1 → H1 p = some (.lst acc) → GatW c.S x ws ws.length H1 acc →
        tSeq (tIfS (tTest (tOp (LkM.rNoneIn K) (tC .non) (tVar 4))) (tRet (tC .non)) tNext) (tRet (tOp rCat (tCall spCodes [] E0 (tCons (tOp (fun x y H Q => ∃ i j, x = V.str i ∧ y = V.str j ∧ i.length + j.length ≤ sizeLine ∧ Q (.str (i ++ j)) H) (tOp (fun x y H Q => ∃ i j, x = V.str i ∧ y = V.str j ∧ i.length + j.length ≤ sizeLine ∧ Q (.str (i ++ j)) H) (tC (.str "<")) (tCB (fun xs H Q => ∃ i, xs = [V.int i] ∧ i.natAbs.log2 < 1920 ∧ Q (.str (toString i)) H) (tCons (tVar 1) tNil))) (tC (.str ">"))) tNil)) (tCall spAllOf [] E0 (tCons (tVar 4) tNil))))
          { nx := fun _ H' => Q .non H', rt := Q } [some (.ref c.p), some (.int (a : Int)), some (.int (x : Int)), some (.ref q), some (.ref p), none] H1 := by
      intro p H1 acc g1 b1 hp gw
      have vals : ∀ v ∈ acc, LkM.LoN K H1 v := fun v hv => by
        obtain ⟨j, hj⟩ := List.getElem?_of_mem hv
        have jl := (List.getElem?_eq_some_iff.mp hj).1
        rw [gw.len] at jl
        rcases gw.val j v _ hj (List.getElem?_eq_getElem jl) with ⟨_, r, h2, h3⟩ | ⟨_, h2⟩
        · exact .inr ⟨r, _, h2, sq_of h3⟩
        · exact .inl h2
      refine ⟨_, rfl, p, acc, rfl, rfl, sq_of hp, vals, fun b hb => ⟨b, rfl, ?_⟩⟩
      by_cases c0 : V.non ∈ acc
      · rw [hb.mpr c0]
        refine iteT (s_ret ev_c fun H2 e2 => k _ H2 (g1.mono e2) (b1.trans (But.ex e2)) (.inr ⟨rfl, ?_⟩))
        -- a text that's too long is part of the whole
        obtain ⟨j, hj⟩ := List.getElem?_of_mem c0
        have jl := (List.getElem?_eq_some_iff.mp hj).1
        rw [gw.len] at jl
        have big : 500 < (tf c.S x ws[j]).text.length := by
          rcases gw.val j _ _ hj (List.getElem?_eq_getElem jl) with ⟨_, r, h2, _⟩ | ⟨h1, _⟩
          · cases h2
          · exact h1
        have hsum : ∀ (l : List Nat) (u : Nat), u ∈ l → (tf c.S x u).text.length ≤ sumLen (l.map fun u => (tf c.S x u).text) := by
          intro l
          induction l with
          | nil => intro u hu; cases hu
          | cons a r ih =>
            intro u hu
            unfold sumLen
            simp only [List.map_cons, List.sum_cons]
            rcases List.mem_cons.mp hu with e | hu
            · rw [e]; omega
            · have := ih u hu
              unfold sumLen at this
              omega
        have := hsum ws _ (List.getElem_mem jl)
        rw [after_length, List.map_map]
        show 500 < _ + sumLen (ws.map fun u => (tf c.S x u).text)
        omega
      · have hbf : b = false := by
          cases b with
          | true => exact absurd (hb.mp rfl) c0
          | false => rfl
        rw [hbf]
        refine iteF ?_
        dsimp only [tNext]
        -- all are texts
        have refs : ∀ (l : List V), (∀ v ∈ l, ∃ r, v = V.ref r) → ∃ rs : List Addr, l = rs.map V.ref := by
          intro l
          induction l with
          | nil => intro _; exact ⟨[], rfl⟩
          | cons v l ih =>
            intro h
            obtain ⟨r, e⟩ := h v List.mem_cons_self
            obtain ⟨rs, e2⟩ := ih fun u hu => h u (List.mem_cons_of_mem _ hu)
            exact ⟨r :: rs, by rw [e, e2]; rfl⟩
        obtain ⟨rs, ers⟩ := refs acc fun v hv => by
          obtain ⟨j, hj⟩ := List.getElem?_of_mem hv
          have jl := (List.getElem?_eq_some_iff.mp hj).1
          rw [gw.len] at jl
          rcases gw.val j v _ hj (List.getElem?_eq_getElem jl) with ⟨_, r, h2, h3⟩ | ⟨_, h2⟩
          · exact ⟨r, h2⟩
          · rw [h2] at hv
            exact absurd hv c0
        subst ers
        have lrs : rs.length = ws.length := by
          have := gw.len
          rw [List.length_map] at this
          exact this
        have ok : ∀ (j : Nat) (hj : j < ws.length) (hj' : j < rs.length), (tf c.S x ws[j]).text.length ≤ 500 ∧ H1 rs[j] = some (.lst (bV (tf c.S x ws[j]).text)) := fun j hj hj' => by
          have hv : (rs.map V.ref)[j]? = some (V.ref rs[j]) := by rw [List.getElem?_map, List.getElem?_eq_getElem hj']; rfl
          rcases gw.val j _ _ hv (List.getElem?_eq_getElem hj) with ⟨h1, r, h2, h3⟩ | ⟨_, h2⟩
          · injection h2 with h2
            rw [← h2] at h3
            exact ⟨h1, h3⟩
          · cases h2
        have tat : TxtsAt H1 rs (ws.map fun u => (tf c.S x u).text) := ⟨by rw [List.length_map]; exact lrs, fun i r t h1 h2 => by
          obtain ⟨i1, e1⟩ := List.getElem?_eq_some_iff.mp h1
          have i2 : i < ws.length := by omega
          rw [List.getElem?_map, List.getElem?_eq_getElem i2] at h2
          have e2 : (tf c.S x ws[i]).text = t := Option.some.inj h2
          rw [← e1, ← e2]
          exact (ok i i2 i1).2⟩
        have small : ∀ t ∈ ws.map (fun u => (tf c.S x u).text), t.length ≤ 500 := fun t ht => by
          obtain ⟨u, hu, rfl⟩ := List.mem_map.mp ht
          obtain ⟨j, hj⟩ := List.getElem?_of_mem hu
          obtain ⟨j1, e1⟩ := List.getElem?_eq_some_iff.mp hj
          rw [← e1]
          exact (ok j j1 (by omega)).1
        have jle := join_le small
        rw [List.length_map] at jle
        have dl := dec_len a ha
        have len1 : (Str.ofString "<").length + (Str.ofString (toString ((a : Nat) : Int))).length ≤ sizeLine := by
          rw [str_len (one_text '<' (b := 60) rfl), str_len (str_dec ha), sizeLine_eq]
          simp
          omega
        have len2 : (Str.ofString "<" ++ Str.ofString (toString ((a : Nat) : Int))).length + (Str.ofString ">").length ≤ sizeLine := by
          rw [str_len (t := 60 :: dec a) (by rw [codes_app, one_text '<' (b := 60) rfl, str_dec ha]; simp), str_len (one_text '>' (b := 62) rfl), sizeLine_eq]
          simp
          omega
        have str : Ev _ [some (.ref c.p), some (.int (a : Int)), some (.int (x : Int)), some (.ref q), some (.ref p), none] H1 (.str ((Str.ofString "<" ++ Str.ofString (toString ((a : Nat) : Int))) ++ Str.ofString ">")) :=
          ev_op (r := fun x y H Q => ∃ i j, x = V.str i ∧ y = V.str j ∧ i.length + j.length ≤ sizeLine ∧ Q (.str (i ++ j)) H) (ta := tOp (fun x y H Q => ∃ i j, x = V.str i ∧ y = V.str j ∧ i.length + j.length ≤ sizeLine ∧ Q (.str (i ++ j)) H) (tC (.str "<")) (tCB (fun xs H Q => ∃ i, xs = [V.int i] ∧ i.natAbs.log2 < 1920 ∧ Q (.str (toString i)) H) (tCons (tVar 1) tNil))) (tb := tC (.str ">"))
            (ev_op ev_c (ev_cb (ea_cons (ev_var rfl) ea_nil) fun H2 e2 Q2 k2 => ⟨_, rfl, log_small a ha, k2 H2 (Ex.refl _)⟩) fun H2 e2 Q2 k2 => ⟨_, _, rfl, rfl, len1, k2 H2 (Ex.refl _)⟩) ev_c fun H2 e2 Q2 k2 => ⟨_, _, rfl, rfl, len2, k2 H2 (Ex.refl _)⟩
        refine s_retP (D := { nx := fun _ H' => Q .non H', rt := Q }) (P := Lst (bV (Form.after a (joined (ws.map (tf c.S x)))).text)) ?_ fun v H2 e2 ⟨r, ev, hr⟩ => k v H2 (g1.mono e2) (b1.trans (But.ex e2)) (.inl ⟨r, ev, hr, ?_⟩)
        · have etxt : (Form.after a (joined (ws.map (tf c.S x)))).text = (60 :: (dec a ++ [62])) ++ joinText (ws.map fun u => (tf c.S x u).text) := by
            show 60 :: (dec a ++ (62 :: (joined (ws.map (tf c.S x))).text)) = _
            rw [joined_text, List.map_map]
            simp
            rfl
          rw [etxt, bV_app]
          refine lst_l (el_catP (lst_l (el_text (t := 60 :: (dec a ++ [62])) str ?_ (by simp; omega))) (evp_call (ea_cons (ev_var rfl) ea_nil) fun H2 e2 Q2 E2 k2 => ⟨p, rs, _, rfl, e2 _ _ hp, tat.mono e2, by rw [List.length_map]; exact few, small, k2⟩) ?_)
          · rw [codes_app, codes_app, one_text '<' (b := 60) rfl, one_text '>' (b := 62) rfl, str_dec ha]
            simp
          · rw [bV_len, bV_len]
            simp only [List.length_cons, List.length_append, List.length_nil]
            omega
        · rw [after_length, List.map_map]
          have := sum_le small
          rw [List.length_map] at this ⊢
          unfold Ln.around
          show _ + sumLen (ws.map fun u => (tf c.S x u).text) ≤ _
          split <;> omega
    -- texts = [..]
    refine qasg_x ?_
    refine ⟨_, rfl, q, rfl, ⟨_, sq_of hq⟩, fun D nD => lc_list (K := K) (a := q) (xs := vN ws) (fun i H' => TelG T.cSystem.C T.cLevels.C T.cTeller.C c H' ∧ But c.td H H' ∧ ∃ acc, H' D = some (.lst acc) ∧ GatW c.S x ws i H' acc)
      ⟨g.mono (Ex.new nD), But.ex (Ex.new nD), [], upd_same, rfl, fun j v u h => by cases h⟩ (fun i H' hi ⟨g', b', acc, hd, gw⟩ => ?_) (fun i y H' hy ⟨g', b', acc, hd, gw⟩ => ?_) (fun H' ⟨g', b', acc, hd, gw⟩ => ?_)⟩
    · refine sq_of (b' _ _ hq fun z => ?_)
      rw [z, t1] at hq
      cases hq
    · have hi : i < ws.length := by
        have := (List.getElem?_eq_some_iff.mp hy).1
        rw [vN_len] at this
        exact this
      rw [vN_get hi] at hy
      have ey := Option.some.inj hy
      subst ey
      obtain ⟨hv, d, hd', hn⟩ := hws _ (getD_mem (d := 0) hi)
      have nD0 : c.H0 D = none := Same.free g.ex nD
      refine ⟨rfl, ?_⟩
      dsimp only [tYes]
      rw [if_pos rfl]
      refine x_meth (ev_var rfl) g'.obj (telF_none _ _ _ _) (ea_cons (ev_var rfl) (ea_cons (ev_var rfl) ea_nil)) fun H1 e1 => ⟨c, x, ws.getD i 0, d, rfl, g'.mono e1, hx, hv, hd', hn, fun v H2 g2 b2 tx => ?_⟩
      obtain ⟨kvs1, u1, _⟩ := (g'.mono e1).txt
      have hdD : H2 D = some (.lst acc) := b2 _ _ (e1 _ _ hd) fun z => by
        have := e1 _ _ hd
        rw [z, u1] at this
        cases this
      have noi := gw.noint (by omega)
      refine ⟨acc, hdD, small1000 (by rw [gw.len]; omega), g2.grow nD0 hdD noi, ((b'.trans (But.ex e1)).trans b2).mut nD, acc ++ [v], upd_same, by simp [gw.len], fun j z u h1 h2 => ?_⟩
      by_cases cj : j < acc.length
      · rw [List.getElem?_append_left cj] at h1
        exact (((gw.val j z u h1 h2).mono e1).but u1 b2).upd hdD (lst_noint (text_ne _) noi)
      · have jl := (List.getElem?_eq_some_iff.mp h1).1
        simp at jl
        have ej : j = acc.length := by omega
        subst ej
        rw [List.getElem?_append_right (Nat.le_refl _), Nat.sub_self] at h1
        have ev : v = z := Option.some.inj h1
        subst ev
        rw [gw.len, getD_get (d := 0) hi] at h2
        have eu := Option.some.inj h2
        subst eu
        exact tx.upd hdD (lst_noint (text_ne _) noi)
    · rw [vN_len] at gw
      exact fin D H' acc g' b' hd gw
end
end LkW
end

section
set_option Elab.async false
set_option linter.all false
set_option maxRecDepth 100000
set_option maxHeartbeats 2000000
/-! Telling: made, and the whole. -/
namespace LkW
open PySem PySem.Spec PyProof.Rows L2 Evl Lk
open Ln (Sys Arc Bytes dec Form loneArc joined)

section
variable {K : PySem.W.Frag} {σ : L2.St} {H : Hp} {te : TE}
theorem ev_any {bs : List Bool} (h : EvL te σ H (bs.map V.bl)) : Ev (tCB (rAny K) (tCons te tNil)) σ H (.bl (bs.any id)) :=
  fun H1 e Q k => h H1 e _ fun q H2 nq e2 hq => ⟨q, bs, rfl, sq_of hq, k H2 e2⟩
theorem ev_all {bs : List Bool} (h : EvL te σ H (bs.map V.bl)) : Ev (tCB (rAll K) (tCons te tNil)) σ H (.bl (bs.all id)) :=
  fun H1 e Q k => h H1 e _ fun q H2 nq e2 hq => ⟨q, bs, rfl, sq_of hq, k H2 e2⟩
/-- for over a list of tuples, nothing that stood being changed -/
theorem q_forLT {L : List (List Int)} {tl : TE} {g : TG} {tu tz : TS} {D : Ends} (h : EvP tl σ H (Lts L)) (Pv : Nat → L2.St → Prop) (h0 : Pv 0 σ)
    (hs : ∀ H2, Ex H H2 → ∀ i x t σ' H1, Ex H2 H1 → L[i]? = some x → H1 t = some (.tup (x.map V.int)) → Pv i σ' → g (.ref t) σ' H1 fun σ2 H3 => tu { D with nx := fun σ4 H4 => Pv (i + 1) σ4 ∧ Ex H2 H4, ct := fun σ4 H4 => Pv (i + 1) σ4 ∧ Ex H2 H4, bk := tz D } σ2 H3)
    (hd : ∀ σ' H', Ex H H' → Pv L.length σ' → tz D σ' H') : tSeq (tFor (iList K tl) g tu) tz D σ H :=
  h H (Ex.refl H) _ fun v H2 e2 ⟨a, ev, ks, h1, h2, h3⟩ => by
    subst ev
    subst h2
    refine ⟨a, rfl, ⟨_, sq_of h1⟩, for_list (D := { D with nx := tz D }) (K := K) (a := a) (xs := ks.map fun p => V.ref p.1) (fun i σ' H' => Pv i σ' ∧ Ex H2 H') ⟨h0, Ex.refl _⟩ (fun i σ' H' hi p => sq_of (p.2 _ _ h1)) (fun i x σ' H' hx p => ?_) (fun σ' H' p => hd σ' H' (e2.trans p.2) (by have := p.1; rw [List.length_map] at this ⊢; exact this))⟩
    have hi : i < ks.length := by
      have := (List.getElem?_eq_some_iff.mp hx).1
      rw [List.length_map] at this
      exact this
    rw [List.getElem?_map, List.getElem?_eq_getElem hi] at hx
    have ex : V.ref ks[i].1 = x := Option.some.inj hx
    subst ex
    exact hs H2 e2 i ks[i].2 ks[i].1 σ' H' p.2 (by rw [List.getElem?_map, List.getElem?_eq_getElem hi]; rfl) (p.2 _ _ (h3 _ (List.getElem_mem hi))) p.1
end
theorem find_at {α : Type} {l : List α} {p : α → Bool} {i : Nat} (hi : i < l.length) (h1 : ∀ j (hj : j < l.length), j < i → p l[j] = false) (h2 : p l[i] = true) : l.find? p = some l[i] := by
  rw [List.find?_eq_some_iff_getElem]
  exact ⟨h2, i, hi, rfl, fun j hj => by rw [h1 j (by omega) hj]; rfl⟩
/-- what a lone arc is asked for -/
def loneP (S : Sys) (k t : Nat) (z : Nat × Nat) : Bool := (S.by_ t z.1).all fun v => (R S k).getD z.2 0 != (R S k).getD v 0
theorem lone_def (S : Sys) (k s t : Nat) : loneArc S (R S k) s t = (S.from_ s).find? (loneP S k t) := rfl
theorem by_len {S : Sys} (W : Wf S) (s a : Nat) : (S.by_ s a).length ≤ 256 := by
  unfold Sys.by_
  rw [List.length_map]
  have h1 := List.length_filter_le (fun (x : Nat × Nat) => x.1 == a) (S.from_ s)
  have h2 := from_len W s
  omega
theorem depth_lt {CS CL : Addr} {H : Hp} {p : Addr} {S : Sys} {m s t d : Nat} (h : LevAt CS CL H p S m) (W : Wf S) (hd : S.depth s t = some d) : d ≤ m := by
  obtain ⟨hm, hst, _⟩ := h
  obtain ⟨dk, dn, db⟩ := depth_part S W hd
  rcases Nat.lt_or_ge m d with z | z
  · have e1 := db m z
    have e2 := R_last S hst (Nat.le_of_lt z)
    rw [e2] at dn
    exact absurd e1 dn
  · exact z

section
variable {P : Program} {w : World} {K : PySem.W.Frag} {mg : Str → Option Value} {base : Heap} (T : Txt K mg)
theorem made_step {n : Nat} (G_Teller_tell : FnOk P w K mg base CX0 (3 * n + 2) T.Teller_tell.f T.Teller_tell.fd ["self", "one", "other"] (spTell T.cSystem.C T.cLevels.C T.cTeller.C n))
    (G_Teller_by_arc : FnOk P w K mg base CX0 (3 * n + 3) T.Teller_by_arc.f T.Teller_by_arc.fd ["self", "label", "to", "some"] (spByArc T.cSystem.C T.cLevels.C T.cTeller.C n)) :
    FnOk P w K mg base CX0 (3 * n + 4) T.Teller_made.f T.Teller_made.fd ["self", "one", "other"] (spMade T.cSystem.C T.cLevels.C T.cTeller.C n) := by
  have G_codes := ok_codes (P := P) (w := w) (base := base) T
  have G_Levels_depth := ok_Levels_depth (P := P) (w := w) (base := base) T
  have G_System_arcs_from := ok_System_arcs_from (P := P) (w := w) (base := base) T
  have G_System_led_to := ok_System_led_to (P := P) (w := w) (base := base) T
  have G_Teller_is_alike := ok_Teller_is_alike (P := P) (w := w) (base := base) T
  refine T.Teller_made.F.ok sc_Teller_made (fun vs H Q E h => ?_) (fun cdv A outer s H vs Q E hr h => ⟨_, (pss_cons (ps_set (i := 3) sc_Teller_made.nd rfl (Or.inr rfl) (pe_meth (pe_fld (pv 0) (by rfl)) T.cLevels.cl T.Levels_depth.m G_Levels_depth (hr.mono (by first | decide | omega)) T.b_Levels_depth .nil pass0 (pa_cons (pv 1) (pa_cons (pv 2) pa_nil)))) (pss_cons (ps_if (pt_cmpR op_eq (pv 3) pe_int (nomark _)) (pss_one (ps_ret (pe_call G_codes (hr.mono (by first | decide | omega)) (by rfl) T.codes.g T.codes.F.kp T.b_codes .nil pass0 (pa_cons (pe_op op_add_str pe_str (pe_callTy call_str_int (by rfl) T.g_str (by decide +kernel) (pa_cons (pe_ix ix_list (pe_fld (pe_fld (pv 0) (by rfl)) (by rfl)) (pv 1) (fun _ _ => rfl)) pa_nil))) pa_nil)))) pss_nil) (pss_cons (ps_for PassesOwn.never (by rfl) (pi_list (pe_meth (pe_fld (pv 0) (by rfl)) T.cSystem.cl T.System_arcs_from.m G_System_arcs_from (hr.mono (by first | decide | omega)) T.b_System_arcs_from .nil pass0 (pa_cons (pv 1) pa_nil))) (pg_tup (by rfl) (pgs_cons (pg_name (i := 4) sc_Teller_made.nd rfl (Or.inl rfl)) (pgs_cons (pg_name (i := 5) sc_Teller_made.nd rfl (Or.inr rfl)) pgs_nil))) (pss_cons (ps_set (i := 6) sc_Teller_made.nd rfl (Or.inl rfl) (pe_meth (pe_fld (pv 0) (by rfl)) T.cSystem.cl T.System_led_to.m G_System_led_to (hr.mono (by first | decide | omega)) T.b_System_led_to .nil pass0 (pa_cons (pv 2) (pa_cons (pv 4) pa_nil)))) (pss_one (ps_if (pt_not (pt_val (pe_callB (cr_any (by rfl)) (by rfl) T.g_any (by decide +kernel) (pa_cons (pe_lc (own := [("beside", 8)]) (g := gName 8)  (by rfl) sc_Teller_made.nd (pi_list (pv 6)) (blkOk_by (own := [("beside", 8)]) (N := n_Teller_made) (sc := defScope s_Teller_made) (by decide +kernel)) (fun _ _ _ _ _ => (pg_name (i := 8) sc_Teller_made.nd rfl (Or.inl rfl))) (fun _ _ _ _ _ => pts_nil) (fun _ _ _ _ _ => (pe_meth (pv 0) T.cTeller.cl T.Teller_is_alike.m G_Teller_is_alike (hr.mono (by first | decide | omega)) T.b_Teller_is_alike .nil pass0 (pa_cons (pv 5) (pa_cons (pv 8) (pa_cons (pe_op op_sub (pv 3) pe_int) pa_nil)))))) pa_nil)))) (pss_one (ps_ret (pe_meth (pv 0) T.cTeller.cl T.Teller_by_arc.m G_Teller_by_arc (hr.mono (by first | decide | omega)) T.b_Teller_by_arc .nil pass0 (pa_cons (pv 4) (pa_cons (pv 5) (pa_cons (pv 6) pa_nil)))))) pss_nil)))) (pss_cons (ps_set (i := 7) sc_Teller_made.nd rfl (Or.inl rfl) (pe_meth (pv 0) T.cTeller.cl T.Teller_tell.m G_Teller_tell (hr.mono (by first | decide | omega)) T.b_Teller_tell .nil pass0 (pa_cons (pv 2) (pa_cons (pv 1) pa_nil)))) (pss_cons (ps_if (pt_cmpR op_isN (pv 7) pe_non (nomark _)) (pss_one (ps_ret pe_non)) pss_nil) (pss_one (ps_ret (pe_op op_cat (pe_call G_codes (hr.mono (by first | decide | omega)) (by rfl) T.codes.g T.codes.F.kp T.b_codes .nil pass0 (pa_cons pe_str pa_nil)) (pv 7))))))))), ?_⟩)
  · obtain ⟨c, s, t, d, rfl, _⟩ := h
    rfl
  · obtain ⟨c, s, t, d, rfl, g, hs, ht, hd, hn, k⟩ := h
    have W := g.wf
    have most := W.most
    have lev := g.lev.mono g.ex
    obtain ⟨hm, hst, dl, spl, ra, rs, l1, l2, l3, l4⟩ := id lev
    -- k = self.levels.depth(one, other)
    refine q_asg (v := .int (d : Int)) (ev_meth (ev_tLev (T := T) (ev_var rfl) g) l1 (levF_none _ _ _) (ea_cons (ev_var rfl) (ea_cons (ev_var rfl) ea_nil)) (sp_depth lev W hs ht hd)) fun H1 e1 => ?_
    have g1 := g.mono e1
    refine q_when (ev_eqN (b := 0) (ev_var rfl) ev_c) (fun h H2 e2 => ?_) fun h H2 e2 => ?_
    · rw [beq_iff_eq] at h
      subst h
      obtain ⟨dx, ca, aa, s1, s2, s3⟩ := g.sys.mono (g1.mono e2).ex
      have hc : c.S.colours.getD s 0 < 256 := W.col _ (getD_mem hs)
      have dl := dec_len _ hc
      have hl1 : (Str.ofString "c").length + (Str.ofString (toString ((c.S.colours.getD s 0 : Nat) : Int))).length ≤ sizeLine := by
        rw [str_len (one_text 'c' (b := 99) rfl), str_len (str_dec hc), sizeLine_eq]
        simp only [List.length_cons, List.length_nil]
        omega
      refine s_retP (P := Lst (bV (tf c.S s t).text)) ?_ fun v H3 e3 ⟨r, ev, hr⟩ => k v H3 ((g1.mono e2).mono e3) (But.ex ((e1.trans e2).trans e3)) (.inl ⟨r, ev, hr, ?_⟩)
      · rw [tf_zero c.S hd]
        refine lst_l (el_text (t := 99 :: dec (c.S.colours.getD s 0)) (z := Str.ofString "c" ++ Str.ofString (toString ((c.S.colours.getD s 0 : Nat) : Int))) (ev_op ev_c (ev_cb (ea_cons (ev_ixN (ev_col (T := T) (ev_tSys (T := T) (ev_var rfl) (g1.mono e2)) s1) (ev_var rfl) s2 hs) ea_nil) fun H3 e3 Q2 k2 => ⟨_, rfl, log_small _ hc, k2 H3 (Ex.refl _)⟩) fun H3 e3 Q2 k2 => ⟨_, _, rfl, rfl, hl1, k2 H3 (Ex.refl _)⟩) ?_ ?_)
        · rw [codes_app, one_text 'c' (b := 99) rfl, str_dec hc]
          rfl
        · simp only [List.length_cons]
          omega
      · rw [tf_zero c.S hd]
        show (99 :: dec _).length ≤ _
        simp only [List.length_cons]
        omega
    · rw [beq_eq_false_iff_ne] at h
      obtain ⟨k', rfl⟩ : ∃ k', d = k' + 1 := ⟨d - 1, by omega⟩
      have dm := depth_lt g.lev W hd
      obtain ⟨hk1, hk2, hk3⟩ := depth_part c.S W hd
      have hrk := rk_succ hd
      have etf := tf_succ c.S W hs ht hd
      have g2 := g1.mono e2
      have e12 := e1.trans e2
      have sysH := fun H' (e : Ex H2 H') => g.sys.mono (g2.mono e).ex
      obtain ⟨dx, ca, aa, s1, s2, s3⟩ := sysH H2 (Ex.refl _)
      -- for label, to in self.system.arcs_from(one)
      refine q_forLT (L := (c.S.from_ s).map pairI) (evp_meth (ev_tSys (T := T) (ev_var rfl) g2) s1 (sysF_none _ _ _) (ea_cons (ev_var rfl) ea_nil) (sp_from (sysH H2 (Ex.refl _)) W))
        (fun i σ' => ∃ v4 v5 v6, σ' = [some (.ref c.p), some (.int (s : Int)), some (.int (t : Int)), some (.int ((k' + 1 : Nat) : Int)), v4, v5, v6, none, none] ∧ ∀ j (hj : j < (c.S.from_ s).length), j < i → loneP c.S k' t (c.S.from_ s)[j] = false) ⟨none, none, none, rfl, fun j hj h => absurd h (Nat.not_lt_zero j)⟩ ?_ ?_
      · rintro H3 e3 i x ta σ' H4 e4 hx hta ⟨v4, v5, v6, rfl, hno⟩
        obtain ⟨hi, rfl⟩ := pairs_at hx
        have hz := getD_mem (d := (0, 0)) hi
        have ez : (c.S.from_ s).getD i (0, 0) = (c.S.from_ s)[i] := getD_lt _ _ _ hi
        rw [ez] at hta hz
        have wto := W.to hz
        have e34 := e3.trans e4
        have g4 := g2.mono e34
        refine gtup2 hta ?_
        -- some = self.system.led_to(other, label)
        refine q_asgP (evp_meth (ev_tSys (T := T) (ev_var rfl) g4) (e34 _ _ s1) (sysF_none _ _ _) (ea_cons (ev_var rfl) (ea_cons (ev_var rfl) ea_nil)) (sp_led (sysH H4 e34) W)) fun v H5 e5 ⟨r6, ev, hr6⟩ => ?_
        subst ev
        have g5 := g4.mono e5
        -- if not any(..)
        refine s_when (b := loneP c.S k' t (c.S.from_ s)[i]) (et_is (et_not (et_B (ev_any (bs := (c.S.by_ t (c.S.from_ s)[i].1).map fun v => decide ((R c.S k').getD (c.S.from_ s)[i].2 0 = (R c.S k').getD v 0)) (elp_l (ElP.imp (el_lcLP (K := K) (fun _ => true) (fun j y H => y = V.bl (decide ((R c.S k').getD (c.S.from_ s)[i].2 0 = (R c.S k').getD ((c.S.by_ t (c.S.from_ s)[i].1).getD j 0) 0))) stays_val (ev_var rfl) (sq_of hr6) (by rw [vN_len]; have := by_len W t (c.S.from_ s)[i].1; omega) fun j y H6 e6 hy => ?_) fun ys H6 e6 q => ?_))))) ?_) (fun hb H6 e6 => ?_) fun hb H6 e6 => ?_
        · have hj : j < (c.S.by_ t (c.S.from_ s)[i].1).length := by
            have := (List.getElem?_eq_some_iff.mp hy).1
            rw [vN_len] at this
            exact this
          rw [vN_get hj] at hy
          have ey := Option.some.inj hy
          subst ey
          have hv : (c.S.by_ t (c.S.from_ s)[i].1).getD j 0 < c.S.states := (W.to ((mem_by _ _ _ _).mp (getD_mem (d := 0) hj))).2.2
          refine turn_of (fun Q H2 e2 q => q) rfl (fun H2 e2 Q k => k H2 (Ex.refl _)) (fun _ => evp_meth (ev_var rfl) (g5.mono e6).obj (telF_none _ _ _ _) (ea_cons (ev_var rfl) (ea_cons (ev_var rfl) (ea_cons (ev_is (w := .int (k' : Int)) (ev_op (ev_var rfl) ev_c rv_I0) (by congr 1; omega)) ea_nil))) (sp_alike (g5.mono e6) wto.2.2 hv (by omega)))
        · rw [q.vals, vN_len, List.filter_eq_self.mpr (fun _ _ => rfl), List.map_map]
          apply List.ext_getElem
          · simp
          · intro j h1 h2
            have h3 : j < (c.S.by_ t (c.S.from_ s)[i].1).length := by simpa using h2
            simp only [List.getElem_map, List.getElem_range, Function.comp]
            rw [getD_lt _ _ _ h3]
        · unfold loneP
          rw [List.any_map]
          generalize c.S.by_ t (c.S.from_ s)[i].1 = l
          induction l with
          | nil => rfl
          | cons a r ih =>
            rw [List.any_cons, List.all_cons, Bool.not_or, ih]
            rfl
        · -- return self.by_arc(label, to, some)
          have hl : loneArc c.S (R c.S k') s t = some (c.S.from_ s)[i] := by
            rw [lone_def]
            exact find_at hi hno hb
          rw [hl] at etf hrk
          dsimp only at etf
          have g6 := g5.mono e6
          refine ret_x (x_meth (ev_var rfl) g6.obj (telF_none _ _ _ _) (ea_cons (ev_var rfl) (ea_cons (ev_var rfl) (ea_cons (ev_var rfl) ea_nil))) fun H7 e7 => ⟨c, (c.S.from_ s)[i].1, (c.S.from_ s)[i].2, r6, c.S.by_ t (c.S.from_ s)[i].1, rfl, g6.mono e7, e7 _ _ (e6 _ _ hr6), by omega, wto.2.2, by_len W _ _, fun v hv => ⟨(W.to ((mem_by _ _ _ _).mp hv)).2.2, ?_⟩, fun v H8 g8 b8 mv => ?_⟩)
          · obtain ⟨j, hj1, hj2⟩ := lone_sooner c.S W (by omega) hl hv
            have := rk_le hj2
            exact ⟨j, hj2, by omega⟩
          · refine k v H8 g8 ((But.ex ((((e12.trans e34).trans e5).trans e6).trans e7)).trans b8) ?_
            rw [etf]
            exact mv
        · exact ⟨⟨_, _, _, rfl, fun j hj hji => by
            rcases Nat.lt_succ_iff_lt_or_eq.mp hji with z | z
            · exact hno j hj z
            · subst z
              exact hb⟩, (e4.trans e5).trans e6⟩
      · rintro σ' H3 e3 ⟨v4, v5, v6, rfl, hno⟩
        rw [List.length_map] at hno
        have hl : loneArc c.S (R c.S k') s t = none := by
          rw [lone_def, List.find?_eq_none]
          intro z hz
          obtain ⟨j, hj⟩ := List.getElem?_of_mem hz
          obtain ⟨hj1, hj2⟩ := List.getElem?_eq_some_iff.mp hj
          rw [← hj2, hno j hj1 hj1]
          decide
        obtain ⟨z, hz⟩ := lone_one c.S W hs ht (hk3 k' (by omega)) hk2 hl
        have hd' := depth_swap c.S W hd
        have hrk' := rk_succ hd'
        rw [hl] at etf hrk
        rw [hz] at hrk'
        dsimp only at etf
        simp only [Option.isNone_none, Option.isNone_some, if_true, Bool.false_eq_true, if_false] at hrk hrk'
        have g3 := g2.mono e3
        -- text = self.tell(other, one)
        refine qasg_x (x_meth (ev_var rfl) g3.obj (telF_none _ _ _ _) (ea_cons (ev_var rfl) (ea_cons (ev_var rfl) ea_nil)) fun H4 e4 => ⟨c, t, s, k' + 1, rfl, g3.mono e4, ht, hs, hd', by omega, fun v H5 g5 b5 tx => ?_⟩)
        have bb : But c.td H H5 := (But.ex ((e12.trans e3).trans e4)).trans b5
        have ll : (tf c.S s t).text.length = (tf c.S t s).text.length + 1 := by
          rw [etf]
          rfl
        rcases tx with ⟨x1, a, rfl, x3⟩ | ⟨x1, rfl⟩
        · refine q_when (b := false) (et_test (ev_is (ev_op (ev_var rfl) ev_c fun H3 e3 Q k => ⟨rfl, k H3 (Ex.refl _)⟩) rfl)) (fun z => nomatch z) fun _ H6 e6 => ?_
          refine s_retP (P := Lst (bV (tf c.S s t).text)) ?_ fun v H7 e7 ⟨r, ev, hr⟩ => k v H7 ((g5.mono e6).mono e7) (bb.trans (But.ex (e6.trans e7))) (.inl ⟨r, ev, hr, by omega⟩)
          rw [etf]
          show EvP _ _ _ (Lst (bV (33 :: (tf c.S t s).text)))
          have := lst_l (el_catP (ta := tCall spCodes [] E0 (tCons (tC (.str "!")) tNil)) (tb := tVar 7) (σ := [some (.ref c.p), some (.int (s : Int)), some (.int (t : Int)), some (.int ((k' + 1 : Nat) : Int)), v4, v5, v6, some (.ref a), none]) (lst_l (el_text (t := [33]) ev_c (one_text '!' rfl) (by simp))) (lst_v (ev_var rfl) (e6 _ _ x3)) (by rw [bV_len, bV_len]; simp only [List.length_cons, List.length_nil]; omega))
          rw [← bV_app] at this
          exact this
        · refine q_when (b := true) (et_test (ev_is (ev_op (ev_var rfl) ev_c fun H3 e3 Q k => ⟨rfl, k H3 (Ex.refl _)⟩) rfl)) (fun _ H6 e6 => ?_) fun z => nomatch z
          exact s_ret ev_c fun H7 e7 => k _ H7 ((g5.mono e6).mono e7) (bb.trans (But.ex (e6.trans e7))) (.inr ⟨rfl, by omega⟩)
theorem tell_all : ∀ n : Nat, FnOk P w K mg base CX0 (3 * n + 2) T.Teller_tell.f T.Teller_tell.fd ["self", "one", "other"] (spTell T.cSystem.C T.cLevels.C T.cTeller.C n)
  | 0 => tell_base T
  | n + 1 => tell_step T (made_step T (tell_all n) (byarc_step T (tell_all n)))
theorem ok_Teller_tell : FnOk P w K mg base CX0 200 T.Teller_tell.f T.Teller_tell.fd ["self", "one", "other"] (spTell T.cSystem.C T.cLevels.C T.cTeller.C 66) := tell_all T 66

/-! #### Teller.__init__ -/
def spTInit (CS CL CT : Addr) : Sp := fun vs H Q _ => ∃ (p dx lv sp dl : Addr) (r : V), vs = [.ref p, .ref lv] ∧ H p = some (.ins CT dx []) ∧ H lv = some (.ins CL dl (levF (.ref sp) r)) ∧ ∀ (H' : Hp) (td : Addr), H' p = some (.ins CT dx (telF (.ref lv) (.ref sp) (.ref td))) → H td = none → H' td = some (.dT []) → But p H H' → Q .non H'
theorem ok_Teller_init0 : FnOk P w K mg base CX0 1 T.Teller_init0.f T.Teller_init0.fd ["self", "levels"] (spTInit T.cSystem.C T.cLevels.C T.cTeller.C) := by
  refine T.Teller_init0.F.ok sc_Teller_init0 (fun vs H Q E h => ?_) (fun cdv A outer s H vs Q E hr h => ⟨_, (pss_cons (ps_fld (pv 0) (pv 1) (by rfl)) (pss_cons (ps_fld (pv 0) (pe_fld (pv 1) (by rfl)) (by rfl)) (pss_one (ps_fld (pv 0) pe_dnewT (by rfl))))), ?_⟩)
  · obtain ⟨p, dx, lv, sp, dl, r, rfl, _⟩ := h
    rfl
  · obtain ⟨p, dx, lv, sp, dl, r, rfl, hp, hl, k⟩ := h
    have nlp : lv ≠ p := fun z => by
      rw [z, hp] at hl
      have y := Option.some.inj hl
      injection y with _ _ y
      cases y
    refine ⟨_, rfl, _, rfl, p, _, dx, [], rfl, hp, T.cTeller.cl, T.nTeller_levels, (by show 0 < 1000; decide), ?_⟩
    refine ⟨_, rfl, lv, T.cLevels.C, dl, _, .ref sp, rfl, ?_, T.cLevels.cl, T.nLevels_system, lk_sys (.ref sp) r, _, rfl, p, _, dx, _, rfl, upd_same, T.cTeller.cl, T.nTeller_system, (by show 1 < 1000; decide), ?_⟩
    · rw [upd_ne nlp]
      exact hl
    intro td nt
    have ntp : td ≠ p := fun z => by
      rw [z, upd_same] at nt
      cases nt
    refine ⟨_, rfl, p, _, dx, _, rfl, Ex.new nt _ _ upd_same, T.cTeller.cl, T.nTeller_texts, (by show 2 < 1000; decide), ?_⟩
    refine k _ td ?_ ?_ ?_ ?_
    · rw [upd_same]
      congr 2
    · rw [upd_ne ntp, upd_ne ntp] at nt
      exact nt
    · rw [upd_ne ntp, upd_same]
    · intro z o hz ne
      have zt : z ≠ td := fun y => by
        rw [upd_ne ntp, upd_ne ntp] at nt
        rw [y, nt] at hz
        cases hz
      rw [upd_ne ne, upd_ne zt, upd_ne ne, upd_ne ne]
      exact hz
end
end LkW
end

section
set_option Elab.async false
set_option linter.all false
set_option maxRecDepth 100000
set_option maxHeartbeats 2000000
/-! The desk: refusals, answers, the system that stands. -/
namespace LkW
open PySem PySem.Spec PyProof.Rows L2 Evl Lk
open Ln (Sys Arc Bytes Form)
theorem _root_.L2H.RoomH.units {k : Nat} {A : Around} (r : L2H.RoomH k A) : A.units + 64 < cLine := by have := r.un; omega

/-- an exception of one's own leaves, its field a list -/
def RsL (C : Addr) (f : Str) (l : List Int) (H : Hp) (E : XK) : Prop := ∀ d a H2, Ex H H2 → H2 d = some (.xd [(f, .ref a)]) → H2 a = some (.lst (l.map V.int)) → E (.ref C) (some d) H2
section
variable {σ : L2.St} {H : Hp} {te : TE}
theorem mk_xL {C : Addr} {f : Str} {l : List Int} {Q : XK} (h : EvL te σ H (l.map V.int)) (k : RsL C f l H Q) : tMkO C (spXInit C f) [] (tCons te tNil) σ H Q := by
  refine h H (Ex.refl H) _ fun p H1 np e1 hp => ⟨by simp, fun a na => ⟨a, .ref p, rfl, upd_same, fun dx nx ne => ⟨rfl, dx, [(f, .ref p)], upd_same, ?_, ?_, ?_⟩⟩⟩
  · rw [upd_ne ne, upd_same]
  · rw [upd_ne ne] at nx
    exact nx
  · have nx1 : H1 dx = none := by
      rw [upd_ne ne] at nx
      exact nx
    have keep : ∀ b o, H1 b = some o → (upd (del (upd (upd (upd H1 a (exo a C none)) dx (exd dx [(f, .ref p)])) a (exo a C (some dx))) a) dx (.xd [(f, .ref p)])) b = some o := fun b o hb => by
      have b1 : b ≠ a := fun z => by rw [z, na] at hb; cases hb
      have b2 : b ≠ dx := fun z => by rw [z, nx1] at hb; cases hb
      rw [upd_ne b2, del_ne b1, upd_ne b1, upd_ne b2, upd_ne b1]
      exact hb
    exact k dx p _ (e1.trans keep) upd_same (keep _ _ hp)
end

theorem x_methL {σ : L2.St} {H : Hp} {te : TE} {C p dx : Addr} {fs : List (Str × V)} {m : Str} {sp : Sp} {E : XK} {Q : VK} {ta : TE} {xs : List V} (h : Ev te σ H (.ref p)) (ho : H p = some (.ins C dx fs)) (l : fs.lookup m = none) (ha : EvL ta σ H xs) (hs : ∀ r H1, Ex H H1 → H1 r = some (.lst xs) → sp [.ref p, .ref r] H1 Q E) : tMeth C m sp [] E te (tCons ta tNil) σ H Q :=
  h H (Ex.refl H) _ fun H1 e1 => ⟨p, dx, fs, rfl, e1 _ _ ho, l, ha H1 e1 _ fun r H2 _ e2 hr => hs r H2 (e1.trans e2) hr⟩
/-! ### the desk's fields -/
def dkF (a b : V) : List (Str × V) := [("system", a), ("levels", b)]
theorem lk_dSys (a b : V) : (dkF a b).lookup ("system" : Str) = some a := lk_here
theorem lk_dLev (a b : V) : (dkF a b).lookup ("levels" : Str) = some b := (lk_past (by decide +kernel)).trans lk_here
theorem dkF_none (a b : V) (m : Str) (h1 : (m == ("system" : Str)) = false := by decide +kernel) (h2 : (m == ("levels" : Str)) = false := by decide +kernel) : (dkF a b).lookup m = none := (lk_past h1).trans ((lk_past h2).trans rfl)
theorem put_dSys (a b x : V) : putF ("system" : Str) x (dkF a b) = dkF x b := put_here
theorem put_dLev (a b x : V) : putF ("levels" : Str) x (dkF a b) = dkF a x := (put_past (by decide +kernel)).trans (congrArg _ put_here)
theorem dk_sysF (a b c d : V) : dkF a b ≠ sysF c d := fun h => by
  injection h with h _
  injection h with h _
  exact absurd h (by decide +kernel)
theorem dk_levF (a b c d : V) : dkF a b ≠ levF c d := fun h => by
  injection h with _ h
  injection h with h _
  injection h with h _
  exact absurd h (by decide +kernel)
theorem but_lev {p C CS CL dx : Addr} {a b : V} {H H' : Hp} {lv : Addr} {S : Sys} {m : Nat} (hp : H p = some (.ins C dx (dkF a b))) (k : But p H H') (h : LevAt CS CL H lv S m) : LevAt CS CL H' lv S m := by
  obtain ⟨hm, hst, d, sp, ra, rs, h1, h2, h3, h4⟩ := h
  refine ⟨hm, hst, d, sp, ra, rs, k _ _ h1 fun e => ?_, but_sys hp (fun _ _ => dk_sysF _ _ _ _) k h2, but_lst hp k h3, h4.1, fun i r l x y => but_lst hp k (h4.2 i r l x y)⟩
  rw [e, hp] at h1
  have z := Option.some.inj h1
  injection z with _ _ z
  exact dk_levF _ _ _ _ z
/-- what the desk holds -/
def StG (CS CL : Addr) (H : Hp) (v1 v2 : V) : Option Sys → Prop
  | none => v1 = .non ∧ v2 = .non
  | some S => Wf S ∧ (∃ sp, v1 = .ref sp ∧ SysAt CS H sp S) ∧ (v2 = .non ∨ ∃ lv m, v2 = .ref lv ∧ LevAt CS CL H lv S m)
def DeskG (CS CL CD : Addr) (H : Hp) (p dx : Addr) (st : Option Sys) : Prop := ∃ v1 v2, H p = some (.ins CD dx (dkF v1 v2)) ∧ StG CS CL H v1 v2 st
theorem StG.mono {CS CL : Addr} {H H' : Hp} {v1 v2 : V} {st : Option Sys} (e : Ex H H') (h : StG CS CL H v1 v2 st) : StG CS CL H' v1 v2 st := by
  cases st with
  | none => exact h
  | some S =>
    obtain ⟨W, ⟨sp, h1, h2⟩, h3⟩ := h
    refine ⟨W, ⟨sp, h1, h2.mono e⟩, ?_⟩
    rcases h3 with h3 | ⟨lv, m, h3, h4⟩
    · exact .inl h3
    · exact .inr ⟨lv, m, h3, h4.mono e⟩
theorem DeskG.mono {CS CL CD : Addr} {H H' : Hp} {p dx : Addr} {st : Option Sys} (e : Ex H H') (h : DeskG CS CL CD H p dx st) : DeskG CS CL CD H' p dx st := by
  obtain ⟨v1, v2, h1, h2⟩ := h
  exact ⟨v1, v2, e _ _ h1, h2.mono e⟩
/-- a list is handed back, and the desk holds that -/
def RetD (CS CL CD p dx : Addr) (st : Option Sys) (ans : List Int) (H : Hp) (Q : VK) : Prop := ∀ v H2, But p H H2 → DeskG CS CL CD H2 p dx st → Lst (ans.map V.int) v H2 → Q v H2
/-- it's refused, that being told -/
def RefD (CS CL CD CR p dx : Addr) (st : Option Sys) (ans : List Int) (H : Hp) (E : XK) : Prop := ∀ d a H2, But p H H2 → DeskG CS CL CD H2 p dx st → H2 d = some (.xd [(("told" : Str), .ref a)]) → H2 a = some (.lst (ans.map V.int)) → E (.ref CR) (some d) H2
theorem RefD.go {CS CL CD CR p dx : Addr} {st : Option Sys} {ans : List Int} {H H' : Hp} {E : XK} (h : RefD CS CL CD CR p dx st ans H E) (b : But p H H') (g : DeskG CS CL CD H' p dx st) : RsL CR "told" ans H' E := fun d a H2 e2 x1 x2 => h d a H2 (b.trans (But.ex e2)) (g.mono e2) x1 x2
theorem RetD.back {CS CL CD p dx : Addr} {st : Option Sys} {ans : List Int} {H H' : Hp} {Q : VK} (h : RetD CS CL CD p dx st ans H Q) (b : But p H H') : RetD CS CL CD p dx st ans H' Q := fun v H2 b2 g x => h v H2 (b.trans b2) g x
theorem RefD.back {CS CL CD CR p dx : Addr} {st : Option Sys} {ans : List Int} {H H' : Hp} {E : XK} (h : RefD CS CL CD CR p dx st ans H E) (b : But p H H') : RefD CS CL CD CR p dx st ans H' E := fun d a H2 b2 g x y => h d a H2 (b.trans b2) g x y

section
variable {P : Program} {w : World} {K : PySem.W.Frag} {mg : Str → Option Value} {base : Heap} (T : Txt K mg)
/-! #### want -/
def spWant (CR : Addr) : Sp := fun vs H Q E => ∃ (b : Bool) (n : Int), vs = [.bl b, .int n] ∧ (b = true → Gives H Q (fun v _ => v = .non)) ∧ (b = false → RsL CR "told" [n] H E)
theorem ok_want : FnOk P w K mg base (L2.CX P w) 3 T.want.f T.want.fd ["truth", "number"] (spWant T.xRefused.C) := by
  have G_Refused_init0 := ok_Refused_init0 (P := P) (w := w) (base := base) T
  refine T.want.F.okX sc_want (fun vs H Q E h => ?_) (fun cdv A outer s H vs Q E hr h => ⟨_, (pss_one (ps_if (pt_not (pt_val (pv 0))) (pss_one (L2.ps_raise (by rfl) (L2.takes_of rfl rfl rfl rfl) (pmk_oex T.xRefused.ox T.Refused_init0.iC T.Refused_init0.tI G_Refused_init0 (hr.mono (by first | decide | omega)) T.b_Refused_init0 .nil pass0 (by rfl) T.xRefused.g (pa_cons (pe_lst (pa_cons (pv 1) pa_nil)) pa_nil)))) pss_nil)), ?_⟩)
  · obtain ⟨b, n, rfl, _⟩ := h
    rfl
  · obtain ⟨b, n, rfl, k1, k2⟩ := h
    refine s_when (et_not (et_B (ev_var rfl))) (fun h H1 e1 => ?_) fun h H1 e1 => ?_
    · have hb : b = false := by simpa using h
      refine mk_xL (l := [n]) (el_lst (ea_cons (ev_var rfl) ea_nil) (by simp)) fun d a H2 e2 x1 x2 => k2 hb d a H2 (e1.trans e2) x1 x2
    · have hb : b = true := by simpa using h
      exact k1 hb _ H1 e1 rfl

/-! #### full -/
def spFull : Sp := fun vs H Q _ => ∃ n a b row txt, vs = [.int n, .ref a, .ref b] ∧ H a = some (.lst (row.map V.int)) ∧ H b = some (.lst (txt.map V.int)) ∧ row.length ≤ 70000 ∧ txt.length ≤ 70000 ∧ Gives H Q (Lst ((NLines.flat n row txt).map V.int))
theorem full_go {K : PySem.W.Frag} {n : Int} {a b : Addr} {row txt : List Int} {H : Hp} {Q : VK} (h1 : H a = some (.lst (row.map V.int))) (h2 : H b = some (.lst (txt.map V.int))) (l1 : row.length ≤ 70000) (l2 : txt.length ≤ 70000) (k : Gives H Q (Lst ((NLines.flat n row txt).map V.int))) :
    tSeq (tIfS (tAnd (tTest (tOp (rEqD K) (tVar 1) (tLst tNil))) (tTest (tOp (rEqD K) (tVar 2) (tLst tNil)))) (tRet (tLst (tCons (tVar 0) tNil))) tNext)
      (tRet (tOp rCat (tOp rCat (tOp rCat (tLst (tCons (tVar 0) (tCons (tCB (rLenS K) (tCons (tVar 1) tNil)) tNil))) (tVar 1)) (tLst (tCons (tCB (rLenS K) (tCons (tVar 2) tNil)) tNil))) (tVar 2))) { nx := fun _ H' => Q .non H', rt := Q } [some (.int n), some (.ref a), some (.ref b)] H := by
  refine q_when (et_and (et_empty (K := K) (ev_var rfl) h1) fun _ => et_empty (K := K) (ev_var rfl) h2) (fun h H1 e1 => ?_) fun h H1 e1 => ?_
  · rw [Bool.and_eq_true, decide_eq_true_eq, decide_eq_true_eq] at h
    refine s_retP (lst_l (el_lst (ea_cons (ev_var rfl) ea_nil) (by simp))) fun v H2 e2 q => k v H2 (e1.trans e2) ?_
    unfold NLines.flat
    rw [if_pos h]
    exact q
  · rw [Bool.and_eq_false_iff, decide_eq_false_iff_not, decide_eq_false_iff_not] at h
    have hn : ¬ (row = [] ∧ txt = []) := fun z => by
      rcases h with h | h
      · exact h z.1
      · exact h z.2
    have r1 : (row.map V.int).length = row.length := List.length_map ..
    have r2 : (txt.map V.int).length = txt.length := List.length_map ..
    refine s_retP (lst_l (el_catP (lst_l (el_catP (lst_l (el_catP (lst_l (el_lst (ea_cons (ev_var rfl) (ea_cons (ev_len (K := K) (ev_var rfl) (sq_of (e1 _ _ h1))) ea_nil)) (by simp))) (lst_v (ev_var rfl) (e1 _ _ h1)) ?_)) (lst_l (el_lst (ea_cons (ev_len (K := K) (ev_var rfl) (sq_of (e1 _ _ h2))) ea_nil) (by simp))) ?_)) (lst_v (ev_var rfl) (e1 _ _ h2)) ?_)) fun v H2 e2 q => k v H2 (e1.trans e2) ?_
    · simp only [List.length_cons, List.length_nil, r1]
      omega
    · simp only [List.length_append, List.length_cons, List.length_nil, r1]
      omega
    · simp only [List.length_append, List.length_cons, List.length_nil, r1, r2]
      omega
    · unfold NLines.flat
      rw [if_neg hn]
      obtain ⟨p, e, hp⟩ := q
      refine ⟨p, e, ?_⟩
      rw [hp]
      simp
theorem ok_full : FnOk P w K mg base CX0 1 T.full.f T.full.fd ["number", "row", "text"] spFull := by
  refine T.full.F.ok sc_full (fun vs H Q E h => ?_) (fun cdv A outer s H vs Q E hr h => ⟨_, (pss_cons (ps_if (PW.pt (pw_and (pt_cmpR (op_eqD hr.units) (pv 1) (pe_lst pa_nil) (nomark _)) (pw_and1 (pt_cmpR (op_eqD hr.units) (pv 2) (pe_lst pa_nil) (nomark _))))) (pss_one (ps_ret (pe_lst (pa_cons (pv 0) pa_nil)))) pss_nil) (pss_one (ps_ret (pe_op op_cat (pe_op op_cat (pe_op op_cat (pe_lst (pa_cons (pv 0) (pa_cons (pe_callB call_len_seq (by rfl) T.g_len (by decide +kernel) (pa_cons (pv 1) pa_nil)) pa_nil))) (pv 1)) (pe_lst (pa_cons (pe_callB call_len_seq (by rfl) T.g_len (by decide +kernel) (pa_cons (pv 2) pa_nil)) pa_nil))) (pv 2))))), ?_⟩)
  · obtain ⟨n, a, b, row, txt, rfl, _⟩ := h
    rfl
  · obtain ⟨n, a, b, row, txt, rfl, h1, h2, l1, l2, k⟩ := h
    exact full_go h1 h2 l1 l2 k
theorem okH_full : L2H.FnH P w K mg base CX0 1 T.full.f T.full.fd ["number", "row", "text"] spFull := by
  refine LkX.okH T.full.F sc_full (fun vs H Q E h => ?_) (fun cdv A outer s H vs Q E p hp hr h => ⟨_, (pss_cons (ps_if (PW.pt (pw_and (pt_cmpR (op_eqD hr.units) (pv 1) (pe_lst pa_nil) (nomark _)) (pw_and1 (pt_cmpR (op_eqD hr.units) (pv 2) (pe_lst pa_nil) (nomark _))))) (pss_one (ps_ret (pe_lst (pa_cons (pv 0) pa_nil)))) pss_nil) (pss_one (ps_ret (pe_op op_cat (pe_op op_cat (pe_op op_cat (pe_lst (pa_cons (pv 0) (pa_cons (pe_callB call_len_seq (by rfl) T.g_len (by decide +kernel) (pa_cons (pv 1) pa_nil)) pa_nil))) (pv 1)) (pe_lst (pa_cons (pe_callB call_len_seq (by rfl) T.g_len (by decide +kernel) (pa_cons (pv 2) pa_nil)) pa_nil))) (pv 2))))), ?_⟩)
  · obtain ⟨n, a, b, row, txt, rfl, _⟩ := h
    rfl
  · obtain ⟨n, a, b, row, txt, rfl, h1, h2, l1, l2, k⟩ := h
    exact full_go h1 h2 l1 l2 k

/-! #### Desk.__init__, put -/
def spDInit (CD : Addr) : Sp := fun vs H Q _ => ∃ (p dx : Addr), vs = [.ref p] ∧ H p = some (.ins CD dx []) ∧ ∀ H' : Hp, H' p = some (.ins CD dx (dkF .non .non)) → But p H H' → Q .non H'
theorem ok_Desk_init0 : FnOk P w K mg base CX0 1 T.Desk_init0.f T.Desk_init0.fd ["self"] (spDInit T.cDesk.C) := by
  refine T.Desk_init0.F.ok sc_Desk_init0 (fun vs H Q E h => ?_) (fun cdv A outer s H vs Q E hr h => ⟨_, (pss_cons (ps_fld (pv 0) pe_non (by rfl)) (pss_one (ps_fld (pv 0) pe_non (by rfl)))), ?_⟩)
  · obtain ⟨p, dx, rfl, _⟩ := h
    rfl
  · obtain ⟨p, dx, rfl, hp, k⟩ := h
    refine ⟨_, rfl, p, _, dx, [], rfl, hp, T.cDesk.cl, T.nDesk_system, (by show 0 < 1000; decide), ?_⟩
    refine ⟨_, rfl, p, _, dx, _, rfl, upd_same, T.cDesk.cl, T.nDesk_levels, (by show 1 < 1000; decide), ?_⟩
    refine k _ (Eq.trans upd_same (congrArg (fun q => some (HO.ins T.cDesk.C dx q)) ((put_past (by decide +kernel)).trans rfl))) fun b o e hb => by
      rw [upd_ne hb, upd_ne hb]
      exact e
def spPut (CS CL CD : Addr) : Sp := fun vs H Q _ => ∃ p dx st sp S, vs = [.ref p, .ref sp] ∧ DeskG CS CL CD H p dx st ∧ SysAt CS H sp S ∧ Wf S ∧ ∀ H2, But p H H2 → DeskG CS CL CD H2 p dx (some S) → Q .non H2
theorem ok_Desk_put : FnOk P w K mg base CX0 1 T.Desk_put.f T.Desk_put.fd ["self", "system"] (spPut T.cSystem.C T.cLevels.C T.cDesk.C) := by
  refine T.Desk_put.F.ok sc_Desk_put (fun vs H Q E h => ?_) (fun cdv A outer s H vs Q E hr h => ⟨_, (pss_cons (ps_fld (pv 0) (pv 1) (by rfl)) (pss_one (ps_fld (pv 0) pe_non (by rfl)))), ?_⟩)
  · obtain ⟨p, dx, st, sp, S, rfl, _⟩ := h
    rfl
  · obtain ⟨p, dx, st, sp, S, rfl, ⟨v1, v2, hp, _⟩, hS, W, k⟩ := h
    refine ⟨_, rfl, _, rfl, p, _, dx, _, rfl, hp, T.cDesk.cl, T.nDesk_system, (by show 2 < 1000; decide), ?_⟩
    refine ⟨_, rfl, p, _, dx, _, rfl, upd_same, T.cDesk.cl, T.nDesk_levels, (by rw [put_dSys]; show 2 < 1000; decide), ?_⟩
    rw [put_dSys, put_dLev]
    have b : But p H (upd (upd H p (.ins T.cDesk.C dx (dkF (.ref sp) v2))) p (.ins T.cDesk.C dx (dkF (.ref sp) .non))) := But.upd (But.upd (But.ex (Ex.refl H)))
    exact k _ b ⟨_, _, upd_same, W, ⟨sp, rfl, but_sys hp (fun _ _ => dk_sysF _ _ _ _) b hS⟩, .inl rfl⟩

/-! #### known_levels -/
theorem evp_levels {CS CL : Addr} {σ : L2.St} {H : Hp} {te : TE} {sp : Addr} {S : Sys} (h : Ev te σ H (.ref sp)) (hS : SysAt CS H sp S) (W : Wf S) : EvP (tMake CL (spLevInit CS CL) [] E0 (tCons te tNil)) σ H (fun v H2 => ∃ lv m, v = .ref lv ∧ LevAt CS CL H2 lv S m) :=
  fun H1 e Q k => h H1 e _ fun H2 e2 x dx nx nd ne => ⟨x, dx, sp, S, rfl, upd_same, (hS.mono (e.trans e2)).mono ((Ex.new nd).trans (Ex.new (by rw [upd_ne (Ne.symm ne)]; exact nx))), W, fun H' m hL b => ⟨rfl, k _ H' (e2.trans (Same.made nx nd b)) ⟨x, m, rfl, hL⟩⟩⟩
def spKnow (CS CL CD : Addr) : Sp := fun vs H Q _ => ∃ p dx S, vs = [.ref p] ∧ DeskG CS CL CD H p dx (some S) ∧ ∀ lv m H2, But p H H2 → DeskG CS CL CD H2 p dx (some S) → LevAt CS CL H2 lv S m → Q (.ref lv) H2
theorem ok_Desk_known_levels : FnOk P w K mg base CX0 5 T.Desk_known_levels.f T.Desk_known_levels.fd ["self"] (spKnow T.cSystem.C T.cLevels.C T.cDesk.C) := by
  have G_Levels_init0 := ok_Levels_init0 (P := P) (w := w) (base := base) T
  refine T.Desk_known_levels.F.ok sc_Desk_known_levels (fun vs H Q E h => ?_) (fun cdv A outer s H vs Q E hr h => ⟨_, (pss_cons (ps_if (pt_cmpR op_isN (pe_fld (pv 0) (by rfl)) pe_non (nomark _)) (pss_one (ps_fld (pv 0) (pe_make T.mk_Levels G_Levels_init0 (hr.mono (by first | decide | omega)) (by rfl) T.cLevels.g T.b_Levels_init0 .nil pass0 (pa_cons (pe_fld (pv 0) (by rfl)) pa_nil)) (by rfl))) pss_nil) (pss_one (ps_ret (pe_fld (pv 0) (by rfl))))), ?_⟩)
  · obtain ⟨p, dx, S, rfl, _⟩ := h
    rfl
  · obtain ⟨p, dx, S, rfl, ⟨v1, v2, hp, W, ⟨sp, rfl, hS⟩, hL⟩, k⟩ := h
    have ret : ∀ H1 lv m, But p H H1 → H1 p = some (.ins T.cDesk.C dx (dkF (.ref sp) (.ref lv))) → SysAt T.cSystem.C H1 sp S → LevAt T.cSystem.C T.cLevels.C H1 lv S m → tRet (tFld K (tVar 0) "levels") { nx := fun _ H' => Q .non H', rt := Q } [some (.ref p)] H1 := fun H1 lv m b1 hp1 hS1 hL1 =>
      s_ret (ev_fld (ev_var rfl) hp1 T.cDesk.cl T.nDesk_levels (lk_dLev _ _)) fun H2 e2 => k lv m H2 (b1.trans (But.ex e2)) ⟨_, _, e2 _ _ hp1, W, ⟨sp, rfl, hS1.mono e2⟩, .inr ⟨lv, m, rfl, hL1.mono e2⟩⟩ (hL1.mono e2)
    rcases hL with rfl | ⟨lv, m, rfl, hL⟩
    · refine q_when (b := true) (et_test (ev_is (ev_op (ev_fld (ev_var rfl) hp T.cDesk.cl T.nDesk_levels (lk_dLev _ _)) ev_c fun H3 e3 Q k => ⟨rfl, k H3 (Ex.refl _)⟩) rfl)) (fun _ H1 e1 => ?_) fun z => nomatch z
      refine evp_levels (CS := T.cSystem.C) (CL := T.cLevels.C) (σ := [some (.ref p)]) (te := tFld K (tVar 0) "system") (ev_fld (ev_var rfl) (e1 _ _ hp) T.cDesk.cl T.nDesk_system (lk_dSys _ _)) (hS.mono e1) W H1 (Ex.refl _) (fun y H2 => tVar 0 [some (.ref p)] H2 fun x H3 => ∃ a C dx fs, x = .ref a ∧ H3 a = some (.ins C dx fs) ∧ Cls K C ∧ NoAttr K C "levels" ∧ fs.length < 1000 ∧ _) fun v H2 e2 ⟨lv, m, ev, hL⟩ => ?_
      subst ev
      have hp2 := e2 _ _ (e1 _ _ hp)
      refine ⟨_, rfl, p, _, dx, _, rfl, hp2, T.cDesk.cl, T.nDesk_levels, (by show 2 < 1000; decide), ?_⟩
      rw [put_dLev]
      have b2 : But p H2 (upd H2 p (.ins T.cDesk.C dx (dkF (.ref sp) (.ref lv)))) := But.upd (But.ex (Ex.refl _))
      exact ret _ lv m ((But.ex (e1.trans e2)).trans b2) upd_same (but_sys hp2 (fun _ _ => dk_sysF _ _ _ _) b2 (hS.mono (e1.trans e2))) (but_lev hp2 b2 hL)
    · refine q_when (b := false) (et_test (ev_is (ev_op (ev_fld (ev_var rfl) hp T.cDesk.cl T.nDesk_levels (lk_dLev _ _)) ev_c fun H3 e3 Q k => ⟨rfl, k H3 (Ex.refl _)⟩) rfl)) (fun z => nomatch z) fun _ H1 e1 => ?_
      exact ret H1 lv m (But.ex e1) (e1 _ _ hp) (hS.mono e1) (hL.mono e1)

/-! #### want_states, want_arc -/
def spWSt (CS CL CD CR : Addr) : Sp := fun vs H Q E => ∃ p dx S q l, vs = [.ref p, .ref q] ∧ DeskG CS CL CD H p dx (some S) ∧ H q = some (.lst (vN l)) ∧ l.length ≤ 1000 ∧
  ((∀ s ∈ l, s < S.states) → Gives H Q (fun v _ => v = .non)) ∧ (¬ (∀ s ∈ l, s < S.states) → RsL CR "told" [-1] H E)
theorem ok_Desk_want_states : FnOk P w K mg base (L2.CX P w) 4 T.Desk_want_states.f T.Desk_want_states.fd ["self", "some"] (spWSt T.cSystem.C T.cLevels.C T.cDesk.C T.xRefused.C) := by
  have G_want := ok_want (P := P) (w := w) (base := base) T
  have G_System_many := ok_System_many (P := P) (w := w) (base := base) T
  refine T.Desk_want_states.F.okX sc_Desk_want_states (fun vs H Q E h => ?_) (fun cdv A outer s H vs Q E hr h => ⟨_, (pss_one (ps_expr (pe_call G_want (hr.mono (by first | decide | omega)) (by rfl) T.want.g T.want.F.kp T.b_want .nil (L2.passes_call (L2.takes_of rfl rfl rfl rfl) (fun _ _ _ _ z => z)) (pa_cons (pe_callB (cr_all (by rfl)) (by rfl) T.g_all (by decide +kernel) (pa_cons (pe_lc (own := [("state", 2)]) (g := gName 2) (te := tChain rLe rLt (tC (.int 0)) (tVar 2) (tMeth T.cSystem.C "many" (spMany T.cSystem.C) [] E0 (tFld K (tVar 0) "system") tNil)) (by rfl) sc_Desk_want_states.nd (pi_list (pv 1)) (blkOk_by (own := [("state", 2)]) (N := n_Desk_want_states) (sc := defScope s_Desk_want_states) (by decide +kernel)) (fun _ _ _ _ _ => (pg_name (i := 2) sc_Desk_want_states.nd rfl (Or.inl rfl))) (fun _ _ _ _ _ => pts_nil) (fun _ _ _ _ _ => (pe_chain op_le op_lt pe_int (pv 2) (pe_meth0 (pe_fld (pv 0) (by rfl)) T.cSystem.cl T.System_many.m G_System_many (hr.mono (by first | decide | omega)) T.b_System_many .nil pass0)))) pa_nil)) (pa_cons (pe_K (by rfl) T.k_BAD) pa_nil))))), ?_⟩)
  · obtain ⟨p, dx, S, q, l, rfl, _⟩ := h
    rfl
  · obtain ⟨p, dx, S, q, l, rfl, ⟨v1, v2, hp, W, ⟨sp, rfl, hS⟩, _⟩, hq, few, k1, k2⟩ := h
    obtain ⟨ds, ca, aa, s1, s2, s3⟩ := id hS
    refine drop_x (x_call (ea_cons (ev_all (K := K) (bs := l.map fun s => decide (s < S.states)) (elp_l (ElP.imp (el_lcLP (K := K) (fun _ => true) (fun i y H => y = V.bl (decide (l.getD i 0 < S.states))) stays_val (ev_var rfl) (sq_of hq) (by rw [vN_len]; omega) fun i x H1 e1 hx => ?_) fun ys H1 e1 g => ?_))) (ea_cons ev_c ea_nil)) fun H1 e1 => ⟨_, _, rfl, fun h v H2 e2 hv => ?_, fun h => ?_⟩)
    · have hi : i < l.length := by
        have := (List.getElem?_eq_some_iff.mp hx).1
        rw [vN_len] at this
        exact this
      rw [vN_get hi] at hx
      have ex := Option.some.inj hx
      subst ex
      refine turn_of (fun Q H2 e2 q => q) rfl (fun H2 e2 Q k => k H2 (Ex.refl _)) (fun _ => evp (ev_is (ev_chainB (g := fun i j => decide (i ≤ j)) (g' := fun i j => decide (i < j)) rfl rfl ev_c (ev_var rfl) (ev_meth (ev_fld (ev_var rfl) (e1 _ _ hp) T.cDesk.cl T.nDesk_system (lk_dSys _ _)) (e1 _ _ s1) (sysF_none _ _ _) ea_nil (sp_many (hS.mono e1)))) ?_))
      congr 1
      have e0 : decide ((0 : Int) ≤ ((l.getD i 0 : Nat) : Int)) = true := decide_eq_true (by omega)
      rw [e0, Bool.true_and]
      exact decide_eq_decide.mpr (by omega)
    · rw [g.vals, vN_len, List.filter_eq_self.mpr (fun _ _ => rfl), List.map_map]
      apply List.ext_getElem
      · simp
      · intro j h1 h2
        have h3 : j < l.length := by simpa using h2
        simp only [List.getElem_map, List.getElem_range, Function.comp]
        rw [getD_lt _ _ _ h3]
    · refine k1 (fun s hs => ?_) .non H2 (e1.trans e2) rfl
      rw [List.all_map] at h
      exact of_decide_eq_true (List.all_eq_true.mp h s hs)
    · refine fun d a H2 e2 x1 x2 => k2 (fun z => ?_) d a H2 (e1.trans e2) x1 x2
      rw [List.all_map] at h
      have : (l.all (id ∘ fun s => decide (s < S.states))) = true := List.all_eq_true.mpr fun s hs => decide_eq_true (z s hs)
      rw [h] at this
      cases this
def spWArc (CS CL CD CR : Addr) : Sp := fun vs H Q E => ∃ p dx S q k a t, vs = [.ref p, .ref q] ∧ DeskG CS CL CD H p dx (some S) ∧ H q = some (.lst (vN [k, a, t])) ∧
  (Ln.isArc S k a t = true → Gives H Q (fun v _ => v = .non)) ∧ (Ln.isArc S k a t = false → RsL CR "told" [-1] H E)
theorem ok_Desk_want_arc : FnOk P w K mg base (L2.CX P w) 5 T.Desk_want_arc.f T.Desk_want_arc.fd ["self", "n"] (spWArc T.cSystem.C T.cLevels.C T.cDesk.C T.xRefused.C) := by
  have G_want := ok_want (P := P) (w := w) (base := base) T
  have G_Desk_want_states := ok_Desk_want_states (P := P) (w := w) (base := base) T
  refine T.Desk_want_arc.F.okX sc_Desk_want_arc (fun vs H Q E h => ?_) (fun cdv A outer s H vs Q E hr h => ⟨_, (pss_cons (ps_expr (pe_call G_want (hr.mono (by first | decide | omega)) (by rfl) T.want.g T.want.F.kp T.b_want .nil (L2.passes_call (L2.takes_of rfl rfl rfl rfl) (fun _ _ _ _ z => z)) (pa_cons (pe_chain op_le op_le pe_int (pe_ix ix_list (pv 1) pe_int (fun _ _ => rfl)) (pe_K (by rfl) T.k_MOST_LABEL_states)) (pa_cons (pe_K (by rfl) T.k_BAD) pa_nil)))) (pss_one (ps_expr (pe_meth (pv 0) T.cDesk.cl T.Desk_want_states.m G_Desk_want_states (hr.mono (by first | decide | omega)) T.b_Desk_want_states .nil (L2.passes_call (L2.takes_of rfl rfl rfl rfl) (fun _ _ _ _ z => z)) (pa_cons (pe_lst (pa_cons (pe_ix ix_list (pv 1) pe_int (fun _ _ => rfl)) (pa_cons (pe_ix ix_list (pv 1) pe_int (fun _ _ => rfl)) pa_nil))) pa_nil))))), ?_⟩)
  · obtain ⟨p, dx, S, q, kk, a, t, rfl, _⟩ := h
    rfl
  · obtain ⟨p, dx, S, q, kk, a, t, rfl, g, hq, k1, k2⟩ := h
    have isA : Ln.isArc S kk a t = (decide (kk < S.states) && (decide (a < 64) && decide (t < S.states))) := rfl
    have ix : ∀ (i : Nat) H1, Ex H H1 → i < 3 → Ev (tOp (rIxL K) (tVar 1) (tC (.int (i : Int)))) [some (.ref p), some (.ref q)] H1 (.int ((([kk, a, t] : List Nat).getD i 0 : Nat) : Int)) := fun i H1 e1 hi => ev_ixN (K := K) (ev_var rfl) ev_c (e1 _ _ hq) hi
    refine qdrop_x (x_call (ea_cons (ev_chainB (g := fun i j => decide (i ≤ j)) (g' := fun i j => decide (i ≤ j)) rfl rfl ev_c (ix 1 H (Ex.refl _) (by omega)) ev_c) (ea_cons ev_c ea_nil)) fun H1 e1 => ⟨_, _, rfl, fun h v H2 e2 hv => ?_, fun h d x H2 e2 x1 x2 => ?_⟩)
    · rw [Bool.and_eq_true, decide_eq_true_eq, decide_eq_true_eq] at h
      have ha : a < 64 := by have := h.2; simp at this; omega
      have e12 := e1.trans e2
      obtain ⟨v1, v2, hp, gS⟩ := id g
      refine drop_x (x_methL (ev_var rfl) (e12 _ _ hp) (dkF_none _ _ _) (el_lst (ea_cons (ix 0 H2 e12 (by omega)) (ea_cons (ix 2 H2 e12 (by omega)) ea_nil)) (by simp)) fun r H3 e3 hr3 => ⟨p, dx, S, r, [kk, t], rfl, (g.mono e12).mono e3, hr3, by simp, fun z v H4 e4 hv => k1 ?_ _ H4 ((e12.trans e3).trans e4) rfl, fun z d x H4 e4 x1 x2 => k2 ?_ d x H4 ((e12.trans e3).trans e4) x1 x2⟩)
      · have h1 := z kk (by simp)
        have h2 := z t (by simp)
        rw [isA]
        simp [ha, h1, h2]
      · rw [isA]
        by_cases c1 : kk < S.states
        · by_cases c2 : t < S.states
          · exact absurd (fun s hs => by
              rcases List.mem_cons.mp hs with e | hs
              · rw [e]; exact c1
              · rw [List.mem_singleton.mp hs]; exact c2) z
          · simp [c2]
        · simp [c1]
    · refine k2 ?_ d x H2 (e1.trans e2) x1 x2
      have ha : ¬ a < 64 := fun z => by
        have : (decide ((0 : Int) ≤ (a : Int)) && decide ((a : Int) ≤ 63)) = true := by
          rw [Bool.and_eq_true, decide_eq_true_eq, decide_eq_true_eq]
          omega
        rw [show (decide ((0 : Int) ≤ (a : Int)) && decide ((a : Int) ≤ 63)) = false from h] at this
        cases this
      rw [isA]
      simp [ha]
end
end LkW
end

section
set_option Elab.async false
set_option linter.all false
set_option maxRecDepth 100000
set_option maxHeartbeats 2000000
/-! The desk's calls, one by one. -/
namespace LkW
open PySem PySem.Spec PyProof.Rows L2 Evl Lk
open Ln (Sys Arc Bytes Form)
/-- an answer as one row -/
def ansI (a : Ln.Ans) : List Int := NLines.flat a.ret a.nums (a.text.map fun (b : UInt8) => (b.toNat : Int))
theorem ans_says (z : Int) : ansI (Ln.says z) = [z] := by simp [ansI, Ln.says, NLines.flat]
/-- how a call ends: handed back, or refused; either -/
def Outc (CS CL CD CR p dx : Addr) (r : Ln.State × Ln.Ans) (H : Hp) (Q : VK) (E : XK) : Prop := RetD CS CL CD p dx r.1 (ansI r.2) H Q ∧ RefD CS CL CD CR p dx r.1 (ansI r.2) H E
section
variable {CS CL CD CR p dx : Addr} {r : Ln.State × Ln.Ans} {H H1 H2 : Hp} {Q : VK} {E : XK} {st : Option Sys} {σ : L2.St} {te ta tb tx : TE} {tz : TS} {D : Ends} {v : V} {n : Int} {l : List Nat} {b : Bool} {S S' : Sys} {rr : List V → Hp → VK → Prop} {C : Addr} {m : Str} {sp : Sp} {targs : TA}
theorem RsL.mono {C : Addr} {f : Str} {l : List Int} (h : RsL C f l H E) (e : Ex H H1) : RsL C f l H1 E := fun d a H2 e2 x1 x2 => h d a H2 (e.trans e2) x1 x2
theorem Outc.back (h : Outc CS CL CD CR p dx r H Q E) (b : But p H H1) : Outc CS CL CD CR p dx r H1 Q E := ⟨h.1.back b, h.2.back b⟩
theorem Outc.bad (h : Outc CS CL CD CR p dx r H Q E) (g : DeskG CS CL CD H p dx st) (e : r = (st, Ln.says n)) : RsL CR "told" [n] H E := by
  subst e
  have := h.2.go (But.ex (Ex.refl H)) g
  rw [ans_says] at this
  exact this
theorem Outc.ret (h : Outc CS CL CD CR p dx r H Q E) (g : DeskG CS CL CD H p dx st) (e : r = (st, Ln.says n)) : ∀ v H2, Ex H H2 → Lst [.int n] v H2 → Q v H2 := fun v H2 e2 q => by
  subst e
  refine h.1 v H2 (But.ex e2) (g.mono e2) ?_
  rw [ans_says]
  exact q
theorem But.exl {p : Addr} {H H1 H2 : Hp} (h : But p H H1) (e : Ex H1 H2) : But p H H2 := h.trans (But.ex e)
theorem ev_int1 (h : Ev te σ H (.bl b)) : Ev (tCB (fun xs H Q => (∃ i, xs = [.int i] ∧ Q (.int i) H) ∨ ∃ k, xs = [.bl k] ∧ Q (.int (if k then 1 else 0)) H) (tCons te tNil)) σ H (.int (if b = true then 1 else 0)) :=
  fun H1 e Q k => h H1 e _ fun H2 e2 => .inr ⟨b, rfl, k H2 e2⟩
theorem evp_tup1 {K : PySem.W.Frag} {q : Addr} {xs : List V} (h : Ev te σ H (.ref q)) (hq : H q = some (.lst xs)) : EvP (tCB (fun xs H Q => ∃ p ys, xs = [.ref p] ∧ ((SqL K H p ys ∧ ∀ l, H l = none → Q (.ref l) (upd H l (.tup ys))) ∨ (SqT K H p ys ∧ Q (.ref p) H))) (tCons te tNil)) σ H (fun v H2 => ∃ t, v = .ref t ∧ H2 t = some (.tup xs)) :=
  fun H1 e Q k => h H1 e _ fun H2 e2 => ⟨q, xs, rfl, .inl ⟨sq_of (e2 _ _ (e _ _ hq)), fun t ht => k _ _ (e2.trans (Ex.new ht)) ⟨t, rfl, upd_same⟩⟩⟩
theorem ev_opP {P : V → Hp → Prop} {y z : V} {r : R2} (ha : EvP ta σ H P) (hb : Ev tb σ H y) (hr : ∀ x H1, Ex H H1 → P x H1 → (∀ H2, Ex H1 H2 → P x H2) → RV r x y H1 z) (hm : ∀ x H1 H2, Ex H1 H2 → P x H1 → P x H2) : Ev (tOp r ta tb) σ H z :=
  fun H1 e Q q => ha H1 e _ fun x H2 e2 px => hb H2 (e.trans e2) _ fun H3 e3 => hr x H3 ((e.trans e2).trans e3) (hm _ _ _ e3 px) (fun H4 e4 => hm _ _ _ (e3.trans e4) px) H3 (Ex.refl _) Q fun H4 e4 => q H4 ((e2.trans e3).trans e4)
theorem x_ans (k : ∀ v H1, Ex H H1 → Lst [.int n] v H1 → Q v H1) : tLst (tCons (tC (.int n)) tNil) σ H Q := (lst_l (el_lst (ea_cons ev_c ea_nil) (by simp))) H (Ex.refl _) Q fun v H1 e q => k v H1 e q
theorem x_lst1 (h : te σ H fun v H1 => tLst (tCons (tC v) tNil) σ H1 Q) : tLst (tCons te tNil) σ H Q := h
theorem x_cb1 (h : te σ H fun v H1 => tCB rr (tCons (tC v) tNil) σ H1 Q) : tCB rr (tCons te tNil) σ H Q := h
theorem x_on (h : te σ H fun v H1 => tMeth C m sp [] E (tC v) targs σ H1 Q) : tMeth C m sp [] E te targs σ H Q := h
theorem x_op1 {rt : R2} (h : te σ H fun v H1 => tOp rt (tC v) tb σ H1 Q) : tOp rt te tb σ H Q := h
theorem x_op2 {rt : R2} (ha : Ev ta σ H v) (h : ∀ H1, Ex H H1 → te σ H1 fun y H2 => rt v y H2 Q) : tOp rt ta te σ H Q := ha H (Ex.refl _) _ fun H1 e1 => h H1 e1
theorem ret_ans (h : Ev te σ H (.int n)) (k : ∀ v H1, Ex H H1 → Lst [.int n] v H1 → D.rt v H1) : tRet (tLst (tCons te tNil)) D σ H := s_retP (lst_l (el_lst (ea_cons h ea_nil) (by simp))) k
theorem q_put (h : Ev te σ H (.ref p)) (g : DeskG CS CL CD H p dx st) (hx : EvP tx σ H (SysG CS S')) (W : Wf S') (k : ∀ H2, But p H H2 → DeskG CS CL CD H2 p dx (some S') → tz D σ H2) : tSeq (tDrop (tMeth CD "put" (spPut CS CL CD) [] E te (tCons tx tNil))) tz D σ H := by
  obtain ⟨v1, v2, hp, gS⟩ := id g
  refine qdrop_x (h H (Ex.refl H) _ fun H1 e1 => ⟨p, dx, _, rfl, e1 _ _ hp, dkF_none _ _ _, hx H1 e1 _ fun v H2 e2 ⟨sp, ev, hS⟩ => ?_⟩)
  subst ev
  exact ⟨p, dx, st, sp, S', rfl, (g.mono e1).mono e2, hS, W, fun H3 b g3 => k H3 ((But.ex (e1.trans e2)).trans b) g3⟩
theorem q_want (ht : Ev te σ H (.bl b)) (k1 : b = true → ∀ H1, Ex H H1 → tz D σ H1) (k2 : b = false → RsL CR "told" [n] H E) : tSeq (tDrop (tCall (spWant CR) [] E (tCons te (tCons (tC (.int n)) tNil)))) tz D σ H :=
  qdrop_x (x_call (ea_cons ht (ea_cons ev_c ea_nil)) fun H1 e1 => ⟨b, n, rfl, fun h v H2 e2 hv => k1 h H2 (e1.trans e2), fun h => (k2 h).mono e1⟩)
theorem q_states (h : Ev te σ H (.ref p)) (g : DeskG CS CL CD H p dx (some S)) (hl : EvL tx σ H (vN l)) (few : l.length ≤ 1000) (k1 : (∀ s ∈ l, s < S.states) → ∀ H1, Ex H H1 → tz D σ H1) (k2 : ¬ (∀ s ∈ l, s < S.states) → RsL CR "told" [-1] H E) : tSeq (tDrop (tMeth CD "want_states" (spWSt CS CL CD CR) [] E te (tCons tx tNil))) tz D σ H := by
  obtain ⟨v1, v2, hp, gS⟩ := id g
  exact qdrop_x (x_methL h hp (dkF_none _ _ _) hl fun r H1 e1 hr => ⟨p, dx, S, r, l, rfl, g.mono e1, hr, few, fun ok v H2 e2 hv => k1 ok H2 (e1.trans e2), fun no => (k2 no).mono e1⟩)
theorem q_arc {q : Addr} {kk a t : Nat} (h : Ev te σ H (.ref p)) (g : DeskG CS CL CD H p dx (some S)) (hl : Ev tx σ H (.ref q)) (hq : H q = some (.lst (vN [kk, a, t]))) (k1 : Ln.isArc S kk a t = true → ∀ H1, Ex H H1 → tz D σ H1) (k2 : Ln.isArc S kk a t = false → RsL CR "told" [-1] H E) : tSeq (tDrop (tMeth CD "want_arc" (spWArc CS CL CD CR) [] E te (tCons tx tNil))) tz D σ H := by
  obtain ⟨v1, v2, hp, gS⟩ := id g
  exact qdrop_x (x_meth h hp (dkF_none _ _ _) (ea_cons hl ea_nil) fun H1 e1 => ⟨p, dx, S, q, kk, a, t, rfl, g.mono e1, e1 _ _ hq, fun ok v H2 e2 hv => k1 ok H2 (e1.trans e2), fun no => (k2 no).mono e1⟩)
theorem x_know (h : Ev te σ H (.ref p)) (g : DeskG CS CL CD H p dx (some S)) (k : ∀ lv m H2, But p H H2 → DeskG CS CL CD H2 p dx (some S) → LevAt CS CL H2 lv S m → Q (.ref lv) H2) : tMeth CD "known_levels" (spKnow CS CL CD) [] E te tNil σ H Q := by
  obtain ⟨v1, v2, hp, gS⟩ := id g
  exact x_meth h hp (dkF_none _ _ _) ea_nil fun H1 e1 => ⟨p, dx, S, rfl, g.mono e1, fun lv m H2 b2 g2 hL => k lv m H2 ((But.ex e1).trans b2) g2 hL⟩
/-- one's arc -/
theorem arc_isA {kk a t : Nat} (h : Ln.isArc S kk a t = true) : kk < S.states ∧ a < 64 ∧ t < S.states := by
  have isA : Ln.isArc S kk a t = (decide (kk < S.states) && (decide (a < 64) && decide (t < S.states))) := rfl
  rw [isA] at h
  simpa using h
end
section
variable {P : Program} {w : World} {K : PySem.W.Frag} {mg : Str → Option Value} {base : Heap} (T : Txt K mg)
section
variable {T} {σ : L2.St} {H : Hp} {te tx : TE} {p dx sp : Addr} {v1 v2 : V} {S : Sys}
theorem ev_dSys (h : Ev te σ H (.ref p)) (hp : H p = some (.ins T.cDesk.C dx (dkF (.ref sp) v2))) : Ev (tFld K te "system") σ H (.ref sp) := ev_fld h hp T.cDesk.cl T.nDesk_system (lk_dSys _ _)
theorem evp_smeth {m : Str} {spX : Sp} {E : XK} {targs : TA} {vs : List V} {P : V → Hp → Prop} (h : Ev te σ H (.ref sp)) (hS : SysAt T.cSystem.C H sp S) (ha : EvA targs σ H vs) (hs : SpP spX (.ref sp :: vs) H P) (h1 : (m == ("colours" : Str)) = false := by decide +kernel) (h2 : (m == ("arcs" : Str)) = false := by decide +kernel) : EvP (tMeth T.cSystem.C m spX [] E te targs) σ H P := by
  obtain ⟨d, c, a, s1, _⟩ := hS
  exact evp_meth h s1 (sysF_none _ _ _ h1 h2) ha hs
theorem ev_inArcs {q : Addr} {kk a t : Nat} (h : Ev te σ H (.ref p)) (hp : H p = some (.ins T.cDesk.C dx (dkF (.ref sp) v2))) (hS : SysAt T.cSystem.C H sp S) (hx : Ev tx σ H (.ref q)) (hq : H q = some (.lst (vN [kk, a, t]))) :
    Ev (tOp (rInD K) (tCB (fun xs H Q => ∃ p ys, xs = [.ref p] ∧ ((SqL K H p ys ∧ ∀ l, H l = none → Q (.ref l) (upd H l (.tup ys))) ∨ (SqT K H p ys ∧ Q (.ref p) H))) (tCons tx tNil)) (tFld K (tFld K te "system") "arcs")) σ H (.bl (S.arcs.contains (kk, a, t))) ∧
    Ev (tOp (rNotInD K) (tCB (fun xs H Q => ∃ p ys, xs = [.ref p] ∧ ((SqL K H p ys ∧ ∀ l, H l = none → Q (.ref l) (upd H l (.tup ys))) ∨ (SqT K H p ys ∧ Q (.ref p) H))) (tCons tx tNil)) (tFld K (tFld K te "system") "arcs")) σ H (.bl (!S.arcs.contains (kk, a, t))) := by
  obtain ⟨d, c, ar, s1, s2, s3⟩ := hS
  have eq : ((dTs (S.arcs.map arcI)).any fun z => PyData.eqv z (dT (arcI (kk, a, t)))) = S.arcs.contains (kk, a, t) := by
    rw [any_T]
    by_cases c : (kk, a, t) ∈ S.arcs
    · rw [decide_eq_true (List.mem_map_of_mem c), List.contains_iff_mem.mpr c]
    · have n : arcI (kk, a, t) ∉ S.arcs.map arcI := fun z => by
        obtain ⟨y, h1, h2⟩ := List.mem_map.mp z
        rw [arcI_inj h2] at h1
        exact c h1
      rw [decide_eq_false n]
      exact (Bool.eq_false_iff.mpr fun z => c (List.contains_iff_mem.mp z)).symm
  have tr : ∀ {H2 : Hp} {t2 : Addr}, H2 t2 = some (.tup (vN [kk, a, t])) → H2 t2 = some (.tup ((arcI (kk, a, t)).map V.int)) := fun h => h
  constructor
  · refine ev_opP (evp_tup1 hx hq) (ev_arc (ev_dSys h hp) s1) (fun x H1 e1 ⟨t2, ex, ht⟩ _ => ?_) fun x H1 H2 e ⟨t2, ex, ht⟩ => ⟨t2, ex, e _ _ ht⟩
    subst ex
    rw [← eq]
    exact fun H2 e2 Q k => ⟨_, _, dp_T (tr (e2 _ _ ht)), dp_LT (s3.mono (e1.trans e2)), shaped_T _, shaped_Ts _, k H2 (Ex.refl _)⟩
  · refine ev_opP (evp_tup1 hx hq) (ev_arc (ev_dSys h hp) s1) (fun x H1 e1 ⟨t2, ex, ht⟩ _ => ?_) fun x H1 H2 e ⟨t2, ex, ht⟩ => ⟨t2, ex, e _ _ ht⟩
    subst ex
    rw [← eq]
    exact fun H2 e2 Q k => ⟨_, _, dp_T (tr (e2 _ _ ht)), dp_LT (s3.mono (e1.trans e2)), shaped_T _, shaped_Ts _, k H2 (Ex.refl _)⟩
end

/-! #### init, paint -/
def spIni (CS CL CD CR : Addr) : Sp := fun vs H Q E => ∃ p dx st n, vs = [.ref p, .int (n : Nat)] ∧ DeskG CS CL CD H p dx st ∧ Outc CS CL CD CR p dx (Ln.step st (.init n)) H Q E
theorem ok_Desk_init : FnOk P w K mg base (L2.CX P w) 6 T.Desk_init.f T.Desk_init.fd ["self", "n"] (spIni T.cSystem.C T.cLevels.C T.cDesk.C T.xRefused.C) := by
  have G_want := ok_want (P := P) (w := w) (base := base) T
  have G_Desk_put := ok_Desk_put (P := P) (w := w) (base := base) T
  have G_empty_system := ok_empty_system (P := P) (w := w) (base := base) T
  refine T.Desk_init.F.okX sc_Desk_init (fun vs H Q E h => ?_) (fun cdv A outer s H vs Q E hr h => ⟨_, (pss_cons (ps_expr (pe_call G_want (hr.mono (by first | decide | omega)) (by rfl) T.want.g T.want.F.kp T.b_want .nil (L2.passes_call (L2.takes_of rfl rfl rfl rfl) (fun _ _ _ _ z => z)) (pa_cons (pe_chain op_le op_le pe_int (pv 1) (pe_K (by rfl) T.k_MOST_STATES)) (pa_cons (pe_K (by rfl) T.k_BAD) pa_nil)))) (pss_cons (ps_expr (pe_meth (pv 0) T.cDesk.cl T.Desk_put.m G_Desk_put (hr.mono (by first | decide | omega)) T.b_Desk_put .nil pass0 (pa_cons (pe_call G_empty_system (hr.mono (by first | decide | omega)) (by rfl) T.empty_system.g T.empty_system.F.kp T.b_empty_system .nil pass0 (pa_cons (pv 1) pa_nil)) pa_nil))) (pss_one (ps_ret (pe_lst (pa_cons pe_int pa_nil)))))), ?_⟩)
  · obtain ⟨p, dx, st, n, rfl, _⟩ := h
    rfl
  · obtain ⟨p, dx, st, n, rfl, g, o⟩ := h
    have st1 : Ln.step st (.init n) = if 1 ≤ n ∧ n ≤ 32 then (some ⟨List.replicate n 0, []⟩, Ln.says 0) else (st, Ln.says (-1)) := rfl
    refine q_want (b := decide (1 ≤ n ∧ n ≤ 32)) (ev_is (ev_chainB (g := fun i j => decide (i ≤ j)) (g' := fun i j => decide (i ≤ j)) rfl rfl ev_c (ev_var rfl) ev_c) ?_) (fun h H1 e1 => ?_) (fun h => o.bad g ?_)
    · congr 1
      rw [← Bool.decide_and]
      exact decide_eq_decide.mpr (by omega)
    · have hn := of_decide_eq_true h
      rw [st1, if_pos hn] at o
      refine q_put (ev_var rfl) (g.mono e1) (S' := ⟨List.replicate n 0, []⟩) (fun H2 e2 Q k => x_call (ea_cons (ev_var rfl) ea_nil) fun H3 e3 => ⟨n, rfl, hn.2, fun v H4 e4 q => k v H4 (e3.trans e4) q⟩) (wf_fresh hn) fun H2 b2 g2 => ?_
      exact ret_ans ev_c ((o.back ((But.ex e1).trans b2)).ret g2 rfl)
    · rw [st1, if_neg (of_decide_eq_false h)]
def spD2 (CS CL CD CR : Addr) (c : Nat → Nat → Ln.Call) : Sp := fun vs H Q E => ∃ p dx S s t, vs = [.ref p, .int (s : Nat), .int (t : Nat)] ∧ DeskG CS CL CD H p dx (some S) ∧ Outc CS CL CD CR p dx (Ln.step (some S) (c s t)) H Q E
theorem ok_Desk_paint : FnOk P w K mg base (L2.CX P w) 6 T.Desk_paint.f T.Desk_paint.fd ["self", "state", "colour"] (spD2 T.cSystem.C T.cLevels.C T.cDesk.C T.xRefused.C .paint) := by
  have G_Desk_want_states := ok_Desk_want_states (P := P) (w := w) (base := base) T
  have G_want := ok_want (P := P) (w := w) (base := base) T
  have G_Desk_put := ok_Desk_put (P := P) (w := w) (base := base) T
  have G_System_painted := ok_System_painted (P := P) (w := w) (base := base) T
  refine T.Desk_paint.F.okX sc_Desk_paint (fun vs H Q E h => ?_) (fun cdv A outer s H vs Q E hr h => ⟨_, (pss_cons (ps_expr (pe_meth (pv 0) T.cDesk.cl T.Desk_want_states.m G_Desk_want_states (hr.mono (by first | decide | omega)) T.b_Desk_want_states .nil (L2.passes_call (L2.takes_of rfl rfl rfl rfl) (fun _ _ _ _ z => z)) (pa_cons (pe_lst (pa_cons (pv 1) pa_nil)) pa_nil))) (pss_cons (ps_expr (pe_call G_want (hr.mono (by first | decide | omega)) (by rfl) T.want.g T.want.F.kp T.b_want .nil (L2.passes_call (L2.takes_of rfl rfl rfl rfl) (fun _ _ _ _ z => z)) (pa_cons (pe_chain op_le op_le pe_int (pv 2) (pe_K (by rfl) T.k_MOST_COLOUR_states)) (pa_cons (pe_K (by rfl) T.k_BAD) pa_nil)))) (pss_cons (ps_expr (pe_meth (pv 0) T.cDesk.cl T.Desk_put.m G_Desk_put (hr.mono (by first | decide | omega)) T.b_Desk_put .nil pass0 (pa_cons (pe_meth (pe_fld (pv 0) (by rfl)) T.cSystem.cl T.System_painted.m G_System_painted (hr.mono (by first | decide | omega)) T.b_System_painted .nil pass0 (pa_cons (pv 1) (pa_cons (pv 2) pa_nil))) pa_nil))) (pss_one (ps_ret (pe_lst (pa_cons pe_int pa_nil))))))), ?_⟩)
  · obtain ⟨p, dx, S, s, t, rfl, _⟩ := h
    rfl
  · obtain ⟨p, dx, S, s, t, rfl, g, o⟩ := h
    have st1 : Ln.step (some S) (.paint s t) = if s < S.states ∧ t < 256 then (some { S with colours := S.colours.set s t }, Ln.says 0) else (some S, Ln.says (-1)) := rfl
    refine q_states (l := [s]) (ev_var rfl) g (el_lst (vs := vN [s]) (ea_cons (ev_var rfl) ea_nil) (by show 1 ≤ _; decide)) (by show 1 ≤ _; decide) (fun ok H1 e1 => ?_) fun no => o.bad g ?_
    · have hs : s < S.states := ok s (by simp)
      refine q_want (b := decide (t < 256)) (ev_is (ev_chainB (g := fun i j => decide (i ≤ j)) (g' := fun i j => decide (i ≤ j)) rfl rfl ev_c (ev_var rfl) ev_c) ?_) (fun h H2 e2 => ?_) (fun h => (o.back (But.ex e1)).bad (g.mono e1) ?_)
      · congr 1
        rw [← Bool.decide_and]
        exact decide_eq_decide.mpr (by omega)
      · have hn := of_decide_eq_true h
        rw [st1, if_pos ⟨hs, hn⟩] at o
        have e12 := e1.trans e2
        obtain ⟨v1, v2, hp, W, ⟨sp, rfl, hS⟩, _⟩ := g.mono e12
        refine q_put (ev_var rfl) (g.mono e12) (S' := { S with colours := S.colours.set s t }) (evp_smeth (T := T) (ev_dSys (T := T) (ev_var rfl) hp) hS (ea_cons (ev_var rfl) (ea_cons (ev_var rfl) ea_nil)) fun H3 e3 Q E k => ⟨sp, S, s, t, rfl, hS.mono e3, hs, by have := W.most; omega, k⟩) (wf_paint W hn) fun H3 b3 g3 => ?_
        exact ret_ans ev_c ((o.back ((But.ex e12).trans b3)).ret g3 rfl)
      · rw [st1, if_neg (fun z => of_decide_eq_false h z.2)]
    · rw [st1, if_neg (fun z => no fun x hx => by rw [List.mem_singleton.mp hx]; exact z.1)]

/-! #### arc, cut, has -/
def spD3 (CS CL CD CR : Addr) (c : Nat → Nat → Nat → Ln.Call) : Sp := fun vs H Q E => ∃ p dx S q s a t, vs = [.ref p, .ref q] ∧ H q = some (.lst (vN [s, a, t])) ∧ DeskG CS CL CD H p dx (some S) ∧ Outc CS CL CD CR p dx (Ln.step (some S) (c s a t)) H Q E
theorem ok_Desk_arc : FnOk P w K mg base (L2.CX P w) 7 T.Desk_arc.f T.Desk_arc.fd ["self", "n"] (spD3 T.cSystem.C T.cLevels.C T.cDesk.C T.xRefused.C .arc) := by
  have G_Desk_want_arc := ok_Desk_want_arc (P := P) (w := w) (base := base) T
  have G_want := ok_want (P := P) (w := w) (base := base) T
  have G_Desk_put := ok_Desk_put (P := P) (w := w) (base := base) T
  have G_System_with_arc := ok_System_with_arc (P := P) (w := w) (base := base) T
  refine T.Desk_arc.F.okX sc_Desk_arc (fun vs H Q E h => ?_) (fun cdv A outer s H vs Q E hr h => ⟨_, (pss_cons (ps_expr (pe_meth (pv 0) T.cDesk.cl T.Desk_want_arc.m G_Desk_want_arc (hr.mono (by first | decide | omega)) T.b_Desk_want_arc .nil (L2.passes_call (L2.takes_of rfl rfl rfl rfl) (fun _ _ _ _ z => z)) (pa_cons (pv 1) pa_nil))) (pss_cons (ps_if (pt_cmpR (op_inD (units65 hr)) (pe_callTy call_tuple_of (by rfl) T.g_tuple (by decide +kernel) (pa_cons (pv 1) pa_nil)) (pe_fld (pe_fld (pv 0) (by rfl)) (by rfl)) (by rfl)) (pss_one (ps_ret (pe_lst (pa_cons pe_int pa_nil)))) pss_nil) (pss_cons (ps_expr (pe_call G_want (hr.mono (by first | decide | omega)) (by rfl) T.want.g T.want.F.kp T.b_want .nil (L2.passes_call (L2.takes_of rfl rfl rfl rfl) (fun _ _ _ _ z => z)) (pa_cons (pe_cmpR op_lt (pe_callB call_len_seq (by rfl) T.g_len (by decide +kernel) (pa_cons (pe_fld (pe_fld (pv 0) (by rfl)) (by rfl)) pa_nil)) (pe_K (by rfl) T.k_MOST_ARCS) (nomark _)) (pa_cons (pe_K (by rfl) T.k_REFUSED) pa_nil)))) (pss_cons (ps_expr (pe_meth (pv 0) T.cDesk.cl T.Desk_put.m G_Desk_put (hr.mono (by first | decide | omega)) T.b_Desk_put .nil pass0 (pa_cons (pe_meth (pe_fld (pv 0) (by rfl)) T.cSystem.cl T.System_with_arc.m G_System_with_arc (hr.mono (by first | decide | omega)) T.b_System_with_arc .nil pass0 (pa_cons (pe_callTy call_tuple_of (by rfl) T.g_tuple (by decide +kernel) (pa_cons (pv 1) pa_nil)) pa_nil)) pa_nil))) (pss_one (ps_ret (pe_lst (pa_cons pe_int pa_nil)))))))), ?_⟩)
  · obtain ⟨p, dx, S, q, s, a, t, rfl, _⟩ := h
    rfl
  · obtain ⟨p, dx, S, q, s, a, t, rfl, hq, g, o⟩ := h
    have st1 : Ln.step (some S) (.arc s a t) = if Ln.isArc S s a t = false then (some S, Ln.says (-1)) else if S.arcs.contains (s, a, t) = true then (some S, Ln.says 1) else if 256 ≤ S.arcs.length then (some S, Ln.says (-2)) else (some { S with arcs := Ln.putArc (s, a, t) S.arcs }, Ln.says 0) := rfl
    refine q_arc (ev_var rfl) g (ev_var rfl) hq (fun ok H1 e1 => ?_) fun no => o.bad g ?_
    · rw [st1, if_neg (by rw [ok]; decide)] at o
      obtain ⟨hs, ha, ht⟩ := arc_isA ok
      obtain ⟨v1, v2, hp, W, ⟨sp, rfl, hS⟩, _⟩ := g.mono e1
      refine q_when (et_test (ev_inArcs (T := T) (ev_var rfl) hp hS (ev_var rfl) (e1 _ _ hq)).1) (fun h H2 e2 => ?_) fun h H2 e2 => ?_
      · rw [if_pos h] at o
        exact ret_ans ev_c ((o.back (But.ex (e1.trans e2))).ret (g.mono (e1.trans e2)) rfl)
      · rw [if_neg (by rw [h]; decide)] at o
        have e12 := e1.trans e2
        obtain ⟨v1', v2', hp, W, ⟨sp', rfl, hS⟩, _⟩ := g.mono e12
        obtain ⟨d, c, ar, s1, s2, s3⟩ := id hS
        obtain ⟨ks, s4, s5, s6⟩ := id s3
        have lk : ks.length = S.arcs.length := by
          have := congrArg List.length s5
          simpa using this
        refine q_want (b := decide (S.arcs.length < 256)) (ev_is (ev_op (ev_len (K := K) (ev_arc (T := T) (ev_dSys (T := T) (ev_var rfl) hp) s1) (sq_of s4)) ev_c rv_I0) ?_) (fun h3 H3 e3 => ?_) (fun h3 => (o.back (But.ex e12)).bad (g.mono e12) ?_)
        · congr 1
          rw [List.length_map, lk]
          exact decide_eq_decide.mpr (by omega)
        · have hn := of_decide_eq_true h3
          rw [if_neg (by omega)] at o
          have e13 := e12.trans e3
          have hS3 := hS.mono e3
          refine q_put (ev_var rfl) (g.mono e13) (S' := { S with arcs := Ln.putArc (s, a, t) S.arcs }) (fun H4 e4 Q k => ?_) (wf_put W hs ha ht hn) fun H4 b4 g4 => ?_
          · refine ev_dSys (T := T) (ev_var rfl) (e3 _ _ hp) H4 e4 _ fun H5 e5 => ⟨sp', d, _, rfl, e5 _ _ (e4 _ _ (e3 _ _ s1)), sysF_none _ _ _, ?_⟩
            refine evp_tup1 (ev_var rfl) (e5 _ _ (e4 _ _ (e13 _ _ hq))) H5 (Ex.refl _) _ fun v H6 e6 ⟨t2, ev, ht2⟩ => ?_
            subst ev
            exact ⟨sp', t2, S, (s, a, t), rfl, (((hS3.mono e4).mono e5).mono e6), W, ht2, (fun z => absurd h (by rw [List.contains_iff_mem.mpr z]; decide)), fun v H7 e7 q => k v H7 ((e5.trans e6).trans e7) q⟩
          · exact ret_ans ev_c ((o.back ((But.ex e13).trans b4)).ret g4 rfl)
        · rw [if_pos (by have := of_decide_eq_false h3; omega)]
    · rw [st1, if_pos no]
theorem ok_Desk_cut : FnOk P w K mg base (L2.CX P w) 7 T.Desk_cut.f T.Desk_cut.fd ["self", "n"] (spD3 T.cSystem.C T.cLevels.C T.cDesk.C T.xRefused.C .cut) := by
  have G_Desk_want_arc := ok_Desk_want_arc (P := P) (w := w) (base := base) T
  have G_Desk_put := ok_Desk_put (P := P) (w := w) (base := base) T
  have G_System_without_arc := ok_System_without_arc (P := P) (w := w) (base := base) T
  refine T.Desk_cut.F.okX sc_Desk_cut (fun vs H Q E h => ?_) (fun cdv A outer s H vs Q E hr h => ⟨_, (pss_cons (ps_expr (pe_meth (pv 0) T.cDesk.cl T.Desk_want_arc.m G_Desk_want_arc (hr.mono (by first | decide | omega)) T.b_Desk_want_arc .nil (L2.passes_call (L2.takes_of rfl rfl rfl rfl) (fun _ _ _ _ z => z)) (pa_cons (pv 1) pa_nil))) (pss_cons (ps_if (pt_cmpR (op_notInD (units65 hr)) (pe_callTy call_tuple_of (by rfl) T.g_tuple (by decide +kernel) (pa_cons (pv 1) pa_nil)) (pe_fld (pe_fld (pv 0) (by rfl)) (by rfl)) (by rfl)) (pss_one (ps_ret (pe_lst (pa_cons pe_int pa_nil)))) pss_nil) (pss_cons (ps_expr (pe_meth (pv 0) T.cDesk.cl T.Desk_put.m G_Desk_put (hr.mono (by first | decide | omega)) T.b_Desk_put .nil pass0 (pa_cons (pe_meth (pe_fld (pv 0) (by rfl)) T.cSystem.cl T.System_without_arc.m G_System_without_arc (hr.mono (by first | decide | omega)) T.b_System_without_arc .nil pass0 (pa_cons (pe_callTy call_tuple_of (by rfl) T.g_tuple (by decide +kernel) (pa_cons (pv 1) pa_nil)) pa_nil)) pa_nil))) (pss_one (ps_ret (pe_lst (pa_cons pe_int pa_nil))))))), ?_⟩)
  · obtain ⟨p, dx, S, q, s, a, t, rfl, _⟩ := h
    rfl
  · obtain ⟨p, dx, S, q, s, a, t, rfl, hq, g, o⟩ := h
    have st1 : Ln.step (some S) (.cut s a t) = if Ln.isArc S s a t = false then (some S, Ln.says (-1)) else if S.arcs.contains (s, a, t) = true then (some { S with arcs := S.arcs.filter fun (x : Arc) => x != (s, a, t) }, Ln.says 1) else (some S, Ln.says 0) := rfl
    refine q_arc (ev_var rfl) g (ev_var rfl) hq (fun ok H1 e1 => ?_) fun no => o.bad g ?_
    · rw [st1, if_neg (by rw [ok]; decide)] at o
      obtain ⟨v1, v2, hp, W, ⟨sp, rfl, hS⟩, _⟩ := g.mono e1
      refine q_when (et_test (ev_inArcs (T := T) (ev_var rfl) hp hS (ev_var rfl) (e1 _ _ hq)).2) (fun h H2 e2 => ?_) fun h H2 e2 => ?_
      · rw [if_neg (by simpa using h)] at o
        exact ret_ans ev_c ((o.back (But.ex (e1.trans e2))).ret (g.mono (e1.trans e2)) rfl)
      · rw [if_pos (by simpa using h)] at o
        have e12 := e1.trans e2
        have hS2 := hS.mono e2
        obtain ⟨d, c, ar, s1, s2, s3⟩ := id hS2
        refine q_put (ev_var rfl) (g.mono e12) (S' := { S with arcs := S.arcs.filter fun (x : Arc) => x != (s, a, t) }) (fun H4 e4 Q k => ?_) (wf_cut W _) fun H4 b4 g4 => ?_
        · refine ev_dSys (T := T) (ev_var rfl) (e2 _ _ hp) H4 e4 _ fun H5 e5 => ⟨sp, d, _, rfl, e5 _ _ (e4 _ _ s1), sysF_none _ _ _, ?_⟩
          refine evp_tup1 (ev_var rfl) (e5 _ _ (e4 _ _ (e12 _ _ hq))) H5 (Ex.refl _) _ fun v H6 e6 ⟨t2, ev, ht2⟩ => ?_
          subst ev
          exact ⟨sp, t2, S, (s, a, t), rfl, (((hS2.mono e4).mono e5).mono e6), W, ht2, fun v H7 e7 q => k v H7 ((e5.trans e6).trans e7) q⟩
        · exact ret_ans ev_c ((o.back ((But.ex e12).trans b4)).ret g4 rfl)
    · rw [st1, if_pos no]
theorem ok_Desk_has : FnOk P w K mg base (L2.CX P w) 7 T.Desk_has.f T.Desk_has.fd ["self", "n"] (spD3 T.cSystem.C T.cLevels.C T.cDesk.C T.xRefused.C .has) := by
  have G_Desk_want_arc := ok_Desk_want_arc (P := P) (w := w) (base := base) T
  refine T.Desk_has.F.okX sc_Desk_has (fun vs H Q E h => ?_) (fun cdv A outer s H vs Q E hr h => ⟨_, (pss_cons (ps_expr (pe_meth (pv 0) T.cDesk.cl T.Desk_want_arc.m G_Desk_want_arc (hr.mono (by first | decide | omega)) T.b_Desk_want_arc .nil (L2.passes_call (L2.takes_of rfl rfl rfl rfl) (fun _ _ _ _ z => z)) (pa_cons (pv 1) pa_nil))) (pss_one (ps_ret (pe_lst (pa_cons (pe_callTy call_int1 (by rfl) T.g_int (by decide +kernel) (pa_cons (pe_cmpR (op_inD (units65 hr)) (pe_callTy call_tuple_of (by rfl) T.g_tuple (by decide +kernel) (pa_cons (pv 1) pa_nil)) (pe_fld (pe_fld (pv 0) (by rfl)) (by rfl)) (by rfl)) pa_nil)) pa_nil))))), ?_⟩)
  · obtain ⟨p, dx, S, q, s, a, t, rfl, _⟩ := h
    rfl
  · obtain ⟨p, dx, S, q, s, a, t, rfl, hq, g, o⟩ := h
    have st1 : Ln.step (some S) (.has s a t) = (some S, if Ln.isArc S s a t = true then Ln.yes (S.arcs.contains (s, a, t)) else Ln.says (-1)) := rfl
    refine q_arc (ev_var rfl) g (ev_var rfl) hq (fun ok H1 e1 => ?_) fun no => o.bad g ?_
    · rw [st1, if_pos ok] at o
      obtain ⟨v1, v2, hp, W, ⟨sp, rfl, hS⟩, _⟩ := g.mono e1
      exact ret_ans (ev_int1 (ev_inArcs (T := T) (ev_var rfl) hp hS (ev_var rfl) (e1 _ _ hq)).1) ((o.back (But.ex e1)).ret (g.mono e1) rfl)
    · rw [st1, if_neg (by rw [no]; decide)]
end
end LkW
end

section
set_option Elab.async false
set_option linter.all false
set_option maxRecDepth 100000
set_option maxHeartbeats 2000000
/-! The desk's calls, one by one: likeness. -/
namespace LkW
open PySem PySem.Spec PyProof.Rows L2 Evl Lk
open Ln (Sys Arc Bytes Form)
section
variable {CS CL CD CR p dx lv : Addr} {H H1 H2 : Hp} {Q : VK} {E : XK} {σ : L2.St} {te : TE} {S : Sys} {s t m : Nat}
theorem ev_same (h : Ev te σ H (.ref lv)) (hL : LevAt CS CL H lv S m) (W : Wf S) (hs : s < S.states) (ht : t < S.states) {targs : TA} (ha : EvA targs σ H [.int (s : Int), .int (t : Int)]) : Ev (tMeth CL "are_same" (spSame CS CL) [] E0 te targs) σ H (.bl (S.depth s t).isNone) := by
  obtain ⟨hm, hst, d, sp, ra, rs, h1, h2, h3, h4⟩ := id hL
  exact ev_meth h h1 (levF_none _ _ _) ha (sp_same hL W hs ht)
theorem ev_dep {d : Nat} (h : Ev te σ H (.ref lv)) (hL : LevAt CS CL H lv S m) (W : Wf S) (hs : s < S.states) (ht : t < S.states) (hd : S.depth s t = some d) {targs : TA} (ha : EvA targs σ H [.int (s : Int), .int (t : Int)]) : Ev (tMeth CL "depth" (spDepth CS CL) [] E0 te targs) σ H (.int (d : Int)) := by
  obtain ⟨hm, hst, dx, sp, ra, rs, h1, h2, h3, h4⟩ := id hL
  exact ev_meth h h1 (levF_none _ _ _) ha (sp_depth hL W hs ht hd)
end
section
variable {P : Program} {w : World} {K : PySem.W.Frag} {mg : Str → Option Value} {base : Heap} (T : Txt K mg)
/-! #### look, number, count -/
def spD1 (CS CL CD CR : Addr) (c : Nat → Ln.Call) : Sp := fun vs H Q E => ∃ p dx S s, vs = [.ref p, .int (s : Nat)] ∧ DeskG CS CL CD H p dx (some S) ∧ Outc CS CL CD CR p dx (Ln.step (some S) (c s)) H Q E
theorem ok_Desk_look : FnOk P w K mg base (L2.CX P w) 7 T.Desk_look.f T.Desk_look.fd ["self", "state"] (spD1 T.cSystem.C T.cLevels.C T.cDesk.C T.xRefused.C .look) := by
  have G_Desk_want_states := ok_Desk_want_states (P := P) (w := w) (base := base) T
  refine T.Desk_look.F.okX sc_Desk_look (fun vs H Q E h => ?_) (fun cdv A outer s H vs Q E hr h => ⟨_, (pss_cons (ps_expr (pe_meth (pv 0) T.cDesk.cl T.Desk_want_states.m G_Desk_want_states (hr.mono (by first | decide | omega)) T.b_Desk_want_states .nil (L2.passes_call (L2.takes_of rfl rfl rfl rfl) (fun _ _ _ _ z => z)) (pa_cons (pe_lst (pa_cons (pv 1) pa_nil)) pa_nil))) (pss_one (ps_ret (pe_lst (pa_cons (pe_ix ix_list (pe_fld (pe_fld (pv 0) (by rfl)) (by rfl)) (pv 1) (fun _ _ => rfl)) pa_nil))))), ?_⟩)
  · obtain ⟨p, dx, S, s, rfl, _⟩ := h
    rfl
  · obtain ⟨p, dx, S, s, rfl, g, o⟩ := h
    have st1 : Ln.step (some S) (.look s) = (some S, if s < S.states then Ln.says (S.colours.getD s 0 : Int) else Ln.says (-1)) := rfl
    refine q_states (l := [s]) (ev_var rfl) g (el_lst (vs := vN [s]) (ea_cons (ev_var rfl) ea_nil) (by show 1 ≤ _; decide)) (by show 1 ≤ _; decide) (fun ok H1 e1 => ?_) fun no => o.bad g ?_
    · have hs : s < S.states := ok s (by simp)
      rw [st1, if_pos hs] at o
      obtain ⟨v1, v2, hp, W, ⟨sp, rfl, hS⟩, _⟩ := g.mono e1
      obtain ⟨d, c, ar, s1, s2, s3⟩ := id hS
      exact ret_ans (ev_ixN (K := K) (ev_col (T := T) (ev_dSys (T := T) (ev_var rfl) hp) s1) (ev_var rfl) s2 hs) ((o.back (But.ex e1)).ret (g.mono e1) rfl)
    · rw [st1, if_neg (fun z => no fun x hx => by rw [List.mem_singleton.mp hx]; exact z)]
theorem ok_Desk_number : FnOk P w K mg base (L2.CX P w) 7 T.Desk_number.f T.Desk_number.fd ["self", "state"] (spD1 T.cSystem.C T.cLevels.C T.cDesk.C T.xRefused.C .number) := by
  have G_Desk_want_states := ok_Desk_want_states (P := P) (w := w) (base := base) T
  have G_Desk_known_levels := ok_Desk_known_levels (P := P) (w := w) (base := base) T
  have G_Levels_classes := ok_Levels_classes (P := P) (w := w) (base := base) T
  refine T.Desk_number.F.okX sc_Desk_number (fun vs H Q E h => ?_) (fun cdv A outer s H vs Q E hr h => ⟨_, (pss_cons (ps_expr (pe_meth (pv 0) T.cDesk.cl T.Desk_want_states.m G_Desk_want_states (hr.mono (by first | decide | omega)) T.b_Desk_want_states .nil (L2.passes_call (L2.takes_of rfl rfl rfl rfl) (fun _ _ _ _ z => z)) (pa_cons (pe_lst (pa_cons (pv 1) pa_nil)) pa_nil))) (pss_one (ps_ret (pe_lst (pa_cons (pe_ix ix_list (pe_meth0 (pe_meth0 (pv 0) T.cDesk.cl T.Desk_known_levels.m G_Desk_known_levels (hr.mono (by first | decide | omega)) T.b_Desk_known_levels .nil pass0) T.cLevels.cl T.Levels_classes.m G_Levels_classes (hr.mono (by first | decide | omega)) T.b_Levels_classes .nil pass0) (pv 1) (fun _ _ => rfl)) pa_nil))))), ?_⟩)
  · obtain ⟨p, dx, S, s, rfl, _⟩ := h
    rfl
  · obtain ⟨p, dx, S, s, rfl, g, o⟩ := h
    have st1 : Ln.step (some S) (.number s) = (some S, if s < S.states then Ln.says (S.classes.getD s 0 : Int) else Ln.says (-1)) := rfl
    refine q_states (l := [s]) (ev_var rfl) g (el_lst (vs := vN [s]) (ea_cons (ev_var rfl) ea_nil) (by show 1 ≤ _; decide)) (by show 1 ≤ _; decide) (fun ok H1 e1 => ?_) fun no => o.bad g ?_
    · have hs : s < S.states := ok s (by simp)
      rw [st1, if_pos hs] at o
      obtain ⟨v1, v2, hp, W, _⟩ := g.mono e1
      refine ret_x (x_lst1 (x_op1 (x_on (x_know (ev_var rfl) (g.mono e1) fun lv m H2 b2 g2 hL => ?_))))
      refine evp_cls (ev_c (v := .ref lv)) hL W H2 (Ex.refl _) _ fun v H3 e3 ⟨a, ev, ha⟩ => ?_
      subst ev
      refine ev_ixN (K := K) ev_c (ev_var rfl) ha (by rw [classes_length S W]; exact hs) H3 (Ex.refl _) _ fun H4 e4 => ?_
      have b4 : But p H H4 := ((But.ex e1).trans b2).trans (But.ex (e3.trans e4))
      exact x_ans ((o.back b4).ret ((g2.mono e3).mono e4) rfl)
    · rw [st1, if_neg (fun z => no fun x hx => by rw [List.mem_singleton.mp hx]; exact z)]

/-! #### same, unlike, depth -/
theorem two_ok {S : Sys} {s t : Nat} (ok : ∀ x ∈ [s, t], x < S.states) : s < S.states ∧ t < S.states := ⟨ok s (by simp), ok t (by simp)⟩
theorem two_no {S : Sys} {s t : Nat} (no : ¬ ∀ x ∈ [s, t], x < S.states) : ¬ (s < S.states ∧ t < S.states) := fun z => no fun x hx => by
  rcases List.mem_cons.mp hx with e | hx
  · rw [e]; exact z.1
  · rw [List.mem_singleton.mp hx]; exact z.2
theorem ok_Desk_same : FnOk P w K mg base (L2.CX P w) 7 T.Desk_same.f T.Desk_same.fd ["self", "one", "other"] (spD2 T.cSystem.C T.cLevels.C T.cDesk.C T.xRefused.C .same) := by
  have G_Desk_want_states := ok_Desk_want_states (P := P) (w := w) (base := base) T
  have G_Desk_known_levels := ok_Desk_known_levels (P := P) (w := w) (base := base) T
  have G_Levels_are_same := ok_Levels_are_same (P := P) (w := w) (base := base) T
  refine T.Desk_same.F.okX sc_Desk_same (fun vs H Q E h => ?_) (fun cdv A outer s H vs Q E hr h => ⟨_, (pss_cons (ps_expr (pe_meth (pv 0) T.cDesk.cl T.Desk_want_states.m G_Desk_want_states (hr.mono (by first | decide | omega)) T.b_Desk_want_states .nil (L2.passes_call (L2.takes_of rfl rfl rfl rfl) (fun _ _ _ _ z => z)) (pa_cons (pe_lst (pa_cons (pv 1) (pa_cons (pv 2) pa_nil))) pa_nil))) (pss_one (ps_ret (pe_lst (pa_cons (pe_callTy call_int1 (by rfl) T.g_int (by decide +kernel) (pa_cons (pe_meth (pe_meth0 (pv 0) T.cDesk.cl T.Desk_known_levels.m G_Desk_known_levels (hr.mono (by first | decide | omega)) T.b_Desk_known_levels .nil pass0) T.cLevels.cl T.Levels_are_same.m G_Levels_are_same (hr.mono (by first | decide | omega)) T.b_Levels_are_same .nil pass0 (pa_cons (pv 1) (pa_cons (pv 2) pa_nil))) pa_nil)) pa_nil))))), ?_⟩)
  · obtain ⟨p, dx, S, s, t, rfl, _⟩ := h
    rfl
  · obtain ⟨p, dx, S, s, t, rfl, g, o⟩ := h
    have st1 : Ln.step (some S) (.same s t) = (some S, if s < S.states ∧ t < S.states then Ln.yes (S.depth s t).isNone else Ln.says (-1)) := rfl
    refine q_states (l := [s, t]) (ev_var rfl) g (el_lst (vs := vN [s, t]) (ea_cons (ev_var rfl) (ea_cons (ev_var rfl) ea_nil)) (by show 2 ≤ _; decide)) (by show 2 ≤ _; decide) (fun ok H1 e1 => ?_) fun no => o.bad g ?_
    · obtain ⟨hs, ht⟩ := two_ok ok
      rw [st1, if_pos ⟨hs, ht⟩] at o
      obtain ⟨v1, v2, hp, W, _⟩ := g.mono e1
      refine ret_x (x_lst1 (x_cb1 (x_on (x_know (ev_var rfl) (g.mono e1) fun lv m H2 b2 g2 hL => ?_))))
      refine ev_same (ev_c (v := .ref lv)) hL W hs ht (ea_cons (ev_var rfl) (ea_cons (ev_var rfl) ea_nil)) H2 (Ex.refl _) _ fun H3 e3 => ?_
      refine ev_int1 (te := tC (.bl (S.depth s t).isNone)) (b := (S.depth s t).isNone) ev_c H3 (Ex.refl _) _ fun H4 e4 => ?_
      have b4 : But p H H4 := ((But.ex e1).trans b2).trans (But.ex (e3.trans e4))
      exact x_ans ((o.back b4).ret ((g2.mono e3).mono e4) rfl)
    · rw [st1, if_neg (two_no no)]
def spUnl (CS CL CD CR : Addr) : Sp := fun vs H Q E => ∃ p dx S s t, vs = [.ref p, .int (s : Nat), .int (t : Nat)] ∧ DeskG CS CL CD H p dx (some S) ∧
  (∀ d lv m H2, s < S.states → t < S.states → S.depth s t = some d → But p H H2 → DeskG CS CL CD H2 p dx (some S) → LevAt CS CL H2 lv S m → Q (.ref lv) H2) ∧
  (¬ (s < S.states ∧ t < S.states) → RsL CR "told" [-1] H E) ∧ (s < S.states → t < S.states → S.depth s t = none → RefD CS CL CD CR p dx (some S) [-2] H E)
theorem ok_Desk_unlike : FnOk P w K mg base (L2.CX P w) 7 T.Desk_unlike.f T.Desk_unlike.fd ["self", "one", "other"] (spUnl T.cSystem.C T.cLevels.C T.cDesk.C T.xRefused.C) := by
  have G_Desk_want_states := ok_Desk_want_states (P := P) (w := w) (base := base) T
  have G_Desk_known_levels := ok_Desk_known_levels (P := P) (w := w) (base := base) T
  have G_want := ok_want (P := P) (w := w) (base := base) T
  have G_Levels_are_same := ok_Levels_are_same (P := P) (w := w) (base := base) T
  refine T.Desk_unlike.F.okX sc_Desk_unlike (fun vs H Q E h => ?_) (fun cdv A outer s H vs Q E hr h => ⟨_, (pss_cons (ps_expr (pe_meth (pv 0) T.cDesk.cl T.Desk_want_states.m G_Desk_want_states (hr.mono (by first | decide | omega)) T.b_Desk_want_states .nil (L2.passes_call (L2.takes_of rfl rfl rfl rfl) (fun _ _ _ _ z => z)) (pa_cons (pe_lst (pa_cons (pv 1) (pa_cons (pv 2) pa_nil))) pa_nil))) (pss_cons (ps_set (i := 3) sc_Desk_unlike.nd rfl (Or.inl rfl) (pe_meth0 (pv 0) T.cDesk.cl T.Desk_known_levels.m G_Desk_known_levels (hr.mono (by first | decide | omega)) T.b_Desk_known_levels .nil pass0)) (pss_cons (ps_expr (pe_call G_want (hr.mono (by first | decide | omega)) (by rfl) T.want.g T.want.F.kp T.b_want .nil (L2.passes_call (L2.takes_of rfl rfl rfl rfl) (fun _ _ _ _ z => z)) (pa_cons (pe_not (pe_meth (pv 3) T.cLevels.cl T.Levels_are_same.m G_Levels_are_same (hr.mono (by first | decide | omega)) T.b_Levels_are_same .nil pass0 (pa_cons (pv 1) (pa_cons (pv 2) pa_nil)))) (pa_cons (pe_K (by rfl) T.k_REFUSED) pa_nil)))) (pss_one (ps_ret (pv 3)))))), ?_⟩)
  · obtain ⟨p, dx, S, s, t, rfl, _⟩ := h
    rfl
  · obtain ⟨p, dx, S, s, t, rfl, g, k1, k2, k3⟩ := h
    refine q_states (l := [s, t]) (ev_var rfl) g (el_lst (vs := vN [s, t]) (ea_cons (ev_var rfl) (ea_cons (ev_var rfl) ea_nil)) (by show 2 ≤ _; decide)) (by show 2 ≤ _; decide) (fun ok H1 e1 => ?_) fun no => k2 (two_no no)
    obtain ⟨hs, ht⟩ := two_ok ok
    obtain ⟨v1, v2, hp, W, _⟩ := g.mono e1
    refine qasg_x (x_know (ev_var rfl) (g.mono e1) fun lv m H2 b2 g2 hL => ?_)
    have b12 : But p H H2 := (But.ex e1).trans b2
    refine q_want (b := !(S.depth s t).isNone) (ev_notV (ev_same (ev_var rfl) hL W hs ht (ea_cons (ev_var rfl) (ea_cons (ev_var rfl) ea_nil)))) (fun h H3 e3 => ?_) fun h => ?_
    · cases hd : S.depth s t with
      | none => rw [hd] at h; cases h
      | some d => exact s_ret (ev_var rfl) fun H4 e4 => k1 d lv m H4 hs ht hd (b12.trans (But.ex (e3.trans e4))) ((g2.mono e3).mono e4) ((hL.mono e3).mono e4)
    · have hd : S.depth s t = none := by
        cases hd : S.depth s t with
        | none => rfl
        | some d => rw [hd] at h; cases h
      exact (k3 hs ht hd).go b12 g2
theorem ok_Desk_depth : FnOk P w K mg base (L2.CX P w) 8 T.Desk_depth.f T.Desk_depth.fd ["self", "one", "other"] (spD2 T.cSystem.C T.cLevels.C T.cDesk.C T.xRefused.C .depth) := by
  have G_Desk_unlike := ok_Desk_unlike (P := P) (w := w) (base := base) T
  have G_Levels_depth := ok_Levels_depth (P := P) (w := w) (base := base) T
  refine T.Desk_depth.F.okX sc_Desk_depth (fun vs H Q E h => ?_) (fun cdv A outer s H vs Q E hr h => ⟨_, (pss_one (ps_ret (pe_lst (pa_cons (pe_meth (pe_meth (pv 0) T.cDesk.cl T.Desk_unlike.m G_Desk_unlike (hr.mono (by first | decide | omega)) T.b_Desk_unlike .nil (L2.passes_call (L2.takes_of rfl rfl rfl rfl) (fun _ _ _ _ z => z)) (pa_cons (pv 1) (pa_cons (pv 2) pa_nil))) T.cLevels.cl T.Levels_depth.m G_Levels_depth (hr.mono (by first | decide | omega)) T.b_Levels_depth .nil pass0 (pa_cons (pv 1) (pa_cons (pv 2) pa_nil))) pa_nil)))), ?_⟩)
  · obtain ⟨p, dx, S, s, t, rfl, _⟩ := h
    rfl
  · obtain ⟨p, dx, S, s, t, rfl, g, o⟩ := h
    have st1 : Ln.step (some S) (.depth s t) = (some S, if s < S.states ∧ t < S.states then (match S.depth s t with | some k => Ln.says (k : Int) | none => Ln.says (-2)) else Ln.says (-1)) := rfl
    obtain ⟨v1, v2, hp, W, _⟩ := id g
    refine ret_x (x_lst1 (x_on (x_meth (ev_var rfl) hp (dkF_none _ _ _) (ea_cons (ev_var rfl) (ea_cons (ev_var rfl) ea_nil)) fun H1 e1 => ⟨p, dx, S, s, t, rfl, g.mono e1, fun d lv m H2 hs ht hd b2 g2 hL => ?_, fun no => (o.bad g ?_).mono e1, fun hs ht hd => ?_⟩)))
    · rw [st1, if_pos ⟨hs, ht⟩, hd] at o
      refine ev_dep (ev_c (v := .ref lv)) hL W hs ht hd (ea_cons (ev_var rfl) (ea_cons (ev_var rfl) ea_nil)) H2 (Ex.refl _) _ fun H3 e3 => ?_
      exact x_ans ((o.back (((But.ex e1).trans b2).trans (But.ex e3))).ret (g2.mono e3) rfl)
    · rw [st1, if_neg no]
    · rw [st1, if_pos ⟨hs, ht⟩, hd] at o
      have := o.2.back (But.ex e1)
      rw [ans_says] at this
      exact this

/-! #### check, quotient -/
def spChk (CS CL CD CR : Addr) : Sp := fun vs H Q E => ∃ p dx S q l, vs = [.ref p, .ref q] ∧ H q = some (.lst (vN l)) ∧ DeskG CS CL CD H p dx (some S) ∧ Outc CS CL CD CR p dx (Ln.step (some S) (.check l)) H Q E
theorem ok_Desk_check : FnOk P w K mg base (L2.CX P w) 7 T.Desk_check.f T.Desk_check.fd ["self", "row"] (spChk T.cSystem.C T.cLevels.C T.cDesk.C T.xRefused.C) := by
  have G_want := ok_want (P := P) (w := w) (base := base) T
  have G_System_many := ok_System_many (P := P) (w := w) (base := base) T
  have G_System_is_likeness := ok_System_is_likeness (P := P) (w := w) (base := base) T
  refine T.Desk_check.F.okX sc_Desk_check (fun vs H Q E h => ?_) (fun cdv A outer s H vs Q E hr h => ⟨_, (pss_cons (ps_expr (pe_call G_want (hr.mono (by first | decide | omega)) (by rfl) T.want.g T.want.F.kp T.b_want .nil (L2.passes_call (L2.takes_of rfl rfl rfl rfl) (fun _ _ _ _ z => z)) (pa_cons (pe_cmpR op_eq (pe_callB call_len_seq (by rfl) T.g_len (by decide +kernel) (pa_cons (pv 1) pa_nil)) (pe_meth0 (pe_fld (pv 0) (by rfl)) T.cSystem.cl T.System_many.m G_System_many (hr.mono (by first | decide | omega)) T.b_System_many .nil pass0) (nomark _)) (pa_cons (pe_K (by rfl) T.k_BAD) pa_nil)))) (pss_one (ps_ret (pe_lst (pa_cons (pe_callTy call_int1 (by rfl) T.g_int (by decide +kernel) (pa_cons (pe_meth (pe_fld (pv 0) (by rfl)) T.cSystem.cl T.System_is_likeness.m G_System_is_likeness (hr.mono (by first | decide | omega)) T.b_System_is_likeness .nil pass0 (pa_cons (pv 1) pa_nil)) pa_nil)) pa_nil))))), ?_⟩)
  · obtain ⟨p, dx, S, q, l, rfl, _⟩ := h
    rfl
  · obtain ⟨p, dx, S, q, l, rfl, hq, g, o⟩ := h
    have st1 : Ln.step (some S) (.check l) = (some S, if l.length ≠ S.states then Ln.says (-1) else Ln.yes (S.stable l)) := rfl
    obtain ⟨v1, v2, hp, W, ⟨sp, rfl, hS⟩, _⟩ := id g
    refine q_want (b := decide (l.length = S.states)) (ev_is (ev_op (ev_len (K := K) (ev_var rfl) (sq_of hq)) (evv (evp_smeth (T := T) (ev_dSys (T := T) (ev_var rfl) hp) hS ea_nil (sp_many hS))) (rv_eq rfl)) ?_) (fun h H1 e1 => ?_) fun h => o.bad g ?_
    · congr 1
      rw [vN_len]
      exact decide_eq_decide.mpr ⟨fun h => by injection h with h; omega, fun h => by rw [h]⟩
    · have hl := of_decide_eq_true h
      rw [st1, if_neg (by simp [hl])] at o
      exact ret_ans (ev_int1 (evv (evp_smeth (T := T) (ev_dSys (T := T) (ev_var rfl) (e1 _ _ hp)) (hS.mono e1) (ea_cons (ev_var rfl) ea_nil) fun H2 e2 Q E k => ⟨sp, q, S, l, rfl, (hS.mono e1).mono e2, W, e2 _ _ (e1 _ _ hq), hl, k⟩))) ((o.back (But.ex e1)).ret (g.mono e1) rfl)
    · rw [st1, if_pos (of_decide_eq_false h)]
def spQuo (CS CL CD : Addr) : Sp := fun vs H Q _ => ∃ p dx S, vs = [.ref p] ∧ DeskG CS CL CD H p dx (some S) ∧ RetD CS CL CD p dx (some S.quotient) (ansI (Ln.says (S.count : Int))) H Q
theorem ok_Desk_quotient : FnOk P w K mg base CX0 6 T.Desk_quotient.f T.Desk_quotient.fd ["self"] (spQuo T.cSystem.C T.cLevels.C T.cDesk.C) := by
  have G_Desk_put := ok_Desk_put (P := P) (w := w) (base := base) T
  have G_Desk_known_levels := ok_Desk_known_levels (P := P) (w := w) (base := base) T
  have G_Levels_quotient := ok_Levels_quotient (P := P) (w := w) (base := base) T
  have G_System_many := ok_System_many (P := P) (w := w) (base := base) T
  refine T.Desk_quotient.F.ok sc_Desk_quotient (fun vs H Q E h => ?_) (fun cdv A outer s H vs Q E hr h => ⟨_, (pss_cons (ps_expr (pe_meth (pv 0) T.cDesk.cl T.Desk_put.m G_Desk_put (hr.mono (by first | decide | omega)) T.b_Desk_put .nil pass0 (pa_cons (pe_meth0 (pe_meth0 (pv 0) T.cDesk.cl T.Desk_known_levels.m G_Desk_known_levels (hr.mono (by first | decide | omega)) T.b_Desk_known_levels .nil pass0) T.cLevels.cl T.Levels_quotient.m G_Levels_quotient (hr.mono (by first | decide | omega)) T.b_Levels_quotient .nil pass0) pa_nil))) (pss_one (ps_ret (pe_lst (pa_cons (pe_meth0 (pe_fld (pv 0) (by rfl)) T.cSystem.cl T.System_many.m G_System_many (hr.mono (by first | decide | omega)) T.b_System_many .nil pass0) pa_nil))))), ?_⟩)
  · obtain ⟨p, dx, S, rfl, _⟩ := h
    rfl
  · obtain ⟨p, dx, S, rfl, g, o0⟩ := h
    obtain ⟨v1, v2, hp, W, ⟨sp, rfl, hS⟩, _⟩ := id g
    have o : Outc T.cSystem.C T.cLevels.C T.cDesk.C T.xRefused.C p dx (some S.quotient, Ln.says (S.count : Int)) H Q (fun _ _ _ => True) := ⟨o0, fun _ _ _ _ _ _ _ => trivial⟩
    refine qdrop_x (ev_var (v := .ref p) rfl H (Ex.refl _) _ fun H1 e1 => ⟨p, dx, _, rfl, e1 _ _ hp, dkF_none _ _ _, ?_⟩)
    refine x_know (ev_var rfl) (g.mono e1) fun lv m H2 b2 g2 hL => ?_
    obtain ⟨hm, hst, d, sp', ra, rs, h1, _⟩ := id hL
    refine ⟨lv, d, _, rfl, h1, levF_none _ _ _, lv, S, m, rfl, hL, W, fun v H3 e3 ⟨sq, ev, hQ⟩ => ?_⟩
    subst ev
    refine ⟨p, dx, _, sq, S.quotient, rfl, g2.mono e3, hQ, wf_quotient S W, fun H4 b4 g4 => ?_⟩
    obtain ⟨v1, v2, hp4, W4, ⟨sp4, rfl, hS4⟩, _⟩ := id g4
    refine ret_ans (evv (evp_smeth (T := T) (ev_dSys (T := T) (ev_var rfl) hp4) hS4 ea_nil (sp_many hS4))) ?_
    rw [quot_states S W]
    exact (o.back ((((But.ex e1).trans b2).trans (But.ex e3)).trans b4)).ret g4 rfl
end
end LkW
end

section
set_option Elab.async false
set_option linter.all false
set_option maxRecDepth 100000
set_option maxHeartbeats 2000000
/-! The desk's calls, one by one: formulas. -/
namespace LkW
open PySem PySem.Spec PyProof.Rows L2 Evl Lk
open Ln (Sys Arc Bytes Form)
section
variable {σ : L2.St} {H : Hp} {te t1 t2 t3 : TE} {ta : TA} {x y z : V} {xs : List V} {sp : Sp} {Q : VK} {E : XK} {vs : List V} {D : Ends} {tz : TS}
theorem x_call2L (h1 : Ev t1 σ H x) (h2 : EvL t2 σ H xs) (h3 : Ev t3 σ H z) (hs : ∀ r H1, Ex H H1 → H1 r = some (.lst xs) → sp [x, .ref r, z] H1 Q E) : tCall sp [] E (tCons t1 (tCons t2 (tCons t3 tNil))) σ H Q :=
  h1 H (Ex.refl H) _ fun H1 e1 => h2 H1 e1 _ fun r H2 _ e2 hr => h3 H2 (e1.trans e2) _ fun H3 e3 => hs r H3 ((e1.trans e2).trans e3) (e3 _ _ hr)
theorem x_call3L (h1 : Ev t1 σ H x) (h2 : Ev t2 σ H y) (h3 : EvL t3 σ H xs) (hs : ∀ r H1, Ex H H1 → H1 r = some (.lst xs) → sp [x, y, .ref r] H1 Q E) : tCall sp [] E (tCons t1 (tCons t2 (tCons t3 tNil))) σ H Q :=
  h1 H (Ex.refl H) _ fun H1 e1 => h2 H1 e1 _ fun H2 e2 => h3 H2 (e1.trans e2) _ fun r H3 _ e3 hr => hs r H3 ((e1.trans e2).trans e3) hr
theorem x_callS {E : L2.St → XK} (ha : EvA ta σ H vs) (hs : ∀ H1, Ex H H1 → sp vs H1 Q (E σ)) : tCallS sp E ta σ H Q := ha H (Ex.refl H) _ fun H1 e1 => hs H1 e1
theorem x_callS2 {E : L2.St → XK} {ys : List V} (h1 : Ev t1 σ H x) (h2 : EvL t2 σ H xs) (h3 : EvL t3 σ H ys) (hs : ∀ r r2 H1, Ex H H1 → H1 r = some (.lst xs) → H1 r2 = some (.lst ys) → sp [x, .ref r, .ref r2] H1 Q (E σ)) : tCallS sp E (tCons t1 (tCons t2 (tCons t3 tNil))) σ H Q :=
  h1 H (Ex.refl H) _ fun H1 e1 => h2 H1 e1 _ fun r H2 _ e2 hr => h3 H2 (e1.trans e2) _ fun r2 H3 _ e3 hr2 => hs r r2 H3 ((e1.trans e2).trans e3) (e3 _ _ hr) hr2
theorem mk_xP {C : Addr} {f : Str} {l : List Int} {Q : XK} (h : EvP te σ H (Lst (l.map V.int))) (k : RsL C f l H Q) : tMkO C (spXInit C f) [] (tCons te tNil) σ H Q := by
  refine h H (Ex.refl H) _ fun v H1 e1 ⟨p, ev, hp⟩ => ?_
  subst ev
  refine ⟨by simp, fun a na => ⟨a, .ref p, rfl, upd_same, fun dx nx ne => ⟨rfl, dx, [(f, .ref p)], upd_same, ?_, ?_, ?_⟩⟩⟩
  · rw [upd_ne ne, upd_same]
  · rw [upd_ne ne] at nx
    exact nx
  · have nx1 : H1 dx = none := by
      rw [upd_ne ne] at nx
      exact nx
    have keep : ∀ b o, H1 b = some o → (upd (del (upd (upd (upd H1 a (exo a C none)) dx (exd dx [(f, .ref p)])) a (exo a C (some dx))) a) dx (.xd [(f, .ref p)])) b = some o := fun b o hb => by
      have b1 : b ≠ a := fun z => by rw [z, na] at hb; cases hb
      have b2 : b ≠ dx := fun z => by rw [z, nx1] at hb; cases hb
      rw [upd_ne b2, del_ne b1, upd_ne b1, upd_ne b2, upd_ne b1]
      exact hb
    exact k dx p _ (e1.trans keep) upd_same (keep _ _ hp)
theorem q_tryA {K : PySem.W.Frag} {te : WX → TE} {c : Value} {i j : Nat} {ts : Addr → Value → Option Addr → TS} {W : WX} (h : te (wAs K c i ts W { D with nx := tz D }) σ H fun v H1 => tz D (σ.set j (some v)) H1) : tSeq (fun D σ H => tAsg (te (wAs K c i ts W D)) (gName j) D σ H) tz D σ H := h
end
section
variable {P : Program} {w : World} {K : PySem.W.Frag} {mg : Str → Option Value} {base : Heap} (T : Txt K mg)
theorem ans_writes (b : Bytes) : ansI (Ln.writes b) = NLines.flat (b.length : Int) [] (b.map fun (x : UInt8) => (x.toNat : Int)) := rfl
theorem lev_dep {CS CL : Addr} {H : Hp} {lv : Addr} {S : Sys} {m d s t : Nat} (h : LevAt CS CL H lv S m) (W : Wf S) (hs : s < S.states) (ht : t < S.states) (hd : S.depth s t = some d) : d ≤ m := by
  obtain ⟨hm, hst, _⟩ := h
  refine Nat.le_of_not_lt fun z => ?_
  obtain ⟨k1, k2, k3⟩ := depth_part S W hd
  have := depth_none S W hm hst hs ht (k3 m z)
  rw [hd] at this
  cases this
/-! #### tell -/
theorem ok_Desk_tell : FnOk P w K mg base (L2.CX P w) 203 T.Desk_tell.f T.Desk_tell.fd ["self", "one", "other"] (spD2 T.cSystem.C T.cLevels.C T.cDesk.C T.xRefused.C .tell) := by
  have G_Teller_init0 := ok_Teller_init0 (P := P) (w := w) (base := base) T
  have G_Desk_unlike := ok_Desk_unlike (P := P) (w := w) (base := base) T
  have G_Teller_tell := ok_Teller_tell (P := P) (w := w) (base := base) T
  have G_want := ok_want (P := P) (w := w) (base := base) T
  have G_full := ok_full (P := P) (w := w) (base := base) T
  refine T.Desk_tell.F.okX sc_Desk_tell (fun vs H Q E h => ?_) (fun cdv A outer s H vs Q E hr h => ⟨_, (pss_cons (ps_set (i := 3) sc_Desk_tell.nd rfl (Or.inl rfl) (pe_make T.mk_Teller G_Teller_init0 (hr.mono (by first | decide | omega)) (by rfl) T.cTeller.g T.b_Teller_init0 .nil pass0 (pa_cons (pe_meth (pv 0) T.cDesk.cl T.Desk_unlike.m G_Desk_unlike (hr.mono (by first | decide | omega)) T.b_Desk_unlike .nil (L2.passes_call (L2.takes_of rfl rfl rfl rfl) (fun _ _ _ _ z => z)) (pa_cons (pv 1) (pa_cons (pv 2) pa_nil))) pa_nil))) (pss_cons (ps_set (i := 4) sc_Desk_tell.nd rfl (Or.inl rfl) (pe_meth (pv 3) T.cTeller.cl T.Teller_tell.m G_Teller_tell (hr.mono (by first | decide | omega)) T.b_Teller_tell .nil pass0 (pa_cons (pv 1) (pa_cons (pv 2) pa_nil)))) (pss_cons (ps_expr (pe_call G_want (hr.mono (by first | decide | omega)) (by rfl) T.want.g T.want.F.kp T.b_want .nil (L2.passes_call (L2.takes_of rfl rfl rfl rfl) (fun _ _ _ _ z => z)) (pa_cons (pe_cmpR op_notN (pv 4) pe_non (nomark _)) (pa_cons (pe_K (by rfl) T.k_TOO_LONG) pa_nil)))) (pss_one (ps_ret (pe_call G_full (hr.mono (by first | decide | omega)) (by rfl) T.full.g T.full.F.kp T.b_full .nil pass0 (pa_cons (pe_callB call_len_seq (by rfl) T.g_len (by decide +kernel) (pa_cons (pv 4) pa_nil)) (pa_cons (pe_lst pa_nil) (pa_cons (pv 4) pa_nil))))))))), ?_⟩)
  · obtain ⟨p, dx, S, s, t, rfl, _⟩ := h
    rfl
  · obtain ⟨p, dx, S, s, t, rfl, g, o⟩ := h
    have st1 : Ln.step (some S) (.tell s t) = (some S, if s < S.states ∧ t < S.states then (match S.depth s t with | none => Ln.says (-2) | some k => match Ln.tell S k s t with | some f => Ln.writes f.text | none => Ln.says (-7)) else Ln.says (-1)) := rfl
    obtain ⟨v1, v2, hp, W, _⟩ := id g
    refine qasg_x (x_meth (ev_var rfl) hp (dkF_none _ _ _) (ea_cons (ev_var rfl) (ea_cons (ev_var rfl) ea_nil)) fun H1 e1 => ⟨p, dx, S, s, t, rfl, g.mono e1, fun d lv m H2 hs ht hd b2 g2 hL => ?_, fun no => (o.bad g ?_).mono e1, fun hs ht hd => ?_⟩)
    · have b12 : But p H H2 := (But.ex e1).trans b2
      obtain ⟨hd1, hd2, hd3⟩ := depth_part S W hd
      have most := W.most
      rw [st1, if_pos ⟨hs, ht⟩, hd] at o
      change Outc _ _ _ _ p dx (some S, match Ln.tell S d s t with | some f => Ln.writes f.text | none => Ln.says (-7)) H Q E at o
      obtain ⟨hm, hst, dl, sp, ra, rs, l1, l2, l3⟩ := id hL
      refine fun x dx' nx nd ne => ⟨x, dx', lv, sp, dl, .ref ra, rfl, upd_same, ?_, fun H3 td h1 h2 h3 h4 => ⟨rfl, ?_⟩⟩
      · rw [upd_ne (fun z => by rw [z, nx] at l1; cases l1), upd_ne (fun z => by rw [z, nd] at l1; cases l1)]
        exact l1
      have nt : H2 td = none := by
        have wx : td ≠ x := fun z => by
          rw [z, upd_same] at h2
          cases h2
        have wd : td ≠ dx' := fun z => by
          rw [z, upd_ne ne, upd_same] at h2
          cases h2
        rw [upd_ne wx, upd_ne wd] at h2
        exact h2
      have e3 : Ex H2 H3 := Same.made nx nd h4
      have gt : TelG T.cSystem.C T.cLevels.C T.cTeller.C ⟨H2, dx', lv, sp, td, x, S, m⟩ H3 := ⟨e3, nx, nt, hL, l2, W, h1, ⟨[], h3, ⟨List.nodup_nil, fun p hp => by cases hp⟩⟩⟩
      refine qasg_x (x_meth (p := x) (ev_var rfl) h1 (telF_none _ _ _ _) (ea_cons (ev_var rfl) (ea_cons (ev_var rfl) ea_nil)) fun H4 e4 => ⟨⟨H2, dx', lv, sp, td, x, S, m⟩, s, t, d, rfl, gt.mono e4, hs, ht, hd, by (show rk S s t < 66; have := rk_le hd; omega), fun v H5 g5 b5 tv => ?_⟩)
      have e5 : Ex H2 H5 := g5.ex
      have b5 : But p H H5 := b12.trans (But.ex e5)
      have tl : Ln.tell S d s t = if (tf S s t).text.length ≤ 500 then some (tf S s t) else none := tell_eq S W hd1 hs ht hd
      rcases tv with ⟨len, a, rfl, ha⟩ | ⟨len, rfl⟩
      · replace len : (tf S s t).text.length ≤ 500 := len
        rw [if_pos len] at tl
        rw [tl] at o
        refine q_want (b := true) (ev_op (ev_var rfl) ev_c fun H6 e6 Q k => ⟨rfl, k H6 (Ex.refl _)⟩) (fun _ H6 e6 => ?_) fun z => nomatch z
        have ha6 := e6 _ _ ha
        refine ret_x (x_call2L (ev_len (K := K) (ev_var rfl) (sq_of ha6)) (el_lst (vs := []) ea_nil (by show 0 ≤ _; decide)) (ev_var rfl) fun r H7 e7 hr7 => ⟨((bV (tf S s t).text).length : Int), r, a, [], (tf S s t).text.map fun (x : UInt8) => (x.toNat : Int), rfl, hr7, by rw [e7 _ _ ha6, bV_int], by simp, by rw [List.length_map]; omega, fun v H8 e8 q => ?_⟩)
        refine o.1 v H8 (b5.trans (But.ex ((e6.trans e7).trans e8))) ((((g2.mono e5).mono e6).mono e7).mono e8) ?_
        rw [bV_len] at q
        exact q
      · replace len : 500 < (tf S s t).text.length := len
        rw [if_neg (by omega)] at tl
        rw [tl] at o
        refine q_want (b := false) (ev_op (ev_var rfl) ev_c fun H6 e6 Q k => ⟨rfl, k H6 (Ex.refl _)⟩) (fun z => nomatch z) fun _ => ?_
        exact (o.back b5).bad (g2.mono e5) rfl
    · rw [st1, if_neg no]
    · rw [st1, if_pos ⟨hs, ht⟩, hd] at o
      have := o.2.back (But.ex e1)
      rw [ans_says] at this
      exact this

/-! #### where -/
theorem in_nums {n s : Nat} {p : Nat → Bool} (hs : s < n) : inV (.int (s : Int)) (vN ((List.range n).filter p)) = p s := by
  unfold inV vN
  rw [List.any_map, List.any_filter]
  cases hp : p s with
  | true => exact List.any_eq_true.mpr ⟨s, List.mem_range.mpr hs, by simp [hp, eqV]⟩
  | false =>
    refine Bool.eq_false_iff.mpr fun z => ?_
    obtain ⟨x, _, h⟩ := List.any_eq_true.mp z
    simp [eqV] at h
    obtain ⟨h1, h2⟩ := h
    have : x = s := by omega
    rw [this, hp] at h1
    cases h1
theorem ans_tells (z : Int) (l : List Nat) : ansI (Ln.tells z l) = NLines.flat z (l.map fun (n : Nat) => (n : Int)) [] := rfl
def spWhr (CS CL CD CR : Addr) : Sp := fun vs H Q E => ∃ p dx S q t, vs = [.ref p, .ref q] ∧ H q = some (.lst (bV t)) ∧ DeskG CS CL CD H p dx (some S) ∧ (10000 < t.length → RsL CR "told" [-2] H E) ∧
  (t.length ≤ 10000 → match Ln.readForm t with
    | .error e => RsL CR "told" (ansI (Ln.tells (-3) [e])) H E
    | .ok f => Gives H Q (Lst (vN ((List.range S.states).filter fun s => f.holds S s))))
theorem ok_Desk_where : FnOk P w K mg base (L2.CX P w) 9 T.Desk_where.f T.Desk_where.fd ["self", "text"] (spWhr T.cSystem.C T.cLevels.C T.cDesk.C T.xRefused.C) := by
  have G_want := ok_want (P := P) (w := w) (base := base) T
  have G_where_holds := ok_where_holds (P := P) (w := w) (base := base) T
  have G_System_many := ok_System_many (P := P) (w := w) (base := base) T
  refine T.Desk_where.F.okX sc_Desk_where (fun vs H Q E h => ?_) (fun cdv A outer s H vs Q E hr h => ⟨_, (pss_cons (ps_expr (pe_call G_want (hr.mono (by first | decide | omega)) (by rfl) T.want.g T.want.F.kp T.b_want .nil (L2.passes_call (L2.takes_of rfl rfl rfl rfl) (fun _ _ _ _ z => z)) (pa_cons (pe_cmpR op_le (pe_callB call_len_seq (by rfl) T.g_len (by decide +kernel) (pa_cons (pv 1) pa_nil)) (pe_K (by rfl) T.k_MOST_BYTES) (nomark _)) (pa_cons (pe_K (by rfl) T.k_REFUSED) pa_nil)))) (pss_cons (LkX.ps_try_asX rfl rfl rfl rfl sc_Desk_where.nd (i := 3) rfl rfl (c := .ref T.xFault.C) (tb := fun W => tAsg (tCallS (spWh T.cSystem.C T.xFault.C) (WE W) (tCons (tFld K (tVar 0) "system") (tCons (tVar 1) tNil))) (gName 2)) ⟨by rfl, by decide, .inl T.xFault.g⟩ (fun W pn xe tk ow => (pss_one (ps_set (i := 2) sc_Desk_where.nd rfl (Or.inr rfl) (pe_callS G_where_holds (hr.mono (by first | decide | omega)) (by rfl) T.where_holds.g T.where_holds.F.kp T.b_where_holds (fun σ => L2N.passAt tk σ) (pa_cons (pe_fld (pv 0) (by rfl)) (pa_cons (pv 1) pa_nil)))))) (fun a oe cls d pn xe hz hf tk hot => (pss_one (L2H.ps_raiseHN hot tk (L2H.pmk5_oexH T.xRefused.ox T.Refused_init0.iC T.Refused_init0.tI (okH_Refused_init0 (P := P) (w := w) (base := base) T) (L2H.roomH_mark (hr.mono (by first | decide | omega)) _) hot T.b_Refused_init0 pass0 (by rfl) T.xRefused.g (pa_cons (L2H.pe_callH (E := fun _ => E0) (okH_full (P := P) (w := w) (base := base) T) (L2H.roomH_mark (hr.mono (by first | decide | omega)) _) hot (by rfl) T.full.g T.full.F.kp T.b_full (fun _ _ _ _ _ _ _ z => z.elim) (pa_cons (pe_K (by rfl) T.k_NO_FORMULA) (pa_cons (pe_lst (pa_cons (PE.nox (pe_xf T.xFault.xf T.xFault.nf hz.zc hf (pv 3))) pa_nil)) (pa_cons (pe_lst pa_nil) pa_nil)))) pa_nil)))))) (pss_one (ps_ret (pe_lc (own := [("state", 4)]) (g := gName 4)  (by rfl) sc_Desk_where.nd (pi_range1 (by rfl) T.g_range (pa_cons (pe_meth0 (pe_fld (pv 0) (by rfl)) T.cSystem.cl T.System_many.m G_System_many (hr.mono (by first | decide | omega)) T.b_System_many .nil pass0) pa_nil)) (blkOk_by (own := [("state", 4)]) (N := n_Desk_where) (sc := defScope s_Desk_where) (by decide +kernel)) (fun _ _ _ _ _ => (pg_name (i := 4) sc_Desk_where.nd rfl (Or.inl rfl))) (fun _ _ _ _ _ => pts_one (pt_cmpR op_eq (pe_op op_and (pe_op op_shr (pv 2) (pv 4)) pe_int) pe_int (nomark _))) (fun _ _ _ _ _ => (pv 4))))))), ?_⟩)
  · obtain ⟨p, dx, S, q, t, rfl, _⟩ := h
    rfl
  · obtain ⟨p, dx, S, q, t, rfl, hq, g, k1, k2⟩ := h
    obtain ⟨v1, v2, hp, W, ⟨sp, rfl, hS⟩, _⟩ := id g
    have most := W.most
    refine q_want (b := decide (t.length ≤ 10000)) (ev_is (ev_op (ev_len (K := K) (ev_var rfl) (sq_of hq)) ev_c rv_I0) ?_) (fun h H1 e1 => ?_) fun h => k1 (by have := of_decide_eq_false h; omega)
    · congr 1
      rw [bV_len]
      exact decide_eq_decide.mpr (by omega)
    have few := of_decide_eq_true h
    have k := k2 few
    have hS1 := hS.mono e1
    refine q_tryA (te := fun W => tCallS (spWh T.cSystem.C T.xFault.C) (WE W) (tCons (tFld K (tVar 0) "system") (tCons (tVar 1) tNil))) (x_callS (vs := [.ref sp, .ref q]) (ea_cons (ev_dSys (T := T) (ev_var rfl) (e1 _ _ hp)) (ea_cons (ev_var rfl) ea_nil)) fun H2 e2 => ⟨sp, q, S, t, rfl, hS1.mono e2, W, e2 _ _ (e1 _ _ hq), few, ?_⟩)
    have e12 := e1.trans e2
    unfold whereM
    cases hf : Ln.readForm t with
    | error e =>
      rw [hf] at k
      refine fun d H3 e3 hd => ⟨true, T.xFault.self, fun _ a na => ?_, fun z => nomatch z⟩
      have e13 := e12.trans e3
      refine mk_xP (l := ansI (Ln.tells (-3) [e])) ?_ (k.mono e13)
      intro H4 e4 Q kk
      refine x_callS2 (E := fun _ => E0) (x := .int (-3)) (xs := [.int (e : Int)]) (ys := []) ev_c (el_lst (ea_cons (fun H6 e6 Q k => ⟨.ref a, rfl, rfl, rfl, d, _, .int (e : Int), rfl, e6 _ _ (e4 _ _ hd), lk_here, k H6 (Ex.refl _)⟩) ea_nil) (by show 1 ≤ _; decide)) (el_lst ea_nil (by show 0 ≤ _; decide)) fun r r2 H5 e5 hr1 hr2 => ?_
      exact ⟨-3, r, r2, [(e : Int)], [], rfl, hr1, hr2, (by show 1 ≤ _; decide), by decide, fun v H8 e8 q => kk v H8 (e5.trans e8) q⟩
    | ok f =>
      rw [hf] at k
      intro v H3 e3 hv
      subst hv
      have e13 := e12.trans e3
      have hS3 := hS.mono e13
      refine s_retP (lst_l (elp_l (ElP.imp (el_lcRP (n := S.states) (fun j => (holdMask S f).testBit j) (fun i y _ => y = V.int (i : Int)) stays_val (ea_cons (evv (evp_smeth (T := T) (ev_dSys (T := T) (ev_var rfl) (e13 _ _ hp)) hS3 ea_nil (sp_many hS3))) ea_nil) (by omega) fun i H4 e4 hi => ?_) fun ys H4 e4 gv => gv.vals))) fun v H4 e4 q => k v H4 (e13.trans e4) ?_
      · refine turn_of (fun Q H5 e5 q => q) rfl (et_test (ev_is (ev_op (ev_op (ev_op (ev_var rfl) (ev_var rfl) (rv_I (by omega))) ev_c rv_I0) ev_c (rv_eq rfl)) (show _ = V.bl ((holdMask S f).testBit i) from ?_))) (fun _ => evp (ev_var rfl))
        rw [← LkM.bit_one]
        congr 1
        exact decide_eq_decide.mpr ⟨fun z => by injection z, fun z => by rw [z]⟩
      · have eq : ((List.range S.states).filter fun j => (holdMask S f).testBit j) = (List.range S.states).filter fun s => f.holds S s := by
          refine List.filter_congr fun x hx => ?_
          unfold holdMask
          rw [testBit_mask]
          simp [List.mem_range.mp hx]
        rw [eq] at q
        exact q

/-! #### holds, told_where -/
def spHld (CS CL CD CR : Addr) : Sp := fun vs H Q E => ∃ p dx S s q t, vs = [.ref p, .int (s : Nat), .ref q] ∧ H q = some (.lst (bV t)) ∧ DeskG CS CL CD H p dx (some S) ∧ Outc CS CL CD CR p dx (Ln.step (some S) (.holds s t)) H Q E
theorem ok_Desk_holds : FnOk P w K mg base (L2.CX P w) 10 T.Desk_holds.f T.Desk_holds.fd ["self", "state", "text"] (spHld T.cSystem.C T.cLevels.C T.cDesk.C T.xRefused.C) := by
  have G_Desk_want_states := ok_Desk_want_states (P := P) (w := w) (base := base) T
  have G_Desk_where := ok_Desk_where (P := P) (w := w) (base := base) T
  refine T.Desk_holds.F.okX sc_Desk_holds (fun vs H Q E h => ?_) (fun cdv A outer s H vs Q E hr h => ⟨_, (pss_cons (ps_expr (pe_meth (pv 0) T.cDesk.cl T.Desk_want_states.m G_Desk_want_states (hr.mono (by first | decide | omega)) T.b_Desk_want_states .nil (L2.passes_call (L2.takes_of rfl rfl rfl rfl) (fun _ _ _ _ z => z)) (pa_cons (pe_lst (pa_cons (pv 1) pa_nil)) pa_nil))) (pss_one (ps_ret (pe_lst (pa_cons (pe_callTy call_int1 (by rfl) T.g_int (by decide +kernel) (pa_cons (pe_cmpR op_in_seq (pv 1) (pe_meth (pv 0) T.cDesk.cl T.Desk_where.m G_Desk_where (hr.mono (by first | decide | omega)) T.b_Desk_where .nil (L2.passes_call (L2.takes_of rfl rfl rfl rfl) (fun _ _ _ _ z => z)) (pa_cons (pv 2) pa_nil)) (by rfl)) pa_nil)) pa_nil))))), ?_⟩)
  · obtain ⟨p, dx, S, s, q, t, rfl, _⟩ := h
    rfl
  · obtain ⟨p, dx, S, s, q, t, rfl, hq, g, o⟩ := h
    have st1 : Ln.step (some S) (.holds s t) = (some S, if S.states ≤ s then Ln.says (-1) else if 10000 < t.length then Ln.says (-2) else match Ln.readForm t with | .error e => Ln.tells (-3) [e] | .ok f => Ln.yes (f.holds S s)) := rfl
    refine q_states (l := [s]) (ev_var rfl) g (el_lst (vs := vN [s]) (ea_cons (ev_var rfl) ea_nil) (by show 1 ≤ _; decide)) (by show 1 ≤ _; decide) (fun ok H1 e1 => ?_) fun no => o.bad g ?_
    · have hs : s < S.states := ok s (by simp)
      rw [st1, if_neg (by omega)] at o
      obtain ⟨v1, v2, hp, W, _⟩ := g.mono e1
      have o1 := o.back (But.ex e1)
      refine ret_x (x_lst1 (x_cb1 (x_op2 (v := .int (s : Int)) (ev_var rfl) fun H2 e2 => x_meth (ev_var rfl) (e2 _ _ hp) (dkF_none _ _ _) (ea_cons (ev_var rfl) ea_nil) fun H3 e3 => ⟨p, dx, S, q, t, rfl, e3 _ _ (e2 _ _ (e1 _ _ hq)), ((g.mono e1).mono e2).mono e3, fun big => ?_, fun few => ?_⟩)))
      · rw [if_pos big] at o
        exact (o.back (But.ex ((e1.trans e2).trans e3))).bad (g.mono ((e1.trans e2).trans e3)) rfl
      · rw [if_neg (by omega)] at o
        have e13 := (e1.trans e2).trans e3
        cases hf : Ln.readForm t with
        | error e =>
          rw [hf] at o
          exact (o.back (But.ex e13)).2.go (But.ex (Ex.refl _)) (g.mono e13)
        | ok f =>
          rw [hf] at o
          intro v H4 e4 ⟨r, ev, hr4⟩
          subst ev
          refine ⟨r, _, rfl, .inl (sq_of hr4), rfl, ?_, ?_⟩
          · unfold vN
            simp [List.all_map, flatV]
          have eq : inV (.int (s : Int)) (vN ((List.range S.states).filter fun s => f.holds S s)) = f.holds S s := in_nums hs
          have eq' : (if false = true then !inV (.int (s : Int)) (vN ((List.range S.states).filter fun s => f.holds S s)) else inV (.int (s : Int)) (vN ((List.range S.states).filter fun s => f.holds S s))) = f.holds S s := eq
          refine .inr ⟨_, rfl, ?_⟩
          rw [eq']
          exact x_ans ((o.back (But.ex (e13.trans e4))).ret (g.mono (e13.trans e4)) rfl)
    · rw [st1, if_pos (by have : ¬ s < S.states := fun z => no fun x hx => by rw [List.mem_singleton.mp hx]; exact z
                          omega)]
def spTW (CS CL CD CR : Addr) : Sp := fun vs H Q E => ∃ p dx S q t, vs = [.ref p, .ref q] ∧ H q = some (.lst (bV t)) ∧ DeskG CS CL CD H p dx (some S) ∧ Outc CS CL CD CR p dx (Ln.step (some S) (.where_ t)) H Q E
theorem ok_Desk_told_where : FnOk P w K mg base (L2.CX P w) 10 T.Desk_told_where.f T.Desk_told_where.fd ["self", "text"] (spTW T.cSystem.C T.cLevels.C T.cDesk.C T.xRefused.C) := by
  have G_Desk_where := ok_Desk_where (P := P) (w := w) (base := base) T
  have G_full := ok_full (P := P) (w := w) (base := base) T
  refine T.Desk_told_where.F.okX sc_Desk_told_where (fun vs H Q E h => ?_) (fun cdv A outer s H vs Q E hr h => ⟨_, (pss_cons (ps_set (i := 2) sc_Desk_told_where.nd rfl (Or.inl rfl) (pe_meth (pv 0) T.cDesk.cl T.Desk_where.m G_Desk_where (hr.mono (by first | decide | omega)) T.b_Desk_where .nil (L2.passes_call (L2.takes_of rfl rfl rfl rfl) (fun _ _ _ _ z => z)) (pa_cons (pv 1) pa_nil))) (pss_one (ps_ret (pe_call G_full (hr.mono (by first | decide | omega)) (by rfl) T.full.g T.full.F.kp T.b_full .nil pass0 (pa_cons (pe_callB call_len_seq (by rfl) T.g_len (by decide +kernel) (pa_cons (pv 2) pa_nil)) (pa_cons (pv 2) (pa_cons (pe_lst pa_nil) pa_nil))))))), ?_⟩)
  · obtain ⟨p, dx, S, q, t, rfl, _⟩ := h
    rfl
  · obtain ⟨p, dx, S, q, t, rfl, hq, g, o⟩ := h
    have st1 : Ln.step (some S) (.where_ t) = (some S, if 10000 < t.length then Ln.says (-2) else match Ln.readForm t with | .error e => Ln.tells (-3) [e] | .ok f => Ln.tells ((((List.range S.states).filter fun s => f.holds S s).length : Nat) : Int) ((List.range S.states).filter fun s => f.holds S s)) := rfl
    obtain ⟨v1, v2, hp, W, _⟩ := id g
    refine qasg_x (x_meth (ev_var rfl) hp (dkF_none _ _ _) (ea_cons (ev_var rfl) ea_nil) fun H1 e1 => ⟨p, dx, S, q, t, rfl, e1 _ _ hq, g.mono e1, fun big => ?_, fun few => ?_⟩)
    · rw [st1, if_pos big] at o
      exact (o.back (But.ex e1)).bad (g.mono e1) rfl
    · rw [st1, if_neg (by omega)] at o
      cases hf : Ln.readForm t with
      | error e =>
        rw [hf] at o
        exact (o.back (But.ex e1)).2.go (But.ex (Ex.refl _)) (g.mono e1)
      | ok f =>
        rw [hf] at o
        intro v H2 e2 ⟨r, ev, hr2⟩
        subst ev
        generalize hl : ((List.range S.states).filter fun s => f.holds S s) = l at o hr2
        have ll : l.length ≤ 32 := by
          rw [← hl]
          have := List.length_filter_le (fun s => f.holds S s) (List.range S.states)
          rw [List.length_range] at this
          have := W.most
          omega
        refine ret_x (x_call3L (ev_len (K := K) (ev_var rfl) (sq_of hr2)) (ev_var rfl) (el_lst (vs := []) ea_nil (by show 0 ≤ _; decide)) fun r2 H3 e3 hr3 => ⟨((vN l).length : Int), r, r2, l.map fun (n : Nat) => (n : Int), [], rfl, by rw [e3 _ _ hr2, vN_int], hr3, by rw [List.length_map]; omega, by decide, fun v H4 e4 q => ?_⟩)
        refine o.1 v H4 (But.ex ((e1.trans e2).trans (e3.trans e4))) (g.mono ((e1.trans e2).trans (e3.trans e4))) ?_
        rw [vN_len, ← hl] at q
        exact q
end
end LkW
end

section
set_option Elab.async false
set_option linter.all false
set_option maxRecDepth 100000
set_option maxHeartbeats 2000000
/-! The desk's calls: which it is; what it answers. -/
namespace LkW
open PySem PySem.Spec PyProof.Rows L2 Evl Lk
open Ln (Sys Arc Bytes Form)
inductive CallA : Int → List Nat → Ln.Call → Prop
  | paint (s c : Nat) : CallA 2 [s, c] (.paint s c)
  | arc (s a t : Nat) : CallA 3 [s, a, t] (.arc s a t)
  | cut (s a t : Nat) : CallA 4 [s, a, t] (.cut s a t)
  | has (s a t : Nat) : CallA 5 [s, a, t] (.has s a t)
  | look (s : Nat) : CallA 6 [s] (.look s)
inductive CallL : Int → List Nat → List V → Ln.Call → Prop
  | same (s t : Nat) (xs : List V) : CallL 7 [s, t] xs (.same s t)
  | depth (s t : Nat) (xs : List V) : CallL 8 [s, t] xs (.depth s t)
  | number (s : Nat) (xs : List V) : CallL 9 [s] xs (.number s)
  | count (xs : List V) : CallL 10 [] xs .count
  | tell (s t : Nat) (xs : List V) : CallL 11 [s, t] xs (.tell s t)
  | holds (s : Nat) (t : Bytes) : CallL 12 [s] (bV t) (.holds s t)
  | where_ (t : Bytes) : CallL 13 [] (bV t) (.where_ t)
  | check (w : List Nat) : CallL 14 [] (vN w) (.check w)
  | quotient (xs : List V) : CallL 15 [] xs .quotient
inductive CallY : Int → List Nat → List V → Ln.Call → Prop
  | init (n : Nat) (xs : List V) : CallY 1 [n] xs (.init n)
  | a {c : Int} {l : List Nat} {k : Ln.Call} (h : CallA c l k) (xs : List V) : CallY c l xs k
  | l {c : Int} {l : List Nat} {xs : List V} {k : Ln.Call} (h : CallL c l xs k) : CallY c l xs k
theorem CallA.at {c : Int} {l : List Nat} {k : Ln.Call} (h : CallA c l k) : 2 ≤ c ∧ c ≤ 6 := by cases h <;> decide
theorem CallL.at {c : Int} {l : List Nat} {xs : List V} {k : Ln.Call} (h : CallL c l xs k) : 7 ≤ c := by cases h <;> decide
theorem CallA.none {c : Int} {l : List Nat} {k : Ln.Call} (h : CallA c l k) : Ln.step none k = (none, Ln.says (-8)) := by cases h <;> rfl
theorem CallL.none {c : Int} {l : List Nat} {xs : List V} {k : Ln.Call} (h : CallL c l xs k) : Ln.step none k = (none, Ln.says (-8)) := by cases h <;> rfl
section
variable {σ : L2.St} {H : Hp} {te : TE} {D : Ends} {tu tz : TS} {CR C p dx : Addr} {fs : List (Str × V)} {m : Str} {sp : Sp} {Q : VK} {targs : TA} {vs : List V} {b : Bool} {n : Int} {K : PySem.W.Frag}
theorem q_eqI {i : Nat} {c k : Int} (hv : σ[i]? = some (some (.int c))) (h1 : c = k → ∀ H1, Ex H H1 → tu { D with nx := tz D } σ H1) (h2 : c ≠ k → ∀ H1, Ex H H1 → tz D σ H1) : tSeq (tIfS (tTest (tOp rEq (tVar i) (tC (.int k)))) tu tNext) tz D σ H := by
  refine q_when (b := decide (V.int c = V.int k)) (et_test (ev_op (ev_var hv) ev_c (rv_eq rfl))) (fun h H1 e1 => h1 ?_ H1 e1) fun h H1 e1 => h2 (fun z => ?_) H1 e1
  · have := of_decide_eq_true h
    injection this
  · exact of_decide_eq_false h (by rw [z])
theorem x_methS {E : L2.St → XK} (h : Ev te σ H (.ref p)) (ho : H p = some (.ins C dx fs)) (l : fs.lookup m = none) (ha : EvA targs σ H vs) (hs : ∀ H1, Ex H H1 → sp (.ref p :: vs) H1 Q (E σ)) : tMethS C m sp E te targs σ H Q :=
  h H (Ex.refl H) _ fun H1 e1 => ⟨p, dx, fs, rfl, e1 _ _ ho, l, ha H1 e1 _ fun H2 e2 => hs H2 (e1.trans e2)⟩
theorem q_wantS {E : L2.St → XK} (ht : Ev te σ H (.bl b)) (k1 : b = true → ∀ H1, Ex H H1 → tz D σ H1) (k2 : b = false → RsL CR "told" [n] H (E σ)) : tSeq (tDrop (tCallS (spWant CR) E (tCons te (tCons (tC (.int n)) tNil)))) tz D σ H :=
  qdrop_x (x_callS (ea_cons ht (ea_cons ev_c ea_nil)) fun H1 e1 => ⟨b, n, rfl, fun h v H2 e2 hv => k1 h H2 (e1.trans e2), fun h => (k2 h).mono e1⟩)
theorem takes_no {X : Cx} : L2.Takes X (fun _ _ _ _ => False) := fun u s' ⟨a, B, sI, pins, σ, H, cls, d, e, I, nb, up, sky, na, os, ag, w⟩ => w.elim
end
section
variable {P : Program} {w : World} {K : PySem.W.Frag} {mg : Str → Option Value} {base : Heap} (T : Txt K mg)
def spArcs (CS CL CD CR : Addr) : Sp := fun vs H Q E => ∃ p dx S c q l k, vs = [.ref p, .int c, .ref q] ∧ H q = some (.lst (vN l)) ∧ CallA c l k ∧ DeskG CS CL CD H p dx (some S) ∧ Outc CS CL CD CR p dx (Ln.step (some S) k) H Q E
theorem ok_Desk_of_arcs : FnOk P w K mg base (L2.CX P w) 8 T.Desk_of_arcs.f T.Desk_of_arcs.fd ["self", "call", "n"] (spArcs T.cSystem.C T.cLevels.C T.cDesk.C T.xRefused.C) := by
  have G_Desk_paint := ok_Desk_paint (P := P) (w := w) (base := base) T
  have G_Desk_arc := ok_Desk_arc (P := P) (w := w) (base := base) T
  have G_Desk_cut := ok_Desk_cut (P := P) (w := w) (base := base) T
  have G_Desk_has := ok_Desk_has (P := P) (w := w) (base := base) T
  have G_Desk_look := ok_Desk_look (P := P) (w := w) (base := base) T
  refine T.Desk_of_arcs.F.okX sc_Desk_of_arcs (fun vs H Q E h => ?_) (fun cdv A outer s H vs Q E hr h => ⟨_, (pss_cons (ps_if (pt_cmpR op_eq (pv 1) pe_int (nomark _)) (pss_one (ps_ret (pe_meth (pv 0) T.cDesk.cl T.Desk_paint.m G_Desk_paint (hr.mono (by first | decide | omega)) T.b_Desk_paint .nil (L2.passes_call (L2.takes_of rfl rfl rfl rfl) (fun _ _ _ _ z => z)) (pa_cons (pe_ix ix_list (pv 2) pe_int (fun _ _ => rfl)) (pa_cons (pe_ix ix_list (pv 2) pe_int (fun _ _ => rfl)) pa_nil))))) pss_nil) (pss_cons (ps_if (pt_cmpR op_eq (pv 1) pe_int (nomark _)) (pss_one (ps_ret (pe_meth (pv 0) T.cDesk.cl T.Desk_arc.m G_Desk_arc (hr.mono (by first | decide | omega)) T.b_Desk_arc .nil (L2.passes_call (L2.takes_of rfl rfl rfl rfl) (fun _ _ _ _ z => z)) (pa_cons (pv 2) pa_nil)))) pss_nil) (pss_cons (ps_if (pt_cmpR op_eq (pv 1) pe_int (nomark _)) (pss_one (ps_ret (pe_meth (pv 0) T.cDesk.cl T.Desk_cut.m G_Desk_cut (hr.mono (by first | decide | omega)) T.b_Desk_cut .nil (L2.passes_call (L2.takes_of rfl rfl rfl rfl) (fun _ _ _ _ z => z)) (pa_cons (pv 2) pa_nil)))) pss_nil) (pss_cons (ps_if (pt_cmpR op_eq (pv 1) pe_int (nomark _)) (pss_one (ps_ret (pe_meth (pv 0) T.cDesk.cl T.Desk_has.m G_Desk_has (hr.mono (by first | decide | omega)) T.b_Desk_has .nil (L2.passes_call (L2.takes_of rfl rfl rfl rfl) (fun _ _ _ _ z => z)) (pa_cons (pv 2) pa_nil)))) pss_nil) (pss_one (ps_ret (pe_meth (pv 0) T.cDesk.cl T.Desk_look.m G_Desk_look (hr.mono (by first | decide | omega)) T.b_Desk_look .nil (L2.passes_call (L2.takes_of rfl rfl rfl rfl) (fun _ _ _ _ z => z)) (pa_cons (pe_ix ix_list (pv 2) pe_int (fun _ _ => rfl)) pa_nil)))))))), ?_⟩)
  · obtain ⟨p, dx, S, c, q, l, k, rfl, _⟩ := h
    rfl
  · obtain ⟨p, dx, S, c, q, l, k, rfl, hq, ca, g, o⟩ := h
    have bd := ca.at
    refine q_eqI rfl (fun h H1 e1 => ?_) fun n2 H1 e1 => q_eqI rfl (fun h H2 e2 => ?_) fun n3 H2 e2 => q_eqI rfl (fun h H3 e3 => ?_) fun n4 H3 e3 => q_eqI rfl (fun h H4 e4 => ?_) fun n5 H4 e4 => ?_
    · subst h
      cases ca with
      | paint s t =>
        obtain ⟨v1, v2, hp, _⟩ := g.mono e1
        exact ret_x (x_meth (ev_var rfl) hp (dkF_none _ _ _) (ea_cons (ev_ixN (K := K) (i := 0) (ev_var rfl) ev_c (e1 _ _ hq) (by show 0 < 2; decide)) (ea_cons (ev_ixN (K := K) (i := 1) (ev_var rfl) ev_c (e1 _ _ hq) (by show 1 < 2; decide)) ea_nil)) fun H2 e2 => ⟨p, dx, S, s, t, rfl, (g.mono e1).mono e2, o.back (But.ex (e1.trans e2))⟩)
    · subst h
      have e12 := e1.trans e2
      cases ca with
      | arc s a t =>
        obtain ⟨v1, v2, hp, _⟩ := g.mono e12
        exact ret_x (x_meth (ev_var rfl) hp (dkF_none _ _ _) (ea_cons (ev_var rfl) ea_nil) fun H2 e2 => ⟨p, dx, S, q, s, a, t, rfl, e2 _ _ (e12 _ _ hq), (g.mono e12).mono e2, o.back (But.ex (e12.trans e2))⟩)
    · subst h
      have e12 := (e1.trans e2).trans e3
      cases ca with
      | cut s a t =>
        obtain ⟨v1, v2, hp, _⟩ := g.mono e12
        exact ret_x (x_meth (ev_var rfl) hp (dkF_none _ _ _) (ea_cons (ev_var rfl) ea_nil) fun H2 e2 => ⟨p, dx, S, q, s, a, t, rfl, e2 _ _ (e12 _ _ hq), (g.mono e12).mono e2, o.back (But.ex (e12.trans e2))⟩)
    · subst h
      have e12 := ((e1.trans e2).trans e3).trans e4
      cases ca with
      | has s a t =>
        obtain ⟨v1, v2, hp, _⟩ := g.mono e12
        exact ret_x (x_meth (ev_var rfl) hp (dkF_none _ _ _) (ea_cons (ev_var rfl) ea_nil) fun H2 e2 => ⟨p, dx, S, q, s, a, t, rfl, e2 _ _ (e12 _ _ hq), (g.mono e12).mono e2, o.back (But.ex (e12.trans e2))⟩)
    · have e12 := ((e1.trans e2).trans e3).trans e4
      cases ca with
      | look s =>
        obtain ⟨v1, v2, hp, _⟩ := g.mono e12
        exact ret_x (x_meth (ev_var rfl) hp (dkF_none _ _ _) (ea_cons (ev_ixN (K := K) (i := 0) (ev_var rfl) ev_c (e12 _ _ hq) (by show 0 < 1; decide)) ea_nil) fun H2 e2 => ⟨p, dx, S, s, rfl, (g.mono e12).mono e2, o.back (But.ex (e12.trans e2))⟩)
      | paint => exact absurd rfl n2
      | arc => exact absurd rfl n3
      | cut => exact absurd rfl n4
      | has => exact absurd rfl n5
def spLikn (CS CL CD CR : Addr) : Sp := fun vs H Q E => ∃ p dx S c q l r xs k, vs = [.ref p, .int c, .ref q, .ref r] ∧ H q = some (.lst (vN l)) ∧ H r = some (.lst xs) ∧ CallL c l xs k ∧ DeskG CS CL CD H p dx (some S) ∧ Outc CS CL CD CR p dx (Ln.step (some S) k) H Q E
theorem ok_Desk_of_likeness : FnOk P w K mg base (L2.CX P w) 204 T.Desk_of_likeness.f T.Desk_of_likeness.fd ["self", "call", "n", "row"] (spLikn T.cSystem.C T.cLevels.C T.cDesk.C T.xRefused.C) := by
  have G_Desk_same := ok_Desk_same (P := P) (w := w) (base := base) T
  have G_Desk_depth := ok_Desk_depth (P := P) (w := w) (base := base) T
  have G_Desk_number := ok_Desk_number (P := P) (w := w) (base := base) T
  have G_Desk_known_levels := ok_Desk_known_levels (P := P) (w := w) (base := base) T
  have G_Levels_count := ok_Levels_count (P := P) (w := w) (base := base) T
  have G_Desk_tell := ok_Desk_tell (P := P) (w := w) (base := base) T
  have G_Desk_holds := ok_Desk_holds (P := P) (w := w) (base := base) T
  have G_Desk_told_where := ok_Desk_told_where (P := P) (w := w) (base := base) T
  have G_Desk_check := ok_Desk_check (P := P) (w := w) (base := base) T
  have G_Desk_quotient := ok_Desk_quotient (P := P) (w := w) (base := base) T
  refine T.Desk_of_likeness.F.okX sc_Desk_of_likeness (fun vs H Q E h => ?_) (fun cdv A outer s H vs Q E hr h => ⟨_, (pss_cons (ps_if (pt_cmpR op_eq (pv 1) pe_int (nomark _)) (pss_one (ps_ret (pe_meth (pv 0) T.cDesk.cl T.Desk_same.m G_Desk_same (hr.mono (by first | decide | omega)) T.b_Desk_same .nil (L2.passes_call (L2.takes_of rfl rfl rfl rfl) (fun _ _ _ _ z => z)) (pa_cons (pe_ix ix_list (pv 2) pe_int (fun _ _ => rfl)) (pa_cons (pe_ix ix_list (pv 2) pe_int (fun _ _ => rfl)) pa_nil))))) pss_nil) (pss_cons (ps_if (pt_cmpR op_eq (pv 1) pe_int (nomark _)) (pss_one (ps_ret (pe_meth (pv 0) T.cDesk.cl T.Desk_depth.m G_Desk_depth (hr.mono (by first | decide | omega)) T.b_Desk_depth .nil (L2.passes_call (L2.takes_of rfl rfl rfl rfl) (fun _ _ _ _ z => z)) (pa_cons (pe_ix ix_list (pv 2) pe_int (fun _ _ => rfl)) (pa_cons (pe_ix ix_list (pv 2) pe_int (fun _ _ => rfl)) pa_nil))))) pss_nil) (pss_cons (ps_if (pt_cmpR op_eq (pv 1) pe_int (nomark _)) (pss_one (ps_ret (pe_meth (pv 0) T.cDesk.cl T.Desk_number.m G_Desk_number (hr.mono (by first | decide | omega)) T.b_Desk_number .nil (L2.passes_call (L2.takes_of rfl rfl rfl rfl) (fun _ _ _ _ z => z)) (pa_cons (pe_ix ix_list (pv 2) pe_int (fun _ _ => rfl)) pa_nil)))) pss_nil) (pss_cons (ps_if (pt_cmpR op_eq (pv 1) pe_int (nomark _)) (pss_one (ps_ret (pe_lst (pa_cons (pe_meth0 (pe_meth0 (pv 0) T.cDesk.cl T.Desk_known_levels.m G_Desk_known_levels (hr.mono (by first | decide | omega)) T.b_Desk_known_levels .nil pass0) T.cLevels.cl T.Levels_count.m G_Levels_count (hr.mono (by first | decide | omega)) T.b_Levels_count .nil pass0) pa_nil)))) pss_nil) (pss_cons (ps_if (pt_cmpR op_eq (pv 1) pe_int (nomark _)) (pss_one (ps_ret (pe_meth (pv 0) T.cDesk.cl T.Desk_tell.m G_Desk_tell (hr.mono (by first | decide | omega)) T.b_Desk_tell .nil (L2.passes_call (L2.takes_of rfl rfl rfl rfl) (fun _ _ _ _ z => z)) (pa_cons (pe_ix ix_list (pv 2) pe_int (fun _ _ => rfl)) (pa_cons (pe_ix ix_list (pv 2) pe_int (fun _ _ => rfl)) pa_nil))))) pss_nil) (pss_cons (ps_if (pt_cmpR op_eq (pv 1) pe_int (nomark _)) (pss_one (ps_ret (pe_meth (pv 0) T.cDesk.cl T.Desk_holds.m G_Desk_holds (hr.mono (by first | decide | omega)) T.b_Desk_holds .nil (L2.passes_call (L2.takes_of rfl rfl rfl rfl) (fun _ _ _ _ z => z)) (pa_cons (pe_ix ix_list (pv 2) pe_int (fun _ _ => rfl)) (pa_cons (pv 3) pa_nil))))) pss_nil) (pss_cons (ps_if (pt_cmpR op_eq (pv 1) pe_int (nomark _)) (pss_one (ps_ret (pe_meth (pv 0) T.cDesk.cl T.Desk_told_where.m G_Desk_told_where (hr.mono (by first | decide | omega)) T.b_Desk_told_where .nil (L2.passes_call (L2.takes_of rfl rfl rfl rfl) (fun _ _ _ _ z => z)) (pa_cons (pv 3) pa_nil)))) pss_nil) (pss_cons (ps_if (pt_cmpR op_eq (pv 1) pe_int (nomark _)) (pss_one (ps_ret (pe_meth (pv 0) T.cDesk.cl T.Desk_check.m G_Desk_check (hr.mono (by first | decide | omega)) T.b_Desk_check .nil (L2.passes_call (L2.takes_of rfl rfl rfl rfl) (fun _ _ _ _ z => z)) (pa_cons (pv 3) pa_nil)))) pss_nil) (pss_one (ps_ret (pe_meth0 (pv 0) T.cDesk.cl T.Desk_quotient.m G_Desk_quotient (hr.mono (by first | decide | omega)) T.b_Desk_quotient .nil pass0))))))))))), ?_⟩)
  · obtain ⟨p, dx, S, c, q, l, r, xs, k, rfl, _⟩ := h
    rfl
  · obtain ⟨p, dx, S, c, q, l, r, xs, k, rfl, hq, hr2, ca, g, o⟩ := h
    have stand : ∀ {H1 : Hp}, Ex H H1 → ∃ v1 v2, H1 p = some (.ins T.cDesk.C dx (dkF v1 v2)) := fun e => by
      obtain ⟨v1, v2, hp, _⟩ := g.mono e
      exact ⟨v1, v2, hp⟩
    have ix : ∀ {H1 : Hp} {l : List Nat} (i : Nat), Ex H H1 → H q = some (.lst (vN l)) → i < l.length → Ev (tOp (rIxL K) (tVar 2) (tC (.int (i : Int)))) [some (.ref p), some (.int c), some (.ref q), some (.ref r)] H1 (.int ((l.getD i 0 : Nat) : Int)) := fun i e1 hq hi => ev_ixN (K := K) (ev_var rfl) ev_c (e1 _ _ hq) hi
    refine q_eqI rfl (fun h H1 e1 => ?_) fun n7 H1 e1 => q_eqI rfl (fun h H2 e2 => ?_) fun n8 H2 e2 => q_eqI rfl (fun h H3 e3 => ?_) fun n9 H3 e3 => q_eqI rfl (fun h H4 e4 => ?_) fun n10 H4 e4 => q_eqI rfl (fun h H5 e5 => ?_) fun n11 H5 e5 => q_eqI rfl (fun h H6 e6 => ?_) fun n12 H6 e6 => q_eqI rfl (fun h H7 e7 => ?_) fun n13 H7 e7 => q_eqI rfl (fun h H8 e8 => ?_) fun n14 H8 e8 => ?_
    · subst h
      cases ca with
      | same s t =>
        obtain ⟨v1, v2, hp⟩ := stand e1
        exact ret_x (x_meth (ev_var rfl) hp (dkF_none _ _ _) (ea_cons (ix 0 e1 hq (by show 0 < 2; decide)) (ea_cons (ix 1 e1 hq (by show 1 < 2; decide)) ea_nil)) fun Hz ez => ⟨p, dx, S, s, t, rfl, (g.mono e1).mono ez, o.back (But.ex (e1.trans ez))⟩)
    · subst h
      have e := e1.trans e2
      cases ca with
      | depth s t =>
        obtain ⟨v1, v2, hp⟩ := stand e
        exact ret_x (x_meth (ev_var rfl) hp (dkF_none _ _ _) (ea_cons (ix 0 e hq (by show 0 < 2; decide)) (ea_cons (ix 1 e hq (by show 1 < 2; decide)) ea_nil)) fun Hz ez => ⟨p, dx, S, s, t, rfl, (g.mono e).mono ez, o.back (But.ex (e.trans ez))⟩)
    · subst h
      have e := (e1.trans e2).trans e3
      cases ca with
      | number s =>
        obtain ⟨v1, v2, hp⟩ := stand e
        exact ret_x (x_meth (ev_var rfl) hp (dkF_none _ _ _) (ea_cons (ix 0 e hq (by show 0 < 1; decide)) ea_nil) fun Hz ez => ⟨p, dx, S, s, rfl, (g.mono e).mono ez, o.back (But.ex (e.trans ez))⟩)
    · subst h
      have e := ((e1.trans e2).trans e3).trans e4
      cases ca with
      | count =>
        have W := (id g).choose_spec.choose_spec.2.1
        refine ret_x (x_lst1 (x_on (x_know (ev_var rfl) (g.mono e) fun lv m Hy by_ gy hL => ?_)))
        refine ev_count (ev_c (v := .ref lv)) hL W Hy (Ex.refl _) _ fun Hz ez => ?_
        exact x_ans ((o.back (((But.ex e).trans by_).trans (But.ex ez))).ret (gy.mono ez) rfl)
    · subst h
      have e := (((e1.trans e2).trans e3).trans e4).trans e5
      cases ca with
      | tell s t =>
        obtain ⟨v1, v2, hp⟩ := stand e
        exact ret_x (x_meth (ev_var rfl) hp (dkF_none _ _ _) (ea_cons (ix 0 e hq (by show 0 < 2; decide)) (ea_cons (ix 1 e hq (by show 1 < 2; decide)) ea_nil)) fun Hz ez => ⟨p, dx, S, s, t, rfl, (g.mono e).mono ez, o.back (But.ex (e.trans ez))⟩)
    · subst h
      have e := ((((e1.trans e2).trans e3).trans e4).trans e5).trans e6
      cases ca with
      | holds s t =>
        obtain ⟨v1, v2, hp⟩ := stand e
        exact ret_x (x_meth (ev_var rfl) hp (dkF_none _ _ _) (ea_cons (ix 0 e hq (by show 0 < 1; decide)) (ea_cons (ev_var rfl) ea_nil)) fun Hz ez => ⟨p, dx, S, s, r, t, rfl, ez _ _ (e _ _ hr2), (g.mono e).mono ez, o.back (But.ex (e.trans ez))⟩)
    · subst h
      have e := (((((e1.trans e2).trans e3).trans e4).trans e5).trans e6).trans e7
      cases ca with
      | where_ t =>
        obtain ⟨v1, v2, hp⟩ := stand e
        exact ret_x (x_meth (ev_var rfl) hp (dkF_none _ _ _) (ea_cons (ev_var rfl) ea_nil) fun Hz ez => ⟨p, dx, S, r, t, rfl, ez _ _ (e _ _ hr2), (g.mono e).mono ez, o.back (But.ex (e.trans ez))⟩)
    · subst h
      have e := ((((((e1.trans e2).trans e3).trans e4).trans e5).trans e6).trans e7).trans e8
      cases ca with
      | check l =>
        obtain ⟨v1, v2, hp⟩ := stand e
        exact ret_x (x_meth (ev_var rfl) hp (dkF_none _ _ _) (ea_cons (ev_var rfl) ea_nil) fun Hz ez => ⟨p, dx, S, r, l, rfl, ez _ _ (e _ _ hr2), (g.mono e).mono ez, o.back (But.ex (e.trans ez))⟩)
    · have e := ((((((e1.trans e2).trans e3).trans e4).trans e5).trans e6).trans e7).trans e8
      cases ca with
      | quotient =>
        obtain ⟨v1, v2, hp⟩ := stand e
        exact ret_x (x_meth (ev_var rfl) hp (dkF_none _ _ _) ea_nil fun Hz ez => ⟨p, dx, S, rfl, (g.mono e).mono ez, (o.back (But.ex (e.trans ez))).1⟩)
      | same => exact absurd rfl n7
      | depth => exact absurd rfl n8
      | number => exact absurd rfl n9
      | count => exact absurd rfl n10
      | tell => exact absurd rfl n11
      | holds => exact absurd rfl n12
      | where_ => exact absurd rfl n13
      | check => exact absurd rfl n14

/-! #### answer -/
def tbAns : WX → TS := fun W => tSeq (tIfS (tTest (tOp rEq (tVar 1) (tC (.int 1)))) (tRet (tMethS T.cDesk.C "init" (spIni T.cSystem.C T.cLevels.C T.cDesk.C T.xRefused.C) (WE W) (tVar 0) (tCons (tOp (rIxL K) (tVar 2) (tC (.int 0))) tNil))) tNext)
  (tSeq (tDrop (tCallS (spWant T.xRefused.C) (WE W) (tCons (tOp (fun x y H Q => y = .non ∧ Q (.bl (!decide (x = .non))) H) (tFld K (tVar 0) "system") (tC .non)) (tCons (tC (.int (-8))) tNil))))
  (tSeq (tIfS (tTest (tOp (rI0 fun i j => .bl (decide (i ≤ j))) (tVar 1) (tC (.int 6)))) (tRet (tMethS T.cDesk.C "of_arcs" (spArcs T.cSystem.C T.cLevels.C T.cDesk.C T.xRefused.C) (WE W) (tVar 0) (tCons (tVar 1) (tCons (tVar 2) tNil)))) tNext)
    (tRet (tMethS T.cDesk.C "of_likeness" (spLikn T.cSystem.C T.cLevels.C T.cDesk.C T.xRefused.C) (WE W) (tVar 0) (tCons (tVar 1) (tCons (tVar 2) (tCons (tVar 3) tNil)))))))
theorem answer_go {W : WX} {D : Ends} {H : Hp} {p dx q r : Addr} {c : Int} {l : List Nat} {xs : List V} {k : Ln.Call} {st : Option Sys} (hq : H q = some (.lst (vN l))) (hr : H r = some (.lst xs)) (ca : CallY c l xs k) (g : DeskG T.cSystem.C T.cLevels.C T.cDesk.C H p dx st)
    (o : Outc T.cSystem.C T.cLevels.C T.cDesk.C T.xRefused.C p dx (Ln.step st k) H D.rt (WE W [some (.ref p), some (.int c), some (.ref q), some (.ref r), none])) : tbAns T W D [some (.ref p), some (.int c), some (.ref q), some (.ref r), none] H := by
  have stand : ∀ {H1 : Hp}, Ex H H1 → ∃ v1 v2, H1 p = some (.ins T.cDesk.C dx (dkF v1 v2)) := fun e => by
    obtain ⟨v1, v2, hp, _⟩ := g.mono e
    exact ⟨v1, v2, hp⟩
  refine q_eqI rfl (fun h H1 e1 => ?_) fun n1 H1 e1 => ?_
  · subst h
    cases ca with
    | init n =>
      obtain ⟨v1, v2, hp⟩ := stand e1
      exact ret_x (x_methS (ev_var rfl) hp (dkF_none _ _ _) (ea_cons (ev_ixN (K := K) (i := 0) (ev_var rfl) ev_c (e1 _ _ hq) (by show 0 < 1; decide)) ea_nil) fun Hz ez => ⟨p, dx, st, n, rfl, (g.mono e1).mono ez, o.back (But.ex (e1.trans ez))⟩)
    | a h => exact absurd h.at.1 (by decide)
    | l h => exact absurd h.at (by decide)
  · have no : st = none → Ln.step st k = (st, Ln.says (-8)) := fun z => by
      subst z
      cases ca with
      | init n => exact absurd rfl n1
      | a h => exact h.none
      | l h => exact h.none
    obtain ⟨v1, v2, hp, gs⟩ := g.mono e1
    refine q_wantS (b := !decide (v1 = .non)) (ev_op (ev_fld (ev_var rfl) hp T.cDesk.cl T.nDesk_system (lk_dSys _ _)) ev_c fun H3 e3 Q k => ⟨rfl, k H3 (Ex.refl _)⟩) (fun h H2 e2 => ?_) fun h => ?_
    · cases st with
      | none =>
        rw [gs.1] at h
        cases h
      | some S =>
        have e12 := e1.trans e2
        refine q_when (b := decide (c ≤ 6)) (et_test (ev_op (ev_var rfl) ev_c rv_I0)) (fun h H3 e3 => ?_) fun h H3 e3 => ?_
        · have hc := of_decide_eq_true h
          have e := e12.trans e3
          obtain ⟨v1, v2, hp⟩ := stand e
          cases ca with
          | init n => exact absurd rfl n1
          | l h => exact absurd h.at (by omega)
          | a ca => exact ret_x (x_methS (ev_var rfl) hp (dkF_none _ _ _) (ea_cons (ev_var rfl) (ea_cons (ev_var rfl) ea_nil)) fun Hz ez => ⟨p, dx, S, c, q, l, k, rfl, ez _ _ (e _ _ hq), ca, (g.mono e).mono ez, o.back (But.ex (e.trans ez))⟩)
        · have hc := of_decide_eq_false h
          have e := e12.trans e3
          obtain ⟨v1, v2, hp⟩ := stand e
          cases ca with
          | init n => exact absurd rfl n1
          | a h => exact absurd h.at.2 hc
          | l ca => exact ret_x (x_methS (ev_var rfl) hp (dkF_none _ _ _) (ea_cons (ev_var rfl) (ea_cons (ev_var rfl) (ea_cons (ev_var rfl) ea_nil))) fun Hz ez => ⟨p, dx, S, c, q, l, r, xs, k, rfl, ez _ _ (e _ _ hq), ez _ _ (e _ _ hr), ca, (g.mono e).mono ez, o.back (But.ex (e.trans ez))⟩)
    · cases st with
      | none => exact (o.back (But.ex e1)).bad (g.mono e1) (no rfl)
      | some S =>
        obtain ⟨_, ⟨sp, ev, _⟩, _⟩ := gs
        rw [ev] at h
        cases h
def spAns (CS CL CD : Addr) : Sp := fun vs H Q _ => ∃ p dx st c q l r xs k, vs = [.ref p, .int c, .ref q, .ref r] ∧ H q = some (.lst (vN l)) ∧ H r = some (.lst xs) ∧ CallY c l xs k ∧ DeskG CS CL CD H p dx st ∧ RetD CS CL CD p dx (Ln.step st k).1 (ansI (Ln.step st k).2) H Q
theorem ok_Desk_answer : FnOk P w K mg base CX0 205 T.Desk_answer.f T.Desk_answer.fd ["self", "call", "n", "row"] (spAns T.cSystem.C T.cLevels.C T.cDesk.C) := by
  have G_Desk_init := ok_Desk_init (P := P) (w := w) (base := base) T
  have G_want := ok_want (P := P) (w := w) (base := base) T
  have G_Desk_of_arcs := ok_Desk_of_arcs (P := P) (w := w) (base := base) T
  have G_Desk_of_likeness := ok_Desk_of_likeness (P := P) (w := w) (base := base) T
  refine T.Desk_answer.F.ok sc_Desk_answer (fun vs H Q E h => ?_) (fun cdv A outer s H vs Q E hr h => ⟨_, (pss_one (L2.ps_try_as rfl rfl sc_Desk_answer.nd (i := 4) rfl rfl (c := .ref T.xRefused.C) (tb := tbAns T) ⟨by rfl, by decide, .inl T.xRefused.g⟩ takes_no (fun W pn xe tk ow => (pss_cons (ps_if (pt_cmpR op_eq (pv 1) (pe_K (by rfl) T.k_INIT) (nomark _)) (pss_one (ps_ret (pe_methS (pv 0) T.cDesk.cl T.Desk_init.m G_Desk_init (hr.mono (by first | decide | omega)) T.b_Desk_init (fun σ => passAt tk σ) (pa_cons (pe_ix ix_list (pv 2) pe_int (fun _ _ => rfl)) pa_nil)))) pss_nil) (pss_cons (ps_expr (pe_callS G_want (hr.mono (by first | decide | omega)) (by rfl) T.want.g T.want.F.kp T.b_want (fun σ => passAt tk σ) (pa_cons (pe_cmpR op_notN (pe_fld (pv 0) (by rfl)) pe_non (nomark _)) (pa_cons (pe_K (by rfl) T.k_NO_SYSTEM) pa_nil)))) (pss_cons (ps_if (pt_cmpR op_le (pv 1) pe_int (nomark _)) (pss_one (ps_ret (pe_methS (pv 0) T.cDesk.cl T.Desk_of_arcs.m G_Desk_of_arcs (hr.mono (by first | decide | omega)) T.b_Desk_of_arcs (fun σ => passAt tk σ) (pa_cons (pv 1) (pa_cons (pv 2) pa_nil))))) pss_nil) (pss_one (ps_ret (pe_methS (pv 0) T.cDesk.cl T.Desk_of_likeness.m G_Desk_of_likeness (hr.mono (by first | decide | omega)) T.b_Desk_of_likeness (fun σ => passAt tk σ) (pa_cons (pv 1) (pa_cons (pv 2) (pa_cons (pv 3) pa_nil)))))))))) (fun a oe cls d pn hz hf => (pss_one (ps_ret (pe_xf T.xRefused.xf T.xRefused.nf hz hf (pv 4))))))), ?_⟩)
  · obtain ⟨p, dx, st, c, q, l, r, xs, k, rfl, _⟩ := h
    rfl
  · obtain ⟨p, dx, st, c, q, l, r, xs, k, rfl, hq, hr2, ca, g, o⟩ := h
    exact answer_go T hq hr2 ca g ⟨o, fun d a H2 b g2 h1 h2 => ⟨true, T.xRefused.self, fun _ a0 na => ⟨_, rfl, rfl, rfl, d, _, .ref a, rfl, h1, lk_here, o _ H2 b g2 ⟨a, rfl, h2⟩⟩, fun z => nomatch z⟩⟩
end
end LkW
end

section
set_option Elab.async false
set_option linter.all false
set_option maxRecDepth 100000
set_option maxHeartbeats 2000000
/-! The plain law: a list of calls, read one by one. -/
namespace LkW
open PySem PySem.Spec PyProof.Rows L2 Evl Lk
open Ln (Sys Arc Bytes Form)
abbrev intsN (l : List Nat) : List Int := l.map fun (n : Nat) => (n : Int)
def numbersTab : List Nat := [0, 1, 2, 3, 3, 3, 1, 2, 2, 1, 0, 2, 1, 0, 0, 0]
theorem shape_some {p : Int} {n k : Nat} (h : PyWqazaf.shape p = some (n, k)) :
    (p = 1 ∧ n = 1 ∧ k = 0) ∨ (p = 2 ∧ n = 2 ∧ k = 0) ∨ (p = 3 ∧ n = 3 ∧ k = 0) ∨ (p = 4 ∧ n = 3 ∧ k = 0) ∨ (p = 5 ∧ n = 3 ∧ k = 0) ∨ (p = 6 ∧ n = 1 ∧ k = 0) ∨ (p = 7 ∧ n = 2 ∧ k = 0) ∨ (p = 8 ∧ n = 2 ∧ k = 0) ∨ (p = 9 ∧ n = 1 ∧ k = 0) ∨ (p = 10 ∧ n = 0 ∧ k = 0) ∨ (p = 11 ∧ n = 2 ∧ k = 0) ∨ (p = 12 ∧ n = 1 ∧ k = 1) ∨ (p = 13 ∧ n = 0 ∧ k = 1) ∨ (p = 14 ∧ n = 0 ∧ k = 1) ∨ (p = 15 ∧ n = 0 ∧ k = 0) := by
  unfold PyWqazaf.shape at h
  by_cases e1 : p = 1
  · rw [if_pos e1] at h
    injection h with h
    injection h with h1 h2
    exact .inl ⟨e1, h1.symm, h2.symm⟩
  rw [if_neg e1] at h
  by_cases e2 : p = 2
  · rw [if_pos e2] at h
    injection h with h
    injection h with h1 h2
    exact .inr (.inl ⟨e2, h1.symm, h2.symm⟩)
  rw [if_neg e2] at h
  by_cases e3 : p = 3
  · rw [if_pos e3] at h
    injection h with h
    injection h with h1 h2
    exact .inr (.inr (.inl ⟨e3, h1.symm, h2.symm⟩))
  rw [if_neg e3] at h
  by_cases e4 : p = 4
  · rw [if_pos e4] at h
    injection h with h
    injection h with h1 h2
    exact .inr (.inr (.inr (.inl ⟨e4, h1.symm, h2.symm⟩)))
  rw [if_neg e4] at h
  by_cases e5 : p = 5
  · rw [if_pos e5] at h
    injection h with h
    injection h with h1 h2
    exact .inr (.inr (.inr (.inr (.inl ⟨e5, h1.symm, h2.symm⟩))))
  rw [if_neg e5] at h
  by_cases e6 : p = 6
  · rw [if_pos e6] at h
    injection h with h
    injection h with h1 h2
    exact .inr (.inr (.inr (.inr (.inr (.inl ⟨e6, h1.symm, h2.symm⟩)))))
  rw [if_neg e6] at h
  by_cases e7 : p = 7
  · rw [if_pos e7] at h
    injection h with h
    injection h with h1 h2
    exact .inr (.inr (.inr (.inr (.inr (.inr (.inl ⟨e7, h1.symm, h2.symm⟩))))))
  rw [if_neg e7] at h
  by_cases e8 : p = 8
  · rw [if_pos e8] at h
    injection h with h
    injection h with h1 h2
    exact .inr (.inr (.inr (.inr (.inr (.inr (.inr (.inl ⟨e8, h1.symm, h2.symm⟩)))))))
  rw [if_neg e8] at h
  by_cases e9 : p = 9
  · rw [if_pos e9] at h
    injection h with h
    injection h with h1 h2
    exact .inr (.inr (.inr (.inr (.inr (.inr (.inr (.inr (.inl ⟨e9, h1.symm, h2.symm⟩))))))))
  rw [if_neg e9] at h
  by_cases e10 : p = 10
  · rw [if_pos e10] at h
    injection h with h
    injection h with h1 h2
    exact .inr (.inr (.inr (.inr (.inr (.inr (.inr (.inr (.inr (.inl ⟨e10, h1.symm, h2.symm⟩)))))))))
  rw [if_neg e10] at h
  by_cases e11 : p = 11
  · rw [if_pos e11] at h
    injection h with h
    injection h with h1 h2
    exact .inr (.inr (.inr (.inr (.inr (.inr (.inr (.inr (.inr (.inr (.inl ⟨e11, h1.symm, h2.symm⟩))))))))))
  rw [if_neg e11] at h
  by_cases e12 : p = 12
  · rw [if_pos e12] at h
    injection h with h
    injection h with h1 h2
    exact .inr (.inr (.inr (.inr (.inr (.inr (.inr (.inr (.inr (.inr (.inr (.inl ⟨e12, h1.symm, h2.symm⟩)))))))))))
  rw [if_neg e12] at h
  by_cases e13 : p = 13
  · rw [if_pos e13] at h
    injection h with h
    injection h with h1 h2
    exact .inr (.inr (.inr (.inr (.inr (.inr (.inr (.inr (.inr (.inr (.inr (.inr (.inl ⟨e13, h1.symm, h2.symm⟩))))))))))))
  rw [if_neg e13] at h
  by_cases e14 : p = 14
  · rw [if_pos e14] at h
    injection h with h
    injection h with h1 h2
    exact .inr (.inr (.inr (.inr (.inr (.inr (.inr (.inr (.inr (.inr (.inr (.inr (.inr (.inl ⟨e14, h1.symm, h2.symm⟩)))))))))))))
  rw [if_neg e14] at h
  by_cases e15 : p = 15
  · rw [if_pos e15] at h
    injection h with h
    injection h with h1 h2
    exact .inr (.inr (.inr (.inr (.inr (.inr (.inr (.inr (.inr (.inr (.inr (.inr (.inr (.inr (⟨e15, h1.symm, h2.symm⟩))))))))))))))
  rw [if_neg e15] at h
  cases h
theorem whole_id (c : List (List Int)) : PyWqazaf.whole c = c := by
  unfold PyWqazaf.whole
  split <;> rfl
theorem call_none {p : Int} {n : Nat} {r : List Int} {c : List (List Int)} {t : List Int} (hs : PyWqazaf.shape p = some (n, 0)) (h : PyFlat.call PyWqazaf.shape (p :: r) = some (c, t)) : ∃ l, l.length = n ∧ r = l ++ t ∧ c = [p :: l] := by
  unfold PyFlat.call at h
  simp only [hs] at h
  split at h
  · cases h
  · rename_i hn
    simp only [PyFlat.rows] at h
    injection h with h
    injection h with h1 h2
    refine ⟨r.take n, by rw [List.length_take]; omega, ?_, h1.symm⟩
    rw [← h2, List.take_append_drop]
theorem call_row {p : Int} {n : Nat} {r : List Int} {c : List (List Int)} {t : List Int} (hs : PyWqazaf.shape p = some (n, 1)) (h : PyFlat.call PyWqazaf.shape (p :: r) = some (c, t)) : ∃ l xs, l.length = n ∧ r = l ++ ((xs.length : Int) :: (xs ++ t)) ∧ c = [p :: l, xs] := by
  unfold PyFlat.call at h
  simp only [hs] at h
  split at h
  · cases h
  · rename_i hn
    cases hd : r.drop n with
    | nil =>
      rw [hd] at h
      simp only [PyFlat.rows, PyFlat.row] at h
      cases h
    | cons m r' =>
      rw [hd] at h
      simp only [PyFlat.rows, PyFlat.row] at h
      by_cases cm : 0 ≤ m ∧ m.toNat ≤ r'.length
      · rw [if_pos cm] at h
        simp only at h
        injection h with h
        injection h with h1 h2
        have lx : (r'.take m.toNat).length = m.toNat := by rw [List.length_take]; omega
        refine ⟨r.take n, r'.take m.toNat, by rw [List.length_take]; omega, ?_, h1.symm⟩
        rw [lx, ← h2, List.take_append_drop, Int.toNat_of_nonneg cm.1, ← hd, List.take_append_drop]
      · rw [if_neg cm] at h
        cases h
theorem w32 {z : Int} (h : LnNeutral.whole32 z = true) : ((z.toNat : Nat) : Int) = z := by
  unfold LnNeutral.whole32 at h
  simp at h
  omega
theorem long_bytes {l : List Int} {n : Nat} (h : LnNeutral.long l n 0 255 = true) : l.map V.int = bV (NLines.bytesOf l) := by
  unfold LnNeutral.long at h
  rw [Bool.and_eq_true] at h
  have h2 := h.2
  unfold bV NLines.bytesOf
  rw [List.map_map]
  refine List.map_congr_left fun x hx => ?_
  have hx2 := List.all_eq_true.mp h2 x hx
  simp at hx2
  show V.int x = V.int (((UInt8.ofNat x.toNat).toNat : Nat) : Int)
  congr 1
  rw [UInt8.toNat_ofNat']
  omega
theorem long_nats {l : List Int} {n : Nat} {hi : Int} (h : LnNeutral.long l n 0 hi = true) : l.map V.int = vN (NLines.nats l) := by
  unfold LnNeutral.long at h
  rw [Bool.and_eq_true] at h
  have h2 := h.2
  unfold vN NLines.nats
  rw [List.map_map]
  refine List.map_congr_left fun x hx => ?_
  have hx2 := List.all_eq_true.mp h2 x hx
  simp at hx2
  show V.int x = V.int ((x.toNat : Nat) : Int)
  congr 1
  omega
def OneCall (rest : List Int) (c : List (List Int)) (t : List Int) : Prop := ∃ (p : Nat) (l : List Nat) (xs : List Int) (k : Ln.Call), LnNeutral.callOf c = some k ∧ CallY (p : Int) l (xs.map V.int) k ∧ numbersTab[p]? = some l.length ∧
  (((p = 12 ∨ p = 13 ∨ p = 14) ∧ rest = (p : Int) :: (intsN l ++ ((xs.length : Int) :: (xs ++ t)))) ∨ (¬ (p = 12 ∨ p = 13 ∨ p = 14) ∧ xs = [] ∧ rest = (p : Int) :: (intsN l ++ t)))
theorem call_law {p : Int} {r : List Int} {c : List (List Int)} {t : List Int} (h : PyFlat.call PyWqazaf.shape (p :: r) = some (c, t)) (ha : LnNeutral.asked1 c = true) : OneCall (p :: r) c t := by
  cases hs : PyWqazaf.shape p with
  | none =>
    unfold PyFlat.call at h
    simp only [hs] at h
    cases h
  | some nk =>
    obtain ⟨n, k⟩ := nk
    have s := shape_some hs
    rcases s with ⟨rfl, rfl, rfl⟩ | ⟨rfl, rfl, rfl⟩ | ⟨rfl, rfl, rfl⟩ | ⟨rfl, rfl, rfl⟩ | ⟨rfl, rfl, rfl⟩ | ⟨rfl, rfl, rfl⟩ | ⟨rfl, rfl, rfl⟩ | ⟨rfl, rfl, rfl⟩ | ⟨rfl, rfl, rfl⟩ | ⟨rfl, rfl, rfl⟩ | ⟨rfl, rfl, rfl⟩ | ⟨rfl, rfl, rfl⟩ | ⟨rfl, rfl, rfl⟩ | ⟨rfl, rfl, rfl⟩ | ⟨rfl, rfl, rfl⟩
    · obtain ⟨l, hl, hr, rfl⟩ := call_none hs h
      match l, hl with
      | [a], _ =>
        have w1 := w32 (show LnNeutral.whole32 a = true from ha)
        exact ⟨1, [a.toNat], [], _, rfl, .init _ _, rfl, .inr ⟨by decide, rfl, by rw [hr]; simp only [intsN, List.map, w1]; rfl⟩⟩
    · obtain ⟨l, hl, hr, rfl⟩ := call_none hs h
      match l, hl with
      | [a, b], _ =>
        have ha' := (show (LnNeutral.whole32 a && LnNeutral.whole32 b) = true from ha)
        rw [Bool.and_eq_true] at ha'
        have w1 := w32 ha'.1
        have w2 := w32 ha'.2
        exact ⟨2, [a.toNat, b.toNat], [], _, rfl, .a (.paint _ _) _, rfl, .inr ⟨by decide, rfl, by rw [hr]; simp only [intsN, List.map, w1, w2]; rfl⟩⟩
    · obtain ⟨l, hl, hr, rfl⟩ := call_none hs h
      match l, hl with
      | [a, b, d], _ =>
        have ha' := (show (LnNeutral.whole32 a && LnNeutral.whole32 b && LnNeutral.whole32 d) = true from ha)
        rw [Bool.and_eq_true, Bool.and_eq_true] at ha'
        have w1 := w32 ha'.1.1
        have w2 := w32 ha'.1.2
        have w3 := w32 ha'.2
        exact ⟨3, [a.toNat, b.toNat, d.toNat], [], _, rfl, .a (.arc _ _ _) _, rfl, .inr ⟨by decide, rfl, by rw [hr]; simp only [intsN, List.map, w1, w2, w3]; rfl⟩⟩
    · obtain ⟨l, hl, hr, rfl⟩ := call_none hs h
      match l, hl with
      | [a, b, d], _ =>
        have ha' := (show (LnNeutral.whole32 a && LnNeutral.whole32 b && LnNeutral.whole32 d) = true from ha)
        rw [Bool.and_eq_true, Bool.and_eq_true] at ha'
        have w1 := w32 ha'.1.1
        have w2 := w32 ha'.1.2
        have w3 := w32 ha'.2
        exact ⟨4, [a.toNat, b.toNat, d.toNat], [], _, rfl, .a (.cut _ _ _) _, rfl, .inr ⟨by decide, rfl, by rw [hr]; simp only [intsN, List.map, w1, w2, w3]; rfl⟩⟩
    · obtain ⟨l, hl, hr, rfl⟩ := call_none hs h
      match l, hl with
      | [a, b, d], _ =>
        have ha' := (show (LnNeutral.whole32 a && LnNeutral.whole32 b && LnNeutral.whole32 d) = true from ha)
        rw [Bool.and_eq_true, Bool.and_eq_true] at ha'
        have w1 := w32 ha'.1.1
        have w2 := w32 ha'.1.2
        have w3 := w32 ha'.2
        exact ⟨5, [a.toNat, b.toNat, d.toNat], [], _, rfl, .a (.has _ _ _) _, rfl, .inr ⟨by decide, rfl, by rw [hr]; simp only [intsN, List.map, w1, w2, w3]; rfl⟩⟩
    · obtain ⟨l, hl, hr, rfl⟩ := call_none hs h
      match l, hl with
      | [a], _ =>
        have w1 := w32 (show LnNeutral.whole32 a = true from ha)
        exact ⟨6, [a.toNat], [], _, rfl, .a (.look _) _, rfl, .inr ⟨by decide, rfl, by rw [hr]; simp only [intsN, List.map, w1]; rfl⟩⟩
    · obtain ⟨l, hl, hr, rfl⟩ := call_none hs h
      match l, hl with
      | [a, b], _ =>
        have ha' := (show (LnNeutral.whole32 a && LnNeutral.whole32 b) = true from ha)
        rw [Bool.and_eq_true] at ha'
        have w1 := w32 ha'.1
        have w2 := w32 ha'.2
        exact ⟨7, [a.toNat, b.toNat], [], _, rfl, .l (.same _ _ _), rfl, .inr ⟨by decide, rfl, by rw [hr]; simp only [intsN, List.map, w1, w2]; rfl⟩⟩
    · obtain ⟨l, hl, hr, rfl⟩ := call_none hs h
      match l, hl with
      | [a, b], _ =>
        have ha' := (show (LnNeutral.whole32 a && LnNeutral.whole32 b) = true from ha)
        rw [Bool.and_eq_true] at ha'
        have w1 := w32 ha'.1
        have w2 := w32 ha'.2
        exact ⟨8, [a.toNat, b.toNat], [], _, rfl, .l (.depth _ _ _), rfl, .inr ⟨by decide, rfl, by rw [hr]; simp only [intsN, List.map, w1, w2]; rfl⟩⟩
    · obtain ⟨l, hl, hr, rfl⟩ := call_none hs h
      match l, hl with
      | [a], _ =>
        have w1 := w32 (show LnNeutral.whole32 a = true from ha)
        exact ⟨9, [a.toNat], [], _, rfl, .l (.number _ _), rfl, .inr ⟨by decide, rfl, by rw [hr]; simp only [intsN, List.map, w1]; rfl⟩⟩
    · obtain ⟨l, hl, hr, rfl⟩ := call_none hs h
      match l, hl with
      | [], _ => exact ⟨10, [], [], _, rfl, .l (.count _), rfl, .inr ⟨by decide, rfl, by rw [hr]; rfl⟩⟩
    · obtain ⟨l, hl, hr, rfl⟩ := call_none hs h
      match l, hl with
      | [a, b], _ =>
        have ha' := (show (LnNeutral.whole32 a && LnNeutral.whole32 b) = true from ha)
        rw [Bool.and_eq_true] at ha'
        have w1 := w32 ha'.1
        have w2 := w32 ha'.2
        exact ⟨11, [a.toNat, b.toNat], [], _, rfl, .l (.tell _ _ _), rfl, .inr ⟨by decide, rfl, by rw [hr]; simp only [intsN, List.map, w1, w2]; rfl⟩⟩
    · obtain ⟨l, xs, hl, hr, rfl⟩ := call_row hs h
      match l, hl with
      | [a], _ =>
        have ha' := (show (LnNeutral.whole32 a && LnNeutral.long xs 66000 0 255) = true from ha)
        rw [Bool.and_eq_true] at ha'
        have w1 := w32 ha'.1
        exact ⟨12, [a.toNat], xs, _, rfl, by rw [long_bytes ha'.2]; exact .l (.holds _ _), rfl, .inl ⟨by decide, by rw [hr]; simp only [intsN, List.map, w1]; rfl⟩⟩
    · obtain ⟨l, xs, hl, hr, rfl⟩ := call_row hs h
      match l, hl with
      | [], _ => exact ⟨13, [], xs, _, rfl, by rw [long_bytes (show LnNeutral.long xs 66000 0 255 = true from ha)]; exact .l (.where_ _), rfl, .inl ⟨by decide, by rw [hr]; rfl⟩⟩
    · obtain ⟨l, xs, hl, hr, rfl⟩ := call_row hs h
      match l, hl with
      | [], _ => exact ⟨14, [], xs, _, rfl, by rw [long_nats (show LnNeutral.long xs 1000 0 4294967295 = true from ha)]; exact .l (.check _), rfl, .inl ⟨by decide, by rw [hr]; rfl⟩⟩
    · obtain ⟨l, hl, hr, rfl⟩ := call_none hs h
      match l, hl with
      | [], _ => exact ⟨15, [], [], _, rfl, .l (.quotient _), rfl, .inr ⟨by decide, rfl, by rw [hr]; rfl⟩⟩
theorem step_ans {c : List (List Int)} {k : Ln.Call} (st : Ln.State) (h : LnNeutral.callOf c = some k) : LnNeutral.step st c = ((Ln.step st k).1, ansI (Ln.step st k).2) := by
  unfold LnNeutral.step
  rw [h]
  rfl
/-- what is still to be read: the calls of the rest -/
theorem calls_next {f : Nat} {p : Int} {r : List Int} {cs : List (List (List Int))} (h : PyFlat.calls PyWqazaf.shape f (p :: r) = some cs) : ∃ f' c t cs', f = f' + 1 ∧ PyFlat.call PyWqazaf.shape (p :: r) = some (c, t) ∧ PyFlat.calls PyWqazaf.shape f' t = some cs' ∧ cs = c :: cs' := by
  cases f with
  | zero => cases h
  | succ f' =>
    unfold PyFlat.calls at h
    cases hc : PyFlat.call PyWqazaf.shape (p :: r) with
    | none => rw [hc] at h; cases h
    | some ct =>
      obtain ⟨c, t⟩ := ct
      rw [hc] at h
      simp only at h
      cases hcs : PyFlat.calls PyWqazaf.shape f' t with
      | none => rw [hcs] at h; cases h
      | some cs' =>
        rw [hcs] at h
        injection h with h
        exact ⟨f', c, t, cs', rfl, rfl, hcs, h.symm⟩
theorem played_play (st : Ln.State) : ∀ cs, LnNeutral.play st cs = PyFlat.played LnNeutral.step st cs
  | [] => rfl
  | c :: r => by
    unfold LnNeutral.play PyFlat.played
    simp only
    rw [played_play _ r]
theorem told_len : ∀ (as : List (List Int)) (n : Nat), n + (PyFlat.told as).length ≤ as.foldl (fun (n : Nat) (a : List Int) => n + LnNeutral.sizeOf a) n + 3 * as.length
  | [], n => by simp [PyFlat.told]
  | a :: r, n => by
    have ih := told_len r (n + LnNeutral.sizeOf a)
    have hs : a.length + 1 ≤ LnNeutral.sizeOf a + 3 := by
      unfold LnNeutral.sizeOf
      split <;> omega
    have e : (PyFlat.told (a :: r)).length = a.length + 1 + (PyFlat.told r).length := by
      simp [PyFlat.told, List.flatMap_cons]
      omega
    rw [e]
    simp only [List.foldl_cons, List.length_cons]
    omega
theorem asked_all {cs : List (List (List Int))} (h : LnNeutral.asked cs = true) : (∀ c ∈ cs, LnNeutral.asked1 c = true) ∧ (PyFlat.told (PyFlat.played LnNeutral.step LnNeutral.start cs)).length ≤ 2000000 := by
  unfold LnNeutral.asked at h
  rw [Bool.and_eq_true, Bool.and_eq_true, Bool.and_eq_true] at h
  obtain ⟨⟨⟨h1, _⟩, h3⟩, h4⟩ := h
  refine ⟨fun c hc => List.all_eq_true.mp h1 c hc, ?_⟩
  have h3 := of_decide_eq_true h3
  have h4 := of_decide_eq_true h4
  rw [played_play] at h4
  have := told_len (PyFlat.played LnNeutral.step LnNeutral.start cs) 0
  have lp : ∀ (st : Ln.State) (cs : List (List (List Int))), (PyFlat.played LnNeutral.step st cs).length = cs.length := by
    intro st cs
    induction cs generalizing st with
    | nil => rfl
    | cons c r ih => unfold PyFlat.played; simp [ih]
  rw [lp] at this
  omega
theorem answers_asked {L : List Int} (h : PyWqazaf.answers_asked L = true) : ∃ cs, PyFlat.calls PyWqazaf.shape L.length L = some cs ∧ (∀ c ∈ cs, LnNeutral.asked1 c = true) ∧ PyWqazaf.answers L = PyFlat.told (PyFlat.played LnNeutral.step LnNeutral.start cs) ∧ (PyWqazaf.answers L).length ≤ 2000000 := by
  have wid : ∀ cs : List (List (List Int)), cs.map PyWqazaf.whole = cs := fun cs => by
    rw [List.map_congr_left (fun c _ => whole_id c)]
    simp
  unfold PyWqazaf.answers_asked PyWqazaf.calls at h
  unfold PyWqazaf.answers PyWqazaf.calls
  cases hc : PyFlat.calls PyWqazaf.shape L.length L with
  | none => rw [hc] at h; cases h
  | some cs =>
    rw [hc] at h
    simp only [wid] at h ⊢
    rw [Bool.and_eq_true] at h
    obtain ⟨a1, a2⟩ := asked_all h.2
    exact ⟨cs, rfl, a1, rfl, a2⟩
end LkW
end

section
set_option Elab.async false
set_option linter.all false
set_option maxRecDepth 100000
set_option maxHeartbeats 2000000
/-! All calls, one behind the other. -/
namespace LkW
open PySem PySem.Spec PyProof.Rows L2 Evl Lk
open Ln (Sys Arc Bytes Form)
/-- all but what is locked stays -/
def Thaw (H H' : Hp) : Prop := ∀ b o, H b = some o → (∀ od u, o ≠ .frz od u) → H' b = some o
theorem thaw_upd {H : Hp} {fa : Addr} {od : Obj} {u o' : HO} (hf : H fa = some (.frz od u)) : Thaw H (upd H fa o') := fun b o hb nf => by
  by_cases z : b = fa
  · subst z
    rw [hf] at hb
    exact absurd (Option.some.inj hb).symm (nf _ _)
  · rw [upd_ne z]
    exact hb
theorem SysAt.thaw {C p : Addr} {H H' : Hp} {S : Sys} (t : Thaw H H') (h : SysAt C H p S) : SysAt C H' p S := by
  obtain ⟨dx, c, a, h1, h2, ks, a1, a2, a3⟩ := h
  exact ⟨dx, c, a, t _ _ h1 (fun _ _ z => nomatch z), t _ _ h2 (fun _ _ z => nomatch z), ks, t _ _ a1 (fun _ _ z => nomatch z), a2, fun p hp => t _ _ (a3 p hp) (fun _ _ z => nomatch z)⟩
theorem LevAt.thaw {CS CL p : Addr} {H H' : Hp} {S : Sys} {m : Nat} (t : Thaw H H') (h : LevAt CS CL H p S m) : LevAt CS CL H' p S m := by
  obtain ⟨hm, hst, dx, sp, ra, rs, h1, h2, h3, h4⟩ := h
  exact ⟨hm, hst, dx, sp, ra, rs, t _ _ h1 (fun _ _ z => nomatch z), h2.thaw t, t _ _ h3 (fun _ _ z => nomatch z), h4.1, fun i r l x y => t _ _ (h4.2 i r l x y) (fun _ _ z => nomatch z)⟩
theorem DeskG.thaw {CS CL CD p dx : Addr} {H H' : Hp} {st : Option Sys} (t : Thaw H H') (h : DeskG CS CL CD H p dx st) : DeskG CS CL CD H' p dx st := by
  obtain ⟨v1, v2, h1, h2⟩ := h
  refine ⟨v1, v2, t _ _ h1 (fun _ _ z => nomatch z), ?_⟩
  cases st with
  | none => exact h2
  | some S =>
    obtain ⟨W, ⟨sp, e1, e2⟩, h3⟩ := h2
    refine ⟨W, ⟨sp, e1, e2.thaw t⟩, ?_⟩
    rcases h3 with h3 | ⟨lv, m, h3, h4⟩
    · exact .inl h3
    · exact .inr ⟨lv, m, h3, h4.thaw t⟩
theorem ex_upd {H H1 : Hp} {fa : Addr} {o : HO} (e : Ex H H1) : Ex (upd H fa o) (upd H1 fa o) := fun b u h => by
  by_cases z : b = fa
  · subst z
    rw [upd_same] at h ⊢
    exact h
  · rw [upd_ne z] at h ⊢
    exact e b u h
section
variable {P : Program} {w : World} {K : PySem.W.Frag} {mg : Str → Option Value} {base : Heap} (T : Txt K mg)
def tlAns : TS := tSeq (tAsg (tLockE (tMeth T.cDesk.C "answer" (spAns T.cSystem.C T.cLevels.C T.cDesk.C) [] E0 (tVar 1) (tCons (tVar 4) (tCons (tVar 6) (tCons (tVar 7) tNil))))) (gName 8))
  (tSeq (tDrop (tBM K "list" rAppend (tVar 2) (tCons (tCB (rLenS K) (tCons (tVar 8) tNil)) tNil))) (tSeq (tDrop (tBM K "list" rExtend (tVar 2) (tCons (tVar 8) tNil))) (tAsg (tVar 5) (gName 3))))
theorem tail_go {D : Ends} {H : Hp} {a p dx fa q r : Addr} {pl e' : Nat} {c : Nat} {l : List Nat} {xs : List V} {k : Ln.Call} {st : Option Sys} {done : List Int} {v8 : Option V}
    (hfa : H fa = some (.lst (done.map V.int))) (sep : ∀ od u, DeskG T.cSystem.C T.cLevels.C T.cDesk.C (upd H fa (.frz od u)) p dx st) (hq : H q = some (.lst (vN l))) (hr : H r = some (.lst xs)) (nq : q ≠ fa) (nr : r ≠ fa)
    (ca : CallY (c : Int) l xs k) (few : (done ++ (((ansI (Ln.step st k).2).length : Int) :: ansI (Ln.step st k).2)).length ≤ 2000000)
    (kk : ∀ v8 H2, H2 fa = some (.lst ((done ++ (((ansI (Ln.step st k).2).length : Int) :: ansI (Ln.step st k).2)).map V.int)) → (∀ od u, DeskG T.cSystem.C T.cLevels.C T.cDesk.C (upd H2 fa (.frz od u)) p dx (Ln.step st k).1) →
      (∀ b o, H b = some o → b ≠ p → b ≠ fa → H2 b = some o) → D.nx [some (.ref a), some (.ref p), some (.ref fa), some (.int (e' : Int)), some (.int (c : Int)), some (.int (e' : Int)), some (.ref q), some (.ref r), v8] H2) :
    tlAns T D [some (.ref a), some (.ref p), some (.ref fa), some (.int (pl : Int)), some (.int (c : Int)), some (.int (e' : Int)), some (.ref q), some (.ref r), v8] H := by
  refine qasg_x ⟨fa, _, hfa, trivial, fun od => ?_⟩
  have g := sep od (.lst (done.map V.int))
  obtain ⟨v1, v2, hp, _⟩ := id g
  have nfp : fa ≠ p := fun z => by
    rw [← z, upd_same] at hp
    cases hp
  refine x_meth (ev_var rfl) hp (dkF_none _ _ _) (ea_cons (ev_var rfl) (ea_cons (ev_var rfl) (ea_cons (ev_var rfl) ea_nil))) fun H1 e1 => ⟨p, dx, st, c, q, l, r, xs, k, rfl, e1 _ _ (by rw [upd_ne nq]; exact hq), e1 _ _ (by rw [upd_ne nr]; exact hr), ca, g.mono e1, fun v H2 b2 g2 ⟨ra, ev, hra⟩ => ?_⟩
  have hf2 : H2 fa = some (.frz od (.lst (done.map V.int))) := b2 fa _ (e1 _ _ upd_same) nfp
  refine ⟨hf2, ?_⟩
  subst ev
  generalize ha : ansI (Ln.step st k).2 = ans at *
  have nra : ra ≠ fa := fun z => by
    rw [z, hf2] at hra
    cases hra
  have len : done.length + (ans.length + 1) ≤ 2000000 := by
    simpa using few
  have l1 : ∀ m : Nat, m ≤ 2000000 → m < sizeLine := fun m h => Nat.lt_of_le_of_lt h (by decide)
  refine ⟨.ref fa, rfl, Or.inl ⟨rfl, _, sq_of upd_same⟩, .ref ra, rfl, ra, ans.map V.int, rfl, .inl (sq_of (by rw [upd_ne nra]; exact hra)), fa, done.map V.int, _, rfl, rfl, upd_same, l1 _ (by rw [List.length_map]; omega), ?_⟩
  refine ⟨.ref fa, rfl, Or.inl ⟨rfl, _, sq_of upd_same⟩, .ref ra, rfl, fa, ra, _, ans.map V.int, rfl, rfl, upd_same, by rw [upd_ne nra, upd_ne nra]; exact hra, Nat.le_of_lt (l1 _ (by simp only [List.length_append, List.length_map, List.length_cons, List.length_nil]; omega)), ?_⟩
  refine ⟨_, rfl, kk _ _ ?_ (fun od' u' => ?_) fun b o hb n1 n2 => ?_⟩
  · rw [upd_same]
    simp
  · rw [upd_upd, upd_upd, upd_upd]
    exact g2.thaw (thaw_upd hf2)
  · rw [upd_ne n2, upd_ne n2, upd_ne n2]
    exact b2 b o (e1 b o (by rw [upd_ne n2]; exact hb)) n1
theorem cut_mid {L pre l rest : List Int} {i j : Nat} (h : L = pre ++ (l ++ rest)) (hi : i = pre.length) (hj : j = pre.length + l.length) : cutV (L.map V.int) (some (i : Int)) (some (j : Int)) = l.map V.int := by
  subst h
  subst hi
  subst hj
  unfold cutV
  have hl : ((pre ++ (l ++ rest)).map V.int).length = pre.length + (l.length + rest.length) := by simp
  rw [HT.sIx_nat, HT.sIx_nat, hl, Nat.min_eq_left (by omega), Nat.min_eq_left (by omega), Nat.add_sub_cancel_left, ← List.map_drop, ← List.map_take, List.drop_left, List.take_left]
def spAnsw (K : PySem.W.Frag) : Sp := fun vs H Q _ => ∃ a L, vs = [.ref a] ∧ SqL K H a (L.map V.int) ∧ PyWqazaf.answers_asked L = true ∧ ∀ H' r, H' r = some (.lst ((PyWqazaf.answers L).map V.int)) → Q (.ref r) H'
theorem in_row {c : Nat} : inV (.int (c : Int)) ([12, 13, 14].map V.int) = decide (c = 12 ∨ c = 13 ∨ c = 14) := by
  refine Bool.eq_iff_iff.mpr ?_
  rw [decide_eq_true_eq]
  simp only [inV, List.map, List.any, eqV, Bool.or_eq_true, Bool.or_false]
  simp
  omega
theorem tab_num {c n : Nat} (h : numbersTab[c]? = some n) : (([0, 1, 2, 3, 3, 3, 1, 2, 2, 1, 0, 2, 1, 0, 0, 0] : List Int).map V.int)[c]? = some (.int (n : Int)) := by
  have : (([0, 1, 2, 3, 3, 3, 1, 2, 2, 1, 0, 2, 1, 0, 0, 0] : List Int).map V.int) = numbersTab.map fun (n : Nat) => V.int (n : Int) := rfl
  rw [this, List.getElem?_map, h]
  rfl
theorem at_mid {L pre rest : List Int} {z : Int} (h : L = pre ++ (z :: rest)) {i : Nat} (hi : i = pre.length) : atI (L.map V.int) (i : Int) = some (.int z) := by
  refine atI_nat ?_
  rw [List.getElem?_map, h, hi, List.getElem?_append_right (Nat.le_refl _), Nat.sub_self]
  rfl
theorem intsN_V (l : List Nat) : (intsN l).map V.int = vN l := (vN_int l).symm
set_option maxHeartbeats 4000000 in
theorem ok_answers : FnOk P w K mg base CX0 207 T.answers.f T.answers.fd ["calls"] (spAnsw K) := by
  have G_Desk_init0 := ok_Desk_init0 (P := P) (w := w) (base := base) T
  have G_Desk_answer := ok_Desk_answer (P := P) (w := w) (base := base) T
  refine T.answers.F.ok sc_answers (fun vs H Q E h => ?_) (fun cdv A outer s H vs Q E hr h => ⟨_, (pss_cons (ps_set (i := 1) sc_answers.nd rfl (Or.inl rfl) (pe_make0 T.mk_Desk G_Desk_init0 (hr.mono (by first | decide | omega)) (by rfl) T.cDesk.g T.b_Desk_init0 .nil pass0)) (pss_cons (ps_set (i := 2) sc_answers.nd rfl (Or.inl rfl) (pe_lst pa_nil)) (pss_cons (ps_set (i := 3) sc_answers.nd rfl (Or.inl rfl) pe_int) (pss_cons (ps_while PassesOwn.never (pt_cmpR op_gt (pe_op op_sub (pe_callB call_len_seq (by rfl) T.g_len (by decide +kernel) (pa_cons (pv 0) pa_nil)) (pv 3)) pe_int (nomark _)) (pss_cons (ps_set (i := 4) sc_answers.nd rfl (Or.inl rfl) (pe_ix ix_list (pv 0) (pv 3) (fun _ _ => rfl))) (pss_cons (ps_set (i := 5) sc_answers.nd rfl (Or.inl rfl) (pe_op op_add (pe_op op_add (pv 3) pe_int) (pe_ix ix_tup (pe_tupK (by rfl) T.t_NUMBERS) (pv 4) (fun _ _ => rfl)))) (pss_cons (ps_set (i := 6) sc_answers.nd rfl (Or.inl rfl) (pe_slice sl_list (pv 0) (po_some (pe_op op_add (pv 3) pe_int)) (po_some (pv 5)))) (pss_cons (ps_set (i := 7) sc_answers.nd rfl (Or.inl rfl) (pe_lst pa_nil)) (pss_cons (ps_if (pt_cmpR op_in_seq (pv 4) (pe_tupK (by rfl) T.t_WITH_ROW) (by rfl)) (pss_cons (ps_set (i := 7) sc_answers.nd rfl (Or.inl rfl) (pe_slice sl_list (pv 0) (po_some (pe_op op_add (pv 5) pe_int)) (po_some (pe_op op_add (pe_op op_add (pv 5) pe_int) (pe_ix ix_list (pv 0) (pv 5) (fun _ _ => rfl)))))) (pss_one (ps_set (i := 5) sc_answers.nd rfl (Or.inl rfl) (pe_op op_add (pe_op op_add (pv 5) pe_int) (pe_callB call_len_seq (by rfl) T.g_len (by decide +kernel) (pa_cons (pv 7) pa_nil)))))) pss_nil) (pss_cons (ps_set (i := 8) sc_answers.nd rfl (Or.inl rfl) (pe_lock (pe_meth (pv 1) T.cDesk.cl T.Desk_answer.m G_Desk_answer (hr.mono (by first | decide | omega)) T.b_Desk_answer .nil pass0 (pa_cons (pv 4) (pa_cons (pv 6) (pa_cons (pv 7) pa_nil)))))) (pss_cons (ps_expr (pe_bm PySem.F.plainAttrs_list PySem.F.slot_list_append PySem.F.type_list_append mt_append (pv 2) (pa_cons (pe_callB call_len_seq (by rfl) T.g_len (by decide +kernel) (pa_cons (pv 8) pa_nil)) pa_nil))) (pss_cons (ps_expr (pe_bm PySem.F.plainAttrs_list PySem.F.slot_list_extend PySem.F.type_list_extend mt_extend (pv 2) (pa_cons (pv 8) pa_nil))) (pss_one (ps_set (i := 3) sc_answers.nd rfl (Or.inl rfl) (pv 5)))))))))))) (pss_one (ps_ret (pv 2))))))), ?_⟩)
  · obtain ⟨a, L, rfl, _⟩ := h
    rfl
  · obtain ⟨a, L, rfl, hL, ask, k⟩ := h
    obtain ⟨cs0, hcs, hall, hans, hlen⟩ := answers_asked ask
    refine qasg_x fun p dx np nd ne => ⟨p, dx, rfl, upd_same, fun H1 h1 b1 => ⟨rfl, ?_⟩⟩
    have e1 : Ex H H1 := Same.made np nd b1
    refine qasg_x (el_lst (vs := []) ea_nil (by show 0 ≤ _; decide) H1 (Ex.refl _) _ fun fa H2 nf e2 hf => ?_)
    have nfp : p ≠ fa := fun z => by
      rw [z, nf] at h1
      cases h1
    have nfH : H fa = none := fresh_back e1 nf
    refine q_asg ev_c fun H3 e3 => ?_
    have e23 := e2.trans e3
    refine q_while (fun n σ' H' => ∃ (rest pre done : List Int) (cs : List (List (List Int))) (st : Ln.State) (f : Nat) (v4 v5 v6 v7 v8 : Option V), σ' = [some (.ref a), some (.ref p), some (.ref fa), some (.int (pre.length : Int)), v4, v5, v6, v7, v8] ∧
      L = pre ++ rest ∧ PyFlat.calls PyWqazaf.shape f rest = some cs ∧ (∀ c ∈ cs, LnNeutral.asked1 c = true) ∧ done ++ PyFlat.told (PyFlat.played LnNeutral.step st cs) = PyWqazaf.answers L ∧ n = rest.length ∧ Ex H H' ∧ H' fa = some (.lst (done.map V.int)) ∧
      ∀ od u, DeskG T.cSystem.C T.cLevels.C T.cDesk.C (upd H' fa (.frz od u)) p dx st) L.length
      ⟨L, [], [], cs0, none, L.length, none, none, none, none, none, rfl, rfl, hcs, hall, hans.symm, rfl, (e1.trans e2).trans e3, e3 _ _ hf, fun od u => ⟨.non, .non, by rw [upd_ne nfp]; exact e23 _ _ h1, rfl, rfl⟩⟩ ?_
    rintro n σ' H' ⟨rest, pre, done, cs, st, f, v4, v5, v6, v7, v8, rfl, hsp, hcs, hall, hd, rfl, e, hfa, sep⟩
    have hLl : (L.map V.int).length = pre.length + rest.length := by rw [List.length_map, hsp, List.length_append]
    refine ⟨decide (0 < rest.length), et_test (ev_is (ev_op (ev_op (ev_len (K := K) (ev_var rfl) (ex_l e hL)) (ev_var rfl) rv_I0) ev_c rv_I0) ?_), fun hb H4 e4 => ?_, fun hb H4 e4 => ?_⟩
    · congr 1
      rw [hLl]
      exact decide_eq_decide.mpr (by omega)
    · have hb := of_decide_eq_true hb
      match rest, hb, hsp, hcs, hLl with
      | p0 :: r0, hb, hsp, hcs, hLl =>
        obtain ⟨f', c, t, cs', rfl, hc, hcs', rfl⟩ := calls_next hcs
        obtain ⟨pn, l, xs, kc, hk, ca, htab, hform⟩ := call_law hc (hall c (by simp))
        have hstep := step_ans st hk
        have hd2 : PyFlat.told (PyFlat.played LnNeutral.step st (c :: cs')) = (((ansI (Ln.step st kc).2).length : Int) :: ansI (Ln.step st kc).2) ++ PyFlat.told (PyFlat.played LnNeutral.step (Ln.step st kc).1 cs') := by
          rw [PyFlat.played, hstep]
          rfl
        rw [hd2, ← List.append_assoc] at hd
        have few : (done ++ (((ansI (Ln.step st kc).2).length : Int) :: ansI (Ln.step st kc).2)).length ≤ 2000000 := by
          have := congrArg List.length hd
          rw [List.length_append] at this
          omega
        have hp0 : p0 = (pn : Int) := by
          rcases hform with ⟨_, z⟩ | ⟨_, _, z⟩ <;> (injection z)
        subst hp0
        have e' := e.trans e4
        refine ⟨fun σ2 H2 => ∃ (pre done : List Int) (v4 v5 v6 v7 v8 : Option V), σ2 = [some (.ref a), some (.ref p), some (.ref fa), some (.int (pre.length : Int)), v4, v5, v6, v7, v8] ∧
          L = pre ++ t ∧ done ++ PyFlat.told (PyFlat.played LnNeutral.step (Ln.step st kc).1 cs') = PyWqazaf.answers L ∧ Ex H H2 ∧ H2 fa = some (.lst (done.map V.int)) ∧
          ∀ od u, DeskG T.cSystem.C T.cLevels.C T.cDesk.C (upd H2 fa (.frz od u)) p dx (Ln.step st kc).1, fun σ2 H2 ⟨pre, done, v4, v5, v6, v7, v8, a1, a2, a3, a4, a5, a6⟩ => ⟨t.length, ?_, t, pre, done, cs', _, f', v4, v5, v6, v7, v8, a1, a2, hcs', fun c hc => hall c (by simp [hc]), a3, rfl, a4, a5, a6⟩, ?_⟩
        · rcases hform with ⟨_, z⟩ | ⟨_, _, z⟩
          · rw [z]
            simp
            omega
          · rw [z]
            simp
            omega
        have body : L = pre ++ ((pn : Int) :: r0) := hsp
        refine q_asg (v := .int (pn : Int)) (ev_op (ev_var rfl) (ev_var rfl) (rv_ixL (ex_l e' hL) (at_mid body rfl))) fun H5 e5 => ?_
        refine q_asg (v := .int ((pre.length + 1 + l.length : Nat) : Int)) (ev_is (ev_op (ev_op (ev_var rfl) ev_c rv_I0) (ev_op ev_c (ev_var rfl) (rv_ixT (T.t_NUMBERS.t _) (atI_nat (tab_num htab)))) rv_I0) (by congr 1)) fun H6 e6 => ?_
        have e46 := e5.trans e6
        have eH6 := e'.trans e46
        refine qasg_x (el_sl (lo := some ((pre.length + 1 : Nat) : Int)) (hi := some ((pre.length + 1 + l.length : Nat) : Int)) (ev_var rfl) (eo_some (ev_is (ev_op (ev_var rfl) ev_c rv_I0) (by congr 1))) (eo_some (ev_var rfl)) (ex_l eH6 hL) H6 (Ex.refl _) _ fun q H7 nq e7 hq => ?_)
        have hf6 := e46 _ _ (e4 _ _ hfa)
        have nqf : q ≠ fa := fun z => by
          rw [z, hf6] at nq
          cases nq
        refine qasg_x (el_lst (vs := []) ea_nil (by show 0 ≤ _; decide) H7 (Ex.refl _) _ fun r H8 nr e8 hr0 => ?_)
        have nrf : r ≠ fa := fun z => by
          rw [z, e7 _ _ hf6] at nr
          cases nr
        have e48 := (e46.trans e7).trans e8
        have fin : ∀ (e9 : Nat) (r' : Addr) (v8 : Option V) (H9 : Hp) (D : Ends), Ex H8 H9 → H9 r' = some (.lst (xs.map V.int)) → r' ≠ fa → (∃ pre' : List Int, e9 = pre'.length ∧ L = pre' ++ t) → H9 q = some (.lst (vN l)) →
            (∀ σ2 H2, (∃ (pre done : List Int) (v4 v5 v6 v7 v8 : Option V), σ2 = [some (.ref a), some (.ref p), some (.ref fa), some (.int (pre.length : Int)), v4, v5, v6, v7, v8] ∧
              L = pre ++ t ∧ done ++ PyFlat.told (PyFlat.played LnNeutral.step (Ln.step st kc).1 cs') = PyWqazaf.answers L ∧ Ex H H2 ∧ H2 fa = some (.lst (done.map V.int)) ∧
              ∀ od u, DeskG T.cSystem.C T.cLevels.C T.cDesk.C (upd H2 fa (.frz od u)) p dx (Ln.step st kc).1) → D.nx σ2 H2) →
            tlAns T D [some (.ref a), some (.ref p), some (.ref fa), some (.int (pre.length : Int)), some (.int (pn : Int)), some (.int (e9 : Int)), some (.ref q), some (.ref r'), v8] H9 := by
          rintro e9 r' v8 H9 D e89 hr' nr' ⟨pre', rfl, hpre⟩ hq9 kk
          have e49 := e48.trans e89
          have eH9 := e'.trans e49
          refine tail_go T (e49 _ _ (e4 _ _ hfa)) (fun od u => (sep od u).mono (ex_upd (e4.trans e49))) hq9 hr' nqf nr' ca few fun v8' H10 g1 g2 g3 => kk _ _ ⟨pre', _, _, _, _, _, _, rfl, hpre, hd, fun b o hb => ?_, g1, g2⟩
          exact g3 b o (eH9 b o hb) (fun z => by rw [z, np] at hb; cases hb) (fun z => by rw [z, nfH] at hb; cases hb)
        have hqv : H8 q = some (.lst (vN l)) := by
          have hz := e8 _ _ hq
          rw [cut_mid (l := intsN l) (pre := pre ++ [(pn : Int)]) (rest := r0.drop l.length) ?_ (by simp) (by simp), intsN_V] at hz
          · exact hz
          · rw [body]
            rcases hform with ⟨_, z⟩ | ⟨_, _, z⟩
            · injection z with _ z
              rw [z]
              simp [intsN]
            · injection z with _ z
              rw [z]
              simp [intsN]
        refine q_when (b := decide (pn = 12 ∨ pn = 13 ∨ pn = 14)) (et_test (ev_is (ev_op (ev_var rfl) ev_c (rv_isT (T.t_WITH_ROW.t _) rfl rfl)) (congrArg V.bl in_row))) (fun h H9 e9 => ?_) fun h H9 e9 => ?_
        · rcases hform with ⟨_, z⟩ | ⟨z, _⟩
          · injection z with _ z
            have body2 : L = (pre ++ [(pn : Int)] ++ intsN l) ++ ((xs.length : Int) :: (xs ++ t)) := by
              rw [body, z]
              simp
            have body3 : L = (pre ++ [(pn : Int)] ++ intsN l ++ [(xs.length : Int)]) ++ (xs ++ t) := by
              rw [body2]
              simp
            have eH9 := (e'.trans e48).trans e9
            refine qasg_x (el_sl (lo := some ((pre.length + 1 + l.length + 1 : Nat) : Int)) (hi := some ((pre.length + 1 + l.length + 1 + xs.length : Nat) : Int)) (ev_var rfl) (eo_some (ev_is (ev_op (ev_var rfl) ev_c rv_I0) (by congr 1)))
              (eo_some (ev_is (ev_op (ev_op (ev_var rfl) ev_c rv_I0) (ev_op (ev_var rfl) (ev_var rfl) (rv_ixL (ex_l eH9 hL) (at_mid body2 (by simp only [List.length_append, List.length_cons, List.length_nil, List.length_map, intsN] <;> omega)))) rv_I0) (by congr 1))) (ex_l eH9 hL) H9 (Ex.refl _) _ fun r' H10 nr' e10 hr' => ?_)
            rw [cut_mid body3 (by simp only [List.length_append, List.length_cons, List.length_nil, List.length_map, intsN] <;> omega) (by simp only [List.length_append, List.length_cons, List.length_nil, List.length_map, intsN] <;> omega)] at hr'
            have nrf' : r' ≠ fa := fun z => by
              rw [z, (e48.trans e9) _ _ (e4 _ _ hfa)] at nr'
              cases nr'
            refine s_asg (v := .int ((pre.length + 1 + l.length + 1 + xs.length : Nat) : Int)) (ev_is (ev_op (ev_op (ev_var rfl) ev_c rv_I0) (ev_len (K := K) (ev_var rfl) (sq_of hr')) rv_I0) (by congr 1; rw [List.length_map]; omega)) fun H11 e11 => ?_
            refine fin _ r' _ H11 _ ((e9.trans e10).trans e11) (e11 _ _ hr') nrf' ⟨pre ++ [(pn : Int)] ++ intsN l ++ [(xs.length : Int)] ++ xs, (by simp only [List.length_append, List.length_cons, List.length_nil, List.length_map, intsN] <;> omega), by rw [body3]; simp⟩ (e11 _ _ (e10 _ _ (e9 _ _ hqv))) fun σ2 H2 z => z
          · exact absurd (of_decide_eq_true h) z
        · rcases hform with ⟨z, _⟩ | ⟨_, hx, z⟩
          · exact absurd z (of_decide_eq_false h)
          · injection z with _ z
            refine fin _ r _ H9 _ e9 (by rw [hx]; exact e9 _ _ hr0) nrf ⟨pre ++ [(pn : Int)] ++ intsN l, (by simp only [List.length_append, List.length_cons, List.length_nil, List.length_map, intsN] <;> omega), by rw [body, z]; simp⟩ (e9 _ _ hqv) fun σ2 H2 z => z
    · have hb := of_decide_eq_false hb
      match rest, hb, hcs with
      | [], _, hcs =>
        have : cs = [] := by
          have z : PyFlat.calls PyWqazaf.shape f [] = some [] := by cases f <;> rfl
          rw [z] at hcs
          exact (Option.some.inj hcs).symm
        subst this
        have hd2 : done = PyWqazaf.answers L := by
          rw [← hd]
          simp [PyFlat.played, PyFlat.told]
        exact s_ret (ev_var rfl) fun H5 e5 => k H5 fa (by rw [← hd2]; exact e5 _ _ (e4 _ _ hfa))
      | _ :: _, hb, _ => exact absurd (Nat.succ_pos _) hb
end
end LkW
end

section
set_option Elab.async false
set_option linter.all false
/-! The end: the facts of the top, put together; the request. -/
namespace LkW
open PySem PySem.Spec PyProof.Rows L2
/-- an error of the class at S is what the clause of S names -/
theorem exm_self {K : PySem.W.Frag} {S : Addr} (h1 : PySem.W.subIn K (.ref S) (.type "BaseException") = some true) (h2 : PySem.W.isClsIn K S = true) (h3 : PySem.W.typeIn K (.ref S) = some (.type "type")) (h4 : PySem.W.subIn K (.ref S) (.ref S) = some true) :
    PySem.W.exmOne K (.ref S) (.ref S) = some true := by
  have e1 : (PySem.W.subIn K (.ref S) (.type "BaseException") == some true) = true := by rw [h1] <;> rfl
  have e2 : ((PySem.W.clsIn K S).isSome && PySem.W.typeIn K (.ref S) == some (.type "type")) = true := by
    have h2' : (PySem.W.clsIn K S).isSome = true := h2
    rw [h2', h3] <;> rfl
  show (if (PySem.W.subIn K (.ref S) (.type "BaseException") == some true) = true then (if ((PySem.W.clsIn K S).isSome && PySem.W.typeIn K (.ref S) == some (.type "type")) = true then PySem.W.subIn K (.ref S) (.ref S) else none) else none) = some true
  rw [if_pos e1, if_pos e2]
  exact h4
set_option maxRecDepth 100000 in
set_option maxHeartbeats 8000000 in
theorem all_mk {P : Program} {w : World} {K : PySem.W.Frag} {h : Heap} {mg : Str → Option Value} {fa : Addr} (X : K.In h) (G : h.Ns mainGlobals mg) (hfa : mg "answers" = some (.ref fa))
    {C_Fault N_Fault : Addr} {nm_Fault q_Fault : Str} {bs_Fault sub_Fault : List Value} {sn_Fault : List Str} {ab_Fault : Bool} {col_Fault : Option Bool} {dd_Fault : Option Addr} {k0_Fault k1_Fault k2_Fault k3_Fault k5_Fault : Option Value}
    {C_Asker : Addr}
    {C_Teller : Addr}
    {C_System : Addr}
    {C_Levels : Addr}
    {C_Refused N_Refused : Addr} {nm_Refused q_Refused : Str} {bs_Refused sub_Refused : List Value} {sn_Refused : List Str} {ab_Refused : Bool} {col_Refused : Option Bool} {dd_Refused : Option Addr} {k0_Refused k1_Refused k2_Refused k3_Refused k5_Refused : Option Value}
    {C_Desk : Addr}
    {f_Fault_init0 : Addr} {oc_Fault_init0 kV_Fault_init0 dc_Fault_init0 pm_Fault_init0 cd_Fault_init0 ct_Fault_init0 : Value} {od_Fault_init0 an_Fault_init0 : Option Addr} {sl_Fault_init0 : Array (Option Value)}
    {f_figures_end : Addr} {oc_figures_end kV_figures_end dc_figures_end pm_figures_end cd_figures_end ct_figures_end : Value} {od_figures_end an_figures_end : Option Addr} {sl_figures_end : Array (Option Value)}
    {f_number_at : Addr} {oc_number_at kV_number_at dc_number_at pm_number_at cd_number_at ct_number_at : Value} {od_number_at an_number_at : Option Addr} {sl_number_at : Array (Option Value)}
    {f_Asker_init0 : Addr} {oc_Asker_init0 kV_Asker_init0 dc_Asker_init0 pm_Asker_init0 cd_Asker_init0 ct_Asker_init0 : Value} {od_Asker_init0 an_Asker_init0 : Option Addr} {sl_Asker_init0 : Array (Option Value)}
    {f_Asker_byte : Addr} {oc_Asker_byte kV_Asker_byte dc_Asker_byte pm_Asker_byte cd_Asker_byte ct_Asker_byte : Value} {od_Asker_byte an_Asker_byte : Option Addr} {sl_Asker_byte : Array (Option Value)}
    {f_Asker_need : Addr} {oc_Asker_need kV_Asker_need dc_Asker_need pm_Asker_need cd_Asker_need ct_Asker_need : Value} {od_Asker_need an_Asker_need : Option Addr} {sl_Asker_need : Array (Option Value)}
    {f_Asker_everywhere : Addr} {oc_Asker_everywhere kV_Asker_everywhere dc_Asker_everywhere pm_Asker_everywhere cd_Asker_everywhere ct_Asker_everywhere : Value} {od_Asker_everywhere an_Asker_everywhere : Option Addr} {sl_Asker_everywhere : Array (Option Value)}
    {f_Asker_of_colour : Addr} {oc_Asker_of_colour kV_Asker_of_colour dc_Asker_of_colour pm_Asker_of_colour cd_Asker_of_colour ct_Asker_of_colour : Value} {od_Asker_of_colour an_Asker_of_colour : Option Addr} {sl_Asker_of_colour : Array (Option Value)}
    {f_Asker_leading : Addr} {oc_Asker_leading kV_Asker_leading dc_Asker_leading pm_Asker_leading cd_Asker_leading ct_Asker_leading : Value} {od_Asker_leading an_Asker_leading : Option Addr} {sl_Asker_leading : Array (Option Value)}
    {f_Asker_number : Addr} {oc_Asker_number kV_Asker_number dc_Asker_number pm_Asker_number cd_Asker_number ct_Asker_number : Value} {od_Asker_number an_Asker_number : Option Addr} {sl_Asker_number : Array (Option Value)}
    {f_Asker_begin : Addr} {oc_Asker_begin kV_Asker_begin dc_Asker_begin pm_Asker_begin cd_Asker_begin ct_Asker_begin : Value} {od_Asker_begin an_Asker_begin : Option Addr} {sl_Asker_begin : Array (Option Value)}
    {f_Asker_end : Addr} {oc_Asker_end kV_Asker_end dc_Asker_end pm_Asker_end cd_Asker_end ct_Asker_end : Value} {od_Asker_end an_Asker_end : Option Addr} {sl_Asker_end : Array (Option Value)}
    {f_Asker_asked : Addr} {oc_Asker_asked kV_Asker_asked dc_Asker_asked pm_Asker_asked cd_Asker_asked ct_Asker_asked : Value} {od_Asker_asked an_Asker_asked : Option Addr} {sl_Asker_asked : Array (Option Value)}
    {f_where_holds : Addr} {oc_where_holds kV_where_holds dc_where_holds pm_where_holds cd_where_holds ct_where_holds : Value} {od_where_holds an_where_holds : Option Addr} {sl_where_holds : Array (Option Value)}
    {f_codes : Addr} {oc_codes kV_codes dc_codes pm_codes cd_codes ct_codes : Value} {od_codes an_codes : Option Addr} {sl_codes : Array (Option Value)}
    {f_Teller_init0 : Addr} {oc_Teller_init0 kV_Teller_init0 dc_Teller_init0 pm_Teller_init0 cd_Teller_init0 ct_Teller_init0 : Value} {od_Teller_init0 an_Teller_init0 : Option Addr} {sl_Teller_init0 : Array (Option Value)}
    {f_Teller_tell : Addr} {oc_Teller_tell kV_Teller_tell dc_Teller_tell pm_Teller_tell cd_Teller_tell ct_Teller_tell : Value} {od_Teller_tell an_Teller_tell : Option Addr} {sl_Teller_tell : Array (Option Value)}
    {f_Teller_made : Addr} {oc_Teller_made kV_Teller_made dc_Teller_made pm_Teller_made cd_Teller_made ct_Teller_made : Value} {od_Teller_made an_Teller_made : Option Addr} {sl_Teller_made : Array (Option Value)}
    {f_Teller_is_alike : Addr} {oc_Teller_is_alike kV_Teller_is_alike dc_Teller_is_alike pm_Teller_is_alike cd_Teller_is_alike ct_Teller_is_alike : Value} {od_Teller_is_alike an_Teller_is_alike : Option Addr} {sl_Teller_is_alike : Array (Option Value)}
    {f_Teller_by_arc : Addr} {oc_Teller_by_arc kV_Teller_by_arc dc_Teller_by_arc pm_Teller_by_arc cd_Teller_by_arc ct_Teller_by_arc : Value} {od_Teller_by_arc an_Teller_by_arc : Option Addr} {sl_Teller_by_arc : Array (Option Value)}
    {f_short : Addr} {oc_short kV_short dc_short pm_short cd_short ct_short : Value} {od_short an_short : Option Addr} {sl_short : Array (Option Value)}
    {f_all_of : Addr} {oc_all_of kV_all_of dc_all_of pm_all_of cd_all_of ct_all_of : Value} {od_all_of an_all_of : Option Addr} {sl_all_of : Array (Option Value)}
    {f_System_init0 : Addr} {oc_System_init0 kV_System_init0 dc_System_init0 pm_System_init0 cd_System_init0 ct_System_init0 : Value} {od_System_init0 an_System_init0 : Option Addr} {sl_System_init0 : Array (Option Value)}
    {f_System_many : Addr} {oc_System_many kV_System_many dc_System_many pm_System_many cd_System_many ct_System_many : Value} {od_System_many an_System_many : Option Addr} {sl_System_many : Array (Option Value)}
    {f_System_painted : Addr} {oc_System_painted kV_System_painted dc_System_painted pm_System_painted cd_System_painted ct_System_painted : Value} {od_System_painted an_System_painted : Option Addr} {sl_System_painted : Array (Option Value)}
    {f_System_with_arc : Addr} {oc_System_with_arc kV_System_with_arc dc_System_with_arc pm_System_with_arc cd_System_with_arc ct_System_with_arc : Value} {od_System_with_arc an_System_with_arc : Option Addr} {sl_System_with_arc : Array (Option Value)}
    {f_System_without_arc : Addr} {oc_System_without_arc kV_System_without_arc dc_System_without_arc pm_System_without_arc cd_System_without_arc ct_System_without_arc : Value} {od_System_without_arc an_System_without_arc : Option Addr} {sl_System_without_arc : Array (Option Value)}
    {f_System_arcs_from : Addr} {oc_System_arcs_from kV_System_arcs_from dc_System_arcs_from pm_System_arcs_from cd_System_arcs_from ct_System_arcs_from : Value} {od_System_arcs_from an_System_arcs_from : Option Addr} {sl_System_arcs_from : Array (Option Value)}
    {f_System_led_to : Addr} {oc_System_led_to kV_System_led_to dc_System_led_to pm_System_led_to cd_System_led_to ct_System_led_to : Value} {od_System_led_to an_System_led_to : Option Addr} {sl_System_led_to : Array (Option Value)}
    {f_System_followed : Addr} {oc_System_followed kV_System_followed dc_System_followed pm_System_followed cd_System_followed ct_System_followed : Value} {od_System_followed an_System_followed : Option Addr} {sl_System_followed : Array (Option Value)}
    {f_System_is_likeness : Addr} {oc_System_is_likeness kV_System_is_likeness dc_System_is_likeness pm_System_is_likeness cd_System_is_likeness ct_System_is_likeness : Value} {od_System_is_likeness an_System_is_likeness : Option Addr} {sl_System_is_likeness : Array (Option Value)}
    {f_numbered : Addr} {oc_numbered kV_numbered dc_numbered pm_numbered cd_numbered ct_numbered : Value} {od_numbered an_numbered : Option Addr} {sl_numbered : Array (Option Value)}
    {f_empty_system : Addr} {oc_empty_system kV_empty_system dc_empty_system pm_empty_system cd_empty_system ct_empty_system : Value} {od_empty_system an_empty_system : Option Addr} {sl_empty_system : Array (Option Value)}
    {f_Levels_init0 : Addr} {oc_Levels_init0 kV_Levels_init0 dc_Levels_init0 pm_Levels_init0 cd_Levels_init0 ct_Levels_init0 : Value} {od_Levels_init0 an_Levels_init0 : Option Addr} {sl_Levels_init0 : Array (Option Value)}
    {f_Levels_classes : Addr} {oc_Levels_classes kV_Levels_classes dc_Levels_classes pm_Levels_classes cd_Levels_classes ct_Levels_classes : Value} {od_Levels_classes an_Levels_classes : Option Addr} {sl_Levels_classes : Array (Option Value)}
    {f_Levels_count : Addr} {oc_Levels_count kV_Levels_count dc_Levels_count pm_Levels_count cd_Levels_count ct_Levels_count : Value} {od_Levels_count an_Levels_count : Option Addr} {sl_Levels_count : Array (Option Value)}
    {f_Levels_are_same : Addr} {oc_Levels_are_same kV_Levels_are_same dc_Levels_are_same pm_Levels_are_same cd_Levels_are_same ct_Levels_are_same : Value} {od_Levels_are_same an_Levels_are_same : Option Addr} {sl_Levels_are_same : Array (Option Value)}
    {f_Levels_depth : Addr} {oc_Levels_depth kV_Levels_depth dc_Levels_depth pm_Levels_depth cd_Levels_depth ct_Levels_depth : Value} {od_Levels_depth an_Levels_depth : Option Addr} {sl_Levels_depth : Array (Option Value)}
    {f_Levels_quotient : Addr} {oc_Levels_quotient kV_Levels_quotient dc_Levels_quotient pm_Levels_quotient cd_Levels_quotient ct_Levels_quotient : Value} {od_Levels_quotient an_Levels_quotient : Option Addr} {sl_Levels_quotient : Array (Option Value)}
    {f_Refused_init0 : Addr} {oc_Refused_init0 kV_Refused_init0 dc_Refused_init0 pm_Refused_init0 cd_Refused_init0 ct_Refused_init0 : Value} {od_Refused_init0 an_Refused_init0 : Option Addr} {sl_Refused_init0 : Array (Option Value)}
    {f_want : Addr} {oc_want kV_want dc_want pm_want cd_want ct_want : Value} {od_want an_want : Option Addr} {sl_want : Array (Option Value)}
    {f_full : Addr} {oc_full kV_full dc_full pm_full cd_full ct_full : Value} {od_full an_full : Option Addr} {sl_full : Array (Option Value)}
    {f_Desk_init0 : Addr} {oc_Desk_init0 kV_Desk_init0 dc_Desk_init0 pm_Desk_init0 cd_Desk_init0 ct_Desk_init0 : Value} {od_Desk_init0 an_Desk_init0 : Option Addr} {sl_Desk_init0 : Array (Option Value)}
    {f_Desk_put : Addr} {oc_Desk_put kV_Desk_put dc_Desk_put pm_Desk_put cd_Desk_put ct_Desk_put : Value} {od_Desk_put an_Desk_put : Option Addr} {sl_Desk_put : Array (Option Value)}
    {f_Desk_known_levels : Addr} {oc_Desk_known_levels kV_Desk_known_levels dc_Desk_known_levels pm_Desk_known_levels cd_Desk_known_levels ct_Desk_known_levels : Value} {od_Desk_known_levels an_Desk_known_levels : Option Addr} {sl_Desk_known_levels : Array (Option Value)}
    {f_Desk_want_states : Addr} {oc_Desk_want_states kV_Desk_want_states dc_Desk_want_states pm_Desk_want_states cd_Desk_want_states ct_Desk_want_states : Value} {od_Desk_want_states an_Desk_want_states : Option Addr} {sl_Desk_want_states : Array (Option Value)}
    {f_Desk_want_arc : Addr} {oc_Desk_want_arc kV_Desk_want_arc dc_Desk_want_arc pm_Desk_want_arc cd_Desk_want_arc ct_Desk_want_arc : Value} {od_Desk_want_arc an_Desk_want_arc : Option Addr} {sl_Desk_want_arc : Array (Option Value)}
    {f_Desk_init : Addr} {oc_Desk_init kV_Desk_init dc_Desk_init pm_Desk_init cd_Desk_init ct_Desk_init : Value} {od_Desk_init an_Desk_init : Option Addr} {sl_Desk_init : Array (Option Value)}
    {f_Desk_paint : Addr} {oc_Desk_paint kV_Desk_paint dc_Desk_paint pm_Desk_paint cd_Desk_paint ct_Desk_paint : Value} {od_Desk_paint an_Desk_paint : Option Addr} {sl_Desk_paint : Array (Option Value)}
    {f_Desk_arc : Addr} {oc_Desk_arc kV_Desk_arc dc_Desk_arc pm_Desk_arc cd_Desk_arc ct_Desk_arc : Value} {od_Desk_arc an_Desk_arc : Option Addr} {sl_Desk_arc : Array (Option Value)}
    {f_Desk_cut : Addr} {oc_Desk_cut kV_Desk_cut dc_Desk_cut pm_Desk_cut cd_Desk_cut ct_Desk_cut : Value} {od_Desk_cut an_Desk_cut : Option Addr} {sl_Desk_cut : Array (Option Value)}
    {f_Desk_has : Addr} {oc_Desk_has kV_Desk_has dc_Desk_has pm_Desk_has cd_Desk_has ct_Desk_has : Value} {od_Desk_has an_Desk_has : Option Addr} {sl_Desk_has : Array (Option Value)}
    {f_Desk_look : Addr} {oc_Desk_look kV_Desk_look dc_Desk_look pm_Desk_look cd_Desk_look ct_Desk_look : Value} {od_Desk_look an_Desk_look : Option Addr} {sl_Desk_look : Array (Option Value)}
    {f_Desk_same : Addr} {oc_Desk_same kV_Desk_same dc_Desk_same pm_Desk_same cd_Desk_same ct_Desk_same : Value} {od_Desk_same an_Desk_same : Option Addr} {sl_Desk_same : Array (Option Value)}
    {f_Desk_unlike : Addr} {oc_Desk_unlike kV_Desk_unlike dc_Desk_unlike pm_Desk_unlike cd_Desk_unlike ct_Desk_unlike : Value} {od_Desk_unlike an_Desk_unlike : Option Addr} {sl_Desk_unlike : Array (Option Value)}
    {f_Desk_depth : Addr} {oc_Desk_depth kV_Desk_depth dc_Desk_depth pm_Desk_depth cd_Desk_depth ct_Desk_depth : Value} {od_Desk_depth an_Desk_depth : Option Addr} {sl_Desk_depth : Array (Option Value)}
    {f_Desk_number : Addr} {oc_Desk_number kV_Desk_number dc_Desk_number pm_Desk_number cd_Desk_number ct_Desk_number : Value} {od_Desk_number an_Desk_number : Option Addr} {sl_Desk_number : Array (Option Value)}
    {f_Desk_tell : Addr} {oc_Desk_tell kV_Desk_tell dc_Desk_tell pm_Desk_tell cd_Desk_tell ct_Desk_tell : Value} {od_Desk_tell an_Desk_tell : Option Addr} {sl_Desk_tell : Array (Option Value)}
    {f_Desk_where : Addr} {oc_Desk_where kV_Desk_where dc_Desk_where pm_Desk_where cd_Desk_where ct_Desk_where : Value} {od_Desk_where an_Desk_where : Option Addr} {sl_Desk_where : Array (Option Value)}
    {f_Desk_holds : Addr} {oc_Desk_holds kV_Desk_holds dc_Desk_holds pm_Desk_holds cd_Desk_holds ct_Desk_holds : Value} {od_Desk_holds an_Desk_holds : Option Addr} {sl_Desk_holds : Array (Option Value)}
    {f_Desk_told_where : Addr} {oc_Desk_told_where kV_Desk_told_where dc_Desk_told_where pm_Desk_told_where cd_Desk_told_where ct_Desk_told_where : Value} {od_Desk_told_where an_Desk_told_where : Option Addr} {sl_Desk_told_where : Array (Option Value)}
    {f_Desk_check : Addr} {oc_Desk_check kV_Desk_check dc_Desk_check pm_Desk_check cd_Desk_check ct_Desk_check : Value} {od_Desk_check an_Desk_check : Option Addr} {sl_Desk_check : Array (Option Value)}
    {f_Desk_quotient : Addr} {oc_Desk_quotient kV_Desk_quotient dc_Desk_quotient pm_Desk_quotient cd_Desk_quotient ct_Desk_quotient : Value} {od_Desk_quotient an_Desk_quotient : Option Addr} {sl_Desk_quotient : Array (Option Value)}
    {f_Desk_of_arcs : Addr} {oc_Desk_of_arcs kV_Desk_of_arcs dc_Desk_of_arcs pm_Desk_of_arcs cd_Desk_of_arcs ct_Desk_of_arcs : Value} {od_Desk_of_arcs an_Desk_of_arcs : Option Addr} {sl_Desk_of_arcs : Array (Option Value)}
    {f_Desk_of_likeness : Addr} {oc_Desk_of_likeness kV_Desk_of_likeness dc_Desk_of_likeness pm_Desk_of_likeness cd_Desk_of_likeness ct_Desk_of_likeness : Value} {od_Desk_of_likeness an_Desk_of_likeness : Option Addr} {sl_Desk_of_likeness : Array (Option Value)}
    {f_Desk_answer : Addr} {oc_Desk_answer kV_Desk_answer dc_Desk_answer pm_Desk_answer cd_Desk_answer ct_Desk_answer : Value} {od_Desk_answer an_Desk_answer : Option Addr} {sl_Desk_answer : Array (Option Value)}
    {f_answers : Addr} {oc_answers kV_answers dc_answers pm_answers cd_answers ct_answers : Value} {od_answers an_answers : Option Addr} {sl_answers : Array (Option Value)}
    {tk_MOST_DEEP : Tok}
    {tk_MOST_TOLD : Tok}
    {tk_MOST_COLOUR_formulas : Tok}
    {tk_MOST_LABEL_formulas : Tok}
    {tk_TRUE : Tok}
    {tk_COLOUR : Tok}
    {tk_NOT : Tok}
    {tk_LEFT : Tok}
    {tk_AND : Tok}
    {tk_RIGHT : Tok}
    {tk_LESS : Tok}
    {tk_MORE : Tok}
    {tk_MOST_STATES : Tok}
    {tk_MOST_COLOUR_states : Tok}
    {tk_MOST_LABEL_states : Tok}
    {tk_MOST_ARCS : Tok}
    {tk_BAD : Tok}
    {tk_REFUSED : Tok}
    {tk_NO_FORMULA : Tok}
    {tk_TOO_LONG : Tok}
    {tk_NO_SYSTEM : Tok}
    {tk_MOST_BYTES : Tok}
    {a_NUMBERS : Addr} {od_NUMBERS : Option Addr} {its_NUMBERS : Array Value} {n_NUMBERS : Nat} {sl_NUMBERS : Array (Option Value)}
    {a_WITH_ROW : Addr} {od_WITH_ROW : Option Addr} {its_WITH_ROW : Array Value} {n_WITH_ROW : Nat} {sl_WITH_ROW : Array (Option Value)}
    {tk_INIT : Tok}
    (aC_Fault : PySem.W.nsIn K mainGlobals "Fault" = some (some (.ref C_Fault)))
    (xL_Fault : K.lookup C_Fault = some (excClassObj nm_Fault q_Fault C_Fault N_Fault bs_Fault [.type "ValueError", .type "Exception", .type "BaseException", .type "object"] true sn_Fault sub_Fault ab_Fault col_Fault dd_Fault k0_Fault k1_Fault k2_Fault k3_Fault k5_Fault "ValueError.__new__"))
    (sa_Fault : PySem.W.findIn K (.ref C_Fault) "__setattr__" = some (some (.builtin "object.__setattr__")))
    (ga_Fault : PySem.W.findIn K (.ref C_Fault) "__getattribute__" = some (some (.builtin "BaseException.__getattribute__")))
    (gg_Fault : PySem.W.findIn K (.ref C_Fault) "__getattr__" = some none)
    (nb_Fault : PySem.W.findIn K (.ref C_Fault) "place" = some none)
    (kC_Fault : PySem.W.keepIn K (.ref C_Fault) = true)
    (eC_Fault : PySem.W.subIn K (.ref C_Fault) (.type "BaseException") = some true)
    (tC_Fault : PySem.W.typeIn K (.ref C_Fault) = some (.type "type"))
    (hC_Fault : PySem.W.hasDictIn K C_Fault = true)
    (iC_Fault : PySem.W.isClsIn K C_Fault = true)
    (sC_Fault : PySem.W.subIn K (.ref C_Fault) (.ref C_Fault) = some true)
    (aC_Asker : PySem.W.nsIn K mainGlobals "Asker" = some (some (.ref C_Asker)))
    (pg_Asker : PySem.W.plainGet K C_Asker Str.empty = true)
    (hd_Asker : PySem.W.hasDictIn K C_Asker = true)
    (po_Asker : PySem.W.plainOver K C_Asker = true)
    (sa_Asker : PySem.W.findIn K (.ref C_Asker) "__setattr__" = some (some (.builtin "object.__setattr__")))
    (mk_Asker : PySem.W.makesIn K C_Asker = true)
    (kc_Asker : PySem.W.keepIn K (.ref C_Asker) = true)
    (n_Asker_system : PySem.W.findIn K (.ref C_Asker) "system" = some none)
    (n_Asker_text : PySem.W.findIn K (.ref C_Asker) "text" = some none)
    (n_Asker_at : PySem.W.findIn K (.ref C_Asker) "at" = some none)
    (n_Asker_waiting : PySem.W.findIn K (.ref C_Asker) "waiting" = some none)
    (aC_Teller : PySem.W.nsIn K mainGlobals "Teller" = some (some (.ref C_Teller)))
    (pg_Teller : PySem.W.plainGet K C_Teller Str.empty = true)
    (hd_Teller : PySem.W.hasDictIn K C_Teller = true)
    (po_Teller : PySem.W.plainOver K C_Teller = true)
    (sa_Teller : PySem.W.findIn K (.ref C_Teller) "__setattr__" = some (some (.builtin "object.__setattr__")))
    (mk_Teller : PySem.W.makesIn K C_Teller = true)
    (kc_Teller : PySem.W.keepIn K (.ref C_Teller) = true)
    (n_Teller_levels : PySem.W.findIn K (.ref C_Teller) "levels" = some none)
    (n_Teller_system : PySem.W.findIn K (.ref C_Teller) "system" = some none)
    (n_Teller_texts : PySem.W.findIn K (.ref C_Teller) "texts" = some none)
    (aC_System : PySem.W.nsIn K mainGlobals "System" = some (some (.ref C_System)))
    (pg_System : PySem.W.plainGet K C_System Str.empty = true)
    (hd_System : PySem.W.hasDictIn K C_System = true)
    (po_System : PySem.W.plainOver K C_System = true)
    (sa_System : PySem.W.findIn K (.ref C_System) "__setattr__" = some (some (.builtin "object.__setattr__")))
    (mk_System : PySem.W.makesIn K C_System = true)
    (kc_System : PySem.W.keepIn K (.ref C_System) = true)
    (n_System_colours : PySem.W.findIn K (.ref C_System) "colours" = some none)
    (n_System_arcs : PySem.W.findIn K (.ref C_System) "arcs" = some none)
    (aC_Levels : PySem.W.nsIn K mainGlobals "Levels" = some (some (.ref C_Levels)))
    (pg_Levels : PySem.W.plainGet K C_Levels Str.empty = true)
    (hd_Levels : PySem.W.hasDictIn K C_Levels = true)
    (po_Levels : PySem.W.plainOver K C_Levels = true)
    (sa_Levels : PySem.W.findIn K (.ref C_Levels) "__setattr__" = some (some (.builtin "object.__setattr__")))
    (mk_Levels : PySem.W.makesIn K C_Levels = true)
    (kc_Levels : PySem.W.keepIn K (.ref C_Levels) = true)
    (n_Levels_system : PySem.W.findIn K (.ref C_Levels) "system" = some none)
    (n_Levels_rows : PySem.W.findIn K (.ref C_Levels) "rows" = some none)
    (aC_Refused : PySem.W.nsIn K mainGlobals "Refused" = some (some (.ref C_Refused)))
    (xL_Refused : K.lookup C_Refused = some (excClassObj nm_Refused q_Refused C_Refused N_Refused bs_Refused [.type "ValueError", .type "Exception", .type "BaseException", .type "object"] true sn_Refused sub_Refused ab_Refused col_Refused dd_Refused k0_Refused k1_Refused k2_Refused k3_Refused k5_Refused "ValueError.__new__"))
    (sa_Refused : PySem.W.findIn K (.ref C_Refused) "__setattr__" = some (some (.builtin "object.__setattr__")))
    (ga_Refused : PySem.W.findIn K (.ref C_Refused) "__getattribute__" = some (some (.builtin "BaseException.__getattribute__")))
    (gg_Refused : PySem.W.findIn K (.ref C_Refused) "__getattr__" = some none)
    (nb_Refused : PySem.W.findIn K (.ref C_Refused) "told" = some none)
    (kC_Refused : PySem.W.keepIn K (.ref C_Refused) = true)
    (eC_Refused : PySem.W.subIn K (.ref C_Refused) (.type "BaseException") = some true)
    (tC_Refused : PySem.W.typeIn K (.ref C_Refused) = some (.type "type"))
    (hC_Refused : PySem.W.hasDictIn K C_Refused = true)
    (iC_Refused : PySem.W.isClsIn K C_Refused = true)
    (sC_Refused : PySem.W.subIn K (.ref C_Refused) (.ref C_Refused) = some true)
    (aC_Desk : PySem.W.nsIn K mainGlobals "Desk" = some (some (.ref C_Desk)))
    (pg_Desk : PySem.W.plainGet K C_Desk Str.empty = true)
    (hd_Desk : PySem.W.hasDictIn K C_Desk = true)
    (po_Desk : PySem.W.plainOver K C_Desk = true)
    (sa_Desk : PySem.W.findIn K (.ref C_Desk) "__setattr__" = some (some (.builtin "object.__setattr__")))
    (mk_Desk : PySem.W.makesIn K C_Desk = true)
    (kc_Desk : PySem.W.keepIn K (.ref C_Desk) = true)
    (n_Desk_system : PySem.W.findIn K (.ref C_Desk) "system" = some none)
    (n_Desk_levels : PySem.W.findIn K (.ref C_Desk) "levels" = some none)
    (a_Fault_init0 : PySem.W.findIn K (.ref C_Fault) "__init__" = some (some (.ref f_Fault_init0)))
    (t_Fault_init0 : PySem.W.typeIn K (.ref f_Fault_init0) = some (.type "function"))
    (l_Fault_init0 : K.lookup f_Fault_init0 = some ⟨oc_Fault_init0, od_Fault_init0, .func (PySem.W.fnOf "__init__" "Fault.__init__" (defArgs s_Fault_init0) (defBody s_Fault_init0) (defScope s_Fault_init0) .none kV_Fault_init0 dc_Fault_init0 pm_Fault_init0 an_Fault_init0 cd_Fault_init0 ct_Fault_init0), sl_Fault_init0⟩)
    (c_Fault_init0 : PySem.W.codeIn K cd_Fault_init0 "Fault.__init__" = true)
    (k_Fault_init0 : PySem.W.keepIn K (.ref f_Fault_init0) = true)
    (a_figures_end : PySem.W.nsIn K mainGlobals "figures_end" = some (some (.ref f_figures_end)))
    (l_figures_end : K.lookup f_figures_end = some ⟨oc_figures_end, od_figures_end, .func (PySem.W.fnOf "figures_end" "figures_end" (defArgs s_figures_end) (defBody s_figures_end) (defScope s_figures_end) .none kV_figures_end dc_figures_end pm_figures_end an_figures_end cd_figures_end ct_figures_end), sl_figures_end⟩)
    (c_figures_end : PySem.W.codeIn K cd_figures_end "figures_end" = true)
    (k_figures_end : PySem.W.keepIn K (.ref f_figures_end) = true)
    (a_number_at : PySem.W.nsIn K mainGlobals "number_at" = some (some (.ref f_number_at)))
    (l_number_at : K.lookup f_number_at = some ⟨oc_number_at, od_number_at, .func (PySem.W.fnOf "number_at" "number_at" (defArgs s_number_at) (defBody s_number_at) (defScope s_number_at) .none kV_number_at dc_number_at pm_number_at an_number_at cd_number_at ct_number_at), sl_number_at⟩)
    (c_number_at : PySem.W.codeIn K cd_number_at "number_at" = true)
    (k_number_at : PySem.W.keepIn K (.ref f_number_at) = true)
    (a_Asker_init0 : PySem.W.findIn K (.ref C_Asker) "__init__" = some (some (.ref f_Asker_init0)))
    (i_Asker_init0 : PySem.W.isFn K (.ref f_Asker_init0) = true)
    (l_Asker_init0 : K.lookup f_Asker_init0 = some ⟨oc_Asker_init0, od_Asker_init0, .func (PySem.W.fnOf "__init__" "Asker.__init__" (defArgs s_Asker_init0) (defBody s_Asker_init0) (defScope s_Asker_init0) .none kV_Asker_init0 dc_Asker_init0 pm_Asker_init0 an_Asker_init0 cd_Asker_init0 ct_Asker_init0), sl_Asker_init0⟩)
    (c_Asker_init0 : PySem.W.codeIn K cd_Asker_init0 "Asker.__init__" = true)
    (k_Asker_init0 : PySem.W.keepIn K (.ref f_Asker_init0) = true)
    (a_Asker_byte : PySem.W.findIn K (.ref C_Asker) "byte" = some (some (.ref f_Asker_byte)))
    (i_Asker_byte : PySem.W.isFn K (.ref f_Asker_byte) = true)
    (l_Asker_byte : K.lookup f_Asker_byte = some ⟨oc_Asker_byte, od_Asker_byte, .func (PySem.W.fnOf "byte" "Asker.byte" (defArgs s_Asker_byte) (defBody s_Asker_byte) (defScope s_Asker_byte) .none kV_Asker_byte dc_Asker_byte pm_Asker_byte an_Asker_byte cd_Asker_byte ct_Asker_byte), sl_Asker_byte⟩)
    (c_Asker_byte : PySem.W.codeIn K cd_Asker_byte "Asker.byte" = true)
    (k_Asker_byte : PySem.W.keepIn K (.ref f_Asker_byte) = true)
    (a_Asker_need : PySem.W.findIn K (.ref C_Asker) "need" = some (some (.ref f_Asker_need)))
    (i_Asker_need : PySem.W.isFn K (.ref f_Asker_need) = true)
    (l_Asker_need : K.lookup f_Asker_need = some ⟨oc_Asker_need, od_Asker_need, .func (PySem.W.fnOf "need" "Asker.need" (defArgs s_Asker_need) (defBody s_Asker_need) (defScope s_Asker_need) .none kV_Asker_need dc_Asker_need pm_Asker_need an_Asker_need cd_Asker_need ct_Asker_need), sl_Asker_need⟩)
    (c_Asker_need : PySem.W.codeIn K cd_Asker_need "Asker.need" = true)
    (k_Asker_need : PySem.W.keepIn K (.ref f_Asker_need) = true)
    (a_Asker_everywhere : PySem.W.findIn K (.ref C_Asker) "everywhere" = some (some (.ref f_Asker_everywhere)))
    (i_Asker_everywhere : PySem.W.isFn K (.ref f_Asker_everywhere) = true)
    (l_Asker_everywhere : K.lookup f_Asker_everywhere = some ⟨oc_Asker_everywhere, od_Asker_everywhere, .func (PySem.W.fnOf "everywhere" "Asker.everywhere" (defArgs s_Asker_everywhere) (defBody s_Asker_everywhere) (defScope s_Asker_everywhere) .none kV_Asker_everywhere dc_Asker_everywhere pm_Asker_everywhere an_Asker_everywhere cd_Asker_everywhere ct_Asker_everywhere), sl_Asker_everywhere⟩)
    (c_Asker_everywhere : PySem.W.codeIn K cd_Asker_everywhere "Asker.everywhere" = true)
    (k_Asker_everywhere : PySem.W.keepIn K (.ref f_Asker_everywhere) = true)
    (a_Asker_of_colour : PySem.W.findIn K (.ref C_Asker) "of_colour" = some (some (.ref f_Asker_of_colour)))
    (i_Asker_of_colour : PySem.W.isFn K (.ref f_Asker_of_colour) = true)
    (l_Asker_of_colour : K.lookup f_Asker_of_colour = some ⟨oc_Asker_of_colour, od_Asker_of_colour, .func (PySem.W.fnOf "of_colour" "Asker.of_colour" (defArgs s_Asker_of_colour) (defBody s_Asker_of_colour) (defScope s_Asker_of_colour) .none kV_Asker_of_colour dc_Asker_of_colour pm_Asker_of_colour an_Asker_of_colour cd_Asker_of_colour ct_Asker_of_colour), sl_Asker_of_colour⟩)
    (c_Asker_of_colour : PySem.W.codeIn K cd_Asker_of_colour "Asker.of_colour" = true)
    (k_Asker_of_colour : PySem.W.keepIn K (.ref f_Asker_of_colour) = true)
    (a_Asker_leading : PySem.W.findIn K (.ref C_Asker) "leading" = some (some (.ref f_Asker_leading)))
    (i_Asker_leading : PySem.W.isFn K (.ref f_Asker_leading) = true)
    (l_Asker_leading : K.lookup f_Asker_leading = some ⟨oc_Asker_leading, od_Asker_leading, .func (PySem.W.fnOf "leading" "Asker.leading" (defArgs s_Asker_leading) (defBody s_Asker_leading) (defScope s_Asker_leading) .none kV_Asker_leading dc_Asker_leading pm_Asker_leading an_Asker_leading cd_Asker_leading ct_Asker_leading), sl_Asker_leading⟩)
    (c_Asker_leading : PySem.W.codeIn K cd_Asker_leading "Asker.leading" = true)
    (k_Asker_leading : PySem.W.keepIn K (.ref f_Asker_leading) = true)
    (a_Asker_number : PySem.W.findIn K (.ref C_Asker) "number" = some (some (.ref f_Asker_number)))
    (i_Asker_number : PySem.W.isFn K (.ref f_Asker_number) = true)
    (l_Asker_number : K.lookup f_Asker_number = some ⟨oc_Asker_number, od_Asker_number, .func (PySem.W.fnOf "number" "Asker.number" (defArgs s_Asker_number) (defBody s_Asker_number) (defScope s_Asker_number) .none kV_Asker_number dc_Asker_number pm_Asker_number an_Asker_number cd_Asker_number ct_Asker_number), sl_Asker_number⟩)
    (c_Asker_number : PySem.W.codeIn K cd_Asker_number "Asker.number" = true)
    (k_Asker_number : PySem.W.keepIn K (.ref f_Asker_number) = true)
    (a_Asker_begin : PySem.W.findIn K (.ref C_Asker) "begin" = some (some (.ref f_Asker_begin)))
    (i_Asker_begin : PySem.W.isFn K (.ref f_Asker_begin) = true)
    (l_Asker_begin : K.lookup f_Asker_begin = some ⟨oc_Asker_begin, od_Asker_begin, .func (PySem.W.fnOf "begin" "Asker.begin" (defArgs s_Asker_begin) (defBody s_Asker_begin) (defScope s_Asker_begin) .none kV_Asker_begin dc_Asker_begin pm_Asker_begin an_Asker_begin cd_Asker_begin ct_Asker_begin), sl_Asker_begin⟩)
    (c_Asker_begin : PySem.W.codeIn K cd_Asker_begin "Asker.begin" = true)
    (k_Asker_begin : PySem.W.keepIn K (.ref f_Asker_begin) = true)
    (a_Asker_end : PySem.W.findIn K (.ref C_Asker) "end" = some (some (.ref f_Asker_end)))
    (i_Asker_end : PySem.W.isFn K (.ref f_Asker_end) = true)
    (l_Asker_end : K.lookup f_Asker_end = some ⟨oc_Asker_end, od_Asker_end, .func (PySem.W.fnOf "end" "Asker.end" (defArgs s_Asker_end) (defBody s_Asker_end) (defScope s_Asker_end) .none kV_Asker_end dc_Asker_end pm_Asker_end an_Asker_end cd_Asker_end ct_Asker_end), sl_Asker_end⟩)
    (c_Asker_end : PySem.W.codeIn K cd_Asker_end "Asker.end" = true)
    (k_Asker_end : PySem.W.keepIn K (.ref f_Asker_end) = true)
    (a_Asker_asked : PySem.W.findIn K (.ref C_Asker) "asked" = some (some (.ref f_Asker_asked)))
    (i_Asker_asked : PySem.W.isFn K (.ref f_Asker_asked) = true)
    (l_Asker_asked : K.lookup f_Asker_asked = some ⟨oc_Asker_asked, od_Asker_asked, .func (PySem.W.fnOf "asked" "Asker.asked" (defArgs s_Asker_asked) (defBody s_Asker_asked) (defScope s_Asker_asked) .none kV_Asker_asked dc_Asker_asked pm_Asker_asked an_Asker_asked cd_Asker_asked ct_Asker_asked), sl_Asker_asked⟩)
    (c_Asker_asked : PySem.W.codeIn K cd_Asker_asked "Asker.asked" = true)
    (k_Asker_asked : PySem.W.keepIn K (.ref f_Asker_asked) = true)
    (a_where_holds : PySem.W.nsIn K mainGlobals "where_holds" = some (some (.ref f_where_holds)))
    (l_where_holds : K.lookup f_where_holds = some ⟨oc_where_holds, od_where_holds, .func (PySem.W.fnOf "where_holds" "where_holds" (defArgs s_where_holds) (defBody s_where_holds) (defScope s_where_holds) .none kV_where_holds dc_where_holds pm_where_holds an_where_holds cd_where_holds ct_where_holds), sl_where_holds⟩)
    (c_where_holds : PySem.W.codeIn K cd_where_holds "where_holds" = true)
    (k_where_holds : PySem.W.keepIn K (.ref f_where_holds) = true)
    (a_codes : PySem.W.nsIn K mainGlobals "codes" = some (some (.ref f_codes)))
    (l_codes : K.lookup f_codes = some ⟨oc_codes, od_codes, .func (PySem.W.fnOf "codes" "codes" (defArgs s_codes) (defBody s_codes) (defScope s_codes) .none kV_codes dc_codes pm_codes an_codes cd_codes ct_codes), sl_codes⟩)
    (c_codes : PySem.W.codeIn K cd_codes "codes" = true)
    (k_codes : PySem.W.keepIn K (.ref f_codes) = true)
    (a_Teller_init0 : PySem.W.findIn K (.ref C_Teller) "__init__" = some (some (.ref f_Teller_init0)))
    (i_Teller_init0 : PySem.W.isFn K (.ref f_Teller_init0) = true)
    (l_Teller_init0 : K.lookup f_Teller_init0 = some ⟨oc_Teller_init0, od_Teller_init0, .func (PySem.W.fnOf "__init__" "Teller.__init__" (defArgs s_Teller_init0) (defBody s_Teller_init0) (defScope s_Teller_init0) .none kV_Teller_init0 dc_Teller_init0 pm_Teller_init0 an_Teller_init0 cd_Teller_init0 ct_Teller_init0), sl_Teller_init0⟩)
    (c_Teller_init0 : PySem.W.codeIn K cd_Teller_init0 "Teller.__init__" = true)
    (k_Teller_init0 : PySem.W.keepIn K (.ref f_Teller_init0) = true)
    (a_Teller_tell : PySem.W.findIn K (.ref C_Teller) "tell" = some (some (.ref f_Teller_tell)))
    (i_Teller_tell : PySem.W.isFn K (.ref f_Teller_tell) = true)
    (l_Teller_tell : K.lookup f_Teller_tell = some ⟨oc_Teller_tell, od_Teller_tell, .func (PySem.W.fnOf "tell" "Teller.tell" (defArgs s_Teller_tell) (defBody s_Teller_tell) (defScope s_Teller_tell) .none kV_Teller_tell dc_Teller_tell pm_Teller_tell an_Teller_tell cd_Teller_tell ct_Teller_tell), sl_Teller_tell⟩)
    (c_Teller_tell : PySem.W.codeIn K cd_Teller_tell "Teller.tell" = true)
    (k_Teller_tell : PySem.W.keepIn K (.ref f_Teller_tell) = true)
    (a_Teller_made : PySem.W.findIn K (.ref C_Teller) "made" = some (some (.ref f_Teller_made)))
    (i_Teller_made : PySem.W.isFn K (.ref f_Teller_made) = true)
    (l_Teller_made : K.lookup f_Teller_made = some ⟨oc_Teller_made, od_Teller_made, .func (PySem.W.fnOf "made" "Teller.made" (defArgs s_Teller_made) (defBody s_Teller_made) (defScope s_Teller_made) .none kV_Teller_made dc_Teller_made pm_Teller_made an_Teller_made cd_Teller_made ct_Teller_made), sl_Teller_made⟩)
    (c_Teller_made : PySem.W.codeIn K cd_Teller_made "Teller.made" = true)
    (k_Teller_made : PySem.W.keepIn K (.ref f_Teller_made) = true)
    (a_Teller_is_alike : PySem.W.findIn K (.ref C_Teller) "is_alike" = some (some (.ref f_Teller_is_alike)))
    (i_Teller_is_alike : PySem.W.isFn K (.ref f_Teller_is_alike) = true)
    (l_Teller_is_alike : K.lookup f_Teller_is_alike = some ⟨oc_Teller_is_alike, od_Teller_is_alike, .func (PySem.W.fnOf "is_alike" "Teller.is_alike" (defArgs s_Teller_is_alike) (defBody s_Teller_is_alike) (defScope s_Teller_is_alike) .none kV_Teller_is_alike dc_Teller_is_alike pm_Teller_is_alike an_Teller_is_alike cd_Teller_is_alike ct_Teller_is_alike), sl_Teller_is_alike⟩)
    (c_Teller_is_alike : PySem.W.codeIn K cd_Teller_is_alike "Teller.is_alike" = true)
    (k_Teller_is_alike : PySem.W.keepIn K (.ref f_Teller_is_alike) = true)
    (a_Teller_by_arc : PySem.W.findIn K (.ref C_Teller) "by_arc" = some (some (.ref f_Teller_by_arc)))
    (i_Teller_by_arc : PySem.W.isFn K (.ref f_Teller_by_arc) = true)
    (l_Teller_by_arc : K.lookup f_Teller_by_arc = some ⟨oc_Teller_by_arc, od_Teller_by_arc, .func (PySem.W.fnOf "by_arc" "Teller.by_arc" (defArgs s_Teller_by_arc) (defBody s_Teller_by_arc) (defScope s_Teller_by_arc) .none kV_Teller_by_arc dc_Teller_by_arc pm_Teller_by_arc an_Teller_by_arc cd_Teller_by_arc ct_Teller_by_arc), sl_Teller_by_arc⟩)
    (c_Teller_by_arc : PySem.W.codeIn K cd_Teller_by_arc "Teller.by_arc" = true)
    (k_Teller_by_arc : PySem.W.keepIn K (.ref f_Teller_by_arc) = true)
    (a_short : PySem.W.nsIn K mainGlobals "short" = some (some (.ref f_short)))
    (l_short : K.lookup f_short = some ⟨oc_short, od_short, .func (PySem.W.fnOf "short" "short" (defArgs s_short) (defBody s_short) (defScope s_short) .none kV_short dc_short pm_short an_short cd_short ct_short), sl_short⟩)
    (c_short : PySem.W.codeIn K cd_short "short" = true)
    (k_short : PySem.W.keepIn K (.ref f_short) = true)
    (a_all_of : PySem.W.nsIn K mainGlobals "all_of" = some (some (.ref f_all_of)))
    (l_all_of : K.lookup f_all_of = some ⟨oc_all_of, od_all_of, .func (PySem.W.fnOf "all_of" "all_of" (defArgs s_all_of) (defBody s_all_of) (defScope s_all_of) .none kV_all_of dc_all_of pm_all_of an_all_of cd_all_of ct_all_of), sl_all_of⟩)
    (c_all_of : PySem.W.codeIn K cd_all_of "all_of" = true)
    (k_all_of : PySem.W.keepIn K (.ref f_all_of) = true)
    (a_System_init0 : PySem.W.findIn K (.ref C_System) "__init__" = some (some (.ref f_System_init0)))
    (i_System_init0 : PySem.W.isFn K (.ref f_System_init0) = true)
    (l_System_init0 : K.lookup f_System_init0 = some ⟨oc_System_init0, od_System_init0, .func (PySem.W.fnOf "__init__" "System.__init__" (defArgs s_System_init0) (defBody s_System_init0) (defScope s_System_init0) .none kV_System_init0 dc_System_init0 pm_System_init0 an_System_init0 cd_System_init0 ct_System_init0), sl_System_init0⟩)
    (c_System_init0 : PySem.W.codeIn K cd_System_init0 "System.__init__" = true)
    (k_System_init0 : PySem.W.keepIn K (.ref f_System_init0) = true)
    (a_System_many : PySem.W.findIn K (.ref C_System) "many" = some (some (.ref f_System_many)))
    (i_System_many : PySem.W.isFn K (.ref f_System_many) = true)
    (l_System_many : K.lookup f_System_many = some ⟨oc_System_many, od_System_many, .func (PySem.W.fnOf "many" "System.many" (defArgs s_System_many) (defBody s_System_many) (defScope s_System_many) .none kV_System_many dc_System_many pm_System_many an_System_many cd_System_many ct_System_many), sl_System_many⟩)
    (c_System_many : PySem.W.codeIn K cd_System_many "System.many" = true)
    (k_System_many : PySem.W.keepIn K (.ref f_System_many) = true)
    (a_System_painted : PySem.W.findIn K (.ref C_System) "painted" = some (some (.ref f_System_painted)))
    (i_System_painted : PySem.W.isFn K (.ref f_System_painted) = true)
    (l_System_painted : K.lookup f_System_painted = some ⟨oc_System_painted, od_System_painted, .func (PySem.W.fnOf "painted" "System.painted" (defArgs s_System_painted) (defBody s_System_painted) (defScope s_System_painted) .none kV_System_painted dc_System_painted pm_System_painted an_System_painted cd_System_painted ct_System_painted), sl_System_painted⟩)
    (c_System_painted : PySem.W.codeIn K cd_System_painted "System.painted" = true)
    (k_System_painted : PySem.W.keepIn K (.ref f_System_painted) = true)
    (a_System_with_arc : PySem.W.findIn K (.ref C_System) "with_arc" = some (some (.ref f_System_with_arc)))
    (i_System_with_arc : PySem.W.isFn K (.ref f_System_with_arc) = true)
    (l_System_with_arc : K.lookup f_System_with_arc = some ⟨oc_System_with_arc, od_System_with_arc, .func (PySem.W.fnOf "with_arc" "System.with_arc" (defArgs s_System_with_arc) (defBody s_System_with_arc) (defScope s_System_with_arc) .none kV_System_with_arc dc_System_with_arc pm_System_with_arc an_System_with_arc cd_System_with_arc ct_System_with_arc), sl_System_with_arc⟩)
    (c_System_with_arc : PySem.W.codeIn K cd_System_with_arc "System.with_arc" = true)
    (k_System_with_arc : PySem.W.keepIn K (.ref f_System_with_arc) = true)
    (a_System_without_arc : PySem.W.findIn K (.ref C_System) "without_arc" = some (some (.ref f_System_without_arc)))
    (i_System_without_arc : PySem.W.isFn K (.ref f_System_without_arc) = true)
    (l_System_without_arc : K.lookup f_System_without_arc = some ⟨oc_System_without_arc, od_System_without_arc, .func (PySem.W.fnOf "without_arc" "System.without_arc" (defArgs s_System_without_arc) (defBody s_System_without_arc) (defScope s_System_without_arc) .none kV_System_without_arc dc_System_without_arc pm_System_without_arc an_System_without_arc cd_System_without_arc ct_System_without_arc), sl_System_without_arc⟩)
    (c_System_without_arc : PySem.W.codeIn K cd_System_without_arc "System.without_arc" = true)
    (k_System_without_arc : PySem.W.keepIn K (.ref f_System_without_arc) = true)
    (a_System_arcs_from : PySem.W.findIn K (.ref C_System) "arcs_from" = some (some (.ref f_System_arcs_from)))
    (i_System_arcs_from : PySem.W.isFn K (.ref f_System_arcs_from) = true)
    (l_System_arcs_from : K.lookup f_System_arcs_from = some ⟨oc_System_arcs_from, od_System_arcs_from, .func (PySem.W.fnOf "arcs_from" "System.arcs_from" (defArgs s_System_arcs_from) (defBody s_System_arcs_from) (defScope s_System_arcs_from) .none kV_System_arcs_from dc_System_arcs_from pm_System_arcs_from an_System_arcs_from cd_System_arcs_from ct_System_arcs_from), sl_System_arcs_from⟩)
    (c_System_arcs_from : PySem.W.codeIn K cd_System_arcs_from "System.arcs_from" = true)
    (k_System_arcs_from : PySem.W.keepIn K (.ref f_System_arcs_from) = true)
    (a_System_led_to : PySem.W.findIn K (.ref C_System) "led_to" = some (some (.ref f_System_led_to)))
    (i_System_led_to : PySem.W.isFn K (.ref f_System_led_to) = true)
    (l_System_led_to : K.lookup f_System_led_to = some ⟨oc_System_led_to, od_System_led_to, .func (PySem.W.fnOf "led_to" "System.led_to" (defArgs s_System_led_to) (defBody s_System_led_to) (defScope s_System_led_to) .none kV_System_led_to dc_System_led_to pm_System_led_to an_System_led_to cd_System_led_to ct_System_led_to), sl_System_led_to⟩)
    (c_System_led_to : PySem.W.codeIn K cd_System_led_to "System.led_to" = true)
    (k_System_led_to : PySem.W.keepIn K (.ref f_System_led_to) = true)
    (a_System_followed : PySem.W.findIn K (.ref C_System) "followed" = some (some (.ref f_System_followed)))
    (i_System_followed : PySem.W.isFn K (.ref f_System_followed) = true)
    (l_System_followed : K.lookup f_System_followed = some ⟨oc_System_followed, od_System_followed, .func (PySem.W.fnOf "followed" "System.followed" (defArgs s_System_followed) (defBody s_System_followed) (defScope s_System_followed) .none kV_System_followed dc_System_followed pm_System_followed an_System_followed cd_System_followed ct_System_followed), sl_System_followed⟩)
    (c_System_followed : PySem.W.codeIn K cd_System_followed "System.followed" = true)
    (k_System_followed : PySem.W.keepIn K (.ref f_System_followed) = true)
    (a_System_is_likeness : PySem.W.findIn K (.ref C_System) "is_likeness" = some (some (.ref f_System_is_likeness)))
    (i_System_is_likeness : PySem.W.isFn K (.ref f_System_is_likeness) = true)
    (l_System_is_likeness : K.lookup f_System_is_likeness = some ⟨oc_System_is_likeness, od_System_is_likeness, .func (PySem.W.fnOf "is_likeness" "System.is_likeness" (defArgs s_System_is_likeness) (defBody s_System_is_likeness) (defScope s_System_is_likeness) .none kV_System_is_likeness dc_System_is_likeness pm_System_is_likeness an_System_is_likeness cd_System_is_likeness ct_System_is_likeness), sl_System_is_likeness⟩)
    (c_System_is_likeness : PySem.W.codeIn K cd_System_is_likeness "System.is_likeness" = true)
    (k_System_is_likeness : PySem.W.keepIn K (.ref f_System_is_likeness) = true)
    (a_numbered : PySem.W.nsIn K mainGlobals "numbered" = some (some (.ref f_numbered)))
    (l_numbered : K.lookup f_numbered = some ⟨oc_numbered, od_numbered, .func (PySem.W.fnOf "numbered" "numbered" (defArgs s_numbered) (defBody s_numbered) (defScope s_numbered) .none kV_numbered dc_numbered pm_numbered an_numbered cd_numbered ct_numbered), sl_numbered⟩)
    (c_numbered : PySem.W.codeIn K cd_numbered "numbered" = true)
    (k_numbered : PySem.W.keepIn K (.ref f_numbered) = true)
    (a_empty_system : PySem.W.nsIn K mainGlobals "empty_system" = some (some (.ref f_empty_system)))
    (l_empty_system : K.lookup f_empty_system = some ⟨oc_empty_system, od_empty_system, .func (PySem.W.fnOf "empty_system" "empty_system" (defArgs s_empty_system) (defBody s_empty_system) (defScope s_empty_system) .none kV_empty_system dc_empty_system pm_empty_system an_empty_system cd_empty_system ct_empty_system), sl_empty_system⟩)
    (c_empty_system : PySem.W.codeIn K cd_empty_system "empty_system" = true)
    (k_empty_system : PySem.W.keepIn K (.ref f_empty_system) = true)
    (a_Levels_init0 : PySem.W.findIn K (.ref C_Levels) "__init__" = some (some (.ref f_Levels_init0)))
    (i_Levels_init0 : PySem.W.isFn K (.ref f_Levels_init0) = true)
    (l_Levels_init0 : K.lookup f_Levels_init0 = some ⟨oc_Levels_init0, od_Levels_init0, .func (PySem.W.fnOf "__init__" "Levels.__init__" (defArgs s_Levels_init0) (defBody s_Levels_init0) (defScope s_Levels_init0) .none kV_Levels_init0 dc_Levels_init0 pm_Levels_init0 an_Levels_init0 cd_Levels_init0 ct_Levels_init0), sl_Levels_init0⟩)
    (c_Levels_init0 : PySem.W.codeIn K cd_Levels_init0 "Levels.__init__" = true)
    (k_Levels_init0 : PySem.W.keepIn K (.ref f_Levels_init0) = true)
    (a_Levels_classes : PySem.W.findIn K (.ref C_Levels) "classes" = some (some (.ref f_Levels_classes)))
    (i_Levels_classes : PySem.W.isFn K (.ref f_Levels_classes) = true)
    (l_Levels_classes : K.lookup f_Levels_classes = some ⟨oc_Levels_classes, od_Levels_classes, .func (PySem.W.fnOf "classes" "Levels.classes" (defArgs s_Levels_classes) (defBody s_Levels_classes) (defScope s_Levels_classes) .none kV_Levels_classes dc_Levels_classes pm_Levels_classes an_Levels_classes cd_Levels_classes ct_Levels_classes), sl_Levels_classes⟩)
    (c_Levels_classes : PySem.W.codeIn K cd_Levels_classes "Levels.classes" = true)
    (k_Levels_classes : PySem.W.keepIn K (.ref f_Levels_classes) = true)
    (a_Levels_count : PySem.W.findIn K (.ref C_Levels) "count" = some (some (.ref f_Levels_count)))
    (i_Levels_count : PySem.W.isFn K (.ref f_Levels_count) = true)
    (l_Levels_count : K.lookup f_Levels_count = some ⟨oc_Levels_count, od_Levels_count, .func (PySem.W.fnOf "count" "Levels.count" (defArgs s_Levels_count) (defBody s_Levels_count) (defScope s_Levels_count) .none kV_Levels_count dc_Levels_count pm_Levels_count an_Levels_count cd_Levels_count ct_Levels_count), sl_Levels_count⟩)
    (c_Levels_count : PySem.W.codeIn K cd_Levels_count "Levels.count" = true)
    (k_Levels_count : PySem.W.keepIn K (.ref f_Levels_count) = true)
    (a_Levels_are_same : PySem.W.findIn K (.ref C_Levels) "are_same" = some (some (.ref f_Levels_are_same)))
    (i_Levels_are_same : PySem.W.isFn K (.ref f_Levels_are_same) = true)
    (l_Levels_are_same : K.lookup f_Levels_are_same = some ⟨oc_Levels_are_same, od_Levels_are_same, .func (PySem.W.fnOf "are_same" "Levels.are_same" (defArgs s_Levels_are_same) (defBody s_Levels_are_same) (defScope s_Levels_are_same) .none kV_Levels_are_same dc_Levels_are_same pm_Levels_are_same an_Levels_are_same cd_Levels_are_same ct_Levels_are_same), sl_Levels_are_same⟩)
    (c_Levels_are_same : PySem.W.codeIn K cd_Levels_are_same "Levels.are_same" = true)
    (k_Levels_are_same : PySem.W.keepIn K (.ref f_Levels_are_same) = true)
    (a_Levels_depth : PySem.W.findIn K (.ref C_Levels) "depth" = some (some (.ref f_Levels_depth)))
    (i_Levels_depth : PySem.W.isFn K (.ref f_Levels_depth) = true)
    (l_Levels_depth : K.lookup f_Levels_depth = some ⟨oc_Levels_depth, od_Levels_depth, .func (PySem.W.fnOf "depth" "Levels.depth" (defArgs s_Levels_depth) (defBody s_Levels_depth) (defScope s_Levels_depth) .none kV_Levels_depth dc_Levels_depth pm_Levels_depth an_Levels_depth cd_Levels_depth ct_Levels_depth), sl_Levels_depth⟩)
    (c_Levels_depth : PySem.W.codeIn K cd_Levels_depth "Levels.depth" = true)
    (k_Levels_depth : PySem.W.keepIn K (.ref f_Levels_depth) = true)
    (a_Levels_quotient : PySem.W.findIn K (.ref C_Levels) "quotient" = some (some (.ref f_Levels_quotient)))
    (i_Levels_quotient : PySem.W.isFn K (.ref f_Levels_quotient) = true)
    (l_Levels_quotient : K.lookup f_Levels_quotient = some ⟨oc_Levels_quotient, od_Levels_quotient, .func (PySem.W.fnOf "quotient" "Levels.quotient" (defArgs s_Levels_quotient) (defBody s_Levels_quotient) (defScope s_Levels_quotient) .none kV_Levels_quotient dc_Levels_quotient pm_Levels_quotient an_Levels_quotient cd_Levels_quotient ct_Levels_quotient), sl_Levels_quotient⟩)
    (c_Levels_quotient : PySem.W.codeIn K cd_Levels_quotient "Levels.quotient" = true)
    (k_Levels_quotient : PySem.W.keepIn K (.ref f_Levels_quotient) = true)
    (a_Refused_init0 : PySem.W.findIn K (.ref C_Refused) "__init__" = some (some (.ref f_Refused_init0)))
    (t_Refused_init0 : PySem.W.typeIn K (.ref f_Refused_init0) = some (.type "function"))
    (l_Refused_init0 : K.lookup f_Refused_init0 = some ⟨oc_Refused_init0, od_Refused_init0, .func (PySem.W.fnOf "__init__" "Refused.__init__" (defArgs s_Refused_init0) (defBody s_Refused_init0) (defScope s_Refused_init0) .none kV_Refused_init0 dc_Refused_init0 pm_Refused_init0 an_Refused_init0 cd_Refused_init0 ct_Refused_init0), sl_Refused_init0⟩)
    (c_Refused_init0 : PySem.W.codeIn K cd_Refused_init0 "Refused.__init__" = true)
    (k_Refused_init0 : PySem.W.keepIn K (.ref f_Refused_init0) = true)
    (a_want : PySem.W.nsIn K mainGlobals "want" = some (some (.ref f_want)))
    (l_want : K.lookup f_want = some ⟨oc_want, od_want, .func (PySem.W.fnOf "want" "want" (defArgs s_want) (defBody s_want) (defScope s_want) .none kV_want dc_want pm_want an_want cd_want ct_want), sl_want⟩)
    (c_want : PySem.W.codeIn K cd_want "want" = true)
    (k_want : PySem.W.keepIn K (.ref f_want) = true)
    (a_full : PySem.W.nsIn K mainGlobals "full" = some (some (.ref f_full)))
    (l_full : K.lookup f_full = some ⟨oc_full, od_full, .func (PySem.W.fnOf "full" "full" (defArgs s_full) (defBody s_full) (defScope s_full) .none kV_full dc_full pm_full an_full cd_full ct_full), sl_full⟩)
    (c_full : PySem.W.codeIn K cd_full "full" = true)
    (k_full : PySem.W.keepIn K (.ref f_full) = true)
    (a_Desk_init0 : PySem.W.findIn K (.ref C_Desk) "__init__" = some (some (.ref f_Desk_init0)))
    (i_Desk_init0 : PySem.W.isFn K (.ref f_Desk_init0) = true)
    (l_Desk_init0 : K.lookup f_Desk_init0 = some ⟨oc_Desk_init0, od_Desk_init0, .func (PySem.W.fnOf "__init__" "Desk.__init__" (defArgs s_Desk_init0) (defBody s_Desk_init0) (defScope s_Desk_init0) .none kV_Desk_init0 dc_Desk_init0 pm_Desk_init0 an_Desk_init0 cd_Desk_init0 ct_Desk_init0), sl_Desk_init0⟩)
    (c_Desk_init0 : PySem.W.codeIn K cd_Desk_init0 "Desk.__init__" = true)
    (k_Desk_init0 : PySem.W.keepIn K (.ref f_Desk_init0) = true)
    (a_Desk_put : PySem.W.findIn K (.ref C_Desk) "put" = some (some (.ref f_Desk_put)))
    (i_Desk_put : PySem.W.isFn K (.ref f_Desk_put) = true)
    (l_Desk_put : K.lookup f_Desk_put = some ⟨oc_Desk_put, od_Desk_put, .func (PySem.W.fnOf "put" "Desk.put" (defArgs s_Desk_put) (defBody s_Desk_put) (defScope s_Desk_put) .none kV_Desk_put dc_Desk_put pm_Desk_put an_Desk_put cd_Desk_put ct_Desk_put), sl_Desk_put⟩)
    (c_Desk_put : PySem.W.codeIn K cd_Desk_put "Desk.put" = true)
    (k_Desk_put : PySem.W.keepIn K (.ref f_Desk_put) = true)
    (a_Desk_known_levels : PySem.W.findIn K (.ref C_Desk) "known_levels" = some (some (.ref f_Desk_known_levels)))
    (i_Desk_known_levels : PySem.W.isFn K (.ref f_Desk_known_levels) = true)
    (l_Desk_known_levels : K.lookup f_Desk_known_levels = some ⟨oc_Desk_known_levels, od_Desk_known_levels, .func (PySem.W.fnOf "known_levels" "Desk.known_levels" (defArgs s_Desk_known_levels) (defBody s_Desk_known_levels) (defScope s_Desk_known_levels) .none kV_Desk_known_levels dc_Desk_known_levels pm_Desk_known_levels an_Desk_known_levels cd_Desk_known_levels ct_Desk_known_levels), sl_Desk_known_levels⟩)
    (c_Desk_known_levels : PySem.W.codeIn K cd_Desk_known_levels "Desk.known_levels" = true)
    (k_Desk_known_levels : PySem.W.keepIn K (.ref f_Desk_known_levels) = true)
    (a_Desk_want_states : PySem.W.findIn K (.ref C_Desk) "want_states" = some (some (.ref f_Desk_want_states)))
    (i_Desk_want_states : PySem.W.isFn K (.ref f_Desk_want_states) = true)
    (l_Desk_want_states : K.lookup f_Desk_want_states = some ⟨oc_Desk_want_states, od_Desk_want_states, .func (PySem.W.fnOf "want_states" "Desk.want_states" (defArgs s_Desk_want_states) (defBody s_Desk_want_states) (defScope s_Desk_want_states) .none kV_Desk_want_states dc_Desk_want_states pm_Desk_want_states an_Desk_want_states cd_Desk_want_states ct_Desk_want_states), sl_Desk_want_states⟩)
    (c_Desk_want_states : PySem.W.codeIn K cd_Desk_want_states "Desk.want_states" = true)
    (k_Desk_want_states : PySem.W.keepIn K (.ref f_Desk_want_states) = true)
    (a_Desk_want_arc : PySem.W.findIn K (.ref C_Desk) "want_arc" = some (some (.ref f_Desk_want_arc)))
    (i_Desk_want_arc : PySem.W.isFn K (.ref f_Desk_want_arc) = true)
    (l_Desk_want_arc : K.lookup f_Desk_want_arc = some ⟨oc_Desk_want_arc, od_Desk_want_arc, .func (PySem.W.fnOf "want_arc" "Desk.want_arc" (defArgs s_Desk_want_arc) (defBody s_Desk_want_arc) (defScope s_Desk_want_arc) .none kV_Desk_want_arc dc_Desk_want_arc pm_Desk_want_arc an_Desk_want_arc cd_Desk_want_arc ct_Desk_want_arc), sl_Desk_want_arc⟩)
    (c_Desk_want_arc : PySem.W.codeIn K cd_Desk_want_arc "Desk.want_arc" = true)
    (k_Desk_want_arc : PySem.W.keepIn K (.ref f_Desk_want_arc) = true)
    (a_Desk_init : PySem.W.findIn K (.ref C_Desk) "init" = some (some (.ref f_Desk_init)))
    (i_Desk_init : PySem.W.isFn K (.ref f_Desk_init) = true)
    (l_Desk_init : K.lookup f_Desk_init = some ⟨oc_Desk_init, od_Desk_init, .func (PySem.W.fnOf "init" "Desk.init" (defArgs s_Desk_init) (defBody s_Desk_init) (defScope s_Desk_init) .none kV_Desk_init dc_Desk_init pm_Desk_init an_Desk_init cd_Desk_init ct_Desk_init), sl_Desk_init⟩)
    (c_Desk_init : PySem.W.codeIn K cd_Desk_init "Desk.init" = true)
    (k_Desk_init : PySem.W.keepIn K (.ref f_Desk_init) = true)
    (a_Desk_paint : PySem.W.findIn K (.ref C_Desk) "paint" = some (some (.ref f_Desk_paint)))
    (i_Desk_paint : PySem.W.isFn K (.ref f_Desk_paint) = true)
    (l_Desk_paint : K.lookup f_Desk_paint = some ⟨oc_Desk_paint, od_Desk_paint, .func (PySem.W.fnOf "paint" "Desk.paint" (defArgs s_Desk_paint) (defBody s_Desk_paint) (defScope s_Desk_paint) .none kV_Desk_paint dc_Desk_paint pm_Desk_paint an_Desk_paint cd_Desk_paint ct_Desk_paint), sl_Desk_paint⟩)
    (c_Desk_paint : PySem.W.codeIn K cd_Desk_paint "Desk.paint" = true)
    (k_Desk_paint : PySem.W.keepIn K (.ref f_Desk_paint) = true)
    (a_Desk_arc : PySem.W.findIn K (.ref C_Desk) "arc" = some (some (.ref f_Desk_arc)))
    (i_Desk_arc : PySem.W.isFn K (.ref f_Desk_arc) = true)
    (l_Desk_arc : K.lookup f_Desk_arc = some ⟨oc_Desk_arc, od_Desk_arc, .func (PySem.W.fnOf "arc" "Desk.arc" (defArgs s_Desk_arc) (defBody s_Desk_arc) (defScope s_Desk_arc) .none kV_Desk_arc dc_Desk_arc pm_Desk_arc an_Desk_arc cd_Desk_arc ct_Desk_arc), sl_Desk_arc⟩)
    (c_Desk_arc : PySem.W.codeIn K cd_Desk_arc "Desk.arc" = true)
    (k_Desk_arc : PySem.W.keepIn K (.ref f_Desk_arc) = true)
    (a_Desk_cut : PySem.W.findIn K (.ref C_Desk) "cut" = some (some (.ref f_Desk_cut)))
    (i_Desk_cut : PySem.W.isFn K (.ref f_Desk_cut) = true)
    (l_Desk_cut : K.lookup f_Desk_cut = some ⟨oc_Desk_cut, od_Desk_cut, .func (PySem.W.fnOf "cut" "Desk.cut" (defArgs s_Desk_cut) (defBody s_Desk_cut) (defScope s_Desk_cut) .none kV_Desk_cut dc_Desk_cut pm_Desk_cut an_Desk_cut cd_Desk_cut ct_Desk_cut), sl_Desk_cut⟩)
    (c_Desk_cut : PySem.W.codeIn K cd_Desk_cut "Desk.cut" = true)
    (k_Desk_cut : PySem.W.keepIn K (.ref f_Desk_cut) = true)
    (a_Desk_has : PySem.W.findIn K (.ref C_Desk) "has" = some (some (.ref f_Desk_has)))
    (i_Desk_has : PySem.W.isFn K (.ref f_Desk_has) = true)
    (l_Desk_has : K.lookup f_Desk_has = some ⟨oc_Desk_has, od_Desk_has, .func (PySem.W.fnOf "has" "Desk.has" (defArgs s_Desk_has) (defBody s_Desk_has) (defScope s_Desk_has) .none kV_Desk_has dc_Desk_has pm_Desk_has an_Desk_has cd_Desk_has ct_Desk_has), sl_Desk_has⟩)
    (c_Desk_has : PySem.W.codeIn K cd_Desk_has "Desk.has" = true)
    (k_Desk_has : PySem.W.keepIn K (.ref f_Desk_has) = true)
    (a_Desk_look : PySem.W.findIn K (.ref C_Desk) "look" = some (some (.ref f_Desk_look)))
    (i_Desk_look : PySem.W.isFn K (.ref f_Desk_look) = true)
    (l_Desk_look : K.lookup f_Desk_look = some ⟨oc_Desk_look, od_Desk_look, .func (PySem.W.fnOf "look" "Desk.look" (defArgs s_Desk_look) (defBody s_Desk_look) (defScope s_Desk_look) .none kV_Desk_look dc_Desk_look pm_Desk_look an_Desk_look cd_Desk_look ct_Desk_look), sl_Desk_look⟩)
    (c_Desk_look : PySem.W.codeIn K cd_Desk_look "Desk.look" = true)
    (k_Desk_look : PySem.W.keepIn K (.ref f_Desk_look) = true)
    (a_Desk_same : PySem.W.findIn K (.ref C_Desk) "same" = some (some (.ref f_Desk_same)))
    (i_Desk_same : PySem.W.isFn K (.ref f_Desk_same) = true)
    (l_Desk_same : K.lookup f_Desk_same = some ⟨oc_Desk_same, od_Desk_same, .func (PySem.W.fnOf "same" "Desk.same" (defArgs s_Desk_same) (defBody s_Desk_same) (defScope s_Desk_same) .none kV_Desk_same dc_Desk_same pm_Desk_same an_Desk_same cd_Desk_same ct_Desk_same), sl_Desk_same⟩)
    (c_Desk_same : PySem.W.codeIn K cd_Desk_same "Desk.same" = true)
    (k_Desk_same : PySem.W.keepIn K (.ref f_Desk_same) = true)
    (a_Desk_unlike : PySem.W.findIn K (.ref C_Desk) "unlike" = some (some (.ref f_Desk_unlike)))
    (i_Desk_unlike : PySem.W.isFn K (.ref f_Desk_unlike) = true)
    (l_Desk_unlike : K.lookup f_Desk_unlike = some ⟨oc_Desk_unlike, od_Desk_unlike, .func (PySem.W.fnOf "unlike" "Desk.unlike" (defArgs s_Desk_unlike) (defBody s_Desk_unlike) (defScope s_Desk_unlike) .none kV_Desk_unlike dc_Desk_unlike pm_Desk_unlike an_Desk_unlike cd_Desk_unlike ct_Desk_unlike), sl_Desk_unlike⟩)
    (c_Desk_unlike : PySem.W.codeIn K cd_Desk_unlike "Desk.unlike" = true)
    (k_Desk_unlike : PySem.W.keepIn K (.ref f_Desk_unlike) = true)
    (a_Desk_depth : PySem.W.findIn K (.ref C_Desk) "depth" = some (some (.ref f_Desk_depth)))
    (i_Desk_depth : PySem.W.isFn K (.ref f_Desk_depth) = true)
    (l_Desk_depth : K.lookup f_Desk_depth = some ⟨oc_Desk_depth, od_Desk_depth, .func (PySem.W.fnOf "depth" "Desk.depth" (defArgs s_Desk_depth) (defBody s_Desk_depth) (defScope s_Desk_depth) .none kV_Desk_depth dc_Desk_depth pm_Desk_depth an_Desk_depth cd_Desk_depth ct_Desk_depth), sl_Desk_depth⟩)
    (c_Desk_depth : PySem.W.codeIn K cd_Desk_depth "Desk.depth" = true)
    (k_Desk_depth : PySem.W.keepIn K (.ref f_Desk_depth) = true)
    (a_Desk_number : PySem.W.findIn K (.ref C_Desk) "number" = some (some (.ref f_Desk_number)))
    (i_Desk_number : PySem.W.isFn K (.ref f_Desk_number) = true)
    (l_Desk_number : K.lookup f_Desk_number = some ⟨oc_Desk_number, od_Desk_number, .func (PySem.W.fnOf "number" "Desk.number" (defArgs s_Desk_number) (defBody s_Desk_number) (defScope s_Desk_number) .none kV_Desk_number dc_Desk_number pm_Desk_number an_Desk_number cd_Desk_number ct_Desk_number), sl_Desk_number⟩)
    (c_Desk_number : PySem.W.codeIn K cd_Desk_number "Desk.number" = true)
    (k_Desk_number : PySem.W.keepIn K (.ref f_Desk_number) = true)
    (a_Desk_tell : PySem.W.findIn K (.ref C_Desk) "tell" = some (some (.ref f_Desk_tell)))
    (i_Desk_tell : PySem.W.isFn K (.ref f_Desk_tell) = true)
    (l_Desk_tell : K.lookup f_Desk_tell = some ⟨oc_Desk_tell, od_Desk_tell, .func (PySem.W.fnOf "tell" "Desk.tell" (defArgs s_Desk_tell) (defBody s_Desk_tell) (defScope s_Desk_tell) .none kV_Desk_tell dc_Desk_tell pm_Desk_tell an_Desk_tell cd_Desk_tell ct_Desk_tell), sl_Desk_tell⟩)
    (c_Desk_tell : PySem.W.codeIn K cd_Desk_tell "Desk.tell" = true)
    (k_Desk_tell : PySem.W.keepIn K (.ref f_Desk_tell) = true)
    (a_Desk_where : PySem.W.findIn K (.ref C_Desk) "where" = some (some (.ref f_Desk_where)))
    (i_Desk_where : PySem.W.isFn K (.ref f_Desk_where) = true)
    (l_Desk_where : K.lookup f_Desk_where = some ⟨oc_Desk_where, od_Desk_where, .func (PySem.W.fnOf "where" "Desk.where" (defArgs s_Desk_where) (defBody s_Desk_where) (defScope s_Desk_where) .none kV_Desk_where dc_Desk_where pm_Desk_where an_Desk_where cd_Desk_where ct_Desk_where), sl_Desk_where⟩)
    (c_Desk_where : PySem.W.codeIn K cd_Desk_where "Desk.where" = true)
    (k_Desk_where : PySem.W.keepIn K (.ref f_Desk_where) = true)
    (a_Desk_holds : PySem.W.findIn K (.ref C_Desk) "holds" = some (some (.ref f_Desk_holds)))
    (i_Desk_holds : PySem.W.isFn K (.ref f_Desk_holds) = true)
    (l_Desk_holds : K.lookup f_Desk_holds = some ⟨oc_Desk_holds, od_Desk_holds, .func (PySem.W.fnOf "holds" "Desk.holds" (defArgs s_Desk_holds) (defBody s_Desk_holds) (defScope s_Desk_holds) .none kV_Desk_holds dc_Desk_holds pm_Desk_holds an_Desk_holds cd_Desk_holds ct_Desk_holds), sl_Desk_holds⟩)
    (c_Desk_holds : PySem.W.codeIn K cd_Desk_holds "Desk.holds" = true)
    (k_Desk_holds : PySem.W.keepIn K (.ref f_Desk_holds) = true)
    (a_Desk_told_where : PySem.W.findIn K (.ref C_Desk) "told_where" = some (some (.ref f_Desk_told_where)))
    (i_Desk_told_where : PySem.W.isFn K (.ref f_Desk_told_where) = true)
    (l_Desk_told_where : K.lookup f_Desk_told_where = some ⟨oc_Desk_told_where, od_Desk_told_where, .func (PySem.W.fnOf "told_where" "Desk.told_where" (defArgs s_Desk_told_where) (defBody s_Desk_told_where) (defScope s_Desk_told_where) .none kV_Desk_told_where dc_Desk_told_where pm_Desk_told_where an_Desk_told_where cd_Desk_told_where ct_Desk_told_where), sl_Desk_told_where⟩)
    (c_Desk_told_where : PySem.W.codeIn K cd_Desk_told_where "Desk.told_where" = true)
    (k_Desk_told_where : PySem.W.keepIn K (.ref f_Desk_told_where) = true)
    (a_Desk_check : PySem.W.findIn K (.ref C_Desk) "check" = some (some (.ref f_Desk_check)))
    (i_Desk_check : PySem.W.isFn K (.ref f_Desk_check) = true)
    (l_Desk_check : K.lookup f_Desk_check = some ⟨oc_Desk_check, od_Desk_check, .func (PySem.W.fnOf "check" "Desk.check" (defArgs s_Desk_check) (defBody s_Desk_check) (defScope s_Desk_check) .none kV_Desk_check dc_Desk_check pm_Desk_check an_Desk_check cd_Desk_check ct_Desk_check), sl_Desk_check⟩)
    (c_Desk_check : PySem.W.codeIn K cd_Desk_check "Desk.check" = true)
    (k_Desk_check : PySem.W.keepIn K (.ref f_Desk_check) = true)
    (a_Desk_quotient : PySem.W.findIn K (.ref C_Desk) "quotient" = some (some (.ref f_Desk_quotient)))
    (i_Desk_quotient : PySem.W.isFn K (.ref f_Desk_quotient) = true)
    (l_Desk_quotient : K.lookup f_Desk_quotient = some ⟨oc_Desk_quotient, od_Desk_quotient, .func (PySem.W.fnOf "quotient" "Desk.quotient" (defArgs s_Desk_quotient) (defBody s_Desk_quotient) (defScope s_Desk_quotient) .none kV_Desk_quotient dc_Desk_quotient pm_Desk_quotient an_Desk_quotient cd_Desk_quotient ct_Desk_quotient), sl_Desk_quotient⟩)
    (c_Desk_quotient : PySem.W.codeIn K cd_Desk_quotient "Desk.quotient" = true)
    (k_Desk_quotient : PySem.W.keepIn K (.ref f_Desk_quotient) = true)
    (a_Desk_of_arcs : PySem.W.findIn K (.ref C_Desk) "of_arcs" = some (some (.ref f_Desk_of_arcs)))
    (i_Desk_of_arcs : PySem.W.isFn K (.ref f_Desk_of_arcs) = true)
    (l_Desk_of_arcs : K.lookup f_Desk_of_arcs = some ⟨oc_Desk_of_arcs, od_Desk_of_arcs, .func (PySem.W.fnOf "of_arcs" "Desk.of_arcs" (defArgs s_Desk_of_arcs) (defBody s_Desk_of_arcs) (defScope s_Desk_of_arcs) .none kV_Desk_of_arcs dc_Desk_of_arcs pm_Desk_of_arcs an_Desk_of_arcs cd_Desk_of_arcs ct_Desk_of_arcs), sl_Desk_of_arcs⟩)
    (c_Desk_of_arcs : PySem.W.codeIn K cd_Desk_of_arcs "Desk.of_arcs" = true)
    (k_Desk_of_arcs : PySem.W.keepIn K (.ref f_Desk_of_arcs) = true)
    (a_Desk_of_likeness : PySem.W.findIn K (.ref C_Desk) "of_likeness" = some (some (.ref f_Desk_of_likeness)))
    (i_Desk_of_likeness : PySem.W.isFn K (.ref f_Desk_of_likeness) = true)
    (l_Desk_of_likeness : K.lookup f_Desk_of_likeness = some ⟨oc_Desk_of_likeness, od_Desk_of_likeness, .func (PySem.W.fnOf "of_likeness" "Desk.of_likeness" (defArgs s_Desk_of_likeness) (defBody s_Desk_of_likeness) (defScope s_Desk_of_likeness) .none kV_Desk_of_likeness dc_Desk_of_likeness pm_Desk_of_likeness an_Desk_of_likeness cd_Desk_of_likeness ct_Desk_of_likeness), sl_Desk_of_likeness⟩)
    (c_Desk_of_likeness : PySem.W.codeIn K cd_Desk_of_likeness "Desk.of_likeness" = true)
    (k_Desk_of_likeness : PySem.W.keepIn K (.ref f_Desk_of_likeness) = true)
    (a_Desk_answer : PySem.W.findIn K (.ref C_Desk) "answer" = some (some (.ref f_Desk_answer)))
    (i_Desk_answer : PySem.W.isFn K (.ref f_Desk_answer) = true)
    (l_Desk_answer : K.lookup f_Desk_answer = some ⟨oc_Desk_answer, od_Desk_answer, .func (PySem.W.fnOf "answer" "Desk.answer" (defArgs s_Desk_answer) (defBody s_Desk_answer) (defScope s_Desk_answer) .none kV_Desk_answer dc_Desk_answer pm_Desk_answer an_Desk_answer cd_Desk_answer ct_Desk_answer), sl_Desk_answer⟩)
    (c_Desk_answer : PySem.W.codeIn K cd_Desk_answer "Desk.answer" = true)
    (k_Desk_answer : PySem.W.keepIn K (.ref f_Desk_answer) = true)
    (a_answers : PySem.W.nsIn K mainGlobals "answers" = some (some (.ref f_answers)))
    (l_answers : K.lookup f_answers = some ⟨oc_answers, od_answers, .func (PySem.W.fnOf "answers" "answers" (defArgs s_answers) (defBody s_answers) (defScope s_answers) .none kV_answers dc_answers pm_answers an_answers cd_answers ct_answers), sl_answers⟩)
    (c_answers : PySem.W.codeIn K cd_answers "answers" = true)
    (k_answers : PySem.W.keepIn K (.ref f_answers) = true)
    (g_len : PySem.W.nsIn K mainGlobals "len" = some none)
    (g_enumerate : PySem.W.nsIn K mainGlobals "enumerate" = some none)
    (g_sum : PySem.W.nsIn K mainGlobals "sum" = some none)
    (g_ord : PySem.W.nsIn K mainGlobals "ord" = some none)
    (g_str : PySem.W.nsIn K mainGlobals "str" = some none)
    (g_any : PySem.W.nsIn K mainGlobals "any" = some none)
    (g_all : PySem.W.nsIn K mainGlobals "all" = some none)
    (g_sorted : PySem.W.nsIn K mainGlobals "sorted" = some none)
    (g_tuple : PySem.W.nsIn K mainGlobals "tuple" = some none)
    (g_set : PySem.W.nsIn K mainGlobals "set" = some none)
    (g_range : PySem.W.nsIn K mainGlobals "range" = some none)
    (g_int : PySem.W.nsIn K mainGlobals "int" = some none)
    (g_ValueError : PySem.W.nsIn K mainGlobals "ValueError" = some none)
    (vV : PySem.W.findCls K (.type "ValueError") (.type "type") "__init__" = some (.val (.builtin "ValueError.__init__")))
    (q_MOST_DEEP : PySem.W.nsIn K mainGlobals "MOST_DEEP" = some (some (.int 500 tk_MOST_DEEP)))
    (q_MOST_TOLD : PySem.W.nsIn K mainGlobals "MOST_TOLD" = some (some (.int 500 tk_MOST_TOLD)))
    (q_MOST_COLOUR_formulas : PySem.W.nsIn K mainGlobals "MOST_COLOUR_formulas" = some (some (.int 255 tk_MOST_COLOUR_formulas)))
    (q_MOST_LABEL_formulas : PySem.W.nsIn K mainGlobals "MOST_LABEL_formulas" = some (some (.int 63 tk_MOST_LABEL_formulas)))
    (q_TRUE : PySem.W.nsIn K mainGlobals "TRUE" = some (some (.int 116 tk_TRUE)))
    (q_COLOUR : PySem.W.nsIn K mainGlobals "COLOUR" = some (some (.int 99 tk_COLOUR)))
    (q_NOT : PySem.W.nsIn K mainGlobals "NOT" = some (some (.int 33 tk_NOT)))
    (q_LEFT : PySem.W.nsIn K mainGlobals "LEFT" = some (some (.int 40 tk_LEFT)))
    (q_AND : PySem.W.nsIn K mainGlobals "AND" = some (some (.int 38 tk_AND)))
    (q_RIGHT : PySem.W.nsIn K mainGlobals "RIGHT" = some (some (.int 41 tk_RIGHT)))
    (q_LESS : PySem.W.nsIn K mainGlobals "LESS" = some (some (.int 60 tk_LESS)))
    (q_MORE : PySem.W.nsIn K mainGlobals "MORE" = some (some (.int 62 tk_MORE)))
    (q_MOST_STATES : PySem.W.nsIn K mainGlobals "MOST_STATES" = some (some (.int 32 tk_MOST_STATES)))
    (q_MOST_COLOUR_states : PySem.W.nsIn K mainGlobals "MOST_COLOUR_states" = some (some (.int 255 tk_MOST_COLOUR_states)))
    (q_MOST_LABEL_states : PySem.W.nsIn K mainGlobals "MOST_LABEL_states" = some (some (.int 63 tk_MOST_LABEL_states)))
    (q_MOST_ARCS : PySem.W.nsIn K mainGlobals "MOST_ARCS" = some (some (.int 256 tk_MOST_ARCS)))
    (q_BAD : PySem.W.nsIn K mainGlobals "BAD" = some (some (.int (-1) tk_BAD)))
    (q_REFUSED : PySem.W.nsIn K mainGlobals "REFUSED" = some (some (.int (-2) tk_REFUSED)))
    (q_NO_FORMULA : PySem.W.nsIn K mainGlobals "NO_FORMULA" = some (some (.int (-3) tk_NO_FORMULA)))
    (q_TOO_LONG : PySem.W.nsIn K mainGlobals "TOO_LONG" = some (some (.int (-7) tk_TOO_LONG)))
    (q_NO_SYSTEM : PySem.W.nsIn K mainGlobals "NO_SYSTEM" = some (some (.int (-8) tk_NO_SYSTEM)))
    (q_MOST_BYTES : PySem.W.nsIn K mainGlobals "MOST_BYTES" = some (some (.int 10000 tk_MOST_BYTES)))
    (aT_NUMBERS : PySem.W.nsIn K mainGlobals "NUMBERS" = some (some (.ref a_NUMBERS)))
    (lT_NUMBERS : K.lookup a_NUMBERS = some ⟨.type "tuple", od_NUMBERS, .seq its_NUMBERS n_NUMBERS, sl_NUMBERS⟩)
    (zT_NUMBERS : its_NUMBERS.size ≤ sizeLine)
    (vT_NUMBERS : Vals (([0, 1, 2, 3, 3, 3, 1, 2, 2, 1, 0, 2, 1, 0, 0, 0] : List Int).map V.int) its_NUMBERS.toList)
    (aT_WITH_ROW : PySem.W.nsIn K mainGlobals "WITH_ROW" = some (some (.ref a_WITH_ROW)))
    (lT_WITH_ROW : K.lookup a_WITH_ROW = some ⟨.type "tuple", od_WITH_ROW, .seq its_WITH_ROW n_WITH_ROW, sl_WITH_ROW⟩)
    (zT_WITH_ROW : its_WITH_ROW.size ≤ sizeLine)
    (vT_WITH_ROW : Vals (([12, 13, 14] : List Int).map V.int) its_WITH_ROW.toList)
    (q_INIT : PySem.W.nsIn K mainGlobals "INIT" = some (some (.int 1 tk_INIT)))
    : ∃ fd : FuncData, (∀ (s : Shared) (us : List Value), us.length = (["calls"] : List Str).length → BindsTo s fd ⟨us, []⟩ ((["calls"] : List Str).zip us)) ∧ ∀ base : Heap, K.In base → base.Ns mainGlobals mg → FnOk P w K mg base CX0 207 fa fd ["calls"] (spAnsw K) := by
  have e := hfa.symm.trans (PySem.W.mg_of X G a_answers)
  cases e
  have hT : ∃ T : Txt K mg, T.answers.f = fa ∧ T.answers.fd = PySem.W.fnOf "answers" "answers" (defArgs s_answers) (defBody s_answers) (defScope s_answers) .none kV_answers dc_answers pm_answers an_answers cd_answers ct_answers := ⟨{
    xFault := ⟨C_Fault, PySem.W.mg_of X G aC_Fault, ⟨⟨nm_Fault, q_Fault, N_Fault, bs_Fault, _, sn_Fault, sub_Fault, ab_Fault, col_Fault, dd_Fault, k0_Fault, k1_Fault, k2_Fault, k3_Fault, k5_Fault, xL_Fault, by decide +kernel⟩, sa_Fault, eC_Fault, tC_Fault, kC_Fault⟩, ⟨ga_Fault, gg_Fault, eC_Fault, hC_Fault⟩, nb_Fault, exm_self eC_Fault iC_Fault tC_Fault sC_Fault⟩,
    cAsker := ⟨C_Asker, ⟨pg_Asker, hd_Asker, po_Asker, sa_Asker⟩, mk_Asker, kc_Asker, PySem.W.mg_of X G aC_Asker⟩,
    nAsker_system := n_Asker_system,
    nAsker_text := n_Asker_text,
    nAsker_at := n_Asker_at,
    nAsker_waiting := n_Asker_waiting,
    cTeller := ⟨C_Teller, ⟨pg_Teller, hd_Teller, po_Teller, sa_Teller⟩, mk_Teller, kc_Teller, PySem.W.mg_of X G aC_Teller⟩,
    nTeller_levels := n_Teller_levels,
    nTeller_system := n_Teller_system,
    nTeller_texts := n_Teller_texts,
    cSystem := ⟨C_System, ⟨pg_System, hd_System, po_System, sa_System⟩, mk_System, kc_System, PySem.W.mg_of X G aC_System⟩,
    nSystem_colours := n_System_colours,
    nSystem_arcs := n_System_arcs,
    cLevels := ⟨C_Levels, ⟨pg_Levels, hd_Levels, po_Levels, sa_Levels⟩, mk_Levels, kc_Levels, PySem.W.mg_of X G aC_Levels⟩,
    nLevels_system := n_Levels_system,
    nLevels_rows := n_Levels_rows,
    xRefused := ⟨C_Refused, PySem.W.mg_of X G aC_Refused, ⟨⟨nm_Refused, q_Refused, N_Refused, bs_Refused, _, sn_Refused, sub_Refused, ab_Refused, col_Refused, dd_Refused, k0_Refused, k1_Refused, k2_Refused, k3_Refused, k5_Refused, xL_Refused, by decide +kernel⟩, sa_Refused, eC_Refused, tC_Refused, kC_Refused⟩, ⟨ga_Refused, gg_Refused, eC_Refused, hC_Refused⟩, nb_Refused, exm_self eC_Refused iC_Refused tC_Refused sC_Refused⟩,
    cDesk := ⟨C_Desk, ⟨pg_Desk, hd_Desk, po_Desk, sa_Desk⟩, mk_Desk, kc_Desk, PySem.W.mg_of X G aC_Desk⟩,
    nDesk_system := n_Desk_system,
    nDesk_levels := n_Desk_levels,
    Fault_init0 := ⟨f_Fault_init0, _, fun_mk (st := s_Fault_init0) l_Fault_init0 c_Fault_init0 k_Fault_init0, a_Fault_init0, t_Fault_init0⟩,
    figures_end := ⟨f_figures_end, _, fun_mk (st := s_figures_end) l_figures_end c_figures_end k_figures_end, PySem.W.mg_of X G a_figures_end⟩,
    number_at := ⟨f_number_at, _, fun_mk (st := s_number_at) l_number_at c_number_at k_number_at, PySem.W.mg_of X G a_number_at⟩,
    Asker_init0 := ⟨f_Asker_init0, _, fun_mk (st := s_Asker_init0) l_Asker_init0 c_Asker_init0 k_Asker_init0, ⟨a_Asker_init0, i_Asker_init0, k_Asker_init0⟩⟩,
    Asker_byte := ⟨f_Asker_byte, _, fun_mk (st := s_Asker_byte) l_Asker_byte c_Asker_byte k_Asker_byte, ⟨a_Asker_byte, i_Asker_byte, k_Asker_byte⟩⟩,
    Asker_need := ⟨f_Asker_need, _, fun_mk (st := s_Asker_need) l_Asker_need c_Asker_need k_Asker_need, ⟨a_Asker_need, i_Asker_need, k_Asker_need⟩⟩,
    Asker_everywhere := ⟨f_Asker_everywhere, _, fun_mk (st := s_Asker_everywhere) l_Asker_everywhere c_Asker_everywhere k_Asker_everywhere, ⟨a_Asker_everywhere, i_Asker_everywhere, k_Asker_everywhere⟩⟩,
    Asker_of_colour := ⟨f_Asker_of_colour, _, fun_mk (st := s_Asker_of_colour) l_Asker_of_colour c_Asker_of_colour k_Asker_of_colour, ⟨a_Asker_of_colour, i_Asker_of_colour, k_Asker_of_colour⟩⟩,
    Asker_leading := ⟨f_Asker_leading, _, fun_mk (st := s_Asker_leading) l_Asker_leading c_Asker_leading k_Asker_leading, ⟨a_Asker_leading, i_Asker_leading, k_Asker_leading⟩⟩,
    Asker_number := ⟨f_Asker_number, _, fun_mk (st := s_Asker_number) l_Asker_number c_Asker_number k_Asker_number, ⟨a_Asker_number, i_Asker_number, k_Asker_number⟩⟩,
    Asker_begin := ⟨f_Asker_begin, _, fun_mk (st := s_Asker_begin) l_Asker_begin c_Asker_begin k_Asker_begin, ⟨a_Asker_begin, i_Asker_begin, k_Asker_begin⟩⟩,
    Asker_end := ⟨f_Asker_end, _, fun_mk (st := s_Asker_end) l_Asker_end c_Asker_end k_Asker_end, ⟨a_Asker_end, i_Asker_end, k_Asker_end⟩⟩,
    Asker_asked := ⟨f_Asker_asked, _, fun_mk (st := s_Asker_asked) l_Asker_asked c_Asker_asked k_Asker_asked, ⟨a_Asker_asked, i_Asker_asked, k_Asker_asked⟩⟩,
    where_holds := ⟨f_where_holds, _, fun_mk (st := s_where_holds) l_where_holds c_where_holds k_where_holds, PySem.W.mg_of X G a_where_holds⟩,
    codes := ⟨f_codes, _, fun_mk (st := s_codes) l_codes c_codes k_codes, PySem.W.mg_of X G a_codes⟩,
    Teller_init0 := ⟨f_Teller_init0, _, fun_mk (st := s_Teller_init0) l_Teller_init0 c_Teller_init0 k_Teller_init0, ⟨a_Teller_init0, i_Teller_init0, k_Teller_init0⟩⟩,
    Teller_tell := ⟨f_Teller_tell, _, fun_mk (st := s_Teller_tell) l_Teller_tell c_Teller_tell k_Teller_tell, ⟨a_Teller_tell, i_Teller_tell, k_Teller_tell⟩⟩,
    Teller_made := ⟨f_Teller_made, _, fun_mk (st := s_Teller_made) l_Teller_made c_Teller_made k_Teller_made, ⟨a_Teller_made, i_Teller_made, k_Teller_made⟩⟩,
    Teller_is_alike := ⟨f_Teller_is_alike, _, fun_mk (st := s_Teller_is_alike) l_Teller_is_alike c_Teller_is_alike k_Teller_is_alike, ⟨a_Teller_is_alike, i_Teller_is_alike, k_Teller_is_alike⟩⟩,
    Teller_by_arc := ⟨f_Teller_by_arc, _, fun_mk (st := s_Teller_by_arc) l_Teller_by_arc c_Teller_by_arc k_Teller_by_arc, ⟨a_Teller_by_arc, i_Teller_by_arc, k_Teller_by_arc⟩⟩,
    short := ⟨f_short, _, fun_mk (st := s_short) l_short c_short k_short, PySem.W.mg_of X G a_short⟩,
    all_of := ⟨f_all_of, _, fun_mk (st := s_all_of) l_all_of c_all_of k_all_of, PySem.W.mg_of X G a_all_of⟩,
    System_init0 := ⟨f_System_init0, _, fun_mk (st := s_System_init0) l_System_init0 c_System_init0 k_System_init0, ⟨a_System_init0, i_System_init0, k_System_init0⟩⟩,
    System_many := ⟨f_System_many, _, fun_mk (st := s_System_many) l_System_many c_System_many k_System_many, ⟨a_System_many, i_System_many, k_System_many⟩⟩,
    System_painted := ⟨f_System_painted, _, fun_mk (st := s_System_painted) l_System_painted c_System_painted k_System_painted, ⟨a_System_painted, i_System_painted, k_System_painted⟩⟩,
    System_with_arc := ⟨f_System_with_arc, _, fun_mk (st := s_System_with_arc) l_System_with_arc c_System_with_arc k_System_with_arc, ⟨a_System_with_arc, i_System_with_arc, k_System_with_arc⟩⟩,
    System_without_arc := ⟨f_System_without_arc, _, fun_mk (st := s_System_without_arc) l_System_without_arc c_System_without_arc k_System_without_arc, ⟨a_System_without_arc, i_System_without_arc, k_System_without_arc⟩⟩,
    System_arcs_from := ⟨f_System_arcs_from, _, fun_mk (st := s_System_arcs_from) l_System_arcs_from c_System_arcs_from k_System_arcs_from, ⟨a_System_arcs_from, i_System_arcs_from, k_System_arcs_from⟩⟩,
    System_led_to := ⟨f_System_led_to, _, fun_mk (st := s_System_led_to) l_System_led_to c_System_led_to k_System_led_to, ⟨a_System_led_to, i_System_led_to, k_System_led_to⟩⟩,
    System_followed := ⟨f_System_followed, _, fun_mk (st := s_System_followed) l_System_followed c_System_followed k_System_followed, ⟨a_System_followed, i_System_followed, k_System_followed⟩⟩,
    System_is_likeness := ⟨f_System_is_likeness, _, fun_mk (st := s_System_is_likeness) l_System_is_likeness c_System_is_likeness k_System_is_likeness, ⟨a_System_is_likeness, i_System_is_likeness, k_System_is_likeness⟩⟩,
    numbered := ⟨f_numbered, _, fun_mk (st := s_numbered) l_numbered c_numbered k_numbered, PySem.W.mg_of X G a_numbered⟩,
    empty_system := ⟨f_empty_system, _, fun_mk (st := s_empty_system) l_empty_system c_empty_system k_empty_system, PySem.W.mg_of X G a_empty_system⟩,
    Levels_init0 := ⟨f_Levels_init0, _, fun_mk (st := s_Levels_init0) l_Levels_init0 c_Levels_init0 k_Levels_init0, ⟨a_Levels_init0, i_Levels_init0, k_Levels_init0⟩⟩,
    Levels_classes := ⟨f_Levels_classes, _, fun_mk (st := s_Levels_classes) l_Levels_classes c_Levels_classes k_Levels_classes, ⟨a_Levels_classes, i_Levels_classes, k_Levels_classes⟩⟩,
    Levels_count := ⟨f_Levels_count, _, fun_mk (st := s_Levels_count) l_Levels_count c_Levels_count k_Levels_count, ⟨a_Levels_count, i_Levels_count, k_Levels_count⟩⟩,
    Levels_are_same := ⟨f_Levels_are_same, _, fun_mk (st := s_Levels_are_same) l_Levels_are_same c_Levels_are_same k_Levels_are_same, ⟨a_Levels_are_same, i_Levels_are_same, k_Levels_are_same⟩⟩,
    Levels_depth := ⟨f_Levels_depth, _, fun_mk (st := s_Levels_depth) l_Levels_depth c_Levels_depth k_Levels_depth, ⟨a_Levels_depth, i_Levels_depth, k_Levels_depth⟩⟩,
    Levels_quotient := ⟨f_Levels_quotient, _, fun_mk (st := s_Levels_quotient) l_Levels_quotient c_Levels_quotient k_Levels_quotient, ⟨a_Levels_quotient, i_Levels_quotient, k_Levels_quotient⟩⟩,
    Refused_init0 := ⟨f_Refused_init0, _, fun_mk (st := s_Refused_init0) l_Refused_init0 c_Refused_init0 k_Refused_init0, a_Refused_init0, t_Refused_init0⟩,
    want := ⟨f_want, _, fun_mk (st := s_want) l_want c_want k_want, PySem.W.mg_of X G a_want⟩,
    full := ⟨f_full, _, fun_mk (st := s_full) l_full c_full k_full, PySem.W.mg_of X G a_full⟩,
    Desk_init0 := ⟨f_Desk_init0, _, fun_mk (st := s_Desk_init0) l_Desk_init0 c_Desk_init0 k_Desk_init0, ⟨a_Desk_init0, i_Desk_init0, k_Desk_init0⟩⟩,
    Desk_put := ⟨f_Desk_put, _, fun_mk (st := s_Desk_put) l_Desk_put c_Desk_put k_Desk_put, ⟨a_Desk_put, i_Desk_put, k_Desk_put⟩⟩,
    Desk_known_levels := ⟨f_Desk_known_levels, _, fun_mk (st := s_Desk_known_levels) l_Desk_known_levels c_Desk_known_levels k_Desk_known_levels, ⟨a_Desk_known_levels, i_Desk_known_levels, k_Desk_known_levels⟩⟩,
    Desk_want_states := ⟨f_Desk_want_states, _, fun_mk (st := s_Desk_want_states) l_Desk_want_states c_Desk_want_states k_Desk_want_states, ⟨a_Desk_want_states, i_Desk_want_states, k_Desk_want_states⟩⟩,
    Desk_want_arc := ⟨f_Desk_want_arc, _, fun_mk (st := s_Desk_want_arc) l_Desk_want_arc c_Desk_want_arc k_Desk_want_arc, ⟨a_Desk_want_arc, i_Desk_want_arc, k_Desk_want_arc⟩⟩,
    Desk_init := ⟨f_Desk_init, _, fun_mk (st := s_Desk_init) l_Desk_init c_Desk_init k_Desk_init, ⟨a_Desk_init, i_Desk_init, k_Desk_init⟩⟩,
    Desk_paint := ⟨f_Desk_paint, _, fun_mk (st := s_Desk_paint) l_Desk_paint c_Desk_paint k_Desk_paint, ⟨a_Desk_paint, i_Desk_paint, k_Desk_paint⟩⟩,
    Desk_arc := ⟨f_Desk_arc, _, fun_mk (st := s_Desk_arc) l_Desk_arc c_Desk_arc k_Desk_arc, ⟨a_Desk_arc, i_Desk_arc, k_Desk_arc⟩⟩,
    Desk_cut := ⟨f_Desk_cut, _, fun_mk (st := s_Desk_cut) l_Desk_cut c_Desk_cut k_Desk_cut, ⟨a_Desk_cut, i_Desk_cut, k_Desk_cut⟩⟩,
    Desk_has := ⟨f_Desk_has, _, fun_mk (st := s_Desk_has) l_Desk_has c_Desk_has k_Desk_has, ⟨a_Desk_has, i_Desk_has, k_Desk_has⟩⟩,
    Desk_look := ⟨f_Desk_look, _, fun_mk (st := s_Desk_look) l_Desk_look c_Desk_look k_Desk_look, ⟨a_Desk_look, i_Desk_look, k_Desk_look⟩⟩,
    Desk_same := ⟨f_Desk_same, _, fun_mk (st := s_Desk_same) l_Desk_same c_Desk_same k_Desk_same, ⟨a_Desk_same, i_Desk_same, k_Desk_same⟩⟩,
    Desk_unlike := ⟨f_Desk_unlike, _, fun_mk (st := s_Desk_unlike) l_Desk_unlike c_Desk_unlike k_Desk_unlike, ⟨a_Desk_unlike, i_Desk_unlike, k_Desk_unlike⟩⟩,
    Desk_depth := ⟨f_Desk_depth, _, fun_mk (st := s_Desk_depth) l_Desk_depth c_Desk_depth k_Desk_depth, ⟨a_Desk_depth, i_Desk_depth, k_Desk_depth⟩⟩,
    Desk_number := ⟨f_Desk_number, _, fun_mk (st := s_Desk_number) l_Desk_number c_Desk_number k_Desk_number, ⟨a_Desk_number, i_Desk_number, k_Desk_number⟩⟩,
    Desk_tell := ⟨f_Desk_tell, _, fun_mk (st := s_Desk_tell) l_Desk_tell c_Desk_tell k_Desk_tell, ⟨a_Desk_tell, i_Desk_tell, k_Desk_tell⟩⟩,
    Desk_where := ⟨f_Desk_where, _, fun_mk (st := s_Desk_where) l_Desk_where c_Desk_where k_Desk_where, ⟨a_Desk_where, i_Desk_where, k_Desk_where⟩⟩,
    Desk_holds := ⟨f_Desk_holds, _, fun_mk (st := s_Desk_holds) l_Desk_holds c_Desk_holds k_Desk_holds, ⟨a_Desk_holds, i_Desk_holds, k_Desk_holds⟩⟩,
    Desk_told_where := ⟨f_Desk_told_where, _, fun_mk (st := s_Desk_told_where) l_Desk_told_where c_Desk_told_where k_Desk_told_where, ⟨a_Desk_told_where, i_Desk_told_where, k_Desk_told_where⟩⟩,
    Desk_check := ⟨f_Desk_check, _, fun_mk (st := s_Desk_check) l_Desk_check c_Desk_check k_Desk_check, ⟨a_Desk_check, i_Desk_check, k_Desk_check⟩⟩,
    Desk_quotient := ⟨f_Desk_quotient, _, fun_mk (st := s_Desk_quotient) l_Desk_quotient c_Desk_quotient k_Desk_quotient, ⟨a_Desk_quotient, i_Desk_quotient, k_Desk_quotient⟩⟩,
    Desk_of_arcs := ⟨f_Desk_of_arcs, _, fun_mk (st := s_Desk_of_arcs) l_Desk_of_arcs c_Desk_of_arcs k_Desk_of_arcs, ⟨a_Desk_of_arcs, i_Desk_of_arcs, k_Desk_of_arcs⟩⟩,
    Desk_of_likeness := ⟨f_Desk_of_likeness, _, fun_mk (st := s_Desk_of_likeness) l_Desk_of_likeness c_Desk_of_likeness k_Desk_of_likeness, ⟨a_Desk_of_likeness, i_Desk_of_likeness, k_Desk_of_likeness⟩⟩,
    Desk_answer := ⟨f_Desk_answer, _, fun_mk (st := s_Desk_answer) l_Desk_answer c_Desk_answer k_Desk_answer, ⟨a_Desk_answer, i_Desk_answer, k_Desk_answer⟩⟩,
    answers := ⟨fa, _, fun_mk (st := s_answers) l_answers c_answers k_answers, PySem.W.mg_of X G a_answers⟩,
    g_len := PySem.W.mg_none_of X G g_len,
    g_enumerate := PySem.W.mg_none_of X G g_enumerate,
    g_sum := PySem.W.mg_none_of X G g_sum,
    g_ord := PySem.W.mg_none_of X G g_ord,
    g_str := PySem.W.mg_none_of X G g_str,
    g_any := PySem.W.mg_none_of X G g_any,
    g_all := PySem.W.mg_none_of X G g_all,
    g_sorted := PySem.W.mg_none_of X G g_sorted,
    g_tuple := PySem.W.mg_none_of X G g_tuple,
    g_set := PySem.W.mg_none_of X G g_set,
    g_range := PySem.W.mg_none_of X G g_range,
    g_int := PySem.W.mg_none_of X G g_int,
    g_ValueError := PySem.W.mg_none_of X G g_ValueError,
    vV := vV,
    k_MOST_DEEP := ⟨_, PySem.W.mg_of X G q_MOST_DEEP⟩,
    k_MOST_TOLD := ⟨_, PySem.W.mg_of X G q_MOST_TOLD⟩,
    k_MOST_COLOUR_formulas := ⟨_, PySem.W.mg_of X G q_MOST_COLOUR_formulas⟩,
    k_MOST_LABEL_formulas := ⟨_, PySem.W.mg_of X G q_MOST_LABEL_formulas⟩,
    k_TRUE := ⟨_, PySem.W.mg_of X G q_TRUE⟩,
    k_COLOUR := ⟨_, PySem.W.mg_of X G q_COLOUR⟩,
    k_NOT := ⟨_, PySem.W.mg_of X G q_NOT⟩,
    k_LEFT := ⟨_, PySem.W.mg_of X G q_LEFT⟩,
    k_AND := ⟨_, PySem.W.mg_of X G q_AND⟩,
    k_RIGHT := ⟨_, PySem.W.mg_of X G q_RIGHT⟩,
    k_LESS := ⟨_, PySem.W.mg_of X G q_LESS⟩,
    k_MORE := ⟨_, PySem.W.mg_of X G q_MORE⟩,
    k_MOST_STATES := ⟨_, PySem.W.mg_of X G q_MOST_STATES⟩,
    k_MOST_COLOUR_states := ⟨_, PySem.W.mg_of X G q_MOST_COLOUR_states⟩,
    k_MOST_LABEL_states := ⟨_, PySem.W.mg_of X G q_MOST_LABEL_states⟩,
    k_MOST_ARCS := ⟨_, PySem.W.mg_of X G q_MOST_ARCS⟩,
    k_BAD := ⟨_, PySem.W.mg_of X G q_BAD⟩,
    k_REFUSED := ⟨_, PySem.W.mg_of X G q_REFUSED⟩,
    k_NO_FORMULA := ⟨_, PySem.W.mg_of X G q_NO_FORMULA⟩,
    k_TOO_LONG := ⟨_, PySem.W.mg_of X G q_TOO_LONG⟩,
    k_NO_SYSTEM := ⟨_, PySem.W.mg_of X G q_NO_SYSTEM⟩,
    k_MOST_BYTES := ⟨_, PySem.W.mg_of X G q_MOST_BYTES⟩,
    t_NUMBERS := ⟨a_NUMBERS, PySem.W.mg_of X G aT_NUMBERS, fun H => .inr ⟨_, its_NUMBERS, n_NUMBERS, lT_NUMBERS, rfl, rfl, zT_NUMBERS, vT_NUMBERS⟩⟩,
    t_WITH_ROW := ⟨a_WITH_ROW, PySem.W.mg_of X G aT_WITH_ROW, fun H => .inr ⟨_, its_WITH_ROW, n_WITH_ROW, lT_WITH_ROW, rfl, rfl, zT_WITH_ROW, vT_WITH_ROW⟩⟩,
    k_INIT := ⟨_, PySem.W.mg_of X G q_INIT⟩ }, rfl, rfl⟩
  obtain ⟨T, e1, e2⟩ := hT
  refine ⟨PySem.W.fnOf "answers" "answers" (defArgs s_answers) (defBody s_answers) (defScope s_answers) .none kV_answers dc_answers pm_answers an_answers cd_answers ct_answers, fun s us hu => match us, hu with | [_], _ => .of_eq rfl, fun base _ _ => ?_⟩
  rw [← e1, ← e2]
  exact ok_answers T
end LkW
end

section
set_option Elab.async false
set_option linter.all false
open PySem PySem.W PyProof.Rows
set_option maxRecDepth 100000 in
set_option maxHeartbeats 32000000 in
theorem PySem.Challenge.cw_alikestates_s01_answers_holds : PySem.Challenge.rw_alikestates_s01_answers.Holds := by
  w_on; k_headS; (case hw => exact ⟨[.list [.int 1, .int 1]], by decide +kernel, by decide +kernel⟩)
  k_fillS
  refine L2.walk_specK (r := PySem.Challenge.rw_alikestates_s01_answers) (k := 207) (CX := L2.CX0) (ps := ["calls"]) (sp := LkW.spAnsw) (by decide +kernel) rfl rfl ⟨rfl, by decide, by decide⟩ (fun w h Y => PySem.W.kIn_of Y) ?F ?S (fun _ _ _ _ z => z)
  case F =>
    intro w mg fa h Y KX G hmg
    refine' LkW.all_mk KX G hmg ?aC_Fault ?xL_Fault ?sa_Fault ?ga_Fault ?gg_Fault ?nb_Fault ?kC_Fault ?eC_Fault ?tC_Fault ?hC_Fault ?iC_Fault ?sC_Fault ?aC_Asker ?pg_Asker ?hd_Asker ?po_Asker ?sa_Asker ?mk_Asker ?kc_Asker ?n_Asker_system ?n_Asker_text ?n_Asker_at ?n_Asker_waiting ?aC_Teller ?pg_Teller ?hd_Teller ?po_Teller ?sa_Teller ?mk_Teller ?kc_Teller ?n_Teller_levels ?n_Teller_system ?n_Teller_texts ?aC_System ?pg_System ?hd_System ?po_System ?sa_System ?mk_System ?kc_System ?n_System_colours ?n_System_arcs ?aC_Levels ?pg_Levels ?hd_Levels ?po_Levels ?sa_Levels ?mk_Levels ?kc_Levels ?n_Levels_system ?n_Levels_rows ?aC_Refused ?xL_Refused ?sa_Refused ?ga_Refused ?gg_Refused ?nb_Refused ?kC_Refused ?eC_Refused ?tC_Refused ?hC_Refused ?iC_Refused ?sC_Refused ?aC_Desk ?pg_Desk ?hd_Desk ?po_Desk ?sa_Desk ?mk_Desk ?kc_Desk ?n_Desk_system ?n_Desk_levels ?a_Fault_init0 ?t_Fault_init0 ?l_Fault_init0 ?c_Fault_init0 ?k_Fault_init0 ?a_figures_end ?l_figures_end ?c_figures_end ?k_figures_end ?a_number_at ?l_number_at ?c_number_at ?k_number_at ?a_Asker_init0 ?i_Asker_init0 ?l_Asker_init0 ?c_Asker_init0 ?k_Asker_init0 ?a_Asker_byte ?i_Asker_byte ?l_Asker_byte ?c_Asker_byte ?k_Asker_byte ?a_Asker_need ?i_Asker_need ?l_Asker_need ?c_Asker_need ?k_Asker_need ?a_Asker_everywhere ?i_Asker_everywhere ?l_Asker_everywhere ?c_Asker_everywhere ?k_Asker_everywhere ?a_Asker_of_colour ?i_Asker_of_colour ?l_Asker_of_colour ?c_Asker_of_colour ?k_Asker_of_colour ?a_Asker_leading ?i_Asker_leading ?l_Asker_leading ?c_Asker_leading ?k_Asker_leading ?a_Asker_number ?i_Asker_number ?l_Asker_number ?c_Asker_number ?k_Asker_number ?a_Asker_begin ?i_Asker_begin ?l_Asker_begin ?c_Asker_begin ?k_Asker_begin ?a_Asker_end ?i_Asker_end ?l_Asker_end ?c_Asker_end ?k_Asker_end ?a_Asker_asked ?i_Asker_asked ?l_Asker_asked ?c_Asker_asked ?k_Asker_asked ?a_where_holds ?l_where_holds ?c_where_holds ?k_where_holds ?a_codes ?l_codes ?c_codes ?k_codes ?a_Teller_init0 ?i_Teller_init0 ?l_Teller_init0 ?c_Teller_init0 ?k_Teller_init0 ?a_Teller_tell ?i_Teller_tell ?l_Teller_tell ?c_Teller_tell ?k_Teller_tell ?a_Teller_made ?i_Teller_made ?l_Teller_made ?c_Teller_made ?k_Teller_made ?a_Teller_is_alike ?i_Teller_is_alike ?l_Teller_is_alike ?c_Teller_is_alike ?k_Teller_is_alike ?a_Teller_by_arc ?i_Teller_by_arc ?l_Teller_by_arc ?c_Teller_by_arc ?k_Teller_by_arc ?a_short ?l_short ?c_short ?k_short ?a_all_of ?l_all_of ?c_all_of ?k_all_of ?a_System_init0 ?i_System_init0 ?l_System_init0 ?c_System_init0 ?k_System_init0 ?a_System_many ?i_System_many ?l_System_many ?c_System_many ?k_System_many ?a_System_painted ?i_System_painted ?l_System_painted ?c_System_painted ?k_System_painted ?a_System_with_arc ?i_System_with_arc ?l_System_with_arc ?c_System_with_arc ?k_System_with_arc ?a_System_without_arc ?i_System_without_arc ?l_System_without_arc ?c_System_without_arc ?k_System_without_arc ?a_System_arcs_from ?i_System_arcs_from ?l_System_arcs_from ?c_System_arcs_from ?k_System_arcs_from ?a_System_led_to ?i_System_led_to ?l_System_led_to ?c_System_led_to ?k_System_led_to ?a_System_followed ?i_System_followed ?l_System_followed ?c_System_followed ?k_System_followed ?a_System_is_likeness ?i_System_is_likeness ?l_System_is_likeness ?c_System_is_likeness ?k_System_is_likeness ?a_numbered ?l_numbered ?c_numbered ?k_numbered ?a_empty_system ?l_empty_system ?c_empty_system ?k_empty_system ?a_Levels_init0 ?i_Levels_init0 ?l_Levels_init0 ?c_Levels_init0 ?k_Levels_init0 ?a_Levels_classes ?i_Levels_classes ?l_Levels_classes ?c_Levels_classes ?k_Levels_classes ?a_Levels_count ?i_Levels_count ?l_Levels_count ?c_Levels_count ?k_Levels_count ?a_Levels_are_same ?i_Levels_are_same ?l_Levels_are_same ?c_Levels_are_same ?k_Levels_are_same ?a_Levels_depth ?i_Levels_depth ?l_Levels_depth ?c_Levels_depth ?k_Levels_depth ?a_Levels_quotient ?i_Levels_quotient ?l_Levels_quotient ?c_Levels_quotient ?k_Levels_quotient ?a_Refused_init0 ?t_Refused_init0 ?l_Refused_init0 ?c_Refused_init0 ?k_Refused_init0 ?a_want ?l_want ?c_want ?k_want ?a_full ?l_full ?c_full ?k_full ?a_Desk_init0 ?i_Desk_init0 ?l_Desk_init0 ?c_Desk_init0 ?k_Desk_init0 ?a_Desk_put ?i_Desk_put ?l_Desk_put ?c_Desk_put ?k_Desk_put ?a_Desk_known_levels ?i_Desk_known_levels ?l_Desk_known_levels ?c_Desk_known_levels ?k_Desk_known_levels ?a_Desk_want_states ?i_Desk_want_states ?l_Desk_want_states ?c_Desk_want_states ?k_Desk_want_states ?a_Desk_want_arc ?i_Desk_want_arc ?l_Desk_want_arc ?c_Desk_want_arc ?k_Desk_want_arc ?a_Desk_init ?i_Desk_init ?l_Desk_init ?c_Desk_init ?k_Desk_init ?a_Desk_paint ?i_Desk_paint ?l_Desk_paint ?c_Desk_paint ?k_Desk_paint ?a_Desk_arc ?i_Desk_arc ?l_Desk_arc ?c_Desk_arc ?k_Desk_arc ?a_Desk_cut ?i_Desk_cut ?l_Desk_cut ?c_Desk_cut ?k_Desk_cut ?a_Desk_has ?i_Desk_has ?l_Desk_has ?c_Desk_has ?k_Desk_has ?a_Desk_look ?i_Desk_look ?l_Desk_look ?c_Desk_look ?k_Desk_look ?a_Desk_same ?i_Desk_same ?l_Desk_same ?c_Desk_same ?k_Desk_same ?a_Desk_unlike ?i_Desk_unlike ?l_Desk_unlike ?c_Desk_unlike ?k_Desk_unlike ?a_Desk_depth ?i_Desk_depth ?l_Desk_depth ?c_Desk_depth ?k_Desk_depth ?a_Desk_number ?i_Desk_number ?l_Desk_number ?c_Desk_number ?k_Desk_number ?a_Desk_tell ?i_Desk_tell ?l_Desk_tell ?c_Desk_tell ?k_Desk_tell ?a_Desk_where ?i_Desk_where ?l_Desk_where ?c_Desk_where ?k_Desk_where ?a_Desk_holds ?i_Desk_holds ?l_Desk_holds ?c_Desk_holds ?k_Desk_holds ?a_Desk_told_where ?i_Desk_told_where ?l_Desk_told_where ?c_Desk_told_where ?k_Desk_told_where ?a_Desk_check ?i_Desk_check ?l_Desk_check ?c_Desk_check ?k_Desk_check ?a_Desk_quotient ?i_Desk_quotient ?l_Desk_quotient ?c_Desk_quotient ?k_Desk_quotient ?a_Desk_of_arcs ?i_Desk_of_arcs ?l_Desk_of_arcs ?c_Desk_of_arcs ?k_Desk_of_arcs ?a_Desk_of_likeness ?i_Desk_of_likeness ?l_Desk_of_likeness ?c_Desk_of_likeness ?k_Desk_of_likeness ?a_Desk_answer ?i_Desk_answer ?l_Desk_answer ?c_Desk_answer ?k_Desk_answer ?a_answers ?l_answers ?c_answers ?k_answers ?g_len ?g_enumerate ?g_sum ?g_ord ?g_str ?g_any ?g_all ?g_sorted ?g_tuple ?g_set ?g_range ?g_int ?g_ValueError ?vV ?q_MOST_DEEP ?q_MOST_TOLD ?q_MOST_COLOUR_formulas ?q_MOST_LABEL_formulas ?q_TRUE ?q_COLOUR ?q_NOT ?q_LEFT ?q_AND ?q_RIGHT ?q_LESS ?q_MORE ?q_MOST_STATES ?q_MOST_COLOUR_states ?q_MOST_LABEL_states ?q_MOST_ARCS ?q_BAD ?q_REFUSED ?q_NO_FORMULA ?q_TOO_LONG ?q_NO_SYSTEM ?q_MOST_BYTES ?aT_NUMBERS ?lT_NUMBERS ?zT_NUMBERS ?vT_NUMBERS ?aT_WITH_ROW ?lT_WITH_ROW ?zT_WITH_ROW ?vT_WITH_ROW ?q_INIT
    (case aC_Fault => k_is)
    (case xL_Fault => k_is)
    (case sa_Fault => k_is)
    (case ga_Fault => k_is)
    (case gg_Fault => k_is)
    (case nb_Fault => k_is)
    (case kC_Fault => k_is)
    (case eC_Fault => k_is)
    (case tC_Fault => k_is)
    (case hC_Fault => k_is)
    (case iC_Fault => k_is)
    (case sC_Fault => first | rfl | k_is)
    (case aC_Asker => k_is)
    (case pg_Asker => k_is)
    (case hd_Asker => k_is)
    (case po_Asker => k_is)
    (case sa_Asker => k_is)
    (case mk_Asker => k_is)
    (case kc_Asker => k_is)
    (case n_Asker_system => k_is)
    (case n_Asker_text => k_is)
    (case n_Asker_at => k_is)
    (case n_Asker_waiting => k_is)
    (case aC_Teller => k_is)
    (case pg_Teller => k_is)
    (case hd_Teller => k_is)
    (case po_Teller => k_is)
    (case sa_Teller => k_is)
    (case mk_Teller => k_is)
    (case kc_Teller => k_is)
    (case n_Teller_levels => k_is)
    (case n_Teller_system => k_is)
    (case n_Teller_texts => k_is)
    (case aC_System => k_is)
    (case pg_System => k_is)
    (case hd_System => k_is)
    (case po_System => k_is)
    (case sa_System => k_is)
    (case mk_System => k_is)
    (case kc_System => k_is)
    (case n_System_colours => k_is)
    (case n_System_arcs => k_is)
    (case aC_Levels => k_is)
    (case pg_Levels => k_is)
    (case hd_Levels => k_is)
    (case po_Levels => k_is)
    (case sa_Levels => k_is)
    (case mk_Levels => k_is)
    (case kc_Levels => k_is)
    (case n_Levels_system => k_is)
    (case n_Levels_rows => k_is)
    (case aC_Refused => k_is)
    (case xL_Refused => k_is)
    (case sa_Refused => k_is)
    (case ga_Refused => k_is)
    (case gg_Refused => k_is)
    (case nb_Refused => k_is)
    (case kC_Refused => k_is)
    (case eC_Refused => k_is)
    (case tC_Refused => k_is)
    (case hC_Refused => k_is)
    (case iC_Refused => k_is)
    (case sC_Refused => first | rfl | k_is)
    (case aC_Desk => k_is)
    (case pg_Desk => k_is)
    (case hd_Desk => k_is)
    (case po_Desk => k_is)
    (case sa_Desk => k_is)
    (case mk_Desk => k_is)
    (case kc_Desk => k_is)
    (case n_Desk_system => k_is)
    (case n_Desk_levels => k_is)
    (case a_Fault_init0 => k_is)
    (case t_Fault_init0 => k_is)
    (case l_Fault_init0 => k_is)
    (case c_Fault_init0 => k_is)
    (case k_Fault_init0 => k_is)
    (case a_figures_end => k_is)
    (case l_figures_end => k_is)
    (case c_figures_end => k_is)
    (case k_figures_end => k_is)
    (case a_number_at => k_is)
    (case l_number_at => k_is)
    (case c_number_at => k_is)
    (case k_number_at => k_is)
    (case a_Asker_init0 => k_is)
    (case i_Asker_init0 => k_is)
    (case l_Asker_init0 => k_is)
    (case c_Asker_init0 => k_is)
    (case k_Asker_init0 => k_is)
    (case a_Asker_byte => k_is)
    (case i_Asker_byte => k_is)
    (case l_Asker_byte => k_is)
    (case c_Asker_byte => k_is)
    (case k_Asker_byte => k_is)
    (case a_Asker_need => k_is)
    (case i_Asker_need => k_is)
    (case l_Asker_need => k_is)
    (case c_Asker_need => k_is)
    (case k_Asker_need => k_is)
    (case a_Asker_everywhere => k_is)
    (case i_Asker_everywhere => k_is)
    (case l_Asker_everywhere => k_is)
    (case c_Asker_everywhere => k_is)
    (case k_Asker_everywhere => k_is)
    (case a_Asker_of_colour => k_is)
    (case i_Asker_of_colour => k_is)
    (case l_Asker_of_colour => k_is)
    (case c_Asker_of_colour => k_is)
    (case k_Asker_of_colour => k_is)
    (case a_Asker_leading => k_is)
    (case i_Asker_leading => k_is)
    (case l_Asker_leading => k_is)
    (case c_Asker_leading => k_is)
    (case k_Asker_leading => k_is)
    (case a_Asker_number => k_is)
    (case i_Asker_number => k_is)
    (case l_Asker_number => k_is)
    (case c_Asker_number => k_is)
    (case k_Asker_number => k_is)
    (case a_Asker_begin => k_is)
    (case i_Asker_begin => k_is)
    (case l_Asker_begin => k_is)
    (case c_Asker_begin => k_is)
    (case k_Asker_begin => k_is)
    (case a_Asker_end => k_is)
    (case i_Asker_end => k_is)
    (case l_Asker_end => k_is)
    (case c_Asker_end => k_is)
    (case k_Asker_end => k_is)
    (case a_Asker_asked => k_is)
    (case i_Asker_asked => k_is)
    (case l_Asker_asked => k_is)
    (case c_Asker_asked => k_is)
    (case k_Asker_asked => k_is)
    (case a_where_holds => k_is)
    (case l_where_holds => k_is)
    (case c_where_holds => k_is)
    (case k_where_holds => k_is)
    (case a_codes => k_is)
    (case l_codes => k_is)
    (case c_codes => k_is)
    (case k_codes => k_is)
    (case a_Teller_init0 => k_is)
    (case i_Teller_init0 => k_is)
    (case l_Teller_init0 => k_is)
    (case c_Teller_init0 => k_is)
    (case k_Teller_init0 => k_is)
    (case a_Teller_tell => k_is)
    (case i_Teller_tell => k_is)
    (case l_Teller_tell => k_is)
    (case c_Teller_tell => k_is)
    (case k_Teller_tell => k_is)
    (case a_Teller_made => k_is)
    (case i_Teller_made => k_is)
    (case l_Teller_made => k_is)
    (case c_Teller_made => k_is)
    (case k_Teller_made => k_is)
    (case a_Teller_is_alike => k_is)
    (case i_Teller_is_alike => k_is)
    (case l_Teller_is_alike => k_is)
    (case c_Teller_is_alike => k_is)
    (case k_Teller_is_alike => k_is)
    (case a_Teller_by_arc => k_is)
    (case i_Teller_by_arc => k_is)
    (case l_Teller_by_arc => k_is)
    (case c_Teller_by_arc => k_is)
    (case k_Teller_by_arc => k_is)
    (case a_short => k_is)
    (case l_short => k_is)
    (case c_short => k_is)
    (case k_short => k_is)
    (case a_all_of => k_is)
    (case l_all_of => k_is)
    (case c_all_of => k_is)
    (case k_all_of => k_is)
    (case a_System_init0 => k_is)
    (case i_System_init0 => k_is)
    (case l_System_init0 => k_is)
    (case c_System_init0 => k_is)
    (case k_System_init0 => k_is)
    (case a_System_many => k_is)
    (case i_System_many => k_is)
    (case l_System_many => k_is)
    (case c_System_many => k_is)
    (case k_System_many => k_is)
    (case a_System_painted => k_is)
    (case i_System_painted => k_is)
    (case l_System_painted => k_is)
    (case c_System_painted => k_is)
    (case k_System_painted => k_is)
    (case a_System_with_arc => k_is)
    (case i_System_with_arc => k_is)
    (case l_System_with_arc => k_is)
    (case c_System_with_arc => k_is)
    (case k_System_with_arc => k_is)
    (case a_System_without_arc => k_is)
    (case i_System_without_arc => k_is)
    (case l_System_without_arc => k_is)
    (case c_System_without_arc => k_is)
    (case k_System_without_arc => k_is)
    (case a_System_arcs_from => k_is)
    (case i_System_arcs_from => k_is)
    (case l_System_arcs_from => k_is)
    (case c_System_arcs_from => k_is)
    (case k_System_arcs_from => k_is)
    (case a_System_led_to => k_is)
    (case i_System_led_to => k_is)
    (case l_System_led_to => k_is)
    (case c_System_led_to => k_is)
    (case k_System_led_to => k_is)
    (case a_System_followed => k_is)
    (case i_System_followed => k_is)
    (case l_System_followed => k_is)
    (case c_System_followed => k_is)
    (case k_System_followed => k_is)
    (case a_System_is_likeness => k_is)
    (case i_System_is_likeness => k_is)
    (case l_System_is_likeness => k_is)
    (case c_System_is_likeness => k_is)
    (case k_System_is_likeness => k_is)
    (case a_numbered => k_is)
    (case l_numbered => k_is)
    (case c_numbered => k_is)
    (case k_numbered => k_is)
    (case a_empty_system => k_is)
    (case l_empty_system => k_is)
    (case c_empty_system => k_is)
    (case k_empty_system => k_is)
    (case a_Levels_init0 => k_is)
    (case i_Levels_init0 => k_is)
    (case l_Levels_init0 => k_is)
    (case c_Levels_init0 => k_is)
    (case k_Levels_init0 => k_is)
    (case a_Levels_classes => k_is)
    (case i_Levels_classes => k_is)
    (case l_Levels_classes => k_is)
    (case c_Levels_classes => k_is)
    (case k_Levels_classes => k_is)
    (case a_Levels_count => k_is)
    (case i_Levels_count => k_is)
    (case l_Levels_count => k_is)
    (case c_Levels_count => k_is)
    (case k_Levels_count => k_is)
    (case a_Levels_are_same => k_is)
    (case i_Levels_are_same => k_is)
    (case l_Levels_are_same => k_is)
    (case c_Levels_are_same => k_is)
    (case k_Levels_are_same => k_is)
    (case a_Levels_depth => k_is)
    (case i_Levels_depth => k_is)
    (case l_Levels_depth => k_is)
    (case c_Levels_depth => k_is)
    (case k_Levels_depth => k_is)
    (case a_Levels_quotient => k_is)
    (case i_Levels_quotient => k_is)
    (case l_Levels_quotient => k_is)
    (case c_Levels_quotient => k_is)
    (case k_Levels_quotient => k_is)
    (case a_Refused_init0 => k_is)
    (case t_Refused_init0 => k_is)
    (case l_Refused_init0 => k_is)
    (case c_Refused_init0 => k_is)
    (case k_Refused_init0 => k_is)
    (case a_want => k_is)
    (case l_want => k_is)
    (case c_want => k_is)
    (case k_want => k_is)
    (case a_full => k_is)
    (case l_full => k_is)
    (case c_full => k_is)
    (case k_full => k_is)
    (case a_Desk_init0 => k_is)
    (case i_Desk_init0 => k_is)
    (case l_Desk_init0 => k_is)
    (case c_Desk_init0 => k_is)
    (case k_Desk_init0 => k_is)
    (case a_Desk_put => k_is)
    (case i_Desk_put => k_is)
    (case l_Desk_put => k_is)
    (case c_Desk_put => k_is)
    (case k_Desk_put => k_is)
    (case a_Desk_known_levels => k_is)
    (case i_Desk_known_levels => k_is)
    (case l_Desk_known_levels => k_is)
    (case c_Desk_known_levels => k_is)
    (case k_Desk_known_levels => k_is)
    (case a_Desk_want_states => k_is)
    (case i_Desk_want_states => k_is)
    (case l_Desk_want_states => k_is)
    (case c_Desk_want_states => k_is)
    (case k_Desk_want_states => k_is)
    (case a_Desk_want_arc => k_is)
    (case i_Desk_want_arc => k_is)
    (case l_Desk_want_arc => k_is)
    (case c_Desk_want_arc => k_is)
    (case k_Desk_want_arc => k_is)
    (case a_Desk_init => k_is)
    (case i_Desk_init => k_is)
    (case l_Desk_init => k_is)
    (case c_Desk_init => k_is)
    (case k_Desk_init => k_is)
    (case a_Desk_paint => k_is)
    (case i_Desk_paint => k_is)
    (case l_Desk_paint => k_is)
    (case c_Desk_paint => k_is)
    (case k_Desk_paint => k_is)
    (case a_Desk_arc => k_is)
    (case i_Desk_arc => k_is)
    (case l_Desk_arc => k_is)
    (case c_Desk_arc => k_is)
    (case k_Desk_arc => k_is)
    (case a_Desk_cut => k_is)
    (case i_Desk_cut => k_is)
    (case l_Desk_cut => k_is)
    (case c_Desk_cut => k_is)
    (case k_Desk_cut => k_is)
    (case a_Desk_has => k_is)
    (case i_Desk_has => k_is)
    (case l_Desk_has => k_is)
    (case c_Desk_has => k_is)
    (case k_Desk_has => k_is)
    (case a_Desk_look => k_is)
    (case i_Desk_look => k_is)
    (case l_Desk_look => k_is)
    (case c_Desk_look => k_is)
    (case k_Desk_look => k_is)
    (case a_Desk_same => k_is)
    (case i_Desk_same => k_is)
    (case l_Desk_same => k_is)
    (case c_Desk_same => k_is)
    (case k_Desk_same => k_is)
    (case a_Desk_unlike => k_is)
    (case i_Desk_unlike => k_is)
    (case l_Desk_unlike => k_is)
    (case c_Desk_unlike => k_is)
    (case k_Desk_unlike => k_is)
    (case a_Desk_depth => k_is)
    (case i_Desk_depth => k_is)
    (case l_Desk_depth => k_is)
    (case c_Desk_depth => k_is)
    (case k_Desk_depth => k_is)
    (case a_Desk_number => k_is)
    (case i_Desk_number => k_is)
    (case l_Desk_number => k_is)
    (case c_Desk_number => k_is)
    (case k_Desk_number => k_is)
    (case a_Desk_tell => k_is)
    (case i_Desk_tell => k_is)
    (case l_Desk_tell => k_is)
    (case c_Desk_tell => k_is)
    (case k_Desk_tell => k_is)
    (case a_Desk_where => k_is)
    (case i_Desk_where => k_is)
    (case l_Desk_where => k_is)
    (case c_Desk_where => k_is)
    (case k_Desk_where => k_is)
    (case a_Desk_holds => k_is)
    (case i_Desk_holds => k_is)
    (case l_Desk_holds => k_is)
    (case c_Desk_holds => k_is)
    (case k_Desk_holds => k_is)
    (case a_Desk_told_where => k_is)
    (case i_Desk_told_where => k_is)
    (case l_Desk_told_where => k_is)
    (case c_Desk_told_where => k_is)
    (case k_Desk_told_where => k_is)
    (case a_Desk_check => k_is)
    (case i_Desk_check => k_is)
    (case l_Desk_check => k_is)
    (case c_Desk_check => k_is)
    (case k_Desk_check => k_is)
    (case a_Desk_quotient => k_is)
    (case i_Desk_quotient => k_is)
    (case l_Desk_quotient => k_is)
    (case c_Desk_quotient => k_is)
    (case k_Desk_quotient => k_is)
    (case a_Desk_of_arcs => k_is)
    (case i_Desk_of_arcs => k_is)
    (case l_Desk_of_arcs => k_is)
    (case c_Desk_of_arcs => k_is)
    (case k_Desk_of_arcs => k_is)
    (case a_Desk_of_likeness => k_is)
    (case i_Desk_of_likeness => k_is)
    (case l_Desk_of_likeness => k_is)
    (case c_Desk_of_likeness => k_is)
    (case k_Desk_of_likeness => k_is)
    (case a_Desk_answer => k_is)
    (case i_Desk_answer => k_is)
    (case l_Desk_answer => k_is)
    (case c_Desk_answer => k_is)
    (case k_Desk_answer => k_is)
    (case a_answers => k_is)
    (case l_answers => k_is)
    (case c_answers => k_is)
    (case k_answers => k_is)
    (case g_len => k_is)
    (case g_enumerate => k_is)
    (case g_sum => k_is)
    (case g_ord => k_is)
    (case g_str => k_is)
    (case g_any => k_is)
    (case g_all => k_is)
    (case g_sorted => k_is)
    (case g_tuple => k_is)
    (case g_set => k_is)
    (case g_range => k_is)
    (case g_int => k_is)
    (case g_ValueError => k_is)
    (case vV => k_is)
    (case q_MOST_DEEP => k_is)
    (case q_MOST_TOLD => k_is)
    (case q_MOST_COLOUR_formulas => k_is)
    (case q_MOST_LABEL_formulas => k_is)
    (case q_TRUE => k_is)
    (case q_COLOUR => k_is)
    (case q_NOT => k_is)
    (case q_LEFT => k_is)
    (case q_AND => k_is)
    (case q_RIGHT => k_is)
    (case q_LESS => k_is)
    (case q_MORE => k_is)
    (case q_MOST_STATES => k_is)
    (case q_MOST_COLOUR_states => k_is)
    (case q_MOST_LABEL_states => k_is)
    (case q_MOST_ARCS => k_is)
    (case q_BAD => k_is)
    (case q_REFUSED => k_is)
    (case q_NO_FORMULA => k_is)
    (case q_TOO_LONG => k_is)
    (case q_NO_SYSTEM => k_is)
    (case q_MOST_BYTES => k_is)
    (case aT_NUMBERS => k_is)
    (case lT_NUMBERS => k_is)
    (case zT_NUMBERS => decide +kernel)
    (case vT_NUMBERS => repeat (first | exact .nil | refine .cons ⟨_, rfl⟩ ?_))
    (case aT_WITH_ROW => k_is)
    (case lT_WITH_ROW => k_is)
    (case zT_WITH_ROW => decide +kernel)
    (case vT_WITH_ROW => repeat (first | exact .nil | refine .cons ⟨_, rfl⟩ ?_))
    (case q_INIT => k_is)
  case S =>
    intro K H xs a hO hwi hask hx
    cases hx with
    | cons h1 h2 =>
      cases h2
      cases h1 with
      | lst hs ha =>
        have e := L2.ints_dw a.1 _ ha
        subst e
        exact ⟨_, a.1, rfl, hs, hask, fun H' p hp => .lst (L2.SqL.of hp) (L2.dw_ints _)⟩
end
