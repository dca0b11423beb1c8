import PyProof.Rows.All
import TbStSpec
import Wide.All
import OpenK.AllK
import Wide.FinOn
import Open.SpecLaws
import KE.OsGo
import KE.KStateDown
import HandS.ForSpec
import HandS.Defaults
import HandS.Head0
import HandS.Head1
import HandS.Head2
import HandS.HeadHook1
import HandS.HeadHook2
import HandS.ExcInit
import HandS.ExcField
import HandS.Comp
import HandS.Dict
import HandS.Iter
import HandS.Walk
import HandS.Evl
import HandS.More
import HandS.SetKeys
import HandS.SortInts
import HandS.SortRule
import HandS.Deep
import HandS.NoneIn
import HandS.ExcCtx
import HandS.HotCalls
import HandS.SuiteRaise
import HandS.RaiseFrom
import HandS.ExcInitHot
import HandS.CallLocal
import KE.KDictCopyH
import KE.KDictOf
import KE.SortData
import HandS.Strs
import HandS.Set
import HandS.SetFor
import PySem.Challenge.RW_storetouch_s01_answers
section

/-! The plain law, part 1: the mirror of the program over plain lists, and general lemmas about lists. -/
namespace St
open TbStLog

/-! ### lists -/
theorem perm_sorted_eq {α : Type} {R : α → α → Prop} : ∀ {l1 l2 : List α}, l1.Perm l2 → l1.Pairwise R → l2.Pairwise R → (∀ a ∈ l1, ∀ b ∈ l1, R a b → R b a → a = b) → l1 = l2
  | [], l2, p, _, _, _ => (List.nil_perm.mp p).symm
  | a :: r, [], p, _, _, _ => absurd p.symm (by intro h; have := List.nil_perm.mp h; cases this)
  | a :: r, b :: s, p, h1, h2, an => by
    have ha : a ∈ b :: s := p.subset (List.mem_cons_self ..)
    have hb : b ∈ a :: r := p.symm.subset (List.mem_cons_self ..)
    have e : a = b := by
      rcases List.mem_cons.mp ha with h | h
      · exact h
      · rcases List.mem_cons.mp hb with h' | h'
        · exact h'.symm
        · exact an a (List.mem_cons_self ..) b hb (List.rel_of_pairwise_cons h1 h') (List.rel_of_pairwise_cons h2 h)
    subst e
    have p' : r.Perm s := List.Perm.cons_inv p
    rw [perm_sorted_eq p' (List.Pairwise.of_cons h1) (List.Pairwise.of_cons h2) (fun x hx y hy => an x (List.mem_cons_of_mem _ hx) y (List.mem_cons_of_mem _ hy))]

/-- strictly rising lists with the same members are one -/
theorem rising_ext {l1 l2 : List Nat} (h1 : l1.Pairwise (· < ·)) (h2 : l2.Pairwise (· < ·)) (h : ∀ x, x ∈ l1 ↔ x ∈ l2) : l1 = l2 := by
  have n1 : l1.Nodup := h1.imp (fun h => Nat.ne_of_lt h)
  have n2 : l2.Nodup := h2.imp (fun h => Nat.ne_of_lt h)
  have p : l1.Perm l2 := (List.perm_ext_iff_of_nodup n1 n2).mpr h
  exact perm_sorted_eq p h1 h2 fun a _ b _ x y => absurd x (Nat.lt_asymm y)

theorem eraseDups_mem {α : Type} [BEq α] [LawfulBEq α] {l : List α} {a : α} : a ∈ l.eraseDups ↔ a ∈ l := by
  exact List.mem_eraseDups

theorem rising_mem {l : List Nat} {x : Nat} : x ∈ rising l ↔ x ∈ l := by
  unfold rising
  rw [List.mem_eraseDups, List.mem_mergeSort]

theorem eraseDups_sub {α : Type} [BEq α] [LawfulBEq α] : ∀ (n : Nat) (l : List α), l.length ≤ n → l.eraseDups.Sublist l
  | 0, [], _ => by simp
  | n + 1, [], _ => by simp
  | n + 1, a :: l, h => by
    rw [List.eraseDups_cons]
    refine List.Sublist.cons_cons a ?_
    exact (eraseDups_sub n _ (Nat.le_trans (List.length_filter_le _ _) (Nat.le_of_succ_le_succ h))).trans List.filter_sublist
theorem eraseDups_nodup {α : Type} [BEq α] [LawfulBEq α] : ∀ (n : Nat) (l : List α), l.length ≤ n → l.eraseDups.Nodup
  | 0, [], _ => by simp
  | n + 1, [], _ => by simp
  | n + 1, a :: l, h => by
    rw [List.eraseDups_cons, List.nodup_cons]
    refine ⟨fun hm => ?_, eraseDups_nodup n _ (Nat.le_trans (List.length_filter_le _ _) (Nat.le_of_succ_le_succ h))⟩
    have := (List.mem_filter.mp (List.mem_eraseDups.mp hm)).2
    simp at this

theorem rising_sorted (l : List Nat) : (rising l).Pairwise (· < ·) := by
  unfold rising
  have h1 : (l.mergeSort fun (a b : Nat) => decide (a ≤ b)).Pairwise (fun a b => decide (a ≤ b) = true) :=
    List.pairwise_mergeSort (fun a b c h1 h2 => by simp at *; omega) (fun a b => by simp; omega) l
  have h2 := h1.sublist (eraseDups_sub _ _ (Nat.le_refl _))
  have h3 : ((l.mergeSort fun (a b : Nat) => decide (a ≤ b)).eraseDups).Nodup := eraseDups_nodup _ _ (Nat.le_refl _)
  exact (h2.and h3).imp fun ⟨x, y⟩ => by
    simp at x
    omega

/-! ### the entries -/
structure Ent where
  thing : Nat
  minute : Nat
  lots : List Nat
  struck : Bool
abbrev Es := List Ent
def ent (es : Es) (i : Nat) : Ent := es.getD i ⟨0, 0, [], true⟩
def isMeet (e : Ent) : Bool := decide (0 < e.lots.length)
def standing (es : Es) : List Nat := (List.range es.length).filter fun i => !(ent es i).struck
def isTaken (es : Es) (t m : Nat) : Bool := (standing es).any fun i => decide ((ent es i).thing = t) && decide ((ent es i).minute = m)
def hasMeeting (es : Es) (x m : Nat) : Bool := (standing es).any fun i => decide (x ∈ (ent es i).lots) && decide ((ent es i).minute = m)
/-- by minutes, of one minute by numbers -/
def leMN (es : Es) (i j : Nat) : Bool := decide ((ent es i).minute < (ent es j).minute) || (decide ((ent es i).minute = (ent es j).minute) && decide (i ≤ j))
def meetings (es : Es) : List Nat := ((standing es).mergeSort (leMN es)).filter fun i => isMeet (ent es i)
def meetingsOf (es : Es) (x : Nat) : List Nat := (meetings es).filter fun i => decide (x ∈ (ent es i).lots)
def allLots (es : Es) : List Nat := rising ((meetings es).flatMap fun i => (ent es i).lots)
def cleanMinutes (es : Es) (t : Nat) (more : List (Nat × Nat)) : List Nat :=
  ((standing es).filter fun i => decide ((ent es i).thing = t) && !isMeet (ent es i)).map (fun i => (ent es i).minute) ++ (more.filter fun c => decide (c.1 = t)).map (·.2)
def isCleaned (es : Es) (t a b : Nat) (more : List (Nat × Nat)) : Bool := (cleanMinutes es t more).any fun m => decide (a < m) && decide (m < b)
/-- a key of a dict put in -/
def dput {α : Type} [DecidableEq α] (l : List α) (k : α) : List α := if k ∈ l then l else l ++ [k]
/-- each with the next one -/
def consec (l : List Nat) : List (Nat × Nat) := (List.range (l.length - 1)).map fun i => (l.getD i 0, l.getD (i + 1) 0)
def lotLinesL (es : Es) : List (Nat × Nat) := ((allLots es).flatMap fun x => consec (meetingsOf es x)).foldl dput []
def things (es : Es) : List Nat := ((meetings es).map fun i => (ent es i).thing).foldl dput []
def rowsOf (es : Es) (t : Nat) : List Nat := (meetings es).filter fun i => decide ((ent es i).thing = t)
def thingLinesL (es : Es) (more : List (Nat × Nat)) : List (Nat × Nat) :=
  ((things es).flatMap fun t => (consec (rowsOf es t)).filter fun p => !isCleaned es t (ent es p.1).minute (ent es p.2).minute more).foldl dput []
/-- the first meeting of a lot from a minute on -/
def firstM (es : Es) (x m : Nat) : Option Nat := ((meetingsOf es x).filter fun i => decide (m ≤ (ent es i).minute)).head?
def reachStep (lines : List (Nat × Nat)) (told : List Nat) (n : Nat) : List Nat := if (told.any fun o => decide ((o, n) ∈ lines)) = true then dput told n else told
def reached (es : Es) (x m : Nat) (lines : List (Nat × Nat)) : List Nat := match firstM es x m with
  | none => []
  | some f => (meetings es).foldl (reachStep lines) [f]
def allLines (es : Es) (more : List (Nat × Nat)) : List (Nat × Nat) := (thingLinesL es more).foldl dput (lotLinesL es)
def touchedM (es : Es) (x m : Nat) : List Nat := (meetings es).filter fun i => decide (i ∈ reached es x m (allLines es []))
def isFind (es : Es) (i : Nat) (fs : List (Nat × Nat)) : Bool := fs.any fun f => decide (f.1 ∈ (ent es i).lots) && decide ((ent es i).minute ≤ f.2)
def doReach (es : Es) (x : Nat) (held : List Nat) (fs : List (Nat × Nat)) : Bool := (fs.any fun f => decide (f.1 = x)) || held.any fun i => isFind es i fs
def reachesAll (es : Es) (x : Nat) (fs : List (Nat × Nat)) : Bool := fs.all fun f => decide (f.1 = x) || (touchedM es x 0).any fun i => isFind es i [f]

/-- what an entry is in the specification -/
def absE (e : Ent) : Option Entry := if e.struck = true then none else if isMeet e = true then some (.meet e.thing e.minute e.lots) else some (.clean e.thing e.minute)
def abs (es : Es) : Log := es.map absE
def toMeet (es : Es) (i : Nat) : Meet := ⟨i, (ent es i).thing, (ent es i).minute, (ent es i).lots⟩

structure Good (es : Es) : Prop where
  len : es.length ≤ 80
  row : ∀ e ∈ es, e.lots.length ≤ 12 ∧ e.lots.Pairwise (· < ·) ∧ ∀ x ∈ e.lots, x < 1000
  rng : ∀ e ∈ es, e.thing < 20 ∧ e.minute < 52596000
  spot : ∀ i ∈ standing es, ∀ j ∈ standing es, (ent es i).thing = (ent es j).thing → (ent es i).minute = (ent es j).minute → i = j
  lot : ∀ i ∈ standing es, ∀ j ∈ standing es, (ent es i).minute = (ent es j).minute → ∀ x, x ∈ (ent es i).lots → x ∈ (ent es j).lots → i = j
end St

end

section

namespace St
open TbStLog

theorem mem_standing {es : Es} {i : Nat} : i ∈ standing es ↔ i < es.length ∧ (ent es i).struck = false := by
  unfold standing
  rw [List.mem_filter, List.mem_range]
  simp
theorem ent_mem {es : Es} {i : Nat} (h : i < es.length) : ent es i ∈ es := by
  unfold ent
  rw [List.getD_eq_getElem?_getD, List.getElem?_eq_getElem h]
  exact List.getElem_mem h
theorem standing_nodup (es : Es) : (standing es).Nodup := List.nodup_range.sublist List.filter_sublist
theorem standing_len (es : Es) : (standing es).length ≤ es.length := by
  have h := List.length_filter_le (fun i => !(ent es i).struck) (List.range es.length)
  rw [List.length_range] at h
  exact h
theorem leMN_trans (es : Es) (a b c : Nat) (h1 : leMN es a b = true) (h2 : leMN es b c = true) : leMN es a c = true := by
  unfold leMN at *
  simp at *
  omega
theorem leMN_total (es : Es) (a b : Nat) : (leMN es a b || leMN es b a) = true := by
  unfold leMN
  simp
  omega
theorem sortedS (es : Es) : ((standing es).mergeSort (leMN es)).Pairwise (fun a b => leMN es a b = true) := List.pairwise_mergeSort (leMN_trans es) (leMN_total es) _
theorem mem_meetings {es : Es} {i : Nat} : i ∈ meetings es ↔ i < es.length ∧ (ent es i).struck = false ∧ isMeet (ent es i) = true := by
  unfold meetings
  rw [List.mem_filter, List.mem_mergeSort, mem_standing]
  constructor
  · rintro ⟨⟨a, b⟩, c⟩
    exact ⟨a, b, c⟩
  · rintro ⟨a, b, c⟩
    exact ⟨⟨a, b⟩, c⟩
theorem meetings_standing {es : Es} {i : Nat} (h : i ∈ meetings es) : i ∈ standing es := mem_standing.mpr ⟨(mem_meetings.mp h).1, (mem_meetings.mp h).2.1⟩
theorem meetings_sorted (es : Es) : (meetings es).Pairwise (fun a b => leMN es a b = true) := (sortedS es).sublist List.filter_sublist
theorem meetings_nodup (es : Es) : (meetings es).Nodup := ((List.mergeSort_perm (standing es) (leMN es)).nodup_iff.mpr (standing_nodup es)).sublist List.filter_sublist
theorem meetings_len (es : Es) : (meetings es).length ≤ es.length := by
  refine Nat.le_trans (List.length_filter_le _ _) ?_
  rw [List.length_mergeSort]
  exact standing_len es

/-! ### the specification's meetings -/
theorem before_trans (a b c : Meet) (h1 : a.before b = true) (h2 : b.before c = true) : a.before c = true := by
  unfold Meet.before at *
  simp at *
  omega
theorem before_total (a b : Meet) : (a.before b || b.before a) = true := by
  unfold Meet.before
  simp
  omega
theorem toMeet_before (es : Es) (i j : Nat) : (toMeet es i).before (toMeet es j) = leMN es i j := by
  unfold Meet.before leMN toMeet
  simp [Bool.beq_eq_decide_eq]
def meetAt (x : Option Entry × Nat) : Option Meet := match x.1 with
  | some (.meet t m ls) => some ⟨x.2, t, m, ls⟩
  | _ => none
theorem meetAt_abs (es : Es) (e : Ent) (i : Nat) : meetAt (absE e, i) = if e.struck = false ∧ isMeet e = true then some ⟨i, e.thing, e.minute, e.lots⟩ else none := by
  unfold meetAt absE
  cases h : e.struck <;> cases h2 : isMeet e <;> simp
theorem zipIdx_filterMap (es : Es) : ∀ (l : List Ent) (k : Nat), (∀ i, i < l.length → l[i]? = es[k + i]?) → ((l.map absE).zipIdx k).filterMap meetAt = (((List.range' k l.length).filter fun i => !(ent es i).struck && isMeet (ent es i)).map (toMeet es))
  | [], k, _ => by simp
  | e :: l, k, h => by
    have h0 : es[k]? = some e := by
      have := h 0 (by simp)
      simpa using this.symm
    have he : ent es k = e := by
      unfold ent
      rw [List.getD_eq_getElem?_getD, h0]
      rfl
    have ih := zipIdx_filterMap es l (k + 1) fun i hi => by
      have := h (i + 1) (by simpa using hi)
      rw [List.getElem?_cons_succ] at this
      rw [this]
      congr 1
      omega
    rw [List.map_cons, List.zipIdx_cons, List.filterMap_cons, meetAt_abs es, List.length_cons, List.range'_succ, List.filter_cons]
    rw [he]
    cases h1 : e.struck <;> cases h2 : isMeet e <;> simp [ih, toMeet, he]
theorem meetsOf_eq (es : Es) : meetsOf (abs es) = (meetings es).map (toMeet es) := by
  have e1 : meetsOf (abs es) = (((List.range es.length).filter fun i => !(ent es i).struck && isMeet (ent es i)).map (toMeet es)).mergeSort Meet.before := by
    have z := zipIdx_filterMap es es 0 (fun i _ => by rw [Nat.zero_add])
    rw [← List.range_eq_range'] at z
    rw [← z]
    rfl
  rw [e1]
  have p1 : ((((List.range es.length).filter fun i => !(ent es i).struck && isMeet (ent es i)).map (toMeet es)).mergeSort Meet.before).Perm ((meetings es).map (toMeet es)) := by
    refine (List.mergeSort_perm _ _).trans ?_
    refine List.Perm.map _ ?_
    refine (List.perm_ext_iff_of_nodup (List.nodup_range.sublist List.filter_sublist) (meetings_nodup es)).mpr fun i => ?_
    rw [List.mem_filter, List.mem_range, mem_meetings]
    simp
  refine perm_sorted_eq (R := fun a b => a.before b = true) p1 (List.pairwise_mergeSort before_trans before_total _) ?_ fun a _ b _ h1 h2 => ?_
  · rw [List.pairwise_map]
    exact (meetings_sorted es).imp fun h => by rw [toMeet_before]; exact h
  · rename_i ha hb
    have na := (p1.mem_iff).mp ha
    have nb := (p1.mem_iff).mp hb
    obtain ⟨i, _, rfl⟩ := List.mem_map.mp na
    obtain ⟨j, _, rfl⟩ := List.mem_map.mp nb
    rw [toMeet_before] at h1 h2
    unfold leMN at h1 h2
    simp at h1 h2
    have : i = j := by omega
    rw [this]
end St

end

section

namespace St
open TbStLog
set_option linter.unusedVariables false

/-! ### dicts as lists of keys -/
theorem dput_mem {α : Type} [DecidableEq α] {l : List α} {k x : α} : x ∈ dput l k ↔ x ∈ l ∨ x = k := by
  unfold dput
  split
  · constructor
    · exact Or.inl
    · rintro (h | h)
      · exact h
      · rw [h]; assumption
  · simp
theorem dput_nodup {α : Type} [DecidableEq α] {l : List α} {k : α} (h : l.Nodup) : (dput l k).Nodup := by
  unfold dput
  split
  · exact h
  · rename_i hk
    rw [List.nodup_append]
    refine ⟨h, by simp, fun a ha b hb => ?_⟩
    simp at hb
    rw [hb]
    intro e
    rw [e] at ha
    exact hk ha
theorem foldl_dput_mem {α : Type} [DecidableEq α] {x : α} : ∀ (ks l : List α), x ∈ ks.foldl dput l ↔ x ∈ l ∨ x ∈ ks
  | [], l => by simp
  | k :: ks, l => by
    rw [List.foldl_cons, foldl_dput_mem ks, dput_mem, List.mem_cons]
    constructor
    · rintro ((h | h) | h)
      · exact .inl h
      · exact .inr (.inl h)
      · exact .inr (.inr h)
    · rintro (h | h | h)
      · exact .inl (.inl h)
      · exact .inl (.inr h)
      · exact .inr h
theorem foldl_dput_nodup {α : Type} [DecidableEq α] : ∀ (ks l : List α), l.Nodup → (ks.foldl dput l).Nodup
  | [], l, h => h
  | k :: ks, l, h => foldl_dput_nodup ks _ (dput_nodup h)

/-! ### each with the next one -/
theorem mem_consec {l : List Nat} {a b : Nat} : (a, b) ∈ consec l ↔ ∃ i, l[i]? = some a ∧ l[i + 1]? = some b := by
  unfold consec
  rw [List.mem_map]
  constructor
  · rintro ⟨i, hi, e⟩
    rw [List.mem_range] at hi
    have h1 : i < l.length := by omega
    have h2 : i + 1 < l.length := by omega
    refine ⟨i, ?_, ?_⟩
    · have := congrArg Prod.fst e
      simp [h1] at this ⊢
      exact this
    · have := congrArg Prod.snd e
      simp [h2] at this ⊢
      exact this
  · rintro ⟨i, h1, h2⟩
    obtain ⟨l2, e2⟩ := List.getElem?_eq_some_iff.mp h2
    refine ⟨i, List.mem_range.mpr (by omega), ?_⟩
    rw [List.getD_eq_getElem?_getD, List.getD_eq_getElem?_getD, h1, h2]
    rfl
/-- in a list that rises strictly by m, the next one is the first with a greater m -/
theorem consec_find {m : Nat → Nat} : ∀ {l : List Nat} {a b : Nat}, l.Pairwise (fun x y => m x < m y) → ((a, b) ∈ consec l ↔ a ∈ l ∧ l.find? (fun x => decide (m a < m x)) = some b)
  | [], a, b, _ => by
    rw [mem_consec]
    simp
  | [x], a, b, _ => by
    rw [mem_consec]
    constructor
    · rintro ⟨i, h1, h2⟩
      simp at h2
    · rintro ⟨h1, h2⟩
      simp at h1
      subst h1
      simp at h2
  | x :: y :: r, a, b, h => by
    have ih := consec_find (m := m) (l := y :: r) (a := a) (b := b) (List.Pairwise.of_cons h)
    have split : (a, b) ∈ consec (x :: y :: r) ↔ (a = x ∧ b = y) ∨ (a, b) ∈ consec (y :: r) := by
      rw [mem_consec, mem_consec]
      constructor
      · rintro ⟨i, h1, h2⟩
        cases i with
        | zero =>
          simp at h1 h2
          exact .inl ⟨h1.symm, h2.symm⟩
        | succ i => exact .inr ⟨i, by simpa using h1, by simpa using h2⟩
      · rintro (⟨h1, h2⟩ | ⟨i, h1, h2⟩)
        · exact ⟨0, by simp [h1], by simp [h2]⟩
        · exact ⟨i + 1, by simpa using h1, by simpa using h2⟩
    rw [split, ih]
    have hx : ∀ z ∈ y :: r, m x < m z := fun z hz => List.rel_of_pairwise_cons h hz
    constructor
    · rintro (⟨rfl, rfl⟩ | ⟨h1, h2⟩)
      · refine ⟨List.mem_cons_self .., ?_⟩
        rw [List.find?_cons_of_neg (by simp), List.find?_cons_of_pos (by simpa using hx _ (List.mem_cons_self ..))]
      · refine ⟨List.mem_cons_of_mem _ h1, ?_⟩
        have := hx a h1
        rw [List.find?_cons_of_neg (by simp; omega)]
        exact h2
    · rintro ⟨h1, h2⟩
      rcases List.mem_cons.mp h1 with e | h1
      · subst e
        left
        rw [List.find?_cons_of_neg (by simp), List.find?_cons_of_pos (by simpa using hx _ (List.mem_cons_self ..))] at h2
        exact ⟨rfl, (Option.some.inj h2).symm⟩
      · right
        have := hx a h1
        rw [List.find?_cons_of_neg (by simp; omega)] at h2
        exact ⟨h1, h2⟩
theorem find_filter {α : Type} (p q : α → Bool) : ∀ l : List α, (l.filter p).find? q = l.find? (fun x => q x && p x)
  | [] => rfl
  | x :: r => by
    rw [List.filter_cons]
    cases h : p x
    · simp [find_filter p q r, h]
    · simp only [if_true, List.find?_cons, h, Bool.and_true, find_filter p q r]
theorem find_map {α β : Type} (f : α → β) (p : β → Bool) : ∀ l : List α, (l.map f).find? p = (l.find? (fun x => p (f x))).map f
  | [] => rfl
  | x :: r => by
    rw [List.map_cons, List.find?_cons, List.find?_cons]
    cases h : p (f x)
    · simp [find_map f p r]
    · simp

/-! ### spots -/
theorem any_abs (es : Es) (p : Option Entry → Bool) (hn : p none = false) : (abs es).any p = (standing es).any fun i => p (absE (ent es i)) := by
  rw [Bool.eq_iff_iff, List.any_eq_true, List.any_eq_true]
  constructor
  · rintro ⟨x, hx, hp⟩
    unfold abs at hx
    obtain ⟨e, he, rfl⟩ := List.mem_map.mp hx
    obtain ⟨i, hi, rfl⟩ := List.getElem_of_mem he
    have hs : es[i].struck = false := by
      cases h : es[i].struck
      · rfl
      · unfold absE at hp
        rw [h] at hp
        simp [hn] at hp
    have ee : ent es i = es[i] := by
      unfold ent
      rw [List.getD_eq_getElem?_getD, List.getElem?_eq_getElem hi]
      rfl
    refine ⟨i, mem_standing.mpr ⟨hi, by rw [ee]; exact hs⟩, by rw [ee]; exact hp⟩
  · rintro ⟨i, hi, hp⟩
    exact ⟨_, List.mem_map.mpr ⟨_, ent_mem (mem_standing.mp hi).1, rfl⟩, hp⟩
theorem absE_standing {es : Es} {i : Nat} (h : i ∈ standing es) : absE (ent es i) = if isMeet (ent es i) = true then some (.meet (ent es i).thing (ent es i).minute (ent es i).lots) else some (.clean (ent es i).thing (ent es i).minute) := by
  unfold absE
  rw [(mem_standing.mp h).2]
  simp
theorem any_congr {α : Type} {l : List α} {p q : α → Bool} (h : ∀ x ∈ l, p x = q x) : l.any p = l.any q := by
  rw [Bool.eq_iff_iff, List.any_eq_true, List.any_eq_true]
  constructor
  · rintro ⟨x, hx, hp⟩
    exact ⟨x, hx, by rw [← h x hx]; exact hp⟩
  · rintro ⟨x, hx, hp⟩
    exact ⟨x, hx, by rw [h x hx]; exact hp⟩
theorem taken_eq (es : Es) (t m : Nat) : TbStSpec.taken (abs es) t m = isTaken es t m := by
  unfold TbStSpec.taken isTaken
  rw [any_abs _ _ rfl]
  refine any_congr fun i hi => ?_
  rw [absE_standing hi]
  cases h : isMeet (ent es i) <;> simp [Bool.beq_eq_decide_eq]
theorem busy_eq (es : Es) (x m : Nat) : TbStSpec.busy (abs es) x m = hasMeeting es x m := by
  unfold TbStSpec.busy hasMeeting
  rw [meetsOf_eq, Bool.eq_iff_iff, List.any_eq_true, List.any_eq_true]
  constructor
  · rintro ⟨u, hu, hp⟩
    obtain ⟨i, hi, rfl⟩ := List.mem_map.mp hu
    refine ⟨i, meetings_standing hi, ?_⟩
    simp [toMeet] at hp ⊢
    exact ⟨hp.2, hp.1⟩
  · rintro ⟨i, hi, hp⟩
    simp at hp
    refine ⟨toMeet es i, List.mem_map.mpr ⟨i, ?_, rfl⟩, by simp [toMeet]; exact ⟨hp.2, hp.1⟩⟩
    rw [mem_meetings]
    refine ⟨(mem_standing.mp hi).1, (mem_standing.mp hi).2, ?_⟩
    unfold isMeet
    simp
    exact List.length_pos_of_mem hp.1
theorem entryOf_eq (es : Es) (n : Nat) : TbStSpec.entryOf (abs es) n = if n ∈ standing es then (if isMeet (ent es n) = true then some (.meet (ent es n).thing (ent es n).minute (ent es n).lots) else some (.clean (ent es n).thing (ent es n).minute)) else none := by
  unfold TbStSpec.entryOf abs
  rw [List.getElem?_map]
  by_cases hn : n < es.length
  · have ee : ent es n = es[n] := by
      unfold ent
      rw [List.getD_eq_getElem?_getD, List.getElem?_eq_getElem hn]
      rfl
    rw [List.getElem?_eq_getElem hn, ← ee]
    by_cases hs : n ∈ standing es
    · rw [if_pos hs]
      show absE (ent es n) = _
      rw [absE_standing hs]
    · rw [if_neg hs]
      show absE (ent es n) = none
      have : (ent es n).struck = true := by
        cases h : (ent es n).struck
        · exact absurd (mem_standing.mpr ⟨hn, h⟩) hs
        · rfl
      unfold absE
      rw [this]
      rfl
  · have hs : n ∉ standing es := fun h => hn (mem_standing.mp h).1
    rw [if_neg hs, List.getElem?_eq_none (by omega)]
    rfl
/-! ### an entry more, an entry struck -/
theorem abs_len (es : Es) : (abs es).length = es.length := List.length_map ..
theorem abs_meet (es : Es) (t m : Nat) (ls : List Nat) (h : 0 < ls.length) : abs (es ++ [⟨t, m, ls, false⟩]) = abs es ++ [some (.meet t m ls)] := by
  unfold abs
  rw [List.map_append]
  congr 1
  show [absE ⟨t, m, ls, false⟩] = _
  unfold absE isMeet
  simp [h]
theorem abs_clean (es : Es) (t m : Nat) : abs (es ++ [⟨t, m, [], false⟩]) = abs es ++ [some (.clean t m)] := by
  unfold abs
  rw [List.map_append]
  congr 1
/-- struck -/
def strikeAt (es : Es) (n : Nat) : Es := es.set n { ent es n with struck := true }
theorem abs_strike (es : Es) (n : Nat) : abs (strikeAt es n) = (abs es).set n none := by
  unfold abs strikeAt
  rw [List.map_set]
  congr 1
theorem count_abs (es : Es) : ((abs es).filter fun (x : Option Entry) => x.isSome).length = (standing es).length := by
  have key : ∀ (l : List Ent) (k : Nat), (∀ i, i < l.length → l[i]? = es[k + i]?) → ((l.map absE).filter fun (x : Option Entry) => x.isSome).length = ((List.range' k l.length).filter fun i => !(ent es i).struck).length := by
    intro l
    induction l with
    | nil => intro k _; rfl
    | cons e l ih =>
      intro k h
      have h0 : es[k]? = some e := by
        have := h 0 (by simp)
        simpa using this.symm
      have he : ent es k = e := by
        unfold ent
        rw [List.getD_eq_getElem?_getD, h0]
        rfl
      have ih' := ih (k + 1) fun i hi => by
        have := h (i + 1) (by simpa using hi)
        rw [List.getElem?_cons_succ] at this
        rw [this]
        congr 1
        omega
      rw [List.map_cons, List.filter_cons, List.length_cons, List.range'_succ, List.filter_cons, he]
      have hs : (absE e).isSome = !e.struck := by
        unfold absE
        cases e.struck <;> cases isMeet e <;> rfl
      rw [hs]
      cases e.struck
      · simp [ih']
      · simp [ih']
  have := key es 0 fun i _ => by rw [Nat.zero_add]
  rw [← List.range_eq_range'] at this
  exact this
theorem strike_len (es : Es) (n : Nat) : (strikeAt es n).length = es.length := List.length_set ..
theorem ent_strike (es : Es) (n i : Nat) (h : n < es.length) : ent (strikeAt es n) i = if i = n then { ent es n with struck := true } else ent es i := by
  unfold ent strikeAt
  rw [List.getD_eq_getElem?_getD, List.getD_eq_getElem?_getD]
  by_cases e : i = n
  · subst e
    rw [if_pos rfl, List.getElem?_set_self h]
    rfl
  · rw [if_neg e, List.getElem?_set_ne (Ne.symm e), List.getD_eq_getElem?_getD]
theorem standing_strike {es : Es} {n i : Nat} (h : n < es.length) : i ∈ standing (strikeAt es n) ↔ i ∈ standing es ∧ i ≠ n := by
  rw [mem_standing, mem_standing, strike_len, ent_strike es n i h]
  by_cases e : i = n
  · subst e
    simp
  · simp [e]
theorem ent_old {es : Es} {e : Ent} {i : Nat} (h : i < es.length) : ent (es ++ [e]) i = ent es i := by
  unfold ent
  rw [List.getD_eq_getElem?_getD, List.getD_eq_getElem?_getD, List.getElem?_append_left h]
theorem ent_new {es : Es} {e : Ent} : ent (es ++ [e]) es.length = e := by
  unfold ent
  rw [List.getD_eq_getElem?_getD, List.getElem?_append_right (Nat.le_refl _)]
  simp
theorem standing_add {es : Es} {e : Ent} {i : Nat} : i ∈ standing (es ++ [e]) ↔ i ∈ standing es ∨ (i = es.length ∧ e.struck = false) := by
  rw [mem_standing, mem_standing, List.length_append]
  constructor
  · rintro ⟨h1, h2⟩
    by_cases h : i < es.length
    · rw [ent_old h] at h2
      exact .inl ⟨h, h2⟩
    · have : i = es.length := by
        simp at h1
        omega
      subst this
      rw [ent_new] at h2
      exact .inr ⟨rfl, h2⟩
  · rintro (⟨h1, h2⟩ | ⟨rfl, h2⟩)
    · rw [ent_old h1]
      exact ⟨by simp; omega, h2⟩
    · rw [ent_new]
      exact ⟨by simp, h2⟩
theorem good_nil : Good [] := ⟨by simp, by simp, by simp, fun i h => by simp [standing] at h, fun i h => by simp [standing] at h⟩
theorem good_strike {es : Es} {n : Nat} (g : Good es) (h : n < es.length) : Good (strikeAt es n) := by
  have hm : ∀ e ∈ strikeAt es n, ∃ e' ∈ es, e.thing = e'.thing ∧ e.minute = e'.minute ∧ e.lots = e'.lots := fun e he => by
    unfold strikeAt at he
    rcases List.mem_or_eq_of_mem_set he with q | q
    · exact ⟨e, q, rfl, rfl, rfl⟩
    · exact ⟨ent es n, ent_mem h, by rw [q], by rw [q], by rw [q]⟩
  have sm : ∀ i, (ent (strikeAt es n) i).thing = (ent es i).thing ∧ (ent (strikeAt es n) i).minute = (ent es i).minute ∧ (ent (strikeAt es n) i).lots = (ent es i).lots := fun i => by
    rw [ent_strike es n i h]
    by_cases e : i = n
    · subst e
      simp
    · simp [e]
  refine ⟨by rw [strike_len]; exact g.len, fun e he => ?_, fun e he => ?_, fun i hi j hj h1 h2 => ?_, fun i hi j hj h1 x h2 h3 => ?_⟩
  · obtain ⟨e', he', _, _, q⟩ := hm e he
    rw [q]
    exact g.row e' he'
  · obtain ⟨e', he', q1, q2, _⟩ := hm e he
    rw [q1, q2]
    exact g.rng e' he'
  · rw [(sm i).1, (sm j).1] at h1
    rw [(sm i).2.1, (sm j).2.1] at h2
    exact g.spot i ((standing_strike h).mp hi).1 j ((standing_strike h).mp hj).1 h1 h2
  · rw [(sm i).2.1, (sm j).2.1] at h1
    rw [(sm i).2.2] at h2
    rw [(sm j).2.2] at h3
    exact g.lot i ((standing_strike h).mp hi).1 j ((standing_strike h).mp hj).1 h1 x h2 h3
theorem good_add {es : Es} {t m : Nat} {ls : List Nat} (g : Good es) (hl : es.length < 80) (h1 : ls.length ≤ 12) (h2 : ls.Pairwise (· < ·)) (h3 : ∀ x ∈ ls, x < 1000) (ht : t < 20) (hm : m < 52596000)
    (hf : isTaken es t m = false) (hb : ∀ x ∈ ls, hasMeeting es x m = false) : Good (es ++ [⟨t, m, ls, false⟩]) := by
  have free : ∀ i ∈ standing es, (ent es i).thing = t → (ent es i).minute = m → False := fun i hi a b => by
    have := List.any_eq_false.mp hf i hi
    simp [a, b] at this
  have nob : ∀ i ∈ standing es, (ent es i).minute = m → ∀ x, x ∈ (ent es i).lots → x ∈ ls → False := fun i hi b x hx hy => by
    have := List.any_eq_false.mp (hb x hy) i hi
    simp [hx, b] at this
  have old : ∀ i ∈ standing es, i < es.length := fun i hi => (mem_standing.mp hi).1
  refine ⟨by simp; omega, fun e he => ?_, fun e he => ?_, fun i hi j hj a b => ?_, fun i hi j hj a x b c => ?_⟩
  · rcases List.mem_append.mp he with q | q
    · exact g.row e q
    · simp at q
      rw [q]
      exact ⟨h1, h2, h3⟩
  · rcases List.mem_append.mp he with q | q
    · exact g.rng e q
    · simp at q
      rw [q]
      exact ⟨ht, hm⟩
  · rcases standing_add.mp hi with hi | ⟨rfl, _⟩ <;> rcases standing_add.mp hj with hj | ⟨rfl, _⟩
    · rw [ent_old (old i hi), ent_old (old j hj)] at a b
      exact g.spot i hi j hj a b
    · rw [ent_old (old i hi), ent_new] at a b
      exact (free i hi a b).elim
    · rw [ent_old (old j hj), ent_new] at a b
      exact (free j hj a.symm b.symm).elim
    · rfl
  · rcases standing_add.mp hi with hi | ⟨rfl, _⟩ <;> rcases standing_add.mp hj with hj | ⟨rfl, _⟩
    · rw [ent_old (old i hi), ent_old (old j hj)] at a
      rw [ent_old (old i hi)] at b
      rw [ent_old (old j hj)] at c
      exact g.lot i hi j hj a x b c
    · rw [ent_old (old i hi), ent_new] at a
      rw [ent_old (old i hi)] at b
      rw [ent_new] at c
      exact (nob i hi a x b c).elim
    · rw [ent_old (old j hj), ent_new] at a
      rw [ent_old (old j hj)] at c
      rw [ent_new] at b
      exact (nob j hj a.symm x c b).elim
    · rfl
end St

end

section

/-! The plain law, part 2: the mirror of the calls. -/
namespace St
open TbStLog
def twosL (row : List Nat) : List (Nat × Nat) := (List.range (row.length / 2)).map fun i => (row.getD (2 * i) 0, row.getD (2 * i + 1) 0)
def isRising (row : List Nat) : Bool := (List.range (row.length - 1)).all fun i => decide (row.getD i 0 < row.getD (i + 1) 0)
def findsIn (row : List Nat) : Except (List Int) (List (Nat × Nat)) := if row.length % 2 = 0 ∧ 2 ≤ row.length ∧ row.length ≤ 24 ∧ (∀ f ∈ twosL row, f.1 < 1000 ∧ f.2 < 52596000) then .ok (twosL row) else .error [-1]
/-- what a call ends in: a refusal; or the answer and the entries behind it -/
abbrev Res := Except (List Int) (List Int × Es)
abbrev isBadL (y t : Nat) : Prop := y < 1000 ∧ t < 52596000
abbrev isSpotL (t m : Nat) : Prop := t < 20 ∧ m < 52596000
def dMeet (es : Es) (t m : Nat) (lots : List Nat) : Res :=
  if ¬ isSpotL t m then .error [-1] else if ¬ (1 ≤ lots.length ∧ lots.length ≤ 12 ∧ (∀ x ∈ lots, x < 1000) ∧ isRising lots = true) then .error [-1] else if 80 ≤ es.length then .error [-7] else if isTaken es t m = true then .error [-6]
  else match lots.find? (fun x => hasMeeting es x m) with
    | some x => .error [-9, (x : Int)]
    | none => .ok ([(es.length : Int)], es ++ [⟨t, m, lots, false⟩])
def dClean (es : Es) (t m : Nat) : Res :=
  if ¬ isSpotL t m then .error [-1] else if 80 ≤ es.length then .error [-7] else if isTaken es t m = true then .error [-6] else .ok ([(es.length : Int)], es ++ [⟨t, m, [], false⟩])
def dStrike (es : Es) (n : Nat) : Res := if n ∈ standing es then .ok ([((standing (strikeAt es n)).length : Int)], strikeAt es n) else .error [-8]
def dEntry (es : Es) (n : Nat) : Res := if n ∈ standing es then .ok ((if isMeet (ent es n) = true then 1 else 2) :: ((ent es n).thing : Int) :: ((ent es n).minute : Int) :: (ent es n).lots.map fun (x : Nat) => (x : Int), es) else .error [-8]
/-- {lot: minute} of the lots that are met, each once -/
def putNew (acc : List (Nat × Nat)) (k v : Nat) : List (Nat × Nat) := if k ∈ acc.map (·.1) then acc else acc ++ [(k, v)]
def touchedL (es : Es) (y t : Nat) : List (Nat × Nat) := (touchedM es y t).foldl (fun acc i => (ent es i).lots.foldl (fun acc x => if x ≠ y then putNew acc x (ent es i).minute else acc) acc) []
def dirtyL (es : Es) (y t : Nat) : List (Nat × Nat) := (touchedM es y t).foldl (fun acc i => if isCleaned es (ent es i).thing (ent es i).minute 52596000 [] = true then acc else putNew acc (ent es i).thing (ent es i).minute) []
def valOf (l : List (Nat × Nat)) (k : Nat) : Nat := (l.lookup k).getD 0
/-- how many rows, and these -/
def countedL (ll : List (List Int)) : List Int := (ll.length : Int) :: ll.flatten
def byKey (l : List (Nat × Nat)) : List (List Int) := (rising (l.map (·.1))).map fun (k : Nat) => [(k : Int), ((valOf l k : Nat) : Int)]
def dTouched (es : Es) (y t : Nat) : Res := if ¬ isBadL y t then .error [-1] else .ok (countedL (byKey (touchedL es y t)), es)
def dDirty (es : Es) (y t : Nat) : Res := if ¬ isBadL y t then .error [-1] else .ok (countedL (byKey (dirtyL es y t)), es)
def sourcesL (es : Es) (fs : List (Nat × Nat)) : List Nat := (rising (allLots es ++ fs.map (·.1))).filter fun x => reachesAll es x fs
def dSources (es : Es) (row : List Nat) : Res := match findsIn row with
  | .error ns => .error ns
  | .ok fs => .ok (((sourcesL es fs).length : Int) :: (sourcesL es fs).map (fun (x : Nat) => (x : Int)), es)
def dCut (es : Es) (y t : Nat) (f c : List Nat) : Res := if ¬ isBadL y t then .error [-1] else match findsIn f with
  | .error ns => .error ns
  | .ok fs => if c.length % 2 = 1 ∨ 60 < c.length then .error [-1] else if ¬ (∀ p ∈ twosL c, isSpotL p.1 p.2) then .error [-1] else match (twosL c).findIdx? (fun p => isTaken es p.1 p.2) with
    | some i => .error [-6, (i : Int)]
    | none => .ok ([if doReach es y (reached es y t (allLines es (twosL c))) fs = true then 0 else 1], es)
def isWayL (es : Es) (y t : Nat) (fs : List (Nat × Nat)) (w : List Nat) : Bool := match w with
  | [] => false
  | a :: r => (a :: r).all (fun n => decide (n ∈ meetings es)) && (decide (firstM es y t = some a) && (isFind es ((a :: r).getLastD 0) fs && (consec (a :: r)).all fun p => decide (p ∈ allLines es [])))
def usedL (es : Es) (ws : List (List Nat)) : List (Nat × Nat) := (ws.flatMap consec).filter fun p => !decide (p ∈ lotLinesL es)
def apartL (es : Es) (ws : List (List Nat)) : Bool := decide (usedL es ws).Nodup
def dApart (es : Es) (y t : Nat) (f : List Nat) (ws : List (List Nat)) : Res := if ¬ isBadL y t then .error [-1] else match findsIn f with
  | .error ns => .error ns
  | .ok fs => match ws.findIdx? (fun w => !isWayL es y t fs w) with
    | some i => .error [-13, (i : Int)]
    | none => .ok ([if apartL es ws = true then 1 else 0], es)
def leL (es : Es) (p q : Nat × Nat) : Bool := decide ((ent es p.1).minute < (ent es q.1).minute) || (decide ((ent es p.1).minute = (ent es q.1).minute) && (decide (p.1 < q.1) || (decide (p.1 = q.1) && decide (p.2 ≤ q.2))))
def linesShown (es : Es) : List (List Int) := (((lotLinesL es).foldl dput (thingLinesL es [])).mergeSort (leL es)).map fun p => [(p.1 : Int), (p.2 : Int), if p ∈ lotLinesL es then 0 else 1]
def dLines (es : Es) : Res := .ok (countedL (linesShown es), es)
end St

end

section

set_option Elab.async false
set_option linter.all false
set_option maxRecDepth 100000
set_option maxHeartbeats 4000000
namespace St
open PySem PySem.Spec PyProof.Rows L2
/-! ### the text by places -/
def top (i : Nat) : Stmt := PySem.Challenge.pw_storetouch_s01_answers.main.body.getD i (.Pass ⟨0, 0, 0, 0⟩)
abbrev s_is_way : Stmt := top 3
def d_is_way : He.DefD := ⟨("is_way", none), "is_way", "is_way", defArgs s_is_way, defBody s_is_way, defScope s_is_way, [], []⟩
abbrev s_are_apart : Stmt := top 4
def d_are_apart : He.DefD := ⟨("are_apart", none), "are_apart", "are_apart", defArgs s_are_apart, defBody s_are_apart, defScope s_are_apart, [], []⟩
abbrev s_refuse : Stmt := top 14
def d_refuse : He.DefD := ⟨("refuse", none), "refuse", "refuse", defArgs s_refuse, defBody s_refuse, defScope s_refuse, [], []⟩
abbrev s_check_thing : Stmt := top 15
def d_check_thing : He.DefD := ⟨("check_thing", none), "check_thing", "check_thing", defArgs s_check_thing, defBody s_check_thing, defScope s_check_thing, [], []⟩
abbrev s_check_free : Stmt := top 16
def d_check_free : He.DefD := ⟨("check_free", none), "check_free", "check_free", defArgs s_check_free, defBody s_check_free, defScope s_check_free, [], []⟩
abbrev s_are_rising : Stmt := top 17
def d_are_rising : He.DefD := ⟨("are_rising", none), "are_rising", "are_rising", defArgs s_are_rising, defBody s_are_rising, defScope s_are_rising, [], []⟩
abbrev s_pairs : Stmt := top 18
def d_pairs : He.DefD := ⟨("pairs", none), "pairs", "pairs", defArgs s_pairs, defBody s_pairs, defScope s_pairs, [], []⟩
abbrev s_meet : Stmt := top 19
def d_meet : He.DefD := ⟨("meet", none), "meet", "meet", defArgs s_meet, defBody s_meet, defScope s_meet, [], []⟩
abbrev s_clean : Stmt := top 20
def d_clean : He.DefD := ⟨("clean", none), "clean", "clean", defArgs s_clean, defBody s_clean, defScope s_clean, [], []⟩
abbrev s_entry_of : Stmt := top 21
def d_entry_of : He.DefD := ⟨("entry_of", none), "entry_of", "entry_of", defArgs s_entry_of, defBody s_entry_of, defScope s_entry_of, [], []⟩
abbrev s_strike : Stmt := top 22
def d_strike : He.DefD := ⟨("strike", none), "strike", "strike", defArgs s_strike, defBody s_strike, defScope s_strike, [], []⟩
abbrev s_show_entry : Stmt := top 23
def d_show_entry : He.DefD := ⟨("show_entry", none), "show_entry", "show_entry", defArgs s_show_entry, defBody s_show_entry, defScope s_show_entry, [], []⟩
abbrev s_check_lot : Stmt := top 24
def d_check_lot : He.DefD := ⟨("check_lot", none), "check_lot", "check_lot", defArgs s_check_lot, defBody s_check_lot, defScope s_check_lot, [], []⟩
abbrev s_counted : Stmt := top 25
def d_counted : He.DefD := ⟨("counted", none), "counted", "counted", defArgs s_counted, defBody s_counted, defScope s_counted, [], []⟩
abbrev s_touched : Stmt := top 26
def d_touched : He.DefD := ⟨("touched", none), "touched", "touched", defArgs s_touched, defBody s_touched, defScope s_touched, [], []⟩
abbrev s_dirty : Stmt := top 27
def d_dirty : He.DefD := ⟨("dirty", none), "dirty", "dirty", defArgs s_dirty, defBody s_dirty, defScope s_dirty, [], []⟩
abbrev s_finds_of : Stmt := top 28
def d_finds_of : He.DefD := ⟨("finds_of", none), "finds_of", "finds_of", defArgs s_finds_of, defBody s_finds_of, defScope s_finds_of, [], []⟩
abbrev s_sources : Stmt := top 29
def d_sources : He.DefD := ⟨("sources", none), "sources", "sources", defArgs s_sources, defBody s_sources, defScope s_sources, [], []⟩
abbrev s_fewest : Stmt := top 30
def d_fewest : He.DefD := ⟨("fewest", none), "fewest", "fewest", defArgs s_fewest, defBody s_fewest, defScope s_fewest, [], []⟩
abbrev s_ask_cut : Stmt := top 31
def d_ask_cut : He.DefD := ⟨("ask_cut", none), "ask_cut", "ask_cut", defArgs s_ask_cut, defBody s_ask_cut, defScope s_ask_cut, [], []⟩
abbrev s_apart : Stmt := top 32
def d_apart : He.DefD := ⟨("apart", none), "apart", "apart", defArgs s_apart, defBody s_apart, defScope s_apart, [], []⟩
abbrev s_show_lines : Stmt := top 33
def d_show_lines : He.DefD := ⟨("show_lines", none), "show_lines", "show_lines", defArgs s_show_lines, defBody s_show_lines, defScope s_show_lines, [], []⟩
abbrev s_answer_of : Stmt := top 35
def d_answer_of : He.DefD := ⟨("answer_of", none), "answer_of", "answer_of", defArgs s_answer_of, defBody s_answer_of, defScope s_answer_of, [], []⟩
abbrev s_answers : Stmt := top 36
def d_answers : He.DefD := ⟨("answers", none), "answers", "answers", defArgs s_answers, defBody s_answers, defScope s_answers, [], []⟩
abbrev s_Cut_init : Stmt := inClass (top 2) 0
def d_Cut_init : He.DefD := ⟨("Cut", some "__init__"), "__init__", "Cut.__init__", defArgs s_Cut_init, defBody s_Cut_init, defScope s_Cut_init, [], []⟩
abbrev s_Cut_follow : Stmt := inClass (top 2) 1
def d_Cut_follow : He.DefD := ⟨("Cut", some "follow"), "follow", "Cut.follow", defArgs s_Cut_follow, defBody s_Cut_follow, defScope s_Cut_follow, [], []⟩
abbrev s_Cut_reached : Stmt := inClass (top 2) 2
def d_Cut_reached : He.DefD := ⟨("Cut", some "reached"), "reached", "Cut.reached", defArgs s_Cut_reached, defBody s_Cut_reached, defScope s_Cut_reached, [], []⟩
abbrev s_Cut_fill : Stmt := inClass (top 2) 3
def d_Cut_fill : He.DefD := ⟨("Cut", some "fill"), "fill", "Cut.fill", defArgs s_Cut_fill, defBody s_Cut_fill, defScope s_Cut_fill, [], []⟩
abbrev s_Cut_lines : Stmt := inClass (top 2) 4
def d_Cut_lines : He.DefD := ⟨("Cut", some "lines"), "lines", "Cut.lines", defArgs s_Cut_lines, defBody s_Cut_lines, defScope s_Cut_lines, [], []⟩
abbrev s_Entry_init : Stmt := inClass (top 6) 0
def d_Entry_init : He.DefD := ⟨("Entry", some "__init__"), "__init__", "Entry.__init__", defArgs s_Entry_init, defBody s_Entry_init, defScope s_Entry_init, [], []⟩
abbrev s_Entry_is_meeting : Stmt := inClass (top 6) 1
def d_Entry_is_meeting : He.DefD := ⟨("Entry", some "is_meeting"), "is_meeting", "Entry.is_meeting", defArgs s_Entry_is_meeting, defBody s_Entry_is_meeting, defScope s_Entry_is_meeting, [], []⟩
abbrev s_Log_init : Stmt := inClass (top 7) 0
def d_Log_init : He.DefD := ⟨("Log", some "__init__"), "__init__", "Log.__init__", defArgs s_Log_init, defBody s_Log_init, defScope s_Log_init, [], []⟩
abbrev s_Log_standing : Stmt := inClass (top 7) 1
def d_Log_standing : He.DefD := ⟨("Log", some "standing"), "standing", "Log.standing", defArgs s_Log_standing, defBody s_Log_standing, defScope s_Log_standing, [], []⟩
abbrev s_Log_is_taken : Stmt := inClass (top 7) 2
def d_Log_is_taken : He.DefD := ⟨("Log", some "is_taken"), "is_taken", "Log.is_taken", defArgs s_Log_is_taken, defBody s_Log_is_taken, defScope s_Log_is_taken, [], []⟩
abbrev s_Log_has_meeting : Stmt := inClass (top 7) 3
def d_Log_has_meeting : He.DefD := ⟨("Log", some "has_meeting"), "has_meeting", "Log.has_meeting", defArgs s_Log_has_meeting, defBody s_Log_has_meeting, defScope s_Log_has_meeting, [], []⟩
abbrev s_Log_meetings : Stmt := inClass (top 7) 4
def d_Log_meetings : He.DefD := ⟨("Log", some "meetings"), "meetings", "Log.meetings", defArgs s_Log_meetings, defBody s_Log_meetings, defScope s_Log_meetings, [], []⟩
abbrev s_Log_meetings_of : Stmt := inClass (top 7) 5
def d_Log_meetings_of : He.DefD := ⟨("Log", some "meetings_of"), "meetings_of", "Log.meetings_of", defArgs s_Log_meetings_of, defBody s_Log_meetings_of, defScope s_Log_meetings_of, [], []⟩
abbrev s_Log_all_lots : Stmt := inClass (top 7) 6
def d_Log_all_lots : He.DefD := ⟨("Log", some "all_lots"), "all_lots", "Log.all_lots", defArgs s_Log_all_lots, defBody s_Log_all_lots, defScope s_Log_all_lots, [], []⟩
abbrev s_Log_is_cleaned : Stmt := inClass (top 7) 7
def d_Log_is_cleaned : He.DefD := ⟨("Log", some "is_cleaned"), "is_cleaned", "Log.is_cleaned", defArgs s_Log_is_cleaned, defBody s_Log_is_cleaned, defScope s_Log_is_cleaned, [], []⟩
abbrev s_Log_lot_lines : Stmt := inClass (top 7) 8
def d_Log_lot_lines : He.DefD := ⟨("Log", some "lot_lines"), "lot_lines", "Log.lot_lines", defArgs s_Log_lot_lines, defBody s_Log_lot_lines, defScope s_Log_lot_lines, [], []⟩
abbrev s_Log_thing_lines : Stmt := inClass (top 7) 9
def d_Log_thing_lines : He.DefD := ⟨("Log", some "thing_lines"), "thing_lines", "Log.thing_lines", defArgs s_Log_thing_lines, defBody s_Log_thing_lines, defScope s_Log_thing_lines, [], []⟩
abbrev s_Log_first_meeting : Stmt := inClass (top 7) 10
def d_Log_first_meeting : He.DefD := ⟨("Log", some "first_meeting"), "first_meeting", "Log.first_meeting", defArgs s_Log_first_meeting, defBody s_Log_first_meeting, defScope s_Log_first_meeting, [], []⟩
abbrev s_Log_reached : Stmt := inClass (top 7) 11
def d_Log_reached : He.DefD := ⟨("Log", some "reached"), "reached", "Log.reached", defArgs s_Log_reached, defBody s_Log_reached, defScope s_Log_reached, [], []⟩
abbrev s_Log_touched : Stmt := inClass (top 7) 12
def d_Log_touched : He.DefD := ⟨("Log", some "touched"), "touched", "Log.touched", defArgs s_Log_touched, defBody s_Log_touched, defScope s_Log_touched, [], []⟩
abbrev s_Log_is_find : Stmt := inClass (top 7) 13
def d_Log_is_find : He.DefD := ⟨("Log", some "is_find"), "is_find", "Log.is_find", defArgs s_Log_is_find, defBody s_Log_is_find, defScope s_Log_is_find, [], []⟩
abbrev s_Log_do_reach : Stmt := inClass (top 7) 14
def d_Log_do_reach : He.DefD := ⟨("Log", some "do_reach"), "do_reach", "Log.do_reach", defArgs s_Log_do_reach, defBody s_Log_do_reach, defScope s_Log_do_reach, [], []⟩
abbrev s_Log_reaches_all : Stmt := inClass (top 7) 15
def d_Log_reaches_all : He.DefD := ⟨("Log", some "reaches_all"), "reaches_all", "Log.reaches_all", defArgs s_Log_reaches_all, defBody s_Log_reaches_all, defScope s_Log_reaches_all, [], []⟩
abbrev s_Refused_init : Stmt := inClass (top 13) 0
def d_Refused_init : He.DefD := ⟨("Refused", some "__init__"), "__init__", "Refused.__init__", defArgs s_Refused_init, defBody s_Refused_init, defScope s_Refused_init, [], []⟩
def fn : List He.DefD := [d_is_way, d_are_apart, d_refuse, d_check_thing, d_check_free, d_are_rising, d_pairs, d_meet, d_clean, d_entry_of, d_strike, d_show_entry, d_check_lot, d_counted, d_touched, d_dirty, d_finds_of, d_sources, d_fewest, d_ask_cut, d_apart, d_show_lines, d_answer_of, d_answers, d_Cut_init, d_Cut_follow, d_Cut_reached, d_Cut_fill, d_Cut_lines, d_Entry_init, d_Entry_is_meeting, d_Log_init, d_Log_standing, d_Log_is_taken, d_Log_has_meeting, d_Log_meetings, d_Log_meetings_of, d_Log_all_lots, d_Log_is_cleaned, d_Log_lot_lines, d_Log_thing_lines, d_Log_first_meeting, d_Log_reached, d_Log_touched, d_Log_is_find, d_Log_do_reach, d_Log_reaches_all, d_Refused_init]
def fa : List He.Fa := [.glo "is_way", .glo "are_apart", .glo "refuse", .glo "check_thing", .glo "check_free", .glo "are_rising", .glo "pairs", .glo "meet", .glo "clean", .glo "entry_of", .glo "strike", .glo "show_entry", .glo "check_lot", .glo "counted", .glo "touched", .glo "dirty", .glo "finds_of", .glo "sources", .glo "fewest", .glo "ask_cut", .glo "apart", .glo "show_lines", .glo "answer_of", .glo "answers", .glo "NoCut", .glo "Cut", .glo "Entry", .glo "Log", .glo "Refused", .glo "DEEDS", .free "ValueError", .free "any", .free "all", .free "len", .free "sorted", .free "range", .free "enumerate", .free "dict", .free "set", .free "max", .int "LAST_MINUTE" 52595999, .int "MOST_THING" 19, .int "MOST_LOT" 999, .int "MOST_ENTRIES" 80, .cls "Cut", .mkr "Cut", .noat "Cut" "log", .noat "Cut" "finds", .noat "Cut" "first", .noat "Cut" "free", .noat "Cut" "single", .noat "Cut" "used", .noat "Cut" "count", .meth "Cut" "__init__", .meth "Cut" "follow", .meth "Cut" "reached", .meth "Cut" "fill", .meth "Cut" "lines", .cls "Entry", .mkr "Entry", .noat "Entry" "thing", .noat "Entry" "minute", .noat "Entry" "lots", .noat "Entry" "is_struck", .meth "Entry" "__init__", .meth "Entry" "is_meeting", .cls "Log", .mkr "Log", .noat "Log" "entries", .meth "Log" "__init__", .meth "Log" "standing", .meth "Log" "is_taken", .meth "Log" "has_meeting", .meth "Log" "meetings", .meth "Log" "meetings_of", .meth "Log" "all_lots", .meth "Log" "is_cleaned", .meth "Log" "lot_lines", .meth "Log" "thing_lines", .meth "Log" "first_meeting", .meth "Log" "reached", .meth "Log" "touched", .meth "Log" "is_find", .meth "Log" "do_reach", .meth "Log" "reaches_all", .exc "NoCut", .exm "NoCut" "NoCut" true, .exm "Refused" "Refused" true, .keep "Refused", .meth "Refused" "__init__", .noat "Refused" "numbers"]
/-! ### what is looked at besides: the table of deeds, the error's class -/
def deeds : List He.Dv := [.non, .glo "meet", .glo "clean", .glo "strike", .glo "show_entry", .glo "touched", .glo "dirty", .glo "sources", .glo "fewest", .glo "ask_cut", .glo "apart", .glo "show_lines"]
def oexB (K : PySem.W.Frag) (C : Addr) : Bool := match K.lookup C with
  | some ⟨.type "type", _, .cls cd, sl⟩ => (match cd.mro, sl.toList with
    | .ref D :: bm, [_, _, _, _, some (.builtin n), _] => decide (D = C) && (decide (n = "ValueError.__new__") && (!cd.hasDel && (cd.hasDict && PySem.HandSPX.refsVE bm)))
    | _, _ => false)
  | _ => false
theorem oexB_ok {K : PySem.W.Frag} {C : Addr} (h : oexB K C = true) : ∃ nm q N bs bm sn sub ab col dd k0 k1 k2 k3 k5, K.lookup C = some (excClassObj nm q C N bs bm true sn sub ab col dd k0 k1 k2 k3 k5 "ValueError.__new__") ∧ PySem.HandSPX.refsVE bm = true := by
  unfold oexB at h
  split at h
  · rename_i dd cd sl ho
    split at h
    · rename_i D bm k0 k1 k2 k3 n k5 hm hs
      simp only [Bool.and_eq_true, decide_eq_true_eq, Bool.not_eq_true'] at h
      obtain ⟨rfl, rfl, hdel, hd, hr⟩ := h
      obtain ⟨nm, bs, mro, ns, qn, hdd, sn, sub, ab, col, del⟩ := cd
      dsimp only at hm hdel hd
      subst hm hdel hd
      have hsl : sl = #[k0, k1, k2, k3, some (.builtin "ValueError.__new__"), k5] := by
        obtain ⟨l⟩ := sl
        simp only at hs
        rw [hs]
      subst hsl
      exact ⟨nm, qn, ns, bs, bm, sn, sub, ab, col, dd, k0, k1, k2, k3, k5, ho, hr⟩
    · cases h
  · cases h
def extra (K : PySem.W.Frag) : Bool := He.tupB K "DEEDS" deeds && (oexB K (He.ga K "Refused") && (xfB K (He.ga K "Refused") &&
  (He.eqO (PySem.W.findIn K (.ref (He.ga K "Refused")) "__setattr__") (some (some (.builtin "object.__setattr__"))) && (decide (PySem.W.subIn K (.ref (He.ga K "Refused")) (.type "BaseException") = some true) &&
  (decide (PySem.W.typeIn K (.ref (He.ga K "Refused")) = some (.type "type")) && decide (PySem.W.typeIn K (.ref (He.ma K (He.ga K "Refused") "__init__")) = some (.type "function")))))))
def obsX (K : PySem.W.Frag) : He.AlD := ((He.obsD fa fn K).1 && extra K, (He.obsD fa fn K).2)
def SaysX (K : PySem.W.Frag) : Prop := obsX K = He.valD fn
def obsXG (n : Nat) (g : Addr → Option Obj) : He.AlD := obsX (He.frG g (He.asD g n))
def hookX (n : Nat) : PySem.W.Hook where
  α := He.AlD
  obs := fun s => obsXG n s.heap.get?
  val := fun _ => He.valD fn
  says := fun _ h => ∃ K : PySem.W.Frag, K.In h ∧ SaysX K
  of := fun _ _ e => ⟨_, He.frG_in, e⟩
  keeps := fun _ _ _ ⟨K, hK, c⟩ k => ⟨K, PySem.W.Frag.In.keeps hK k, c⟩
theorem obsXG_eq {n : Nat} {g : Addr → Option Obj} {s : Shared} (h : ∀ a, g a = s.heap.get? a) : obsXG n g = (hookX n).obs s := by
  have e : g = s.heap.get? := funext h
  rw [e] <;> rfl
theorem SaysX.d {K : PySem.W.Frag} (c : SaysX K) : He.SaysD fa fn K := by
  have h1 : ((He.obsD fa fn K).1 && extra K) = true := congrArg (fun z : He.AlD => z.1) c
  have h2 : (He.obsD fa fn K).2 = fn.map He.DefD.val := congrArg (fun z : He.AlD => z.2) c
  exact Prod.ext (He.ba h1).1 h2
theorem SaysX.e {K : PySem.W.Frag} (c : SaysX K) : extra K = true := (He.ba (congrArg (fun z : He.AlD => z.1) c)).2
end St

end

section

set_option Elab.async false
set_option linter.all false
set_option maxRecDepth 100000
set_option maxHeartbeats 0
namespace St
open PySem PySem.W PySem.Calls PyProof.Rows HandSHeadRun
abbrev R : OpenSpec := PySem.Challenge.rw_storetouch_s01_answers
/-- what the walk sees of the top: the asked def -/
abbrev qv : Program := view R.prog [36]
def loose1 : List PySem.Str := [("NoCut" : PySem.Str), ("Cut" : PySem.Str), ("Entry" : PySem.Str), ("Log" : PySem.Str), ("LAST_MINUTE" : PySem.Str), ("MOST_THING" : PySem.Str), ("MOST_LOT" : PySem.Str), ("MOST_ENTRIES" : PySem.Str), ("Refused" : PySem.Str), ("DEEDS" : PySem.Str), ("is_way" : PySem.Str), ("are_apart" : PySem.Str), ("refuse" : PySem.Str), ("check_thing" : PySem.Str), ("check_free" : PySem.Str), ("are_rising" : PySem.Str), ("pairs" : PySem.Str)]
def loose2 : List PySem.Str := [("meet" : PySem.Str), ("clean" : PySem.Str), ("entry_of" : PySem.Str), ("strike" : PySem.Str), ("show_entry" : PySem.Str), ("check_lot" : PySem.Str), ("counted" : PySem.Str), ("touched" : PySem.Str), ("dirty" : PySem.Str), ("finds_of" : PySem.Str), ("sources" : PySem.Str), ("fewest" : PySem.Str), ("ask_cut" : PySem.Str), ("apart" : PySem.Str), ("show_lines" : PySem.Str), ("answer_of" : PySem.Str)]
def loose : List PySem.Str := loose1 ++ loose2
theorem run (w : World) (os : OsState) : (endF (stepQ (denQ tabQ) R.prog w) 6000 R.prog w os).map (fun s => (looksF R.prog (boot_heap w.params) s.abs, seenQ qv loose (importedModules R.prog.main.body) (fun s => xlAt qv [] s && recOk [] s) s.abs, obsXG 5 (getT s))) =
    some (true, openGood qv loose, He.valD fn) := by
  kernel_rfl
end St

end

section

set_option Elab.async false
set_option linter.all false
set_option maxRecDepth 100000
set_option maxHeartbeats 4000000
namespace St
open PySem PySem.Spec PyProof.Rows L2
open PySem.W (Codec OpenSpec)
/-- the end of a specification's row where the written part is found by a Hook -/
theorem walk_specE {r : OpenSpec} {k : Nat} {q : Program} {loose : List Str} {XP : (Str → Option Value) → Heap → Prop} {YP : World → Heap → Prop} {d : DefRec} {CX : World → CXT} {ps : List Str}
    (hwell : r.wellSaid = true) (hdf : d.params.defaults = []) (hlen : r.args.length = ps.length) (hr : Room k callerA)
    (F : ∀ (w : World) (mg : Str → Option Value) (fa : Addr) (h : Heap), YP w h → h.Ns mainGlobals mg → mg d.name = some (.ref fa) →
      ∃ (K : PySem.W.Frag) (fd : FuncData) (sp : Sp), K.In h ∧ (∀ (s : Shared) (us : List Value), us.length = ps.length → BindsTo s fd ⟨us, []⟩ (ps.zip us)) ∧
        (∀ (H : Hp) (xs : List V) (a : Codec.denoteAll r.args), OnlyF H → Codec.withinAll r.args a = true → Codec.app r.args r.asked a = true → DwAll K H xs (Codec.encAll r.args a) →
          sp xs H (fun v H' => Dw K H' v (r.ret.enc (Codec.app r.args r.f a))) fun _ _ _ => False) ∧
        ∀ base : Heap, K.In base → base.Ns mainGlobals mg → FnOk r.prog w K mg base (CX w) k fa fd ps sp)
    (hCX : ∀ (w : World) (H : Hp) (s : Shared) (e : Value) (s' : Shared), CX w [] H s (fun _ _ _ => False) e s' → False) :
    PySem.W.WalkOS q loose XP YP r d [] (fun f vs => PySem.call f vs) := by
  intro w s₀ s₁ mg mb G Y fa o pm cd doc dV kV ho hd hcd hD hmg hg args vals as hpre hlay hrd hwl hlo
  obtain ⟨a, e1, e2⟩ := PySem.W.os_pre_some hpre
  obtain ⟨e3, hwi⟩ := Codec.encAll_of_decAll r.args args a e1
  subst e3
  obtain ⟨K, fd, sp, KX, hb, hsp, hF⟩ := F w mg fa _ Y G.T.g hmg
  have call := spec_call (R := []) (cl := classAt s₀.heap) (d0 := r.ret.enc (Codec.app r.args r.f a)) KX G.T.g G.T.b G.T.builtins G.T.nolimit hg hwl
    (pl_encAll _ _) (layable_weight hlay) hr hF hb (by rw [encAll_len]; exact hlen) (fun H xs hO hS => hsp H xs a hO hwi e2 hS) fun H e s' => hCX w H s₁ e s'
  refine PySem.W.enter_call (codeAny_mono call fun r' s' hq => ?_)
  obtain ⟨u, as', rfl, h1, h2, h3, h4⟩ := hq
  refine ⟨.inl ⟨u, _, as', rfl, fun _ => rfl, h1, ?_, fun z => ?_⟩, h2, h3, h4⟩
  · exact (OpenSpec.post_iff hwell hwi _ _).mpr rfl
  · exact Bool.noConfusion (show false = true from z)
theorem well_said : PySem.Challenge.rw_storetouch_s01_answers.wellSaid = true := by decide +kernel
end St
namespace St
open PySem PySem.W PySem.Calls PyProof.Rows HandSHeadRun
theorem left : LeftO R.prog qv loose (fun s => xlAt qv [] s && recOk [] s) (hookX 5).obs (hookX 5).val 6600 true := by
  refine left_one (M := 6000) (by kernel_rfl) (by decide) (fun s => by kernel_rfl) (by decide) fun w os => ?_
  have z := run w os
  have eo : (fun s : SharedT => obsXG 5 (getT s)) = fun s => (hookX 5).obs s.abs := funext fun s => obsXG_eq (getT_eq s)
  have eo' : ∀ s : SharedT, obsXG 5 (getT s) = (hookX 5).obs s.abs := fun s => congrFun eo s
  simp only [endQ_eq, seenQ_eq]
  simp only [eo'] at z
  exact z
abbrev dAns : DefRec := topDef R.prog 36
theorem holds_by (call : WalkOS qv loose (XL qv []) (hookX 5).says R dAns [] fun f vs => PySem.call f vs) : R.Holds :=
  holds_os (r := R) (q := qv) (loose := loose) (XP := XL qv []) (YP := (hookX 5).says) (d := dAns) (kwd := []) left (hookX 5).of (hookX 5).keeps
    (fun s z => xl_of s (Bool.and_eq_true_iff.mp z).1) XL.keeps (by kernel_rfl) (by kernel_rfl) (by kernel_rfl) (fun s z => recFacts_of (Bool.and_eq_true_iff.mp z).2) os_shapes
    well_said (by decide +kernel) ⟨rfl, rfl, rfl, rfl, rfl, by decide +kernel⟩ ⟨[.list [.int 11, .int 0, .int 0]], by decide +kernel, by decide +kernel⟩ call
end St

end

section

set_option Elab.async false
set_option linter.all false
set_option maxRecDepth 100000
set_option maxHeartbeats 4000000
namespace St
open PySem PySem.Spec PyProof.Rows L2
/-! ### what the top has written, by names -/
structure Txt (K : PySem.W.Frag) (mg : Str → Option Value) : Prop where
  ex : ∃ h : Heap, K.In h ∧ h.Ns mainGlobals mg ∧ SaysX K
section
variable {K : PySem.W.Frag} {mg : Str → Option Value}
theorem Txt.at {p : Prop} (T : Txt K mg) (i : Nat) {f : He.Fa} (e : fa[i]? = some f) (g : ∀ {h : Heap}, K.In h → h.Ns mainGlobals mg → f.ok K = true → p) : p := by
  obtain ⟨h, X, G, c⟩ := T.ex
  exact g X G (c.d.fact i e)
/-- the function object of a def -/
def fdOf (K : PySem.W.Frag) (d : He.DefD) : FuncData := match K.lookup (He.fAd K d.at_) with
  | some ⟨_, _, .func fd, _⟩ => fd
  | _ => PySem.W.fnOf "" "" ⟨[], [], none, [], [], none, []⟩ [] ⟨.function, [], false, false, []⟩ .none .none .none .none none .none .none
abbrev Ru (K : PySem.W.Frag) (d : He.DefD) : Prop := FunD K d.name d.qual d.params d.body d.scope [] [] (He.fAd K d.at_) (fdOf K d)
theorem Txt.run_ (T : Txt K mg) (i : Nat) {d : He.DefD} (e : fn[i]? = some d) (h1 : d.dfl = [] := by rfl) (h2 : d.kwd = [] := by rfl) : Ru K d := by
  obtain ⟨h, X, G, c⟩ := T.ex
  obtain ⟨fd, F⟩ := c.d.def_ i e
  have F' := F
  obtain ⟨oc, od, dV, kV, doc, pm, an, cdv, ct, osl, e1, lk, r⟩ := F.ex
  have ef : fdOf K d = fd := by
    unfold fdOf
    rw [lk]
  unfold He.DefD.dvs He.DefD.kws at F'
  rw [h1, h2] at F'
  show FunD K d.name d.qual d.params d.body d.scope [] [] (He.fAd K d.at_) (fdOf K d)
  rw [ef]
  exact F'
theorem Txt.g_is_way (T : Txt K mg) : mg "is_way" = some (.ref (He.ga K "is_way")) := T.at 0 rfl fun X G c => He.glo_ok X G c
theorem Txt.g_are_apart (T : Txt K mg) : mg "are_apart" = some (.ref (He.ga K "are_apart")) := T.at 1 rfl fun X G c => He.glo_ok X G c
theorem Txt.g_refuse (T : Txt K mg) : mg "refuse" = some (.ref (He.ga K "refuse")) := T.at 2 rfl fun X G c => He.glo_ok X G c
theorem Txt.g_check_thing (T : Txt K mg) : mg "check_thing" = some (.ref (He.ga K "check_thing")) := T.at 3 rfl fun X G c => He.glo_ok X G c
theorem Txt.g_check_free (T : Txt K mg) : mg "check_free" = some (.ref (He.ga K "check_free")) := T.at 4 rfl fun X G c => He.glo_ok X G c
theorem Txt.g_are_rising (T : Txt K mg) : mg "are_rising" = some (.ref (He.ga K "are_rising")) := T.at 5 rfl fun X G c => He.glo_ok X G c
theorem Txt.g_pairs (T : Txt K mg) : mg "pairs" = some (.ref (He.ga K "pairs")) := T.at 6 rfl fun X G c => He.glo_ok X G c
theorem Txt.g_meet (T : Txt K mg) : mg "meet" = some (.ref (He.ga K "meet")) := T.at 7 rfl fun X G c => He.glo_ok X G c
theorem Txt.g_clean (T : Txt K mg) : mg "clean" = some (.ref (He.ga K "clean")) := T.at 8 rfl fun X G c => He.glo_ok X G c
theorem Txt.g_entry_of (T : Txt K mg) : mg "entry_of" = some (.ref (He.ga K "entry_of")) := T.at 9 rfl fun X G c => He.glo_ok X G c
theorem Txt.g_strike (T : Txt K mg) : mg "strike" = some (.ref (He.ga K "strike")) := T.at 10 rfl fun X G c => He.glo_ok X G c
theorem Txt.g_show_entry (T : Txt K mg) : mg "show_entry" = some (.ref (He.ga K "show_entry")) := T.at 11 rfl fun X G c => He.glo_ok X G c
theorem Txt.g_check_lot (T : Txt K mg) : mg "check_lot" = some (.ref (He.ga K "check_lot")) := T.at 12 rfl fun X G c => He.glo_ok X G c
theorem Txt.g_counted (T : Txt K mg) : mg "counted" = some (.ref (He.ga K "counted")) := T.at 13 rfl fun X G c => He.glo_ok X G c
theorem Txt.g_touched (T : Txt K mg) : mg "touched" = some (.ref (He.ga K "touched")) := T.at 14 rfl fun X G c => He.glo_ok X G c
theorem Txt.g_dirty (T : Txt K mg) : mg "dirty" = some (.ref (He.ga K "dirty")) := T.at 15 rfl fun X G c => He.glo_ok X G c
theorem Txt.g_finds_of (T : Txt K mg) : mg "finds_of" = some (.ref (He.ga K "finds_of")) := T.at 16 rfl fun X G c => He.glo_ok X G c
theorem Txt.g_sources (T : Txt K mg) : mg "sources" = some (.ref (He.ga K "sources")) := T.at 17 rfl fun X G c => He.glo_ok X G c
theorem Txt.g_fewest (T : Txt K mg) : mg "fewest" = some (.ref (He.ga K "fewest")) := T.at 18 rfl fun X G c => He.glo_ok X G c
theorem Txt.g_ask_cut (T : Txt K mg) : mg "ask_cut" = some (.ref (He.ga K "ask_cut")) := T.at 19 rfl fun X G c => He.glo_ok X G c
theorem Txt.g_apart (T : Txt K mg) : mg "apart" = some (.ref (He.ga K "apart")) := T.at 20 rfl fun X G c => He.glo_ok X G c
theorem Txt.g_show_lines (T : Txt K mg) : mg "show_lines" = some (.ref (He.ga K "show_lines")) := T.at 21 rfl fun X G c => He.glo_ok X G c
theorem Txt.g_answer_of (T : Txt K mg) : mg "answer_of" = some (.ref (He.ga K "answer_of")) := T.at 22 rfl fun X G c => He.glo_ok X G c
theorem Txt.g_answers (T : Txt K mg) : mg "answers" = some (.ref (He.ga K "answers")) := T.at 23 rfl fun X G c => He.glo_ok X G c
theorem Txt.g_NoCut (T : Txt K mg) : mg "NoCut" = some (.ref (He.ga K "NoCut")) := T.at 24 rfl fun X G c => He.glo_ok X G c
theorem Txt.g_Cut (T : Txt K mg) : mg "Cut" = some (.ref (He.ga K "Cut")) := T.at 25 rfl fun X G c => He.glo_ok X G c
theorem Txt.g_Entry (T : Txt K mg) : mg "Entry" = some (.ref (He.ga K "Entry")) := T.at 26 rfl fun X G c => He.glo_ok X G c
theorem Txt.g_Log (T : Txt K mg) : mg "Log" = some (.ref (He.ga K "Log")) := T.at 27 rfl fun X G c => He.glo_ok X G c
theorem Txt.g_Refused (T : Txt K mg) : mg "Refused" = some (.ref (He.ga K "Refused")) := T.at 28 rfl fun X G c => He.glo_ok X G c
theorem Txt.g_DEEDS (T : Txt K mg) : mg "DEEDS" = some (.ref (He.ga K "DEEDS")) := T.at 29 rfl fun X G c => He.glo_ok X G c
theorem Txt.f_ValueError (T : Txt K mg) : mg "ValueError" = none := T.at 30 rfl fun X G c => He.free_ok X G c
theorem Txt.f_any (T : Txt K mg) : mg "any" = none := T.at 31 rfl fun X G c => He.free_ok X G c
theorem Txt.f_all (T : Txt K mg) : mg "all" = none := T.at 32 rfl fun X G c => He.free_ok X G c
theorem Txt.f_len (T : Txt K mg) : mg "len" = none := T.at 33 rfl fun X G c => He.free_ok X G c
theorem Txt.f_sorted (T : Txt K mg) : mg "sorted" = none := T.at 34 rfl fun X G c => He.free_ok X G c
theorem Txt.f_range (T : Txt K mg) : mg "range" = none := T.at 35 rfl fun X G c => He.free_ok X G c
theorem Txt.f_enumerate (T : Txt K mg) : mg "enumerate" = none := T.at 36 rfl fun X G c => He.free_ok X G c
theorem Txt.f_dict (T : Txt K mg) : mg "dict" = none := T.at 37 rfl fun X G c => He.free_ok X G c
theorem Txt.f_set (T : Txt K mg) : mg "set" = none := T.at 38 rfl fun X G c => He.free_ok X G c
theorem Txt.f_max (T : Txt K mg) : mg "max" = none := T.at 39 rfl fun X G c => He.free_ok X G c
theorem Txt.i_LAST_MINUTE (T : Txt K mg) : ∃ t, mg "LAST_MINUTE" = some (.int 52595999 t) := T.at 40 rfl fun X G c => He.int_ok X G c
theorem Txt.i_MOST_THING (T : Txt K mg) : ∃ t, mg "MOST_THING" = some (.int 19 t) := T.at 41 rfl fun X G c => He.int_ok X G c
theorem Txt.i_MOST_LOT (T : Txt K mg) : ∃ t, mg "MOST_LOT" = some (.int 999 t) := T.at 42 rfl fun X G c => He.int_ok X G c
theorem Txt.i_MOST_ENTRIES (T : Txt K mg) : ∃ t, mg "MOST_ENTRIES" = some (.int 80 t) := T.at 43 rfl fun X G c => He.int_ok X G c
theorem Txt.c_Cut (T : Txt K mg) : Cls K (He.ga K "Cut") := T.at 44 rfl fun _ _ c => He.cls_ok c
theorem Txt.k_Cut (T : Txt K mg) : Mk K (He.ga K "Cut") (He.ma K (He.ga K "Cut") "__init__") := T.at 45 rfl fun _ _ c => He.mkr_ok c
theorem Txt.n_Cut_log (T : Txt K mg) : NoAttr K (He.ga K "Cut") "log" := T.at 46 rfl fun _ _ c => He.noat_ok c
theorem Txt.n_Cut_finds (T : Txt K mg) : NoAttr K (He.ga K "Cut") "finds" := T.at 47 rfl fun _ _ c => He.noat_ok c
theorem Txt.n_Cut_first (T : Txt K mg) : NoAttr K (He.ga K "Cut") "first" := T.at 48 rfl fun _ _ c => He.noat_ok c
theorem Txt.n_Cut_free (T : Txt K mg) : NoAttr K (He.ga K "Cut") "free" := T.at 49 rfl fun _ _ c => He.noat_ok c
theorem Txt.n_Cut_single (T : Txt K mg) : NoAttr K (He.ga K "Cut") "single" := T.at 50 rfl fun _ _ c => He.noat_ok c
theorem Txt.n_Cut_used (T : Txt K mg) : NoAttr K (He.ga K "Cut") "used" := T.at 51 rfl fun _ _ c => He.noat_ok c
theorem Txt.n_Cut_count (T : Txt K mg) : NoAttr K (He.ga K "Cut") "count" := T.at 52 rfl fun _ _ c => He.noat_ok c
theorem Txt.m_Cut_init (T : Txt K mg) : Meth K (He.ga K "Cut") "__init__" (He.ma K (He.ga K "Cut") "__init__") := T.at 53 rfl fun _ _ c => He.meth_ok c
theorem Txt.m_Cut_follow (T : Txt K mg) : Meth K (He.ga K "Cut") "follow" (He.ma K (He.ga K "Cut") "follow") := T.at 54 rfl fun _ _ c => He.meth_ok c
theorem Txt.m_Cut_reached (T : Txt K mg) : Meth K (He.ga K "Cut") "reached" (He.ma K (He.ga K "Cut") "reached") := T.at 55 rfl fun _ _ c => He.meth_ok c
theorem Txt.m_Cut_fill (T : Txt K mg) : Meth K (He.ga K "Cut") "fill" (He.ma K (He.ga K "Cut") "fill") := T.at 56 rfl fun _ _ c => He.meth_ok c
theorem Txt.m_Cut_lines (T : Txt K mg) : Meth K (He.ga K "Cut") "lines" (He.ma K (He.ga K "Cut") "lines") := T.at 57 rfl fun _ _ c => He.meth_ok c
theorem Txt.c_Entry (T : Txt K mg) : Cls K (He.ga K "Entry") := T.at 58 rfl fun _ _ c => He.cls_ok c
theorem Txt.k_Entry (T : Txt K mg) : Mk K (He.ga K "Entry") (He.ma K (He.ga K "Entry") "__init__") := T.at 59 rfl fun _ _ c => He.mkr_ok c
theorem Txt.n_Entry_thing (T : Txt K mg) : NoAttr K (He.ga K "Entry") "thing" := T.at 60 rfl fun _ _ c => He.noat_ok c
theorem Txt.n_Entry_minute (T : Txt K mg) : NoAttr K (He.ga K "Entry") "minute" := T.at 61 rfl fun _ _ c => He.noat_ok c
theorem Txt.n_Entry_lots (T : Txt K mg) : NoAttr K (He.ga K "Entry") "lots" := T.at 62 rfl fun _ _ c => He.noat_ok c
theorem Txt.n_Entry_is_struck (T : Txt K mg) : NoAttr K (He.ga K "Entry") "is_struck" := T.at 63 rfl fun _ _ c => He.noat_ok c
theorem Txt.m_Entry_init (T : Txt K mg) : Meth K (He.ga K "Entry") "__init__" (He.ma K (He.ga K "Entry") "__init__") := T.at 64 rfl fun _ _ c => He.meth_ok c
theorem Txt.m_Entry_is_meeting (T : Txt K mg) : Meth K (He.ga K "Entry") "is_meeting" (He.ma K (He.ga K "Entry") "is_meeting") := T.at 65 rfl fun _ _ c => He.meth_ok c
theorem Txt.c_Log (T : Txt K mg) : Cls K (He.ga K "Log") := T.at 66 rfl fun _ _ c => He.cls_ok c
theorem Txt.k_Log (T : Txt K mg) : Mk K (He.ga K "Log") (He.ma K (He.ga K "Log") "__init__") := T.at 67 rfl fun _ _ c => He.mkr_ok c
theorem Txt.n_Log_entries (T : Txt K mg) : NoAttr K (He.ga K "Log") "entries" := T.at 68 rfl fun _ _ c => He.noat_ok c
theorem Txt.m_Log_init (T : Txt K mg) : Meth K (He.ga K "Log") "__init__" (He.ma K (He.ga K "Log") "__init__") := T.at 69 rfl fun _ _ c => He.meth_ok c
theorem Txt.m_Log_standing (T : Txt K mg) : Meth K (He.ga K "Log") "standing" (He.ma K (He.ga K "Log") "standing") := T.at 70 rfl fun _ _ c => He.meth_ok c
theorem Txt.m_Log_is_taken (T : Txt K mg) : Meth K (He.ga K "Log") "is_taken" (He.ma K (He.ga K "Log") "is_taken") := T.at 71 rfl fun _ _ c => He.meth_ok c
theorem Txt.m_Log_has_meeting (T : Txt K mg) : Meth K (He.ga K "Log") "has_meeting" (He.ma K (He.ga K "Log") "has_meeting") := T.at 72 rfl fun _ _ c => He.meth_ok c
theorem Txt.m_Log_meetings (T : Txt K mg) : Meth K (He.ga K "Log") "meetings" (He.ma K (He.ga K "Log") "meetings") := T.at 73 rfl fun _ _ c => He.meth_ok c
theorem Txt.m_Log_meetings_of (T : Txt K mg) : Meth K (He.ga K "Log") "meetings_of" (He.ma K (He.ga K "Log") "meetings_of") := T.at 74 rfl fun _ _ c => He.meth_ok c
theorem Txt.m_Log_all_lots (T : Txt K mg) : Meth K (He.ga K "Log") "all_lots" (He.ma K (He.ga K "Log") "all_lots") := T.at 75 rfl fun _ _ c => He.meth_ok c
theorem Txt.m_Log_is_cleaned (T : Txt K mg) : Meth K (He.ga K "Log") "is_cleaned" (He.ma K (He.ga K "Log") "is_cleaned") := T.at 76 rfl fun _ _ c => He.meth_ok c
theorem Txt.m_Log_lot_lines (T : Txt K mg) : Meth K (He.ga K "Log") "lot_lines" (He.ma K (He.ga K "Log") "lot_lines") := T.at 77 rfl fun _ _ c => He.meth_ok c
theorem Txt.m_Log_thing_lines (T : Txt K mg) : Meth K (He.ga K "Log") "thing_lines" (He.ma K (He.ga K "Log") "thing_lines") := T.at 78 rfl fun _ _ c => He.meth_ok c
theorem Txt.m_Log_first_meeting (T : Txt K mg) : Meth K (He.ga K "Log") "first_meeting" (He.ma K (He.ga K "Log") "first_meeting") := T.at 79 rfl fun _ _ c => He.meth_ok c
theorem Txt.m_Log_reached (T : Txt K mg) : Meth K (He.ga K "Log") "reached" (He.ma K (He.ga K "Log") "reached") := T.at 80 rfl fun _ _ c => He.meth_ok c
theorem Txt.m_Log_touched (T : Txt K mg) : Meth K (He.ga K "Log") "touched" (He.ma K (He.ga K "Log") "touched") := T.at 81 rfl fun _ _ c => He.meth_ok c
theorem Txt.m_Log_is_find (T : Txt K mg) : Meth K (He.ga K "Log") "is_find" (He.ma K (He.ga K "Log") "is_find") := T.at 82 rfl fun _ _ c => He.meth_ok c
theorem Txt.m_Log_do_reach (T : Txt K mg) : Meth K (He.ga K "Log") "do_reach" (He.ma K (He.ga K "Log") "do_reach") := T.at 83 rfl fun _ _ c => He.meth_ok c
theorem Txt.m_Log_reaches_all (T : Txt K mg) : Meth K (He.ga K "Log") "reaches_all" (He.ma K (He.ga K "Log") "reaches_all") := T.at 84 rfl fun _ _ c => He.meth_ok c
theorem Txt.x_NoCut (T : Txt K mg) : PySem.W.excIn K (He.ga K "NoCut") He.veBase "ValueError.__new__" = true ∧ PySem.W.keepIn K (.ref (He.ga K "NoCut")) = true ∧ PySem.W.subIn K (.ref (He.ga K "NoCut")) (.type "BaseException") = some true ∧ PySem.W.typeIn K (.ref (He.ga K "NoCut")) = some (.type "type") := T.at 85 rfl fun _ _ c => He.exc_ok c
theorem Txt.y_NoCut_NoCut (T : Txt K mg) : PySem.W.exmOne K (.ref (He.ga K "NoCut")) (.ref (He.ga K "NoCut")) = some true := T.at 86 rfl fun _ _ c => He.exm_ok c
theorem Txt.y_Refused_Refused (T : Txt K mg) : PySem.W.exmOne K (.ref (He.ga K "Refused")) (.ref (He.ga K "Refused")) = some true := T.at 87 rfl fun _ _ c => He.exm_ok c
theorem Txt.kp_Refused (T : Txt K mg) : PySem.W.keepIn K (.ref (He.ga K "Refused")) = true := T.at 88 rfl fun _ _ c => He.keep_ok c
theorem Txt.m_Refused_init (T : Txt K mg) : Meth K (He.ga K "Refused") "__init__" (He.ma K (He.ga K "Refused") "__init__") := T.at 89 rfl fun _ _ c => He.meth_ok c
theorem Txt.n_Refused_numbers (T : Txt K mg) : NoAttr K (He.ga K "Refused") "numbers" := T.at 90 rfl fun _ _ c => He.noat_ok c
theorem Txt.u_is_way (T : Txt K mg) : Ru K d_is_way := T.run_ 0 rfl
theorem Txt.u_are_apart (T : Txt K mg) : Ru K d_are_apart := T.run_ 1 rfl
theorem Txt.u_refuse (T : Txt K mg) : Ru K d_refuse := T.run_ 2 rfl
theorem Txt.u_check_thing (T : Txt K mg) : Ru K d_check_thing := T.run_ 3 rfl
theorem Txt.u_check_free (T : Txt K mg) : Ru K d_check_free := T.run_ 4 rfl
theorem Txt.u_are_rising (T : Txt K mg) : Ru K d_are_rising := T.run_ 5 rfl
theorem Txt.u_pairs (T : Txt K mg) : Ru K d_pairs := T.run_ 6 rfl
theorem Txt.u_meet (T : Txt K mg) : Ru K d_meet := T.run_ 7 rfl
theorem Txt.u_clean (T : Txt K mg) : Ru K d_clean := T.run_ 8 rfl
theorem Txt.u_entry_of (T : Txt K mg) : Ru K d_entry_of := T.run_ 9 rfl
theorem Txt.u_strike (T : Txt K mg) : Ru K d_strike := T.run_ 10 rfl
theorem Txt.u_show_entry (T : Txt K mg) : Ru K d_show_entry := T.run_ 11 rfl
theorem Txt.u_check_lot (T : Txt K mg) : Ru K d_check_lot := T.run_ 12 rfl
theorem Txt.u_counted (T : Txt K mg) : Ru K d_counted := T.run_ 13 rfl
theorem Txt.u_touched (T : Txt K mg) : Ru K d_touched := T.run_ 14 rfl
theorem Txt.u_dirty (T : Txt K mg) : Ru K d_dirty := T.run_ 15 rfl
theorem Txt.u_finds_of (T : Txt K mg) : Ru K d_finds_of := T.run_ 16 rfl
theorem Txt.u_sources (T : Txt K mg) : Ru K d_sources := T.run_ 17 rfl
theorem Txt.u_fewest (T : Txt K mg) : Ru K d_fewest := T.run_ 18 rfl
theorem Txt.u_ask_cut (T : Txt K mg) : Ru K d_ask_cut := T.run_ 19 rfl
theorem Txt.u_apart (T : Txt K mg) : Ru K d_apart := T.run_ 20 rfl
theorem Txt.u_show_lines (T : Txt K mg) : Ru K d_show_lines := T.run_ 21 rfl
theorem Txt.u_answer_of (T : Txt K mg) : Ru K d_answer_of := T.run_ 22 rfl
theorem Txt.u_answers (T : Txt K mg) : Ru K d_answers := T.run_ 23 rfl
theorem Txt.u_Cut_init (T : Txt K mg) : Ru K d_Cut_init := T.run_ 24 rfl
theorem Txt.u_Cut_follow (T : Txt K mg) : Ru K d_Cut_follow := T.run_ 25 rfl
theorem Txt.u_Cut_reached (T : Txt K mg) : Ru K d_Cut_reached := T.run_ 26 rfl
theorem Txt.u_Cut_fill (T : Txt K mg) : Ru K d_Cut_fill := T.run_ 27 rfl
theorem Txt.u_Cut_lines (T : Txt K mg) : Ru K d_Cut_lines := T.run_ 28 rfl
theorem Txt.u_Entry_init (T : Txt K mg) : Ru K d_Entry_init := T.run_ 29 rfl
theorem Txt.u_Entry_is_meeting (T : Txt K mg) : Ru K d_Entry_is_meeting := T.run_ 30 rfl
theorem Txt.u_Log_init (T : Txt K mg) : Ru K d_Log_init := T.run_ 31 rfl
theorem Txt.u_Log_standing (T : Txt K mg) : Ru K d_Log_standing := T.run_ 32 rfl
theorem Txt.u_Log_is_taken (T : Txt K mg) : Ru K d_Log_is_taken := T.run_ 33 rfl
theorem Txt.u_Log_has_meeting (T : Txt K mg) : Ru K d_Log_has_meeting := T.run_ 34 rfl
theorem Txt.u_Log_meetings (T : Txt K mg) : Ru K d_Log_meetings := T.run_ 35 rfl
theorem Txt.u_Log_meetings_of (T : Txt K mg) : Ru K d_Log_meetings_of := T.run_ 36 rfl
theorem Txt.u_Log_all_lots (T : Txt K mg) : Ru K d_Log_all_lots := T.run_ 37 rfl
theorem Txt.u_Log_is_cleaned (T : Txt K mg) : Ru K d_Log_is_cleaned := T.run_ 38 rfl
theorem Txt.u_Log_lot_lines (T : Txt K mg) : Ru K d_Log_lot_lines := T.run_ 39 rfl
theorem Txt.u_Log_thing_lines (T : Txt K mg) : Ru K d_Log_thing_lines := T.run_ 40 rfl
theorem Txt.u_Log_first_meeting (T : Txt K mg) : Ru K d_Log_first_meeting := T.run_ 41 rfl
theorem Txt.u_Log_reached (T : Txt K mg) : Ru K d_Log_reached := T.run_ 42 rfl
theorem Txt.u_Log_touched (T : Txt K mg) : Ru K d_Log_touched := T.run_ 43 rfl
theorem Txt.u_Log_is_find (T : Txt K mg) : Ru K d_Log_is_find := T.run_ 44 rfl
theorem Txt.u_Log_do_reach (T : Txt K mg) : Ru K d_Log_do_reach := T.run_ 45 rfl
theorem Txt.u_Log_reaches_all (T : Txt K mg) : Ru K d_Log_reaches_all := T.run_ 46 rfl
theorem Txt.u_Refused_init (T : Txt K mg) : Ru K d_Refused_init := T.run_ 47 rfl
end
/-! ### a def keeps its promise -/
structure Ok (P : Program) (w : World) (K : PySem.W.Frag) (mg : Str → Option Value) (base : Heap) (CX : CXT) (k : Nat) (d : He.DefD) (ps : List Str) (sp : Sp) : Prop where
  f : FnOk P w K mg base CX k (He.fAd K d.at_) (fdOf K d) ps sp
  b : Binds K (fdOf K d) ps []
  kp : PySem.W.keepIn K (.ref (He.fAd K d.at_)) = true
section
variable {P : Program} {w : World} {K : PySem.W.Frag} {mg : Str → Option Value} {base : Heap} {d : He.DefD} {N ps : List Str} {k : Nat} {sp : Sp}
/-- none leaves it -/
theorem ok0 (F : Ru K d) (S : FnScope N ps d.scope) (hb : ∀ (kV doc pm : Value) (an : Option Addr) (cdv ct : Value) (us : List Value), us.length = ps.length → bindArgs (PySem.W.fnOf d.name d.qual d.params d.body d.scope .none kV doc pm an cdv ct) ⟨us, []⟩ = pure (ps.zip us))
    (len : ∀ vs H Q E, sp vs H Q E → vs.length = ps.length)
    (hbody : ∀ (cdv : Value) (A : Around) (outer : List Env) (s : Shared) (H : Hp) (vs : List V) (Q : VK) (E : XK), Room k (A.deeper (envOfC d.qual d.scope s.heap.objs.size (He.fAd K d.at_) cdv)) → sp vs H Q E →
      ∃ t, PSs (cxOf CX0 P w K mg base N d.qual d.scope (He.fAd K d.at_) cdv A outer s H E).nox d.body t ∧ t { nx := fun _ H' => Q .non H', rt := Q } (L2.start N vs) H) : Ok P w K mg base CX0 (k + 1) d ps sp :=
  ⟨FunD.ok F S len fun cdv A outer s H vs Q E hr h => let ⟨t, h1, h2⟩ := hbody cdv A outer s H vs Q E hr h; ⟨t, h1.nox, h2⟩, F.bindsN hb, F.kp⟩
/-- one may -/
theorem okX {CX : CXT} (F : Ru K d) (S : FnScope N ps d.scope) (hb : ∀ (kV doc pm : Value) (an : Option Addr) (cdv ct : Value) (us : List Value), us.length = ps.length → bindArgs (PySem.W.fnOf d.name d.qual d.params d.body d.scope .none kV doc pm an cdv ct) ⟨us, []⟩ = pure (ps.zip us))
    (len : ∀ vs H Q E, sp vs H Q E → vs.length = ps.length)
    (hbody : ∀ (cdv : Value) (A : Around) (outer : List Env) (s : Shared) (H : Hp) (vs : List V) (Q : VK) (E : XK), Room k (A.deeper (envOfC d.qual d.scope s.heap.objs.size (He.fAd K d.at_) cdv)) → sp vs H Q E →
      ∃ t, PSs (cxOf CX P w K mg base N d.qual d.scope (He.fAd K d.at_) cdv A outer s H E) d.body t ∧ t { nx := fun _ H' => Q .non H', rt := Q } (L2.start N vs) H) : Ok P w K mg base CX (k + 1) d ps sp :=
  ⟨FunD.ok F S len hbody, F.bindsN hb, F.kp⟩
end
end St

end

section

set_option Elab.async false
set_option linter.all false
set_option maxRecDepth 100000
set_option maxHeartbeats 4000000
namespace St
open PySem PySem.Spec PyProof.Rows L2 Evl
abbrev nV (n : Nat) : V := .int (n : Int)
/-! ### the rules with the written part told (within a comprehension's block it must be a letter) -/
section
variable {X : Cx} {e o a b value : Expr} {ta tb te tv to : TE} {t : TA} {es : List Expr} {f x : Str} {pos pos' p cpos apos tpos : Pos} {tg l : Expr} {tl : TE}
theorem wfld (K : PySem.W.Frag) (he : PE X e ta) (hb : attributeBase e f X.env (eval e X.env) = eval e X.env := by rfl) (hK : X.K = K := by rfl) : PE X (.Attribute e f pos) (tFld K ta f) := by
  subst hK
  exact pe_fld he hb
theorem sfld (K : PySem.W.Frag) (ha : PE X o ta) (hv : PE X value tv) (hs : swapsWith value (some (.Attribute o f pos')) pos.line X.env = pure false := by rfl) (hK : X.K = K := by rfl) : PS X (.Assign [.Attribute o f pos'] value pos) (sFld K ta tv f) := by
  subst hK
  exact ps_fld ha hv hs
theorem sfldaug (K : PySem.W.Frag) {op : Operator} {rd : V → V → Hp → VK → Prop} (ha : PE X o ta) (hv : PE X value tv) (hop : InOp X op rd) (hK : X.K = K := by rfl) : PS X (.AugAssign (.Attribute o f tpos) op value pos) (sFldAug K ta tv rd f) := by
  subst hK
  exact ps_fldaug ha hv hop
theorem wtup (K : PySem.W.Frag) {k n : Nat} {t : TGs} (hc : X.calm = true) (h : PGs X es t) (hn : (assignEach es X.env).length = n := by rfl) (hst : (assignEach es X.env).findIdx? (·.1) = none := by rfl) (hK : X.K = K := by rfl) : PG X (.Tuple es k pos) (gTup K n t) := by
  subst hK
  exact pg_tup hc h hn hst
theorem wunl (K : PySem.W.Frag) {k n : Nat} {t : TGs} (hc : X.calm = true) (h : PGs X es t) (hn : (assignEach es X.env).length = n := by rfl) (hst : (assignEach es X.env).findIdx? (·.1) = none := by rfl) (hK : X.K = K := by rfl) : PG X (.Tuple es k pos) (gLst K n t) := by
  subst hK
  exact pg_lst hc h hn hst
theorem wixL (K : PySem.W.Frag) (ha : PE X a ta) (hb : PE X b tb) (hs : PlainIx b := by exact fun _ _ => rfl) (hK : X.K = K := by rfl) : PE X (.Subscript a b pos) (tOp (rIxL K) ta tb) := by
  subst hK
  exact pe_ix ix_list ha hb hs
theorem wixT (K : PySem.W.Frag) (ha : PE X a ta) (hb : PE X b tb) (hs : PlainIx b := by exact fun _ _ => rfl) (hK : X.K = K := by rfl) : PE X (.Subscript a b pos) (tOp (rIxT K) ta tb) := by
  subst hK
  exact pe_ix ix_tup ha hb hs
theorem wsl (K : PySem.W.Frag) {lo hi : Option Expr} {p2 : Pos} {t1 t2 : TO} (he : PE X e te) (hl : PO X lo t1) (hu : PO X hi t2) (hK : X.K = K := by rfl) : PE X (.Subscript e (.Slice lo hi none p2) pos) (tSl (rSlL K) te t1 t2) := by
  subst hK
  exact pe_slice sl_list he hl hu
theorem wany (K : PySem.W.Frag) (hc : X.calm = true) (hg : Gl X "any") (hm : X.mg "any" = none) (ha : PE X e te) (hs : starEach [e] X.env = (false, eval e X.env) :: starEach [] X.env := by rfl) (hpl : (backTo pos (starEach [] X.env)).any (·.1) = false := by rfl) (hK : X.K = K := by rfl) :
    PE X (.Call (.Name "any" p) [e] [] pos) (tCB (rAny K) (tCons te tNil)) := by
  subst hK
  exact pe_callB (cr_any hc) hg hm (by decide +kernel) (pa_cons ha pa_nil hs) (by decide) (by decide) hs hpl
theorem wall (K : PySem.W.Frag) (hc : X.calm = true) (hg : Gl X "all") (hm : X.mg "all" = none) (ha : PE X e te) (hs : starEach [e] X.env = (false, eval e X.env) :: starEach [] X.env := by rfl) (hpl : (backTo pos (starEach [] X.env)).any (·.1) = false := by rfl) (hK : X.K = K := by rfl) :
    PE X (.Call (.Name "all" p) [e] [] pos) (tCB (rAll K) (tCons te tNil)) := by
  subst hK
  exact pe_callB (cr_all hc) hg hm (by decide +kernel) (pa_cons ha pa_nil hs) (by decide) (by decide) hs hpl
theorem wmax (K : PySem.W.Frag) (hc : X.calm = true) (hg : Gl X "max") (hm : X.mg "max" = none) (ha : PE X e te) (hs : starEach [e] X.env = (false, eval e X.env) :: starEach [] X.env := by rfl) (hpl : (backTo pos (starEach [] X.env)).any (·.1) = false := by rfl) (hK : X.K = K := by rfl) :
    PE X (.Call (.Name "max" p) [e] [] pos) (tCB (rMax K) (tCons te tNil)) := by
  subst hK
  exact pe_callB (cr_max hc) hg hm (by decide +kernel) (pa_cons ha pa_nil hs) (by decide) (by decide) hs hpl
theorem wlen (K : PySem.W.Frag) (hg : Gl X "len") (hm : X.mg "len" = none) (ha : PE X e te) (hs : starEach [e] X.env = (false, eval e X.env) :: starEach [] X.env := by rfl) (hpl : (backTo pos (starEach [] X.env)).any (·.1) = false := by rfl) (hK : X.K = K := by rfl) :
    PE X (.Call (.Name "len" p) [e] [] pos) (tCB (rLenS K) (tCons te tNil)) := by
  subst hK
  exact pe_callB call_len_seq hg hm PySem.boot_len (pa_cons ha pa_nil hs) (by decide) (by decide) hs hpl
theorem wlist (K : PySem.W.Frag) (hl : PE X l tl) (hK : X.K = K := by rfl) : PI X tg l (iList K tl) := by
  subst hK
  exact pi_list hl
theorem wenum (K : PySem.W.Frag) {tpos : Pos} {elts : List Expr} {kk : Nat} (hg : Gl X "enumerate") (hm : X.mg "enumerate" = none) (ha : PE X e te) (hs : starEach [e] X.env = [(false, eval e X.env)] := by rfl) (hs2 : starEach [e] X.env = (false, eval e X.env) :: starEach [] X.env := by rfl) (hK : X.K = K := by rfl) :
    PI X (.Tuple elts kk tpos) (.Call (.Name "enumerate" p) [e] [] pos) (iEnum K (tCons te tNil)) := by
  subst hK
  exact pi_enum hg hm (pa_cons ha pa_nil hs2) hs
theorem wtru (K : PySem.W.Frag) (ha : PE X a ta) (he : ∀ whole, isTrue a X.env whole = (do let v ← whole; standAt a.pos; holding [v] (truthy v)) := by intro _; rfl) (hK : X.K = K := by rfl) : PT X a (fun σ H Q => ta σ H fun x H' => ∃ k, TruV K x H' k ∧ Q k H') := by
  subst hK
  exact pt_truth ha he
theorem winL (K : PySem.W.Frag) (ha : PE X a ta) (hb : PE X b tb) (hm : behindInMarks .In b = false := by rfl) (hK : X.K = K := by rfl) : PE X (.Compare a [.In] [b] pos) (tOp (rIn K false) ta tb) := by
  subst hK
  exact pe_cmpR op_in_seq ha hb hm
theorem wniL (K : PySem.W.Frag) (ha : PE X a ta) (hb : PE X b tb) (hm : behindInMarks .NotIn b = false := by rfl) (hK : X.K = K := by rfl) : PE X (.Compare a [.NotIn] [b] pos) (tOp (rIn K true) ta tb) := by
  subst hK
  exact pe_cmpR op_notIn_seq ha hb hm
theorem winD (K : PySem.W.Frag) (hu : X.A.units + 65 < cLine) (ha : PE X a ta) (hb : PE X b tb) (hm : behindInMarks .In b = false := by rfl) (hK : X.K = K := by rfl) : PE X (.Compare a [.In] [b] pos) (tOp (rInD K) ta tb) := by
  subst hK
  exact pe_cmpR (op_inD hu) ha hb hm
theorem wapp (K : PySem.W.Frag) (ho : PE X o to) (ha : PE X e te) (hbase : attributeBase o "append" X.env (eval o X.env) = eval o X.env := by rfl)
    (hfew : ((backTo cpos (starEach [e] X.env)).all (fun x => !x.1) && (backToKw cpos (keywordEach [] X.env)).all (fun x => x.1.isSome) && decide ([e].length + ([] : List Keyword).length + (if ([] : List Keyword).isEmpty then 0 else 1) < 30)) = true := by rfl)
    (hline : (apos.endLine == cpos.line) = true := by rfl) (hs : starEach [e] X.env = (false, eval e X.env) :: starEach [] X.env := by rfl) (hplain : (backTo cpos (starEach [] X.env)).any (·.1) = false := by rfl) (hK : X.K = K := by rfl) :
    PE X (.Call (.Attribute o "append" apos) [e] [] cpos) (tBM K "list" rAppend to (tCons te tNil)) := by
  subst hK
  exact pe_bm PySem.F.plainAttrs_list PySem.F.slot_list_append PySem.F.type_list_append mt_append ho (pa_cons ha pa_nil hs) hbase hfew hline hs hplain
theorem wext (K : PySem.W.Frag) (ho : PE X o to) (ha : PE X e te) (hbase : attributeBase o "extend" X.env (eval o X.env) = eval o X.env := by rfl)
    (hfew : ((backTo cpos (starEach [e] X.env)).all (fun x => !x.1) && (backToKw cpos (keywordEach [] X.env)).all (fun x => x.1.isSome) && decide ([e].length + ([] : List Keyword).length + (if ([] : List Keyword).isEmpty then 0 else 1) < 30)) = true := by rfl)
    (hline : (apos.endLine == cpos.line) = true := by rfl) (hs : starEach [e] X.env = (false, eval e X.env) :: starEach [] X.env := by rfl) (hplain : (backTo cpos (starEach [] X.env)).any (·.1) = false := by rfl) (hK : X.K = K := by rfl) :
    PE X (.Call (.Attribute o "extend" apos) [e] [] cpos) (tBM K "list" rExtend to (tCons te tNil)) := by
  subst hK
  exact pe_bm PySem.F.plainAttrs_list PySem.F.slot_list_extend PySem.F.type_list_extend mt_extend ho (pa_cons ha pa_nil hs) hbase hfew hline hs hplain
end
/-! ### what evaluates to what, told by a relation -/
def EvP (te : TE) (σ : L2.St) (H : Hp) (R : V → Hp → Prop) : Prop := ∀ H1, Ex H H1 → ∀ Q : VK, (∀ v H2, Ex H1 H2 → R v H2 → Q v H2) → te σ H1 Q
/-- a new object -/
def EvN (te : TE) (σ : L2.St) (H : Hp) (R : Addr → Hp → Prop) : Prop := ∀ H1, Ex H H1 → ∀ Q : VK, (∀ p H2, H1 p = none → Ex H1 H2 → R p H2 → Q (.ref p) H2) → te σ H1 Q
section
variable {K : PySem.W.Frag} {σ : L2.St} {H H' : Hp} {ta tb te : TE} {v x y : V} {C : Addr}
theorem Ev.p {R : V → Hp → Prop} (h : Ev te σ H v) (r : ∀ H1, Ex H H1 → R v H1) : EvP te σ H R := fun H1 e Q q => h H1 e Q fun H2 e2 => q v H2 e2 (r H2 (e.trans e2))
theorem EvN.p {R : Addr → Hp → Prop} (h : EvN te σ H R) : EvP te σ H (fun v H' => ∃ p, v = .ref p ∧ R p H') := fun H1 e Q q => h H1 e Q fun p H2 _ e2 r => q _ H2 e2 ⟨p, rfl, r⟩
theorem EvL.n {xs : List V} (h : EvL te σ H xs) : EvN te σ H (fun p H' => H' p = some (.lst xs)) := h
theorem EvU.n {xs : List V} (h : EvU te σ H xs) : EvN te σ H (fun p H' => H' p = some (.tup xs)) := h
theorem EvP.mono {R : V → Hp → Prop} (e : Ex H H') (h : EvP te σ H R) : EvP te σ H' R := fun H1 a Q q => h H1 (e.trans a) Q q
theorem EvN.mono {R : Addr → Hp → Prop} (e : Ex H H') (h : EvN te σ H R) : EvN te σ H' R := fun H1 a Q q => h H1 (e.trans a) Q q
theorem EvP.imp {R R' : V → Hp → Prop} (h : EvP te σ H R) (i : ∀ v H1, Ex H H1 → R v H1 → R' v H1) : EvP te σ H R' := fun H1 e Q q => h H1 e Q fun v H2 e2 r => q v H2 e2 (i v H2 (e.trans e2) r)
theorem EvN.imp {R R' : Addr → Hp → Prop} (h : EvN te σ H R) (i : ∀ p H1, Ex H H1 → R p H1 → R' p H1) : EvN te σ H R' := fun H1 e Q q => h H1 e Q fun p H2 n e2 r => q p H2 n e2 (i p H2 (e.trans e2) r)
theorem ev_fld {a dx : Addr} {fs : List (Str × V)} {f : Str} (ha : Ev ta σ H (.ref a)) (ho : H a = some (.ins C dx fs)) (c : Cls K C) (n : NoAttr K C f) (l : fs.lookup f = some v) : Ev (tFld K ta f) σ H v := fun H1 e Q q =>
  ha H1 e _ fun H2 e2 => ⟨a, C, dx, fs, v, rfl, (e.trans e2) _ _ ho, c, n, l, q H2 e2⟩
theorem ev_ixL {p : Addr} {xs : List V} {i : Nat} (ha : Ev ta σ H (.ref p)) (hb : Ev tb σ H (.int (i : Int))) (h : SqL K H p xs) (hx : xs[i]? = some v) : Ev (tOp (rIxL K) ta tb) σ H v := ev_op ha hb (rv_ixL h (atI_nat hx))
theorem ev_ixT {p : Addr} {xs : List V} {i : Nat} (ha : Ev ta σ H (.ref p)) (hb : Ev tb σ H (.int (i : Int))) (h : SqT K H p xs) (hx : xs[i]? = some v) : Ev (tOp (rIxT K) ta tb) σ H v := ev_op ha hb (rv_ixT h (atI_nat hx))
/-- a def's promise -/
def spL (pre : List V → Hp → List V → Prop) : Sp := fun vs H Q _ => ∃ xs, pre vs H xs ∧ ∀ p H', H p = none → Ex H H' → H' p = some (.lst xs) → Q (.ref p) H'
def spV (pre : List V → Hp → V → Prop) : Sp := fun vs H Q _ => ∃ v, pre vs H v ∧ ∀ H', Ex H H' → Q v H'
/-- a new object of which post tells -/
def spN {α : Type} (pre : List V → Hp → α → Prop) (post : α → Addr → Hp → Prop) : Sp := fun vs H Q _ => ∃ x, pre vs H x ∧ ∀ p H', H p = none → Ex H H' → post x p H' → Q (.ref p) H'
theorem ev_meth {dx a : Addr} {fs : List (Str × V)} {m : Str} {t : TA} {vs : List V} {pre : List V → Hp → V → Prop} {E : XK} (ho : Ev ta σ H (.ref a)) (h : H a = some (.ins C dx fs)) (l : fs.lookup m = none) (ha : EvA t σ H vs)
    (hp : ∀ H1, Ex H H1 → pre (.ref a :: vs) H1 v) : Ev (tMeth C m (spV pre) [] E ta t) σ H v := fun H1 e Q q =>
  ho H1 e _ fun H2 e2 => ⟨a, dx, fs, rfl, (e.trans e2) _ _ h, l, ha H2 (e.trans e2) _ fun H3 e3 => ⟨v, by rw [List.append_nil]; exact hp H3 ((e.trans e2).trans e3), fun H4 e4 => q H4 ((e2.trans e3).trans e4)⟩⟩
theorem el_meth {dx a : Addr} {fs : List (Str × V)} {m : Str} {t : TA} {vs xs : List V} {pre : List V → Hp → List V → Prop} {E : XK} (ho : Ev ta σ H (.ref a)) (h : H a = some (.ins C dx fs)) (l : fs.lookup m = none) (ha : EvA t σ H vs)
    (hp : ∀ H1, Ex H H1 → pre (.ref a :: vs) H1 xs) : EvL (tMeth C m (spL pre) [] E ta t) σ H xs := fun H1 e Q q =>
  ho H1 e _ fun H2 e2 => ⟨a, dx, fs, rfl, (e.trans e2) _ _ h, l, ha H2 (e.trans e2) _ fun H3 e3 => ⟨xs, by rw [List.append_nil]; exact hp H3 ((e.trans e2).trans e3), fun p H4 n e4 r => q p H4 (fresh_back (e2.trans e3) n) ((e2.trans e3).trans e4) r⟩⟩
theorem en_meth {α : Type} {z : α} {dx a : Addr} {fs : List (Str × V)} {m : Str} {t : TA} {vs : List V} {pre : List V → Hp → α → Prop} {post : α → Addr → Hp → Prop} {E : XK} (ho : Ev ta σ H (.ref a)) (h : H a = some (.ins C dx fs)) (l : fs.lookup m = none) (ha : EvA t σ H vs)
    (hp : ∀ H1, Ex H H1 → pre (.ref a :: vs) H1 z) : EvN (tMeth C m (spN pre post) [] E ta t) σ H (post z) := fun H1 e Q q =>
  ho H1 e _ fun H2 e2 => ⟨a, dx, fs, rfl, (e.trans e2) _ _ h, l, ha H2 (e.trans e2) _ fun H3 e3 => ⟨z, by rw [List.append_nil]; exact hp H3 ((e.trans e2).trans e3), fun p H4 n e4 r => q p H4 (fresh_back (e2.trans e3) n) ((e2.trans e3).trans e4) r⟩⟩
theorem ev_callV {t : TA} {vs : List V} {pre : List V → Hp → V → Prop} {E : XK} (ha : EvA t σ H vs) (hp : ∀ H1, Ex H H1 → pre vs H1 v) : Ev (tCall (spV pre) [] E t) σ H v := fun H1 e Q q =>
  ha H1 e _ fun H3 e3 => ⟨v, by rw [List.append_nil]; exact hp H3 (e.trans e3), fun H4 e4 => q H4 (e3.trans e4)⟩
theorem el_callL {t : TA} {vs xs : List V} {pre : List V → Hp → List V → Prop} {E : XK} (ha : EvA t σ H vs) (hp : ∀ H1, Ex H H1 → pre vs H1 xs) : EvL (tCall (spL pre) [] E t) σ H xs := fun H1 e Q q =>
  ha H1 e _ fun H3 e3 => ⟨xs, by rw [List.append_nil]; exact hp H3 (e.trans e3), fun p H4 n e4 r => q p H4 (fresh_back e3 n) (e3.trans e4) r⟩
theorem en_callN {α : Type} {z : α} {t : TA} {vs : List V} {pre : List V → Hp → α → Prop} {post : α → Addr → Hp → Prop} {E : XK} (ha : EvA t σ H vs) (hp : ∀ H1, Ex H H1 → pre vs H1 z) : EvN (tCall (spN pre post) [] E t) σ H (post z) := fun H1 e Q q =>
  ha H1 e _ fun H3 e3 => ⟨z, by rw [List.append_nil]; exact hp H3 (e.trans e3), fun p H4 n e4 r => q p H4 (fresh_back e3 n) (e3.trans e4) r⟩
theorem ev_any {bs : List Bool} (h : EvL te σ H (bs.map V.bl)) : Ev (tCB (rAny K) (tCons te tNil)) σ H (.bl (bs.any id)) := fun H1 e Q q => h H1 e _ fun p H2 _ e2 hp => ⟨p, bs, rfl, sq_of hp, q H2 e2⟩
theorem ev_all {bs : List Bool} (h : EvL te σ H (bs.map V.bl)) : Ev (tCB (rAll K) (tCons te tNil)) σ H (.bl (bs.all id)) := fun H1 e Q q => h H1 e _ fun p H2 _ e2 hp => ⟨p, bs, rfl, sq_of hp, q H2 e2⟩
theorem ev_eqN {a b : Nat} (ha : Ev ta σ H (nV a)) (hb : Ev tb σ H (nV b)) : Ev (tOp rEq ta tb) σ H (.bl (decide (a = b))) :=
  ev_is (ev_op ha hb (rv_eq rfl)) (by
    congr 1
    by_cases h : a = b
    · subst h
      simp
    · simp [h]
      omega)
theorem ev_inN {a : Nat} {l : List Nat} {p : Addr} (ha : Ev ta σ H (nV a)) (hb : Ev tb σ H (.ref p)) (h : SqL K H p (l.map nV)) : Ev (tOp (rIn K false) ta tb) σ H (.bl (decide (a ∈ l))) :=
  ev_is (ev_op ha hb (rv_isL h rfl (by simp [flatV]))) (by
    congr 1
    unfold inV
    rw [Bool.eq_iff_iff, List.any_eq_true, decide_eq_true_iff]
    constructor
    · rintro ⟨y, hy, he⟩
      obtain ⟨n, hn, rfl⟩ := List.mem_map.mp hy
      have : n = a := by
        simp [eqV] at he
        omega
      rw [← this]
      exact hn
    · intro hm
      exact ⟨nV a, List.mem_map.mpr ⟨a, hm, rfl⟩, by simp [eqV]⟩)
end
/-! ### comprehensions -/
theorem paired_snoc {α β : Type} {F : α → β → Prop} : ∀ {l : List α} {m : List β} {a : α} {b : β}, Paired F l m → F a b → Paired F (l ++ [a]) (m ++ [b])
  | _, _, _, _, .nil, h => .cons h .nil
  | _, _, _, _, .cons r t, h => .cons r (paired_snoc t h)
theorem paired_imp {α β : Type} {F G : α → β → Prop} (i : ∀ a b, F a b → G a b) : ∀ {l : List α} {m : List β}, Paired F l m → Paired G l m
  | _, _, .nil => .nil
  | _, _, .cons r t => .cons (i _ _ r) (paired_imp i t)
theorem paired_map {α β : Type} {g : α → β} : ∀ {l : List α} {m : List β}, Paired (fun a b => b = g a) l m → m = l.map g
  | _, _, .nil => rfl
  | _, _, .cons r t => by rw [List.map_cons, ← r, ← paired_map t]
theorem paired_len {α β : Type} {F : α → β → Prop} : ∀ {l : List α} {m : List β}, Paired F l m → l.length = m.length
  | _, _, .nil => rfl
  | _, _, .cons r t => by rw [List.length_cons, List.length_cons, paired_len t]
theorem take_snoc {α : Type} {l : List α} {i : Nat} {a : α} (h : l[i]? = some a) : l.take (i + 1) = l.take i ++ [a] := by
  rw [List.take_add_one, h]
  rfl
theorem lc_core2 {α : Type} {l : List α} {p : α → Bool} {D : Addr} {RA : α → V → Hp → Prop} {J : It} {G : Hp → Prop} {Y : Nat → Hp → V → Hp → Prop} (w : Walk J l.length G Y) {g : TG} {tt : TT} {te : TE} {vs : List Nat} {σ : L2.St} {H1 : Hp} {Qd : Hp → Prop}
    (hD : H1 D = none) (hz : l.length ≤ 90000) (hG : ∀ H', Ex H1 H' → G H') (mono : ∀ a y H H', Ex H H' → RA a y H → RA a y H') (ins : ∀ a y H acc acc', H D = some (.lst acc) → RA a y H → RA a y (upd H D (.lst acc')))
    (turn : ∀ i a x H' H'', l[i]? = some a → Ex H1 H' → (∃ acc, H' D = some (.lst acc)) → Y i H' x H'' → Ex H' H'' ∧ ∃ σ2, (∀ Q : L2.St → Hp → Prop, Q σ2 H'' → g x (wipe σ vs) H'' Q) ∧ wipe σ2 vs = wipe σ vs ∧ EvT tt σ2 H'' (p a) ∧ (p a = true → EvP te σ2 H'' (RA a)))
    (hd : ∀ H' ys, Ex H1 H' → H' D = some (.lst ys) → Paired (fun a y => RA a y H') (l.filter p) ys → Qd H') :
    ∃ W : Nat → Nat → Hp → Prop, (∃ m, W 0 m (upd H1 D (.lst []))) ∧ ∀ i m H, W i m H →
      (J.stop i H ∧ Qd H) ∨ (J.go i H ∧ ∃ Nx : Hp → Prop, (∀ H', Nx H' → ∃ m', m' < m ∧ W (i + 1) m' H') ∧ ∀ x H', J.yld i H x H' → g x (wipe σ vs) H' fun σ2 H2 => wipe σ2 vs = wipe σ vs ∧ tt σ2 H2 fun b H3 =>
        if b = true then te σ2 H3 fun y H4 => ∃ acc, H4 D = some (.lst acc) ∧ acc.length < sizeLine ∧ Nx (upd H4 D (.lst (acc ++ [y]))) else Nx H3) := by
  refine lc_it w (fun i H => Ex H1 H ∧ ∃ ys, H D = some (.lst ys) ∧ Paired (fun a y => RA a y H) ((l.take i).filter p) ys) ⟨Ex.new hD, [], upd_same, .nil⟩ (fun i H _ q => hG H q.1) (fun i x H H' hi q y => ?_) (fun H q => ?_)
  · obtain ⟨e1, ys, hy, pr⟩ := q
    have ha : l[i]? = some l[i] := List.getElem?_eq_getElem hi
    obtain ⟨e2, σ2, hg, hw, ht, he⟩ := turn i l[i] x H H' ha e1 ⟨ys, hy⟩ y
    refine hg _ ⟨hw, ht H' (Ex.refl H') _ fun H3 e3 => ?_⟩
    have lz : ys.length < sizeLine := by
      have h1 := paired_len pr
      have h2 := List.length_filter_le p (l.take i)
      rw [List.length_take] at h2
      exact sz_lt (by omega)
    cases hb : p l[i] with
    | true =>
      rw [if_pos rfl]
      refine he hb H3 e3 _ fun v H4 e4 r => ?_
      have h4 : H4 D = some (.lst ys) := e4 _ _ (e3 _ _ (e2 _ _ hy))
      refine ⟨ys, h4, lz, ?_, ys ++ [v], upd_same, ?_⟩
      · exact Ex.mut (((e1.trans e2).trans e3).trans e4) hD
      · rw [take_snoc ha, List.filter_append, List.filter_cons, if_pos hb, List.filter_nil]
        exact paired_snoc (paired_imp (fun a b q => ins _ _ _ _ _ h4 (mono _ _ _ _ ((e2.trans e3).trans e4) q)) pr) (ins _ _ _ _ _ h4 r)
    | false =>
      rw [if_neg (by decide)]
      refine ⟨(e1.trans e2).trans e3, ys, e3 _ _ (e2 _ _ hy), ?_⟩
      rw [take_snoc ha, List.filter_append, List.filter_cons, if_neg (by rw [hb]; decide), List.filter_nil, List.append_nil]
      exact paired_imp (fun a b q => mono _ _ _ _ (e2.trans e3) q) pr
  · obtain ⟨e1, ys, hy, pr⟩ := q
    rw [List.take_length] at pr
    exact hd H ys e1 hy pr
section
variable {α : Type} {l : List α} {K : PySem.W.Frag} {σ : L2.St} {H H' : Hp} {te tl : TE} {tt : TT} {vs : List Nat} {g : TG}
/-- what a turn's target and block do with the item that a stands for -/
structure Turns (σ : L2.St) (vs : List Nat) (g : TG) (tt : TT) (te : TE) (H : Hp) (p : α → Bool) (RA : α → V → Hp → Prop) (a : α) (x : V) : Prop where
  ex : ∃ σ2, (∀ H' Q, Ex H H' → Q σ2 H' → g x (wipe σ vs) H' Q) ∧ wipe σ2 vs = wipe σ vs ∧ EvT tt σ2 H (p a) ∧ (p a = true → EvP te σ2 H (RA a))
theorem Turns.name {j : Nat} {p : α → Bool} {RA : α → V → Hp → Prop} {a : α} {x : V} (hw : wipe ((wipe σ vs).set j (some x)) vs = wipe σ vs) (ht : EvT tt ((wipe σ vs).set j (some x)) H (p a)) (he : p a = true → EvP te ((wipe σ vs).set j (some x)) H (RA a)) :
    Turns σ vs (gName j) tt te H p RA a x := ⟨⟨_, fun H' Q _ q => q, hw, ht, he⟩⟩
theorem Turns.pair {j k : Nat} {p : α → Bool} {RA : α → V → Hp → Prop} {a : α} {t : Addr} {x y : V} (h : SqT K H t [x, y]) (hw : wipe (((wipe σ vs).set j (some x)).set k (some y)) vs = wipe σ vs) (ht : EvT tt (((wipe σ vs).set j (some x)).set k (some y)) H (p a))
    (he : p a = true → EvP te (((wipe σ vs).set j (some x)).set k (some y)) H (RA a)) : Turns σ vs (gTup K 2 (gCons (gName j) (gCons (gName k) gNil))) tt te H p RA a (.ref t) :=
  ⟨⟨_, fun H' Q e q => ⟨t, [x, y], rfl, ex_t e h, rfl, x, [y], rfl, y, [], rfl, rfl, q⟩, hw, ht, he⟩⟩
theorem Turns.triple {i j k : Nat} {p : α → Bool} {RA : α → V → Hp → Prop} {a : α} {t : Addr} {x y z : V} (h : SqT K H t [x, y, z]) (hw : wipe ((((wipe σ vs).set i (some x)).set j (some y)).set k (some z)) vs = wipe σ vs)
    (ht : EvT tt ((((wipe σ vs).set i (some x)).set j (some y)).set k (some z)) H (p a)) (he : p a = true → EvP te ((((wipe σ vs).set i (some x)).set j (some y)).set k (some z)) H (RA a)) :
    Turns σ vs (gTup K 3 (gCons (gName i) (gCons (gName j) (gCons (gName k) gNil)))) tt te H p RA a (.ref t) :=
  ⟨⟨_, fun H' Q e q => ⟨t, [x, y, z], rfl, ex_t e h, rfl, x, [y, z], rfl, y, [z], rfl, z, [], rfl, rfl, q⟩, hw, ht, he⟩⟩
theorem Turns.mono {p : α → Bool} {RA : α → V → Hp → Prop} {a : α} {x : V} (e : Ex H H') (h : Turns σ vs g tt te H p RA a x) : Turns σ vs g tt te H' p RA a x := by
  obtain ⟨σ2, h1, h2, h3, h4⟩ := h.ex
  exact ⟨⟨σ2, fun H1 Q e1 q => h1 H1 Q (e.trans e1) q, h2, h3.mono e, fun q => (h4 q).mono e⟩⟩
/-- the relation of an item with its value: it stays when the heap grows, and when the new list grows -/
structure Stays (RA : α → V → Hp → Prop) : Prop where
  mono : ∀ a y H H', Ex H H' → RA a y H → RA a y H'
  ins : ∀ a y H D acc acc', H D = some (.lst acc) → RA a y H → RA a y (upd H D (.lst acc'))
theorem Stays.val {f : α → V} : Stays (fun a y _ => y = f a) := ⟨fun _ _ _ _ _ h => h, fun _ _ _ _ _ _ _ h => h⟩
theorem Stays.tup {f : α → List V} : Stays (fun a y H => ∃ t, y = .ref t ∧ H t = some (.tup (f a))) :=
  ⟨fun a y H H' e ⟨t, h1, h2⟩ => ⟨t, h1, e _ _ h2⟩, fun a y H D acc acc' hD ⟨t, h1, h2⟩ => ⟨t, h1, by rw [upd_ne (ne_of h2 hD (by intro z; cases z))]; exact h2⟩⟩
/-- a list that stands -/
theorem en_lcL {xs : List V} {a0 : Addr} {p : α → Bool} {RA : α → V → Hp → Prop} (S : Stays RA) (h : Ev tl σ H (.ref a0)) (hx : SqL K H a0 xs) (hl : xs.length = l.length) (hz : l.length ≤ 90000)
    (turn : ∀ (i : Nat) (a : α) (x : V), l[i]? = some a → xs[i]? = some x → Turns σ vs g tt te H p RA a x) : EvN (tLc (iList K tl) g tt te vs) σ H (fun D H' => ∃ ys, H' D = some (.lst ys) ∧ Paired (fun a y => RA a y H') (l.filter p) ys) := fun H0 e Q q => h H0 e _ fun H1 e1 =>
  ⟨a0, rfl, ⟨xs, ex_l (e.trans e1) hx⟩, fun D hD => lc_core2 (l := l) (p := p) (RA := RA) (by rw [← hl]; exact walk_list) hD hz (fun H' e' => ex_l ((e.trans e1).trans e') hx) S.mono (fun a y H acc acc' => S.ins a y H D acc acc')
    (fun i a x H' H'' ha e' _ y => by
      obtain ⟨rfl, hxi⟩ := y
      obtain ⟨σ2, h1, h2, h3, h4⟩ := (turn i a x ha hxi).ex
      exact ⟨Ex.refl _, σ2, fun Q q => h1 _ Q ((e.trans e1).trans e') q, h2, h3.mono ((e.trans e1).trans e'), fun z => (h4 z).mono ((e.trans e1).trans e')⟩)
    fun H' ys e' hy pr => q D H' (fresh_back e1 hD) (e1.trans e') ⟨ys, hy, pr⟩⟩
/-- a new list -/
theorem en_lcN {P : List V → Hp → Prop} {p : α → Bool} {RA : α → V → Hp → Prop} (S : Stays RA) (h : EvN tl σ H (fun q H' => ∃ xs, H' q = some (.lst xs) ∧ P xs H')) (hz : l.length ≤ 90000) (hl : ∀ xs H1, Ex H H1 → P xs H1 → xs.length = l.length)
    (turn : ∀ (xs : List V) (H1 : Hp) (i : Nat) (a : α) (x : V), Ex H H1 → P xs H1 → l[i]? = some a → xs[i]? = some x → Turns σ vs g tt te H1 p RA a x) : EvN (tLc (iList K tl) g tt te vs) σ H (fun D H' => ∃ ys, H' D = some (.lst ys) ∧ Paired (fun a y => RA a y H') (l.filter p) ys) := fun H0 e Q q => h H0 e _ fun a0 H1 n0 e1 ⟨xs, hx, hp⟩ =>
  ⟨a0, rfl, ⟨xs, sq_of hx⟩, fun D hD => lc_core2 (l := l) (p := p) (RA := RA) (G := fun H => SqL K H a0 xs) (Y := YAt xs) (by rw [← hl xs H1 (e.trans e1) hp]; exact walk_list) hD hz (fun H' e' => sq_of (e' _ _ hx)) S.mono (fun a y H acc acc' => S.ins a y H D acc acc')
    (fun i a x H' H'' ha e' _ y => by
      obtain ⟨rfl, hxi⟩ := y
      obtain ⟨σ2, h1, h2, h3, h4⟩ := (turn xs H1 i a x (e.trans e1) hp ha hxi).ex
      exact ⟨Ex.refl _, σ2, fun Q q => h1 _ Q e' q, h2, h3.mono e', fun z => (h4 z).mono e'⟩)
    fun H' ys e' hy pr => q D H' (fresh_back e1 hD) (e1.trans e') ⟨ys, hy, pr⟩⟩
/-- range(n) -/
theorem en_lcR {ta : TA} {n : Int} {p : Nat → Bool} {RA : Nat → V → Hp → Prop} (S : Stays RA) (h : EvA ta σ H [.int n]) (hn : n ≤ 90000) (hn2 : -90000 ≤ n) (turn : ∀ i : Nat, i < n.toNat → Turns σ vs g tt te H p RA i (.int (i : Int))) :
    EvN (tLc (iRng1 ta) g tt te vs) σ H (fun D H' => ∃ ys, H' D = some (.lst ys) ∧ Paired (fun a y => RA a y H') ((List.range n.toNat).filter p) ys) := fun H0 e Q q => h H0 e _ fun H1 e1 =>
  ⟨n, rfl, by omega, by omega, fun D hD => lc_core2 (l := List.range n.toNat) (p := p) (RA := RA) (by rw [List.length_range]; exact walk_range) hD (by rw [List.length_range]; omega) (fun _ _ => trivial) S.mono (fun a y H acc acc' => S.ins a y H D acc acc')
    (fun i a x H' H'' ha e' _ y => by
      obtain ⟨rfl, rfl⟩ := y
      obtain ⟨hi, rfl⟩ := List.getElem?_eq_some_iff.mp ha
      rw [List.length_range] at hi
      rw [List.getElem_range]
      obtain ⟨σ2, h1, h2, h3, h4⟩ := (turn i hi).ex
      refine ⟨Ex.refl _, σ2, fun Q q => ?_, h2, h3.mono ((e.trans e1).trans e'), fun z => (h4 z).mono ((e.trans e1).trans e')⟩
      show g (.int ((0 : Int) + (i : Int))) (wipe σ vs) H'' Q
      rw [Int.zero_add]
      exact h1 _ Q ((e.trans e1).trans e') q)
    fun H' ys e' hy pr => q D H' (fresh_back e1 hD) (e1.trans e') ⟨ys, hy, pr⟩⟩
/-- enumerate(a list that stands) -/
theorem en_lcE {te' : TE} {xs : List V} {a0 : Addr} {p : Nat → Bool} {RA : Nat → V → Hp → Prop} (S : Stays RA) (h : Ev te' σ H (.ref a0)) (hx : SqL K H a0 xs) (hz : xs.length ≤ 90000)
    (turn : ∀ (i : Nat) (x : V) (T : Addr) (H1 : Hp), xs[i]? = some x → Ex H H1 → H1 T = some (.tup [.int (i : Int), x]) → Turns σ vs g tt te H1 p RA i (.ref T)) :
    EvN (tLc (iEnum K (tCons te' tNil)) g tt te vs) σ H (fun D H' => ∃ ys, H' D = some (.lst ys) ∧ Paired (fun a y => RA a y H') ((List.range xs.length).filter p) ys) := fun H0 e Q q => h H0 e _ fun H1 e1 =>
  ⟨a0, xs, rfl, ex_l (e.trans e1) hx, fun D hD => lc_core2 (l := List.range xs.length) (p := p) (RA := RA) (by rw [List.length_range]; exact walk_enum) hD (by rw [List.length_range]; exact hz) (fun H' e' => ex_l ((e.trans e1).trans e') hx) S.mono (fun a y H acc acc' => S.ins a y H D acc acc')
    (fun i a x H' H'' ha e' _ y => by
      obtain ⟨T, v, z, rfl, hT, rfl, hv, hzi⟩ := y
      cases hv
      obtain ⟨hi, rfl⟩ := List.getElem?_eq_some_iff.mp ha
      rw [List.getElem_range]
      have e2 : Ex H' (upd H' T (.tup [.int (i : Int), z])) := Ex.new hT
      obtain ⟨σ2, h1, h2, h3, h4⟩ := (turn i z T _ hzi (((e.trans e1).trans e').trans e2) upd_same).ex
      exact ⟨e2, σ2, fun Q q => h1 _ Q (Ex.refl _) q, h2, h3, h4⟩)
    fun H' ys e' hy pr => q D H' (fresh_back e1 hD) (e1.trans e') ⟨ys, hy, pr⟩⟩
/-- values: the new list is told -/
theorem el_of {p : α → Bool} {f : α → V} {t : TE} (h : EvN t σ H (fun D H' => ∃ ys, H' D = some (.lst ys) ∧ Paired (fun a y => y = f a) (l.filter p) ys)) : EvL t σ H ((l.filter p).map f) := fun H0 e Q q => h H0 e Q fun D H1 n e1 ⟨ys, hy, pr⟩ => q D H1 n e1 (by rw [← paired_map pr]; exact hy)
end
theorem el_is {te : TE} {σ : L2.St} {H : Hp} {xs ys : List V} (h : EvL te σ H xs) (e : xs = ys) : EvL te σ H ys := by
  rw [← e]
  exact h
theorem et_yes {σ : L2.St} {H : Hp} : EvT tYes σ H true := fun H1 _ _ q => q H1 (Ex.refl H1)
theorem filter_yes {α : Type} (l : List α) : (l.filter fun _ => true) = l := List.filter_eq_self.mpr fun _ _ => rfl
end St

end

section

set_option Elab.async false
set_option linter.all false
set_option maxRecDepth 100000
set_option maxHeartbeats 4000000
namespace St
open PySem PySem.Spec PyProof.Rows L2 Evl
/-! ### no two lines hash alike -/
inductive Tr where
  | leaf
  | node (l : Tr) (k : Nat) (r : Tr)
def insT : Tr → Nat → Option Tr
  | .leaf, x => some (.node .leaf x .leaf)
  | .node l k r, x => match Nat.blt x k with
    | true => (match insT l x with
      | some l' => some (.node l' k r)
      | none => none)
    | false => (match Nat.blt k x with
      | true => (match insT r x with
        | some r' => some (.node l k r')
        | none => none)
      | false => none)
def buildT : List Nat → Tr → Option Tr
  | [], t => some t
  | x :: l, t => match insT t x with
    | some t' => buildT l t'
    | none => none
def Tr.mem : Tr → Nat → Prop
  | .leaf, _ => False
  | .node l k r, y => l.mem y ∨ y = k ∨ r.mem y
def Tr.ord : Tr → Prop
  | .leaf => True
  | .node l k r => l.ord ∧ r.ord ∧ (∀ y, l.mem y → y < k) ∧ ∀ y, r.mem y → k < y
theorem blt_iff {a b : Nat} : Nat.blt a b = true ↔ a < b := by
  unfold Nat.blt
  rw [Nat.ble_eq]
  exact Nat.succ_le_iff
theorem insT_ok : ∀ {t t' : Tr} {x : Nat}, t.ord → insT t x = some t' → t'.ord ∧ ¬ t.mem x ∧ ∀ y, t'.mem y ↔ t.mem y ∨ y = x
  | .leaf, t', x, _, h => by
    cases h
    exact ⟨⟨trivial, trivial, fun _ z => z.elim, fun _ z => z.elim⟩, fun z => z, fun y => ⟨fun z => z.elim (fun q => q.elim) (fun q => q.elim Or.inr fun q => q.elim), fun z => z.elim (fun q => q.elim) fun q => Or.inr (Or.inl q)⟩⟩
  | .node l k r, t', x, ho, h => by
    obtain ⟨ol, orr, hl, hr⟩ := ho
    unfold insT at h
    cases c1 : Nat.blt x k with
    | true =>
      have lt := blt_iff.mp c1
      rw [c1] at h
      cases e : insT l x with
      | none => rw [e] at h; cases h
      | some l' =>
        rw [e] at h
        cases h
        obtain ⟨h1, h2, h3⟩ := insT_ok ol e
        refine ⟨⟨h1, orr, fun y hy => ?_, hr⟩, fun z => ?_, fun y => ?_⟩
        · rcases (h3 y).mp hy with q | q
          · exact hl y q
          · rw [q]; exact lt
        · rcases z with q | q | q
          · exact h2 q
          · omega
          · have := hr x q
            omega
        · show l'.mem y ∨ y = k ∨ r.mem y ↔ (l.mem y ∨ y = k ∨ r.mem y) ∨ y = x
          rw [h3 y]
          constructor
          · rintro ((q | q) | q | q)
            · exact .inl (.inl q)
            · exact .inr q
            · exact .inl (.inr (.inl q))
            · exact .inl (.inr (.inr q))
          · rintro ((q | q | q) | q)
            · exact .inl (.inl q)
            · exact .inr (.inl q)
            · exact .inr (.inr q)
            · exact .inl (.inr q)
    | false =>
      rw [c1] at h
      cases c2 : Nat.blt k x with
      | false => rw [c2] at h; cases h
      | true =>
        have lt := blt_iff.mp c2
        rw [c2] at h
        cases e : insT r x with
        | none => rw [e] at h; cases h
        | some r' =>
          rw [e] at h
          cases h
          obtain ⟨h1, h2, h3⟩ := insT_ok orr e
          refine ⟨⟨ol, h1, hl, fun y hy => ?_⟩, fun z => ?_, fun y => ?_⟩
          · rcases (h3 y).mp hy with q | q
            · exact hr y q
            · rw [q]; exact lt
          · rcases z with q | q | q
            · have := hl x q
              omega
            · omega
            · exact h2 q
          · show l.mem y ∨ y = k ∨ r'.mem y ↔ (l.mem y ∨ y = k ∨ r.mem y) ∨ y = x
            rw [h3 y]
            constructor
            · rintro (q | q | q | q)
              · exact .inl (.inl q)
              · exact .inl (.inr (.inl q))
              · exact .inl (.inr (.inr q))
              · exact .inr q
            · rintro ((q | q | q) | q)
              · exact .inl q
              · exact .inr (.inl q)
              · exact .inr (.inr (.inl q))
              · exact .inr (.inr (.inr q))
theorem buildT_ok : ∀ {l : List Nat} {t t' : Tr}, t.ord → buildT l t = some t' → l.Nodup ∧ ∀ y ∈ l, ¬ t.mem y
  | [], _, _, _, _ => ⟨List.nodup_nil, by simp⟩
  | x :: l, t, t', ho, h => by
    unfold buildT at h
    cases e : insT t x with
    | none => rw [e] at h; cases h
    | some t1 =>
      rw [e] at h
      obtain ⟨h1, h2, h3⟩ := insT_ok ho e
      obtain ⟨n, m⟩ := buildT_ok h1 h
      refine ⟨List.nodup_cons.mpr ⟨fun hm => m x hm ((h3 x).mpr (.inr rfl)), n⟩, fun y hy => ?_⟩
      rcases List.mem_cons.mp hy with q | q
      · rw [q]; exact h2
      · exact fun z => m y q ((h3 y).mpr (.inl z))
def lineHash (a b : Nat) : Int := reduceHash (Builtin.Tuple.tupleHashOf [hashInt (a : Int), hashInt (b : Int)])
def allHashes : List Nat := (List.range 80).flatMap fun a => (List.range 80).map fun b => (lineHash a b + 9223372036854775808).toNat
theorem hashes_apart : (buildT allHashes .leaf).isSome = true := by decide +kernel
theorem inj_of_nodup {α β : Type} {f : α → β} : ∀ {l : List α}, (l.map f).Nodup → ∀ x ∈ l, ∀ y ∈ l, f x = f y → x = y
  | [], _, x, hx, _, _, _ => by cases hx
  | a :: l, h, x, hx, y, hy, e => by
    rw [List.map_cons, List.nodup_cons] at h
    rcases List.mem_cons.mp hx with q | q <;> rcases List.mem_cons.mp hy with q' | q'
    · rw [q, q']
    · exact absurd (List.mem_map.mpr ⟨y, q', by rw [← e, q]⟩) h.1
    · exact absurd (List.mem_map.mpr ⟨x, q, by rw [e, q']⟩) h.1
    · exact inj_of_nodup h.2 x q y q' e
theorem lineHash_inj {a b c d : Nat} (ha : a < 80) (hb : b < 80) (hc : c < 80) (hd : d < 80) (h : lineHash a b = lineHash c d) : (a, b) = (c, d) := by
  have n : allHashes.Nodup := by
    cases e : buildT allHashes .leaf with
    | none =>
      have := hashes_apart
      rw [e] at this
      cases this
    | some t => exact (buildT_ok (t := .leaf) trivial e).1
  have e : allHashes = ((List.range 80).flatMap fun a => (List.range 80).map fun b => (a, b)).map fun p => (lineHash p.1 p.2 + 9223372036854775808).toNat := by
    unfold allHashes
    rw [List.map_flatMap]
    congr 1
  rw [e] at n
  have mem : ∀ x y : Nat, x < 80 → y < 80 → (x, y) ∈ (List.range 80).flatMap fun a => (List.range 80).map fun b => (a, b) := fun x y hx hy =>
    List.mem_flatMap.mpr ⟨x, List.mem_range.mpr hx, List.mem_map.mpr ⟨y, List.mem_range.mpr hy, rfl⟩⟩
  exact inj_of_nodup n _ (mem a b ha hb) _ (mem c d hc hd) (by show (lineHash a b + _).toNat = (lineHash c d + _).toNat; rw [h])
end St

end

section

set_option Elab.async false
set_option linter.all false
set_option maxRecDepth 100000
set_option maxHeartbeats 4000000
namespace St
open PySem PySem.Spec PyProof.Rows L2 Evl
/-! ### dicts of lines -/
/-- a line as a key -/
abbrev kk (p : Nat × Nat) : List Key := [.inl (p.1 : Int), .inl (p.2 : Int)]
theorem kk_inj {p q : Nat × Nat} (h : kk p = kk q) : p = q := by
  injection h with h1 h2
  injection h2 with h3 _
  have e1 : (p.1 : Int) = q.1 := Sum.inl.inj h1
  have e2 : (p.2 : Int) = q.2 := Sum.inl.inj h3
  exact Prod.ext (by omega) (by omega)
/-- {line: True} -/
def dTk (l : List (Nat × Nat)) : List (List Key × V) := l.map fun p => (kk p, .bl true)
theorem dTk_val (l : List (Nat × Nat)) (p : Nat × Nat) : valV (dTk l) (kk p) = if p ∈ l then some (.bl true) else none := by
  induction l with
  | nil => rfl
  | cons q r ih =>
    unfold dTk
    rw [List.map_cons]
    by_cases h : q = p
    · subst h
      rw [valV_pos rfl, if_pos (List.mem_cons_self ..)]
    · rw [valV_neg (fun z => h (kk_inj z))]
      have : (p ∈ q :: r) ↔ p ∈ r := by
        rw [List.mem_cons]
        exact ⟨fun z => z.elim (fun z => absurd z.symm h) id, Or.inr⟩
      simp only [this]
      exact ih
theorem dTk_isSome (l : List (Nat × Nat)) (p : Nat × Nat) : (valV (dTk l) (kk p)).isSome = decide (p ∈ l) := by
  rw [dTk_val]
  by_cases h : p ∈ l <;> simp [h]
theorem dTk_put (l : List (Nat × Nat)) (p : Nat × Nat) : putK (dTk l) (kk p) (.bl true) = dTk (dput l p) := by
  unfold putK dput
  rw [valV_any, dTk_isSome]
  by_cases h : p ∈ l
  · rw [if_pos (by simpa using h), if_pos h]
    unfold dTk
    rw [List.map_map]
    refine List.map_congr_left fun q _ => ?_
    show (if kk q = kk p then (kk q, V.bl true) else (kk q, V.bl true)) = _
    split <;> rfl
  · rw [if_neg (by simpa using h), if_neg h]
    unfold dTk
    rw [List.map_append]
    rfl
theorem dTk_merge : ∀ (m l : List (Nat × Nat)), (dTk m).foldl (fun acc kv => putK acc kv.1 kv.2) (dTk l) = dTk (m.foldl dput l)
  | [], l => rfl
  | p :: m, l => by
    show (dTk m).foldl (fun acc kv => putK acc kv.1 kv.2) (putK (dTk l) (kk p) (.bl true)) = _
    rw [dTk_put, dTk_merge m]
    rfl
theorem dTk_len (l : List (Nat × Nat)) : (dTk l).length = l.length := List.length_map ..
/-- lines between entries -/
def Small (l : List (Nat × Nat)) : Prop := ∀ p ∈ l, p.1 < 80 ∧ p.2 < 80
theorem KT.keys {H : Hp} : ∀ {l : List (List Key × V)} {xs : List (List Key × Addr × Value)}, KT H l xs → xs.map (·.1) = l.map (·.1)
  | _, _, .nil => rfl
  | _, _, .cons h t => by rw [List.map_cons, List.map_cons, ← h.1, KT.keys t]
theorem kk_hash0 (P : Program) (w : World) (p : Nat × Nat) : (kk p).map (mixKind P w).hash = [hashInt (p.1 : Int), hashInt (p.2 : Int)] := rfl
theorem kk_hash (P : Program) (w : World) (p : Nat × Nat) : (tupleKind (mixKind P w)).hash (kk p) = lineHash p.1 p.2 := by
  have e : (tupleKind (mixKind P w)).hash (kk p) = reduceHash (Builtin.Tuple.tupleHashOf ((kk p).map (mixKind P w).hash)) := rfl
  rw [e, kk_hash0]
  unfold lineHash
  exact rfl
theorem map_two {α β γ δ : Type} {f : α → β} {g : γ → α} {h : γ → β} {k : δ → α} (e : ∀ x, f (g x) = h x) {l : List γ} {xs : List δ} (q : xs.map k = l.map g) : (xs.map fun x => f (k x)) = l.map h := by
  have e1 : (xs.map fun x => f (k x)) = (xs.map k).map f := by rw [List.map_map]; rfl
  rw [e1, q, List.map_map]
  exact List.map_congr_left fun x _ => e x
theorem nodup_two {α β : Type} {h : α → β} {l : List α} (hn : l.Nodup) (i : ∀ p ∈ l, ∀ q ∈ l, h p = h q → p = q) : (l.map h).Nodup :=
  List.pairwise_map.mpr (List.Pairwise.imp_of_mem (fun {p q} hp hq hne he => hne (i p hp q hq he)) hn)
theorem keys_hash (P : Program) (w : World) {xs : List (List Key × Addr × Value)} {l : List (Nat × Nat)} (h : xs.map (·.1) = (dTk l).map (·.1)) (hn : l.Nodup) (hs : Small l) : (xs.map fun x => (tupleKind (mixKind P w)).hash x.1).Nodup := by
  have e2 : (dTk l).map (·.1) = l.map kk := by unfold dTk; rw [List.map_map]; rfl
  rw [e2] at h
  rw [map_two (kk_hash P w) h]
  exact nodup_two hn fun p hp q hq he => lineHash_inj (hs p hp).1 (hs p hp).2 (hs q hq).1 (hs q hq).2 he
section
variable {P : Program} {w : World} {H : Hp} {h : Heap}
theorem KT.isTup {l : List (List Key × V)} {xs : List (List Key × Addr × Value)} (hok : HOk P w H h) : KT H l xs → ∀ x ∈ xs, ∃ o, h.get? x.2.1 = some o ∧ o.cls = .type "tuple" := by
  intro r
  induction r with
  | nil => intro x hx; cases hx
  | @cons p q ps qs hq t ih =>
    intro x hx
    rcases List.mem_cons.mp hx with e | hx
    · subst e
      obtain ⟨_, its, _, o, ho, hc, _⟩ := hok _ _ hq.2.1
      exact ⟨o, ho, hc⟩
    · exact ih x hx
theorem KT.merge {l : List (List Key × V)} {xs : List (List Key × Addr × Value)} (t : KT H l xs) : ∀ {acc : List (List Key × V)} {ys : List (List Key × Addr × Value)}, KT H acc ys → KT H (l.foldl (fun acc kv => putK acc kv.1 kv.2) acc) (storedAllH ys xs) := by
  induction t with
  | nil => exact fun r => r
  | @cons p q ps qs hq t ih =>
    intro acc ys r
    have z := r.put p.1 (b := q.2.1) (y := p.2) (u := q.2.2) hq.2.1 hq.2.2
    have y := ih z
    rw [hq.1] at y
    show KT H (ps.foldl _ (putK acc p.1 p.2)) (storedAllH (storedH ys q.1 q.2.1 q.2.2) qs)
    rw [hq.1]
    exact y
end
end St

end

section

set_option Elab.async false
set_option linter.all false
set_option maxRecDepth 100000
set_option maxHeartbeats 4000000
namespace St
open PySem PySem.Spec PyProof.Rows L2 Evl
theorem hD_of {A : Around} {k : Nat} (hr : Room k A) : A.units + 65 < cLine := by
  have := hr.un
  omega
/-! ### dict(lines), told.update(lines) -/
def rDictT : List V → Hp → VK → Prop := fun vs H Q => ∃ (a : Addr) (l : List (Nat × Nat)), vs = [.ref a] ∧ H a = some (.dT (dTk l)) ∧ l.Nodup ∧ Small l ∧ ∀ p, H p = none → Q (.ref p) (upd H p (.dT (dTk l)))
section
variable {X : Cx}
theorem put_fresh : ∀ (l acc : List (Nat × Nat)), (acc ++ l).Nodup → l.foldl dput acc = acc ++ l
  | [], acc, _ => by simp
  | p :: l, acc, h => by
    have hp : p ∉ acc := fun z => (List.nodup_append.mp h).2.2 p z p (List.mem_cons_self ..) rfl
    show l.foldl dput (dput acc p) = _
    have e : dput acc p = acc ++ [p] := by
      unfold dput
      rw [if_neg hp]
    rw [e, put_fresh l (acc ++ [p]) (by simpa using h)]
    simp
theorem cr_dictT (hu : X.A.units + 65 < cLine) : CallR X (.type "dict") rDictT := by
  intro pins s σ H vs us Q I r h
  obtain ⟨a, l, rfl, ha, nd, sm, q⟩ := h
  obtain ⟨u, rfl, ru⟩ := vals1 r
  obtain rfl : u = Value.ref a := ru
  obtain ⟨z, lo, xs, rel, dd⟩ := dt_of I.hok ha
  refine callType_codes (Q₁ := fun obj s₁ => obj = .ref s.heap.objs.size ∧ s₁ = { s with heap := s.heap.push { cls := .type "dict", data := .dict #[] } }) F.kt_called_dict (F.kt_typeCall_dict_1 _) F.entry_dict_init (kt_code_dict_new _ ⟨rfl, rfl⟩) ?_
  rintro obj s₁ ⟨rfl, rfl⟩
  have hn := I.hok.fresh (a := s.heap.objs.size) (Nat.le_refl _)
  have lo2 : (s.heap.objs.size == sysModules) = false := beq_eq_false_iff_ne.mpr (Ne.symm (Nat.ne_of_lt I.big))
  have I1 : Inv X pins σ (upd H s.heap.objs.size (.dT [])) { s with heap := s.heap.push { cls := .type "dict", data := .dict #[] }, toks := s.toks } :=
    I.laid (fun b ob e => Heap.get?_push_of_some _ e) (Nat.le_refl _) (dt_empty _ I.big)
  have ha1 : (upd H s.heap.objs.size (.dT [])) a = some (.dT (dTk l)) := by rw [upd_ne (ne_of_none ha hn)]; exact ha
  obtain ⟨_, _, xs, rel, dd⟩ := dt_of I1.hok ha1
  have hl : xs.length = l.length := by rw [← Paired.length rel, dTk_len]
  have hz : l.length ≤ sizeLine := by rw [dTk_len] at z; exact z
  have hne : s.heap.objs.size ≠ a := fun e => ne_of_none ha hn e.symm
  refine ⟨Heap.DictOfH.typeIs (Heap.DictOfH.new (knd := tupleKind (mixKind X.prog X.w)) s.heap), F.args_dict_init_2 _ _, ?_⟩
  unfold Builtin.«dict.__init__»
  refine wpAny_bind ?_
  unfold Builtin.Dict.selfAndRest
  refine wpAny_bind (wpAny_notOrdered_dict (Heap.DictOfH.typeIs (Heap.DictOfH.new (knd := tupleKind (mixKind X.prog X.w)) s.heap)) ?_)
  refine wpAny_pure ?_
  refine updateFrom_dictH (A := X.A.in1) .none (tupleKind_room_in1 (by show X.A.units + 1 + 1 < cLine; omega)) hne lo (Heap.DictOfH.new s.heap) dd (.inr ⟨fun x hx => ?_, keys_hash X.prog X.w (KT.keys rel) nd sm⟩) (by rw [hl]; simpa using hz) fun h' hd' _ hs' => ?_
  · obtain ⟨ob, e1, e2⟩ := KT.isTup I1.hok rel x hx
    exact ⟨ob, e1, e2⟩
  · have m := KT.merge rel (acc := []) (ys := []) .nil
    rw [show (List.foldl (fun acc kv => putK acc kv.1 kv.2) [] (dTk l)) = dTk l from (dTk_merge l []).trans (by rw [put_fresh l [] (by simpa using nd), List.nil_append])] at m
    obtain ⟨qo, es2, ep2, hq, h2, h3, h4, _, h5⟩ := hd'
    refine ⟨rfl, ?_⟩
    have I2 : Inv X pins σ (upd (upd H s.heap.objs.size (.dT [])) s.heap.objs.size (.dT (dTk l))) { s with heap := h', toks := s.toks } := by
      refine I1.write (x := s.heap.objs.size) (e := s.heap.objs.size) (by rw [upd_same]; trivial) (.inl rfl) (fun b u hb e => (hs'.2 b hb).trans e) ⟨qo, hq⟩ ⟨by rw [dTk_len]; exact hz, lo2, _, m.keeps fun b ys e => ?_, qo, es2, ep2, hq, h2, h3, h4, h5⟩
      rw [upd_ne (fun e2 => by rw [e2, upd_same] at e; cases e)]
      exact e
    rw [upd_upd] at I2
    exact ⟨.ref s.heap.objs.size, _, I2, rfl, q _ hn⟩
theorem wdict {p pos : Pos} {e : Expr} {te : TE} (hu : X.A.units + 65 < cLine) (hg : Gl X "dict") (hm : X.mg "dict" = none) (ha : PE X e te) (hs : starEach [e] X.env = (false, eval e X.env) :: starEach [] X.env := by rfl) (hpl : (backTo pos (starEach [] X.env)).any (·.1) = false := by rfl) :
    PE X (.Call (.Name "dict" p) [e] [] pos) (tCB rDictT (tCons te tNil)) := pe_callTy (cr_dictT hu) hg hm (by decide +kernel) (pa_cons ha pa_nil hs) (by decide) (by decide) hs hpl
/-- told.update(lines) -/
def tDUpd (td ty : TE) : TE := fun σ H Q => td σ H fun x H1 => ∃ a, x = .ref a ∧ IsD H1 a ∧ ty σ H1 fun y H2 => ∃ (l m : List (Nat × Nat)) (b : Addr), y = .ref b ∧ H2 a = some (.dT (dTk l)) ∧ H2 b = some (.dT (dTk m)) ∧ a ≠ b ∧ m.Nodup ∧ Small m ∧ l.length + m.length ≤ sizeLine ∧
  Q .non (upd H2 a (.dT (dTk (m.foldl dput l))))
theorem wupd {o e : Expr} {td ty : TE} {apos cpos : Pos} (hu : X.A.units + 65 < cLine) (ho : PE X o td) (he : PE X e ty) (m : M1 X o "update" apos e cpos) : PE X (.Call (.Attribute o "update" apos) [e] [] cpos) (tDUpd td ty) := by
  refine ⟨fun pins s σ H Q I h => ?_⟩
  refine wpAny_Call_method m.base m.few m.line PySem.F.plainAttrs_dict PySem.F.slot_dict_update PySem.F.type_dict_update (thn (ho.run pins s σ H _ I h) fun u s1 ⟨x, H1, I1, rx, a, ex, d, q1⟩ => ?_)
  subst ex
  obtain rfl : u = Value.ref a := rx
  obtain ⟨t1, t2, _⟩ := isD_at I1 d
  refine ⟨t1, t2, ?_⟩
  rw [m.trees]
  refine Calls.callWith_builtin rfl (Calls.evalArgs_plain (Calls.spliced_cons (thn (he.run pins s1 σ H1 _ I1 q1) fun iv s2 ⟨y, H2, I2, ry, l, k, b, ey, ha, hb, hne, nd, sm, hz, q2⟩ => Calls.spliced_nil ?_)))
  subst ey
  cases ry
  obtain ⟨_, la, xs, ra, da⟩ := dt_of I2.hok ha
  obtain ⟨_, lb, ys, rb, db⟩ := dt_of I2.hok hb
  have e1 : xs.length = l.length := by rw [← Paired.length ra, dTk_len]
  have e2 : ys.length = k.length := by rw [← Paired.length rb, dTk_len]
  refine call_update_dictH (tupleKind_room_in1 (by omega)) hne lb da db (.inr ⟨fun x hx => ?_, keys_hash X.prog X.w (KT.keys rb) nd sm⟩) (by rw [e1, e2]; exact hz) fun h' hd' _ hs' => ?_
  · obtain ⟨ob, e1, e2⟩ := KT.isTup I2.hok rb x hx
    exact ⟨ob, e1, e2⟩
  · have mm := KT.merge rb ra
    rw [dTk_merge] at mm
    obtain ⟨qo, es2, ep2, hq, h2, h3, h4, _, h5⟩ := hd'
    have hlen : (dTk (k.foldl dput l)).length ≤ sizeLine := by
      rw [dTk_len]
      refine Nat.le_trans ?_ hz
      clear hz q2 mm sm nd ha hb
      have : ∀ (k l : List (Nat × Nat)), (k.foldl dput l).length ≤ l.length + k.length := by
        intro k
        induction k with
        | nil => intro l; exact Nat.le_refl _
        | cons p k ih =>
          intro l
          refine Nat.le_trans (ih (dput l p)) ?_
          have : (dput l p).length ≤ l.length + 1 := by
            unfold dput
            split <;> simp
          rw [List.length_cons]
          omega
      exact this k l
    refine ⟨.non, _, d_write (ob := .dT (dTk (k.foldl dput l))) (t' := s2.toks) I2 (by rw [ha]; trivial) hs' ⟨qo, hq⟩ ⟨hlen, la, _, mm.keeps fun c zs ec => ?_, qo, es2, ep2, hq, h2, h3, h4, h5⟩, rfl, q2⟩
    rw [upd_ne (ne_of ec ha (fun z => nomatch z))]
    exact ec
/-! ### sorted rows: by what their tuples hold -/
def rSortT (K : PySem.W.Frag) : List V → Hp → VK → Prop := fun vs H Q => ∃ (a : Addr) (xs : List V) (ls : List (List Int)), vs = [.ref a] ∧ SqL K H a xs ∧ Paired (fun (z : List Int) (y : V) => ∃ t, y = .ref t ∧ H t = some (.tup (z.map .int))) ls xs ∧ (∀ z ∈ ls, z ≠ []) ∧
  ∀ ys p, Paired (fun (z : List Int) (y : V) => ∃ t, y = .ref t ∧ H t = some (.tup (z.map .int))) (ls.mergeSort fun x y => decide (x ≤ y)) ys → H p = none → Q (.ref p) (upd H p (.lst ys))
theorem dataLe_tups : PySem.W.dataLe false (fun z : List Int => .tuple (z.map .int)) = fun x y => decide (x ≤ y) := by
  have e : ∀ x y : List Int, PySem.W.dataLe false (fun z : List Int => .tuple (z.map .int)) x y = PySem.W.dataLe false (fun z : List Int => .list (z.map .int)) x y := fun x y => by
    show (!PySem.W.dataLt _ _) = (!PySem.W.dataLt _ _)
    rw [PySem.W.dataLt_tuple, PySem.W.dataLt_list]
  funext x y
  rw [e, PySem.W.dataLe_rows (fun z : List Int => z)]
theorem each_of {H : Hp} : ∀ {ls : List (List Int)} {xs : List V} {us : List Value}, Paired (fun (z : List Int) (y : V) => ∃ t, y = .ref t ∧ H t = some (.tup (z.map .int))) ls xs → Vals xs us →
    PySem.W.EachIs (fun (u : Value) (z : List Int) => ∃ t, u = .ref t ∧ H t = some (.tup (z.map .int))) us ls
  | _, _, _, .nil, .nil => .nil
  | _, _, _, .cons ⟨t, e, h⟩ r, .cons rv rr => .cons ⟨t, by subst e; exact rv, h⟩ (each_of r rr)
theorem each_back {H : Hp} : ∀ {ls : List (List Int)} {us : List Value}, PySem.W.EachIs (fun (u : Value) (z : List Int) => ∃ t, u = .ref t ∧ H t = some (.tup (z.map .int))) us ls →
    ∃ ys, Vals ys us ∧ Paired (fun (z : List Int) (y : V) => ∃ t, y = .ref t ∧ H t = some (.tup (z.map .int))) ls ys
  | _, _, .nil => ⟨[], .nil, .nil⟩
  | _, _, .cons ⟨t, e, h⟩ r => by
    obtain ⟨ys, h1, h2⟩ := each_back r
    subst e
    exact ⟨.ref t :: ys, .cons rfl h1, .cons ⟨t, rfl, h⟩ h2⟩
theorem dp_ints {K : PySem.W.Frag} {H : Hp} : ∀ z : List Int, DpAll K H (z.map V.int) (z.map PyData.int)
  | [] => .nil
  | i :: z => .cons (.int i) (dp_ints z)
theorem cr_sortT (hu : X.A.units + 65 < cLine) : CallR X (.builtin "sorted") (rSortT X.K) := by
  intro pins s σ H vs us Q I r h
  obtain ⟨a, xs, ls, rfl, hs, pr, hne, q⟩ := h
  obtain ⟨its, rv, hl, hz⟩ := I.list hs
  rw [Vals.ref1 r]
  have hlen : ls.length = xs.length := paired_len pr
  have e1 := each_of pr rv
  have er : PySem.W.EachIs (fun v b => ∃ as, Reads s.heap v (.tuple (b.map .int)) as) its ls := e1.mono fun u z ⟨t, e, ht⟩ => Dp.reads I (.tuple (z.map .int)) (.ref t) u (.tup (st_of ht) (dp_ints z)) (by subst e; rfl)
  have hal : PySem.W.AllAlike (ls.map fun z : List Int => PyData.tuple (z.map .int)) := PySem.W.AllAlike.of fun b b' => by
    simp only [PySem.W.alike]
    exact PySem.W.alike_ints b b'
  have hk : PySem.W.Sortable (ls.map fun z : List Int => PyData.tuple (z.map .int)) := .inl fun d hd => by
    obtain ⟨z, hzm, rfl⟩ := List.mem_map.mp hd
    cases z with
    | nil => exact absurd rfl (hne [] hzm)
    | cons i z => exact ⟨_, _, rfl⟩
  refine PySem.W.sorted_data (bs := ls) (enc := fun z : List Int => .tuple (z.map .int)) hl.isList e1 er hal hk (by rw [hlen]; exact hz) (fun b _ => ?_) fun out ho hE => ?_
  · have : (PyData.tuple (b.map .int)).depth ≤ 1 := by
      unfold PyData.depth
      rw [PySem.W.depth_ints]
      exact Nat.le_refl _
    omega
  · rw [dataLe_tups] at hE
    obtain ⟨ys, h1, h2⟩ := each_back hE
    obtain ⟨ep, he'⟩ := PyProof.Rows.sortedAll_at s.heap its out.toArray
    have hz2 : ys.length ≤ sizeLine := by rw [h1.length, ho, hlen]; exact hz
    exact ⟨.ref _, upd H (s.heap.objs.size + 1) (.lst ys), I.laid (t' := s.toks) (fun _ _ => PyProof.Rows.sortedAll_old) (Nat.le_succ _) ⟨hz2, out, ep, h1, he'⟩, rfl, q _ _ h2 (I.hok.fresh (Nat.le_succ _))⟩
theorem wsortT {p pos : Pos} {e : Expr} {te : TE} (K : PySem.W.Frag) (hu : X.A.units + 65 < cLine) (hg : Gl X "sorted") (hm : X.mg "sorted" = none) (ha : PE X e te) (hs : starEach [e] X.env = (false, eval e X.env) :: starEach [] X.env := by rfl) (hpl : (backTo pos (starEach [] X.env)).any (·.1) = false := by rfl) (hK : X.K = K := by rfl) :
    PE X (.Call (.Name "sorted" p) [e] [] pos) (tCB (rSortT K) (tCons te tNil)) := by
  subst hK
  exact pe_callB (cr_sortT hu) hg hm (by decide +kernel) (pa_cons ha pa_nil hs) (by decide) (by decide) hs hpl
/-! ### sorted of a dict's keys, all of them ints -/
def rSortD : List V → Hp → VK → Prop := fun vs H Q => ∃ (a : Addr) (kvs : List (Key × V)) (ks : List Int), vs = [.ref a] ∧ Rd H a (.dK kvs) ∧ kvs.map (·.1) = ks.map Sum.inl ∧ ks.length ≤ 90000 ∧
  ∀ (ys : List Int) (p : Addr), ys.Perm ks → ys.Pairwise (· ≤ ·) → H p = none → Q (.ref p) (upd H p (.lst (ys.map V.int)))
theorem cr_sortD (hcalm : X.calm = true) : CallR X (.builtin "sorted") rSortD := by
  intro pins s σ H vs us Q I r h
  obtain ⟨a, kvs, ks, rfl, hd, hks, hlt, q⟩ := h
  rw [Vals.ref1 r]
  obtain ⟨z, lo, cs, rel, dd⟩ := dk_rd I.hok hd
  obtain ⟨ep, hat⟩ := dd.dictAt
  have hkeys : cs.map (·.1) = ks.map Sum.inl := by rw [← hks]; exact rel.keys.symm
  have hcl : cs.length = ks.length := by have := congrArg List.length hkeys; simpa using this
  have hks16 : ks.length ≤ sizeLine := Nat.le_of_lt (sz_lt (by omega))
  refine Calls.call_function_entry PyProof.Rows.kind_sorted PyProof.Rows.plain_sorted PyProof.Rows.entry_sorted (PyProof.Rows.args_sorted1 _) ?_
  unfold Builtin.«sorted»
  refine wpAny_bind (m := checkCount "sorted" 1 1 _) (wpAny_pure (wpAny_bind (PySem.W.kdu_collect (A := X.A.in1) (PySem.W.kdl_dict (knd := mixKind X.prog X.w) (kvs := cs) (ep := ep) lo) (I.ok.hd hcalm) hat (by rw [hcl]; exact hks16) fun h2 tk acc keep got => ?_)))
  have hacc : acc.toList.length = ks.length := (Array.length_toList ..).trans (got.1.trans hcl)
  have hI : IntsAre acc.toList ks := by
    refine ints_each hacc fun j v ev => ?_
    obtain ⟨k, x, c1, c2⟩ := got.2 j v (by rw [← Array.getElem?_toList]; exact ev)
    have c3 : (ks.map Sum.inl : List Key)[j]? = some k := by rw [← hkeys, List.getElem?_map, c1]; rfl
    obtain ⟨y, c4, c5⟩ := Option.map_eq_some_iff.mp (by rw [List.getElem?_map] at c3; exact c3)
    subst c5
    rcases keyIs_shape (show keyIs (Sum.inl y) v = true from c2) with ⟨i, t, ek, rfl⟩ | ⟨_, _, ek, _⟩
    · cases ek
      exact ⟨_, t, c4, rfl⟩
    · cases ek
  have I1 : Inv X pins σ H { s with heap := h2, toks := tk } := I.kept keep
  refine wpAny_bind (wpAny_newList ?_ (by rw [hacc]; exact hks16))
  have here : (h2.push (seqObj "list" acc.toList.toArray 0)).get? h2.objs.size = some (seqObj "list" acc.toList.toArray 0) := Heap.get?_push_size _ rfl
  show wpAny _ _ _ _ _ { s with heap := h2.push (seqObj "list" acc.toList.toArray 0), toks := tk }
  refine wpAny_bind (wpAny_holding (wpAny_call_entry PyProof.Rows.slot_list_sort ⟨_, here, rfl⟩ PyProof.Rows.entry_list_sort
    (SrtO.list_sort_ord (s := { s with heap := h2.push (seqObj "list" acc.toList.toArray 0), toks := tk }) SrtO.swo_int here (by rw [hacc]; exact hks16) (fun m2 => SrtO.ints_sortable hI m2) fun out g1 g2 => ⟨_, rfl, ?_⟩) (PyProof.Rows.args_list_sort _)))
  obtain ⟨k1, k2, k3⟩ := SrtO.ints_out hI g1 g2
  obtain ⟨e2, at2⟩ := PyProof.Rows.sortedHeap_at (vs := acc.toList) (out := out.toArray) here
  have hz2 : ((out.map SrtO.iv).map V.int).length ≤ sizeLine := by
    rw [List.length_map, k2.length_eq]
    exact hks16
  refine wpAny_pure ⟨_, rfl, .ref h2.objs.size, upd H h2.objs.size (.lst ((out.map SrtO.iv).map V.int)), I1.laid (t' := tk) (fun b u e => ?_) (Nat.le_refl _) ⟨hz2, out, e2, vals_of_ints k1, at2⟩, rfl, q _ _ k2 k3 (I1.hok.fresh (Nat.le_refl _))⟩
  have below : b < h2.objs.size := Heap.lt_size e
  exact (PyProof.Rows.sortedHeap_old (Nat.ne_of_lt below) (by rw [size_push']; exact Nat.lt_succ_of_lt below)).trans (Heap.get?_push_of_some _ e)
theorem wsortD {p pos : Pos} {e : Expr} {te : TE} (hc : X.calm = true) (hg : Gl X "sorted") (hm : X.mg "sorted" = none) (ha : PE X e te) (hs : starEach [e] X.env = (false, eval e X.env) :: starEach [] X.env := by rfl) (hpl : (backTo pos (starEach [] X.env)).any (·.1) = false := by rfl) :
    PE X (.Call (.Name "sorted" p) [e] [] pos) (tCB rSortD (tCons te tNil)) := pe_callB (cr_sortD hc) hg hm (by decide +kernel) (pa_cons ha pa_nil hs) (by decide) (by decide) hs hpl
end
/-! ### a dict that is walked over is locked meanwhile -/
section
variable {X : Cx}
/-- the keys of a dict that gets locked as the walk begins -/
def iKeysL (td : TE) : TI := fun σ H R => td σ H fun x H1 => ∃ d, x = .ref d ∧ ((∃ kvs, H1 d = some (.dK kvs) ∧ ∀ o, R (Itk d o kvs) (upd H1 d (.frz o (.dK kvs)))) ∨ ∃ kvs, H1 d = some (.dT kvs) ∧ ∀ o, R (Itkt d o kvs) (upd H1 d (.frz o (.dT kvs))))
theorem pi_keysL {tg e : Expr} {td : TE} (he : PE X e td) : PI X tg e (iKeysL td) := by
  refine ⟨fun pins s σ H R I h => ?_⟩
  refine thn (he.run pins s σ H _ I h) fun u s1 ⟨x, H1, I0, rx, d, ex, q⟩ => ?_
  subst ex
  obtain rfl : u = Value.ref d := rx
  rcases q with ⟨kvs, hd, q⟩ | ⟨kvs, hd, q⟩
  · obtain ⟨o, I1⟩ := I0.lock hd trivial
    obtain ⟨hs, hgd, hx, es, ep, vs, hdt, hsz, kv, hm⟩ := I1.frzK (kvs := kvs) upd_same
    exact iter_keys hs hgd hx hdt (pi_one (tk := s1.toks) I1 _ (turn_keys _ hdt) ⟨_, Heap.get?_push_size _ rfl, rfl, by rw [hsz] <;> rfl⟩ (q o))
  · obtain ⟨o, I1⟩ := I0.lock hd trivial
    obtain ⟨hs, hgd, hx, es, ep, hdt, hsz, ent⟩ := I1.frzT (kvs := kvs) upd_same
    exact iter_keys hs hgd hx hdt (pi_one (tk := s1.toks) I1 _ (turn_keysT _ hdt) ⟨_, Heap.get?_push_size _ rfl, rfl, by rw [hsz] <;> rfl⟩ (q o))
/-- what was locked meanwhile gets free again -/
def tFree (t : TE) : TE := fun σ H Q => t σ H fun v H' => ∃ d od u, H' d = some (.frz od u) ∧ (∀ o' u', H d ≠ some (.frz o' u')) ∧ Q v (upd H' d u)
theorem nofrz0 {pins : List (Addr × Obj)} {σ : L2.St} {H : Hp} {s : Shared} {d : Addr} (I : Inv X pins σ H s) (h : ∀ o' u', H d ≠ some (.frz o' u')) : ∀ o' u', X.H_0 d ≠ some (.frz o' u') := fun o' u' e => h _ _ (I.base.frzs d o' u' e)
theorem pe_free {e : Expr} {t : TE} (h : PE X e t) : PE X e (tFree t) := by
  refine ⟨fun pins s σ H Q I hw => ?_⟩
  refine thn (h.run pins s σ _ _ I hw) fun v s1 ⟨x, H1, I2, r, d, od, u, e2, no, q⟩ => ?_
  exact ⟨x, _, I2.unlock e2 (nofrz0 I no), r, q⟩
def sFree (t : TS) : TS := fun D σ H => t ⟨fun σ' H' => ∃ d od u, H' d = some (.frz od u) ∧ (∀ o' u', H d ≠ some (.frz o' u')) ∧ D.nx σ' (upd H' d u), fun _ _ => False, fun _ _ => False, fun _ _ => False⟩ σ H
theorem ps_free {st : Stmt} {t : TS} (h : PS X st t) : PS X st (sFree t) := by
  refine ⟨fun pins s σ H D I hw => ?_⟩
  refine thn (h.run pins s σ _ _ I hw) fun f s1 q => ?_
  cases f with
  | next =>
    obtain ⟨σ', H', I2, d, od, u, e2, no, q⟩ := q
    exact ⟨σ', _, I2.unlock e2 (nofrz0 I no), q⟩
  | brk => obtain ⟨_, _, _, q⟩ := q; exact q.elim
  | cont => obtain ⟨_, _, _, q⟩ := q; exact q.elim
  | ret v => obtain ⟨_, _, _, _, _, q⟩ := q; exact q.elim
end
end St

end

section

set_option Elab.async false
set_option linter.all false
set_option maxRecDepth 100000
set_option maxHeartbeats 4000000
namespace St
open PySem PySem.Spec PyProof.Rows L2 Evl
section
variable {X : Cx} {a b : Expr} {ta tb : TE} {pos : Pos}
theorem wtinL (K : PySem.W.Frag) (ha : PE X a ta) (hb : PE X b tb) (hm : behindInMarks .In b = false := by rfl) (hK : X.K = K := by rfl) : PT X (.Compare a [.In] [b] pos) (tTest (tOp (rIn K false) ta tb)) := by
  subst hK
  exact pt_cmpR op_in_seq ha hb hm
theorem wtniL (K : PySem.W.Frag) (ha : PE X a ta) (hb : PE X b tb) (hm : behindInMarks .NotIn b = false := by rfl) (hK : X.K = K := by rfl) : PT X (.Compare a [.NotIn] [b] pos) (tTest (tOp (rIn K true) ta tb)) := by
  subst hK
  exact pt_cmpR op_notIn_seq ha hb hm
theorem wtinD (K : PySem.W.Frag) (hu : X.A.units + 65 < cLine) (ha : PE X a ta) (hb : PE X b tb) (hm : behindInMarks .In b = false := by rfl) (hK : X.K = K := by rfl) : PT X (.Compare a [.In] [b] pos) (tTest (tOp (rInD K) ta tb)) := by
  subst hK
  exact pt_cmpR (op_inD hu) ha hb hm
end
section
variable {K : PySem.W.Frag} {σ : L2.St} {H H' : Hp} {td ty te ta : TE} {v x y : V} {g : TG} {tt : TT} {vs : List Nat}
/-- what is told of a value stays when a lock is taken off -/
def Unl {α : Type} (RA : α → V → Hp → Prop) : Prop := ∀ a y H d od u, H d = some (.frz od u) → RA a y H → RA a y (upd H d u)
theorem Unl.val {α : Type} {f : α → V} : Unl (fun a y (_ : Hp) => y = f a) := fun _ _ _ _ _ _ _ h => h
theorem Unl.tup {α : Type} {f : α → List V} : Unl (fun a y H => ∃ t, y = .ref t ∧ H t = some (.tup (f a))) := fun a y H d od u hd ⟨t, h1, h2⟩ => ⟨t, h1, by rw [upd_ne (ne_of h2 hd (by intro z; cases z))]; exact h2⟩
theorem ex_unl {H0 H1 H2 : Hp} {d : Addr} {o : Obj} {u : HO} (e1 : Ex H0 H1) (h : H0 d = none ∨ H0 d = some u) (e2 : Ex (upd H1 d (.frz o u)) H2) : Ex H0 (upd H2 d u) := fun b ob hb => by
  by_cases hbd : b = d
  · subst hbd
    rcases h with h | h
    · rw [h] at hb; cases hb
    · rw [h] at hb
      cases hb
      exact upd_same
  · rw [upd_ne hbd]
    refine e2 _ _ ?_
    rw [upd_ne hbd]
    exact e1 _ _ hb
theorem ex_lk {H0 H1 H2 : Hp} {d : Addr} {o : Obj} {u : HO} (e1 : Ex H0 H1) (e2 : Ex (upd H1 d (.frz o u)) H2) : Ex (upd H0 d (.frz o u)) H2 := fun b ob hb => by
  by_cases hbd : b = d
  · subst hbd
    rw [upd_same] at hb
    cases hb
    exact e2 _ _ upd_same
  · rw [upd_ne hbd] at hb
    refine e2 _ _ ?_
    rw [upd_ne hbd]
    exact e1 _ _ hb
theorem ex_lk0 {H0 H1 H2 : Hp} {d : Addr} {o : Obj} {u : HO} (e1 : Ex H0 H1) (h : H0 d = none) (e2 : Ex (upd H1 d (.frz o u)) H2) : Ex H0 H2 := fun b ob hb => e2 _ _ (by rw [upd_ne (ne_of_none hb h)]; exact e1 _ _ hb)
theorem key_at {α κ : Type} {kvs : List (κ × V)} {l : List α} {key : α → κ} (hk : kvs.map (·.1) = l.map key) {i : Nat} {a : α} {k : κ} {v : V} (ha : l[i]? = some a) (hv : kvs[i]? = some (k, v)) : k = key a := by
  have e : (kvs.map (·.1))[i]? = (l.map key)[i]? := by rw [hk]
  rw [List.getElem?_map, List.getElem?_map, ha, hv] at e
  exact Option.some.inj e
theorem key_len {α κ : Type} {kvs : List (κ × V)} {l : List α} {key : α → κ} (hk : kvs.map (·.1) = l.map key) : kvs.length = l.length := by
  have e := congrArg List.length hk
  simpa using e
section
variable {α : Type} {l : List α} {p : α → Bool} {RA : α → V → Hp → Prop}
/-- a comprehension over the tuple keys of a dict that stands -/
theorem en_keysT {d : Addr} {kvs : List (List Key × V)} {key : α → List Key} (S : Stays RA) (SU : Unl RA) (h : Ev td σ H (.ref d)) (hd : H d = some (.dT kvs)) (hk : kvs.map (·.1) = l.map key) (hz : l.length ≤ 90000)
    (turn : ∀ (o : Obj) (H1 : Hp) (a : α) (q : Addr), Ex (upd H d (.frz o (.dT kvs))) H1 → a ∈ l → H1 q = some (.tup ((key a).map kV)) → Turns σ vs g tt te H1 p RA a (.ref q)) :
    EvN (tFree (tLc (iKeysL td) g tt te vs)) σ H (fun D H' => ∃ ys, H' D = some (.lst ys) ∧ Paired (fun a y => RA a y H') (l.filter p) ys) := fun H0 e Q q => h H0 e _ fun H1 e1 =>
  ⟨d, rfl, .inr ⟨kvs, e1 _ _ (e _ _ hd), fun o D hD => lc_core2 (l := l) (p := p) (RA := RA) (w := by rw [← key_len hk]; exact walk_keysT) hD hz (fun H' e' => e' _ _ upd_same) S.mono (fun a y H acc acc' => S.ins a y H D acc acc')
    (fun i a x H' H'' ha e' _ y => by
      obtain ⟨eH, k, v, b, hv, rfl, hb⟩ := y
      rw [eH]
      have ek := key_at hk ha hv
      subst ek
      obtain ⟨σ2, h1, h2, h3, h4⟩ := (turn o H' a b (ex_lk (e.trans e1) e') (List.mem_of_getElem? ha) hb).ex
      exact ⟨Ex.refl _, σ2, fun Q q => h1 _ Q (Ex.refl _) q, h2, h3, h4⟩)
    fun H' ys e' hy pr => by
      have hdD : D ≠ d := fun z => by rw [z, upd_same] at hD; cases hD
      have hD1 : H1 D = none := by rw [upd_ne hdD] at hD; exact hD
      have hl : H' d = some (.frz o (.dT kvs)) := e' _ _ upd_same
      refine ⟨d, o, .dT kvs, hl, (fun _ _ z => by rw [e _ _ hd] at z; cases z), q D _ (fresh_back e1 hD1) (ex_unl e1 (.inr (e _ _ hd)) e') ⟨ys, by rw [upd_ne hdD]; exact hy, paired_imp (fun a y r => SU a y _ _ _ _ hl r) pr⟩⟩⟩⟩
/-- .. of a new dict -/
theorem en_keysTN {kvs : List (List Key × V)} {key : α → List Key} (S : Stays RA) (SU : Unl RA) (h : EvN td σ H (fun d H' => H' d = some (.dT kvs))) (hk : kvs.map (·.1) = l.map key) (hz : l.length ≤ 90000)
    (turn : ∀ (H1 : Hp) (a : α) (q : Addr), Ex H H1 → a ∈ l → H1 q = some (.tup ((key a).map kV)) → Turns σ vs g tt te H1 p RA a (.ref q)) :
    EvN (tFree (tLc (iKeysL td) g tt te vs)) σ H (fun D H' => ∃ ys, H' D = some (.lst ys) ∧ Paired (fun a y => RA a y H') (l.filter p) ys) := fun H0 e Q q => h H0 e _ fun d H1 n0 e1 hd =>
  ⟨d, rfl, .inr ⟨kvs, hd, fun o D hD => lc_core2 (l := l) (p := p) (RA := RA) (w := by rw [← key_len hk]; exact walk_keysT) hD hz (fun H' e' => e' _ _ upd_same) S.mono (fun a y H acc acc' => S.ins a y H D acc acc')
    (fun i a x H' H'' ha e' _ y => by
      obtain ⟨eH, k, v, b, hv, rfl, hb⟩ := y
      rw [eH]
      have ek := key_at hk ha hv
      subst ek
      obtain ⟨σ2, h1, h2, h3, h4⟩ := (turn H' a b (e.trans (ex_lk0 e1 n0 e')) (List.mem_of_getElem? ha) hb).ex
      exact ⟨Ex.refl _, σ2, fun Q q => h1 _ Q (Ex.refl _) q, h2, h3, h4⟩)
    fun H' ys e' hy pr => by
      have hdD : D ≠ d := fun z => by rw [z, upd_same] at hD; cases hD
      have hD1 : H1 D = none := by rw [upd_ne hdD] at hD; exact hD
      have hl : H' d = some (.frz o (.dT kvs)) := e' _ _ upd_same
      refine ⟨d, o, .dT kvs, hl, (fun _ _ z => by rw [n0] at z; cases z), q D _ (fresh_back e1 hD1) (ex_unl e1 (.inl n0) e') ⟨ys, by rw [upd_ne hdD]; exact hy, paired_imp (fun a y r => SU a y _ _ _ _ hl r) pr⟩⟩⟩⟩
/-- .. over int keys -/
theorem en_keysK {d : Addr} {kvs : List (Key × V)} {key : α → Key} (S : Stays RA) (SU : Unl RA) (h : Ev td σ H (.ref d)) (hd : H d = some (.dK kvs)) (hk : kvs.map (·.1) = l.map key) (hz : l.length ≤ 90000)
    (turn : ∀ (o : Obj) (H1 : Hp) (a : α), Ex (upd H d (.frz o (.dK kvs))) H1 → a ∈ l → Turns σ vs g tt te H1 p RA a (kV (key a))) :
    EvN (tFree (tLc (iKeysL td) g tt te vs)) σ H (fun D H' => ∃ ys, H' D = some (.lst ys) ∧ Paired (fun a y => RA a y H') (l.filter p) ys) := fun H0 e Q q => h H0 e _ fun H1 e1 =>
  ⟨d, rfl, .inl ⟨kvs, e1 _ _ (e _ _ hd), fun o D hD => lc_core2 (l := l) (p := p) (RA := RA) (w := by rw [← key_len hk]; exact walk_keys) hD hz (fun H' e' => e' _ _ upd_same) S.mono (fun a y H acc acc' => S.ins a y H D acc acc')
    (fun i a x H' H'' ha e' _ y => by
      obtain ⟨eH, k, v, hv, rfl⟩ := y
      rw [eH]
      have ek := key_at hk ha hv
      subst ek
      obtain ⟨σ2, h1, h2, h3, h4⟩ := (turn o H' a (ex_lk (e.trans e1) e') (List.mem_of_getElem? ha)).ex
      exact ⟨Ex.refl _, σ2, fun Q q => h1 _ Q (Ex.refl _) q, h2, h3, h4⟩)
    fun H' ys e' hy pr => by
      have hdD : D ≠ d := fun z => by rw [z, upd_same] at hD; cases hD
      have hD1 : H1 D = none := by rw [upd_ne hdD] at hD; exact hD
      have hl : H' d = some (.frz o (.dK kvs)) := e' _ _ upd_same
      refine ⟨d, o, .dK kvs, hl, (fun _ _ z => by rw [e _ _ hd] at z; cases z), q D _ (fresh_back e1 hD1) (ex_unl e1 (.inr (e _ _ hd)) e') ⟨ys, by rw [upd_ne hdD]; exact hy, paired_imp (fun a y r => SU a y _ _ _ _ hl r) pr⟩⟩⟩⟩
end
/-! ### dicts: asked -/
theorem ev_dinU {p : Nat × Nat} {l : List (Nat × Nat)} {d : Addr} (hy : EvU ty σ H [nV p.1, nV p.2]) (hd : Ev td σ H (.ref d)) (h : Rd H d (.dT (dTk l))) : Ev (tDIn ty td) σ H (.bl (decide (p ∈ l))) := fun H1 e Q q =>
  hy H1 e _ fun t H2 _ e2 ht => hd H2 (e.trans e2) _ fun H3 e3 => ⟨d, valV (dTk l) (kk p), rfl, .inr ⟨dTk l, kk p, t, ex_rd ((e.trans e2).trans e3) h, rfl, e3 _ _ ht, rfl⟩, by rw [dTk_isSome]; exact q H3 (e2.trans e3)⟩
theorem ev_dinT {p : Nat × Nat} {l : List (Nat × Nat)} {d t : Addr} (hy : Ev ty σ H (.ref t)) (ht : H t = some (.tup [nV p.1, nV p.2])) (hd : Ev td σ H (.ref d)) (h : Rd H d (.dT (dTk l))) : Ev (tDIn ty td) σ H (.bl (decide (p ∈ l))) := fun H1 e Q q =>
  hy H1 e _ fun H2 e2 => hd H2 (e.trans e2) _ fun H3 e3 => ⟨d, valV (dTk l) (kk p), rfl, .inr ⟨dTk l, kk p, t, ex_rd ((e.trans e2).trans e3) h, rfl, e3 _ _ ((e.trans e2) _ _ ht), rfl⟩, by rw [dTk_isSome]; exact q H3 (e2.trans e3)⟩
theorem ev_dniU {p : Nat × Nat} {l : List (Nat × Nat)} {d : Addr} (hy : EvU ty σ H [nV p.1, nV p.2]) (hd : Ev td σ H (.ref d)) (h : Rd H d (.dT (dTk l))) : Ev (tDNotIn ty td) σ H (.bl (!decide (p ∈ l))) := fun H1 e Q q =>
  hy H1 e _ fun t H2 _ e2 ht => hd H2 (e.trans e2) _ fun H3 e3 => ⟨d, valV (dTk l) (kk p), rfl, .inr ⟨dTk l, kk p, t, ex_rd ((e.trans e2).trans e3) h, rfl, e3 _ _ ht, rfl⟩, by rw [dTk_isSome]; exact q H3 (e2.trans e3)⟩
theorem ev_dniT {p : Nat × Nat} {l : List (Nat × Nat)} {d t : Addr} (hy : Ev ty σ H (.ref t)) (ht : H t = some (.tup [nV p.1, nV p.2])) (hd : Ev td σ H (.ref d)) (h : Rd H d (.dT (dTk l))) : Ev (tDNotIn ty td) σ H (.bl (!decide (p ∈ l))) := fun H1 e Q q =>
  hy H1 e _ fun H2 e2 => hd H2 (e.trans e2) _ fun H3 e3 => ⟨d, valV (dTk l) (kk p), rfl, .inr ⟨dTk l, kk p, t, ex_rd ((e.trans e2).trans e3) h, rfl, e3 _ _ ((e.trans e2) _ _ ht), rfl⟩, by rw [dTk_isSome]; exact q H3 (e2.trans e3)⟩
/-- an int-keyed dict -/
abbrev ik (n : Nat) : Key := .inl (n : Int)
theorem ev_dinK {n : Nat} {kvs : List (Key × V)} {d : Addr} (hy : Ev ty σ H (nV n)) (hd : Ev td σ H (.ref d)) (h : Rd H d (.dK kvs)) : Ev (tDIn ty td) σ H (.bl (valV kvs (ik n)).isSome) := fun H1 e Q q =>
  hy H1 e _ fun H2 e2 => hd H2 (e.trans e2) _ fun H3 e3 => ⟨d, valV kvs (ik n), rfl, .inl ⟨kvs, ik n, ex_rd ((e.trans e2).trans e3) h, rfl, rfl⟩, q H3 (e2.trans e3)⟩
theorem ev_dniK {n : Nat} {kvs : List (Key × V)} {d : Addr} (hy : Ev ty σ H (nV n)) (hd : Ev td σ H (.ref d)) (h : Rd H d (.dK kvs)) : Ev (tDNotIn ty td) σ H (.bl (!(valV kvs (ik n)).isSome)) := fun H1 e Q q =>
  hy H1 e _ fun H2 e2 => hd H2 (e.trans e2) _ fun H3 e3 => ⟨d, valV kvs (ik n), rfl, .inl ⟨kvs, ik n, ex_rd ((e.trans e2).trans e3) h, rfl, rfl⟩, q H3 (e2.trans e3)⟩
theorem ev_dgetK {n : Nat} {kvs : List (Key × V)} {d : Addr} (hd : Ev td σ H (.ref d)) (hy : Ev ty σ H (nV n)) (h : Rd H d (.dK kvs)) (hv : valV kvs (ik n) = some v) : Ev (tDGet td ty) σ H v := fun H1 e Q q =>
  hd H1 e _ fun H2 e2 => hy H2 (e.trans e2) _ fun H3 e3 => ⟨d, v, rfl, .inl ⟨kvs, ik n, ex_rd ((e.trans e2).trans e3) h, rfl, hv.symm⟩, q H3 (e2.trans e3)⟩
theorem ev_dgetT {p : Nat × Nat} {kvs : List (List Key × V)} {d t : Addr} (hd : Ev td σ H (.ref d)) (hy : Ev ty σ H (.ref t)) (ht : H t = some (.tup [nV p.1, nV p.2])) (h : Rd H d (.dT kvs)) (hv : valV kvs (kk p) = some v) : Ev (tDGet td ty) σ H v := fun H1 e Q q =>
  hd H1 e _ fun H2 e2 => hy H2 (e.trans e2) _ fun H3 e3 => ⟨d, v, rfl, .inr ⟨kvs, kk p, t, ex_rd ((e.trans e2).trans e3) h, rfl, e3 _ _ (e2 _ _ (e _ _ ht)), hv.symm⟩, q H3 (e2.trans e3)⟩
/-- {n: True} -/
def dKk (l : List Nat) : List (Key × V) := l.map fun n => (ik n, .bl true)
theorem ik_inj {a b : Nat} (h : ik a = ik b) : a = b := by
  have := Sum.inl.inj h
  omega
theorem dKf_val {f : Nat → V} (l : List Nat) (n : Nat) : valV (l.map fun n => (ik n, f n)) (ik n) = if n ∈ l then some (f n) else none := by
  induction l with
  | nil => rfl
  | cons q r ih =>
    rw [List.map_cons]
    by_cases h : q = n
    · subst h
      rw [valV_pos rfl, if_pos (List.mem_cons_self ..)]
    · rw [valV_neg (fun z => h (ik_inj z))]
      have : (n ∈ q :: r) ↔ n ∈ r := by
        rw [List.mem_cons]
        exact ⟨fun z => z.elim (fun z => absurd z.symm h) id, Or.inr⟩
      simp only [this]
      exact ih
theorem dKk_isSome (l : List Nat) (n : Nat) : (valV (dKk l) (ik n)).isSome = decide (n ∈ l) := by
  unfold dKk
  rw [dKf_val (f := fun _ => .bl true)]
  by_cases h : n ∈ l <;> simp [h]
def dputN (l : List Nat) (n : Nat) : List Nat := if n ∈ l then l else l ++ [n]
theorem dKk_put (l : List Nat) (n : Nat) : putK (dKk l) (ik n) (.bl true) = dKk (dputN l n) := by
  unfold putK dputN
  rw [valV_any, dKk_isSome]
  by_cases h : n ∈ l
  · rw [if_pos (by simpa using h), if_pos h]
    unfold dKk
    rw [List.map_map]
    refine List.map_congr_left fun q _ => ?_
    show (if ik q = ik n then (ik q, V.bl true) else (ik q, V.bl true)) = _
    split <;> rfl
  · rw [if_neg (by simpa using h), if_neg h]
    unfold dKk
    rw [List.map_append]
    rfl
theorem dKk_keys (l : List Nat) : (dKk l).map (·.1) = l.map ik := by unfold dKk; rw [List.map_map]; rfl
theorem dTk_keys (l : List (Nat × Nat)) : (dTk l).map (·.1) = l.map kk := by unfold dTk; rw [List.map_map]; rfl
theorem dKk_len (l : List Nat) : (dKk l).length = l.length := List.length_map ..
/-! ### sorted -/
theorem en_sortT {α : Type} {l : List α} {f : α → List Int} {le : α → α → Bool} (hf : ∀ a ∈ l, f a ≠ []) (hle : ∀ a ∈ l, ∀ b ∈ l, le a b = decide (f a ≤ f b))
    (h : EvP te σ H (fun v H' => ∃ q xs, v = .ref q ∧ H' q = some (.lst xs) ∧ Paired (fun a y => ∃ t, y = .ref t ∧ H' t = some (.tup ((f a).map .int))) l xs)) :
    EvN (tCB (rSortT K) (tCons te tNil)) σ H (fun q H' => ∃ xs, H' q = some (.lst xs) ∧ Paired (fun a y => ∃ t, y = .ref t ∧ H' t = some (.tup ((f a).map .int))) (l.mergeSort le) xs) := fun H1 e Q q =>
  h H1 e _ fun v H2 e2 ⟨p, xs, hv, hx, pr⟩ => by
    subst hv
    have pm : ∀ {l : List α} {xs : List V}, Paired (fun a y => ∃ t, y = .ref t ∧ H2 t = some (.tup ((f a).map .int))) l xs → Paired (fun (z : List Int) (y : V) => ∃ t, y = .ref t ∧ H2 t = some (.tup (z.map .int))) (l.map f) xs := by
      intro l xs r
      induction r with
      | nil => exact .nil
      | cons a b ih => exact .cons a ih
    have pb : ∀ {l : List α} {xs : List V}, Paired (fun (z : List Int) (y : V) => ∃ t, y = .ref t ∧ H2 t = some (.tup (z.map .int))) (l.map f) xs → Paired (fun a y => ∃ t, y = .ref t ∧ H2 t = some (.tup ((f a).map .int))) l xs := by
      intro l
      induction l with
      | nil =>
        intro xs r
        cases r
        exact .nil
      | cons a l ih =>
        intro xs r
        rw [List.map_cons] at r
        cases r with
        | cons a b => exact .cons a (ih b)
    refine ⟨p, xs, l.map f, rfl, sq_of hx, pm pr, fun z hz => ?_, fun ys r rs hr => ?_⟩
    · obtain ⟨a, ha, rfl⟩ := List.mem_map.mp hz
      exact hf a ha
    · rw [← List.map_mergeSort (r := le) (s := fun x y => decide (x ≤ y)) (f := f) hle] at rs
      refine q r _ (fresh_back e2 hr) (e2.trans (Ex.new hr)) ⟨ys, upd_same, ?_⟩
      exact paired_imp (fun a y ⟨t, h1, h2⟩ => ⟨t, h1, Ex.new hr _ _ h2⟩) (pb rs)
theorem el_sortD {kvs : List (Key × V)} {ks ns : List Nat} {d : Addr} (h : Ev te σ H (.ref d)) (hd : Rd H d (.dK kvs)) (hk : kvs.map (·.1) = ks.map ik) (hz : ks.length ≤ 90000) (hp : ns.Perm ks) (hs : ns.Pairwise (· ≤ ·)) :
    EvL (tCB rSortD (tCons te tNil)) σ H (ns.map nV) := fun H1 e Q q => h H1 e _ fun H2 e2 => by
  refine ⟨d, kvs, ks.map (fun n : Nat => (n : Int)), rfl, ex_rd (e.trans e2) hd, by rw [hk, List.map_map]; rfl, by rw [List.length_map]; exact hz, fun ys p hy ho hr => ?_⟩
  have eq : ys = ns.map (fun n : Nat => (n : Int)) := by
    refine List.Perm.eq_of_pairwise (le := fun a b : Int => a ≤ b) (fun a b _ _ h1 h2 => by omega) ho ?_ (hy.trans (hp.map _).symm)
    exact List.pairwise_map.mpr (hs.imp fun h => by omega)
  subst eq
  refine q p _ (fresh_back e2 hr) (e2.trans (Ex.new hr)) ?_
  rw [List.map_map]
  exact upd_same
end
end St

end

section

set_option Elab.async false
set_option linter.all false
set_option maxRecDepth 100000
set_option maxHeartbeats 4000000
namespace St
open PySem PySem.Spec PyProof.Rows L2 Evl
/-! ### the log in the heap -/
abbrev cLog (K : PySem.W.Frag) : Addr := He.ga K "Log"
abbrev cEnt (K : PySem.W.Frag) : Addr := He.ga K "Entry"
abbrev cCut (K : PySem.W.Frag) : Addr := He.ga K "Cut"
def eF (e : Ent) (l : Addr) : List (Str × V) := [("thing", nV e.thing), ("minute", nV e.minute), ("lots", .ref l), ("is_struck", .bl e.struck)]
structure EntAt (K : PySem.W.Frag) (H : Hp) (a : Addr) (e : Ent) : Prop where
  ex : ∃ dx l, H a = some (.ins (cEnt K) dx (eF e l)) ∧ H l = some (.lst (e.lots.map nV))
structure LogAt (K : PySem.W.Frag) (H : Hp) (L E : Addr) (as : List Addr) (es : Es) : Prop where
  obj : ∃ dx, H L = some (.ins (cLog K) dx [("entries", .ref E)])
  lst : H E = some (.lst (as.map V.ref))
  len : as.length = es.length
  nd : as.Nodup
  at_ : ∀ i, i < es.length → ∃ a, as[i]? = some a ∧ EntAt K H a (ent es i)
section
variable {K : PySem.W.Frag} {mg : Str → Option Value} {H H' : Hp} {L E a : Addr} {as : List Addr} {es : Es} {e : Ent} {σ : L2.St} {ta tb te : TE} {i n : Nat}
theorem EntAt.mono (h : EntAt K H a e) (x : Ex H H') : EntAt K H' a e := by
  obtain ⟨dx, l, h1, h2⟩ := h.ex
  exact ⟨⟨dx, l, x _ _ h1, x _ _ h2⟩⟩
theorem LogAt.mono (h : LogAt K H L E as es) (x : Ex H H') : LogAt K H' L E as es :=
  ⟨h.obj.imp fun _ q => x _ _ q, x _ _ h.lst, h.len, h.nd, fun i hi => let ⟨a, p, q⟩ := h.at_ i hi; ⟨a, p, q.mono x⟩⟩
theorem lk_here {k : Str} {v : V} {r : List (Str × V)} : List.lookup k ((k, v) :: r) = some v := by
  have e : (k == k) = true := beq_self_eq_true k
  simp only [List.lookup, e]
theorem lk_past {k g : Str} {v : V} {r : List (Str × V)} (h : (k == g) = false) : List.lookup k ((g, v) :: r) = List.lookup k r := by
  simp only [List.lookup, h]
theorem eF_thing (e : Ent) (l : Addr) : (eF e l).lookup ("thing" : Str) = some (nV e.thing) := lk_here
theorem eF_minute (e : Ent) (l : Addr) : (eF e l).lookup ("minute" : Str) = some (nV e.minute) := (lk_past (by decide +kernel)).trans lk_here
theorem eF_lots (e : Ent) (l : Addr) : (eF e l).lookup ("lots" : Str) = some (.ref l) := (lk_past (by decide +kernel)).trans ((lk_past (by decide +kernel)).trans lk_here)
theorem eF_struck (e : Ent) (l : Addr) : (eF e l).lookup ("is_struck" : Str) = some (.bl e.struck) := (lk_past (by decide +kernel)).trans ((lk_past (by decide +kernel)).trans ((lk_past (by decide +kernel)).trans lk_here))
theorem eF_none {m : Str} (e : Ent) (l : Addr) (h1 : (m == ("thing" : Str)) = false := by decide +kernel) (h2 : (m == ("minute" : Str)) = false := by decide +kernel) (h3 : (m == ("lots" : Str)) = false := by decide +kernel) (h4 : (m == ("is_struck" : Str)) = false := by decide +kernel) : (eF e l).lookup m = none :=
  (lk_past h1).trans ((lk_past h2).trans ((lk_past h3).trans ((lk_past h4).trans rfl)))
theorem lg_none {m : Str} {v : V} (h1 : (m == ("entries" : Str)) = false := by decide +kernel) : [(("entries" : Str), v)].lookup m = none := (lk_past h1).trans rfl
theorem ev_thing (T : Txt K mg) (h : EntAt K H a e) (ha : Ev ta σ H (.ref a)) : Ev (tFld K ta "thing") σ H (nV e.thing) := let ⟨_, l, h1, _⟩ := h.ex; ev_fld ha h1 T.c_Entry T.n_Entry_thing (eF_thing e l)
theorem ev_minute (T : Txt K mg) (h : EntAt K H a e) (ha : Ev ta σ H (.ref a)) : Ev (tFld K ta "minute") σ H (nV e.minute) := let ⟨_, l, h1, _⟩ := h.ex; ev_fld ha h1 T.c_Entry T.n_Entry_minute (eF_minute e l)
theorem ev_struck (T : Txt K mg) (h : EntAt K H a e) (ha : Ev ta σ H (.ref a)) : Ev (tFld K ta "is_struck") σ H (.bl e.struck) := let ⟨_, l, h1, _⟩ := h.ex; ev_fld ha h1 T.c_Entry T.n_Entry_is_struck (eF_struck e l)
theorem ev_lots (T : Txt K mg) (h : EntAt K H a e) (ha : Ev ta σ H (.ref a)) : ∃ l, H l = some (.lst (e.lots.map nV)) ∧ Ev (tFld K ta "lots") σ H (.ref l) := let ⟨_, l, h1, h2⟩ := h.ex; ⟨l, h2, ev_fld ha h1 T.c_Entry T.n_Entry_lots (eF_lots e l)⟩
/-- self.entries -/
theorem ev_entries (T : Txt K mg) (h : LogAt K H L E as es) (ha : Ev ta σ H (.ref L)) : Ev (tFld K ta "entries") σ H (.ref E) := let ⟨_, h1⟩ := h.obj; ev_fld ha h1 T.c_Log T.n_Log_entries lk_here
/-- self.entries[number] -/
theorem ev_entry (T : Txt K mg) (h : LogAt K H L E as es) (ha : Ev ta σ H (.ref L)) (hb : Ev tb σ H (nV i)) (hi : i < es.length) : ∃ a, as[i]? = some a ∧ EntAt K H a (ent es i) ∧ Ev (tOp (rIxL K) (tFld K ta "entries") tb) σ H (.ref a) := by
  obtain ⟨a, h1, h2⟩ := h.at_ i hi
  exact ⟨a, h1, h2, ev_ixL (ev_entries T h ha) hb (sq_of h.lst) (by rw [List.getElem?_map, h1]; rfl)⟩
/-- a method of the log -/
theorem lg_meth {m : Str} {t : TA} {vs : List V} {v : V} {pre : List V → Hp → V → Prop} {X : XK} (h : LogAt K H L E as es) (ha : Ev ta σ H (.ref L)) (hm : (m == ("entries" : Str)) = false) (hv : EvA t σ H vs) (hp : ∀ H1, Ex H H1 → pre (.ref L :: vs) H1 v) : Ev (tMeth (cLog K) m (spV pre) [] X ta t) σ H v :=
  let ⟨_, h1⟩ := h.obj; ev_meth ha h1 (lg_none hm) hv hp
theorem lg_methL {m : Str} {t : TA} {vs xs : List V} {pre : List V → Hp → List V → Prop} {X : XK} (h : LogAt K H L E as es) (ha : Ev ta σ H (.ref L)) (hm : (m == ("entries" : Str)) = false) (hv : EvA t σ H vs) (hp : ∀ H1, Ex H H1 → pre (.ref L :: vs) H1 xs) : EvL (tMeth (cLog K) m (spL pre) [] X ta t) σ H xs :=
  let ⟨_, h1⟩ := h.obj; el_meth ha h1 (lg_none hm) hv hp
theorem lg_methN {α : Type} {z : α} {m : Str} {t : TA} {vs : List V} {pre : List V → Hp → α → Prop} {post : α → Addr → Hp → Prop} {X : XK} (h : LogAt K H L E as es) (ha : Ev ta σ H (.ref L)) (hm : (m == ("entries" : Str)) = false) (hv : EvA t σ H vs) (hp : ∀ H1, Ex H H1 → pre (.ref L :: vs) H1 z) : EvN (tMeth (cLog K) m (spN pre post) [] X ta t) σ H (post z) :=
  let ⟨_, h1⟩ := h.obj; en_meth ha h1 (lg_none hm) hv hp
theorem aR (h : LogAt K H L E as es) (hi : i < es.length) (a : Addr) (ha : as[i]? = some a) : EntAt K H a (ent es i) := by
  obtain ⟨b, h1, h2⟩ := h.at_ i hi
  rw [ha] at h1
  cases h1
  exact h2
end
section
variable {K : PySem.W.Frag} {mg : Str → Option Value} {H H' : Hp} {L E a : Addr} {as : List Addr} {es : Es} {e : Ent} {σ : L2.St} {ta tb te : TE} {i n : Nat}
/-- where the i-th entry stands -/
def ad (as : List Addr) (i : Nat) : Addr := as.getD i 0
theorem ad_of {a : Addr} (h : as[i]? = some a) : ad as i = a := by
  unfold ad
  rw [List.getD_eq_getElem?_getD, h]
  rfl
theorem LogAt.get (h : LogAt K H L E as es) (hi : i < es.length) : as[i]? = some (ad as i) := by
  obtain ⟨b, h1, h2⟩ := h.at_ i hi
  rw [h1, ad_of h1]
theorem LogAt.ent (h : LogAt K H L E as es) (hi : i < es.length) : EntAt K H (ad as i) (ent es i) := aR h hi _ (h.get hi)
theorem ev_ent (T : Txt K mg) (h : LogAt K H L E as es) (ha : Ev ta σ H (.ref L)) (hb : Ev tb σ H (nV i)) (hi : i < es.length) : Ev (tOp (rIxL K) (tFld K ta "entries") tb) σ H (.ref (ad as i)) :=
  ev_ixL (ev_entries T h ha) hb (sq_of h.lst) (by rw [List.getElem?_map, h.get hi]; rfl)
/-- the j-th of a mapped list -/
theorem map_at {α : Type} {l : List α} {f : α → V} {j : Nat} {x : V} {b : α} (hb : l[j]? = some b) (h : (l.map f)[j]? = some x) : x = f b := by
  rw [List.getElem?_map, hb] at h
  exact (Option.some.inj h).symm
end
/-! ### the promises of the log's small methods -/
abbrev LG (K : PySem.W.Frag) (H : Hp) (L : Addr) (es : Es) : Prop := ∃ E as, LogAt K H L E as es ∧ Good es
theorem LG.mono {K : PySem.W.Frag} {H H' : Hp} {L : Addr} {es : Es} (h : LG K H L es) (x : Ex H H') : LG K H' L es := let ⟨E, as, a, g⟩ := h; ⟨E, as, a.mono x, g⟩
def sp_Entry_is_meeting (K : PySem.W.Frag) : Sp := spV fun vs H v => ∃ a e, vs = [.ref a] ∧ EntAt K H a e ∧ v = .bl (isMeet e)
def sp_Log_standing (K : PySem.W.Frag) : Sp := spL fun vs H xs => ∃ L es, vs = [.ref L] ∧ LG K H L es ∧ xs = (standing es).map nV
def sp_Log_is_taken (K : PySem.W.Frag) : Sp := spV fun vs H v => ∃ L es t m, vs = [.ref L, nV t, nV m] ∧ LG K H L es ∧ v = .bl (isTaken es t m)
def sp_Log_has_meeting (K : PySem.W.Frag) : Sp := spV fun vs H v => ∃ L es t m, vs = [.ref L, nV t, nV m] ∧ LG K H L es ∧ v = .bl (hasMeeting es t m)
section
variable {P : Program} {w : World} {K : PySem.W.Frag} {mg : Str → Option Value} {base : Heap}
abbrev N_Entry_is_meeting : List Str := ["self"]
theorem sc_Entry_is_meeting : FnScope N_Entry_is_meeting ["self"] d_Entry_is_meeting.scope := ⟨rfl, rfl, rfl, by decide +kernel, rfl, by decide +kernel, by decide +kernel⟩
theorem ok_Entry_is_meeting (T : Txt K mg) : Ok P w K mg base CX0 1 d_Entry_is_meeting ["self"] (sp_Entry_is_meeting K) := by
  refine ok0 T.u_Entry_is_meeting sc_Entry_is_meeting (fun _ _ _ _ _ _ us hl => match us, hl with | [_], _ => rfl) (fun vs H Q E h => ?_) (fun cdv A outer s H vs Q E hr h => ?_)
  · obtain ⟨_, ⟨_, _, rfl, _⟩, _⟩ := h
    rfl
  have nd := sc_Entry_is_meeting.nd
  refine ⟨_, (pss_one (ps_ret (pe_cmpR op_gt (wlen K rfl T.f_len (wfld K (pv 0))) pe_int (nomark _)))), ?_⟩
  obtain ⟨_, ⟨a, e, rfl, he, rfl⟩, k⟩ := h
  obtain ⟨l, hl, ev⟩ := ev_lots (σ := [some (.ref a)]) (ta := tVar 0) T he (ev_var rfl)
  refine s_ret (v := .bl (isMeet e)) (ev_is (ev_op (ev_len ev (sq_of hl)) ev_c rv_I0) ?_) k
  unfold isMeet
  rw [List.length_map]
  congr 1
  simp
abbrev N_Log_standing : List Str := ["self", "number", "entry"]
theorem sc_Log_standing : FnScope N_Log_standing ["self"] d_Log_standing.scope := ⟨rfl, rfl, rfl, by decide +kernel, rfl, by decide +kernel, by decide +kernel⟩
theorem ok_Log_standing (T : Txt K mg) : Ok P w K mg base CX0 1 d_Log_standing ["self"] (sp_Log_standing K) := by
  refine ok0 T.u_Log_standing sc_Log_standing (fun _ _ _ _ _ _ us hl => match us, hl with | [_], _ => rfl) (fun vs H Q E h => ?_) (fun cdv A outer s H vs Q E hr h => ?_)
  · obtain ⟨_, ⟨_, _, rfl, _⟩, _⟩ := h
    rfl
  have nd := sc_Log_standing.nd
  refine ⟨_, (pss_one (ps_ret (pe_lc (own := [("number", 1), ("entry", 2)]) rfl nd (wenum K rfl T.f_enumerate (wfld K (pv 0))) (blkOk_by (N := N_Log_standing) (sc := d_Log_standing.scope) (by decide +kernel)) (fun _ _ _ _ _ => (wtup K (n := 2) rfl (pgs_cons (pg_name (i := 1) nd rfl (Or.inl rfl)) (pgs_cons (pg_name (i := 2) nd rfl (Or.inl rfl)) pgs_nil)))) (fun _ _ _ _ _ => (pts_one (pt_not (pt_val (wfld K (pv 2)))))) (fun _ _ _ _ _ => (pv 1))))), ?_⟩
  obtain ⟨_, ⟨L, es, rfl, ⟨E, as, hL, g⟩, rfl⟩, k⟩ := h
  have hlen : (as.map V.ref).length = es.length := by rw [List.length_map]; exact hL.len
  refine s_retL (el_is (el_of (f := nV) (en_lcE (xs := as.map V.ref) (p := fun i => !(ent es i).struck) Stays.val (ev_entries T hL (ev_var rfl)) (sq_of hL.lst) (by rw [hlen]; have := g.len; omega) fun i x t H1 hx e1 ht => ?_)) (by rw [hlen]; rfl)) k
  have hi : i < es.length := by
    have := (List.getElem?_eq_some_iff.mp hx).1
    omega
  cases map_at (hL.get hi) hx
  exact Turns.pair (st_of ht) rfl (et_not (et_B (ev_struck T ((hL.ent hi).mono e1) (ev_var rfl)))) fun _ => Ev.p (ev_var rfl) fun _ _ => rfl
section
variable {H : Hp} {σ : L2.St} {L E : Addr} {as : List Addr} {es : Es} {X : XK} {to : TE} {vs : List Nat} {j : Nat} {te : TE}
theorem el_standing (hL : LogAt K H L E as es) (g : Good es) (ho : Ev to σ H (.ref L)) : EvL (tMeth (cLog K) "standing" (sp_Log_standing K) [] X to tNil) σ H ((standing es).map nV) :=
  lg_methL hL ho (by decide +kernel) ea_nil fun H1 e => ⟨L, es, rfl, ⟨E, as, hL.mono e, g⟩, rfl⟩
/-- the standing entries -/
theorem el_stood (T : Txt K mg) (hL : LogAt K H L E as es) (g : Good es) (ho : Ev to σ H (.ref L)) (h1 : ∀ x, wipe ((wipe σ vs).set j (some x)) vs = wipe σ vs) (h2 : ∀ i, Ev te ((wipe σ vs).set j (some (nV i))) H (.ref L)) (h3 : ∀ i, ((wipe σ vs).set j (some (nV i)))[j]? = some (some (nV i))) :
    EvL (tLc (iList K (tMeth (cLog K) "standing" (sp_Log_standing K) [] X to tNil)) (gName j) tYes (tOp (rIxL K) (tFld K te "entries") (tVar j)) vs) σ H ((standing es).map fun i => .ref (ad as i)) := by
  refine el_is (el_of (l := standing es) (p := fun _ => true) (f := fun i => .ref (ad as i)) (en_lcN (P := fun xs _ => xs = (standing es).map nV) Stays.val ((EvL.n (el_standing hL g ho)).imp fun p H1 _ r => ⟨_, r, rfl⟩) ?_ (fun xs H1 _ q => by rw [q, List.length_map]) fun xs H1 i a x e q ha hx => ?_)) (by rw [filter_yes])
  · have := standing_len es
    have := g.len
    omega
  · subst q
    cases map_at ha hx
    have hi : a < es.length := (mem_standing.mp (List.mem_of_getElem? ha)).1
    exact Turns.name (h1 _) et_yes fun _ => Ev.p (ev_ent T (hL.mono e) ((h2 a).mono e) (ev_var (h3 a)) hi) fun _ _ => rfl
end
theorem standing_lt {es : Es} {i j : Nat} (h : (standing es)[j]? = some i) : i < es.length := (mem_standing.mp (List.mem_of_getElem? h)).1
abbrev N_Log_is_taken : List Str := ["self", "thing", "minute", "rows", "number", "entry"]
theorem sc_Log_is_taken : FnScope N_Log_is_taken ["self", "thing", "minute"] d_Log_is_taken.scope := ⟨rfl, rfl, rfl, by decide +kernel, rfl, by decide +kernel, by decide +kernel⟩
theorem ok_Log_is_taken (T : Txt K mg) : Ok P w K mg base CX0 2 d_Log_is_taken ["self", "thing", "minute"] (sp_Log_is_taken K) := by
  have G_Log_standing : Ok P w K mg base CX0 1 d_Log_standing ["self"] (sp_Log_standing K) := ok_Log_standing T
  refine ok0 T.u_Log_is_taken sc_Log_is_taken (fun _ _ _ _ _ _ us hl => match us, hl with | [_, _, _], _ => rfl) (fun vs H Q E h => ?_) (fun cdv A outer s H vs Q E hr h => ?_)
  · obtain ⟨_, ⟨_, _, _, _, rfl, _⟩, _⟩ := h
    rfl
  have nd := sc_Log_is_taken.nd
  refine ⟨_, (pss_cons (ps_setLc (i := 3) (own := [("number", 4)]) rfl nd rfl rfl (sw_true rfl rfl rfl (by decide +kernel)) (wlist K (pe_meth0 (pv 0) T.c_Log T.m_Log_standing G_Log_standing.f (hr.mono (by decide)) G_Log_standing.b .nil pass0)) (blkOk_by (N := N_Log_is_taken) (sc := d_Log_is_taken.scope) (by decide +kernel)) (fun _ _ _ _ _ => (pg_name (i := 4) nd rfl (Or.inl rfl))) (fun _ _ _ _ _ => pts_nil) (fun _ _ _ _ _ => (wixL K (wfld K (pv 0)) (pv 4))))
  (pss_one (ps_ret (wany K rfl rfl T.f_any (pe_lc (own := [("entry", 5)]) rfl nd (wlist K (pv 3)) (blkOk_by (N := N_Log_is_taken) (sc := d_Log_is_taken.scope) (by decide +kernel)) (fun _ _ _ _ _ => (pg_name (i := 5) nd rfl (Or.inl rfl))) (fun _ _ _ _ _ => pts_nil) (fun _ _ _ _ _ => (pe_and (pe_cmpR op_eq (wfld K (pv 5)) (pv 1) (nomark _)) (pe_one (pe_cmpR op_eq (wfld K (pv 5)) (pv 2) (nomark _)))))))))), ?_⟩
  obtain ⟨_, ⟨L, es, t, m, rfl, ⟨E, as, hL, g⟩, rfl⟩, k⟩ := h
  refine q_asgL (el_stood T hL g (ev_var rfl) (fun _ => rfl) (fun _ => ev_var rfl) fun _ => rfl) fun p H1 n e1 hp => ?_
  refine s_ret (v := .bl (isTaken es t m)) (ev_is (ev_any (bs := (standing es).map fun i => decide ((ent es i).thing = t) && decide ((ent es i).minute = m)) (el_is (el_of (l := standing es) (p := fun _ => true)
    (f := fun i => .bl (decide ((ent es i).thing = t) && decide ((ent es i).minute = m))) (en_lcL Stays.val (ev_var rfl) (sq_of hp) (by rw [List.length_map]) (by have := standing_len es; have := g.len; omega) fun i a x ha hx => ?_)) (by rw [filter_yes, List.map_map]; rfl))) (by rw [List.any_map]; rfl)) fun H2 e2 => k H2 (e1.trans e2)
  cases map_at ha hx
  have he := (hL.ent (standing_lt ha)).mono e1
  exact Turns.name rfl et_yes fun _ => Ev.p (ev_andV (ev_eqN (ev_thing T he (ev_var rfl)) (ev_var rfl)) fun _ => ev_eqN (ev_minute T he (ev_var rfl)) (ev_var rfl)) fun _ _ => rfl
abbrev N_Log_has_meeting : List Str := ["self", "lot", "minute", "rows", "number", "entry"]
theorem sc_Log_has_meeting : FnScope N_Log_has_meeting ["self", "lot", "minute"] d_Log_has_meeting.scope := ⟨rfl, rfl, rfl, by decide +kernel, rfl, by decide +kernel, by decide +kernel⟩
theorem ok_Log_has_meeting (T : Txt K mg) : Ok P w K mg base CX0 2 d_Log_has_meeting ["self", "lot", "minute"] (sp_Log_has_meeting K) := by
  have G_Log_standing : Ok P w K mg base CX0 1 d_Log_standing ["self"] (sp_Log_standing K) := ok_Log_standing T
  refine ok0 T.u_Log_has_meeting sc_Log_has_meeting (fun _ _ _ _ _ _ us hl => match us, hl with | [_, _, _], _ => rfl) (fun vs H Q E h => ?_) (fun cdv A outer s H vs Q E hr h => ?_)
  · obtain ⟨_, ⟨_, _, _, _, rfl, _⟩, _⟩ := h
    rfl
  have nd := sc_Log_has_meeting.nd
  refine ⟨_, (pss_cons (ps_setLc (i := 3) (own := [("number", 4)]) rfl nd rfl rfl (sw_true rfl rfl rfl (by decide +kernel)) (wlist K (pe_meth0 (pv 0) T.c_Log T.m_Log_standing G_Log_standing.f (hr.mono (by decide)) G_Log_standing.b .nil pass0)) (blkOk_by (N := N_Log_has_meeting) (sc := d_Log_has_meeting.scope) (by decide +kernel)) (fun _ _ _ _ _ => (pg_name (i := 4) nd rfl (Or.inl rfl))) (fun _ _ _ _ _ => pts_nil) (fun _ _ _ _ _ => (wixL K (wfld K (pv 0)) (pv 4))))
  (pss_one (ps_ret (wany K rfl rfl T.f_any (pe_lc (own := [("entry", 5)]) rfl nd (wlist K (pv 3)) (blkOk_by (N := N_Log_has_meeting) (sc := d_Log_has_meeting.scope) (by decide +kernel)) (fun _ _ _ _ _ => (pg_name (i := 5) nd rfl (Or.inl rfl))) (fun _ _ _ _ _ => pts_nil) (fun _ _ _ _ _ => (pe_and (winL K (pv 1) (wfld K (pv 5))) (pe_one (pe_cmpR op_eq (wfld K (pv 5)) (pv 2) (nomark _)))))))))), ?_⟩
  obtain ⟨_, ⟨L, es, t, m, rfl, ⟨E, as, hL, g⟩, rfl⟩, k⟩ := h
  refine q_asgL (el_stood T hL g (ev_var rfl) (fun _ => rfl) (fun _ => ev_var rfl) fun _ => rfl) fun p H1 n e1 hp => ?_
  refine s_ret (v := .bl (hasMeeting es t m)) (ev_is (ev_any (bs := (standing es).map fun i => decide (t ∈ (ent es i).lots) && decide ((ent es i).minute = m)) (el_is (el_of (l := standing es) (p := fun _ => true)
    (f := fun i => .bl (decide (t ∈ (ent es i).lots) && decide ((ent es i).minute = m))) (en_lcL Stays.val (ev_var rfl) (sq_of hp) (by rw [List.length_map]) (by have := standing_len es; have := g.len; omega) fun i a x ha hx => ?_)) (by rw [filter_yes, List.map_map]; rfl))) (by rw [List.any_map]; rfl)) fun H2 e2 => k H2 (e1.trans e2)
  cases map_at ha hx
  have he := (hL.ent (standing_lt ha)).mono e1
  obtain ⟨l, hl, hev⟩ := ev_lots (ta := tVar 5) (σ := (wipe [some (.ref L), some (nV t), some (nV m), some (.ref p), none, none] [5]).set 5 (some (.ref (ad as a)))) T he (ev_var rfl)
  exact Turns.name rfl et_yes fun _ => Ev.p (ev_andV (ev_inN (ev_var rfl) hev (sq_of hl)) fun _ => ev_eqN (ev_minute T he (ev_var rfl)) (ev_var rfl)) fun _ _ => rfl
end
end St

end

section

set_option Elab.async false
set_option linter.all false
set_option maxRecDepth 100000
set_option maxHeartbeats 4000000
namespace St
open PySem PySem.Spec PyProof.Rows L2 Evl
/-! ### more of what evaluates to what -/
section
variable {K : PySem.W.Frag} {mg : Str → Option Value} {σ : L2.St} {H H' : Hp} {ta tb te tx to : TE} {t u : TT} {x y z v : V} {D : Ends} {tu tw tz : TS} {R : Addr → Hp → Prop}
theorem q_asgN {i : Nat} (h : EvN te σ H R) (k : ∀ p H1, H p = none → Ex H H1 → R p H1 → tz D (σ.set i (some (.ref p))) H1) : tSeq (tAsg te (gName i)) tz D σ H := h H (Ex.refl H) _ fun p H1 n e r => k p H1 n e r
theorem s_retN (h : EvN te σ H R) (k : ∀ p H1, H p = none → Ex H H1 → R p H1 → D.rt (.ref p) H1) : tRet te D σ H := h H (Ex.refl H) _ fun p H1 n e r => k p H1 n e r
theorem eu_n {xs : List V} (h : EvU te σ H xs) : EvP te σ H (fun v H' => ∃ p, v = .ref p ∧ H' p = some (.tup xs)) := fun H1 e Q q => h H1 e Q fun p H2 n e2 r => q _ H2 e2 ⟨p, rfl, r⟩
theorem ea_one (h : Ev te σ H x) : EvA (tCons te tNil) σ H [x] := ea_cons h ea_nil
theorem ea_two (h : Ev ta σ H x) (h2 : Ev tb σ H y) : EvA (tCons ta (tCons tb tNil)) σ H [x, y] := ea_cons h (ea_cons h2 ea_nil)
theorem ea_three (h : Ev ta σ H x) (h2 : Ev tb σ H y) (h3 : Ev te σ H z) : EvA (tCons ta (tCons tb (tCons te tNil))) σ H [x, y, z] := ea_cons h (ea_cons h2 (ea_cons h3 ea_nil))
theorem eu_two (h : Ev ta σ H x) (h2 : Ev tb σ H y) : EvU (tTup (tCons ta (tCons tb tNil))) σ H [x, y] := eu_tup (ea_two h h2) (by simp)
theorem eu_three (h : Ev ta σ H x) (h2 : Ev tb σ H y) (h3 : Ev te σ H z) : EvU (tTup (tCons ta (tCons tb (tCons te tNil)))) σ H [x, y, z] := eu_tup (ea_three h h2 h3) (by simp)
theorem ev_isMeet {X : XK} {a : Addr} {e : Ent} (h : EntAt K H a e) (ho : Ev to σ H (.ref a)) : Ev (tMeth (cEnt K) "is_meeting" (sp_Entry_is_meeting K) [] X to tNil) σ H (.bl (isMeet e)) := by
  obtain ⟨dx, l, h1, h2⟩ := h.ex
  exact ev_meth ho h1 (eF_none e l) ea_nil fun H1 x => ⟨a, e, rfl, h.mono x, rfl⟩
theorem ev_leN {a b : Nat} (ha : Ev ta σ H (nV a)) (hb : Ev tb σ H (nV b)) : Ev (tOp (rI0 fun i j => .bl (decide (i ≤ j))) ta tb) σ H (.bl (decide (a ≤ b))) := ev_is (ev_op ha hb rv_I0) (by congr 1; simp)
theorem ev_geN {a b : Nat} (ha : Ev ta σ H (nV a)) (hb : Ev tb σ H (nV b)) : Ev (tOp (rI0 fun i j => .bl (decide (i ≥ j))) ta tb) σ H (.bl (decide (b ≤ a))) := ev_is (ev_op ha hb rv_I0) (by congr 1; simp)
theorem et_listN {xs : List V} {p : Addr} (h : Ev te σ H (.ref p)) (hp : SqL K H p xs) : EvT (fun σ H Q => te σ H fun x H' => ∃ k, TruV K x H' k ∧ Q k H') σ H (!xs.isEmpty) := fun H1 e Q q =>
  h H1 e _ fun H2 e2 => ⟨_, .inl ⟨xs, ex_l (e.trans e2) hp, rfl⟩, q H2 e2⟩
theorem ev_ltN {a b : Nat} (ha : Ev ta σ H (nV a)) (hb : Ev tb σ H (nV b)) : Ev (tOp (rI0 fun i j => .bl (decide (i < j))) ta tb) σ H (.bl (decide (a < b))) := ev_is (ev_op ha hb rv_I0) (by congr 1; simp)
theorem ev_gtN {a b : Nat} (ha : Ev ta σ H (nV a)) (hb : Ev tb σ H (nV b)) : Ev (tOp (rI0 fun i j => .bl (decide (j < i))) ta tb) σ H (.bl (decide (b < a))) := ev_is (ev_op ha hb rv_I0) (by congr 1; simp)
/-- a < m < b -/
theorem ev_between {tc : TE} {a b c : Nat} (ha : Ev ta σ H (nV a)) (hb : Ev tb σ H (nV b)) (hc : Ev tc σ H (nV c)) :
    Ev (tChain (rI0 fun i j => .bl (decide (i < j))) (rI0 fun i j => .bl (decide (i < j))) ta tb tc) σ H (.bl (decide (a < b) && decide (b < c))) := fun H1 e Q q =>
  ha H1 e _ fun H2 e2 => hb H2 (e.trans e2) _ fun H3 e3 => ⟨_, _, rfl, rfl, decide ((a : Int) < b), rfl, by
    by_cases h : a < b
    · rw [if_pos (by simpa using h)]
      refine hc H3 ((e.trans e2).trans e3) _ fun H4 e4 => ⟨_, _, rfl, rfl, ?_⟩
      have := q H4 ((e2.trans e3).trans e4)
      simpa [h] using this
    · rw [if_neg (by simpa using h)]
      have := q H3 (e2.trans e3)
      simpa [h] using this⟩
end
/-- rows of two numbers -/
def PairsAt (H : Hp) (q : Addr) (l : List (Nat × Nat)) : Prop := ∃ ys, H q = some (.lst ys) ∧ Paired (fun (p : Nat × Nat) (y : V) => ∃ t, y = .ref t ∧ H t = some (.tup [nV p.1, nV p.2])) l ys
theorem PairsAt.mono {H H' : Hp} {q : Addr} {l : List (Nat × Nat)} (h : PairsAt H q l) (e : Ex H H') : PairsAt H' q l := by
  obtain ⟨ys, h1, h2⟩ := h
  exact ⟨ys, e _ _ h1, paired_imp (fun a y ⟨t, e1, e2⟩ => ⟨t, e1, e _ _ e2⟩) h2⟩
theorem paired_at {α β : Type} {F : α → β → Prop} : ∀ {l : List α} {m : List β} {i : Nat} {a : α} {b : β}, Paired F l m → l[i]? = some a → m[i]? = some b → F a b
  | _, _, 0, _, _, .cons r _, h1, h2 => by cases h1; cases h2; exact r
  | _, _, i + 1, _, _, .cons _ t, h1, h2 => paired_at t (by simpa using h1) (by simpa using h2)
theorem two_le {a b c d : Int} : decide ([a, b] ≤ [c, d]) = decide (a < c ∨ (a = c ∧ b ≤ d)) := by
  congr 1
  rw [List.cons_le_cons_iff, List.cons_le_cons_iff]
  simp
  omega
theorem leMN_le (es : Es) (i j : Nat) : leMN es i j = decide ([((ent es i).minute : Int), (i : Int)] ≤ [((ent es j).minute : Int), (j : Int)]) := by
  rw [two_le]
  unfold leMN
  rw [Bool.eq_iff_iff]
  simp
  omega
def sp_Log_meetings (K : PySem.W.Frag) : Sp := spL fun vs H xs => ∃ L es, vs = [.ref L] ∧ LG K H L es ∧ xs = (meetings es).map nV
def sp_Log_meetings_of (K : PySem.W.Frag) : Sp := spL fun vs H xs => ∃ L es x, vs = [.ref L, nV x] ∧ LG K H L es ∧ xs = (meetingsOf es x).map nV
def oV (o : Option Nat) : V := match o with
  | some n => nV n
  | none => .int (-1)
def sp_Log_first_meeting (K : PySem.W.Frag) : Sp := spV fun vs H v => ∃ L es x m, vs = [.ref L, nV x, nV m] ∧ LG K H L es ∧ v = oV (firstM es x m)
def sp_Log_is_cleaned (K : PySem.W.Frag) : Sp := spV fun vs H v => ∃ L es t a b q more, vs = [.ref L, nV t, nV a, nV b, .ref q] ∧ LG K H L es ∧ PairsAt H q more ∧ more.length ≤ 30000 ∧ v = .bl (isCleaned es t a b more)
def sp_Log_is_find (K : PySem.W.Frag) : Sp := spV fun vs H v => ∃ L es i q fs, vs = [.ref L, nV i, .ref q] ∧ LG K H L es ∧ i < es.length ∧ PairsAt H q fs ∧ fs.length ≤ 30000 ∧ v = .bl (isFind es i fs)
def sp_Log_do_reach (K : PySem.W.Frag) : Sp := spV fun vs H v => ∃ L es x h held q fs, vs = [.ref L, nV x, .ref h, .ref q] ∧ LG K H L es ∧ H h = some (.dK (dKk held)) ∧ held.length ≤ 30000 ∧ (∀ i ∈ held, i < es.length) ∧ PairsAt H q fs ∧ fs.length ≤ 30000 ∧ v = .bl (doReach es x held fs)
section
variable {P : Program} {w : World} {K : PySem.W.Frag} {mg : Str → Option Value} {base : Heap}
abbrev N_Log_meetings : List Str := ["self", "rows", "number", "minute"]
theorem sc_Log_meetings : FnScope N_Log_meetings ["self"] d_Log_meetings.scope := ⟨rfl, rfl, rfl, by decide +kernel, rfl, by decide +kernel, by decide +kernel⟩
theorem ok_Log_meetings (T : Txt K mg) : Ok P w K mg base CX0 2 d_Log_meetings ["self"] (sp_Log_meetings K) := by
  have G_Log_standing : Ok P w K mg base CX0 1 d_Log_standing ["self"] (sp_Log_standing K) := ok_Log_standing T
  have G_Entry_is_meeting : Ok P w K mg base CX0 1 d_Entry_is_meeting ["self"] (sp_Entry_is_meeting K) := ok_Entry_is_meeting T
  refine ok0 T.u_Log_meetings sc_Log_meetings (fun _ _ _ _ _ _ us hl => match us, hl with | [_], _ => rfl) (fun vs H Q E h => ?_) (fun cdv A outer s H vs Q E hr h => ?_)
  · obtain ⟨_, ⟨_, _, rfl, _⟩, _⟩ := h
    rfl
  have nd := sc_Log_meetings.nd
  refine ⟨_, (pss_cons (ps_setLc (i := 1) (own := [("number", 2)]) rfl nd rfl rfl (sw_true rfl rfl rfl (by decide +kernel)) (wlist K (pe_meth0 (pv 0) T.c_Log T.m_Log_standing G_Log_standing.f (hr.mono (by decide)) G_Log_standing.b .nil pass0)) (blkOk_by (N := N_Log_meetings) (sc := d_Log_meetings.scope) (by decide +kernel)) (fun _ _ _ _ _ => (pg_name (i := 2) nd rfl (Or.inl rfl))) (fun _ _ _ _ _ => pts_nil) (fun _ _ _ _ _ => (pe_tup (pa_cons (wfld K (wixL K (wfld K (pv 0)) (pv 2))) (pa_cons (pv 2) pa_nil)))))
  (pss_one (ps_ret (pe_lc (own := [("minute", 3), ("number", 2)]) rfl nd (wlist K (wsortT K (hD_of hr) rfl T.f_sorted (pv 1))) (blkOk_by (N := N_Log_meetings) (sc := d_Log_meetings.scope) (by decide +kernel)) (fun _ _ _ _ _ => (wtup K (n := 2) rfl (pgs_cons (pg_name (i := 3) nd rfl (Or.inl rfl)) (pgs_cons (pg_name (i := 2) nd rfl (Or.inl rfl)) pgs_nil)))) (fun _ _ _ _ _ => (pts_one (pt_val (pe_meth0 (wixL K (wfld K (pv 0)) (pv 2)) T.c_Entry T.m_Entry_is_meeting G_Entry_is_meeting.f (hr.mono (by decide)) G_Entry_is_meeting.b .nil pass0)))) (fun _ _ _ _ _ => (pv 2)))))), ?_⟩
  obtain ⟨_, ⟨L, es, rfl, ⟨E, as, hL, g⟩, rfl⟩, k⟩ := h
  have hz : (standing es).length ≤ 90000 := by have := standing_len es; have := g.len; omega
  refine q_asgN (en_lcN (l := standing es) (p := fun _ => true) (RA := fun i y H => ∃ t, y = .ref t ∧ H t = some (.tup [nV (ent es i).minute, nV i])) (P := fun xs _ => xs = (standing es).map nV) Stays.tup
    ((EvL.n (el_standing hL g (ev_var rfl))).imp fun p H1 _ r => ⟨_, r, rfl⟩) hz (fun xs H1 _ q => by rw [q, List.length_map]) fun xs H1 i a x e q ha hx => ?_) fun p H1 n1 e1 ⟨ys, hy, pr⟩ => ?_
  · subst q
    cases map_at ha hx
    have hi := standing_lt ha
    exact Turns.name rfl et_yes fun _ => eu_n (eu_two (ev_minute T ((hL.ent hi).mono e) (ev_ent T (hL.mono e) (ev_var rfl) (ev_var rfl) hi)) (ev_var rfl))
  · rw [filter_yes] at pr
    refine s_retL (el_of (l := (standing es).mergeSort (leMN es)) (p := fun i => isMeet (ent es i)) (f := nV) (en_lcN (l := (standing es).mergeSort (leMN es)) (P := fun xs H => Paired (fun i y => ∃ t, y = .ref t ∧ H t = some (.tup [nV (ent es i).minute, nV i])) ((standing es).mergeSort (leMN es)) xs) Stays.val
      (en_sortT (f := fun i => [((ent es i).minute : Int), (i : Int)]) (le := leMN es) (l := standing es) (fun _ _ => by simp) (fun i _ j _ => leMN_le es i j) (Ev.p (ev_var rfl) fun H2 e2 => ⟨p, ys, rfl, e2 _ _ hy, paired_imp (fun i y ⟨t, h1, h2⟩ => ⟨t, h1, e2 _ _ h2⟩) pr⟩))
      (by rw [List.length_mergeSort]; exact hz) (fun xs H2 _ q => (paired_len q).symm) fun xs H2 j i x e2 q ha hx => ?_)) fun p H2 n2 e2 h2 => k p H2 (fresh_back e1 n2) (e1.trans e2) h2
    obtain ⟨t, rfl, ht⟩ := paired_at q ha hx
    have hi : i < es.length := (mem_standing.mp (List.mem_mergeSort.mp (List.mem_of_getElem? ha))).1
    have hL2 := hL.mono (e1.trans e2)
    exact Turns.pair (st_of ht) rfl (et_B (ev_isMeet (hL2.ent hi) (ev_ent T hL2 (ev_var rfl) (ev_var rfl) hi))) fun _ => Ev.p (ev_var rfl) fun _ _ => rfl
theorem el_meetings {H : Hp} {σ : L2.St} {L E : Addr} {as : List Addr} {es : Es} {X : XK} {to : TE} (hL : LogAt K H L E as es) (g : Good es) (ho : Ev to σ H (.ref L)) : EvL (tMeth (cLog K) "meetings" (sp_Log_meetings K) [] X to tNil) σ H ((meetings es).map nV) :=
  lg_methL hL ho (by decide +kernel) ea_nil fun H1 e => ⟨L, es, rfl, ⟨E, as, hL.mono e, g⟩, rfl⟩
theorem meetings_lt {es : Es} {i j : Nat} (h : (meetings es)[j]? = some i) : i < es.length := (mem_meetings.mp (List.mem_of_getElem? h)).1
theorem mz {es : Es} (g : Good es) : (meetings es).length ≤ 90000 := by have := meetings_len es; have := g.len; omega
/-- a comprehension over the meetings -/
theorem en_meetings {H : Hp} {σ : L2.St} {L E : Addr} {as : List Addr} {es : Es} {X : XK} {to te : TE} {tt : TT} {vs : List Nat} {gg : TG} {p : Nat → Bool} {RA : Nat → V → Hp → Prop} (S : Stays RA) (hL : LogAt K H L E as es) (g : Good es) (ho : Ev to σ H (.ref L))
    (turn : ∀ H1 i, Ex H H1 → i ∈ meetings es → i < es.length → Turns σ vs gg tt te H1 p RA i (nV i)) :
    EvN (tLc (iList K (tMeth (cLog K) "meetings" (sp_Log_meetings K) [] X to tNil)) gg tt te vs) σ H (fun D H' => ∃ ys, H' D = some (.lst ys) ∧ Paired (fun a y => RA a y H') ((meetings es).filter p) ys) :=
  en_lcN (l := meetings es) (P := fun xs _ => xs = (meetings es).map nV) S ((EvL.n (el_meetings hL g ho)).imp fun p H1 _ r => ⟨_, r, rfl⟩) (mz g) (fun xs H1 _ q => by rw [q, List.length_map]) fun xs H1 i a x e q ha hx => by
    subst q
    cases map_at ha hx
    exact turn H1 a e (List.mem_of_getElem? ha) (meetings_lt ha)
abbrev N_Log_meetings_of : List Str := ["self", "lot", "number"]
theorem sc_Log_meetings_of : FnScope N_Log_meetings_of ["self", "lot"] d_Log_meetings_of.scope := ⟨rfl, rfl, rfl, by decide +kernel, rfl, by decide +kernel, by decide +kernel⟩
theorem ok_Log_meetings_of (T : Txt K mg) : Ok P w K mg base CX0 3 d_Log_meetings_of ["self", "lot"] (sp_Log_meetings_of K) := by
  have G_Log_meetings : Ok P w K mg base CX0 2 d_Log_meetings ["self"] (sp_Log_meetings K) := ok_Log_meetings T
  refine ok0 T.u_Log_meetings_of sc_Log_meetings_of (fun _ _ _ _ _ _ us hl => match us, hl with | [_, _], _ => rfl) (fun vs H Q E h => ?_) (fun cdv A outer s H vs Q E hr h => ?_)
  · obtain ⟨_, ⟨_, _, _, rfl, _⟩, _⟩ := h
    rfl
  have nd := sc_Log_meetings_of.nd
  refine ⟨_, (pss_one (ps_ret (pe_lc (own := [("number", 2)]) rfl nd (wlist K (pe_meth0 (pv 0) T.c_Log T.m_Log_meetings G_Log_meetings.f (hr.mono (by decide)) G_Log_meetings.b .nil pass0)) (blkOk_by (N := N_Log_meetings_of) (sc := d_Log_meetings_of.scope) (by decide +kernel)) (fun _ _ _ _ _ => (pg_name (i := 2) nd rfl (Or.inl rfl))) (fun _ _ _ _ _ => (pts_one (wtinL K (pv 1) (wfld K (wixL K (wfld K (pv 0)) (pv 2)))))) (fun _ _ _ _ _ => (pv 2))))), ?_⟩
  obtain ⟨_, ⟨L, es, x, rfl, ⟨E, as, hL, g⟩, rfl⟩, k⟩ := h
  refine s_retL (el_of (l := meetings es) (p := fun i => decide (x ∈ (ent es i).lots)) (f := nV) (en_meetings Stays.val hL g (ev_var rfl) fun H1 i e _ hi => ?_)) k
  obtain ⟨l, hl, hev⟩ := ev_lots (ta := tOp (rIxL K) (tFld K (tVar 0) "entries") (tVar 2)) (σ := (wipe [some (.ref L), some (nV x), none] [2]).set 2 (some (nV i))) T ((hL.mono e).ent hi) (ev_ent T (hL.mono e) (ev_var rfl) (ev_var rfl) hi)
  exact Turns.name rfl (et_test (ev_inN (ev_var rfl) hev (sq_of hl))) fun _ => Ev.p (ev_var rfl) fun _ _ => rfl
theorem el_meetingsOf {H : Hp} {σ : L2.St} {L E : Addr} {as : List Addr} {es : Es} {X : XK} {to tx : TE} {x : Nat} (hL : LogAt K H L E as es) (g : Good es) (ho : Ev to σ H (.ref L)) (hx : Ev tx σ H (nV x)) : EvL (tMeth (cLog K) "meetings_of" (sp_Log_meetings_of K) [] X to (tCons tx tNil)) σ H ((meetingsOf es x).map nV) :=
  lg_methL hL ho (by decide +kernel) (ea_one hx) fun H1 e => ⟨L, es, x, rfl, ⟨E, as, hL.mono e, g⟩, rfl⟩
theorem meetingsOf_sub (es : Es) (x : Nat) : (meetingsOf es x).Sublist (meetings es) := List.filter_sublist
theorem meetingsOf_lt {es : Es} {x i : Nat} (h : i ∈ meetingsOf es x) : i < es.length := (mem_meetings.mp ((meetingsOf_sub es x).subset h)).1
abbrev N_Log_first_meeting : List Str := ["self", "lot", "minute", "rows", "number"]
theorem sc_Log_first_meeting : FnScope N_Log_first_meeting ["self", "lot", "minute"] d_Log_first_meeting.scope := ⟨rfl, rfl, rfl, by decide +kernel, rfl, by decide +kernel, by decide +kernel⟩
theorem ok_Log_first_meeting (T : Txt K mg) : Ok P w K mg base CX0 4 d_Log_first_meeting ["self", "lot", "minute"] (sp_Log_first_meeting K) := by
  have G_Log_meetings_of : Ok P w K mg base CX0 3 d_Log_meetings_of ["self", "lot"] (sp_Log_meetings_of K) := ok_Log_meetings_of T
  refine ok0 T.u_Log_first_meeting sc_Log_first_meeting (fun _ _ _ _ _ _ us hl => match us, hl with | [_, _, _], _ => rfl) (fun vs H Q E h => ?_) (fun cdv A outer s H vs Q E hr h => ?_)
  · obtain ⟨_, ⟨_, _, _, _, rfl, _⟩, _⟩ := h
    rfl
  have nd := sc_Log_first_meeting.nd
  refine ⟨_, (pss_cons (ps_setLc (i := 3) (own := [("number", 4)]) rfl nd rfl rfl (sw_true rfl rfl rfl (by decide +kernel)) (wlist K (pe_meth (pv 0) T.c_Log T.m_Log_meetings_of G_Log_meetings_of.f (hr.mono (by decide)) G_Log_meetings_of.b .nil pass0 (pa_cons (pv 1) pa_nil))) (blkOk_by (N := N_Log_first_meeting) (sc := d_Log_first_meeting.scope) (by decide +kernel)) (fun _ _ _ _ _ => (pg_name (i := 4) nd rfl (Or.inl rfl))) (fun _ _ _ _ _ => (pts_one (pt_cmpR op_ge (wfld K (wixL K (wfld K (pv 0)) (pv 4))) (pv 2) (nomark _)))) (fun _ _ _ _ _ => (pv 4)))
  (pss_one (ps_ret (pe_ifExp (wtru K (pv 3)) (wixL K (pv 3) pe_int) (pe_un un_neg pe_int))))), ?_⟩
  obtain ⟨_, ⟨L, es, x, m, rfl, ⟨E, as, hL, g⟩, rfl⟩, k⟩ := h
  refine q_asgL (el_of (l := meetingsOf es x) (p := fun i => decide (m ≤ (ent es i).minute)) (f := nV) (en_lcN (l := meetingsOf es x) (P := fun xs _ => xs = (meetingsOf es x).map nV) Stays.val
    ((EvL.n (el_meetingsOf hL g (ev_var rfl) (ev_var rfl))).imp fun p H1 _ r => ⟨_, r, rfl⟩) (Nat.le_trans (meetingsOf_sub es x).length_le (mz g)) (fun xs H1 _ q => by rw [q, List.length_map]) fun xs H1 i a y e q ha hx => ?_)) fun p H1 n1 e1 hp => ?_
  · subst q
    cases map_at ha hx
    have hi := meetingsOf_lt (List.mem_of_getElem? ha)
    exact Turns.name rfl (et_test (ev_geN (ev_minute T ((hL.mono e).ent hi) (ev_ent T (hL.mono e) (ev_var rfl) (ev_var rfl) hi)) (ev_var rfl))) fun _ => Ev.p (ev_var rfl) fun _ _ => rfl
  · refine s_ret (v := oV (firstM es x m)) (ev_if (et_listN (ev_var rfl) (sq_of hp)) (fun hb => ?_) fun hb => ?_) fun H2 e2 => k H2 (e1.trans e2)
    · unfold firstM
      cases hc : (meetingsOf es x).filter fun i => decide (m ≤ (ent es i).minute) with
      | nil => rw [hc] at hb; cases hb
      | cons a r =>
        rw [hc] at hp
        exact ev_ixL (i := 0) (ev_var rfl) ev_c (sq_of hp) rfl
    · unfold firstM
      cases hc : (meetingsOf es x).filter fun i => decide (m ≤ (ent es i).minute) with
      | nil => exact ev_un ev_c ru_neg
      | cons a r => rw [hc] at hb; cases hb
abbrev N_Log_is_find : List Str := ["self", "number", "finds", "entry", "lot", "minute"]
theorem sc_Log_is_find : FnScope N_Log_is_find ["self", "number", "finds"] d_Log_is_find.scope := ⟨rfl, rfl, rfl, by decide +kernel, rfl, by decide +kernel, by decide +kernel⟩
theorem ok_Log_is_find (T : Txt K mg) : Ok P w K mg base CX0 1 d_Log_is_find ["self", "number", "finds"] (sp_Log_is_find K) := by
  refine ok0 T.u_Log_is_find sc_Log_is_find (fun _ _ _ _ _ _ us hl => match us, hl with | [_, _, _], _ => rfl) (fun vs H Q E h => ?_) (fun cdv A outer s H vs Q E hr h => ?_)
  · obtain ⟨_, ⟨_, _, _, _, _, rfl, _⟩, _⟩ := h
    rfl
  have nd := sc_Log_is_find.nd
  refine ⟨_, (pss_cons (ps_set (i := 3) nd rfl (Or.inr rfl) (wixL K (wfld K (pv 0)) (pv 1)))
  (pss_one (ps_ret (wany K rfl rfl T.f_any (pe_lc (own := [("lot", 4), ("minute", 5)]) rfl nd (wlist K (pv 2)) (blkOk_by (N := N_Log_is_find) (sc := d_Log_is_find.scope) (by decide +kernel)) (fun _ _ _ _ _ => (wtup K (n := 2) rfl (pgs_cons (pg_name (i := 4) nd rfl (Or.inl rfl)) (pgs_cons (pg_name (i := 5) nd rfl (Or.inl rfl)) pgs_nil)))) (fun _ _ _ _ _ => pts_nil) (fun _ _ _ _ _ => (pe_and (winL K (pv 4) (wfld K (pv 3))) (pe_one (pe_cmpR op_le (wfld K (pv 3)) (pv 5) (nomark _)))))))))), ?_⟩
  obtain ⟨_, ⟨L, es, i, q, fs, rfl, ⟨E, as, hL, g⟩, hi, hq, hz, rfl⟩, k⟩ := h
  refine q_asg (ev_ent T hL (ev_var rfl) (ev_var rfl) hi) fun H1 e1 => ?_
  obtain ⟨ys, hy, pr⟩ := hq.mono e1
  refine s_ret (v := .bl (isFind es i fs)) (ev_is (ev_any (bs := fs.map fun f => decide (f.1 ∈ (ent es i).lots) && decide ((ent es i).minute ≤ f.2)) (el_is (el_of (l := fs) (p := fun _ => true)
    (f := fun f => .bl (decide (f.1 ∈ (ent es i).lots) && decide ((ent es i).minute ≤ f.2))) (en_lcL Stays.val (ev_var rfl) (sq_of hy) (paired_len pr).symm (by omega) fun j f x ha hx => ?_)) (by rw [filter_yes, List.map_map]; rfl))) (by rw [List.any_map]; rfl)) fun H2 e2 => k H2 (e1.trans e2)
  obtain ⟨t, rfl, ht⟩ := paired_at pr ha hx
  have he := (hL.ent hi).mono e1
  obtain ⟨l, hl, hev⟩ := ev_lots (ta := tVar 3) (σ := ((wipe [some (.ref L), some (nV i), some (.ref q), some (.ref (ad as i)), none, none] [4, 5]).set 4 (some (nV f.1))).set 5 (some (nV f.2))) T he (ev_var rfl)
  exact Turns.pair (st_of ht) rfl et_yes fun _ => Ev.p (ev_andV (ev_inN (ev_var rfl) hev (sq_of hl)) fun _ => ev_leN (ev_minute T he (ev_var rfl)) (ev_var rfl)) fun _ _ => rfl
end
end St

end

section

set_option Elab.async false
set_option linter.all false
set_option maxRecDepth 100000
set_option maxHeartbeats 4000000
namespace St
open PySem PySem.Spec PyProof.Rows L2 Evl
section
variable {K : PySem.W.Frag} {mg : Str → Option Value} {σ : L2.St} {H H' : Hp} {ta tb te tx to td ty tv : TE} {t u : TT} {x y z v : V} {D : Ends} {tu tw tz : TS} {R : Addr → Hp → Prop}
/-- xs.extend(ys), ys new -/
theorem s_ext {l : Addr} {xs ys : List V} (hl : H l = some (.lst xs)) (ha : Ev ta σ H (.ref l)) (h : EvL te σ H ys) (hz : xs.length + ys.length ≤ 100000) (k : ∀ H1, Ex H H1 → D.nx σ (upd H1 l (.lst (xs ++ ys)))) :
    tDrop (tBM K "list" rExtend ta (tCons te tNil)) D σ H := ha H (Ex.refl H) _ fun H1 e1 =>
  ⟨Or.inl ⟨rfl, xs, sq_of (e1 l _ hl)⟩, h H1 e1 _ fun p H2 hp e2 h2 => ⟨l, p, xs, ys, rfl, rfl, e2 l _ (e1 l _ hl), h2, sz_of hz, k H2 (e1.trans e2)⟩⟩
theorem q_ext {l : Addr} {xs ys : List V} (hl : H l = some (.lst xs)) (ha : Ev ta σ H (.ref l)) (h : EvL te σ H ys) (hz : xs.length + ys.length ≤ 100000) (k : ∀ H1, Ex H H1 → tz D σ (upd H1 l (.lst (xs ++ ys)))) :
    tSeq (tDrop (tBM K "list" rExtend ta (tCons te tNil))) tz D σ H := s_ext (D := { D with nx := tz D }) hl ha h hz k
/-- .. whose items are told by a relation -/
theorem s_extP {l : Addr} {xs : List V} {Rr : List V → Hp → Prop} {n : Nat} (hl : H l = some (.lst xs)) (ha : Ev ta σ H (.ref l)) (h : EvN te σ H (fun p H' => ∃ ys, H' p = some (.lst ys) ∧ Rr ys H')) (hz : ∀ ys H1, Rr ys H1 → xs.length + ys.length ≤ 100000)
    (k : ∀ H1 ys, Ex H H1 → Rr ys H1 → D.nx σ (upd H1 l (.lst (xs ++ ys)))) :
    tDrop (tBM K "list" rExtend ta (tCons te tNil)) D σ H := ha H (Ex.refl H) _ fun H1 e1 =>
  ⟨Or.inl ⟨rfl, xs, sq_of (e1 l _ hl)⟩, h H1 e1 _ fun p H2 hp e2 ⟨ys, h2, r⟩ => ⟨l, p, xs, ys, rfl, rfl, e2 l _ (e1 l _ hl), h2, sz_of (hz _ _ r), k H2 ys (e1.trans e2) r⟩⟩
/-- told[n] = True -/
theorem s_dputK {d : Addr} {l : List Nat} {n : Nat} (hd : H d = some (.dK (dKk l))) (hv : Ev tv σ H (.bl true)) (ho : Ev td σ H (.ref d)) (hy : Ev ty σ H (nV n)) (hz : l.length < 90000) (k : ∀ H1, Ex H H1 → D.nx σ (upd H1 d (.dK (dKk (dput l n))))) : sDPut td ty tv D σ H :=
  hv H (Ex.refl H) _ fun H1 e1 => ho H1 e1 _ fun H2 e2 => hy H2 (e1.trans e2) _ fun H3 e3 => ⟨d, _, rfl, DPut.k (k := ik n) (((e1.trans e2).trans e3) _ _ hd) (by rw [dKk_len]; exact sz_lt (by omega)), by
    rw [dKk_put]
    exact k H3 ((e1.trans e2).trans e3)⟩
/-- told[(a, b)] = True -/
theorem s_dputT {d : Addr} {l : List (Nat × Nat)} {p : Nat × Nat} (hd : H d = some (.dT (dTk l))) (hv : Ev tv σ H (.bl true)) (ho : Ev td σ H (.ref d)) (hy : EvU ty σ H [nV p.1, nV p.2]) (hz : l.length < 90000) (k : ∀ H1, Ex H H1 → D.nx σ (upd H1 d (.dT (dTk (dput l p))))) : sDPut td ty tv D σ H :=
  hv H (Ex.refl H) _ fun H1 e1 => ho H1 e1 _ fun H2 e2 => hy H2 (e1.trans e2) _ fun t H3 _ e3 ht => ⟨d, _, rfl, DPut.t (k := kk p) (((e1.trans e2).trans e3) _ _ hd) ht (by rw [dTk_len]; exact sz_lt (by omega)), by
    rw [dTk_put]
    exact k H3 ((e1.trans e2).trans e3)⟩
theorem q_newK {i : Nat} (k : ∀ p, H p = none → tz D (σ.set i (some (.ref p))) (upd H p (.dK []))) : tSeq (tAsg tDNewK (gName i)) tz D σ H := fun p hp => k p hp
theorem q_newT {i : Nat} (k : ∀ p, H p = none → tz D (σ.set i (some (.ref p))) (upd H p (.dT []))) : tSeq (tAsg tDNewT (gName i)) tz D σ H := fun p hp => k p hp
end
/-! ### what stands beside a dict -/
def isDict : HO → Bool
  | .dK _ => true
  | .dT _ => true
  | _ => false
theorem LogAt.but {K : PySem.W.Frag} {H : Hp} {L E d : Addr} {as : List Addr} {es : Es} {u v : HO} (h : LogAt K H L E as es) (hd : H d = some u) (hu : isDict u = true) : LogAt K (upd H d v) L E as es := by
  have ne : ∀ b o, H b = some o → isDict o = false → (upd H d v) b = some o := fun b o hb ho => by
    rw [upd_ne (fun z => ?_)]
    · exact hb
    · subst z
      rw [hb] at hd
      cases hd
      rw [ho] at hu
      cases hu
  refine ⟨h.obj.imp fun _ q => ne _ _ q rfl, ne _ _ h.lst rfl, h.len, h.nd, fun i hi => ?_⟩
  obtain ⟨a, p, q⟩ := h.at_ i hi
  obtain ⟨dx, l, h1, h2⟩ := q.ex
  exact ⟨a, p, ⟨dx, l, ne _ _ h1 rfl, ne _ _ h2 rfl⟩⟩
theorem PairsAt.but {H : Hp} {d q : Addr} {l : List (Nat × Nat)} {u v : HO} (h : PairsAt H q l) (hd : H d = some u) (hu : isDict u = true) : PairsAt (upd H d v) q l := by
  have ne : ∀ b o, H b = some o → isDict o = false → (upd H d v) b = some o := fun b o hb ho => by
    rw [upd_ne (fun z => ?_)]
    · exact hb
    · subst z
      rw [hb] at hd
      cases hd
      rw [ho] at hu
      cases hu
  obtain ⟨ys, h1, h2⟩ := h
  exact ⟨ys, ne _ _ h1 rfl, paired_imp (fun a y ⟨t, e1, e2⟩ => ⟨t, e1, ne _ _ e2 rfl⟩) h2⟩
section
variable {P : Program} {w : World} {K : PySem.W.Frag} {mg : Str → Option Value} {base : Heap}
abbrev N_Log_is_cleaned : List Str := ["self", "thing", "first", "last", "more", "rows", "minutes", "number", "entry", "own", "minute"]
theorem sc_Log_is_cleaned : FnScope N_Log_is_cleaned ["self", "thing", "first", "last", "more"] d_Log_is_cleaned.scope := ⟨rfl, rfl, rfl, by decide +kernel, rfl, by decide +kernel, by decide +kernel⟩
theorem ok_Log_is_cleaned (T : Txt K mg) : Ok P w K mg base CX0 2 d_Log_is_cleaned ["self", "thing", "first", "last", "more"] (sp_Log_is_cleaned K) := by
  have G_Log_standing : Ok P w K mg base CX0 1 d_Log_standing ["self"] (sp_Log_standing K) := ok_Log_standing T
  have G_Entry_is_meeting : Ok P w K mg base CX0 1 d_Entry_is_meeting ["self"] (sp_Entry_is_meeting K) := ok_Entry_is_meeting T
  refine ok0 T.u_Log_is_cleaned sc_Log_is_cleaned (fun _ _ _ _ _ _ us hl => match us, hl with | [_, _, _, _, _], _ => rfl) (fun vs H Q E h => ?_) (fun cdv A outer s H vs Q E hr h => ?_)
  · obtain ⟨_, ⟨_, _, _, _, _, _, _, rfl, _⟩, _⟩ := h
    rfl
  have nd := sc_Log_is_cleaned.nd
  refine ⟨_, (pss_cons (ps_setLc (i := 5) (own := [("number", 7)]) rfl nd rfl rfl (sw_true rfl rfl rfl (by decide +kernel)) (wlist K (pe_meth0 (pv 0) T.c_Log T.m_Log_standing G_Log_standing.f (hr.mono (by decide)) G_Log_standing.b .nil pass0)) (blkOk_by (N := N_Log_is_cleaned) (sc := d_Log_is_cleaned.scope) (by decide +kernel)) (fun _ _ _ _ _ => (pg_name (i := 7) nd rfl (Or.inl rfl))) (fun _ _ _ _ _ => pts_nil) (fun _ _ _ _ _ => (wixL K (wfld K (pv 0)) (pv 7))))
  (pss_cons (ps_setLc (i := 6) (own := [("entry", 8)]) rfl nd rfl rfl (sw_true rfl rfl rfl (by decide +kernel)) (wlist K (pv 5)) (blkOk_by (N := N_Log_is_cleaned) (sc := d_Log_is_cleaned.scope) (by decide +kernel)) (fun _ _ _ _ _ => (pg_name (i := 8) nd rfl (Or.inl rfl))) (fun _ _ _ _ _ => (pts_one (PW.pt (pw_and (pt_cmpR op_eq (wfld K (pv 8)) (pv 1) (nomark _)) (pw_and1 (pt_not (pt_val (pe_meth0 (pv 8) T.c_Entry T.m_Entry_is_meeting G_Entry_is_meeting.f (hr.mono (by decide)) G_Entry_is_meeting.b .nil pass0)))))))) (fun _ _ _ _ _ => (wfld K (pv 8))))
  (pss_cons (ps_expr (wext K (pv 6) (pe_lc (own := [("own", 9), ("minute", 10)]) rfl nd (wlist K (pv 4)) (blkOk_by (N := N_Log_is_cleaned) (sc := d_Log_is_cleaned.scope) (by decide +kernel)) (fun _ _ _ _ _ => (wtup K (n := 2) rfl (pgs_cons (pg_name (i := 9) nd rfl (Or.inl rfl)) (pgs_cons (pg_name (i := 10) nd rfl (Or.inl rfl)) pgs_nil)))) (fun _ _ _ _ _ => (pts_one (pt_cmpR op_eq (pv 9) (pv 1) (nomark _)))) (fun _ _ _ _ _ => (pv 10)))))
  (pss_one (ps_ret (wany K rfl rfl T.f_any (pe_lc (own := [("minute", 10)]) rfl nd (wlist K (pv 6)) (blkOk_by (N := N_Log_is_cleaned) (sc := d_Log_is_cleaned.scope) (by decide +kernel)) (fun _ _ _ _ _ => (pg_name (i := 10) nd rfl (Or.inl rfl))) (fun _ _ _ _ _ => pts_nil) (fun _ _ _ _ _ => (pe_chain op_lt op_lt (pv 2) (pv 10) (pv 3)))))))))), ?_⟩
  obtain ⟨_, ⟨L, es, t, a, b, q, more, rfl, ⟨E, as, hL, g⟩, hq, hz, rfl⟩, k⟩ := h
  have hs : (standing es).length ≤ 80 := by have := standing_len es; have := g.len; omega
  refine q_asgL (el_stood T hL g (ev_var rfl) (fun _ => rfl) (fun _ => ev_var rfl) fun _ => rfl) fun p H1 n e1 hp => ?_
  refine q_asgL (el_of (l := standing es) (p := fun i => decide ((ent es i).thing = t) && !isMeet (ent es i)) (f := fun i => nV (ent es i).minute) (en_lcL Stays.val (ev_var rfl) (sq_of hp) (by rw [List.length_map]) (by omega) fun i j x ha hx => ?_)) fun m H2 n2 e2 hm => ?_
  · cases map_at ha hx
    have he := (hL.ent (standing_lt ha)).mono e1
    exact Turns.name rfl (et_and (et_test (ev_eqN (ev_thing T he (ev_var rfl)) (ev_var rfl))) fun _ => et_not (et_B (ev_isMeet he (ev_var rfl)))) fun _ => Ev.p (ev_minute T he (ev_var rfl)) fun _ _ => rfl
  · obtain ⟨ys, hy, pr⟩ := (hq.mono e1).mono e2
    have hl1 : ((standing es).filter fun i => decide ((ent es i).thing = t) && !isMeet (ent es i)).length ≤ 80 := Nat.le_trans (List.length_filter_le ..) hs
    refine q_ext hm (ev_var rfl) (el_of (l := more) (p := fun c => decide (c.1 = t)) (f := fun c => nV c.2) (en_lcL Stays.val (ev_var rfl) (sq_of hy) (paired_len pr).symm (by omega) fun i c x ha hx => ?_)) ?_ fun H3 e3 => ?_
    · obtain ⟨tt, rfl, ht⟩ := paired_at pr ha hx
      exact Turns.pair (st_of ht) rfl (et_test (ev_eqN (ev_var rfl) (ev_var rfl))) fun _ => Ev.p (ev_var rfl) fun _ _ => rfl
    · rw [List.length_map, List.length_map]
      have := List.length_filter_le (fun c : Nat × Nat => decide (c.1 = t)) more
      omega
    · have hl : (((standing es).filter fun i => decide ((ent es i).thing = t) && !isMeet (ent es i)).map (fun i => nV (ent es i).minute) ++ (more.filter fun c => decide (c.1 = t)).map fun c => nV c.2) = (cleanMinutes es t more).map nV := by
        unfold cleanMinutes
        rw [List.map_append, List.map_map, List.map_map]
        rfl
      have hcl : (cleanMinutes es t more).length ≤ 90000 := by
        unfold cleanMinutes
        rw [List.length_append, List.length_map, List.length_map]
        have := List.length_filter_le (fun c : Nat × Nat => decide (c.1 = t)) more
        omega
      rw [hl]
      refine s_ret (v := .bl (isCleaned es t a b more)) (ev_is (ev_any (bs := (cleanMinutes es t more).map fun m => decide (a < m) && decide (m < b)) (el_is (el_of (l := cleanMinutes es t more) (p := fun _ => true)
        (f := fun m => .bl (decide (a < m) && decide (m < b))) (en_lcL (xs := (cleanMinutes es t more).map nV) Stays.val (ev_var rfl) (sq_of upd_same) (List.length_map ..) hcl fun i m x ha hx => ?_)) (by rw [filter_yes, List.map_map]; rfl))) (by rw [List.any_map]; rfl)) fun H4 e4 => k H4 ?_
      · cases map_at ha hx
        exact Turns.name rfl et_yes fun _ => Ev.p (ev_between (ev_var rfl) (ev_var rfl) (ev_var rfl)) fun _ _ => rfl
      · exact (((e1.trans e2).trans e3).mut (fresh_back e1 n2)).trans e4
abbrev N_Log_do_reach : List Str := ["self", "lot", "held", "finds", "own", "number"]
theorem sc_Log_do_reach : FnScope N_Log_do_reach ["self", "lot", "held", "finds"] d_Log_do_reach.scope := ⟨rfl, rfl, rfl, by decide +kernel, rfl, by decide +kernel, by decide +kernel⟩
theorem ok_Log_do_reach (T : Txt K mg) : Ok P w K mg base CX0 2 d_Log_do_reach ["self", "lot", "held", "finds"] (sp_Log_do_reach K) := by
  have G_Log_is_find : Ok P w K mg base CX0 1 d_Log_is_find ["self", "number", "finds"] (sp_Log_is_find K) := ok_Log_is_find T
  refine ok0 T.u_Log_do_reach sc_Log_do_reach (fun _ _ _ _ _ _ us hl => match us, hl with | [_, _, _, _], _ => rfl) (fun vs H Q E h => ?_) (fun cdv A outer s H vs Q E hr h => ?_)
  · obtain ⟨_, ⟨_, _, _, _, _, _, _, rfl, _⟩, _⟩ := h
    rfl
  have nd := sc_Log_do_reach.nd
  refine ⟨_, (pss_one (ps_ret (pe_or (wany K rfl rfl T.f_any (pe_lc (own := [("own", 4)]) rfl nd (wlist K (pv 3)) (blkOk_by (N := N_Log_do_reach) (sc := d_Log_do_reach.scope) (by decide +kernel)) (fun _ _ _ _ _ => (pg_name (i := 4) nd rfl (Or.inl rfl))) (fun _ _ _ _ _ => pts_nil) (fun _ _ _ _ _ => (pe_cmpR op_eq (wixT K (pv 4) pe_int) (pv 1) (nomark _))))) (pe_one (wany K rfl rfl T.f_any (pe_free (pe_lc (own := [("number", 5)]) rfl nd (pi_keysL (pv 2)) (blkOk_by (N := N_Log_do_reach) (sc := d_Log_do_reach.scope) (by decide +kernel)) (fun _ _ _ _ _ => (pg_name (i := 5) nd rfl (Or.inl rfl))) (fun _ _ _ _ _ => pts_nil) (fun _ _ _ _ _ => (pe_meth (pv 0) T.c_Log T.m_Log_is_find G_Log_is_find.f (hr.mono (by decide)) G_Log_is_find.b .nil pass0 (pa_cons (pv 5) (pa_cons (pv 3) pa_nil))))))))))), ?_⟩
  obtain ⟨_, ⟨L, es, x, h0, held, q, fs, rfl, ⟨E, as, hL, g⟩, hh, hz, hlt, hq, hzf, rfl⟩, k⟩ := h
  obtain ⟨ys, hy, pr⟩ := id hq
  refine s_ret (v := .bl (doReach es x held fs)) (ev_is (ev_orV (a := fs.any fun f => decide (f.1 = x)) (b := held.any fun i => isFind es i fs) (ev_is (ev_any (bs := fs.map fun f => decide (f.1 = x)) (el_is (el_of (l := fs) (p := fun _ => true)
    (f := fun f => .bl (decide (f.1 = x))) (en_lcL Stays.val (ev_var rfl) (sq_of hy) (paired_len pr).symm (by omega) fun j f y ha hx => ?_)) (by rw [filter_yes, List.map_map]; rfl))) (by rw [List.any_map]; rfl)) fun _ => ev_is (ev_any (bs := held.map fun i => isFind es i fs) (el_is (el_of (l := held) (p := fun _ => true)
    (f := fun i => .bl (isFind es i fs)) (en_keysK (key := ik) Stays.val Unl.val (ev_var rfl) hh (dKk_keys held) (by omega) fun o H1 i e hi => ?_)) (by rw [filter_yes, List.map_map]; rfl))) (by rw [List.any_map]; rfl)) ?_) k
  · obtain ⟨t, rfl, ht⟩ := paired_at pr ha hx
    exact Turns.name rfl et_yes fun _ => Ev.p (ev_eqN (ev_ixT (i := 0) (ev_var rfl) ev_c (st_of ht) rfl) (ev_var rfl)) fun _ _ => rfl
  · have hL2 : LogAt K H1 L E as es := (hL.but hh rfl).mono e
    have hq2 : PairsAt H1 q fs := (hq.but hh rfl).mono e
    exact Turns.name rfl et_yes fun _ => Ev.p (lg_meth hL2 (ev_var rfl) (by decide +kernel) (ea_two (ev_var rfl) (ev_var rfl)) fun H2 e2 => ⟨L, es, i, q, fs, rfl, ⟨E, as, hL2.mono e2, g⟩, hlt i hi, hq2.mono e2, hzf, rfl⟩) fun _ _ => rfl
  · rfl
end
end St

end

section

set_option Elab.async false
set_option linter.all false
set_option maxRecDepth 100000
set_option maxHeartbeats 4000000
namespace St
open PySem PySem.Spec PyProof.Rows L2 Evl
/-! ### how long lists get -/
theorem dput_len {α : Type} [DecidableEq α] (l : List α) (k : α) : (dput l k).length ≤ l.length + 1 := by
  unfold dput
  split <;> simp
theorem foldl_dput_len {α : Type} [DecidableEq α] : ∀ (ks l : List α), (ks.foldl dput l).length ≤ l.length + ks.length
  | [], l => Nat.le_refl _
  | k :: ks, l => by
    have h1 := foldl_dput_len ks (dput l k)
    have h2 := dput_len l k
    rw [List.foldl_cons, List.length_cons]
    omega
theorem flatMap_len {α β : Type} {f : α → List β} {n : Nat} : ∀ {l : List α}, (∀ a ∈ l, (f a).length ≤ n) → (l.flatMap f).length ≤ l.length * n
  | [], _ => by simp
  | a :: l, h => by
    have h1 := flatMap_len (f := f) (n := n) (l := l) fun b hb => h b (List.mem_cons_of_mem _ hb)
    have h2 := h a (List.mem_cons_self ..)
    rw [List.flatMap_cons, List.length_append, List.length_cons, Nat.succ_mul]
    omega
theorem flatMap_take {α β : Type} {f : α → List β} {l : List α} {i : Nat} {a : α} (h : l[i]? = some a) : (l.take (i + 1)).flatMap f = (l.take i).flatMap f ++ f a := by
  rw [take_snoc h, List.flatMap_append]
  simp
theorem lots_len {es : Es} (g : Good es) {i : Nat} (hi : i < es.length) : (ent es i).lots.length ≤ 12 := (g.row _ (ent_mem hi)).1
theorem lotsOf_len {es : Es} (g : Good es) : ((meetings es).flatMap fun i => (ent es i).lots).length ≤ 960 := by
  have h := flatMap_len (f := fun i => (ent es i).lots) (n := 12) (l := meetings es) fun i hi => lots_len g (mem_meetings.mp hi).1
  have := meetings_len es
  have := g.len
  omega
theorem rising_len (l : List Nat) : (TbStLog.rising l).length ≤ l.length := by
  unfold TbStLog.rising
  have h := (eraseDups_sub _ (l.mergeSort fun (a b : Nat) => decide (a ≤ b)) (Nat.le_refl _)).length_le
  rw [List.length_mergeSort] at h
  exact h
theorem allLots_len {es : Es} (g : Good es) : (allLots es).length ≤ 960 := Nat.le_trans (rising_len _) (lotsOf_len g)
theorem rising_perm {l k : List Nat} (hk : k.Nodup) (h : ∀ x, x ∈ k ↔ x ∈ l) : (TbStLog.rising l).Perm k :=
  (List.perm_ext_iff_of_nodup ((rising_sorted l).imp fun h => Nat.ne_of_lt h) hk).mpr fun x => by rw [rising_mem, h]
theorem consec_at {l : List Nat} {j : Nat} {a b : Nat} (ha : l[j]? = some a) (hb : l[j + 1]? = some b) : (consec l)[j]? = some (a, b) := by
  have h1 := (List.getElem?_eq_some_iff.mp hb).1
  unfold consec
  rw [List.getElem?_map, List.getElem?_range (by omega)]
  show some (l.getD j 0, l.getD (j + 1) 0) = _
  rw [List.getD_eq_getElem?_getD, List.getD_eq_getElem?_getD, ha, hb]
  rfl
theorem consec_len (l : List Nat) : (consec l).length = l.length - 1 := by
  unfold consec
  rw [List.length_map, List.length_range]
theorem allLots_meet {es : Es} {x : Nat} (h : x ∈ allLots es) : meetingsOf es x ≠ [] := by
  obtain ⟨i, hi, hx⟩ := List.mem_flatMap.mp (rising_mem.mp h)
  intro e
  have : i ∈ meetingsOf es x := List.mem_filter.mpr ⟨hi, by simpa using hx⟩
  rw [e] at this
  cases this
def sp_Log_all_lots (K : PySem.W.Frag) : Sp := spL fun vs H xs => ∃ L es, vs = [.ref L] ∧ LG K H L es ∧ xs = (allLots es).map nV
def sp_Log_lot_lines (K : PySem.W.Frag) : Sp := spN (fun vs H l => ∃ L es, vs = [.ref L] ∧ LG K H L es ∧ l = lotLinesL es) fun l p H => H p = some (.dT (dTk l))
section
variable {P : Program} {w : World} {K : PySem.W.Frag} {mg : Str → Option Value} {base : Heap}
abbrev N_Log_all_lots : List Str := ["self", "told", "number", "lot"]
theorem sc_Log_all_lots : FnScope N_Log_all_lots ["self"] d_Log_all_lots.scope := ⟨rfl, rfl, rfl, by decide +kernel, rfl, by decide +kernel, by decide +kernel⟩
theorem ok_Log_all_lots (T : Txt K mg) : Ok P w K mg base CX0 3 d_Log_all_lots ["self"] (sp_Log_all_lots K) := by
  have G_Log_meetings : Ok P w K mg base CX0 2 d_Log_meetings ["self"] (sp_Log_meetings K) := ok_Log_meetings T
  refine ok0 T.u_Log_all_lots sc_Log_all_lots (fun _ _ _ _ _ _ us hl => match us, hl with | [_], _ => rfl) (fun vs H Q E h => ?_) (fun cdv A outer s H vs Q E hr h => ?_)
  · obtain ⟨_, ⟨_, _, rfl, _⟩, _⟩ := h
    rfl
  have nd := sc_Log_all_lots.nd
  refine ⟨_, (pss_cons (ps_set (i := 1) nd rfl (Or.inl rfl) pe_dnewK)
  (pss_cons (ps_for PassesOwn.never rfl (wlist K (pe_meth0 (pv 0) T.c_Log T.m_Log_meetings G_Log_meetings.f (hr.mono (by decide)) G_Log_meetings.b .nil pass0)) (pg_name (i := 2) nd rfl (Or.inl rfl)) (pss_one (ps_for PassesOwn.never rfl (wlist K (wfld K (wixL K (wfld K (pv 0)) (pv 2)))) (pg_name (i := 3) nd rfl (Or.inl rfl)) (pss_one (ps_dput (hu_of hr) (pv 1) (pv 3) pe_bl rfl)))))
  (pss_one (ps_ret (wsortD rfl rfl T.f_sorted (pv 1)))))), ?_⟩
  obtain ⟨_, ⟨L, es, rfl, ⟨E, as, hL, g⟩, rfl⟩, k⟩ := h
  refine q_newK fun t ht => ?_
  refine q_forNLn (xs := (meetings es).map nV) (el_meetings (hL.mono (Ex.new ht)) g (ev_var rfl))
    (fun p i σ' H' => (∃ x2 x3, σ' = [some (.ref L), some (.ref t), x2, x3]) ∧ Ex H H' ∧ p ≠ t ∧ H' p = some (.lst ((meetings es).map nV)) ∧ H' t = some (.dK (dKk ((((meetings es).take i).flatMap fun i => (ent es i).lots).foldl dput []))))
    (fun p H1 n e h1 => ⟨⟨_, _, rfl⟩, (Ex.new ht).trans e, (fun z => by rw [z, upd_same] at n; cases n), h1, e _ _ upd_same⟩) (fun p i σ' H' _ q => sq_of q.2.2.2.1) (fun p i x σ' H' hx q => ?_) fun p σ' H' q => ?_
  · obtain ⟨⟨x2, x3, rfl⟩, e, hpt, hp, hd⟩ := q
    obtain ⟨a, ha, rfl⟩ : ∃ a, (meetings es)[i]? = some a ∧ x = nV a := by
      rw [List.getElem?_map] at hx
      obtain ⟨a, h1, h2⟩ := Option.map_eq_some_iff.mp hx
      exact ⟨a, h1, h2.symm⟩
    have hi : a < es.length := meetings_lt ha
    obtain ⟨l, hl, hev⟩ := ev_lots (H := H) (ta := tOp (rIxL K) (tFld K (tVar 0) "entries") (tVar 2)) (σ := [some (.ref L), some (.ref t), some (nV a), x3]) T (hL.ent hi) (ev_ent T hL (ev_var rfl) (ev_var rfl) hi)
    refine s_forLn (xs := (ent es a).lots.map nV) (a := l) (hev.mono e) (sq_of (e _ _ hl))
      (fun j σ'' H'' => (∃ x3, σ'' = [some (.ref L), some (.ref t), some (nV a), x3]) ∧ Ex H H'' ∧ H'' p = some (.lst ((meetings es).map nV)) ∧ H'' t = some (.dK (dKk (((ent es a).lots.take j).foldl dput ((((meetings es).take i).flatMap fun i => (ent es i).lots).foldl dput [])))))
      (fun H1 e1 => ⟨⟨_, rfl⟩, e.trans e1, e1 _ _ hp, e1 _ _ hd⟩) (fun j σ'' H'' _ q => sq_of (q.2.1 _ _ hl)) (fun j y σ'' H'' hy q => ?_) fun σ'' H'' q => ?_
    · obtain ⟨⟨y3, rfl⟩, e2, hp2, hd2⟩ := q
      obtain ⟨b, hb, rfl⟩ : ∃ b, (ent es a).lots[j]? = some b ∧ y = nV b := by
        rw [List.getElem?_map] at hy
        obtain ⟨b, h1, h2⟩ := Option.map_eq_some_iff.mp hy
        exact ⟨b, h1, h2.symm⟩
      refine s_dputK hd2 ev_c (ev_var rfl) (ev_var rfl) ?_ fun H3 e3 => ⟨⟨_, rfl⟩, (e2.trans e3).mut ht, by rw [upd_ne hpt]; exact e3 _ _ hp2, ?_⟩
      · have h1 := foldl_dput_len ((ent es a).lots.take j) ((((meetings es).take i).flatMap fun i => (ent es i).lots).foldl dput [])
        have h2 := foldl_dput_len (((meetings es).take i).flatMap fun i => (ent es i).lots) []
        have h3 := flatMap_len (f := fun i => (ent es i).lots) (n := 12) (l := (meetings es).take i) fun i hi => lots_len g (mem_meetings.mp (List.mem_of_mem_take hi)).1
        have h4 := lots_len g hi
        have h5 := meetings_len es
        have h6 := g.len
        rw [List.length_take] at h1 h3
        rw [List.length_nil] at h2
        omega
      · rw [upd_same, take_snoc hb, List.foldl_append]
        rfl
    · obtain ⟨⟨y3, rfl⟩, e2, hp2, hd2⟩ := q
      refine ⟨⟨_, _, rfl⟩, e2, hpt, hp2, ?_⟩
      rw [List.length_map, List.take_length] at hd2
      rw [hd2, flatMap_take ha, List.foldl_append]
  · obtain ⟨⟨x2, x3, rfl⟩, e, hpt, hp, hd⟩ := q
    rw [List.length_map, List.take_length] at hd
    refine s_retL (el_sortD (ks := ((meetings es).flatMap fun i => (ent es i).lots).foldl dput []) (ns := allLots es) (ev_var rfl) (.inl hd) (dKk_keys _) ?_ (rising_perm (foldl_dput_nodup _ _ List.nodup_nil) fun x => ?_) ((rising_sorted _).imp fun h => Nat.le_of_lt h)) fun p2 H2 n2 e2 h2 => k p2 H2 (fresh_back e n2) (e.trans e2) h2
    · have h1 := foldl_dput_len ((meetings es).flatMap fun i => (ent es i).lots) []
      have h2 := lotsOf_len g
      rw [List.length_nil] at h1
      omega
    · rw [foldl_dput_mem]
      simp
abbrev N_Log_lot_lines : List Str := ["self", "told", "lot", "rows", "place"]
theorem sc_Log_lot_lines : FnScope N_Log_lot_lines ["self"] d_Log_lot_lines.scope := ⟨rfl, rfl, rfl, by decide +kernel, rfl, by decide +kernel, by decide +kernel⟩
theorem ok_Log_lot_lines (T : Txt K mg) : Ok P w K mg base CX0 4 d_Log_lot_lines ["self"] (sp_Log_lot_lines K) := by
  have G_Log_all_lots : Ok P w K mg base CX0 3 d_Log_all_lots ["self"] (sp_Log_all_lots K) := ok_Log_all_lots T
  have G_Log_meetings_of : Ok P w K mg base CX0 3 d_Log_meetings_of ["self", "lot"] (sp_Log_meetings_of K) := ok_Log_meetings_of T
  refine ok0 T.u_Log_lot_lines sc_Log_lot_lines (fun _ _ _ _ _ _ us hl => match us, hl with | [_], _ => rfl) (fun vs H Q E h => ?_) (fun cdv A outer s H vs Q E hr h => ?_)
  · obtain ⟨_, ⟨_, _, rfl, _⟩, _⟩ := h
    rfl
  have nd := sc_Log_lot_lines.nd
  refine ⟨_, (pss_cons (ps_set (i := 1) nd rfl (Or.inl rfl) pe_dnewT)
  (pss_cons (ps_for PassesOwn.never rfl (wlist K (pe_meth0 (pv 0) T.c_Log T.m_Log_all_lots G_Log_all_lots.f (hr.mono (by decide)) G_Log_all_lots.b .nil pass0)) (pg_name (i := 2) nd rfl (Or.inl rfl)) (pss_cons (ps_set (i := 3) nd rfl (Or.inl rfl) (pe_meth (pv 0) T.c_Log T.m_Log_meetings_of G_Log_meetings_of.f (hr.mono (by decide)) G_Log_meetings_of.b .nil pass0 (pa_cons (pv 2) pa_nil)))
  (pss_one (ps_for PassesOwn.never rfl (pi_range1 rfl T.f_range (pa_cons (pe_op op_sub (wlen K rfl T.f_len (pv 3)) pe_int) pa_nil)) (pg_name (i := 4) nd rfl (Or.inl rfl)) (pss_one (ps_dput (hu_of hr) (pv 1) (pe_tup (pa_cons (wixL K (pv 3) (pv 4)) (pa_cons (wixL K (pv 3) (pe_op op_add (pv 4) pe_int)) pa_nil))) pe_bl rfl))))))
  (pss_one (ps_ret (pv 1))))), ?_⟩
  obtain ⟨_, ⟨L, es, rfl, ⟨E, as, hL, g⟩, rfl⟩, k⟩ := h
  refine q_newT fun t ht => ?_
  have hL1 := hL.mono (Ex.new ht (o := .dT []))
  refine q_forNLn (xs := (allLots es).map nV) (lg_methL hL1 (ev_var rfl) (by decide +kernel) ea_nil fun H1 e => ⟨L, es, rfl, ⟨E, as, hL1.mono e, g⟩, rfl⟩)
    (fun p i σ' H' => (∃ x2 x3 x4, σ' = [some (.ref L), some (.ref t), x2, x3, x4]) ∧ Ex H H' ∧ p ≠ t ∧ H' p = some (.lst ((allLots es).map nV)) ∧ H' t = some (.dT (dTk ((((allLots es).take i).flatMap fun x => consec (meetingsOf es x)).foldl dput []))))
    (fun p H1 n e h1 => ⟨⟨_, _, _, rfl⟩, (Ex.new ht).trans e, (fun z => by rw [z, upd_same] at n; cases n), h1, e _ _ upd_same⟩) (fun p i σ' H' _ q => sq_of q.2.2.2.1) (fun p i x σ' H' hx q => ?_) fun p σ' H' q => ?_
  · obtain ⟨⟨x2, x3, x4, rfl⟩, e, hpt, hp, hd⟩ := q
    obtain ⟨a, ha, rfl⟩ : ∃ a, (allLots es)[i]? = some a ∧ x = nV a := by
      rw [List.getElem?_map] at hx
      obtain ⟨a, h1, h2⟩ := Option.map_eq_some_iff.mp hx
      exact ⟨a, h1, h2.symm⟩
    refine q_asgL (el_meetingsOf (hL.mono e) g (ev_var rfl) (ev_var rfl)) fun r H1 n1 e1 hr => ?_
    have hne := allLots_meet (List.mem_of_getElem? ha)
    have hlen : 1 ≤ (meetingsOf es a).length := List.length_pos_iff.mpr hne
    have hlen2 : (meetingsOf es a).length ≤ 80 := Nat.le_trans (meetingsOf_sub es a).length_le (Nat.le_trans (meetings_len es) g.len)
    have hrt : r ≠ t := fun z => by rw [z, hd] at n1; cases n1
    refine s_forR1 (n := ((meetingsOf es a).length : Int) - 1) (ea_one (ev_is (ev_op (ev_len (ev_var rfl) (sq_of hr)) ev_c rv_I0) (by rw [List.length_map]))) (by omega)
      (fun j σ'' H'' => (∃ x4, σ'' = [some (.ref L), some (.ref t), some (nV a), some (.ref r), x4]) ∧ Ex H H'' ∧ H'' p = some (.lst ((allLots es).map nV)) ∧ H'' r = some (.lst ((meetingsOf es a).map nV)) ∧ H'' t = some (.dT (dTk (((consec (meetingsOf es a)).take j).foldl dput ((((allLots es).take i).flatMap fun x => consec (meetingsOf es x)).foldl dput [])))))
      (fun H2 e2 => ⟨⟨_, rfl⟩, (e.trans e1).trans e2, e2 _ _ (e1 _ _ hp), e2 _ _ hr, e2 _ _ (e1 _ _ hd)⟩) (fun j σ'' H'' hj q => ?_) fun σ'' H'' q => ?_
    · obtain ⟨⟨y4, rfl⟩, e2, hp2, hr2, hd2⟩ := q
      have hj1 : j + 1 < (meetingsOf es a).length := by omega
      have g1 : (meetingsOf es a)[j]? = some (meetingsOf es a)[j] := List.getElem?_eq_getElem (by omega)
      have g2 : (meetingsOf es a)[j + 1]? = some (meetingsOf es a)[j + 1] := List.getElem?_eq_getElem hj1
      refine s_dputT (p := ((meetingsOf es a)[j], (meetingsOf es a)[j + 1])) hd2 ev_c (ev_var rfl) (eu_two (ev_ixL (i := j) (ev_var rfl) (ev_var rfl) (sq_of hr2) (by rw [List.getElem?_map, g1]; rfl))
        (ev_ixL (i := j + 1) (ev_var rfl) (ev_is (ev_op (ev_var rfl) ev_c rv_I0) (by simp)) (sq_of hr2) (by rw [List.getElem?_map, g2]; rfl))) ?_ fun H3 e3 => ⟨⟨_, rfl⟩, (e2.trans e3).mut ht, by rw [upd_ne hpt]; exact e3 _ _ hp2, by rw [upd_ne hrt]; exact e3 _ _ hr2, ?_⟩
      · have h1 := foldl_dput_len ((consec (meetingsOf es a)).take j) ((((allLots es).take i).flatMap fun x => consec (meetingsOf es x)).foldl dput [])
        have h2 := foldl_dput_len (((allLots es).take i).flatMap fun x => consec (meetingsOf es x)) []
        have h3 := flatMap_len (f := fun x => consec (meetingsOf es x)) (n := 79) (l := (allLots es).take i) fun x _ => by
          rw [consec_len]
          have := (meetingsOf_sub es x).length_le
          have := meetings_len es
          have := g.len
          omega
        have h5 := allLots_len g
        have hi := (List.getElem?_eq_some_iff.mp ha).1
        rw [List.length_take] at h1 h3
        rw [List.length_nil] at h2
        rw [consec_len] at h1
        omega
      · rw [upd_same, take_snoc (consec_at g1 g2), List.foldl_append]
        rfl
    · obtain ⟨⟨y4, rfl⟩, e2, hp2, hr2, hd2⟩ := q
      refine ⟨⟨_, _, _, rfl⟩, e2, hpt, hp2, ?_⟩
      rw [show (consec (meetingsOf es a)).take (((meetingsOf es a).length : Int) - 1).toNat = consec (meetingsOf es a) from List.take_of_length_le (by rw [consec_len]; omega)] at hd2
      rw [hd2, flatMap_take ha, List.foldl_append]
  · obtain ⟨⟨x2, x3, x4, rfl⟩, e, hpt, hp, hd⟩ := q
    rw [List.length_map, List.take_length] at hd
    exact s_ret (ev_var rfl) fun H1 e1 => k t H1 ht (e.trans e1) (e1 _ _ hd)
end
end St

end

section

set_option Elab.async false
set_option linter.all false
set_option maxRecDepth 100000
set_option maxHeartbeats 4000000
namespace St
open PySem PySem.Spec PyProof.Rows L2 Evl
theorem nodup_at {α : Type} {l : List α} {i j : Nat} (h : l.Nodup) {a : α} (hi : l[i]? = some a) (hj : l[j]? = some a) : i = j := by
  obtain ⟨h1, e1⟩ := List.getElem?_eq_some_iff.mp hi
  obtain ⟨h2, e2⟩ := List.getElem?_eq_some_iff.mp hj
  exact (List.getElem_inj h).mp (e1.trans e2.symm)
theorem dput_in {α : Type} [DecidableEq α] {l : List α} {k : α} (h : k ∈ l) : dput l k = l := if_pos h
theorem dput_out {α : Type} [DecidableEq α] {l : List α} {k : α} (h : k ∉ l) : dput l k = l ++ [k] := if_neg h
theorem foldl_dput_snoc {α : Type} [DecidableEq α] (l : List α) (a : α) (acc : List α) : (l ++ [a]).foldl dput acc = dput (l.foldl dput acc) a := by
  rw [List.foldl_append]
  rfl
theorem things_mem {es : Es} {t : Nat} : t ∈ things es ↔ ∃ i ∈ meetings es, (ent es i).thing = t := by
  unfold things
  rw [foldl_dput_mem]
  simp
theorem things_len {es : Es} (g : Good es) : (things es).length ≤ 80 := by
  unfold things
  have h := foldl_dput_len ((meetings es).map fun i => (ent es i).thing) []
  rw [List.length_map, List.length_nil] at h
  have := meetings_len es
  have := g.len
  omega
theorem rowsOf_sub (es : Es) (t : Nat) : (rowsOf es t).Sublist (meetings es) := List.filter_sublist
theorem rowsOf_lt {es : Es} {t i : Nat} (h : i ∈ rowsOf es t) : i < es.length := (mem_meetings.mp ((rowsOf_sub es t).subset h)).1
theorem rowsOf_ne {es : Es} {t : Nat} (h : t ∈ things es) : 1 ≤ (rowsOf es t).length := by
  obtain ⟨i, hi, ht⟩ := things_mem.mp h
  exact List.length_pos_iff.mpr fun e => by
    have : i ∈ rowsOf es t := List.mem_filter.mpr ⟨hi, by simpa using ht⟩
    rw [e] at this
    cases this
theorem rowsOf_len {es : Es} (g : Good es) (t : Nat) : (rowsOf es t).length ≤ 80 := Nat.le_trans (rowsOf_sub es t).length_le (Nat.le_trans (meetings_len es) g.len)
/-- the dict of things with their meetings -/
structure BT (H0 H : Hp) (bt tl : Addr) (f : Nat → Addr) (ths : List Nat) (rows : Nat → List Nat) : Prop where
  row : ∀ t ∈ ths, H (f t) = some (.lst ((rows t).map nV))
  inj : ∀ t ∈ ths, ∀ u ∈ ths, f t = f u → t = u
  new : ∀ t ∈ ths, H0 (f t) = none
def btD (f : Nat → Addr) (ths : List Nat) : List (Key × V) := ths.map fun t => (ik t, .ref (f t))
theorem btD_val (f : Nat → Addr) (ths : List Nat) (t : Nat) : valV (btD f ths) (ik t) = if t ∈ ths then some (.ref (f t)) else none := dKf_val (f := fun t => .ref (f t)) ths t
theorem btD_keys (f : Nat → Addr) (ths : List Nat) : (btD f ths).map (·.1) = ths.map ik := by unfold btD; rw [List.map_map]; rfl
theorem btD_len (f : Nat → Addr) (ths : List Nat) : (btD f ths).length = ths.length := List.length_map ..
theorem btD_put {f : Nat → Addr} {ths : List Nat} {t : Nat} {r : Addr} (h : t ∉ ths) : putK (btD f ths) (ik t) (.ref r) = btD (fun u => if u = t then r else f u) (ths ++ [t]) := by
  unfold putK
  rw [valV_any, btD_val, if_neg h]
  unfold btD
  rw [List.map_append, if_neg (by decide)]
  congr 1
  · refine List.map_congr_left fun u hu => ?_
    show _ = (ik u, V.ref (if u = t then r else f u))
    rw [if_neg (fun e : u = t => h (by rw [← e]; exact hu))]
  · simp
/-- by_thing.setdefault(thing, []).append(number) -/
theorem s_group {K : PySem.W.Frag} {σ : L2.St} {H0 H : Hp} {td ty tv : TE} {D : Ends} {bt tl : Addr} {f : Nat → Addr} {ths : List Nat} {rows : Nat → List Nat} {t n : Nat}
    (hb : BT H0 H bt tl f ths rows) (e0 : Ex H0 H) (hd : H bt = some (.dK (btD f ths))) (hn : H0 bt = none) (ho : Ev td σ H (.ref bt)) (hy : Ev ty σ H (nV t)) (hv : ∀ H', Ev tv σ H' (nV n)) (hz : ths.length ≤ 80) (hr : ∀ t, (rows t).length ≤ 80)
    (h0 : t ∉ ths → rows t = [])
    (k : ∀ f' H', BT H0 H' bt tl f' (dput ths t) (fun u => if u = t then rows u ++ [n] else rows u) → Ex H0 H' → H' bt = some (.dK (btD f' (dput ths t))) → (∀ b o, b ≠ bt → (∀ xs, o ≠ .lst xs) → H b = some o → H' b = some o) → (∀ b, H b ≠ none → (∀ u ∈ ths, b ≠ f u) → b ≠ bt → H' b = H b) → (∀ u ∈ dput ths t, (∃ v ∈ ths, f' u = f v) ∨ H (f' u) = none) → D.nx σ H') :
    tDrop (tBM K "list" rAppend (tDSetd td ty (tLst tNil)) (tCons tv tNil)) D σ H := by
  refine ho H (Ex.refl H) _ fun H1 e1 => ⟨bt, rfl, .inl ⟨_, .inl (e1 _ _ hd)⟩, hy H1 e1 _ fun H2 e2 => (el_lst (σ := σ) (H := H2) ea_nil (by simp)) H2 (Ex.refl H2) _ fun r H3 n3 e3 h3 => ?_⟩
  have e : Ex H H3 := (e1.trans e2).trans e3
  have hd3 : H3 bt = some (.dK (btD f ths)) := e _ _ hd
  have nr : H r = none := fresh_back (e1.trans e2) n3
  refine ⟨btD f ths, ik t, hd3, rfl, by rw [btD_len]; exact sz_lt (by omega), fun v hv2 => ?_, fun hv2 => ?_⟩
  · rw [btD_val] at hv2
    by_cases ht : t ∈ ths
    · rw [if_pos ht] at hv2
      cases hv2
      have hf := hb.row t ht
      refine ⟨.inl ⟨rfl, _, sq_of (e _ _ hf)⟩, hv H3 H3 (Ex.refl _) _ fun H4 e4 => ⟨f t, _, nV n, rfl, rfl, e4 _ _ (e _ _ hf), sz_lt (by rw [List.length_map]; have := hr t; omega), ?_⟩⟩
      have hfb : f t ≠ bt := fun z => by rw [z, hd] at hf; cases hf
      refine k f _ ⟨fun u hu => ?_, fun u hu v hv => ?_, fun u hu => ?_⟩ ?_ ?_ ?_ ?_ fun u hu => .inl ⟨u, by rw [dput_in ht] at hu; exact hu, rfl⟩
      · rw [dput_in ht] at hu
        by_cases hut : u = t
        · subst hut
          rw [upd_same, if_pos rfl, List.map_append]
          rfl
        · rw [upd_ne (fun z => hut (hb.inj u hu t ht z)), if_neg hut]
          exact e4 _ _ (e _ _ (hb.row u hu))
      · rw [dput_in ht] at hu hv
        exact hb.inj u hu v hv
      · rw [dput_in ht] at hu
        exact hb.new u hu
      · exact (e0.trans (e.trans e4)).mut (hb.new t ht)
      · rw [upd_ne (Ne.symm hfb), dput_in ht]
        exact e4 _ _ hd3
      · intro b o hbb hol hbo
        rw [upd_ne (fun z => hol _ (by rw [z, hf] at hbo; exact (Option.some.inj hbo).symm))]
        exact e4 _ _ (e _ _ hbo)
      · intro b hbn hbf hbb
        rw [upd_ne (hbf t ht)]
        cases hH : H b with
        | none => exact absurd hH hbn
        | some o => exact e4 _ _ (e _ _ hH)
    · rw [if_neg ht] at hv2
      cases hv2
  · rw [btD_val] at hv2
    by_cases ht : t ∈ ths
    · rw [if_pos ht] at hv2
      cases hv2
    · have hrb : r ≠ bt := fun z => by rw [z, hd] at nr; cases nr
      refine ⟨.inl ⟨rfl, [], sq_of (by rw [upd_ne hrb]; exact h3)⟩, ?_⟩
      rw [btD_put ht]
      refine hv _ _ (Ex.refl _) _ fun H4 e4 => ⟨r, [], nV n, rfl, rfl, e4 _ _ (by rw [upd_ne hrb]; exact h3), sz_lt (by simp), ?_⟩
      have keep : ∀ b o, b ≠ bt → H b = some o → H4 b = some o := fun b o hbb hbo => e4 _ _ (by rw [upd_ne hbb]; exact e _ _ hbo)
      have hbH : ∀ b o, H b = some o → b ≠ r := fun b o hbo z => by rw [z, nr] at hbo; cases hbo
      have hfbt : ∀ u ∈ ths, f u ≠ bt := fun u hu z => by
        have := hb.row u hu
        rw [z, hd] at this
        cases this
      have nr0 : H0 r = none := fresh_back e0 nr
      refine k (fun u => if u = t then r else f u) _ ⟨fun u hu => ?_, fun u hu v hv => ?_, fun u hu => ?_⟩ ?_ ?_ ?_ ?_ fun u hu => ?_
      · rw [dput_out ht] at hu
        by_cases hut : u = t
        · subst hut
          rw [if_pos rfl, if_pos rfl, upd_same, h0 ht]
          rfl
        · rw [if_neg hut, if_neg hut]
          have hu2 : u ∈ ths := (List.mem_append.mp hu).elim id fun z => absurd (List.mem_singleton.mp z) hut
          rw [upd_ne (hbH _ _ (hb.row u hu2))]
          exact keep _ _ (hfbt u hu2) (hb.row u hu2)
      · rw [dput_out ht] at hu hv
        have hin : ∀ u, u ∈ ths ++ [t] → u ≠ t → u ∈ ths := fun u hu h => (List.mem_append.mp hu).elim id fun z => absurd (List.mem_singleton.mp z) h
        by_cases h1 : u = t <;> by_cases h2 : v = t
        · intro _
          rw [h1, h2]
        · rw [if_pos h1, if_neg h2]
          intro z
          exact absurd z.symm (hbH _ _ (hb.row v (hin v hv h2)))
        · rw [if_neg h1, if_pos h2]
          intro z
          exact absurd z (hbH _ _ (hb.row u (hin u hu h1)))
        · rw [if_neg h1, if_neg h2]
          exact hb.inj u (hin u hu h1) v (hin v hv h2)
      · rw [dput_out ht] at hu
        by_cases hut : u = t
        · rw [if_pos hut]
          exact nr0
        · rw [if_neg hut]
          exact hb.new u ((List.mem_append.mp hu).elim id fun z => absurd (List.mem_singleton.mp z) hut)
      · intro b o hbo
        have h1 : b ≠ bt := fun z => by rw [z, hn] at hbo; cases hbo
        have h2 := e0 _ _ hbo
        rw [upd_ne (hbH _ _ h2)]
        exact keep _ _ h1 h2
      · rw [upd_ne (Ne.symm hrb), dput_out ht]
        exact e4 _ _ upd_same
      · intro b o hbb _ hbo
        rw [upd_ne (hbH _ _ hbo)]
        exact keep _ _ hbb hbo
      · intro b hbn _ hbb
        cases hH : H b with
        | none => exact absurd hH hbn
        | some o =>
          rw [upd_ne (hbH _ _ hH)]
          exact keep _ _ hbb hH
      · rw [dput_out ht] at hu
        by_cases hut : u = t
        · right
          show H (if u = t then r else f u) = none
          rw [if_pos hut]
          exact nr
        · left
          refine ⟨u, (List.mem_append.mp hu).elim id fun z => absurd (List.mem_singleton.mp z) hut, ?_⟩
          show (if u = t then r else f u) = f u
          rw [if_neg hut]
/-- for k in d, d locked -/
theorem s_forK {td : TE} {d : Addr} {od : Obj} {kvs : List (Key × V)} {g : TG} {tb : TS} {D : Ends} {σ : L2.St} {H : Hp} (h : Ev td σ H (.ref d)) (hd : H d = some (.frz od (.dK kvs))) (Pv : Nat → L2.St → Hp → Prop) (h0 : ∀ H1, Ex H H1 → Pv 0 σ H1) (hG : ∀ i σ' H', Pv i σ' H' → H' d = some (.frz od (.dK kvs)))
    (hs : ∀ i k v σ' H', kvs[i]? = some (k, v) → Pv i σ' H' → g (kV k) σ' H' fun σ2 H2 => tb { D with nx := Pv (i + 1), ct := Pv (i + 1), bk := D.nx } σ2 H2) (he : ∀ σ' H', Pv kvs.length σ' H' → D.nx σ' H') : tFor (iKeys td) g tb D σ H :=
  h H (Ex.refl H) _ fun H1 e1 => ⟨d, od, rfl, .inl ⟨kvs, e1 _ _ hd, for_it walk_keys Pv (h0 H1 e1) (fun i σ' H' _ q => hG i σ' H' q) (fun i x σ' H' H'' hi q y => by
    obtain ⟨eH, k, v, hkv, rfl⟩ := y
    rw [eH]
    exact hs i k v σ' H' hkv q) he⟩⟩
theorem rows_step {es : Es} {i a : Nat} (ha : (meetings es)[i]? = some a) (u : Nat) : ((meetings es).take (i + 1)).filter (fun j => decide ((ent es j).thing = u)) =
    if u = (ent es a).thing then ((meetings es).take i).filter (fun j => decide ((ent es j).thing = u)) ++ [a] else ((meetings es).take i).filter (fun j => decide ((ent es j).thing = u)) := by
  rw [take_snoc ha, List.filter_append]
  by_cases h : (ent es a).thing = u
  · rw [if_pos h.symm, List.filter_cons_of_pos (by simpa using h), List.filter_nil]
  · rw [if_neg (fun z => h z.symm), List.filter_cons_of_neg (by simpa using h), List.filter_nil, List.append_nil]
theorem consec_rows {l : List Nat} {p : Nat × Nat} (h : p ∈ consec l) : p.1 ∈ l ∧ p.2 ∈ l := by
  obtain ⟨a, b⟩ := p
  obtain ⟨i, h1, h2⟩ := mem_consec.mp h
  exact ⟨List.mem_of_getElem? h1, List.mem_of_getElem? h2⟩
def sp_Log_thing_lines (K : PySem.W.Frag) : Sp := spN (fun vs H l => ∃ L es q more, vs = [.ref L, .ref q] ∧ LG K H L es ∧ PairsAt H q more ∧ more.length ≤ 30000 ∧ l = thingLinesL es more) fun l p H => H p = some (.dT (dTk l))
section
variable {P : Program} {w : World} {K : PySem.W.Frag} {mg : Str → Option Value} {base : Heap}
abbrev N_Log_thing_lines : List Str := ["self", "more", "told", "by_thing", "number", "thing", "rows", "place", "first", "last"]
theorem sc_Log_thing_lines : FnScope N_Log_thing_lines ["self", "more"] d_Log_thing_lines.scope := ⟨rfl, rfl, rfl, by decide +kernel, rfl, by decide +kernel, by decide +kernel⟩
theorem ok_Log_thing_lines (T : Txt K mg) : Ok P w K mg base CX0 3 d_Log_thing_lines ["self", "more"] (sp_Log_thing_lines K) := by
  have G_Log_meetings : Ok P w K mg base CX0 2 d_Log_meetings ["self"] (sp_Log_meetings K) := ok_Log_meetings T
  have G_Log_is_cleaned : Ok P w K mg base CX0 2 d_Log_is_cleaned ["self", "thing", "first", "last", "more"] (sp_Log_is_cleaned K) := ok_Log_is_cleaned T
  refine ok0 T.u_Log_thing_lines sc_Log_thing_lines (fun _ _ _ _ _ _ us hl => match us, hl with | [_, _], _ => rfl) (fun vs H Q E h => ?_) (fun cdv A outer s H vs Q E hr h => ?_)
  · obtain ⟨_, ⟨_, _, _, _, rfl, _⟩, _⟩ := h
    rfl
  have nd := sc_Log_thing_lines.nd
  refine ⟨_, (pss_cons (ps_set (i := 2) nd rfl (Or.inl rfl) pe_dnewT)
  (pss_cons (ps_set (i := 3) nd rfl (Or.inl rfl) pe_dnewK)
  (pss_cons (ps_for PassesOwn.never rfl (wlist K (pe_meth0 (pv 0) T.c_Log T.m_Log_meetings G_Log_meetings.f (hr.mono (by decide)) G_Log_meetings.b .nil pass0)) (pg_name (i := 4) nd rfl (Or.inl rfl)) (pss_one (ps_expr (wapp K (pe_dsetd (pv 3) (wfld K (wixL K (wfld K (pv 0)) (pv 4))) (pe_lst pa_nil) ⟨rfl, rfl, rfl, rfl⟩) (pv 4)))))
  (pss_cons (ps_lock (ps_for PassesOwn.never rfl (pi_keys (pv 3)) (pg_name (i := 5) nd rfl (Or.inl rfl)) (pss_cons (ps_set (i := 6) nd rfl (Or.inl rfl) (pe_dget (hu_of hr) (pv 3) (pv 5) (fun _ _ => rfl)))
  (pss_one (ps_for PassesOwn.never rfl (pi_range1 rfl T.f_range (pa_cons (pe_op op_sub (wlen K rfl T.f_len (pv 6)) pe_int) pa_nil)) (pg_name (i := 7) nd rfl (Or.inl rfl)) (pss_cons (ps_set (i := 8) nd rfl (Or.inl rfl) (wixL K (pv 6) (pv 7)))
  (pss_cons (ps_set (i := 9) nd rfl (Or.inl rfl) (wixL K (pv 6) (pe_op op_add (pv 7) pe_int)))
  (pss_one (ps_if (pt_not (pt_val (pe_meth (pv 0) T.c_Log T.m_Log_is_cleaned G_Log_is_cleaned.f (hr.mono (by decide)) G_Log_is_cleaned.b .nil pass0 (pa_cons (pv 5) (pa_cons (wfld K (wixL K (wfld K (pv 0)) (pv 8))) (pa_cons (wfld K (wixL K (wfld K (pv 0)) (pv 9))) (pa_cons (pv 1) pa_nil))))))) (pss_one (ps_dput (hu_of hr) (pv 2) (pe_tup (pa_cons (pv 8) (pa_cons (pv 9) pa_nil))) pe_bl rfl)) pss_nil)))))))))
  (pss_one (ps_ret (pv 2))))))), ?_⟩
  obtain ⟨_, ⟨L, es, q, more, rfl, ⟨E, as, hL, g⟩, hq, hz, rfl⟩, k⟩ := h
  refine q_newT fun t ht => q_newK fun b hb => ?_
  have hbt : b ≠ t := fun z => by rw [z, upd_same] at hb; cases hb
  have hb0 : H b = none := by rw [upd_ne hbt] at hb; exact hb
  have e00 : Ex H (upd (upd H t (.dT [])) b (.dK [])) := (Ex.new ht).trans (Ex.new hb)
  refine q_forNLn (xs := (meetings es).map nV) (el_meetings (hL.mono e00) g (ev_var rfl))
    (fun p i σ' H' => (∃ x4 x5 x6 x7 x8 x9, σ' = [some (.ref L), some (.ref q), some (.ref t), some (.ref b), x4, x5, x6, x7, x8, x9]) ∧ Ex H H' ∧ p ≠ b ∧ p ≠ t ∧ H p = none ∧ H' p = some (.lst ((meetings es).map nV)) ∧ H' t = some (.dT []) ∧
      ∃ f, BT H H' b t f (((meetings es).take i).map (fun i => (ent es i).thing) |>.foldl dput []) (fun u => ((meetings es).take i).filter fun j => decide ((ent es j).thing = u)) ∧ (∀ u ∈ (((meetings es).take i).map (fun i => (ent es i).thing) |>.foldl dput []), f u ≠ p) ∧ H' b = some (.dK (btD f (((meetings es).take i).map (fun i => (ent es i).thing) |>.foldl dput []))))
    (fun p H1 n e h1 => ?_) (fun p i σ' H' _ q => sq_of q.2.2.2.2.2.1) (fun p i x σ' H' hx q => ?_) fun p σ' H' q => ?_
  · refine ⟨⟨_, _, _, _, _, _, rfl⟩, e00.trans e, (fun z => by rw [z, upd_same] at n; cases n), (fun z => by rw [z, upd_ne (Ne.symm hbt), upd_same] at n; cases n), fresh_back e00 n, h1, e _ _ (by rw [upd_ne (Ne.symm hbt), upd_same]), fun _ => 0, ⟨by simp, by simp, by simp⟩, by simp, e _ _ upd_same⟩
  · obtain ⟨⟨x4, x5, x6, x7, x8, x9, rfl⟩, e, hpb, hpt, hp0, hp, hd, f, bt, hfp, hbd⟩ := q
    obtain ⟨a, ha, rfl⟩ : ∃ a, (meetings es)[i]? = some a ∧ x = nV a := by
      rw [List.getElem?_map] at hx
      obtain ⟨a, h1, h2⟩ := Option.map_eq_some_iff.mp hx
      exact ⟨a, h1, h2.symm⟩
    have hi : a < es.length := meetings_lt ha
    have hL' := hL.mono e
    have hml := meetings_len es
    have hgl := g.len
    have elen : (((meetings es).take i).map (fun i => (ent es i).thing) |>.foldl dput []).length ≤ 80 := by
      have h := foldl_dput_len (((meetings es).take i).map fun i => (ent es i).thing) []
      rw [List.length_map, List.length_take, List.length_nil] at h
      omega
    refine s_group (t := (ent es a).thing) (n := a) bt e hbd hb0 (ev_var rfl) (ev_thing T (hL'.ent hi) (ev_ent T hL' (ev_var rfl) (ev_var rfl) hi)) (fun _ => ev_var rfl) elen (fun u => ?_) (fun hn => ?_) fun f' H2 bt2 e2 hb2 keep same fr => ?_
    · have h := List.length_filter_le (fun j => decide ((ent es j).thing = u)) ((meetings es).take i)
      rw [List.length_take] at h
      omega
    · refine List.filter_eq_nil_iff.mpr fun j hj hjt => hn ?_
      rw [foldl_dput_mem]
      exact .inr (List.mem_map.mpr ⟨j, hj, by simpa using hjt⟩)
    · have est : (((meetings es).take (i + 1)).map (fun i => (ent es i).thing) |>.foldl dput []) = dput (((meetings es).take i).map (fun i => (ent es i).thing) |>.foldl dput []) (ent es a).thing := by
        rw [take_snoc ha, List.map_append]
        exact foldl_dput_snoc _ _ _
      have ep : H2 p = some (.lst ((meetings es).map nV)) := (same p (by rw [hp]; simp) (fun u hu z => hfp u hu z.symm) hpb).trans hp
      refine ⟨⟨_, _, _, _, _, _, rfl⟩, e2, hpb, hpt, hp0, ep, keep _ _ (Ne.symm hbt) (by simp) hd, f', ?_, ?_, ?_⟩
      · rw [est]
        refine ⟨fun u hu => ?_, bt2.inj, bt2.new⟩
        rw [bt2.row u hu, rows_step ha]
      · rw [est]
        intro u hu z
        rcases fr u hu with ⟨v, hv, ev⟩ | hn
        · exact hfp v hv (ev.symm.trans z)
        · rw [z, hp] at hn
          cases hn
      · rw [est]
        exact hb2
  · obtain ⟨⟨x4, x5, x6, x7, x8, x9, rfl⟩, e, hpb, hpt, hp0, hp, hd, f, bt, hfp, hbd⟩ := q
    rw [List.length_map, List.take_length] at bt hfp hbd
    change BT H H' b t f (things es) (rowsOf es) at bt
    change H' b = some (.dK (btD f (things es))) at hbd
    have hft : ∀ u ∈ things es, f u ≠ t := fun u hu z => by
      have := bt.row u hu
      rw [z, hd] at this
      cases this
    have hfb : ∀ u ∈ things es, f u ≠ b := fun u hu z => by
      have := bt.row u hu
      rw [z, hbd] at this
      cases this
    refine ⟨b, .dK (btD f (things es)), hbd, trivial, fun od => ?_⟩
    refine s_forK (od := od) (kvs := btD f (things es)) (ev_var rfl) upd_same
      (fun i σ' H' => (∃ x4 x5 x6 x7 x8 x9, σ' = [some (.ref L), some (.ref q), some (.ref t), some (.ref b), x4, x5, x6, x7, x8, x9]) ∧ Ex H H' ∧ H' b = some (.frz od (.dK (btD f (things es)))) ∧ (∀ u ∈ things es, H' (f u) = some (.lst ((rowsOf es u).map nV))) ∧
        H' t = some (.dT (dTk ((((things es).take i).flatMap fun t => (consec (rowsOf es t)).filter fun p => !isCleaned es t (ent es p.1).minute (ent es p.2).minute more).foldl dput []))))
      (fun H1 e1 => ?_) (fun i σ' H' q => q.2.2.1) (fun i kx vx σ' H' hkv q => ?_) fun σ' H' q => ?_
    · refine ⟨⟨_, _, _, _, _, _, rfl⟩, fun c o hc => e1 _ _ ?_, e1 _ _ upd_same, fun u hu => e1 _ _ ?_, e1 _ _ ?_⟩
      · rw [upd_ne (fun z => by rw [z, hb0] at hc; cases hc)]
        exact e _ _ hc
      · rw [upd_ne (hfb u hu)]
        exact bt.row u hu
      · rw [upd_ne (Ne.symm hbt)]
        exact hd
    · obtain ⟨⟨y4, y5, y6, y7, y8, y9, rfl⟩, e2, hb2, hrow, hd2⟩ := q
      have hit : i < (things es).length := by
        have hi := (List.getElem?_eq_some_iff.mp hkv).1
        rw [btD_len] at hi
        exact hi
      obtain ⟨th, hth⟩ : ∃ th, (things es)[i]? = some th := ⟨_, List.getElem?_eq_getElem hit⟩
      have ek : kx = ik th := key_at (btD_keys f (things es)) hth hkv
      subst ek
      have hmem := List.mem_of_getElem? hth
      refine q_asg (v := .ref (f th)) (ev_dgetK (n := th) (ev_var rfl) (ev_var rfl) (.inr ⟨od, hb2⟩) (by rw [btD_val, if_pos hmem])) fun H3 e3 => ?_
      have hr3 := e3 _ _ (hrow th hmem)
      have h1 := rowsOf_ne hmem
      have h80 := rowsOf_len g th
      refine s_forR1 (n := ((rowsOf es th).length : Int) - 1) (ea_one (ev_is (ev_op (ev_len (ev_var rfl) (sq_of hr3)) ev_c rv_I0) (by rw [List.length_map]))) (by omega)
        (fun j σ'' H'' => (∃ x7 x8 x9, σ'' = [some (.ref L), some (.ref q), some (.ref t), some (.ref b), y4, some (nV th), some (.ref (f th)), x7, x8, x9]) ∧ Ex H H'' ∧ H'' b = some (.frz od (.dK (btD f (things es)))) ∧ (∀ u ∈ things es, H'' (f u) = some (.lst ((rowsOf es u).map nV))) ∧
          H'' t = some (.dT (dTk ((((consec (rowsOf es th)).take j).filter fun p => !isCleaned es th (ent es p.1).minute (ent es p.2).minute more).foldl dput ((((things es).take i).flatMap fun t => (consec (rowsOf es t)).filter fun p => !isCleaned es t (ent es p.1).minute (ent es p.2).minute more).foldl dput [])))))
        (fun H4 e4 => ⟨⟨_, _, _, rfl⟩, (e2.trans e3).trans e4, e4 _ _ (e3 _ _ hb2), fun u hu => e4 _ _ (e3 _ _ (hrow u hu)), e4 _ _ (e3 _ _ hd2)⟩) (fun j σ'' H'' hj q => ?_) fun σ'' H'' q => ?_
      · obtain ⟨⟨z7, z8, z9, rfl⟩, e5, hb5, hrow5, hd5⟩ := q
        have hj1 : j + 1 < (rowsOf es th).length := by omega
        have g1 : (rowsOf es th)[j]? = some (rowsOf es th)[j] := List.getElem?_eq_getElem (by omega)
        have g2 : (rowsOf es th)[j + 1]? = some (rowsOf es th)[j + 1] := List.getElem?_eq_getElem hj1
        generalize (rowsOf es th)[j] = m1 at g1
        generalize (rowsOf es th)[j + 1] = m2 at g2
        have l1 : m1 < es.length := rowsOf_lt (List.mem_of_getElem? g1)
        have l2 : m2 < es.length := rowsOf_lt (List.mem_of_getElem? g2)
        have hr5 := hrow5 th hmem
        refine q_asg (v := nV m1) (ev_ixL (i := j) (ev_var rfl) (ev_var rfl) (sq_of hr5) (by rw [List.getElem?_map, g1]; rfl)) fun H6 e6 => ?_
        refine q_asg (v := nV m2) (ev_ixL (i := j + 1) (ev_var rfl) (ev_is (ev_op (ev_var rfl) ev_c rv_I0) (by simp)) (sq_of (e6 _ _ hr5)) (by rw [List.getElem?_map, g2]; rfl)) fun H7 e7 => ?_
        have e57 : Ex H H7 := (e5.trans e6).trans e7
        have hL7 := hL.mono e57
        have hstep : ((consec (rowsOf es th)).take (j + 1)).filter (fun p => !isCleaned es th (ent es p.1).minute (ent es p.2).minute more) = ((consec (rowsOf es th)).take j).filter (fun p => !isCleaned es th (ent es p.1).minute (ent es p.2).minute more) ++
            if isCleaned es th (ent es m1).minute (ent es m2).minute more = true then [] else [(m1, m2)] := by
          rw [take_snoc (consec_at g1 g2), List.filter_append]
          congr 1
          cases hc : isCleaned es th (ent es m1).minute (ent es m2).minute more with
          | true => rw [List.filter_cons_of_neg (by simp [hc]), List.filter_nil]; rfl
          | false => rw [List.filter_cons_of_pos (by simp [hc]), List.filter_nil]; rfl
        refine s_when (b := !isCleaned es th (ent es m1).minute (ent es m2).minute more) (et_not (et_B (lg_meth hL7 (ev_var rfl) (by decide +kernel) (ea_cons (ev_var rfl) (ea_three (ev_minute T (hL7.ent l1) (ev_ent T hL7 (ev_var rfl) (ev_var rfl) l1)) (ev_minute T (hL7.ent l2) (ev_ent T hL7 (ev_var rfl) (ev_var rfl) l2)) (ev_var rfl)))
          fun H8 e8 => ⟨L, es, th, _, _, q, more, rfl, ⟨E, as, hL7.mono e8, g⟩, (hq.mono e57).mono e8, hz, rfl⟩))) (fun hc H8 e8 => ?_) fun hc H8 e8 => ?_
        · have hc' : isCleaned es th (ent es m1).minute (ent es m2).minute more = false := by simpa using hc
          refine s_dputT (p := (m1, m2)) (e8 _ _ (e7 _ _ (e6 _ _ hd5))) ev_c (ev_var rfl) (eu_two (ev_var rfl) (ev_var rfl)) ?_ fun H9 e9 => ⟨⟨_, _, _, rfl⟩, ((e57.trans e8).trans e9).mut ht, ?_, fun u hu => ?_, ?_⟩
          · have q1 := foldl_dput_len (((consec (rowsOf es th)).take j).filter fun p => !isCleaned es th (ent es p.1).minute (ent es p.2).minute more) ((((things es).take i).flatMap fun t => (consec (rowsOf es t)).filter fun p => !isCleaned es t (ent es p.1).minute (ent es p.2).minute more).foldl dput [])
            have q2 := foldl_dput_len (((things es).take i).flatMap fun t => (consec (rowsOf es t)).filter fun p => !isCleaned es t (ent es p.1).minute (ent es p.2).minute more) []
            have q3 := flatMap_len (f := fun t => (consec (rowsOf es t)).filter fun p => !isCleaned es t (ent es p.1).minute (ent es p.2).minute more) (n := 79) (l := (things es).take i) fun x _ => by
              have := List.length_filter_le (fun p : Nat × Nat => !isCleaned es x (ent es p.1).minute (ent es p.2).minute more) (consec (rowsOf es x))
              rw [consec_len] at this
              have := rowsOf_len g x
              omega
            have q4 := List.length_filter_le (fun p : Nat × Nat => !isCleaned es th (ent es p.1).minute (ent es p.2).minute more) ((consec (rowsOf es th)).take j)
            have q5 := things_len g
            rw [List.length_take, consec_len] at q4
            rw [List.length_take] at q3
            rw [List.length_nil] at q2
            omega
          · rw [upd_ne hbt]
            exact e9 _ _ (e8 _ _ (e7 _ _ (e6 _ _ hb5)))
          · rw [upd_ne (hft u hu)]
            exact e9 _ _ (e8 _ _ (e7 _ _ (e6 _ _ (hrow5 u hu))))
          · rw [upd_same, hstep, hc', if_neg (by decide), foldl_dput_snoc]
        · have hc' : isCleaned es th (ent es m1).minute (ent es m2).minute more = true := by simpa using hc
          refine ⟨⟨_, _, _, rfl⟩, e57.trans e8, e8 _ _ (e7 _ _ (e6 _ _ hb5)), fun u hu => e8 _ _ (e7 _ _ (e6 _ _ (hrow5 u hu))), ?_⟩
          rw [hstep, hc', if_pos rfl, List.append_nil]
          exact e8 _ _ (e7 _ _ (e6 _ _ hd5))
      · obtain ⟨⟨z7, z8, z9, rfl⟩, e5, hb5, hrow5, hd5⟩ := q
        refine ⟨⟨_, _, _, _, _, _, rfl⟩, e5, hb5, hrow5, ?_⟩
        rw [show (consec (rowsOf es th)).take (((rowsOf es th).length : Int) - 1).toNat = consec (rowsOf es th) from List.take_of_length_le (by rw [consec_len]; omega)] at hd5
        rw [hd5, flatMap_take hth, List.foldl_append]
    · obtain ⟨⟨y4, y5, y6, y7, y8, y9, rfl⟩, e2, hb2, hrow, hd2⟩ := q
      rw [btD_len, List.take_length] at hd2
      refine ⟨hb2, s_ret (ev_var rfl) fun H3 e3 => k t H3 ht (fun c o hc => e3 _ _ ?_) (e3 _ _ ?_)⟩
      · rw [upd_ne (fun z => by rw [z, hb0] at hc; cases hc)]
        exact e2 _ _ hc
      · rw [upd_ne (Ne.symm hbt)]
        exact hd2
end
end St

end

section

set_option Elab.async false
set_option linter.all false
set_option maxRecDepth 100000
set_option maxHeartbeats 4000000
namespace St
open PySem PySem.Spec PyProof.Rows L2 Evl
section
variable {K : PySem.W.Frag} {mg : Str → Option Value} {σ : L2.St} {H H' : Hp} {ta tb te tx to td ty tv : TE} {t u : TT} {x y z v : V} {D : Ends} {tu tw tz : TS} {R : Addr → Hp → Prop} {C : Addr}
/-- arguments told by a relation -/
def EvAR (ta : TA) (σ : L2.St) (H : Hp) (R : List V → Hp → Prop) : Prop := ∀ H1, Ex H H1 → ∀ Q : List V → Hp → Prop, (∀ vs H2, Ex H1 H2 → R vs H2 → Q vs H2) → ta σ H1 Q
theorem ar_nil : EvAR tNil σ H (fun vs _ => vs = []) := fun H1 _ _ q => q _ H1 (Ex.refl H1) rfl
theorem ar_of {tr : TA} {vs : List V} (h : EvA tr σ H vs) : EvAR tr σ H (fun us _ => us = vs) := fun H1 e Q q => h H1 e Q fun H2 e2 => q vs H2 e2 rfl
theorem ar_cons {tr : TA} {Rr : List V → Hp → Prop} (h : Ev ta σ H x) (hr : EvAR tr σ H Rr) : EvAR (tCons ta tr) σ H (fun vs H' => ∃ us, vs = x :: us ∧ Rr us H') := fun H1 e Q q =>
  h H1 e _ fun H2 e2 => hr H2 (e.trans e2) _ fun us H3 e3 r => q _ H3 (e2.trans e3) ⟨us, rfl, r⟩
theorem ar_new {tr : TA} {Rr : List V → Hp → Prop} {RN : Addr → Hp → Prop} (h : EvN ta σ H RN) (mono : ∀ p H1 H2, Ex H1 H2 → RN p H1 → RN p H2) (hr : EvAR tr σ H Rr) : EvAR (tCons ta tr) σ H (fun vs H' => ∃ p us, vs = .ref p :: us ∧ RN p H' ∧ Rr us H') := fun H1 e Q q =>
  h H1 e _ fun p H2 _ e2 rn => hr H2 (e.trans e2) _ fun us H3 e3 r => q _ H3 (e2.trans e3) ⟨p, us, rfl, mono _ _ _ e3 rn, r⟩
theorem en_methR {α : Type} {z : α} {dx a : Addr} {fs : List (Str × V)} {m : Str} {t : TA} {Rr : List V → Hp → Prop} {pre : List V → Hp → α → Prop} {post : α → Addr → Hp → Prop} {E : XK} (ho : Ev ta σ H (.ref a)) (h : H a = some (.ins C dx fs)) (l : fs.lookup m = none) (ha : EvAR t σ H Rr)
    (hp : ∀ vs H1, Ex H H1 → Rr vs H1 → pre (.ref a :: vs) H1 z) : EvN (tMeth C m (spN pre post) [] E ta t) σ H (post z) := fun H1 e Q q =>
  ho H1 e _ fun H2 e2 => ⟨a, dx, fs, rfl, (e.trans e2) _ _ h, l, ha H2 (e.trans e2) _ fun vs H3 e3 r => ⟨z, by rw [List.append_nil]; exact hp vs H3 ((e.trans e2).trans e3) r, fun p H4 n e4 r => q p H4 (fresh_back (e2.trans e3) n) ((e2.trans e3).trans e4) r⟩⟩
theorem ev_methR {dx a : Addr} {fs : List (Str × V)} {m : Str} {t : TA} {Rr : List V → Hp → Prop} {pre : List V → Hp → V → Prop} {E : XK} (ho : Ev ta σ H (.ref a)) (h : H a = some (.ins C dx fs)) (l : fs.lookup m = none) (ha : EvAR t σ H Rr)
    (hp : ∀ vs H1, Ex H H1 → Rr vs H1 → pre (.ref a :: vs) H1 v) : Ev (tMeth C m (spV pre) [] E ta t) σ H v := fun H1 e Q q =>
  ho H1 e _ fun H2 e2 => ⟨a, dx, fs, rfl, (e.trans e2) _ _ h, l, ha H2 (e.trans e2) _ fun vs H3 e3 r => ⟨v, by rw [List.append_nil]; exact hp vs H3 ((e.trans e2).trans e3) r, fun H4 e4 => q H4 ((e2.trans e3).trans e4)⟩⟩
/-- dict(lines) -/
theorem en_dict {l : List (Nat × Nat)} (nd : l.Nodup) (sm : Small l) (h : EvN te σ H (fun p H' => H' p = some (.dT (dTk l)))) : EvN (tCB rDictT (tCons te tNil)) σ H (fun p H' => H' p = some (.dT (dTk l))) := fun H1 e Q q =>
  h H1 e _ fun p H2 n2 e2 hp => ⟨p, l, rfl, hp, nd, sm, fun r hr => q r _ (fresh_back e2 hr) (e2.trans (Ex.new hr)) upd_same⟩
/-- told.update(lines), these new -/
theorem s_upd {a : Addr} {l m : List (Nat × Nat)} (ha : H a = some (.dT (dTk l))) (nd : m.Nodup) (sm : Small m) (hz : l.length + m.length ≤ 90000) (ho : Ev td σ H (.ref a)) (h : EvN ty σ H (fun p H' => H' p = some (.dT (dTk m)))) (k : ∀ H1, Ex H H1 → D.nx σ (upd H1 a (.dT (dTk (m.foldl dput l))))) :
    tDrop (tDUpd td ty) D σ H := ho H (Ex.refl H) _ fun H1 e1 => ⟨a, rfl, .inr ⟨_, .inl (e1 _ _ ha)⟩, h H1 e1 _ fun b H2 n2 e2 hb => ⟨l, m, b, rfl, (e1.trans e2) _ _ ha, hb, (fun z => by rw [← z, e1 _ _ ha] at n2; cases n2), nd, sm, sz_of (by omega), k H2 (e1.trans e2)⟩⟩
theorem q_upd {a : Addr} {l m : List (Nat × Nat)} (ha : H a = some (.dT (dTk l))) (nd : m.Nodup) (sm : Small m) (hz : l.length + m.length ≤ 90000) (ho : Ev td σ H (.ref a)) (h : EvN ty σ H (fun p H' => H' p = some (.dT (dTk m)))) (k : ∀ H1, Ex H H1 → tz D σ (upd H1 a (.dT (dTk (m.foldl dput l))))) :
    tSeq (tDrop (tDUpd td ty)) tz D σ H := s_upd (D := { D with nx := tz D }) ha nd sm hz ho h k
theorem en_newK : EvN tDNewK σ H (fun p H' => H' p = some (.dK [])) := fun H1 e Q q => fun p hp => q p _ hp (Ex.new hp) upd_same
/-- {n: True} -/
theorem en_disp1 {n : Nat} (h : ∀ H', Ev ta σ H' (nV n)) : EvN (tDisp [(ta, tC (.bl true))]) σ H (fun p H' => H' p = some (.dK (dKk [n]))) := fun H1 e Q q => fun p hp => by
  refine h _ _ (Ex.refl _) _ fun H2 e2 => (ev_c (σ := σ) (H := H2) : Ev (tC (.bl true)) σ H2 (.bl true)) H2 (Ex.refl _) _ fun H3 e3 => ⟨e3 _ _ (e2 _ _ upd_same), [(ik n, .bl true)], rfl, by simp, ?_⟩
  exact q p _ hp ((((Ex.new hp).trans e2).trans e3).mut hp) upd_same
end
theorem ar_mono_lst {xs : List V} (p : Addr) (H1 H2 : Hp) (e : Ex H1 H2) (h : H1 p = some (.lst xs)) : H2 p = some (.lst xs) := e _ _ h
theorem lotLines_nodup (es : Es) : (lotLinesL es).Nodup := foldl_dput_nodup _ _ List.nodup_nil
theorem thingLines_nodup (es : Es) (more : List (Nat × Nat)) : (thingLinesL es more).Nodup := foldl_dput_nodup _ _ List.nodup_nil
theorem lotLines_mem {es : Es} {p : Nat × Nat} (h : p ∈ lotLinesL es) : p.1 ∈ meetings es ∧ p.2 ∈ meetings es := by
  unfold lotLinesL at h
  rw [foldl_dput_mem] at h
  rcases h with h | h
  · cases h
  · obtain ⟨x, _, hx⟩ := List.mem_flatMap.mp h
    obtain ⟨h1, h2⟩ := consec_rows hx
    exact ⟨(meetingsOf_sub es x).subset h1, (meetingsOf_sub es x).subset h2⟩
theorem thingLines_mem {es : Es} {more : List (Nat × Nat)} {p : Nat × Nat} (h : p ∈ thingLinesL es more) : p.1 ∈ meetings es ∧ p.2 ∈ meetings es := by
  unfold thingLinesL at h
  rw [foldl_dput_mem] at h
  rcases h with h | h
  · cases h
  · obtain ⟨x, _, hx⟩ := List.mem_flatMap.mp h
    obtain ⟨h1, h2⟩ := consec_rows (List.mem_filter.mp hx).1
    exact ⟨(rowsOf_sub es x).subset h1, (rowsOf_sub es x).subset h2⟩
theorem meet80 {es : Es} (g : Good es) {i : Nat} (h : i ∈ meetings es) : i < 80 := Nat.lt_of_lt_of_le (mem_meetings.mp h).1 g.len
theorem lotLines_small {es : Es} (g : Good es) : Small (lotLinesL es) := fun p h => ⟨meet80 g (lotLines_mem h).1, meet80 g (lotLines_mem h).2⟩
theorem thingLines_small {es : Es} (g : Good es) (more : List (Nat × Nat)) : Small (thingLinesL es more) := fun p h => ⟨meet80 g (thingLines_mem h).1, meet80 g (thingLines_mem h).2⟩
theorem nodup_len {α : Type} [BEq α] [LawfulBEq α] : ∀ {l u : List α}, l.Nodup → (∀ x ∈ l, x ∈ u) → l.length ≤ u.length
  | [], _, _, _ => Nat.zero_le _
  | a :: l, u, n, h => by
    have ha := h a (List.mem_cons_self ..)
    have hl : l.length ≤ (u.erase a).length := nodup_len (List.nodup_cons.mp n).2 fun x hx => (List.mem_erase_of_ne (fun e => (List.nodup_cons.mp n).1 (by rw [← e]; exact hx))).mpr (h x (List.mem_cons_of_mem _ hx))
    rw [List.length_erase_of_mem ha] at hl
    have : 0 < u.length := List.length_pos_of_mem ha
    rw [List.length_cons]
    omega
theorem small_len {l : List (Nat × Nat)} (n : l.Nodup) (h : Small l) : l.length ≤ 6400 := by
  refine Nat.le_trans (nodup_len (u := (List.range 80).flatMap fun a => (List.range 80).map fun b => (a, b)) n fun p hp => List.mem_flatMap.mpr ⟨p.1, List.mem_range.mpr (h p hp).1, List.mem_map.mpr ⟨p.2, List.mem_range.mpr (h p hp).2, rfl⟩⟩) (by decide +kernel)
theorem reachStep_len (ls : List (Nat × Nat)) (told : List Nat) (n : Nat) : (reachStep ls told n).length ≤ told.length + 1 := by
  unfold reachStep
  split
  · exact dput_len _ _
  · omega
theorem foldl_reach_len (ls : List (Nat × Nat)) : ∀ (ms told : List Nat), (ms.foldl (reachStep ls) told).length ≤ told.length + ms.length
  | [], told => Nat.le_refl _
  | n :: ms, told => by
    have h1 := foldl_reach_len ls ms (reachStep ls told n)
    have h2 := reachStep_len ls told n
    rw [List.foldl_cons, List.length_cons]
    omega
theorem reached_len {es : Es} (g : Good es) (x m : Nat) (ls : List (Nat × Nat)) : (reached es x m ls).length ≤ 100 := by
  unfold reached
  cases firstM es x m with
  | none => simp
  | some f =>
    have h := foldl_reach_len ls (meetings es) [f]
    have := meetings_len es
    have := g.len
    have e : [f].length = 1 := rfl
    show ((meetings es).foldl (reachStep ls) [f]).length ≤ 100
    omega
def sp_Log_reached (K : PySem.W.Frag) : Sp := spN (fun vs H l => ∃ L es x m d ls, vs = [.ref L, nV x, nV m, .ref d] ∧ LG K H L es ∧ H d = some (.dT (dTk ls)) ∧ l = reached es x m ls) fun l p H => H p = some (.dK (dKk l))
def sp_Log_touched (K : PySem.W.Frag) : Sp := spL fun vs H xs => ∃ L es x m, vs = [.ref L, nV x, nV m] ∧ LG K H L es ∧ xs = (touchedM es x m).map nV
def sp_Log_reaches_all (K : PySem.W.Frag) : Sp := spV fun vs H v => ∃ L es x q fs, vs = [.ref L, nV x, .ref q] ∧ LG K H L es ∧ PairsAt H q fs ∧ fs.length ≤ 30000 ∧ v = .bl (reachesAll es x fs)
section
variable {P : Program} {w : World} {K : PySem.W.Frag} {mg : Str → Option Value} {base : Heap}
abbrev N_Log_reached : List Str := ["self", "lot", "minute", "lines", "first", "told", "number", "own"]
theorem sc_Log_reached : FnScope N_Log_reached ["self", "lot", "minute", "lines"] d_Log_reached.scope := ⟨rfl, rfl, rfl, by decide +kernel, rfl, by decide +kernel, by decide +kernel⟩
theorem ok_Log_reached (T : Txt K mg) : Ok P w K mg base CX0 5 d_Log_reached ["self", "lot", "minute", "lines"] (sp_Log_reached K) := by
  have G_Log_first_meeting : Ok P w K mg base CX0 4 d_Log_first_meeting ["self", "lot", "minute"] (sp_Log_first_meeting K) := ok_Log_first_meeting T
  have G_Log_meetings : Ok P w K mg base CX0 2 d_Log_meetings ["self"] (sp_Log_meetings K) := ok_Log_meetings T
  refine ok0 T.u_Log_reached sc_Log_reached (fun _ _ _ _ _ _ us hl => match us, hl with | [_, _, _, _], _ => rfl) (fun vs H Q E h => ?_) (fun cdv A outer s H vs Q E hr h => ?_)
  · obtain ⟨_, ⟨_, _, _, _, _, _, rfl, _⟩, _⟩ := h
    rfl
  have nd := sc_Log_reached.nd
  refine ⟨_, (pss_cons (ps_set (i := 4) nd rfl (Or.inl rfl) (pe_meth (pv 0) T.c_Log T.m_Log_first_meeting G_Log_first_meeting.f (hr.mono (by decide)) G_Log_first_meeting.b .nil pass0 (pa_cons (pv 1) (pa_cons (pv 2) pa_nil))))
  (pss_cons (ps_if (pt_cmpR op_lt (pv 4) pe_int (nomark _)) (pss_one (ps_ret pe_dnewK)) pss_nil)
  (pss_cons (ps_set (i := 5) nd rfl (Or.inl rfl) (pe_disp (pps_cons (pv 4) pe_bl pps_nil) (by rfl) (by rfl) (fun z => by cases z) (by decide)))
  (pss_cons (ps_for PassesOwn.never rfl (wlist K (pe_meth0 (pv 0) T.c_Log T.m_Log_meetings G_Log_meetings.f (hr.mono (by decide)) G_Log_meetings.b .nil pass0)) (pg_name (i := 6) nd rfl (Or.inr rfl)) (pss_one (ps_if (pt_val (wany K rfl rfl T.f_any (pe_free (pe_lc (own := [("own", 7)]) rfl nd (pi_keysL (pv 5)) (blkOk_by (N := N_Log_reached) (sc := d_Log_reached.scope) (by decide +kernel)) (fun _ _ _ _ _ => (pg_name (i := 7) nd rfl (Or.inl rfl))) (fun _ _ _ _ _ => pts_nil) (fun _ _ _ _ _ => (pe_cmp (pc_din (hu_of hr) (pe_tup (pa_cons (pv 7) (pa_cons (pv 6) pa_nil))) (pv 3)) rfl)))))) (pss_one (ps_dput (hu_of hr) (pv 5) (pv 6) pe_bl rfl)) pss_nil)))
  (pss_one (ps_ret (pv 5))))))), ?_⟩
  obtain ⟨_, ⟨L, es, x, m, d, ls, rfl, ⟨E, as, hL, g⟩, hd, rfl⟩, k⟩ := h
  refine q_asg (v := oV (firstM es x m)) (lg_meth hL (ev_var rfl) (by decide +kernel) (ea_two (ev_var rfl) (ev_var rfl)) fun H1 e => ⟨L, es, x, m, rfl, ⟨E, as, hL.mono e, g⟩, rfl⟩) fun H1 e1 => ?_
  unfold reached at k
  cases hf : firstM es x m with
  | none =>
    rw [hf] at k
    refine q_when (b := true) (et_test (ev_is (ev_op (ev_var rfl) ev_c rv_I0) rfl)) (fun _ H2 e2 => s_retN en_newK fun p H3 n3 e3 h3 => k p H3 (fresh_back (e1.trans e2) n3) ((e1.trans e2).trans e3) h3) (fun h => by cases h)
  | some f =>
    rw [hf] at k
    refine q_when (b := false) (et_test (ev_is (ev_op (ev_var rfl) ev_c rv_I0) (by simp))) (fun h => by cases h) fun _ H2 e2 => ?_
    refine q_asgN (en_disp1 (n := f) fun _ => ev_var rfl) fun t H3 n3 e3 h3 => ?_
    have e03 := (e1.trans e2).trans e3
    have nt : H t = none := fresh_back (e1.trans e2) n3
    have hdt : d ≠ t := fun z => by rw [z, nt] at hd; cases hd
    refine q_forNLn (xs := (meetings es).map nV) (el_meetings (hL.mono e03) g (ev_var rfl))
      (fun p i σ' H' => (∃ x6 x7, σ' = [some (.ref L), some (nV x), some (nV m), some (.ref d), some (nV f), some (.ref t), x6, x7]) ∧ Ex H H' ∧ p ≠ t ∧ H' p = some (.lst ((meetings es).map nV)) ∧ H' t = some (.dK (dKk (((meetings es).take i).foldl (reachStep ls) [f]))))
      (fun p H4 n4 e4 h4 => ⟨⟨_, _, rfl⟩, e03.trans e4, (fun z => by rw [z, h3] at n4; cases n4), h4, e4 _ _ h3⟩) (fun p i σ' H' _ q => sq_of q.2.2.2.1) (fun p i y σ' H' hy q => ?_) fun p σ' H' q => ?_
    · obtain ⟨⟨x6, x7, rfl⟩, e, hpt, hp, ht⟩ := q
      obtain ⟨a, ha, rfl⟩ : ∃ a, (meetings es)[i]? = some a ∧ y = nV a := by
        rw [List.getElem?_map] at hy
        obtain ⟨a, h1, h2⟩ := Option.map_eq_some_iff.mp hy
        exact ⟨a, h1, h2.symm⟩
      have tl := foldl_reach_len ls ((meetings es).take i) [f]
      have hml := meetings_len es
      have hgl := g.len
      have e1' : [f].length = 1 := rfl
      rw [List.length_take, e1'] at tl
      have hstep : ((meetings es).take (i + 1)).foldl (reachStep ls) [f] = reachStep ls (((meetings es).take i).foldl (reachStep ls) [f]) a := by
        rw [take_snoc ha, List.foldl_append]
        rfl
      generalize ((meetings es).take i).foldl (reachStep ls) [f] = told at ht tl hstep
      refine s_when (b := told.any fun o => decide ((o, a) ∈ ls)) (et_B (ev_is (ev_any (bs := told.map fun o => decide ((o, a) ∈ ls)) (el_is (el_of (l := told) (p := fun _ => true) (f := fun o => .bl (decide ((o, a) ∈ ls)))
        (en_keysK (key := ik) Stays.val Unl.val (ev_var rfl) ht (dKk_keys told) (by omega) fun o H5 b e5 hb => ?_)) (by rw [filter_yes, List.map_map]; rfl))) (by rw [List.any_map]; rfl))) (fun hb H5 e5 => ?_) fun hb H5 e5 => ?_
      · refine Turns.name rfl et_yes fun _ => Ev.p (ev_dinU (p := (b, a)) (eu_two (ev_var rfl) (ev_var rfl)) (ev_var rfl) (.inl (e5 _ _ ?_))) fun _ _ => rfl
        rw [upd_ne hdt]
        exact e _ _ hd
      · refine s_dputK (n := a) (e5 _ _ ht) ev_c (ev_var rfl) (ev_var rfl) (by omega) fun H6 e6 => ⟨⟨_, _, rfl⟩, ((e.trans e5).trans e6).mut nt, hpt, by rw [upd_ne hpt]; exact e6 _ _ (e5 _ _ hp), ?_⟩
        rw [upd_same, hstep]
        unfold reachStep
        rw [if_pos hb]
      · refine ⟨⟨_, _, rfl⟩, e.trans e5, hpt, e5 _ _ hp, ?_⟩
        rw [hstep]
        unfold reachStep
        rw [if_neg (by rw [hb]; decide)]
        exact e5 _ _ ht
    · obtain ⟨⟨x6, x7, rfl⟩, e, hpt, hp, ht⟩ := q
      rw [List.length_map, List.take_length] at ht
      exact s_ret (ev_var rfl) fun H5 e5 => k t H5 nt (e.trans e5) (e5 _ _ ht)
abbrev N_Log_touched : List Str := ["self", "lot", "minute", "lines", "held", "number"]
theorem sc_Log_touched : FnScope N_Log_touched ["self", "lot", "minute"] d_Log_touched.scope := ⟨rfl, rfl, rfl, by decide +kernel, rfl, by decide +kernel, by decide +kernel⟩
theorem ok_Log_touched (T : Txt K mg) : Ok P w K mg base CX0 6 d_Log_touched ["self", "lot", "minute"] (sp_Log_touched K) := by
  have G_Log_lot_lines : Ok P w K mg base CX0 4 d_Log_lot_lines ["self"] (sp_Log_lot_lines K) := ok_Log_lot_lines T
  have G_Log_thing_lines : Ok P w K mg base CX0 3 d_Log_thing_lines ["self", "more"] (sp_Log_thing_lines K) := ok_Log_thing_lines T
  have G_Log_reached : Ok P w K mg base CX0 5 d_Log_reached ["self", "lot", "minute", "lines"] (sp_Log_reached K) := ok_Log_reached T
  have G_Log_meetings : Ok P w K mg base CX0 2 d_Log_meetings ["self"] (sp_Log_meetings K) := ok_Log_meetings T
  refine ok0 T.u_Log_touched sc_Log_touched (fun _ _ _ _ _ _ us hl => match us, hl with | [_, _, _], _ => rfl) (fun vs H Q E h => ?_) (fun cdv A outer s H vs Q E hr h => ?_)
  · obtain ⟨_, ⟨_, _, _, _, rfl, _⟩, _⟩ := h
    rfl
  have nd := sc_Log_touched.nd
  refine ⟨_, (pss_cons (ps_set (i := 3) nd rfl (Or.inl rfl) (wdict (hD_of hr) rfl T.f_dict (pe_meth0 (pv 0) T.c_Log T.m_Log_lot_lines G_Log_lot_lines.f (hr.mono (by decide)) G_Log_lot_lines.b .nil pass0)))
  (pss_cons (ps_expr (wupd (hD_of hr) (pv 3) (pe_meth (pv 0) T.c_Log T.m_Log_thing_lines G_Log_thing_lines.f (hr.mono (by decide)) G_Log_thing_lines.b .nil pass0 (pa_cons (pe_lst pa_nil) pa_nil)) ⟨rfl, rfl, rfl, rfl⟩))
  (pss_cons (ps_set (i := 4) nd rfl (Or.inr rfl) (pe_meth (pv 0) T.c_Log T.m_Log_reached G_Log_reached.f (hr.mono (by decide)) G_Log_reached.b .nil pass0 (pa_cons (pv 1) (pa_cons (pv 2) (pa_cons (pv 3) pa_nil)))))
  (pss_one (ps_ret (pe_lc (own := [("number", 5)]) rfl nd (wlist K (pe_meth0 (pv 0) T.c_Log T.m_Log_meetings G_Log_meetings.f (hr.mono (by decide)) G_Log_meetings.b .nil pass0)) (blkOk_by (N := N_Log_touched) (sc := d_Log_touched.scope) (by decide +kernel)) (fun _ _ _ _ _ => (pg_name (i := 5) nd rfl (Or.inl rfl))) (fun _ _ _ _ _ => (pts_one (pt_cmp (pc_din (hu_of hr) (pv 5) (pv 4)) rfl))) (fun _ _ _ _ _ => (pv 5)))))))), ?_⟩
  obtain ⟨_, ⟨L, es, x, m, rfl, ⟨E, as, hL, g⟩, rfl⟩, k⟩ := h
  obtain ⟨dx, hobj⟩ := hL.obj
  refine q_asgN (en_dict (lotLines_nodup es) (lotLines_small g) (lg_methN hL (ev_var rfl) (by decide +kernel) ea_nil fun H1 e => ⟨L, es, rfl, ⟨E, as, hL.mono e, g⟩, rfl⟩)) fun d H1 n1 e1 hd => ?_
  refine q_upd hd (thingLines_nodup es []) (thingLines_small g []) ?_ (ev_var rfl) (en_methR (ev_var rfl) (e1 _ _ hobj) (lg_none (by decide +kernel)) (ar_new (EvL.n (el_lst ea_nil (by simp))) (fun p a b e h => e _ _ h) ar_nil) fun vs H2 e2 ⟨p, us, hvs, hp, hus⟩ =>
    ⟨L, es, p, [], by rw [hvs, hus], ⟨E, as, (hL.mono e1).mono e2, g⟩, ⟨[], hp, .nil⟩, by simp, rfl⟩) fun H2 e2 => ?_
  · have h1 := small_len (lotLines_nodup es) (lotLines_small g)
    have h2 := small_len (thingLines_nodup es []) (thingLines_small g [])
    omega
  · have e02 : Ex H (upd H2 d (.dT (dTk ((thingLinesL es []).foldl dput (lotLinesL es))))) := (e1.trans e2).mut n1
    have hL2 := hL.mono e02
    refine q_asgN (lg_methN hL2 (ev_var rfl) (by decide +kernel) (ea_three (ev_var rfl) (ev_var rfl) (ev_var rfl)) fun H3 e3 => ⟨L, es, x, m, d, allLines es [], rfl, ⟨E, as, hL2.mono e3, g⟩, e3 _ _ upd_same, rfl⟩) fun h3 H3 n3 e3 hh => ?_
    refine s_retL (el_of (l := meetings es) (p := fun i => decide (i ∈ reached es x m (allLines es []))) (f := nV) (en_meetings Stays.val (hL2.mono e3) g (ev_var rfl) fun H4 i e4 _ hi => ?_)) fun p H4 n4 e4 h4 => k p H4 (fresh_back (e02.trans e3) n4) ((e02.trans e3).trans e4) h4
    exact Turns.name rfl (et_B (ev_is (ev_dinK (n := i) (ev_var rfl) (ev_var rfl) (.inl (e4 _ _ hh))) (by rw [dKk_isSome]))) fun _ => Ev.p (ev_var rfl) fun _ _ => rfl
theorem touched_sub (es : Es) (x m : Nat) : (touchedM es x m).Sublist (meetings es) := List.filter_sublist
abbrev N_Log_reaches_all : List Str := ["self", "lot", "finds", "held", "own", "number"]
theorem sc_Log_reaches_all : FnScope N_Log_reaches_all ["self", "lot", "finds"] d_Log_reaches_all.scope := ⟨rfl, rfl, rfl, by decide +kernel, rfl, by decide +kernel, by decide +kernel⟩
theorem ok_Log_reaches_all (T : Txt K mg) : Ok P w K mg base CX0 7 d_Log_reaches_all ["self", "lot", "finds"] (sp_Log_reaches_all K) := by
  have G_Log_touched : Ok P w K mg base CX0 6 d_Log_touched ["self", "lot", "minute"] (sp_Log_touched K) := ok_Log_touched T
  have G_Log_is_find : Ok P w K mg base CX0 1 d_Log_is_find ["self", "number", "finds"] (sp_Log_is_find K) := ok_Log_is_find T
  refine ok0 T.u_Log_reaches_all sc_Log_reaches_all (fun _ _ _ _ _ _ us hl => match us, hl with | [_, _, _], _ => rfl) (fun vs H Q E h => ?_) (fun cdv A outer s H vs Q E hr h => ?_)
  · obtain ⟨_, ⟨_, _, _, _, _, rfl, _⟩, _⟩ := h
    rfl
  have nd := sc_Log_reaches_all.nd
  refine ⟨_, (pss_cons (ps_set (i := 3) nd rfl (Or.inr rfl) (pe_meth (pv 0) T.c_Log T.m_Log_touched G_Log_touched.f (hr.mono (by decide)) G_Log_touched.b .nil pass0 (pa_cons (pv 1) (pa_cons pe_int pa_nil))))
  (pss_one (ps_ret (wall K rfl rfl T.f_all (pe_lc (own := [("own", 4)]) rfl nd (wlist K (pv 2)) (blkOk_by (N := N_Log_reaches_all) (sc := d_Log_reaches_all.scope) (by decide +kernel)) (fun _ _ _ _ _ => (pg_name (i := 4) nd rfl (Or.inr rfl))) (fun _ _ _ _ _ => pts_nil) (fun _ _ _ _ _ => (pe_or (pe_cmpR op_eq (wixT K (pv 4) pe_int) (pv 1) (nomark _)) (pe_one (wany K rfl rfl T.f_any (pe_lc (own := [("number", 5)]) rfl nd (wlist K (pv 3)) (blkOk_by (N := N_Log_reaches_all) (sc := relS _ d_Log_reaches_all.scope) (by decide +kernel)) (fun _ _ _ _ _ => (pg_name (i := 5) nd rfl (Or.inl rfl))) (fun _ _ _ _ _ => pts_nil) (fun _ _ _ _ _ => (pe_meth (pv 0) T.c_Log T.m_Log_is_find G_Log_is_find.f (hr.mono (by decide)) G_Log_is_find.b .nil pass0 (pa_cons (pv 5) (pa_cons (pe_lst (pa_cons (pv 4) pa_nil)) pa_nil)))))))))))))), ?_⟩
  obtain ⟨_, ⟨L, es, x, q, fs, rfl, ⟨E, as, hL, g⟩, hq, hz, rfl⟩, k⟩ := h
  refine q_asgL (lg_methL hL (ev_var rfl) (by decide +kernel) (ea_two (ev_var rfl) ev_c) fun H1 e => ⟨L, es, x, 0, rfl, ⟨E, as, hL.mono e, g⟩, rfl⟩) fun p H1 n1 e1 hp => ?_
  obtain ⟨ys, hy, pr⟩ := hq.mono e1
  refine s_ret (v := .bl (reachesAll es x fs)) (ev_is (ev_all (bs := fs.map fun f => decide (f.1 = x) || (touchedM es x 0).any fun i => isFind es i [f]) (el_is (el_of (l := fs) (p := fun _ => true)
    (f := fun f => .bl (decide (f.1 = x) || (touchedM es x 0).any fun i => isFind es i [f])) (en_lcL Stays.val (ev_var rfl) (sq_of hy) (paired_len pr).symm (by omega) fun j f y ha hx => ?_)) (by rw [filter_yes, List.map_map]; rfl))) (by rw [List.all_map]; rfl)) fun H2 e2 => k H2 (e1.trans e2)
  obtain ⟨t, rfl, ht⟩ := paired_at pr ha hx
  refine Turns.name rfl et_yes fun _ => Ev.p (ev_orV (ev_eqN (ev_ixT (i := 0) (ev_var rfl) ev_c (st_of ht) rfl) (ev_var rfl)) fun _ => ev_is (ev_any (bs := (touchedM es x 0).map fun i => isFind es i [f]) (el_is (el_of (l := touchedM es x 0) (p := fun _ => true) (f := fun i => .bl (isFind es i [f]))
    (en_lcL Stays.val (ev_var rfl) (sq_of hp) (by rw [List.length_map]) (Nat.le_trans (touched_sub es x 0).length_le (mz g)) fun i2 i y2 ha2 hx2 => ?_)) (by rw [filter_yes, List.map_map]; rfl))) (by rw [List.any_map]; rfl)) fun _ _ => rfl
  cases map_at ha2 hx2
  have hi := (mem_meetings.mp ((touched_sub es x 0).subset (List.mem_of_getElem? ha2))).1
  have hL1 := hL.mono e1
  obtain ⟨dx, hobj⟩ := hL1.obj
  exact Turns.name rfl et_yes fun _ => Ev.p (ev_methR (ev_var rfl) hobj (lg_none (by decide +kernel)) (ar_cons (ev_var rfl) (ar_new (EvL.n (el_lst (ea_one (ev_var rfl)) (by simp))) (fun p a b e h => e _ _ h) ar_nil)) fun vs H2 e2 ⟨us, hvs, p2, us2, hus, hp2, hus2⟩ =>
    ⟨L, es, i, p2, [f], by rw [hvs, hus, hus2], ⟨E, as, hL1.mono e2, g⟩, hi, ⟨_, hp2, .cons ⟨t, rfl, e2 _ _ ht⟩ .nil⟩, by simp, rfl⟩) fun _ _ => rfl
end
end St

end

section

set_option Elab.async false
set_option linter.all false
set_option maxRecDepth 100000
set_option maxHeartbeats 4000000
namespace St
open PySem PySem.Spec PyProof.Rows L2 Evl
abbrev cRef (K : PySem.W.Frag) : Addr := He.ga K "Refused"
section
variable {K : PySem.W.Frag} {mg : Str → Option Value}
theorem Txt.e (T : Txt K mg) : extra K = true := by
  obtain ⟨h, X, G, c⟩ := T.ex
  exact c.e
theorem Txt.deeds_ (T : Txt K mg) : He.tupB K "DEEDS" deeds = true := (He.ba T.e).1
theorem Txt.oex (T : Txt K mg) : OexC K (cRef K) := by
  obtain ⟨_, h⟩ := He.ba T.e
  obtain ⟨h1, h⟩ := He.ba h
  obtain ⟨_, h⟩ := He.ba h
  obtain ⟨h3, h⟩ := He.ba h
  obtain ⟨h4, h⟩ := He.ba h
  obtain ⟨h5, h6⟩ := He.ba h
  exact ⟨oexB_ok h1, He.eqO_ok h3, of_decide_eq_true h4, of_decide_eq_true h5, T.kp_Refused⟩
theorem Txt.tR (T : Txt K mg) : PySem.W.typeIn K (.ref (He.ma K (cRef K) "__init__")) = some (.type "function") := by
  obtain ⟨_, h⟩ := He.ba T.e
  obtain ⟨_, h⟩ := He.ba h
  obtain ⟨_, h⟩ := He.ba h
  obtain ⟨_, h⟩ := He.ba h
  obtain ⟨_, h⟩ := He.ba h
  exact of_decide_eq_true (He.ba h).2
theorem Txt.iR (T : Txt K mg) : PySem.W.findIn K (.ref (cRef K)) "__init__" = some (some (.ref (He.ma K (cRef K) "__init__"))) := T.m_Refused_init.at_
theorem Txt.xf (T : Txt K mg) : XfC K (cRef K) := by
  obtain ⟨_, h⟩ := He.ba T.e
  obtain ⟨_, h⟩ := He.ba h
  exact xfB_ok (He.ba h).1
theorem putF_past {f g : Str} {v x : V} {r : List (Str × V)} (h : ¬ g = f) : putF f v ((g, x) :: r) = (g, x) :: putF f v r := if_neg h
/-- a refusal goes out -/
def Rz (K : PySem.W.Frag) (ns : List Int) (H : Hp) (E : XK) : Prop := ∀ d q H', Ex H H' → H d = none → H q = none → H' d = some (.xd [("numbers", .ref q)]) → H' q = some (.lst (ns.map .int)) → E (.ref (cRef K)) (some d) H'
theorem Rz.mono {ns : List Int} {H H' : Hp} {E : XK} (h : Rz K ns H E) (e : Ex H H') : Rz K ns H' E := fun d q H2 e2 n nq h1 h2 => h d q H2 (e.trans e2) (fresh_back e n) (fresh_back e nq) h1 h2
/-- how a call ends: a value, or a refusal -/
abbrev Out := Except (List Int) V
def OutV (K : PySem.W.Frag) (E : XK) (Q : VK) (H : Hp) : Out → Prop
  | .ok v => ∀ H', Ex H H' → Q v H'
  | .error ns => Rz K ns H E
def spX (K : PySem.W.Frag) (pre : List V → Hp → Out → Prop) : Sp := fun vs H Q E => ∃ o, pre vs H o ∧ OutV K E Q H o
/-- .. a new object, or a refusal -/
def OutN (K : PySem.W.Frag) {α : Type} (post : α → Addr → Hp → Prop) (E : XK) (Q : VK) (H : Hp) : Except (List Int) α → Prop
  | .ok x => ∀ p H', H p = none → Ex H H' → post x p H' → Q (.ref p) H'
  | .error ns => Rz K ns H E
def spXN (K : PySem.W.Frag) {α : Type} (pre : List V → Hp → Except (List Int) α → Prop) (post : α → Addr → Hp → Prop) : Sp := fun vs H Q E => ∃ o, pre vs H o ∧ OutN K post E Q H o
section
variable {σ : L2.St} {H : Hp} {te : TE} {t : TA} {D : Ends} {tz : TS} {E : XK} {vs : List V}
theorem s_callX {pre : List V → Hp → Out → Prop} {o : Out} (ha : EvA t σ H vs) (hp : ∀ H1, Ex H H1 → pre vs H1 o) (k : ∀ v, o = .ok v → ∀ H1, Ex H H1 → D.nx σ H1) (er : ∀ ns, o = .error ns → Rz K ns H E) : tDrop (tCall (spX K pre) [] E t) D σ H :=
  ha H (Ex.refl H) _ fun H1 e1 => ⟨o, by rw [List.append_nil]; exact hp H1 e1, by
    cases o with
    | ok v => exact fun H2 e2 => k v rfl H2 (e1.trans e2)
    | error ns => exact (er ns rfl).mono e1⟩
theorem q_callX {pre : List V → Hp → Out → Prop} {o : Out} (ha : EvA t σ H vs) (hp : ∀ H1, Ex H H1 → pre vs H1 o) (k : ∀ v, o = .ok v → ∀ H1, Ex H H1 → tz D σ H1) (er : ∀ ns, o = .error ns → Rz K ns H E) : tSeq (tDrop (tCall (spX K pre) [] E t)) tz D σ H := s_callX (D := { D with nx := tz D }) ha hp k er
theorem q_asgX {pre : List V → Hp → Out → Prop} {o : Out} {i : Nat} (ha : EvA t σ H vs) (hp : ∀ H1, Ex H H1 → pre vs H1 o) (k : ∀ v, o = .ok v → ∀ H1, Ex H H1 → tz D (σ.set i (some v)) H1) (er : ∀ ns, o = .error ns → Rz K ns H E) : tSeq (tAsg (tCall (spX K pre) [] E t) (gName i)) tz D σ H :=
  ha H (Ex.refl H) _ fun H1 e1 => ⟨o, by rw [List.append_nil]; exact hp H1 e1, by
    cases o with
    | ok v => exact fun H2 e2 => k v rfl H2 (e1.trans e2)
    | error ns => exact (er ns rfl).mono e1⟩
theorem q_asgXN {α : Type} {pre : List V → Hp → Except (List Int) α → Prop} {post : α → Addr → Hp → Prop} {o : Except (List Int) α} {i : Nat} (ha : EvA t σ H vs) (hp : ∀ H1, Ex H H1 → pre vs H1 o) (k : ∀ x, o = .ok x → ∀ p H1, H p = none → Ex H H1 → post x p H1 → tz D (σ.set i (some (.ref p))) H1) (er : ∀ ns, o = .error ns → Rz K ns H E) :
    tSeq (tAsg (tCall (spXN K pre post) [] E t) (gName i)) tz D σ H :=
  ha H (Ex.refl H) _ fun H1 e1 => ⟨o, by rw [List.append_nil]; exact hp H1 e1, by
    cases o with
    | ok x => exact fun p H2 n e2 h2 => k x rfl p H2 (fresh_back e1 n) (e1.trans e2) h2
    | error ns => exact (er ns rfl).mono e1⟩
end
def sp_Refused_init (K : PySem.W.Frag) : Sp := fun vs H Q _ => ∃ a v, vs = [.ref a, v] ∧ H a = some (exo a (cRef K) none) ∧ ∀ d, H d = none → d ≠ a → Q .non (upd (upd H d (exd d [("numbers", v)])) a (exo a (cRef K) (some d)))
/-- raise Refused(a new list of numbers) -/
theorem s_raiseR {σ : L2.St} {H : Hp} {te : TE} {D : Ends} {E : XK} {ns : List Int} (h : EvL te σ H (ns.map .int)) (k : Rz K ns H E) :
    (fun (_ : Ends) σ H => tMkO (cRef K) (sp_Refused_init K) [] (tCons te tNil) σ H fun cls d H' => (fun cls d (_ : L2.St) H => E cls d H) cls d σ H') D σ H := h H (Ex.refl H) _ fun q H1 nq e1 hq => ⟨by simp, fun a ha => by
  refine ⟨a, .ref q, rfl, upd_same, fun d hd hda => ⟨rfl, d, [("numbers", .ref q)], upd_same, by rw [upd_ne hda, upd_same], by rw [upd_ne hda] at hd; exact hd, ?_⟩⟩
  rw [upd_ne hda] at hd
  have keep : ∀ b o, H1 b = some o → (upd (L2.del (upd (upd (upd H1 a (exo a (cRef K) none)) d (exd d [("numbers", .ref q)])) a (exo a (cRef K) (some d))) a) d (.xd [("numbers", .ref q)])) b = some o := fun b o hb => by
    have hba : b ≠ a := ne_of_none hb ha
    have hbd : b ≠ d := ne_of_none hb hd
    rw [upd_ne hbd, del_ne hba, upd_ne hba, upd_ne hbd, upd_ne hba]
    exact hb
  exact k d q _ (e1.trans keep) (fresh_back e1 hd) nq upd_same (keep _ _ hq)⟩
end
def sp_Entry_init (K : PySem.W.Frag) : Sp := fun vs H Q _ => ∃ x dx t m l, vs = [.ref x, nV t, nV m, .ref l] ∧ H x = some (.ins (cEnt K) dx []) ∧ Q .non (upd H x (.ins (cEnt K) dx [("thing", nV t), ("minute", nV m), ("lots", .ref l), ("is_struck", .bl false)]))
def sp_Log_init (K : PySem.W.Frag) : Sp := fun vs H Q _ => ∃ x dx, vs = [.ref x] ∧ H x = some (.ins (cLog K) dx []) ∧ ∀ En H', H En = none → Ex H H' → H' En = some (.lst []) → Q .non (upd H' x (.ins (cLog K) dx [("entries", .ref En)]))
def sp_refuse (K : PySem.W.Frag) : Sp := spX K fun vs _ o => ∃ (b : Bool) (c : Int), vs = [.bl b, .int c] ∧ o = if b = true then .error [c] else .ok .non
def sp_check_thing (K : PySem.W.Frag) : Sp := spX K fun vs _ o => ∃ t m : Nat, vs = [nV t, nV m] ∧ o = if t < 20 ∧ m < 52596000 then .ok .non else .error [-1]
def sp_check_lot (K : PySem.W.Frag) : Sp := spX K fun vs _ o => ∃ t m : Nat, vs = [nV t, nV m] ∧ o = if t < 1000 ∧ m < 52596000 then .ok .non else .error [-1]
def sp_check_free (K : PySem.W.Frag) : Sp := spX K fun vs H o => ∃ L es t m, vs = [.ref L, nV t, nV m] ∧ LG K H L es ∧ o = if 80 ≤ es.length then .error [-7] else if isTaken es t m = true then .error [-6] else .ok .non
section
variable {P : Program} {w : World} {K : PySem.W.Frag} {mg : Str → Option Value} {base : Heap}
abbrev N_Refused_init : List Str := ["self", "numbers"]
theorem sc_Refused_init : FnScope N_Refused_init ["self", "numbers"] d_Refused_init.scope := ⟨rfl, rfl, rfl, by decide +kernel, rfl, by decide +kernel, by decide +kernel⟩
theorem ok_Refused_init (T : Txt K mg) : Ok P w K mg base CX0 1 d_Refused_init ["self", "numbers"] (sp_Refused_init K) := by
  refine ok0 T.u_Refused_init sc_Refused_init (fun _ _ _ _ _ _ us hl => match us, hl with | [_, _], _ => rfl) (fun vs H Q E h => ?_) (fun cdv A outer s H vs Q E hr h => ?_)
  · obtain ⟨_, _, rfl, _⟩ := h
    rfl
  have nd := sc_Refused_init.nd
  refine ⟨_, (pss_one (ps_ost (pv 0) (pv 1))), ?_⟩
  obtain ⟨a, v, rfl, ha, k⟩ := h
  exact ⟨v, rfl, .ref a, rfl, a, cRef K, rfl, T.oex, T.n_Refused_numbers, .inl ⟨ha, fun d hd hda => k d hd hda⟩⟩
abbrev N_Entry_init : List Str := ["self", "thing", "minute", "lots"]
theorem sc_Entry_init : FnScope N_Entry_init ["self", "thing", "minute", "lots"] d_Entry_init.scope := ⟨rfl, rfl, rfl, by decide +kernel, rfl, by decide +kernel, by decide +kernel⟩
theorem ok_Entry_init (T : Txt K mg) : Ok P w K mg base CX0 1 d_Entry_init ["self", "thing", "minute", "lots"] (sp_Entry_init K) := by
  refine ok0 T.u_Entry_init sc_Entry_init (fun _ _ _ _ _ _ us hl => match us, hl with | [_, _, _, _], _ => rfl) (fun vs H Q E h => ?_) (fun cdv A outer s H vs Q E hr h => ?_)
  · obtain ⟨_, _, _, _, _, rfl, _⟩ := h
    rfl
  have nd := sc_Entry_init.nd
  refine ⟨_, (pss_cons (sfld K (pv 0) (pv 1))
  (pss_cons (sfld K (pv 0) (pv 2))
  (pss_cons (sfld K (pv 0) (pv 3))
  (pss_one (sfld K (pv 0) pe_bl))))), ?_⟩
  obtain ⟨x, dx, t, m, l, rfl, hx, k⟩ := h
  refine ⟨_, rfl, _, rfl, x, _, dx, [], rfl, hx, T.c_Entry, T.n_Entry_thing, by simp, ⟨_, rfl, _, rfl, x, _, dx, [("thing", nV t)], rfl, upd_same, T.c_Entry, T.n_Entry_minute, by simp, ⟨_, rfl, _, rfl, x, _, dx, [("thing", nV t), ("minute", nV m)], rfl, ?_, T.c_Entry, T.n_Entry_lots, by simp,
    ⟨_, rfl, x, _, dx, [("thing", nV t), ("minute", nV m), ("lots", .ref l)], rfl, ?_, T.c_Entry, T.n_Entry_is_struck, by simp, ?_⟩⟩⟩⟩
  · rw [upd_same, putF_past (by decide +kernel)]
    rfl
  · rw [upd_same, putF_past (by decide +kernel), putF_past (by decide +kernel)]
    rfl
  · rw [upd_upd, upd_upd, upd_upd, putF_past (by decide +kernel), putF_past (by decide +kernel), putF_past (by decide +kernel)]
    exact k
abbrev N_Log_init : List Str := ["self"]
theorem sc_Log_init : FnScope N_Log_init ["self"] d_Log_init.scope := ⟨rfl, rfl, rfl, by decide +kernel, rfl, by decide +kernel, by decide +kernel⟩
theorem ok_Log_init (T : Txt K mg) : Ok P w K mg base CX0 1 d_Log_init ["self"] (sp_Log_init K) := by
  refine ok0 T.u_Log_init sc_Log_init (fun _ _ _ _ _ _ us hl => match us, hl with | [_], _ => rfl) (fun vs H Q E h => ?_) (fun cdv A outer s H vs Q E hr h => ?_)
  · obtain ⟨_, _, rfl, _⟩ := h
    rfl
  have nd := sc_Log_init.nd
  refine ⟨_, (pss_one (sfld K (pv 0) (pe_lst pa_nil))), ?_⟩
  obtain ⟨x, dx, rfl, hx, k⟩ := h
  exact (el_lst (σ := [some (.ref x)]) (H := H) ea_nil (by simp)) H (Ex.refl H) _ fun En H1 n1 e1 h1 => ⟨_, rfl, x, _, dx, [], rfl, e1 _ _ hx, T.c_Log, T.n_Log_entries, by simp, k En H1 n1 e1 h1⟩
abbrev N_refuse : List Str := ["holds", "code"]
theorem sc_refuse : FnScope N_refuse ["holds", "code"] d_refuse.scope := ⟨rfl, rfl, rfl, by decide +kernel, rfl, by decide +kernel, by decide +kernel⟩
theorem ok_refuse (T : Txt K mg) : Ok P w K mg base (L2.CX P w) 3 d_refuse ["holds", "code"] (sp_refuse K) := by
  have G_Refused_init : Ok P w K mg base CX0 1 d_Refused_init ["self", "numbers"] (sp_Refused_init K) := ok_Refused_init T
  refine okX T.u_refuse sc_refuse (fun _ _ _ _ _ _ us hl => match us, hl with | [_, _], _ => rfl) (fun vs H Q E h => ?_) (fun cdv A outer s H vs Q E hr h => ?_)
  · obtain ⟨_, ⟨_, _, rfl, _⟩, _⟩ := h
    rfl
  have nd := sc_refuse.nd
  refine ⟨_, (pss_one (ps_if (pt_val (pv 0)) (pss_one (ps_raise rfl (takes_of rfl rfl rfl rfl) (pmk_oex T.oex T.iR T.tR G_Refused_init.f (hr.mono (by decide)) G_Refused_init.b .nil pass0 rfl T.g_Refused (pa_cons (pe_lst (pa_cons (pv 1) pa_nil)) pa_nil)))) pss_nil)), ?_⟩
  obtain ⟨_, ⟨b, c, rfl, rfl⟩, k⟩ := h
  refine s_when (b := b) (et_B (ev_var rfl)) (fun hb H1 e1 => ?_) fun hb H1 e1 => ?_
  · rw [hb] at k
    exact s_raiseR (D := ⟨fun _ _ => False, fun _ _ => False, fun _ _ => False, fun _ _ => False⟩) (ns := [c]) (el_lst (ea_one (ev_var rfl)) (by simp)) (k.mono e1)
  · rw [hb] at k
    exact k H1 e1
theorem ev_gtI {σ : L2.St} {H : Hp} {ta tb : TE} {i j : Int} (ha : Ev ta σ H (.int i)) (hb : Ev tb σ H (.int j)) : Ev (tOp (rI0 fun i j => .bl (decide (j < i))) ta tb) σ H (.bl (decide (j < i))) := ev_op ha hb rv_I0
abbrev N_check_thing : List Str := ["thing", "minute"]
theorem sc_check_thing : FnScope N_check_thing ["thing", "minute"] d_check_thing.scope := ⟨rfl, rfl, rfl, by decide +kernel, rfl, by decide +kernel, by decide +kernel⟩
theorem ok_check_thing (T : Txt K mg) : Ok P w K mg base (L2.CX P w) 4 d_check_thing ["thing", "minute"] (sp_check_thing K) := by
  have G_refuse : Ok P w K mg base (L2.CX P w) 3 d_refuse ["holds", "code"] (sp_refuse K) := ok_refuse T
  obtain ⟨t_LAST_MINUTE, h_LAST_MINUTE⟩ := T.i_LAST_MINUTE
  obtain ⟨t_MOST_THING, h_MOST_THING⟩ := T.i_MOST_THING
  refine okX T.u_check_thing sc_check_thing (fun _ _ _ _ _ _ us hl => match us, hl with | [_, _], _ => rfl) (fun vs H Q E h => ?_) (fun cdv A outer s H vs Q E hr h => ?_)
  · obtain ⟨_, ⟨_, _, rfl, _⟩, _⟩ := h
    rfl
  have nd := sc_check_thing.nd
  refine ⟨_, (pss_one (ps_expr (pe_call G_refuse.f (hr.mono (by decide)) rfl T.g_refuse G_refuse.kp G_refuse.b .nil (passes_call (takes_of rfl rfl rfl rfl) (fun _ _ _ _ h => h)) (pa_cons (pe_or (pe_cmpR op_gt (pv 0) (pe_glob (v := .int 19) rfl h_MOST_THING ⟨_, rfl⟩) (nomark _)) (pe_one (pe_cmpR op_gt (pv 1) (pe_glob (v := .int 52595999) rfl h_LAST_MINUTE ⟨_, rfl⟩) (nomark _)))) (pa_cons (pe_un un_neg pe_int) pa_nil))))), ?_⟩
  obtain ⟨_, ⟨t, m, rfl, rfl⟩, k⟩ := h
  refine s_callX (o := if decide (19 < (t : Int)) || decide (52595999 < (m : Int)) then .error [-1] else .ok .non) (ea_two (ev_orV (ev_gtI (ev_var rfl) ev_c) fun _ => ev_gtI (ev_var rfl) ev_c) (ev_un ev_c ru_neg)) (fun H1 _ => ⟨_, _, rfl, rfl⟩) (fun v hv H1 e1 => ?_) fun ns hn => ?_
  · by_cases hc : t < 20 ∧ m < 52596000
    · rw [if_pos hc] at k
      exact k H1 e1
    · rw [if_pos (by simp; omega)] at hv
      cases hv
  · by_cases hc : t < 20 ∧ m < 52596000
    · rw [if_neg (by simp; omega)] at hn
      cases hn
    · rw [if_neg hc] at k
      rw [if_pos (by simp; omega)] at hn
      cases hn
      exact k
abbrev N_check_lot : List Str := ["lot", "minute"]
theorem sc_check_lot : FnScope N_check_lot ["lot", "minute"] d_check_lot.scope := ⟨rfl, rfl, rfl, by decide +kernel, rfl, by decide +kernel, by decide +kernel⟩
theorem ok_check_lot (T : Txt K mg) : Ok P w K mg base (L2.CX P w) 4 d_check_lot ["lot", "minute"] (sp_check_lot K) := by
  have G_refuse : Ok P w K mg base (L2.CX P w) 3 d_refuse ["holds", "code"] (sp_refuse K) := ok_refuse T
  obtain ⟨t_LAST_MINUTE, h_LAST_MINUTE⟩ := T.i_LAST_MINUTE
  obtain ⟨t_MOST_LOT, h_MOST_LOT⟩ := T.i_MOST_LOT
  refine okX T.u_check_lot sc_check_lot (fun _ _ _ _ _ _ us hl => match us, hl with | [_, _], _ => rfl) (fun vs H Q E h => ?_) (fun cdv A outer s H vs Q E hr h => ?_)
  · obtain ⟨_, ⟨_, _, rfl, _⟩, _⟩ := h
    rfl
  have nd := sc_check_lot.nd
  refine ⟨_, (pss_one (ps_expr (pe_call G_refuse.f (hr.mono (by decide)) rfl T.g_refuse G_refuse.kp G_refuse.b .nil (passes_call (takes_of rfl rfl rfl rfl) (fun _ _ _ _ h => h)) (pa_cons (pe_or (pe_cmpR op_gt (pv 0) (pe_glob (v := .int 999) rfl h_MOST_LOT ⟨_, rfl⟩) (nomark _)) (pe_one (pe_cmpR op_gt (pv 1) (pe_glob (v := .int 52595999) rfl h_LAST_MINUTE ⟨_, rfl⟩) (nomark _)))) (pa_cons (pe_un un_neg pe_int) pa_nil))))), ?_⟩
  obtain ⟨_, ⟨t, m, rfl, rfl⟩, k⟩ := h
  refine s_callX (o := if decide (999 < (t : Int)) || decide (52595999 < (m : Int)) then .error [-1] else .ok .non) (ea_two (ev_orV (ev_gtI (ev_var rfl) ev_c) fun _ => ev_gtI (ev_var rfl) ev_c) (ev_un ev_c ru_neg)) (fun H1 _ => ⟨_, _, rfl, rfl⟩) (fun v hv H1 e1 => ?_) fun ns hn => ?_
  · by_cases hc : t < 1000 ∧ m < 52596000
    · rw [if_pos hc] at k
      exact k H1 e1
    · rw [if_pos (by simp; omega)] at hv
      cases hv
  · by_cases hc : t < 1000 ∧ m < 52596000
    · rw [if_neg (by simp; omega)] at hn
      cases hn
    · rw [if_neg hc] at k
      rw [if_pos (by simp; omega)] at hn
      cases hn
      exact k
abbrev N_check_free : List Str := ["log", "thing", "minute"]
theorem sc_check_free : FnScope N_check_free ["log", "thing", "minute"] d_check_free.scope := ⟨rfl, rfl, rfl, by decide +kernel, rfl, by decide +kernel, by decide +kernel⟩
theorem ok_check_free (T : Txt K mg) : Ok P w K mg base (L2.CX P w) 4 d_check_free ["log", "thing", "minute"] (sp_check_free K) := by
  have G_refuse : Ok P w K mg base (L2.CX P w) 3 d_refuse ["holds", "code"] (sp_refuse K) := ok_refuse T
  have G_Log_is_taken : Ok P w K mg base CX0 2 d_Log_is_taken ["self", "thing", "minute"] (sp_Log_is_taken K) := ok_Log_is_taken T
  obtain ⟨t_MOST_ENTRIES, h_MOST_ENTRIES⟩ := T.i_MOST_ENTRIES
  refine okX T.u_check_free sc_check_free (fun _ _ _ _ _ _ us hl => match us, hl with | [_, _, _], _ => rfl) (fun vs H Q E h => ?_) (fun cdv A outer s H vs Q E hr h => ?_)
  · obtain ⟨_, ⟨_, _, _, _, rfl, _⟩, _⟩ := h
    rfl
  have nd := sc_check_free.nd
  refine ⟨_, (pss_cons (ps_expr (pe_call G_refuse.f (hr.mono (by decide)) rfl T.g_refuse G_refuse.kp G_refuse.b .nil (passes_call (takes_of rfl rfl rfl rfl) (fun _ _ _ _ h => h)) (pa_cons (pe_cmpR op_eq (wlen K rfl T.f_len (wfld K (pv 0))) (pe_glob (v := .int 80) rfl h_MOST_ENTRIES ⟨_, rfl⟩) (nomark _)) (pa_cons (pe_un un_neg pe_int) pa_nil))))
  (pss_one (ps_expr (pe_call G_refuse.f (hr.mono (by decide)) rfl T.g_refuse G_refuse.kp G_refuse.b .nil (passes_call (takes_of rfl rfl rfl rfl) (fun _ _ _ _ h => h)) (pa_cons (pe_meth (pv 0) T.c_Log T.m_Log_is_taken G_Log_is_taken.f (hr.mono (by decide)) G_Log_is_taken.b .nil pass0 (pa_cons (pv 1) (pa_cons (pv 2) pa_nil))) (pa_cons (pe_un un_neg pe_int) pa_nil)))))), ?_⟩
  obtain ⟨_, ⟨L, es, t, m, rfl, ⟨E, as, hL, g⟩, rfl⟩, k⟩ := h
  have hg := g.len
  refine q_callX (o := if decide (es.length = 80) then .error [-7] else .ok .non) (ea_two (ev_is (ev_op (ev_len (ev_entries T hL (ev_var rfl)) (sq_of hL.lst)) ev_c (rv_eq rfl)) (by rw [List.length_map, hL.len]; congr 1; simp; omega)) (ev_un ev_c ru_neg)) (fun H1 _ => ⟨_, _, rfl, rfl⟩) (fun v hv H1 e1 => ?_) fun ns hn => ?_
  · have h80 : ¬ 80 ≤ es.length := by
      intro hc
      rw [if_pos (by simp; omega)] at hv
      cases hv
    rw [if_neg h80] at k
    refine s_callX (o := if isTaken es t m = true then .error [-6] else .ok .non) (ea_two (lg_meth (hL.mono e1) (ev_var rfl) (by decide +kernel) (ea_two (ev_var rfl) (ev_var rfl)) fun H2 e2 => ⟨L, es, t, m, rfl, ⟨E, as, (hL.mono e1).mono e2, g⟩, rfl⟩) (ev_un ev_c ru_neg)) (fun H2 _ => ⟨_, _, rfl, rfl⟩) (fun v hv2 H2 e2 => ?_) fun ns hn => ?_
    · by_cases hc : isTaken es t m = true
      · rw [if_pos hc] at hv2
        cases hv2
      · rw [if_neg hc] at k
        exact k H2 (e1.trans e2)
    · by_cases hc : isTaken es t m = true
      · rw [if_pos hc] at hn k
        cases hn
        exact k.mono e1
      · rw [if_neg hc] at hn
        cases hn
  · by_cases hc : es.length = 80
    · rw [if_pos (by simp [hc])] at hn
      cases hn
      rw [if_pos (by omega)] at k
      exact k
    · rw [if_neg (by simp [hc])] at hn
      cases hn
end
end St

end

section

set_option Elab.async false
set_option linter.all false
set_option maxRecDepth 100000
set_option maxHeartbeats 4000000
namespace St
open PySem PySem.Spec PyProof.Rows L2 Evl
/-- rows of numbers -/
def RowsAt (H : Hp) (r : Addr) (ll : List (List Int)) : Prop := ∃ ys, H r = some (.lst ys) ∧ Paired (fun (z : List Int) (y : V) => ∃ t, y = .ref t ∧ H t = some (.lst (z.map .int))) ll ys
theorem RowsAt.mono {H H' : Hp} {q : Addr} {l : List (List Int)} (h : RowsAt H q l) (e : Ex H H') : RowsAt H' q l := by
  obtain ⟨ys, h1, h2⟩ := h
  exact ⟨ys, e _ _ h1, paired_imp (fun a y ⟨t, e1, e2⟩ => ⟨t, e1, e _ _ e2⟩) h2⟩
section
variable {K : PySem.W.Frag} {σ : L2.St} {H : Hp} {te : TE} {tt : TT} {g : TG} {vs : List Nat}
/-- range(lo, hi, step) -/
theorem en_lcR3 {ta : TA} {lo hi c : Int} {n : Nat} {p : Nat → Bool} {RA : Nat → V → Hp → Prop} (S : Stays RA) (h : EvA ta σ H [.int lo, .int hi, .int c]) (hr : RgC lo hi c n) (hn : n ≤ 90000) (turn : ∀ i : Nat, i < n → Turns σ vs g tt te H p RA i (.int (lo + (i : Int) * c))) :
    EvN (tLc (iRng3 ta) g tt te vs) σ H (fun D H' => ∃ ys, H' D = some (.lst ys) ∧ Paired (fun a y => RA a y H') ((List.range n).filter p) ys) := fun H0 e Q q => h H0 e _ fun H1 e1 =>
  ⟨lo, hi, c, n, rfl, hr, fun D hD => lc_core2 (l := List.range n) (p := p) (RA := RA) (w := by rw [List.length_range]; exact walk_rangeC) hD (by rw [List.length_range]; omega) (fun _ _ => trivial) S.mono (fun a y H acc acc' => S.ins a y H D acc acc')
    (fun i a x H' H'' ha e' _ y => by
      obtain ⟨eH, rfl⟩ := y
      obtain ⟨hi, rfl⟩ := List.getElem?_eq_some_iff.mp ha
      rw [List.length_range] at hi
      rw [List.getElem_range, eH]
      obtain ⟨σ2, h1, h2, h3, h4⟩ := (turn i hi).ex
      exact ⟨Ex.refl _, σ2, fun Q q => h1 _ Q ((e.trans e1).trans e') q, h2, h3.mono ((e.trans e1).trans e'), fun z => (h4 z).mono ((e.trans e1).trans e')⟩)
    fun H' ys e' hy pr => q D H' (fresh_back e1 hD) (e1.trans e') ⟨ys, hy, pr⟩⟩
theorem rgc2 (n : Nat) (h : n ≤ 90000) : RgC 0 (n : Int) 2 ((n + 1) / 2) := by
  have e : Builtin.Range.rangeSize 0 (n : Int) 2 = (((n + 1) / 2 : Nat) : Int) := by
    unfold Builtin.Range.rangeSize
    rw [if_pos (by omega)]
    split <;> omega
  refine ⟨by decide, by decide, ?_, e⟩
  unfold Builtin.Range.small
  rw [e]
  have f1 : Builtin.Range.rangeFitsLong 0 = true := by decide
  have f2 : Builtin.Range.rangeFitsLong 2 = true := by decide
  have f3 : ∀ z : Int, 0 ≤ z → z ≤ 100000 → Builtin.Range.rangeFitsLong z = true := fun z h1 h2 => by
    unfold Builtin.Range.rangeFitsLong
    rw [Bool.and_eq_true]
    exact ⟨decide_eq_true (Int.le_trans (by decide) h1), decide_eq_true (Int.lt_of_le_of_lt h2 (by decide))⟩
  rw [f1, f2, f3 n (by omega) (by omega), f3 (((n + 1) / 2 : Nat) : Int) (by omega) (by omega), if_pos (by decide), f3 ((n : Int) + (2 - 1)) (by omega) (by omega), Bool.or_true]
  rfl
theorem ev_ltI {ta tb : TE} {i j : Int} (ha : Ev ta σ H (.int i)) (hb : Ev tb σ H (.int j)) : Ev (tOp (rI0 fun i j => .bl (decide (i < j))) ta tb) σ H (.bl (decide (i < j))) := ev_op ha hb rv_I0
theorem ev_chainLe {ta tb tc : TE} {a b c : Int} (ha : Ev ta σ H (.int a)) (hb : Ev tb σ H (.int b)) (hc : Ev tc σ H (.int c)) :
    Ev (tChain (rI0 fun i j => .bl (decide (i ≤ j))) (rI0 fun i j => .bl (decide (i ≤ j))) ta tb tc) σ H (.bl (decide (a ≤ b) && decide (b ≤ c))) := fun H1 e Q q =>
  ha H1 e _ fun H2 e2 => hb H2 (e.trans e2) _ fun H3 e3 => ⟨_, _, rfl, rfl, decide (a ≤ b), rfl, by
    by_cases h : a ≤ b
    · rw [if_pos (by simpa using h)]
      refine hc H3 ((e.trans e2).trans e3) _ fun H4 e4 => ⟨_, _, rfl, rfl, ?_⟩
      have := q H4 ((e2.trans e3).trans e4)
      simpa [h] using this
    · rw [if_neg (by simpa using h)]
      have := q H3 (e2.trans e3)
      simpa [h] using this⟩
theorem le_nat {n : Nat} : decide ((2 : Int) ≤ (n : Int)) = decide (2 ≤ n) := by congr 1; simp; omega
theorem le_nat1 {n : Nat} : decide ((1 : Int) ≤ (n : Int)) = decide (1 ≤ n) := by congr 1; simp; omega
theorem le_nat2 {n : Nat} : decide ((n : Int) ≤ (24 : Int)) = decide (n ≤ 24) := by congr 1; simp; omega
theorem le_nat12 {n : Nat} : decide ((n : Int) ≤ (12 : Int)) = decide (n ≤ 12) := by congr 1; simp; omega
theorem getD_at {l : List Nat} {i : Nat} (h : i < l.length) : l[i]? = some (l.getD i 0) := by
  rw [List.getD_eq_getElem?_getD, List.getElem?_eq_getElem h]
  rfl
/-- xs.extend(ys), ys stands -/
theorem s_extV {D : Ends} {ta : TE} {l b : Addr} {xs ys : List V} (hl : H l = some (.lst xs)) (hb : H b = some (.lst ys)) (ha : Ev ta σ H (.ref l)) (h : Ev te σ H (.ref b)) (hz : xs.length + ys.length ≤ 10000000) (k : ∀ H1, Ex H H1 → D.nx σ (upd H1 l (.lst (xs ++ ys)))) :
    tDrop (tBM K "list" rExtend ta (tCons te tNil)) D σ H := ha H (Ex.refl H) _ fun H1 e1 =>
  ⟨Or.inl ⟨rfl, xs, sq_of (e1 l _ hl)⟩, h H1 e1 _ fun H2 e2 => ⟨l, b, xs, ys, rfl, rfl, e2 l _ (e1 l _ hl), e2 _ _ (e1 _ _ hb), by rw [sizeLine_eq]; omega, k H2 (e1.trans e2)⟩⟩
end
def sp_entry_of (K : PySem.W.Frag) : Sp := spX K fun vs H o => ∃ L En as es n, vs = [.ref L, nV n] ∧ LogAt K H L En as es ∧ Good es ∧ o = if n ∈ standing es then .ok (.ref (ad as n)) else .error [-8]
def sp_are_rising (K : PySem.W.Frag) : Sp := spV fun vs H v => ∃ r row, vs = [.ref r] ∧ H r = some (.lst (row.map nV)) ∧ row.length ≤ 60000 ∧ v = .bl (isRising row)
def sp_pairs (K : PySem.W.Frag) : Sp := spN (fun vs H l => ∃ r row, vs = [.ref r] ∧ H r = some (.lst (row.map nV)) ∧ row.length % 2 = 0 ∧ row.length ≤ 60000 ∧ l = twosL row) fun l p H => PairsAt H p l
def sp_counted (K : PySem.W.Frag) : Sp := spL fun vs H xs => ∃ r ll, vs = [.ref r] ∧ RowsAt H r ll ∧ ll.length ≤ 60000 ∧ (∀ z ∈ ll, z.length ≤ 100) ∧ xs = (((ll.length : Int) :: ll.flatten).map V.int)
def sp_finds_of (K : PySem.W.Frag) : Sp := spXN K (fun vs H o => ∃ r row, vs = [.ref r] ∧ H r = some (.lst (row.map nV)) ∧ row.length ≤ 60000 ∧ o = findsIn row) fun l p H => PairsAt H p l
theorem twosL_len (row : List Nat) : (twosL row).length = row.length / 2 := by unfold twosL; rw [List.length_map, List.length_range]
section
variable {P : Program} {w : World} {K : PySem.W.Frag} {mg : Str → Option Value} {base : Heap}
abbrev N_entry_of : List Str := ["log", "number"]
theorem sc_entry_of : FnScope N_entry_of ["log", "number"] d_entry_of.scope := ⟨rfl, rfl, rfl, by decide +kernel, rfl, by decide +kernel, by decide +kernel⟩
theorem ok_entry_of (T : Txt K mg) : Ok P w K mg base (L2.CX P w) 4 d_entry_of ["log", "number"] (sp_entry_of K) := by
  have G_refuse : Ok P w K mg base (L2.CX P w) 3 d_refuse ["holds", "code"] (sp_refuse K) := ok_refuse T
  have G_Log_standing : Ok P w K mg base CX0 1 d_Log_standing ["self"] (sp_Log_standing K) := ok_Log_standing T
  refine okX T.u_entry_of sc_entry_of (fun _ _ _ _ _ _ us hl => match us, hl with | [_, _], _ => rfl) (fun vs H Q E h => ?_) (fun cdv A outer s H vs Q E hr h => ?_)
  · obtain ⟨_, ⟨_, _, _, _, _, rfl, _⟩, _⟩ := h
    rfl
  have nd := sc_entry_of.nd
  refine ⟨_, (pss_cons (ps_expr (pe_call G_refuse.f (hr.mono (by decide)) rfl T.g_refuse G_refuse.kp G_refuse.b .nil (passes_call (takes_of rfl rfl rfl rfl) (fun _ _ _ _ h => h)) (pa_cons (wniL K (pv 1) (pe_meth0 (pv 0) T.c_Log T.m_Log_standing G_Log_standing.f (hr.mono (by decide)) G_Log_standing.b .nil pass0)) (pa_cons (pe_un un_neg pe_int) pa_nil))))
  (pss_one (ps_ret (wixL K (wfld K (pv 0)) (pv 1))))), ?_⟩
  obtain ⟨_, ⟨L, En, as, es, n, rfl, hL, g, rfl⟩, k⟩ := h
  refine q_callX (o := if (!decide (n ∈ standing es)) = true then .error [-8] else .ok .non) (ea_two (ev_opL (ev_var rfl) (el_standing hL g (ev_var rfl)) fun p H1 hp e1 => ?_) (ev_un ev_c ru_neg)) (fun H1 _ => ⟨_, _, rfl, rfl⟩) (fun v hv H1 e1 => ?_) fun ns hn => ?_
  · intro H2 e2 Q q
    refine ⟨p, (standing es).map nV, rfl, .inl (sq_of (e2 _ _ hp)), rfl, by simp [flatV], ?_⟩
    have e : inV (nV n) ((standing es).map nV) = decide (n ∈ standing es) := by
      unfold inV
      rw [Bool.eq_iff_iff, List.any_eq_true, decide_eq_true_iff]
      constructor
      · rintro ⟨y, hy, he⟩
        obtain ⟨m, hm, rfl⟩ := List.mem_map.mp hy
        have : m = n := by
          simp [eqV] at he
          omega
        rw [← this]
        exact hm
      · intro hm
        exact ⟨nV n, List.mem_map.mpr ⟨n, hm, rfl⟩, by simp [eqV]⟩
    rw [e]
    exact q H2 (Ex.refl _)
  · have hn : n ∈ standing es := by
      by_cases hn : n ∈ standing es
      · exact hn
      · rw [if_pos (by simpa using hn)] at hv
        cases hv
    rw [if_pos hn] at k
    exact s_ret (ev_ent T (hL.mono e1) (ev_var rfl) (ev_var rfl) (mem_standing.mp hn).1) fun H2 e2 => k H2 (e1.trans e2)
  · by_cases hm : n ∈ standing es
    · rw [if_neg (by simpa using hm)] at hn
      cases hn
    · rw [if_neg hm] at k
      rw [if_pos (by simpa using hm)] at hn
      cases hn
      exact k
abbrev N_are_rising : List Str := ["row", "place"]
theorem sc_are_rising : FnScope N_are_rising ["row"] d_are_rising.scope := ⟨rfl, rfl, rfl, by decide +kernel, rfl, by decide +kernel, by decide +kernel⟩
theorem ok_are_rising (T : Txt K mg) : Ok P w K mg base CX0 1 d_are_rising ["row"] (sp_are_rising K) := by
  refine ok0 T.u_are_rising sc_are_rising (fun _ _ _ _ _ _ us hl => match us, hl with | [_], _ => rfl) (fun vs H Q E h => ?_) (fun cdv A outer s H vs Q E hr h => ?_)
  · obtain ⟨_, ⟨_, _, rfl, _⟩, _⟩ := h
    rfl
  have nd := sc_are_rising.nd
  refine ⟨_, (pss_one (ps_ret (wall K rfl rfl T.f_all (pe_lc (own := [("place", 1)]) rfl nd (pi_range1 rfl T.f_range (pa_cons (pe_op op_sub (wlen K rfl T.f_len (pv 0)) pe_int) pa_nil)) (blkOk_by (N := N_are_rising) (sc := d_are_rising.scope) (by decide +kernel)) (fun _ _ _ _ _ => (pg_name (i := 1) nd rfl (Or.inl rfl))) (fun _ _ _ _ _ => pts_nil) (fun _ _ _ _ _ => (pe_cmpR op_lt (wixL K (pv 0) (pv 1)) (wixL K (pv 0) (pe_op op_add (pv 1) pe_int)) (nomark _))))))), ?_⟩
  obtain ⟨_, ⟨r, row, rfl, hr', hz, rfl⟩, k⟩ := h
  have en : ((row.length : Int) - 1).toNat = row.length - 1 := by omega
  refine s_ret (v := .bl (isRising row)) (ev_is (ev_all (bs := (List.range (row.length - 1)).map fun i => decide (row.getD i 0 < row.getD (i + 1) 0)) (el_is (el_of (l := List.range ((row.length : Int) - 1).toNat) (p := fun _ => true)
    (f := fun i => .bl (decide (row.getD i 0 < row.getD (i + 1) 0))) (en_lcR Stays.val (ea_one (ev_is (ev_op (ev_len (ev_var rfl) (sq_of hr')) ev_c rv_I0) (by rw [List.length_map]))) (by omega) (by omega) fun i hi => ?_)) (by rw [filter_yes, List.map_map, en]; rfl))) (by rw [List.all_map]; rfl)) k
  exact Turns.name rfl et_yes fun _ => Ev.p (ev_ltN (ev_ixL (i := i) (ev_var rfl) (ev_var rfl) (sq_of hr') (by rw [List.getElem?_map, getD_at (by omega)]; rfl)) (ev_ixL (i := i + 1) (ev_var rfl) (ev_is (ev_op (ev_var rfl) ev_c rv_I0) (by simp)) (sq_of hr') (by rw [List.getElem?_map, getD_at (by omega)]; rfl))) fun _ _ => rfl
abbrev N_pairs : List Str := ["row", "place"]
theorem sc_pairs : FnScope N_pairs ["row"] d_pairs.scope := ⟨rfl, rfl, rfl, by decide +kernel, rfl, by decide +kernel, by decide +kernel⟩
theorem ok_pairs (T : Txt K mg) : Ok P w K mg base CX0 1 d_pairs ["row"] (sp_pairs K) := by
  refine ok0 T.u_pairs sc_pairs (fun _ _ _ _ _ _ us hl => match us, hl with | [_], _ => rfl) (fun vs H Q E h => ?_) (fun cdv A outer s H vs Q E hr h => ?_)
  · obtain ⟨_, ⟨_, _, rfl, _⟩, _⟩ := h
    rfl
  have nd := sc_pairs.nd
  refine ⟨_, (pss_one (ps_ret (pe_lc (own := [("place", 1)]) rfl nd (pi_range3 rfl T.f_range (pa_cons pe_int (pa_cons (wlen K rfl T.f_len (pv 0)) (pa_cons pe_int pa_nil)))) (blkOk_by (N := N_pairs) (sc := d_pairs.scope) (by decide +kernel)) (fun _ _ _ _ _ => (pg_name (i := 1) nd rfl (Or.inl rfl))) (fun _ _ _ _ _ => pts_nil) (fun _ _ _ _ _ => (pe_tup (pa_cons (wixL K (pv 0) (pv 1)) (pa_cons (wixL K (pv 0) (pe_op op_add (pv 1) pe_int)) pa_nil))))))), ?_⟩
  obtain ⟨_, ⟨r, row, rfl, hr', h2, hz, rfl⟩, k⟩ := h
  refine s_retN (en_lcR3 (n := (row.length + 1) / 2) (p := fun _ => true) (RA := fun i y H => ∃ t, y = .ref t ∧ H t = some (.tup [nV (row.getD (2 * i) 0), nV (row.getD (2 * i + 1) 0)])) Stays.tup (ea_three ev_c (ev_is (ev_len (ev_var rfl) (sq_of hr')) (by rw [List.length_map])) ev_c) (rgc2 _ (by omega)) (by omega) fun i hi => ?_) fun p H1 n1 e1 ⟨ys, hy, pr⟩ => k p H1 n1 e1 ⟨ys, hy, ?_⟩
  · have e : (0 : Int) + (i : Int) * 2 = ((2 * i : Nat) : Int) := by omega
    rw [e]
    exact Turns.name rfl et_yes fun _ => eu_n (eu_two (ev_ixL (i := 2 * i) (ev_var rfl) (ev_var rfl) (sq_of hr') (by rw [List.getElem?_map, getD_at (by omega)]; rfl)) (ev_ixL (i := 2 * i + 1) (ev_var rfl) (ev_is (ev_op (ev_var rfl) ev_c rv_I0) (by simp)) (sq_of hr') (by rw [List.getElem?_map, getD_at (by omega)]; rfl)))
  · rw [filter_yes, show (row.length + 1) / 2 = row.length / 2 by omega] at pr
    unfold twosL
    have pm : ∀ {l : List Nat} {ys : List V}, Paired (fun i y => ∃ t, y = .ref t ∧ H1 t = some (.tup [nV (row.getD (2 * i) 0), nV (row.getD (2 * i + 1) 0)])) l ys → Paired (fun (p : Nat × Nat) (y : V) => ∃ t, y = .ref t ∧ H1 t = some (.tup [nV p.1, nV p.2])) (l.map fun i => (row.getD (2 * i) 0, row.getD (2 * i + 1) 0)) ys := by
      intro l ys r
      induction r with
      | nil => exact .nil
      | cons a b ih => exact .cons a ih
    exact pm pr
abbrev N_counted : List Str := ["rows", "told", "row"]
theorem sc_counted : FnScope N_counted ["rows"] d_counted.scope := ⟨rfl, rfl, rfl, by decide +kernel, rfl, by decide +kernel, by decide +kernel⟩
theorem ok_counted (T : Txt K mg) : Ok P w K mg base CX0 1 d_counted ["rows"] (sp_counted K) := by
  refine ok0 T.u_counted sc_counted (fun _ _ _ _ _ _ us hl => match us, hl with | [_], _ => rfl) (fun vs H Q E h => ?_) (fun cdv A outer s H vs Q E hr h => ?_)
  · obtain ⟨_, ⟨_, _, rfl, _⟩, _⟩ := h
    rfl
  have nd := sc_counted.nd
  refine ⟨_, (pss_cons (ps_set (i := 1) nd rfl (Or.inl rfl) (pe_lst (pa_cons (wlen K rfl T.f_len (pv 0)) pa_nil)))
  (pss_cons (ps_for PassesOwn.never rfl (wlist K (pv 0)) (pg_name (i := 2) nd rfl (Or.inl rfl)) (pss_one (ps_expr (wext K (pv 1) (pv 2)))))
  (pss_one (ps_ret (pv 1))))), ?_⟩
  obtain ⟨_, ⟨r, ll, rfl, ⟨ys, hy, pr⟩, hz, hz2, rfl⟩, k⟩ := h
  have hly : ys.length = ll.length := (paired_len pr).symm
  refine q_asgL (el_lst (vs := [.int (ll.length : Int)]) (ea_one (ev_is (ev_len (ev_var rfl) (sq_of hy)) (by rw [hly]))) (by simp)) fun p H1 n1 e1 hp => ?_
  refine q_forLn (a := r) (xs := ys) (ev_var rfl) (sq_of (e1 _ _ hy)) (fun i σ' H' => (∃ x2, σ' = [some (.ref r), some (.ref p), x2]) ∧ Ex H H' ∧ H' p = some (.lst (((ll.length : Int) :: (ll.take i).flatten).map V.int)))
    (fun H2 e2 => ⟨⟨_, rfl⟩, e1.trans e2, e2 _ _ hp⟩) (fun i σ' H' _ q => sq_of (q.2.1 _ _ hy)) (fun i x σ' H' hx q => ?_) fun σ' H' q => ?_
  · obtain ⟨⟨x2, rfl⟩, e, hp2⟩ := q
    have hil := (List.getElem?_eq_some_iff.mp hx).1
    have hli : ll[i]? = some (ll[i]'(by omega)) := List.getElem?_eq_getElem (by omega)
    generalize (ll[i]'(by omega)) = z at hli
    obtain ⟨t, rfl, ht⟩ := paired_at pr hli hx
    refine s_extV hp2 (e _ _ ht) (ev_var rfl) (ev_var rfl) ?_ fun H3 e3 => ⟨⟨_, rfl⟩, (e.trans e3).mut n1, ?_⟩
    · rw [List.length_map, List.length_map, List.length_cons]
      have h1 : (ll.take i).flatten.length ≤ (ll.take i).length * 100 := by
        rw [show (ll.take i).flatten = (ll.take i).flatMap id by simp]
        exact flatMap_len fun a ha => hz2 a (List.mem_of_mem_take ha)
      rw [List.length_take] at h1
      have h2 := hz2 z (List.mem_of_getElem? hli)
      omega
    · rw [upd_same, take_snoc hli]
      simp
  · obtain ⟨⟨x2, rfl⟩, e, hp2⟩ := q
    rw [hly, List.take_length] at hp2
    exact s_ret (ev_var rfl) fun H3 e3 => k p H3 n1 (e.trans e3) (e3 _ _ hp2)
abbrev N_finds_of : List Str := ["row", "told", "lot", "minute"]
theorem sc_finds_of : FnScope N_finds_of ["row"] d_finds_of.scope := ⟨rfl, rfl, rfl, by decide +kernel, rfl, by decide +kernel, by decide +kernel⟩
theorem ok_finds_of (T : Txt K mg) : Ok P w K mg base (L2.CX P w) 5 d_finds_of ["row"] (sp_finds_of K) := by
  have G_refuse : Ok P w K mg base (L2.CX P w) 3 d_refuse ["holds", "code"] (sp_refuse K) := ok_refuse T
  have G_pairs : Ok P w K mg base CX0 1 d_pairs ["row"] (sp_pairs K) := ok_pairs T
  have G_check_lot : Ok P w K mg base (L2.CX P w) 4 d_check_lot ["lot", "minute"] (sp_check_lot K) := ok_check_lot T
  refine okX T.u_finds_of sc_finds_of (fun _ _ _ _ _ _ us hl => match us, hl with | [_], _ => rfl) (fun vs H Q E h => ?_) (fun cdv A outer s H vs Q E hr h => ?_)
  · obtain ⟨_, ⟨_, _, rfl, _⟩, _⟩ := h
    rfl
  have nd := sc_finds_of.nd
  refine ⟨_, (pss_cons (ps_expr (pe_call G_refuse.f (hr.mono (by decide)) rfl T.g_refuse G_refuse.kp G_refuse.b .nil (passes_call (takes_of rfl rfl rfl rfl) (fun _ _ _ _ h => h)) (pa_cons (pe_or (pe_cmpR op_eq (pe_op op_mod (wlen K rfl T.f_len (pv 0)) pe_int) pe_int (nomark _)) (pe_one (pe_not (pe_chain op_le op_le pe_int (wlen K rfl T.f_len (pv 0)) pe_int)))) (pa_cons (pe_un un_neg pe_int) pa_nil))))
  (pss_cons (ps_set (i := 1) nd rfl (Or.inl rfl) (pe_call G_pairs.f (hr.mono (by decide)) rfl T.g_pairs G_pairs.kp G_pairs.b .nil pass0 (pa_cons (pv 0) pa_nil)))
  (pss_cons (ps_for (passes_of rfl) rfl (wlist K (pv 1)) (wtup K (n := 2) rfl (pgs_cons (pg_name (i := 2) nd rfl (Or.inl rfl)) (pgs_cons (pg_name (i := 3) nd rfl (Or.inl rfl)) pgs_nil))) (pss_one (ps_expr (pe_call G_check_lot.f (hr.mono (by decide)) rfl T.g_check_lot G_check_lot.kp G_check_lot.b .nil (passes_call (takes_of rfl rfl rfl rfl) (fun _ _ _ _ h => h)) (pa_cons (pv 2) (pa_cons (pv 3) pa_nil))))))
  (pss_one (ps_ret (pv 1)))))), ?_⟩
  obtain ⟨_, ⟨r, row, rfl, hr', hz, rfl⟩, k⟩ := h
  have hlen : ∀ H', Ex H H' → ∀ σ : L2.St, σ[0]? = some (some (.ref r)) → Ev (tCB (rLenS K) (tCons (tVar 0) tNil)) σ H' (nV row.length) := fun H' e σ hs => ev_is (ev_len (ev_var hs) (sq_of (e _ _ hr'))) (by rw [List.length_map])
  have hmod : Ev (tOp rEq (tOp (rI (fun _ j => 0 < j) fun i j => .int (i % j)) (tCB (rLenS K) (tCons (tVar 0) tNil)) (tC (.int 2))) (tC (.int 1))) [some (.ref r), none, none, none] H (.bl (decide (row.length % 2 = 1))) :=
    ev_is (ev_op (x := .int ((row.length : Int) % 2)) (ev_op (hlen _ (Ex.refl _) _ rfl) ev_c (rv_I (by decide))) ev_c (rv_eq rfl)) (by congr 1; simp; omega)
  have hch : Ev (tChain (rI0 fun i j => .bl (decide (i ≤ j))) (rI0 fun i j => .bl (decide (i ≤ j))) (tC (.int 2)) (tCB (rLenS K) (tCons (tVar 0) tNil)) (tC (.int 24))) [some (.ref r), none, none, none] H (.bl (decide (2 ≤ row.length) && decide (row.length ≤ 24))) := ev_is (ev_chainLe ev_c (hlen _ (Ex.refl _) _ rfl) ev_c) (by rw [le_nat, le_nat2])
  refine q_callX (o := if (decide (row.length % 2 = 1) || !(decide (2 ≤ row.length) && decide (row.length ≤ 24))) = true then .error [-1] else .ok .non) (ea_two (ev_orV hmod fun _ => ev_notV hch) (ev_un ev_c ru_neg)) (fun H1 _ => ⟨_, _, rfl, rfl⟩) (fun v hv H1 e1 => ?_) fun ns hn => ?_
  · have hc : row.length % 2 = 0 ∧ 2 ≤ row.length ∧ row.length ≤ 24 := by
      by_cases hc : row.length % 2 = 0 ∧ 2 ≤ row.length ∧ row.length ≤ 24
      · exact hc
      · rw [if_pos (by simp; omega)] at hv
        cases hv
    obtain ⟨c1, c2, c3⟩ := hc
    refine q_asgN (en_callN (z := twosL row) (ea_one (ev_var rfl)) fun H2 e2 => ⟨r, row, rfl, e2 _ _ (e1 _ _ hr'), c1, by omega, rfl⟩) fun p H2 n2 e2 hp => ?_
    obtain ⟨ys, hy, pr⟩ := hp
    have hly : ys.length = row.length / 2 := by rw [← paired_len pr, twosL_len]
    refine q_forL (a := p) (xs := ys) (ev_var rfl) (sq_of hy) (fun i σ' H' => (∃ x2 x3, σ' = [some (.ref r), some (.ref p), x2, x3]) ∧ Ex H H' ∧ Ex H2 H' ∧ ∀ f ∈ (twosL row).take i, f.1 < 1000 ∧ f.2 < 52596000)
      (fun H3 e3 => ⟨⟨_, _, rfl⟩, (e1.trans e2).trans e3, e3, fun f hf => by simp at hf⟩) (fun i σ' H' _ q => sq_of (q.2.2.1 _ _ hy)) (fun i x σ' H' hx q => ?_) fun σ' H' q => ?_
    · obtain ⟨⟨x2, x3, rfl⟩, e, e', hall⟩ := q
      have hil := (List.getElem?_eq_some_iff.mp hx).1
      have hlt : i < (twosL row).length := by rw [twosL_len]; omega
      have hli : (twosL row)[i]? = some (twosL row)[i] := List.getElem?_eq_getElem hlt
      generalize (twosL row)[i] = f at hli
      obtain ⟨t, rfl, ht⟩ := paired_at pr hli hx
      refine ⟨t, _, rfl, st_of (e' _ _ ht), rfl, nV f.1, [nV f.2], rfl, nV f.2, [], rfl, rfl, ?_⟩
      refine s_callX (o := if f.1 < 1000 ∧ f.2 < 52596000 then .ok .non else .error [-1]) (ea_two (ev_var rfl) (ev_var rfl)) (fun H3 _ => ⟨_, _, rfl, rfl⟩) (fun v hv H3 e3 => ?_) fun ns hn => ?_
      · refine ⟨⟨_, _, rfl⟩, e.trans e3, e'.trans e3, fun f' hf' => ?_⟩
        rw [take_snoc hli] at hf'
        rcases List.mem_append.mp hf' with h | h
        · exact hall f' h
        · rw [List.mem_singleton.mp h]
          by_cases hc : f.1 < 1000 ∧ f.2 < 52596000
          · exact hc
          · rw [if_neg hc] at hv
            cases hv
      · by_cases hc : f.1 < 1000 ∧ f.2 < 52596000
        · rw [if_pos hc] at hn
          cases hn
        · rw [if_neg hc] at hn
          cases hn
          unfold findsIn at k
          rw [if_neg (fun h => hc (h.2.2.2 f (List.mem_of_getElem? hli)))] at k
          exact k.mono e
    · obtain ⟨⟨x2, x3, rfl⟩, e, e', hall⟩ := q
      rw [List.take_of_length_le (by rw [twosL_len, hly]; exact Nat.le_refl _)] at hall
      unfold findsIn at k
      rw [if_pos ⟨c1, c2, c3, hall⟩] at k
      exact s_ret (ev_var rfl) fun H3 e3 => k p H3 (fresh_back e1 n2) (e.trans e3) ⟨ys, e3 _ _ (e' _ _ hy), paired_imp (fun a y ⟨t, h1, h2⟩ => ⟨t, h1, e3 _ _ (e' _ _ h2)⟩) pr⟩
  · have hc : ¬ (row.length % 2 = 0 ∧ 2 ≤ row.length ∧ row.length ≤ 24 ∧ ∀ f ∈ twosL row, f.1 < 1000 ∧ f.2 < 52596000) := by
      rintro ⟨c1, c2, c3, _⟩
      rw [if_neg (by simp; omega)] at hn
      cases hn
    unfold findsIn at k
    rw [if_neg hc] at k
    by_cases hb : (decide (row.length % 2 = 1) || !(decide (2 ≤ row.length) && decide (row.length ≤ 24))) = true
    · rw [if_pos hb] at hn
      cases hn
      exact k
    · rw [if_neg hb] at hn
      cases hn
end
end St

end

section

set_option Elab.async false
set_option linter.all false
set_option maxRecDepth 100000
set_option maxHeartbeats 4000000
namespace St
open PySem PySem.Spec PyProof.Rows L2 Evl
/-! ### what a deed promises -/
def RowsN (H : Hp) (r : Addr) (ll : List (List Nat)) : Prop := ∃ ys, H r = some (.lst ys) ∧ Paired (fun (z : List Nat) (y : V) => ∃ t, y = .ref t ∧ H t = some (.lst (z.map nV))) ll ys
theorem RowsN.mono {H H' : Hp} {q : Addr} {l : List (List Nat)} (h : RowsN H q l) (e : Ex H H') : RowsN H' q l := by
  obtain ⟨ys, h1, h2⟩ := h
  exact ⟨ys, e _ _ h1, paired_imp (fun a y ⟨t, e1, e2⟩ => ⟨t, e1, e _ _ e2⟩) h2⟩
theorem del_some {H : Hp} {T b : Addr} {o : HO} (h : L2.del H T b = some o) : H b = some o ∧ b ≠ T := by
  by_cases e : b = T
  · rw [e, del_same] at h; cases h
  · rw [del_ne e] at h
    exact ⟨h, e⟩
theorem ex_del0 {H : Hp} {T : Addr} : Ex (L2.del H T) H := fun b o h => (del_some h).1
theorem ex_del {H H' : Hp} {T : Addr} (e : Ex H H') : Ex (L2.del H T) (L2.del H' T) := fun b o h => by
  obtain ⟨h1, h2⟩ := del_some h
  rw [del_ne h2]
  exact e _ _ h1
def notIns : HO → Bool
  | .ins _ _ _ => false
  | _ => true
/-- all stands but the list of entries and the instances -/
def KeepX (En : Addr) (H H' : Hp) : Prop := ∀ b o, b ≠ En → notIns o = true → H b = some o → H' b = some o
theorem Ex.keepX {En : Addr} {H H' : Hp} (e : Ex H H') : KeepX En H H' := fun b o _ _ h => e b o h
def OutD (K : PySem.W.Frag) (T L En : Addr) (H : Hp) (E : XK) (Q : VK) : Res → Prop
  | .error ns => Rz K ns H E
  | .ok (l, es') => ∀ p H' as', ((∃ o, H T = some o) → p ≠ T) → LogAt K (L2.del H' T) L En as' es' → H' p = some (.lst (l.map .int)) → KeepX En H H' → Q (.ref p) H'
def spD (K : PySem.W.Frag) (R : Es → List Nat → List (List Nat) → Res → Prop) : Sp := fun vs H Q E => ∃ T L En as es args rows A Rw, vs = [.ref L, .ref A, .ref Rw] ∧ LogAt K (L2.del H T) L En as es ∧ Good es ∧ H A = some (.lst (args.map nV)) ∧ RowsN (L2.del (L2.del H T) En) Rw rows ∧
  ((rows.length ≤ 14 ∧ ∀ r ∈ rows, r.length ≤ 100) ∧ ∃ o, H T = some o) ∧ (∃ res, R es args rows res) ∧ ∀ res, R es args rows res → OutD K T L En H E Q res
theorem OutD.ro {K : PySem.W.Frag} {T L En : Addr} {as : List Addr} {es : Es} {H : Hp} {E : XK} {Q : VK} {l : List Int} (hL : LogAt K (L2.del H T) L En as es) (k : OutD K T L En H E Q (.ok (l, es))) : ∀ p H', H p = none → Ex H H' → H' p = some (.lst (l.map .int)) → Q (.ref p) H' :=
  fun p H' n e h => k p H' as (fun ⟨o, ho⟩ z => by rw [z, ho] at n; cases n) (hL.mono (ex_del e)) h (Ex.keepX e)
def sp_show_entry (K : PySem.W.Frag) : Sp := spD K fun es args _ res => ∃ n, args = [n] ∧ res = dEntry es n
def sp_strike (K : PySem.W.Frag) : Sp := spD K fun es args _ res => ∃ n, args = [n] ∧ res = dStrike es n
def sp_clean (K : PySem.W.Frag) : Sp := spD K fun es args _ res => ∃ t m, args = [t, m] ∧ res = dClean es t m
def sp_meet (K : PySem.W.Frag) : Sp := spD K fun es args rows res => ∃ t m lots, args = [t, m] ∧ rows = [lots] ∧ res = dMeet es t m lots
def sp_touched (K : PySem.W.Frag) : Sp := spD K fun es args _ res => ∃ y t, args = [y, t] ∧ res = dTouched es y t
def sp_dirty (K : PySem.W.Frag) : Sp := spD K fun es args _ res => ∃ y t, args = [y, t] ∧ res = dDirty es y t
def sp_sources (K : PySem.W.Frag) : Sp := spD K fun es _ rows res => ∃ f, rows = [f] ∧ res = dSources es f
def sp_ask_cut (K : PySem.W.Frag) : Sp := spD K fun es args rows res => ∃ y t f c, args = [y, t] ∧ rows = [f, c] ∧ res = dCut es y t f c
def sp_apart (K : PySem.W.Frag) : Sp := spD K fun es args rows res => ∃ y t f ws, args = [y, t] ∧ rows = f :: ws ∧ res = dApart es y t f ws
def sp_show_lines (K : PySem.W.Frag) : Sp := spD K fun es _ _ res => res = dLines es
theorem spD_len {K : PySem.W.Frag} {R : Es → List Nat → List (List Nat) → Res → Prop} {vs : List V} {H : Hp} {Q : VK} {E : XK} (h : spD K R vs H Q E) : vs.length = 3 := by
  obtain ⟨_, _, _, _, _, _, _, _, _, rfl, _⟩ := h
  rfl
section
variable {K : PySem.W.Frag} {σ : L2.St} {H : Hp} {ta tb : TE} {A : Addr} {args : List Nat}
theorem ev_arg {i : Nat} {n : Nat} (ha : Ev ta σ H (.ref A)) (hA : H A = some (.lst (args.map nV))) (hn : args[i]? = some n) : Ev (tOp (rIxL K) ta (tC (.int (i : Int)))) σ H (nV n) := ev_ixL ha ev_c (sq_of hA) (by rw [List.getElem?_map, hn]; rfl)
theorem el_cat {xs ys : List V} (ha : EvL ta σ H xs) (hb : EvP tb σ H (fun v H' => ∃ b, v = .ref b ∧ H' b = some (.lst ys))) (hz : xs.length + ys.length ≤ 100000) : EvL (tOp rCat ta tb) σ H (xs ++ ys) := fun H1 e Q q =>
  ha H1 e _ fun p H2 n2 e2 hp => hb H2 (e.trans e2) _ fun v H3 e3 ⟨b, hv, hb3⟩ => ⟨p, b, xs, ys, rfl, hv, e3 _ _ hp, hb3, sz_of hz, fun r hr => q r _ (fresh_back (e2.trans e3) hr) ((e2.trans e3).trans (Ex.new hr)) upd_same⟩
end
theorem del_upd {H : Hp} {T a : Addr} {o : HO} (h : a ≠ T) : L2.del (upd H a o) T = upd (L2.del H T) a o := by
  funext b
  by_cases hb : b = T
  · rw [hb, del_same, upd_ne (Ne.symm h), del_same]
  · rw [del_ne hb]
    by_cases ha : b = a
    · rw [ha, upd_same, upd_same]
    · rw [upd_ne ha, upd_ne ha, del_ne hb]
/-! ### the log changes -/
section
variable {K : PySem.W.Frag} {H H2 : Hp} {L En : Addr} {as : List Addr} {es : Es}
theorem ad_inj (hL : LogAt K H L En as es) {i j : Nat} (hi : i < es.length) (hj : j < es.length) (h : ad as i = ad as j) : i = j := nodup_at hL.nd (hL.get hi) (by rw [h]; exact hL.get hj)
theorem log_strike {n : Nat} {dx l : Addr} (hL : LogAt K H L En as es) (hn : n < es.length) (h1 : H (ad as n) = some (.ins (cEnt K) dx (eF (ent es n) l))) (h2 : H l = some (.lst ((ent es n).lots.map nV))) :
    LogAt K (upd H (ad as n) (.ins (cEnt K) dx (eF { ent es n with struck := true } l))) L En as (strikeAt es n) := by
  have neL : ∀ b xs, H b = some (.lst xs) → b ≠ ad as n := fun b xs hb z => by rw [z, h1] at hb; cases hb
  refine ⟨?_, ?_, hL.len.trans (strike_len es n).symm, hL.nd, fun i hi => ?_⟩
  · obtain ⟨d, hd⟩ := hL.obj
    refine ⟨d, ?_⟩
    rw [upd_ne (fun z => ?_)]
    · exact hd
    · rw [z, h1] at hd
      have := (HO.ins.inj (Option.some.inj hd)).2.2
      cases this
  · rw [upd_ne (neL _ _ hL.lst)]
    exact hL.lst
  · rw [strike_len] at hi
    refine ⟨ad as i, hL.get hi, ?_⟩
    rw [ent_strike es n i hn]
    by_cases e : i = n
    · subst e
      rw [if_pos rfl]
      exact ⟨dx, l, upd_same, by rw [upd_ne (neL _ _ h2)]; exact h2⟩
    · rw [if_neg e]
      obtain ⟨d, k, g1, g2⟩ := (hL.ent hi).ex
      exact ⟨d, k, by rw [upd_ne (fun z => e (ad_inj hL hi hn z))]; exact g1, by rw [upd_ne (neL _ _ g2)]; exact g2⟩
theorem log_add {x : Addr} {e : Ent} {dx l : Addr} (hL : LogAt K H L En as es) (ex : Ex H H2) (hx : H x = none) (h1 : H2 x = some (.ins (cEnt K) dx (eF e l))) (h2 : H2 l = some (.lst (e.lots.map nV))) (hl : l ≠ En) :
    LogAt K (upd H2 En (.lst ((as ++ [x]).map V.ref))) L En (as ++ [x]) (es ++ [e]) := by
  have hE := ex _ _ hL.lst
  have xE : x ≠ En := fun z => by rw [z, hL.lst] at hx; cases hx
  refine ⟨?_, upd_same, by rw [List.length_append, List.length_append, hL.len]; rfl, ?_, fun i hi => ?_⟩
  · obtain ⟨d, hd⟩ := hL.obj
    exact ⟨d, by rw [upd_ne (ne_of (ex _ _ hd) hE (by intro z; cases z))]; exact ex _ _ hd⟩
  · refine List.nodup_append.mpr ⟨hL.nd, by simp, fun a ha b hb z => ?_⟩
    rw [List.mem_singleton.mp hb] at z
    obtain ⟨i, hi⟩ := List.mem_iff_getElem?.mp ha
    have hil : i < es.length := by rw [← hL.len]; exact (List.getElem?_eq_some_iff.mp hi).1
    obtain ⟨d, k, g1, g2⟩ := (aR hL hil a hi).ex
    rw [z, hx] at g1
    cases g1
  · rw [List.length_append] at hi
    by_cases hil : i < es.length
    · refine ⟨ad as i, by rw [List.getElem?_append_left (by rw [hL.len]; exact hil)]; exact hL.get hil, ?_⟩
      rw [ent_old hil]
      obtain ⟨d, k, g1, g2⟩ := (hL.ent hil).ex
      refine ⟨d, k, by rw [upd_ne (ne_of (ex _ _ g1) hE (by intro z; cases z))]; exact ex _ _ g1, ?_⟩
      rw [upd_ne (fun z => ?_)]
      · exact ex _ _ g2
      · rw [z, hL.lst] at g2
        have g3 := HO.lst.inj (Option.some.inj g2)
        have h0 := hL.get hil
        have h4 : (as.map V.ref)[i]? = some (.ref (ad as i)) := by rw [List.getElem?_map, h0]; rfl
        rw [g3, List.getElem?_map] at h4
        obtain ⟨n, _, h5⟩ := Option.map_eq_some_iff.mp h4
        cases h5
    · have ei : i = es.length := by simp at hi; omega
      subst ei
      refine ⟨x, by rw [List.getElem?_append_right (by rw [hL.len]; exact Nat.le_refl _), hL.len]; simp, ?_⟩
      rw [ent_new]
      exact ⟨dx, l, by rw [upd_ne xE]; exact h1, by rw [upd_ne hl]; exact h2⟩
end
section
variable {P : Program} {w : World} {K : PySem.W.Frag} {mg : Str → Option Value} {base : Heap}
abbrev N_show_entry : List Str := ["log", "args", "rows", "own"]
theorem sc_show_entry : FnScope N_show_entry ["log", "args", "rows"] d_show_entry.scope := ⟨rfl, rfl, rfl, by decide +kernel, rfl, by decide +kernel, by decide +kernel⟩
theorem ok_show_entry (T : Txt K mg) : Ok P w K mg base (L2.CX P w) 5 d_show_entry ["log", "args", "rows"] (sp_show_entry K) := by
  have G_entry_of : Ok P w K mg base (L2.CX P w) 4 d_entry_of ["log", "number"] (sp_entry_of K) := ok_entry_of T
  have G_Entry_is_meeting : Ok P w K mg base CX0 1 d_Entry_is_meeting ["self"] (sp_Entry_is_meeting K) := ok_Entry_is_meeting T
  refine okX T.u_show_entry sc_show_entry (fun _ _ _ _ _ _ us hl => match us, hl with | [_, _, _], _ => rfl) (fun vs H Q E h => ?_) (fun cdv A outer s H vs Q E hr h => ?_)
  · exact spD_len h
  have nd := sc_show_entry.nd
  refine ⟨_, (pss_cons (ps_set (i := 3) nd rfl (Or.inl rfl) (pe_call G_entry_of.f (hr.mono (by decide)) rfl T.g_entry_of G_entry_of.kp G_entry_of.b .nil (passes_call (takes_of rfl rfl rfl rfl) (fun _ _ _ _ h => h)) (pa_cons (pv 0) (pa_cons (wixL K (pv 1) pe_int) pa_nil))))
  (pss_one (ps_ret (pe_op op_cat (pe_lst (pa_cons (pe_ifExp (pt_val (pe_meth0 (pv 3) T.c_Entry T.m_Entry_is_meeting G_Entry_is_meeting.f (hr.mono (by decide)) G_Entry_is_meeting.b .nil pass0)) pe_int pe_int) (pa_cons (wfld K (pv 3)) (pa_cons (wfld K (pv 3)) pa_nil)))) (wfld K (pv 3)))))), ?_⟩
  obtain ⟨Tl, L, En, as, es, args, rows, A, Rw, rfl, hL', g, hA, hR, hz, ⟨_, n, rfl, rfl⟩, k⟩ := h
  have k := k _ ⟨n, rfl, rfl⟩
  have hL := hL'.mono ex_del0
  refine q_asgX (o := if n ∈ standing es then .ok (.ref (ad as n)) else .error [-8]) (ea_two (ev_var rfl) (ev_arg (i := 0) (ev_var rfl) hA rfl)) (fun H1 e1 => ⟨L, En, as, es, n, rfl, hL.mono e1, g, rfl⟩) (fun v hv H1 e1 => ?_) fun ns hn => ?_
  · by_cases hm : n ∈ standing es
    · rw [if_pos hm] at hv
      cases hv
      have he := (hL.ent (mem_standing.mp hm).1).mono e1
      unfold dEntry at k
      rw [if_pos hm] at k
      obtain ⟨l, hl, hev⟩ := ev_lots (ta := tVar 3) (σ := [some (.ref L), some (.ref A), some (.ref Rw), some (.ref (ad as n))]) T he (ev_var rfl)
      have hll := lots_len g (mem_standing.mp hm).1
      refine s_retL (el_is (el_cat (el_lst (vs := [.int (if isMeet (ent es n) = true then 1 else 2), nV (ent es n).thing, nV (ent es n).minute]) (ea_three (ev_if (et_B (ev_isMeet he (ev_var rfl))) (fun hb => ev_is ev_c (by rw [if_pos hb])) fun hb => ev_is ev_c (by rw [if_neg (by rw [hb]; decide)])) (ev_thing T he (ev_var rfl)) (ev_minute T he (ev_var rfl))) (by simp))
        (Ev.p hev fun H2 e2 => ⟨l, rfl, e2 _ _ hl⟩) (by rw [List.length_map]; simp; omega)) ?_) fun p H2 n2 e2 h2 => OutD.ro hL' k p H2 (fresh_back e1 n2) (e1.trans e2) h2
      simp [List.map_map]
    · rw [if_neg hm] at hv
      cases hv
  · by_cases hm : n ∈ standing es
    · rw [if_pos hm] at hn
      cases hn
    · rw [if_neg hm] at hn
      cases hn
      unfold dEntry at k
      rw [if_neg hm] at k
      exact k
abbrev N_strike : List Str := ["log", "args", "rows", "own"]
theorem sc_strike : FnScope N_strike ["log", "args", "rows"] d_strike.scope := ⟨rfl, rfl, rfl, by decide +kernel, rfl, by decide +kernel, by decide +kernel⟩
theorem ok_strike (T : Txt K mg) : Ok P w K mg base (L2.CX P w) 5 d_strike ["log", "args", "rows"] (sp_strike K) := by
  have G_entry_of : Ok P w K mg base (L2.CX P w) 4 d_entry_of ["log", "number"] (sp_entry_of K) := ok_entry_of T
  have G_Log_standing : Ok P w K mg base CX0 1 d_Log_standing ["self"] (sp_Log_standing K) := ok_Log_standing T
  refine okX T.u_strike sc_strike (fun _ _ _ _ _ _ us hl => match us, hl with | [_, _, _], _ => rfl) (fun vs H Q E h => ?_) (fun cdv A outer s H vs Q E hr h => ?_)
  · exact spD_len h
  have nd := sc_strike.nd
  refine ⟨_, (pss_cons (ps_set (i := 3) nd rfl (Or.inl rfl) (pe_call G_entry_of.f (hr.mono (by decide)) rfl T.g_entry_of G_entry_of.kp G_entry_of.b .nil (passes_call (takes_of rfl rfl rfl rfl) (fun _ _ _ _ h => h)) (pa_cons (pv 0) (pa_cons (wixL K (pv 1) pe_int) pa_nil))))
  (pss_cons (sfld K (pv 3) pe_bl)
  (pss_one (ps_ret (pe_lst (pa_cons (wlen K rfl T.f_len (pe_meth0 (pv 0) T.c_Log T.m_Log_standing G_Log_standing.f (hr.mono (by decide)) G_Log_standing.b .nil pass0)) pa_nil)))))), ?_⟩
  obtain ⟨Tl, L, En, as, es, args, rows, A, Rw, rfl, hL', g, hA, hR, hz, ⟨_, n, rfl, rfl⟩, k⟩ := h
  have k := k _ ⟨n, rfl, rfl⟩
  have hL := hL'.mono ex_del0
  refine q_asgX (o := if n ∈ standing es then .ok (.ref (ad as n)) else .error [-8]) (ea_two (ev_var rfl) (ev_arg (i := 0) (ev_var rfl) hA rfl)) (fun H1 e1 => ⟨L, En, as, es, n, rfl, hL.mono e1, g, rfl⟩) (fun v hv H1 e1 => ?_) fun ns hn => ?_
  · by_cases hm : n ∈ standing es
    · rw [if_pos hm] at hv
      cases hv
      have hn := (mem_standing.mp hm).1
      unfold dStrike at k
      rw [if_pos hm] at k
      obtain ⟨dx, l, h1, h2⟩ := (hL'.ent hn).ex
      have hT := (del_some h1).2
      have h1' : H1 (ad as n) = some (.ins (cEnt K) dx (eF (ent es n) l)) := e1 _ _ (del_some h1).1
      have h2' : H1 l = some (.lst ((ent es n).lots.map nV)) := e1 _ _ (del_some h2).1
      have ep : putF "is_struck" (.bl true) (eF (ent es n) l) = eF { ent es n with struck := true } l := by
        unfold eF
        rw [putF_past (by decide +kernel), putF_past (by decide +kernel), putF_past (by decide +kernel)]
        rfl
      refine ⟨_, rfl, ad as n, cEnt K, dx, eF (ent es n) l, rfl, h1', T.c_Entry, T.n_Entry_is_struck, by unfold eF; simp, ?_⟩
      rw [ep]
      have g2 := good_strike g hn
      have hL2 : LogAt K (upd H1 (ad as n) (.ins (cEnt K) dx (eF { ent es n with struck := true } l))) L En as (strikeAt es n) := log_strike (hL.mono e1) hn h1' h2'
      refine s_retL (el_is (el_lst (ea_one (ev_lenN (el_standing hL2 g2 (ev_var rfl)))) (by simp)) ?_) fun p H2 n2 e2 h3 => k p H2 as (fun ⟨o, ho⟩ z => by rw [z, upd_ne (Ne.symm hT), e1 _ _ ho] at n2; cases n2) ?_ h3 ?_
      · rw [List.length_map]
        rfl
      · refine LogAt.mono ?_ (ex_del e2)
        rw [del_upd hT]
        have := log_strike (hL'.mono (ex_del e1)) hn (by rw [del_ne hT]; exact h1') (by rw [del_ne (del_some h2).2]; exact h2')
        exact this
      · intro b o hb ho hbo
        refine e2 _ _ ?_
        rw [upd_ne (fun z => ?_)]
        · exact e1 _ _ hbo
        · rw [z, (del_some h1).1] at hbo
          cases hbo
          cases ho
    · rw [if_neg hm] at hv
      cases hv
  · by_cases hm : n ∈ standing es
    · rw [if_pos hm] at hn
      cases hn
    · rw [if_neg hm] at hn
      cases hn
      unfold dStrike at k
      rw [if_neg hm] at k
      exact k
/-- log.entries.append(Entry(t, m, l)) -/
theorem s_enter {K : PySem.W.Frag} {mg : Str → Option Value} (T : Txt K mg) {σ : L2.St} {H : Hp} {D : Ends} {E : XK} {to : TE} {ta : TA} {Tl L En l : Addr} {as : List Addr} {es : Es} {t m : Nat} {lots : List Nat} (hL : LogAt K (L2.del H Tl) L En as es) (ho : Ev to σ H (.ref L))
    (ha : EvAR ta σ H (fun vs H' => ∃ l, vs = [nV t, nV m, .ref l] ∧ H' l = some (.lst (lots.map nV)) ∧ l ≠ En ∧ l ≠ Tl))
    (hTl : ∃ o, H Tl = some o)
    (k : ∀ H' x, LogAt K H' L En (as ++ [x]) (es ++ [⟨t, m, lots, false⟩]) → LogAt K (L2.del H' Tl) L En (as ++ [x]) (es ++ [⟨t, m, lots, false⟩]) → (∀ b o, b ≠ En → H b = some o → H' b = some o) → D.nx σ H') (hz : es.length < 100) :
    tDrop (tBM K "list" rAppend (tFld K to "entries") (tCons (tMake (cEnt K) (sp_Entry_init K) [] E ta) tNil)) D σ H := by
  have hL0 := hL.mono ex_del0
  refine ev_entries T hL0 ho H (Ex.refl H) _ fun H1 e1 => ⟨Or.inl ⟨rfl, _, sq_of (e1 _ _ hL0.lst)⟩, ha H1 e1 _ fun vs H2 e2 ⟨l, hvs, hl, hlE, hlT⟩ x dx hx hdx hne => ?_⟩
  have e12 := e1.trans e2
  subst hvs
  refine ⟨x, dx, t, m, l, rfl, upd_same, rfl, En, as.map V.ref, .ref x, rfl, rfl, ?_, sz_lt (by rw [List.length_map, hL.len]; omega), ?_⟩
  · rw [upd_upd]
    have h := e12 _ _ hL0.lst
    rw [upd_ne (ne_of_none h hx), upd_ne (ne_of_none h hdx)]
    exact h
  · rw [upd_upd]
    have e3 : Ex H2 (upd (upd H2 dx (.own x)) x (.ins (cEnt K) dx [("thing", nV t), ("minute", nV m), ("lots", .ref l), ("is_struck", .bl false)])) := fun b o hb => by
      rw [upd_ne (ne_of_none hb hx), upd_ne (ne_of_none hb hdx)]
      exact hb
    have hxH : H x = none := fresh_back e12 hx
    obtain ⟨oT, hT⟩ := hTl
    have xT : x ≠ Tl := fun z => by rw [z, hT] at hxH; cases hxH
    have dT : dx ≠ Tl := fun z => by
      have := fresh_back e12 hdx
      rw [z, hT] at this
      cases this
    have ET : En ≠ Tl := (del_some hL.lst).2
    have em : as.map V.ref ++ [.ref x] = (as ++ [x]).map V.ref := by rw [List.map_append]; rfl
    rw [em]
    refine k _ x (log_add hL0 (H2 := upd (upd H2 dx (.own x)) x (.ins (cEnt K) dx [("thing", nV t), ("minute", nV m), ("lots", .ref l), ("is_struck", .bl false)])) (dx := dx) (l := l) (e := ⟨t, m, lots, false⟩) (e12.trans e3) hxH upd_same (e3 _ _ hl) hlE) ?_ fun b o hb hbo => ?_
    · rw [del_upd ET]
      refine log_add hL (e := ⟨t, m, lots, false⟩) (dx := dx) (l := l) (ex_del (e12.trans e3)) (by rw [del_ne xT]; exact hxH) (by rw [del_ne xT]; exact upd_same) (by rw [del_ne hlT]; exact e3 _ _ hl) hlE
    · rw [upd_ne hb]
      exact e3 _ _ (e12 _ _ hbo)
end
end St

end

section

set_option Elab.async false
set_option linter.all false
set_option maxRecDepth 100000
set_option maxHeartbeats 4000000
namespace St
open PySem PySem.Spec PyProof.Rows L2 Evl
section
variable {K : PySem.W.Frag} {σ : L2.St} {H : Hp} {te ta tb : TE}
theorem EvAR.imp {t : TA} {R R' : List V → Hp → Prop} (h : EvAR t σ H R) (i : ∀ vs H1, Ex H H1 → R vs H1 → R' vs H1) : EvAR t σ H R' := fun H1 e Q q => h H1 e Q fun vs H2 e2 r => q vs H2 e2 (i vs H2 (e.trans e2) r)
theorem en_fresh {R : Addr → Hp → Prop} (h : EvN te σ H R) : EvN te σ H (fun p H' => R p H' ∧ H p = none) := fun H1 e Q q => h H1 e Q fun p H2 n e2 r => q p H2 n e2 ⟨r, fresh_back e n⟩
theorem ev_maxGt {l : Addr} {lots : List Nat} (h : Ev te σ H (.ref l)) (hl : H l = some (.lst (lots.map nV))) (h0 : 1 ≤ lots.length) : Ev (tOp (rI0 fun i j => .bl (decide (j < i))) (tCB (rMax K) (tCons te tNil)) (tC (.int 999))) σ H (.bl (!decide (∀ x ∈ lots, x < 1000))) := fun H1 e Q q =>
  h H1 e _ fun H2 e2 => ⟨l, lots.map (fun (n : Nat) => (n : Int)), rfl, by rw [List.map_map]; exact sq_of (e2 _ _ (e _ _ hl)), by rw [List.length_map]; omega, fun m hm hmax => ⟨m, 999, rfl, rfl, by
    have e3 : decide ((999 : Int) < m) = !decide (∀ x ∈ lots, x < 1000) := by
      by_cases hc : ∀ x ∈ lots, x < 1000
      · obtain ⟨n, hn, rfl⟩ := List.mem_map.mp hm
        have := hc n hn
        rw [decide_eq_true hc]
        exact decide_eq_false (by omega)
      · have : ∃ x ∈ lots, ¬ x < 1000 := Classical.byContradiction fun hn => hc fun x hx => Classical.byContradiction fun hx2 => hn ⟨x, hx, hx2⟩
        obtain ⟨x, hx, hx2⟩ := this
        have := hmax x (List.mem_map.mpr ⟨x, hx, rfl⟩)
        rw [decide_eq_false hc]
        exact decide_eq_true (by omega)
    show Q (.bl (decide ((999 : Int) < m))) H2
    rw [e3]
    exact q H2 e2⟩⟩
end
theorem find_first {α : Type} {p : α → Bool} : ∀ {l : List α} {i : Nat} {a : α}, l[i]? = some a → (∀ x ∈ l.take i, p x = false) → p a = true → l.find? p = some a
  | b :: l, 0, a, h, _, hp => by
    cases h
    exact List.find?_cons_of_pos hp
  | b :: l, i + 1, a, h, hf, hp => by
    rw [List.take_succ_cons] at hf
    rw [List.find?_cons_of_neg (by rw [hf b (List.mem_cons_self ..)]; decide)]
    exact find_first (by simpa using h) (fun x hx => hf x (List.mem_cons_of_mem _ hx)) hp
section
variable {P : Program} {w : World} {K : PySem.W.Frag} {mg : Str → Option Value} {base : Heap}
theorem q_enter (T : Txt K mg) {σ : L2.St} {H : Hp} {D : Ends} {tz : TS} {E : XK} {to : TE} {ta : TA} {Tl L En : Addr} {as : List Addr} {es : Es} {t m : Nat} {lots : List Nat} (hL : LogAt K (L2.del H Tl) L En as es) (ho : Ev to σ H (.ref L))
    (ha : EvAR ta σ H (fun vs H' => ∃ l, vs = [nV t, nV m, .ref l] ∧ H' l = some (.lst (lots.map nV)) ∧ l ≠ En ∧ l ≠ Tl))
    (hTl : ∃ o, H Tl = some o)
    (k : ∀ H' x, LogAt K H' L En (as ++ [x]) (es ++ [⟨t, m, lots, false⟩]) → LogAt K (L2.del H' Tl) L En (as ++ [x]) (es ++ [⟨t, m, lots, false⟩]) → (∀ b o, b ≠ En → H b = some o → H' b = some o) → tz D σ H') (hz : es.length < 100) :
    tSeq (tDrop (tBM K "list" rAppend (tFld K to "entries") (tCons (tMake (cEnt K) (sp_Entry_init K) [] E ta) tNil))) tz D σ H := s_enter (D := { D with nx := tz D }) (l := 0) T hL ho ha hTl k hz
theorem s_retCount (T : Txt K mg) {σ : L2.St} {H' : Hp} {D : Ends} {to : TE} {L En : Addr} {as' : List Addr} {es' : Es} (hL : LogAt K H' L En as' es') (ho : Ev to σ H' (.ref L)) (hz : 1 ≤ es'.length) (k : ∀ p H2, H' p = none → Ex H' H2 → H2 p = some (.lst ([((es'.length - 1 : Nat) : Int)].map V.int)) → D.rt (.ref p) H2) :
    tRet (tLst (tCons (tOp (rI0 fun i j => .int (i - j)) (tCB (rLenS K) (tCons (tFld K to "entries") tNil)) (tC (.int 1))) tNil)) D σ H' :=
  s_retL (el_lst (ea_one (ev_is (ev_op (ev_len (ev_entries T hL ho) (sq_of hL.lst)) ev_c rv_I0) (by rw [List.length_map, hL.len]; congr 1; omega))) (by simp)) fun p H2 n e h => k p H2 n e h
abbrev N_clean : List Str := ["log", "args", "rows"]
theorem sc_clean : FnScope N_clean ["log", "args", "rows"] d_clean.scope := ⟨rfl, rfl, rfl, by decide +kernel, rfl, by decide +kernel, by decide +kernel⟩
theorem ok_clean (T : Txt K mg) : Ok P w K mg base (L2.CX P w) 5 d_clean ["log", "args", "rows"] (sp_clean K) := by
  have G_check_thing : Ok P w K mg base (L2.CX P w) 4 d_check_thing ["thing", "minute"] (sp_check_thing K) := ok_check_thing T
  have G_check_free : Ok P w K mg base (L2.CX P w) 4 d_check_free ["log", "thing", "minute"] (sp_check_free K) := ok_check_free T
  have G_Entry_init : Ok P w K mg base CX0 1 d_Entry_init ["self", "thing", "minute", "lots"] (sp_Entry_init K) := ok_Entry_init T
  refine okX T.u_clean sc_clean (fun _ _ _ _ _ _ us hl => match us, hl with | [_, _, _], _ => rfl) (fun vs H Q E h => ?_) (fun cdv A outer s H vs Q E hr h => ?_)
  · exact spD_len h
  have nd := sc_clean.nd
  refine ⟨_, (pss_cons (ps_expr (pe_call G_check_thing.f (hr.mono (by decide)) rfl T.g_check_thing G_check_thing.kp G_check_thing.b .nil (passes_call (takes_of rfl rfl rfl rfl) (fun _ _ _ _ h => h)) (pa_cons (wixL K (pv 1) pe_int) (pa_cons (wixL K (pv 1) pe_int) pa_nil))))
  (pss_cons (ps_expr (pe_call G_check_free.f (hr.mono (by decide)) rfl T.g_check_free G_check_free.kp G_check_free.b .nil (passes_call (takes_of rfl rfl rfl rfl) (fun _ _ _ _ h => h)) (pa_cons (pv 0) (pa_cons (wixL K (pv 1) pe_int) (pa_cons (wixL K (pv 1) pe_int) pa_nil)))))
  (pss_cons (ps_expr (wapp K (wfld K (pv 0)) (pe_make T.k_Entry G_Entry_init.f (hr.mono (by decide)) rfl T.g_Entry G_Entry_init.b .nil pass0 (pa_cons (wixL K (pv 1) pe_int) (pa_cons (wixL K (pv 1) pe_int) (pa_cons (pe_lst pa_nil) pa_nil))))))
  (pss_one (ps_ret (pe_lst (pa_cons (pe_op op_sub (wlen K rfl T.f_len (wfld K (pv 0))) pe_int) pa_nil))))))), ?_⟩
  obtain ⟨Tl, L, En, as, es, args, rows, A, Rw, rfl, hL', g, hA, hR, hz, ⟨_, t, m, rfl, rfl⟩, k⟩ := h
  have k := k _ ⟨t, m, rfl, rfl⟩
  have hL := hL'.mono ex_del0
  unfold dClean at k
  refine q_callX (o := if t < 20 ∧ m < 52596000 then .ok .non else .error [-1]) (ea_two (ev_arg (i := 0) (ev_var rfl) hA rfl) (ev_arg (i := 1) (ev_var rfl) hA rfl)) (fun H1 e1 => ⟨t, m, rfl, rfl⟩) (fun v hv H1 e1 => ?_) fun ns hn => ?_
  · by_cases hs : t < 20 ∧ m < 52596000
    · rw [if_neg (by simpa using hs)] at k
      have hA1 := e1 _ _ hA
      refine q_callX (o := if 80 ≤ es.length then .error [-7] else if isTaken es t m = true then .error [-6] else .ok .non) (ea_three (ev_var rfl) (ev_arg (i := 0) (ev_var rfl) hA1 rfl) (ev_arg (i := 1) (ev_var rfl) hA1 rfl)) (fun H2 e2 => ⟨L, es, t, m, rfl, ⟨En, as, (hL.mono e1).mono e2, g⟩, rfl⟩) (fun v hv2 H2 e2 => ?_) fun ns hn => ?_
      · by_cases h80 : 80 ≤ es.length
        · rw [if_pos h80] at hv2; cases hv2
        · rw [if_neg h80] at hv2 k
          by_cases htk : isTaken es t m = true
          · rw [if_pos htk] at hv2; cases hv2
          · rw [if_neg htk] at k
            have e12 := e1.trans e2
            have hA2 := e12 _ _ hA
            obtain ⟨oT, hT⟩ := hz.2
            refine q_enter T (hL'.mono (ex_del e12)) (ev_var rfl) (lots := []) (t := t) (m := m) ((ar_cons (ev_arg (i := 0) (ev_var rfl) hA2 rfl) (ar_cons (ev_arg (i := 1) (ev_var rfl) hA2 rfl) (ar_new (en_fresh (EvL.n (el_lst ea_nil (by simp)))) (fun p a b e h => ⟨e _ _ h.1, h.2⟩) ar_nil))).imp fun vs H3 e3 ⟨us, h1, us2, h2, p, us3, h3, ⟨hp, hn⟩, h4⟩ => ⟨p, by rw [h1, h2, h3, h4], hp, ?_, ?_⟩) ⟨oT, e12 _ _ hT⟩ (fun H3 x hL3 hL3' keep => ?_) (by omega)
            · intro z
              rw [z, (hL.mono e12).lst] at hn
              cases hn
            · intro z
              rw [z, e12 _ _ hT] at hn
              cases hn
            · refine s_retCount T hL3 (ev_var rfl) (by simp) fun p H4 n4 e4 h4 => k p H4 _ (fun ⟨o, ho⟩ z => by rw [z, keep Tl o (Ne.symm (del_some hL'.lst).2) (e12 _ _ ho)] at n4; cases n4) (hL3'.mono (ex_del e4)) (by simpa using h4) fun b o hb _ hbo => e4 _ _ (keep b o hb (e12 _ _ hbo))
      · by_cases h80 : 80 ≤ es.length
        · rw [if_pos h80] at hn k
          cases hn
          exact k.mono e1
        · rw [if_neg h80] at hn k
          by_cases htk : isTaken es t m = true
          · rw [if_pos htk] at hn k
            cases hn
            exact k.mono e1
          · rw [if_neg htk] at hn
            cases hn
    · rw [if_neg hs] at hv
      cases hv
  · by_cases hs : t < 20 ∧ m < 52596000
    · rw [if_pos hs] at hn
      cases hn
    · rw [if_neg hs] at hn
      cases hn
      rw [if_pos hs] at k
      exact k
abbrev N_meet : List Str := ["log", "args", "rows", "thing", "minute", "lots", "lot"]
theorem sc_meet : FnScope N_meet ["log", "args", "rows"] d_meet.scope := ⟨rfl, rfl, rfl, by decide +kernel, rfl, by decide +kernel, by decide +kernel⟩
theorem ok_meet (T : Txt K mg) : Ok P w K mg base (L2.CX P w) 5 d_meet ["log", "args", "rows"] (sp_meet K) := by
  have G_check_thing : Ok P w K mg base (L2.CX P w) 4 d_check_thing ["thing", "minute"] (sp_check_thing K) := ok_check_thing T
  have G_refuse : Ok P w K mg base (L2.CX P w) 3 d_refuse ["holds", "code"] (sp_refuse K) := ok_refuse T
  have G_are_rising : Ok P w K mg base CX0 1 d_are_rising ["row"] (sp_are_rising K) := ok_are_rising T
  have G_check_free : Ok P w K mg base (L2.CX P w) 4 d_check_free ["log", "thing", "minute"] (sp_check_free K) := ok_check_free T
  have G_Log_has_meeting : Ok P w K mg base CX0 2 d_Log_has_meeting ["self", "lot", "minute"] (sp_Log_has_meeting K) := ok_Log_has_meeting T
  have G_Refused_init : Ok P w K mg base CX0 1 d_Refused_init ["self", "numbers"] (sp_Refused_init K) := ok_Refused_init T
  have G_Entry_init : Ok P w K mg base CX0 1 d_Entry_init ["self", "thing", "minute", "lots"] (sp_Entry_init K) := ok_Entry_init T
  obtain ⟨t_MOST_LOT, h_MOST_LOT⟩ := T.i_MOST_LOT
  refine okX T.u_meet sc_meet (fun _ _ _ _ _ _ us hl => match us, hl with | [_, _, _], _ => rfl) (fun vs H Q E h => ?_) (fun cdv A outer s H vs Q E hr h => ?_)
  · exact spD_len h
  have nd := sc_meet.nd
  refine ⟨_, (pss_cons (ps_asg (pv 1) (wunl K (n := 2) rfl (pgs_cons (pg_name (i := 3) nd rfl (Or.inl rfl)) (pgs_cons (pg_name (i := 4) nd rfl (Or.inl rfl)) pgs_nil))))
  (pss_cons (ps_expr (pe_call G_check_thing.f (hr.mono (by decide)) rfl T.g_check_thing G_check_thing.kp G_check_thing.b .nil (passes_call (takes_of rfl rfl rfl rfl) (fun _ _ _ _ h => h)) (pa_cons (pv 3) (pa_cons (pv 4) pa_nil))))
  (pss_cons (ps_set (i := 5) nd rfl (Or.inl rfl) (wixL K (pv 2) pe_int))
  (pss_cons (ps_expr (pe_call G_refuse.f (hr.mono (by decide)) rfl T.g_refuse G_refuse.kp G_refuse.b .nil (passes_call (takes_of rfl rfl rfl rfl) (fun _ _ _ _ h => h)) (pa_cons (pe_or (pe_not (pe_chain op_le op_le pe_int (wlen K rfl T.f_len (pv 5)) pe_int)) (pe_or (pe_cmpR op_gt (wmax K rfl rfl T.f_max (pv 5)) (pe_glob (v := .int 999) rfl h_MOST_LOT ⟨_, rfl⟩) (nomark _)) (pe_one (pe_not (pe_call G_are_rising.f (hr.mono (by decide)) rfl T.g_are_rising G_are_rising.kp G_are_rising.b .nil pass0 (pa_cons (pv 5) pa_nil)))))) (pa_cons (pe_un un_neg pe_int) pa_nil))))
  (pss_cons (ps_expr (pe_call G_check_free.f (hr.mono (by decide)) rfl T.g_check_free G_check_free.kp G_check_free.b .nil (passes_call (takes_of rfl rfl rfl rfl) (fun _ _ _ _ h => h)) (pa_cons (pv 0) (pa_cons (pv 3) (pa_cons (pv 4) pa_nil)))))
  (pss_cons (ps_for (passes_of rfl) rfl (wlist K (pv 5)) (pg_name (i := 6) nd rfl (Or.inl rfl)) (pss_one (ps_if (pt_val (pe_meth (pv 0) T.c_Log T.m_Log_has_meeting G_Log_has_meeting.f (hr.mono (by decide)) G_Log_has_meeting.b .nil pass0 (pa_cons (pv 6) (pa_cons (pv 4) pa_nil)))) (pss_one (ps_raise rfl (takes_of rfl rfl rfl rfl) (pmk_oex T.oex T.iR T.tR G_Refused_init.f (hr.mono (by decide)) G_Refused_init.b .nil pass0 rfl T.g_Refused (pa_cons (pe_lst (pa_cons (pe_un un_neg pe_int) (pa_cons (pv 6) pa_nil))) pa_nil)))) pss_nil)))
  (pss_cons (ps_expr (wapp K (wfld K (pv 0)) (pe_make T.k_Entry G_Entry_init.f (hr.mono (by decide)) rfl T.g_Entry G_Entry_init.b .nil pass0 (pa_cons (pv 3) (pa_cons (pv 4) (pa_cons (pv 5) pa_nil))))))
  (pss_one (ps_ret (pe_lst (pa_cons (pe_op op_sub (wlen K rfl T.f_len (wfld K (pv 0))) pe_int) pa_nil))))))))))), ?_⟩
  obtain ⟨Tl, L, En, as, es, args, rows, A, Rw, rfl, hL', g, hA, hR, hz, ⟨_, t, m, lots, rfl, rfl, rfl⟩, k⟩ := h
  have k := k _ ⟨t, m, lots, rfl, rfl, rfl⟩
  have hL := hL'.mono ex_del0
  obtain ⟨oT, hT⟩ := hz.2
  have hlen : lots.length ≤ 100 := hz.1.2 lots (List.mem_cons_self ..)
  obtain ⟨ys, hy, pr⟩ := hR
  cases pr with
  | cons hl0 pr =>
  cases pr
  rename_i y0
  obtain ⟨l, rfl, hl⟩ := hl0
  obtain ⟨hl1, hlE⟩ := del_some hl
  obtain ⟨hl2, hlT⟩ := del_some hl1
  have hRw : H Rw = some (.lst [.ref l]) := (del_some (del_some hy).1).1
  unfold dMeet at k
  refine ⟨_, rfl, A, [nV t, nV m], rfl, sq_of hA, rfl, nV t, [nV m], rfl, nV m, [], rfl, rfl, ?_⟩
  refine q_callX (o := if t < 20 ∧ m < 52596000 then .ok .non else .error [-1]) (ea_two (ev_var rfl) (ev_var rfl)) (fun H1 e1 => ⟨t, m, rfl, rfl⟩) (fun v hv H1 e1 => ?_) fun ns hn => ?_
  · by_cases hs : t < 20 ∧ m < 52596000
    · rw [if_neg (by simpa using hs)] at k
      refine q_asg (v := .ref l) (ev_ixL (i := 0) (ev_var rfl) ev_c (sq_of (e1 _ _ hRw)) rfl) fun H2 e2 => ?_
      have e12 := e1.trans e2
      have hl3 := e12 _ _ hl2
      refine q_callX (o := if (!(decide (1 ≤ lots.length) && decide (lots.length ≤ 12)) || (!decide (∀ x ∈ lots, x < 1000) || !isRising lots)) = true then .error [-1] else .ok .non)
        (ea_two (ev_orV (ev_notV (ev_is (ev_chainLe ev_c (ev_is (ev_len (ev_var rfl) (sq_of hl3)) (by rw [List.length_map])) ev_c) (by rw [le_nat1, le_nat12]))) fun hf => ev_orV (ev_maxGt (ev_var rfl) hl3 (by simp at hf; omega)) fun _ => ev_notV (ev_callV (ea_one (ev_var rfl)) fun H3 e3 => ⟨l, lots, rfl, e3 _ _ hl3, by omega, rfl⟩)) (ev_un ev_c ru_neg)) (fun H3 _ => ⟨_, _, rfl, rfl⟩) (fun v hv2 H3 e3 => ?_) fun ns hn => ?_
      · have hc : 1 ≤ lots.length ∧ lots.length ≤ 12 ∧ (∀ x ∈ lots, x < 1000) ∧ isRising lots = true := by
          by_cases hb : (!(decide (1 ≤ lots.length) && decide (lots.length ≤ 12)) || (!decide (∀ x ∈ lots, x < 1000) || !isRising lots)) = true
          · rw [if_pos hb] at hv2
            cases hv2
          · simp only [Bool.not_eq_true, Bool.or_eq_false_iff, Bool.not_eq_false', Bool.and_eq_true, decide_eq_true_eq] at hb
            exact ⟨hb.1.1, hb.1.2, hb.2.1, hb.2.2⟩
        rw [if_neg (by simpa using hc)] at k
        have e13 := e12.trans e3
        refine q_callX (o := if 80 ≤ es.length then .error [-7] else if isTaken es t m = true then .error [-6] else .ok .non) (ea_three (ev_var rfl) (ev_var rfl) (ev_var rfl)) (fun H4 e4 => ⟨L, es, t, m, rfl, ⟨En, as, (hL.mono e13).mono e4, g⟩, rfl⟩) (fun v hv3 H4 e4 => ?_) fun ns hn => ?_
        · by_cases h80 : 80 ≤ es.length
          · rw [if_pos h80] at hv3; cases hv3
          · rw [if_neg h80] at hv3 k
            by_cases htk : isTaken es t m = true
            · rw [if_pos htk] at hv3; cases hv3
            · rw [if_neg htk] at k
              have e14 := e13.trans e4
              refine q_forLn (a := l) (xs := lots.map nV) (ev_var rfl) (sq_of (e14 _ _ hl2)) (fun i σ' H' => (∃ x6, σ' = [some (.ref L), some (.ref A), some (.ref Rw), some (nV t), some (nV m), some (.ref l), x6]) ∧ Ex H H' ∧ ∀ x ∈ lots.take i, hasMeeting es x m = false)
                (fun H5 e5 => ⟨⟨_, rfl⟩, e14.trans e5, fun x hx => by simp at hx⟩) (fun i σ' H' _ q => sq_of (q.2.1 _ _ hl2)) (fun i y σ' H' hyi q => ?_) fun σ' H' q => ?_
              · obtain ⟨⟨x6, rfl⟩, e, hall⟩ := q
                obtain ⟨a, ha, rfl⟩ : ∃ a, lots[i]? = some a ∧ y = nV a := by
                  rw [List.getElem?_map] at hyi
                  obtain ⟨a, h1, h2⟩ := Option.map_eq_some_iff.mp hyi
                  exact ⟨a, h1, h2.symm⟩
                refine s_when (b := hasMeeting es a m) (et_B (lg_meth (hL.mono e) (ev_var rfl) (by decide +kernel) (ea_two (ev_var rfl) (ev_var rfl)) fun H5 e5 => ⟨L, es, a, m, rfl, ⟨En, as, (hL.mono e).mono e5, g⟩, rfl⟩)) (fun hb H5 e5 => ?_) fun hb H5 e5 => ?_
                · rw [find_first ha hall hb] at k
                  exact s_raiseR (D := ⟨fun _ _ => False, fun _ _ => False, fun _ _ => False, fun _ _ => False⟩) (ns := [-9, (a : Int)]) (el_lst (ea_two (ev_un ev_c ru_neg) (ev_var rfl)) (by simp)) (k.mono (e.trans e5))
                · refine ⟨⟨_, rfl⟩, e.trans e5, fun x hx => ?_⟩
                  rw [take_snoc ha] at hx
                  rcases List.mem_append.mp hx with h | h
                  · exact hall x h
                  · rw [List.mem_singleton.mp h]
                    exact hb
              · obtain ⟨⟨x6, rfl⟩, e, hall⟩ := q
                rw [List.length_map, List.take_length] at hall
                have hnone : lots.find? (fun x => hasMeeting es x m) = none := List.find?_eq_none.mpr fun x hx => by rw [hall x hx]; decide
                rw [hnone] at k
                refine q_enter T (hL'.mono (ex_del e)) (ev_var rfl) (lots := lots) (t := t) (m := m) ((ar_of (ea_three (ev_var rfl) (ev_var rfl) (ev_var rfl))).imp fun vs H3 e3 hvs => ⟨l, hvs, e3 _ _ (e _ _ hl2), hlE, hlT⟩) ⟨oT, e _ _ hT⟩ (fun H6 x hL6 hL6' keep => ?_) (by omega)
                refine s_retCount T hL6 (ev_var rfl) (by simp) fun p H7 n7 e7 h7 => k p H7 _ (fun ⟨o, ho⟩ z => by rw [z, keep Tl o (Ne.symm (del_some hL'.lst).2) (e _ _ ho)] at n7; cases n7) (hL6'.mono (ex_del e7)) (by simpa using h7) fun b o hb _ hbo => e7 _ _ (keep b o hb (e _ _ hbo))
        · by_cases h80 : 80 ≤ es.length
          · rw [if_pos h80] at hn k
            cases hn
            exact k.mono e13
          · rw [if_neg h80] at hn k
            by_cases htk : isTaken es t m = true
            · rw [if_pos htk] at hn k
              cases hn
              exact k.mono e13
            · rw [if_neg htk] at hn
              cases hn
      · have hc : ¬ (1 ≤ lots.length ∧ lots.length ≤ 12 ∧ (∀ x ∈ lots, x < 1000) ∧ isRising lots = true) := by
          rintro ⟨c1, c2, c3, c4⟩
          rw [if_neg (by rw [decide_eq_true c3]; simp [c1, c2, c4])] at hn
          cases hn
        rw [if_pos hc] at k
        by_cases hb : (!(decide (1 ≤ lots.length) && decide (lots.length ≤ 12)) || (!decide (∀ x ∈ lots, x < 1000) || !isRising lots)) = true
        · rw [if_pos hb] at hn
          cases hn
          exact k.mono e12
        · rw [if_neg hb] at hn
          cases hn
    · rw [if_neg hs] at hv
      cases hv
  · by_cases hs : t < 20 ∧ m < 52596000
    · rw [if_pos hs] at hn
      cases hn
    · rw [if_neg hs] at hn
      cases hn
      rw [if_pos hs] at k
      exact k
end
end St

end

section

set_option Elab.async false
set_option linter.all false
set_option maxRecDepth 100000
set_option maxHeartbeats 4000000
namespace St
open PySem PySem.Spec PyProof.Rows L2 Evl
section
variable {K : PySem.W.Frag} {σ : L2.St} {H H' : Hp} {te tl ta tb td ty tv : TE} {g : TG} {vs : List Nat} {D : Ends}
/-- a comprehension that makes a list each turn -/
theorem en_lcNL {α : Type} {l : List α} {f : α → List V} {P : List V → Hp → Prop} (h : EvP tl σ H (fun v H' => ∃ q xs, v = .ref q ∧ H' q = some (.lst xs) ∧ P xs H')) (hz : l.length ≤ 90000) (hl : ∀ xs H1, Ex H H1 → P xs H1 → xs.length = l.length)
    (turn : ∀ (xs : List V) (H1 : Hp) (i : Nat) (a : α) (x : V), Ex H H1 → P xs H1 → l[i]? = some a → xs[i]? = some x → ∃ σ2, (∀ H' Q, Ex H1 H' → Q σ2 H' → g x (wipe σ vs) H' Q) ∧ wipe σ2 vs = wipe σ vs ∧ EvL te σ2 H1 (f a)) :
    EvN (tLc (iList K tl) g tYes te vs) σ H (fun D H' => ∃ ys, H' D = some (.lst ys) ∧ Paired (fun a y => ∃ t, y = .ref t ∧ H' t = some (.lst (f a))) l ys) := fun H0 e Q q => h H0 e _ fun v H1 e1 ⟨a0, xs, hv, hx, hp⟩ =>
  ⟨a0, hv, ⟨xs, sq_of hx⟩, fun D hD => lc_core2 (l := l) (p := fun _ => true) (RA := fun a y H => ∃ t, y = .ref t ∧ H t = some (.lst (f a)) ∧ t ≠ D) (G := fun H => SqL K H a0 xs) (Y := YAt xs) (by rw [← hl xs H1 (e.trans e1) hp]; exact walk_list) hD hz (fun H' e' => sq_of (e' _ _ hx))
    (fun a y H H' e ⟨t, h1, h2, h3⟩ => ⟨t, h1, e _ _ h2, h3⟩) (fun a y H acc acc' _ ⟨t, h1, h2, h3⟩ => ⟨t, h1, by rw [upd_ne h3]; exact h2, h3⟩)
    (fun i a x H' H'' ha e' hac y => by
      obtain ⟨eH, hxi⟩ := y
      rw [eH]
      obtain ⟨σ2, h1, h2, h3⟩ := turn xs H1 i a x (e.trans e1) hp ha hxi
      obtain ⟨acc, hacc⟩ := hac
      refine ⟨Ex.refl _, σ2, fun Q q => h1 _ Q e' q, h2, et_yes, fun _ H2 e2 Q q => (h3.mono e') H2 e2 Q fun p H3 n3 e3 h3 => q _ H3 e3 ⟨p, rfl, h3, fun z => ?_⟩⟩
      rw [z, e2 _ _ hacc] at n3
      cases n3)
    fun H' ys e' hy pr => q D H' (fresh_back e1 hD) (e1.trans e') ⟨ys, hy, by
      rw [filter_yes] at pr
      exact paired_imp (fun a y ⟨t, h1, h2, _⟩ => ⟨t, h1, h2⟩) pr⟩⟩
theorem el_callR {t : TA} {R : List V → Hp → Prop} {xs : List V} {pre : List V → Hp → List V → Prop} {E : XK} (ha : EvAR t σ H R) (hp : ∀ vs H1, Ex H H1 → R vs H1 → pre vs H1 xs) : EvL (tCall (spL pre) [] E t) σ H xs := fun H1 e Q q =>
  ha H1 e _ fun vs H3 e3 r => ⟨xs, by rw [List.append_nil]; exact hp vs H3 (e.trans e3) r, fun p H4 n e4 r => q p H4 (fresh_back e3 n) (e3.trans e4) r⟩
theorem ev_neN {a b : Nat} (ha : Ev ta σ H (nV a)) (hb : Ev tb σ H (nV b)) : Ev (tOp rNe ta tb) σ H (.bl (!decide (a = b))) :=
  ev_is (ev_op ha hb (rv_ne rfl)) (by
    congr 2
    by_cases h : a = b
    · subst h
      simp
    · simp [h]
      omega)
/-- {n: m} -/
def pk (l : List (Nat × Nat)) : List (Key × V) := l.map fun p => (ik p.1, nV p.2)
theorem pk_val (l : List (Nat × Nat)) (k : Nat) : valV (pk l) (ik k) = (l.lookup k).map nV := by
  induction l with
  | nil => rfl
  | cons p r ih =>
    unfold pk
    rw [List.map_cons]
    obtain ⟨a, b⟩ := p
    by_cases h : a = k
    · subst h
      rw [valV_pos rfl]
      simp [List.lookup]
    · rw [valV_neg (fun z => h (ik_inj z))]
      have : (k == a) = false := by simpa using fun z => h z.symm
      simp only [List.lookup, this]
      exact ih
theorem lookup_isSome (l : List (Nat × Nat)) (k : Nat) : (l.lookup k).isSome = decide (k ∈ l.map (·.1)) := by
  induction l with
  | nil => rfl
  | cons p r ih =>
    obtain ⟨a, b⟩ := p
    by_cases h : k = a
    · subst h
      simp [List.lookup]
    · have : (k == a) = false := by simpa using h
      simp only [List.lookup, this]
      rw [ih]
      simp [h]
theorem pk_isSome (l : List (Nat × Nat)) (k : Nat) : (valV (pk l) (ik k)).isSome = decide (k ∈ l.map (·.1)) := by
  rw [pk_val, Option.isSome_map, lookup_isSome]
theorem pk_put {l : List (Nat × Nat)} {k v : Nat} (h : k ∉ l.map (·.1)) : putK (pk l) (ik k) (nV v) = pk (putNew l k v) := by
  unfold putK putNew
  rw [valV_any, pk_isSome, if_neg (by simpa using h), if_neg h]
  unfold pk
  rw [List.map_append]
  rfl
theorem pk_keys (l : List (Nat × Nat)) : (pk l).map (·.1) = (l.map (·.1)).map ik := by unfold pk; rw [List.map_map, List.map_map]; rfl
theorem pk_len (l : List (Nat × Nat)) : (pk l).length = l.length := List.length_map ..
theorem putNew_len (l : List (Nat × Nat)) (k v : Nat) : (putNew l k v).length ≤ l.length + 1 := by
  unfold putNew
  split <;> simp
theorem putNew_nodup {l : List (Nat × Nat)} {k v : Nat} (h : (l.map (·.1)).Nodup) : ((putNew l k v).map (·.1)).Nodup := by
  unfold putNew
  split
  · exact h
  · rename_i hk
    rw [List.map_append]
    refine List.nodup_append.mpr ⟨h, by simp, fun a ha b hb z => hk ?_⟩
    simp at hb
    rw [← hb, ← z]
    exact ha
theorem s_dputP {d : Addr} {l : List (Nat × Nat)} {k v : Nat} (hd : H d = some (.dK (pk l))) (hk : k ∉ l.map (·.1)) (hv : Ev tv σ H (nV v)) (ho : Ev td σ H (.ref d)) (hy : Ev ty σ H (nV k)) (hz : l.length < 90000) (kk : ∀ H1, Ex H H1 → D.nx σ (upd H1 d (.dK (pk (putNew l k v))))) : sDPut td ty tv D σ H :=
  hv H (Ex.refl H) _ fun H1 e1 => ho H1 e1 _ fun H2 e2 => hy H2 (e1.trans e2) _ fun H3 e3 => ⟨d, _, rfl, DPut.k (k := ik k) (((e1.trans e2).trans e3) _ _ hd) (by rw [pk_len]; exact sz_lt (by omega)), by
    rw [pk_put hk]
    exact kk H3 ((e1.trans e2).trans e3)⟩
/-- counted([[k, told[k]] for k in sorted(told)]) -/
theorem el_byKey {d : Addr} {l : List (Nat × Nat)} {X : XK} {j : Nat} (hd : H d = some (.dK (pk l))) (hn : (l.map (·.1)).Nodup) (hz : l.length ≤ 50000) (ho : Ev td σ H (.ref d)) (hw : ∀ x, wipe ((wipe σ vs).set j (some x)) vs = wipe σ vs)
    (h2 : ∀ x H', Ex H H' → Ev td ((wipe σ vs).set j (some x)) H' (.ref d)) (h3 : ∀ x, ((wipe σ vs).set j (some x))[j]? = some (some x)) :
    EvL (tCall (sp_counted K) [] X (tCons (tLc (iList K (tCB rSortD (tCons td tNil))) (gName j) tYes (tLst (tCons (tVar j) (tCons (tDGet td (tVar j)) tNil))) vs) tNil)) σ H ((countedL (byKey l)).map V.int) := by
  refine el_callR (ar_new (en_lcNL (l := TbStLog.rising (l.map (·.1))) (f := fun k => [nV k, nV (valOf l k)]) (P := fun xs _ => xs = (TbStLog.rising (l.map (·.1))).map nV)
    ((EvN.p (EvL.n (el_sortD (ks := l.map (·.1)) (ns := TbStLog.rising (l.map (·.1))) ho (.inl hd) (pk_keys l) (by rw [List.length_map]; omega) (rising_perm hn fun _ => Iff.rfl) ((rising_sorted _).imp fun h => Nat.le_of_lt h)))).imp fun v H1 _ ⟨p, h1, h2⟩ => ⟨p, _, h1, h2, rfl⟩)
    (by have := rising_len (l.map (·.1)); rw [List.length_map] at this; omega) (fun xs H1 _ q => by rw [q, List.length_map]) fun xs H1 i a x e q ha hx => ?_) (fun p a b e h => ?_) ar_nil) fun us H1 e ⟨p, us2, h1, ⟨ys, hy, pr⟩, h4⟩ => ?_
  · subst q
    cases map_at ha hx
    refine ⟨_, fun H' Q _ q => q, hw _, el_lst (ea_two (ev_var (h3 _)) (ev_dgetK (n := a) (h2 _ _ e) (ev_var (h3 _)) (.inl (e _ _ hd)) ?_)) (by simp)⟩
    have hm : a ∈ l.map (·.1) := rising_mem.mp (List.mem_of_getElem? ha)
    rw [pk_val]
    unfold valOf
    have := lookup_isSome l a
    rw [decide_eq_true hm] at this
    obtain ⟨v, hv⟩ := Option.isSome_iff_exists.mp this
    rw [hv]
    rfl
  · obtain ⟨ys, hy, pr⟩ := h
    exact ⟨ys, e _ _ hy, paired_imp (fun a y ⟨t, h1, h2⟩ => ⟨t, h1, e _ _ h2⟩) pr⟩
  · refine ⟨p, byKey l, by rw [h1, h4], ⟨ys, hy, ?_⟩, ?_, fun z hz2 => ?_, rfl⟩
    · unfold byKey
      have pm : ∀ {ks : List Nat} {ys : List V}, Paired (fun k y => ∃ t, y = .ref t ∧ H1 t = some (.lst [nV k, nV (valOf l k)])) ks ys → Paired (fun (z : List Int) (y : V) => ∃ t, y = .ref t ∧ H1 t = some (.lst (z.map .int))) (ks.map fun (k : Nat) => [(k : Int), ((valOf l k : Nat) : Int)]) ys := by
        intro ks ys r
        induction r with
        | nil => exact .nil
        | cons a b ih => exact .cons a ih
      exact pm pr
    · unfold byKey
      rw [List.length_map]
      have := rising_len (l.map (·.1))
      rw [List.length_map] at this
      omega
    · unfold byKey at hz2
      obtain ⟨k, _, rfl⟩ := List.mem_map.mp hz2
      simp
end
def touchStep (es : Es) (y : Nat) (acc : List (Nat × Nat)) (i : Nat) : List (Nat × Nat) := (ent es i).lots.foldl (fun acc x => if x ≠ y then putNew acc x (ent es i).minute else acc) acc
theorem touchIn_len (es : Es) (y i : Nat) : ∀ (ls : List Nat) (acc : List (Nat × Nat)), (ls.foldl (fun acc x => if x ≠ y then putNew acc x (ent es i).minute else acc) acc).length ≤ acc.length + ls.length
  | [], acc => Nat.le_refl _
  | x :: ls, acc => by
    have h := touchIn_len es y i ls (if x ≠ y then putNew acc x (ent es i).minute else acc)
    have h2 : (if x ≠ y then putNew acc x (ent es i).minute else acc).length ≤ acc.length + 1 := by
      split
      · exact putNew_len _ _ _
      · omega
    rw [List.foldl_cons, List.length_cons]
    omega
theorem touchIn_nodup (es : Es) (y i : Nat) : ∀ (ls : List Nat) (acc : List (Nat × Nat)), (acc.map (·.1)).Nodup → ((ls.foldl (fun acc x => if x ≠ y then putNew acc x (ent es i).minute else acc) acc).map (·.1)).Nodup
  | [], acc, h => h
  | x :: ls, acc, h => touchIn_nodup es y i ls _ (by
    show ((if x ≠ y then putNew acc x (ent es i).minute else acc).map (·.1)).Nodup
    split
    · exact putNew_nodup h
    · exact h)
section
variable {P : Program} {w : World} {K : PySem.W.Frag} {mg : Str → Option Value} {base : Heap}
abbrev N_touched : List Str := ["log", "args", "rows", "told", "number", "entry", "lot"]
theorem sc_touched : FnScope N_touched ["log", "args", "rows"] d_touched.scope := ⟨rfl, rfl, rfl, by decide +kernel, rfl, by decide +kernel, by decide +kernel⟩
theorem ok_touched (T : Txt K mg) : Ok P w K mg base (L2.CX P w) 7 d_touched ["log", "args", "rows"] (sp_touched K) := by
  have G_check_lot : Ok P w K mg base (L2.CX P w) 4 d_check_lot ["lot", "minute"] (sp_check_lot K) := ok_check_lot T
  have G_Log_touched : Ok P w K mg base CX0 6 d_Log_touched ["self", "lot", "minute"] (sp_Log_touched K) := ok_Log_touched T
  have G_counted : Ok P w K mg base CX0 1 d_counted ["rows"] (sp_counted K) := ok_counted T
  refine okX T.u_touched sc_touched (fun _ _ _ _ _ _ us hl => match us, hl with | [_, _, _], _ => rfl) (fun vs H Q E h => ?_) (fun cdv A outer s H vs Q E hr h => ?_)
  · exact spD_len h
  have nd := sc_touched.nd
  refine ⟨_, (pss_cons (ps_expr (pe_call G_check_lot.f (hr.mono (by decide)) rfl T.g_check_lot G_check_lot.kp G_check_lot.b .nil (passes_call (takes_of rfl rfl rfl rfl) (fun _ _ _ _ h => h)) (pa_cons (wixL K (pv 1) pe_int) (pa_cons (wixL K (pv 1) pe_int) pa_nil))))
  (pss_cons (ps_set (i := 3) nd rfl (Or.inr rfl) pe_dnewK)
  (pss_cons (ps_for (passes_of rfl) rfl (wlist K (pe_meth (pv 0) T.c_Log T.m_Log_touched G_Log_touched.f (hr.mono (by decide)) G_Log_touched.b .nil pass0 (pa_cons (wixL K (pv 1) pe_int) (pa_cons (wixL K (pv 1) pe_int) pa_nil)))) (pg_name (i := 4) nd rfl (Or.inl rfl)) (pss_cons (ps_set (i := 5) nd rfl (Or.inl rfl) (wixL K (wfld K (pv 0)) (pv 4)))
  (pss_one (ps_for (passes_of rfl) rfl (wlist K (wfld K (pv 5))) (pg_name (i := 6) nd rfl (Or.inl rfl)) (pss_one (ps_if (PW.pt (pw_and (pt_cmpR op_ne (pv 6) (wixL K (pv 1) pe_int) (nomark _)) (pw_and1 (pt_cmp (pc_dnotin (hu_of hr) (pv 6) (pv 3)) rfl)))) (pss_one (ps_dput (hu_of hr) (pv 3) (pv 6) (wfld K (pv 5)) rfl)) pss_nil))))))
  (pss_one (ps_ret (pe_call G_counted.f (hr.mono (by decide)) rfl T.g_counted G_counted.kp G_counted.b .nil pass0 (pa_cons (pe_lc (own := [("lot", 6)]) rfl nd (wlist K (wsortD rfl rfl T.f_sorted (pv 3))) (blkOk_by (N := N_touched) (sc := d_touched.scope) (by decide +kernel)) (fun _ _ _ _ _ => (pg_name (i := 6) nd rfl (Or.inl rfl))) (fun _ _ _ _ _ => pts_nil) (fun _ _ _ _ _ => (pe_lst (pa_cons (pv 6) (pa_cons (pe_dget (hu_of hr) (pv 3) (pv 6) (fun _ _ => rfl)) pa_nil))))) pa_nil))))))), ?_⟩
  obtain ⟨Tl, L, En, as, es, args, rows, A, Rw, rfl, hL', g, hA, hR, hz, ⟨_, y, t, rfl, rfl⟩, k⟩ := h
  have k := k _ ⟨y, t, rfl, rfl⟩
  have hL := hL'.mono ex_del0
  unfold dTouched at k
  refine q_callX (o := if y < 1000 ∧ t < 52596000 then .ok .non else .error [-1]) (ea_two (ev_arg (i := 0) (ev_var rfl) hA rfl) (ev_arg (i := 1) (ev_var rfl) hA rfl)) (fun H1 e1 => ⟨y, t, rfl, rfl⟩) (fun v hv H1 e1 => ?_) fun ns hn => ?_
  · by_cases hs : y < 1000 ∧ t < 52596000
    · rw [if_neg (by simpa using hs)] at k
      refine q_newK fun d hd => ?_
      have nd0 : H d = none := fresh_back e1 hd
      have e2 := e1.trans (Ex.new hd (o := .dK []))
      refine q_forNLn (xs := (touchedM es y t).map nV) (lg_methL (hL.mono e2) (ev_var rfl) (by decide +kernel) (ea_two (ev_arg (i := 0) (ev_var rfl) (e2 _ _ hA) rfl) (ev_arg (i := 1) (ev_var rfl) (e2 _ _ hA) rfl)) fun H3 e3 => ⟨L, es, y, t, rfl, ⟨En, as, (hL.mono e2).mono e3, g⟩, rfl⟩)
        (fun p i σ' H' => (∃ x4 x5 x6, σ' = [some (.ref L), some (.ref A), some (.ref Rw), some (.ref d), x4, x5, x6]) ∧ Ex H H' ∧ p ≠ d ∧ H' p = some (.lst ((touchedM es y t).map nV)) ∧ ∃ acc, acc = ((touchedM es y t).take i).foldl (touchStep es y) [] ∧ acc.length ≤ 12 * i ∧ (acc.map (·.1)).Nodup ∧ H' d = some (.dK (pk acc)))
        (fun p H3 n3 e3 h3 => ⟨⟨_, _, _, rfl⟩, e2.trans e3, (fun z => by rw [z, upd_same] at n3; cases n3), h3, [], rfl, by simp, by simp, e3 _ _ upd_same⟩) (fun p i σ' H' _ q => sq_of q.2.2.2.1) (fun p i x σ' H' hx q => ?_) fun p σ' H' q => ?_
      · obtain ⟨⟨x4, x5, x6, rfl⟩, e, hpd, hp, acc, eacc, lacc, nacc, hd2⟩ := q
        obtain ⟨a, ha, rfl⟩ : ∃ a, (touchedM es y t)[i]? = some a ∧ x = nV a := by
          rw [List.getElem?_map] at hx
          obtain ⟨a, h1, h2⟩ := Option.map_eq_some_iff.mp hx
          exact ⟨a, h1, h2.symm⟩
        have hi : a < es.length := (mem_meetings.mp ((touched_sub es y t).subset (List.mem_of_getElem? ha))).1
        have hil : i < 80 := by
          have h1 := (List.getElem?_eq_some_iff.mp ha).1
          have h2 := (touched_sub es y t).length_le
          have h3 := meetings_len es
          have h4 := g.len
          omega
        refine q_asg (ev_ent T (hL.mono e) (ev_var rfl) (ev_var rfl) hi) fun H4 e4 => ?_
        have he := hL.ent hi
        obtain ⟨l, hl, hev⟩ := ev_lots (H := H) (ta := tVar 5) (σ := [some (.ref L), some (.ref A), some (.ref Rw), some (.ref d), some (nV a), some (.ref (ad as a)), x6]) T he (ev_var rfl)
        have hll := lots_len g hi
        refine s_forLn (xs := (ent es a).lots.map nV) (a := l) (hev.mono (e.trans e4)) (sq_of (e4 _ _ (e _ _ hl)))
          (fun j σ'' H'' => (∃ x6, σ'' = [some (.ref L), some (.ref A), some (.ref Rw), some (.ref d), some (nV a), some (.ref (ad as a)), x6]) ∧ Ex H H'' ∧ H'' p = some (.lst ((touchedM es y t).map nV)) ∧ ∃ acc2, acc2 = ((ent es a).lots.take j).foldl (fun acc x => if x ≠ y then putNew acc x (ent es a).minute else acc) acc ∧ H'' d = some (.dK (pk acc2)))
          (fun H5 e5 => ⟨⟨_, rfl⟩, (e.trans e4).trans e5, e5 _ _ (e4 _ _ hp), acc, rfl, e5 _ _ (e4 _ _ hd2)⟩) (fun j σ'' H'' _ q => sq_of (q.2.1 _ _ hl)) (fun j z σ'' H'' hz2 q => ?_) fun σ'' H'' q => ?_
        · obtain ⟨⟨y6, rfl⟩, e5, hp5, acc2, eacc2, hd5⟩ := q
          obtain ⟨b, hb, rfl⟩ : ∃ b, (ent es a).lots[j]? = some b ∧ z = nV b := by
            rw [List.getElem?_map] at hz2
            obtain ⟨b, h1, h2⟩ := Option.map_eq_some_iff.mp hz2
            exact ⟨b, h1, h2.symm⟩
          have hstep : ((ent es a).lots.take (j + 1)).foldl (fun acc x => if x ≠ y then putNew acc x (ent es a).minute else acc) acc = if b ≠ y then putNew acc2 b (ent es a).minute else acc2 := by
            rw [take_snoc hb, List.foldl_append, ← eacc2]
            rfl
          have hl2 := touchIn_len es y a ((ent es a).lots.take j) acc
          rw [← eacc2, List.length_take] at hl2
          refine s_when (b := (!decide (b = y)) && !decide (b ∈ acc2.map (·.1))) (et_and (et_test (ev_neN (ev_var rfl) (ev_arg (i := 0) (ev_var rfl) (e5 _ _ hA) rfl))) fun _ => et_B (ev_is (ev_dniK (n := b) (ev_var rfl) (ev_var rfl) (.inl hd5)) (by rw [pk_isSome]))) (fun hc H6 e6 => ?_) fun hc H6 e6 => ?_
          · simp only [Bool.and_eq_true, Bool.not_eq_true', decide_eq_false_iff_not] at hc
            refine s_dputP (e6 _ _ hd5) hc.2 (ev_minute T (he.mono (e5.trans e6)) (ev_var rfl)) (ev_var rfl) (ev_var rfl) (by omega) fun H7 e7 => ⟨⟨_, rfl⟩, ((e5.trans e6).trans e7).mut nd0, by rw [upd_ne hpd]; exact e7 _ _ (e6 _ _ hp5), _, rfl, ?_⟩
            rw [hstep, if_pos hc.1]
            exact upd_same
          · refine ⟨⟨_, rfl⟩, e5.trans e6, e6 _ _ hp5, _, rfl, ?_⟩
            rw [hstep]
            have : (if b ≠ y then putNew acc2 b (ent es a).minute else acc2) = acc2 := by
              by_cases hby : b = y
              · rw [if_neg (by simpa using hby)]
              · rw [if_pos hby]
                have : b ∈ acc2.map (·.1) := by
                  rw [Bool.and_eq_false_iff] at hc
                  rcases hc with hc | hc
                  · simp [hby] at hc
                  · simpa using hc
                unfold putNew
                rw [if_pos this]
            rw [this]
            exact e6 _ _ hd5
        · obtain ⟨⟨y6, rfl⟩, e5, hp5, acc2, eacc2, hd5⟩ := q
          rw [List.length_map, List.take_length] at eacc2
          refine ⟨⟨_, _, _, rfl⟩, e5, hpd, hp5, acc2, ?_, ?_, ?_, hd5⟩
          · rw [take_snoc ha, List.foldl_append, ← eacc]
            exact eacc2
          · have := touchIn_len es y a (ent es a).lots acc
            rw [← eacc2] at this
            omega
          · rw [eacc2]
            exact touchIn_nodup es y a _ _ nacc
      · obtain ⟨⟨x4, x5, x6, rfl⟩, e, hpd, hp, acc, eacc, lacc, nacc, hd2⟩ := q
        rw [List.length_map, List.take_length] at eacc
        have hlen : (touchedM es y t).length ≤ 80 := Nat.le_trans (touched_sub es y t).length_le (Nat.le_trans (meetings_len es) g.len)
        rw [List.length_map] at lacc
        have k' : OutD K Tl L En H E Q (.ok (countedL (byKey acc), es)) := by
          rw [eacc]
          exact k
        refine s_retL (el_byKey hd2 nacc (by omega) (ev_var rfl) (fun _ => rfl) (fun _ _ _ => ev_var rfl) fun _ => rfl) fun p2 H5 n5 e5 h5 => OutD.ro hL' k' p2 H5 (fresh_back e n5) (e.trans e5) h5
    · rw [if_neg hs] at hv
      cases hv
  · by_cases hs : y < 1000 ∧ t < 52596000
    · rw [if_pos hs] at hn
      cases hn
    · rw [if_neg hs] at hn
      cases hn
      rw [if_pos hs] at k
      exact k
def dirtyStep (es : Es) (acc : List (Nat × Nat)) (i : Nat) : List (Nat × Nat) := if isCleaned es (ent es i).thing (ent es i).minute 52596000 [] = true then acc else putNew acc (ent es i).thing (ent es i).minute
abbrev N_dirty : List Str := ["log", "args", "rows", "told", "number", "entry", "is_clean", "thing"]
theorem sc_dirty : FnScope N_dirty ["log", "args", "rows"] d_dirty.scope := ⟨rfl, rfl, rfl, by decide +kernel, rfl, by decide +kernel, by decide +kernel⟩
theorem ok_dirty (T : Txt K mg) : Ok P w K mg base (L2.CX P w) 7 d_dirty ["log", "args", "rows"] (sp_dirty K) := by
  have G_check_lot : Ok P w K mg base (L2.CX P w) 4 d_check_lot ["lot", "minute"] (sp_check_lot K) := ok_check_lot T
  have G_Log_touched : Ok P w K mg base CX0 6 d_Log_touched ["self", "lot", "minute"] (sp_Log_touched K) := ok_Log_touched T
  have G_Log_is_cleaned : Ok P w K mg base CX0 2 d_Log_is_cleaned ["self", "thing", "first", "last", "more"] (sp_Log_is_cleaned K) := ok_Log_is_cleaned T
  have G_counted : Ok P w K mg base CX0 1 d_counted ["rows"] (sp_counted K) := ok_counted T
  obtain ⟨t_LAST_MINUTE, h_LAST_MINUTE⟩ := T.i_LAST_MINUTE
  refine okX T.u_dirty sc_dirty (fun _ _ _ _ _ _ us hl => match us, hl with | [_, _, _], _ => rfl) (fun vs H Q E h => ?_) (fun cdv A outer s H vs Q E hr h => ?_)
  · exact spD_len h
  have nd := sc_dirty.nd
  refine ⟨_, (pss_cons (ps_expr (pe_call G_check_lot.f (hr.mono (by decide)) rfl T.g_check_lot G_check_lot.kp G_check_lot.b .nil (passes_call (takes_of rfl rfl rfl rfl) (fun _ _ _ _ h => h)) (pa_cons (wixL K (pv 1) pe_int) (pa_cons (wixL K (pv 1) pe_int) pa_nil))))
  (pss_cons (ps_set (i := 3) nd rfl (Or.inr rfl) pe_dnewK)
  (pss_cons (ps_for (passes_of rfl) rfl (wlist K (pe_meth (pv 0) T.c_Log T.m_Log_touched G_Log_touched.f (hr.mono (by decide)) G_Log_touched.b .nil pass0 (pa_cons (wixL K (pv 1) pe_int) (pa_cons (wixL K (pv 1) pe_int) pa_nil)))) (pg_name (i := 4) nd rfl (Or.inl rfl)) (pss_cons (ps_set (i := 5) nd rfl (Or.inl rfl) (wixL K (wfld K (pv 0)) (pv 4)))
  (pss_cons (ps_set (i := 6) nd rfl (Or.inl rfl) (pe_meth (pv 0) T.c_Log T.m_Log_is_cleaned G_Log_is_cleaned.f (hr.mono (by decide)) G_Log_is_cleaned.b .nil pass0 (pa_cons (wfld K (pv 5)) (pa_cons (wfld K (pv 5)) (pa_cons (pe_op op_add (pe_glob (v := .int 52595999) rfl h_LAST_MINUTE ⟨_, rfl⟩) pe_int) (pa_cons (pe_lst pa_nil) pa_nil))))))
  (pss_one (ps_if (PW.pt (pw_and (pt_not (pt_val (pv 6))) (pw_and1 (pt_cmp (pc_dnotin (hu_of hr) (wfld K (pv 5)) (pv 3)) rfl)))) (pss_one (ps_dput (hu_of hr) (pv 3) (wfld K (pv 5)) (wfld K (pv 5)) rfl)) pss_nil)))))
  (pss_one (ps_ret (pe_call G_counted.f (hr.mono (by decide)) rfl T.g_counted G_counted.kp G_counted.b .nil pass0 (pa_cons (pe_lc (own := [("thing", 7)]) rfl nd (wlist K (wsortD rfl rfl T.f_sorted (pv 3))) (blkOk_by (N := N_dirty) (sc := d_dirty.scope) (by decide +kernel)) (fun _ _ _ _ _ => (pg_name (i := 7) nd rfl (Or.inl rfl))) (fun _ _ _ _ _ => pts_nil) (fun _ _ _ _ _ => (pe_lst (pa_cons (pv 7) (pa_cons (pe_dget (hu_of hr) (pv 3) (pv 7) (fun _ _ => rfl)) pa_nil))))) pa_nil))))))), ?_⟩
  obtain ⟨Tl, L, En, as, es, args, rows, A, Rw, rfl, hL', g, hA, hR, hz, ⟨_, y, t, rfl, rfl⟩, k⟩ := h
  have k := k _ ⟨y, t, rfl, rfl⟩
  have hL := hL'.mono ex_del0
  unfold dDirty at k
  refine q_callX (o := if y < 1000 ∧ t < 52596000 then .ok .non else .error [-1]) (ea_two (ev_arg (i := 0) (ev_var rfl) hA rfl) (ev_arg (i := 1) (ev_var rfl) hA rfl)) (fun H1 e1 => ⟨y, t, rfl, rfl⟩) (fun v hv H1 e1 => ?_) fun ns hn => ?_
  · by_cases hs : y < 1000 ∧ t < 52596000
    · rw [if_neg (by simpa using hs)] at k
      refine q_newK fun d hd => ?_
      have nd0 : H d = none := fresh_back e1 hd
      have e2 := e1.trans (Ex.new hd (o := .dK []))
      refine q_forNLn (xs := (touchedM es y t).map nV) (lg_methL (hL.mono e2) (ev_var rfl) (by decide +kernel) (ea_two (ev_arg (i := 0) (ev_var rfl) (e2 _ _ hA) rfl) (ev_arg (i := 1) (ev_var rfl) (e2 _ _ hA) rfl)) fun H3 e3 => ⟨L, es, y, t, rfl, ⟨En, as, (hL.mono e2).mono e3, g⟩, rfl⟩)
        (fun p i σ' H' => (∃ x4 x5 x6 x7, σ' = [some (.ref L), some (.ref A), some (.ref Rw), some (.ref d), x4, x5, x6, x7]) ∧ Ex H H' ∧ p ≠ d ∧ H' p = some (.lst ((touchedM es y t).map nV)) ∧ ∃ acc, acc = ((touchedM es y t).take i).foldl (dirtyStep es) [] ∧ acc.length ≤ i ∧ (acc.map (·.1)).Nodup ∧ H' d = some (.dK (pk acc)))
        (fun p H3 n3 e3 h3 => ⟨⟨_, _, _, _, rfl⟩, e2.trans e3, (fun z => by rw [z, upd_same] at n3; cases n3), h3, [], rfl, by simp, by simp, e3 _ _ upd_same⟩) (fun p i σ' H' _ q => sq_of q.2.2.2.1) (fun p i x σ' H' hx q => ?_) fun p σ' H' q => ?_
      · obtain ⟨⟨x4, x5, x6, x7, rfl⟩, e, hpd, hp, acc, eacc, lacc, nacc, hd2⟩ := q
        obtain ⟨a, ha, rfl⟩ : ∃ a, (touchedM es y t)[i]? = some a ∧ x = nV a := by
          rw [List.getElem?_map] at hx
          obtain ⟨a, h1, h2⟩ := Option.map_eq_some_iff.mp hx
          exact ⟨a, h1, h2.symm⟩
        have hi : a < es.length := (mem_meetings.mp ((touched_sub es y t).subset (List.mem_of_getElem? ha))).1
        have hil : i < 80 := by
          have h1 := (List.getElem?_eq_some_iff.mp ha).1
          have h2 := (touched_sub es y t).length_le
          have h3 := meetings_len es
          have h4 := g.len
          omega
        refine q_asg (ev_ent T (hL.mono e) (ev_var rfl) (ev_var rfl) hi) fun H4 e4 => ?_
        have he := hL.ent hi
        have e04 := e.trans e4
        have hL4 := hL.mono e04
        obtain ⟨dx, hobj⟩ := hL4.obj
        refine q_asg (v := .bl (isCleaned es (ent es a).thing (ent es a).minute 52596000 [])) (ev_methR (ev_var rfl) hobj (lg_none (by decide +kernel)) (ar_cons (ev_thing T (he.mono e04) (ev_var rfl)) (ar_cons (ev_minute T (he.mono e04) (ev_var rfl)) (ar_cons (x := nV 52596000) (ev_op ev_c ev_c rv_I0) (ar_new (EvL.n (el_lst ea_nil (by simp))) (fun p a b e h => e _ _ h) ar_nil))))
          fun vs H5 e5 ⟨u1, h1, u2, h2, u3, h3, p5, u4, h4, h5, h6⟩ => ⟨L, es, _, _, _, p5, [], by rw [h1, h2, h3, h4, h6], ⟨En, as, hL4.mono e5, g⟩, ⟨[], h5, .nil⟩, by simp, rfl⟩) fun H5 e5 => ?_
        have e05 := e04.trans e5
        have hstep : ((touchedM es y t).take (i + 1)).foldl (dirtyStep es) [] = dirtyStep es acc a := by
          rw [take_snoc ha, List.foldl_append, ← eacc]
          rfl
        refine s_when (b := (!isCleaned es (ent es a).thing (ent es a).minute 52596000 []) && !decide ((ent es a).thing ∈ acc.map (·.1))) (et_and (et_not (et_B (ev_var rfl))) fun _ => et_B (ev_is (ev_dniK (n := (ent es a).thing) (ev_thing T (he.mono e05) (ev_var rfl)) (ev_var rfl) (.inl (e5 _ _ (e4 _ _ hd2)))) (by rw [pk_isSome]))) (fun hc H6 e6 => ?_) fun hc H6 e6 => ?_
        · simp only [Bool.and_eq_true, Bool.not_eq_true', decide_eq_false_iff_not] at hc
          refine s_dputP (e6 _ _ (e5 _ _ (e4 _ _ hd2))) hc.2 (ev_minute T (he.mono (e05.trans e6)) (ev_var rfl)) (ev_var rfl) (ev_thing T (he.mono (e05.trans e6)) (ev_var rfl)) (by omega) fun H7 e7 => ⟨⟨_, _, _, _, rfl⟩, ((e05.trans e6).trans e7).mut nd0, hpd, by rw [upd_ne hpd]; exact e7 _ _ (e6 _ _ (e5 _ _ (e4 _ _ hp))), putNew acc (ent es a).thing (ent es a).minute, ?_, ?_, putNew_nodup nacc, upd_same⟩
          · rw [hstep]
            unfold dirtyStep
            rw [if_neg (by rw [hc.1]; decide)]
          · have := putNew_len acc (ent es a).thing (ent es a).minute
            omega
        · refine ⟨⟨_, _, _, _, rfl⟩, e05.trans e6, hpd, e6 _ _ (e5 _ _ (e4 _ _ hp)), acc, ?_, by omega, nacc, e6 _ _ (e5 _ _ (e4 _ _ hd2))⟩
          rw [hstep]
          unfold dirtyStep
          split
          · rfl
          · rename_i hcl
            have : (ent es a).thing ∈ acc.map (·.1) := by
              rw [Bool.and_eq_false_iff] at hc
              rcases hc with hc | hc
              · simp [hcl] at hc
              · simpa using hc
            unfold putNew
            rw [if_pos this]
      · obtain ⟨⟨x4, x5, x6, x7, rfl⟩, e, hpd, hp, acc, eacc, lacc, nacc, hd2⟩ := q
        rw [List.length_map, List.take_length] at eacc
        have hlen : (touchedM es y t).length ≤ 80 := Nat.le_trans (touched_sub es y t).length_le (Nat.le_trans (meetings_len es) g.len)
        rw [List.length_map] at lacc
        have k' : OutD K Tl L En H E Q (.ok (countedL (byKey acc), es)) := by
          rw [eacc]
          exact k
        refine s_retL (el_byKey hd2 nacc (by omega) (ev_var rfl) (fun _ => rfl) (fun _ _ _ => ev_var rfl) fun _ => rfl) fun p2 H5 n5 e5 h5 => OutD.ro hL' k' p2 H5 (fresh_back e n5) (e.trans e5) h5
    · rw [if_neg hs] at hv
      cases hv
  · by_cases hs : y < 1000 ∧ t < 52596000
    · rw [if_pos hs] at hn
      cases hn
    · rw [if_neg hs] at hn
      cases hn
      rw [if_pos hs] at k
      exact k
end
end St

end

section

set_option Elab.async false
set_option linter.all false
set_option maxRecDepth 100000
set_option maxHeartbeats 4000000
namespace St
open PySem PySem.Spec PyProof.Rows L2 Evl
/-! ### sorted(set(a list of numbers)) -/
def bareSet (w : World) : Obj := { cls := .type "set", dict := none, data := .set #[] 0 (.fresh 0 0 (!w.params.followText "set-order")) }
section
variable {P : Program} {w : World} {A : Around} {E : Value → Shared → Prop} {s : Shared}
theorem bare_led (a : Value) {Q₁ : Value → Shared → Prop} (h : Q₁ (.ref s.heap.objs.size) { s with heap := s.heap.push (bareSet w) }) : codeAny (model P w) A (.call (.builtin "set.__new__") ⟨[.type "set", a], []⟩) (wants Q₁ E) s := code_set_led1 a h
set_option maxHeartbeats 3200000 in
theorem set_of_list {l : Addr} {items : Array Value} (ns : List Int) {Q : Value → Shared → Prop} (hh : A.handled = none) (hl : s.heap.IsList l items) (hit : IntsAre items.toList ns) (hb : ns.length + 1 < scanBound)
    (fin : ∀ (h' : Heap) (tk c : Nat), SetR w h' s.heap.objs.size (fun j => decide (j ∈ ns)) c → c ≤ ns.length → (∀ b o, s.heap.get? b = some o → h'.get? b = some o) → Q (.ref s.heap.objs.size) { s with heap := h', toks := tk }) : wpAny (model P w) A (call (.type "set") [.ref l]) Q E s := by
  have n0 : items.size = ns.length := (Array.length_toList (xs := items)).symm.trans (IntsAre.length hit)
  obtain ⟨c, tl, hmro⟩ := F.called_set.mro
  have m1 := F.called_set.made; have m2 := F.called_set.sub
  refine wpAny_call (codeAny_of_tree (show wpAny _ _ (callAny (.type "set") _) _ _ _ from wpAny_pure ⟨Code.quiet_builtin _ (by decide +kernel), codeAny_builtin F.entry_type_call ?_⟩))
  rw [Around.under_plain (weight_type_call_type "set" [.ref l] []) rfl]
  have m3 := F.called_set.notType; have m4 := F.called_set.canCreate; have m5 := F.typeCall_set_1 (.ref l)
  repeat (any_goals (first | assumption | wp_step))

  refine codeAny_mono (bare_led (.ref l) (E := E) (Q₁ := fun obj s₁ => obj = .ref s.heap.objs.size ∧ s₁ = { s with heap := s.heap.push (bareSet w) }) ⟨rfl, rfl⟩) fun r s₁ hr => ?_
  cases r with
  | error e => exact hr
  | ok fl =>
    cases fl with
    | ret obj =>
      obtain ⟨rfl, rfl⟩ := hr
      have new0 : (s.heap.push (bareSet w)).get? s.heap.objs.size = some (bareSet w) := Heap.get?_push_size _ rfl
      have hT : Shared.TypeIs { s with heap := s.heap.push (bareSet w) } (.ref s.heap.objs.size) "set" := ⟨_, new0, rfl⟩
      have k1 := F.called_set.init.lookup; have k2 := F.called_set.init.bind (.ref s.heap.objs.size)
      repeat (any_goals (first | assumption | wp_step))

      refine codeAny_mono (codeAny_call_builtin (R := wants (fun r s₂ => r = .none ∧ ∃ h' tk c, s₂ = { s with heap := h', toks := tk } ∧ SetR w h' s.heap.objs.size (fun j => decide (j ∈ ns)) c ∧ c ≤ ns.length ∧ (∀ b o, s.heap.get? b = some o → h'.get? b = some o)) E)
        F.called_set.init.plain F.entry_set_init (check_set_init_1 hT ?_)) fun r₂ s₂ hr₂ => ?_
      · obtain ⟨⟨ocls, odict, odata, oslots⟩, hol, hcl, nl, hdl⟩ := hl
        simp only at hcl hdl
        subst hcl hdl
        have hol2 : (s.heap.push (bareSet w)).get? l = some { cls := .type "list", dict := odict, data := .seq items nl, slots := oslots } := Heap.get?_push_of_some _ hol
        have j1 := F.sub_list_set; have j2 := F.sub_list_frozenset
        have j3 : (Value.type "list" == Value.type "dict") = false := by decide
        have hl1 : (s.heap.push (bareSet w)).IsList l items := ⟨_, hol2, rfl, nl, rfl⟩
        unfold Builtin.«set.__init__» noKeywords Builtin.Frozenset.updateFrom; generalize hPI : pyIter = PI
        wp_walk
        subst hPI

        refine wpAny_pyIter_list hl1 (wpAny_bind (wpAny_runValue ?_))
        have below : l < s.heap.objs.size := Heap.lt_size hol
        have hz1 : (s.heap.push (bareSet w)).objs.size = s.heap.objs.size + 1 := Heap.size_push ..
        have d1 : l ≠ (s.heap.push (bareSet w)).objs.size := by rw [hz1]; exact Nat.ne_of_lt (Nat.lt_succ_of_lt below)
        have d2 : s.heap.objs.size ∉ [(s.heap.push (bareSet w)).objs.size, l] := by
          rw [hz1, List.mem_cons, List.mem_singleton, not_or]
          exact ⟨Nat.ne_of_lt (Nat.lt_succ_self _), Nat.ne_of_gt below⟩
        have hval : ∀ (i : Nat) (v : Value), items[i]? = some v → ∃ k t, ns[i]? = some k ∧ v = .int k t := fun i v hv => by
          have hi : i < ns.length := by have := (Array.getElem?_eq_some_iff.mp hv).1; omega
          obtain ⟨t, e⟩ := PyProof.Rows.IntsAre.int_at hit i v ((Array.getElem?_toList ..).trans hv)
          exact ⟨ns[i], t, List.getElem?_eq_getElem hi, by rw [e, List.getD_eq_getElem?_getD, List.getElem?_eq_getElem hi] <;> rfl⟩
        refine set_update_ints ((Walks.list (by simp [hh]) _ l d1 items).toS) s.heap.objs.size d2 ns n0 hb hval (items.size - 0) 0 _ (by omega) (Nat.zero_le _) ⟨⟨_, Heap.get?_push_size _ rfl, rfl, rfl⟩, (hl1.push _)⟩ ⟨0, Nat.le_refl 0, setR_new_at (Heap.get?_push_of_some _ new0)⟩ ?_
        rintro ⟨h', g2, d', tk', os'⟩ c' hm hc' hS'
        have eg : g2 = s.gens := hm.gens; have ed : d' = s.drawn := hm.drawn; have eo : os' = s.os := hm.os
        subst eg ed eo
        refine wpAny_pure ?_
        show wpAny _ _ (ret Value.none) _ _ _
        refine wpAny_pure ⟨rfl, h', tk', c', rfl, hS', by rw [← n0]; exact hc', fun b o e => hm.heap b o ?_ (Heap.get?_push_of_some _ (Heap.get?_push_of_some _ e))⟩
        have hb0 : b < s.heap.objs.size := Heap.lt_size e
        rw [hz1, List.mem_cons, List.mem_singleton, not_or]
        exact ⟨Nat.ne_of_lt hb0, Nat.ne_of_lt (Nat.lt_succ_of_lt hb0)⟩
      · cases r₂ with
        | error e => exact hr₂
        | ok fl₂ => cases fl₂ with
          | ret r =>
            obtain ⟨rfl, h', tk, c', rfl, hS', hc', hk'⟩ := hr₂
            repeat (any_goals (first | assumption | wp_step))
            exact fin _ _ _ hS' hc' hk'
          | _ => exact hr₂.elim
    | _ => exact hr.elim
theorem sort_set {a : Addr} {S : Int → Bool} {n : Nat} {Q : Value → Shared → Prop} (R : SetR w s.heap a S n) (hh : A.handled = none) (hn90 : n ≤ 90000)
    (fin : ∀ s' p (out : List Value) (c : Nat) (ns : List Int), (∀ b o, s.heap.get? b = some o → s'.heap.get? b = some o) → s'.gens = s.gens → s'.os = s.os → s.heap.objs.size ≤ p → s'.heap.get? p = some (seqObj "list" out.toArray c) → IntsAre out ns → ns.Pairwise (· ≤ ·) → ns.Nodup → (∀ k, k ∈ ns ↔ S k = true) → ns.length = n → Q (.ref p) s') :
    wpAny (model P w) A (call (.builtin "sorted") [.ref a]) Q E s := by
  obtain ⟨o, es, ep, t, ho, hex, hd, g, nd, hm, hb, hf, hn, hr, hl⟩ := R
  refine Calls.call_function_entry PyProof.Rows.kind_sorted PyProof.Rows.plain_sorted PyProof.Rows.entry_sorted (PyProof.Rows.args_sorted1 _) ?_
  unfold Builtin.«sorted»
  refine wpAny_bind (m := checkCount "sorted" 1 1 _) (wpAny_pure (wpAny_bind (collect_set (A := A.in1) hh ⟨o, ho, hex.1, hd⟩ hf hb hr hl fun s1 vs k1 hz g1 o1 pm => ?_)))
  have vn : vs.length = n := by rw [pm.length_eq, List.length_map, Array.length_toList]; exact hn
  have z90 : vs.length ≤ sizeLine := Nat.le_of_lt (sz_lt (by omega))
  have vI : IntsAre vs (vs.map Builtin.Re.reRawOf) := ints_of vs fun v hv => by
    obtain ⟨e, he, q⟩ := List.mem_map.mp (pm.mem_iff.mp hv)
    obtain ⟨k, tk, h1, _⟩ := g e he
    exact ⟨k, tk, q.symm.trans h1⟩
  have pk : (vs.map Builtin.Re.reRawOf).Perm (es.toList.map keyOf) := by have q := pm.map Builtin.Re.reRawOf; rw [List.map_map] at q; exact q
  refine wpAny_bind (wpAny_newList ?_ z90)
  have here : (s1.heap.push (seqObj "list" vs.toArray 0)).get? s1.heap.objs.size = some (seqObj "list" vs.toArray 0) := Heap.get?_push_size _ rfl
  show wpAny _ _ _ _ _ { s1 with heap := s1.heap.push (seqObj "list" vs.toArray 0) }
  refine wpAny_bind (wpAny_holding (wpAny_call_entry PyProof.Rows.slot_list_sort ⟨_, here, rfl⟩ PyProof.Rows.entry_list_sort
    (SrtO.list_sort_ord (s := { s1 with heap := s1.heap.push (seqObj "list" vs.toArray 0) }) SrtO.swo_int here z90 (fun m2 => SrtO.ints_sortable vI m2) fun out q1 q2 => ⟨_, rfl, ?_⟩) (PyProof.Rows.args_list_sort _)))
  obtain ⟨j1, j2, j3⟩ := SrtO.ints_out vI q1 q2
  obtain ⟨c, hc⟩ := PyProof.Rows.sortedHeap_at (vs := vs) (out := out.toArray) here
  have pn : (out.map SrtO.iv).Perm (es.toList.map keyOf) := j2.trans pk
  refine wpAny_pure ⟨_, rfl, fin _ s1.heap.objs.size out c (out.map SrtO.iv) (fun b u e => ?_) g1 o1 hz hc j1 j3 (pn.nodup_iff.mpr nd) (fun k => by rw [pn.mem_iff, ← hm k]) (by rw [pn.length_eq, List.length_map, Array.length_toList]; exact hn)⟩
  have q := k1 b u e
  have hlt := Heap.lt_size q
  exact (PyProof.Rows.sortedHeap_old (Nat.ne_of_lt hlt) (by rw [size_push']; exact Nat.lt_succ_of_lt hlt)).trans (Heap.get?_push_of_some _ q)
end
end St

end

section

set_option Elab.async false
set_option linter.all false
set_option maxRecDepth 100000
set_option maxHeartbeats 4000000
namespace St
open PySem PySem.Spec PyProof.Rows L2 Evl
/-- the set of ints at p -/
def setHO (w : World) (p : Addr) (S : Int → Bool) (n : Nat) : HO := .ext fun h => SetR w h p S n
/-- set(a list of ints) -/
def rSetL (w : World) (K : PySem.W.Frag) : List V → Hp → VK → Prop := fun vs H Q => ∃ (a : Addr) (ns : List Int), vs = [.ref a] ∧ SqL K H a (ns.map V.int) ∧ ns.length ≤ 4000 ∧ ∀ p c, H p = none → c ≤ ns.length → Q (.ref p) (upd H p (setHO w p (fun j => decide (j ∈ ns)) c))
def rSortS (w : World) : List V → Hp → VK → Prop := fun vs H Q => ∃ (a : Addr) (S : Int → Bool) (n : Nat), vs = [.ref a] ∧ H a = some (setHO w a S n) ∧ n ≤ 4000 ∧ ∀ (ns : List Int) (p : Addr), ns.Pairwise (· ≤ ·) → ns.Nodup → (∀ k, k ∈ ns ↔ S k = true) → H p = none → Q (.ref p) (upd H p (.lst (ns.map V.int)))
section
variable {X : Cx}
theorem cr_setL (hc : X.calm = true) : CallR X (.type "set") (rSetL X.w X.K) := by
  intro pins s σ H vs us Q I r h
  obtain ⟨a, ns, rfl, hs, hz, q⟩ := h
  obtain ⟨its, rv, hl, _⟩ := I.list hs
  rw [Vals.ref1 r]
  refine set_of_list ns (I.ok.hd hc) hl.isList (show IntsAre its.toArray.toList ns from ints_of_vals rv) (by unfold scanBound; omega) fun h' tk c R hcn k => ?_
  have new : ObjOk X.prog X.w (upd H s.heap.objs.size (setHO X.w s.heap.objs.size (fun j => decide (j ∈ ns)) c)) h' s.heap.objs.size (setHO X.w s.heap.objs.size (fun j => decide (j ∈ ns)) c) := by
    have ⟨o, _, _, _, ho, _⟩ := R
    exact ⟨R, ⟨o, ho⟩, fun h1 h2 p k => SetR.at p k⟩
  exact ⟨.ref _, upd H s.heap.objs.size (setHO X.w s.heap.objs.size (fun j => decide (j ∈ ns)) c), I.laid (t' := tk) k (Nat.le_refl _) new, rfl, q _ c (I.hok.fresh (Nat.le_refl _)) hcn⟩
theorem cr_sortS (hc : X.calm = true) : CallR X (.builtin "sorted") (rSortS X.w) := by
  intro pins s σ H vs us Q I r h
  obtain ⟨a, S, n, rfl, ha, hz, q⟩ := h
  rw [Vals.ref1 r]
  refine sort_set (I.hok a _ ha).1 (I.ok.hd hc) (by omega) fun s' p out c ns k g1 o1 hp hob hI h1 h2 h3 h4 => ?_
  obtain ⟨h', g', d', t', os'⟩ := s'
  have eg : g' = s.gens := g1
  have eo : os' = s.os := o1
  subst eg eo
  have hn : H p = none := I.hok.fresh hp
  refine ⟨.ref p, upd H p (.lst (ns.map V.int)), I.call' (ch := []) rfl (Un.laid k hp hn) (I.hok.laid k hp ⟨?_, out, c, vals_of_ints hI, hob⟩) I.bare (fun _ z => nomatch z), rfl, q ns p h1 h2 h3 hn⟩
  rw [List.length_map, h4]
  exact Nat.le_of_lt (sz_lt (by omega))
theorem wsortSet {p pos p2 pos2 : Pos} {e : Expr} {te : TE} (w : World) (K : PySem.W.Frag) (hc : X.calm = true) (hg : Gl X "sorted") (hm : X.mg "sorted" = none) (hg2 : Gl X "set") (hm2 : X.mg "set" = none) (ha : PE X e te)
    (hs2 : starEach [e] X.env = (false, eval e X.env) :: starEach [] X.env := by rfl) (hpl2 : (backTo pos2 (starEach [] X.env)).any (·.1) = false := by rfl)
    (hs : starEach [.Call (.Name "set" p2) [e] [] pos2] X.env = (false, eval (.Call (.Name "set" p2) [e] [] pos2) X.env) :: starEach [] X.env := by rfl) (hpl : (backTo pos (starEach [] X.env)).any (·.1) = false := by rfl) (hK : X.K = K := by rfl) (hw : X.w = w := by rfl) :
    PE X (.Call (.Name "sorted" p) [.Call (.Name "set" p2) [e] [] pos2] [] pos) (tCB (rSortS w) (tCons (tCB (rSetL w K) (tCons te tNil)) tNil)) := by
  subst hK hw
  exact pe_callB (cr_sortS hc) hg hm (by decide +kernel) (pa_cons (pe_callTy (cr_setL hc) hg2 hm2 (by decide +kernel) (pa_cons ha pa_nil hs2) (by decide) (by decide) hs2 hpl2) pa_nil hs) (by decide) (by decide) hs hpl
theorem el_sortSet {w : World} {K : PySem.W.Frag} {σ : L2.St} {H : Hp} {te : TE} {l ns : List Nat} (h : EvP te σ H (fun v H' => ∃ q, v = .ref q ∧ H' q = some (.lst (l.map nV)))) (hz : l.length ≤ 4000) (hs : ns.Pairwise (· < ·)) (hm : ∀ x, x ∈ ns ↔ x ∈ l) : EvL (tCB (rSortS w) (tCons (tCB (rSetL w K) (tCons te tNil)) tNil)) σ H (ns.map nV) := fun H1 e Q q =>
  h H1 e _ fun v H2 e2 ⟨a, hv, ha⟩ => ⟨a, l.map (fun (n : Nat) => (n : Int)), by rw [hv], by rw [List.map_map]; exact sq_of ha, by rw [List.length_map]; exact hz, fun p c hp hc => ⟨p, _, c, rfl, upd_same, by rw [List.length_map] at hc; omega, fun ks r h1 h2 h3 hr => by
    have ek : ks = ns.map (fun (n : Nat) => (n : Int)) := by
      have n2 : (ns.map (fun (n : Nat) => (n : Int))).Nodup := List.pairwise_map.mpr (hs.imp fun h => by omega)
      refine List.Perm.eq_of_pairwise (le := fun a b : Int => a ≤ b) (fun a b _ _ h1 h2 => by omega) h1 (List.pairwise_map.mpr (hs.imp fun h => by omega)) ((List.perm_ext_iff_of_nodup h2 n2).mpr fun x => ?_)
      rw [h3, decide_eq_true_eq, List.mem_map, List.mem_map]
      exact ⟨fun ⟨y, hy, e⟩ => ⟨y, (hm y).mpr hy, e⟩, fun ⟨y, hy, e⟩ => ⟨y, (hm y).mp hy, e⟩⟩
    subst ek
    have e3 := Ex.new (H := H2) hp (o := setHO w p (fun j => decide (j ∈ l.map (fun (n : Nat) => (n : Int)))) c)
    refine q r _ (fresh_back e2 (fresh_back e3 hr)) ((e2.trans e3).trans (Ex.new hr)) ?_
    rw [List.map_map]
    exact upd_same⟩⟩
end
end St

end

section

set_option Elab.async false
set_option linter.all false
set_option maxRecDepth 100000
set_option maxHeartbeats 4000000
namespace St
open PySem PySem.Spec PyProof.Rows L2 Evl
section
variable {K : PySem.W.Frag} {σ : L2.St} {H H' : Hp} {te tl ta tb td ty tv : TE} {g : TG} {vs : List Nat} {D : Ends} {tu tz : TS}
/-- for number, x in enumerate(a list that stands) -/
theorem s_forE {xs : List V} {a : Addr} (h : Ev te σ H (.ref a)) (hx : SqL K H a xs) (Pv : Nat → L2.St → Hp → Prop) (h0 : ∀ H1, Ex H H1 → Pv 0 σ H1) (hl : ∀ i σ' H', Pv i σ' H' → SqL K H' a xs)
    (hs : ∀ i x T σ' H', xs[i]? = some x → Pv i σ' H' → H' T = none → g (.ref T) σ' (upd H' T (.tup [.int (i : Int), x])) fun σ2 H2 => tu { D with nx := Pv (i + 1), ct := Pv (i + 1), bk := D.nx } σ2 H2) (hd : ∀ σ' H', Pv xs.length σ' H' → D.nx σ' H') :
    tFor (iEnum K (tCons te tNil)) g tu D σ H := h H (Ex.refl H) _ fun H1 e => ⟨a, xs, rfl, ex_l e hx, for_it walk_enum Pv (h0 H1 e) (fun i σ' H' _ q => hl i σ' H' q) (fun i x σ' H' H'' hi q y => by
    obtain ⟨T, v, z, rfl, hT, rfl, hv, hz⟩ := y
    cases hv
    exact hs i z T σ' H' hz q hT) hd⟩
theorem q_forE {xs : List V} {a : Addr} (h : Ev te σ H (.ref a)) (hx : SqL K H a xs) (Pv : Nat → L2.St → Hp → Prop) (h0 : ∀ H1, Ex H H1 → Pv 0 σ H1) (hl : ∀ i σ' H', Pv i σ' H' → SqL K H' a xs)
    (hs : ∀ i x T σ' H', xs[i]? = some x → Pv i σ' H' → H' T = none → g (.ref T) σ' (upd H' T (.tup [.int (i : Int), x])) fun σ2 H2 => tu { D with nx := Pv (i + 1), ct := Pv (i + 1), bk := tz D } σ2 H2) (hd : ∀ σ' H', Pv xs.length σ' H' → tz D σ' H') :
    tSeq (tFor (iEnum K (tCons te tNil)) g tu) tz D σ H := s_forE (D := { D with nx := tz D }) h hx Pv h0 hl hs hd
/-- told.update(lines that stand) -/
theorem q_updV {a b : Addr} {l m : List (Nat × Nat)} (ha : H a = some (.dT (dTk l))) (hb : H b = some (.dT (dTk m))) (hne : a ≠ b) (nd : m.Nodup) (sm : Small m) (hz : l.length + m.length ≤ 90000) (ho : Ev td σ H (.ref a)) (h : Ev ty σ H (.ref b)) (k : ∀ H1, Ex H H1 → tz D σ (upd H1 a (.dT (dTk (m.foldl dput l))))) :
    tSeq (tDrop (tDUpd td ty)) tz D σ H := ho H (Ex.refl H) _ fun H1 e1 => ⟨a, rfl, .inr ⟨_, .inl (e1 _ _ ha)⟩, h H1 e1 _ fun H2 e2 => ⟨l, m, b, rfl, (e1.trans e2) _ _ ha, (e1.trans e2) _ _ hb, hne, nd, sm, sz_of (by omega), k H2 (e1.trans e2)⟩⟩
end
theorem findsIn_ok {row : List Nat} {fs : List (Nat × Nat)} (h : findsIn row = .ok fs) : fs = twosL row ∧ fs.length ≤ 12 ∧ 1 ≤ fs.length ∧ ∀ f ∈ fs, f.1 < 1000 ∧ f.2 < 52596000 := by
  unfold findsIn at h
  split at h
  · rename_i hc
    cases h
    refine ⟨rfl, ?_, ?_, hc.2.2.2⟩
    · rw [twosL_len]; omega
    · rw [twosL_len]; omega
  · cases h
theorem three_le {a b c d e f : Int} : decide ([a, b, c] ≤ [d, e, f]) = decide (a < d ∨ (a = d ∧ (b < e ∨ (b = e ∧ c ≤ f)))) := by
  congr 1
  rw [List.cons_le_cons_iff, List.cons_le_cons_iff, List.cons_le_cons_iff]
  simp
  omega
theorem leL_le (es : Es) (p q : Nat × Nat) : leL es p q = decide ([((ent es p.1).minute : Int), (p.1 : Int), (p.2 : Int)] ≤ [((ent es q.1).minute : Int), (q.1 : Int), (q.2 : Int)]) := by
  rw [three_le]
  unfold leL
  rw [Bool.eq_iff_iff]
  simp
  omega
section
variable {P : Program} {w : World} {K : PySem.W.Frag} {mg : Str → Option Value} {base : Heap}
/-- the rows' lists -/
theorem rowAt {T En : Addr} {H : Hp} {R : Addr} {rows : List (List Nat)} (h : RowsN (L2.del (L2.del H T) En) R rows) : RowsN H R rows := h.mono ((ex_del0 (H := L2.del H T) (T := En)).trans ex_del0)
theorem RowsN.get {H : Hp} {R : Addr} {rows : List (List Nat)} (h : RowsN H R rows) {i : Nat} {r : List Nat} (hr : rows[i]? = some r) : ∃ ys t, H R = some (.lst ys) ∧ ys[i]? = some (.ref t) ∧ H t = some (.lst (r.map nV)) := by
  obtain ⟨ys, hy, pr⟩ := h
  have hi := (List.getElem?_eq_some_iff.mp hr).1
  have hl := paired_len pr
  have hyi : ys[i]? = some (ys[i]'(by omega)) := List.getElem?_eq_getElem (by omega)
  obtain ⟨t, e, ht⟩ := paired_at pr hr hyi
  exact ⟨ys, t, hy, by rw [hyi, e], ht⟩
theorem ev_row {σ : L2.St} {H : Hp} {ta : TE} {R t : Addr} {ys : List V} {i : Nat} (ha : Ev ta σ H (.ref R)) (hy : H R = some (.lst ys)) (hi : ys[i]? = some (.ref t)) : Ev (tOp (rIxL K) ta (tC (.int (i : Int)))) σ H (.ref t) := ev_ixL ha ev_c (sq_of hy) hi
abbrev N_sources : List Str := ["log", "args", "rows", "finds", "lots", "told", "lot", "minute"]
theorem sc_sources : FnScope N_sources ["log", "args", "rows"] d_sources.scope := ⟨rfl, rfl, rfl, by decide +kernel, rfl, by decide +kernel, by decide +kernel⟩
theorem ok_sources (T : Txt K mg) : Ok P w K mg base (L2.CX P w) 8 d_sources ["log", "args", "rows"] (sp_sources K) := by
  have G_finds_of : Ok P w K mg base (L2.CX P w) 5 d_finds_of ["row"] (sp_finds_of K) := ok_finds_of T
  have G_Log_all_lots : Ok P w K mg base CX0 3 d_Log_all_lots ["self"] (sp_Log_all_lots K) := ok_Log_all_lots T
  have G_Log_reaches_all : Ok P w K mg base CX0 7 d_Log_reaches_all ["self", "lot", "finds"] (sp_Log_reaches_all K) := ok_Log_reaches_all T
  refine okX T.u_sources sc_sources (fun _ _ _ _ _ _ us hl => match us, hl with | [_, _, _], _ => rfl) (fun vs H Q E h => ?_) (fun cdv A outer s H vs Q E hr h => ?_)
  · exact spD_len h
  have nd := sc_sources.nd
  refine ⟨_, (pss_cons (ps_set (i := 3) nd rfl (Or.inr rfl) (pe_call G_finds_of.f (hr.mono (by decide)) rfl T.g_finds_of G_finds_of.kp G_finds_of.b .nil (passes_call (takes_of rfl rfl rfl rfl) (fun _ _ _ _ h => h)) (pa_cons (wixL K (pv 2) pe_int) pa_nil)))
  (pss_cons (ps_set (i := 4) nd rfl (Or.inl rfl) (wsortSet w K rfl rfl T.f_sorted rfl T.f_set (pe_op op_cat (pe_meth0 (pv 0) T.c_Log T.m_Log_all_lots G_Log_all_lots.f (hr.mono (by decide)) G_Log_all_lots.b .nil pass0) (pe_lc (own := [("lot", 6), ("minute", 7)]) rfl nd (wlist K (pv 3)) (blkOk_by (N := N_sources) (sc := d_sources.scope) (by decide +kernel)) (fun _ _ _ _ _ => (wtup K (n := 2) rfl (pgs_cons (pg_name (i := 6) nd rfl (Or.inl rfl)) (pgs_cons (pg_name (i := 7) nd rfl (Or.inl rfl)) pgs_nil)))) (fun _ _ _ _ _ => pts_nil) (fun _ _ _ _ _ => (pv 6))))))
  (pss_cons (ps_setLc (i := 5) (own := [("lot", 6)]) rfl nd rfl rfl (sw_true rfl rfl rfl (by decide +kernel)) (wlist K (pv 4)) (blkOk_by (N := N_sources) (sc := d_sources.scope) (by decide +kernel)) (fun _ _ _ _ _ => (pg_name (i := 6) nd rfl (Or.inl rfl))) (fun _ _ _ _ _ => (pts_one (pt_val (pe_meth (pv 0) T.c_Log T.m_Log_reaches_all G_Log_reaches_all.f (hr.mono (by decide)) G_Log_reaches_all.b .nil pass0 (pa_cons (pv 6) (pa_cons (pv 3) pa_nil)))))) (fun _ _ _ _ _ => (pv 6)))
  (pss_one (ps_ret (pe_op op_cat (pe_lst (pa_cons (wlen K rfl T.f_len (pv 5)) pa_nil)) (pv 5))))))), ?_⟩
  obtain ⟨Tl, L, En, as, es, args, rows, A, Rw, rfl, hL', g, hA, hR, hz, ⟨_, f, rfl, rfl⟩, k⟩ := h
  have k := k _ ⟨f, rfl, rfl⟩
  have hL := hL'.mono ex_del0
  have hf100 : f.length ≤ 100 := hz.1.2 f (List.mem_cons_self ..)
  obtain ⟨ys, t, hy, hy0, ht⟩ := (rowAt hR).get (i := 0) (r := f) rfl
  unfold dSources at k
  refine q_asgXN (o := findsIn f) (ea_one (ev_row (i := 0) (ev_var rfl) hy hy0)) (fun H1 e1 => ⟨t, f, rfl, e1 _ _ ht, by omega, rfl⟩) (fun fs hfs p H1 n1 e1 hp => ?_) fun ns hn => ?_
  · rw [hfs] at k
    obtain ⟨_, hfl, _, _⟩ := findsIn_ok hfs
    obtain ⟨zs, hzs, pr⟩ := id hp
    have hal := allLots_len g
    refine q_asgL (el_sortSet (l := allLots es ++ fs.map (·.1)) (ns := TbStLog.rising (allLots es ++ fs.map (·.1))) ((EvN.p (EvL.n (el_cat (xs := (allLots es).map nV) (ys := fs.map fun f => nV f.1) (lg_methL (hL.mono e1) (ev_var rfl) (by decide +kernel) ea_nil fun H2 e2 => ⟨L, es, rfl, ⟨En, as, (hL.mono e1).mono e2, g⟩, rfl⟩)
      ((EvN.p (EvL.n (el_is (el_of (l := fs) (p := fun _ => true) (f := fun f => nV f.1) (en_lcL Stays.val (ev_var rfl) (sq_of hzs) (paired_len pr).symm (by omega) fun i a x ha hx => ?_)) (by rw [filter_yes])))).imp fun v H2 _ ⟨q, h1, h2⟩ => ⟨q, h1, h2⟩) ?_))).imp fun v H2 _ ⟨q, h1, h2⟩ => ⟨q, h1, ?_⟩) ?_ (rising_sorted _) fun x => rising_mem) fun q H2 n2 e2 hq => ?_
    · obtain ⟨t2, rfl, ht2⟩ := paired_at pr ha hx
      exact Turns.pair (st_of ht2) rfl et_yes fun _ => Ev.p (ev_var rfl) fun _ _ => rfl
    · rw [List.length_map, List.length_map]; omega
    · rw [h2, List.map_append, List.map_map]
      rfl
    · rw [List.length_append, List.length_map]; omega
    · have hrl := rising_len (allLots es ++ fs.map (·.1))
      rw [List.length_append, List.length_map] at hrl
      have e12 := e1.trans e2
      refine q_asgL (el_of (l := TbStLog.rising (allLots es ++ fs.map (·.1))) (p := fun x => reachesAll es x fs) (f := nV) (en_lcL Stays.val (ev_var rfl) (sq_of hq) (List.length_map ..) (by omega) fun i a x ha hx => ?_)) fun r H3 n3 e3 hr => ?_
      · cases map_at ha hx
        have hp2 := hp.mono e2
        exact Turns.name rfl (et_B (lg_meth (hL.mono e12) (ev_var rfl) (by decide +kernel) (ea_two (ev_var rfl) (ev_var rfl)) fun H3 e3 => ⟨L, es, a, p, fs, rfl, ⟨En, as, (hL.mono e12).mono e3, g⟩, hp2.mono e3, by omega, rfl⟩)) fun _ => Ev.p (ev_var rfl) fun _ _ => rfl
      · have hsl : (sourcesL es fs).length ≤ 1000 := by
          have := List.length_filter_le (fun x => reachesAll es x fs) (TbStLog.rising (allLots es ++ fs.map (·.1)))
          unfold sourcesL
          omega
        refine s_retL (el_is (el_cat (xs := [.int ((sourcesL es fs).length : Int)]) (ys := (sourcesL es fs).map nV) (el_lst (ea_one (ev_is (ev_len (ev_var rfl) (sq_of hr)) (by rw [List.length_map]; rfl))) (by simp)) (Ev.p (ev_var rfl) fun H4 e4 => ⟨r, rfl, e4 _ _ hr⟩) (by rw [List.length_map]; simp; omega)) ?_) fun q2 H4 n4 e4 h4 => OutD.ro hL' k q2 H4 (fresh_back (e12.trans e3) n4) ((e12.trans e3).trans e4) h4
        rw [List.map_cons, List.map_map]
        rfl
  · rw [hn] at k
    exact k
end
end St

end

section

set_option Elab.async false
set_option linter.all false
set_option maxRecDepth 100000
set_option maxHeartbeats 4000000
namespace St
open PySem PySem.Spec PyProof.Rows L2 Evl
theorem findIdx_first {α : Type} {p : α → Bool} : ∀ {l : List α} {i : Nat} {a : α}, l[i]? = some a → (∀ x ∈ l.take i, p x = false) → p a = true → l.findIdx? p = some i
  | b :: l, 0, a, h, _, hp => by
    cases h
    rw [List.findIdx?_cons, if_pos hp]
  | b :: l, i + 1, a, h, hf, hp => by
    rw [List.take_succ_cons] at hf
    rw [List.findIdx?_cons, if_neg (by rw [hf b (List.mem_cons_self ..)]; decide), findIdx_first (by simpa using h) (fun x hx => hf x (List.mem_cons_of_mem _ hx)) hp]
    rfl
theorem findIdx_none {α : Type} {p : α → Bool} {l : List α} (h : ∀ x ∈ l, p x = false) : l.findIdx? p = none := List.findIdx?_eq_none_iff.mpr fun x hx => h x hx
section
variable {P : Program} {w : World} {K : PySem.W.Frag} {mg : Str → Option Value} {base : Heap}
theorem do_args {held : List Nat} {es : Es} {x m : Nat} {ls : List (Nat × Nat)} (e : held = reached es x m ls) : ∀ i ∈ held, i < es.length := by
  subst e
  intro i hi
  have mem : ∀ (ms told : List Nat), (∀ j ∈ told, j ∈ meetings es) → (∀ j ∈ ms, j ∈ meetings es) → ∀ j ∈ ms.foldl (reachStep ls) told, j ∈ meetings es := by
    intro ms
    induction ms with
    | nil => intro told h1 _ j hj; exact h1 j hj
    | cons n ms ih =>
      intro told h1 h2 j hj
      refine ih (reachStep ls told n) (fun k hk => ?_) (fun k hk => h2 k (List.mem_cons_of_mem _ hk)) j hj
      unfold reachStep at hk
      split at hk
      · rcases dput_mem.mp hk with h | h
        · exact h1 k h
        · rw [h]; exact h2 n (List.mem_cons_self ..)
      · exact h1 k hk
  unfold reached at hi
  cases hf : firstM es x m with
  | none => rw [hf] at hi; cases hi
  | some f =>
    rw [hf] at hi
    have hfm : f ∈ meetings es := by
      unfold firstM at hf
      exact (meetingsOf_sub es x).subset (List.mem_filter.mp (List.mem_of_head? hf)).1
    exact (mem_meetings.mp (mem (meetings es) [f] (fun j hj => by rw [List.mem_singleton.mp hj]; exact hfm) (fun j hj => hj) i hi)).1
abbrev N_ask_cut : List Str := ["log", "args", "rows", "finds", "more", "thing", "minute", "number", "own", "lines", "held"]
theorem sc_ask_cut : FnScope N_ask_cut ["log", "args", "rows"] d_ask_cut.scope := ⟨rfl, rfl, rfl, by decide +kernel, rfl, by decide +kernel, by decide +kernel⟩
theorem ok_ask_cut (T : Txt K mg) : Ok P w K mg base (L2.CX P w) 6 d_ask_cut ["log", "args", "rows"] (sp_ask_cut K) := by
  have G_check_lot : Ok P w K mg base (L2.CX P w) 4 d_check_lot ["lot", "minute"] (sp_check_lot K) := ok_check_lot T
  have G_finds_of : Ok P w K mg base (L2.CX P w) 5 d_finds_of ["row"] (sp_finds_of K) := ok_finds_of T
  have G_refuse : Ok P w K mg base (L2.CX P w) 3 d_refuse ["holds", "code"] (sp_refuse K) := ok_refuse T
  have G_pairs : Ok P w K mg base CX0 1 d_pairs ["row"] (sp_pairs K) := ok_pairs T
  have G_check_thing : Ok P w K mg base (L2.CX P w) 4 d_check_thing ["thing", "minute"] (sp_check_thing K) := ok_check_thing T
  have G_Log_is_taken : Ok P w K mg base CX0 2 d_Log_is_taken ["self", "thing", "minute"] (sp_Log_is_taken K) := ok_Log_is_taken T
  have G_Refused_init : Ok P w K mg base CX0 1 d_Refused_init ["self", "numbers"] (sp_Refused_init K) := ok_Refused_init T
  have G_Log_lot_lines : Ok P w K mg base CX0 4 d_Log_lot_lines ["self"] (sp_Log_lot_lines K) := ok_Log_lot_lines T
  have G_Log_thing_lines : Ok P w K mg base CX0 3 d_Log_thing_lines ["self", "more"] (sp_Log_thing_lines K) := ok_Log_thing_lines T
  have G_Log_reached : Ok P w K mg base CX0 5 d_Log_reached ["self", "lot", "minute", "lines"] (sp_Log_reached K) := ok_Log_reached T
  have G_Log_do_reach : Ok P w K mg base CX0 2 d_Log_do_reach ["self", "lot", "held", "finds"] (sp_Log_do_reach K) := ok_Log_do_reach T
  refine okX T.u_ask_cut sc_ask_cut (fun _ _ _ _ _ _ us hl => match us, hl with | [_, _, _], _ => rfl) (fun vs H Q E h => ?_) (fun cdv A outer s H vs Q E hr h => ?_)
  · exact spD_len h
  have nd := sc_ask_cut.nd
  refine ⟨_, (pss_cons (ps_expr (pe_call G_check_lot.f (hr.mono (by decide)) rfl T.g_check_lot G_check_lot.kp G_check_lot.b .nil (passes_call (takes_of rfl rfl rfl rfl) (fun _ _ _ _ h => h)) (pa_cons (wixL K (pv 1) pe_int) (pa_cons (wixL K (pv 1) pe_int) pa_nil))))
  (pss_cons (ps_set (i := 3) nd rfl (Or.inl rfl) (pe_call G_finds_of.f (hr.mono (by decide)) rfl T.g_finds_of G_finds_of.kp G_finds_of.b .nil (passes_call (takes_of rfl rfl rfl rfl) (fun _ _ _ _ h => h)) (pa_cons (wixL K (pv 2) pe_int) pa_nil)))
  (pss_cons (ps_expr (pe_call G_refuse.f (hr.mono (by decide)) rfl T.g_refuse G_refuse.kp G_refuse.b .nil (passes_call (takes_of rfl rfl rfl rfl) (fun _ _ _ _ h => h)) (pa_cons (pe_or (pe_cmpR op_eq (pe_op op_mod (wlen K rfl T.f_len (wixL K (pv 2) pe_int)) pe_int) pe_int (nomark _)) (pe_one (pe_cmpR op_gt (wlen K rfl T.f_len (wixL K (pv 2) pe_int)) pe_int (nomark _)))) (pa_cons (pe_un un_neg pe_int) pa_nil))))
  (pss_cons (ps_set (i := 4) nd rfl (Or.inl rfl) (pe_call G_pairs.f (hr.mono (by decide)) rfl T.g_pairs G_pairs.kp G_pairs.b .nil pass0 (pa_cons (wixL K (pv 2) pe_int) pa_nil)))
  (pss_cons (ps_for (passes_of rfl) rfl (wlist K (pv 4)) (wtup K (n := 2) rfl (pgs_cons (pg_name (i := 5) nd rfl (Or.inl rfl)) (pgs_cons (pg_name (i := 6) nd rfl (Or.inl rfl)) pgs_nil))) (pss_one (ps_expr (pe_call G_check_thing.f (hr.mono (by decide)) rfl T.g_check_thing G_check_thing.kp G_check_thing.b .nil (passes_call (takes_of rfl rfl rfl rfl) (fun _ _ _ _ h => h)) (pa_cons (pv 5) (pa_cons (pv 6) pa_nil))))))
  (pss_cons (ps_for (passes_of rfl) rfl (wenum K rfl T.f_enumerate (pv 4)) (wtup K (n := 2) rfl (pgs_cons (pg_name (i := 7) nd rfl (Or.inl rfl)) (pgs_cons (pg_name (i := 8) nd rfl (Or.inl rfl)) pgs_nil))) (pss_one (ps_if (pt_val (pe_meth (pv 0) T.c_Log T.m_Log_is_taken G_Log_is_taken.f (hr.mono (by decide)) G_Log_is_taken.b .nil pass0 (pa_cons (wixT K (pv 8) pe_int) (pa_cons (wixT K (pv 8) pe_int) pa_nil)))) (pss_one (ps_raise rfl (takes_of rfl rfl rfl rfl) (pmk_oex T.oex T.iR T.tR G_Refused_init.f (hr.mono (by decide)) G_Refused_init.b .nil pass0 rfl T.g_Refused (pa_cons (pe_lst (pa_cons (pe_un un_neg pe_int) (pa_cons (pv 7) pa_nil))) pa_nil)))) pss_nil)))
  (pss_cons (ps_set (i := 9) nd rfl (Or.inl rfl) (wdict (hD_of hr) rfl T.f_dict (pe_meth0 (pv 0) T.c_Log T.m_Log_lot_lines G_Log_lot_lines.f (hr.mono (by decide)) G_Log_lot_lines.b .nil pass0)))
  (pss_cons (ps_expr (wupd (hD_of hr) (pv 9) (pe_meth (pv 0) T.c_Log T.m_Log_thing_lines G_Log_thing_lines.f (hr.mono (by decide)) G_Log_thing_lines.b .nil pass0 (pa_cons (pv 4) pa_nil)) ⟨rfl, rfl, rfl, rfl⟩))
  (pss_cons (ps_set (i := 10) nd rfl (Or.inl rfl) (pe_meth (pv 0) T.c_Log T.m_Log_reached G_Log_reached.f (hr.mono (by decide)) G_Log_reached.b .nil pass0 (pa_cons (wixL K (pv 1) pe_int) (pa_cons (wixL K (pv 1) pe_int) (pa_cons (pv 9) pa_nil)))))
  (pss_one (ps_ret (pe_lst (pa_cons (pe_ifExp (pt_val (pe_meth (pv 0) T.c_Log T.m_Log_do_reach G_Log_do_reach.f (hr.mono (by decide)) G_Log_do_reach.b .nil pass0 (pa_cons (wixL K (pv 1) pe_int) (pa_cons (pv 10) (pa_cons (pv 3) pa_nil))))) pe_int pe_int) pa_nil))))))))))))), ?_⟩
  obtain ⟨Tl, L, En, as, es, args, rows, A, Rw, rfl, hL', g, hA, hR, hz, ⟨_, y, t, f, c, rfl, rfl, rfl⟩, k⟩ := h
  have k := k _ ⟨y, t, f, c, rfl, rfl, rfl⟩
  have hL := hL'.mono ex_del0
  have hf100 : f.length ≤ 100 := hz.1.2 f (List.mem_cons_self ..)
  have hc100 : c.length ≤ 100 := hz.1.2 c (List.mem_cons_of_mem _ (List.mem_cons_self ..))
  obtain ⟨ys, tf, hy, hy0, htf⟩ := (rowAt hR).get (i := 0) (r := f) rfl
  obtain ⟨ys', tc, hy', hy1, htc⟩ := (rowAt hR).get (i := 1) (r := c) rfl
  rw [hy] at hy'
  cases hy'
  unfold dCut at k
  refine q_callX (o := if y < 1000 ∧ t < 52596000 then .ok .non else .error [-1]) (ea_two (ev_arg (i := 0) (ev_var rfl) hA rfl) (ev_arg (i := 1) (ev_var rfl) hA rfl)) (fun H1 e1 => ⟨y, t, rfl, rfl⟩) (fun v hv H1 e1 => ?_) fun ns hn => ?_
  rotate_left
  · by_cases hs : y < 1000 ∧ t < 52596000
    · rw [if_pos hs] at hn
      cases hn
    · rw [if_neg hs] at hn
      cases hn
      rw [if_pos hs] at k
      exact k
  by_cases hs : y < 1000 ∧ t < 52596000
  rotate_left
  · rw [if_neg hs] at hv
    cases hv
  rw [if_neg (by simpa using hs)] at k
  refine q_asgXN (o := findsIn f) (ea_one (ev_row (i := 0) (ev_var rfl) (e1 _ _ hy) hy0)) (fun H2 e2 => ⟨tf, f, rfl, e2 _ _ (e1 _ _ htf), by omega, rfl⟩) (fun fs hfs p H2 n2 e2 hp => ?_) fun ns hn => ?_
  rotate_left
  · rw [hn] at k
    exact k.mono e1
  rw [hfs] at k
  dsimp only at k
  obtain ⟨_, hfl, _, _⟩ := findsIn_ok hfs
  have e12 := e1.trans e2
  have hlen : ∀ (σ : L2.St), σ[2]? = some (some (.ref Rw)) → Ev (tCB (rLenS K) (tCons (tOp (rIxL K) (tVar 2) (tC (.int 1))) tNil)) σ H2 (nV c.length) := fun σ hσ => ev_is (ev_len (ev_row (i := 1) (ev_var hσ) (e12 _ _ hy) hy1) (sq_of (e12 _ _ htc))) (by rw [List.length_map])
  refine q_callX (o := if (decide (c.length % 2 = 1) || decide (60 < c.length)) = true then .error [-1] else .ok .non) (ea_two (ev_orV (ev_is (ev_op (x := .int ((c.length : Int) % 2)) (ev_op (hlen _ rfl) ev_c (rv_I (by decide))) ev_c (rv_eq rfl)) (by congr 1; simp; omega)) fun _ => ev_is (ev_gtI (hlen _ rfl) ev_c) (by congr 1; simp; omega)) (ev_un ev_c ru_neg)) (fun H3 _ => ⟨_, _, rfl, rfl⟩) (fun v hv3 H3 e3 => ?_) fun ns hn => ?_
  rotate_left
  · by_cases hb : (decide (c.length % 2 = 1) || decide (60 < c.length)) = true
    · rw [if_pos hb] at hn
      cases hn
      rw [if_pos (by simpa using hb)] at k
      exact k.mono e12
    · rw [if_neg hb] at hn
      cases hn
  have hcl : ¬ (c.length % 2 = 1 ∨ 60 < c.length) := by
    intro hb
    rw [if_pos (by simpa using hb)] at hv3
    cases hv3
  rw [if_neg hcl] at k
  have e13 := e12.trans e3
  refine q_asgN (en_callN (z := twosL c) (ea_one (ev_row (i := 1) (ev_var rfl) (e13 _ _ hy) hy1)) fun H4 e4 => ⟨tc, c, rfl, e4 _ _ (e13 _ _ htc), by omega, by omega, rfl⟩) fun q H4 n4 e4 hq => ?_
  have e14 := e13.trans e4
  obtain ⟨zs, hzs, pz⟩ := id hq
  have hzl : zs.length = c.length / 2 := by rw [← paired_len pz, twosL_len]
  have hml : (twosL c).length ≤ 30 := by rw [twosL_len]; omega
  have hp4 : PairsAt H4 p fs := (hp.mono e3).mono e4
  refine q_forL (a := q) (xs := zs) (ev_var rfl) (sq_of hzs) (fun i σ' H' => (∃ x5 x6, σ' = [some (.ref L), some (.ref A), some (.ref Rw), some (.ref p), some (.ref q), x5, x6, none, none, none, none]) ∧ Ex H4 H' ∧ ∀ s ∈ (twosL c).take i, s.1 < 20 ∧ s.2 < 52596000)
    (fun H5 e5 => ⟨⟨_, _, rfl⟩, e5, fun s hs => by simp at hs⟩) (fun i σ' H' _ z => sq_of (z.2.1 _ _ hzs)) (fun i x σ' H' hx z => ?_) fun σ' H' z => ?_
  · obtain ⟨⟨x5, x6, rfl⟩, e, hall⟩ := z
    have hil := (List.getElem?_eq_some_iff.mp hx).1
    have hlt : i < (twosL c).length := by rw [twosL_len]; omega
    have hli : (twosL c)[i]? = some (twosL c)[i] := List.getElem?_eq_getElem hlt
    generalize (twosL c)[i] = s at hli
    obtain ⟨t2, rfl, ht2⟩ := paired_at pz hli hx
    refine ⟨t2, _, rfl, st_of (e _ _ ht2), rfl, nV s.1, [nV s.2], rfl, nV s.2, [], rfl, rfl, ?_⟩
    refine s_callX (o := if s.1 < 20 ∧ s.2 < 52596000 then .ok .non else .error [-1]) (ea_two (ev_var rfl) (ev_var rfl)) (fun H5 _ => ⟨_, _, rfl, rfl⟩) (fun v hv5 H5 e5 => ?_) fun ns hn => ?_
    · refine ⟨⟨_, _, rfl⟩, e.trans e5, fun s' hs' => ?_⟩
      rw [take_snoc hli] at hs'
      rcases List.mem_append.mp hs' with h | h
      · exact hall s' h
      · rw [List.mem_singleton.mp h]
        by_cases hc : s.1 < 20 ∧ s.2 < 52596000
        · exact hc
        · rw [if_neg hc] at hv5
          cases hv5
    · by_cases hc : s.1 < 20 ∧ s.2 < 52596000
      · rw [if_pos hc] at hn
        cases hn
      · rw [if_neg hc] at hn
        cases hn
        rw [if_pos (fun h => hc (h s (List.mem_of_getElem? hli)))] at k
        exact k.mono (e14.trans e)
  · obtain ⟨⟨x5, x6, rfl⟩, e5, hall⟩ := z
    rw [List.take_of_length_le (by rw [twosL_len, hzl]; exact Nat.le_refl _)] at hall
    rw [if_neg (fun h => h hall)] at k
    refine q_forE (a := q) (xs := zs) (ev_var rfl) (sq_of (e5 _ _ hzs)) (fun i σ2 H2 => (∃ x7 x8, σ2 = [some (.ref L), some (.ref A), some (.ref Rw), some (.ref p), some (.ref q), x5, x6, x7, x8, none, none]) ∧ Ex H4 H2 ∧ ∀ s ∈ (twosL c).take i, isTaken es s.1 s.2 = false)
      (fun H6 e6 => ⟨⟨_, _, rfl⟩, e5.trans e6, fun s hs => by simp at hs⟩) (fun i σ2 H2 z => sq_of (z.2.1 _ _ hzs)) (fun i x T2 σ2 H6 hx z hT2 => ?_) fun σ2 H6 z => ?_
    · obtain ⟨⟨x7, x8, rfl⟩, e6, hall6⟩ := z
      have hil := (List.getElem?_eq_some_iff.mp hx).1
      have hlt : i < (twosL c).length := by rw [twosL_len]; omega
      have hli : (twosL c)[i]? = some (twosL c)[i] := List.getElem?_eq_getElem hlt
      generalize (twosL c)[i] = s at hli
      obtain ⟨t2, rfl, ht2⟩ := paired_at pz hli hx
      have e7 := e6.trans (Ex.new hT2 (o := .tup [.int (i : Int), .ref t2]))
      refine ⟨T2, _, rfl, st_of upd_same, rfl, .int (i : Int), [.ref t2], rfl, .ref t2, [], rfl, rfl, ?_⟩
      have hL7 := hL.mono (e14.trans e7)
      refine s_when (b := isTaken es s.1 s.2) (et_B (lg_meth hL7 (ev_var rfl) (by decide +kernel) (ea_two (ev_ixT (i := 0) (ev_var rfl) ev_c (st_of (e7 _ _ ht2)) rfl) (ev_ixT (i := 1) (ev_var rfl) ev_c (st_of (e7 _ _ ht2)) rfl)) fun H8 e8 => ⟨L, es, s.1, s.2, rfl, ⟨En, as, hL7.mono e8, g⟩, rfl⟩)) (fun hb H8 e8 => ?_) fun hb H8 e8 => ?_
      · rw [findIdx_first hli hall6 hb] at k
        dsimp only at k
        exact s_raiseR (D := ⟨fun _ _ => False, fun _ _ => False, fun _ _ => False, fun _ _ => False⟩) (ns := [-6, (i : Int)]) (el_lst (ea_two (ev_un ev_c ru_neg) (ev_var rfl)) (by simp)) (k.mono ((e14.trans e7).trans e8))
      · refine ⟨⟨_, _, rfl⟩, e7.trans e8, fun s' hs' => ?_⟩
        rw [take_snoc hli] at hs'
        rcases List.mem_append.mp hs' with h | h
        · exact hall6 s' h
        · rw [List.mem_singleton.mp h]
          exact hb
    · obtain ⟨⟨x7, x8, rfl⟩, e6, hall6⟩ := z
      rw [List.take_of_length_le (by rw [twosL_len, hzl]; exact Nat.le_refl _)] at hall6
      rw [findIdx_none hall6] at k
      dsimp only at k
      have e16 := e14.trans e6
      refine q_asgN (en_dict (lotLines_nodup es) (lotLines_small g) (lg_methN (hL.mono e16) (ev_var rfl) (by decide +kernel) ea_nil fun H7 e7 => ⟨L, es, rfl, ⟨En, as, (hL.mono e16).mono e7, g⟩, rfl⟩)) fun d H7 n7 e7 hd => ?_
      have e17 := e16.trans e7
      have hq7 : PairsAt H7 q (twosL c) := (hq.mono e6).mono e7
      refine q_upd hd (thingLines_nodup es (twosL c)) (thingLines_small g (twosL c)) ?_ (ev_var rfl) (lg_methN (hL.mono e17) (ev_var rfl) (by decide +kernel) (ea_one (ev_var rfl)) fun H8 e8 => ⟨L, es, q, twosL c, rfl, ⟨En, as, (hL.mono e17).mono e8, g⟩, hq7.mono e8, by omega, rfl⟩) fun H8 e8 => ?_
      · have h1 := small_len (lotLines_nodup es) (lotLines_small g)
        have h2 := small_len (thingLines_nodup es (twosL c)) (thingLines_small g (twosL c))
        omega
      · have nd : H d = none := fresh_back e16 n7
        have nd4 : H4 d = none := fresh_back e6 n7
        have e18 : Ex H (upd H8 d (.dT (dTk ((thingLinesL es (twosL c)).foldl dput (lotLinesL es))))) := (e17.trans e8).mut nd
        have e48 : Ex H4 (upd H8 d (.dT (dTk ((thingLinesL es (twosL c)).foldl dput (lotLinesL es))))) := ((e6.trans e7).trans e8).mut nd4
        have hL8 := hL.mono e18
        refine q_asgN (lg_methN hL8 (ev_var rfl) (by decide +kernel) (ea_three (ev_arg (i := 0) (ev_var rfl) (e18 _ _ hA) rfl) (ev_arg (i := 1) (ev_var rfl) (e18 _ _ hA) rfl) (ev_var rfl)) fun H9 e9 => ⟨L, es, y, t, d, allLines es (twosL c), rfl, ⟨En, as, hL8.mono e9, g⟩, e9 _ _ upd_same, rfl⟩) fun hh H9 n9 e9 hhd => ?_
        have e19 := e18.trans e9
        refine s_retL (el_lst (vs := [.int (if doReach es y (reached es y t (allLines es (twosL c))) fs = true then 0 else 1)]) (ea_one (ev_if (b := doReach es y (reached es y t (allLines es (twosL c))) fs) (et_B (lg_meth (hL.mono e19) (ev_var rfl) (by decide +kernel) (ea_three (ev_arg (i := 0) (ev_var rfl) (e19 _ _ hA) rfl) (ev_var rfl) (ev_var rfl)) fun H10 e10 => ⟨L, es, y, hh, _, p, fs, rfl, ⟨En, as, (hL.mono e19).mono e10, g⟩, e10 _ _ hhd, ?_, do_args rfl, ((hp4.mono e48).mono e9).mono e10, by omega, rfl⟩)) (fun hb => ev_is ev_c (by rw [if_pos hb])) fun hb => ev_is ev_c (by rw [if_neg (by rw [hb]; decide)]))) (by simp)) fun r H10 n10 e10 h10 => OutD.ro hL' k r H10 (fresh_back e19 n10) (e19.trans e10) h10
        have := reached_len g y t (allLines es (twosL c))
        omega
abbrev N_show_lines : List Str := ["log", "args", "rows", "free", "lines", "told", "line", "minute", "first", "last"]
theorem sc_show_lines : FnScope N_show_lines ["log", "args", "rows"] d_show_lines.scope := ⟨rfl, rfl, rfl, by decide +kernel, rfl, by decide +kernel, by decide +kernel⟩
theorem ok_show_lines (T : Txt K mg) : Ok P w K mg base CX0 5 d_show_lines ["log", "args", "rows"] (sp_show_lines K) := by
  have G_Log_lot_lines : Ok P w K mg base CX0 4 d_Log_lot_lines ["self"] (sp_Log_lot_lines K) := ok_Log_lot_lines T
  have G_Log_thing_lines : Ok P w K mg base CX0 3 d_Log_thing_lines ["self", "more"] (sp_Log_thing_lines K) := ok_Log_thing_lines T
  have G_counted : Ok P w K mg base CX0 1 d_counted ["rows"] (sp_counted K) := ok_counted T
  refine ok0 T.u_show_lines sc_show_lines (fun _ _ _ _ _ _ us hl => match us, hl with | [_, _, _], _ => rfl) (fun vs H Q E h => ?_) (fun cdv A outer s H vs Q E hr h => ?_)
  · exact spD_len h
  have nd := sc_show_lines.nd
  refine ⟨_, (pss_cons (ps_set (i := 3) nd rfl (Or.inr rfl) (pe_meth0 (pv 0) T.c_Log T.m_Log_lot_lines G_Log_lot_lines.f (hr.mono (by decide)) G_Log_lot_lines.b .nil pass0))
  (pss_cons (ps_set (i := 4) nd rfl (Or.inl rfl) (wdict (hD_of hr) rfl T.f_dict (pe_meth (pv 0) T.c_Log T.m_Log_thing_lines G_Log_thing_lines.f (hr.mono (by decide)) G_Log_thing_lines.b .nil pass0 (pa_cons (pe_lst pa_nil) pa_nil))))
  (pss_cons (ps_expr (wupd (hD_of hr) (pv 4) (pv 3) ⟨rfl, rfl, rfl, rfl⟩))
  (pss_cons (ps_set (i := 5) nd rfl (Or.inl rfl) (wsortT K (hD_of hr) rfl T.f_sorted (pe_free (pe_lc (own := [("line", 6)]) rfl nd (pi_keysL (pv 4)) (blkOk_by (N := N_show_lines) (sc := d_show_lines.scope) (by decide +kernel)) (fun _ _ _ _ _ => (pg_name (i := 6) nd rfl (Or.inl rfl))) (fun _ _ _ _ _ => pts_nil) (fun _ _ _ _ _ => (pe_tup (pa_cons (wfld K (wixL K (wfld K (pv 0)) (wixT K (pv 6) pe_int))) (pa_cons (wixT K (pv 6) pe_int) (pa_cons (wixT K (pv 6) pe_int) pa_nil)))))))))
  (pss_one (ps_ret (pe_call G_counted.f (hr.mono (by decide)) rfl T.g_counted G_counted.kp G_counted.b .nil pass0 (pa_cons (pe_lc (own := [("minute", 7), ("first", 8), ("last", 9)]) rfl nd (wlist K (pv 5)) (blkOk_by (N := N_show_lines) (sc := d_show_lines.scope) (by decide +kernel)) (fun _ _ _ _ _ => (wtup K (n := 3) rfl (pgs_cons (pg_name (i := 7) nd rfl (Or.inl rfl)) (pgs_cons (pg_name (i := 8) nd rfl (Or.inl rfl)) (pgs_cons (pg_name (i := 9) nd rfl (Or.inl rfl)) pgs_nil))))) (fun _ _ _ _ _ => pts_nil) (fun _ _ _ _ _ => (pe_lst (pa_cons (pv 8) (pa_cons (pv 9) (pa_cons (pe_ifExp (pt_cmp (pc_din (hu_of hr) (pe_tup (pa_cons (pv 8) (pa_cons (pv 9) pa_nil))) (pv 3)) rfl) pe_int pe_int) pa_nil)))))) pa_nil)))))))), ?_⟩
  obtain ⟨Tl, L, En, as, es, args, rows, A, Rw, rfl, hL', g, hA, hR, hz, _, k⟩ := h
  have k := k _ rfl
  have hL := hL'.mono ex_del0
  unfold dLines at k
  refine q_asgN (lg_methN hL (ev_var rfl) (by decide +kernel) ea_nil fun H1 e => ⟨L, es, rfl, ⟨En, as, hL.mono e, g⟩, rfl⟩) fun fr H1 n1 e1 hfr => ?_
  obtain ⟨dx, hobj⟩ := (hL.mono e1).obj
  refine q_asgN (en_dict (thingLines_nodup es []) (thingLines_small g []) (en_methR (ev_var rfl) hobj (lg_none (by decide +kernel)) (ar_new (EvL.n (el_lst ea_nil (by simp))) (fun p a b e h => e _ _ h) ar_nil) fun vs H2 e2 ⟨p, us, hvs, hp, hus⟩ =>
    ⟨L, es, p, [], by rw [hvs, hus], ⟨En, as, (hL.mono e1).mono e2, g⟩, ⟨[], hp, .nil⟩, by simp, rfl⟩)) fun d H2 n2 e2 hd => ?_
  have hdf : d ≠ fr := fun z => by rw [z, hfr] at n2; cases n2
  refine q_updV hd (e2 _ _ hfr) hdf (lotLines_nodup es) (lotLines_small g) ?_ (ev_var rfl) (ev_var rfl) fun H3 e3 => ?_
  · have h1 := small_len (lotLines_nodup es) (lotLines_small g)
    have h2 := small_len (thingLines_nodup es []) (thingLines_small g [])
    omega
  generalize hLL : (lotLinesL es).foldl dput (thingLinesL es []) = LL
  have nd0 : H d = none := fresh_back e1 n2
  have e03 : Ex H (upd H3 d (.dT (dTk LL))) := ((e1.trans e2).trans e3).mut nd0
  have hfr3 : (upd H3 d (.dT (dTk LL))) fr = some (.dT (dTk (lotLinesL es))) := by rw [upd_ne (Ne.symm hdf)]; exact e3 _ _ (e2 _ _ hfr)
  have hLLn : LL.Nodup := by rw [← hLL]; exact foldl_dput_nodup _ _ (thingLines_nodup es [])
  have hLLm : ∀ p ∈ LL, p.1 ∈ meetings es ∧ p.2 ∈ meetings es := fun p hp => by
    rw [← hLL, foldl_dput_mem] at hp
    rcases hp with h | h
    · exact thingLines_mem h
    · exact lotLines_mem h
  have hLLl : LL.length ≤ 6400 := small_len hLLn fun p hp => ⟨meet80 g (hLLm p hp).1, meet80 g (hLLm p hp).2⟩
  refine q_asgN (en_sortT (l := LL) (f := fun p => [((ent es p.1).minute : Int), (p.1 : Int), (p.2 : Int)]) (le := leL es) (fun _ _ => by simp) (fun p _ q _ => leL_le es p q) ((EvN.p (en_keysT (l := LL) (p := fun _ => true) (key := kk) (RA := fun p y H => ∃ t, y = .ref t ∧ H t = some (.tup [nV (ent es p.1).minute, nV p.1, nV p.2])) Stays.tup Unl.tup (ev_var rfl) upd_same (dTk_keys LL) (by omega) fun o H4 a q e4 ha hq => ?_)).imp fun v H4 e4 ⟨q, hv, ys, hy, pr⟩ => ⟨q, ys, hv, hy, by rw [filter_yes] at pr; exact pr⟩)) fun q H4 n4 e4 ⟨ys, hy, pr⟩ => ?_
  · have hi := (mem_meetings.mp (hLLm a ha).1).1
    have hL4 : LogAt K H4 L En as es := (LogAt.but (hL.mono e03) upd_same rfl).mono e4
    exact Turns.name rfl et_yes fun _ => eu_n (eu_three (ev_minute T (hL4.ent hi) (ev_ent T hL4 (ev_var rfl) (ev_ixT (i := 0) (ev_var rfl) ev_c (st_of hq) rfl) hi)) (ev_ixT (i := 0) (ev_var rfl) ev_c (st_of hq) rfl) (ev_ixT (i := 1) (ev_var rfl) ev_c (st_of hq) rfl))
  · have e04 := e03.trans e4
    refine s_retL (el_callR (ar_new (en_lcNL (l := LL.mergeSort (leL es)) (f := fun p => [nV p.1, nV p.2, .int (if p ∈ lotLinesL es then 0 else 1)]) (P := fun xs H => Paired (fun p y => ∃ t, y = .ref t ∧ H t = some (.tup [nV (ent es p.1).minute, nV p.1, nV p.2])) (LL.mergeSort (leL es)) xs)
      (Ev.p (ev_var rfl) fun H5 e5 => ⟨q, ys, rfl, e5 _ _ hy, paired_imp (fun p y ⟨t, h1, h2⟩ => ⟨t, h1, e5 _ _ h2⟩) pr⟩) (by rw [List.length_mergeSort]; omega) (fun xs H5 _ q => (paired_len q).symm) fun xs H5 i a x e5 q ha hx => ?_) (fun p a b e h => ?_) ar_nil) fun us H5 e5 ⟨p, us2, h1, ⟨zs, hzs, pz⟩, h4⟩ => ?_) fun r H6 n6 e6 h6 => OutD.ro hL' k r H6 (fresh_back e04 n6) (e04.trans e6) h6
    · obtain ⟨t, rfl, ht⟩ := paired_at q ha hx
      refine ⟨_, fun H' Q e' z => ⟨t, [nV (ent es a.1).minute, nV a.1, nV a.2], rfl, st_of (e' _ _ ht), rfl, _, _, rfl, _, _, rfl, _, _, rfl, rfl, z⟩, rfl, el_lst (ea_three (ev_var rfl) (ev_var rfl) (ev_if (b := decide (a ∈ lotLinesL es)) (et_B (ev_dinU (p := a) (eu_two (ev_var rfl) (ev_var rfl)) (ev_var rfl) (.inl (e5 _ _ (e4 _ _ hfr3))))) (fun hb => ev_is ev_c (by rw [if_pos (of_decide_eq_true hb)])) fun hb => ev_is ev_c (by rw [if_neg (of_decide_eq_false hb)]))) (by simp)⟩
    · obtain ⟨zs, hzs, pz⟩ := h
      exact ⟨zs, e _ _ hzs, paired_imp (fun a y ⟨t, h1, h2⟩ => ⟨t, h1, e _ _ h2⟩) pz⟩
    · refine ⟨p, linesShown es, by rw [h1, h4], ⟨zs, hzs, ?_⟩, ?_, fun z hz2 => ?_, rfl⟩
      · unfold linesShown
        rw [hLL]
        have pm : ∀ {ps : List (Nat × Nat)} {ys : List V}, Paired (fun (p : Nat × Nat) y => ∃ t, y = .ref t ∧ H5 t = some (.lst [nV p.1, nV p.2, .int (if p ∈ lotLinesL es then 0 else 1)])) ps ys →
            Paired (fun (z : List Int) (y : V) => ∃ t, y = .ref t ∧ H5 t = some (.lst (z.map .int))) (ps.map fun p => [(p.1 : Int), (p.2 : Int), if p ∈ lotLinesL es then 0 else 1]) ys := by
          intro ps ys r
          induction r with
          | nil => exact .nil
          | cons a b ih => exact .cons a ih
        exact pm pz
      · unfold linesShown
        rw [hLL, List.length_map, List.length_mergeSort]
        omega
      · unfold linesShown at hz2
        obtain ⟨k, _, rfl⟩ := List.mem_map.mp hz2
        simp
end
end St

end

section

set_option Elab.async false
set_option linter.all false
set_option maxRecDepth 100000
set_option maxHeartbeats 4000000
namespace St
open PySem PySem.Spec PyProof.Rows L2 Evl
section
variable {K : PySem.W.Frag} {σ : L2.St} {H H' : Hp} {te tl ta tb td ty tv : TE} {g : TG} {vs : List Nat} {D : Ends} {tu tz : TS}
theorem s_forEN {xs : List V} (h : EvL te σ H xs) (Pv : Addr → Nat → L2.St → Hp → Prop) (h0 : ∀ p H1, H p = none → Ex H H1 → H1 p = some (.lst xs) → Pv p 0 σ H1) (hl : ∀ p i σ' H', Pv p i σ' H' → SqL K H' p xs)
    (hs : ∀ p i x T σ' H', xs[i]? = some x → Pv p i σ' H' → H' T = none → g (.ref T) σ' (upd H' T (.tup [.int (i : Int), x])) fun σ2 H2 => tu { D with nx := Pv p (i + 1), ct := Pv p (i + 1), bk := D.nx } σ2 H2) (hd : ∀ p σ' H', Pv p xs.length σ' H' → D.nx σ' H') :
    tFor (iEnum K (tCons te tNil)) g tu D σ H := h H (Ex.refl H) _ fun p H1 n e hp => ⟨p, xs, rfl, sq_of hp, for_it walk_enum (Pv p) (h0 p H1 n e hp) (fun i σ' H' _ q => hl p i σ' H' q) (fun i x σ' H' H'' hi q y => by
    obtain ⟨T, v, z, rfl, hT, rfl, hv, hz⟩ := y
    cases hv
    exact hs p i z T σ' H' hz q hT) (hd p)⟩
theorem q_forEN {xs : List V} (h : EvL te σ H xs) (Pv : Addr → Nat → L2.St → Hp → Prop) (h0 : ∀ p H1, H p = none → Ex H H1 → H1 p = some (.lst xs) → Pv p 0 σ H1) (hl : ∀ p i σ' H', Pv p i σ' H' → SqL K H' p xs)
    (hs : ∀ p i x T σ' H', xs[i]? = some x → Pv p i σ' H' → H' T = none → g (.ref T) σ' (upd H' T (.tup [.int (i : Int), x])) fun σ2 H2 => tu { D with nx := Pv p (i + 1), ct := Pv p (i + 1), bk := tz D } σ2 H2) (hd : ∀ p σ' H', Pv p xs.length σ' H' → tz D σ' H') :
    tSeq (tFor (iEnum K (tCons te tNil)) g tu) tz D σ H := s_forEN (D := { D with nx := tz D }) h Pv h0 hl hs hd
theorem oV_eq {a : Nat} {o : Option Nat} : decide (nV a = oV o) = decide (o = some a) := by
  cases o with
  | none => simp [oV]
  | some b =>
    unfold oV
    by_cases h : a = b
    · subst h
      simp
    · have : ¬ b = a := fun z => h z.symm
      simp [this]
      omega
theorem oV_scal {a : Nat} {o : Option Nat} : scal (nV a) (oV o) = true := by cases o <;> rfl
theorem atI_end {l : List Nat} (h : l ≠ []) : atI (l.map nV) (-1) = some (nV (l.getLastD 0)) := by
  obtain ⟨r, b, rfl⟩ : ∃ r b, l = r ++ [b] := ⟨l.dropLast, l.getLast h, (List.dropLast_concat_getLast h).symm⟩
  rw [List.map_append]
  show atI (r.map nV ++ [nV b]) (-1) = _
  rw [atI_last]
  simp [List.getLastD_eq_getLast?]
/-- a tuple of two numbers, as data -/
def dP (p : Nat × Nat) : PyData := .tuple [.int p.1, .int p.2]
theorem dP_eqv (p q : Nat × Nat) : PyData.eqv (dP p) (dP q) = decide (p = q) := by
  unfold dP
  simp only [PyData.eqv, PyData.eqvAll]
  rw [Bool.eq_iff_iff]
  simp [Prod.ext_iff]
  omega
theorem dP_shaped (p : Nat × Nat) : SeqAt.shaped (dP p) = true := by
  unfold SeqAt.shaped dP
  simp [PyData.canLay0, PyData.canLayAll0, PyData.depth, PyData.depthAll]
theorem dPs_lay : ∀ l : List (Nat × Nat), PyData.canLayAll0 (l.map dP) = true
  | [] => by simp [PyData.canLayAll0]
  | p :: l => by
    rw [List.map_cons, PyData.canLayAll0, dPs_lay l]
    simp [dP, PyData.canLay0, PyData.canLayAll0]
theorem dPs_depth : ∀ l : List (Nat × Nat), PyData.depthAll (l.map dP) ≤ 1
  | [] => by simp [PyData.depthAll]
  | p :: l => by
    rw [List.map_cons, PyData.depthAll]
    have := dPs_depth l
    have h2 : (dP p).depth ≤ 1 := by simp [dP, PyData.depth, PyData.depthAll]
    omega
theorem dPs_shaped (l : List (Nat × Nat)) : SeqAt.shaped (.list (l.map dP)) = true := by
  unfold SeqAt.shaped
  rw [PyData.canLay0, PyData.depth, dPs_lay]
  have := dPs_depth l
  simp
  omega
theorem dp_pairs {l : List (Nat × Nat)} {ys : List V} (pr : Paired (fun (p : Nat × Nat) (y : V) => ∃ t, y = .ref t ∧ H t = some (.tup [nV p.1, nV p.2])) l ys) : DpAll K H ys (l.map dP) := by
  induction pr with
  | nil => exact .nil
  | @cons p y ps ys h t ih =>
    obtain ⟨t, rfl, ht⟩ := h
    rw [List.map_cons]
    exact .cons (.tup (st_of ht) (.cons (.int _) (.cons (.int _) .nil))) ih
/-- a line among lines -/
theorem ev_inPairs {p : Nat × Nat} {t u : Addr} {l : List (Nat × Nat)} (ha : Ev ta σ H (.ref t)) (ht : H t = some (.tup [nV p.1, nV p.2])) (hb : Ev tb σ H (.ref u)) (hu : PairsAt H u l) : Ev (tOp (rInD K) ta tb) σ H (.bl (decide (p ∈ l))) := fun H1 e Q q =>
  ha H1 e _ fun H2 e2 => hb H2 (e.trans e2) _ fun H3 e3 => by
    have e03 := (e.trans e2).trans e3
    obtain ⟨ys, hy, pr⟩ := hu.mono e03
    refine ⟨dP p, l.map dP, .tup (st_of (e03 _ _ ht)) (.cons (.int _) (.cons (.int _) .nil)), .lst (sq_of hy) (dp_pairs pr), dP_shaped p, dPs_shaped l, ?_⟩
    have : ((l.map dP).any fun z => PyData.eqv z (dP p)) = decide (p ∈ l) := by
      rw [List.any_map, Bool.eq_iff_iff, List.any_eq_true, decide_eq_true_iff]
      constructor
      · rintro ⟨x, hx, he⟩
        have he : PyData.eqv (dP x) (dP p) = true := he
        rw [dP_eqv, decide_eq_true_eq] at he
        rw [← he]
        exact hx
      · intro hm
        refine ⟨p, hm, ?_⟩
        show PyData.eqv (dP p) (dP p) = true
        rw [dP_eqv]
        simp
    rw [this]
    exact q H3 (e2.trans e3)
end
def sp_is_way (K : PySem.W.Frag) : Sp := spV fun vs H v => ∃ L es y t p fs wd way, vs = [.ref L, nV y, nV t, .ref p, .ref wd] ∧ LG K H L es ∧ PairsAt H p fs ∧ fs.length ≤ 30000 ∧ H wd = some (.lst (way.map nV)) ∧ way.length ≤ 30000 ∧ v = .bl (isWayL es y t fs way)
def sp_are_apart (K : PySem.W.Frag) : Sp := spV fun vs H v => ∃ L es R ws, vs = [.ref L, .ref R] ∧ LG K H L es ∧ RowsN H R ws ∧ ws.length ≤ 14 ∧ (∀ r ∈ ws, 1 ≤ r.length ∧ r.length ≤ 100) ∧ v = .bl (apartL es ws)
def usedAt (es : Es) (l : List (Nat × Nat)) : List (Nat × Nat) := l.filter fun p => !decide (p ∈ lotLinesL es)
section
variable {P : Program} {w : World} {K : PySem.W.Frag} {mg : Str → Option Value} {base : Heap}
abbrev N_is_way : List Str := ["log", "lot", "minute", "finds", "way", "standing", "lines", "place", "number"]
theorem sc_is_way : FnScope N_is_way ["log", "lot", "minute", "finds", "way"] d_is_way.scope := ⟨rfl, rfl, rfl, by decide +kernel, rfl, by decide +kernel, by decide +kernel⟩
theorem ok_is_way (T : Txt K mg) : Ok P w K mg base CX0 5 d_is_way ["log", "lot", "minute", "finds", "way"] (sp_is_way K) := by
  have G_Log_meetings : Ok P w K mg base CX0 2 d_Log_meetings ["self"] (sp_Log_meetings K) := ok_Log_meetings T
  have G_Log_lot_lines : Ok P w K mg base CX0 4 d_Log_lot_lines ["self"] (sp_Log_lot_lines K) := ok_Log_lot_lines T
  have G_Log_thing_lines : Ok P w K mg base CX0 3 d_Log_thing_lines ["self", "more"] (sp_Log_thing_lines K) := ok_Log_thing_lines T
  have G_Log_is_find : Ok P w K mg base CX0 1 d_Log_is_find ["self", "number", "finds"] (sp_Log_is_find K) := ok_Log_is_find T
  have G_Log_first_meeting : Ok P w K mg base CX0 4 d_Log_first_meeting ["self", "lot", "minute"] (sp_Log_first_meeting K) := ok_Log_first_meeting T
  refine ok0 T.u_is_way sc_is_way (fun _ _ _ _ _ _ us hl => match us, hl with | [_, _, _, _, _], _ => rfl) (fun vs H Q E h => ?_) (fun cdv A outer s H vs Q E hr h => ?_)
  · obtain ⟨_, ⟨_, _, _, _, _, _, _, _, rfl, _⟩, _⟩ := h
    rfl
  have nd := sc_is_way.nd
  refine ⟨_, (pss_cons (ps_set (i := 5) nd rfl (Or.inr rfl) (pe_meth0 (pv 0) T.c_Log T.m_Log_meetings G_Log_meetings.f (hr.mono (by decide)) G_Log_meetings.b .nil pass0))
  (pss_cons (ps_if (PW.pt (pw_or (pt_cmpR op_eq (wlen K rfl T.f_len (pv 4)) pe_int (nomark _)) (pw_or1 (pt_not (pt_val (wall K rfl rfl T.f_all (pe_lc (own := [("number", 8)]) rfl nd (wlist K (pv 4)) (blkOk_by (N := N_is_way) (sc := d_is_way.scope) (by decide +kernel)) (fun _ _ _ _ _ => (pg_name (i := 8) nd rfl (Or.inl rfl))) (fun _ _ _ _ _ => pts_nil) (fun _ _ _ _ _ => (winL K (pv 8) (pv 5)))))))))) (pss_one (ps_ret pe_bl)) pss_nil)
  (pss_cons (ps_set (i := 6) nd rfl (Or.inr rfl) (wdict (hD_of hr) rfl T.f_dict (pe_meth0 (pv 0) T.c_Log T.m_Log_lot_lines G_Log_lot_lines.f (hr.mono (by decide)) G_Log_lot_lines.b .nil pass0)))
  (pss_cons (ps_expr (wupd (hD_of hr) (pv 6) (pe_meth (pv 0) T.c_Log T.m_Log_thing_lines G_Log_thing_lines.f (hr.mono (by decide)) G_Log_thing_lines.b .nil pass0 (pa_cons (pe_lst pa_nil) pa_nil)) ⟨rfl, rfl, rfl, rfl⟩))
  (pss_cons (ps_if (PW.pt (pw_or (pt_cmpR op_ne (wixL K (pv 4) pe_int) (pe_meth (pv 0) T.c_Log T.m_Log_first_meeting G_Log_first_meeting.f (hr.mono (by decide)) G_Log_first_meeting.b .nil pass0 (pa_cons (pv 1) (pa_cons (pv 2) pa_nil))) (nomark _)) (pw_or1 (pt_not (pt_val (pe_meth (pv 0) T.c_Log T.m_Log_is_find G_Log_is_find.f (hr.mono (by decide)) G_Log_is_find.b .nil pass0 (pa_cons (wixL K (pv 4) (pe_un un_neg pe_int)) (pa_cons (pv 3) pa_nil)))))))) (pss_one (ps_ret pe_bl)) pss_nil)
  (pss_one (ps_ret (wall K rfl rfl T.f_all (pe_lc (own := [("place", 7)]) rfl nd (pi_range1 rfl T.f_range (pa_cons (pe_op op_sub (wlen K rfl T.f_len (pv 4)) pe_int) pa_nil)) (blkOk_by (N := N_is_way) (sc := d_is_way.scope) (by decide +kernel)) (fun _ _ _ _ _ => (pg_name (i := 7) nd rfl (Or.inl rfl))) (fun _ _ _ _ _ => pts_nil) (fun _ _ _ _ _ => (pe_cmp (pc_din (hu_of hr) (pe_tup (pa_cons (wixL K (pv 4) (pv 7)) (pa_cons (wixL K (pv 4) (pe_op op_add (pv 7) pe_int)) pa_nil))) (pv 6)) rfl))))))))))), ?_⟩
  obtain ⟨_, ⟨L, es, y, t, p, fs, wd, way, rfl, ⟨En, as, hL, g⟩, hp, hfz, hw, hwz, rfl⟩, k⟩ := h
  refine q_asgL (el_meetings hL g (ev_var rfl)) fun st H1 n1 e1 hst => ?_
  refine q_when (b := decide (way.length = 0) || !way.all fun n => decide (n ∈ meetings es)) (et_or (et_test (ev_is (ev_op (ev_len (ev_var rfl) (sq_of (e1 _ _ hw))) ev_c (rv_eq rfl)) (by rw [List.length_map]; congr 1; simp))) fun _ => et_not (et_B (ev_is (ev_all (bs := way.map fun n => decide (n ∈ meetings es)) (el_is (el_of (l := way) (p := fun _ => true) (f := fun n => .bl (decide (n ∈ meetings es)))
    (en_lcL Stays.val (ev_var rfl) (sq_of (e1 _ _ hw)) (List.length_map ..) (by omega) fun i a x ha hx => ?_)) (by rw [filter_yes, List.map_map]; rfl))) (by rw [List.all_map]; rfl)))) (fun hb H2 e2 => ?_) fun hb H2 e2 => ?_
  · cases map_at ha hx
    exact Turns.name rfl et_yes fun _ => Ev.p (ev_inN (ev_var rfl) (ev_var rfl) (sq_of hst)) fun _ _ => rfl
  · have : isWayL es y t fs way = false := by
      unfold isWayL
      cases way with
      | nil => rfl
      | cons a r =>
        have h2 : (!(a :: r).all fun n => decide (n ∈ meetings es)) = true := by simpa using hb
        rw [Bool.not_eq_true'] at h2
        show (((a :: r).all fun n => decide (n ∈ meetings es)) && _) = false
        rw [h2]
        rfl
    rw [this] at k
    exact s_ret ev_c fun H3 e3 => k H3 ((e1.trans e2).trans e3)
  · have e12 := e1.trans e2
    rw [Bool.or_eq_false_iff] at hb
    obtain ⟨hb0, hb1⟩ := hb
    have hall : ∀ n ∈ way, n ∈ meetings es := by
      rw [Bool.not_eq_false'] at hb1
      intro n hn
      simpa using List.all_eq_true.mp hb1 n hn
    have hne : way ≠ [] := fun z => by rw [z] at hb0; simp at hb0
    obtain ⟨a, r, rfl⟩ : ∃ a r, way = a :: r := by
      cases way with
      | nil => exact absurd rfl hne
      | cons a r => exact ⟨a, r, rfl⟩
    refine q_asgN (en_dict (lotLines_nodup es) (lotLines_small g) (lg_methN (hL.mono e12) (ev_var rfl) (by decide +kernel) ea_nil fun H3 e3 => ⟨L, es, rfl, ⟨En, as, (hL.mono e12).mono e3, g⟩, rfl⟩)) fun d H3 n3 e3 hd => ?_
    have e13 := e12.trans e3
    obtain ⟨dx, hobj⟩ := (hL.mono e13).obj
    refine q_upd hd (thingLines_nodup es []) (thingLines_small g []) ?_ (ev_var rfl) (en_methR (ev_var rfl) hobj (lg_none (by decide +kernel)) (ar_new (EvL.n (el_lst ea_nil (by simp))) (fun p a b e h => e _ _ h) ar_nil) fun vs H4 e4 ⟨p, us, hvs, hp, hus⟩ =>
      ⟨L, es, p, [], by rw [hvs, hus], ⟨En, as, (hL.mono e13).mono e4, g⟩, ⟨[], hp, .nil⟩, by simp, rfl⟩) fun H4 e4 => ?_
    · have h1 := small_len (lotLines_nodup es) (lotLines_small g)
      have h2 := small_len (thingLines_nodup es []) (thingLines_small g [])
      omega
    have nd : H d = none := fresh_back e12 n3
    have e14 : Ex H (upd H4 d (.dT (dTk (allLines es [])))) := (e13.trans e4).mut nd
    show _
    have hd4 : (upd H4 d (.dT (dTk (allLines es [])))) d = some (.dT (dTk (allLines es []))) := upd_same
    have hL4 := hL.mono e14
    refine q_when (b := !decide (firstM es y t = some a) || !isFind es ((a :: r).getLastD 0) fs) (et_or (et_test (ev_is (ev_op (ev_ixL (i := 0) (ev_var rfl) ev_c (sq_of (e14 _ _ hw)) rfl) (lg_meth hL4 (ev_var rfl) (by decide +kernel) (ea_two (ev_var rfl) (ev_var rfl)) fun H5 e5 => ⟨L, es, y, t, rfl, ⟨En, as, hL4.mono e5, g⟩, rfl⟩) (rv_ne oV_scal)) (by rw [oV_eq]))) fun _ => et_not (et_B (lg_meth hL4 (ev_var rfl) (by decide +kernel) (ea_two (ev_op (ev_var rfl) (ev_un ev_c ru_neg) (rv_ixL (sq_of (e14 _ _ hw)) (atI_end hne))) (ev_var rfl)) fun H5 e5 => ⟨L, es, _, p, fs, rfl, ⟨En, as, hL4.mono e5, g⟩, ?_, (hp.mono e14).mono e5, hfz, rfl⟩))) (fun hb H5 e5 => ?_) fun hb H5 e5 => ?_
    · have hm : (a :: r).getLastD 0 ∈ a :: r := by
        rw [List.getLastD_eq_getLast?, List.getLast?_eq_getLast hne]
        exact List.getLast_mem hne
      exact (mem_meetings.mp (hall _ hm)).1
    · have : isWayL es y t fs (a :: r) = false := by
        show (((a :: r).all fun n => decide (n ∈ meetings es)) && (decide (firstM es y t = some a) && (isFind es ((a :: r).getLastD 0) fs && (consec (a :: r)).all fun p => decide (p ∈ allLines es [])))) = false
        rw [Bool.or_eq_true] at hb
        rcases hb with h | h
        · rw [Bool.not_eq_true'] at h
          rw [h]
          simp
        · rw [Bool.not_eq_true'] at h
          rw [h]
          simp
      rw [this] at k
      exact s_ret ev_c fun H6 e6 => k H6 ((e14.trans e5).trans e6)
    · have e15 := e14.trans e5
      rw [Bool.or_eq_false_iff, Bool.not_eq_false', Bool.not_eq_false'] at hb
      have hv : isWayL es y t fs (a :: r) = (consec (a :: r)).all fun p => decide (p ∈ allLines es []) := by
        show (((a :: r).all fun n => decide (n ∈ meetings es)) && (decide (firstM es y t = some a) && (isFind es ((a :: r).getLastD 0) fs && (consec (a :: r)).all fun p => decide (p ∈ allLines es [])))) = _
        rw [hb.1, hb.2, List.all_eq_true.mpr fun n hn => decide_eq_true (hall n hn)]
        simp
      rw [hv] at k
      have en : (((a :: r).length : Int) - 1).toNat = (a :: r).length - 1 := by omega
      refine s_ret (v := .bl ((consec (a :: r)).all fun p => decide (p ∈ allLines es []))) (ev_is (ev_all (bs := (List.range ((a :: r).length - 1)).map fun i => decide (((a :: r).getD i 0, (a :: r).getD (i + 1) 0) ∈ allLines es [])) (el_is (el_of (l := List.range (((a :: r).length : Int) - 1).toNat) (p := fun _ => true)
        (f := fun i => .bl (decide (((a :: r).getD i 0, (a :: r).getD (i + 1) 0) ∈ allLines es []))) (en_lcR Stays.val (ea_one (ev_is (ev_op (ev_len (ev_var rfl) (sq_of (e15 _ _ hw))) ev_c rv_I0) (by rw [List.length_map]))) (by omega) (by omega) fun i hi => ?_)) (by rw [filter_yes, List.map_map, en]; rfl))) (by unfold consec; rw [List.all_map, List.all_map]; rfl)) fun H6 e6 => k H6 (e15.trans e6)
      exact Turns.name rfl et_yes fun _ => Ev.p (ev_dinU (p := ((a :: r).getD i 0, (a :: r).getD (i + 1) 0)) (eu_two (ev_ixL (i := i) (ev_var rfl) (ev_var rfl) (sq_of (e15 _ _ hw)) (by rw [List.getElem?_map, getD_at (by omega)]; rfl)) (ev_ixL (i := i + 1) (ev_var rfl) (ev_is (ev_op (ev_var rfl) ev_c rv_I0) (by simp)) (sq_of (e15 _ _ hw)) (by rw [List.getElem?_map, getD_at (by omega)]; rfl))) (ev_var rfl) (.inl (e5 _ _ hd4))) fun _ _ => rfl
theorem consec_prefix {l : List Nat} {j : Nat} {p : Nat × Nat} (h : (consec l)[j]? = some p) : (consec l).take (j + 1) = (consec l).take j ++ [p] := take_snoc h
theorem not_nodup_mid {α : Type} {a b : List α} {p : α} (h : p ∈ a) : ¬ (a ++ p :: b).Nodup := fun hn => (List.nodup_append.mp hn).2.2 p h p (List.mem_cons_self ..) rfl
theorem take_flat {ws : List (List Nat)} {i j : Nat} {wy : List Nat} {p : Nat × Nat} (hw : ws[i]? = some wy) (hp : (consec wy)[j]? = some p) : ∃ rest, ws.flatMap consec = (ws.take i).flatMap consec ++ (consec wy).take j ++ p :: rest := by
  refine ⟨(consec wy).drop (j + 1) ++ (ws.drop (i + 1)).flatMap consec, ?_⟩
  have e1 : ws = ws.take i ++ wy :: ws.drop (i + 1) := by
    obtain ⟨h1, h2⟩ := List.getElem?_eq_some_iff.mp hw
    rw [← h2, List.getElem_cons_drop, List.take_append_drop]
  have e2 : consec wy = (consec wy).take j ++ p :: (consec wy).drop (j + 1) := by
    obtain ⟨h1, h2⟩ := List.getElem?_eq_some_iff.mp hp
    rw [← h2, List.getElem_cons_drop, List.take_append_drop]
  conv => lhs; rw [e1, List.flatMap_append, List.flatMap_cons, e2]
  simp
abbrev N_are_apart : List Str := ["log", "ways", "free", "used", "way", "place", "line"]
theorem sc_are_apart : FnScope N_are_apart ["log", "ways"] d_are_apart.scope := ⟨rfl, rfl, rfl, by decide +kernel, rfl, by decide +kernel, by decide +kernel⟩
theorem ok_are_apart (T : Txt K mg) : Ok P w K mg base CX0 5 d_are_apart ["log", "ways"] (sp_are_apart K) := by
  have G_Log_lot_lines : Ok P w K mg base CX0 4 d_Log_lot_lines ["self"] (sp_Log_lot_lines K) := ok_Log_lot_lines T
  refine ok0 T.u_are_apart sc_are_apart (fun _ _ _ _ _ _ us hl => match us, hl with | [_, _], _ => rfl) (fun vs H Q E h => ?_) (fun cdv A outer s H vs Q E hr h => ?_)
  · obtain ⟨_, ⟨_, _, _, _, rfl, _⟩, _⟩ := h
    rfl
  have nd := sc_are_apart.nd
  refine ⟨_, (pss_cons (ps_set (i := 2) nd rfl (Or.inl rfl) (pe_meth0 (pv 0) T.c_Log T.m_Log_lot_lines G_Log_lot_lines.f (hr.mono (by decide)) G_Log_lot_lines.b .nil pass0))
  (pss_cons (ps_set (i := 3) nd rfl (Or.inl rfl) (pe_lst pa_nil))
  (pss_cons (ps_for PassesOwn.never rfl (wlist K (pv 1)) (pg_name (i := 4) nd rfl (Or.inl rfl)) (pss_one (ps_for PassesOwn.never rfl (pi_range1 rfl T.f_range (pa_cons (pe_op op_sub (wlen K rfl T.f_len (pv 4)) pe_int) pa_nil)) (pg_name (i := 5) nd rfl (Or.inl rfl)) (pss_cons (ps_set (i := 6) nd rfl (Or.inl rfl) (pe_tup (pa_cons (wixL K (pv 4) (pv 5)) (pa_cons (wixL K (pv 4) (pe_op op_add (pv 5) pe_int)) pa_nil))))
  (pss_one (ps_if (pt_cmp (pc_dnotin (hu_of hr) (pv 6) (pv 2)) rfl) (pss_cons (ps_if (wtinD K (hD_of hr) (pv 6) (pv 3)) (pss_one (ps_ret pe_bl)) pss_nil)
  (pss_one (ps_expr (wapp K (pv 3) (pv 6))))) pss_nil))))))
  (pss_one (ps_ret pe_bl))))), ?_⟩
  obtain ⟨_, ⟨L, es, R, ws, rfl, ⟨En, as, hL, g⟩, hR, hwz, hrz, rfl⟩, k⟩ := h
  obtain ⟨ys, hy, pr⟩ := id hR
  have hyl := paired_len pr
  refine q_asgN (lg_methN hL (ev_var rfl) (by decide +kernel) ea_nil fun H1 e => ⟨L, es, rfl, ⟨En, as, hL.mono e, g⟩, rfl⟩) fun fr H1 n1 e1 hfr => ?_
  refine q_asgL (el_lst ea_nil (by simp)) fun u H2 n2 e2 hu => ?_
  have nu : H u = none := fresh_back e1 n2
  have huf : u ≠ fr := fun z => by rw [z, hfr] at n2; cases n2
  have e02 := e1.trans e2
  refine q_forLn (a := R) (xs := ys) (ev_var rfl) (sq_of (e02 _ _ hy)) (fun i σ' H' => (∃ x4 x5 x6, σ' = [some (.ref L), some (.ref R), some (.ref fr), some (.ref u), x4, x5, x6]) ∧ Ex H H' ∧ H' fr = some (.dT (dTk (lotLinesL es))) ∧ PairsAt H' u (usedAt es ((ws.take i).flatMap consec)) ∧ (usedAt es ((ws.take i).flatMap consec)).Nodup)
    (fun H3 e3 => ⟨⟨_, _, _, rfl⟩, e02.trans e3, e3 _ _ (e2 _ _ hfr), ⟨[], e3 _ _ hu, .nil⟩, by simp [usedAt]⟩) (fun i σ' H' _ z => sq_of (z.2.1 _ _ hy)) (fun i x σ' H' hx z => ?_) fun σ' H' z => ?_
  · obtain ⟨⟨x4, x5, x6, rfl⟩, e, hfr3, hu3, hnd⟩ := z
    have hi := (List.getElem?_eq_some_iff.mp hx).1
    have hwi : ws[i]? = some (ws[i]'(by omega)) := List.getElem?_eq_getElem (by omega)
    generalize (ws[i]'(by omega)) = wy at hwi
    obtain ⟨t, rfl, ht⟩ := paired_at pr hwi hx
    obtain ⟨hw1, hw2⟩ := hrz wy (List.mem_of_getElem? hwi)
    have hflat : ∀ i, ((ws.take i).flatMap consec).length ≤ 14 * 100 := fun i => by
      have h1 := flatMap_len (f := consec) (n := 100) (l := ws.take i) fun r hr => by
        rw [consec_len]
        have := (hrz r (List.mem_of_mem_take hr)).2
        omega
      rw [List.length_take] at h1
      omega
    refine s_forR1 (n := (wy.length : Int) - 1) (ea_one (ev_is (ev_op (ev_len (ev_var rfl) (sq_of (e _ _ ht))) ev_c rv_I0) (by rw [List.length_map]))) (by omega)
      (fun j σ'' H'' => (∃ x5 x6, σ'' = [some (.ref L), some (.ref R), some (.ref fr), some (.ref u), some (.ref t), x5, x6]) ∧ Ex H H'' ∧ H'' fr = some (.dT (dTk (lotLinesL es))) ∧ PairsAt H'' u (usedAt es ((ws.take i).flatMap consec ++ (consec wy).take j)) ∧ (usedAt es ((ws.take i).flatMap consec ++ (consec wy).take j)).Nodup)
      (fun H3 e3 => ⟨⟨_, _, rfl⟩, e.trans e3, e3 _ _ hfr3, by rw [List.take_zero, List.append_nil]; exact hu3.mono e3, by rw [List.take_zero, List.append_nil]; exact hnd⟩) (fun j σ'' H'' hj z => ?_) fun σ'' H'' z => ?_
    · obtain ⟨⟨y5, y6, rfl⟩, e4, hfr4, hu4, hnd4⟩ := z
      have hj1 : j + 1 < wy.length := by omega
      have g1 : wy[j]? = some wy[j] := List.getElem?_eq_getElem (by omega)
      have g2 : wy[j + 1]? = some wy[j + 1] := List.getElem?_eq_getElem hj1
      generalize wy[j] = m1 at g1
      generalize wy[j + 1] = m2 at g2
      have hc := consec_at g1 g2
      refine q_asgU (eu_two (ev_ixL (i := j) (ev_var rfl) (ev_var rfl) (sq_of (e4 _ _ ht)) (by rw [List.getElem?_map, g1]; rfl)) (ev_ixL (i := j + 1) (ev_var rfl) (ev_is (ev_op (ev_var rfl) ev_c rv_I0) (by simp)) (sq_of (e4 _ _ ht)) (by rw [List.getElem?_map, g2]; rfl))) fun q H5 n5 e5 hq => ?_
      have hstep : usedAt es ((ws.take i).flatMap consec ++ (consec wy).take (j + 1)) = if (m1, m2) ∈ lotLinesL es then usedAt es ((ws.take i).flatMap consec ++ (consec wy).take j) else usedAt es ((ws.take i).flatMap consec ++ (consec wy).take j) ++ [(m1, m2)] := by
        rw [take_snoc hc, ← List.append_assoc]
        unfold usedAt
        rw [List.filter_append]
        by_cases hm : (m1, m2) ∈ lotLinesL es
        · rw [if_pos hm, List.filter_cons_of_neg (by simpa using hm), List.filter_nil, List.append_nil]
        · rw [if_neg hm, List.filter_cons_of_pos (by simpa using hm), List.filter_nil]
      have hlu : (usedAt es ((ws.take i).flatMap consec ++ (consec wy).take j)).length ≤ 2000 := by
        have h1 := List.length_filter_le (fun p => !decide (p ∈ lotLinesL es)) ((ws.take i).flatMap consec ++ (consec wy).take j)
        have h2 := hflat i
        rw [List.length_append, List.length_take, consec_len] at h1
        unfold usedAt
        omega
      refine s_when (b := !decide ((m1, m2) ∈ lotLinesL es)) (et_B (ev_dniT (p := (m1, m2)) (ev_var rfl) hq (ev_var rfl) (.inl (e5 _ _ hfr4)))) (fun hb H6 e6 => ?_) fun hb H6 e6 => ?_
      · have hm : (m1, m2) ∉ lotLinesL es := by simpa using hb
        rw [if_neg hm] at hstep
        have hu6 := (hu4.mono e5).mono e6
        refine q_when (b := decide ((m1, m2) ∈ usedAt es ((ws.take i).flatMap consec ++ (consec wy).take j))) (et_test (ev_inPairs (p := (m1, m2)) (ev_var rfl) (e6 _ _ hq) (ev_var rfl) hu6)) (fun hd H7 e7 => ?_) fun hd H7 e7 => ?_
        · have : apartL es ws = false := by
            unfold apartL usedL
            refine decide_eq_false ?_
            obtain ⟨rest, hr⟩ := take_flat hwi hc
            rw [hr, List.filter_append, List.filter_cons_of_pos (by simpa using hm)]
            exact not_nodup_mid (of_decide_eq_true hd)
          rw [this] at k
          exact s_ret ev_c fun H8 e8 => k H8 ((((e4.trans e5).trans e6).trans e7).trans e8)
        · obtain ⟨zs, hzs, pz⟩ := hu6.mono e7
          refine s_app hzs (ev_var rfl) (ev_var rfl) (by rw [← paired_len pz]; omega) fun H8 e8 => ⟨⟨_, _, rfl⟩, ((((e4.trans e5).trans e6).trans e7).trans e8).mut nu, by rw [upd_ne (Ne.symm huf)]; exact e8 _ _ (e7 _ _ (e6 _ _ (e5 _ _ hfr4))), ?_, ?_⟩
          · rw [hstep]
            refine ⟨_, upd_same, paired_snoc (paired_imp (fun a y ⟨t2, h1, h2⟩ => ⟨t2, h1, ?_⟩) pz) ⟨q, rfl, ?_⟩⟩
            · rw [upd_ne (ne_of (e7 _ _ (e6 _ _ hq)) hzs (by intro z; cases z))]
              exact e8 _ _ (e7 _ _ (e6 _ _ hq))
            · rw [upd_ne (ne_of h2 hzs (by intro z; cases z))]
              exact e8 _ _ h2
          · rw [hstep]
            refine List.nodup_append.mpr ⟨hnd4, by simp, fun a ha b hb z => ?_⟩
            rw [List.mem_singleton.mp hb] at z
            rw [z] at ha
            exact absurd ha (of_decide_eq_false hd)
      · have hm : (m1, m2) ∈ lotLinesL es := by simpa using hb
        rw [if_pos hm] at hstep
        refine ⟨⟨_, _, rfl⟩, (e4.trans e5).trans e6, e6 _ _ (e5 _ _ hfr4), ?_, ?_⟩
        · rw [hstep]
          exact (hu4.mono e5).mono e6
        · rw [hstep]
          exact hnd4
    · obtain ⟨⟨y5, y6, rfl⟩, e4, hfr4, hu4, hnd4⟩ := z
      rw [show (consec wy).take ((wy.length : Int) - 1).toNat = consec wy from List.take_of_length_le (by rw [consec_len]; omega)] at hu4 hnd4
      refine ⟨⟨_, _, _, rfl⟩, e4, hfr4, ?_, ?_⟩
      · rw [flatMap_take hwi]
        exact hu4
      · rw [flatMap_take hwi]
        exact hnd4
  · obtain ⟨⟨x4, x5, x6, rfl⟩, e, hfr3, hu3, hnd⟩ := z
    rw [← hyl, List.take_length] at hnd
    have : apartL es ws = true := decide_eq_true hnd
    rw [this] at k
    exact s_ret ev_c fun H4 e4 => k H4 (e.trans e4)
abbrev N_apart : List Str := ["log", "args", "rows", "finds", "number", "way"]
theorem sc_apart : FnScope N_apart ["log", "args", "rows"] d_apart.scope := ⟨rfl, rfl, rfl, by decide +kernel, rfl, by decide +kernel, by decide +kernel⟩
theorem ok_apart (T : Txt K mg) : Ok P w K mg base (L2.CX P w) 6 d_apart ["log", "args", "rows"] (sp_apart K) := by
  have G_check_lot : Ok P w K mg base (L2.CX P w) 4 d_check_lot ["lot", "minute"] (sp_check_lot K) := ok_check_lot T
  have G_finds_of : Ok P w K mg base (L2.CX P w) 5 d_finds_of ["row"] (sp_finds_of K) := ok_finds_of T
  have G_is_way : Ok P w K mg base CX0 5 d_is_way ["log", "lot", "minute", "finds", "way"] (sp_is_way K) := ok_is_way T
  have G_Refused_init : Ok P w K mg base CX0 1 d_Refused_init ["self", "numbers"] (sp_Refused_init K) := ok_Refused_init T
  have G_are_apart : Ok P w K mg base CX0 5 d_are_apart ["log", "ways"] (sp_are_apart K) := ok_are_apart T
  refine okX T.u_apart sc_apart (fun _ _ _ _ _ _ us hl => match us, hl with | [_, _, _], _ => rfl) (fun vs H Q E h => ?_) (fun cdv A outer s H vs Q E hr h => ?_)
  · exact spD_len h
  have nd := sc_apart.nd
  refine ⟨_, (pss_cons (ps_expr (pe_call G_check_lot.f (hr.mono (by decide)) rfl T.g_check_lot G_check_lot.kp G_check_lot.b .nil (passes_call (takes_of rfl rfl rfl rfl) (fun _ _ _ _ h => h)) (pa_cons (wixL K (pv 1) pe_int) (pa_cons (wixL K (pv 1) pe_int) pa_nil))))
  (pss_cons (ps_set (i := 3) nd rfl (Or.inl rfl) (pe_call G_finds_of.f (hr.mono (by decide)) rfl T.g_finds_of G_finds_of.kp G_finds_of.b .nil (passes_call (takes_of rfl rfl rfl rfl) (fun _ _ _ _ h => h)) (pa_cons (wixL K (pv 2) pe_int) pa_nil)))
  (pss_cons (ps_for (passes_of rfl) rfl (wenum K rfl T.f_enumerate (wsl K (pv 2) (po_some pe_int) po_none)) (wtup K (n := 2) rfl (pgs_cons (pg_name (i := 4) nd rfl (Or.inl rfl)) (pgs_cons (pg_name (i := 5) nd rfl (Or.inl rfl)) pgs_nil))) (pss_one (ps_if (pt_not (pt_val (pe_call G_is_way.f (hr.mono (by decide)) rfl T.g_is_way G_is_way.kp G_is_way.b .nil pass0 (pa_cons (pv 0) (pa_cons (wixL K (pv 1) pe_int) (pa_cons (wixL K (pv 1) pe_int) (pa_cons (pv 3) (pa_cons (pv 5) pa_nil)))))))) (pss_one (ps_raise rfl (takes_of rfl rfl rfl rfl) (pmk_oex T.oex T.iR T.tR G_Refused_init.f (hr.mono (by decide)) G_Refused_init.b .nil pass0 rfl T.g_Refused (pa_cons (pe_lst (pa_cons (pe_un un_neg pe_int) (pa_cons (pv 4) pa_nil))) pa_nil)))) pss_nil)))
  (pss_one (ps_ret (pe_lst (pa_cons (pe_ifExp (pt_val (pe_call G_are_apart.f (hr.mono (by decide)) rfl T.g_are_apart G_are_apart.kp G_are_apart.b .nil pass0 (pa_cons (pv 0) (pa_cons (wsl K (pv 2) (po_some pe_int) po_none) pa_nil)))) pe_int pe_int) pa_nil))))))), ?_⟩
  obtain ⟨Tl, L, En, as, es, args, rows, A, Rw, rfl, hL', g, hA, hR, hz, ⟨_, y, t, f, ws, rfl, rfl, rfl⟩, k⟩ := h
  have k := k _ ⟨y, t, f, ws, rfl, rfl, rfl⟩
  have hL := hL'.mono ex_del0
  have hf100 : f.length ≤ 100 := hz.1.2 f (List.mem_cons_self ..)
  have hwl : ws.length ≤ 14 := by have := hz.1.1; rw [List.length_cons] at this; omega
  have hw100 : ∀ r ∈ ws, r.length ≤ 100 := fun r hr => hz.1.2 r (List.mem_cons_of_mem _ hr)
  obtain ⟨ys, tf, hy, hy0, htf⟩ := (rowAt hR).get (i := 0) (r := f) rfl
  obtain ⟨ys', hy', pr⟩ := rowAt hR
  rw [hy] at hy'
  cases hy'
  obtain ⟨y0, yr, rfl⟩ : ∃ y0 yr, ys = y0 :: yr := by
    cases pr with
    | cons a b => exact ⟨_, _, rfl⟩
  have prw : Paired (fun (z : List Nat) (y : V) => ∃ t, y = .ref t ∧ H t = some (.lst (z.map nV))) ws yr := by
    cases pr with
    | cons a b => exact b
  have hyl := paired_len prw
  have cut1 : cutV (y0 :: yr) (some 1) none = yr := by
    unfold cutV
    simp [HT.sIx]
  unfold dApart at k
  refine q_callX (o := if y < 1000 ∧ t < 52596000 then .ok .non else .error [-1]) (ea_two (ev_arg (i := 0) (ev_var rfl) hA rfl) (ev_arg (i := 1) (ev_var rfl) hA rfl)) (fun H1 e1 => ⟨y, t, rfl, rfl⟩) (fun v hv H1 e1 => ?_) fun ns hn => ?_
  rotate_left
  · by_cases hs : y < 1000 ∧ t < 52596000
    · rw [if_pos hs] at hn
      cases hn
    · rw [if_neg hs] at hn
      cases hn
      rw [if_pos hs] at k
      exact k
  by_cases hs : y < 1000 ∧ t < 52596000
  rotate_left
  · rw [if_neg hs] at hv
    cases hv
  rw [if_neg (by simpa using hs)] at k
  refine q_asgXN (o := findsIn f) (ea_one (ev_row (i := 0) (ev_var rfl) (e1 _ _ hy) hy0)) (fun H2 e2 => ⟨tf, f, rfl, e2 _ _ (e1 _ _ htf), by omega, rfl⟩) (fun fs hfs p H2 n2 e2 hp => ?_) fun ns hn => ?_
  rotate_left
  · rw [hn] at k
    exact k.mono e1
  rw [hfs] at k
  dsimp only at k
  obtain ⟨_, hfl, _, _⟩ := findsIn_ok hfs
  have e12 := e1.trans e2
  refine q_forEN (xs := yr) (el_is (el_sl (ev_var rfl) (eo_some ev_c) eo_none (sq_of (e12 _ _ hy))) cut1) (fun q i σ' H' => (∃ x4 x5, σ' = [some (.ref L), some (.ref A), some (.ref Rw), some (.ref p), x4, x5]) ∧ Ex H2 H' ∧ H' q = some (.lst yr) ∧ ∀ r ∈ ws.take i, isWayL es y t fs r = true)
    (fun q H3 n3 e3 h3 => ⟨⟨_, _, rfl⟩, e3, h3, fun r hr => by simp at hr⟩) (fun q i σ' H' z => sq_of z.2.2.1) (fun q i x T2 σ' H' hx z hT2 => ?_) fun q σ' H' z => ?_
  · obtain ⟨⟨x4, x5, rfl⟩, e, hq, hall⟩ := z
    have hi := (List.getElem?_eq_some_iff.mp hx).1
    have hwi : ws[i]? = some (ws[i]'(by omega)) := List.getElem?_eq_getElem (by omega)
    generalize (ws[i]'(by omega)) = wy at hwi
    obtain ⟨tw, rfl, htw⟩ := paired_at prw hwi hx
    have e7 := e.trans (Ex.new hT2 (o := .tup [.int (i : Int), .ref tw]))
    have e07 := e12.trans e7
    refine ⟨T2, _, rfl, st_of upd_same, rfl, .int (i : Int), [.ref tw], rfl, .ref tw, [], rfl, rfl, ?_⟩
    have hwy := hw100 wy (List.mem_of_getElem? hwi)
    refine s_when (b := !isWayL es y t fs wy) (et_not (et_B (ev_callV (ea_cons (ev_var rfl) (ea_cons (ev_arg (i := 0) (ev_var rfl) (e07 _ _ hA) rfl) (ea_three (ev_arg (i := 1) (ev_var rfl) (e07 _ _ hA) rfl) (ev_var rfl) (ev_var rfl)))) fun H8 e8 => ⟨L, es, y, t, p, fs, tw, wy, rfl, ⟨En, as, (hL.mono e07).mono e8, g⟩, (hp.mono e7).mono e8, by omega, e8 _ _ (e07 _ _ htw), by omega, rfl⟩))) (fun hb H8 e8 => ?_) fun hb H8 e8 => ?_
    · rw [findIdx_first (p := fun w => !isWayL es y t fs w) hwi (fun r hr => by rw [hall r hr]; rfl) hb] at k
      dsimp only at k
      exact s_raiseR (D := ⟨fun _ _ => False, fun _ _ => False, fun _ _ => False, fun _ _ => False⟩) (ns := [-13, (i : Int)]) (el_lst (ea_two (ev_un ev_c ru_neg) (ev_var rfl)) (by simp)) (k.mono (e07.trans e8))
    · refine ⟨⟨_, _, rfl⟩, e7.trans e8, e8 _ _ (Ex.new hT2 _ _ hq), fun r hr => ?_⟩
      rw [take_snoc hwi] at hr
      rcases List.mem_append.mp hr with h | h
      · exact hall r h
      · rw [List.mem_singleton.mp h]
        simpa using hb
  · obtain ⟨⟨x4, x5, rfl⟩, e, hq, hall⟩ := z
    rw [← hyl, List.take_length] at hall
    rw [findIdx_none (p := fun w => !isWayL es y t fs w) (fun r hr => by rw [hall r hr]; rfl)] at k
    dsimp only at k
    have e07 := e12.trans e
    refine s_retL (el_lst (vs := [.int (if apartL es ws = true then 1 else 0)]) (ea_one (ev_if (b := apartL es ws) (et_B ?_) (fun hb => ev_is ev_c (by rw [if_pos hb])) fun hb => ev_is ev_c (by rw [if_neg (by rw [hb]; decide)]))) (by simp)) fun r H10 n10 e10 h10 => OutD.ro hL' k r H10 (fresh_back e07 n10) (e07.trans e10) h10
    intro H8 e8 Q q
    refine (ar_cons (x := .ref L) (ev_var rfl) (ar_new (EvL.n (el_is (el_sl (ev_var rfl) (eo_some ev_c) eo_none (sq_of (e07 _ _ hy))) cut1)) (fun p a b e h => e _ _ h) ar_nil)) H8 e8 _ fun vs H9 e9 ⟨us, hvs, q2, us2, hus, hq2, hus2⟩ => ⟨.bl (apartL es ws), ?_, fun H11 e11 => q H11 (e9.trans e11)⟩
    have e09 := (e07.trans e8).trans e9
    refine ⟨L, es, q2, ws, by rw [hvs, hus, hus2]; rfl, ⟨En, as, hL.mono e09, g⟩, ⟨yr, hq2, paired_imp (fun a y ⟨t2, h1, h2⟩ => ⟨t2, h1, e09 _ _ h2⟩) prw⟩, hwl, fun r hr => ⟨?_, hw100 r hr⟩, rfl⟩
    have := hall r hr
    cases r with
    | nil => cases this
    | cons a r => simp
end
end St

end

section

/-! The plain law, part 3: steps along lines and back. -/
namespace St
open TbStLog
abbrev Ln := Nat × Nat
/-- lines with how often they're gone along -/
abbrev Us := List (Ln × Int)
abbrev Step := Nat × Ln × Int
def usedOf (U : Us) (l : Ln) : Int := (U.lookup l).getD 0
def followL (free single : List Ln) (U : Us) (here : Nat) : List Step :=
  (free.filter fun l => decide (l.1 = here)).map (fun l => (l.2, l, (1 : Int))) ++ (single.filter fun l => decide (l.1 = here) && decide (usedOf U l = 0)).map (fun l => (l.2, l, (1 : Int))) ++
  (U.filter fun u => decide (u.1.2 = here) && decide (0 < u.2)).map (fun u => (u.1.1, u.1, (-1 : Int)))
/-- who came from where -/
abbrev Came := Nat × Option Step
structure RchP (free single : List Ln) (U : Us) (first : Nat) (rows : List Came) : Prop where
  head : rows[0]? = some (first, none)
  nd : (rows.map (·.1)).Nodup
  came : ∀ (i n p : Nat) (l : Ln) (d : Int), rows[i]? = some (n, some (p, l, d)) → ∃ (j : Nat) (c : Option Step), j < i ∧ rows[j]? = some (p, c) ∧ (n, l, d) ∈ followL free single U p
  only : ∀ (i n : Nat), rows[i]? = some (n, none) → i = 0
  small : ∀ r ∈ rows, r.1 < 80
/-- .. and none is left out -/
def Closed (free single : List Ln) (U : Us) (rows : List Came) : Prop := ∀ r ∈ rows, ∀ s ∈ followL free single U r.1, s.1 ∈ rows.map (·.1)
/-- a dict of counts is written -/
def uput (U : Us) (l : Ln) (c : Int) : Us := if l ∈ U.map (·.1) then U.map fun u => if u.1 = l then (u.1, c) else u else U ++ [(l, c)]
theorem usedOf_cons (p : Ln × Int) (r : Us) (m : Ln) : usedOf (p :: r) m = if m = p.1 then p.2 else usedOf r m := by
  obtain ⟨k, v⟩ := p
  by_cases h : m = k
  · subst h
    simp [usedOf, List.lookup]
  · have : (m == k) = false := by simpa using h
    simp [usedOf, List.lookup, this, h]
theorem usedOf_out {U : Us} {l : Ln} (h : l ∉ U.map (·.1)) : usedOf U l = 0 := by
  induction U with
  | nil => rfl
  | cons p r ih =>
    rw [List.map_cons, List.mem_cons, not_or] at h
    rw [usedOf_cons, if_neg h.1, ih h.2]
theorem uput_of (U : Us) (l m : Ln) (c : Int) : usedOf (uput U l c) m = if m = l then c else usedOf U m := by
  unfold uput
  by_cases h : l ∈ U.map (·.1)
  · rw [if_pos h]
    induction U with
    | nil => cases h
    | cons p r ih =>
      rw [List.map_cons, usedOf_cons, usedOf_cons]
      by_cases hp : p.1 = l
      · rw [if_pos hp]
        by_cases hm : m = l
        · rw [if_pos (hm.trans hp.symm), if_pos hm]
        · rw [if_neg (fun z => hm (z.trans hp)), if_neg hm, if_neg (fun z => hm (z.trans hp))]
          by_cases hr : l ∈ r.map (·.1)
          · rw [ih hr, if_neg hm]
          · have : (r.map fun u => if u.1 = l then (u.1, c) else u) = r := by
              conv => rhs; rw [← List.map_id r]
              refine List.map_congr_left fun u hu => ?_
              rw [if_neg (fun z => hr (List.mem_map.mpr ⟨u, hu, z⟩))]
              rfl
            rw [this]
      · rw [if_neg hp]
        have hr : l ∈ r.map (·.1) := by
          rw [List.map_cons] at h
          exact (List.mem_cons.mp h).resolve_left fun z => hp z.symm
        by_cases hm : m = p.1
        · rw [if_pos hm, if_pos hm, if_neg (fun z => hp (hm.symm.trans z))]
        · rw [if_neg hm, if_neg hm, ih hr]
  · rw [if_neg h]
    induction U with
    | nil =>
      rw [List.nil_append, usedOf_cons]
    | cons p r ih =>
      rw [List.map_cons, List.mem_cons, not_or] at h
      rw [List.cons_append, usedOf_cons, usedOf_cons, ih h.2]
      by_cases hm : m = p.1
      · rw [if_pos hm, if_neg (fun z => h.1 (z.symm.trans hm)), if_pos hm]
      · rw [if_neg hm, if_neg hm]
theorem uput_map (U : Us) (l : Ln) (c : Int) : (uput U l c).map (·.1) = if l ∈ U.map (·.1) then U.map (·.1) else U.map (·.1) ++ [l] := by
  unfold uput
  split
  · rw [List.map_map]
    refine List.map_congr_left fun u _ => ?_
    show (if u.1 = l then (u.1, c) else u).1 = u.1
    split <;> rfl
  · rw [List.map_append]
    rfl
theorem uput_keys (U : Us) (l : Ln) (c : Int) (m : Ln) : m ∈ (uput U l c).map (·.1) ↔ m ∈ U.map (·.1) ∨ m = l := by
  rw [uput_map]
  split
  · rename_i h
    exact ⟨Or.inl, fun z => z.elim id fun e => by rw [e]; exact h⟩
  · rw [List.mem_append, List.mem_singleton]
theorem uput_nodup (U : Us) (l : Ln) (c : Int) (h : (U.map (·.1)).Nodup) : ((uput U l c).map (·.1)).Nodup := by
  rw [uput_map]
  split
  · exact h
  · rename_i hl
    refine List.nodup_append.mpr ⟨h, by simp, fun a ha b hb z => hl ?_⟩
    rw [← List.mem_singleton.mp hb, ← z]
    exact ha
theorem uput_len (U : Us) (l : Ln) (c : Int) : (uput U l c).length ≤ U.length + 1 := by
  unfold uput
  split
  · rw [List.length_map]; omega
  · simp
/-- the flow out of a set -/
def flow (U : Us) (S : Nat → Bool) : Int := (U.map fun u => u.2 * ((if S u.1.1 = true then 1 else 0) - (if S u.1.2 = true then 1 else 0))).sum
theorem flow_cons (p : Ln × Int) (r : Us) (S : Nat → Bool) : flow (p :: r) S = p.2 * ((if S p.1.1 = true then 1 else 0) - (if S p.1.2 = true then 1 else 0)) + flow r S := by
  unfold flow
  rw [List.map_cons, List.sum_cons]
theorem flow_app (U V : Us) (S : Nat → Bool) : flow (U ++ V) S = flow U S + flow V S := by
  unfold flow
  rw [List.map_append, List.sum_append]
theorem flow_map {U : Us} {l : Ln} {c : Int} (S : Nat → Bool) (h : (U.map (·.1)).Nodup) (hl : l ∈ U.map (·.1)) : flow (U.map fun u => if u.1 = l then (u.1, c) else u) S = flow U S + (c - usedOf U l) * ((if S l.1 = true then 1 else 0) - (if S l.2 = true then 1 else 0)) := by
  induction U with
  | nil => cases hl
  | cons p r ih =>
    rw [List.map_cons, List.nodup_cons] at h
    rw [List.map_cons, flow_cons, flow_cons, usedOf_cons]
    by_cases hp : p.1 = l
    · rw [if_pos hp, if_pos hp.symm]
      have : (r.map fun u => if u.1 = l then (u.1, c) else u) = r := by
        conv => rhs; rw [← List.map_id r]
        refine List.map_congr_left fun u hu => ?_
        rw [if_neg (fun z => h.1 (by rw [hp, ← z]; exact List.mem_map.mpr ⟨u, hu, rfl⟩))]
        rfl
      rw [this, ← hp]
      show c * ((if S p.1.1 = true then 1 else 0) - (if S p.1.2 = true then 1 else 0)) + flow r S = _
      rw [Int.sub_mul]
      omega
    · have hr : l ∈ r.map (·.1) := by
        rw [List.map_cons] at hl
        exact (List.mem_cons.mp hl).resolve_left fun z => hp z.symm
      rw [if_neg hp, if_neg (show ¬ l = p.1 from fun z => hp z.symm), ih h.2 hr]
      omega
theorem flow_uput (U : Us) (l : Ln) (d : Int) (S : Nat → Bool) (h : (U.map (·.1)).Nodup) : flow (uput U l (usedOf U l + d)) S = flow U S + d * ((if S l.1 = true then 1 else 0) - (if S l.2 = true then 1 else 0)) := by
  unfold uput
  split
  · rename_i hl
    rw [flow_map S h hl, show usedOf U l + d - usedOf U l = d by omega]
  · rename_i hl
    rw [flow_app, usedOf_out hl, Int.zero_add, flow_cons]
    simp [flow]
/-- what the ways are: never less than none, a single line once at the most, as much goes out of every set that parts first from the finds -/
structure FlowP (free single : List Ln) (first : Nat) (isEnd : Nat → Bool) (U : Us) (count : Int) : Prop where
  nd : (U.map (·.1)).Nodup
  keys : ∀ l ∈ U.map (·.1), l ∈ free ∨ l ∈ single
  low : ∀ l, 0 ≤ usedOf U l
  one : ∀ l ∈ single, usedOf U l ≤ 1
  sum : ∀ S : Nat → Bool, S first = true → (∀ n, isEnd n = true → S n = false) → flow U S = count
end St
namespace St
open TbStLog
theorem follow_mem {free single : List Ln} {U : Us} {here n : Nat} {l : Ln} {d : Int} : (n, l, d) ∈ followL free single U here ↔ (l ∈ free ∧ l.1 = here ∧ n = l.2 ∧ d = 1) ∨ (l ∈ single ∧ l.1 = here ∧ usedOf U l = 0 ∧ n = l.2 ∧ d = 1) ∨ ∃ c, (l, c) ∈ U ∧ l.2 = here ∧ 0 < c ∧ n = l.1 ∧ d = -1 := by
  unfold followL
  rw [List.mem_append, List.mem_append, List.mem_map, List.mem_map, List.mem_map]
  constructor
  · rintro ((⟨a, ha, e⟩ | ⟨a, ha, e⟩) | ⟨u, hu, e⟩)
    · rw [List.mem_filter] at ha
      simp only [Prod.mk.injEq] at e
      obtain ⟨rfl, rfl, rfl⟩ := e
      exact .inl ⟨ha.1, by simpa using ha.2, rfl, rfl⟩
    · rw [List.mem_filter, Bool.and_eq_true] at ha
      simp only [Prod.mk.injEq] at e
      obtain ⟨rfl, rfl, rfl⟩ := e
      exact .inr (.inl ⟨ha.1, by simpa using ha.2.1, by simpa using ha.2.2, rfl, rfl⟩)
    · rw [List.mem_filter, Bool.and_eq_true] at hu
      obtain ⟨k, c⟩ := u
      simp only [Prod.mk.injEq] at e
      obtain ⟨rfl, rfl, rfl⟩ := e
      exact .inr (.inr ⟨c, hu.1, by simpa using hu.2.1, by simpa using hu.2.2, rfl, rfl⟩)
  · rintro (⟨h1, h2, h3, h4⟩ | ⟨h1, h2, h3, h4, h5⟩ | ⟨c, h1, h2, h3, h4, h5⟩)
    · exact .inl (.inl ⟨l, List.mem_filter.mpr ⟨h1, by simpa using h2⟩, by rw [h3, h4]⟩)
    · exact .inl (.inr ⟨l, List.mem_filter.mpr ⟨h1, by simp [h2, h3]⟩, by rw [h4, h5]⟩)
    · exact .inr ⟨(l, c), List.mem_filter.mpr ⟨h1, by simp [h2, h3]⟩, by rw [h4, h5]⟩
theorem rch_snoc {free single : List Ln} {U : Us} {first : Nat} {rows : List Came} (R : RchP free single U first rows) {n p : Nat} {l : Ln} {d : Int} {c : Option Step} {j : Nat} (hn : n ∉ rows.map (·.1)) (h80 : n < 80) (hj : rows[j]? = some (p, c)) (hm : (n, l, d) ∈ followL free single U p) :
    RchP free single U first (rows ++ [(n, some (p, l, d))]) := by
  have hjl := (List.getElem?_eq_some_iff.mp hj).1
  refine ⟨?_, ?_, fun i n' p' l' d' h => ?_, fun i n' h => ?_, fun r hr => ?_⟩
  · rw [List.getElem?_append_left (by omega)]
    exact R.head
  · rw [List.map_append]
    refine List.nodup_append.mpr ⟨R.nd, by simp, fun a ha b hb z => hn ?_⟩
    simp at hb
    rw [← hb, ← z]
    exact ha
  · by_cases hi : i < rows.length
    · rw [List.getElem?_append_left hi] at h
      obtain ⟨j', c', h1, h2, h3⟩ := R.came i n' p' l' d' h
      exact ⟨j', c', h1, by rw [List.getElem?_append_left (by omega)]; exact h2, h3⟩
    · rw [List.getElem?_append_right (by omega)] at h
      have : i - rows.length = 0 := by
        by_cases e : i - rows.length = 0
        · exact e
        · rw [List.getElem?_eq_none (by simp; omega)] at h
          cases h
      rw [this] at h
      simp at h
      obtain ⟨rfl, rfl, rfl, rfl⟩ := h
      exact ⟨j, c, by omega, by rw [List.getElem?_append_left hjl]; exact hj, hm⟩
  · by_cases hi : i < rows.length
    · rw [List.getElem?_append_left hi] at h
      exact R.only i n' h
    · rw [List.getElem?_append_right (by omega)] at h
      have : i - rows.length = 0 := by
        by_cases e : i - rows.length = 0
        · exact e
        · rw [List.getElem?_eq_none (by simp; omega)] at h
          cases h
      rw [this] at h
      simp at h
  · rcases List.mem_append.mp hr with h | h
    · exact R.small r h
    · rw [List.mem_singleton.mp h]
      exact h80
theorem rch_start {free single : List Ln} {U : Us} {first : Nat} (h : first < 80) : RchP free single U first [(first, none)] := by
  refine ⟨rfl, by simp, fun i n p l d hi => ?_, fun i n hi => ?_, fun r hr => ?_⟩
  · cases i with
    | zero => simp at hi
    | succ i => simp at hi
  · cases i with
    | zero => rfl
    | succ i => simp at hi
  · rw [List.mem_singleton.mp hr]
    exact h
end St
namespace St
open TbStLog
theorem rch_in {free single : List Ln} {U : Us} {first : Nat} {rows : List Came} (R : RchP free single U first rows) {M : Nat → Prop} (hf : M first) (h1 : ∀ l ∈ free, M l.1 ∧ M l.2) (h2 : ∀ l ∈ single, M l.1 ∧ M l.2) (h3 : ∀ l ∈ U.map (·.1), M l.1 ∧ M l.2) : ∀ r ∈ rows, M r.1 := by
  intro r hr
  obtain ⟨i, hi⟩ := List.mem_iff_getElem?.mp hr
  obtain ⟨n, c⟩ := r
  cases c with
  | none =>
    have := R.only i n hi
    subst this
    rw [R.head] at hi
    cases hi
    exact hf
  | some s =>
    obtain ⟨p, l, d⟩ := s
    obtain ⟨j, c, _, _, hm⟩ := R.came i n p l d hi
    rcases follow_mem.mp hm with ⟨h, _, e, _⟩ | ⟨h, _, _, e, _⟩ | ⟨c, h, _, _, e, _⟩
    · show M n
      rw [e]; exact (h1 l h).2
    · show M n
      rw [e]; exact (h2 l h).2
    · show M n
      rw [e]; exact (h3 l (List.mem_map.mpr ⟨_, h, rfl⟩)).1
theorem usedOf_mem {U : Us} (hn : (U.map (·.1)).Nodup) {l : Ln} {c : Int} (h : (l, c) ∈ U) : usedOf U l = c := by
  induction U with
  | nil => cases h
  | cons p r ih =>
    rw [List.map_cons, List.nodup_cons] at hn
    rw [usedOf_cons]
    rcases List.mem_cons.mp h with e | hr
    · subst e
      rw [if_pos rfl]
    · rw [if_neg (fun z : l = p.1 => hn.1 (by rw [← z]; exact List.mem_map.mpr ⟨_, hr, rfl⟩)), ih hn.2 hr]
/-- while a way is gone back, from a find to the first: at the meeting n, in place i -/
structure BackP (free single : List Ln) (U0 : Us) (count : Int) (first : Nat) (isEnd : Nat → Bool) (rows : List Came) (i n : Nat) (U : Us) : Prop where
  nd : (U.map (·.1)).Nodup
  keys : ∀ l ∈ U.map (·.1), l ∈ free ∨ l ∈ single
  low : ∀ l, 0 ≤ usedOf U l
  one : ∀ l ∈ single, usedOf U l ≤ 1
  diff : ∀ l, usedOf U l ≠ usedOf U0 l → ∃ (j k : Nat) (c : Option Step), i < j ∧ rows[j]? = some (k, c) ∧ (k = l.1 ∨ k = l.2)
  sum : ∀ S : Nat → Bool, S first = true → (∀ m, isEnd m = true → S m = false) → flow U S = count + (if S n = true then 1 else 0)
theorem key_idx {rows : List Came} (h : (rows.map (·.1)).Nodup) {i j k : Nat} {c c' : Option Step} (hi : rows[i]? = some (k, c)) (hj : rows[j]? = some (k, c')) : i = j := by
  have h1 : (rows.map (·.1))[i]? = some k := by rw [List.getElem?_map, hi]; rfl
  have h2 : (rows.map (·.1))[j]? = some k := by rw [List.getElem?_map, hj]; rfl
  obtain ⟨a1, b1⟩ := List.getElem?_eq_some_iff.mp h1
  obtain ⟨a2, b2⟩ := List.getElem?_eq_some_iff.mp h2
  exact (List.getElem_inj h).mp (b1.trans b2.symm)
theorem back_start {free single : List Ln} {U : Us} {count : Int} {first : Nat} {isEnd : Nat → Bool} {rows : List Came} (F : FlowP free single first isEnd U count) {i n : Nat} (he : isEnd n = true) : BackP free single U count first isEnd rows i n U :=
  ⟨F.nd, F.keys, F.low, F.one, fun l h => absurd rfl h, fun S h1 h2 => by rw [F.sum S h1 h2, h2 n he]; simp⟩
theorem back_end {free single : List Ln} {U0 U : Us} {count : Int} {first : Nat} {isEnd : Nat → Bool} {rows : List Came} {i : Nat} (B : BackP free single U0 count first isEnd rows i first U) : FlowP free single first isEnd U (count + 1) :=
  ⟨B.nd, B.keys, B.low, B.one, fun S h1 h2 => by rw [B.sum S h1 h2, if_pos h1]⟩
theorem back_step {free single : List Ln} {U0 U : Us} {count : Int} {first : Nat} {isEnd : Nat → Bool} {rows : List Came} {i n p j : Nat} {l : Ln} {d : Int} {c : Option Step} (hdis : ∀ l ∈ free, l ∉ single) (F : FlowP free single first isEnd U0 count) (R : RchP free single U0 first rows) (B : BackP free single U0 count first isEnd rows i n U)
    (hi : rows[i]? = some (n, some (p, l, d))) (hj : rows[j]? = some (p, c)) (hji : j < i) (hm : (n, l, d) ∈ followL free single U0 p) : BackP free single U0 count first isEnd rows j p (uput U l (usedOf U l + d)) := by
  -- the line was not yet written
  have hends : (l.1 = p ∧ l.2 = n) ∨ (l.1 = n ∧ l.2 = p) := by
    rcases follow_mem.mp hm with ⟨_, h2, h3, _⟩ | ⟨_, h2, _, h3, _⟩ | ⟨_, _, h2, _, h3, _⟩
    · exact .inl ⟨h2, h3.symm⟩
    · exact .inl ⟨h2, h3.symm⟩
    · exact .inr ⟨h3.symm, h2⟩
  have hsame : usedOf U l = usedOf U0 l := Classical.byContradiction fun hne => by
    obtain ⟨j', k, c', h1, h2, h3⟩ := B.diff l hne
    have hk : k = p ∨ k = n := by
      rcases hends with ⟨e1, e2⟩ | ⟨e1, e2⟩
      · rcases h3 with h | h
        · exact .inl (h.trans e1)
        · exact .inr (h.trans e2)
      · rcases h3 with h | h
        · exact .inr (h.trans e1)
        · exact .inl (h.trans e2)
    rcases hk with h | h
    · rw [h] at h2
      have := key_idx R.nd h2 hj
      omega
    · rw [h] at h2
      have := key_idx R.nd h2 hi
      omega
  have hin : l ∈ free ∨ l ∈ single := by
    rcases follow_mem.mp hm with ⟨h, _⟩ | ⟨h, _⟩ | ⟨c, h, _⟩
    · exact .inl h
    · exact .inr h
    · exact F.keys l (List.mem_map.mpr ⟨_, h, rfl⟩)
  refine ⟨uput_nodup _ _ _ B.nd, fun m h => ?_, fun m => ?_, fun m h => ?_, fun m h => ?_, fun S h1 h2 => ?_⟩
  · rcases (uput_keys _ _ _ _).mp h with h | h
    · exact B.keys m h
    · rw [h]; exact hin
  · rw [uput_of]
    split
    · rcases follow_mem.mp hm with ⟨_, _, _, h4⟩ | ⟨_, _, _, _, h4⟩ | ⟨c, h1, _, h3, _, h4⟩
      · have := B.low l; omega
      · have := B.low l; omega
      · rw [hsame, usedOf_mem F.nd h1, h4]; omega
    · exact B.low m
  · rw [uput_of]
    split
    · rename_i e
      subst e
      rcases follow_mem.mp hm with ⟨h1, _, _, _⟩ | ⟨_, _, h3, _, h4⟩ | ⟨c, h1, _, h3, _, h4⟩
      · exact absurd h (hdis _ h1)
      · rw [hsame, h3, h4]; omega
      · have := B.one _ h
        rw [h4]; omega
    · exact B.one m h
  · by_cases e : m = l
    · subst e
      refine ⟨i, n, _, hji, hi, ?_⟩
      rcases hends with ⟨_, e2⟩ | ⟨e1, _⟩
      · exact .inr e2.symm
      · exact .inl e1.symm
    · rw [uput_of, if_neg e] at h
      obtain ⟨j', k, c', h1, h2, h3⟩ := B.diff m h
      exact ⟨j', k, c', by omega, h2, h3⟩
  · rw [flow_uput U l d S B.nd, B.sum S h1 h2]
    rcases follow_mem.mp hm with ⟨_, h2, h3, h4⟩ | ⟨_, h2, _, h3, h4⟩ | ⟨_, _, h2, _, h3, h4⟩
    · rw [h4, h2, ← h3]; omega
    · rw [h4, h2, ← h3]; omega
    · rw [h4, h2, ← h3]; omega
theorem nodup_le {α : Type} [BEq α] [LawfulBEq α] : ∀ {l u : List α}, l.Nodup → (∀ x ∈ l, x ∈ u) → l.length ≤ u.length
  | [], _, _, _ => Nat.zero_le _
  | a :: l, u, n, h => by
    have ha := h a (List.mem_cons_self ..)
    have hl : l.length ≤ (u.erase a).length := nodup_le (List.nodup_cons.mp n).2 fun x hx => (List.mem_erase_of_ne (fun e => (List.nodup_cons.mp n).1 (by rw [← e]; exact hx))).mpr (h x (List.mem_cons_of_mem _ hx))
    rw [List.length_erase_of_mem ha] at hl
    have : 0 < u.length := List.length_pos_of_mem ha
    rw [List.length_cons]
    omega
/-- no more ways than single lines -/
theorem flow_le {free single : List Ln} {first : Nat} {isEnd : Nat → Bool} {U : Us} {count : Int} (F : FlowP free single first isEnd U count) {S : Nat → Bool} (h1 : S first = true) (h2 : ∀ m, isEnd m = true → S m = false) (h3 : ∀ l ∈ free, S l.1 = true → S l.2 = true) :
    count ≤ single.length := by
  rw [← F.sum S h1 h2]
  have key : ∀ V : Us, (V.map (·.1)).Nodup → (∀ u ∈ V, usedOf U u.1 = u.2 ∧ (u.1 ∈ free ∨ u.1 ∈ single)) → flow V S ≤ ((V.map (·.1)).filter fun l => decide (l ∈ single)).length := by
    intro V
    induction V with
    | nil => intro _ _; simp [flow]
    | cons p r ih =>
      intro hn hV
      rw [List.map_cons, List.nodup_cons] at hn
      have ih := ih hn.2 fun u hu => hV u (List.mem_cons_of_mem _ hu)
      obtain ⟨e1, e2⟩ := hV p (List.mem_cons_self ..)
      rw [flow_cons, List.map_cons]
      have hl := F.low p.1
      rw [e1] at hl
      by_cases hs : p.1 ∈ single
      · rw [List.filter_cons_of_pos (by simpa using hs), List.length_cons]
        have ho := F.one p.1 hs
        rw [e1] at ho
        have : p.2 * ((if S p.1.1 = true then 1 else 0) - (if S p.1.2 = true then 1 else 0)) ≤ 1 := by
          have : p.2 = 0 ∨ p.2 = 1 := by omega
          rcases this with e | e <;> rw [e] <;> (split <;> split <;> omega)
        omega
      · rw [List.filter_cons_of_neg (by simpa using hs)]
        have hf := e2.resolve_right hs
        have hc := h3 p.1 hf
        have : p.2 * ((if S p.1.1 = true then 1 else 0) - (if S p.1.2 = true then 1 else 0)) ≤ 0 := by
          by_cases ha : S p.1.1 = true
          · rw [if_pos ha, if_pos (hc ha)]
            simp
          · rw [if_neg ha]
            split
            · have : p.2 * (0 - 1) = -p.2 := by omega
              omega
            · simp
        omega
  have hk := key U F.nd fun u hu => ⟨usedOf_mem F.nd hu, F.keys u.1 (List.mem_map.mpr ⟨u, hu, rfl⟩)⟩
  have sub : ((U.map (·.1)).filter fun l => decide (l ∈ single)).length ≤ single.length := by
    exact nodup_le (F.nd.sublist List.filter_sublist) fun x hx => by simpa using (List.mem_filter.mp hx).2
  omega
end St

end

section

set_option Elab.async false
set_option linter.all false
set_option maxRecDepth 100000
set_option maxHeartbeats 4000000
namespace St
open PySem PySem.Spec PyProof.Rows L2 Evl
/-! ### the ways' object in the heap -/
def uT (U : Us) : List (List Key × V) := U.map fun u => (kk u.1, .int u.2)
theorem uT_keys (U : Us) : (uT U).map (·.1) = U.map fun u => kk u.1 := by unfold uT; rw [List.map_map]; rfl
theorem uT_len (U : Us) : (uT U).length = U.length := List.length_map ..
theorem uT_val (U : Us) (l : Ln) : valV (uT U) (kk l) = (U.lookup l).map V.int := by
  induction U with
  | nil => rfl
  | cons p r ih =>
    obtain ⟨k, v⟩ := p
    unfold uT
    rw [List.map_cons]
    by_cases h : k = l
    · subst h
      rw [valV_pos rfl]
      simp [List.lookup]
    · rw [valV_neg (fun z => h (kk_inj z))]
      have : (l == k) = false := by simpa using fun z => h z.symm
      simp only [List.lookup, this]
      exact ih
theorem uT_isSome (U : Us) (l : Ln) : (valV (uT U) (kk l)).isSome = decide (l ∈ U.map (·.1)) := by
  rw [uT_val, Option.isSome_map]
  induction U with
  | nil => rfl
  | cons p r ih =>
    obtain ⟨a, b⟩ := p
    by_cases h : l = a
    · subst h
      simp [List.lookup]
    · have : (l == a) = false := by simpa using h
      simp only [List.lookup, this]
      rw [ih]
      simp [h]
theorem uT_put (U : Us) (l : Ln) (c : Int) : putK (uT U) (kk l) (.int c) = uT (uput U l c) := by
  unfold putK uput
  rw [valV_any, uT_isSome]
  by_cases h : l ∈ U.map (·.1)
  · rw [if_pos (by simpa using h), if_pos h]
    unfold uT
    rw [List.map_map, List.map_map]
    refine List.map_congr_left fun u _ => ?_
    show (if kk u.1 = kk l then (kk u.1, V.int c) else (kk u.1, V.int u.2)) = (kk (if u.1 = l then (u.1, c) else u).1, V.int (if u.1 = l then (u.1, c) else u).2)
    by_cases hu : u.1 = l
    · rw [if_pos (by rw [hu]), if_pos hu]
    · rw [if_neg (fun z => hu (kk_inj z)), if_neg hu]
  · rw [if_neg (by simpa using h), if_neg h]
    unfold uT
    rw [List.map_append]
    rfl
theorem uT_get (U : Us) (l : Ln) : (valV (uT U) (kk l)).getD (.int 0) = .int (usedOf U l) := by
  rw [uT_val]
  unfold usedOf
  cases U.lookup l <;> rfl
def cF (L q fr sg us : Addr) (first : V) (count : Int) : List (Str × V) := [("log", .ref L), ("finds", .ref q), ("first", first), ("free", .ref fr), ("single", .ref sg), ("used", .ref us), ("count", .int count)]
structure CutAt (K : PySem.W.Frag) (H : Hp) (c L q fr sg us : Addr) (first : V) (fs : List (Nat × Nat)) (free single : List Ln) (U : Us) (count : Int) : Prop where
  obj : ∃ dx, H c = some (.ins (cCut K) dx (cF L q fr sg us first count))
  finds : PairsAt H q fs
  free : H fr = some (.dT (dTk free))
  single : PairsAt H sg single
  used : H us = some (.dT (uT U))
theorem CutAt.mono {K : PySem.W.Frag} {H H' : Hp} {c L q fr sg us : Addr} {first : V} {fs : List (Nat × Nat)} {free single : List Ln} {U : Us} {count : Int} (h : CutAt K H c L q fr sg us first fs free single U count) (e : Ex H H') : CutAt K H' c L q fr sg us first fs free single U count :=
  ⟨h.obj.imp fun _ z => e _ _ z, h.finds.mono e, e _ _ h.free, h.single.mono e, e _ _ h.used⟩
section
variable {K : PySem.W.Frag} {mg : Str → Option Value} {σ : L2.St} {H H' : Hp} {ta tb td ty te tv tx : TE} {c L q fr sg us : Addr} {first : V} {fs : List (Nat × Nat)} {free single : List Ln} {U : Us} {count : Int} {D : Ends} {tz : TS} {R : Addr → Hp → Prop}
theorem cF_log : (cF L q fr sg us first count).lookup ("log" : Str) = some (.ref L) := lk_here
theorem cF_finds : (cF L q fr sg us first count).lookup ("finds" : Str) = some (.ref q) := (lk_past (by decide +kernel)).trans lk_here
theorem cF_first : (cF L q fr sg us first count).lookup ("first" : Str) = some first := (lk_past (by decide +kernel)).trans ((lk_past (by decide +kernel)).trans lk_here)
theorem cF_free : (cF L q fr sg us first count).lookup ("free" : Str) = some (.ref fr) := (lk_past (by decide +kernel)).trans ((lk_past (by decide +kernel)).trans ((lk_past (by decide +kernel)).trans lk_here))
theorem cF_single : (cF L q fr sg us first count).lookup ("single" : Str) = some (.ref sg) := (lk_past (by decide +kernel)).trans ((lk_past (by decide +kernel)).trans ((lk_past (by decide +kernel)).trans ((lk_past (by decide +kernel)).trans lk_here)))
theorem cF_used : (cF L q fr sg us first count).lookup ("used" : Str) = some (.ref us) := (lk_past (by decide +kernel)).trans ((lk_past (by decide +kernel)).trans ((lk_past (by decide +kernel)).trans ((lk_past (by decide +kernel)).trans ((lk_past (by decide +kernel)).trans lk_here))))
theorem cF_count : (cF L q fr sg us first count).lookup ("count" : Str) = some (.int count) := (lk_past (by decide +kernel)).trans ((lk_past (by decide +kernel)).trans ((lk_past (by decide +kernel)).trans ((lk_past (by decide +kernel)).trans ((lk_past (by decide +kernel)).trans ((lk_past (by decide +kernel)).trans lk_here)))))
theorem cF_none {m : Str} (h1 : (m == ("log" : Str)) = false := by decide +kernel) (h2 : (m == ("finds" : Str)) = false := by decide +kernel) (h3 : (m == ("first" : Str)) = false := by decide +kernel) (h4 : (m == ("free" : Str)) = false := by decide +kernel) (h5 : (m == ("single" : Str)) = false := by decide +kernel)
    (h6 : (m == ("used" : Str)) = false := by decide +kernel) (h7 : (m == ("count" : Str)) = false := by decide +kernel) : (cF L q fr sg us first count).lookup m = none :=
  (lk_past h1).trans ((lk_past h2).trans ((lk_past h3).trans ((lk_past h4).trans ((lk_past h5).trans ((lk_past h6).trans ((lk_past h7).trans rfl))))))
variable (T : Txt K mg) (h : CutAt K H c L q fr sg us first fs free single U count)
include T h
theorem ev_cLog (ha : Ev ta σ H (.ref c)) : Ev (tFld K ta "log") σ H (.ref L) := let ⟨_, h1⟩ := h.obj; ev_fld ha h1 T.c_Cut T.n_Cut_log cF_log
theorem ev_cFinds (ha : Ev ta σ H (.ref c)) : Ev (tFld K ta "finds") σ H (.ref q) := let ⟨_, h1⟩ := h.obj; ev_fld ha h1 T.c_Cut T.n_Cut_finds cF_finds
theorem ev_cFirst (ha : Ev ta σ H (.ref c)) : Ev (tFld K ta "first") σ H first := let ⟨_, h1⟩ := h.obj; ev_fld ha h1 T.c_Cut T.n_Cut_first cF_first
theorem ev_cFree (ha : Ev ta σ H (.ref c)) : Ev (tFld K ta "free") σ H (.ref fr) := let ⟨_, h1⟩ := h.obj; ev_fld ha h1 T.c_Cut T.n_Cut_free cF_free
theorem ev_cSingle (ha : Ev ta σ H (.ref c)) : Ev (tFld K ta "single") σ H (.ref sg) := let ⟨_, h1⟩ := h.obj; ev_fld ha h1 T.c_Cut T.n_Cut_single cF_single
theorem ev_cUsed (ha : Ev ta σ H (.ref c)) : Ev (tFld K ta "used") σ H (.ref us) := let ⟨_, h1⟩ := h.obj; ev_fld ha h1 T.c_Cut T.n_Cut_used cF_used
theorem ev_cCount (ha : Ev ta σ H (.ref c)) : Ev (tFld K ta "count") σ H (.int count) := let ⟨_, h1⟩ := h.obj; ev_fld ha h1 T.c_Cut T.n_Cut_count cF_count
end
section
variable {K : PySem.W.Frag} {σ : L2.St} {H H' : Hp} {ta td ty te tx : TE} {D : Ends} {tz : TS} {R : Addr → Hp → Prop} {U : Us}
/-- name = a comprehension over a dict's keys -/
theorem q_asgF {t : TE} {i : Nat} (h : EvN (tFree t) σ H R) (k : ∀ p H1, H p = none → Ex H H1 → R p H1 → tz D (σ.set i (some (.ref p))) H1) : tSeq (sFree (tAsg t (gName i))) tz D σ H := h H (Ex.refl H) _ fun p H1 n e r => k p H1 n e r
theorem ev_dget2U {d t : Addr} {l : Ln} (hd : Ev td σ H (.ref d)) (hy : Ev ty σ H (.ref t)) (ht : H t = some (.tup [nV l.1, nV l.2])) (hx : Ev tx σ H (.int 0)) (h : Rd H d (.dT (uT U))) : Ev (tDGet2 td ty tx) σ H (.int (usedOf U l)) := fun H1 e Q q =>
  hd H1 e _ fun H2 e2 => ⟨d, rfl, .inr ⟨_, ex_rd (e.trans e2) h⟩, hy H2 (e.trans e2) _ fun H3 e3 => hx H3 ((e.trans e2).trans e3) _ fun H4 e4 => ⟨valV (uT U) (kk l), .inr ⟨uT U, kk l, t, ex_rd (((e.trans e2).trans e3).trans e4) h, rfl, (((e.trans e2).trans e3).trans e4) _ _ ht, rfl⟩, by
    rw [uT_get]
    exact q H4 ((e2.trans e3).trans e4)⟩⟩
end
/-- a step: to, the line, along or back -/
def StepIs (s : Step) (y : V) (H : Hp) : Prop := ∃ t tl, y = .ref t ∧ H t = some (.tup [nV s.1, .ref tl, .int s.2.2]) ∧ H tl = some (.tup [nV s.2.1.1, nV s.2.1.2])
theorem StepIs.mono {s : Step} {y : V} {H H' : Hp} (h : StepIs s y H) (e : Ex H H') : StepIs s y H' := by
  obtain ⟨t, tl, h1, h2, h3⟩ := h
  exact ⟨t, tl, h1, e _ _ h2, e _ _ h3⟩
theorem StepIs.upd {s : Step} {y : V} {H : Hp} {D : Addr} {u o : HO} (h : StepIs s y H) (hD : H D = some u) (hu : ∀ xs, u ≠ .tup xs) : StepIs s y (L2.upd H D o) := by
  obtain ⟨t, tl, h1, h2, h3⟩ := h
  have ne : ∀ b xs, H b = some (.tup xs) → b ≠ D := fun b xs hb z => by
    rw [z, hD] at hb
    exact hu _ (Option.some.inj hb)
  exact ⟨t, tl, h1, by rw [upd_ne (ne _ _ h2)]; exact h2, by rw [upd_ne (ne _ _ h3)]; exact h3⟩
theorem Stays.step {α : Type} {f : α → Step} : Stays (fun a y H => StepIs (f a) y H) := ⟨fun a y H H' e h => h.mono e, fun a y H D acc acc' hD h => h.upd hD (by simp)⟩
theorem Unl.step {α : Type} {f : α → Step} : Unl (fun a y H => StepIs (f a) y H) := fun a y H d od u hd h => h.upd hd (by simp)
theorem paired_map2 {α β : Type} {F : β → V → Prop} {f : α → β} : ∀ {l : List α} {m : List V}, Paired (fun a y => F (f a) y) l m → Paired F (l.map f) m
  | _, _, .nil => .nil
  | _, _, .cons r t => .cons r (paired_map2 t)
theorem paired_app {α β : Type} {F : α → β → Prop} : ∀ {l l' : List α} {m m' : List β}, Paired F l m → Paired F l' m' → Paired F (l ++ l') (m ++ m')
  | _, _, _, _, .nil, h => h
  | _, _, _, _, .cons r t, h => .cons r (paired_app t h)
theorem lookup_mem : ∀ {U : Us} {u : Ln × Int}, (U.map (·.1)).Nodup → u ∈ U → U.lookup u.1 = some u.2
  | p :: r, u, hn, hu => by
    rw [List.map_cons, List.nodup_cons] at hn
    rcases List.mem_cons.mp hu with e | hr
    · subst e
      simp [List.lookup]
    · have : (u.1 == p.1) = false := by
        simpa using fun z : u.1 = p.1 => hn.1 (by rw [← z]; exact List.mem_map.mpr ⟨u, hr, rfl⟩)
      simp only [List.lookup, this]
      exact lookup_mem hn.2 hr
/-- that all is between entries -/
structure SmallC (free single : List Ln) (U : Us) : Prop where
  f : Small free
  s : Small single
  u : Small (U.map (·.1))
  lf : free.length ≤ 6400
  ls : single.length ≤ 6400
  lu : U.length ≤ 6400
  nu : (U.map (·.1)).Nodup
def sp_Cut_follow (K : PySem.W.Frag) : Sp := spN (fun vs H z => ∃ c L q fr sg us first fs free single U count here, vs = [.ref c, nV here] ∧ CutAt K H c L q fr sg us first fs free single U count ∧ SmallC free single U ∧ z = followL free single U here) fun z p H => ∃ ys, H p = some (.lst ys) ∧ Paired (fun s y => StepIs s y H) z ys
section
variable {P : Program} {w : World} {K : PySem.W.Frag} {mg : Str → Option Value} {base : Heap}
theorem CutAt.lk {H : Hp} {c L q fr sg us : Addr} {first : V} {fs : List (Nat × Nat)} {free single : List Ln} {U : Us} {count : Int} (h : CutAt K H c L q fr sg us first fs free single U count) {d : Addr} {u : HO} (hd : H d = some u) (hu : isDict u = true) (o : Obj) :
    (∃ dx, (upd H d (.frz o u)) c = some (.ins (cCut K) dx (cF L q fr sg us first count))) ∧ PairsAt (upd H d (.frz o u)) sg single ∧ PairsAt (upd H d (.frz o u)) q fs ∧ Rd (upd H d (.frz o u)) fr (.dT (dTk free)) ∧ Rd (upd H d (.frz o u)) us (.dT (uT U)) := by
  have rd : ∀ b v, H b = some v → Rd (upd H d (.frz o u)) b v := fun b v hb => by
    by_cases e : b = d
    · subst e
      rw [hb] at hd
      cases hd
      exact .inr ⟨o, upd_same⟩
    · exact .inl (by rw [upd_ne e]; exact hb)
  refine ⟨?_, h.single.but hd hu, h.finds.but hd hu, rd _ _ h.free, rd _ _ h.used⟩
  obtain ⟨dx, h1⟩ := h.obj
  refine ⟨dx, ?_⟩
  rw [upd_ne (fun z => ?_)]
  · exact h1
  · rw [z, hd] at h1
    cases h1
    cases hu
abbrev N_Cut_follow : List Str := ["self", "here", "told", "line"]
theorem sc_Cut_follow : FnScope N_Cut_follow ["self", "here"] d_Cut_follow.scope := ⟨rfl, rfl, rfl, by decide +kernel, rfl, by decide +kernel, by decide +kernel⟩
theorem ok_Cut_follow (T : Txt K mg) : Ok P w K mg base CX0 1 d_Cut_follow ["self", "here"] (sp_Cut_follow K) := by
  refine ok0 T.u_Cut_follow sc_Cut_follow (fun _ _ _ _ _ _ us hl => match us, hl with | [_, _], _ => rfl) (fun vs H Q E h => ?_) (fun cdv A outer s H vs Q E hr h => ?_)
  · obtain ⟨_, ⟨_, _, _, _, _, _, _, _, _, _, _, _, _, rfl, _⟩, _⟩ := h
    rfl
  have nd := sc_Cut_follow.nd
  refine ⟨_, (pss_cons (ps_free (ps_setLc (i := 2) (own := [("line", 3)]) rfl nd rfl rfl (sw_true rfl rfl rfl (by decide +kernel)) (pi_keysL (wfld K (pv 0))) (blkOk_by (N := N_Cut_follow) (sc := d_Cut_follow.scope) (by decide +kernel)) (fun _ _ _ _ _ => (pg_name (i := 3) nd rfl (Or.inl rfl))) (fun _ _ _ _ _ => (pts_one (pt_cmpR op_eq (wixT K (pv 3) pe_int) (pv 1) (nomark _)))) (fun _ _ _ _ _ => (pe_tup (pa_cons (wixT K (pv 3) pe_int) (pa_cons (pv 3) (pa_cons pe_int pa_nil)))))))
  (pss_cons (ps_expr (wext K (pv 2) (pe_lc (own := [("line", 3)]) rfl nd (wlist K (wfld K (pv 0))) (blkOk_by (N := N_Cut_follow) (sc := d_Cut_follow.scope) (by decide +kernel)) (fun _ _ _ _ _ => (pg_name (i := 3) nd rfl (Or.inl rfl))) (fun _ _ _ _ _ => (pts_one (PW.pt (pw_and (pt_cmpR op_eq (wixT K (pv 3) pe_int) (pv 1) (nomark _)) (pw_and1 (pt_cmpR op_eq (pe_dget2 (hu_of hr) (wfld K (pv 0)) (pv 3) pe_int ⟨rfl, rfl, rfl, rfl⟩) pe_int (nomark _))))))) (fun _ _ _ _ _ => (pe_tup (pa_cons (wixT K (pv 3) pe_int) (pa_cons (pv 3) (pa_cons pe_int pa_nil))))))))
  (pss_cons (ps_expr (wext K (pv 2) (pe_free (pe_lc (own := [("line", 3)]) rfl nd (pi_keysL (wfld K (pv 0))) (blkOk_by (N := N_Cut_follow) (sc := d_Cut_follow.scope) (by decide +kernel)) (fun _ _ _ _ _ => (pg_name (i := 3) nd rfl (Or.inl rfl))) (fun _ _ _ _ _ => (pts_one (PW.pt (pw_and (pt_cmpR op_eq (wixT K (pv 3) pe_int) (pv 1) (nomark _)) (pw_and1 (pt_cmpR op_gt (pe_dget (hu_of hr) (wfld K (pv 0)) (pv 3) (fun _ _ => rfl)) pe_int (nomark _))))))) (fun _ _ _ _ _ => (pe_tup (pa_cons (wixT K (pv 3) pe_int) (pa_cons (pv 3) (pa_cons (pe_un un_neg pe_int) pa_nil)))))))))
  (pss_one (ps_ret (pv 2)))))), ?_⟩
  obtain ⟨_, ⟨c, L, q, fr, sg, us, first, fs, free, single, U, count, here, rfl, hC, sm, rfl⟩, k⟩ := h
  refine q_asgF (en_keysT (l := free) (p := fun l => decide (l.1 = here)) (RA := fun l y H => StepIs (l.2, l, 1) y H) (key := kk) Stays.step Unl.step (ev_cFree T hC (ev_var rfl)) hC.free (dTk_keys free) (by have := sm.lf; omega) fun o H1 a q1 e1 ha hq1 => ?_) fun p H1 n1 e1 ⟨ys1, hy1, pr1⟩ => ?_
  · have hq1 : H1 q1 = some (.tup [nV a.1, nV a.2]) := hq1
    exact Turns.name rfl (et_test (ev_eqN (ev_ixT (i := 0) (ev_var rfl) ev_c (st_of hq1) rfl) (ev_var rfl))) fun _ H2 e2 Q z => (eu_three (ev_ixT (i := 1) (ev_var rfl) ev_c (st_of hq1) rfl) (ev_var rfl) ev_c) H2 e2 Q fun t H3 n3 e3 h3 => z _ H3 e3 ⟨t, q1, rfl, h3, e3 _ _ (e2 _ _ hq1)⟩
  · have hC1 := hC.mono e1
    obtain ⟨zs, hzs, pz⟩ := id hC1.single
    have hl1 : ys1.length ≤ 6400 := by
      rw [← paired_len pr1]
      exact Nat.le_trans (List.length_filter_le ..) sm.lf
    refine s_extP (D := { nx := _, rt := _, bk := _, ct := _ }) (n := 0) (Rr := fun ys H' => Paired (fun l y => StepIs (l.2, l, 1) y H') (single.filter fun l => decide (l.1 = here) && decide (usedOf U l = 0)) ys) hy1 (ev_var rfl) (en_lcL (l := single) Stays.step (ev_cSingle T hC1 (ev_var rfl)) (sq_of hzs) (paired_len pz).symm (by have := sm.ls; omega) fun i a x ha hx => ?_) (fun ys H2 r => ?_) fun H2 ys2 e2 pr2 => ?_
    · obtain ⟨t, rfl, ht⟩ := paired_at pz ha hx
      exact Turns.name rfl (et_and (et_test (ev_eqN (ev_ixT (i := 0) (ev_var rfl) ev_c (st_of ht) rfl) (ev_var rfl))) fun _ => et_test (ev_is (ev_op (ev_dget2U (ev_cUsed T hC1 (ev_var rfl)) (ev_var rfl) ht ev_c (.inl hC1.used)) ev_c (rv_eq rfl)) (by congr 1; simp))) fun _ H2 e2 Q z => (eu_three (ev_ixT (i := 1) (ev_var rfl) ev_c (st_of ht) rfl) (ev_var rfl) ev_c) H2 e2 Q fun t2 H3 n3 e3 h3 => z _ H3 e3 ⟨t2, t, rfl, h3, e3 _ _ (e2 _ _ ht)⟩
    · rw [← paired_len r]
      have := List.length_filter_le (fun l : Ln => decide (l.1 = here) && decide (usedOf U l = 0)) single
      have := sm.ls
      omega
    · have e12 := e1.trans e2
      have hy2 : H2 p = some (.lst ys1) := e2 _ _ hy1
      have e3 : Ex H (upd H2 p (.lst (ys1 ++ ys2))) := e12.mut n1
      have hC3 := hC.mono e3
      refine s_extP (D := { nx := _, rt := _, bk := _, ct := _ }) (n := 0) (Rr := fun ys H' => Paired (fun (u : Ln × Int) y => StepIs (u.1.1, u.1, -1) y H') (U.filter fun u => decide (u.1.2 = here) && decide (0 < u.2)) ys) (xs := ys1 ++ ys2) upd_same (ev_var rfl) (en_keysT (l := U) (key := fun u => kk u.1) Stays.step Unl.step (ev_cUsed T hC3 (ev_var rfl)) hC3.used (uT_keys U) (by have := sm.lu; omega) fun o H4 a q4 e4 ha hq4 => ?_) (fun ys H4 r => ?_) fun H4 ys3 e4 pr3 => ?_
      · have hq4 : H4 q4 = some (.tup [nV a.1.1, nV a.1.2]) := hq4
        obtain ⟨⟨dx, hobj⟩, _, _, _, hus⟩ := hC3.lk hC3.used rfl o
        exact Turns.name rfl (et_and (et_test (ev_eqN (ev_ixT (i := 1) (ev_var rfl) ev_c (st_of hq4) rfl) (ev_var rfl))) fun _ => et_test (ev_gtI (ev_dgetT (p := a.1) (v := .int a.2) (ev_fld (ev_var rfl) (e4 _ _ hobj) T.c_Cut T.n_Cut_used cF_used) (ev_var rfl) hq4 (ex_rd e4 hus) (by rw [uT_val, lookup_mem sm.nu ha]; rfl)) ev_c)) fun _ H5 e5 Q z => (eu_three (ev_ixT (i := 0) (ev_var rfl) ev_c (st_of hq4) rfl) (ev_var rfl) (ev_un ev_c ru_neg)) H5 e5 Q fun t H6 n6 e6 h6 => z _ H6 e6 ⟨t, q4, rfl, h6, e6 _ _ (e5 _ _ hq4)⟩
      · have h1 := paired_len r
        have h2 := List.length_filter_le (fun u : Ln × Int => decide (u.1.2 = here) && decide (0 < u.2)) U
        have h3 := sm.lu
        have h4 : ys2.length ≤ 6400 := by
          rw [← paired_len pr2]
          exact Nat.le_trans (List.length_filter_le ..) sm.ls
        rw [List.length_append]
        omega
      · have hp4 : H4 p = some (.lst (ys1 ++ ys2)) := e4 _ _ upd_same
        have st : ∀ (s : Step) y, StepIs s y H2 → StepIs s y (upd H4 p (.lst (ys1 ++ ys2 ++ ys3))) := fun s y h => ((h.upd hy2 (by simp) (o := .lst (ys1 ++ ys2))).mono e4).upd hp4 (by simp)
        refine s_ret (ev_var rfl) fun H5 e5 => k p H5 n1 ((e3.trans e4).mut n1 |>.trans e5) ⟨_, e5 _ _ upd_same, ?_⟩
        unfold followL
        refine paired_app (paired_app (paired_map2 (f := fun l : Ln => (l.2, l, (1 : Int))) (paired_imp (fun a y h => ?_) pr1)) (paired_map2 (f := fun l : Ln => (l.2, l, (1 : Int))) (paired_imp (fun a y h => ?_) pr2))) (paired_map2 (f := fun u : Ln × Int => (u.1.1, u.1, (-1 : Int))) (paired_imp (fun a y h => ?_) pr3))
        · exact (st _ _ (StepIs.mono h e2)).mono e5
        · exact (st _ _ h).mono e5
        · exact (StepIs.upd h hp4 (by simp)).mono e5
end
end St

end

section

set_option Elab.async false
set_option linter.all false
set_option maxRecDepth 100000
set_option maxHeartbeats 4000000
namespace St
open PySem PySem.Spec PyProof.Rows L2 Evl
def CameIs (r : Came) (kv : Key × V) (H : Hp) : Prop := kv.1 = ik r.1 ∧ match r.2 with
  | none => kv.2 = .non
  | some s => StepIs s kv.2 H
theorem CameIs.mono {r : Came} {kv : Key × V} {H H' : Hp} (h : CameIs r kv H) (e : Ex H H') : CameIs r kv H' := by
  obtain ⟨n, o⟩ := r
  refine ⟨h.1, ?_⟩
  cases o with
  | none => exact h.2
  | some s => exact StepIs.mono h.2 e
theorem CameIs.upd {r : Came} {kv : Key × V} {H : Hp} {D : Addr} {u o : HO} (h : CameIs r kv H) (hD : H D = some u) (hu : ∀ xs, u ≠ .tup xs) : CameIs r kv (L2.upd H D o) := by
  obtain ⟨n, z⟩ := r
  refine ⟨h.1, ?_⟩
  cases z with
  | none => exact h.2
  | some s => exact StepIs.upd h.2 hD hu
def RowsD (H : Hp) (p : Addr) (rows : List Came) : Prop := ∃ kvs, H p = some (.dK kvs) ∧ Paired (fun r kv => CameIs r kv H) rows kvs
theorem came_keys {H : Hp} {rows : List Came} {kvs : List (Key × V)} (pr : Paired (fun r kv => CameIs r kv H) rows kvs) : kvs.map (·.1) = (rows.map (·.1)).map ik := by
  induction pr with
  | nil => rfl
  | cons a b ih =>
    rw [List.map_cons, List.map_cons, List.map_cons, ih, a.1]
theorem valV_keys {kvs : List (Key × V)} {ks : List Nat} (h : kvs.map (·.1) = ks.map ik) (n : Nat) : (valV kvs (ik n)).isSome = decide (n ∈ ks) := by
  induction kvs generalizing ks with
  | nil =>
    cases ks with
    | nil => rfl
    | cons a b => cases h
  | cons p r ih =>
    cases ks with
    | nil => cases h
    | cons a b =>
      rw [List.map_cons, List.map_cons] at h
      injection h with h1 h2
      by_cases e : a = n
      · subst e
        rw [valV_pos h1]
        simp
      · rw [valV_neg (fun z => e (ik_inj (h1.symm.trans z))), ih h2]
        simp
        exact fun z => absurd z.symm e
section
variable {K : PySem.W.Frag} {σ : L2.St} {H H' : Hp} {ta tb td ty te tv tl : TE} {D : Ends} {tz tu : TS} {g : TG}
theorem en_dispV {n : Nat} {v : V} (h : Ev ta σ H (nV n)) (hv : Ev tv σ H v) : EvN (tDisp [(ta, tv)]) σ H (fun p H' => H' p = some (.dK [(ik n, v)])) := fun H1 e Q q => fun p hp => by
  have e1 : Ex H (upd H1 p (.dK [])) := e.trans (Ex.new hp)
  refine h _ e1 _ fun H2 e2 => hv _ (e1.trans e2) _ fun H3 e3 => ⟨e3 _ _ (e2 _ _ upd_same), [(ik n, v)], rfl, by simp, ?_⟩
  exact q p _ hp ((((Ex.new hp).trans e2).trans e3).mut hp) upd_same
/-- for x in a new list whose items are told by a relation -/
theorem s_forNP {Rr : List V → Hp → Prop} (h : EvN tl σ H (fun p H' => ∃ ys, H' p = some (.lst ys) ∧ Rr ys H')) (Pv : Addr → List V → Nat → L2.St → Hp → Prop) (h0 : ∀ p ys H1, H p = none → Ex H H1 → H1 p = some (.lst ys) → Rr ys H1 → Pv p ys 0 σ H1) (hl : ∀ p ys i σ' H', Pv p ys i σ' H' → SqL K H' p ys)
    (hs : ∀ p ys i x σ' H', ys[i]? = some x → Pv p ys i σ' H' → g x σ' H' fun σ2 H2 => tu { D with nx := Pv p ys (i + 1), ct := Pv p ys (i + 1), bk := D.nx } σ2 H2) (hd : ∀ p ys σ' H', Pv p ys ys.length σ' H' → D.nx σ' H') : tFor (iList K tl) g tu D σ H :=
  h H (Ex.refl H) _ fun p H1 n e ⟨ys, hy, r⟩ => ⟨p, rfl, ⟨ys, sq_of hy⟩, for_list (Pv p ys) (h0 p ys H1 n e hy r) (fun i σ' H' _ q => hl p ys i σ' H' q) (hs p ys) (hd p ys)⟩
theorem q_forNP {Rr : List V → Hp → Prop} (h : EvN tl σ H (fun p H' => ∃ ys, H' p = some (.lst ys) ∧ Rr ys H')) (Pv : Addr → List V → Nat → L2.St → Hp → Prop) (h0 : ∀ p ys H1, H p = none → Ex H H1 → H1 p = some (.lst ys) → Rr ys H1 → Pv p ys 0 σ H1) (hl : ∀ p ys i σ' H', Pv p ys i σ' H' → SqL K H' p ys)
    (hs : ∀ p ys i x σ' H', ys[i]? = some x → Pv p ys i σ' H' → g x σ' H' fun σ2 H2 => tu { D with nx := Pv p ys (i + 1), ct := Pv p ys (i + 1), bk := tz D } σ2 H2) (hd : ∀ p ys σ' H', Pv p ys ys.length σ' H' → tz D σ' H') : tSeq (tFor (iList K tl) g tu) tz D σ H :=
  s_forNP (D := { D with nx := tz D }) h Pv h0 hl hs hd
end
section
variable {σ : L2.St} {H : Hp} {td ty tv : TE} {D : Ends} {tz : TS}
/-- told[n] = a new tuple, n new -/
theorem q_dputN {d : Addr} {kvs : List (Key × V)} {n : Nat} {xs : List V} (hd : H d = some (.dK kvs)) (hnone : valV kvs (ik n) = none) (hv : EvU tv σ H xs) (ho : Ev td σ H (.ref d)) (hy : Ev ty σ H (nV n)) (hz : kvs.length < 90000) (k : ∀ T H1, H T = none → Ex H H1 → H1 T = some (.tup xs) → tz D σ (upd H1 d (.dK (kvs ++ [(ik n, .ref T)])))) : tSeq (sDPut td ty tv) tz D σ H :=
  hv H (Ex.refl H) _ fun T H1 n1 e1 hT => ho H1 e1 _ fun H2 e2 => hy H2 (e1.trans e2) _ fun H3 e3 => ⟨d, _, rfl, DPut.k (k := ik n) (((e1.trans e2).trans e3) _ _ hd) (sz_lt (by omega)), by
    rw [putK_new _ hnone]
    exact k T H3 n1 ((e1.trans e2).trans e3) (e3 _ _ (e2 _ _ hT))⟩
end
theorem follow_small {free single : List Ln} {U : Us} (sm : SmallC free single U) {here : Nat} {s : Step} (h : s ∈ followL free single U here) : s.1 < 80 := by
  obtain ⟨n, l, d⟩ := s
  rcases follow_mem.mp h with ⟨h1, _, h3, _⟩ | ⟨h1, _, _, h3, _⟩ | ⟨c, h1, _, _, h3, _⟩
  · rw [h3]; exact (sm.f l h1).2
  · rw [h3]; exact (sm.s l h1).2
  · rw [h3]; exact (sm.u l (List.mem_map.mpr ⟨_, h1, rfl⟩)).1
theorem rch_len {free single : List Ln} {U : Us} {first : Nat} {rows : List Came} (R : RchP free single U first rows) : rows.length ≤ 80 := by
  have h := nodup_len (u := List.range 80) R.nd fun x hx => by
    obtain ⟨r, hr, rfl⟩ := List.mem_map.mp hx
    exact List.mem_range.mpr (R.small r hr)
  rw [List.length_map, List.length_range] at h
  exact h
/-- closed up to a place -/
def ClosedTo (free single : List Ln) (U : Us) (pl : Nat) (rows : List Came) : Prop := ∀ i, i < pl → ∀ r, rows[i]? = some r → ∀ s ∈ followL free single U r.1, s.1 ∈ rows.map (·.1)
theorem ClosedTo.ext {free single : List Ln} {U : Us} {pl : Nat} {rows e : List Came} (h : ClosedTo free single U pl rows) (hp : pl ≤ rows.length) : ClosedTo free single U pl (rows ++ e) := fun i hi r hr s hs => by
  rw [List.getElem?_append_left (by omega)] at hr
  rw [List.map_append]
  exact List.mem_append_left _ (h i hi r hr s hs)
def sp_Cut_reached (K : PySem.W.Frag) : Sp := spN (fun vs H (z : List Ln × List Ln × Us × Nat) => ∃ c L q fr sg us f fs free single U count, vs = [.ref c] ∧ CutAt K H c L q fr sg us (nV f) fs free single U count ∧ SmallC free single U ∧ f < 80 ∧ z = (free, single, U, f))
  fun z p H => ∃ rows, RchP z.1 z.2.1 z.2.2.1 z.2.2.2 rows ∧ Closed z.1 z.2.1 z.2.2.1 rows ∧ RowsD H p rows
section
variable {P : Program} {w : World} {K : PySem.W.Frag} {mg : Str → Option Value} {base : Heap}
abbrev N_Cut_reached : List Str := ["self", "told", "due", "place", "number", "line", "direction"]
theorem sc_Cut_reached : FnScope N_Cut_reached ["self"] d_Cut_reached.scope := ⟨rfl, rfl, rfl, by decide +kernel, rfl, by decide +kernel, by decide +kernel⟩
theorem ok_Cut_reached (T : Txt K mg) : Ok P w K mg base CX0 2 d_Cut_reached ["self"] (sp_Cut_reached K) := by
  have G_Cut_follow : Ok P w K mg base CX0 1 d_Cut_follow ["self", "here"] (sp_Cut_follow K) := ok_Cut_follow T
  refine ok0 T.u_Cut_reached sc_Cut_reached (fun _ _ _ _ _ _ us hl => match us, hl with | [_], _ => rfl) (fun vs H Q E h => ?_) (fun cdv A outer s H vs Q E hr h => ?_)
  · obtain ⟨_, ⟨_, _, _, _, _, _, _, _, _, _, _, _, rfl, _⟩, _⟩ := h
    rfl
  have nd := sc_Cut_reached.nd
  refine ⟨_, (pss_cons (ps_set (i := 1) nd rfl (Or.inl rfl) (pe_disp (pps_cons (wfld K (pv 0)) pe_non pps_nil) (by rfl) (by rfl) (fun z => by cases z) (by decide)))
  (pss_cons (ps_set (i := 2) nd rfl (Or.inl rfl) (pe_lst (pa_cons (wfld K (pv 0)) pa_nil)))
  (pss_cons (ps_set (i := 3) nd rfl (Or.inl rfl) pe_int)
  (pss_cons (ps_while PassesOwn.never (pt_cmpR op_lt (pv 3) (wlen K rfl T.f_len (pv 2)) (nomark _)) (pss_cons (ps_for PassesOwn.never rfl (wlist K (pe_meth (pv 0) T.c_Cut T.m_Cut_follow G_Cut_follow.f (hr.mono (by decide)) G_Cut_follow.b .nil pass0 (pa_cons (wixL K (pv 2) (pv 3)) pa_nil))) (wtup K (n := 3) rfl (pgs_cons (pg_name (i := 4) nd rfl (Or.inl rfl)) (pgs_cons (pg_name (i := 5) nd rfl (Or.inl rfl)) (pgs_cons (pg_name (i := 6) nd rfl (Or.inl rfl)) pgs_nil)))) (pss_one (ps_if (pt_cmp (pc_dnotin (hu_of hr) (pv 4) (pv 1)) rfl) (pss_cons (ps_dput (hu_of hr) (pv 1) (pv 4) (pe_tup (pa_cons (wixL K (pv 2) (pv 3)) (pa_cons (pv 5) (pa_cons (pv 6) pa_nil)))) rfl)
  (pss_one (ps_expr (wapp K (pv 2) (pv 4))))) pss_nil)))
  (pss_one (ps_aug (i := 3) nd rfl (Or.inl rfl) pe_int ip_add))))
  (pss_one (ps_ret (pv 1))))))), ?_⟩
  obtain ⟨_, ⟨c, L, q, fr, sg, us, f, fs, free, single, U, count, rfl, hC, sm, hf80, rfl⟩, k⟩ := h
  refine q_asgN (en_dispV (n := f) (ev_cFirst T hC (ev_var rfl)) ev_c) fun t H1 n1 e1 ht => ?_
  refine q_asgL (el_lst (ea_one (ev_cFirst T (hC.mono e1) (ev_var rfl))) (by simp)) fun d H2 n2 e2 hd => ?_
  refine q_asg (v := .int 0) ev_c fun H3 e3 => ?_
  have nt : H t = none := n1
  have ndu : H d = none := fresh_back e1 n2
  have htd : t ≠ d := fun z => by rw [← z, ht] at n2; cases n2
  have e03 := (e1.trans e2).trans e3
  refine q_while (fun m σ' H' => ∃ (pl : Nat) (rows : List Came) (x4 x5 x6 : Option V), σ' = [some (.ref c), some (.ref t), some (.ref d), some (nV pl), x4, x5, x6] ∧ m = 100 - pl ∧ pl ≤ rows.length ∧ Ex H H' ∧ RowsD H' t rows ∧ H' d = some (.lst ((rows.map (·.1)).map nV)) ∧ RchP free single U f rows ∧ ClosedTo free single U pl rows)
    100 ⟨0, [(f, none)], _, _, _, rfl, rfl, by simp, e03, ⟨[(ik f, .non)], e3 _ _ (e2 _ _ ht), .cons ⟨rfl, rfl⟩ .nil⟩, e3 _ _ hd, rch_start hf80, fun i hi => by omega⟩ fun m σ' H' hW => ?_
  obtain ⟨pl, rows, x4, x5, x6, rfl, hm, hpl, e, ⟨kvs, hkv, pk⟩, hdu, R, hcl⟩ := hW
  have h80 := rch_len R
  refine ⟨decide (pl < rows.length), et_test (ev_is (ev_op (ev_var rfl) (ev_len (ev_var rfl) (sq_of hdu)) rv_I0) (by congr 1; simp)), fun hb H4 e4 => ?_, fun hb H4 e4 => ?_⟩
  · have hlt : pl < rows.length := of_decide_eq_true hb
    have hrp : rows[pl]? = some rows[pl] := List.getElem?_eq_getElem hlt
    generalize rows[pl] = rp at hrp
    have hC4 := hC.mono (e.trans e4)
    obtain ⟨dx, hobj⟩ := hC4.obj
    refine ⟨fun σ2 H2 => ∃ (pl : Nat) (rows : List Came) (x4 x5 x6 : Option V), σ2 = [some (.ref c), some (.ref t), some (.ref d), some (nV pl), x4, x5, x6] ∧ 100 - pl < m ∧ pl ≤ rows.length ∧ Ex H H2 ∧ RowsD H2 t rows ∧ H2 d = some (.lst ((rows.map (·.1)).map nV)) ∧ RchP free single U f rows ∧ ClosedTo free single U pl rows,
      fun σ2 H2 ⟨pl', rows', y4, y5, y6, h1, h2, h3⟩ => ⟨100 - pl', h2, pl', rows', y4, y5, y6, h1, rfl, h3⟩, ?_⟩
    have hdat : ((rows.map (·.1)).map nV)[pl]? = some (nV rp.1) := by rw [List.getElem?_map, List.getElem?_map, hrp]; rfl
    refine q_forNP (Rr := fun ys H' => Paired (fun s y => StepIs s y H') (followL free single U rp.1) ys) (en_meth (ev_var rfl) hobj (cF_none) (ea_one (ev_ixL (i := pl) (ev_var rfl) (ev_var rfl) (sq_of (e4 _ _ hdu)) hdat)) fun H5 e5 => ⟨c, L, q, fr, sg, us, nV f, fs, free, single, U, count, rp.1, rfl, hC4.mono e5, sm, rfl⟩)
      (fun p ys i σ2 H2 => ∃ (rows' ext : List Came) (y4 y5 y6 : Option V), σ2 = [some (.ref c), some (.ref t), some (.ref d), some (nV pl), y4, y5, y6] ∧ rows' = rows ++ ext ∧ Ex H H2 ∧ p ≠ t ∧ p ≠ d ∧ H2 p = some (.lst ys) ∧ Paired (fun s y => StepIs s y H2) (followL free single U rp.1) ys ∧ RowsD H2 t rows' ∧ H2 d = some (.lst ((rows'.map (·.1)).map nV)) ∧
        RchP free single U f rows' ∧ ClosedTo free single U pl rows' ∧ ∀ s ∈ (followL free single U rp.1).take i, s.1 ∈ rows'.map (·.1))
      (fun p ys H5 n5 e5 hp pr => ⟨rows, [], _, _, _, rfl, (List.append_nil _).symm, (e.trans e4).trans e5, (fun z => by rw [z, e4 _ _ hkv] at n5; cases n5), (fun z => by rw [z, e4 _ _ hdu] at n5; cases n5), hp, pr, ⟨kvs, e5 _ _ (e4 _ _ hkv), paired_imp (fun a b h => CameIs.mono h (e4.trans e5)) pk⟩, e5 _ _ (e4 _ _ hdu), R, hcl, fun s hs => by simp at hs⟩)
      (fun p ys i σ2 H2 ⟨_, _, _, _, _, _, _, _, _, _, hp, _⟩ => sq_of hp) (fun p ys i x σ2 H2 hx hW => ?_) fun p ys σ2 H2 hW => ?_
    · obtain ⟨rows', ext, y4, y5, y6, rfl, hext, e2', hpt, hpd, hp, pr, ⟨kvs', hkv', pk'⟩, hdu', R', hcl', hdone⟩ := hW
      have hil := (List.getElem?_eq_some_iff.mp hx).1
      have hzl := paired_len pr
      have hzi : (followL free single U rp.1)[i]? = some ((followL free single U rp.1)[i]'(by omega)) := List.getElem?_eq_getElem (by omega)
      generalize ((followL free single U rp.1)[i]'(by omega)) = s at hzi
      have hsm : s ∈ followL free single U rp.1 := List.mem_of_getElem? hzi
      obtain ⟨ts, tl, rfl, hts, htl⟩ := paired_at pr hzi hx
      have hrp' : rows'[pl]? = some rp := by rw [hext, List.getElem?_append_left hlt]; exact hrp
      have h80' := rch_len R'
      have hdone' : ∀ (r2 : List Came), (∀ k, k ∈ rows'.map (·.1) → k ∈ r2.map (·.1)) → s.1 ∈ r2.map (·.1) → ∀ s' ∈ (followL free single U rp.1).take (i + 1), s'.1 ∈ r2.map (·.1) := fun r2 hsub hs s' hs' => by
        rw [take_snoc hzi] at hs'
        rcases List.mem_append.mp hs' with h | h
        · exact hsub _ (hdone s' h)
        · rw [List.mem_singleton.mp h]
          exact hs
      refine ⟨ts, _, rfl, st_of hts, rfl, nV s.1, [.ref tl, .int s.2.2], rfl, .ref tl, [.int s.2.2], rfl, .int s.2.2, [], rfl, rfl, ?_⟩
      refine s_when (b := !decide (s.1 ∈ rows'.map (·.1))) (et_B (ev_is (ev_dniK (n := s.1) (ev_var rfl) (ev_var rfl) (.inl hkv')) (by rw [valV_keys (came_keys pk')]))) (fun hb H5 e5 => ?_) fun hb H5 e5 => ?_
      · have hnew : s.1 ∉ rows'.map (·.1) := by simpa using hb
        have hnone : valV kvs' (ik s.1) = none := by
          have := valV_keys (came_keys pk') s.1
          rw [decide_eq_false hnew] at this
          cases hv : valV kvs' (ik s.1) with
          | none => rfl
          | some v => rw [hv] at this; cases this
        refine q_dputN (kvs := kvs') (n := s.1) (e5 _ _ hkv') hnone (eu_three (ev_ixL (i := pl) (ev_var rfl) (ev_var rfl) (sq_of (e5 _ _ hdu')) (by rw [List.getElem?_map, List.getElem?_map, hrp']; rfl)) (ev_var rfl) (ev_var rfl)) (ev_var rfl) (ev_var rfl) (by have := paired_len pk'; omega) fun tn H6 n6 e6 htn => ?_
        have e56 := e5.trans e6
        have hkv6 : H6 t = some (.dK kvs') := e56 _ _ hkv'
        have hd6 : (upd H6 t (.dK (kvs' ++ [(ik s.1, .ref tn)]))) d = some (.lst ((rows'.map (·.1)).map nV)) := by rw [upd_ne (Ne.symm htd)]; exact e56 _ _ hdu'
        refine s_app hd6 (ev_var rfl) (ev_var rfl) (by rw [List.length_map, List.length_map]; omega) fun H7 e7 => ?_
        have hd7 := e7 _ _ hd6
        have ht7 : H7 t = some (.dK (kvs' ++ [(ik s.1, .ref tn)])) := e7 _ _ upd_same
        have stp : ∀ (s' : Step) y, StepIs s' y H6 → StepIs s' y (upd H7 d (.lst ((rows'.map (·.1)).map nV ++ [nV s.1]))) := fun s' y h => ((h.upd hkv6 (by simp)).mono e7).upd hd7 (by simp)
        have cmp : ∀ r kv, CameIs r kv H6 → CameIs r kv (upd H7 d (.lst ((rows'.map (·.1)).map nV ++ [nV s.1]))) := fun r kv h => ((h.upd hkv6 (by simp)).mono e7).upd hd7 (by simp)
        have hmem : (s.1, s.2.1, s.2.2) ∈ followL free single U rp.1 := hsm
        have e27 : Ex H (upd H7 d (.lst ((rows'.map (·.1)).map nV ++ [nV s.1]))) := ((((e2'.trans e56).mut nt)).trans e7).mut ndu
        refine ⟨rows' ++ [(s.1, some (rp.1, s.2.1, s.2.2))], ext ++ [(s.1, some (rp.1, s.2.1, s.2.2))], _, _, _, rfl, by rw [hext, List.append_assoc], e27, hpt, hpd, ?_, ?_, ⟨kvs' ++ [(ik s.1, .ref tn)], ?_, ?_⟩, ?_, ?_, hcl'.ext (by rw [hext, List.length_append]; omega), hdone' _ (fun k hk => by rw [List.map_append]; exact List.mem_append_left _ hk) (by rw [List.map_append]; simp)⟩
        · rw [upd_ne hpd]
          exact e7 _ _ (by rw [upd_ne hpt]; exact e56 _ _ hp)
        · exact paired_imp (fun a b h => stp _ _ (StepIs.mono h e56)) pr
        · rw [upd_ne htd]
          exact ht7
        · refine paired_snoc (paired_imp (fun a b h => cmp _ _ (CameIs.mono h e56)) pk') ⟨rfl, ?_⟩
          exact stp _ _ ⟨tn, tl, rfl, htn, e56 _ _ htl⟩
        · rw [upd_same, List.map_append, List.map_append]
          rfl
        · obtain ⟨n0, c0⟩ := rp
          exact rch_snoc R' hnew (follow_small sm hsm) hrp' hmem
      · have hin : s.1 ∈ rows'.map (·.1) := by simpa using hb
        exact ⟨rows', ext, _, _, _, rfl, hext, e2'.trans e5, hpt, hpd, e5 _ _ hp, paired_imp (fun a b h => StepIs.mono h e5) pr, ⟨kvs', e5 _ _ hkv', paired_imp (fun a b h => CameIs.mono h e5) pk'⟩, e5 _ _ hdu', R', hcl', hdone' rows' (fun _ h => h) hin⟩
    · obtain ⟨rows', ext, y4, y5, y6, rfl, hext, e2', hpt, hpd, hp, pr, hrd, hdu', R', hcl', hdone⟩ := hW
      rw [← paired_len pr, List.take_length] at hdone
      have hlen' : rows.length ≤ rows'.length := by rw [hext, List.length_append]; omega
      refine s_aug (a := (pl : Int)) (b := 1) rfl ev_c fun H5 e5 => ⟨pl + 1, rows', y4, y5, y6, rfl, by omega, by omega, e2'.trans e5, ?_, e5 _ _ hdu', R', fun i hi r hr s hs => ?_⟩
      · obtain ⟨kvs', hkv', pk'⟩ := hrd
        exact ⟨kvs', e5 _ _ hkv', paired_imp (fun a b h => CameIs.mono h e5) pk'⟩
      · by_cases hil : i < pl
        · exact hcl' i hil r hr s hs
        · have ei : i = pl := by omega
          subst ei
          have : rows'[i]? = some rp := by rw [hext, List.getElem?_append_left hlt]; exact hrp
          rw [this] at hr
          cases hr
          exact hdone s hs
  · have hge : ¬ pl < rows.length := of_decide_eq_false hb
    refine s_ret (ev_var rfl) fun H5 e5 => k t H5 nt ((e.trans e4).trans e5) ⟨rows, R, fun r hr s hs => ?_, ⟨kvs, e5 _ _ (e4 _ _ hkv), paired_imp (fun a b h => CameIs.mono h (e4.trans e5)) pk⟩⟩
    obtain ⟨i, hi⟩ := List.mem_iff_getElem?.mp hr
    have := (List.getElem?_eq_some_iff.mp hi).1
    exact hcl i (by omega) r hi s hs
end
end St

end

section

set_option Elab.async false
set_option linter.all false
set_option maxRecDepth 100000
set_option maxHeartbeats 4000000
namespace St
open PySem PySem.Spec PyProof.Rows L2 Evl
/-- lines between meetings, each once -/
structure LinesP (es : Es) (free single : List Ln) : Prop where
  fm : ∀ l ∈ free, l.1 ∈ meetings es ∧ l.2 ∈ meetings es
  sm : ∀ l ∈ single, l.1 ∈ meetings es ∧ l.2 ∈ meetings es
  fn : free.Nodup
  sn : single.Nodup
  dis : ∀ l ∈ free, l ∉ single
theorem LinesP.smallC {es : Es} {free single : List Ln} {U : Us} {first : Nat} {isEnd : Nat → Bool} {count : Int} (h : LinesP es free single) (g : Good es) (F : FlowP free single first isEnd U count) : SmallC free single U := by
  have f1 : Small free := fun l hl => ⟨meet80 g (h.fm l hl).1, meet80 g (h.fm l hl).2⟩
  have f2 : Small single := fun l hl => ⟨meet80 g (h.sm l hl).1, meet80 g (h.sm l hl).2⟩
  have f3 : Small (U.map (·.1)) := fun l hl => (F.keys l hl).elim (f1 l) (f2 l)
  refine ⟨f1, f2, f3, small_len h.fn f1, small_len h.sn f2, ?_, F.nd⟩
  have := small_len F.nd f3
  rw [List.length_map] at this
  exact this
theorem LinesP.rows {es : Es} {free single : List Ln} {U : Us} {first : Nat} {isEnd : Nat → Bool} {count : Int} {rows : List Came} (h : LinesP es free single) (F : FlowP free single first isEnd U count) (hf : first ∈ meetings es) (R : RchP free single U first rows) : ∀ r ∈ rows, r.1 ∈ meetings es :=
  rch_in R (M := fun n => n ∈ meetings es) hf h.fm h.sm fun l hl => (F.keys l hl).elim (h.fm l) (h.sm l)
/-- what the filling leaves -/
def FillP (free single : List Ln) (first : Nat) (isEnd : Nat → Bool) (U : Us) (count : Int) : Prop := FlowP free single first isEnd U count ∧ ∃ rows, RchP free single U first rows ∧ Closed free single U rows ∧ ∀ r ∈ rows, isEnd r.1 = false
def KeepC (c us : Addr) (H H' : Hp) : Prop := ∀ b o, b ≠ c → b ≠ us → H b = some o → H' b = some o
def sp_Cut_fill (K : PySem.W.Frag) : Sp := fun vs H Q _ => ∃ c L es q fr sg us f fs free single, vs = [.ref c] ∧ LG K H L es ∧ CutAt K H c L q fr sg us (nV f) fs free single [] 0 ∧ fr ≠ us ∧ fs.length ≤ 30000 ∧ LinesP es free single ∧ f ∈ meetings es ∧
  (∃ S : Nat → Bool, S f = true ∧ (∀ n, isFind es n fs = true → S n = false) ∧ ∀ l ∈ free, S l.1 = true → S l.2 = true) ∧
  ∀ H' U (n : Nat), KeepC c us H H' → CutAt K H' c L q fr sg us (nV f) fs free single U (n : Int) → FillP free single f (fun n => isFind es n fs) U (n : Int) → Q .non H'
theorem keepC_ex {c us : Addr} {H H' H2 : Hp} (h : KeepC c us H H') (e : Ex H' H2) : KeepC c us H H2 := fun b o h1 h2 hb => e _ _ (h b o h1 h2 hb)
section
variable {K : PySem.W.Frag} {H H' H2 : Hp} {c L q fr sg us : Addr} {first : V} {fs : List (Nat × Nat)} {free single : List Ln} {U : Us} {count : Int}
theorem keepC_log {es : Es} (hC : CutAt K H c L q fr sg us first fs free single U count) (h : LG K H L es) (k : KeepC c us H H') : LG K H' L es := by
  obtain ⟨dxc, hc⟩ := hC.obj
  obtain ⟨En, as, hL, g⟩ := h
  have ne : ∀ b o, H b = some o → (∀ dx, o ≠ .ins (cCut K) dx (cF L q fr sg us first count)) → o ≠ .dT (uT U) → H' b = some o := fun b o hb h1 h2 => k b o (fun z => by
    subst z
    rw [hb] at hc
    exact h1 dxc (Option.some.inj hc)) (fun z => by
    subst z
    have := hC.used
    rw [hb] at this
    exact h2 (Option.some.inj this)) hb
  refine ⟨En, as, ⟨?_, ne _ _ hL.lst (by simp) (by simp), hL.len, hL.nd, fun i hi => ?_⟩, g⟩
  · obtain ⟨dx, hd⟩ := hL.obj
    exact ⟨dx, ne _ _ hd (fun dx' z => by
      have := (HO.ins.inj z).2.2
      unfold cF at this
      cases this) (by simp)⟩
  · obtain ⟨a, ha, he⟩ := hL.at_ i hi
    obtain ⟨dx, l, h1, h2⟩ := he.ex
    exact ⟨a, ha, ⟨dx, l, ne _ _ h1 (fun dx' z => by
      have := (HO.ins.inj z).2.2
      unfold cF eF at this
      injection this with h3 _
      injection h3 with h4 _
      revert h4
      decide +kernel) (by simp), ne _ _ h2 (by simp) (by simp)⟩⟩
/-- the object and the dict of loads are written -/
theorem cut_count (hC : CutAt K H c L q fr sg us first fs free single U count) (dx : Addr) (hc : ∃ o, H c = some o ∧ ∀ xs, o ≠ .tup xs) {n : Int} (hd : ∃ dx, H c = some (.ins (cCut K) dx (cF L q fr sg us first count))) : CutAt K (upd H c (.ins (cCut K) dx (cF L q fr sg us first n))) c L q fr sg us first fs free single U n := by
  obtain ⟨dx0, h0⟩ := hd
  have ne : ∀ b o, H b = some o → (∀ dx fs, o ≠ .ins (cCut K) dx fs) → (upd H c (.ins (cCut K) dx (cF L q fr sg us first n))) b = some o := fun b o hb h1 => by
    rw [upd_ne (fun z => by subst z; rw [hb] at h0; exact h1 _ _ (Option.some.inj h0))]
    exact hb
  refine ⟨⟨dx, upd_same⟩, ?_, ne _ _ hC.free (by simp), ?_, ne _ _ hC.used (by simp)⟩
  · obtain ⟨ys, h1, h2⟩ := hC.finds
    exact ⟨ys, ne _ _ h1 (by simp), paired_imp (fun a y ⟨t, e1, e2⟩ => ⟨t, e1, ne _ _ e2 (by simp)⟩) h2⟩
  · obtain ⟨ys, h1, h2⟩ := hC.single
    exact ⟨ys, ne _ _ h1 (by simp), paired_imp (fun a y ⟨t, e1, e2⟩ => ⟨t, e1, ne _ _ e2 (by simp)⟩) h2⟩
theorem cut_used (hC : CutAt K H c L q fr sg us first fs free single U count) (hne : fr ≠ us) (V : Us) : CutAt K (upd H us (.dT (uT V))) c L q fr sg us first fs free single V count := by
  obtain ⟨dx0, h0⟩ := hC.obj
  refine ⟨⟨dx0, by rw [upd_ne (ne_of h0 hC.used (by intro z; cases z))]; exact h0⟩, hC.finds.but hC.used rfl, ?_, hC.single.but hC.used rfl, upd_same⟩
  rw [upd_ne hne]
  exact hC.free
end
theorem came_val {H : Hp} {rows : List Came} {kvs : List (Key × V)} (pr : Paired (fun r kv => CameIs r kv H) rows kvs) (hn : (rows.map (·.1)).Nodup) {i n : Nat} {c : Option Step} (hi : rows[i]? = some (n, c)) :
    ∃ v, valV kvs (ik n) = some v ∧ CameIs (n, c) (ik n, v) H := by
  induction pr generalizing i with
  | nil => cases hi
  | @cons r kv rs ks h t ih =>
    rw [List.map_cons, List.nodup_cons] at hn
    cases i with
    | zero =>
      cases hi
      obtain ⟨k, v⟩ := kv
      have hk : k = ik n := h.1
      subst hk
      exact ⟨v, valV_pos rfl, h⟩
    | succ i =>
      have hi' : rs[i]? = some (n, c) := by simpa using hi
      obtain ⟨v, h1, h2⟩ := ih hn.2 hi'
      refine ⟨v, ?_, h2⟩
      rw [valV_neg (fun z => hn.1 ?_)]
      · exact h1
      · have e : r.1 = n := ik_inj (h.1.symm.trans z)
        rw [e]
        exact List.mem_map.mpr ⟨_, List.mem_of_getElem? hi', rfl⟩
section
variable {P : Program} {w : World} {K : PySem.W.Frag} {mg : Str → Option Value} {base : Heap}
theorem cF_put {L q fr sg us : Addr} {first : V} {n m : Int} : putF "count" (.int m) (cF L q fr sg us first n) = cF L q fr sg us first m := by
  unfold cF
  rw [putF_past (by decide +kernel), putF_past (by decide +kernel), putF_past (by decide +kernel), putF_past (by decide +kernel), putF_past (by decide +kernel), putF_past (by decide +kernel)]
  rfl
theorem q_dputU {σ : L2.St} {H : Hp} {D : Ends} {tz : TS} {td ty tv : TE} {us tl : Addr} {U : Us} {l : Ln} {c : Int} (hd : H us = some (.dT (uT U))) (hv : Ev tv σ H (.int c)) (ho : Ev td σ H (.ref us)) (hy : Ev ty σ H (.ref tl)) (ht : H tl = some (.tup [nV l.1, nV l.2])) (hz : U.length < 90000) (k : ∀ H1, Ex H H1 → tz D σ (upd H1 us (.dT (uT (uput U l c))))) : tSeq (sDPut td ty tv) tz D σ H :=
  hv H (Ex.refl H) _ fun H1 e1 => ho H1 e1 _ fun H2 e2 => hy H2 (e1.trans e2) _ fun H3 e3 => ⟨us, _, rfl, DPut.t (k := kk l) (((e1.trans e2).trans e3) _ _ hd) (((e1.trans e2).trans e3) _ _ ht) (by rw [uT_len]; exact sz_lt (by omega)), by
    rw [uT_put]
    exact k H3 ((e1.trans e2).trans e3)⟩
theorem paired_upd {H : Hp} {D : Addr} {u o : HO} {rows : List Came} {kvs : List (Key × V)} (pk : Paired (fun r kv => CameIs r kv H) rows kvs) (hD : H D = some u) (hu : ∀ xs, u ≠ .tup xs) : Paired (fun r kv => CameIs r kv (upd H D o)) rows kvs := paired_imp (fun a b h => h.upd hD hu) pk
theorem paired_ex {H H' : Hp} {rows : List Came} {kvs : List (Key × V)} (pk : Paired (fun r kv => CameIs r kv H) rows kvs) (e : Ex H H') : Paired (fun r kv => CameIs r kv H') rows kvs := paired_imp (fun a b h => h.mono e) pk
abbrev N_Cut_fill : List Str := ["self", "is_going", "rows", "ends", "step", "number"]
theorem sc_Cut_fill : FnScope N_Cut_fill ["self"] d_Cut_fill.scope := ⟨rfl, rfl, rfl, by decide +kernel, rfl, by decide +kernel, by decide +kernel⟩
theorem ok_Cut_fill (T : Txt K mg) : Ok P w K mg base CX0 3 d_Cut_fill ["self"] (sp_Cut_fill K) := by
  have G_Cut_reached : Ok P w K mg base CX0 2 d_Cut_reached ["self"] (sp_Cut_reached K) := ok_Cut_reached T
  have G_Log_is_find : Ok P w K mg base CX0 1 d_Log_is_find ["self", "number", "finds"] (sp_Log_is_find K) := ok_Log_is_find T
  refine ok0 T.u_Cut_fill sc_Cut_fill (fun _ _ _ _ _ _ us hl => match us, hl with | [_], _ => rfl) (fun vs H Q E h => ?_) (fun cdv A outer s H vs Q E hr h => ?_)
  · obtain ⟨_, _, _, _, _, _, _, _, _, _, _, rfl, _⟩ := h
    rfl
  have nd := sc_Cut_fill.nd
  refine ⟨_, (pss_cons (ps_set (i := 1) nd rfl (Or.inl rfl) pe_bl)
  (pss_one (ps_while PassesOwn.never (pt_val (pv 1)) (pss_cons (ps_set (i := 2) nd rfl (Or.inl rfl) (pe_meth0 (pv 0) T.c_Cut T.m_Cut_reached G_Cut_reached.f (hr.mono (by decide)) G_Cut_reached.b .nil pass0))
  (pss_cons (ps_free (ps_setLc (i := 3) (own := [("number", 5)]) rfl nd rfl rfl (sw_true rfl rfl rfl (by decide +kernel)) (pi_keysL (pv 2)) (blkOk_by (N := N_Cut_fill) (sc := d_Cut_fill.scope) (by decide +kernel)) (fun _ _ _ _ _ => (pg_name (i := 5) nd rfl (Or.inl rfl))) (fun _ _ _ _ _ => (pts_one (pt_val (pe_meth (wfld K (pv 0)) T.c_Log T.m_Log_is_find G_Log_is_find.f (hr.mono (by decide)) G_Log_is_find.b .nil pass0 (pa_cons (pv 5) (pa_cons (wfld K (pv 0)) pa_nil)))))) (fun _ _ _ _ _ => (pv 5))))
  (pss_cons (ps_set (i := 1) nd rfl (Or.inl rfl) (pe_cmpR op_gt (wlen K rfl T.f_len (pv 3)) pe_int (nomark _)))
  (pss_one (ps_if (pt_val (pv 1)) (pss_cons (sfldaug K (pv 0) pe_int in_add)
  (pss_cons (ps_set (i := 4) nd rfl (Or.inl rfl) (pe_dget (hu_of hr) (pv 2) (wixL K (pv 3) pe_int) (fun _ _ => rfl)))
  (pss_one (ps_while PassesOwn.never (pt_cmpR op_notN (pv 4) pe_non (nomark _)) (pss_cons (ps_dput (hu_of hr) (wfld K (pv 0)) (wixT K (pv 4) pe_int) (pe_op op_add (pe_dget2 (hu_of hr) (wfld K (pv 0)) (wixT K (pv 4) pe_int) pe_int ⟨rfl, rfl, rfl, rfl⟩) (wixT K (pv 4) pe_int)) rfl)
  (pss_one (ps_set (i := 4) nd rfl (Or.inl rfl) (pe_dget (hu_of hr) (pv 2) (wixT K (pv 4) pe_int) (fun _ _ => rfl))))))))) pss_nil)))))))), ?_⟩
  obtain ⟨c, L, es, q, fr, sg, us, f, fs, free, single, rfl, hLG, hC, hfu, hfz, hP, hf, ⟨S0, s1, s2, s3⟩, k⟩ := h
  have g : Good es := let ⟨_, _, _, g⟩ := hLG; g
  have F0 : FlowP free single f (fun n => isFind es n fs) [] 0 := ⟨by simp, by simp, fun l => by simp [usedOf], fun l _ => by simp [usedOf], fun S _ _ => by simp [flow]⟩
  refine q_asg (v := .bl true) ev_c fun H1 e1 => ?_
  refine s_while (fun m σ' H' => ∃ (go : Bool) (U : Us) (n : Nat) (x2 x3 x4 x5 : Option V), σ' = [some (.ref c), some (.bl go), x2, x3, x4, x5] ∧ KeepC c us H H' ∧ CutAt K H' c L q fr sg us (nV f) fs free single U (n : Int) ∧ FlowP free single f (fun n => isFind es n fs) U (n : Int) ∧
    ((go = true ∧ m = single.length + 1 - n) ∨ (go = false ∧ m = 0 ∧ FillP free single f (fun n => isFind es n fs) U (n : Int))))
    (single.length + 1) ⟨true, [], 0, _, _, _, _, rfl, fun b o _ _ hb => e1 _ _ hb, hC.mono e1, F0, .inl ⟨rfl, rfl⟩⟩ fun m σ' H' hW => ?_
  obtain ⟨go, U, n, x2, x3, x4, x5, rfl, kp, hC', F, hgo⟩ := hW
  refine ⟨go, et_B (ev_var rfl), fun hg H2 e2 => ?_, fun hg H2 e2 => ?_⟩
  · subst hg
    obtain ⟨_, hm⟩ | ⟨h0, _⟩ := hgo
    rotate_left
    · cases h0
    have hC2 := hC'.mono e2
    have kp2 := keepC_ex kp e2
    have hLG2 : LG K H2 L es := keepC_log hC hLG kp2
    have hn : (n : Int) ≤ single.length := flow_le F s1 s2 s3
    obtain ⟨dx, hobj⟩ := hC2.obj
    have sC := hP.smallC g F
    refine ⟨fun σ2 H3 => ∃ m', m' < m ∧ ∃ (go : Bool) (U : Us) (n : Nat) (x2 x3 x4 x5 : Option V), σ2 = [some (.ref c), some (.bl go), x2, x3, x4, x5] ∧ KeepC c us H H3 ∧ CutAt K H3 c L q fr sg us (nV f) fs free single U (n : Int) ∧ FlowP free single f (fun n => isFind es n fs) U (n : Int) ∧
      ((go = true ∧ m' = single.length + 1 - n) ∨ (go = false ∧ m' = 0 ∧ FillP free single f (fun n => isFind es n fs) U (n : Int))), fun σ2 H3 h => h, ?_⟩
    refine q_asgN (en_meth (ev_var rfl) hobj (cF_none) ea_nil fun H3 e3 => ⟨c, L, q, fr, sg, us, f, fs, free, single, U, (n : Int), rfl, hC2.mono e3, sC, meet80 g hf, rfl⟩) fun t H3 n3 e3 ⟨rows, R, hcl, kvs, hkv, pk⟩ => ?_
    have hC3 := hC2.mono e3
    have hLG3 := hLG2.mono e3
    have hrm := hP.rows F hf R
    have h80 := rch_len R
    refine q_asgF (en_keysK (l := rows) (p := fun r => isFind es r.1 fs) (RA := fun (r : Came) y _ => y = nV r.1) (key := fun r => ik r.1) Stays.val Unl.val (ev_var rfl) hkv (by rw [came_keys pk, List.map_map]; rfl) (by omega) fun o H4 r e4 hr => ?_) fun en H4 n4 e4 ⟨ys, hys, pys⟩ => ?_
    · obtain ⟨En, as, hL3, _⟩ := hLG3
      have hL4 : LogAt K H4 L En as es := (hL3.but hkv rfl).mono e4
      obtain ⟨⟨dx', hobj'⟩, _, hq', _, _⟩ := hC3.lk hkv rfl o
      exact Turns.name rfl (et_B (lg_meth hL4 (ev_fld (ev_var rfl) (e4 _ _ hobj') T.c_Cut T.n_Cut_log cF_log) (by decide +kernel) (ea_two (ev_var rfl) (ev_fld (ev_var rfl) (e4 _ _ hobj') T.c_Cut T.n_Cut_finds cF_finds)) fun H5 e5 => ⟨L, es, r.1, q, fs, rfl, ⟨En, as, hL4.mono e5, g⟩, (mem_meetings.mp (hrm r hr)).1, (hq'.mono e4).mono e5, hfz, rfl⟩)) fun _ => Ev.p (ev_var rfl) fun _ _ => rfl
    · have hys' : ys = (rows.filter fun r => isFind es r.1 fs).map fun r => nV r.1 := paired_map pys
      subst hys'
      have e24 := e3.trans e4
      have kp4 := keepC_ex kp2 e24
      have hC4 := hC2.mono e24
      refine q_asg (v := .bl (decide (0 < (rows.filter fun r => isFind es r.1 fs).length))) (ev_is (ev_gtI (ev_len (ev_var rfl) (sq_of hys)) ev_c) (by rw [List.length_map]; congr 1; simp)) fun H5 e5 => ?_
      have hC5 := hC4.mono e5
      have kp5 := keepC_ex kp4 e5
      refine s_when (b := decide (0 < (rows.filter fun r => isFind es r.1 fs).length)) (et_B (ev_var rfl)) (fun hb H6 e6 => ?_) fun hb H6 e6 => ?_
      · have e36 : Ex H3 H6 := (e4.trans e5).trans e6
        have hC6 := hC3.mono e36
        have kp6 := keepC_ex kp5 e6
        obtain ⟨dx6, hobj6⟩ := hC6.obj
        obtain ⟨r0, rest, hr0⟩ : ∃ r0 rest, (rows.filter fun r => isFind es r.1 fs) = r0 :: rest := by
          cases hc : rows.filter fun r => isFind es r.1 fs with
          | nil => rw [hc] at hb; simp at hb
          | cons a b => exact ⟨a, b, rfl⟩
        have hr0m : r0 ∈ rows ∧ isFind es r0.1 fs = true := List.mem_filter.mp (by rw [hr0]; exact List.mem_cons_self ..)
        obtain ⟨i0, hi0⟩ := List.mem_iff_getElem?.mp hr0m.1
        obtain ⟨n0, c0⟩ := r0
        refine ⟨_, rfl, c, cCut K, dx6, cF L q fr sg us (nV f) (n : Int), .int (n : Int), rfl, hobj6, T.c_Cut, T.n_Cut_count, cF_count, (n : Int), 1, rfl, rfl, dx6, cF L q fr sg us (nV f) (n : Int), hobj6, by simp [cF], ?_⟩
        rw [cF_put]
        have hC7 := cut_count (n := (n : Int) + 1) hC6 dx6 ⟨_, hobj6, by simp⟩ ⟨dx6, hobj6⟩
        have kp7 : KeepC c us H (upd H6 c (.ins (cCut K) dx6 (cF L q fr sg us (nV f) ((n : Int) + 1)))) := fun b o h1 h2 hbo => by
          rw [upd_ne h1]
          exact kp6 b o h1 h2 hbo
        have hkv6 : H6 t = some (.dK kvs) := e36 _ _ hkv
        have htc : t ≠ c := ne_of hkv6 hobj6 (by intro z; cases z)
        have hkv7 : (upd H6 c (.ins (cCut K) dx6 (cF L q fr sg us (nV f) ((n : Int) + 1)))) t = some (.dK kvs) := by rw [upd_ne htc]; exact hkv6
        have pk7 := paired_upd (o := .ins (cCut K) dx6 (cF L q fr sg us (nV f) ((n : Int) + 1))) (paired_ex pk e36) hobj6 (by simp)
        have hen6 : H6 en = some (.lst ((rows.filter fun r => isFind es r.1 fs).map fun r => nV r.1)) := (e5.trans e6) _ _ hys
        have hen7 : (upd H6 c (.ins (cCut K) dx6 (cF L q fr sg us (nV f) ((n : Int) + 1)))) en = some (.lst ((rows.filter fun r => isFind es r.1 fs).map fun r => nV r.1)) := by rw [upd_ne (ne_of hen6 hobj6 (by intro z; cases z))]; exact hen6
        generalize (upd H6 c (.ins (cCut K) dx6 (cF L q fr sg us (nV f) ((n : Int) + 1)))) = H7 at hC7 kp7 hkv7 pk7 hen7
        obtain ⟨v0, hv0, hcv0⟩ := came_val pk7 R.nd hi0
        refine q_asg (v := v0) (ev_dgetK (n := n0) (ev_var rfl) (ev_ixL (i := 0) (ev_var rfl) ev_c (sq_of hen7) (by rw [hr0]; rfl)) (.inl hkv7) hv0) fun H8 e8 => ?_
        refine s_while (fun m2 σ2 H2 => ∃ (i n2 : Nat) (cme : Option Step) (v : V) (U' : Us) (y5 : Option V), rows[i]? = some (n2, cme) ∧ m2 = i ∧ σ2 = [some (.ref c), some (.bl true), some (.ref t), some (.ref en), some v, y5] ∧ CameIs (n2, cme) (ik n2, v) H2 ∧ KeepC c us H H2 ∧
          CutAt K H2 c L q fr sg us (nV f) fs free single U' ((n : Int) + 1) ∧ BackP free single U (n : Int) f (fun n => isFind es n fs) rows i n2 U' ∧ H2 t = some (.dK kvs) ∧ Paired (fun r kv => CameIs r kv H2) rows kvs)
          i0 ⟨i0, n0, c0, v0, U, _, hi0, rfl, by rw [hb]; rfl, hcv0.mono e8, keepC_ex kp7 e8, hC7.mono e8, back_start F hr0m.2, e8 _ _ hkv7, paired_ex pk7 e8⟩ fun m2 σ2 H9 hW2 => ?_
        obtain ⟨i, n2, cme, v, U', y5, hi, em, rfl, hcv, kp9, hC9, B, hkv9, pk9⟩ := hW2
        refine ⟨cme.isSome, et_test (ev_is (ev_op (ev_var rfl) ev_c (rv_val fun H1 _ Q z => ⟨rfl, z⟩)) ?_), fun hs H10 e10 => ?_, fun hs H10 e10 => ?_⟩
        · cases cme with
          | none =>
            have : v = .non := hcv.2
            rw [this]
            rfl
          | some s =>
            obtain ⟨t1, tl, e1, _⟩ := (show StepIs s v H9 from hcv.2)
            rw [e1]
            rfl
        · cases cme with
          | none => cases hs
          | some s =>
            obtain ⟨p, l, d⟩ := s
            obtain ⟨t1, tl, rfl, ht1, htl⟩ := (show StepIs (p, l, d) v H9 from hcv.2)
            obtain ⟨j, cj, hji, hj, hmem⟩ := R.came i n2 p l d hi
            have hC10 := hC9.mono e10
            have hus : U'.length < 90000 := by
              have h1 := small_len B.nd (fun l hl => (B.keys l hl).elim (fun h => ⟨meet80 g (hP.fm l h).1, meet80 g (hP.fm l h).2⟩) fun h => ⟨meet80 g (hP.sm l h).1, meet80 g (hP.sm l h).2⟩)
              rw [List.length_map] at h1
              omega
            have ht10 := e10 _ _ ht1
            have htl10 := e10 _ _ htl
            refine ⟨fun σ3 H3 => ∃ m3, m3 < m2 ∧ ∃ (i n2 : Nat) (cme : Option Step) (v : V) (U' : Us) (y5 : Option V), rows[i]? = some (n2, cme) ∧ m3 = i ∧ σ3 = [some (.ref c), some (.bl true), some (.ref t), some (.ref en), some v, y5] ∧ CameIs (n2, cme) (ik n2, v) H3 ∧ KeepC c us H H3 ∧
              CutAt K H3 c L q fr sg us (nV f) fs free single U' ((n : Int) + 1) ∧ BackP free single U (n : Int) f (fun n => isFind es n fs) rows i n2 U' ∧ H3 t = some (.dK kvs) ∧ Paired (fun r kv => CameIs r kv H3) rows kvs, fun σ3 H3 h => h, ?_⟩
            refine q_dputU (c := usedOf U' l + d) (l := l) hC10.used (ev_op (ev_dget2U (l := l) (ev_cUsed T hC10 (ev_var rfl)) (ev_ixT (i := 1) (ev_var rfl) ev_c (st_of ht10) rfl) htl10 ev_c (.inl hC10.used)) (ev_ixT (i := 2) (ev_var rfl) ev_c (st_of ht10) rfl) rv_I0) (ev_cUsed T hC10 (ev_var rfl)) (ev_ixT (i := 1) (ev_var rfl) ev_c (st_of ht10) rfl) htl10 hus fun H11 e11 => ?_
            have hC11 := hC10.mono e11
            have hC12 := cut_used hC11 hfu (uput U' l (usedOf U' l + d))
            have hus11 := hC11.used
            have kp12 : KeepC c us H (upd H11 us (.dT (uT (uput U' l (usedOf U' l + d))))) := fun b o h1 h2 hbo => by
              rw [upd_ne h2]
              exact e11 _ _ (e10 _ _ (kp9 b o h1 h2 hbo))
            have hkv11 := e11 _ _ (e10 _ _ hkv9)
            have htu : t ≠ us := ne_of hkv11 hus11 (by intro z; cases z)
            have pk12 := paired_upd (o := .dT (uT (uput U' l (usedOf U' l + d)))) (paired_ex pk9 (e10.trans e11)) hus11 (by simp)
            have ht12 : (upd H11 us (.dT (uT (uput U' l (usedOf U' l + d))))) t1 = some (.tup [nV p, .ref tl, .int d]) := by rw [upd_ne (ne_of (e11 _ _ ht10) hus11 (by intro z; cases z))]; exact e11 _ _ ht10
            have hkv12 : (upd H11 us (.dT (uT (uput U' l (usedOf U' l + d))))) t = some (.dK kvs) := by rw [upd_ne htu]; exact hkv11
            obtain ⟨v2, hv2, hcv2⟩ := came_val pk12 R.nd hj
            refine s_asg (v := v2) (ev_dgetK (n := p) (ev_var rfl) (ev_ixT (i := 0) (ev_var rfl) ev_c (st_of ht12) rfl) (.inl hkv12) hv2) fun H13 e13 => ⟨j, by omega, j, p, cj, v2, _, y5, hj, rfl, rfl, hcv2.mono e13, keepC_ex kp12 e13, hC12.mono e13, back_step hP.dis F R B hi hj hji hmem, e13 _ _ hkv12, paired_ex pk12 e13⟩
        · cases cme with
          | some s => cases hs
          | none =>
            have hi00 := R.only i n2 hi
            subst hi00
            have hnf : n2 = f := by
              rw [R.head] at hi
              cases hi
              rfl
            subst hnf
            have F2 := back_end B
            have hn2 := flow_le F2 s1 s2 s3
            have hnn : ((n : Int) + 1) = ((n + 1 : Nat) : Int) := by omega
            rw [hnn] at F2 hn2
            refine ⟨single.length + 1 - (n + 1), by omega, true, U', n + 1, _, _, _, _, rfl, keepC_ex kp9 e10, ?_, F2, .inl ⟨rfl, rfl⟩⟩
            rw [← hnn]
            exact hC9.mono e10
      · have hnil : (rows.filter fun r => isFind es r.1 fs) = [] := by
          have := of_decide_eq_false hb
          exact List.eq_nil_of_length_eq_zero (by omega)
        refine ⟨0, by omega, false, U, n, _, _, _, _, by rw [hb]; rfl, keepC_ex kp5 e6, hC5.mono e6, F, .inr ⟨rfl, rfl, F, rows, R, hcl, fun r hr => ?_⟩⟩
        show isFind es r.1 fs = false
        cases he : isFind es r.1 fs with
        | false => rfl
        | true =>
          have : r ∈ rows.filter fun r => isFind es r.1 fs := List.mem_filter.mpr ⟨hr, he⟩
          rw [hnil] at this
          cases this
  · subst hg
    obtain ⟨h0, _⟩ | ⟨_, _, hF⟩ := hgo
    · cases h0
    · exact k H2 U n (keepC_ex kp e2) (hC'.mono e2) hF
end
end St

end

section

set_option Elab.async false
set_option linter.all false
set_option maxRecDepth 100000
set_option maxHeartbeats 4000000
namespace St
open PySem PySem.Spec PyProof.Rows L2 Evl
/-! ### xs.extend(a tuple) -/
theorem extend_tup (l : Addr) (items : Array Value) (n : Nat) (b : Addr) (more : Array Value) (k : Nat) (dd : Option Addr) (sl : Array (Option Value)) (z0 : ¬(!items.isEmpty && Builtin.List.listTooLong (items.size + more.size)) = true) (z1 : items.size ≤ sizeLine) (z2 : items.size + more.size ≤ sizeLine + 1) :
    Meets (Builtin.«list.extend» ⟨[.ref l, .ref b], []⟩) (fun _ R s => s.heap.get? l = some { cls := .type "list", dict := none, data := .seq items n, slots := #[] } ∧ s.heap.get? b = some { cls := .type "tuple", dict := dd, data := .seq more k, slots := sl } ∧
      R (.ok (.ret Value.none)) { s with heap := s.heap.update l (Obj.mapSeq fun x => x ++ more), toks := s.toks }) := .of_wp fun prog w A R s ⟨hl, hb, h⟩ => by
  obtain ⟨hp, g, d, tk, os⟩ := s
  have g1 := AutoSeq1.idx_int; have g2 := sub_tuple_tuple; have g3 := sub_list_list; have g4 := sub_tuple_list; have g5 := sub_list_tuple
  have z3 : (items ++ more).size ≤ sizeLine + 1 := (Array.size_append ..).symm ▸ z2
  wp_walk using (wpAny_updateSeq hl rfl (hz := z1) (_hz' := z3)), wpAny_loadPart' hl, wpAny_loadPart' hb
  exact ⟨_, rfl, h⟩
def rExtT (K : PySem.W.Frag) : V → List V → Hp → VK → Prop := fun x vs H Q => ∃ l b xs zs, x = .ref l ∧ vs = [.ref b] ∧ H l = some (.lst xs) ∧ SqT K H b zs ∧ xs.length + zs.length ≤ sizeLine ∧ Q .non (upd H l (.lst (xs ++ zs)))
theorem mt_extT {X : Cx} : MtM X "list.extend" (rExtT X.K) := by
  intro pins s σ H x vs v us Q I rx rv h
  obtain ⟨l, b, xs, zs, rfl, rfl, hl0, hb0, hz, q⟩ := h
  cases rx
  obtain ⟨u, rfl, ru⟩ := rv.one
  cases ru
  obtain ⟨z, its, n, r, hl, e⟩ := I.lstM hl0
  obtain ⟨more, r2, ⟨⟨oc, od, odt, osl⟩, e2, hc, k, hd⟩, _⟩ := I.tuple hb0
  simp only at hc hd
  subst hc hd
  have l2 := r2.length
  have sz : its.toArray.size + more.toArray.size ≤ sizeLine := by rw [List.size_toArray, List.size_toArray, ← l2, ← hl]; exact hz
  have nolong : ¬ (!its.toArray.isEmpty && Builtin.List.listTooLong (its.toArray.size + more.toArray.size)) = true := by rw [notLongL sz, Bool.and_false]; decide
  refine call_meets F.slot_list_extend ⟨_, e, rfl⟩ F.entry_list_extend (F.args_list_extend_2 _ _) (extend_tup l its.toArray n b more.toArray k od osl nolong (by omega) (by omega)) ⟨e, e2, ?_⟩
  exact ⟨.non, _, I.lset (its' := its ++ more) hl0 e (by simp) (r.append r2) (by rw [List.length_append]; exact hz), rfl, q⟩
section
variable {X : Cx} {o e : Expr} {to te : TE} {cpos apos : Pos}
theorem wextT (K : PySem.W.Frag) (ho : PE X o to) (ha : PE X e te) (hbase : attributeBase o "extend" X.env (eval o X.env) = eval o X.env := by rfl)
    (hfew : ((backTo cpos (starEach [e] X.env)).all (fun x => !x.1) && (backToKw cpos (keywordEach [] X.env)).all (fun x => x.1.isSome) && decide ([e].length + ([] : List Keyword).length + (if ([] : List Keyword).isEmpty then 0 else 1) < 30)) = true := by rfl)
    (hline : (apos.endLine == cpos.line) = true := by rfl) (hs : starEach [e] X.env = (false, eval e X.env) :: starEach [] X.env := by rfl) (hplain : (backTo cpos (starEach [] X.env)).any (·.1) = false := by rfl) (hK : X.K = K := by rfl) :
    PE X (.Call (.Attribute o "extend" apos) [e] [] cpos) (tBM K "list" (rExtT K) to (tCons te tNil)) := by
  subst hK
  exact pe_bm PySem.F.plainAttrs_list PySem.F.slot_list_extend PySem.F.type_list_extend mt_extT ho (pa_cons ha pa_nil hs) hbase hfew hline hs hplain
theorem s_extT {K : PySem.W.Frag} {σ : L2.St} {H : Hp} {ta te : TE} {D : Ends} {l b : Addr} {xs ys : List V} (hl : H l = some (.lst xs)) (hb : SqT K H b ys) (ha : Ev ta σ H (.ref l)) (h : Ev te σ H (.ref b)) (hz : xs.length + ys.length ≤ 100000) (k : ∀ H1, Ex H H1 → D.nx σ (upd H1 l (.lst (xs ++ ys)))) :
    tDrop (tBM K "list" (rExtT K) ta (tCons te tNil)) D σ H := ha H (Ex.refl H) _ fun H1 e1 =>
  ⟨Or.inl ⟨rfl, xs, sq_of (e1 l _ hl)⟩, h H1 e1 _ fun H2 e2 => ⟨l, b, xs, ys, rfl, rfl, e2 l _ (e1 l _ hl), ex_t (e1.trans e2) hb, sz_of hz, k H2 (e1.trans e2)⟩⟩
end
/-! ### C(..) in a try: its __init__ may raise -/
def tMakeS (C : Addr) (sp : Sp) (E : L2.St → XK) (t : TA) : TE := fun σ H Q => t σ H fun vs H1 => ∀ x dx, H1 x = none → H1 dx = none → dx ≠ x → sp (.ref x :: vs) (upd (upd H1 dx (.own x)) x (.ins C dx [])) (fun v H2 => v = .non ∧ Q (.ref x) H2) (E σ)
section
variable {X : Cx} {CX : CXT} {k : Nat} {f C : Addr} {fd : FuncData} {ps : List Str} {sp : Sp} {E : L2.St → XK} {x : Str} {p pos : Pos} {e : Expr} {es : List Expr} {t : TA}
theorem run_makeS {pins : List (Addr × Obj)} {σ : L2.St} {H : Hp} {s : Shared} {Q : VK} {us : List Value} {vs : List V} (M : Mk X.K C f) (F : FnOk X.prog X.w X.K X.mg X.base CX k f fd ps sp) (hr : Room (k + 1) X.A) (hb : Binds X.K fd ps []) (hx : PassesAt CX X σ (E σ)) (I : Inv X pins σ H s) (r : Vals vs us)
    (h : ∀ x dx, H x = none → H dx = none → dx ≠ x → sp (.ref x :: vs) (upd (upd H dx (.own x)) x (.ins C dx [])) (fun v H2 => v = .non ∧ Q (.ref x) H2) (E σ)) : wpAny (model X.prog X.w) X.A (call (.ref C) us) (EP X pins σ Q) X.xe s := by
  have hq := h (s.heap.objs.size + 1) s.heap.objs.size (I.hok.fresh (Nat.le_succ _)) (I.hok.fresh (Nat.le_refl _)) (Nat.ne_of_lt (Nat.lt_succ_self _))
  have J := Inv.made (C := C) I
  have rr : Vals (V.ref (s.heap.objs.size + 1) :: vs) (Value.ref (s.heap.objs.size + 1) :: us) := .cons rfl r
  have hl : (Value.ref (s.heap.objs.size + 1) :: us ++ []).length = ps.length := by
    rw [List.append_nil, ← rr.length]
    exact F.len _ _ _ _ hq
  have bnd := hb _ (Value.ref (s.heap.objs.size + 1) :: us) J.kIn hl
  rw [List.append_nil] at bnd
  refine wpAny_call (make_map (f := f) I.kIn M.makes M.init (beq_iff_eq.mp M.fn) (codeAny_mono (F.run _ X.stack _ _ ⟨Value.ref (s.heap.objs.size + 1) :: us, []⟩ _ _ _ (E σ) (hr.make C us []) (J.env0.make C us []) bnd rr hq) fun res s' hres => ?_))
  match res, hres with
  | .error e, hres => exact hx pins _ _ e s' J hres
  | .ok (.ret u), hres =>
    obtain ⟨v, H', J2, rv, ev, q3⟩ := J.after hres
    subst ev
    exact ⟨rv, V.ref (s.heap.objs.size + 1), H', J2, rfl, q3⟩
  | .ok .next, hres => exact hres.elim
  | .ok .brk, hres => exact hres.elim
  | .ok .cont, hres => exact hres.elim
theorem wmakeS (M : Mk X.K C f) (F : FnOk X.prog X.w X.K X.mg X.base CX k f fd ps sp) (hr : Room (k + 1) X.A) (hg : Gl X x) (hm : X.mg x = some (.ref C)) (hb : Binds X.K fd ps []) (hx : ∀ σ, PassesAt CX X σ (E σ)) (ha : PA X (e :: es) t)
    (hdb : (x == ("__debug__" : Str)) = false := by decide) (he : starEach (e :: es) X.env = (false, eval e X.env) :: starEach es X.env := by rfl) (hpl : (backTo pos (starEach es X.env)).any (·.1) = false := by rfl) :
    PE X (.Call (.Name x p) (e :: es) [] pos) (tMakeS C sp E t) :=
  ⟨fun pins s σ H Q I h => wpAny_Call_Name_kw (ld_glob I hg hm (PySem.W.callWith_K (h₀ := X.base) I.ok.mod.kin M.kp (thn (ha.run pos pins s σ H _ I h) fun us s1 ⟨vs, H1, I1, r, q⟩ => ⟨I1.kIn, run_makeS M F hr hb (hx σ) I1 r q⟩) he hpl) hdb)⟩
end
/-! ### a def out of a table, called in a try -/
structure HeldX (P : Program) (w : World) (K : PySem.W.Frag) (mg : Str → Option Value) (base : Heap) (CX : CXT) (k : Nat) (f : Addr) (sp : Sp) : Prop where
  ex : ∃ (fd : FuncData) (ps : List Str), FnOk P w K mg base CX k f fd ps sp ∧ PySem.W.keepIn K (.ref f) = true ∧ Binds K fd ps []
def tCallD (i : Nat) (S : Addr → Option Sp) (E : L2.St → XK) (t : TA) : TE := fun σ H Q => ∃ f sp, σ[i]? = some (some (.ref f)) ∧ S f = some sp ∧ t σ H fun vs H1 => sp vs H1 Q (E σ)
theorem wcallD {X : Cx} {CX : CXT} {k i : Nat} {E : L2.St → XK} {S : Addr → Option Sp} {x : Str} {p pos : Pos} {e : Expr} {es : List Expr} {t : TA} (A : ∀ f sp, S f = some sp → HeldX X.prog X.w X.K X.mg X.base CX k f sp) (hr : Room k X.A) (hN : X.N[i]? = some x) (hv : Vis X.env.scope x) (hx : ∀ σ, PassesAt CX X σ (E σ)) (ha : PA X (e :: es) t)
    (hdb : (x == ("__debug__" : Str)) = false := by decide) (hcd : (x == ("__classdict__" : Str)) = false := by decide) (he : starEach (e :: es) X.env = (false, eval e X.env) :: starEach es X.env := by rfl) (hpl : (backTo pos (starEach es X.env)).any (·.1) = false := by rfl) :
    PE X (.Call (.Name x p) (e :: es) [] pos) (tCallD i S E t) := by
  refine ⟨fun pins s σ H Q I ⟨f, sp, hs, hS, ht⟩ => ?_⟩
  obtain ⟨fd, ps, F, hk, hb⟩ := (A f sp hS).ex
  refine wpAny_Call_Name_kw (thn ((pe_var (pos := p) hN hv hdb hcd).run pins s σ H (fun v H1 => v = .ref f ∧ H1 = H) I ⟨.ref f, hs, rfl, rfl⟩) fun u s1 ⟨v, H1, I1, r1, ev, eH⟩ => ?_)
  rw [eH] at I1
  rw [ev] at r1
  cases r1
  exact PySem.W.callWith_K (h₀ := X.base) I.ok.mod.kin hk (thn (ha.run pos pins s1 σ _ _ I1 ht) fun us s2 ⟨vs, H2, I2, r, q⟩ => ⟨I2.kIn, run_fnS F hr hb (hx σ) I2 r q⟩) he hpl
/-- none leaves it: so nothing more than may -/
theorem FnOk.calm {P : Program} {w : World} {K : PySem.W.Frag} {mg : Str → Option Value} {base : Heap} {CX : CXT} {k : Nat} {f : Addr} {fd : FuncData} {ps : List Str} {sp : Sp} (F : FnOk P w K mg base CX0 k f fd ps sp) : FnOk P w K mg base CX k f fd ps sp :=
  ⟨F.len, fun A outer s H args us vs Q E hr he hb hv hs => codeAny_mono (F.run A outer s H args us vs Q E hr he hb hv hs) fun r s' hq => by
    match r, hq with
    | .error e, hq => exact (show False from hq).elim
    | .ok (.ret u), hq => exact hq
    | .ok .next, hq => exact hq
    | .ok .brk, hq => exact hq
    | .ok .cont, hq => exact hq⟩
end St

end

section

set_option Elab.async false
set_option linter.all false
set_option maxRecDepth 100000
set_option maxHeartbeats 4000000
namespace St
open PySem PySem.Spec PyProof.Rows L2 Evl
theorem filter_one {α : Type} (p : α → Bool) (a : α) : [a].filter p = if p a = true then [a] else [] := by
  cases h : p a <;> simp [List.filter_cons, h]
def tripleOf (es : Es) (l : Ln) : List Int := [((ent es l.1).thing : Int), ((ent es l.1).minute : Int), ((ent es l.2).minute : Int)]
def leT (es : Es) (a b : Ln) : Bool := decide (tripleOf es a ≤ tripleOf es b)
def cutSet (single : List Ln) (rows : List Came) : List Ln := single.filter fun l => decide (l.1 ∈ rows.map (·.1)) && !decide (l.2 ∈ rows.map (·.1))
def TriAt (H : Hp) (p : Addr) (ls : List (List Int)) : Prop := ∃ ys, H p = some (.lst ys) ∧ Paired (fun (z : List Int) (y : V) => ∃ t, y = .ref t ∧ H t = some (.tup (z.map .int))) ls ys
/-- what is told of the cut lines -/
def CutTold (es : Es) (free single : List Ln) (fo : Option Nat) (U : Us) (n : Nat) (ls : List (List Int)) : Prop :=
  (n = 0 ∧ ls = []) ∨ (n ≠ 0 ∧ ∃ f rows, fo = some f ∧ RchP free single U f rows ∧ Closed free single U rows ∧ ls = ((cutSet single rows).mergeSort (leT es)).map (tripleOf es))
def sp_Cut_lines (K : PySem.W.Frag) : Sp := spN (fun vs H (z : Es × List Ln × List Ln × Option Nat × Us × Nat) => ∃ c L es q fr sg us fo fs free single U, ∃ n : Nat, vs = [.ref c] ∧ LG K H L es ∧ CutAt K H c L q fr sg us (oV fo) fs free single U (n : Int) ∧ LinesP es free single ∧
  (n ≠ 0 → ∃ f, fo = some f ∧ f ∈ meetings es ∧ FlowP free single f (fun n => isFind es n fs) U (n : Int)) ∧ z = (es, free, single, fo, U, n)) fun z p H => ∃ ls, CutTold z.1 z.2.1 z.2.2.1 z.2.2.2.1 z.2.2.2.2.1 z.2.2.2.2.2 ls ∧ TriAt H p ls
section
variable {P : Program} {w : World} {K : PySem.W.Frag} {mg : Str → Option Value} {base : Heap}
abbrev N_Cut_lines : List Str := ["self", "held", "told", "first", "last", "entry"]
theorem sc_Cut_lines : FnScope N_Cut_lines ["self"] d_Cut_lines.scope := ⟨rfl, rfl, rfl, by decide +kernel, rfl, by decide +kernel, by decide +kernel⟩
theorem ok_Cut_lines (T : Txt K mg) : Ok P w K mg base CX0 3 d_Cut_lines ["self"] (sp_Cut_lines K) := by
  have G_Cut_reached : Ok P w K mg base CX0 2 d_Cut_reached ["self"] (sp_Cut_reached K) := ok_Cut_reached T
  refine ok0 T.u_Cut_lines sc_Cut_lines (fun _ _ _ _ _ _ us hl => match us, hl with | [_], _ => rfl) (fun vs H Q E h => ?_) (fun cdv A outer s H vs Q E hr h => ?_)
  · obtain ⟨_, ⟨_, _, _, _, _, _, _, _, _, _, _, _, _, rfl, _⟩, _⟩ := h
    rfl
  have nd := sc_Cut_lines.nd
  refine ⟨_, (pss_cons (ps_if (pt_cmpR op_eq (wfld K (pv 0)) pe_int (nomark _)) (pss_one (ps_ret (pe_lst pa_nil))) pss_nil)
  (pss_cons (ps_set (i := 1) nd rfl (Or.inl rfl) (pe_meth0 (pv 0) T.c_Cut T.m_Cut_reached G_Cut_reached.f (hr.mono (by decide)) G_Cut_reached.b .nil pass0))
  (pss_cons (ps_set (i := 2) nd rfl (Or.inl rfl) (pe_lst pa_nil))
  (pss_cons (ps_for PassesOwn.never rfl (wlist K (wfld K (pv 0))) (wtup K (n := 2) rfl (pgs_cons (pg_name (i := 3) nd rfl (Or.inl rfl)) (pgs_cons (pg_name (i := 4) nd rfl (Or.inl rfl)) pgs_nil))) (pss_one (ps_if (PW.pt (pw_and (pt_cmp (pc_din (hu_of hr) (pv 3) (pv 1)) rfl) (pw_and1 (pt_cmp (pc_dnotin (hu_of hr) (pv 4) (pv 1)) rfl)))) (pss_cons (ps_set (i := 5) nd rfl (Or.inl rfl) (wixL K (wfld K (wfld K (pv 0))) (pv 3)))
  (pss_one (ps_expr (wapp K (pv 2) (pe_tup (pa_cons (wfld K (pv 5)) (pa_cons (wfld K (pv 5)) (pa_cons (wfld K (wixL K (wfld K (wfld K (pv 0))) (pv 4))) pa_nil)))))))) pss_nil)))
  (pss_one (ps_ret (wsortT K (hD_of hr) rfl T.f_sorted (pv 2)))))))), ?_⟩
  obtain ⟨_, ⟨c, L, es, q, fr, sg, us, fo, fs, free, single, U, n, rfl, hLG, hC, hP, hn, rfl⟩, k⟩ := h
  refine q_when (b := decide (n = 0)) (et_test (ev_is (ev_op (ev_cCount T hC (ev_var rfl)) ev_c (rv_eq rfl)) (by congr 1; simp))) (fun hb H1 e1 => ?_) fun hb H1 e1 => ?_
  · exact s_retL (el_lst ea_nil (by simp)) fun p H2 n2 e2 h2 => k p H2 (fresh_back e1 n2) (e1.trans e2) ⟨[], .inl ⟨of_decide_eq_true hb, rfl⟩, [], h2, .nil⟩
  · have hn0 := of_decide_eq_false hb
    obtain ⟨f, rfl, hf, F⟩ := hn hn0
    have hC1 := hC.mono e1
    obtain ⟨En, as, hL, g⟩ := hLG.mono e1
    obtain ⟨dx, hobj⟩ := hC1.obj
    refine q_asgN (en_meth (ev_var rfl) hobj cF_none ea_nil fun H2 e2 => ⟨c, L, q, fr, sg, us, f, fs, free, single, U, (n : Int), rfl, hC1.mono e2, hP.smallC g F, meet80 g hf, rfl⟩) fun t H2 n2 e2 ⟨rows, R, hcl, kvs, hkv, pk⟩ => ?_
    refine q_asgL (el_lst ea_nil (by simp)) fun d H3 n3 e3 hd => ?_
    have e13 := e2.trans e3
    have hC3 := hC1.mono e13
    obtain ⟨zs, hzs, pz⟩ := id hC3.single
    have hkv3 := e3 _ _ hkv
    have hd0 : H1 d = none := fresh_back e2 n3
    have hd2 : H d = none := fresh_back e1 hd0
    have hsl : single.length ≤ 6400 := (hP.smallC g F).ls
    refine q_forL (a := sg) (xs := zs) (ev_cSingle T hC3 (ev_var rfl)) (sq_of hzs)
      (fun i σ' H' => (∃ x3 x4 x5, σ' = [some (.ref c), some (.ref t), some (.ref d), x3, x4, x5]) ∧ Ex H1 H' ∧ H' t = some (.dK kvs) ∧ H' sg = some (.lst zs) ∧ Paired (fun (p : Nat × Nat) (y : V) => ∃ t, y = .ref t ∧ H' t = some (.tup [nV p.1, nV p.2])) single zs ∧
        ∃ ys, H' d = some (.lst ys) ∧ Paired (fun (a : Ln) (y : V) => ∃ t, y = .ref t ∧ H' t = some (.tup ((tripleOf es a).map .int))) ((single.take i).filter fun l => decide (l.1 ∈ rows.map (·.1)) && !decide (l.2 ∈ rows.map (·.1))) ys)
      (fun H4 e4 => ⟨⟨_, _, _, rfl⟩, e13.trans e4, e4 _ _ hkv3, e4 _ _ hzs, paired_imp (fun a y ⟨t, h1, h2⟩ => ⟨t, h1, e4 _ _ h2⟩) pz, [], e4 _ _ hd, .nil⟩) (fun i σ' H' _ z => sq_of z.2.2.2.1) (fun i x σ' H' hx z => ?_) fun σ' H' z => ?_
    · obtain ⟨⟨x3, x4, x5, rfl⟩, e, hkv', hzs', pz', ys, hys, pys⟩ := z
      have hil := (List.getElem?_eq_some_iff.mp hx).1
      have hzl := paired_len pz
      have hli : single[i]? = some (single[i]'(by omega)) := List.getElem?_eq_getElem (by omega)
      generalize (single[i]'(by omega)) = l at hli
      obtain ⟨tl, rfl, htl⟩ := paired_at pz' hli hx
      have hlm := hP.sm l (List.mem_of_getElem? hli)
      have hi1 := (mem_meetings.mp hlm.1).1
      have hi2 := (mem_meetings.mp hlm.2).1
      have hstep : ((single.take (i + 1)).filter fun l => decide (l.1 ∈ rows.map (·.1)) && !decide (l.2 ∈ rows.map (·.1))) = ((single.take i).filter fun l => decide (l.1 ∈ rows.map (·.1)) && !decide (l.2 ∈ rows.map (·.1))) ++ if (decide (l.1 ∈ rows.map (·.1)) && !decide (l.2 ∈ rows.map (·.1))) = true then [l] else [] := by
        rw [take_snoc hli, List.filter_append]
        congr 1
        exact filter_one _ _
      refine ⟨tl, _, rfl, st_of htl, rfl, nV l.1, [nV l.2], rfl, nV l.2, [], rfl, rfl, ?_⟩
      refine s_when (b := decide (l.1 ∈ rows.map (·.1)) && !decide (l.2 ∈ rows.map (·.1))) (et_and (et_B (ev_is (ev_dinK (n := l.1) (ev_var rfl) (ev_var rfl) (.inl hkv')) (by rw [valV_keys (came_keys pk)]))) fun _ => et_B (ev_is (ev_dniK (n := l.2) (ev_var rfl) (ev_var rfl) (.inl hkv')) (by rw [valV_keys (came_keys pk)]))) (fun hb2 H4 e4 => ?_) fun hb2 H4 e4 => ?_
      · have e5 := e.trans e4
        have hC5 := hC1.mono e5
        have hL5 := hL.mono e5
        refine q_asg (ev_ent T hL5 (ev_cLog T hC5 (ev_var rfl)) (ev_var rfl) hi1) fun H5 e5' => ?_
        have e6 := e5.trans e5'
        have hC6 := hC1.mono e6
        have hL6 := hL.mono e6
        have hys6 := e5' _ _ (e4 _ _ hys)
        refine s_appU (ys := (tripleOf es l).map V.int) hys6 (ev_var rfl) (eu_three (ev_thing T (hL6.ent hi1) (ev_var rfl)) (ev_minute T (hL6.ent hi1) (ev_var rfl)) (ev_minute T (hL6.ent hi2) (ev_ent T hL6 (ev_cLog T hC6 (ev_var rfl)) (ev_var rfl) hi2))) ?_ fun tn H7 n7 e7 htn => ?_
        · rw [← paired_len pys]
          have h1 := List.length_filter_le (fun l : Ln => decide (l.1 ∈ rows.map (·.1)) && !decide (l.2 ∈ rows.map (·.1))) (single.take i)
          rw [List.length_take] at h1
          omega
        · have hys7 := e7 _ _ hys6
          have tup : ∀ b xs, H' b = some (.tup xs) → (upd H7 d (.lst (ys ++ [.ref tn]))) b = some (.tup xs) := fun b xs hb => by
            have h7 := e7 _ _ (e5' _ _ (e4 _ _ hb))
            rw [upd_ne (ne_of h7 hys7 (by intro z; cases z))]
            exact h7
          have hsgd : sg ≠ d := fun z => by
            obtain ⟨ws, hws, _⟩ := hC1.single
            rw [z, hd0] at hws
            cases hws
          refine ⟨⟨_, _, _, rfl⟩, (e6.trans e7).mut hd0, ?_, ?_, paired_imp (fun a y ⟨t, h1, h2⟩ => ⟨t, h1, tup _ _ h2⟩) pz', _, upd_same, ?_⟩
          · have h7 := e7 _ _ (e5' _ _ (e4 _ _ hkv'))
            rw [upd_ne (ne_of h7 hys7 (by intro z; cases z))]
            exact h7
          · rw [upd_ne hsgd]
            exact e7 _ _ (e5' _ _ (e4 _ _ hzs'))
          · rw [hstep, if_pos hb2]
            refine paired_snoc (paired_imp (fun a y ⟨t, h1, h2⟩ => ⟨t, h1, tup _ _ h2⟩) pys) ⟨tn, rfl, ?_⟩
            rw [upd_ne (ne_of htn hys7 (by intro z; cases z))]
            exact htn
      · refine ⟨⟨_, _, _, rfl⟩, e.trans e4, e4 _ _ hkv', e4 _ _ hzs', paired_imp (fun a y ⟨t, h1, h2⟩ => ⟨t, h1, e4 _ _ h2⟩) pz', ys, e4 _ _ hys, ?_⟩
        rw [hstep, if_neg (by rw [hb2]; decide), List.append_nil]
        exact paired_imp (fun a y ⟨t, h1, h2⟩ => ⟨t, h1, e4 _ _ h2⟩) pys
    · obtain ⟨⟨x3, x4, x5, rfl⟩, e, hkv', hzs', pz', ys, hys, pys⟩ := z
      rw [← paired_len pz, List.take_length] at pys
      refine s_retN (en_sortT (l := cutSet single rows) (f := tripleOf es) (le := leT es) (fun _ _ => by simp [tripleOf]) (fun a _ b _ => rfl) (Ev.p (ev_var rfl) fun H4 e4 => ⟨d, ys, rfl, e4 _ _ hys, paired_imp (fun a y ⟨t, h1, h2⟩ => ⟨t, h1, e4 _ _ h2⟩) pys⟩)) fun p H4 n4 e4 ⟨ws, hws, pw⟩ => k p H4 (fresh_back (e1.trans e) n4) ((e1.trans e).trans e4) ⟨_, .inr ⟨hn0, f, rows, rfl, R, hcl, rfl⟩, ws, hws, paired_map2 (F := fun (z : List Int) (y : V) => ∃ t, y = .ref t ∧ H4 t = some (.tup (z.map .int))) pw⟩
end
end St

end

section

/-! The plain law, part 4: what lines lead to. -/
namespace St
open TbStLog
def Before (l : List Nat) (a b : Nat) : Prop := ∃ pre post, l = pre ++ b :: post ∧ a ∈ pre
theorem sub_before {a b : Nat} : ∀ {l : List Nat}, [a, b].Sublist l → Before l a b
  | [], h => by cases h
  | x :: l, h => by
    cases h with
    | cons _ h =>
      obtain ⟨pre, post, e, ha⟩ := sub_before h
      exact ⟨x :: pre, post, by rw [e]; rfl, List.mem_cons_of_mem _ ha⟩
    | cons_cons _ h =>
      obtain ⟨s, t, e⟩ := List.append_of_mem (h.subset (List.mem_singleton.mpr rfl))
      exact ⟨a :: s, t, by rw [e]; rfl, List.mem_cons_self ..⟩
theorem consec_sub {l : List Nat} {a b : Nat} (h : (a, b) ∈ consec l) : [a, b].Sublist l := by
  obtain ⟨i, h1, h2⟩ := mem_consec.mp h
  obtain ⟨i1, e1⟩ := List.getElem?_eq_some_iff.mp h1
  obtain ⟨i2, e2⟩ := List.getElem?_eq_some_iff.mp h2
  have : l = l.take i ++ l[i] :: l[i + 1] :: l.drop (i + 2) := by
    conv => lhs; rw [← List.take_append_drop i l, List.drop_eq_getElem_cons i1, List.drop_eq_getElem_cons i2]
  rw [this, e1, e2]
  refine List.Sublist.trans ?_ (List.sublist_append_right ..)
  exact ((List.nil_sublist _).cons_cons b).cons_cons a
theorem foldl_reach_mem (ls : List (Nat × Nat)) {x : Nat} : ∀ (ms told : List Nat), x ∈ ms.foldl (reachStep ls) told → x ∈ told ∨ x ∈ ms
  | [], told, h => .inl h
  | n :: ms, told, h => by
    rcases foldl_reach_mem ls ms _ h with h | h
    · unfold reachStep at h
      split at h
      · rcases dput_mem.mp h with h | h
        · exact .inl h
        · exact .inr (by rw [h]; exact List.mem_cons_self ..)
      · exact .inl h
    · exact .inr (List.mem_cons_of_mem _ h)
theorem step_mono (ls : List (Nat × Nat)) (told : List Nat) (n x : Nat) (h : x ∈ told) : x ∈ reachStep ls told n := by
  unfold reachStep
  split
  · exact dput_mem.mpr (.inl h)
  · exact h
theorem foldl_reach_mono (ls : List (Nat × Nat)) {x : Nat} : ∀ (ms told : List Nat), x ∈ told → x ∈ ms.foldl (reachStep ls) told
  | [], told, h => h
  | n :: ms, told, h => foldl_reach_mono ls ms _ (step_mono ls told n x h)
theorem step_in {ls : List (Nat × Nat)} {told : List Nat} {o n : Nat} (h : o ∈ told) (hl : (o, n) ∈ ls) : n ∈ reachStep ls told n := by
  unfold reachStep
  rw [if_pos (List.any_eq_true.mpr ⟨o, h, by simpa using hl⟩)]
  exact dput_mem.mpr (.inr rfl)
/-- lines go forth in the meetings' order -/
def Forth (es : Es) (ls : List (Nat × Nat)) : Prop := ∀ l ∈ ls, Before (meetings es) l.1 l.2
theorem forth_consec {es : Es} {l : List Nat} {p : Nat × Nat} (h : l.Sublist (meetings es)) (hp : p ∈ consec l) : Before (meetings es) p.1 p.2 := sub_before ((consec_sub hp).trans h)
theorem forth_lot (es : Es) : Forth es (lotLinesL es) := fun p h => by
  unfold lotLinesL at h
  rw [foldl_dput_mem] at h
  rcases h with h | h
  · cases h
  · obtain ⟨x, _, hx⟩ := List.mem_flatMap.mp h
    exact forth_consec List.filter_sublist hx
theorem forth_thing (es : Es) (more : List (Nat × Nat)) : Forth es (thingLinesL es more) := fun p h => by
  unfold thingLinesL at h
  rw [foldl_dput_mem] at h
  rcases h with h | h
  · cases h
  · obtain ⟨x, _, hx⟩ := List.mem_flatMap.mp h
    exact forth_consec List.filter_sublist (List.mem_filter.mp hx).1
theorem forth_all (es : Es) (more : List (Nat × Nat)) : Forth es (allLines es more) := fun p h => by
  unfold allLines at h
  rw [foldl_dput_mem] at h
  exact h.elim (forth_lot es p) (forth_thing es more p)
theorem reached_first {es : Es} {y t f : Nat} {ls : List (Nat × Nat)} (h : firstM es y t = some f) : f ∈ reached es y t ls := by
  unfold reached
  rw [h]
  exact foldl_reach_mono ls _ _ (List.mem_singleton.mpr rfl)
theorem reached_closed {es : Es} {y t : Nat} {ls : List (Nat × Nat)} (hf : Forth es ls) : ∀ l ∈ ls, l.1 ∈ reached es y t ls → l.2 ∈ reached es y t ls := by
  intro l hl h
  unfold reached at h ⊢
  cases hc : firstM es y t with
  | none => rw [hc] at h; cases h
  | some f =>
    rw [hc] at h
    obtain ⟨pre, post, e, ha⟩ := hf l hl
    have hn := meetings_nodup es
    show l.2 ∈ (meetings es).foldl (reachStep ls) [f]
    have h : l.1 ∈ (meetings es).foldl (reachStep ls) [f] := h
    rw [e] at h hn ⊢
    rw [List.foldl_append, List.foldl_cons] at h ⊢
    refine foldl_reach_mono ls _ _ ?_
    have hne : l.1 ≠ l.2 := fun z => (List.nodup_append.mp hn).2.2 l.1 ha l.2 (List.mem_cons_self ..) z
    have hnp : l.1 ∉ post := fun z => (List.nodup_append.mp hn).2.2 l.1 ha l.1 (List.mem_cons_of_mem _ z) rfl
    have h1 : l.1 ∈ pre.foldl (reachStep ls) [f] := by
      rcases foldl_reach_mem ls _ _ h with h | h
      · unfold reachStep at h
        split at h
        · rcases dput_mem.mp h with h | h
          · exact h
          · exact absurd h hne
        · exact h
      · exact absurd h hnp
    exact step_in h1 hl
def singleL (es : Es) : List Ln := (thingLinesL es []).filter fun l => !decide (l ∈ lotLinesL es)
end St

end

section

set_option Elab.async false
set_option linter.all false
set_option maxRecDepth 100000
set_option maxHeartbeats 4000000
namespace St
open PySem PySem.Spec PyProof.Rows L2 Evl
theorem linesP_of {es : Es} : LinesP es (lotLinesL es) (singleL es) :=
  ⟨fun l h => lotLines_mem h, fun l h => thingLines_mem (List.mem_filter.mp h).1, lotLines_nodup es, (thingLines_nodup es []).sublist List.filter_sublist, fun l h h2 => by
    have := (List.mem_filter.mp h2).2
    simp [h] at this⟩
/-- what stands when the ways' object is made -/
def InitP (es : Es) (y t : Nat) (fs : List (Nat × Nat)) (U : Us) (n : Nat) : Prop := match firstM es y t with
  | none => U = [] ∧ n = 0
  | some f => FillP (lotLinesL es) (singleL es) f (fun n => isFind es n fs) U (n : Int)
def freeHit (es : Es) (y t : Nat) (fs : List (Nat × Nat)) : Bool := doReach es y (reached es y t (lotLinesL es)) fs
def KeepB (x : Addr) (H H' : Hp) : Prop := ∀ b o, b ≠ x → H b = some o → H' b = some o
def sp_Cut_init (K : PySem.W.Frag) : Sp := fun vs H Q E => ∃ x dx L es y t p fs, vs = [.ref x, .ref L, nV y, nV t, .ref p] ∧ H x = some (.ins (cCut K) dx []) ∧ LG K (L2.del H x) L es ∧ PairsAt (L2.del H x) p fs ∧ fs.length ≤ 30000 ∧
  (freeHit es y t fs = true → ∀ H', KeepB x H H' → E (.ref (He.ga K "NoCut")) none H') ∧
  (freeHit es y t fs = false → ∀ H' fr sg us U n, KeepB x H H' → CutAt K H' x L p fr sg us (oV (firstM es y t)) fs (lotLinesL es) (singleL es) U ((n : Nat) : Int) → InitP es y t fs U n → Q .non H')
section
variable {K : PySem.W.Frag} {σ : L2.St} {H : Hp} {ta tv : TE} {D : Ends} {tz : TS} {x C dx : Addr} {fsx : List (Str × V)} {f : Str} {v : V} {R : Addr → Hp → Prop}
theorem q_fldV (hx : H x = some (.ins C dx fsx)) (hv : Ev tv σ H v) (ho : Ev ta σ H (.ref x)) (c : Cls K C) (n : NoAttr K C f) (hl : fsx.length < 1000) (k : ∀ H1, Ex H H1 → tz D σ (upd H1 x (.ins C dx (putF f v fsx)))) : tSeq (sFld K ta tv f) tz D σ H :=
  hv H (Ex.refl H) _ fun H1 e1 => ho H1 e1 _ fun H2 e2 => ⟨x, C, dx, fsx, rfl, (e1.trans e2) _ _ hx, c, n, hl, k H2 (e1.trans e2)⟩
theorem q_fldN (hx : H x = some (.ins C dx fsx)) (hv : EvN tv σ H R) (ho : Ev ta σ H (.ref x)) (c : Cls K C) (n : NoAttr K C f) (hl : fsx.length < 1000) (mono : ∀ p H1 H2, Ex H1 H2 → R p H1 → R p H2) (k : ∀ p H1, H p = none → Ex H H1 → R p H1 → tz D σ (upd H1 x (.ins C dx (putF f (.ref p) fsx)))) : tSeq (sFld K ta tv f) tz D σ H :=
  hv H (Ex.refl H) _ fun p H1 n1 e1 r => ho H1 e1 _ fun H2 e2 => ⟨x, C, dx, fsx, rfl, (e1.trans e2) _ _ hx, c, n, hl, k p H2 n1 (e1.trans e2) (mono _ _ _ e2 r)⟩
end
theorem en_newT {σ : L2.St} {H : Hp} : EvN tDNewT σ H (fun p H' => H' p = some (.dT [])) := fun H1 e Q q => fun p hp => q p _ hp (Ex.new hp) upd_same
theorem firstM_mem {es : Es} {y t f : Nat} (h : firstM es y t = some f) : f ∈ meetings es := by
  unfold firstM at h
  exact (meetingsOf_sub es y).subset (List.mem_filter.mp (List.mem_of_head? h)).1
theorem keepB_of {x : Addr} {H H' : Hp} (e : Ex (L2.del H x) H') : KeepB x H H' := fun b o hb h => e b o (by rw [del_ne hb]; exact h)
theorem isFind_lt {es : Es} {n : Nat} {fs : List (Nat × Nat)} (h : isFind es n fs = true) : n < es.length := Classical.byContradiction fun hn => by
  have : ent es n = ⟨0, 0, [], true⟩ := by
    unfold ent
    rw [List.getD_eq_getElem?_getD, List.getElem?_eq_none (by omega)]
    rfl
  unfold isFind at h
  rw [this] at h
  simp at h
section
variable {P : Program} {w : World} {K : PySem.W.Frag} {mg : Str → Option Value} {base : Heap}
abbrev N_Cut_init : List Str := ["self", "log", "lot", "minute", "finds", "line"]
theorem sc_Cut_init : FnScope N_Cut_init ["self", "log", "lot", "minute", "finds"] d_Cut_init.scope := ⟨rfl, rfl, rfl, by decide +kernel, rfl, by decide +kernel, by decide +kernel⟩
theorem ok_Cut_init (T : Txt K mg) : Ok P w K mg base (L2N.CX P w) 6 d_Cut_init ["self", "log", "lot", "minute", "finds"] (sp_Cut_init K) := by
  have G_Log_first_meeting : Ok P w K mg base CX0 4 d_Log_first_meeting ["self", "lot", "minute"] (sp_Log_first_meeting K) := ok_Log_first_meeting T
  have G_Log_lot_lines : Ok P w K mg base CX0 4 d_Log_lot_lines ["self"] (sp_Log_lot_lines K) := ok_Log_lot_lines T
  have G_Log_thing_lines : Ok P w K mg base CX0 3 d_Log_thing_lines ["self", "more"] (sp_Log_thing_lines K) := ok_Log_thing_lines T
  have G_Log_do_reach : Ok P w K mg base CX0 2 d_Log_do_reach ["self", "lot", "held", "finds"] (sp_Log_do_reach K) := ok_Log_do_reach T
  have G_Log_reached : Ok P w K mg base CX0 5 d_Log_reached ["self", "lot", "minute", "lines"] (sp_Log_reached K) := ok_Log_reached T
  have G_Cut_fill : Ok P w K mg base CX0 3 d_Cut_fill ["self"] (sp_Cut_fill K) := ok_Cut_fill T
  refine okX T.u_Cut_init sc_Cut_init (fun _ _ _ _ _ _ us hl => match us, hl with | [_, _, _, _, _], _ => rfl) (fun vs H Q E h => ?_) (fun cdv A outer s H vs Q E hr h => ?_)
  · obtain ⟨_, _, _, _, _, _, _, _, rfl, _⟩ := h
    rfl
  have nd := sc_Cut_init.nd
  refine ⟨_, (pss_cons (sfld K (pv 0) (pv 1))
  (pss_cons (sfld K (pv 0) (pv 4))
  (pss_cons (sfld K (pv 0) (pe_meth (pv 1) T.c_Log T.m_Log_first_meeting G_Log_first_meeting.f (hr.mono (by decide)) G_Log_first_meeting.b .nil pass0 (pa_cons (pv 2) (pa_cons (pv 3) pa_nil))))
  (pss_cons (sfld K (pv 0) (pe_meth0 (pv 1) T.c_Log T.m_Log_lot_lines G_Log_lot_lines.f (hr.mono (by decide)) G_Log_lot_lines.b .nil pass0))
  (pss_cons (sfld K (pv 0) (pe_free (pe_lc (own := [("line", 5)]) rfl nd (pi_keysL (pe_meth (pv 1) T.c_Log T.m_Log_thing_lines G_Log_thing_lines.f (hr.mono (by decide)) G_Log_thing_lines.b .nil pass0 (pa_cons (pe_lst pa_nil) pa_nil))) (blkOk_by (N := N_Cut_init) (sc := d_Cut_init.scope) (by decide +kernel)) (fun _ _ _ _ _ => (pg_name (i := 5) nd rfl (Or.inl rfl))) (fun _ _ _ _ _ => (pts_one (pt_cmp (pc_dnotin (hu_of hr) (pv 5) (wfld K (pv 0))) rfl))) (fun _ _ _ _ _ => (pv 5)))))
  (pss_cons (ps_if (pt_val (pe_meth (pv 1) T.c_Log T.m_Log_do_reach G_Log_do_reach.f (hr.mono (by decide)) G_Log_do_reach.b .nil pass0 (pa_cons (pv 2) (pa_cons (pe_meth (pv 1) T.c_Log T.m_Log_reached G_Log_reached.f (hr.mono (by decide)) G_Log_reached.b .nil pass0 (pa_cons (pv 2) (pa_cons (pv 3) (pa_cons (wfld K (pv 0)) pa_nil)))) (pa_cons (pv 4) pa_nil))))) (pss_one (L2N.ps_raise rfl (L2N.takes_of rfl rfl rfl rfl) (L2N.pmk_own PySem.F.excBase_ValueError T.x_NoCut.1 T.g_NoCut T.x_NoCut.2.1 (raises_own T.x_NoCut.2.2.1 T.x_NoCut.2.2.2) (by exact rfl)))) pss_nil)
  (pss_cons (sfld K (pv 0) pe_dnewT)
  (pss_cons (sfld K (pv 0) pe_int)
  (pss_one (ps_if (pt_cmpR op_ge (wfld K (pv 0)) pe_int (nomark _)) (pss_one (ps_expr (pe_meth0 (pv 0) T.c_Cut T.m_Cut_fill G_Cut_fill.f (hr.mono (by decide)) G_Cut_fill.b .nil pass0))) pss_nil)))))))))), ?_⟩
  obtain ⟨x, dx, L, es, y, t, p, fs, rfl, hx, hLG, hp, hfz, kE, kQ⟩ := h
  have hB : L2.del H x x = none := del_same
  have eB : Ex (L2.del H x) H := ex_del0
  have g : Good es := let ⟨_, _, _, g⟩ := hLG; g
  obtain ⟨En, as, hL, _⟩ := hLG
  have up : ∀ {H1 H2 : Hp} {o : HO}, Ex (L2.del H x) H1 → Ex H1 H2 → Ex (L2.del H x) (upd H2 x o) := fun e1 e2 => (e1.trans e2).mut hB
  refine q_fldV hx (ev_var rfl) (ev_var rfl) T.c_Cut T.n_Cut_log (by simp) fun H1 e1 => ?_
  have b1 := up eB e1 (o := .ins (cCut K) dx [("log", .ref L)])
  refine q_fldV (C := cCut K) (dx := dx) (fsx := [("log", .ref L)]) upd_same (ev_var rfl) (ev_var rfl) T.c_Cut T.n_Cut_finds (by simp) fun H2 e2 => ?_
  rw [putF_past (by decide +kernel)]
  have b2 := up b1 e2 (o := .ins (cCut K) dx [("log", .ref L), ("finds", .ref p)])
  refine q_fldV (C := cCut K) (dx := dx) (fsx := [("log", .ref L), ("finds", .ref p)]) upd_same (v := oV (firstM es y t)) (lg_meth (hL.mono b2) (ev_var rfl) (by decide +kernel) (ea_two (ev_var rfl) (ev_var rfl)) fun H3 e3 => ⟨L, es, y, t, rfl, ⟨En, as, (hL.mono b2).mono e3, g⟩, rfl⟩) (ev_var rfl) T.c_Cut T.n_Cut_first (by simp) fun H3 e3 => ?_
  rw [putF_past (by decide +kernel), putF_past (by decide +kernel)]
  have b3 := up b2 e3 (o := .ins (cCut K) dx [("log", .ref L), ("finds", .ref p), ("first", oV (firstM es y t))])
  refine q_fldN (C := cCut K) (dx := dx) (fsx := [("log", .ref L), ("finds", .ref p), ("first", oV (firstM es y t))]) upd_same (lg_methN (hL.mono b3) (ev_var rfl) (by decide +kernel) ea_nil fun H4 e4 => ⟨L, es, rfl, ⟨En, as, (hL.mono b3).mono e4, g⟩, rfl⟩) (ev_var rfl) T.c_Cut T.n_Cut_free (by simp) (fun q H1 H2 e h => e _ _ h) fun fr H4 n4 e4 hfr4 => ?_
  rw [putF_past (by decide +kernel), putF_past (by decide +kernel), putF_past (by decide +kernel)]
  have b4 := up b3 e4 (o := .ins (cCut K) dx [("log", .ref L), ("finds", .ref p), ("first", oV (firstM es y t)), ("free", .ref fr)])
  have frx : fr ≠ x := fun z => by rw [z, upd_same] at n4; cases n4
  have hfr5 : (upd H4 x (.ins (cCut K) dx [("log", .ref L), ("finds", .ref p), ("first", oV (firstM es y t)), ("free", .ref fr)])) fr = some (.dT (dTk (lotLinesL es))) := by rw [upd_ne frx]; exact hfr4
  obtain ⟨dl, hobjL⟩ := (hL.mono b4).obj
  refine q_fldN (C := cCut K) (dx := dx) (fsx := [("log", .ref L), ("finds", .ref p), ("first", oV (firstM es y t)), ("free", .ref fr)]) (R := fun q H' => PairsAt H' q (singleL es)) upd_same
    (en_keysTN (l := thingLinesL es []) (p := fun l => !decide (l ∈ lotLinesL es)) (key := kk) (RA := fun (l : Ln) y H => ∃ t, y = .ref t ∧ H t = some (.tup [nV l.1, nV l.2])) (kvs := dTk (thingLinesL es [])) Stays.tup Unl.tup
      (en_methR (ev_var rfl) hobjL (lg_none (by decide +kernel)) (ar_new (EvL.n (el_lst ea_nil (by simp))) (fun p a b e h => e _ _ h) ar_nil) fun vs H5 e5 ⟨q, us, hvs, hq, hus⟩ => ⟨L, es, q, [], by rw [hvs, hus], ⟨En, as, (hL.mono b4).mono e5, g⟩, ⟨[], hq, .nil⟩, by simp, rfl⟩) (dTk_keys _) (by have := small_len (thingLines_nodup es []) (thingLines_small g []); omega) fun H5 a q e5 ha hq => ?_)
    (ev_var rfl) T.c_Cut T.n_Cut_single (by simp) (fun q H1 H2 e h => h.mono e) fun sg H5 n5 e5 hsg5 => ?_
  · have hq : H5 q = some (.tup [nV a.1, nV a.2]) := hq
    exact Turns.name rfl (et_B (ev_dniT (p := a) (ev_var rfl) hq (ev_fld (ev_var rfl) (e5 _ _ upd_same) T.c_Cut T.n_Cut_free ((lk_past (by decide +kernel)).trans ((lk_past (by decide +kernel)).trans ((lk_past (by decide +kernel)).trans lk_here)))) (.inl (e5 _ _ hfr5)))) fun _ => Ev.p (ev_var rfl) fun H6 e6 => ⟨q, rfl, e6 _ _ hq⟩
  rw [putF_past (by decide +kernel), putF_past (by decide +kernel), putF_past (by decide +kernel), putF_past (by decide +kernel)]
  have b5 := up b4 e5 (o := .ins (cCut K) dx [("log", .ref L), ("finds", .ref p), ("first", oV (firstM es y t)), ("free", .ref fr), ("single", .ref sg)])
  rw [show putF "single" (V.ref sg) [] = [(("single" : Str), V.ref sg)] from rfl]
  have hx5 := e5 _ _ (upd_same (H := H4) (a := x) (o := .ins (cCut K) dx [("log", .ref L), ("finds", .ref p), ("first", oV (firstM es y t)), ("free", .ref fr)]))
  have insx : ∀ (H5 : Hp) {b : Addr} {o w v : HO}, H5 x = some w → (∃ C d f, w = .ins C d f) → H5 b = some o → (∀ C d f, o ≠ .ins C d f) → (upd H5 x v) b = some o := fun H5 b o w v h1 ⟨C, d, f, h2⟩ h3 h4 => by
    rw [upd_ne (fun z => by
      rw [z, h1] at h3
      cases h3
      exact h4 _ _ _ h2)]
    exact h3
  have prx : ∀ (H5 : Hp) {q : Addr} {w v : HO} {l : List (Nat × Nat)}, H5 x = some w → (∃ C d f, w = .ins C d f) → PairsAt H5 q l → PairsAt (upd H5 x v) q l := fun H5 q w v l h1 h2 ⟨ys, h3, h4⟩ =>
    ⟨ys, insx H5 h1 h2 h3 (by simp), paired_imp (fun a y ⟨t, e1, e2⟩ => ⟨t, e1, insx H5 h1 h2 e2 (by simp)⟩) h4⟩
  have hfr6 := insx H5 (v := .ins (cCut K) dx [("log", .ref L), ("finds", .ref p), ("first", oV (firstM es y t)), ("free", .ref fr), ("single", .ref sg)]) hx5 ⟨_, _, _, rfl⟩ (e5 _ _ hfr5) (by simp)
  have hsg6 := prx H5 (v := .ins (cCut K) dx [("log", .ref L), ("finds", .ref p), ("first", oV (firstM es y t)), ("free", .ref fr), ("single", .ref sg)]) hx5 ⟨_, _, _, rfl⟩ hsg5
  have hx6 : (upd H5 x (.ins (cCut K) dx [("log", .ref L), ("finds", .ref p), ("first", oV (firstM es y t)), ("free", .ref fr), ("single", .ref sg)])) x = some (.ins (cCut K) dx [("log", .ref L), ("finds", .ref p), ("first", oV (firstM es y t)), ("free", .ref fr), ("single", .ref sg)]) := upd_same
  generalize (upd H5 x (.ins (cCut K) dx [("log", .ref L), ("finds", .ref p), ("first", oV (firstM es y t)), ("free", .ref fr), ("single", .ref sg)])) = H6 at b5 hfr6 hsg6 hx6
  clear hx5 hsg5 hfr5 hfr4 n5 e5
  obtain ⟨dl6, hobjL6⟩ := (hL.mono b5).obj
  have hL6 := hL.mono b5
  refine q_when (b := freeHit es y t fs) (et_B (ev_methR (ev_var rfl) hobjL6 (lg_none (by decide +kernel)) (ar_cons (x := nV y) (ev_var rfl) (ar_new (lg_methN hL6 (ev_var rfl) (by decide +kernel) (ea_three (ev_var rfl) (ev_var rfl) (ev_fld (ev_var rfl) hx6 T.c_Cut T.n_Cut_free ((lk_past (by decide +kernel)).trans ((lk_past (by decide +kernel)).trans ((lk_past (by decide +kernel)).trans lk_here))))) fun H7 e7 => ⟨L, es, y, t, fr, lotLinesL es, rfl, ⟨En, as, hL6.mono e7, g⟩, e7 _ _ hfr6, rfl⟩) (fun p a b e h => e _ _ h) (ar_cons (x := .ref p) (ev_var rfl) ar_nil)))
    fun vs H7 e7 ⟨u1, h1, h0, u2, h2, hh0, u3, h3, h4⟩ => ⟨L, es, y, h0, reached es y t (lotLinesL es), p, fs, by rw [h1, h2, h3, h4], ⟨En, as, hL6.mono e7, g⟩, hh0, by have := reached_len g y t (lotLinesL es); omega, do_args rfl, (hp.mono b5).mono e7, hfz, rfl⟩)) (fun hb H7 e7 => ?_) fun hb H7 e7 => ?_
  · exact kE hb H7 (keepB_of (b5.trans e7))
  · have b7 := b5.trans e7
    have hx7 := e7 _ _ hx6
    refine q_fldN (C := cCut K) (dx := dx) (fsx := [("log", .ref L), ("finds", .ref p), ("first", oV (firstM es y t)), ("free", .ref fr), ("single", .ref sg)]) hx7 en_newT (ev_var rfl) T.c_Cut T.n_Cut_used (by simp) (fun q H1 H2 e h => e _ _ h) fun us H8 n8 e8 hus8 => ?_
    rw [putF_past (by decide +kernel), putF_past (by decide +kernel), putF_past (by decide +kernel), putF_past (by decide +kernel), putF_past (by decide +kernel)]
    have hx8 := e8 _ _ hx7
    have b8 := up b7 e8 (o := .ins (cCut K) dx [("log", .ref L), ("finds", .ref p), ("first", oV (firstM es y t)), ("free", .ref fr), ("single", .ref sg), ("used", .ref us)])
    have hfu : fr ≠ us := fun z => by rw [← z, e7 _ _ hfr6] at n8; cases n8
    have hus9 := insx H8 (v := .ins (cCut K) dx [("log", .ref L), ("finds", .ref p), ("first", oV (firstM es y t)), ("free", .ref fr), ("single", .ref sg), ("used", .ref us)]) hx8 ⟨_, _, _, rfl⟩ hus8 (by simp)
    have hfr9 := insx H8 (v := .ins (cCut K) dx [("log", .ref L), ("finds", .ref p), ("first", oV (firstM es y t)), ("free", .ref fr), ("single", .ref sg), ("used", .ref us)]) hx8 ⟨_, _, _, rfl⟩ (e8 _ _ (e7 _ _ hfr6)) (by simp)
    have hsg9 := prx H8 (v := .ins (cCut K) dx [("log", .ref L), ("finds", .ref p), ("first", oV (firstM es y t)), ("free", .ref fr), ("single", .ref sg), ("used", .ref us)]) hx8 ⟨_, _, _, rfl⟩ ((hsg6.mono e7).mono e8)
    refine q_fldV (C := cCut K) (dx := dx) (fsx := [("log", .ref L), ("finds", .ref p), ("first", oV (firstM es y t)), ("free", .ref fr), ("single", .ref sg), ("used", .ref us)]) upd_same (v := .int 0) ev_c (ev_var rfl) T.c_Cut T.n_Cut_count (by simp) fun H9 e9 => ?_
    rw [putF_past (by decide +kernel), putF_past (by decide +kernel), putF_past (by decide +kernel), putF_past (by decide +kernel), putF_past (by decide +kernel), putF_past (by decide +kernel)]
    have hx9 := e9 _ _ (upd_same (H := H8) (a := x) (o := .ins (cCut K) dx [("log", .ref L), ("finds", .ref p), ("first", oV (firstM es y t)), ("free", .ref fr), ("single", .ref sg), ("used", .ref us)]))
    have b9 := up b8 e9 (o := .ins (cCut K) dx (cF L p fr sg us (oV (firstM es y t)) 0))
    have hC : CutAt K (upd H9 x (.ins (cCut K) dx (cF L p fr sg us (oV (firstM es y t)) 0))) x L p fr sg us (oV (firstM es y t)) fs (lotLinesL es) (singleL es) [] 0 :=
      ⟨⟨dx, upd_same⟩, hp.mono b9, insx H9 hx9 ⟨_, _, _, rfl⟩ (e9 _ _ hfr9) (by simp), prx H9 hx9 ⟨_, _, _, rfl⟩ (hsg9.mono e9), insx H9 hx9 ⟨_, _, _, rfl⟩ (e9 _ _ hus9) (by simp)⟩
    rw [show putF "count" (V.int 0) [] = [(("count" : Str), V.int 0)] from rfl]
    show tIfS _ _ _ _ _ (upd H9 x (.ins (cCut K) dx (cF L p fr sg us (oV (firstM es y t)) 0)))
    generalize (upd H9 x (.ins (cCut K) dx (cF L p fr sg us (oV (firstM es y t)) 0))) = H10 at hC b9
    have kQ := kQ hb
    cases hf : firstM es y t with
    | none =>
      rw [hf] at hC kQ
      refine s_when (b := false) (et_test (ev_is (ev_op (ev_cFirst T hC (ev_var rfl)) ev_c rv_I0) rfl)) (fun h => by cases h) fun _ H11 e11 => kQ H11 fr sg us [] 0 (keepB_of (b9.trans e11)) (hC.mono e11) ?_
      unfold InitP
      rw [hf]
      exact ⟨rfl, rfl⟩
    | some f =>
      rw [hf] at hC kQ
      refine s_when (b := true) (et_test (ev_is (ev_op (ev_cFirst T hC (ev_var rfl)) ev_c rv_I0) (by simp))) (fun _ H11 e11 => ?_) fun h => by cases h
      have hC11 := hC.mono e11
      have b11 := b9.trans e11
      obtain ⟨dx11, hobj11⟩ := hC11.obj
      refine ⟨_, rfl, x, dx11, _, rfl, hobj11, cF_none, x, L, es, p, fr, sg, us, f, fs, lotLinesL es, singleL es, rfl, ⟨En, as, hL.mono b11, g⟩, hC11, hfu, hfz, linesP_of, firstM_mem hf, ⟨fun n => decide (n ∈ reached es y t (lotLinesL es)), decide_eq_true (reached_first hf), fun n hn => ?_, fun l hl h => ?_⟩, fun H12 U n kp hC12 hF => ?_⟩
      · refine decide_eq_false fun hm => ?_
        unfold freeHit doReach at hb
        rw [Bool.or_eq_false_iff] at hb
        have := List.any_eq_false.mp hb.2 n hm
        rw [hn] at this
        exact this rfl
      · exact decide_eq_true (reached_closed (forth_lot es) l hl (of_decide_eq_true h))
      · refine kQ H12 fr sg us U n (fun b o hb h => ?_) hC12 ?_
        · have hbB : L2.del H x b = some o := by rw [del_ne hb]; exact h
          refine kp b o hb (fun z => ?_) (b11 _ _ hbB)
          rw [z] at hbB
          rw [b7 _ _ hbB] at n8
          cases n8
        · unfold InitP
          rw [hf]
          exact hF
end
end St

end

section

set_option Elab.async false
set_option linter.all false
set_option maxRecDepth 100000
set_option maxHeartbeats 4000000
namespace St
open PySem PySem.Spec PyProof.Rows L2 Evl
theorem okH_Refused_init {P : Program} {w : World} {K : PySem.W.Frag} {mg : Str → Option Value} {base : Heap} (T : Txt K mg) : L2H.FnH P w K mg base CX0 1 (He.fAd K d_Refused_init.at_) (fdOf K d_Refused_init) ["self", "numbers"] (sp_Refused_init K) := by
  obtain ⟨oc, od, dV, kV, doc, pm, an, cdv, ct, osl, e, lk, hcd, _, _⟩ := (T.u_Refused_init).ex
  rw [e] at lk ⊢
  refine L2H.fn_ofH lk hcd sc_Refused_init (fun vs H Q E h => ?_) (fun A outer s H vs Q E p hot hr h => ?_)
  · obtain ⟨_, _, rfl, _⟩ := h
    rfl
  have nd := sc_Refused_init.nd
  obtain ⟨a, v, rfl, ha, k⟩ := h
  refine ⟨_, pss_one (ps_ost (pv 0) (pv 1)), ?_⟩
  exact ⟨v, rfl, .ref a, rfl, a, cRef K, rfl, T.oex, T.n_Refused_numbers, .inl ⟨ha, fun d hd hda => k d hd hda⟩⟩
/-- what fewest answers -/
def fewR (es : Es) (y t : Nat) (f : List Nat) (res : Res) : Prop := if ¬(y < 1000 ∧ t < 52596000) then res = .error [-1] else match findsIn f with
  | .error ns => res = .error ns
  | .ok fs => if freeHit es y t fs = true then res = .error [-10] else ∃ U n ls, InitP es y t fs U n ∧ CutTold es (lotLinesL es) (singleL es) (firstM es y t) U n ls ∧ res = .ok ((n : Int) :: ls.flatten, es)
def sp_fewest (K : PySem.W.Frag) : Sp := fun vs H Q E => ∃ T L En as es y t f A Rw, vs = [.ref L, .ref A, .ref Rw] ∧ LogAt K (L2.del H T) L En as es ∧ Good es ∧ H A = some (.lst ([y, t].map nV)) ∧ RowsN (L2.del (L2.del H T) En) Rw [f] ∧
  (f.length ≤ 100 ∧ ∃ o, H T = some o) ∧ ∀ res, fewR es y t f res → OutD K T L En H E Q res
theorem tri_flat {es : Es} {l : List Ln} : (l.map (tripleOf es)).flatten.length = 3 * l.length := by
  induction l with
  | nil => rfl
  | cons a l ih => rw [List.map_cons, List.flatten_cons, List.length_append, ih, List.length_cons]; show 3 + 3 * l.length = _; omega
theorem told_len {es : Es} {free single : List Ln} {fo : Option Nat} {U : Us} {n : Nat} {ls : List (List Int)} (h : CutTold es free single fo U n ls) : ls.flatten.length ≤ 3 * single.length := by
  rcases h with ⟨_, rfl⟩ | ⟨_, f, rows, _, _, _, rfl⟩
  · simp
  · rw [tri_flat, List.length_mergeSort]
    have : (cutSet single rows).length ≤ single.length := List.length_filter_le ..
    omega
theorem take_flat_le {α : Type} {ls : List (List α)} {i : Nat} {a : List α} (h : ls[i]? = some a) : (ls.take i).flatten.length + a.length ≤ ls.flatten.length := by
  obtain ⟨rest, hr⟩ : ∃ rest, ls = ls.take i ++ a :: rest := ⟨ls.drop (i + 1), by
    have hi := (List.getElem?_eq_some_iff.mp h).1
    have e := (List.getElem?_eq_some_iff.mp h).2
    rw [← e, ← List.drop_eq_getElem_cons hi, List.take_append_drop]⟩
  have : ls.flatten.length = (ls.take i ++ a :: rest).flatten.length := by rw [← hr]
  rw [this, List.flatten_append, List.flatten_cons, List.length_append, List.length_append]
  omega
theorem s_asgMakeS {C : Addr} {sp : Sp} {E : L2.St → XK} {t : TA} {σ : L2.St} {H : Hp} {vs : List V} {D : Ends} {i : Nat} (ha : EvA t σ H vs) (k : ∀ H1, Ex H H1 → ∀ x dx, H1 x = none → H1 dx = none → dx ≠ x → sp (.ref x :: vs) (upd (upd H1 dx (.own x)) x (.ins C dx [])) (fun v H2 => v = .non ∧ D.nx (σ.set i (some (.ref x))) H2) (E σ)) :
    tAsg (tMakeS C sp E t) (gName i) D σ H := ha H (Ex.refl H) _ fun H1 e1 x dx h1 h2 h3 => k H1 e1 x dx h1 h2 h3
section
variable {P : Program} {w : World} {K : PySem.W.Frag} {mg : Str → Option Value} {base : Heap}
abbrev N_fewest : List Str := ["log", "args", "rows", "finds", "cut", "told", "line"]
theorem sc_fewest : FnScope N_fewest ["log", "args", "rows"] d_fewest.scope := ⟨rfl, rfl, rfl, by decide +kernel, rfl, by decide +kernel, by decide +kernel⟩
theorem ok_fewest (T : Txt K mg) : Ok P w K mg base (L2.CX P w) 8 d_fewest ["log", "args", "rows"] (sp_fewest K) := by
  have G_check_lot : Ok P w K mg base (L2.CX P w) 4 d_check_lot ["lot", "minute"] (sp_check_lot K) := ok_check_lot T
  have G_finds_of : Ok P w K mg base (L2.CX P w) 5 d_finds_of ["row"] (sp_finds_of K) := ok_finds_of T
  have G_Cut_init : Ok P w K mg base (L2N.CX P w) 6 d_Cut_init ["self", "log", "lot", "minute", "finds"] (sp_Cut_init K) := ok_Cut_init T
  have G_Refused_init : Ok P w K mg base CX0 1 d_Refused_init ["self", "numbers"] (sp_Refused_init K) := ok_Refused_init T
  have G_Cut_lines : Ok P w K mg base CX0 3 d_Cut_lines ["self"] (sp_Cut_lines K) := ok_Cut_lines T
  refine okX T.u_fewest sc_fewest (fun _ _ _ _ _ _ us hl => match us, hl with | [_, _, _], _ => rfl) (fun vs H Q E h => ?_) (fun cdv A outer s H vs Q E hr h => ?_)
  · obtain ⟨_, _, _, _, _, _, _, _, _, _, rfl, _⟩ := h
    rfl
  have H_Refused_init : L2H.FnH P w K mg base CX0 1 (He.fAd K d_Refused_init.at_) (fdOf K d_Refused_init) ["self", "numbers"] (sp_Refused_init K) := okH_Refused_init T
  have nd := sc_fewest.nd
  refine ⟨_, (pss_cons (ps_expr (pe_call G_check_lot.f (hr.mono (by decide)) rfl T.g_check_lot G_check_lot.kp G_check_lot.b .nil (passes_call (takes_of rfl rfl rfl rfl) (fun _ _ _ _ h => h)) (pa_cons (wixL K (pv 1) pe_int) (pa_cons (wixL K (pv 1) pe_int) pa_nil))))
  (pss_cons (ps_set (i := 3) nd rfl (Or.inl rfl) (pe_call G_finds_of.f (hr.mono (by decide)) rfl T.g_finds_of G_finds_of.kp G_finds_of.b .nil (passes_call (takes_of rfl rfl rfl rfl) (fun _ _ _ _ h => h)) (pa_cons (wixL K (pv 2) pe_int) pa_nil)))
  (pss_cons (L2H.ps_try_onlyX rfl rfl ⟨rfl, by decide, .inl T.g_NoCut⟩ (L2H.passesAt_of rfl) (takes_of rfl rfl rfl rfl) (fun W pn xe tk _ _ => (pss_one (ps_set (i := 4) nd rfl (Or.inl rfl) (wmakeS T.k_Cut G_Cut_init.f (hr.mono (by decide)) rfl T.g_Cut G_Cut_init.b (fun σ => L2N.passAt tk σ) (pa_cons (pv 0) (pa_cons (wixL K (pv 1) pe_int) (pa_cons (wixL K (pv 1) pe_int) (pa_cons (pv 3) pa_nil)))))))) (fun a oe cls d pn hz hf tkS hot => (pss_one (L2H.ps_raiseHN hot tkS (L2H.pmk5_oexH T.oex T.iR T.tR H_Refused_init (L2H.roomH_mark (hr.mono (by decide)) _) hot G_Refused_init.b pass0 rfl T.g_Refused (pa_cons (pe_lst (pa_cons (pe_un un_neg pe_int) pa_nil)) pa_nil))))))
  (pss_cons (ps_set (i := 5) nd rfl (Or.inl rfl) (pe_lst (pa_cons (wfld K (pv 4)) pa_nil)))
  (pss_cons (ps_for (passes_of rfl) rfl (wlist K (pe_meth0 (pv 4) T.c_Cut T.m_Cut_lines G_Cut_lines.f (hr.mono (by decide)) G_Cut_lines.b .nil pass0)) (pg_name (i := 6) nd rfl (Or.inl rfl)) (pss_one (ps_expr (wextT K (pv 5) (pv 6)))))
  (pss_one (ps_ret (pv 5)))))))), ?_⟩
  obtain ⟨Tl, L, En, as, es, y, t, f, A, Rw, rfl, hL', g, hA, hR, hz, k⟩ := h
  have hL := hL'.mono ex_del0
  obtain ⟨ys, tf, hy, hy0, htf⟩ := (rowAt hR).get (i := 0) (r := f) rfl
  refine q_callX (o := if y < 1000 ∧ t < 52596000 then .ok .non else .error [-1]) (ea_two (ev_arg (i := 0) (ev_var rfl) hA rfl) (ev_arg (i := 1) (ev_var rfl) hA rfl)) (fun H1 e1 => ⟨y, t, rfl, rfl⟩) (fun v hv H1 e1 => ?_) fun ns hn => ?_
  rotate_left
  · by_cases hs : y < 1000 ∧ t < 52596000
    · rw [if_pos hs] at hn
      cases hn
    · rw [if_neg hs] at hn
      cases hn
      exact k (.error [-1]) (by unfold fewR; rw [if_pos hs])
  by_cases hs : y < 1000 ∧ t < 52596000
  rotate_left
  · rw [if_neg hs] at hv
    cases hv
  refine q_asgXN (o := findsIn f) (ea_one (ev_row (i := 0) (ev_var rfl) (e1 _ _ hy) hy0)) (fun H2 e2 => ⟨tf, f, rfl, e2 _ _ (e1 _ _ htf), by omega, rfl⟩) (fun fs hfs p H2 n2 e2 hp => ?_) fun ns hn => ?_
  rotate_left
  · have k := k (.error ns) (by unfold fewR; rw [if_neg (by simpa using hs), hn])
    exact Rz.mono k e1
  obtain ⟨_, hfl, _, _⟩ := findsIn_ok hfs
  have e12 := e1.trans e2
  have kk : ∀ res, (if freeHit es y t fs = true then res = .error [-10] else ∃ U n ls, InitP es y t fs U n ∧ CutTold es (lotLinesL es) (singleL es) (firstM es y t) U n ls ∧ res = .ok ((n : Int) :: ls.flatten, es)) → OutD K Tl L En H E Q res := fun res h => k res (by unfold fewR; rw [if_neg (by simpa using hs), hfs]; exact h)
  clear k
  refine s_asgMakeS (ea_cons (ev_var rfl) (ea_three (ev_arg (i := 0) (ev_var rfl) (e12 _ _ hA) rfl) (ev_arg (i := 1) (ev_var rfl) (e12 _ _ hA) rfl) (ev_var rfl))) fun H3 e3 x dx nx ndx hne => ?_
  have e13 := e12.trans e3
  have eM : Ex H3 (L2.del (upd (upd H3 dx (.own x)) x (.ins (cCut K) dx [])) x) := fun b o hb => by
    have hbx : b ≠ x := ne_of_none hb nx
    have hbd : b ≠ dx := ne_of_none hb ndx
    rw [del_ne hbx, upd_ne hbx, upd_ne hbd]
    exact hb
  have eK : ∀ {H' : Hp}, KeepB x (upd (upd H3 dx (.own x)) x (.ins (cCut K) dx [])) H' → Ex H3 H' := fun {H'} hk b o hb => by
    have hbx : b ≠ x := ne_of_none hb nx
    have hbd : b ≠ dx := ne_of_none hb ndx
    exact hk b o hbx (by rw [upd_ne hbx, upd_ne hbd]; exact hb)
  refine ⟨x, dx, L, es, y, t, p, fs, rfl, upd_same, ⟨En, as, (hL.mono e13).mono eM, g⟩, (hp.mono e3).mono eM, by omega, fun hf H' hk => ?_, fun hf H' fr sg us U n hk hC hI => ⟨rfl, ?_⟩⟩
  · refine ⟨true, T.y_NoCut_NoCut, fun _ a ha => ?_, fun h => by cases h⟩
    have k := kk (.error [-10]) (by rw [if_pos hf])
    exact s_raiseR (D := ⟨fun _ _ => False, fun _ _ => False, fun _ _ => False, fun _ _ => False⟩) (ns := [-10]) (el_lst (ea_one (ev_un ev_c ru_neg)) (by simp)) (Rz.mono k (e13.trans (eK hk)))
  have e0 := e13.trans (eK hk)
  clear eM eK hk
  generalize H' = H5 at *
  have hcut : ∀ ls, CutTold es (lotLinesL es) (singleL es) (firstM es y t) U n ls → OutD K Tl L En H E Q (.ok ((n : Int) :: ls.flatten, es)) := fun ls h => kk _ (by rw [if_neg (by rw [hf]; decide)]; exact ⟨U, n, ls, hI, h, rfl⟩)
  clear kk
  have hL5 := hL.mono e0
  have hF : n ≠ 0 → ∃ f, firstM es y t = some f ∧ f ∈ meetings es ∧ FlowP (lotLinesL es) (singleL es) f (fun n => isFind es n fs) U (n : Int) := fun hn => by
    unfold InitP at hI
    cases hm : firstM es y t with
    | none =>
      rw [hm] at hI
      exact absurd hI.2 hn
    | some f =>
      rw [hm] at hI
      exact ⟨f, rfl, firstM_mem hm, hI.1⟩
  have hsl : (singleL es).length ≤ 6400 := small_len (linesP_of (es := es)).sn fun l h => by
    have := (linesP_of (es := es)).sm l h
    exact ⟨meet80 g this.1, meet80 g this.2⟩
  obtain ⟨dxc, hobj⟩ := hC.obj
  have hnsm : (1 : Nat) + 3 * (singleL es).length ≤ 100000 := by omega
  refine q_asgL (el_lst (ea_one (ev_cCount T hC (ev_var rfl))) (by simp)) fun d H6 n6 e6 hd => ?_
  have hd0 : H d = none := fresh_back e0 n6
  refine q_forNP (Rr := fun ys H' => ∃ ls, CutTold es (lotLinesL es) (singleL es) (firstM es y t) U n ls ∧ Paired (fun (z : List Int) (y : V) => ∃ t, y = .ref t ∧ H' t = some (.tup (z.map .int))) ls ys)
    ((en_meth (z := (es, lotLinesL es, singleL es, firstM es y t, U, n)) (ev_var rfl) (e6 _ _ hobj) cF_none ea_nil fun H7 e7 => ⟨x, L, es, p, fr, sg, us, firstM es y t, fs, _, _, U, n, rfl, ⟨En, as, (hL5.mono e6).mono e7, g⟩, (hC.mono e6).mono e7, linesP_of, hF, rfl⟩).imp fun p H' _ ⟨ls, h1, ys, h2, h3⟩ => ⟨ys, h2, ls, h1, h3⟩)
    (fun q ys i σ' H' => ∃ ls x6, σ' = [some (.ref L), some (.ref A), some (.ref Rw), some (.ref p), some (.ref x), some (.ref d), x6] ∧ CutTold es (lotLinesL es) (singleL es) (firstM es y t) U n ls ∧ Ex H H' ∧ q ≠ d ∧ H' q = some (.lst ys) ∧ Paired (fun (z : List Int) (y : V) => ∃ t, y = .ref t ∧ H' t = some (.tup (z.map .int))) ls ys ∧ H' d = some (.lst ((((n : Int) :: (ls.take i).flatten).map .int))))
    (fun q ys H7 n7 e7 h7 ⟨ls, hls, pr⟩ => ⟨ls, _, rfl, hls, (e0.trans e6).trans e7, (fun z => by rw [z, hd] at n7; cases n7), h7, pr, by rw [e7 _ _ hd]; simp⟩) (fun q ys i σ' H' ⟨_, _, _, _, _, _, h, _⟩ => sq_of h) (fun q ys i v σ' H' hx z => ?_) fun q ys σ' H' z => ?_
  · obtain ⟨ls, x6, rfl, hls, eh, hqd, hq, pr, hd'⟩ := z
    have hil := (List.getElem?_eq_some_iff.mp hx).1
    have hzl := paired_len pr
    have hli : ls[i]? = some (ls[i]'(by omega)) := List.getElem?_eq_getElem (by omega)
    generalize (ls[i]'(by omega)) = l at hli
    obtain ⟨tl, rfl, htl⟩ := paired_at pr hli hx
    have hlen := Nat.le_trans (take_flat_le hli) (told_len hls)
    refine s_extT hd' (st_of htl) (ev_var rfl) (ev_var rfl) (by rw [List.length_map, List.length_cons, List.length_map]; omega) fun H8 e8 => ⟨ls, _, rfl, hls, (eh.trans e8).mut hd0, hqd, by rw [upd_ne hqd]; exact e8 _ _ hq, paired_imp (fun a y ⟨t2, h1, h2⟩ => ⟨t2, h1, by
      rw [upd_ne (ne_of h2 hd' (by intro z; cases z))]
      exact e8 _ _ h2⟩) pr, ?_⟩
    · rw [upd_same, take_snoc hli]
      simp
  · obtain ⟨ls, x6, rfl, hls, eh, hqd, hq, pr, hd'⟩ := z
    have hzl := paired_len pr
    rw [← hzl, List.take_length] at hd'
    exact s_ret (ev_var rfl) fun H8 e8 => OutD.ro hL' (hcut ls hls) d H8 hd0 (eh.trans e8) (e8 _ _ hd')
end
end St

end

section

/-! The plain law, part 5: the lines of the mirror are the document's. -/
namespace St
open TbStLog
abbrev mi (es : Es) (i : Nat) : Nat := (ent es i).minute
theorem strict_of {es : Es} {l : List Nat} (hs : l.Sublist (meetings es)) (h : ∀ i ∈ l, ∀ j ∈ l, mi es i = mi es j → i = j) : l.Pairwise (fun a b => mi es a < mi es b) := by
  have h1 := (meetings_sorted es).sublist hs
  have h2 := (meetings_nodup es).sublist hs
  have h3 : l.Pairwise (fun a b => leMN es a b = true ∧ a ≠ b) := h1.and h2
  refine List.Pairwise.imp_of_mem (fun {a b} ha hb ⟨h4, h5⟩ => ?_) h3
  unfold leMN at h4
  rcases Nat.lt_trichotomy (mi es a) (mi es b) with q | q | q
  · exact q
  · exact absurd (h a ha b hb q) h5
  · simp only [Bool.or_eq_true, Bool.and_eq_true, decide_eq_true_eq] at h4
    simp only [mi] at q
    omega
theorem strict_lot {es : Es} (g : Good es) (x : Nat) : (meetingsOf es x).Pairwise (fun a b => mi es a < mi es b) :=
  strict_of List.filter_sublist fun i hi j hj e => by
    have h1 := List.mem_filter.mp hi
    have h2 := List.mem_filter.mp hj
    exact g.lot i (meetings_standing h1.1) j (meetings_standing h2.1) e x (of_decide_eq_true h1.2) (of_decide_eq_true h2.2)
theorem strict_thing {es : Es} (g : Good es) (t : Nat) : (rowsOf es t).Pairwise (fun a b => mi es a < mi es b) :=
  strict_of List.filter_sublist fun i hi j hj e => by
    have h1 := List.mem_filter.mp hi
    have h2 := List.mem_filter.mp hj
    exact g.spot i (meetings_standing h1.1) j (meetings_standing h2.1) (by rw [of_decide_eq_true h1.2, of_decide_eq_true h2.2]) e
/-- the next meeting of a lot, of a thing -/
def nextLot (es : Es) (u x : Nat) : Option Nat := (meetings es).find? fun w => decide (mi es u < mi es w) && decide (x ∈ (ent es w).lots)
def nextThing (es : Es) (u : Nat) : Option Nat := (meetings es).find? fun w => decide (mi es u < mi es w) && decide ((ent es w).thing = (ent es u).thing)
theorem lot_line {es : Es} (g : Good es) {u v : Nat} : (u, v) ∈ lotLinesL es ↔ u ∈ meetings es ∧ ∃ x ∈ (ent es u).lots, nextLot es u x = some v := by
  unfold lotLinesL
  rw [foldl_dput_mem, List.mem_flatMap]
  have key : ∀ x, (u, v) ∈ consec (meetingsOf es x) ↔ (u ∈ meetings es ∧ x ∈ (ent es u).lots) ∧ nextLot es u x = some v := fun x => by
    rw [consec_find (m := mi es) (strict_lot g x)]
    unfold meetingsOf nextLot
    rw [find_filter, List.mem_filter, decide_eq_true_iff]
  constructor
  · rintro (h | ⟨x, _, h⟩)
    · cases h
    · obtain ⟨⟨h1, h2⟩, h3⟩ := (key x).mp h
      exact ⟨h1, x, h2, h3⟩
  · rintro ⟨h1, x, h2, h3⟩
    refine .inr ⟨x, ?_, (key x).mpr ⟨⟨h1, h2⟩, h3⟩⟩
    unfold allLots
    exact rising_mem.mpr (List.mem_flatMap.mpr ⟨u, h1, h2⟩)
theorem thing_line {es : Es} (g : Good es) {more : List (Nat × Nat)} {u v : Nat} : (u, v) ∈ thingLinesL es more ↔ u ∈ meetings es ∧ nextThing es u = some v ∧ isCleaned es (ent es u).thing (mi es u) (mi es v) more = false := by
  unfold thingLinesL
  rw [foldl_dput_mem, List.mem_flatMap]
  have key : ∀ t, (u, v) ∈ consec (rowsOf es t) ↔ (u ∈ meetings es ∧ (ent es u).thing = t) ∧ (meetings es).find? (fun w => decide (mi es u < mi es w) && decide ((ent es w).thing = t)) = some v := fun t => by
    rw [consec_find (m := mi es) (strict_thing g t)]
    unfold rowsOf
    rw [find_filter, List.mem_filter, decide_eq_true_iff]
  constructor
  · rintro (h | ⟨t, _, h⟩)
    · cases h
    · obtain ⟨h, hc⟩ := List.mem_filter.mp h
      obtain ⟨⟨h1, h2⟩, h3⟩ := (key t).mp h
      subst h2
      exact ⟨h1, h3, by simpa using hc⟩
  · rintro ⟨h1, h2, h3⟩
    refine .inr ⟨(ent es u).thing, ?_, List.mem_filter.mpr ⟨(key _).mpr ⟨⟨h1, rfl⟩, h2⟩, by simpa using h3⟩⟩
    unfold things
    exact foldl_dput_mem _ _ |>.mpr (.inr (List.mem_map.mpr ⟨u, h1, rfl⟩))
/-! ### the document's -/
abbrev msOf (es : Es) : List Meet := (meetings es).map (toMeet es)
theorem nextOf_lot (es : Es) (u x : Nat) : ((nextOf (msOf es) (mi es u) fun (v : Meet) => v.lots.contains x).map fun (v : Meet) => v.no) = nextLot es u x := by
  unfold nextOf nextLot
  rw [find_map, Option.map_map]
  show Option.map (fun i => i) _ = _
  rw [Option.map_id']
  congr 1
  funext w
  show (decide (mi es u < mi es w) && (ent es w).lots.contains x) = _
  rw [List.contains_eq_mem]
theorem nextOf_thing (es : Es) (u : Nat) : (nextOf (msOf es) (mi es u) fun (v : Meet) => v.thing == (ent es u).thing) = (nextThing es u).map (toMeet es) := by
  unfold nextOf nextThing
  rw [find_map]
  congr 1
theorem mem_lotLines {es : Es} {u v : Nat} : v ∈ lotLines (msOf es) (toMeet es u) ↔ ∃ x ∈ (ent es u).lots, nextLot es u x = some v := by
  unfold lotLines
  rw [List.mem_eraseDups, List.mem_filterMap]
  constructor
  · rintro ⟨x, h1, h2⟩
    exact ⟨x, h1, by rw [← nextOf_lot]; exact h2⟩
  · rintro ⟨x, h1, h2⟩
    exact ⟨x, h1, by rw [← nextOf_lot] at h2; exact h2⟩
theorem thingLine_some {es : Es} {cs : List (Nat × Nat)} {u v : Nat} : thingLine (msOf es) cs (toMeet es u) = some v ↔ nextThing es u = some v ∧ (cs.any fun c => c.1 == (ent es u).thing && (decide (mi es u < c.2) && decide (c.2 < mi es v))) = false := by
  unfold thingLine
  show ((nextOf (msOf es) (mi es u) fun (v : Meet) => v.thing == (ent es u).thing).bind _) = _ ↔ _
  rw [nextOf_thing]
  cases hn : nextThing es u with
  | none => simp
  | some w =>
    simp only [Option.map_some, Option.bind_some, Option.some.injEq]
    show (if (cs.any fun c => c.1 == (ent es u).thing && (decide (mi es u < c.2) && decide (c.2 < mi es w))) = true then none else some w) = some v ↔ _
    by_cases hc : (cs.any fun c => c.1 == (ent es u).thing && (decide (mi es u < c.2) && decide (c.2 < mi es w))) = true
    · rw [if_pos hc]
      constructor
      · intro h; cases h
      · rintro ⟨rfl, h⟩
        rw [hc] at h
        cases h
    · rw [if_neg hc]
      constructor
      · intro h
        cases h
        exact ⟨rfl, by simpa using hc⟩
      · rintro ⟨rfl, _⟩
        rfl
theorem cleans_any (es : Es) (p : Nat × Nat → Bool) : (cleansOf (abs es)).any p = (standing es).any fun i => !isMeet (ent es i) && p ((ent es i).thing, (ent es i).minute) := by
  have h1 : (cleansOf (abs es)).any p = (abs es).any fun x => match x with
    | some (.clean t m) => p (t, m)
    | _ => false := by
    unfold cleansOf
    induction abs es with
    | nil => rfl
    | cons a l ih =>
      rw [List.filterMap_cons, List.any_cons, ← ih]
      cases a with
      | none => simp
      | some e => cases e <;> simp
  rw [h1, any_abs es _ rfl]
  refine any_congr fun i hi => ?_
  rw [absE_standing hi]
  cases isMeet (ent es i) <;> rfl
theorem cleaned_eq (es : Es) (more : List (Nat × Nat)) (t a b : Nat) : ((cleansOf (abs es) ++ more).any fun c => c.1 == t && (decide (a < c.2) && decide (c.2 < b))) = isCleaned es t a b more := by
  unfold isCleaned cleanMinutes
  rw [List.any_append, List.any_append, cleans_any, List.any_map, List.any_map, List.any_filter, List.any_filter]
  congr 1
  · refine any_congr fun i _ => ?_
    show _ = (_ && (decide (a < (ent es i).minute) && decide ((ent es i).minute < b)))
    have : (((ent es i).thing, (ent es i).minute).1 == t) = decide ((ent es i).thing = t) := rfl
    rw [this]
    cases isMeet (ent es i) <;> cases decide ((ent es i).thing = t) <;> rfl
/-- the lines with more cleanings -/
def specL (es : Es) (more : List (Nat × Nat)) : List Line := (msOf es).flatMap (linesFrom (msOf es) (cleansOf (abs es) ++ more))
theorem linesOf_eq (es : Es) : linesOf (abs es) = specL es [] := by
  unfold linesOf specL
  rw [meetsOf_eq, List.append_nil]
theorem mem_from {es : Es} (g : Good es) {more : List (Nat × Nat)} {u : Nat} (hu : u ∈ meetings es) {e : Line} : e ∈ linesFrom (msOf es) (cleansOf (abs es) ++ more) (toMeet es u) ↔
    e.from_ = u ∧ ((e.byLot = true ∧ (u, e.to) ∈ lotLinesL es) ∨ (e.byLot = false ∧ (u, e.to) ∈ thingLinesL es more ∧ (u, e.to) ∉ lotLinesL es)) := by
  unfold linesFrom
  simp only [List.mem_mergeSort, List.mem_append, List.mem_map]
  have hlot : ∀ v, v ∈ lotLines (msOf es) (toMeet es u) ↔ (u, v) ∈ lotLinesL es := fun v => by
    rw [mem_lotLines, lot_line g]
    exact ⟨fun h => ⟨hu, h⟩, fun h => h.2⟩
  have hth : ∀ v, thingLine (msOf es) (cleansOf (abs es) ++ more) (toMeet es u) = some v ↔ (u, v) ∈ thingLinesL es more := fun v => by
    rw [thingLine_some, thing_line g, cleaned_eq]
    exact ⟨fun h => ⟨hu, h⟩, fun h => h.2⟩
  constructor
  · rintro (⟨v, hv, rfl⟩ | h)
    · exact ⟨rfl, .inl ⟨rfl, (hlot v).mp hv⟩⟩
    · cases ht : thingLine (msOf es) (cleansOf (abs es) ++ more) (toMeet es u) with
      | none => rw [ht] at h; cases h
      | some v =>
        rw [ht] at h
        dsimp only at h
        by_cases hc : (lotLines (msOf es) (toMeet es u)).contains v = true
        · rw [if_pos hc] at h
          cases h
        · rw [if_neg hc] at h
          rw [List.mem_singleton.mp h]
          refine ⟨rfl, .inr ⟨rfl, (hth v).mp ht, fun h' => hc ?_⟩⟩
          exact List.contains_iff_mem.mpr ((hlot v).mpr h')
  · obtain ⟨fr, to, bl⟩ := e
    rintro ⟨h1, h2⟩
    cases h1
    rcases h2 with ⟨h2, h3⟩ | ⟨h2, h3, h4⟩
    · cases h2
      exact .inl ⟨to, (hlot to).mpr h3, rfl⟩
    · cases h2
      right
      rw [(hth to).mpr h3]
      dsimp only
      rw [if_neg (fun hc => h4 ((hlot to).mp (List.contains_iff_mem.mp hc)))]
      exact List.mem_singleton.mpr rfl
theorem mem_specL {es : Es} (g : Good es) {more : List (Nat × Nat)} {e : Line} : e ∈ specL es more ↔
    (e.byLot = true ∧ (e.from_, e.to) ∈ lotLinesL es) ∨ (e.byLot = false ∧ (e.from_, e.to) ∈ thingLinesL es more ∧ (e.from_, e.to) ∉ lotLinesL es) := by
  unfold specL
  rw [List.mem_flatMap]
  constructor
  · rintro ⟨m, hm, he⟩
    obtain ⟨u, hu, rfl⟩ := List.mem_map.mp hm
    obtain ⟨h1, h2⟩ := (mem_from g hu).mp he
    rw [h1]
    exact h2
  · intro h
    have hu : e.from_ ∈ meetings es := by
      rcases h with ⟨_, h⟩ | ⟨_, h, _⟩
      · exact ((lot_line g).mp h).1
      · exact ((thing_line g).mp h).1
    exact ⟨toMeet es e.from_, List.mem_map.mpr ⟨_, hu, rfl⟩, (mem_from g hu).mpr ⟨rfl, h⟩⟩
end St

end

section

/-! The plain law, part 6: what is touched. -/
namespace St
open TbStLog
theorem pre_uniq {l pre pre' post post' : List Nat} {b : Nat} (n : l.Nodup) (h : l = pre ++ b :: post) (h' : l = pre' ++ b :: post') : pre = pre' := by
  have key : ∀ (p q : List Nat), (p ++ b :: q).Nodup → (p ++ b :: q).takeWhile (fun x => decide (x ≠ b)) = p := fun p q hn => by
    have hb : ∀ x ∈ p, decide (x ≠ b) = true := fun x hx => decide_eq_true fun z => (List.nodup_append.mp hn).2.2 x hx b (List.mem_cons_self ..) z
    rw [List.takeWhile_append_of_pos hb, List.takeWhile_cons_of_neg (by simp), List.append_nil]
  rw [← key pre post (h ▸ n), ← key pre' post' (h' ▸ n), ← h, ← h']
theorem before_pre {l pre post : List Nat} {a b : Nat} (n : l.Nodup) (h : l = pre ++ b :: post) (hb : Before l a b) : a ∈ pre := by
  obtain ⟨pre', post', h', ha⟩ := hb
  rw [pre_uniq n h h']
  exact ha
theorem foldl_reach_from {ls : List (Nat × Nat)} {x : Nat} : ∀ (ms told : List Nat), x ∈ ms.foldl (reachStep ls) told → x ∈ told ∨ ∃ o ∈ ms.foldl (reachStep ls) told, (o, x) ∈ ls
  | [], told, h => .inl h
  | n :: ms, told, h => by
    rcases foldl_reach_from ms _ h with h | h
    · unfold reachStep at h
      split at h
      · rename_i hc
        rcases dput_mem.mp h with h | h
        · exact .inl h
        · obtain ⟨o, ho, hl⟩ := List.any_eq_true.mp hc
          refine .inr ⟨o, foldl_reach_mono ls (n :: ms) _ ho, ?_⟩
          rw [h]
          exact of_decide_eq_true hl
      · exact .inl h
    · exact .inr h
theorem firstM_eq (es : Es) (y t : Nat) : firstM es y t = (meetings es).find? fun i => decide (t ≤ mi es i) && decide (y ∈ (ent es i).lots) := by
  unfold firstM meetingsOf
  rw [List.head?_filter, find_filter]
theorem firstOf_eq (es : Es) (y t : Nat) : firstOf (msOf es) y t = (firstM es y t).map (toMeet es) := by
  unfold firstOf
  rw [find_map, firstM_eq]
  congr 1
  congr 1
  funext i
  show (decide (t ≤ mi es i) && (ent es i).lots.contains y) = _
  rw [List.contains_eq_mem]
/-- touched meetings, in their order -/
def touchedG (es : Es) (y t : Nat) (ls : List (Nat × Nat)) : List Nat := (meetings es).filter fun i => decide (i ∈ reached es y t ls)
theorem reached_mem {es : Es} {y t x : Nat} {ls : List (Nat × Nat)} (h : x ∈ reached es y t ls) : x ∈ meetings es := by
  unfold reached at h
  cases hc : firstM es y t with
  | none => rw [hc] at h; cases h
  | some f =>
    rw [hc] at h
    rcases foldl_reach_mem ls _ _ h with h | h
    · rw [List.mem_singleton.mp h]
      rw [firstM_eq] at hc
      exact List.mem_of_find?_eq_some hc
    · exact h
theorem mem_touchedG {es : Es} {y t x : Nat} {ls : List (Nat × Nat)} : x ∈ touchedG es y t ls ↔ x ∈ reached es y t ls := by
  unfold touchedG
  rw [List.mem_filter, decide_eq_true_iff]
  exact ⟨fun h => h.2, fun h => ⟨reached_mem h, h⟩⟩
/-- the lines are those -/
def Same (sl : List Line) (ls : List (Nat × Nat)) : Prop := ∀ a b, (sl.any fun e => e.to == b && e.from_ == a) = decide ((a, b) ∈ ls)
theorem touched_eq {es : Es} {sl : List Line} {ls : List (Nat × Nat)} (hs : Same sl ls) (hf : Forth es ls) (y t : Nat) : touchedBy (msOf es) sl y t = (touchedG es y t ls).map (toMeet es) := by
  unfold touchedBy
  rw [firstOf_eq]
  cases hc : firstM es y t with
  | none =>
    have : touchedG es y t ls = [] := List.filter_eq_nil_iff.mpr fun x _ h => by
      have h := of_decide_eq_true h
      unfold reached at h
      rw [hc] at h
      cases h
    rw [this]
    rfl
  | some f =>
    dsimp only [Option.map_some]
    have hR : reached es y t ls = (meetings es).foldl (reachStep ls) [f] := by unfold reached; rw [hc]
    have key : ∀ (post pre : List Nat), meetings es = pre ++ post → (post.map (toMeet es)).foldl (fun (l : List Meet) (x : Meet) => if x.no = (toMeet es f).no ∨ (sl.any fun (e : Line) => e.to == x.no && l.any fun (u : Meet) => u.no == e.from_) = true then l ++ [x] else l) ((pre.filter fun i => decide (i ∈ reached es y t ls)).map (toMeet es)) = ((meetings es).filter fun i => decide (i ∈ reached es y t ls)).map (toMeet es) := by
      intro post
      induction post with
      | nil => intro pre h; rw [h, List.append_nil]; rfl
      | cons i post ih =>
        intro pre h
        rw [List.map_cons, List.foldl_cons]
        have h' : meetings es = (pre ++ [i]) ++ post := by rw [h]; simp
        rw [← ih (pre ++ [i]) h']
        congr 1
        have hcond : ((toMeet es i).no = (toMeet es f).no ∨ (sl.any fun (e : Line) => e.to == (toMeet es i).no && ((pre.filter fun i => decide (i ∈ reached es y t ls)).map (toMeet es)).any fun (u : Meet) => u.no == e.from_) = true) ↔ i ∈ reached es y t ls := by
          show (i = f ∨ _) ↔ _
          constructor
          · rintro (h1 | h1)
            · rw [h1]; exact reached_first hc
            · obtain ⟨e, he, h2⟩ := List.any_eq_true.mp h1
              obtain ⟨h3, h4⟩ := Bool.and_eq_true_iff.mp h2
              obtain ⟨u, hu, h5⟩ := List.any_eq_true.mp h4
              obtain ⟨o, ho, rfl⟩ := List.mem_map.mp hu
              have h3 : e.to = i := beq_iff_eq.mp h3
              have h5 : o = e.from_ := beq_iff_eq.mp h5
              have hl : (o, i) ∈ ls := by
                have := hs o i
                rw [List.any_eq_true.mpr ⟨e, he, by rw [h3, h5]; simp⟩] at this
                exact of_decide_eq_true this.symm
              exact reached_closed hf (o, i) hl (of_decide_eq_true (List.mem_filter.mp ho).2)
          · intro h1
            have h2 := h1
            rw [hR] at h2
            rcases foldl_reach_from _ _ h2 with h2 | ⟨o, ho, hl⟩
            · exact .inl (List.mem_singleton.mp h2)
            · right
              have ho' : o ∈ pre := before_pre (meetings_nodup es) h (hf (o, i) hl)
              have := hs o i
              rw [decide_eq_true hl] at this
              obtain ⟨e, he, h3⟩ := List.any_eq_true.mp this
              obtain ⟨h3, h4⟩ := Bool.and_eq_true_iff.mp h3
              refine List.any_eq_true.mpr ⟨e, he, Bool.and_eq_true_iff.mpr ⟨h3, List.any_eq_true.mpr ⟨toMeet es o, List.mem_map.mpr ⟨o, List.mem_filter.mpr ⟨ho', decide_eq_true (hR ▸ ho)⟩, rfl⟩, ?_⟩⟩⟩
              show (o == e.from_) = true
              rw [beq_iff_eq.mp h4]
              simp
        rw [List.filter_append, List.map_append]
        by_cases hi : i ∈ reached es y t ls
        · rw [if_pos (hcond.mpr hi), List.filter_cons_of_pos (by simpa using hi)]
          rfl
        · rw [if_neg (fun z => hi (hcond.mp z)), List.filter_cons_of_neg (by simpa using hi)]
          simp
    exact key (meetings es) [] rfl
/-! ### reaching a find -/
theorem any_mem_congr {α : Type} {l l' : List α} {p : α → Bool} (h : ∀ x, x ∈ l ↔ x ∈ l') : l.any p = l'.any p := by
  rw [Bool.eq_iff_iff, List.any_eq_true, List.any_eq_true]
  exact ⟨fun ⟨x, h1, h2⟩ => ⟨x, (h x).mp h1, h2⟩, fun ⟨x, h1, h2⟩ => ⟨x, (h x).mpr h1, h2⟩⟩
theorem isFind_one (es : Es) (i : Nat) (f : Nat × Nat) : isFind es i [f] = (decide (f.1 ∈ (ent es i).lots) && decide ((ent es i).minute ≤ f.2)) := by
  unfold isFind
  simp
theorem reached_eq (es : Es) (y : Nat) (f : Nat × Nat) (l : List Nat) : isReached (l.map (toMeet es)) y f = (decide (f.1 = y) || l.any fun i => isFind es i [f]) := by
  unfold isReached
  rw [List.any_map]
  congr 1
  refine any_congr fun i _ => ?_
  rw [isFind_one]
  show ((ent es i).lots.contains f.1 && _) = _
  rw [List.contains_eq_mem]
  rfl
theorem doReach_eq {es : Es} {y t : Nat} {ls : List (Nat × Nat)} (fs : List (Nat × Nat)) : fs.any (isReached ((touchedG es y t ls).map (toMeet es)) y) = doReach es y (reached es y t ls) fs := by
  unfold doReach
  rw [show (reached es y t ls).any (fun i => isFind es i fs) = (touchedG es y t ls).any (fun i => isFind es i fs) from any_mem_congr fun x => mem_touchedG.symm]
  rw [Bool.eq_iff_iff]
  simp only [Bool.or_eq_true, List.any_eq_true, reached_eq, decide_eq_true_iff, isFind, Bool.and_eq_true]
  constructor
  · rintro ⟨f, hf, h | ⟨i, hi, f', hf', h⟩⟩
    · exact .inl ⟨f, hf, h⟩
    · rw [List.mem_singleton.mp hf'] at h
      exact .inr ⟨i, hi, f, hf, h⟩
  · rintro (⟨f, hf, h⟩ | ⟨i, hi, f, hf, h⟩)
    · exact ⟨f, hf, .inl h⟩
    · exact ⟨f, hf, .inr ⟨i, hi, f, List.mem_singleton.mpr rfl, h⟩⟩
theorem reachesAll_eq {es : Es} {y : Nat} (fs : List (Nat × Nat)) : fs.all (isReached ((touchedG es y 0 (allLines es [])).map (toMeet es)) y) = reachesAll es y fs := by
  unfold reachesAll touchedM
  congr 1
  funext f
  rw [reached_eq]
  rfl
/-! ### the lines of the mirror, all and free -/
theorem mem_allLines {es : Es} {more : List (Nat × Nat)} {p : Nat × Nat} : p ∈ allLines es more ↔ p ∈ lotLinesL es ∨ p ∈ thingLinesL es more := by
  unfold allLines
  exact foldl_dput_mem _ _
theorem same_all {es : Es} (g : Good es) (more : List (Nat × Nat)) : Same (specL es more) (allLines es more) := fun a b => by
  rw [Bool.eq_iff_iff, List.any_eq_true, decide_eq_true_iff, mem_allLines]
  constructor
  · rintro ⟨e, he, h⟩
    simp only [Bool.and_eq_true, beq_iff_eq] at h
    obtain ⟨rfl, rfl⟩ := h
    rcases (mem_specL g).mp he with ⟨_, h⟩ | ⟨_, h, _⟩
    · exact .inl h
    · exact .inr h
  · intro h
    by_cases hl : (a, b) ∈ lotLinesL es
    · exact ⟨⟨a, b, true⟩, (mem_specL g).mpr (.inl ⟨rfl, hl⟩), by simp⟩
    · exact ⟨⟨a, b, false⟩, (mem_specL g).mpr (.inr ⟨rfl, h.resolve_left hl, hl⟩), by simp⟩
theorem same_free {es : Es} (g : Good es) (more : List (Nat × Nat)) : Same ((specL es more).filter fun e => e.byLot) (lotLinesL es) := fun a b => by
  rw [Bool.eq_iff_iff, List.any_eq_true, decide_eq_true_iff]
  constructor
  · rintro ⟨e, he, h⟩
    obtain ⟨he, hb⟩ := List.mem_filter.mp he
    simp only [Bool.and_eq_true, beq_iff_eq] at h
    obtain ⟨rfl, rfl⟩ := h
    rcases (mem_specL g).mp he with ⟨_, h⟩ | ⟨h, _⟩
    · exact h
    · rw [h] at hb; cases hb
  · intro hl
    exact ⟨⟨a, b, true⟩, List.mem_filter.mpr ⟨(mem_specL g).mpr (.inl ⟨rfl, hl⟩), rfl⟩, by simp⟩
end St

end

section

/-! The plain law, part 7: lots and things touched, sources. -/
namespace St
open TbStLog
open TbStSpec (nats)
abbrev putP (acc : List (Nat × Nat)) (p : Nat × Nat) : List (Nat × Nat) := putNew acc p.1 p.2
theorem put_keys {k : Nat} : ∀ (P acc : List (Nat × Nat)), k ∈ (P.foldl putP acc).map (·.1) ↔ k ∈ acc.map (·.1) ∨ k ∈ P.map (·.1)
  | [], acc => by simp
  | p :: P, acc => by
    rw [List.foldl_cons, put_keys P]
    unfold putP putNew
    by_cases h : p.1 ∈ acc.map (·.1)
    · rw [if_pos h, List.map_cons, List.mem_cons]
      constructor
      · rintro (h1 | h1)
        · exact .inl h1
        · exact .inr (.inr h1)
      · rintro (h1 | h1 | h1)
        · exact .inl h1
        · rw [h1]; exact .inl h
        · exact .inr h1
    · rw [if_neg h, List.map_append, List.mem_append, List.map_cons, List.mem_cons]
      simp only [List.map_cons, List.map_nil, List.mem_cons, List.not_mem_nil, or_false]
      exact or_assoc
theorem lookup_none {k : Nat} : ∀ {l : List (Nat × Nat)}, k ∉ l.map (·.1) → l.lookup k = none
  | [], _ => rfl
  | (a, b) :: l, h => by
    rw [List.map_cons, List.mem_cons, not_or] at h
    rw [List.lookup_cons, beq_false_of_ne h.1]
    exact lookup_none h.2
theorem lookup_some {k : Nat} : ∀ {l : List (Nat × Nat)}, k ∈ l.map (·.1) → ∃ v, l.lookup k = some v
  | [], h => by cases h
  | (a, b) :: l, h => by
    rw [List.lookup_cons]
    by_cases e : k = a
    · rw [e]
      exact ⟨b, by simp⟩
    · rw [beq_false_of_ne e]
      rw [List.map_cons, List.mem_cons] at h
      exact lookup_some (h.resolve_left e)
theorem put_lookup {k : Nat} : ∀ (P acc : List (Nat × Nat)), (P.foldl putP acc).lookup k = (acc ++ P).lookup k
  | [], acc => by simp
  | p :: P, acc => by
    rw [List.foldl_cons, put_lookup P]
    unfold putP putNew
    by_cases h : p.1 ∈ acc.map (·.1)
    · rw [if_pos h, List.lookup_append, List.lookup_append]
      by_cases e : k = p.1
      · obtain ⟨v, hv⟩ := lookup_some (k := k) (l := acc) (by rw [e]; exact h)
        rw [hv]
        rfl
      · rw [List.lookup_cons, beq_false_of_ne e]
    · rw [if_neg h, List.append_assoc]
      rfl
theorem filterMap_map {α β : Type} {f : α → Option β} {g : α → β} : ∀ {l : List α}, (∀ k ∈ l, f k = some (g k)) → l.filterMap f = l.map g
  | [], _ => rfl
  | a :: l, h => by
    rw [List.filterMap_cons, h a (List.mem_cons_self ..), List.map_cons, filterMap_map fun k hk => h k (List.mem_cons_of_mem _ hk)]
theorem filterMap_filter {α β : Type} {f : α → Option β} : ∀ {l : List α}, l.filterMap f = (l.filter fun a => (f a).isSome).filterMap f
  | [] => rfl
  | a :: l => by
    rw [List.filterMap_cons]
    cases h : f a with
    | none => rw [List.filter_cons_of_neg (by rw [h]; exact Bool.false_ne_true)]; exact filterMap_filter
    | some b => rw [List.filter_cons_of_pos (by rw [h]; rfl), List.filterMap_cons, h]; exact congrArg _ filterMap_filter
theorem lookup_const {k v : Nat} : ∀ (l : List Nat), (l.map fun x => (x, v)).lookup k = if k ∈ l then some v else none
  | [] => rfl
  | a :: l => by
    rw [List.map_cons, List.lookup_cons]
    by_cases e : k = a
    · rw [e]; simp
    · rw [beq_false_of_ne e, lookup_const l]
      simp [e]
theorem lookup_flat {k : Nat} {A : Nat → List Nat} {m : Nat → Nat} : ∀ (tm : List Nat), (tm.flatMap fun i => (A i).map fun x => (x, m i)).lookup k = (tm.find? fun i => decide (k ∈ A i)).map m
  | [] => rfl
  | i :: tm => by
    rw [List.flatMap_cons, List.lookup_append, lookup_const, List.find?_cons]
    by_cases h : k ∈ A i
    · rw [if_pos h, decide_eq_true h]
      rfl
    · rw [if_neg h, decide_eq_false h]
      exact lookup_flat tm
/-- what's shown by keys -/
theorem byKey_eq {l L : List (Nat × Nat)} {R : List Nat} (hr : rising (l.map (·.1)) = R) (h : L = R.map fun k => (k, valOf l k)) : countedL (byKey l) = ((L.length : Nat) : Int) :: L.flatMap (fun (x : Nat × Nat) => nats [x.1, x.2]) := by
  unfold countedL byKey
  rw [hr, h, List.length_map, List.length_map, List.flatMap_map]
  rfl
theorem touchedL_put (es : Es) (y : Nat) (tm : List Nat) : tm.foldl (fun acc i => (ent es i).lots.foldl (fun acc x => if x ≠ y then putNew acc x (ent es i).minute else acc) acc) [] = (tm.flatMap fun i => ((ent es i).lots.filter fun x => decide (x ≠ y)).map fun x => (x, mi es i)).foldl putP [] := by
  have inner : ∀ (m : Nat) (l : List Nat) (acc : List (Nat × Nat)), l.foldl (fun acc x => if x ≠ y then putNew acc x m else acc) acc = ((l.filter fun x => decide (x ≠ y)).map fun x => (x, m)).foldl putP acc := fun m l => by
    induction l with
    | nil => intro acc; rfl
    | cons a l ih =>
      intro acc
      rw [List.foldl_cons, ih]
      by_cases h : a ≠ y
      · rw [if_pos h, List.filter_cons_of_pos (by simpa using h)]
        rfl
      · rw [if_neg h, List.filter_cons_of_neg (by simpa using h)]
  rw [List.foldl_flatMap]
  congr 1
  funext acc i
  exact inner _ _ _
theorem touchedLots_eq (es : Es) (y : Nat) (tm : List Nat) {l : List (Nat × Nat)} (hl : l = (tm.flatMap fun i => ((ent es i).lots.filter fun x => decide (x ≠ y)).map fun x => (x, mi es i)).foldl putP []) :
    countedL (byKey l) = ((touchedLots (tm.map (toMeet es)) y).length : Int) :: (touchedLots (tm.map (toMeet es)) y).flatMap (fun (x : Nat × Nat) => nats [x.1, x.2]) := by
  have hk : ∀ k, k ∈ l.map (·.1) ↔ k ≠ y ∧ ∃ i ∈ tm, k ∈ (ent es i).lots := fun k => by
    rw [hl, put_keys]
    simp only [List.map_nil, List.not_mem_nil, false_or, List.mem_map, List.mem_flatMap, List.mem_filter, decide_eq_true_iff]
    constructor
    · rintro ⟨_, ⟨i, hi, x, ⟨h1, h2⟩, rfl⟩, rfl⟩
      exact ⟨h2, i, hi, h1⟩
    · rintro ⟨h1, i, hi, h2⟩
      exact ⟨(k, mi es i), ⟨i, hi, k, ⟨h2, h1⟩, rfl⟩, rfl⟩
  refine byKey_eq rfl ?_
  unfold touchedLots
  have hr : rising (l.map (·.1)) = (rising ((tm.map (toMeet es)).flatMap fun (x : Meet) => x.lots)).filter fun (n : Nat) => n != y := by
    refine rising_ext (rising_sorted _) ((rising_sorted _).sublist List.filter_sublist) fun k => ?_
    rw [rising_mem, hk, List.mem_filter, rising_mem, List.flatMap_map, List.mem_flatMap]
    constructor
    · rintro ⟨h1, i, h2, h3⟩
      exact ⟨⟨i, h2, h3⟩, by simpa using h1⟩
    · rintro ⟨⟨i, h2, h3⟩, h1⟩
      exact ⟨by simpa using h1, i, h2, h3⟩
  rw [hr]
  refine filterMap_map fun k hkm => ?_
  rw [← hr, rising_mem, hk] at hkm
  obtain ⟨hy, i, hi, hki⟩ := hkm
  rw [find_map]
  have hv : l.lookup k = (tm.find? fun i => decide (k ∈ (ent es i).lots)).map (mi es) := by
    rw [hl, put_lookup, List.nil_append, lookup_flat]
    congr 2
    funext j
    simp [hy]
  have hc : (fun x => (toMeet es x).lots.contains k) = fun i => decide (k ∈ (ent es i).lots) := by
    funext j
    exact List.contains_eq_mem ..
  rw [hc]
  cases hf : tm.find? (fun i => decide (k ∈ (ent es i).lots)) with
  | none => exact absurd (List.find?_eq_none.mp hf i hi) (by simpa using hki)
  | some j =>
    rw [hf] at hv
    unfold valOf
    rw [hv]
    rfl
theorem cleaned_last {es : Es} (g : Good es) (t m : Nat) : ((cleansOf (abs es)).any fun c => c.1 == t && decide (m < c.2)) = isCleaned es t m 52596000 [] := by
  rw [← cleaned_eq, List.append_nil, cleans_any, cleans_any]
  refine any_congr fun i hi => ?_
  have := (g.rng _ (ent_mem (mem_standing.mp hi).1)).2
  show (!isMeet (ent es i) && ((ent es i).thing == t && decide (m < (ent es i).minute))) = (!isMeet (ent es i) && ((ent es i).thing == t && (decide (m < (ent es i).minute) && decide ((ent es i).minute < 52596000))))
  rw [decide_eq_true this, Bool.and_true]
theorem dirty_put (es : Es) (tm : List Nat) : tm.foldl (fun acc i => if isCleaned es (ent es i).thing (ent es i).minute 52596000 [] = true then acc else putNew acc (ent es i).thing (ent es i).minute) [] = ((tm.filter fun i => !isCleaned es (ent es i).thing (mi es i) 52596000 []).map fun i => ((ent es i).thing, mi es i)).foldl putP [] := by
  have : ∀ (tm : List Nat) (acc : List (Nat × Nat)), tm.foldl (fun acc i => if isCleaned es (ent es i).thing (ent es i).minute 52596000 [] = true then acc else putNew acc (ent es i).thing (ent es i).minute) acc = ((tm.filter fun i => !isCleaned es (ent es i).thing (mi es i) 52596000 []).map fun i => ((ent es i).thing, mi es i)).foldl putP acc := fun tm => by
    induction tm with
    | nil => intro acc; rfl
    | cons a l ih =>
      intro acc
      rw [List.foldl_cons, ih]
      by_cases h : isCleaned es (ent es a).thing (ent es a).minute 52596000 [] = true
      · rw [if_pos h, List.filter_cons_of_neg (by simpa using h)]
      · rw [if_neg h, List.filter_cons_of_pos (by simpa using h)]
        rfl
  exact this tm []
theorem lookup_map {k : Nat} {T m : Nat → Nat} : ∀ (tm : List Nat), (tm.map fun i => (T i, m i)).lookup k = (tm.find? fun i => decide (T i = k)).map m
  | [] => rfl
  | i :: tm => by
    rw [List.map_cons, List.lookup_cons, List.find?_cons]
    by_cases h : T i = k
    · rw [decide_eq_true h, ← h]
      simp
    · rw [decide_eq_false h, beq_false_of_ne (Ne.symm h)]
      exact lookup_map tm
theorem dirtyThings_eq {es : Es} (g : Good es) (tm : List Nat) {l : List (Nat × Nat)} (hl : l = ((tm.filter fun i => !isCleaned es (ent es i).thing (mi es i) 52596000 []).map fun i => ((ent es i).thing, mi es i)).foldl putP []) :
    countedL (byKey l) = ((dirtyThings (cleansOf (abs es)) (tm.map (toMeet es))).length : Int) :: (dirtyThings (cleansOf (abs es)) (tm.map (toMeet es))).flatMap (fun (x : Nat × Nat) => nats [x.1, x.2]) := by
  have hk : ∀ k, k ∈ l.map (·.1) ↔ ∃ i ∈ tm, (ent es i).thing = k ∧ isCleaned es (ent es i).thing (mi es i) 52596000 [] = false := fun k => by
    rw [hl, put_keys]
    simp only [List.map_nil, List.not_mem_nil, false_or, List.mem_map, List.mem_filter, Bool.not_eq_true']
    constructor
    · rintro ⟨_, ⟨i, ⟨h1, h2⟩, rfl⟩, rfl⟩
      exact ⟨i, h1, rfl, h2⟩
    · rintro ⟨i, h1, rfl, h2⟩
      exact ⟨_, ⟨i, ⟨h1, h2⟩, rfl⟩, rfl⟩
  refine byKey_eq rfl ?_
  unfold dirtyThings
  rw [filterMap_filter]
  have hfind : ∀ n, ((tm.map (toMeet es)).find? fun (x : Meet) => x.thing == n && !((cleansOf (abs es)).any fun (c : Nat × Nat) => c.1 == n && decide (x.minute < c.2))) = ((tm.filter fun i => !isCleaned es (ent es i).thing (mi es i) 52596000 []).find? fun i => decide ((ent es i).thing = n)).map (toMeet es) := fun n => by
    rw [find_map, find_filter]
    congr 2
    funext i
    show ((ent es i).thing == n && !((cleansOf (abs es)).any fun (c : Nat × Nat) => c.1 == n && decide ((ent es i).minute < c.2))) = (decide ((ent es i).thing = n) && !isCleaned es (ent es i).thing (ent es i).minute 52596000 [])
    rw [cleaned_last g]
    by_cases e : (ent es i).thing = n
    · rw [e]; simp
    · rw [decide_eq_false e, beq_false_of_ne e]
      rfl
  have hr : rising (l.map (·.1)) = (rising ((tm.map (toMeet es)).map fun (x : Meet) => x.thing)).filter fun n => (((tm.map (toMeet es)).find? fun (x : Meet) => x.thing == n && !((cleansOf (abs es)).any fun (c : Nat × Nat) => c.1 == n && decide (x.minute < c.2))).map fun (x : Meet) => (n, x.minute)).isSome := by
    refine rising_ext (rising_sorted _) ((rising_sorted _).sublist List.filter_sublist) fun k => ?_
    rw [rising_mem, hk, List.mem_filter, rising_mem, hfind, Option.isSome_map, Option.isSome_map, List.find?_isSome]
    simp only [List.map_map, List.mem_map, List.mem_filter, decide_eq_true_iff, Bool.not_eq_true']
    constructor
    · rintro ⟨i, h1, h2, h3⟩
      exact ⟨⟨i, h1, h2⟩, i, ⟨h1, h3⟩, h2⟩
    · rintro ⟨_, i, ⟨h1, h3⟩, h2⟩
      exact ⟨i, h1, h2, h3⟩
  rw [← hr]
  refine filterMap_map fun k hkm => ?_
  rw [rising_mem, hk] at hkm
  obtain ⟨i, hi, hki, hcl⟩ := hkm
  rw [hfind]
  have hv : l.lookup k = ((tm.filter fun i => !isCleaned es (ent es i).thing (mi es i) 52596000 []).find? fun i => decide ((ent es i).thing = k)).map (mi es) := by
    rw [hl, put_lookup, List.nil_append, lookup_map]
  cases hf : (tm.filter fun i => !isCleaned es (ent es i).thing (mi es i) 52596000 []).find? (fun i => decide ((ent es i).thing = k)) with
  | none => exact absurd (List.find?_eq_none.mp hf i (List.mem_filter.mpr ⟨hi, by rw [hcl]; rfl⟩)) (by simpa using hki)
  | some j =>
    rw [hf] at hv
    unfold valOf
    rw [hv]
    rfl
theorem sources_eq {es : Es} (g : Good es) (fs : List (Nat × Nat)) : sourcesOf (abs es) fs = sourcesL es fs := by
  unfold sourcesOf sourcesL
  rw [meetsOf_eq, linesOf_eq]
  dsimp only
  have h1 : rising (((meetings es).map (toMeet es)).flatMap (fun (x : Meet) => x.lots) ++ fs.map fun (f : Find) => f.1) = rising (allLots es ++ fs.map (·.1)) := by
    refine rising_ext (rising_sorted _) (rising_sorted _) fun k => ?_
    rw [rising_mem, rising_mem, List.mem_append, List.mem_append, List.flatMap_map]
    unfold allLots
    rw [rising_mem]
    rfl
  rw [h1]
  congr 1
  funext y
  show fs.all (isReached (touchedBy (msOf es) (specL es []) y 0) y) = _
  rw [touched_eq (same_all g []) (forth_all es []) y 0]
  exact reachesAll_eq fs
end St

end

section

/-! The plain law, part 8: more cleanings, ways, the lines shown. -/
namespace St
open TbStLog
open TbStSpec (nats)
/-! ### with more cleanings -/
theorem meets_more (es : Es) (r : List (Nat × Nat)) : meetsOf (abs es ++ r.map fun c => some (Entry.clean c.1 c.2)) = msOf es := by
  show _ = (meetings es).map (toMeet es)
  rw [← meetsOf_eq]
  show (((abs es ++ _).zipIdx).filterMap meetAt).mergeSort Meet.before = ((abs es).zipIdx.filterMap meetAt).mergeSort Meet.before
  rw [List.zipIdx_append, List.filterMap_append]
  have : ∀ (r : List (Nat × Nat)) (k : Nat), ((r.map fun c => some (Entry.clean c.1 c.2)).zipIdx k).filterMap meetAt = [] := fun r => by
    induction r with
    | nil => intro k; rfl
    | cons a r ih => intro k; rw [List.map_cons, List.zipIdx_cons, List.filterMap_cons]; exact ih (k + 1)
  rw [this, List.append_nil]
theorem cleans_more (es : Es) (r : List (Nat × Nat)) : cleansOf (abs es ++ r.map fun c => some (Entry.clean c.1 c.2)) = cleansOf (abs es) ++ r := by
  unfold cleansOf
  rw [List.filterMap_append, List.filterMap_map]
  congr 1
  induction r with
  | nil => rfl
  | cons a r ih => rw [List.filterMap_cons]; exact congrArg (a :: ·) ih
theorem lines_more (es : Es) (r : List (Nat × Nat)) : linesOf (abs es ++ r.map fun c => some (Entry.clean c.1 c.2)) = specL es r := by
  unfold linesOf specL
  rw [meets_more, cleans_more]
/-! ### ways -/
theorem consec_cons (a b : Nat) (r : List Nat) : consec (a :: b :: r) = (a, b) :: consec (b :: r) := by
  unfold consec
  rw [show (a :: b :: r).length - 1 = ((b :: r).length - 1) + 1 from rfl, List.range_succ_eq_map, List.map_cons, List.map_map]
  rfl
theorem lineAt_mem {sl : List Line} {a b : Nat} {e : Line} (h : lineAt sl a b = some e) : e ∈ sl ∧ (e.from_, e.to) = (a, b) := by
  unfold lineAt at h
  have h1 := List.find?_some h
  simp only [Bool.and_eq_true, beq_iff_eq] at h1
  exact ⟨List.mem_of_find?_eq_some h, by rw [h1.1, h1.2]⟩
theorem lineAt_none {sl : List Line} {ls : List (Nat × Nat)} (hs : Same sl ls) {a b : Nat} : lineAt sl a b = none ↔ (a, b) ∉ ls := by
  unfold lineAt
  rw [List.find?_eq_none]
  have := hs a b
  constructor
  · intro h hm
    rw [decide_eq_true hm] at this
    obtain ⟨e, he, h2⟩ := List.any_eq_true.mp this
    refine h e he ?_
    rw [Bool.and_comm]
    exact h2
  · intro h e he h2
    rw [decide_eq_false h] at this
    rw [Bool.and_comm] at h2
    exact List.any_eq_false.mp this e he h2
theorem along_some {sl : List Line} {ls : List (Nat × Nat)} (hs : Same sl ls) : ∀ w : List Nat, (∀ p ∈ consec w, p ∈ ls) → ∃ l, along sl w = some l ∧ l.map (fun e => (e.from_, e.to)) = consec w ∧ ∀ e ∈ l, e ∈ sl
  | [], _ => ⟨[], rfl, rfl, fun e h => by cases h⟩
  | [a], _ => ⟨[], rfl, rfl, fun e h => by cases h⟩
  | a :: b :: r, h => by
    rw [consec_cons] at h ⊢
    cases hl : lineAt sl a b with
    | none => exact absurd (h (a, b) (List.mem_cons_self ..)) ((lineAt_none hs).mp hl)
    | some e =>
      obtain ⟨l, h1, h2, h3⟩ := along_some hs (b :: r) fun p hp => h p (List.mem_cons_of_mem _ hp)
      have := lineAt_mem hl
      refine ⟨e :: l, ?_, by rw [List.map_cons, this.2, h2], fun x hx => ?_⟩
      · unfold along
        rw [hl, Option.bind_some, h1]
        rfl
      · rcases List.mem_cons.mp hx with h | h
        · rw [h]; exact this.1
        · exact h3 x h
theorem along_none {sl : List Line} {ls : List (Nat × Nat)} (hs : Same sl ls) : ∀ w : List Nat, (along sl w).isSome = true → ∀ p ∈ consec w, p ∈ ls
  | [], _, p, hp => by cases hp
  | [a], _, p, hp => by cases hp
  | a :: b :: r, h, p, hp => by
    unfold along at h
    cases hl : lineAt sl a b with
    | none => rw [hl] at h; cases h
    | some e =>
      rw [hl, Option.bind_some, Option.isSome_map] at h
      rw [consec_cons] at hp
      rcases List.mem_cons.mp hp with h1 | h1
      · rw [h1]
        exact Classical.byContradiction fun hn => by
          rw [(lineAt_none hs).mpr hn] at hl
          cases hl
      · exact along_none hs (b :: r) h p h1
theorem hasFind_eq (es : Es) (i : Nat) (fs : List (Nat × Nat)) : hasFind fs (toMeet es i) = isFind es i fs := by
  unfold hasFind isFind
  congr 1
  funext f
  show ((ent es i).lots.contains f.1 && _) = _
  rw [List.contains_eq_mem]
  rfl
theorem forth_mem {es : Es} {ls : List (Nat × Nat)} (hf : Forth es ls) {p : Nat × Nat} (h : p ∈ ls) : p.1 ∈ meetings es ∧ p.2 ∈ meetings es := by
  obtain ⟨pre, post, e, ha⟩ := hf p h
  rw [e]
  exact ⟨List.mem_append_left _ ha, List.mem_append_right _ (List.mem_cons_self ..)⟩
theorem way_mem {M : Nat → Prop} : ∀ (r : List Nat) (a : Nat), M a → (∀ p ∈ consec (a :: r), M p.2) → ∀ n ∈ a :: r, M n
  | [], a, ha, _, n, hn => by rw [List.mem_singleton.mp hn]; exact ha
  | b :: r, a, ha, h, n, hn => by
    rw [consec_cons] at h
    rcases List.mem_cons.mp hn with h1 | h1
    · rw [h1]; exact ha
    · exact way_mem r b (h (a, b) (List.mem_cons_self ..)) (fun p hp => h p (List.mem_cons_of_mem _ hp)) n h1
theorem firstM_mem' {es : Es} {y t f : Nat} (h : firstM es y t = some f) : f ∈ meetings es := by
  rw [firstM_eq] at h
  exact List.mem_of_find?_eq_some h
theorem way_eq {es : Es} (g : Good es) (y t : Nat) (fs : List (Nat × Nat)) (w : List Nat) : TbStLog.isWay (msOf es) (specL es []) y t fs w = isWayL es y t fs w := by
  cases w with
  | nil => unfold TbStLog.isWay isWayL; rfl
  | cons a r =>
    have hlast : (a :: r).getLast? = some ((a :: r).getLastD 0) := by
      rw [List.getLast?_eq_some_getLast (List.cons_ne_nil a r)]
      congr 1
    obtain ⟨z, hz0⟩ : ∃ z, (a :: r).getLastD 0 = z := ⟨_, rfl⟩
    rw [hz0] at hlast
    unfold TbStLog.isWay isWayL
    rw [hlast, firstOf_eq]
    have hz : z ∈ a :: r := List.mem_of_getLast? hlast
    rw [Bool.eq_iff_iff]
    simp only [Bool.and_eq_true, List.head?_cons, Option.any_some, List.any_eq_true, List.all_eq_true, decide_eq_true_iff, beq_iff_eq]
    have hfind : (∃ x, x ∈ msOf es ∧ x.no = z ∧ hasFind fs x = true) ↔ z ∈ meetings es ∧ isFind es z fs = true := by
      constructor
      · rintro ⟨x, hx, h1, h2⟩
        obtain ⟨i, hi, rfl⟩ := List.mem_map.mp hx
        have h1 : i = z := h1
        rw [h1] at hi h2
        exact ⟨hi, by rw [← hasFind_eq]; exact h2⟩
      · rintro ⟨h1, h2⟩
        exact ⟨toMeet es z, List.mem_map.mpr ⟨z, h1, rfl⟩, rfl, by rw [hasFind_eq]; exact h2⟩
    rw [hfind]
    cases hf : firstM es y t with
    | none => simp
    | some f =>
      simp only [Option.map_some, beq_iff_eq, Option.some.injEq]
      show (a = f ∧ _) ↔ _
      constructor
      · rintro ⟨rfl, h1, h2, h3⟩
        have hc := along_none (same_all g []) _ h1
        refine ⟨way_mem (M := fun n => n ∈ meetings es) r a (firstM_mem' hf) fun p hp => (forth_mem (forth_all es []) (hc p hp)).2, rfl, by rw [hz0]; exact h3, hc⟩
      · rintro ⟨h1, rfl, h2, h3⟩
        obtain ⟨l, hl, _⟩ := along_some (same_all g []) _ h3
        exact ⟨rfl, by rw [hl]; rfl, h1 z hz, by rw [← hz0]; exact h2⟩
/-! ### apart -/
theorem dups_iff {α : Type} [BEq α] [LawfulBEq α] [DecidableEq α] (l : List α) : (l.length == l.eraseDups.length) = decide l.Nodup := by
  rw [Bool.eq_iff_iff, beq_iff_eq, decide_eq_true_iff]
  constructor
  · intro h
    rw [← (eraseDups_sub _ l (Nat.le_refl _)).eq_of_length h.symm]
    exact eraseDups_nodup _ l (Nat.le_refl _)
  · intro h
    exact ((List.perm_ext_iff_of_nodup h (eraseDups_nodup _ l (Nat.le_refl _))).mpr fun a => List.mem_eraseDups.symm).length_eq
theorem nodup_map_on {α β : Type} {f : α → β} : ∀ {l : List α}, (∀ a ∈ l, ∀ b ∈ l, f a = f b → a = b) → ((l.map f).Nodup ↔ l.Nodup)
  | [], _ => by simp
  | a :: l, h => by
    rw [List.map_cons, List.nodup_cons, List.nodup_cons, nodup_map_on fun x hx y hy => h x (List.mem_cons_of_mem _ hx) y (List.mem_cons_of_mem _ hy)]
    refine and_congr_left fun _ => not_congr ?_
    rw [List.mem_map]
    constructor
    · rintro ⟨b, hb, e⟩
      rw [← h b (List.mem_cons_of_mem _ hb) a (List.mem_cons_self ..) e]
      exact hb
    · exact fun hm => ⟨a, hm, rfl⟩
theorem line_byLot {es : Es} (g : Good es) {more : List (Nat × Nat)} {e : Line} (h : e ∈ specL es more) : e.byLot = decide ((e.from_, e.to) ∈ lotLinesL es) := by
  rcases (mem_specL g).mp h with ⟨h1, h2⟩ | ⟨h1, _, h2⟩
  · rw [h1, decide_eq_true h2]
  · rw [h1, decide_eq_false h2]
theorem line_inj {es : Es} (g : Good es) {more : List (Nat × Nat)} {e e' : Line} (h : e ∈ specL es more) (h' : e' ∈ specL es more) (he : (e.from_, e.to) = (e'.from_, e'.to)) : e = e' := by
  have h1 := line_byLot g h
  have h2 := line_byLot g h'
  rw [he, ← h2] at h1
  obtain ⟨a, b, c⟩ := e
  obtain ⟨a', b', c'⟩ := e'
  cases he
  cases h1
  rfl
theorem apart_eq {es : Es} (g : Good es) (ws : List (List Nat)) (h : ∀ w ∈ ws, ∀ p ∈ consec w, p ∈ allLines es []) : TbStLog.apart (specL es []) ws = apartL es ws := by
  have hw : ∀ w ∈ ws, (usedBy (specL es []) w).map (fun e => (e.from_, e.to)) = (consec w).filter (fun p => !decide (p ∈ lotLinesL es)) ∧ ∀ e ∈ usedBy (specL es []) w, e ∈ specL es [] := fun w hm => by
    obtain ⟨l, h1, h2, h3⟩ := along_some (same_all g []) w (h w hm)
    unfold usedBy
    rw [h1, Option.getD_some, ← h2, List.filter_map]
    refine ⟨?_, fun e he => h3 e (List.mem_filter.mp he).1⟩
    congr 1
    refine List.filter_congr fun e he => ?_
    rw [line_byLot g (h3 e he)]
    rfl
  unfold TbStLog.apart apartL
  dsimp only
  rw [dups_iff]
  have hmap : (ws.flatMap (usedBy (specL es []))).map (fun e => (e.from_, e.to)) = usedL es ws := by
    unfold usedL
    rw [List.map_flatMap, List.filter_flatMap]
    clear h
    induction ws with
    | nil => rfl
    | cons w ws ih =>
      rw [List.flatMap_cons, List.flatMap_cons, (hw w (List.mem_cons_self ..)).1, ih fun w h => hw w (List.mem_cons_of_mem _ h)]
  have hin : ∀ e ∈ ws.flatMap (usedBy (specL es [])), e ∈ specL es [] := fun e he => by
    obtain ⟨w, hm, h1⟩ := List.mem_flatMap.mp he
    exact (hw w hm).2 e h1
  rw [Bool.eq_iff_iff, decide_eq_true_iff, decide_eq_true_iff, ← hmap]
  exact (nodup_map_on fun a ha b hb e => line_inj g (hin a ha) (hin b hb) e).symm
end St

end

section

/-! The plain law, part 9: the lines shown, in their order. -/
namespace St
open TbStLog
open TbStSpec (nats)
/-- lines by their meetings, strictly -/
def ltL (es : Es) (p q : Nat × Nat) : Prop := mi es p.1 < mi es q.1 ∨ (mi es p.1 = mi es q.1 ∧ (p.1 < q.1 ∨ (p.1 = q.1 ∧ p.2 < q.2)))
theorem ltL_le {es : Es} {p q : Nat × Nat} (h : ltL es p q) : leL es p q = true := by
  unfold leL
  simp only [Bool.or_eq_true, Bool.and_eq_true, decide_eq_true_eq]
  unfold ltL at h
  simp only [mi] at h
  omega
theorem ltL_irr {es : Es} {p : Nat × Nat} (h : ltL es p p) : False := by
  unfold ltL at h
  omega
theorem leL_trans (es : Es) (a b c : Nat × Nat) (h1 : leL es a b = true) (h2 : leL es b c = true) : leL es a c = true := by
  unfold leL at *
  simp only [Bool.or_eq_true, Bool.and_eq_true, decide_eq_true_eq] at *
  omega
theorem leL_total (es : Es) (a b : Nat × Nat) : (leL es a b || leL es b a) = true := by
  unfold leL
  simp only [Bool.or_eq_true, Bool.and_eq_true, decide_eq_true_eq]
  omega
theorem leL_anti {es : Es} {a b : Nat × Nat} (h1 : leL es a b = true) (h2 : leL es b a = true) : a = b := by
  unfold leL at h1 h2
  simp only [Bool.or_eq_true, Bool.and_eq_true, decide_eq_true_eq] at h1 h2
  exact Prod.ext (by omega) (by omega)
abbrev pairE (e : Line) : Nat × Nat := (e.from_, e.to)
theorem from_sorted {es : Es} (g : Good es) {more : List (Nat × Nat)} {u : Nat} (hu : u ∈ meetings es) : ((linesFrom (msOf es) (cleansOf (abs es) ++ more) (toMeet es u)).map pairE).Pairwise (ltL es) := by
  have hall := fun e => mem_from g hu (more := more) (e := e)
  have hsort : (linesFrom (msOf es) (cleansOf (abs es) ++ more) (toMeet es u)).Pairwise (fun a b => decide (a.to ≤ b.to) = true) := by
    unfold linesFrom
    exact List.pairwise_mergeSort (fun a b c h1 h2 => by simp at *; omega) (fun a b => by simp; omega) _
  have hnd : ((linesFrom (msOf es) (cleansOf (abs es) ++ more) (toMeet es u)).map fun e => e.to).Nodup := by
    unfold linesFrom
    dsimp only
    refine (((List.mergeSort_perm _ _).map _).nodup_iff).mpr ?_
    rw [List.map_append, List.map_map, List.nodup_append]
    refine ⟨?_, ?_, ?_⟩
    · show ((lotLines (msOf es) (toMeet es u)).map fun n => n).Nodup
      rw [List.map_id']
      exact eraseDups_nodup _ _ (Nat.le_refl _)
    · cases thingLine (msOf es) (cleansOf (abs es) ++ more) (toMeet es u) with
      | none => simp
      | some n =>
        dsimp only
        split <;> simp
    · intro a ha b hb
      have ha : a ∈ lotLines (msOf es) (toMeet es u) := by
        obtain ⟨n, hn, rfl⟩ := List.mem_map.mp ha
        exact hn
      cases ht : thingLine (msOf es) (cleansOf (abs es) ++ more) (toMeet es u) with
      | none => rw [ht] at hb; cases hb
      | some n =>
        rw [ht] at hb
        dsimp only at hb
        by_cases hc : (lotLines (msOf es) (toMeet es u)).contains n = true
        · rw [if_pos hc] at hb
          cases hb
        · rw [if_neg hc] at hb
          have : b = n := by simpa using hb
          intro e
          rw [e, this] at ha
          exact hc (List.contains_iff_mem.mpr ha)
  rw [List.pairwise_map]
  have h2 : (linesFrom (msOf es) (cleansOf (abs es) ++ more) (toMeet es u)).Pairwise (fun a b => a.to ≠ b.to) := List.pairwise_map.mp hnd
  refine List.Pairwise.imp_of_mem (fun {a b} ha hb ⟨h3, h4⟩ => ?_) (hsort.and h2)
  have e1 := ((hall a).mp ha).1
  have e2 := ((hall b).mp hb).1
  have h3 := of_decide_eq_true h3
  refine .inr ⟨?_, .inr ⟨?_, ?_⟩⟩
  · show mi es a.from_ = mi es b.from_
    rw [e1, e2]
  · show a.from_ = b.from_
    rw [e1, e2]
  · show a.to < b.to
    omega
theorem specL_sorted {es : Es} (g : Good es) (more : List (Nat × Nat)) : ((specL es more).map pairE).Pairwise (ltL es) := by
  unfold specL
  rw [List.map_flatMap, List.flatMap_map, List.pairwise_flatMap]
  refine ⟨fun u hu => from_sorted g hu, ?_⟩
  have h3 : (meetings es).Pairwise (fun a b => leMN es a b = true ∧ a ≠ b) := (meetings_sorted es).and (meetings_nodup es)
  refine List.Pairwise.imp_of_mem (fun {a b} ha hb ⟨h4, h5⟩ => ?_) h3
  intro x hx y hy
  obtain ⟨e, he, rfl⟩ := List.mem_map.mp hx
  obtain ⟨e', he', rfl⟩ := List.mem_map.mp hy
  have e1 := ((mem_from g ha).mp he).1
  have e2 := ((mem_from g hb).mp he').1
  unfold leMN at h4
  simp only [Bool.or_eq_true, Bool.and_eq_true, decide_eq_true_eq] at h4
  show mi es e.from_ < mi es e'.from_ ∨ (mi es e.from_ = mi es e'.from_ ∧ (e.from_ < e'.from_ ∨ (e.from_ = e'.from_ ∧ e.to < e'.to)))
  rw [e1, e2]
  simp only [mi]
  omega
theorem specL_nodup {es : Es} (g : Good es) (more : List (Nat × Nat)) : ((specL es more).map pairE).Nodup := (specL_sorted g more).imp fun h e => by rw [e] at h; exact ltL_irr h
theorem mem_pairs {es : Es} (g : Good es) {more : List (Nat × Nat)} {p : Nat × Nat} : p ∈ (specL es more).map pairE ↔ p ∈ allLines es more := by
  rw [List.mem_map]
  have := same_all g more p.1 p.2
  constructor
  · rintro ⟨e, he, rfl⟩
    rw [List.any_eq_true.mpr ⟨e, he, by simp⟩] at this
    exact of_decide_eq_true this.symm
  · intro h
    rw [decide_eq_true h] at this
    obtain ⟨e, he, h2⟩ := List.any_eq_true.mp this
    simp only [Bool.and_eq_true, beq_iff_eq] at h2
    exact ⟨e, he, Prod.ext h2.2 h2.1⟩
theorem shown_eq {es : Es} (g : Good es) : countedL (linesShown es) = ((linesOf (abs es)).length : Int) :: (linesOf (abs es)).flatMap (fun (e : Line) => nats [e.from_, e.to, if e.byLot = true then 0 else 1]) := by
  have hn : ((lotLinesL es).foldl dput (thingLinesL es [])).Nodup := foldl_dput_nodup _ _ (foldl_dput_nodup _ _ List.nodup_nil)
  have hsort : ((lotLinesL es).foldl dput (thingLinesL es [])).mergeSort (leL es) = (specL es []).map pairE := by
    refine perm_sorted_eq (R := fun a b => leL es a b = true) ?_ (List.pairwise_mergeSort (leL_trans es) (leL_total es) _) ((specL_sorted g []).imp ltL_le) fun a _ b _ => leL_anti
    refine (List.mergeSort_perm _ _).trans ((List.perm_ext_iff_of_nodup hn (specL_nodup g [])).mpr fun p => ?_)
    rw [foldl_dput_mem, mem_pairs g, mem_allLines]
    exact or_comm
  rw [linesOf_eq]
  unfold countedL linesShown
  rw [hsort, List.length_map, List.length_map, List.map_map]
  congr 1
  have hb : ∀ e ∈ specL es [], e.byLot = decide (pairE e ∈ lotLinesL es) := fun e he => line_byLot g he
  generalize specL es [] = l at hb
  induction l with
  | nil => rfl
  | cons e l ih =>
    rw [List.map_cons, List.flatten_cons, List.flatMap_cons, ih fun x hx => hb x (List.mem_cons_of_mem _ hx)]
    congr 1
    have := hb e (List.mem_cons_self ..)
    show [(e.from_ : Int), (e.to : Int), if pairE e ∈ lotLinesL es then 0 else 1] = _
    rw [this]
    by_cases h : pairE e ∈ lotLinesL es
    · rw [if_pos h, decide_eq_true h]
      rfl
    · rw [if_neg h, decide_eq_false h]
      rfl
end St

end

section

/-! The plain law, part 10: a call's step (but the fewest). -/
namespace St
open TbStLog
open TbStSpec (nats says tells)
/-- what is told, and the entries behind it -/
def toldOf (es : Es) : Res → List Int × Es
  | .error ns => (ns, es)
  | .ok (l, es') => (l, es')
/-- a step of the document is this end -/
def Steps (es : Es) (z : TbStSpec.State × TbStSpec.Answer) (r : Res) : Prop := z.1 = abs (toldOf es r).2 ∧ z.2.num :: z.2.more = (toldOf es r).1 ∧ Good (toldOf es r).2
theorem twosL_cons (a b : Nat) (r : List Nat) : twosL (a :: b :: r) = (a, b) :: twosL r := by
  unfold twosL
  rw [show (a :: b :: r).length / 2 = r.length / 2 + 1 by simp only [List.length_cons]; omega, List.range_succ_eq_map, List.map_cons, List.map_map]
  congr 1
theorem twos_eq : ∀ l : List Nat, TbStSpec.twos l = twosL l
  | [] => rfl
  | [a] => by simp [TbStSpec.twos, twosL]
  | a :: b :: r => by
    rw [twosL_cons, ← twos_eq r]
    rfl
theorem twosL_lenE (l : List Nat) : (twosL l).length = l.length / 2 := by
  unfold twosL
  rw [List.length_map, List.length_range]
theorem isBad_iff (y t : Nat) : TbStSpec.isBad y t = decide (isBadL y t) := by
  unfold TbStSpec.isBad TbStSpec.LOTS TbStSpec.MINUTES isBadL
  rw [Bool.eq_iff_iff]
  simp
theorem isSpot_iff (y t : Nat) : TbStSpec.isSpot y t = decide (isSpotL y t) := by
  unfold TbStSpec.isSpot TbStSpec.THINGS TbStSpec.MINUTES isSpotL
  rw [Bool.eq_iff_iff]
  simp
theorem finds_eq (l : List Nat) : (findsIn l = .ok (twosL l) ∧ TbStSpec.findsIn l = some (twosL l)) ∨ (findsIn l = .error [-1] ∧ TbStSpec.findsIn l = none) := by
  unfold findsIn TbStSpec.findsIn
  rw [twos_eq, twosL_lenE]
  have hc : (l.length % 2 = 0 ∧ 2 ≤ l.length ∧ l.length ≤ 24 ∧ (∀ f ∈ twosL l, f.1 < 1000 ∧ f.2 < 52596000)) ↔ (l.length % 2 = 0 ∧ 1 ≤ l.length / 2 ∧ l.length / 2 ≤ TbStSpec.FINDS ∧ (twosL l).all (fun (f : Find) => TbStSpec.isBad f.1 f.2) = true) := by
    simp only [List.all_eq_true, isBad_iff, decide_eq_true_iff, isBadL, TbStSpec.FINDS]
    constructor
    · rintro ⟨h1, h2, h3, h4⟩
      exact ⟨h1, by omega, by omega, h4⟩
    · rintro ⟨h1, h2, h3, h4⟩
      exact ⟨h1, by omega, by omega, h4⟩
  by_cases h : l.length % 2 = 0 ∧ 2 ≤ l.length ∧ l.length ≤ 24 ∧ (∀ f ∈ twosL l, f.1 < 1000 ∧ f.2 < 52596000)
  · rw [if_pos h, if_pos (hc.mp h)]
    exact .inl ⟨rfl, rfl⟩
  · rw [if_neg h, if_neg fun z => h (hc.mpr z)]
    exact .inr ⟨rfl, rfl⟩
theorem rising_cons (a b : Nat) (r : List Nat) : isRising (a :: b :: r) = (decide (a < b) && isRising (b :: r)) := by
  unfold isRising
  rw [show (a :: b :: r).length - 1 = ((b :: r).length - 1) + 1 from rfl, List.range_succ_eq_map, List.all_cons, List.all_map]
  rfl
theorem rising_zip : ∀ l : List Nat, ((l.zip (l.drop 1)).all fun (x : Nat × Nat) => decide (x.1 < x.2)) = isRising l
  | [] => rfl
  | [a] => rfl
  | a :: b :: r => by
    rw [rising_cons, ← rising_zip (b :: r)]
    rfl
theorem rising_pw : ∀ l : List Nat, isRising l = true → l.Pairwise (· < ·)
  | [], _ => .nil
  | [a], _ => List.pairwise_singleton ..
  | a :: b :: r, h => by
    rw [rising_cons, Bool.and_eq_true, decide_eq_true_iff] at h
    have ih := rising_pw (b :: r) h.2
    refine .cons (fun x hx => ?_) ih
    rcases List.mem_cons.mp hx with e | e
    · rw [e]; exact h.1
    · exact Nat.lt_trans h.1 (List.rel_of_pairwise_cons ih e)
theorem row_iff (l : List Nat) : TbStSpec.isRow l = decide (1 ≤ l.length ∧ l.length ≤ 12 ∧ (∀ x ∈ l, x < 1000) ∧ isRising l = true) := by
  unfold TbStSpec.isRow TbStSpec.TOGETHER TbStSpec.LOTS
  rw [rising_zip, Bool.eq_iff_iff]
  simp
theorem meet_law {es : Es} (g : Good es) (t m : Nat) (ls : List Nat) : Steps es (TbStSpec.step (abs es) (.meet t m ls)) (dMeet es t m ls) := by
  unfold TbStSpec.step dMeet
  dsimp only
  rw [isSpot_iff, row_iff, abs_len, taken_eq]
  by_cases h1 : isSpotL t m
  · rw [if_neg (show ¬ ¬ isSpotL t m from fun z => z h1)]
    by_cases h2 : 1 ≤ ls.length ∧ ls.length ≤ 12 ∧ (∀ x ∈ ls, x < 1000) ∧ isRising ls = true
    · rw [if_neg (show ¬ (decide (isSpotL t m) = false ∨ decide (1 ≤ ls.length ∧ ls.length ≤ 12 ∧ (∀ x ∈ ls, x < 1000) ∧ isRising ls = true) = false) by rw [decide_eq_true h1, decide_eq_true h2]; simp),
        if_neg (show ¬ ¬ (1 ≤ ls.length ∧ ls.length ≤ 12 ∧ (∀ x ∈ ls, x < 1000) ∧ isRising ls = true) from fun z => z h2)]
      show Steps es (if 80 ≤ es.length then _ else _) _
      by_cases h3 : 80 ≤ es.length
      · rw [if_pos h3, if_pos h3]
        exact ⟨rfl, rfl, g⟩
      · rw [if_neg h3, if_neg h3]
        by_cases h4 : isTaken es t m = true
        · rw [if_pos h4, if_pos h4]
          exact ⟨rfl, rfl, g⟩
        · rw [if_neg h4, if_neg h4]
          rw [show (ls.find? fun n => TbStSpec.busy (abs es) n m) = ls.find? (fun x => hasMeeting es x m) by congr 1; funext x; exact busy_eq es x m]
          cases hf : ls.find? (fun x => hasMeeting es x m) with
          | some n => exact ⟨rfl, rfl, g⟩
          | none =>
            refine ⟨(abs_meet es t m ls h2.1).symm, rfl, good_add g (by omega) h2.2.1 (rising_pw _ h2.2.2.2) h2.2.2.1 h1.1 h1.2 (by simpa using h4) fun x hx => ?_⟩
            have := List.find?_eq_none.mp hf x hx
            simpa using this
    · rw [if_pos (show decide (isSpotL t m) = false ∨ decide (1 ≤ ls.length ∧ ls.length ≤ 12 ∧ (∀ x ∈ ls, x < 1000) ∧ isRising ls = true) = false from .inr (decide_eq_false h2)), if_pos h2]
      exact ⟨rfl, rfl, g⟩
  · rw [if_pos (show decide (isSpotL t m) = false ∨ decide (1 ≤ ls.length ∧ ls.length ≤ 12 ∧ (∀ x ∈ ls, x < 1000) ∧ isRising ls = true) = false from .inl (decide_eq_false h1)), if_pos h1]
    exact ⟨rfl, rfl, g⟩
theorem clean_law {es : Es} (g : Good es) (t m : Nat) : Steps es (TbStSpec.step (abs es) (.clean t m)) (dClean es t m) := by
  unfold TbStSpec.step dClean
  dsimp only
  rw [isSpot_iff, abs_len, taken_eq]
  by_cases h1 : isSpotL t m
  · rw [if_neg (show ¬ ¬ isSpotL t m from fun z => z h1), if_neg (show ¬ decide (isSpotL t m) = false by rw [decide_eq_true h1]; simp)]
    show Steps es (if 80 ≤ es.length then _ else _) _
    by_cases h3 : 80 ≤ es.length
    · rw [if_pos h3, if_pos h3]
      exact ⟨rfl, rfl, g⟩
    · rw [if_neg h3, if_neg h3]
      by_cases h4 : isTaken es t m = true
      · rw [if_pos h4, if_pos h4]
        exact ⟨rfl, rfl, g⟩
      · rw [if_neg h4, if_neg h4]
        exact ⟨(abs_clean es t m).symm, rfl, good_add g (by omega) (by simp) .nil (by simp) h1.1 h1.2 (by simpa using h4) (by simp)⟩
  · rw [if_pos h1, if_pos (decide_eq_false h1)]
    exact ⟨rfl, rfl, g⟩
theorem strike_law {es : Es} (g : Good es) (n : Nat) : Steps es (TbStSpec.step (abs es) (.strike n)) (dStrike es n) := by
  unfold TbStSpec.step dStrike
  dsimp only
  rw [entryOf_eq]
  by_cases h : n ∈ standing es
  · rw [if_pos h, if_pos h, if_neg (by split <;> simp)]
    rw [← abs_strike]
    exact ⟨rfl, by rw [count_abs]; rfl, good_strike g (mem_standing.mp h).1⟩
  · rw [if_neg h, if_neg h, if_pos (show (none : Option Entry).isNone = true from rfl)]
    exact ⟨rfl, rfl, g⟩
theorem entry_law {es : Es} (g : Good es) (n : Nat) : Steps es (TbStSpec.step (abs es) (.entry n)) (dEntry es n) := by
  show Steps es (abs es, TbStSpec.asked (abs es) (.entry n)) _
  unfold TbStSpec.asked dEntry
  dsimp only
  rw [entryOf_eq]
  by_cases h : n ∈ standing es
  · rw [if_pos h, if_pos h]
    by_cases hm : isMeet (ent es n) = true
    · rw [if_pos hm, if_pos hm]
      exact ⟨rfl, rfl, g⟩
    · rw [if_neg hm, if_neg hm]
      have : (ent es n).lots = [] := by
        unfold isMeet at hm
        cases hl : (ent es n).lots with
        | nil => rfl
        | cons a r => rw [hl] at hm; simp at hm
      refine ⟨rfl, ?_, g⟩
      rw [this]
      rfl
  · rw [if_neg h, if_neg h]
    exact ⟨rfl, rfl, g⟩
theorem touched_law {es : Es} (g : Good es) (y t : Nat) : Steps es (TbStSpec.step (abs es) (.touched y t)) (dTouched es y t) := by
  show Steps es (abs es, TbStSpec.asked (abs es) (.touched y t)) _
  unfold TbStSpec.asked dTouched
  dsimp only
  rw [isBad_iff]
  by_cases h : isBadL y t
  · rw [if_neg (show ¬ decide (isBadL y t) = false by rw [decide_eq_true h]; simp), if_neg (show ¬ ¬ isBadL y t from fun z => z h), meetsOf_eq, linesOf_eq]
    refine ⟨rfl, ?_, g⟩
    rw [show touchedBy ((meetings es).map (toMeet es)) (specL es []) y t = _ from touched_eq (same_all g []) (forth_all es []) y t]
    exact (touchedLots_eq es y _ (touchedL_put es y _)).symm
  · rw [if_pos (decide_eq_false h), if_pos h]
    exact ⟨rfl, rfl, g⟩
theorem dirty_law {es : Es} (g : Good es) (y t : Nat) : Steps es (TbStSpec.step (abs es) (.dirty y t)) (dDirty es y t) := by
  show Steps es (abs es, TbStSpec.asked (abs es) (.dirty y t)) _
  unfold TbStSpec.asked dDirty
  dsimp only
  rw [isBad_iff]
  by_cases h : isBadL y t
  · rw [if_neg (show ¬ decide (isBadL y t) = false by rw [decide_eq_true h]; simp), if_neg (show ¬ ¬ isBadL y t from fun z => z h), meetsOf_eq, linesOf_eq]
    refine ⟨rfl, ?_, g⟩
    rw [show touchedBy ((meetings es).map (toMeet es)) (specL es []) y t = _ from touched_eq (same_all g []) (forth_all es []) y t]
    exact (dirtyThings_eq g _ (dirty_put es _)).symm
  · rw [if_pos (decide_eq_false h), if_pos h]
    exact ⟨rfl, rfl, g⟩
theorem sources_law {es : Es} (g : Good es) (f : List Nat) : Steps es (TbStSpec.step (abs es) (.sources f)) (dSources es f) := by
  show Steps es (abs es, TbStSpec.asked (abs es) (.sources f)) _
  unfold TbStSpec.asked dSources
  dsimp only
  rcases finds_eq f with ⟨h1, h2⟩ | ⟨h1, h2⟩
  · rw [h1, h2]
    dsimp only
    rw [sources_eq g]
    exact ⟨rfl, rfl, g⟩
  · rw [h1, h2]
    exact ⟨rfl, rfl, g⟩
theorem cut_law {es : Es} (g : Good es) (y t : Nat) (f c : List Nat) : Steps es (TbStSpec.step (abs es) (.cut y t f c)) (dCut es y t f c) := by
  show Steps es (abs es, TbStSpec.asked (abs es) (.cut y t f c)) _
  unfold TbStSpec.asked dCut TbStSpec.asking
  dsimp only
  rw [isBad_iff]
  by_cases h : isBadL y t
  · rw [if_neg (show ¬ decide (isBadL y t) = false by rw [decide_eq_true h]; simp), if_neg (show ¬ ¬ isBadL y t from fun z => z h)]
    rcases finds_eq f with ⟨h1, h2⟩ | ⟨h1, h2⟩
    · rw [h1, h2]
      dsimp only
      unfold TbStSpec.cleaningsIn TbStSpec.CLEANINGS
      rw [twos_eq]
      by_cases h3 : c.length % 2 = 1 ∨ 60 < c.length
      · rw [if_pos h3, if_neg (fun z => by omega)]
        exact ⟨rfl, rfl, g⟩
      · rw [if_neg h3]
        by_cases h4 : ∀ p ∈ twosL c, isSpotL p.1 p.2
        · rw [if_neg (show ¬ ¬ (∀ p ∈ twosL c, isSpotL p.1 p.2) from fun z => z h4), if_pos ⟨by omega, by omega, List.all_eq_true.mpr fun p hp => by rw [isSpot_iff]; exact decide_eq_true (h4 p hp)⟩]
          dsimp only
          rw [show ((twosL c).findIdx? fun (c : Nat × Nat) => TbStSpec.taken (abs es) c.1 c.2) = (twosL c).findIdx? (fun p => isTaken es p.1 p.2) by congr 1; funext p; exact taken_eq es p.1 p.2]
          cases hi : (twosL c).findIdx? (fun p => isTaken es p.1 p.2) with
          | some i => exact ⟨rfl, rfl, g⟩
          | none =>
            dsimp only
            rw [meets_more, lines_more, touched_eq (same_all g _) (forth_all es _) y t]
            refine ⟨rfl, ?_, g⟩
            show (if ((twosL f).any (isReached ((touchedG es y t (allLines es (twosL c))).map (toMeet es)) y)) = true then 0 else 1) :: [] = [if doReach es y (reached es y t (allLines es (twosL c))) (twosL f) = true then 0 else 1]
            rw [doReach_eq]
        · rw [if_pos h4, if_neg (fun z => h4 fun p hp => by
            have := List.all_eq_true.mp z.2.2 p hp
            rw [isSpot_iff] at this
            exact of_decide_eq_true this)]
          exact ⟨rfl, rfl, g⟩
    · rw [h1, h2]
      exact ⟨rfl, rfl, g⟩
  · rw [if_pos (decide_eq_false h), if_pos h]
    exact ⟨rfl, rfl, g⟩
theorem apart_law {es : Es} (g : Good es) (y t : Nat) (f : List Nat) (ws : List (List Nat)) : Steps es (TbStSpec.step (abs es) (.apart y t f ws)) (dApart es y t f ws) := by
  show Steps es (abs es, TbStSpec.asked (abs es) (.apart y t f ws)) _
  unfold TbStSpec.asked dApart TbStSpec.asking
  dsimp only
  rw [isBad_iff]
  by_cases h : isBadL y t
  · rw [if_neg (show ¬ decide (isBadL y t) = false by rw [decide_eq_true h]; simp), if_neg (show ¬ ¬ isBadL y t from fun z => z h)]
    rcases finds_eq f with ⟨h1, h2⟩ | ⟨h1, h2⟩
    · rw [h1, h2]
      dsimp only
      rw [meetsOf_eq, linesOf_eq]
      rw [show (ws.findIdx? fun (w : List Nat) => !TbStLog.isWay ((meetings es).map (toMeet es)) (specL es []) y t (twosL f) w) = ws.findIdx? (fun w => !isWayL es y t (twosL f) w) by congr 1; funext w; rw [show TbStLog.isWay ((meetings es).map (toMeet es)) (specL es []) y t (twosL f) w = _ from way_eq g y t (twosL f) w]]
      cases hi : ws.findIdx? (fun w => !isWayL es y t (twosL f) w) with
      | some i => exact ⟨rfl, rfl, g⟩
      | none =>
        dsimp only
        rw [apart_eq g ws fun w hw p hp => ?_]
        · refine ⟨rfl, ?_, g⟩
          rfl
        · have := List.findIdx?_eq_none_iff.mp hi w hw
          have hw2 : isWayL es y t (twosL f) w = true := by simpa using this
          unfold isWayL at hw2
          cases w with
          | nil => cases hw2
          | cons a r =>
            dsimp only at hw2
            simp only [Bool.and_eq_true, List.all_eq_true, decide_eq_true_iff] at hw2
            exact hw2.2.2.2 p hp
    · rw [h1, h2]
      exact ⟨rfl, rfl, g⟩
  · rw [if_pos (decide_eq_false h), if_pos h]
    exact ⟨rfl, rfl, g⟩
theorem lines_law {es : Es} (g : Good es) : Steps es (TbStSpec.step (abs es) .lines) (dLines es) := by
  show Steps es (abs es, TbStSpec.asked (abs es) .lines) _
  unfold TbStSpec.asked dLines
  exact ⟨rfl, (shown_eq g).symm, g⟩
end St

end

section

set_option Elab.async false
set_option linter.all false
set_option maxRecDepth 100000
set_option maxHeartbeats 4000000
namespace St
open PySem PySem.Spec PyProof.Rows L2 Evl
open TbStSpec (Call)
/-- a call's number, its numbers, its rows -/
def cNum : Call → Nat
  | .meet _ _ _ => 1
  | .clean _ _ => 2
  | .strike _ => 3
  | .entry _ => 4
  | .touched _ _ => 5
  | .dirty _ _ => 6
  | .sources _ => 7
  | .fewest _ _ _ => 8
  | .cut _ _ _ _ => 9
  | .apart _ _ _ _ => 10
  | .lines => 11
def cArgs : Call → List Nat
  | .meet t m _ => [t, m]
  | .clean t m => [t, m]
  | .strike n => [n]
  | .entry n => [n]
  | .touched y t => [y, t]
  | .dirty y t => [y, t]
  | .sources _ => []
  | .fewest y t _ => [y, t]
  | .cut y t _ _ => [y, t]
  | .apart y t _ _ => [y, t]
  | .lines => []
def cRows : Call → List (List Nat)
  | .meet _ _ l => [l]
  | .sources f => [f]
  | .fewest _ _ f => [f]
  | .cut _ _ f c => [f, c]
  | .apart _ _ f ws => f :: ws
  | _ => []
/-- what it comes to -/
def endR (es : Es) : Call → Res → Prop
  | .meet t m l, r => r = dMeet es t m l
  | .clean t m, r => r = dClean es t m
  | .strike n, r => r = dStrike es n
  | .entry n, r => r = dEntry es n
  | .touched y t, r => r = dTouched es y t
  | .dirty y t, r => r = dDirty es y t
  | .sources f, r => r = dSources es f
  | .fewest y t f, r => fewR es y t f r
  | .cut y t f c, r => r = dCut es y t f c
  | .apart y t f ws, r => r = dApart es y t f ws
  | .lines, r => r = dLines es
def spOf (K : PySem.W.Frag) : Call → Sp
  | .meet _ _ _ => sp_meet K
  | .clean _ _ => sp_clean K
  | .strike _ => sp_strike K
  | .entry _ => sp_show_entry K
  | .touched _ _ => sp_touched K
  | .dirty _ _ => sp_dirty K
  | .sources _ => sp_sources K
  | .fewest _ _ _ => sp_fewest K
  | .cut _ _ _ _ => sp_ask_cut K
  | .apart _ _ _ _ => sp_apart K
  | .lines => sp_show_lines K
def adOf (K : PySem.W.Frag) : Call → Addr
  | .meet _ _ _ => He.fAd K d_meet.at_
  | .clean _ _ => He.fAd K d_clean.at_
  | .strike _ => He.fAd K d_strike.at_
  | .entry _ => He.fAd K d_show_entry.at_
  | .touched _ _ => He.fAd K d_touched.at_
  | .dirty _ _ => He.fAd K d_dirty.at_
  | .sources _ => He.fAd K d_sources.at_
  | .fewest _ _ _ => He.fAd K d_fewest.at_
  | .cut _ _ _ _ => He.fAd K d_ask_cut.at_
  | .apart _ _ _ _ => He.fAd K d_apart.at_
  | .lines => He.fAd K d_show_lines.at_
theorem adOf_at (K : PySem.W.Frag) (c : Call) : (deeds.map (He.Dv.v K))[cNum c]? = some (.ref (adOf K c)) := by cases c <;> rfl
section
variable {P : Program} {w : World} {K : PySem.W.Frag} {mg : Str → Option Value} {base : Heap} {CX : CXT} {d : He.DefD} {ps : List Str} {sp : Sp} {j k : Nat}
theorem Ok.held (G : Ok P w K mg base CX j d ps sp) (h : j ≤ k) : HeldX P w K mg base CX k (He.fAd K d.at_) sp :=
  ⟨_, _, ⟨G.f.len, fun A outer s H args us vs Q E hr he hb hv hs => G.f.run A outer s H args us vs Q E (hr.mono h) he hb hv hs⟩, G.kp, G.b⟩
theorem Ok.held0 (G : Ok P w K mg base CX0 j d ps sp) (h : j ≤ k) : HeldX P w K mg base CX k (He.fAd K d.at_) sp :=
  ⟨_, _, FnOk.calm ⟨G.f.len, fun A outer s H args us vs Q E hr he hb hv hs => G.f.run A outer s H args us vs Q E (hr.mono h) he hb hv hs⟩, G.kp, G.b⟩
theorem held (T : Txt K mg) (c : Call) : HeldX P w K mg base (L2.CX P w) 8 (adOf K c) (spOf K c) := by
  cases c with
  | meet => exact (ok_meet T).held (by decide)
  | clean => exact (ok_clean T).held (by decide)
  | strike => exact (ok_strike T).held (by decide)
  | entry => exact (ok_show_entry T).held (by decide)
  | touched => exact (ok_touched T).held (by decide)
  | dirty => exact (ok_dirty T).held (by decide)
  | sources => exact (ok_sources T).held (by decide)
  | fewest => exact (ok_fewest T).held (by decide)
  | cut => exact (ok_ask_cut T).held (by decide)
  | apart => exact (ok_apart T).held (by decide)
  | lines => exact (ok_show_lines T).held0 (by decide)
end
/-- one call on the log at L -/
def sp_answer_of (K : PySem.W.Frag) : Sp := fun vs H Q _ => ∃ T L En as es c A Rw, vs = [.ref L, nV (cNum c), .ref A, .ref Rw] ∧ LogAt K (L2.del H T) L En as es ∧ Good es ∧ H A = some (.lst ((cArgs c).map nV)) ∧ RowsN (L2.del (L2.del H T) En) Rw (cRows c) ∧
  (((cRows c).length ≤ 14 ∧ ∀ r ∈ cRows c, r.length ≤ 100) ∧ ∃ o, H T = some o) ∧
  ∀ res, endR es c res → ∀ p H' as', p ≠ T → LogAt K (L2.del H' T) L En as' (toldOf es res).2 → H' p = some (.lst ((toldOf es res).1.map .int)) → KeepX En H H' → Q (.ref p) H'
/-- every deed does what is due -/
theorem spOf_do {K : PySem.W.Frag} {T L En : Addr} {as : List Addr} {es : Es} {c : Call} {A Rw : Addr} {H : Hp} {Q : VK} {E : XK} (hL : LogAt K (L2.del H T) L En as es) (g : Good es) (hA : H A = some (.lst ((cArgs c).map nV))) (hR : RowsN (L2.del (L2.del H T) En) Rw (cRows c))
    (hz : ((cRows c).length ≤ 14 ∧ ∀ r ∈ cRows c, r.length ≤ 100) ∧ ∃ o, H T = some o) (k : ∀ res, endR es c res → OutD K T L En H E Q res) : spOf K c [.ref L, .ref A, .ref Rw] H Q E := by
  cases c with
  | meet t m l => exact ⟨T, L, En, as, es, _, _, A, Rw, rfl, hL, g, hA, hR, hz, ⟨_, t, m, l, rfl, rfl, rfl⟩, fun res ⟨t', m', l', h1, h2, h3⟩ => by cases h1; cases h2; exact k res h3⟩
  | clean t m => exact ⟨T, L, En, as, es, _, _, A, Rw, rfl, hL, g, hA, hR, hz, ⟨_, t, m, rfl, rfl⟩, fun res ⟨t', m', h1, h3⟩ => by cases h1; exact k res h3⟩
  | strike n => exact ⟨T, L, En, as, es, _, _, A, Rw, rfl, hL, g, hA, hR, hz, ⟨_, n, rfl, rfl⟩, fun res ⟨t', h1, h3⟩ => by cases h1; exact k res h3⟩
  | entry n => exact ⟨T, L, En, as, es, _, _, A, Rw, rfl, hL, g, hA, hR, hz, ⟨_, n, rfl, rfl⟩, fun res ⟨t', h1, h3⟩ => by cases h1; exact k res h3⟩
  | touched t m => exact ⟨T, L, En, as, es, _, _, A, Rw, rfl, hL, g, hA, hR, hz, ⟨_, t, m, rfl, rfl⟩, fun res ⟨t', m', h1, h3⟩ => by cases h1; exact k res h3⟩
  | dirty t m => exact ⟨T, L, En, as, es, _, _, A, Rw, rfl, hL, g, hA, hR, hz, ⟨_, t, m, rfl, rfl⟩, fun res ⟨t', m', h1, h3⟩ => by cases h1; exact k res h3⟩
  | sources f => exact ⟨T, L, En, as, es, _, _, A, Rw, rfl, hL, g, hA, hR, hz, ⟨_, f, rfl, rfl⟩, fun res ⟨t', h1, h3⟩ => by cases h1; exact k res h3⟩
  | fewest y t f => exact ⟨T, L, En, as, es, y, t, f, A, Rw, rfl, hL, g, hA, hR, ⟨hz.1.2 f (List.mem_cons_self ..), hz.2⟩, k⟩
  | cut y t f c => exact ⟨T, L, En, as, es, _, _, A, Rw, rfl, hL, g, hA, hR, hz, ⟨_, y, t, f, c, rfl, rfl, rfl⟩, fun res ⟨y', t', f', c', h1, h2, h3⟩ => by cases h1; cases h2; exact k res h3⟩
  | apart y t f ws => exact ⟨T, L, En, as, es, _, _, A, Rw, rfl, hL, g, hA, hR, hz, ⟨_, y, t, f, ws, rfl, rfl, rfl⟩, fun res ⟨y', t', f', c', h1, h2, h3⟩ => by cases h1; cases h2; exact k res h3⟩
  | lines => exact ⟨T, L, En, as, es, _, _, A, Rw, rfl, hL, g, hA, hR, hz, ⟨_, rfl⟩, fun res h3 => k res h3⟩
theorem s_retD {i : Nat} {S : Addr → Option Sp} {E : L2.St → XK} {t : TA} {σ : L2.St} {H : Hp} {vs : List V} {D : Ends} {f : Addr} {sp : Sp} (hs : σ[i]? = some (some (.ref f))) (hS : S f = some sp) (ha : EvA t σ H vs) (k : ∀ H1, Ex H H1 → sp vs H1 (fun v H2 => D.rt v H2) (E σ)) : tRet (tCallD i S E t) D σ H :=
  ⟨f, sp, hs, hS, ha H (Ex.refl H) _ fun H1 e1 => k H1 e1⟩
section
variable {P : Program} {w : World} {K : PySem.W.Frag} {mg : Str → Option Value} {base : Heap}
abbrev N_answer_of : List Str := ["log", "number", "args", "rows", "deed", "refused"]
theorem sc_answer_of : FnScope N_answer_of ["log", "number", "args", "rows"] d_answer_of.scope := ⟨rfl, rfl, rfl, by decide +kernel, rfl, by decide +kernel, by decide +kernel⟩
theorem ok_answer_of (T : Txt K mg) : Ok P w K mg base CX0 9 d_answer_of ["log", "number", "args", "rows"] (sp_answer_of K) := by
  refine ok0 T.u_answer_of sc_answer_of (fun _ _ _ _ _ _ us hl => match us, hl with | [_, _, _, _], _ => rfl) (fun vs H Q E h => ?_) (fun cdv A outer s H vs Q E hr h => ?_)
  · obtain ⟨_, _, _, _, _, _, _, _, rfl, _⟩ := h
    rfl
  obtain ⟨Tl, L, En, as, es, c, Aa, Rw, rfl, hL', g, hA, hR, hz, k⟩ := h
  have A : ∀ f sp, (if f = adOf K c then some (spOf K c) else none) = some sp → HeldX P w K mg base (L2.CX P w) 8 f sp := fun f sp h => by
    by_cases e : f = adOf K c
    · rw [if_pos e] at h
      cases h
      rw [e]
      exact held T c
    · rw [if_neg e] at h
      cases h
  have XF := T.xf
  have XN := T.n_Refused_numbers
  have nd := sc_answer_of.nd
  refine ⟨_, (pss_cons (ps_set (i := 4) nd rfl (Or.inl rfl) (wixT K (pe_glob (v := .ref (He.ga K "DEEDS")) rfl T.g_DEEDS rfl) (pv 1)))
  (pss_one (ps_try_as (i := 5) rfl rfl nd rfl rfl ⟨rfl, by decide, .inl T.g_Refused⟩ takes0 (fun W pn xe tk _ => (pss_one (ps_ret (wcallD (i := 4) A (hr.mono (by decide)) rfl (Or.inl rfl) (fun σ => passAt tk σ) (pa_cons (pv 0) (pa_cons (pv 2) (pa_cons (pv 3) pa_nil))))))) (fun a oe cls d pn hz hf => (pss_one (ps_ret (pe_xf XF XN hz hf (pv 5)))))))), ?_⟩
  refine q_asg (v := .ref (adOf K c)) (ev_ixT (i := cNum c) ev_c (ev_var rfl) (He.tupB_ok T.deeds_ _) (adOf_at K c)) fun H1 e1 => ?_
  refine s_retD rfl (if_pos rfl) (ea_three (ev_var rfl) (ev_var rfl) (ev_var rfl)) fun H2 e2 => ?_
  have e := e1.trans e2
  have hL2 := hL'.mono (ex_del e)
  refine spOf_do hL2 g (e _ _ hA) (hR.mono (ex_del (ex_del e))) ⟨hz.1, let ⟨o, ho⟩ := hz.2; ⟨o, e _ _ ho⟩⟩ fun res hr => ?_
  have k := k res hr
  cases res with
  | ok r => exact fun p H' as' h0 h1 h2 h3 => k p H' as' (h0 (let ⟨o, ho⟩ := hz.2; ⟨o, e _ _ ho⟩)) h1 h2 fun b o hb hn h => h3 b o hb hn (e _ _ h)
  | error ns =>
    refine fun d q H' e3 hd nq hd' hq => ⟨true, T.y_Refused_Refused, fun _ a ha => ?_, fun h => by cases h⟩
    exact ⟨_, rfl, rfl, rfl, d, _, .ref q, rfl, hd', rfl, k q H' as (fun z => by obtain ⟨o, ho⟩ := hz.2; rw [z, e _ _ ho] at nq; cases nq) (hL2.mono (ex_del e3)) hq (Ex.keepX (e.trans e3))⟩
end
end St

end

section

set_option Elab.async false
set_option linter.all false
set_option maxRecDepth 100000
set_option maxHeartbeats 4000000
namespace St
open PySem PySem.Spec PyProof.Rows L2 Evl
open TbStSpec (Call)
/-- a row, a call as it is handed in -/
def encR (r : List Nat) : List Nat := r.length :: r
def encC (c : Call) : List Nat := cNum c :: ((cArgs c).length :: (cArgs c ++ (cRows c).length :: (cRows c).flatMap encR))
/-- calls played one behind another -/
inductive Ran : List Call → Es → List Int → Prop
  | nil : Ran [] [] []
  | snoc {cs : List Call} {es : Es} {out : List Int} {c : Call} {res : Res} : Ran cs es out → endR es c res → Ran (cs ++ [c]) (toldOf es res).2 (out ++ ((toldOf es res).1.length : Int) :: (toldOf es res).1)
def sp_answers (K : PySem.W.Frag) : Sp := fun vs H Q _ => ∃ a cs, vs = [.ref a] ∧ SqL K H a ((cs.flatMap encC).map nV) ∧ (∀ c ∈ cs, (cRows c).length ≤ 14 ∧ ∀ r ∈ cRows c, r.length ≤ 100) ∧
  (∀ cs1 cs2 es out, cs = cs1 ++ cs2 → Ran cs1 es out → Good es ∧ out.length ≤ 10000000) ∧ ∀ es out p H', Ran cs es out → H' p = some (.lst (out.map .int)) → Q (.ref p) H'
/-! ### reading the list -/
theorem at_mid {pre post : List Nat} {x : Nat} {F : List Nat} (h : F = pre ++ x :: post) {q : Nat} (hq : q = pre.length) : (F.map nV)[q]? = some (nV x) := by
  rw [h, hq, List.getElem?_map, List.getElem?_append_right (Nat.le_refl _), Nat.sub_self]
  rfl
theorem cut_mid {pre mid post F : List Nat} (h : F = pre ++ (mid ++ post)) {lo hi : Int} (h1 : lo = (pre.length : Nat)) (h2 : hi = ((pre.length + mid.length : Nat) : Int)) : cutV (F.map nV) (some lo) (some hi) = mid.map nV := by
  unfold cutV
  rw [h1, h2, HT.sIx_nat, HT.sIx_nat, List.length_map]
  have hF : F.length = pre.length + (mid.length + post.length) := by rw [h]; simp
  rw [Nat.min_eq_left (by omega), Nat.min_eq_left (by omega), show pre.length + mid.length - pre.length = mid.length by omega, h, List.map_append, List.drop_left' (by simp), List.map_append, List.take_left' (by simp)]
def kHas (K : PySem.W.Frag) (a : Addr) (xs : List V) : Prop := ∃ (o : Obj) (its : Array Value) (n : Nat), K.lookup a = some o ∧ o.cls = .type "list" ∧ o.dict = none ∧ o.data = .seq its n ∧ its.size ≤ sizeLine ∧ Vals xs its.toList
theorem sq_keep {K : PySem.W.Frag} {H H' : Hp} {a : Addr} {xs : List V} (h : SqL K H a xs) (e : kHas K a xs ∨ ∀ o, notIns o = true → H a = some o → H' a = some o) : SqL K H' a xs := by
  rcases e with e | e
  · exact .inr e
  · rcases h with (h | ⟨o, h⟩) | h
    · exact .inl (.inl (e _ rfl h))
    · exact .inl (.inr ⟨o, e _ rfl h⟩)
    · exact .inr h
theorem sq_fresh {K : PySem.W.Frag} {H : Hp} {a b : Addr} {xs : List V} (h : SqL K H a xs) (n : H b = none) : kHas K a xs ∨ a ≠ b := by
  rcases h with (h | ⟨o, h⟩) | h
  · exact .inr (ne_of_none h n)
  · exact .inr (ne_of_none h n)
  · exact .inl h
theorem q_asgCall {sp : Sp} {E : XK} {t : TA} {σ : L2.St} {H : Hp} {vs : List V} {D : Ends} {tz : TS} {i : Nat} (ha : EvA t σ H vs) (k : ∀ H1, Ex H H1 → sp vs H1 (fun v H2 => tz D (σ.set i (some v)) H2) E) : tSeq (tAsg (tCall sp [] E t) (gName i)) tz D σ H :=
  ha H (Ex.refl H) _ fun H1 e1 => by rw [List.append_nil]; exact k H1 e1
theorem q_asgMake0 {C : Addr} {sp : Sp} {E : XK} {σ : L2.St} {H : Hp} {D : Ends} {tz : TS} {i : Nat} (k : ∀ x dx, H x = none → H dx = none → dx ≠ x → sp [.ref x] (upd (upd H dx (.own x)) x (.ins C dx [])) (fun v H2 => v = .non ∧ tz D (σ.set i (some (.ref x))) H2) E) : tSeq (tAsg (tMake C sp [] E tNil) (gName i)) tz D σ H :=
  fun x dx h1 h2 h3 => k x dx h1 h2 h3
section
variable {K : PySem.W.Frag} {σ : L2.St} {H : Hp} {ta te : TE} {D : Ends}
theorem q_dropB {v : V} {l : Addr} {xs : List V} {tz : TS} (hl : H l = some (.lst xs)) (ha : Ev ta σ H (.ref l)) (h : Ev te σ H v) (hz : xs.length < 10000001) (k : ∀ H1, Ex H H1 → tz D σ (upd H1 l (.lst (xs ++ [v])))) :
    tSeq (tDrop (tBM K "list" rAppend ta (tCons te tNil))) tz D σ H := ha H (Ex.refl H) _ fun H1 e1 =>
  ⟨Or.inl ⟨rfl, xs, sq_of (e1 l _ hl)⟩, h H1 e1 _ fun H2 e2 => ⟨l, xs, v, rfl, rfl, e2 l _ (e1 l _ hl), by rw [sizeLine_eq]; omega, k H2 (e1.trans e2)⟩⟩
theorem s_appB {v : V} {l : Addr} {xs : List V} (hl : H l = some (.lst xs)) (ha : Ev ta σ H (.ref l)) (h : Ev te σ H v) (hz : xs.length < 10000001) (k : ∀ H1, Ex H H1 → D.nx σ (upd H1 l (.lst (xs ++ [v])))) :
    tDrop (tBM K "list" rAppend ta (tCons te tNil)) D σ H := ha H (Ex.refl H) _ fun H1 e1 =>
  ⟨Or.inl ⟨rfl, xs, sq_of (e1 l _ hl)⟩, h H1 e1 _ fun H2 e2 => ⟨l, xs, v, rfl, rfl, e2 l _ (e1 l _ hl), by rw [sizeLine_eq]; omega, k H2 (e1.trans e2)⟩⟩
end
section
variable {P : Program} {w : World} {K : PySem.W.Frag} {mg : Str → Option Value} {base : Heap}
abbrev N_answers : List Str := ["calls", "log", "told", "place", "number", "end", "args", "count", "rows", "turn", "answer"]
theorem sc_answers : FnScope N_answers ["calls"] d_answers.scope := ⟨rfl, rfl, rfl, by decide +kernel, rfl, by decide +kernel, by decide +kernel⟩
theorem ok_answers (T : Txt K mg) : Ok P w K mg base CX0 10 d_answers ["calls"] (sp_answers K) := by
  have G_Log_init : Ok P w K mg base CX0 1 d_Log_init ["self"] (sp_Log_init K) := ok_Log_init T
  have G_answer_of : Ok P w K mg base CX0 9 d_answer_of ["log", "number", "args", "rows"] (sp_answer_of K) := ok_answer_of T
  refine ok0 T.u_answers sc_answers (fun _ _ _ _ _ _ us hl => match us, hl with | [_], _ => rfl) (fun vs H Q E h => ?_) (fun cdv A outer s H vs Q E hr h => ?_)
  · obtain ⟨_, _, rfl, _⟩ := h
    rfl
  have nd := sc_answers.nd
  refine ⟨_, (pss_cons (ps_set (i := 1) nd rfl (Or.inl rfl) (pe_make0 T.k_Log G_Log_init.f (hr.mono (by decide)) rfl T.g_Log G_Log_init.b .nil pass0))
  (pss_cons (ps_set (i := 2) nd rfl (Or.inl rfl) (pe_lst pa_nil))
  (pss_cons (ps_set (i := 3) nd rfl (Or.inl rfl) pe_int)
  (pss_cons (ps_while PassesOwn.never (pt_cmpR op_lt (pv 3) (wlen K rfl T.f_len (pv 0)) (nomark _)) (pss_cons (ps_set (i := 4) nd rfl (Or.inl rfl) (wixL K (pv 0) (pv 3)))
  (pss_cons (ps_set (i := 5) nd rfl (Or.inl rfl) (pe_op op_add (pe_op op_add (pv 3) pe_int) (wixL K (pv 0) (pe_op op_add (pv 3) pe_int))))
  (pss_cons (ps_set (i := 6) nd rfl (Or.inl rfl) (wsl K (pv 0) (po_some (pe_op op_add (pv 3) pe_int)) (po_some (pv 5))))
  (pss_cons (ps_set (i := 7) nd rfl (Or.inl rfl) (wixL K (pv 0) (pv 5)))
  (pss_cons (ps_set (i := 3) nd rfl (Or.inl rfl) (pe_op op_add (pv 5) pe_int))
  (pss_cons (ps_set (i := 8) nd rfl (Or.inl rfl) (pe_lst pa_nil))
  (pss_cons (ps_for PassesOwn.never rfl (pi_range1 rfl T.f_range (pa_cons (pv 7) pa_nil)) (pg_name (i := 9) nd rfl (Or.inl rfl)) (pss_cons (ps_set (i := 5) nd rfl (Or.inl rfl) (pe_op op_add (pe_op op_add (pv 3) pe_int) (wixL K (pv 0) (pv 3))))
  (pss_cons (ps_expr (wapp K (pv 8) (wsl K (pv 0) (po_some (pe_op op_add (pv 3) pe_int)) (po_some (pv 5)))))
  (pss_one (ps_set (i := 3) nd rfl (Or.inl rfl) (pv 5))))))
  (pss_cons (ps_set (i := 10) nd rfl (Or.inl rfl) (pe_call G_answer_of.f (hr.mono (by decide)) rfl T.g_answer_of G_answer_of.kp G_answer_of.b .nil pass0 (pa_cons (pv 1) (pa_cons (pv 4) (pa_cons (pv 6) (pa_cons (pv 8) pa_nil))))))
  (pss_cons (ps_expr (wapp K (pv 2) (wlen K rfl T.f_len (pv 10))))
  (pss_one (ps_expr (wext K (pv 2) (pv 10))))))))))))))
  (pss_one (ps_ret (pv 2))))))), ?_⟩
  obtain ⟨a, cs, rfl, hS, hb, hran, k⟩ := h
  generalize hF : cs.flatMap encC = F at hS
  refine q_asgMake0 fun L dx nL nD hne => ⟨L, dx, rfl, upd_same, fun En H1 nEn e1 hEn => ⟨rfl, ?_⟩⟩
  have nE0 : En ≠ L := fun z => by rw [z, upd_same] at nEn; cases nEn
  have nE1 : En ≠ dx := fun z => by rw [z, upd_ne hne, upd_same] at nEn; cases nEn
  have sL := sq_fresh hS nL
  have sD := sq_fresh hS nD
  have sE : kHas K a (F.map nV) ∨ a ≠ En := sq_fresh hS (by rw [upd_ne nE0, upd_ne nE1] at nEn; exact nEn)
  have hS1 : SqL K (upd H1 L (.ins (cLog K) dx [("entries", .ref En)])) a (F.map nV) := sq_keep hS (by
    rcases sL with h | h
    · exact .inl h
    rcases sD with h' | h'
    · exact .inl h'
    exact .inr fun o _ ho => by rw [upd_ne h]; exact e1 _ _ (by rw [upd_ne h, upd_ne h']; exact ho))
  have hL1 : LogAt K (upd H1 L (.ins (cLog K) dx [("entries", .ref En)])) L En [] [] := ⟨⟨dx, upd_same⟩, by rw [upd_ne nE0]; exact hEn, rfl, .nil, fun i hi => absurd hi (Nat.not_lt_zero _)⟩
  generalize upd H1 L (.ins (cLog K) dx [("entries", .ref En)]) = H2 at hS1 hL1
  refine q_asgL (el_lst ea_nil (by simp)) fun Tl H3 n3 e3 hT => ?_
  refine q_asg (v := nV 0) ev_c fun H4 e4 => ?_
  have sT : kHas K a (F.map nV) ∨ a ≠ Tl := sq_fresh hS1 n3
  have hT0 : H4 Tl = some (.lst []) := e4 _ _ hT
  have hL4 : LogAt K (L2.del H4 Tl) L En [] [] := hL1.mono fun b o hb' => by
    rw [del_ne (ne_of_none hb' n3)]
    exact (e3.trans e4) _ _ hb'
  have hS4 := ex_l (e3.trans e4) hS1
  clear hS1 hL1 hT n3 e3 e4 hS sL sD nE0 nE1 hEn e1 nEn
  refine q_while (fun m σ' H' => ∃ (cs1 cs2 : List Call) (es : Es) (out : List Int) (as : List Addr) (x4 x5 x6 x7 x8 x9 x10 : Option V), m = cs2.length ∧ cs = cs1 ++ cs2 ∧ σ' = [some (.ref a), some (.ref L), some (.ref Tl), some (nV (cs1.flatMap encC).length), x4, x5, x6, x7, x8, x9, x10] ∧
      Ran cs1 es out ∧ LogAt K (L2.del H' Tl) L En as es ∧ H' Tl = some (.lst (out.map .int)) ∧ SqL K H' a (F.map nV))
    cs.length ⟨[], cs, [], [], [], _, _, _, _, _, _, _, rfl, rfl, rfl, .nil, hL4, hT0, hS4⟩ fun m σ' H' hW => ?_
  obtain ⟨cs1, cs2, es, out, as, x4, x5, x6, x7, x8, x9, x10, hm, hcs, rfl, hR, hL, hT, hS⟩ := hW
  have hFl : F.length = (cs1.flatMap encC).length + (cs2.flatMap encC).length := by rw [← hF, hcs, List.flatMap_append, List.length_append]
  refine ⟨decide ((cs1.flatMap encC).length < F.length), et_test (ev_is (ev_op (ev_var rfl) (ev_len (ev_var rfl) hS) rv_I0) (by congr 1; simp)), fun hb' H5 e5 => ?_, fun hb' H5 e5 => ?_⟩
  rotate_left
  · have : cs2 = [] := by
      cases cs2 with
      | nil => rfl
      | cons c r =>
        refine absurd (of_decide_eq_false hb') (by rw [hFl, List.flatMap_cons, List.length_append]; show ¬ ¬ _; unfold encC; simp)
    rw [this, List.append_nil] at hcs
    exact s_ret (ev_var rfl) fun H6 e6 => k es out Tl H6 (by rw [hcs]; exact hR) (e6 _ _ (e5 _ _ hT))
  cases cs2 with
  | nil =>
    refine absurd (of_decide_eq_true hb') (by rw [hFl]; simp)
  | cons c cs3 =>
    have hbc := hb c (by rw [hcs]; exact List.mem_append_right _ (List.mem_cons_self ..))
    have hgood := hran cs1 (c :: cs3) es out hcs hR
    have hnext : ∀ res, endR es c res → Ran (cs1 ++ [c]) (toldOf es res).2 (out ++ ((toldOf es res).1.length : Int) :: (toldOf es res).1) := fun res h => .snoc hR h
    have hcs' : cs = (cs1 ++ [c]) ++ cs3 := by rw [hcs]; simp
    have hbig : ∀ res, endR es c res → out.length + 1 + (toldOf es res).1.length ≤ 10000000 := fun res h => by
      have := (hran _ _ _ _ hcs' (hnext res h)).2
      rw [List.length_append, List.length_cons] at this
      omega
    generalize hpre : cs1.flatMap encC = pre at *
    generalize hpost : cs3.flatMap encC = post
    have hFF : F = pre ++ (encC c ++ post) := by rw [← hF, hcs, List.flatMap_append, List.flatMap_cons, hpre, hpost]
    unfold encC at hFF
    generalize hnA : cArgs c = A at hFF
    generalize hnR : cRows c = rs at hFF hbc
    generalize hnN : cNum c = num at hFF
    have hL5 := hL.mono (ex_del e5)
    have hS5 := ex_l e5 hS
    have hT5 := e5 _ _ hT
    clear hL hS hT hFl hb'
    refine ⟨fun σ2 H2 => ∃ m', m' < m ∧ ∃ (cs1 cs2 : List Call) (es : Es) (out : List Int) (as : List Addr) (x4 x5 x6 x7 x8 x9 x10 : Option V), m' = cs2.length ∧ cs = cs1 ++ cs2 ∧ σ2 = [some (.ref a), some (.ref L), some (.ref Tl), some (nV (cs1.flatMap encC).length), x4, x5, x6, x7, x8, x9, x10] ∧
      Ran cs1 es out ∧ LogAt K (L2.del H2 Tl) L En as es ∧ H2 Tl = some (.lst (out.map .int)) ∧ SqL K H2 a (F.map nV), fun σ2 H2 h => h, ?_⟩
    refine q_asg (v := nV num) (ev_ixL (i := pre.length) (ev_var rfl) (ev_var rfl) hS5 (at_mid hFF rfl)) fun H6 e6 => ?_
    refine q_asg (v := nV (pre.length + 2 + A.length)) (ev_is (ev_op (ev_op (ev_var rfl) ev_c rv_I0) (ev_ixL (i := pre.length + 1) (ev_var rfl) (ev_is (ev_op (ev_var rfl) ev_c rv_I0) (congrArg V.int (by omega))) (ex_l e6 hS5) (at_mid (pre := pre ++ [num]) (x := A.length) (post := A ++ rs.length :: (rs.flatMap encR ++ post)) (by rw [hFF]; simp) (by simp))) rv_I0) (congrArg V.int (by omega))) fun H7 e7 => ?_
    refine q_asgL (el_is (el_sl (ev_var rfl) (eo_some (ev_is (ev_op (ev_var rfl) ev_c rv_I0) rfl)) (eo_some (ev_var rfl)) (ex_l (e6.trans e7) hS5)) (cut_mid (pre := pre ++ [num, A.length]) (mid := A) (post := rs.length :: (rs.flatMap encR ++ post)) (by rw [hFF]; simp) (by simp) (by simp; try omega))) fun Aa H8 n8 e8 hA => ?_
    have e58 := (e6.trans e7).trans e8
    refine q_asg (v := nV rs.length) (ev_ixL (i := pre.length + 2 + A.length) (ev_var rfl) (ev_var rfl) (ex_l e58 hS5) (at_mid (pre := pre ++ num :: A.length :: A) (x := rs.length) (post := rs.flatMap encR ++ post) (by rw [hFF]; simp) (by simp; try omega))) fun H9 e9 => ?_
    refine q_asg (v := nV (pre.length + 3 + A.length)) (ev_is (ev_op (ev_var rfl) ev_c rv_I0) (congrArg V.int (by omega))) fun H10 e10 => ?_
    refine q_asgL (el_lst ea_nil (by simp)) fun Rr H11 n11 e11 hRr => ?_
    have e5b := (e58.trans e9).trans e10
    have hA11 := (e9.trans (e10.trans e11)) _ _ hA
    have e511 := e5b.trans e11
    have hT11 := e511 _ _ hT5
    have hS10 := ex_l e5b hS5
    have hL11 := hL5.mono (ex_del e511)
    have nR5 : H5 Rr = none := fresh_back e5b n11
    have rlen : ∀ i, ((rs.take i).flatMap encR).length ≤ (rs.flatMap encR).length := fun i => by
      rw [← List.take_append_drop i rs, List.flatMap_append, List.length_append]
      rw [List.take_append_drop]
      omega
    refine s_forR1 (n := (rs.length : Int)) (ea_one (ev_var rfl)) (by omega) (fun i σ' H' => ∃ x5 x9, σ' = [some (.ref a), some (.ref L), some (.ref Tl), some (nV (pre.length + 3 + A.length + ((rs.take i).flatMap encR).length)), some (nV num), x5, some (.ref Aa), some (nV rs.length), some (.ref Rr), x9, x10] ∧ Ex H10 H' ∧
        ∃ ys, H' Rr = some (.lst ys) ∧ Paired (fun (z : List Nat) (y : V) => ∃ t, y = .ref t ∧ (t ≠ Rr ∧ H10 t = none) ∧ H' t = some (.lst (z.map nV))) (rs.take i) ys)
      (fun H12 e12 => ⟨_, _, rfl, e11.trans e12, [], e12 _ _ hRr, .nil⟩) (fun i σ' H12 hi hW => ?_) fun σ' H12 hW => ?_
    · obtain ⟨x5, x9, rfl, e12, ys, hys, pr⟩ := hW
      have hi' : i < rs.length := by omega
      have hri : rs[i]? = some rs[i] := List.getElem?_eq_getElem hi'
      generalize rs[i] = r at hri
      have hrd : rs = rs.take i ++ r :: rs.drop (i + 1) := by
        have e := (List.getElem?_eq_some_iff.mp hri).2
        rw [← e, ← List.drop_eq_getElem_cons hi', List.take_append_drop]
      have hfl : rs.flatMap encR = (rs.take i).flatMap encR ++ (r.length :: (r ++ (rs.drop (i + 1)).flatMap encR)) := by
        rw [show rs.flatMap encR = (rs.take i ++ r :: rs.drop (i + 1)).flatMap encR by rw [← hrd], List.flatMap_append, List.flatMap_cons]
        rfl
      have hFi : F = (pre ++ num :: A.length :: (A ++ rs.length :: (rs.take i).flatMap encR)) ++ r.length :: (r ++ ((rs.drop (i + 1)).flatMap encR ++ post)) := by
        rw [hFF, hfl]
        simp
      have hst : ((rs.take (i + 1)).flatMap encR).length = ((rs.take i).flatMap encR).length + (1 + r.length) := by
        rw [take_snoc hri, List.flatMap_append, List.length_append]
        simp [encR]
        omega
      have hS12 := ex_l e12 hS10
      refine q_asg (v := nV (pre.length + 3 + A.length + ((rs.take i).flatMap encR).length + 1 + r.length)) (ev_is (ev_op (ev_op (ev_var rfl) ev_c rv_I0) (ev_ixL (i := pre.length + 3 + A.length + ((rs.take i).flatMap encR).length) (ev_var rfl) (ev_var rfl) hS12 (at_mid hFi (by simp; omega))) rv_I0) (congrArg V.int (by omega))) fun H13 e13 => ?_
      have hyl := paired_len pr
      rw [List.length_take] at hyl
      refine q_appL (e13 _ _ hys) (ev_var rfl) (el_is (el_sl (ev_var rfl) (eo_some (ev_is (ev_op (ev_var rfl) ev_c rv_I0) rfl)) (eo_some (ev_var rfl)) (ex_l e13 hS12)) (cut_mid (pre := pre ++ num :: A.length :: (A ++ rs.length :: ((rs.take i).flatMap encR ++ [r.length]))) (mid := r) (post := (rs.drop (i + 1)).flatMap encR ++ post) (by rw [hFi]; simp) (by simp; try omega) (by simp; try omega))) (by omega) fun p H14 n14 e14 hp => ?_
      have p10 : H10 p = none := fresh_back (e12.trans e13) n14
      have pR : p ≠ Rr := fun z => by rw [z, e13 _ _ hys] at n14; cases n14
      refine s_asg (v := nV (pre.length + 3 + A.length + ((rs.take (i + 1)).flatMap encR).length)) (ev_is (ev_var rfl) (congrArg V.int (by rw [hst]; omega))) fun H15 e15 => ⟨_, _, rfl, ?_, ys ++ [.ref p], e15 _ _ upd_same, ?_⟩
      · exact (((e12.trans e13).trans e14).mut n11).trans e15
      · rw [take_snoc hri]
        refine paired_snoc (paired_imp (fun b y ⟨t, h1, h2, h3⟩ => ⟨t, h1, h2, e15 _ _ ?_⟩) pr) ⟨p, rfl, ⟨pR, p10⟩, e15 _ _ (by rw [upd_ne pR]; exact hp)⟩
        have h4 := e13 _ _ h3
        rw [upd_ne h2.1]
        exact e14 _ _ h4
    · obtain ⟨x5', x9', rfl, e12, ys, hys, pr⟩ := hW
      rw [Int.toNat_natCast, List.take_length] at pr
      rw [Int.toNat_natCast, List.take_length]
      have e512 := e5b.trans e12
      have hL10 := hL5.mono (ex_del e512)
      have hEn10 : ∃ o, H10 En = some o ∧ En ≠ Tl := by
        have h1 := (hL5.mono (ex_del e5b)).lst
        obtain ⟨h1, h2⟩ := del_some h1
        exact ⟨_, h1, h2⟩
      obtain ⟨oE, hEn10, hET⟩ := hEn10
      have hT10 := e5b _ _ hT5
      have RE : Rr ≠ En := fun z => by rw [z, hEn10] at n11; cases n11
      have RT : Rr ≠ Tl := fun z => by rw [z, hT10] at n11; cases n11
      refine q_asgCall (ea_cons (ev_var rfl) (ea_three (ev_var rfl) (ev_var rfl) (ev_var rfl))) fun H13 e13 => ?_
      have e513 := e512.trans e13
      refine ⟨Tl, L, En, as, es, c, Aa, Rr, by rw [hnN], hL5.mono (ex_del e513), hgood.1, by rw [hnA]; exact (e9.trans ((e10.trans e12).trans e13)) _ _ hA, ?_, ⟨by rw [hnR]; exact hbc, _, e513 _ _ hT5⟩, fun res hres p H14 as' hpT hL14 hp kx => ?_⟩
      · rw [hnR]
        refine ⟨ys, by rw [del_ne RE, del_ne RT]; exact e13 _ _ hys, paired_imp (fun b y ⟨t, h1, h2, h3⟩ => ⟨t, h1, ?_⟩) pr⟩
        have tE : t ≠ En := fun z => by
          have h4 := h2.2
          rw [z, hEn10] at h4
          cases h4
        have tT : t ≠ Tl := fun z => by
          have h4 := h2.2
          rw [z, hT10] at h4
          cases h4
        rw [del_ne tE, del_ne tT]
        exact e13 _ _ h3
      · have hT14 : H14 Tl = some (.lst (out.map .int)) := kx _ _ (Ne.symm hET) rfl (e513 _ _ hT5)
        have hS14 : SqL K H14 a (F.map nV) := sq_keep (ex_l e513 hS5) (by
          rcases sE with h | h
          · exact .inl h
          · exact .inr fun o hn ho => kx _ _ h hn ho)
        have hl := hbig res hres
        refine q_dropB hT14 (ev_var rfl) (ev_len (ev_var rfl) (sq_of hp)) (by rw [List.length_map]; omega) fun H15 e15 => ?_
        have hp15 : (upd H15 Tl (.lst (out.map .int ++ [.int (((toldOf es res).1.map V.int).length : Int)]))) p = some (.lst ((toldOf es res).1.map .int)) := by
          rw [upd_ne hpT]
          exact e15 _ _ hp
        refine s_extV upd_same hp15 (ev_var rfl) (ev_var rfl) (by rw [List.length_append, List.length_map, List.length_map]; simp; omega) fun H16 e16 => ⟨cs3.length, by rw [hm]; simp, cs1 ++ [c], cs3, (toldOf es res).2, _, as', some (nV num), x5', some (.ref Aa), some (nV rs.length), some (.ref Rr), x9', some (.ref p), rfl, hcs', ?_, hnext res hres, ?_, ?_, ?_⟩
        · have hlen : ((cs1 ++ [c]).flatMap encC).length = pre.length + 3 + A.length + (rs.flatMap encR).length := by
            rw [List.flatMap_append, hpre, List.flatMap_cons, List.flatMap_nil, List.append_nil, List.length_append]
            unfold encC
            rw [hnA, hnR, hnN]
            simp
            omega
          rw [hlen]
          rfl
        · refine hL14.mono fun b o hb' => ?_
          obtain ⟨h1, h2⟩ := del_some hb'
          rw [del_ne h2, upd_ne h2]
          refine e16 _ _ ?_
          rw [upd_ne h2]
          exact e15 _ _ h1
        · rw [upd_same]
          simp
        · refine sq_keep hS14 ?_
          rcases sT with h | h
          · exact .inl h
          · refine .inr fun o _ ho => ?_
            rw [upd_ne h]
            refine e16 _ _ ?_
            rw [upd_ne h]
            exact e15 _ _ ho
end
end St

end

section

/-! The plain law, part 11: the fewest lines that part are as many as the most ways. -/
namespace St
open TbStLog
def lv (S : Nat → Bool) (l : Ln) : Bool := S l.1 && !S l.2
section
variable {free single : List Ln} {first : Nat} {isEnd : Nat → Bool} {U U' : Us} {n n' : Int} {rows rows' : List Came} {S : Nat → Bool}
theorem term_tt {c : Int} : c * ((if true = true then (1 : Int) else 0) - (if true = true then 1 else 0)) = 0 := by simp
theorem cut_le (F : FlowP free single first isEnd U n) (hs : single.Nodup) (h1 : S first = true) (h2 : ∀ m, isEnd m = true → S m = false) (h3 : ∀ l ∈ free, S l.1 = true → S l.2 = true) :
    n ≤ ((single.filter (lv S)).length : Int) ∧ (n = ((single.filter (lv S)).length : Int) → (∀ l ∈ single, lv S l = true → usedOf U l = 1) ∧ ∀ l, S l.1 = false → S l.2 = true → usedOf U l = 0) := by
  have key : ∀ V : Us, (V.map (·.1)).Nodup → (∀ u ∈ V, usedOf U u.1 = u.2 ∧ (u.1 ∈ free ∨ u.1 ∈ single)) → flow V S ≤ (((V.map (·.1)).filter fun l => lv S l && decide (l ∈ single)).length : Int) ∧
      (flow V S = (((V.map (·.1)).filter fun l => lv S l && decide (l ∈ single)).length : Int) → ∀ u ∈ V, (lv S u.1 = true → u.2 = 1) ∧ (S u.1.1 = false → S u.1.2 = true → u.2 = 0)) := by
    intro V
    induction V with
    | nil => intro _ _; exact ⟨by simp [flow], fun _ u hu => by cases hu⟩
    | cons p r ih =>
      intro hn hV
      rw [List.map_cons, List.nodup_cons] at hn
      obtain ⟨i1, i2⟩ := ih hn.2 fun u hu => hV u (List.mem_cons_of_mem _ hu)
      obtain ⟨e1, e2⟩ := hV p (List.mem_cons_self ..)
      rw [flow_cons, List.map_cons]
      have hl := F.low p.1
      rw [e1] at hl
      cases ha : S p.1.1 <;> cases hb : S p.1.2
      · have hlv : lv S p.1 = false := by unfold lv; rw [ha]; rfl
        rw [List.filter_cons_of_neg (by rw [hlv]; simp)]
        have ht : p.2 * ((if false = true then (1 : Int) else 0) - (if false = true then 1 else 0)) = 0 := by simp
        rw [ht, Int.zero_add]
        refine ⟨i1, fun e u hu => ?_⟩
        rcases List.mem_cons.mp hu with h | h
        · rw [h]
          exact ⟨(fun z => by rw [hlv] at z; cases z), fun _ z => by rw [hb] at z; cases z⟩
        · exact i2 e u h
      · have hlv : lv S p.1 = false := by unfold lv; rw [ha]; rfl
        rw [List.filter_cons_of_neg (by rw [hlv]; simp)]
        have ht : p.2 * ((if false = true then (1 : Int) else 0) - (if true = true then 1 else 0)) = -p.2 := by simp
        rw [ht]
        refine ⟨by omega, fun e u hu => ?_⟩
        rcases List.mem_cons.mp hu with h | h
        · rw [h]
          exact ⟨(fun z => by rw [hlv] at z; cases z), fun _ _ => by omega⟩
        · exact i2 (by omega) u h
      · have hlv : lv S p.1 = true := by unfold lv; rw [ha, hb]; rfl
        have hsg : p.1 ∈ single := e2.resolve_left fun z => by rw [h3 p.1 z ha] at hb; cases hb
        rw [List.filter_cons_of_pos (by rw [hlv]; simpa using hsg), List.length_cons]
        have ho := F.one p.1 hsg
        rw [e1] at ho
        have ht : p.2 * ((if true = true then (1 : Int) else 0) - (if false = true then 1 else 0)) = p.2 := by simp
        rw [ht]
        refine ⟨by omega, fun e u hu => ?_⟩
        rcases List.mem_cons.mp hu with h | h
        · rw [h]
          exact ⟨fun _ => by omega, fun z => by rw [ha] at z; cases z⟩
        · exact i2 (by omega) u h
      · have hlv : lv S p.1 = false := by unfold lv; rw [ha, hb]; rfl
        rw [List.filter_cons_of_neg (by rw [hlv]; simp)]
        have ht : p.2 * ((if true = true then (1 : Int) else 0) - (if true = true then 1 else 0)) = 0 := by simp
        rw [ht, Int.zero_add]
        refine ⟨i1, fun e u hu => ?_⟩
        rcases List.mem_cons.mp hu with h | h
        · rw [h]
          exact ⟨(fun z => by rw [hlv] at z; cases z), fun z => by rw [ha] at z; cases z⟩
        · exact i2 e u h
  obtain ⟨k1, k2⟩ := key U F.nd fun u hu => ⟨usedOf_mem F.nd hu, F.keys u.1 (List.mem_map.mpr ⟨u, hu, rfl⟩)⟩
  rw [F.sum S h1 h2] at k1 k2
  have hnd : ((U.map (·.1)).filter fun l => lv S l && decide (l ∈ single)).Nodup := F.nd.sublist List.filter_sublist
  have hsub : ∀ x ∈ (U.map (·.1)).filter fun l => lv S l && decide (l ∈ single), x ∈ single.filter (lv S) := fun x hx => by
    have := (List.mem_filter.mp hx).2
    rw [Bool.and_eq_true, decide_eq_true_iff] at this
    exact List.mem_filter.mpr ⟨this.2, this.1⟩
  have hle := nodup_le hnd hsub
  refine ⟨by omega, fun e => ?_⟩
  have k2 := k2 (by omega)
  refine ⟨fun l hl hv => ?_, fun l ha hb => ?_⟩
  · by_cases hm : l ∈ U.map (·.1)
    · obtain ⟨u, hu, rfl⟩ := List.mem_map.mp hm
      rw [usedOf_mem F.nd hu]
      exact (k2 u hu).1 hv
    · have hnd2 : (((U.map (·.1)).filter fun l => lv S l && decide (l ∈ single)) ++ [l]).Nodup := by
        refine List.nodup_append.mpr ⟨hnd, by simp, fun a ha b hb z => hm ?_⟩
        rw [List.mem_singleton.mp hb] at z
        rw [← z]
        exact (List.mem_filter.mp ha).1
      have := nodup_le hnd2 (u := single.filter (lv S)) fun x hx => by
        rcases List.mem_append.mp hx with h | h
        · exact hsub x h
        · rw [List.mem_singleton.mp h]
          exact List.mem_filter.mpr ⟨hl, hv⟩
      rw [List.length_append] at this
      simp only [List.length_cons, List.length_nil] at this
      omega
  · by_cases hm : l ∈ U.map (·.1)
    · obtain ⟨u, hu, rfl⟩ := List.mem_map.mp hm
      rw [usedOf_mem F.nd hu]
      exact (k2 u hu).2 ha hb
    · exact usedOf_out hm
/-- the set of what is come to -/
def setOf (rows : List Came) (m : Nat) : Bool := decide (m ∈ rows.map (·.1))
theorem closed_free (C : Closed free single U rows) : ∀ l ∈ free, setOf rows l.1 = true → setOf rows l.2 = true := fun l hl h => by
  obtain ⟨r, hr, e⟩ := List.mem_map.mp (of_decide_eq_true h)
  exact decide_eq_true (C r hr (l.2, l, 1) (follow_mem.mpr (.inl ⟨hl, e.symm, rfl, rfl⟩)))
theorem closed_single (C : Closed free single U rows) : ∀ l ∈ single, usedOf U l = 0 → setOf rows l.1 = true → setOf rows l.2 = true := fun l hl h0 h => by
  obtain ⟨r, hr, e⟩ := List.mem_map.mp (of_decide_eq_true h)
  exact decide_eq_true (C r hr (l.2, l, 1) (follow_mem.mpr (.inr (.inl ⟨hl, e.symm, h0, rfl, rfl⟩))))
theorem closed_back (C : Closed free single U rows) : ∀ u ∈ U, 0 < u.2 → setOf rows u.1.2 = true → setOf rows u.1.1 = true := fun u hu h0 h => by
  obtain ⟨r, hr, e⟩ := List.mem_map.mp (of_decide_eq_true h)
  exact decide_eq_true (C r hr (u.1.1, u.1, -1) (follow_mem.mpr (.inr (.inr ⟨u.2, hu, e.symm, h0, rfl, rfl⟩))))
theorem first_in (R : RchP free single U first rows) : setOf rows first = true := decide_eq_true (List.mem_map.mpr ⟨_, List.mem_of_getElem? R.head, rfl⟩)
theorem cut_eq (F : FlowP free single first isEnd U n) (hs : single.Nodup) (R : RchP free single U first rows) (C : Closed free single U rows) (hE : ∀ r ∈ rows, isEnd r.1 = false) : n = ((single.filter (lv (setOf rows))).length : Int) := by
  have hE' : ∀ m, isEnd m = true → setOf rows m = false := fun m hm => decide_eq_false fun z => by
    obtain ⟨r, hr, e⟩ := List.mem_map.mp z
    rw [← e, hE r hr] at hm
    cases hm
  have key : ∀ V : Us, (∀ u ∈ V, u ∈ U) → flow V (setOf rows) = (((V.map (·.1)).filter (lv (setOf rows))).length : Int) := by
    intro V
    induction V with
    | nil => intro _; rfl
    | cons p r ih =>
      intro hV
      have i1 := ih fun u hu => hV u (List.mem_cons_of_mem _ hu)
      have hp := hV p (List.mem_cons_self ..)
      have hk := F.keys p.1 (List.mem_map.mpr ⟨p, hp, rfl⟩)
      have hu := usedOf_mem F.nd hp
      have hl := F.low p.1
      rw [hu] at hl
      rw [flow_cons, List.map_cons, i1]
      have hf := closed_free C p.1
      have hg := closed_single C p.1
      have hb' := closed_back C p hp
      cases ha : setOf rows p.1.1 <;> cases hb : setOf rows p.1.2
      · rw [List.filter_cons_of_neg (by unfold lv; rw [ha]; simp)]
        simp
      · rw [List.filter_cons_of_neg (by unfold lv; rw [ha]; simp)]
        have : p.2 = 0 := by
          by_cases h0 : 0 < p.2
          · rw [hb' h0 hb] at ha; cases ha
          · omega
        rw [this]
        simp
      · rw [List.filter_cons_of_pos (by unfold lv; rw [ha, hb]; rfl), List.length_cons]
        have hsg : p.1 ∈ single := hk.resolve_left fun z => by rw [hf z ha] at hb; cases hb
        have ho := F.one p.1 hsg
        rw [hu] at ho
        have h0 : p.2 ≠ 0 := fun z => by rw [hg hsg (hu.trans z) ha] at hb; cases hb
        have : p.2 = 1 := by omega
        rw [this]
        simp
        omega
      · rw [List.filter_cons_of_neg (by unfold lv; rw [ha, hb]; simp)]
        simp
  rw [← F.sum (setOf rows) (first_in R) hE', key U fun u h => h]
  congr 1
  refine Nat.le_antisymm (nodup_le (F.nd.sublist List.filter_sublist) fun l hl => ?_) (nodup_le (hs.sublist List.filter_sublist) fun l hl => ?_)
  · obtain ⟨h1, h2⟩ := List.mem_filter.mp hl
    refine List.mem_filter.mpr ⟨(F.keys l h1).resolve_left fun z => ?_, h2⟩
    unfold lv at h2
    rw [Bool.and_eq_true] at h2
    rw [closed_free C l z h2.1] at h2
    simp at h2
  · obtain ⟨h1, h2⟩ := List.mem_filter.mp hl
    refine List.mem_filter.mpr ⟨Classical.byContradiction fun z => ?_, h2⟩
    unfold lv at h2
    rw [Bool.and_eq_true] at h2
    rw [closed_single C l h1 (usedOf_out z) h2.1] at h2
    simp at h2
theorem noEnd (hE : ∀ r ∈ rows, isEnd r.1 = false) : ∀ m, isEnd m = true → setOf rows m = false := fun m hm => decide_eq_false fun z => by
  obtain ⟨r, hr, e⟩ := List.mem_map.mp z
  rw [← e, hE r hr] at hm
  cases hm
/-- what is come to along a tight set stays in it -/
theorem rch_sub (F : FlowP free single first isEnd U n) (R : RchP free single U first rows) (h1 : S first = true) (h3 : ∀ l ∈ free, S l.1 = true → S l.2 = true) (t1 : ∀ l ∈ single, lv S l = true → usedOf U l = 1) (t2 : ∀ l, S l.1 = false → S l.2 = true → usedOf U l = 0) : ∀ (i m : Nat) (c : Option Step), rows[i]? = some (m, c) → S m = true := by
  intro i
  induction i using Nat.strongRecOn with
  | _ i ih =>
    intro m c hi
    cases c with
    | none =>
      have := R.only i m hi
      subst this
      rw [R.head] at hi
      cases hi
      exact h1
    | some s =>
      obtain ⟨p, l, d⟩ := s
      obtain ⟨j, c, hji, hj, hm⟩ := R.came i m p l d hi
      have hp := ih j hji p c hj
      rcases follow_mem.mp hm with ⟨h, e1, e2, _⟩ | ⟨h, e1, e0, e2, _⟩ | ⟨c, h, e1, e0, e2, _⟩
      · rw [e2]
        exact h3 l h (by rw [e1]; exact hp)
      · rw [e2]
        cases hb : S l.2 with
        | true => rfl
        | false =>
          have := t1 l h (by unfold lv; rw [e1, hp, hb]; rfl)
          omega
      · rw [e2]
        cases hb : S l.1 with
        | true => rfl
        | false =>
          have := t2 l hb (by rw [e1]; exact hp)
          rw [usedOf_mem F.nd h] at this
          omega
/-- both counts are one, both sets -/
theorem same_cut (hs : single.Nodup) (F : FlowP free single first isEnd U n) (R : RchP free single U first rows) (C : Closed free single U rows) (hE : ∀ r ∈ rows, isEnd r.1 = false)
    (F' : FlowP free single first isEnd U' n') (R' : RchP free single U' first rows') (C' : Closed free single U' rows') (hE' : ∀ r ∈ rows', isEnd r.1 = false) : n = n' ∧ ∀ m, m ∈ rows.map (·.1) ↔ m ∈ rows'.map (·.1) := by
  have e1 := cut_eq F hs R C hE
  have e2 := cut_eq F' hs R' C' hE'
  obtain ⟨a1, a2⟩ := cut_le F hs (first_in R') (noEnd hE') (closed_free C')
  obtain ⟨b1, b2⟩ := cut_le F' hs (first_in R) (noEnd hE) (closed_free C)
  have a2 := a2 (by omega)
  have b2 := b2 (by omega)
  refine ⟨by omega, fun m => ⟨fun h => ?_, fun h => ?_⟩⟩
  · obtain ⟨r, hr, e⟩ := List.mem_map.mp h
    obtain ⟨i, hi⟩ := List.mem_iff_getElem?.mp hr
    have := rch_sub F R (first_in R') (closed_free C') a2.1 a2.2 i r.1 r.2 hi
    rw [← e]
    exact of_decide_eq_true this
  · obtain ⟨r, hr, e⟩ := List.mem_map.mp h
    obtain ⟨i, hi⟩ := List.mem_iff_getElem?.mp hr
    have := rch_sub F' R' (first_in R) (closed_free C) b2.1 b2.2 i r.1 r.2 hi
    rw [← e]
    exact of_decide_eq_true this
/-- two such sets of one flow are one -/
theorem same_rows (F : FlowP free single first isEnd U n) (R : RchP free single U first rows) (R' : RchP free single U first rows') (C' : Closed free single U rows') : ∀ m, m ∈ rows.map (·.1) → m ∈ rows'.map (·.1) := by
  intro m h
  obtain ⟨r, hr, e⟩ := List.mem_map.mp h
  obtain ⟨i, hi⟩ := List.mem_iff_getElem?.mp hr
  rw [← e]
  refine of_decide_eq_true (rch_sub (S := setOf rows') F R (first_in R') (closed_free C') (fun l hl hv => ?_) (fun l ha hb => ?_) i r.1 r.2 hi)
  · unfold lv at hv
    rw [Bool.and_eq_true] at hv
    have h0 : usedOf U l ≠ 0 := fun z => by
      rw [closed_single C' l hl z hv.1] at hv
      simp at hv
    have := F.low l
    have := F.one l hl
    omega
  · by_cases hm : l ∈ U.map (·.1)
    · obtain ⟨u, hu, rfl⟩ := List.mem_map.mp hm
      rw [usedOf_mem F.nd hu]
      have hl := F.low u.1
      rw [usedOf_mem F.nd hu] at hl
      by_cases h0 : 0 < u.2
      · rw [closed_back C' u hu h0 hb] at ha
        cases ha
      · omega
    · exact usedOf_out hm
end
end St

end

section

/-! The plain law, part 12: the document's ways, laid one by one. -/
namespace St
open TbStLog
abbrev noLine : Line := ⟨0, 0, true⟩
structure Lns (ls : List Line) (free single : List Ln) (M : List Nat) : Prop where
  nd : (ls.map pairE).Nodup
  fr : ∀ e ∈ ls, e.byLot = true → pairE e ∈ free
  sg : ∀ e ∈ ls, e.byLot = false → pairE e ∈ single
  fr' : ∀ l ∈ free, ∃ e ∈ ls, e.byLot = true ∧ pairE e = l
  sg' : ∀ l ∈ single, ∃ e ∈ ls, e.byLot = false ∧ pairE e = l
  sm : ∀ m ∈ M, m < 80
  ms : ∀ e ∈ ls, e.from_ ∈ M ∧ e.to ∈ M
  dis : ∀ l ∈ free, l ∉ single
/-- the loads by the lines -/
def Uw (ls : List Line) (w : List Nat) : Us := (ls.zip w).map fun x => (pairE x.1, (x.2 : Int))
theorem uw_keys : ∀ (ls : List Line) (w : List Nat), w.length = ls.length → (Uw ls w).map (·.1) = ls.map pairE
  | [], _, _ => rfl
  | e :: ls, [], h => by cases h
  | e :: ls, x :: w, h => by
    show pairE e :: (Uw ls w).map (·.1) = _
    rw [uw_keys ls w (by simpa using h)]
    rfl
theorem uw_mem {e : Line} : ∀ (ls : List Line) (w : List Nat) (i : Nat), w.length = ls.length → ls[i]? = some e → (pairE e, ((w.getD i 0 : Nat) : Int)) ∈ Uw ls w
  | [], _, i, _, h => by simp at h
  | e' :: ls, [], i, hl, _ => by cases hl
  | e' :: ls, x :: w, 0, _, h => by
    cases h
    exact List.mem_cons_self ..
  | e' :: ls, x :: w, i + 1, hl, h => by
    refine List.mem_cons_of_mem _ ?_
    exact uw_mem ls w i (by simpa using hl) (by simpa using h)
theorem uw_all {u : Ln × Int} : ∀ (ls : List Line) (w : List Nat), u ∈ Uw ls w → ∃ i e, ls[i]? = some e ∧ u = (pairE e, ((w.getD i 0 : Nat) : Int))
  | [], _, h => by cases h
  | e :: ls, [], h => by cases h
  | e :: ls, x :: w, h => by
    rcases List.mem_cons.mp (show u ∈ (pairE e, (x : Int)) :: Uw ls w from h) with h | h
    · exact ⟨0, e, rfl, h⟩
    · obtain ⟨i, e', h1, h2⟩ := uw_all ls w h
      exact ⟨i + 1, e', h1, h2⟩
theorem uw_used {ls : List Line} {w : List Nat} {i : Nat} {e : Line} (n : (ls.map pairE).Nodup) (hl : w.length = ls.length) (h : ls[i]? = some e) : usedOf (Uw ls w) (pairE e) = ((w.getD i 0 : Nat) : Int) :=
  usedOf_mem (by rw [uw_keys ls w hl]; exact n) (uw_mem ls w i hl h)
theorem uw_put {e : Line} {f : Nat → Nat} : ∀ (ls : List Line) (w : List Nat) (i : Nat), (ls.map pairE).Nodup → w.length = ls.length → ls[i]? = some e → (Uw ls w).map (fun u => if u.1 = pairE e then (u.1, ((f (w.getD i 0) : Nat) : Int)) else u) = Uw ls (w.modify i f)
  | [], _, i, _, _, h => by simp at h
  | e' :: ls, [], i, _, hl, _ => by cases hl
  | e' :: ls, x :: w, 0, n, hl, h => by
    cases h
    rw [List.map_cons, List.nodup_cons] at n
    show (if pairE e = pairE e then (pairE e, ((f x : Nat) : Int)) else (pairE e, (x : Int))) :: (Uw ls w).map _ = (pairE e, ((f x : Nat) : Int)) :: Uw ls w
    rw [if_pos rfl]
    congr 1
    conv => rhs; rw [← List.map_id (Uw ls w)]
    refine List.map_congr_left fun u hu => ?_
    rw [if_neg fun z => n.1 ?_]
    · rfl
    · rw [← z, ← uw_keys ls w (by simpa using hl)]
      exact List.mem_map.mpr ⟨u, hu, rfl⟩
  | e' :: ls, x :: w, i + 1, n, hl, h => by
    rw [List.map_cons, List.nodup_cons] at n
    have h : ls[i]? = some e := by simpa using h
    show (if pairE e' = pairE e then _ else (pairE e', (x : Int))) :: (Uw ls w).map _ = (pairE e', (x : Int)) :: Uw ls (w.modify i f)
    rw [if_neg fun z => n.1 (by rw [z]; exact List.mem_map.mpr ⟨e, List.mem_of_getElem? h, rfl⟩)]
    congr 1
    exact uw_put ls w i n.2 (by simpa using hl) h
theorem uw_uput {ls : List Line} {w : List Nat} {i : Nat} {e : Line} {f : Nat → Nat} (n : (ls.map pairE).Nodup) (hl : w.length = ls.length) (h : ls[i]? = some e) {c : Int} (hc : c = ((f (w.getD i 0) : Nat) : Int)) : uput (Uw ls w) (pairE e) c = Uw ls (w.modify i f) := by
  unfold uput
  rw [if_pos (by rw [uw_keys ls w hl]; exact List.mem_map.mpr ⟨e, List.mem_of_getElem? h, rfl⟩), hc]
  exact uw_put ls w i n hl h
/-! ### rounds -/
abbrev CameT := TbStLog.Came
def conv (ls : List Line) (x : CameT) : Came := (x.1, x.2.map fun y => if y.2 = true then ((ls.getD y.1 noLine).from_, pairE (ls.getD y.1 noLine), (1 : Int)) else ((ls.getD y.1 noLine).to, pairE (ls.getD y.1 noLine), (-1 : Int)))
def stepOn (w : Laid) (had l : List CameT) (x : Line × Nat) : List CameT :=
  if cameTo had x.1.from_ = true ∧ cameTo l x.1.to = false ∧ (x.1.byLot = true ∨ w.getD x.2 0 = 0) then l ++ [(x.1.to, some (x.2, true))]
  else if cameTo had x.1.to = true ∧ cameTo l x.1.from_ = false ∧ 0 < w.getD x.2 0 then l ++ [(x.1.from_, some (x.2, false))] else l
theorem roundOn_eq (ls : List Line) (w : Laid) (had : List CameT) : roundOn ls w had = ls.zipIdx.foldl (stepOn w had) had := rfl
theorem cameTo_iff {l : List CameT} {n : Nat} : cameTo l n = true ↔ n ∈ l.map (·.1) := by
  unfold cameTo
  rw [List.any_eq_true, List.mem_map]
  simp only [beq_iff_eq]
theorem conv_keys (ls : List Line) (l : List CameT) : (l.map (conv ls)).map (·.1) = l.map (·.1) := by
  rw [List.map_map]
  rfl
section
variable {ls : List Line} {free single : List Ln} {M : List Nat} {w : Laid} {s : Nat} {had l : List CameT} {isEnd : Nat → Bool}
structure RInv (ls : List Line) (free single : List Ln) (M : List Nat) (w : Laid) (s : Nat) (l : List CameT) : Prop where
  r : RchP free single (Uw ls w) s (l.map (conv ls))
  ix : ∀ x ∈ l, ∀ i d, x.2 = some (i, d) → i < ls.length
  ms : ∀ x ∈ l, x.1 ∈ M
theorem getD_of {i : Nat} {e : Line} (h : ls[i]? = some e) : ls.getD i noLine = e := by
  rw [List.getD_eq_getElem?_getD, h]
  rfl
theorem rinv_add (L : Lns ls free single M) (hw : w.length = ls.length) (I : RInv ls free single M w s l) {i : Nat} {e : Line} {d : Bool} {m p : Nat} (he : ls[i]? = some e) (hm : m = if d = true then e.to else e.from_) (hp : p = if d = true then e.from_ else e.to)
    (hpin : cameTo l p = true) (hnew : cameTo l m = false) (hd : d = true → e.byLot = true ∨ w.getD i 0 = 0) (hb : d = false → 0 < w.getD i 0) : RInv ls free single M w s (l ++ [(m, some (i, d))]) := by
  have hem := List.mem_of_getElem? he
  have hmM : m ∈ M := by
    rw [hm]
    split
    · exact (L.ms e hem).2
    · exact (L.ms e hem).1
  obtain ⟨x, hx, ex⟩ := List.mem_map.mp (cameTo_iff.mp hpin)
  obtain ⟨j, hj⟩ := List.mem_iff_getElem?.mp hx
  have hj' : (l.map (conv ls))[j]? = some (p, (conv ls x).2) := by
    rw [List.getElem?_map, hj, ← ex]
    rfl
  have hn : m ∉ (l.map (conv ls)).map (·.1) := by
    rw [conv_keys]
    intro z
    rw [cameTo_iff.mpr z] at hnew
    cases hnew
  refine ⟨?_, fun y hy k d' hk => ?_, fun y hy => ?_⟩
  · rw [List.map_append]
    show RchP _ _ _ _ (_ ++ [conv ls (m, some (i, d))])
    have hc : conv ls (m, some (i, d)) = (m, some (p, pairE e, if d = true then (1 : Int) else -1)) := by
      unfold conv
      rw [hp]
      simp only [Option.map_some, getD_of he]
      cases d <;> rfl
    rw [hc]
    refine rch_snoc I.r hn (L.sm m hmM) hj' (follow_mem.mpr ?_)
    cases d with
    | true =>
      have hu := uw_used (w := w) L.nd hw he
      cases hbl : e.byLot with
      | true => exact .inl ⟨L.fr e hem hbl, hp.symm, hm, rfl⟩
      | false =>
        have h0 := (hd rfl).resolve_left (by rw [hbl]; simp)
        exact .inr (.inl ⟨L.sg e hem hbl, hp.symm, by rw [hu, h0]; rfl, hm, rfl⟩)
    | false =>
      have := hb rfl
      exact .inr (.inr ⟨_, uw_mem ls w i hw he, hp.symm, by omega, hm, rfl⟩)
  · rcases List.mem_append.mp hy with h | h
    · exact I.ix y h k d' hk
    · rw [List.mem_singleton.mp h] at hk
      cases hk
      exact (List.getElem?_eq_some_iff.mp he).1
  · rcases List.mem_append.mp hy with h | h
    · exact I.ms y h
    · rw [List.mem_singleton.mp h]
      exact hmM
theorem stepOn_inv (L : Lns ls free single M) (hw : w.length = ls.length) (I : RInv ls free single M w s l) (hh : ∀ n, cameTo had n = true → cameTo l n = true) {x : Line × Nat} (hx : ls[x.2]? = some x.1) : RInv ls free single M w s (stepOn w had l x) ∧ ∃ ext, stepOn w had l x = l ++ ext := by
  unfold stepOn
  split
  · rename_i h
    exact ⟨rinv_add (d := true) L hw I hx rfl rfl (hh _ h.1) h.2.1 (fun _ => h.2.2) (fun z => by cases z), _, rfl⟩
  · split
    · rename_i h
      exact ⟨rinv_add (d := false) L hw I hx rfl rfl (hh _ h.1) h.2.1 (fun z => by cases z) (fun _ => h.2.2), _, rfl⟩
    · exact ⟨I, [], (List.append_nil _).symm⟩
theorem came_app {l ext : List CameT} {n : Nat} (h : cameTo l n = true) : cameTo (l ++ ext) n = true := by
  rw [cameTo_iff] at h ⊢
  rw [List.map_append]
  exact List.mem_append_left _ h
theorem fold_inv (L : Lns ls free single M) (hw : w.length = ls.length) : ∀ (X : List (Line × Nat)) (l : List CameT), (∀ x ∈ X, ls[x.2]? = some x.1) → RInv ls free single M w s l → (∀ n, cameTo had n = true → cameTo l n = true) →
    RInv ls free single M w s (X.foldl (stepOn w had) l) ∧ (∃ ext, X.foldl (stepOn w had) l = l ++ ext) ∧ ((X.foldl (stepOn w had) l).length = l.length → ∀ x ∈ X, stepOn w had l x = l)
  | [], l, _, I, _ => ⟨I, ⟨[], (List.append_nil _).symm⟩, fun _ x hx => by cases hx⟩
  | x :: X, l, hX, I, hh => by
    obtain ⟨I1, ext, e1⟩ := stepOn_inv L hw I hh (hX x (List.mem_cons_self ..))
    obtain ⟨I2, ⟨ext2, e2⟩, h2⟩ := fold_inv L hw X (stepOn w had l x) (fun y hy => hX y (List.mem_cons_of_mem _ hy)) I1 (fun n hn => by rw [e1]; exact came_app (hh n hn))
    rw [List.foldl_cons]
    refine ⟨I2, ⟨ext ++ ext2, by rw [e2, e1, List.append_assoc]⟩, fun hlen => ?_⟩
    rw [e2, e1, List.length_append, List.length_append] at hlen
    have he : ext = [] := List.length_eq_zero_iff.mp (by omega)
    rw [he, List.append_nil] at e1
    intro y hy
    rcases List.mem_cons.mp hy with h | h
    · rw [h]; exact e1
    · have := h2 (by rw [e2, List.length_append]; omega) y h
      rw [e1] at this
      exact this
theorem zip_at {x : Line × Nat} (h : x ∈ ls.zipIdx) : ls[x.2]? = some x.1 := List.mem_zipIdx_iff_getElem?.mp h
theorem round_inv (L : Lns ls free single M) (hw : w.length = ls.length) (I : RInv ls free single M w s l) : RInv ls free single M w s (roundOn ls w l) ∧ l.length ≤ (roundOn ls w l).length := by
  rw [roundOn_eq]
  obtain ⟨h1, ⟨ext, e⟩, _⟩ := fold_inv (had := l) L hw ls.zipIdx l (fun x hx => zip_at hx) I (fun n h => h)
  exact ⟨h1, by rw [e, List.length_append]; omega⟩
theorem rinv_len (I : RInv ls free single M w s l) : l.length ≤ M.length := by
  have hn := I.r.nd
  rw [conv_keys] at hn
  have := nodup_le hn (u := M) fun n h => by
    obtain ⟨x, hx, e⟩ := List.mem_map.mp h
    rw [← e]
    exact I.ms x hx
  rwa [List.length_map] at this
theorem rounds_inv (L : Lns ls free single M) (hw : w.length = ls.length) : ∀ (f : Nat) (l : List CameT), RInv ls free single M w s l → M.length + 1 ≤ l.length + f → RInv ls free single M w s (roundsOn ls w f l) ∧ (roundOn ls w (roundsOn ls w f l)).length = (roundsOn ls w f l).length
  | 0, l, I, h => by
    have := rinv_len I
    omega
  | f + 1, l, I, h => by
    obtain ⟨I1, hl⟩ := round_inv L hw I
    unfold roundsOn
    dsimp only
    split
    · rename_i e
      exact ⟨I, e⟩
    · exact rounds_inv L hw f _ I1 (by omega)
theorem round_closed (L : Lns ls free single M) (hw : w.length = ls.length) (I : RInv ls free single M w s l) (h : (roundOn ls w l).length = l.length) : Closed free single (Uw ls w) (l.map (conv ls)) := by
  rw [roundOn_eq] at h
  obtain ⟨_, _, h3⟩ := fold_inv (had := l) L hw ls.zipIdx l (fun x hx => zip_at hx) I (fun n h => h)
  have h3 := h3 h
  have none_ : ∀ (m : Nat) (a : Option (Nat × Bool)), l ++ [(m, a)] ≠ l := fun m a z => by
    have := congrArg List.length z
    rw [List.length_append] at this
    simp at this
  have hf : ∀ i e, ls[i]? = some e → cameTo l e.from_ = true → (e.byLot = true ∨ w.getD i 0 = 0) → cameTo l e.to = true := fun i e he h1 h2 => by
    have := h3 (e, i) (List.mem_zipIdx_iff_getElem?.mpr he)
    unfold stepOn at this
    cases hc : cameTo l e.to with
    | true => rfl
    | false =>
      rw [if_pos ⟨h1, hc, h2⟩] at this
      exact absurd this (none_ _ _)
  have hb : ∀ i e, ls[i]? = some e → cameTo l e.to = true → 0 < w.getD i 0 → cameTo l e.from_ = true := fun i e he h1 h2 => by
    have := h3 (e, i) (List.mem_zipIdx_iff_getElem?.mpr he)
    unfold stepOn at this
    cases hc : cameTo l e.from_ with
    | true => rfl
    | false =>
      rw [if_neg (fun z => by rw [h1] at z; exact absurd z.2.1 (by simp)), if_pos ⟨h1, hc, h2⟩] at this
      exact absurd this (none_ _ _)
  intro r hr st hst
  rw [conv_keys]
  have hrl : cameTo l r.1 = true := cameTo_iff.mpr (by rw [← conv_keys ls]; exact List.mem_map.mpr ⟨r, hr, rfl⟩)
  obtain ⟨n, k, d⟩ := st
  show n ∈ _
  rw [← cameTo_iff]
  rcases follow_mem.mp hst with ⟨h1, h2, h3, _⟩ | ⟨h1, h2, h0, h3, _⟩ | ⟨c, h1, h2, h0, h3, _⟩
  · obtain ⟨e, he, hbl, rfl⟩ := L.fr' k h1
    obtain ⟨i, hi⟩ := List.mem_iff_getElem?.mp he
    rw [h3]
    exact hf i e hi (by rw [show e.from_ = r.1 from h2]; exact hrl) (.inl hbl)
  · obtain ⟨e, he, hbl, rfl⟩ := L.sg' k h1
    obtain ⟨i, hi⟩ := List.mem_iff_getElem?.mp he
    rw [uw_used L.nd hw hi] at h0
    rw [h3]
    exact hf i e hi (by rw [show e.from_ = r.1 from h2]; exact hrl) (.inr (by omega))
  · obtain ⟨i, e, hi, hu⟩ := uw_all ls w h1
    cases hu
    rw [h3]
    exact hb i e hi (by rw [show e.to = r.1 from h2]; exact hrl) (by omega)
end
end St

end

section

/-! The plain law, part 13: a way back, and all ways. -/
namespace St
open TbStLog
section
variable {ls : List Line} {free single : List Ln} {M : List Nat} {w : Laid} {s : Nat} {l : List CameT} {isEnd : Nat → Bool} {cnt : Int}
abbrev modOn (v : Laid) (y : Nat × Bool) : Laid := v.modify y.1 fun (k : Nat) => if y.2 = true then k + 1 else k - 1
theorem find_at {l : List CameT} (n : (l.map (·.1)).Nodup) {i : Nat} {x : CameT} (h : l[i]? = some x) : l.find? (fun (y : CameT) => y.1 == x.1) = some x := by
  cases hf : l.find? (fun (y : CameT) => y.1 == x.1) with
  | none => exact absurd (List.find?_eq_none.mp hf x (List.mem_of_getElem? h)) (by simp)
  | some y =>
    have h1 : y.1 = x.1 := beq_iff_eq.mp (List.find?_some (p := fun (y : CameT) => y.1 == x.1) hf)
    obtain ⟨j, hj⟩ := List.mem_iff_getElem?.mp (List.mem_of_find?_eq_some hf)
    have a1 : (l.map (·.1))[j]? = some x.1 := by rw [List.getElem?_map, hj, ← h1]; rfl
    have a2 : (l.map (·.1))[i]? = some x.1 := by rw [List.getElem?_map, h]; rfl
    obtain ⟨b1, c1⟩ := List.getElem?_eq_some_iff.mp a1
    obtain ⟨b2, c2⟩ := List.getElem?_eq_some_iff.mp a2
    have := (List.getElem_inj n).mp (c1.trans c2.symm)
    rw [this, h] at hj
    cases hj
    rfl
theorem mod_len (v : Laid) (y : Nat × Bool) : (modOn v y).length = v.length := List.length_modify ..
theorem back_all (L : Lns ls free single M) (hw : w.length = ls.length) (I : RInv ls free single M w s l) (F : FlowP free single s isEnd (Uw ls w) cnt) : ∀ (fuel i : Nat) (x : CameT) (v : Laid), i < fuel → l[i]? = some x → v.length = ls.length →
    BackP free single (Uw ls w) cnt s isEnd (l.map (conv ls)) i x.1 (Uw ls v) → ((backFrom ls l fuel x.1).foldl modOn v).length = ls.length ∧ FlowP free single s isEnd (Uw ls ((backFrom ls l fuel x.1).foldl modOn v)) (cnt + 1)
  | 0, i, x, v, h, _, _, _ => absurd h (Nat.not_lt_zero _)
  | fuel + 1, i, x, v, h, hx, hv, B => by
    have hn := I.r.nd
    rw [conv_keys] at hn
    unfold backFrom
    rw [find_at hn hx]
    obtain ⟨m, c⟩ := x
    have hxr : (l.map (conv ls))[i]? = some (conv ls (m, c)) := by rw [List.getElem?_map, hx]; rfl
    cases c with
    | none =>
      have h0 := I.r.only i m hxr
      subst h0
      rw [I.r.head] at hxr
      have hs : s = m := congrArg (fun z : Option Came => (z.getD (0, none)).1) hxr
      subst hs
      exact ⟨hv, back_end B⟩
    | some y =>
      obtain ⟨k, d⟩ := y
      have hk := I.ix _ (List.mem_of_getElem? hx) k d rfl
      obtain ⟨e, he⟩ : ∃ e, ls[k]? = some e := ⟨ls[k], List.getElem?_eq_getElem hk⟩
      have hg := getD_of he
      dsimp only
      rw [show ls.getD k ⟨0, 0, true⟩ = e from hg]
      have hc : conv ls (m, some (k, d)) = (m, some (if d = true then e.from_ else e.to, pairE e, if d = true then (1 : Int) else -1)) := by
        unfold conv
        simp only [Option.map_some, hg]
        cases d <;> rfl
      rw [hc] at hxr
      obtain ⟨j, c', hji, hj, hm⟩ := I.r.came i m _ _ _ hxr
      have B2 := back_step L.dis F I.r B hxr hj hji hm
      have hu := uw_used (w := v) L.nd hv he
      have hlow := B2.low (pairE e)
      rw [uput_of, if_pos rfl, hu] at hlow
      have hput : uput (Uw ls v) (pairE e) (usedOf (Uw ls v) (pairE e) + if d = true then (1 : Int) else -1) = Uw ls (modOn v (k, d)) := by
        refine uw_uput L.nd hv he ?_
        rw [hu]
        cases d
        · simp only [Bool.false_eq_true, if_false] at hlow ⊢
          omega
        · simp only [if_true]
          omega
      rw [hput] at B2
      rw [List.getElem?_map] at hj
      obtain ⟨x', hx', ex'⟩ := Option.map_eq_some_iff.mp hj
      have hp : x'.1 = if d = true then e.from_ else e.to := congrArg Prod.fst ex'
      have := back_all L hw I F fuel j x' (modOn v (k, d)) (by omega) hx' (by rw [mod_len]; exact hv) (by rw [hp]; exact B2)
      rw [hp] at this
      rw [List.foldl_cons]
      exact this
theorem laid_all (L : Lns ls free single M) (hsM : s ∈ M) {ends : List Nat} (hends : ∀ m, isEnd m = true ↔ m ∈ ends) {S : Nat → Bool} (h1 : S s = true) (h2 : ∀ m, isEnd m = true → S m = false) (h3 : ∀ l ∈ free, S l.1 = true → S l.2 = true) (hsl : single.length ≤ ls.length) :
    ∀ (f : Nat) (w : Laid) (cnt : Nat), w.length = ls.length → FlowP free single s isEnd (Uw ls w) (cnt : Int) → ls.length + 1 ≤ cnt + f → ∃ (w' : Laid) (l : List CameT) (n : Nat), laidFrom ls s ends M.length f w = (w', l) ∧ w'.length = ls.length ∧ FlowP free single s isEnd (Uw ls w') (n : Int) ∧ RchP free single (Uw ls w') s (l.map (conv ls)) ∧
      Closed free single (Uw ls w') (l.map (conv ls)) ∧ ∀ r ∈ l.map (conv ls), isEnd r.1 = false
  | 0, w, cnt, hw, F, h => by
    have := flow_le F h1 h2 h3
    omega
  | f + 1, w, cnt, hw, F, h => by
    have I0 : RInv ls free single M w s [(s, none)] := ⟨rch_start (L.sm s hsM), (fun x hx i d hk => by
      rw [List.mem_singleton.mp hx] at hk
      cases hk), fun x hx => by
      rw [List.mem_singleton.mp hx]
      exact hsM⟩
    obtain ⟨I, hfix⟩ := rounds_inv L hw (M.length + 1) [(s, none)] I0 (by simp only [List.length_cons, List.length_nil]; omega)
    unfold laidFrom
    dsimp only
    generalize hlr : roundsOn ls w (M.length + 1) [(s, none)] = l at I hfix
    cases hf : ends.find? (fun (e : Nat) => cameTo l e) with
    | none =>
      refine ⟨w, l, cnt, rfl, hw, F, I.r, round_closed L hw I hfix, fun r hr => ?_⟩
      cases he : isEnd r.1 with
      | false => rfl
      | true =>
        refine absurd ?_ (List.find?_eq_none.mp hf r.1 ((hends _).mp he))
        rw [cameTo_iff, ← conv_keys ls]
        exact List.mem_map.mpr ⟨r, hr, rfl⟩
    | some e =>
      have he := (hends e).mpr (List.mem_of_find?_eq_some hf)
      have hc : cameTo l e = true := List.find?_some (p := fun (e : Nat) => cameTo l e) hf
      obtain ⟨x, hx, ex⟩ := List.mem_map.mp (cameTo_iff.mp hc)
      obtain ⟨i, hi⟩ := List.mem_iff_getElem?.mp hx
      have hil := (List.getElem?_eq_some_iff.mp hi).1
      have hlen := rinv_len I
      obtain ⟨b1, b2⟩ := back_all L hw I F (M.length + 1) i x w (by omega) hi hw (back_start F (by rw [ex]; exact he))
      rw [ex] at b1 b2
      exact laid_all L hsM hends h1 h2 h3 hsl f _ (cnt + 1) b1 (by exact_mod_cast b2) (by omega)
end
end St

end

section

set_option maxHeartbeats 2000000
/-! The plain law, part 14: the fewest cleanings. -/
namespace St
open TbStLog
open TbStSpec (nats says tells)
theorem lns_of {es : Es} (g : Good es) : Lns (specL es []) (lotLinesL es) (singleL es) (meetings es) := by
  have P : LinesP es (lotLinesL es) (singleL es) := linesP_of
  have hb : ∀ e ∈ specL es [], e.byLot = decide (pairE e ∈ lotLinesL es) := fun e he => line_byLot g he
  refine ⟨specL_nodup g [], fun e he h => ?_, fun e he h => ?_, fun l hl => ?_, fun l hl => ?_, fun m hm => meet80 g hm, fun e he => ?_, P.dis⟩
  · rw [hb e he] at h
    exact of_decide_eq_true h
  · rcases (mem_specL g).mp he with ⟨h1, _⟩ | ⟨_, h1, h2⟩
    · rw [h1] at h; cases h
    · exact List.mem_filter.mpr ⟨h1, by simpa using h2⟩
  · exact ⟨⟨l.1, l.2, true⟩, (mem_specL g).mpr (.inl ⟨rfl, hl⟩), rfl, rfl⟩
  · obtain ⟨h1, h2⟩ := List.mem_filter.mp hl
    exact ⟨⟨l.1, l.2, false⟩, (mem_specL g).mpr (.inr ⟨rfl, h1, by simpa using h2⟩), rfl, rfl⟩
  · exact forth_mem (forth_all es []) ((mem_pairs g).mp (List.mem_map.mpr ⟨e, he, rfl⟩))
theorem flow_zero : ∀ (ls : List Line) (S : Nat → Bool), flow (Uw ls (ls.map fun _ => 0)) S = 0
  | [], _ => rfl
  | e :: ls, S => by
    show flow ((pairE e, ((0 : Nat) : Int)) :: Uw ls (ls.map fun _ => 0)) S = 0
    rw [flow_cons, flow_zero ls S]
    simp
theorem zero_flow {ls : List Line} {free single : List Ln} {M : List Nat} {s : Nat} {isEnd : Nat → Bool} (L : Lns ls free single M) : FlowP free single s isEnd (Uw ls (ls.map fun _ => 0)) ((0 : Nat) : Int) := by
  have hl : (ls.map fun _ => 0).length = ls.length := List.length_map ..
  have hnd : ((Uw ls (ls.map fun _ => 0)).map (·.1)).Nodup := by rw [uw_keys _ _ hl]; exact L.nd
  have hz : ∀ l, usedOf (Uw ls (ls.map fun _ => 0)) l = 0 := fun l => by
    by_cases hm : l ∈ (Uw ls (ls.map fun _ => 0)).map (·.1)
    · obtain ⟨u, hu, rfl⟩ := List.mem_map.mp hm
      obtain ⟨i, e, he, h⟩ := uw_all _ _ hu
      rw [usedOf_mem hnd hu, h]
      have : (ls.map fun _ => 0).getD i 0 = 0 := by
        rw [List.getD_eq_getElem?_getD, List.getElem?_map, he]
        rfl
      show (((ls.map fun _ => 0).getD i 0 : Nat) : Int) = 0
      rw [this]
      rfl
    · exact usedOf_out hm
  refine ⟨hnd, fun l h => ?_, (fun l => by rw [hz]; omega), fun l _ => by rw [hz]; omega, fun S _ _ => flow_zero ls S⟩
  rw [uw_keys _ _ hl] at h
  obtain ⟨e, he, rfl⟩ := List.mem_map.mp h
  cases hb : e.byLot with
  | true => exact .inl (L.fr e he hb)
  | false => exact .inr (L.sg e he hb)
theorem single_le {ls : List Line} {free single : List Ln} {M : List Nat} (L : Lns ls free single M) (hs : single.Nodup) : single.length ≤ ls.length := by
  have := nodup_le hs (u := ls.map pairE) fun l hl => by
    obtain ⟨e, he, _, h⟩ := L.sg' l hl
    rw [← h]
    exact List.mem_map.mpr ⟨e, he, rfl⟩
  rwa [List.length_map] at this
/-- the lines that are left behind, as pairs -/
theorem left_perm {ls : List Line} {free single : List Ln} {M : List Nat} (L : Lns ls free single M) (hs : single.Nodup) {S : Nat → Bool} (h3 : ∀ l ∈ free, S l.1 = true → S l.2 = true) : ((ls.filter fun e => S e.from_ && !S e.to).map pairE).Perm (single.filter (lv S)) := by
  refine (List.perm_ext_iff_of_nodup ?_ (hs.sublist List.filter_sublist)).mpr fun l => ?_
  · exact L.nd.sublist (List.filter_sublist.map _)
  · rw [List.mem_map, List.mem_filter]
    constructor
    · rintro ⟨e, he, rfl⟩
      obtain ⟨he, h⟩ := List.mem_filter.mp he
      refine ⟨?_, h⟩
      cases hb : e.byLot with
      | false => exact L.sg e he hb
      | true =>
        rw [Bool.and_eq_true] at h
        rw [h3 _ (L.fr e he hb) h.1] at h
        simp at h
    · rintro ⟨hl, h⟩
      obtain ⟨e, he, _, rfl⟩ := L.sg' l hl
      exact ⟨e, List.mem_filter.mpr ⟨he, h⟩, rfl⟩
theorem le3 (a b c a' b' c' : Int) : ([a, b, c] : List Int) ≤ [a', b', c'] ↔ a < a' ∨ (a = a' ∧ (b < b' ∨ (b = b' ∧ c ≤ c'))) := by
  rw [List.cons_le_cons_iff, List.cons_le_cons_iff, List.cons_le_cons_iff]
  simp only [List.nil_le, and_true]
  omega
def ltR (a b : List Int) : Prop := a.getD 0 0 < b.getD 0 0 ∨ (a.getD 0 0 = b.getD 0 0 ∧ a.getD 1 0 ≤ b.getD 1 0)
theorem leT_iff {es : Es} {a b : Ln} : leT es a b = true ↔ ((ent es a.1).thing : Int) < (ent es b.1).thing ∨ (((ent es a.1).thing : Int) = (ent es b.1).thing ∧ (((ent es a.1).minute : Int) < (ent es b.1).minute ∨ (((ent es a.1).minute : Int) = (ent es b.1).minute ∧ ((ent es a.2).minute : Int) ≤ (ent es b.2).minute))) := by
  unfold leT tripleOf
  rw [decide_eq_true_iff]
  exact le3 _ _ _ _ _ _
theorem meetNo_eq {es : Es} {i : Nat} (h : i ∈ meetings es) : meetNo (msOf es) i = toMeet es i := by
  unfold meetNo
  rw [find_map]
  have : (meetings es).find? (fun x => (toMeet es x).no == i) = some i := by
    cases hf : (meetings es).find? (fun x => (toMeet es x).no == i) with
    | none => exact absurd (List.find?_eq_none.mp hf i h) (by show ¬ ¬ (i == i) = true; simp)
    | some j =>
      have := List.find?_some hf
      have : j = i := beq_iff_eq.mp this
      rw [this]
  rw [this]
  rfl
theorem told_eq {es : Es} (g : Good es) {E : List Line} {C : List Ln} (hE : ∀ e ∈ E, pairE e ∈ singleL es) (hp : (E.map pairE).Perm C) :
    (toldCleanings (abs es) E).flatMap (fun (x : Nat × Nat × Nat) => nats [x.1, x.2.1, x.2.2]) = ((C.mergeSort (leT es)).map (tripleOf es)).flatten := by
  have P : LinesP es (lotLinesL es) (singleL es) := linesP_of
  rw [List.flatMap_def]
  congr 1
  have htri : E.map (fun e => nats [(meetNo (msOf es) e.from_).thing, (meetNo (msOf es) e.from_).minute, (meetNo (msOf es) e.to).minute]) = (E.map pairE).map (tripleOf es) := by
    rw [List.map_map]
    refine List.map_congr_left fun e he => ?_
    have := P.sm _ (hE e he)
    rw [meetNo_eq this.1, meetNo_eq this.2]
    rfl
  have hC : ∀ l ∈ C, l ∈ singleL es := fun l hl => by
    obtain ⟨e, he, h⟩ := List.mem_map.mp (hp.mem_iff.mpr hl)
    rw [← h]
    exact hE e he
  refine perm_sorted_eq (R := ltR) ?_ ?_ ?_ fun a ha b hb h1 h2 => ?_
  · unfold toldCleanings
    rw [meetsOf_eq]
    refine ((List.mergeSort_perm _ _).map _).trans ?_
    rw [List.map_map]
    refine List.Perm.trans (List.Perm.of_eq htri) ?_
    exact (hp.map _).trans ((List.mergeSort_perm _ _).map _).symm
  · unfold toldCleanings
    rw [List.pairwise_map]
    refine (List.pairwise_mergeSort (fun a b c h1 h2 => ?_) (fun a b => ?_) _).imp fun {a b} h => ?_
    · simp only [Bool.or_eq_true, Bool.and_eq_true, decide_eq_true_eq, beq_iff_eq] at *
      omega
    · simp only [Bool.or_eq_true, Bool.and_eq_true, decide_eq_true_eq, beq_iff_eq] at *
      omega
    · simp only [Bool.or_eq_true, Bool.and_eq_true, decide_eq_true_eq, beq_iff_eq] at h
      show ((a.1 : Nat) : Int) < (b.1 : Nat) ∨ (((a.1 : Nat) : Int) = (b.1 : Nat) ∧ ((a.2.1 : Nat) : Int) ≤ (b.2.1 : Nat))
      omega
  · rw [List.pairwise_map]
    refine (List.pairwise_mergeSort (fun a b c h1 h2 => ?_) (fun a b => ?_) _).imp fun {a b} h => ?_
    · rw [leT_iff] at *
      omega
    · rw [Bool.or_eq_true, leT_iff, leT_iff]
      omega
    · rw [leT_iff] at h
      show ((ent es a.1).thing : Int) < (ent es b.1).thing ∨ (((ent es a.1).thing : Int) = (ent es b.1).thing ∧ ((ent es a.1).minute : Int) ≤ (ent es b.1).minute)
      omega
  · have key : ∀ a ∈ (toldCleanings (abs es) E).map (fun (x : Nat × Nat × Nat) => nats [x.1, x.2.1, x.2.2]), ∃ l ∈ singleL es, a = tripleOf es l := fun a ha => by
      obtain ⟨x, hx, rfl⟩ := List.mem_map.mp ha
      unfold toldCleanings at hx
      rw [List.mem_mergeSort, meetsOf_eq] at hx
      obtain ⟨e, he, rfl⟩ := List.mem_map.mp hx
      refine ⟨pairE e, hE e he, ?_⟩
      have := P.sm _ (hE e he)
      show nats [(meetNo (msOf es) e.from_).thing, (meetNo (msOf es) e.from_).minute, (meetNo (msOf es) e.to).minute] = _
      rw [meetNo_eq this.1, meetNo_eq this.2]
      rfl
    obtain ⟨l, hl, rfl⟩ := key a ha
    obtain ⟨l', hl', rfl⟩ := key b hb
    have h1 : ((ent es l.1).thing : Int) < (ent es l'.1).thing ∨ (((ent es l.1).thing : Int) = (ent es l'.1).thing ∧ ((ent es l.1).minute : Int) ≤ (ent es l'.1).minute) := h1
    have h2 : ((ent es l'.1).thing : Int) < (ent es l.1).thing ∨ (((ent es l'.1).thing : Int) = (ent es l.1).thing ∧ ((ent es l'.1).minute : Int) ≤ (ent es l.1).minute) := h2
    have e1 : l.1 = l'.1 := g.spot _ (meetings_standing (P.sm _ hl).1) _ (meetings_standing (P.sm _ hl').1) (by omega) (by omega)
    have t1 := ((thing_line g).mp (show (l.1, l.2) ∈ thingLinesL es [] from (List.mem_filter.mp hl).1)).2.1
    have t2 := ((thing_line g).mp (show (l'.1, l'.2) ∈ thingLinesL es [] from (List.mem_filter.mp hl').1)).2.1
    rw [e1, t2] at t1
    have e2 : l'.2 = l.2 := Option.some.inj t1
    unfold tripleOf
    rw [e1, e2]
theorem told_nil (s : Log) : toldCleanings s [] = [] := by
  unfold toldCleanings
  simp
theorem flow_congr {S S' : Nat → Bool} : ∀ (U : Us), (∀ l ∈ U.map (·.1), S l.1 = S' l.1 ∧ S l.2 = S' l.2) → flow U S = flow U S'
  | [], _ => rfl
  | u :: U, h => by
    have h1 := h u.1 (List.mem_cons_self ..)
    rw [flow_cons, flow_cons, h1.1, h1.2, flow_congr U fun l hl => h l (List.mem_cons_of_mem _ hl)]
theorem firstOf_some {es : Es} {y t f : Nat} (h : firstM es y t = some f) : firstOf (msOf es) y t = some (toMeet es f) := by rw [firstOf_eq, h]; rfl
/-- **the fewest cleanings** -/
theorem fewest_law {es : Es} (g : Good es) (y t : Nat) (row : List Nat) {res : Res} (h : fewR es y t row res) : Steps es (TbStSpec.step (abs es) (.fewest y t row)) res := by
  show Steps es (abs es, TbStSpec.asked (abs es) (.fewest y t row)) _
  unfold TbStSpec.asked TbStSpec.asking
  unfold fewR at h
  dsimp only
  rw [isBad_iff]
  by_cases hb : isBadL y t
  rotate_left
  · rw [if_pos (show ¬ (y < 1000 ∧ t < 52596000) from hb)] at h
    rw [h, if_pos (decide_eq_false hb)]
    exact ⟨rfl, rfl, g⟩
  rw [if_neg (show ¬ ¬ (y < 1000 ∧ t < 52596000) from fun z => z hb)] at h
  rw [if_neg (show ¬ decide (isBadL y t) = false by rw [decide_eq_true hb]; simp)]
  rcases finds_eq row with ⟨h1, h2⟩ | ⟨h1, h2⟩
  rotate_left
  · rw [h1] at h
    rw [h2]
    dsimp only at h
    rw [h]
    exact ⟨rfl, rfl, g⟩
  rw [h1] at h
  rw [h2]
  dsimp only at h ⊢
  generalize twosL row = fs at h
  have P : LinesP es (lotLinesL es) (singleL es) := linesP_of
  have L := lns_of g
  have hfree : fs.any (isReached (freely (msOf es) (specL es []) y t) y) = freeHit es y t fs := by
    unfold freely freeHit
    rw [touched_eq (same_free g []) (forth_lot es) y t, doReach_eq]
  unfold TbStLog.fewest
  rw [meetsOf_eq, linesOf_eq]
  dsimp only
  rw [hfree]
  by_cases hf : freeHit es y t fs = true
  · rw [if_pos hf] at h
    rw [h, if_pos hf]
    exact ⟨rfl, rfl, g⟩
  rw [if_neg hf] at h
  rw [if_neg hf]
  obtain ⟨U, n, ls, hI, hT, rfl⟩ := h
  unfold InitP at hI
  cases hm : firstM es y t with
  | none =>
    rw [hm] at hI hT
    have hn : n = 0 := hI.2
    have hls : ls = [] := by
      rcases hT with ⟨_, h⟩ | ⟨h, _⟩
      · exact h
      · exact absurd hn h
    rw [firstOf_eq, hm, hn, hls]
    refine ⟨rfl, ?_, g⟩
    show ((0 : Nat) : Int) :: (toldCleanings (abs es) []).flatMap _ = _
    rw [told_nil]
    rfl
  | some f =>
    rw [hm] at hI hT
    obtain ⟨F, rows, R, C, hE⟩ := hI
    have hfM := firstM_mem' hm
    rw [firstOf_some hm]
    dsimp only
    obtain ⟨isE, hisE⟩ : ∃ isE : Nat → Bool, isE = fun m => isFind es m fs && decide (m ∈ meetings es) := ⟨_, rfl⟩
    have hends : ∀ m, isE m = true ↔ m ∈ ((msOf es).filter (hasFind fs)).map fun (x : Meet) => x.no := fun m => by
      rw [List.mem_map, hisE, Bool.and_eq_true, decide_eq_true_iff]
      constructor
      · rintro ⟨h1, h2⟩
        exact ⟨toMeet es m, List.mem_filter.mpr ⟨List.mem_map.mpr ⟨m, h2, rfl⟩, by rw [hasFind_eq]; exact h1⟩, rfl⟩
      · rintro ⟨x, hx, rfl⟩
        obtain ⟨hx, h1⟩ := List.mem_filter.mp hx
        obtain ⟨i, hi, rfl⟩ := List.mem_map.mp hx
        rw [hasFind_eq] at h1
        exact ⟨h1, hi⟩
    have F' : FlowP (lotLinesL es) (singleL es) f isE U (n : Int) := ⟨F.nd, F.keys, F.low, F.one, fun S a b => by
      have hk : ∀ l ∈ U.map (·.1), l.1 ∈ meetings es ∧ l.2 ∈ meetings es := fun l hl => (F.keys l hl).elim (P.fm l) (P.sm l)
      rw [flow_congr (S' := fun m => S m && decide (m ∈ meetings es)) U fun l hl => by simp [hk l hl]]
      refine F.sum _ (by simp [a, hfM]) fun m hfm => ?_
      by_cases hmm : m ∈ meetings es
      · rw [b m (by rw [hisE]; show (isFind es m fs && decide (m ∈ meetings es)) = true; rw [hfm, decide_eq_true hmm]; rfl)]
        rfl
      · simp [hmm]⟩
    have hE' : ∀ r ∈ rows, isE r.1 = false := fun r hr => by rw [hisE]; show (isFind es r.1 fs && decide (r.1 ∈ meetings es)) = false; rw [show isFind es r.1 fs = false from hE r hr]; rfl
    have hS0 : ∀ m, isE m = true → decide (m ∈ reached es y t (lotLinesL es)) = false := fun m hm' => decide_eq_false fun z => by
      rw [hisE, Bool.and_eq_true] at hm'
      unfold freeHit doReach at hf
      exact hf (by rw [Bool.or_eq_true]; exact .inr (List.any_eq_true.mpr ⟨m, z, hm'.1⟩))
    obtain ⟨w', l, n', hz, hw', F2, R2, C2, E2⟩ := laid_all L hfM hends (S := fun m => decide (m ∈ reached es y t (lotLinesL es))) (decide_eq_true (reached_first hm)) hS0
      (fun l hl h => decide_eq_true (reached_closed (forth_lot es) l hl (of_decide_eq_true h))) (single_le L P.sn) ((specL es []).length + 1) ((specL es []).map fun _ => 0) 0 (List.length_map ..) (zero_flow L) (by omega)
    have hz' : laidFrom (specL es []) (toMeet es f).no (((meetings es).map (toMeet es)).filter (hasFind fs) |>.map fun (x : Meet) => x.no) ((meetings es).map (toMeet es)).length ((specL es []).length + 1) ((specL es []).map fun (_ : Line) => 0) = (w', l) := by
      rw [List.length_map]
      exact hz
    rw [hz']
    obtain ⟨hnn, hset⟩ := same_cut P.sn F' R C hE' F2 R2 C2 E2
    have hcame : ∀ m, cameTo l m = setOf (l.map (conv (specL es []))) m := fun m => by
      rw [Bool.eq_iff_iff, cameTo_iff]
      unfold setOf
      rw [decide_eq_true_iff, conv_keys]
    have hEq : ((specL es []).filter fun (e : Line) => cameTo l e.from_ && !cameTo l e.to) = (specL es []).filter fun e => setOf (l.map (conv (specL es []))) e.from_ && !setOf (l.map (conv (specL es []))) e.to := by
      congr 1
      funext e
      rw [hcame, hcame]
    have hperm := left_perm L P.sn (closed_free C2)
    have hcut := cut_eq F2 P.sn R2 C2 E2
    dsimp only
    rw [hEq]
    generalize hEE : ((specL es []).filter fun e => setOf (l.map (conv (specL es []))) e.from_ && !setOf (l.map (conv (specL es []))) e.to) = EE at hperm
    have hlen : ((EE.length : Nat) : Int) = (n : Int) := by
      have := hperm.length_eq
      rw [List.length_map] at this
      rw [this, hnn, hcut]
    refine ⟨rfl, ?_, g⟩
    show ((EE.length : Nat) : Int) :: (toldCleanings (abs es) EE).flatMap (fun (x : Nat × Nat × Nat) => nats [x.1, x.2.1, x.2.2]) = (n : Int) :: ls.flatten
    rw [hlen]
    congr 1
    rcases hT with ⟨hn, hls⟩ | ⟨hn, f', rows3, hf', R3, C3, hls⟩
    · have : EE = [] := List.length_eq_zero_iff.mp (by omega)
      rw [this, told_nil, hls]
      rfl
    · cases hf'
      have hset3 : setOf rows3 = setOf (l.map (conv (specL es []))) := by
        funext m
        unfold setOf
        rw [Bool.eq_iff_iff, decide_eq_true_iff, decide_eq_true_iff, ← hset m]
        exact ⟨same_rows F' R3 R C m, same_rows F' R R3 C3 m⟩
      rw [hls]
      have hcs : cutSet (singleL es) rows3 = (singleL es).filter (lv (setOf (l.map (conv (specL es []))))) := by
        rw [← hset3]
        rfl
      rw [hcs]
      refine told_eq g (fun e he => ?_) hperm
      exact (List.mem_filter.mp (hperm.mem_iff.mp (List.mem_map.mpr ⟨e, he, rfl⟩))).1
end St

end

section

set_option maxHeartbeats 2000000
/-! The plain law, part 15: all calls, one behind another. -/
namespace St
open TbStLog
open TbStSpec (nats says tells Call)
theorem step_law {es : Es} (g : Good es) {c : Call} {res : Res} (h : endR es c res) : Steps es (TbStSpec.step (abs es) c) res := by
  cases c with
  | meet t m l => rw [show res = _ from h]; exact meet_law g t m l
  | clean t m => rw [show res = _ from h]; exact clean_law g t m
  | strike n => rw [show res = _ from h]; exact strike_law g n
  | entry n => rw [show res = _ from h]; exact entry_law g n
  | touched y t => rw [show res = _ from h]; exact touched_law g y t
  | dirty y t => rw [show res = _ from h]; exact dirty_law g y t
  | sources f => rw [show res = _ from h]; exact sources_law g f
  | fewest y t f => exact fewest_law g y t f h
  | cut y t f c => rw [show res = _ from h]; exact cut_law g y t f c
  | apart y t f ws => rw [show res = _ from h]; exact apart_law g y t f ws
  | lines => rw [show res = _ from h]; exact lines_law g
/-- the document's play of calls: the state, what is told -/
def playC : TbStSpec.State → List Call → TbStSpec.State × List Int
  | s, [] => (s, [])
  | s, c :: cs => let z := TbStSpec.step s c
    let r := playC z.1 cs
    (r.1, ((TbStNeutral.told z.2).length : Int) :: TbStNeutral.told z.2 ++ r.2)
theorem playC_snoc : ∀ (cs : List Call) (s : TbStSpec.State) (c : Call), playC s (cs ++ [c]) = ((TbStSpec.step (playC s cs).1 c).1, (playC s cs).2 ++ ((TbStNeutral.told (TbStSpec.step (playC s cs).1 c).2).length : Int) :: TbStNeutral.told (TbStSpec.step (playC s cs).1 c).2)
  | [], s, c => by
    unfold playC
    simp [playC]
  | d :: cs, s, c => by
    rw [List.cons_append]
    unfold playC
    dsimp only
    rw [playC_snoc cs _ c]
    simp
theorem ran_law {cs : List Call} {es : Es} {out : List Int} (h : Ran cs es out) : Good es ∧ playC TbStSpec.start cs = (abs es, out) := by
  induction h with
  | nil => exact ⟨good_nil, rfl⟩
  | snoc h he ih =>
    obtain ⟨g, e⟩ := ih
    obtain ⟨h1, h2, h3⟩ := step_law g he
    refine ⟨h3, ?_⟩
    rw [playC_snoc, e]
    dsimp only
    rw [h1]
    unfold TbStNeutral.told
    rw [h2]
theorem playC_pre : ∀ (cs ds : List Call) (s : TbStSpec.State), (playC s cs).2.length ≤ (playC s (cs ++ ds)).2.length
  | [], ds, s => Nat.zero_le _
  | c :: cs, ds, s => by
    rw [List.cons_append]
    unfold playC
    dsimp only
    have := playC_pre cs ds (TbStSpec.step s c).1
    simp only [List.cons_append, List.length_cons, List.length_append]
    omega
end St

end

section

set_option maxHeartbeats 2000000
/-! The plain law, part 16: the request as one list. -/
namespace St
open TbStSpec (Call)
def encZr (x : List Int) : List Int := (x.length : Int) :: x
def encZ : List (List Int) → List Int
  | (p :: ns) :: xs => p :: (ns.length : Int) :: (ns ++ (xs.length : Int) :: xs.flatMap encZr)
  | _ => []
theorem row_enc {l x t : List Int} (h : PyFlat.row l = some (x, t)) : l = encZr x ++ t := by
  cases l with
  | nil => cases h
  | cons n r =>
    have h : (if 0 ≤ n ∧ n.toNat ≤ r.length then some (r.take n.toNat, r.drop n.toNat) else none) = some (x, t) := h
    by_cases hc : 0 ≤ n ∧ n.toNat ≤ r.length
    · rw [if_pos hc] at h
      have h := Option.some.inj h
      have h1 : r.take n.toNat = x := congrArg Prod.fst h
      have h2 : r.drop n.toNat = t := congrArg Prod.snd h
      have hl : x.length = n.toNat := by rw [← h1, List.length_take]; omega
      unfold encZr
      rw [hl, ← h1, ← h2, List.cons_append, List.take_append_drop]
      congr 1
      omega
    · rw [if_neg hc] at h
      cases h
theorem rows_enc : ∀ (k : Nat) {l t : List Int} {xs : List (List Int)}, PyFlat.rows k l = some (xs, t) → xs.length = k ∧ l = xs.flatMap encZr ++ t
  | 0, l, t, xs, h => by
    cases h
    exact ⟨rfl, rfl⟩
  | k + 1, l, t, xs, h => by
    unfold PyFlat.rows at h
    cases hr : PyFlat.row l with
    | none => rw [hr] at h; cases h
    | some p =>
      obtain ⟨x, s⟩ := p
      rw [hr] at h
      dsimp only at h
      cases hs : PyFlat.rows k s with
      | none => rw [hs] at h; cases h
      | some q =>
        obtain ⟨ys, u⟩ := q
        rw [hs] at h
        cases h
        obtain ⟨h1, h2⟩ := rows_enc k hs
        refine ⟨by rw [List.length_cons, h1], ?_⟩
        rw [row_enc hr, h2, List.flatMap_cons, List.append_assoc]
theorem call_enc {l t : List Int} {c : List (List Int)} (h : PyWide.call l = some (c, t)) : l = encZ c ++ t := by
  cases l with
  | nil => cases h
  | cons p r =>
    unfold PyWide.call at h
    dsimp only at h
    cases hr : PyFlat.row r with
    | none => rw [hr] at h; cases h
    | some q =>
      obtain ⟨ns, s⟩ := q
      rw [hr] at h
      cases s with
      | nil => cases h
      | cons k u =>
        dsimp only at h
        split at h
        · rename_i hk
          cases hs : PyFlat.rows k.toNat u with
          | none => rw [hs] at h; cases h
          | some q =>
            obtain ⟨xs, v⟩ := q
            rw [hs] at h
            cases h
            obtain ⟨h1, h2⟩ := rows_enc _ hs
            rw [row_enc hr, h2]
            show p :: (encZr ns ++ k :: (xs.flatMap encZr ++ t)) = p :: (ns.length : Int) :: (ns ++ (xs.length : Int) :: xs.flatMap encZr) ++ t
            have : ((xs.length : Nat) : Int) = k := by omega
            rw [this]
            simp [encZr]
        · cases h
theorem calls_enc : ∀ (f : Nat) {l : List Int} {cs : List (List (List Int))}, PyWide.calls f l = some cs → l = cs.flatMap encZ
  | f, [], cs, h => by
    have : cs = [] := by
      cases f <;> (unfold PyWide.calls at h; cases h; rfl)
    rw [this]
    rfl
  | 0, _ :: _, cs, h => by cases h
  | f + 1, p :: r, cs, h => by
    unfold PyWide.calls at h
    cases hc : PyWide.call (p :: r) with
    | none => rw [hc] at h; cases h
    | some q =>
      obtain ⟨c, t⟩ := q
      rw [hc] at h
      dsimp only at h
      cases hs : PyWide.calls f t with
      | none => rw [hs] at h; cases h
      | some cs' =>
        rw [hs] at h
        cases h
        rw [List.flatMap_cons, ← calls_enc f hs]
        exact call_enc hc
end St

end

section

set_option maxHeartbeats 2000000
/-! The plain law, part 17: calls that may be asked. -/
namespace St
open TbStSpec (Call)
theorem callOf_parts {c : List (List Int)} {x : Call} (h : TbStNeutral.callOf c = some x) : ∃ (p : Int) (ns : List Int) (xs : List (List Int)), c = (p :: ns) :: xs ∧ (cNum x : Int) = p ∧ cArgs x = ns.map TbStNeutral.nat ∧ cRows x = xs.map TbStNeutral.nats := by
  unfold TbStNeutral.callOf at h
  split at h <;> first
    | (cases h; exact ⟨_, _, _, rfl, rfl, rfl, rfl⟩)
    | cases h
theorem nat_back : ∀ {l : List Int}, (∀ z ∈ l, 0 ≤ z) → (l.map TbStNeutral.nat).map (fun (n : Nat) => (n : Int)) = l
  | [], _ => rfl
  | a :: l, h => by
    rw [List.map_cons, List.map_cons, nat_back fun z hz => h z (List.mem_cons_of_mem _ hz)]
    have := h a (List.mem_cons_self ..)
    unfold TbStNeutral.nat
    congr 1
    omega
theorem rows_back : ∀ {xs : List (List Int)}, (∀ l ∈ xs, ∀ z ∈ l, 0 ≤ z) → ((xs.map TbStNeutral.nats).flatMap encR).map (fun (n : Nat) => (n : Int)) = xs.flatMap encZr
  | [], _ => rfl
  | a :: l, h => by
    rw [List.map_cons, List.flatMap_cons, List.flatMap_cons, List.map_append, rows_back fun z hz => h z (List.mem_cons_of_mem _ hz)]
    congr 1
    unfold encR encZr
    rw [List.map_cons]
    unfold TbStNeutral.nats
    rw [nat_back (h a (List.mem_cons_self ..)), List.length_map]
theorem enc_back {c : List (List Int)} {x : Call} (h : TbStNeutral.callOf c = some x) (hn : ∀ l ∈ c, ∀ z ∈ l, 0 ≤ z) : encZ c = (encC x).map (fun (n : Nat) => (n : Int)) := by
  obtain ⟨p, ns, xs, rfl, h1, h2, h3⟩ := callOf_parts h
  unfold encC encZ
  rw [h2, h3]
  simp only [List.map_cons, List.map_append, List.length_map]
  rw [rows_back fun l hl => hn l (List.mem_cons_of_mem _ hl), nat_back fun z hz => hn _ (List.mem_cons_self ..) z (List.mem_cons_of_mem _ hz), h1]
/-- what may be asked, as calls -/
theorem asked_calls : ∀ {css : List (List (List Int))}, css.all TbStNeutral.asked1 = true → ∃ cs : List Call, css.flatMap encZ = (cs.flatMap encC).map (fun (n : Nat) => (n : Int)) ∧ (∀ c ∈ cs, (cRows c).length ≤ 14 ∧ ∀ r ∈ cRows c, r.length ≤ 100) ∧
    ∀ s, PyFlat.told (PyFlat.played TbStNeutral.step s css) = (playC s cs).2
  | [], _ => ⟨[], rfl, (fun c h => by cases h), fun s => rfl⟩
  | c :: css, h => by
    rw [List.all_cons, Bool.and_eq_true] at h
    obtain ⟨h1, h2⟩ := h
    obtain ⟨cs, e1, e2, e3⟩ := asked_calls h2
    unfold TbStNeutral.asked1 at h1
    simp only [Bool.and_eq_true, decide_eq_true_eq, List.all_eq_true, TbStNeutral.number] at h1
    obtain ⟨hs, h14, hl⟩ := h1
    obtain ⟨x, hx⟩ := Option.isSome_iff_exists.mp hs
    obtain ⟨p, ns, xs, hc, _, _, hr⟩ := callOf_parts hx
    refine ⟨x :: cs, ?_, fun d hd => ?_, fun s => ?_⟩
    · rw [List.flatMap_cons, List.flatMap_cons, List.map_append, e1, enc_back hx fun l hl' z hz => ((hl l hl').1 z hz).1]
    · rcases List.mem_cons.mp hd with h | h
      · rw [h, hr]
        rw [hc] at h14 hl
        rw [List.length_cons] at h14
        refine ⟨by rw [List.length_map]; omega, fun r hrm => ?_⟩
        obtain ⟨l, hlm, rfl⟩ := List.mem_map.mp hrm
        have := (hl l (List.mem_cons_of_mem _ hlm)).2
        unfold TbStNeutral.nats
        rw [List.length_map]
        exact this
      · exact e2 d h
    · unfold PyFlat.played PyFlat.told
      rw [List.flatMap_cons]
      have hst : TbStNeutral.step s c = ((TbStSpec.step s x).1, TbStNeutral.told (TbStSpec.step s x).2) := by
        unfold TbStNeutral.step
        rw [hx]
      rw [hst]
      have := e3 (TbStSpec.step s x).1
      unfold PyFlat.told at this
      dsimp only
      rw [this]
      rfl
end St

end

section

set_option maxRecDepth 100000
set_option maxHeartbeats 4000000
namespace St
open PySem PySem.Spec PyProof.Rows L2 Evl
open PySem.W (Codec)
theorem fin : R.Holds := by
  refine holds_by (walk_specE (k := 10) (ps := ["calls"]) (CX := fun _ => CX0) well_said rfl rfl ⟨rfl, by decide, by decide⟩ (fun w mg fa h Y G hmg => ?_) fun w H s e s' h => h)
  obtain ⟨K, KX, c⟩ := Y
  have T : Txt K mg := ⟨h, KX, G, c⟩
  have hfa : fa = He.fAd K d_answers.at_ := by
    have := T.g_answers
    rw [show mg "answers" = some (.ref fa) from hmg] at this
    exact Value.ref.inj (Option.some.inj this)
  subst hfa
  refine ⟨K, fdOf K d_answers, sp_answers K, KX, fun s us hl => ?_, fun H xs a hO hw hask hd => ?_, fun base hb hG => ?_⟩
  · exact T.u_answers.bindsA (fun _ _ _ _ _ _ us hl => match us, hl with | [_], _ => rfl) s us hl
  · obtain ⟨l, u⟩ := a
    have hask : PyWrtbst.answers_asked l = true := hask
    have hd : DwAll K H xs [.list (l.map .int)] := hd
    show sp_answers K xs H (fun v H' => Dw K H' v (.list ((PyWrtbst.answers l).map .int))) fun _ _ _ => False
    cases hd with
    | cons h1 h2 =>
      cases h2
      cases h1 with
      | lst hS hds =>
        have := ints_dw _ _ hds
        subst this
        unfold PyWrtbst.answers_asked at hask
        cases hc : PyWrtbst.calls l with
        | none => rw [hc] at hask; cases hask
        | some css =>
          rw [hc] at hask
          simp only [Bool.and_eq_true, PyFlat.short, decide_eq_true_eq, TbStNeutral.asked] at hask
          obtain ⟨⟨_, ha, _⟩, hsh⟩ := hask
          obtain ⟨cs, e1, e2, e3⟩ := asked_calls ha
          have hans : PyWrtbst.answers l = (playC TbStSpec.start cs).2 := by
            unfold PyWrtbst.answers
            rw [hc]
            exact e3 _
          have hl : l.map V.int = (cs.flatMap encC).map nV := by
            rw [calls_enc _ (show PyWide.calls l.length l = some css from hc), e1, List.map_map]
            rfl
          rw [hl] at hS
          refine ⟨_, cs, rfl, hS, e2, fun cs1 cs2 es out hcs hR => ?_, fun es out p H' hR hp => ?_⟩
          · obtain ⟨g, e⟩ := ran_law hR
            refine ⟨g, ?_⟩
            have := playC_pre cs1 cs2 TbStSpec.start
            rw [← hcs, ← hans, e] at this
            exact Nat.le_trans this hsh
          · obtain ⟨_, e⟩ := ran_law hR
            rw [hans, e]
            exact .lst (.inl (.inl hp)) (dw_ints _)
  · exact (ok_answers T).f
end St

end

theorem PySem.Challenge.cw_storetouch_s01_answers_holds : PySem.Challenge.rw_storetouch_s01_answers.Holds := by
  exact St.fin
