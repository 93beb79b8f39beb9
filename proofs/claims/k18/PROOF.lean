import PyProof.Rows.All
import Wide.All
import OpenK.AllK
import Wide.FinOn
import HandS.ForMost
import HandS.HeadNt
import HandS.Head0
import HandS.Head1
import HandS.Head2
import HandS.HeadEnd
import HandS.Property
import HandS.Walk
import HandS.IsInst
import HandS.TupAny
import HandS.TupMul
import HandS.Zip
import HandS.Star
import HandS.ClsMeth
import KE.GoesNew
import KE.GoesMore
import KE.GoesEnum
import HandS.SetFor
import HandS.Strs
import HandS.SortInts
import KE.SortKeyHeap
import KE.SortUse
import HandS.SortKw
import HandS.GenList
import PyProof.GenComp
import HandS.Text
import KE.KxText
import HandS.Conv
import PySem.Challenge.RW_choicenets_k18_whole_drains_and_traps
set_option linter.all false
/-! M1: sets of boxes, deeds, drains, traps: plain. -/
namespace CM
abbrev Deed := List Int × List Int
def touch (xs ys : List Int) : Bool := xs.any fun x => decide (x ∈ ys)
def inside (xs ys : List Int) : Bool := xs.all fun x => decide (x ∈ ys)
theorem touch_iff {xs ys : List Int} : touch xs ys = true ↔ ∃ x, x ∈ xs ∧ x ∈ ys := by
  unfold touch
  rw [List.any_eq_true]
  constructor
  · rintro ⟨x, h, k⟩
    exact ⟨x, h, of_decide_eq_true k⟩
  · rintro ⟨x, h, k⟩
    exact ⟨x, h, decide_eq_true k⟩
theorem touch_no {xs ys : List Int} : touch xs ys = false ↔ ∀ x, x ∈ xs → x ∉ ys := by
  constructor
  · intro h x hx hy
    rw [touch_iff.mpr ⟨x, hx, hy⟩] at h
    cases h
  · intro h
    cases e : touch xs ys with
    | false => rfl
    | true =>
      obtain ⟨x, h1, h2⟩ := touch_iff.mp e
      exact absurd h2 (h x h1)
theorem inside_iff {xs ys : List Int} : inside xs ys = true ↔ ∀ x, x ∈ xs → x ∈ ys := by
  unfold inside
  rw [List.all_eq_true]
  exact ⟨fun h x hx => of_decide_eq_true (h x hx), fun h x hx => decide_eq_true (h x hx)⟩
theorem touch_comm {xs ys : List Int} : touch xs ys = touch ys xs := by
  cases e : touch ys xs with
  | true =>
    obtain ⟨x, h1, h2⟩ := touch_iff.mp e
    exact touch_iff.mpr ⟨x, h2, h1⟩
  | false => exact touch_no.mpr fun x h1 h2 => touch_no.mp e x h2 h1

/-- an ascending tuple of different ints from 0 on below n -/
def IsSet (n : Nat) (xs : List Int) : Prop := (∀ x, x ∈ xs → 0 ≤ x ∧ x < (n : Int)) ∧ xs.Pairwise (· < ·)
def setB (xs : List Int) (n : Int) : Bool := (xs.all fun x => decide (0 ≤ x) && decide (x ≤ n - 1)) && ((xs.zip xs.tail).all fun p => decide (p.1 < p.2))
theorem zip_tail_pw : ∀ {xs : List Int}, ((xs.zip xs.tail).all fun p => decide (p.1 < p.2)) = true ↔ xs.Pairwise (· < ·)
  | [] => by simp
  | [x] => by simp
  | x :: y :: r => by
    have ih := zip_tail_pw (xs := y :: r)
    show ((decide (x < y)) && (((y :: r).zip (y :: r).tail).all fun p => decide (p.1 < p.2))) = true ↔ _
    rw [Bool.and_eq_true, decide_eq_true_eq, ih]
    constructor
    · rintro ⟨h1, h2⟩
      refine List.pairwise_cons.mpr ⟨fun a ha => ?_, h2⟩
      rcases List.mem_cons.mp ha with rfl | ha
      · exact h1
      · exact Int.lt_trans h1 ((List.pairwise_cons.mp h2).1 a ha)
    · intro h
      obtain ⟨h1, h2⟩ := List.pairwise_cons.mp h
      exact ⟨h1 y List.mem_cons_self, h2⟩
theorem setB_iff {xs : List Int} {n : Nat} : setB xs n = true ↔ IsSet n xs := by
  unfold setB IsSet
  rw [Bool.and_eq_true, zip_tail_pw, List.all_eq_true]
  constructor
  · rintro ⟨h1, h2⟩
    refine ⟨fun x hx => ?_, h2⟩
    have := h1 x hx
    rw [Bool.and_eq_true, decide_eq_true_eq, decide_eq_true_eq] at this
    omega
  · rintro ⟨h1, h2⟩
    refine ⟨fun x hx => ?_, h2⟩
    have := h1 x hx
    rw [Bool.and_eq_true, decide_eq_true_eq, decide_eq_true_eq]
    omega

/-! ### all sets below n -/
def subs : Nat → List (List Int)
  | 0 => [[]]
  | k + 1 => subs k ++ (subs k).map fun s => s ++ [(k : Int)]
theorem subs_len : ∀ n, (subs n).length = 2 ^ n
  | 0 => rfl
  | k + 1 => by
    show (subs k ++ (subs k).map _).length = _
    rw [List.length_append, List.length_map, subs_len k, Nat.pow_succ]
    omega
theorem subs_isSet : ∀ {n : Nat} {s : List Int}, s ∈ subs n → IsSet n s
  | 0, s, h => by
    have e : s = [] := by simpa [subs] using h
    subst e
    exact ⟨(fun x hx => nomatch hx), List.Pairwise.nil⟩
  | k + 1, s, h => by
    rcases List.mem_append.mp h with h | h
    · obtain ⟨h1, h2⟩ := subs_isSet h
      exact ⟨fun x hx => by have := h1 x hx; omega, h2⟩
    · obtain ⟨t, ht, rfl⟩ := List.mem_map.mp h
      obtain ⟨h1, h2⟩ := subs_isSet ht
      refine ⟨fun x hx => ?_, List.pairwise_append.mpr ⟨h2, List.pairwise_singleton _ _, fun a ha b hb => ?_⟩⟩
      · rcases List.mem_append.mp hx with hx | hx
        · have := h1 x hx; omega
        · have : x = (k : Int) := by simpa using hx
          omega
      · have e : b = (k : Int) := by simpa using hb
        have := h1 a ha
        omega
theorem dropLast_append {s : List Int} (h : s ≠ []) : s.dropLast ++ [s.getLast h] = s := List.dropLast_concat_getLast h
theorem isSet_subs : ∀ {n : Nat} {s : List Int}, IsSet n s → s ∈ subs n
  | 0, s, ⟨h1, _⟩ => by
    cases s with
    | nil => exact List.mem_cons_self
    | cons x r =>
      have := h1 x List.mem_cons_self
      omega
  | k + 1, s, ⟨h1, h2⟩ => by
    by_cases hs : s = []
    · subst hs
      exact List.mem_append_left _ (isSet_subs ⟨(fun x hx => nomatch hx), List.Pairwise.nil⟩)
    · have e := dropLast_append hs
      have hp : (s.dropLast ++ [s.getLast hs]).Pairwise (· < ·) := by rw [e]; exact h2
      obtain ⟨p1, _, p3⟩ := List.pairwise_append.mp hp
      have hl := h1 _ (List.getLast_mem hs)
      by_cases hk : s.getLast hs = (k : Int)
      · refine List.mem_append_right _ (List.mem_map.mpr ⟨s.dropLast, isSet_subs ⟨fun x hx => ?_, p1⟩, ?_⟩)
        · have a := h1 x ((List.dropLast_sublist s).subset hx)
          have b := p3 x hx _ (List.mem_singleton.mpr rfl)
          omega
        · rw [← hk]
          exact e
      · refine List.mem_append_left _ (isSet_subs ⟨fun x hx => ?_, h2⟩)
        have a := h1 x hx
        have hx' : x ∈ s.dropLast ++ [s.getLast hs] := by rw [e]; exact hx
        rcases List.mem_append.mp hx' with q | q
        · have b := p3 x q _ (List.mem_singleton.mpr rfl)
          omega
        · have : x = s.getLast hs := by simpa using q
          omega
theorem mem_subs {n : Nat} {s : List Int} : s ∈ subs n ↔ IsSet n s := ⟨subs_isSet, isSet_subs⟩

/-! ### drains and traps -/
def isDr (ds : List Deed) (S : List Int) : Bool := !decide (S = []) && (ds.filter fun d => touch d.2 S).all fun d => touch d.1 S
def isTr (ds : List Deed) (S : List Int) : Bool := !decide (S = []) && (ds.filter fun d => touch d.1 S).all fun d => touch d.2 S
def swp (d : Deed) : Deed := (d.2, d.1)
theorem isDr_iff {ds : List Deed} {S : List Int} : isDr ds S = true ↔ S ≠ [] ∧ ∀ d, d ∈ ds → touch d.2 S = true → touch d.1 S = true := by
  unfold isDr
  rw [Bool.and_eq_true, List.all_eq_true]
  constructor
  · rintro ⟨h1, h2⟩
    exact ⟨by simpa using h1, fun d hd ht => h2 d (List.mem_filter.mpr ⟨hd, ht⟩)⟩
  · rintro ⟨h1, h2⟩
    exact ⟨by simpa using h1, fun d hd => h2 d (List.mem_filter.mp hd).1 (List.mem_filter.mp hd).2⟩
theorem isTr_iff {ds : List Deed} {S : List Int} : isTr ds S = true ↔ S ≠ [] ∧ ∀ d, d ∈ ds → touch d.1 S = true → touch d.2 S = true := by
  unfold isTr
  rw [Bool.and_eq_true, List.all_eq_true]
  constructor
  · rintro ⟨h1, h2⟩
    exact ⟨by simpa using h1, fun d hd ht => h2 d (List.mem_filter.mpr ⟨hd, ht⟩)⟩
  · rintro ⟨h1, h2⟩
    exact ⟨by simpa using h1, fun d hd => h2 d (List.mem_filter.mp hd).1 (List.mem_filter.mp hd).2⟩
theorem isTr_swp {ds : List Deed} {S : List Int} : isTr (ds.map swp) S = isDr ds S := by
  unfold isTr isDr
  rw [List.filter_map, List.all_map]
  rfl
theorem isDr_swp {ds : List Deed} {S : List Int} : isDr (ds.map swp) S = isTr ds S := by
  unfold isTr isDr
  rw [List.filter_map, List.all_map]
  rfl
theorem swp_swp (ds : List Deed) : (ds.map swp).map swp = ds := by
  rw [List.map_map]
  exact List.map_id'' (fun _ => rfl) ds

/-- put together -/
theorem touch_union {t S T U : List Int} (h : ∀ x, x ∈ U ↔ x ∈ S ∨ x ∈ T) : touch t U = (touch t S || touch t T) := by
  cases e : touch t S || touch t T with
  | true =>
    rcases Bool.or_eq_true_iff.mp e with e | e
    · obtain ⟨x, h1, h2⟩ := touch_iff.mp e
      exact touch_iff.mpr ⟨x, h1, (h x).mpr (.inl h2)⟩
    · obtain ⟨x, h1, h2⟩ := touch_iff.mp e
      exact touch_iff.mpr ⟨x, h1, (h x).mpr (.inr h2)⟩
  | false =>
    obtain ⟨e1, e2⟩ := Bool.or_eq_false_iff.mp e
    exact touch_no.mpr fun x h1 h2 => ((h x).mp h2).elim (touch_no.mp e1 x h1) (touch_no.mp e2 x h1)
theorem union_dr {ds : List Deed} {S T U : List Int} (h : ∀ x, x ∈ U ↔ x ∈ S ∨ x ∈ T) (hS : isDr ds S = true) (hT : isDr ds T = true) : isDr ds U = true := by
  obtain ⟨s1, s2⟩ := isDr_iff.mp hS
  obtain ⟨t1, t2⟩ := isDr_iff.mp hT
  refine isDr_iff.mpr ⟨fun e => ?_, fun d hd ht => ?_⟩
  · cases S with
    | nil => exact s1 rfl
    | cons x r =>
      have := (h x).mpr (.inl List.mem_cons_self)
      rw [e] at this
      cases this
  · rw [touch_union h] at ht ⊢
    rcases Bool.or_eq_true_iff.mp ht with q | q
    · rw [s2 d hd q]; rfl
    · rw [t2 d hd q, Bool.or_true]
theorem union_tr {ds : List Deed} {S T U : List Int} (h : ∀ x, x ∈ U ↔ x ∈ S ∨ x ∈ T) (hS : isTr ds S = true) (hT : isTr ds T = true) : isTr ds U = true := by
  rw [← isDr_swp] at *
  exact union_dr h hS hT

/-! ### the smallest of a row -/
def smallest : List (List Int) → List (List Int) → List (List Int)
  | found, [] => found
  | found, b :: r => smallest (if found.any (fun o => inside o b) then found else found ++ [b]) r
theorem smallest_mono : ∀ {r found : List (List Int)} {o : List Int}, o ∈ found → o ∈ smallest found r
  | [], _, _, h => h
  | b :: r, found, o, h => smallest_mono (r := r) (by
    split
    · exact h
    · exact List.mem_append_left _ h)
theorem smallest_has : ∀ {r found : List (List Int)} {b : List Int}, b ∈ r → ∃ o, o ∈ smallest found r ∧ inside o b = true
  | [], _, _, h => by cases h
  | c :: r, found, b, h => by
    rcases List.mem_cons.mp h with rfl | h
    · by_cases e : found.any (fun o => inside o b) = true
      · obtain ⟨o, h1, h2⟩ := List.any_eq_true.mp e
        refine ⟨o, ?_, h2⟩
        show o ∈ smallest (if _ then _ else _) r
        rw [if_pos e]
        exact smallest_mono h1
      · refine ⟨b, ?_, inside_iff.mpr fun x hx => hx⟩
        show b ∈ smallest (if _ then _ else _) r
        rw [if_neg e]
        exact smallest_mono (List.mem_append_right _ (List.mem_singleton.mpr rfl))
    · exact smallest_has (r := r) h

/-! ### the greatest within -/
/-- the greatest trap, or none -/
structure Gt (ds : List Deed) (S L : List Int) : Prop where
  sub : L.Sublist S
  ok : ∀ d, d ∈ ds → touch d.2 L = false → touch d.1 L = false
  all : ∀ T, isTr ds T = true → (∀ x, x ∈ T → x ∈ S) → ∀ x, x ∈ T → x ∈ L
theorem Gt.tr {ds : List Deed} {S L : List Int} (g : Gt ds S L) (h : L ≠ []) : isTr ds L = true := isTr_iff.mpr ⟨h, fun d hd ht => by
  cases e : touch d.2 L with
  | true => rfl
  | false =>
    rw [g.ok d hd e] at ht
    cases ht⟩
theorem sub_pw {S L : List Int} (h : L.Sublist S) (p : S.Pairwise (· < ·)) : L.Pairwise (· < ·) := p.sublist h
theorem asc_ext : ∀ {L M : List Int}, L.Pairwise (· < ·) → M.Pairwise (· < ·) → (∀ x, x ∈ L ↔ x ∈ M) → L = M
  | [], [], _, _, _ => rfl
  | [], y :: M, _, _, h => by have := (h y).mpr List.mem_cons_self; cases this
  | x :: L, [], _, _, h => by have := (h x).mp List.mem_cons_self; cases this
  | x :: L, y :: M, p, q, h => by
    obtain ⟨p1, p2⟩ := List.pairwise_cons.mp p
    obtain ⟨q1, q2⟩ := List.pairwise_cons.mp q
    have e : x = y := by
      rcases List.mem_cons.mp ((h x).mp List.mem_cons_self) with a | a
      · exact a
      · rcases List.mem_cons.mp ((h y).mpr List.mem_cons_self) with b | b
        · exact b.symm
        · have h1 := p1 y b
          have h2 := q1 x a
          omega
    subst e
    rw [asc_ext p2 q2 fun z => ?_]
    constructor
    · intro hz
      rcases List.mem_cons.mp ((h z).mp (List.mem_cons_of_mem _ hz)) with a | a
      · have := p1 z hz
        omega
      · exact a
    · intro hz
      rcases List.mem_cons.mp ((h z).mpr (List.mem_cons_of_mem _ hz)) with a | a
      · have := q1 z hz
        omega
      · exact a
theorem Gt.uniq {ds : List Deed} {S L M : List Int} (hS : S.Pairwise (· < ·)) (g : Gt ds S L) (k : Gt ds S M) : L = M := by
  have key : ∀ {L M : List Int}, Gt ds S L → Gt ds S M → ∀ x, x ∈ L → x ∈ M := fun {L M} g k x hx => by
    have hne : L ≠ [] := fun e => by rw [e] at hx; cases hx
    exact k.all L (g.tr hne) (fun y hy => g.sub.subset hy) x hx
  exact asc_ext (hS.sublist g.sub) (hS.sublist k.sub) fun x => ⟨key g k x, key k g x⟩
/-- one step of it: a deed that puts outside is kept out -/
theorem gt_step {ds : List Deed} {S L : List Int} {d : Deed} (hd : d ∈ ds) (hsub : L.Sublist S) (hall : ∀ T, isTr ds T = true → (∀ x, x ∈ T → x ∈ S) → ∀ x, x ∈ T → x ∈ L) (ht : touch d.2 L = false) :
    (L.filter fun b => !decide (b ∈ d.1)).Sublist S ∧ ∀ T, isTr ds T = true → (∀ x, x ∈ T → x ∈ S) → ∀ x, x ∈ T → x ∈ L.filter fun b => !decide (b ∈ d.1) := by
  refine ⟨(List.filter_sublist).trans hsub, fun T hT hTS x hx => ?_⟩
  have hL := hall T hT hTS
  refine List.mem_filter.mpr ⟨hL x hx, ?_⟩
  have : x ∉ d.1 := fun hx1 => by
    have h1 : touch d.1 T = true := touch_iff.mpr ⟨x, hx1, hx⟩
    obtain ⟨y, y1, y2⟩ := touch_iff.mp ((isTr_iff.mp hT).2 d hd h1)
    exact touch_no.mp ht y y1 (hL y y2)
  simpa using this

/-! ### along a row of deeds -/
def canDo (d : Deed) (st : List Int) : Bool := d.1.all fun b => decide (0 < st.getD b.toNat 0)
def empty (st : List Int) (S : List Int) : Bool := S.all fun b => !decide (0 < st.getD b.toNat 0)
end CM
set_option Elab.async false
set_option linter.all false
set_option maxRecDepth 100000
set_option maxHeartbeats 0
/-! HF: the head with facts. -/
namespace CN
open PySem PySem.Spec PyProof.Rows L2
def topS (i : Nat) : Stmt := PySem.Challenge.pw_choicenets_k18_whole_drains_and_traps.main.body.getD i (.Pass ⟨0, 0, 0, 0⟩)
def prg (K : PySem.W.Frag) (C : Addr) (m : Str) : Addr := match PySem.W.recIn K (He.ma K C m) "property" with
  | some (.ref g :: _) => g
  | _ => 0
def loose0 : List PySem.Str := ["ChoiceError", "NoWorths", "NoDeed", "NoNumber", "NoNet", "NoState", "NoBoxes", "NoText", "NotPossible", "Unlike", "NotTogether", "TooMany", "MOST_BOXES", "MOST_DEEDS", "MOST_COIN", "is_integer", "is_between", "is_set", "are_counts", "in_order", "sets_below", "have_common", "is_inside", "HEAD", "ARROW", "numbers_text", "net_lines", "digit_in", "numbers_in", "parts_in"]
def loose1 : List PySem.Str := ["are_worths", "worth_of", "is_deed", "first_unlike", "met_from", "check_deeds", "Net", "possible_in", "need_net", "need_number", "need_state", "is_a_drain", "is_a_trap", "is_drain", "is_trap", "smallest_of", "drains_of", "drains", "traps", "greatest_trap", "greatest_drain", "need_boxes", "trap_in", "drain_in", "moved", "can_do", "after", "_law_within", "_law_is_empty", "_law_touches"]
def loose2 : List PySem.Str := ["_law_is_trap", "_law_is_drain", "_law_same", "_law_unlike", "_law_text", "_law_built", "_law_cell_at", "_law_pen", "_law_draw", "_law_mixed", "_law_worth", "_law_sets", "_law_pick", "_law_loose", "_law_met", "_law_kit", "_law_ring", "_law_net", "_law_state", "_law_possible", "_law_moved", "_law_row", "_law_unions_right", "_law_inside_right", "_law_along_right", "_law_exchanged_right"]
def loose : List PySem.Str := loose0 ++ loose1 ++ loose2
def d_is_integer : He5.DefA := ⟨fun K => He.ga K "is_integer", "is_integer", "is_integer", defArgs (topS 17), defBody (topS 17), defScope (topS 17), [], []⟩
def d_is_between : He5.DefA := ⟨fun K => He.ga K "is_between", "is_between", "is_between", defArgs (topS 18), defBody (topS 18), defScope (topS 18), [], []⟩
def d_is_set : He5.DefA := ⟨fun K => He.ga K "is_set", "is_set", "is_set", defArgs (topS 19), defBody (topS 19), defScope (topS 19), [], []⟩
def d_are_counts : He5.DefA := ⟨fun K => He.ga K "are_counts", "are_counts", "are_counts", defArgs (topS 20), defBody (topS 20), defScope (topS 20), [], []⟩
def d_in_order : He5.DefA := ⟨fun K => He.ga K "in_order", "in_order", "in_order", defArgs (topS 21), defBody (topS 21), defScope (topS 21), [], []⟩
def d_sets_below : He5.DefA := ⟨fun K => He.ga K "sets_below", "sets_below", "sets_below", defArgs (topS 22), defBody (topS 22), defScope (topS 22), [], []⟩
def d_have_common : He5.DefA := ⟨fun K => He.ga K "have_common", "have_common", "have_common", defArgs (topS 23), defBody (topS 23), defScope (topS 23), [], []⟩
def d_is_inside : He5.DefA := ⟨fun K => He.ga K "is_inside", "is_inside", "is_inside", defArgs (topS 24), defBody (topS 24), defScope (topS 24), [], []⟩
def d_numbers_text : He5.DefA := ⟨fun K => He.ga K "numbers_text", "numbers_text", "numbers_text", defArgs (topS 28), defBody (topS 28), defScope (topS 28), [], []⟩
def d_net_lines : He5.DefA := ⟨fun K => He.ga K "net_lines", "net_lines", "net_lines", defArgs (topS 29), defBody (topS 29), defScope (topS 29), [], []⟩
def d_digit_in : He5.DefA := ⟨fun K => He.ga K "digit_in", "digit_in", "digit_in", defArgs (topS 30), defBody (topS 30), defScope (topS 30), [], []⟩
def d_numbers_in : He5.DefA := ⟨fun K => He.ga K "numbers_in", "numbers_in", "numbers_in", defArgs (topS 31), defBody (topS 31), defScope (topS 31), [], []⟩
def d_parts_in : He5.DefA := ⟨fun K => He.ga K "parts_in", "parts_in", "parts_in", defArgs (topS 32), defBody (topS 32), defScope (topS 32), [], []⟩
def d_are_worths : He5.DefA := ⟨fun K => He.ga K "are_worths", "are_worths", "are_worths", defArgs (topS 34), defBody (topS 34), defScope (topS 34), [], []⟩
def d_worth_of : He5.DefA := ⟨fun K => He.ga K "worth_of", "worth_of", "worth_of", defArgs (topS 35), defBody (topS 35), defScope (topS 35), [], []⟩
def d_is_deed : He5.DefA := ⟨fun K => He.ga K "is_deed", "is_deed", "is_deed", defArgs (topS 36), defBody (topS 36), defScope (topS 36), [], []⟩
def d_first_unlike : He5.DefA := ⟨fun K => He.ga K "first_unlike", "first_unlike", "first_unlike", defArgs (topS 37), defBody (topS 37), defScope (topS 37), [], []⟩
def d_met_from : He5.DefA := ⟨fun K => He.ga K "met_from", "met_from", "met_from", defArgs (topS 38), defBody (topS 38), defScope (topS 38), [], []⟩
def d_check_deeds : He5.DefA := ⟨fun K => He.ga K "check_deeds", "check_deeds", "check_deeds", defArgs (topS 39), defBody (topS 39), defScope (topS 39), [], []⟩
def d_possible_in : He5.DefA := ⟨fun K => He.ga K "possible_in", "possible_in", "possible_in", defArgs (topS 41), defBody (topS 41), defScope (topS 41), [], []⟩
def d_need_net : He5.DefA := ⟨fun K => He.ga K "need_net", "need_net", "need_net", defArgs (topS 42), defBody (topS 42), defScope (topS 42), [], []⟩
def d_need_number : He5.DefA := ⟨fun K => He.ga K "need_number", "need_number", "need_number", defArgs (topS 43), defBody (topS 43), defScope (topS 43), [], []⟩
def d_need_state : He5.DefA := ⟨fun K => He.ga K "need_state", "need_state", "need_state", defArgs (topS 44), defBody (topS 44), defScope (topS 44), [], []⟩
def d_is_a_drain : He5.DefA := ⟨fun K => He.ga K "is_a_drain", "is_a_drain", "is_a_drain", defArgs (topS 46), defBody (topS 46), defScope (topS 46), [], []⟩
def d_is_a_trap : He5.DefA := ⟨fun K => He.ga K "is_a_trap", "is_a_trap", "is_a_trap", defArgs (topS 47), defBody (topS 47), defScope (topS 47), [], []⟩
def d_is_drain : He5.DefA := ⟨fun K => He.ga K "is_drain", "is_drain", "is_drain", defArgs (topS 48), defBody (topS 48), defScope (topS 48), [], []⟩
def d_is_trap : He5.DefA := ⟨fun K => He.ga K "is_trap", "is_trap", "is_trap", defArgs (topS 49), defBody (topS 49), defScope (topS 49), [], []⟩
def d_smallest_of : He5.DefA := ⟨fun K => He.ga K "smallest_of", "smallest_of", "smallest_of", defArgs (topS 50), defBody (topS 50), defScope (topS 50), [], []⟩
def d_drains_of : He5.DefA := ⟨fun K => He.ga K "drains_of", "drains_of", "drains_of", defArgs (topS 51), defBody (topS 51), defScope (topS 51), [], []⟩
def d_drains : He5.DefA := ⟨fun K => He.ga K "drains", "drains", "drains", defArgs (topS 52), defBody (topS 52), defScope (topS 52), [], []⟩
def d_traps : He5.DefA := ⟨fun K => He.ga K "traps", "traps", "traps", defArgs (topS 53), defBody (topS 53), defScope (topS 53), [], []⟩
def d_greatest_trap : He5.DefA := ⟨fun K => He.ga K "greatest_trap", "greatest_trap", "greatest_trap", defArgs (topS 54), defBody (topS 54), defScope (topS 54), [], []⟩
def d_greatest_drain : He5.DefA := ⟨fun K => He.ga K "greatest_drain", "greatest_drain", "greatest_drain", defArgs (topS 55), defBody (topS 55), defScope (topS 55), [], []⟩
def d_need_boxes : He5.DefA := ⟨fun K => He.ga K "need_boxes", "need_boxes", "need_boxes", defArgs (topS 56), defBody (topS 56), defScope (topS 56), [], []⟩
def d_trap_in : He5.DefA := ⟨fun K => He.ga K "trap_in", "trap_in", "trap_in", defArgs (topS 57), defBody (topS 57), defScope (topS 57), [], []⟩
def d_drain_in : He5.DefA := ⟨fun K => He.ga K "drain_in", "drain_in", "drain_in", defArgs (topS 58), defBody (topS 58), defScope (topS 58), [], []⟩
def d_moved : He5.DefA := ⟨fun K => He.ga K "moved", "moved", "moved", defArgs (topS 60), defBody (topS 60), defScope (topS 60), [], []⟩
def d_can_do : He5.DefA := ⟨fun K => He.ga K "can_do", "can_do", "can_do", defArgs (topS 61), defBody (topS 61), defScope (topS 61), [], []⟩
def d_after : He5.DefA := ⟨fun K => He.ga K "after", "after", "after", defArgs (topS 62), defBody (topS 62), defScope (topS 62), [], []⟩
def d__law_within : He5.DefA := ⟨fun K => He.ga K "_law_within", "_law_within", "_law_within", defArgs (topS 64), defBody (topS 64), defScope (topS 64), [], []⟩
def d__law_is_empty : He5.DefA := ⟨fun K => He.ga K "_law_is_empty", "_law_is_empty", "_law_is_empty", defArgs (topS 65), defBody (topS 65), defScope (topS 65), [], []⟩
def d__law_touches : He5.DefA := ⟨fun K => He.ga K "_law_touches", "_law_touches", "_law_touches", defArgs (topS 66), defBody (topS 66), defScope (topS 66), [], []⟩
def d__law_is_trap : He5.DefA := ⟨fun K => He.ga K "_law_is_trap", "_law_is_trap", "_law_is_trap", defArgs (topS 67), defBody (topS 67), defScope (topS 67), [], []⟩
def d__law_is_drain : He5.DefA := ⟨fun K => He.ga K "_law_is_drain", "_law_is_drain", "_law_is_drain", defArgs (topS 68), defBody (topS 68), defScope (topS 68), [], []⟩
def d__law_same : He5.DefA := ⟨fun K => He.ga K "_law_same", "_law_same", "_law_same", defArgs (topS 69), defBody (topS 69), defScope (topS 69), [], []⟩
def d__law_unlike : He5.DefA := ⟨fun K => He.ga K "_law_unlike", "_law_unlike", "_law_unlike", defArgs (topS 70), defBody (topS 70), defScope (topS 70), [], []⟩
def d__law_text : He5.DefA := ⟨fun K => He.ga K "_law_text", "_law_text", "_law_text", defArgs (topS 71), defBody (topS 71), defScope (topS 71), [], []⟩
def d__law_built : He5.DefA := ⟨fun K => He.ga K "_law_built", "_law_built", "_law_built", defArgs (topS 72), defBody (topS 72), defScope (topS 72), [], []⟩
def d__law_cell_at : He5.DefA := ⟨fun K => He.ga K "_law_cell_at", "_law_cell_at", "_law_cell_at", defArgs (topS 73), defBody (topS 73), defScope (topS 73), [], []⟩
def d__law_pen : He5.DefA := ⟨fun K => He.ga K "_law_pen", "_law_pen", "_law_pen", defArgs (topS 74), defBody (topS 74), defScope (topS 74), [], []⟩
def d__law_draw : He5.DefA := ⟨fun K => He.ga K "_law_draw", "_law_draw", "_law_draw", defArgs (topS 75), defBody (topS 75), defScope (topS 75), [], []⟩
def d__law_mixed : He5.DefA := ⟨fun K => He.ga K "_law_mixed", "_law_mixed", "_law_mixed", defArgs (topS 76), defBody (topS 76), defScope (topS 76), [], []⟩
def d__law_worth : He5.DefA := ⟨fun K => He.ga K "_law_worth", "_law_worth", "_law_worth", defArgs (topS 77), defBody (topS 77), defScope (topS 77), [], []⟩
def d__law_sets : He5.DefA := ⟨fun K => He.ga K "_law_sets", "_law_sets", "_law_sets", defArgs (topS 78), defBody (topS 78), defScope (topS 78), [], []⟩
def d__law_pick : He5.DefA := ⟨fun K => He.ga K "_law_pick", "_law_pick", "_law_pick", defArgs (topS 79), defBody (topS 79), defScope (topS 79), [], []⟩
def d__law_loose : He5.DefA := ⟨fun K => He.ga K "_law_loose", "_law_loose", "_law_loose", defArgs (topS 80), defBody (topS 80), defScope (topS 80), [], []⟩
def d__law_met : He5.DefA := ⟨fun K => He.ga K "_law_met", "_law_met", "_law_met", defArgs (topS 81), defBody (topS 81), defScope (topS 81), [], []⟩
def d__law_kit : He5.DefA := ⟨fun K => He.ga K "_law_kit", "_law_kit", "_law_kit", defArgs (topS 82), defBody (topS 82), defScope (topS 82), [], []⟩
def d__law_ring : He5.DefA := ⟨fun K => He.ga K "_law_ring", "_law_ring", "_law_ring", defArgs (topS 83), defBody (topS 83), defScope (topS 83), [], []⟩
def d__law_net : He5.DefA := ⟨fun K => He.ga K "_law_net", "_law_net", "_law_net", defArgs (topS 84), defBody (topS 84), defScope (topS 84), [], []⟩
def d__law_state : He5.DefA := ⟨fun K => He.ga K "_law_state", "_law_state", "_law_state", defArgs (topS 85), defBody (topS 85), defScope (topS 85), [], []⟩
def d__law_possible : He5.DefA := ⟨fun K => He.ga K "_law_possible", "_law_possible", "_law_possible", defArgs (topS 86), defBody (topS 86), defScope (topS 86), [], []⟩
def d__law_moved : He5.DefA := ⟨fun K => He.ga K "_law_moved", "_law_moved", "_law_moved", defArgs (topS 87), defBody (topS 87), defScope (topS 87), [], []⟩
def d__law_row : He5.DefA := ⟨fun K => He.ga K "_law_row", "_law_row", "_law_row", defArgs (topS 88), defBody (topS 88), defScope (topS 88), [], []⟩
def d__law_unions_right : He5.DefA := ⟨fun K => He.ga K "_law_unions_right", "_law_unions_right", "_law_unions_right", defArgs (topS 89), defBody (topS 89), defScope (topS 89), [], []⟩
def d__law_inside_right : He5.DefA := ⟨fun K => He.ga K "_law_inside_right", "_law_inside_right", "_law_inside_right", defArgs (topS 90), defBody (topS 90), defScope (topS 90), [], []⟩
def d__law_along_right : He5.DefA := ⟨fun K => He.ga K "_law_along_right", "_law_along_right", "_law_along_right", defArgs (topS 91), defBody (topS 91), defScope (topS 91), [], []⟩
def d__law_exchanged_right : He5.DefA := ⟨fun K => He.ga K "_law_exchanged_right", "_law_exchanged_right", "_law_exchanged_right", defArgs (topS 92), defBody (topS 92), defScope (topS 92), [], []⟩
def d_law : He5.DefA := ⟨fun K => He.ga K "law", "law", "law", defArgs (topS 93), defBody (topS 93), defScope (topS 93), [], []⟩
def d_Net_ddinitdd : He5.DefA := ⟨fun K => He.ma K (He.ga K "Net") "__init__", "__init__", "Net.__init__", defArgs (inClass (topS 40) 1), defBody (inClass (topS 40) 1), defScope (inClass (topS 40) 1), [], []⟩
def d_Net_ddlendd : He5.DefA := ⟨fun K => He.ma K (He.ga K "Net") "__len__", "__len__", "Net.__len__", defArgs (inClass (topS 40) 8), defBody (inClass (topS 40) 8), defScope (inClass (topS 40) 8), [], []⟩
def d_Net_ddgetitemdd : He5.DefA := ⟨fun K => He.ma K (He.ga K "Net") "__getitem__", "__getitem__", "Net.__getitem__", defArgs (inClass (topS 40) 10), defBody (inClass (topS 40) 10), defScope (inClass (topS 40) 10), [], []⟩
def d_Net_read : He5.DefA := ⟨fun K => He5.wf K (He.ga K "Net") "classmethod" "read", "read", "Net.read", defArgs (inClass (topS 40) 2), defBody (inClass (topS 40) 2), defScope (inClass (topS 40) 2), [], []⟩
def d_Net_deeds : He5.DefA := ⟨fun K => prg K (He.ga K "Net") "deeds", "deeds", "Net.deeds", defArgs (inClass (topS 40) 5), defBody (inClass (topS 40) 5), defScope (inClass (topS 40) 5), [], []⟩
def d_Net_boxes : He5.DefA := ⟨fun K => prg K (He.ga K "Net") "boxes", "boxes", "Net.boxes", defArgs (inClass (topS 40) 6), defBody (inClass (topS 40) 6), defScope (inClass (topS 40) 6), [], []⟩
def fn0 : List He5.DefA := [d_is_integer, d_is_between, d_is_set, d_are_counts, d_in_order, d_sets_below, d_have_common, d_is_inside, d_numbers_text, d_net_lines, d_digit_in, d_numbers_in, d_parts_in, d_are_worths, d_worth_of, d_is_deed, d_first_unlike, d_met_from, d_check_deeds, d_possible_in, d_need_net, d_need_number, d_need_state, d_is_a_drain, d_is_a_trap, d_is_drain, d_is_trap, d_smallest_of, d_drains_of, d_drains, d_traps, d_greatest_trap]
def fn1 : List He5.DefA := [d_greatest_drain, d_need_boxes, d_trap_in, d_drain_in, d_moved, d_can_do, d_after, d__law_within, d__law_is_empty, d__law_touches, d__law_is_trap, d__law_is_drain, d__law_same, d__law_unlike, d__law_text, d__law_built, d__law_cell_at, d__law_pen, d__law_draw, d__law_mixed, d__law_worth, d__law_sets, d__law_pick, d__law_loose, d__law_met, d__law_kit, d__law_ring, d__law_net, d__law_state, d__law_possible, d__law_moved, d__law_row, d__law_unions_right, d__law_inside_right, d__law_along_right, d__law_exchanged_right, d_law, d_Net_ddinitdd, d_Net_ddlendd, d_Net_ddgetitemdd, d_Net_read, d_Net_deeds, d_Net_boxes]

def propB (K : PySem.W.Frag) (C : Addr) (m : Str) : Bool := He.eqO (PySem.W.findIn K (.ref C) m) (some (some (.ref (He.ma K C m)))) && (He.eqO (PySem.W.specialIn K (.ref (He.ma K C m)) "__get__") (some (some (.builtin "property.__get__"))) && (decide (PySem.W.takesIn K (.ref (He.ma K C m)) = some true) &&
  (match PySem.W.recIn K (He.ma K C m) "property" with
  | some (.ref _ :: _) => true
  | _ => false)))
/-- what else the walk asks of the class Net -/
def exB (K : PySem.W.Frag) : Bool := propB K (He.ga K "Net") "deeds" && (propB K (He.ga K "Net") "boxes" && (He5.wrapB K (He.ga K "Net") "classmethod" "classmethod.__get__" "read" && (PySem.W.fnIn K (He5.wf K (He.ga K "Net") "classmethod" "read") &&
  (PySem.W.readsIn K (He.ga K "Net") (.type "type") && (He.eqO (PySem.W.specialIn K (.ref (He.ga K "Net")) "__getattribute__") (some (some (.builtin "type.__getattribute__"))) && (PySem.W.noSeq K (He.ga K "Net") &&
  (PySem.W.fnIn K (He.ma K (He.ga K "Net") "__getitem__") && (He.eqO (PySem.W.findIn K (.ref (He.ga K "Net")) "__class__") (some (some (.builtin "object.__class__"))) && (He.eqO (PySem.W.specialIn K (.builtin "object.__class__") "__get__") (some (some (.builtin "getset_descriptor.__get__"))) &&
  (decide (PySem.W.takesIn K (.builtin "object.__class__") = some true) && (decide (PySem.W.mroIn K (He.ga K "Net") (.type "object") = some true) && PySem.W.keepIn K (.ref (He.ga K "Net")))))))))))))
def fn : List He5.DefA := fn0 ++ fn1
def frees : List Str := ["all", "any", "isinstance", "len", "int", "bool", "str", "tuple", "list", "sum", "sorted", "set", "range", "zip", "enumerate", "min", "max", "repr"]
def fa0 : List He.Fa := [.cls "Net", .noat "Net" "coins", .noat "Net" "row", .meth "Net" "__len__", .meth "Net" "__getitem__", .mkr "Net", .glo "Net", .int "MOST_BOXES" 5, .int "MOST_DEEDS" 6, .int "MOST_COIN" 3, .str "HEAD" "worths ", .str "ARROW" " > "]
def fa : List He.Fa := fa0 ++ frees.map He.Fa.free ++ ((loose.drop 12).filter fun x => !(["Net", "MOST_BOXES", "MOST_DEEDS", "MOST_COIN", "HEAD", "ARROW"] : List Str).contains x).map He.Fa.glo ++ [.glo "law"]
/-! the hook -/
def obsC (K : PySem.W.Frag) : He.AlD := ((fa.all fun f => f.ok K) && ((fn.all fun d => d.ok K) && exB K), fn.map fun d => He5.fnA K (d.at_ K))
def valC : He.AlD := (true, fn.map He5.DefA.val)
def SaysC (K : PySem.W.Frag) : Prop := obsC K = valC
def refsF (g : Addr → Option Obj) (a : Addr) : List Addr := match g a with
  | some o => (match o.data with
    | .func fd => He.refV fd.code
    | .fields vs => vs.toList.flatMap He.refV
    | _ => [])
  | none => []
def refsC (g : Addr → Option Obj) (a : Addr) : List Addr := match g a with
  | some o => (match o.data with
    | .func fd => He.refV fd.code
    | _ => [])
  | none => []
def refsN (g : Addr → Option Obj) (a : Addr) : List Addr := match g a with
  | some o => He.refsO o
  | none => []
def nsOf (g : Addr → Option Obj) (a : Addr) : Addr := match g a with
  | some o => (match o.data with
    | .cls cd => cd.ns
    | _ => 0)
  | none => 0
def as1 (g : Addr → Option Obj) : List Addr := refsN g mainGlobals
def asNet (g : Addr → Option Obj) : Addr := He.ga (He.frG g [mainGlobals]) "Net"
def as3 (g : Addr → Option Obj) : List Addr := refsN g (nsOf g (asNet g))
def as4 (g : Addr → Option Obj) : List Addr := (as3 g).flatMap (refsF g)
def asC (g : Addr → Option Obj) : List Addr := [mainGlobals, cStatics, asNet g, nsOf g (asNet g)] ++ (as1 g ++ ((as1 g).flatMap (refsC g) ++ (as3 g ++ (as4 g ++ (as4 g).flatMap (refsC g)))))
def obsCG (n : Nat) (g : Addr → Option Obj) : He.AlD := obsC (He.frG g (asC g))
def hookC (n : Nat) : PySem.W.Hook where
  α := He.AlD
  obs := fun s => obsCG n s.heap.get?
  val := fun _ => valC
  says := fun _ h => ∃ K : PySem.W.Frag, K.In h ∧ SaysC K
  of := fun _ _ e => ⟨_, He.frG_in, e⟩
  keeps := fun _ _ _ ⟨K, hK, c⟩ k => ⟨K, PySem.W.Frag.In.keeps hK k, c⟩
theorem obsCG_eq {n : Nat} {g : Addr → Option Obj} {s : Shared} (h : ∀ a, g a = s.heap.get? a) : obsCG n g = (hookC n).obs s := by
  have e : g = s.heap.get? := funext h
  rw [e] <;> rfl
abbrev R : PySem.W.OpenRow := PySem.W.OpenLaw.row PySem.Challenge.rw_choicenets_k18_whole_drains_and_traps
abbrev hk : PySem.W.Hook := hookC 5
def ob (s : PySem.W.SharedT) : He.AlD := obsCG 5 (HandSHeadRun.getT s)
theorem ob_eq (s : PySem.W.SharedT) : ob s = hk.obs s.abs := obsCG_eq (HandSHeadRun.getT_eq s)
theorem run (w : World) : HandSHeadRun.RunEq R (PySem.W.view R.prog [93]) hk ob 7000 loose w := by
  intro os
  kernel_rfl
end CN
set_option Elab.async false
set_option linter.all false
set_option maxRecDepth 100000
set_option maxHeartbeats 4000000
/-! KA: evaluation over a base heap B below the actual heap H. -/
namespace CN
open PySem PySem.Spec PyProof.Rows L2

/-! ### heaps -/
/-- B below H grows to B' below H'; what B' has new is new to H -/
structure Gr (B H B' H' : Hp) : Prop where
  bb : Same B B'
  hh : Same H H'
  bh : Same B' H'
  sp : ∀ a o, B' a = some o → ∀ o', H a = some o' → ∃ o2, B a = some o2
theorem Gr.refl {B H : Hp} (e : Same B H) : Gr B H B H := ⟨Same.refl B, Same.refl H, e, fun _ o h _ _ => ⟨o, h⟩⟩
theorem Gr.trans {B H B1 H1 B2 H2 : Hp} (g : Gr B H B1 H1) (k : Gr B1 H1 B2 H2) : Gr B H B2 H2 :=
  ⟨g.bb.trans k.bb, g.hh.trans k.hh, k.bh, fun a o h o' h' => by
    obtain ⟨o2, e2⟩ := k.sp a o h o' (g.hh a o' h')
    exact g.sp a o2 e2 o' h'⟩
theorem same_new {H : Hp} {p : Addr} {o : HO} (h : H p = none) : Same H (upd H p o) := fun b x e => by
  rw [upd_ne (ne_of_none e h)]
  exact e
theorem same_up {B H : Hp} {p : Addr} {o : HO} (e : Same B H) : Same (upd B p o) (upd H p o) := fun b x h => by
  unfold upd at h ⊢
  split at h
  · rename_i q
    rw [if_pos q]
    exact h
  · rename_i q
    rw [if_neg q]
    exact e b x h
/-- an object unknown to B changes -/
theorem same_mut {B H : Hp} {p : Addr} {o : HO} (e : Same B H) (h : B p = none) : Same B (upd H p o) := fun a u ha => by
  rw [upd_ne (ne_of_none ha h)]
  exact e a u ha
/-- a new object, known to both -/
theorem Gr.new {B H : Hp} {p : Addr} {o : HO} (e : Same B H) (h : H p = none) : Gr B H (upd B p o) (upd H p o) :=
  ⟨same_new (e.free h), same_new h, same_up e, fun a x hx o' h' => by
    have ne : a ≠ p := ne_of_none h' h
    rw [upd_ne ne] at hx
    exact ⟨x, hx⟩⟩
theorem Gr.unk {B H B' H' : Hp} (g : Gr B H B' H') {p : Addr} {o : HO} (hp : H p = some o) (hb : B p = none) : B' p = none := by
  cases q : B' p with
  | none => rfl
  | some u =>
    obtain ⟨o2, e2⟩ := g.sp p u q o hp
    rw [hb] at e2
    cases e2
/-- an object of ours, unknown to the base, changes -/
theorem Gr.mut {B H B' H' : Hp} (g : Gr B H B' H') {p : Addr} {o : HO} (hp : H p = none) (hb : B' p = none) : Gr B H B' (upd H' p o) :=
  ⟨g.bb, same_mut g.hh hp, same_mut g.bh hb, g.sp⟩
/-- an object made meanwhile (unknown to the base so far) is made known -/
theorem Gr.freeze {B H B' H' : Hp} (g : Gr B H B' H') {p : Addr} {o : HO} (hp : H p = none) (ho : H' p = some o) (hb : B' p = none) : Gr B H (upd B' p o) H' :=
  ⟨g.bb.trans (same_new hb), g.hh, fun b x h => by
    unfold upd at h
    split at h
    · rename_i q
      rw [q, ← h]
      exact ho
    · exact g.bh b x h, fun a x hx o' h' => by
    have ne : a ≠ p := ne_of_none h' hp
    rw [upd_ne ne] at hx
    exact g.sp a x hx o' h'⟩

/-! ### data -/
section
variable {K : PySem.W.Frag} {B H : Hp}
theorem sql_mono {a : Addr} {xs : List V} (e : Same B H) (h : SqL K B a xs) : SqL K H a xs := e.seq h
theorem sqt_mono {a : Addr} {xs : List V} (e : Same B H) (h : SqT K B a xs) : SqT K H a xs := by
  rcases h with (h | ⟨o, h⟩) | h
  · exact .inl (.inl (e _ _ h))
  · exact .inl (.inr ⟨o, e _ _ h⟩)
  · exact .inr h
mutual
theorem dp_mono (e : Same B H) : ∀ (d : PyData) (v : V), Dp K B v d → Dp K H v d
  | .none, _, h => by cases h; exact .non
  | .bool b, _, h => by cases h; exact .bl b
  | .int i, _, h => by cases h; exact .int i
  | .str x, _, h => by cases h; exact .str x
  | .list ds, _, h => by
    cases h with
    | lst hs ha => exact .lst (sql_mono e hs) (dpa_mono e ds _ ha)
  | .tuple ds, _, h => by
    cases h with
    | tup hs ha => exact .tup (sqt_mono e hs) (dpa_mono e ds _ ha)
  | .dict _, _, h => by cases h
theorem dpa_mono (e : Same B H) : ∀ (ds : List PyData) (vs : List V), DpAll K B vs ds → DpAll K H vs ds
  | [], _, h => by cases h; exact .nil
  | d :: ds, _, h => by
    cases h with
    | cons h1 h2 => exact .cons (dp_mono e d _ h1) (dpa_mono e ds _ h2)
end
theorem dpa_length : ∀ {vs : List V} {ds : List PyData}, DpAll K B vs ds → vs.length = ds.length
  | _, _, .nil => rfl
  | _, _, .cons _ t => by rw [List.length_cons, List.length_cons, dpa_length t]
theorem dpa_get : ∀ {vs : List V} {ds : List PyData} {i : Nat} {v : V}, DpAll K B vs ds → vs[i]? = some v → ∃ d, ds[i]? = some d ∧ Dp K B v d
  | _, _, i, _, .nil, h => by simp at h
  | _, _, 0, _, .cons r _, h => by simp at h; subst h; exact ⟨_, rfl, r⟩
  | _, _, i + 1, v, .cons _ t, h => by
    obtain ⟨d, h1, h2⟩ := dpa_get (i := i) (v := v) t (by simpa using h)
    exact ⟨d, by simpa using h1, h2⟩
theorem dpa_get' : ∀ {vs : List V} {ds : List PyData} {i : Nat} {d : PyData}, DpAll K B vs ds → ds[i]? = some d → ∃ v, vs[i]? = some v ∧ Dp K B v d
  | _, _, i, _, .nil, h => by simp at h
  | _, _, 0, _, .cons r _, h => by simp at h; subst h; exact ⟨_, rfl, r⟩
  | _, _, i + 1, v, .cons _ t, h => by
    obtain ⟨d, h1, h2⟩ := dpa_get' (i := i) t (by simpa using h)
    exact ⟨d, by simpa using h1, h2⟩
theorem dpa_append : ∀ {vs ws : List V} {ds es : List PyData}, DpAll K B vs ds → DpAll K B ws es → DpAll K B (vs ++ ws) (ds ++ es)
  | _, _, _, _, .nil, s => s
  | _, _, _, _, .cons r t, s => .cons r (dpa_append t s)
theorem dpa_ints : ∀ (ns : List Int), DpAll K B (ns.map V.int) (ns.map PyData.int)
  | [] => .nil
  | n :: ns => .cons (.int n) (dpa_ints ns)
theorem dpa_ints_inv : ∀ {vs : List V} (ns : List Int), DpAll K B vs (ns.map PyData.int) → vs = ns.map V.int
  | _, [], h => by cases h; rfl
  | _, n :: ns, h => by
    cases h with
    | cons h1 h2 =>
      cases h1
      rw [dpa_ints_inv ns h2]
      rfl
theorem dpa_strs : ∀ (ns : List Str), DpAll K B (ns.map V.str) (ns.map PyData.str)
  | [] => .nil
  | n :: ns => .cons (.str n) (dpa_strs ns)
theorem dpa_strs_inv : ∀ {vs : List V} (ns : List Str), DpAll K B vs (ns.map PyData.str) → vs = ns.map V.str
  | _, [], h => by cases h; rfl
  | _, n :: ns, h => by
    cases h with
    | cons h1 h2 =>
      cases h1
      rw [dpa_strs_inv ns h2]
      rfl
theorem dpa_bools_inv : ∀ {vs : List V} (ns : List Bool), DpAll K B vs (ns.map PyData.bool) → vs = ns.map V.bl
  | _, [], h => by cases h; rfl
  | _, n :: ns, h => by
    cases h with
    | cons h1 h2 =>
      cases h1
      rw [dpa_bools_inv ns h2]
      rfl
end
/-- a tuple, a list of ints -/
abbrev TuI (xs : List Int) : PyData := .tuple (xs.map .int)
abbrev LiI (xs : List Int) : PyData := .list (xs.map .int)
abbrev TuS (xs : List Str) : PyData := .tuple (xs.map .str)
abbrev LiS (xs : List Str) : PyData := .list (xs.map .str)
/-- a deed -/
abbrev Deed := List Int × List Int
abbrev DD (d : Deed) : PyData := .tuple [TuI d.1, TuI d.2]
section
variable {K : PySem.W.Frag} {B H : Hp} {v : V}
theorem dp_int_inv {i : Int} (h : Dp K B v (.int i)) : v = .int i := by cases h; rfl
theorem dp_bl_inv {i : Bool} (h : Dp K B v (.bool i)) : v = .bl i := by cases h; rfl
theorem dp_str_inv {i : Str} (h : Dp K B v (.str i)) : v = .str i := by cases h; rfl
theorem dp_tup_inv {ds : List PyData} (h : Dp K B v (.tuple ds)) : ∃ a xs, v = .ref a ∧ SqT K B a xs ∧ DpAll K B xs ds := by
  cases h with
  | tup a b => exact ⟨_, _, rfl, a, b⟩
theorem dp_lst_inv {ds : List PyData} (h : Dp K B v (.list ds)) : ∃ a xs, v = .ref a ∧ SqL K B a xs ∧ DpAll K B xs ds := by
  cases h with
  | lst a b => exact ⟨_, _, rfl, a, b⟩
theorem dp_ti_inv {xs : List Int} (h : Dp K B v (TuI xs)) : ∃ a, v = .ref a ∧ SqT K B a (xs.map V.int) := by
  obtain ⟨a, ys, e, hs, ha⟩ := dp_tup_inv h
  rw [dpa_ints_inv xs ha] at hs
  exact ⟨a, e, hs⟩
theorem dp_li_inv {xs : List Int} (h : Dp K B v (LiI xs)) : ∃ a, v = .ref a ∧ SqL K B a (xs.map V.int) := by
  obtain ⟨a, ys, e, hs, ha⟩ := dp_lst_inv h
  rw [dpa_ints_inv xs ha] at hs
  exact ⟨a, e, hs⟩
theorem dp_dd_inv {d : Deed} (h : Dp K B v (DD d)) : ∃ a x y, v = .ref a ∧ SqT K B a [x, y] ∧ Dp K B x (TuI d.1) ∧ Dp K B y (TuI d.2) := by
  obtain ⟨a, ys, e, hs, ha⟩ := dp_tup_inv h
  cases ha with
  | cons h1 h2 =>
    cases h2 with
    | cons h3 h4 =>
      cases h4
      exact ⟨a, _, _, e, hs, h1, h3⟩
theorem dp_tup {a : Addr} {xs : List V} {ds : List PyData} (h : B a = some (.tup xs)) (k : DpAll K B xs ds) : Dp K B (.ref a) (.tuple ds) := .tup (.inl (.inl h)) k
theorem dp_lst {a : Addr} {xs : List V} {ds : List PyData} (h : B a = some (.lst xs)) (k : DpAll K B xs ds) : Dp K B (.ref a) (.list ds) := .lst (.inl (.inl h)) k
end

/-! ### what evaluates to what -/
abbrev Pd := V → Hp → Prop
/-- just this value -/
def Xv (v0 : V) : Pd := fun v _ => v = v0
/-- such data -/
def Da (K : PySem.W.Frag) (d : PyData) : Pd := fun v B => Dp K B v d
class Mo (P : Pd) : Prop where
  mo : ∀ v B B', Same B B' → P v B → P v B'
instance {v0 : V} : Mo (Xv v0) := ⟨fun _ _ _ _ h => h⟩
instance {K : PySem.W.Frag} {d : PyData} : Mo (Da K d) := ⟨fun v _ _ e h => dp_mono e d v h⟩
/-- values that satisfy their words -/
def All2 : List Pd → List V → Hp → Prop
  | [], [], _ => True
  | P :: Ps, v :: vs, B => P v B ∧ All2 Ps vs B
  | _, _, _ => False
def EV (te : TE) (σ : L2.St) (B : Hp) (P : Pd) : Prop := ∀ B1 H, Same B B1 → Same B1 H → ∀ Q : VK, (∀ v B' H', Gr B1 H B' H' → P v B' → Q v H') → te σ H Q
def ET (tt : TT) (σ : L2.St) (B : Hp) (b : Bool) : Prop := ∀ B1 H, Same B B1 → Same B1 H → ∀ Q : Bool → Hp → Prop, (∀ B' H', Gr B1 H B' H' → Q b H') → tt σ H Q
def EA (ta : TA) (σ : L2.St) (B : Hp) (Ps : List Pd) : Prop := ∀ B1 H, Same B B1 → Same B1 H → ∀ Q : List V → Hp → Prop, (∀ vs B' H', Gr B1 H B' H' → All2 Ps vs B' → Q vs H') → ta σ H Q
def EO (to : TO) (σ : L2.St) (B : Hp) (o : Option Int) : Prop := ∀ B1 H, Same B B1 → Same B1 H → ∀ Q : Option Int → Hp → Prop, (∀ B' H', Gr B1 H B' H' → Q o H') → to σ H Q
/-- operations on values -/
def OV (r : R2) (B : Hp) (P R S : Pd) : Prop := ∀ x y B1 H, Same B B1 → Same B1 H → P x B1 → R y B1 → ∀ Q : VK, (∀ v B' H', Gr B1 H B' H' → S v B' → Q v H') → r x y H Q
def UV (r : V → Hp → VK → Prop) (B : Hp) (P S : Pd) : Prop := ∀ x B1 H, Same B B1 → Same B1 H → P x B1 → ∀ Q : VK, (∀ v B' H', Gr B1 H B' H' → S v B' → Q v H') → r x H Q
def CV (r : List V → Hp → VK → Prop) (B : Hp) (Ps : List Pd) (S : Pd) : Prop := ∀ vs B1 H, Same B B1 → Same B1 H → All2 Ps vs B1 → ∀ Q : VK, (∀ v B' H', Gr B1 H B' H' → S v B' → Q v H') → r vs H Q
def MV (r : V → List V → Hp → VK → Prop) (B : Hp) (P : Pd) (Ps : List Pd) (S : Pd) : Prop := ∀ x vs B1 H, Same B B1 → Same B1 H → P x B1 → All2 Ps vs B1 → ∀ Q : VK, (∀ v B' H', Gr B1 H B' H' → S v B' → Q v H') → r x vs H Q
/-- a pure def's promise, by what it hands back from what -/
def pSp (R : List V → Hp → Pd → Prop) : Sp := fun vs H Q _ => ∃ B S, Same B H ∧ R vs B S ∧ ∀ v B' H', Gr B H B' H' → S v B' → Q v H'

section
variable {K : PySem.W.Frag} {σ : L2.St} {B B' H H' : Hp} {ta tb te tc : TE} {t u : TT} {tr : TA} {P R S : Pd} {Ps : List Pd} {v : V}
theorem EV.mono (e : Same B B') (h : EV te σ B P) : EV te σ B' P := fun B1 H a b Q q => h B1 H (e.trans a) b Q q
theorem ET.mono {b : Bool} (e : Same B B') (h : ET t σ B b) : ET t σ B' b := fun B1 H a b Q q => h B1 H (e.trans a) b Q q
theorem EV.imp (h : EV te σ B P) (k : ∀ v B', P v B' → R v B') : EV te σ B R := fun B1 H a b Q q => h B1 H a b Q fun v B' H' g p => q v B' H' g (k v B' p)
theorem ev_is {d e : PyData} (h : EV te σ B (Da K d)) (q : d = e) : EV te σ B (Da K e) := q ▸ h
theorem ev_bl {b c : Bool} (h : EV te σ B (Xv (.bl b))) (q : b = c) : EV te σ B (Xv (.bl c)) := q ▸ h
theorem et_is {b c : Bool} (h : ET t σ B b) (q : b = c) : ET t σ B c := q ▸ h
theorem All2.mono : ∀ {Ps : List Pd} {vs : List V}, (∀ P ∈ Ps, Mo P) → Same B B' → All2 Ps vs B → All2 Ps vs B'
  | [], [], _, _, _ => trivial
  | P :: Ps, v :: vs, hm, e, h => ⟨(hm P List.mem_cons_self).mo v B B' e h.1, All2.mono (fun Q hQ => hm Q (List.mem_cons_of_mem _ hQ)) e h.2⟩
  | [], _ :: _, _, _, h => h.elim
  | _ :: _, [], _, _, h => h.elim
theorem ev_var {i : Nat} (h : σ[i]? = some (some v)) : EV (tVar i) σ B (Xv v) := fun B1 H _ b Q q => ⟨v, h, q v B1 H (.refl b) rfl⟩
/-- a slot's data -/
theorem ev_d {i : Nat} (h : σ[i]? = some (some v)) (hp : P v B) [Mo P] : EV (tVar i) σ B P := fun B1 H a b Q q => ⟨v, h, q v B1 H (.refl b) (Mo.mo v B B1 a hp)⟩
theorem ev_c : EV (tC v) σ B (Xv v) := fun B1 H _ b Q q => q v B1 H (.refl b) rfl
theorem ev_ci {i : Int} : EV (tC (.int i)) σ B (Da K (.int i)) := fun B1 H _ b Q q => q _ B1 H (.refl b) (.int i)
theorem ev_cs {i : Str} : EV (tC (.str i)) σ B (Da K (.str i)) := fun B1 H _ b Q q => q _ B1 H (.refl b) (.str i)
theorem ev_i {i : Int} (h : EV te σ B (Xv (.int i))) : EV te σ B (Da K (.int i)) := h.imp fun v B' e => by
  rw [show v = V.int i from e]
  exact .int i
theorem ev_b {i : Bool} (h : EV te σ B (Xv (.bl i))) : EV te σ B (Da K (.bool i)) := h.imp fun v B' e => by
  rw [show v = V.bl i from e]
  exact .bl i
theorem ev_s {i : Str} (h : EV te σ B (Xv (.str i))) : EV te σ B (Da K (.str i)) := h.imp fun v B' e => by
  rw [show v = V.str i from e]
  exact .str i
theorem ev_xi {i : Int} (h : EV te σ B (Da K (.int i))) : EV te σ B (Xv (.int i)) := h.imp fun v B' e => dp_int_inv e
theorem ev_xb {i : Bool} (h : EV te σ B (Da K (.bool i))) : EV te σ B (Xv (.bl i)) := h.imp fun v B' e => dp_bl_inv e
theorem ev_xs {i : Str} (h : EV te σ B (Da K (.str i))) : EV te σ B (Xv (.str i)) := h.imp fun v B' e => dp_str_inv e
theorem ev_op {r : R2} [Mo P] (ha : EV ta σ B P) (hb : EV tb σ B R) (hr : OV r B P R S) : EV (tOp r ta tb) σ B S := fun B1 H a b Q q =>
  ha B1 H a b _ fun x B2 H2 g2 px => hb B2 H2 (a.trans g2.bb) g2.bh _ fun y B3 H3 g3 py =>
    hr x y B3 H3 ((a.trans g2.bb).trans g3.bb) g3.bh (Mo.mo x B2 B3 g3.bb px) py Q fun v B4 H4 g4 pv => q v B4 H4 ((g2.trans g3).trans g4) pv
theorem ev_un {r : V → Hp → VK → Prop} (ha : EV ta σ B P) (hr : UV r B P S) : EV (tUn r ta) σ B S := fun B1 H a b Q q =>
  ha B1 H a b _ fun x B2 H2 g2 px => hr x B2 H2 (a.trans g2.bb) g2.bh px Q fun v B4 H4 g4 pv => q v B4 H4 (g2.trans g4) pv
theorem ev_cb {r : List V → Hp → VK → Prop} (ha : EA tr σ B Ps) (hr : CV r B Ps S) : EV (tCB r tr) σ B S := fun B1 H a b Q q =>
  ha B1 H a b _ fun x B2 H2 g2 px => hr x B2 H2 (a.trans g2.bb) g2.bh px Q fun v B4 H4 g4 pv => q v B4 H4 (g2.trans g4) pv
theorem ea_nil : EA tNil σ B [] := fun B1 H _ b Q q => q [] B1 H (.refl b) trivial
theorem ea_cons [Mo P] (ha : EV ta σ B P) (hr : EA tr σ B Ps) : EA (tCons ta tr) σ B (P :: Ps) := fun B1 H a b Q q =>
  ha B1 H a b _ fun x B2 H2 g2 px => hr B2 H2 (a.trans g2.bb) g2.bh _ fun vs B3 H3 g3 pvs => q (x :: vs) B3 H3 (g2.trans g3) ⟨Mo.mo x B2 B3 g3.bb px, pvs⟩
theorem et_test {b : Bool} (h : EV te σ B (Xv (.bl b))) : ET (tTest te) σ B b := fun B1 H a c Q q => h B1 H a c _ fun v B' H' g p => ⟨b, p, q B' H' g⟩
theorem et_B {b : Bool} (h : EV te σ B (Xv (.bl b))) : ET (tB te) σ B b := fun B1 H a c Q q => h B1 H a c _ fun v B' H' g p => ⟨b, p, q B' H' g⟩
theorem et_and {x y : Bool} (h1 : ET t σ B x) (h2 : x = true → ET u σ B y) : ET (tAnd t u) σ B (x && y) := fun B1 H a b Q q => h1 B1 H a b _ fun B2 H2 g2 => by
  cases x with
  | true =>
    show u σ H2 Q
    exact h2 rfl B2 H2 (a.trans g2.bb) g2.bh Q fun B3 H3 g3 => q B3 H3 (g2.trans g3)
  | false =>
    show Q false H2
    exact q B2 H2 g2
theorem et_or {x y : Bool} (h1 : ET t σ B x) (h2 : x = false → ET u σ B y) : ET (tOr t u) σ B (x || y) := fun B1 H a b Q q => h1 B1 H a b _ fun B2 H2 g2 => by
  cases x with
  | true =>
    show Q true H2
    exact q B2 H2 g2
  | false =>
    show u σ H2 Q
    exact h2 rfl B2 H2 (a.trans g2.bb) g2.bh Q fun B3 H3 g3 => q B3 H3 (g2.trans g3)
theorem et_not {x : Bool} (h1 : ET t σ B x) : ET (tNot t) σ B (!x) := fun B1 H a b _ q => h1 B1 H a b _ fun B2 H2 g2 => q B2 H2 g2
theorem ev_andV {x y : Bool} (h1 : EV ta σ B (Xv (.bl x))) (h2 : x = true → EV tb σ B (Xv (.bl y))) : EV (tAndV ta tb) σ B (Xv (.bl (x && y))) := fun B1 H a b Q q => h1 B1 H a b _ fun v B2 H2 g2 p => ⟨x, p, by
  cases x with
  | true =>
    show tb σ H2 Q
    exact h2 rfl B2 H2 (a.trans g2.bb) g2.bh Q fun v B3 H3 g3 => q v B3 H3 (g2.trans g3)
  | false =>
    show Q (.bl false) H2
    exact q _ B2 H2 g2 rfl⟩
theorem ev_orV {x y : Bool} (h1 : EV ta σ B (Xv (.bl x))) (h2 : x = false → EV tb σ B (Xv (.bl y))) : EV (tOrV ta tb) σ B (Xv (.bl (x || y))) := fun B1 H a b Q q => h1 B1 H a b _ fun v B2 H2 g2 p => ⟨x, p, by
  cases x with
  | true =>
    show Q (.bl true) H2
    exact q _ B2 H2 g2 rfl
  | false =>
    show tb σ H2 Q
    exact h2 rfl B2 H2 (a.trans g2.bb) g2.bh Q fun v B3 H3 g3 => q v B3 H3 (g2.trans g3)⟩
theorem ev_notV {x : Bool} (h1 : EV ta σ B (Xv (.bl x))) : EV (tNotV ta) σ B (Xv (.bl (!x))) := fun B1 H a b _ q => h1 B1 H a b _ fun v B2 H2 g2 p => ⟨x, p, q _ B2 H2 g2 rfl⟩
theorem ev_if {b : Bool} (h : ET t σ B b) (h1 : b = true → EV ta σ B P) (h2 : b = false → EV tb σ B P) : EV (tIf t ta tb) σ B P := fun B1 H a c Q q => h B1 H a c _ fun B2 H2 g2 => by
  cases b with
  | true =>
    show ta σ H2 Q
    exact h1 rfl B2 H2 (a.trans g2.bb) g2.bh Q fun v B3 H3 g3 => q v B3 H3 (g2.trans g3)
  | false =>
    show tb σ H2 Q
    exact h2 rfl B2 H2 (a.trans g2.bb) g2.bh Q fun v B3 H3 g3 => q v B3 H3 (g2.trans g3)
theorem eo_none : EO tNoPart σ B none := fun B1 H _ b _ q => q B1 H (.refl b)
theorem eo_some {i : Int} (h : EV te σ B (Xv (.int i))) : EO (tPart te) σ B (some i) := fun B1 H a b _ q => h B1 H a b _ fun v B2 H2 g2 p => ⟨i, p, q B2 H2 g2⟩
theorem sz_of {n : Nat} (h : n ≤ 100000) : n ≤ sizeLine := Nat.le_trans h (by decide)
theorem sz_lt {n : Nat} (h : n < 100000) : n < sizeLine := Nat.lt_of_lt_of_le h (by decide)
theorem all2_len : ∀ {Ps : List Pd} {vs : List V}, All2 Ps vs B → vs.length = Ps.length
  | [], [], _ => rfl
  | _ :: _, _ :: _, h => by rw [List.length_cons, List.length_cons, all2_len h.2]
  | [], _ :: _, h => h.elim
  | _ :: _, [], h => h.elim
theorem all2_dpa : ∀ {ds : List PyData} {vs : List V}, All2 (ds.map (Da K)) vs B → DpAll K B vs ds
  | [], [], _ => .nil
  | _ :: _, _ :: _, h => .cons h.1 (all2_dpa h.2)
  | [], _ :: _, h => h.elim
  | _ :: _, [], h => h.elim
/-- (a, b, ..), [a, b, ..] -/
theorem ev_tup (ds : List PyData) (h : EA tr σ B (ds.map (Da K))) (hl : ds.length ≤ 100000) : EV (tTup tr) σ B (Da K (.tuple ds)) := fun B1 H a b Q q =>
  h B1 H a b _ fun vs B2 H2 g2 p => ⟨by rw [all2_len p, List.length_map]; exact sz_of hl, fun l hl' =>
    q _ _ _ (g2.trans (.new g2.bh hl')) (dp_tup upd_same (dpa_mono (same_new (g2.bh.free hl')) ds vs (all2_dpa p)))⟩
theorem ev_lst (ds : List PyData) (h : EA tr σ B (ds.map (Da K))) (hl : ds.length ≤ 100000) : EV (tLst tr) σ B (Da K (.list ds)) := fun B1 H a b Q q =>
  h B1 H a b _ fun vs B2 H2 g2 p => ⟨by rw [all2_len p, List.length_map]; exact sz_of hl, fun l hl' =>
    q _ _ _ (g2.trans (.new g2.bh hl')) (dp_lst upd_same (dpa_mono (same_new (g2.bh.free hl')) ds vs (all2_dpa p)))⟩
/-- a call of a pure def -/
def SpV (sp : Sp) (B : Hp) (Ps : List Pd) (S : Pd) : Prop := ∀ vs B1 H, Same B B1 → Same B1 H → All2 Ps vs B1 → ∀ (Q : VK) (E : XK), (∀ v B' H', Gr B1 H B' H' → S v B' → Q v H') → sp vs H Q E
theorem spv {Rl : List V → Hp → Pd → Prop} (h : ∀ vs B1, Same B B1 → All2 Ps vs B1 → Rl vs B1 S) : SpV (pSp Rl) B Ps S := fun vs B1 H a b p Q E q => ⟨B1, S, b, h vs B1 a p, q⟩
theorem ev_call {sp : Sp} {E : XK} (h : EA tr σ B Ps) (hs : SpV sp B Ps S) : EV (tCall sp [] E tr) σ B S := fun B1 H a b Q q =>
  h B1 H a b _ fun vs B2 H2 g2 p => by
    rw [List.append_nil]
    exact hs vs B2 H2 (a.trans g2.bb) g2.bh p Q E fun v B3 H3 g3 => q v B3 H3 (g2.trans g3)
end

/-! ### operators by values -/
section
variable {K : PySem.W.Frag} {B : Hp}
theorem ov_I0 {g : Int → Int → V} {i j : Int} : OV (rI0 g) B (Xv (.int i)) (Xv (.int j)) (Xv (g i j)) := fun x y B1 H _ b px py Q q => ⟨i, j, px, py, q _ B1 H (.refl b) rfl⟩
theorem ov_I {C : Int → Int → Prop} {g : Int → Int → V} {i j : Int} (hc : C i j) : OV (rI C g) B (Xv (.int i)) (Xv (.int j)) (Xv (g i j)) := fun x y B1 H _ b px py Q q => ⟨i, j, px, py, hc, q _ B1 H (.refl b) rfl⟩
theorem uv_neg {i : Int} : UV (rU fun i => .int (-i)) B (Xv (.int i)) (Xv (.int (-i))) := fun x B1 H _ b px Q q => ⟨i, px, q _ B1 H (.refl b) rfl⟩
theorem ov_eq {x y : V} (h : scal x y = true) : OV rEq B (Xv x) (Xv y) (Xv (.bl (decide (x = y)))) := fun a b B1 H _ e pa pb Q q => by
  rw [show a = x from pa, show b = y from pb]
  exact ⟨h, q _ B1 H (.refl e) rfl⟩
theorem ov_ne {x y : V} (h : scal x y = true) : OV rNe B (Xv x) (Xv y) (Xv (.bl (!decide (x = y)))) := fun a b B1 H _ e pa pb Q q => by
  rw [show a = x from pa, show b = y from pb]
  exact ⟨h, q _ B1 H (.refl e) rfl⟩
theorem ov_eqD {d e : PyData} (h1 : SeqAt.shaped d = true) (h2 : SeqAt.shaped e = true) : OV (rEqD K) B (Da K d) (Da K e) (Xv (.bl (PyData.eqv d e))) := fun x y B1 H _ b px py Q q =>
  ⟨d, e, dp_mono b d x px, dp_mono b e y py, h1, h2, q _ B1 H (.refl b) rfl⟩
theorem ov_neD {d e : PyData} (h1 : SeqAt.shaped d = true) (h2 : SeqAt.shaped e = true) : OV (rNeD K) B (Da K d) (Da K e) (Xv (.bl (!PyData.eqv d e))) := fun x y B1 H _ b px py Q q =>
  ⟨d, e, dp_mono b d x px, dp_mono b e y py, h1, h2, q _ B1 H (.refl b) rfl⟩
theorem inV_int (x : Int) (xs : List Int) : inV (.int x) (xs.map V.int) = decide (x ∈ xs) := by
  unfold inV
  rw [List.any_map]
  induction xs with
  | nil => rfl
  | cons y ys ih =>
    rw [List.any_cons, ih]
    show (eqV (V.int y) (V.int x) || decide (x ∈ ys)) = decide (x ∈ y :: ys)
    have e : eqV (V.int y) (V.int x) = decide (y = x) := by
      simp [eqV, Bool.beq_eq_decide_eq]
    rw [e]
    by_cases h : y = x
    · subst h
      simp
    · have h' : ¬ x = y := fun q => h q.symm
      simp [h, h']
theorem flat_ints (xs : List Int) : (xs.map V.int).all flatV = true := by
  rw [List.all_map]
  exact List.all_eq_true.mpr fun _ _ => rfl
theorem ov_inT {x : Int} {xs : List Int} {neg : Bool} : OV (rIn K neg) B (Xv (.int x)) (Da K (TuI xs)) (Xv (.bl (if neg then !decide (x ∈ xs) else decide (x ∈ xs)))) := fun a c B1 H _ b pa pc Q q => by
  obtain ⟨p, rfl, hs⟩ := dp_ti_inv pc
  rw [show a = V.int x from pa]
  refine ⟨p, xs.map V.int, rfl, .inr (sqt_mono b hs), rfl, flat_ints xs, ?_⟩
  rw [inV_int]
  exact q _ B1 H (.refl b) rfl
theorem ov_inL {x : Int} {xs : List Int} {neg : Bool} : OV (rIn K neg) B (Xv (.int x)) (Da K (LiI xs)) (Xv (.bl (if neg then !decide (x ∈ xs) else decide (x ∈ xs)))) := fun a c B1 H _ b pa pc Q q => by
  obtain ⟨p, rfl, hs⟩ := dp_li_inv pc
  rw [show a = V.int x from pa]
  refine ⟨p, xs.map V.int, rfl, .inl (sql_mono b hs), rfl, flat_ints xs, ?_⟩
  rw [inV_int]
  exact q _ B1 H (.refl b) rfl
/-- t[i], xs[i] -/
theorem ov_ixT {ds : List PyData} {i : Int} {j : Nat} {d : PyData} (hi : i = (j : Int)) (hd : ds[j]? = some d) : OV (rIxT K) B (Da K (.tuple ds)) (Xv (.int i)) (Da K d) := fun x y B1 H _ b px py Q q => by
  obtain ⟨p, xs, rfl, hs, ha⟩ := dp_tup_inv px
  obtain ⟨v, hv, dv⟩ := dpa_get' ha hd
  exact ⟨p, xs, i, v, rfl, py, sqt_mono b hs, at_of hi hv, q v B1 H (.refl b) dv⟩
theorem ov_ixL {ds : List PyData} {i : Int} {j : Nat} {d : PyData} (hi : i = (j : Int)) (hd : ds[j]? = some d) : OV (rIxL K) B (Da K (.list ds)) (Xv (.int i)) (Da K d) := fun x y B1 H _ b px py Q q => by
  obtain ⟨p, xs, rfl, hs, ha⟩ := dp_lst_inv px
  obtain ⟨v, hv, dv⟩ := dpa_get' ha hd
  exact ⟨p, xs, i, v, rfl, py, sql_mono b hs, at_of hi hv, q v B1 H (.refl b) dv⟩
/-- len -/
def rLenS (K : PySem.W.Frag) : List V → Hp → VK → Prop := fun xs H Q => ∃ p ys, xs = [.ref p] ∧ (SqL K H p ys ∨ SqT K H p ys) ∧ Q (.int ys.length) H
theorem all2_1 {P : Pd} {vs : List V} {B : Hp} (h : All2 [P] vs B) : ∃ x, vs = [x] ∧ P x B := by
  match vs, h with
  | [x], h => exact ⟨x, rfl, h.1⟩
theorem all2_2 {P R : Pd} {vs : List V} {B : Hp} (h : All2 [P, R] vs B) : ∃ x y, vs = [x, y] ∧ P x B ∧ R y B := by
  match vs, h with
  | [x, y], h => exact ⟨x, y, rfl, h.1, h.2.1⟩
theorem all2_3 {P R S : Pd} {vs : List V} {B : Hp} (h : All2 [P, R, S] vs B) : ∃ x y z, vs = [x, y, z] ∧ P x B ∧ R y B ∧ S z B := by
  match vs, h with
  | [x, y, z], h => exact ⟨x, y, z, rfl, h.1, h.2.1, h.2.2.1⟩
theorem all2_4 {P R S T : Pd} {vs : List V} {B : Hp} (h : All2 [P, R, S, T] vs B) : ∃ x y z u, vs = [x, y, z, u] ∧ P x B ∧ R y B ∧ S z B ∧ T u B := by
  match vs, h with
  | [x, y, z, u], h => exact ⟨x, y, z, u, rfl, h.1, h.2.1, h.2.2.1, h.2.2.2.1⟩
theorem cv_lenT {ds : List PyData} : CV (rLenS K) B [Da K (.tuple ds)] (Xv (.int (ds.length : Int))) := fun vs B1 H _ b p Q q => by
  obtain ⟨x, rfl, px⟩ := all2_1 p
  obtain ⟨a, xs, rfl, hs, ha⟩ := dp_tup_inv px
  refine ⟨a, xs, rfl, .inr (sqt_mono b hs), ?_⟩
  rw [dpa_length ha]
  exact q _ B1 H (.refl b) rfl
theorem cv_lenL {ds : List PyData} : CV (rLenS K) B [Da K (.list ds)] (Xv (.int (ds.length : Int))) := fun vs B1 H _ b p Q q => by
  obtain ⟨x, rfl, px⟩ := all2_1 p
  obtain ⟨a, xs, rfl, hs, ha⟩ := dp_lst_inv px
  refine ⟨a, xs, rfl, .inl (sql_mono b hs), ?_⟩
  rw [dpa_length ha]
  exact q _ B1 H (.refl b) rfl
/-- any, all, sum of a list -/
theorem cv_any {bs : List Bool} : CV (rAny K) B [Da K (.list (bs.map .bool))] (Xv (.bl (bs.any id))) := fun vs B1 H _ b p Q q => by
  obtain ⟨x, rfl, px⟩ := all2_1 p
  obtain ⟨a, xs, rfl, hs, ha⟩ := dp_lst_inv px
  rw [dpa_bools_inv bs ha] at hs
  exact ⟨a, bs, rfl, sql_mono b hs, q _ B1 H (.refl b) rfl⟩
theorem cv_all {bs : List Bool} : CV (rAll K) B [Da K (.list (bs.map .bool))] (Xv (.bl (bs.all id))) := fun vs B1 H _ b p Q q => by
  obtain ⟨x, rfl, px⟩ := all2_1 p
  obtain ⟨a, xs, rfl, hs, ha⟩ := dp_lst_inv px
  rw [dpa_bools_inv bs ha] at hs
  exact ⟨a, bs, rfl, sql_mono b hs, q _ B1 H (.refl b) rfl⟩
theorem cv_sum {ns : List Int} : CV (rSum K) B [Da K (LiI ns)] (Xv (.int ns.sum)) := fun vs B1 H _ b p Q q => by
  obtain ⟨x, rfl, px⟩ := all2_1 p
  obtain ⟨a, rfl, hs⟩ := dp_li_inv px
  exact ⟨a, ns, rfl, sql_mono b hs, q _ B1 H (.refl b) rfl⟩
/-- tuple(list) -/
def rTupOf (K : PySem.W.Frag) : List V → Hp → VK → Prop := fun xs H Q => ∃ p ys, xs = [.ref p] ∧ ((SqL K H p ys ∧ ∀ l, H l = none → Q (.ref l) (upd H l (.tup ys))) ∨ (SqT K H p ys ∧ Q (.ref p) H))
theorem cv_tuple {ds : List PyData} : CV (rTupOf K) B [Da K (.list ds)] (Da K (.tuple ds)) := fun vs B1 H _ b p Q q => by
  obtain ⟨x, rfl, px⟩ := all2_1 p
  obtain ⟨a, xs, rfl, hs, ha⟩ := dp_lst_inv px
  exact ⟨a, xs, rfl, .inl ⟨sql_mono b hs, fun l hl => q _ _ _ (.new b hl) (dp_tup upd_same (dpa_mono (same_new (b.free hl)) ds xs ha))⟩⟩
/-- list(list) -/
def rListOf (K : PySem.W.Frag) : List V → Hp → VK → Prop := fun xs H Q => ∃ p ys, xs = [.ref p] ∧ (SqL K H p ys ∨ SqT K H p ys) ∧ ∀ l, H l = none → Q (.ref l) (upd H l (.lst ys))
end
end CN
set_option Elab.async false
set_option linter.all false
set_option maxRecDepth 100000
set_option maxHeartbeats 4000000
/-! KB: rules joined from the layer's, and the facts of a def. -/
namespace CN
open PySem PySem.Spec PyProof.Rows L2

section
variable {X : Cx}
/-- x is a or b or .. : the layer's rules side by side -/
def rAdd4 (K : PySem.W.Frag) : R2 := fun x y H Q => rI0 (fun i j => .int (i + j)) x y H Q ∨ (∃ i j, x = .str i ∧ y = .str j ∧ i.length + j.length ≤ sizeLine ∧ Q (.str (i ++ j)) H) ∨ rCat x y H Q ∨ rCatA K x y H Q
theorem ao_add : OpR X (binaryOp .Add) (rAdd4 X.K) := (op_add.or (op_add_str.or (op_cat.or op_catA)))
def rMul2 (K : PySem.W.Frag) : R2 := fun x y H Q => rI CMul (fun i j => .int (i * j)) x y H Q ∨ rRepT K x y H Q
theorem ao_mul : OpR X (binaryOp .Mult) (rMul2 X.K) := op_mul.or op_repT
def rEqA (K : PySem.W.Frag) : R2 := fun x y H Q => rEq x y H Q ∨ rEqD K x y H Q
theorem ao_eq (hu : X.A.units + 64 < cLine) : OpR X (compareOp .Eq) (rEqA X.K) := op_eq.or (op_eqD hu)
def rNeA (K : PySem.W.Frag) : R2 := fun x y H Q => rNe x y H Q ∨ rNeD K x y H Q
theorem ao_ne (hu : X.A.units + 64 < cLine) : OpR X (compareOp .NotEq) (rNeA X.K) := op_ne.or (op_neD hu)
def rInA (K : PySem.W.Frag) : R2 := fun x y H Q => rIn K false x y H Q ∨ (∃ (c : Nat) (z : Str), x = .str ⟨#[c]⟩ ∧ y = .str z ∧ Q (.bl (decide (c ∈ z.cps.toList))) H)
theorem ao_in : OpR X (compareOp .In) (rInA X.K) := op_in_seq.or op_in_sign
def rNiA (K : PySem.W.Frag) : R2 := fun x y H Q => rIn K true x y H Q ∨ (∃ (c : Nat) (z : Str), x = .str ⟨#[c]⟩ ∧ y = .str z ∧ Q (.bl (!decide (c ∈ z.cps.toList))) H)
theorem ao_ni : OpR X (compareOp .NotIn) (rNiA X.K) := op_notIn_seq.or op_notIn_sign
def rSlAny (K : PySem.W.Frag) : V → Option Int → Option Int → Hp → VK → Prop := fun x lo hi H Q => rSlL K x lo hi H Q ∨ rSlS x lo hi H Q ∨ rSlA K x lo hi H Q
theorem as_seq : SlR X (rSlAny X.K) := sl_list.or (sl_str.or sl_tupA)
def rInt2 : List V → Hp → VK → Prop := fun xs H Q => ((∃ i, xs = [.int i] ∧ Q (.int i) H) ∨ ∃ k, xs = [.bl k] ∧ Q (.int (if k then 1 else 0)) H) ∨ ∃ a n, xs = [.str a] ∧ PySem.intText? a = some n ∧ a.length ≤ 640 ∧ Q (.int n) H
theorem ac_int : CallR X (.type "int") rInt2 := call_int1.or call_int_str
def rLenA (K : PySem.W.Frag) : List V → Hp → VK → Prop := fun xs H Q => ∃ x n, xs = [x] ∧ LenV K x H n ∧ Q (.int (n : Nat)) H
theorem ac_len : CallR X (.builtin "len") (rLenA X.K) := call_len
def rStrI : List V → Hp → VK → Prop := fun xs H Q => ∃ i : Int, xs = [.int i] ∧ i.natAbs.log2 < 1920 ∧ Q (.str (toString i)) H
theorem ac_str : CallR X (.type "str") rStrI := call_str_int
theorem ac_tuple : CallR X (.type "tuple") (rTupOf X.K) := call_tuple_of
theorem ac_list : CallR X (.type "list") (rListOf X.K) := call_list_of
def rMin2 : List V → Hp → VK → Prop := fun xs H Q => ∃ i j : Int, xs = [.int i, .int j] ∧ Q (.int (if j < i then j else i)) H
def rMax2 : List V → Hp → VK → Prop := fun xs H Q => ∃ i j : Int, xs = [.int i, .int j] ∧ Q (.int (if j > i then j else i)) H
theorem ac_min (hc : X.calm = true) : CallR X (.builtin "min") rMin2 := call_min2 hc
theorem ac_max (hc : X.calm = true) : CallR X (.builtin "max") rMax2 := call_max2 hc

/-! ### what is walked: a list or a tuple -/
def iSeq (K : PySem.W.Frag) (tl : TE) : L2.TI := fun σ H R => tl σ H fun x H1 => ∃ a, x = .ref a ∧ (((∃ xs, SqL K H1 a xs) ∧ R (Itl K a) H1) ∨ ((∃ xs, SqT K H1 a xs) ∧ R (Itt K a) H1))
theorem ai_seq {tg l : Expr} {tl : TE} (hl : PE X l tl) : PI X tg l (iSeq X.K tl) := by
  refine ⟨fun pins s σ H R I h => ?_⟩
  refine thn (hl.run pins s σ H _ I h) fun v s1 ⟨x, H1, I1, r1, q1⟩ => ?_
  obtain ⟨a, e, q⟩ := q1
  subst e
  cases r1
  rcases q with ⟨⟨xs, hq⟩, q⟩ | ⟨⟨xs, hq⟩, q⟩
  · obtain ⟨its, rv, p, hz⟩ := I1.list hq
    refine wpAny_pyIter_list p.isList ?_
    refine ⟨s1.heap.objs.size, [s1.heap.objs.size], _, _, H1, rfl, I1.kept (t' := s1.toks) fun b o e => Heap.get?_push_of_some _ e, turn_list a _, ⟨_, Heap.get?_push_size _ rfl, rfl, rfl⟩, fun b hb => ?_, q⟩
    have e : b = s1.heap.objs.size := by simpa using hb
    subst e
    exact I1.fpOk (Nat.le_refl _) (I1.hok.fresh (Nat.le_refl _))
  · obtain ⟨its, rv, p, hz⟩ := I1.tuple hq
    refine wpAny_pyIter_tuple (show s1.heap.IsTuple a its.toArray from p) ?_
    refine ⟨s1.heap.objs.size, [s1.heap.objs.size], _, _, H1, rfl, I1.kept (t' := s1.toks) fun b o e => Heap.get?_push_of_some _ e, turn_tuple a _, ⟨_, Heap.get?_push_size _ rfl, rfl, rfl⟩, fun b hb => ?_, q⟩
    have e : b = s1.heap.objs.size := by simpa using hb
    subst e
    exact I1.fpOk (Nat.le_refl _) (I1.hok.fresh (Nat.le_refl _))
end

/-! ### a def of the text, and its promise as callers see it -/
structure FunC (K : PySem.W.Frag) (mg : Str → Option Value) (x qual : Str) (st : Stmt) : Prop where
  ex : ∃ f fd, Fun K x qual st f fd ∧ mg x = some (.ref f)
structure Cal (P : Program) (w : World) (K : PySem.W.Frag) (mg : Str → Option Value) (base : Heap) (x : Str) (k : Nat) (ps : List Str) (sp : Sp) : Prop where
  ex : ∃ f fd, FnOk P w K mg base CX0 k f fd ps sp ∧ mg x = some (.ref f) ∧ PySem.W.keepIn K (.ref f) = true ∧ Binds K fd ps []
section
variable {P : Program} {w : World} {K : PySem.W.Frag} {mg : Str → Option Value} {base : Heap} {x qual : Str} {st : Stmt} {N ps : List Str} {k : Nat} {sp : Sp}
theorem FunC.cal (F : FunC K mg x qual st) (S : FnScope N ps (defScope st))
    (hb : ∀ (kV doc pm : Value) (an : Option Addr) (cdv ct : Value) (us : List Value), us.length = ps.length → bindArgs (PySem.W.fnOf x qual (defArgs st) (defBody st) (defScope st) .none kV doc pm an cdv ct) ⟨us, []⟩ = pure (ps.zip us))
    (len : ∀ vs H Q E, sp vs H Q E → vs.length = ps.length)
    (hbody : ∀ (f : Addr) (cdv : Value) (A : Around) (outer : List Env) (s : Shared) (H : Hp) (vs : List V) (Q : VK) (E : XK), Room k (A.deeper (envOfC qual (defScope st) s.heap.objs.size f cdv)) → sp vs H Q E →
      ∃ t, PSs (cxOf CX0 P w K mg base N qual (defScope st) f cdv A outer s H E).nox (defBody st) t ∧ t { nx := fun _ H' => Q .non H', rt := Q } (start N vs) H) : Cal P w K mg base x (k + 1) ps sp := by
  obtain ⟨f, fd, Fn, hm⟩ := F.ex
  exact ⟨f, fd, Fn.ok S len (fun cdv A outer s H vs Q E hr h => hbody f cdv A outer s H vs Q E hr h), hm, Fn.kp, Fn.binds hb⟩
end
section
variable {X : Cx} {x : Str} {k j : Nat} {ps : List Str} {sp : Sp} {p pos : Pos} {e : Expr} {es : List Expr} {t : TA}
theorem pe_cal (C : Cal X.prog X.w X.K X.mg X.base x k ps sp) (hr : Room j X.A) (hg : Gl X x) (ha : PA X (e :: es) t) (hk : k ≤ j := by decide) (hdb : (x == ("__debug__" : Str)) = false := by decide)
    (he : starEach (e :: es) X.env = (false, eval e X.env) :: starEach es X.env := by rfl) (hpl : (backTo pos (starEach es X.env)).any (·.1) = false := by rfl) : PE X (.Call (.Name x p) (e :: es) [] pos) (tCall sp [] E0 t) := by
  obtain ⟨f, fd, F, hm, hkp, hb⟩ := C.ex
  exact pe_call F (hr.mono hk) hg hm hkp hb .nil pass0 ha hdb he hpl
end

/-! ### the iterables' evaluation -/
/-- items ds come one by one; new tuples may be made -/
structure ItOk (K : PySem.W.Frag) (J : It) (B : Hp) (ds : List PyData) : Prop where
  go : ∀ i H, i < ds.length → Same B H → J.go i H
  stop : ∀ H, Same B H → J.stop ds.length H
  yld : ∀ i H x H' B2 d, ds[i]? = some d → Same B B2 → Same B2 H → J.yld i H x H' → ∃ B3, Gr B2 H B3 H' ∧ Dp K B3 x d
def EI (K : PySem.W.Frag) (wi : L2.TI) (σ : L2.St) (B : Hp) (ds : List PyData) : Prop := ∀ B1 H, Same B B1 → Same B1 H → ∀ R : It → Hp → Prop, (∀ J B' H', Gr B1 H B' H' → ItOk K J B' ds → R J H') → wi σ H R
section
variable {K : PySem.W.Frag} {σ : L2.St} {B B' H H' : Hp} {te : TE} {ta : TA} {ds : List PyData}
theorem itOk_tup {a : Addr} {xs : List V} (hs : SqT K B a xs) (ha : DpAll K B xs ds) : ItOk K (Itt K a) B ds := by
  refine ⟨fun i H hi e => ?_, fun H e => ⟨xs, sqt_mono e hs, by rw [dpa_length ha]; exact Nat.le_refl _⟩, fun i H x H' B2 d hd e1 e2 y => ?_⟩
  · have hi' : i < xs.length := by rw [dpa_length ha]; exact hi
    exact ⟨xs, xs[i], sqt_mono e hs, List.getElem?_eq_getElem hi'⟩
  · obtain ⟨rfl, f⟩ := y
    have hx := f xs (sqt_mono (e1.trans e2) hs)
    obtain ⟨d', hd', r⟩ := dpa_get ha hx
    rw [hd] at hd'
    cases hd'
    exact ⟨B2, .refl e2, dp_mono e1 d x r⟩
theorem itOk_lst {a : Addr} {xs : List V} (hs : SqL K B a xs) (ha : DpAll K B xs ds) : ItOk K (Itl K a) B ds := by
  refine ⟨fun i H hi e => ?_, fun H e => ⟨xs, sql_mono e hs, by rw [dpa_length ha]; exact Nat.le_refl _⟩, fun i H x H' B2 d hd e1 e2 y => ?_⟩
  · have hi' : i < xs.length := by rw [dpa_length ha]; exact hi
    exact ⟨xs, xs[i], sql_mono e hs, List.getElem?_eq_getElem hi'⟩
  · obtain ⟨rfl, f⟩ := y
    have hx := f xs (sql_mono (e1.trans e2) hs)
    obtain ⟨d', hd', r⟩ := dpa_get ha hx
    rw [hd] at hd'
    cases hd'
    exact ⟨B2, .refl e2, dp_mono e1 d x r⟩
theorem ei_tup (h : EV te σ B (Da K (.tuple ds))) : EI K (iSeq K te) σ B ds := fun B1 H a b R q => h B1 H a b _ fun v B2 H2 g p => by
  obtain ⟨x, xs, rfl, hs, ha⟩ := dp_tup_inv p
  exact ⟨x, rfl, .inr ⟨⟨xs, sqt_mono g.bh hs⟩, q _ B2 H2 g (itOk_tup hs ha)⟩⟩
theorem ei_lst (h : EV te σ B (Da K (.list ds))) : EI K (iSeq K te) σ B ds := fun B1 H a b R q => h B1 H a b _ fun v B2 H2 g p => by
  obtain ⟨x, xs, rfl, hs, ha⟩ := dp_lst_inv p
  exact ⟨x, rfl, .inl ⟨⟨xs, sql_mono g.bh hs⟩, q _ B2 H2 g (itOk_lst hs ha)⟩⟩
/-- range(n), range(a, b): the ints -/
def rangeL (lo : Int) (n : Nat) : List Int := (List.range n).map fun (i : Nat) => lo + (i : Int)
theorem itOk_rng {lo : Int} {n : Nat} : ItOk K (Itr lo n) B ((rangeL lo n).map .int) := by
  have hl : ((rangeL lo n).map PyData.int).length = n := by simp [rangeL]
  refine ⟨fun i H hi e => by rw [hl] at hi; exact hi, fun H e => by rw [hl]; exact Nat.le_refl _, fun i H x H' B2 d hd e1 e2 y => ?_⟩
  obtain ⟨rfl, rfl⟩ := y
  have hi : i < n := by
    have := (List.getElem?_eq_some_iff.mp hd).1
    rwa [hl] at this
  have e : d = .int (lo + (i : Int)) := by
    rw [List.getElem?_map, rangeL, List.getElem?_map, List.getElem?_range hi] at hd
    exact (Option.some.inj hd).symm
  subst e
  exact ⟨B2, .refl e2, .int _⟩
theorem ei_rng1 {n : Int} (h : EA ta σ B [Xv (.int n)]) (hn : -1000 ≤ n ∧ n ≤ 100000) : EI K (iRng1 ta) σ B ((rangeL 0 n.toNat).map .int) := fun B1 H a b R q => h B1 H a b _ fun vs B2 H2 g p => by
  obtain ⟨x, rfl, px⟩ := all2_1 p
  exact ⟨n, by rw [show x = V.int n from px], by omega, by omega, q _ B2 H2 g itOk_rng⟩
end

section
variable {K : PySem.W.Frag} {B : Hp}
/-- a list that the layer may add: it stands in the heap by itself -/
def Dl (K : PySem.W.Frag) (ds : List PyData) : Pd := fun v B => ∃ a xs, v = .ref a ∧ B a = some (.lst xs) ∧ DpAll K B xs ds
instance {ds : List PyData} : Mo (Dl K ds) := ⟨fun v B B' e ⟨a, xs, h1, h2, h3⟩ => ⟨a, xs, h1, e _ _ h2, dpa_mono e _ _ h3⟩⟩
theorem dl_da {ds : List PyData} {v : V} {B : Hp} (h : Dl K ds v B) : Dp K B v (.list ds) := by
  obtain ⟨a, xs, rfl, h2, h3⟩ := h
  exact dp_lst h2 h3
end
/-! ### comprehensions -/
/-- one turn: the target takes x, the test answers b, the element is d -/
def LT (K : PySem.W.Frag) (g : TG) (tt : TT) (te : TE) (vs : List Nat) (σ : L2.St) (B : Hp) (x : V) (b : Bool) (d : PyData) : Prop :=
  ∀ B1 H, Same B B1 → Same B1 H → ∀ Q : L2.St → Hp → Prop, (∀ σ2, wipe σ2 vs = wipe σ vs → ET tt σ2 B1 b → (b = true → EV te σ2 B1 (Da K d)) → Q σ2 H) → g x (wipe σ vs) H Q
section
variable {K : PySem.W.Frag} {σ : L2.St} {B B' H H' : Hp} {te : TE} {tt : TT} {vs : List Nat} {wi : L2.TI} {g : TG} {α : Type}
theorem lt_name {j : Nat} {x : V} {b : Bool} {d : PyData} (hw : wipe ((wipe σ vs).set j (some x)) vs = wipe σ vs) (ht : ET tt ((wipe σ vs).set j (some x)) B b) (he : b = true → EV te ((wipe σ vs).set j (some x)) B (Da K d)) : LT K (gName j) tt te vs σ B x b d :=
  fun B1 H a c Q q => q _ hw (ht.mono a) (fun hb => (he hb).mono a)
theorem lt_tup2 {i j : Nat} {x : V} {b : Bool} {d d1 d2 : PyData} (hx : Dp K B x (.tuple [d1, d2])) (hw : ∀ x1 x2, wipe (((wipe σ vs).set i (some x1)).set j (some x2)) vs = wipe σ vs)
    (ht : ∀ x1 x2, Dp K B x1 d1 → Dp K B x2 d2 → ET tt (((wipe σ vs).set i (some x1)).set j (some x2)) B b) (he : ∀ x1 x2, Dp K B x1 d1 → Dp K B x2 d2 → b = true → EV te (((wipe σ vs).set i (some x1)).set j (some x2)) B (Da K d)) :
    LT K (gTup K 2 (gCons (gName i) (gCons (gName j) gNil))) tt te vs σ B x b d := fun B1 H a c Q q => by
  obtain ⟨p, xs, rfl, hs, ha⟩ := dp_tup_inv hx
  cases ha with
  | cons h1 h2 =>
    cases h2 with
    | cons h3 h4 =>
      cases h4
      exact ⟨p, _, rfl, sqt_mono (a.trans c) hs, rfl, _, _, rfl, _, _, rfl, rfl, q _ (hw _ _) ((ht _ _ h1 h3).mono a) fun hb => (he _ _ h1 h3 hb).mono a⟩
theorem filter_take_succ {xs : List α} {i : Nat} {a : α} (f : α → Bool) (h : xs[i]? = some a) : (xs.take (i + 1)).filter f = (xs.take i).filter f ++ (if f a then [a] else []) := by
  rw [List.take_add_one, h, List.filter_append]
  cases e : f a <;> simp [e]
/-- te makes a list of ds that the base does not know -/
def EN (K : PySem.W.Frag) (te : TE) (σ : L2.St) (B : Hp) (ds : List PyData) : Prop := ∀ B1 H, Same B B1 → Same B1 H → ∀ Q : VK, (∀ l xs B' H', Gr B1 H B' H' → H l = none → H' l = some (.lst xs) → B' l = none → DpAll K B' xs ds → Q (.ref l) H') → te σ H Q
theorem EN.ev {ds : List PyData} (h : EN K te σ B ds) : EV te σ B (Dl K ds) := fun B1 H a b Q q => h B1 H a b Q fun l xs B' H' g h0 h1 h2 hd => q _ _ _ (g.freeze h0 h1 h2) ⟨l, xs, rfl, upd_same, dpa_mono (same_new h2) _ _ hd⟩
theorem EN.is {ds es : List PyData} (h : EN K te σ B ds) (e : ds = es) : EN K te σ B es := e ▸ h
theorem en_lc (xs : List α) (enc : α → PyData) (f : α → Bool) (gd : α → PyData) (hi : EI K wi σ B (xs.map enc)) (hl : xs.length ≤ 40000)
    (hs : ∀ a x B1, a ∈ xs → Same B B1 → Dp K B1 x (enc a) → LT K g tt te vs σ B1 x (f a) (gd a)) : EN K (tLc wi g tt te vs) σ B ((xs.filter f).map gd) := fun B1 H a b Q q => hi B1 H a b _ fun J B2 H2 g2 it D hD => by
  have hlen : (xs.map enc).length = xs.length := List.length_map _
  have hB2D : B2 D = none := g2.bh.free hD
  have g0 : Gr B2 H2 B2 (upd H2 D (.lst [])) := (Gr.refl g2.bh).mut hD hB2D
  refine ⟨fun i m H' => m = xs.length - i ∧ i ≤ xs.length ∧ ∃ B3 acc, Gr B2 H2 B3 H' ∧ H' D = some (.lst acc) ∧ B3 D = none ∧ DpAll K B3 acc (((xs.take i).filter f).map gd), ⟨xs.length, by simp, Nat.zero_le _, B2, [], g0, upd_same, hB2D, .nil⟩, ?_⟩
  rintro i m H' ⟨rfl, hi', B3, acc, g3, hacc, h3D, hdp⟩
  by_cases hlt : i < xs.length
  · have hx : xs[i]? = some xs[i] := List.getElem?_eq_getElem hlt
    refine .inr ⟨it.go i H' (by rw [hlen]; exact hlt) (g3.bb.trans g3.bh), fun H'' => ∃ B3 acc, Gr B2 H2 B3 H'' ∧ H'' D = some (.lst acc) ∧ B3 D = none ∧ DpAll K B3 acc (((xs.take (i + 1)).filter f).map gd), fun H'' p => ⟨xs.length - (i + 1), by omega, rfl, hlt, p⟩, fun x H4 y => ?_⟩
    obtain ⟨B4, g4, dx⟩ := it.yld i H' x H4 B3 (enc xs[i]) (by rw [List.getElem?_map, hx]; rfl) g3.bb g3.bh y
    refine hs xs[i] x B4 (List.getElem_mem hlt) ((a.trans g2.bb).trans (g3.bb.trans g4.bb)) dx B4 H4 (Same.refl _) g4.bh _ fun σ2 hw ht he => ⟨hw, ?_⟩
    refine ht B4 H4 (Same.refl _) g4.bh _ fun B5 H5 g5 => ?_
    have h4D : H4 D = some (.lst acc) := g4.hh _ _ hacc
    have h4B : B4 D = none := g4.unk hacc h3D
    have h5D : H5 D = some (.lst acc) := g5.hh _ _ h4D
    have h5B : B5 D = none := g5.unk h4D h4B
    have tk := filter_take_succ f hx
    cases hf : f xs[i] with
    | true =>
      show te σ2 H5 _
      rw [hf] at he
      refine he rfl B5 H5 g5.bb g5.bh _ fun v B6 H6 g6 dv => ?_
      have h6D : H6 D = some (.lst acc) := g6.hh _ _ h5D
      have h6B : B6 D = none := g6.unk h5D h5B
      have g := (g3.trans g4).trans (g5.trans g6)
      refine ⟨acc, h6D, ?_, B6, acc ++ [v], g.mut hD h6B, upd_same, h6B, ?_⟩
      · have h1 := dpa_length hdp
        have h2 : (((xs.take i).filter f).map gd).length ≤ xs.length := by
          rw [List.length_map]
          exact Nat.le_trans (List.length_filter_le _ _) (by rw [List.length_take]; exact Nat.min_le_right _ _)
        exact sz_lt (by omega)
      · rw [tk, hf, if_pos rfl, List.map_append]
        exact dpa_append (dpa_mono (g4.bb.trans (g5.bb.trans g6.bb)) _ _ hdp) (.cons dv .nil)
    | false =>
      refine ⟨B5, acc, (g3.trans g4).trans g5, h5D, h5B, ?_⟩
      rw [tk, hf, if_neg Bool.false_ne_true, List.append_nil]
      exact dpa_mono (g4.bb.trans g5.bb) _ _ hdp
  · have e : i = xs.length := by omega
    subst e
    rw [List.take_length] at hdp
    refine .inl ⟨by rw [← hlen]; exact it.stop H' (g3.bb.trans g3.bh), ?_⟩
    exact q D acc B3 _ (g2.trans g3) (g2.hh.free hD) hacc h3D hdp
theorem ev_lcL (xs : List α) (enc : α → PyData) (f : α → Bool) (gd : α → PyData) (hi : EI K wi σ B (xs.map enc)) (hl : xs.length ≤ 40000)
    (hs : ∀ a x B1, a ∈ xs → Same B B1 → Dp K B1 x (enc a) → LT K g tt te vs σ B1 x (f a) (gd a)) : EV (tLc wi g tt te vs) σ B (Dl K ((xs.filter f).map gd)) := (en_lc xs enc f gd hi hl hs).ev
theorem ev_lc (xs : List α) (enc : α → PyData) (f : α → Bool) (gd : α → PyData) (hi : EI K wi σ B (xs.map enc)) (hl : xs.length ≤ 40000)
    (hs : ∀ a x B1, a ∈ xs → Same B B1 → Dp K B1 x (enc a) → LT K g tt te vs σ B1 x (f a) (gd a)) : EV (tLc wi g tt te vs) σ B (Da K (.list ((xs.filter f).map gd))) := (ev_lcL xs enc f gd hi hl hs).imp fun _ _ p => dl_da p
end
end CN
set_option Elab.async false
set_option linter.all false
set_option maxRecDepth 100000
set_option maxHeartbeats 4000000
/-! KC: statements, loops; operators joined. -/
namespace CN
open PySem PySem.Spec PyProof.Rows L2
section
variable {K : PySem.W.Frag} {σ : L2.St} {B H : Hp} {te : TE} {t : TT} {D : Ends} {tu tw tz : TS} {P : Pd} {g : TG} {v : V}
/-! ### statements -/
theorem s_ret (e : Same B H) (h : EV te σ B P) (k : ∀ v B' H', Gr B H B' H' → P v B' → D.rt v H') : tRet te D σ H := h B H (Same.refl _) e _ k
theorem s_asg {i : Nat} (e : Same B H) (h : EV te σ B P) (k : ∀ v B' H', Gr B H B' H' → P v B' → D.nx (σ.set i (some v)) H') : tAsg te (gName i) D σ H := h B H (Same.refl _) e _ k
theorem q_asg {i : Nat} (e : Same B H) (h : EV te σ B P) (k : ∀ v B' H', Gr B H B' H' → P v B' → tz D (σ.set i (some v)) H') : tSeq (tAsg te (gName i)) tz D σ H := h B H (Same.refl _) e _ k
theorem s_asg2 {i j : Nat} {d1 d2 : PyData} (e : Same B H) (h : EV te σ B (Da K (.tuple [d1, d2]))) (k : ∀ v1 v2 B' H', Gr B H B' H' → Dp K B' v1 d1 → Dp K B' v2 d2 → D.nx ((σ.set i (some v1)).set j (some v2)) H') :
    tAsg te (gTup K 2 (gCons (gName i) (gCons (gName j) gNil))) D σ H := h B H (Same.refl _) e _ fun v B' H' g p => by
  obtain ⟨a, xs, rfl, hs, ha⟩ := dp_tup_inv p
  cases ha with
  | cons h1 h2 =>
    cases h2 with
    | cons h3 h4 =>
      cases h4
      exact ⟨a, _, rfl, sqt_mono g.bh hs, rfl, _, _, rfl, _, _, rfl, rfl, k _ _ B' H' g h1 h3⟩
theorem q_asg2 {i j : Nat} {d1 d2 : PyData} (e : Same B H) (h : EV te σ B (Da K (.tuple [d1, d2]))) (k : ∀ v1 v2 B' H', Gr B H B' H' → Dp K B' v1 d1 → Dp K B' v2 d2 → tz D ((σ.set i (some v1)).set j (some v2)) H') :
    tSeq (tAsg te (gTup K 2 (gCons (gName i) (gCons (gName j) gNil)))) tz D σ H := s_asg2 (D := { D with nx := tz D }) e h k
/-- a, b = x, y: two local names -/
theorem s_par {i j : Nat} {ta : TA} {P R : Pd} (e : Same B H) (h : EA ta σ B [P, R]) (k : ∀ v1 v2 B' H', Gr B H B' H' → P v1 B' → R v2 B' → D.nx ((σ.set i (some v1)).set j (some v2)) H') : tPar i j ta D σ H :=
  h B H (Same.refl _) e _ fun vs B' H' g p => by
    obtain ⟨x, y, rfl, px, py⟩ := all2_2 p
    exact ⟨x, y, rfl, k x y B' H' g px py⟩
theorem q_par {i j : Nat} {ta : TA} {P R : Pd} (e : Same B H) (h : EA ta σ B [P, R]) (k : ∀ v1 v2 B' H', Gr B H B' H' → P v1 B' → R v2 B' → tz D ((σ.set i (some v1)).set j (some v2)) H') : tSeq (tPar i j ta) tz D σ H :=
  s_par (D := { D with nx := tz D }) e h k
theorem s_if {b : Bool} (e : Same B H) (h : ET t σ B b) (h1 : b = true → ∀ B' H', Gr B H B' H' → tu D σ H') (h2 : b = false → ∀ B' H', Gr B H B' H' → tw D σ H') : tIfS t tu tw D σ H := h B H (Same.refl _) e _ fun B' H' g => by
  cases b with
  | true => exact h1 rfl B' H' g
  | false => exact h2 rfl B' H' g
theorem q_if {b : Bool} (e : Same B H) (h : ET t σ B b) (h1 : b = true → ∀ B' H', Gr B H B' H' → tu { D with nx := tz D } σ H') (h2 : b = false → ∀ B' H', Gr B H B' H' → tw { D with nx := tz D } σ H') : tSeq (tIfS t tu tw) tz D σ H :=
  s_if (D := { D with nx := tz D }) e h h1 h2
/-- if t: (never), t being false -/
theorem q_not {tu : TS} (e : Same B H) (h : ET t σ B false) (k : ∀ B' H', Gr B H B' H' → tz D σ H') : tSeq (tIfS t tu tNext) tz D σ H := q_if e h (fun z => nomatch z) fun _ => k
theorem s_not {tu : TS} (e : Same B H) (h : ET t σ B false) (k : ∀ B' H', Gr B H B' H' → D.nx σ H') : tIfS t tu tNext D σ H := s_if e h (fun z => nomatch z) fun _ => k
theorem s_drop (e : Same B H) (h : EV te σ B P) (k : ∀ B' H', Gr B H B' H' → D.nx σ H') : tDrop te D σ H := h B H (Same.refl _) e _ fun _ B' H' g _ => k B' H' g
theorem q_drop (e : Same B H) (h : EV te σ B P) (k : ∀ B' H', Gr B H B' H' → tz D σ H') : tSeq (tDrop te) tz D σ H := s_drop (D := { D with nx := tz D }) e h k
/-- l.append(e), l unknown to the base -/
theorem s_app {ta : TE} {l : Addr} {xs : List V} (e : Same B H) (hl : H l = some (.lst xs)) (hb : B l = none) (ha : EV ta σ B (Xv (.ref l))) (h : EV te σ B P) (hz : xs.length < 100000)
    (k : ∀ v B' H', Gr B H B' H' → H' l = some (.lst xs) → P v B' → Same B' (upd H' l (.lst (xs ++ [v]))) → D.nx σ (upd H' l (.lst (xs ++ [v])))) : tDrop (tBM K "list" rAppend ta (tCons te tNil)) D σ H :=
  ha B H (Same.refl _) e _ fun w B1 H1 g1 pw => by
    obtain rfl : w = V.ref l := pw
    have h1 := g1.hh _ _ hl
    refine ⟨Or.inl ⟨rfl, xs, Or.inl (Or.inl h1)⟩, ?_⟩
    refine h B1 H1 g1.bb g1.bh _ fun v B2 H2 g2 pv => ?_
    have h2 := g2.hh _ _ h1
    exact ⟨l, xs, v, rfl, rfl, h2, sz_lt hz, k v B2 H2 (g1.trans g2) h2 pv (same_mut g2.bh ((g1.trans g2).unk hl hb))⟩
theorem q_app {ta : TE} {l : Addr} {xs : List V} (e : Same B H) (hl : H l = some (.lst xs)) (hb : B l = none) (ha : EV ta σ B (Xv (.ref l))) (h : EV te σ B P) (hz : xs.length < 100000)
    (k : ∀ v B' H', Gr B H B' H' → H' l = some (.lst xs) → P v B' → Same B' (upd H' l (.lst (xs ++ [v]))) → tz D σ (upd H' l (.lst (xs ++ [v])))) : tSeq (tDrop (tBM K "list" rAppend ta (tCons te tNil))) tz D σ H :=
  s_app (D := { D with nx := tz D }) e hl hb ha h hz k

/-! ### for -/
/-- Pv: turn, slots, base, heap. i0: what the base was when the loop began is known to every later base -/
theorem s_for {wi : L2.TI} {ds : List PyData} (e : Same B H) (hi : EI K wi σ B ds) (Pv : Hp → Nat → L2.St → Hp → Hp → Prop) (h0 : ∀ B1 H1, Gr B H B1 H1 → Pv B1 0 σ B1 H1)
    (hG : ∀ B1 i σ' B' H', Pv B1 i σ' B' H' → Same B1 B' ∧ Same B' H')
    (hs : ∀ B1 i x σ' B' H' B'' H'' d, Gr B H B1 B1 ∨ True → ds[i]? = some d → Pv B1 i σ' B' H' → Gr B' H' B'' H'' → Dp K B'' x d → g x σ' H'' fun σ2 H2 => tu { D with nx := fun σ3 H3 => ∃ B3, Pv B1 (i + 1) σ3 B3 H3, ct := fun σ3 H3 => ∃ B3, Pv B1 (i + 1) σ3 B3 H3, bk := D.nx } σ2 H2)
    (hd : ∀ B1 σ' B' H', Pv B1 ds.length σ' B' H' → D.nx σ' H') : tFor wi g tu D σ H := hi B H (Same.refl _) e _ fun J B1 H1 g1 it => by
  refine ⟨fun i m σ' H' => m = ds.length - i ∧ i ≤ ds.length ∧ ∃ B', Pv B1 i σ' B' H', ⟨ds.length, by simp, Nat.zero_le _, B1, h0 B1 H1 g1⟩, ?_⟩
  rintro i m σ' H' ⟨rfl, hi', B', p⟩
  obtain ⟨e1, e2⟩ := hG _ _ _ _ _ p
  by_cases hlt : i < ds.length
  · refine .inr ⟨it.go i H' hlt (e1.trans e2), fun σ3 H3 => ∃ B3, Pv B1 (i + 1) σ3 B3 H3, fun σ3 H3 p => ⟨ds.length - (i + 1), by omega, rfl, hlt, p⟩, fun x H4 y => ?_⟩
    obtain ⟨B4, g4, dx⟩ := it.yld i H' x H4 B' ds[i] (List.getElem?_eq_getElem hlt) e1 e2 y
    exact hs B1 i x σ' B' H' B4 H4 ds[i] (.inr trivial) (List.getElem?_eq_getElem hlt) p g4 dx
  · have e : i = ds.length := by omega
    subst e
    exact .inl ⟨it.stop H' (e1.trans e2), hd _ _ _ _ p⟩
/-- the target's names -/
theorem g_tup2 {i j : Nat} {x : V} {d1 d2 : PyData} {Q : L2.St → Hp → Prop} (e : Same B H) (hx : Dp K B x (.tuple [d1, d2])) (k : ∀ x1 x2, Dp K B x1 d1 → Dp K B x2 d2 → Q ((σ.set i (some x1)).set j (some x2)) H) :
    gTup K 2 (gCons (gName i) (gCons (gName j) gNil)) x σ H Q := by
  obtain ⟨p, xs, rfl, hs, ha⟩ := dp_tup_inv hx
  cases ha with
  | cons h1 h2 =>
    cases h2 with
    | cons h3 h4 =>
      cases h4
      exact ⟨p, _, rfl, sqt_mono e hs, rfl, _, _, rfl, _, _, rfl, rfl, k _ _ h1 h3⟩
/-- while, by a measure -/
theorem s_while (W : Nat → L2.St → Hp → Hp → Prop) (m0 : Nat) (h0 : W m0 σ B H)
    (hs : ∀ m σ' B' H', W m σ' B' H' → ∃ b, Same B' H' ∧ ET t σ' B' b ∧ (b = true → ∀ B1 H1, Gr B' H' B1 H1 → tu { D with nx := fun σ2 H2 => ∃ m' B2, m' < m ∧ W m' σ2 B2 H2, ct := fun σ2 H2 => ∃ m' B2, m' < m ∧ W m' σ2 B2 H2, bk := D.nx } σ' H1) ∧ (b = false → ∀ B1 H1, Gr B' H' B1 H1 → D.nx σ' H1)) :
    tWhile t tu D σ H :=
  ⟨fun m σ' H' => ∃ B', W m σ' B' H', ⟨m0, B, h0⟩, fun m σ' H' ⟨B', hw⟩ => by
    obtain ⟨b, e, hb, h1, h2⟩ := hs m σ' B' H' hw
    refine hb B' H' (Same.refl _) e _ fun B1 H1 g1 => ?_
    cases b with
    | true => exact ⟨fun σ2 H2 => ∃ m' B2, m' < m ∧ W m' σ2 B2 H2, fun σ2 H2 ⟨m', B2, hm, hw⟩ => ⟨m', hm, B2, hw⟩, h1 rfl B1 H1 g1⟩
    | false => exact h2 rfl B1 H1 g1⟩
end
/-! ### operators joined -/
section
variable {K : PySem.W.Frag} {σ : L2.St} {B : Hp} {P R S : Pd}
theorem OV.l {r r' : R2} (h : OV r B P R S) : OV (fun x y H Q => r x y H Q ∨ r' x y H Q) B P R S := fun x y B1 H a b p q Q k => .inl (h x y B1 H a b p q Q k)
theorem OV.r {r r' : R2} (h : OV r' B P R S) : OV (fun x y H Q => r x y H Q ∨ r' x y H Q) B P R S := fun x y B1 H a b p q Q k => .inr (h x y B1 H a b p q Q k)
theorem ov_addI {i j : Int} : OV (rAdd4 K) B (Xv (.int i)) (Xv (.int j)) (Xv (.int (i + j))) := OV.l ov_I0
theorem ov_addS {x y : Str} (h : x.length + y.length ≤ 100000) : OV (rAdd4 K) B (Xv (.str x)) (Xv (.str y)) (Xv (.str (x ++ y))) := OV.r (OV.l fun a b B1 H _ e pa pb Q q => ⟨x, y, pa, pb, sz_of h, q _ B1 H (.refl e) rfl⟩)
/-- tuples -/
theorem ov_addT {ds es : List PyData} (h : ds.length + es.length ≤ 100000) : OV (rAdd4 K) B (Da K (.tuple ds)) (Da K (.tuple es)) (Da K (.tuple (ds ++ es))) := OV.r (OV.r (OV.r fun a b B1 H _ e pa pb Q q => by
  obtain ⟨p, xs, rfl, hs, ha⟩ := dp_tup_inv pa
  obtain ⟨p', ys, rfl, hs', ha'⟩ := dp_tup_inv pb
  refine ⟨p, p', xs, ys, rfl, rfl, sqt_mono e hs, sqt_mono e hs', by rw [dpa_length ha, dpa_length ha']; exact sz_of h, fun z => ?_, fun z1 z2 => ?_, fun z1 z2 l hl => ?_⟩
  · subst z
    cases ha
    exact q _ B1 H (.refl e) (.tup hs' ha')
  · subst z2
    cases ha'
    rw [List.append_nil] at q
    exact q _ B1 H (.refl e) (.tup hs ha)
  · exact q _ _ _ (.new e hl) (dp_tup upd_same (dpa_append (dpa_mono (same_new (e.free hl)) _ _ ha) (dpa_mono (same_new (e.free hl)) _ _ ha')))))
theorem ov_addL {ds es : List PyData} (h : ds.length + es.length ≤ 100000) : OV (rAdd4 K) B (Dl K ds) (Dl K es) (Dl K (ds ++ es)) := OV.r (OV.r (OV.l fun a b B1 H _ e pa pb Q q => by
  obtain ⟨p, xs, rfl, hs, ha⟩ := pa
  obtain ⟨p', ys, rfl, hs', ha'⟩ := pb
  refine ⟨p, p', xs, ys, rfl, rfl, e _ _ hs, e _ _ hs', by rw [dpa_length ha, dpa_length ha']; exact sz_of h, fun l hl => ?_⟩
  exact q _ _ _ (.new e hl) ⟨l, _, rfl, upd_same, dpa_append (dpa_mono (same_new (e.free hl)) _ _ ha) (dpa_mono (same_new (e.free hl)) _ _ ha')⟩))
theorem ov_mulI {i j : Int} (h : -(2 ^ 64) < i ∧ i < 2 ^ 64) : OV (rMul2 K) B (Xv (.int i)) (Xv (.int j)) (Xv (.int (i * j))) := OV.l (ov_I (.inl h))
theorem ov_mulI' {i j : Int} (h : -(2 ^ 64) < j ∧ j < 2 ^ 64) : OV (rMul2 K) B (Xv (.int i)) (Xv (.int j)) (Xv (.int (i * j))) := OV.l (ov_I (.inr h))
theorem ov_eqS {x y : V} (h : scal x y = true) : OV (rEqA K) B (Xv x) (Xv y) (Xv (.bl (decide (x = y)))) := OV.l (ov_eq h)
theorem ov_neS {x y : V} (h : scal x y = true) : OV (rNeA K) B (Xv x) (Xv y) (Xv (.bl (!decide (x = y)))) := OV.l (ov_ne h)
theorem ov_eqd {d e : PyData} (h1 : SeqAt.shaped d = true) (h2 : SeqAt.shaped e = true) : OV (rEqA K) B (Da K d) (Da K e) (Xv (.bl (PyData.eqv d e))) := OV.r (ov_eqD h1 h2)
theorem ov_ned {d e : PyData} (h1 : SeqAt.shaped d = true) (h2 : SeqAt.shaped e = true) : OV (rNeA K) B (Da K d) (Da K e) (Xv (.bl (!PyData.eqv d e))) := OV.r (ov_neD h1 h2)
theorem ov_eqi {i j : Int} : OV (rEqA K) B (Xv (.int i)) (Xv (.int j)) (Xv (.bl (decide (i = j)))) := by
  have h := ov_eqS (K := K) (B := B) (x := .int i) (y := .int j) rfl
  have e : decide (V.int i = V.int j) = decide (i = j) := by
    by_cases z : i = j
    · simp [z]
    · simp [z]
  rwa [e] at h
theorem ov_nei {i j : Int} : OV (rNeA K) B (Xv (.int i)) (Xv (.int j)) (Xv (.bl (!decide (i = j)))) := by
  have h := ov_neS (K := K) (B := B) (x := .int i) (y := .int j) rfl
  have e : decide (V.int i = V.int j) = decide (i = j) := by
    by_cases z : i = j
    · simp [z]
    · simp [z]
  rwa [e] at h
theorem ov_inTI {x : Int} {xs : List Int} : OV (rInA K) B (Xv (.int x)) (Da K (TuI xs)) (Xv (.bl (decide (x ∈ xs)))) := OV.l (ov_inT (neg := false))
theorem ov_inLI {x : Int} {xs : List Int} : OV (rInA K) B (Xv (.int x)) (Da K (LiI xs)) (Xv (.bl (decide (x ∈ xs)))) := OV.l (ov_inL (neg := false))
theorem ov_niTI {x : Int} {xs : List Int} : OV (rNiA K) B (Xv (.int x)) (Da K (TuI xs)) (Xv (.bl (!decide (x ∈ xs)))) := OV.l (ov_inT (neg := true))
theorem ov_niLI {x : Int} {xs : List Int} : OV (rNiA K) B (Xv (.int x)) (Da K (LiI xs)) (Xv (.bl (!decide (x ∈ xs)))) := OV.l (ov_inL (neg := true))
theorem ov_ixt {ds : List PyData} {i : Int} {j : Nat} {d : PyData} (hi : i = (j : Int)) (hd : ds[j]? = some d) : OV (rIx K) B (Da K (.tuple ds)) (Xv (.int i)) (Da K d) := OV.r (OV.l (ov_ixT hi hd))
theorem ov_ixl {ds : List PyData} {i : Int} {j : Nat} {d : PyData} (hi : i = (j : Int)) (hd : ds[j]? = some d) : OV (rIx K) B (Da K (.list ds)) (Xv (.int i)) (Da K d) := OV.l (ov_ixL hi hd)
theorem cv_lent {ds : List PyData} : CV (rLenA K) B [Da K (.tuple ds)] (Xv (.int (ds.length : Int))) := fun vs B1 H _ b p Q q => by
  obtain ⟨x, rfl, px⟩ := all2_1 p
  obtain ⟨a, xs, rfl, hs, ha⟩ := dp_tup_inv px
  exact ⟨_, ds.length, rfl, .inr ⟨xs, sqt_mono b hs, (dpa_length ha).symm⟩, q _ B1 H (.refl b) rfl⟩
theorem cv_lenl {ds : List PyData} : CV (rLenA K) B [Da K (.list ds)] (Xv (.int (ds.length : Int))) := fun vs B1 H _ b p Q q => by
  obtain ⟨x, rfl, px⟩ := all2_1 p
  obtain ⟨a, xs, rfl, hs, ha⟩ := dp_lst_inv px
  exact ⟨_, ds.length, rfl, .inl ⟨xs, sql_mono b hs, (dpa_length ha).symm⟩, q _ B1 H (.refl b) rfl⟩
theorem cv_lens {x : Str} (h : x.length ≤ 100000) : CV (rLenA K) B [Xv (.str x)] (Xv (.int (x.length : Int))) := fun vs B1 H _ b p Q q => by
  obtain ⟨y, rfl, py⟩ := all2_1 p
  exact ⟨y, x.length, rfl, by rw [show y = V.str x from py]; exact ⟨sz_of h, rfl⟩, q _ B1 H (.refl b) rfl⟩
theorem cv_min {i j : Int} : CV rMin2 B [Xv (.int i), Xv (.int j)] (Xv (.int (if j < i then j else i))) := fun vs B1 H _ b p Q q => by
  obtain ⟨x, y, rfl, px, py⟩ := all2_2 p
  exact ⟨i, j, by rw [show x = V.int i from px, show y = V.int j from py], q _ B1 H (.refl b) rfl⟩
theorem cv_max {i j : Int} : CV rMax2 B [Xv (.int i), Xv (.int j)] (Xv (.int (if j > i then j else i))) := fun vs B1 H _ b p Q q => by
  obtain ⟨x, y, rfl, px, py⟩ := all2_2 p
  exact ⟨i, j, by rw [show x = V.int i from px, show y = V.int j from py], q _ B1 H (.refl b) rfl⟩
theorem cv_intb {k : Bool} : CV rInt2 B [Xv (.bl k)] (Xv (.int (if k then 1 else 0))) := fun vs B1 H _ b p Q q => by
  obtain ⟨x, rfl, px⟩ := all2_1 p
  exact .inl (.inr ⟨k, by rw [show x = V.bl k from px], q _ B1 H (.refl b) rfl⟩)
theorem cv_ints {z : Str} {n : Int} (hn : PySem.intText? z = some n) (hz : z.length ≤ 640) : CV rInt2 B [Xv (.str z)] (Xv (.int n)) := fun vs B1 H _ b p Q q => by
  obtain ⟨x, rfl, px⟩ := all2_1 p
  exact .inr ⟨z, n, by rw [show x = V.str z from px], hn, hz, q _ B1 H (.refl b) rfl⟩
theorem cv_stri {i : Int} (h : i.natAbs.log2 < 1920) : CV rStrI B [Xv (.int i)] (Xv (.str (toString i))) := fun vs B1 H _ b p Q q => by
  obtain ⟨x, rfl, px⟩ := all2_1 p
  exact ⟨i, by rw [show x = V.int i from px], h, q _ B1 H (.refl b) rfl⟩
theorem cv_listL {ds : List PyData} : CV (rListOf K) B [Da K (.list ds)] (Da K (.list ds)) := fun vs B1 H _ b p Q q => by
  obtain ⟨x, rfl, px⟩ := all2_1 p
  obtain ⟨a, xs, rfl, hs, ha⟩ := dp_lst_inv px
  exact ⟨a, xs, rfl, .inl (sql_mono b hs), fun l hl => q _ _ _ (.new b hl) (dp_lst upd_same (dpa_mono (same_new (b.free hl)) ds xs ha))⟩
/-- a chain of comparisons of ints -/
theorem ev_chain {g1 g2 : Int → Int → Bool} {ta tb tc : TE} {i j k : Int} (ha : EV ta σ B (Xv (.int i))) (hb : EV tb σ B (Xv (.int j))) (hc : EV tc σ B (Xv (.int k))) :
    EV (tChain (rI0 fun i j => .bl (g1 i j)) (rI0 fun i j => .bl (g2 i j)) ta tb tc) σ B (Xv (.bl (g1 i j && g2 j k))) := fun B1 H a b Q q =>
  ha B1 H a b _ fun x B2 H2 e2 px => hb B2 H2 (a.trans e2.bb) e2.bh _ fun y B3 H3 e3 py => by
    obtain rfl : x = V.int i := px
    obtain rfl : y = V.int j := py
    refine ⟨i, j, rfl, rfl, g1 i j, rfl, ?_⟩
    cases h : g1 i j with
    | true =>
      show tc σ H3 _
      refine hc B3 H3 ((a.trans e2.bb).trans e3.bb) e3.bh _ fun z B4 H4 e4 pz => ?_
      obtain rfl : z = V.int k := pz
      refine ⟨j, k, rfl, rfl, ?_⟩
      have e : (g1 i j && g2 j k) = g2 j k := by rw [h]; rfl
      rw [h] at q
      exact q _ B4 H4 ((e2.trans e3).trans e4) rfl
    | false =>
      show Q (.bl false) H3
      rw [h] at q
      exact q _ B3 H3 (e2.trans e3) rfl
/-- slices -/
theorem ev_sl {te : TE} {tl th : TO} {lo hi : Option Int} {r : V → Option Int → Option Int → Hp → VK → Prop} (h : EV te σ B P) (h1 : EO tl σ B lo) (h2 : EO th σ B hi) [Mo P] (hr : ∀ x B1 H, Same B B1 → Same B1 H → P x B1 → ∀ Q : VK, (∀ v B' H', Gr B1 H B' H' → S v B' → Q v H') → r x lo hi H Q) : EV (tSl r te tl th) σ B S := fun B1 H a b Q q =>
  h B1 H a b _ fun x B2 H2 g2 px => h1 B2 H2 (a.trans g2.bb) g2.bh _ fun B3 H3 g3 => h2 B3 H3 ((a.trans g2.bb).trans g3.bb) g3.bh _ fun B4 H4 g4 =>
    hr x B4 H4 (((a.trans g2.bb).trans g3.bb).trans g4.bb) g4.bh (Mo.mo x B2 B4 (g3.bb.trans g4.bb) px) Q fun v B5 H5 g5 => q v B5 H5 (((g2.trans g3).trans g4).trans g5)
end
end CN
set_option Elab.async false
set_option linter.all false
set_option maxRecDepth 100000
set_option maxHeartbeats 4000000
/-! KD: short forms for comprehensions, isinstance, texts. -/
namespace CN
open PySem PySem.Spec PyProof.Rows L2
section
variable {K : PySem.W.Frag} {σ : L2.St} {B B' H H' : Hp} {te : TE} {tt : TT} {vs : List Nat} {wi : L2.TI} {g : TG} {α : Type}
theorem et_yes : ET tYes σ B true := fun B1 H _ b Q q => q B1 H (.refl b)
theorem filter_yes (xs : List α) : xs.filter (fun _ => true) = xs := List.filter_eq_self.mpr fun _ _ => rfl
theorem ev_lc0 (xs : List α) (enc : α → PyData) (gd : α → PyData) (hi : EI K wi σ B (xs.map enc)) (hl : xs.length ≤ 40000)
    (hs : ∀ a x B1, a ∈ xs → Same B B1 → Dp K B1 x (enc a) → LT K g tYes te vs σ B1 x true (gd a)) : EV (tLc wi g tYes te vs) σ B (Da K (.list (xs.map gd))) :=
  ev_is (ev_lc xs enc (fun _ => true) gd hi hl hs) (by rw [filter_yes])
/-- elements that are truth values, ints, texts, sets -/
theorem ev_lcB (xs : List α) (enc : α → PyData) (f : α → Bool) (hi : EI K wi σ B (xs.map enc)) (hl : xs.length ≤ 40000)
    (hs : ∀ a x B1, a ∈ xs → Same B B1 → Dp K B1 x (enc a) → LT K g tYes te vs σ B1 x true (.bool (f a))) : EV (tLc wi g tYes te vs) σ B (Da K (.list ((xs.map f).map .bool))) :=
  ev_is (ev_lc0 xs enc (fun a => .bool (f a)) hi hl hs) (by rw [List.map_map]; rfl)
theorem ev_lcI (xs : List α) (enc : α → PyData) (f : α → Int) (hi : EI K wi σ B (xs.map enc)) (hl : xs.length ≤ 40000)
    (hs : ∀ a x B1, a ∈ xs → Same B B1 → Dp K B1 x (enc a) → LT K g tYes te vs σ B1 x true (.int (f a))) : EV (tLc wi g tYes te vs) σ B (Da K (LiI (xs.map f))) :=
  ev_is (ev_lc0 xs enc (fun a => .int (f a)) hi hl hs) (by show _ = PyData.list ((xs.map f).map .int); rw [List.map_map]; rfl)
theorem ev_lcS (xs : List α) (enc : α → PyData) (f : α → Str) (hi : EI K wi σ B (xs.map enc)) (hl : xs.length ≤ 40000)
    (hs : ∀ a x B1, a ∈ xs → Same B B1 → Dp K B1 x (enc a) → LT K g tYes te vs σ B1 x true (.str (f a))) : EV (tLc wi g tYes te vs) σ B (Da K (LiS (xs.map f))) :=
  ev_is (ev_lc0 xs enc (fun a => .str (f a)) hi hl hs) (by show _ = PyData.list ((xs.map f).map .str); rw [List.map_map]; rfl)
theorem ev_lcIf (xs : List α) (enc : α → PyData) (p : α → Bool) (f : α → Int) (hi : EI K wi σ B (xs.map enc)) (hl : xs.length ≤ 40000)
    (hs : ∀ a x B1, a ∈ xs → Same B B1 → Dp K B1 x (enc a) → LT K g tt te vs σ B1 x (p a) (.int (f a))) : EV (tLc wi g tt te vs) σ B (Da K (LiI ((xs.filter p).map f))) :=
  ev_is (ev_lc xs enc p (fun a => .int (f a)) hi hl hs) (by show _ = PyData.list (((xs.filter p).map f).map .int); rw [List.map_map]; rfl)
/-! ### any, all of such a list -/
theorem cv_anyB {bs : List Bool} : CV (rAny K) B [Da K (.list (bs.map .bool))] (Xv (.bl (bs.any id))) := cv_any
/-! ### isinstance -/
def tyD : PyData → String
  | .none => "NoneType"
  | .bool _ => "bool"
  | .int _ => "int"
  | .str _ => "str"
  | .list _ => "list"
  | .tuple _ => "tuple"
  | .dict _ => "dict"
theorem tyx_dp {v : V} : ∀ {d : PyData}, Dp K B v d → TyX K B v (.type (tyD d))
  | .none, h => by cases h; exact .base .non
  | .bool b, h => by cases h; exact .base (.bl b)
  | .int i, h => by cases h; exact .base (.int i)
  | .str x, h => by cases h; exact .base (.str x)
  | .list ds, h => by
    obtain ⟨a, xs, rfl, hs, _⟩ := dp_lst_inv h
    rcases hs with (e | ⟨o, e⟩) | ⟨o, its, n, e, c, _⟩
    · exact .base (.lst e)
    · exact .base (.frz e)
    · exact .kList e c
  | .tuple ds, h => by
    obtain ⟨a, xs, rfl, hs, _⟩ := dp_tup_inv h
    rcases hs with (e | ⟨o, e⟩) | ⟨o, its, n, e, c, _⟩
    · exact .base (.tup e)
    · exact .fTuple e
    · exact .kTuple e c
  | .dict _, h => by cases h
theorem cv_isi {d : PyData} {n : String} {b : Bool} (h : kitB (tyD d) n = some b) : CV (rIsi K) B [Da K d, Xv (.ty n)] (Xv (.bl b)) := fun vs B1 H _ e p Q q => by
  obtain ⟨x, y, rfl, px, py⟩ := all2_2 p
  exact ⟨x, y, _, _, b, rfl, by rw [show y = V.ty n from py]; exact .ty n, tyx_dp (dp_mono e d x px), kit_ty h, q _ B1 H (.refl e) rfl⟩
theorem kit_ii : kitB "int" "int" = some true := by decide +kernel
theorem kit_ib : kitB "int" "bool" = some false := by decide +kernel
theorem kit_tt : kitB "tuple" "tuple" = some true := by decide +kernel
theorem kit_ss : kitB "str" "str" = some true := by decide +kernel
/-! ### shapes, equality -/
def Sk (k : Nat) (d : PyData) : Prop := d.canLay0 = true ∧ d.depth ≤ k
theorem sk_int {k : Nat} {i : Int} : Sk k (.int i) := ⟨by simp [PyData.canLay0], by simp [PyData.depth]⟩
theorem sk_bl {k : Nat} {i : Bool} : Sk k (.bool i) := ⟨by simp [PyData.canLay0], by simp [PyData.depth]⟩
theorem sk_str {k : Nat} {x : Str} (h : PyData.canLay0 (.str x) = true) : Sk k (.str x) := ⟨h, by simp [PyData.depth]⟩
theorem sk_all {k : Nat} : ∀ {ds : List PyData}, (∀ d, d ∈ ds → Sk k d) → PyData.canLayAll0 ds = true ∧ PyData.depthAll ds ≤ k
  | [], _ => ⟨by simp [PyData.canLayAll0], by simp [PyData.depthAll]⟩
  | d :: ds, h => by
    obtain ⟨h1, h2⟩ := h d List.mem_cons_self
    obtain ⟨k1, k2⟩ := sk_all (ds := ds) fun e he => h e (List.mem_cons_of_mem _ he)
    refine ⟨by simp [PyData.canLayAll0, h1, k1], ?_⟩
    rw [PyData.depthAll]
    exact Nat.max_le.mpr ⟨h2, k2⟩
theorem sk_lst {k : Nat} {ds : List PyData} (h : ∀ d, d ∈ ds → Sk k d) : Sk (k + 1) (.list ds) := by
  obtain ⟨h1, h2⟩ := sk_all h
  exact ⟨by simp [PyData.canLay0, h1], by rw [PyData.depth]; omega⟩
theorem sk_tup {k : Nat} {ds : List PyData} (h : ∀ d, d ∈ ds → Sk k d) : Sk (k + 1) (.tuple ds) := by
  obtain ⟨h1, h2⟩ := sk_all h
  exact ⟨by simp [PyData.canLay0, h1], by rw [PyData.depth]; omega⟩
theorem Sk.sh {k : Nat} {d : PyData} (h : Sk k d) (hk : k ≤ 64 := by decide) : SeqAt.shaped d = true := by
  unfold SeqAt.shaped
  rw [h.1, Bool.true_and, decide_eq_true_eq]
  exact Nat.le_trans h.2 hk
theorem mem_map' {α β : Type} {P : β → Prop} {f : α → β} {l : List α} (h : ∀ a, a ∈ l → P (f a)) : ∀ b, b ∈ l.map f → P b := fun b hb => by
  obtain ⟨a, ha, rfl⟩ := List.mem_map.mp hb
  exact h a ha
theorem sk_ti {k : Nat} (xs : List Int) : Sk (k + 1) (TuI xs) := sk_tup (mem_map' fun _ _ => sk_int)
theorem sk_li {k : Nat} (xs : List Int) : Sk (k + 1) (LiI xs) := sk_lst (mem_map' fun _ _ => sk_int)
theorem sk_dd {k : Nat} (d : Deed) : Sk (k + 2) (DD d) := sk_tup fun e he => by
  rcases List.mem_cons.mp he with rfl | he
  · exact sk_ti _
  · rcases List.mem_cons.mp he with rfl | he
    · exact sk_ti _
    · cases he
theorem sk_lti {k : Nat} (xs : List (List Int)) : Sk (k + 2) (.list (xs.map TuI)) := sk_lst (mem_map' fun _ _ => sk_ti _)
theorem sk_tdd {k : Nat} (xs : List Deed) : Sk (k + 3) (.tuple (xs.map DD)) := sk_tup (mem_map' fun _ _ => sk_dd _)
theorem sk_ldd {k : Nat} (xs : List Deed) : Sk (k + 3) (.list (xs.map DD)) := sk_lst (mem_map' fun _ _ => sk_dd _)
theorem sk_nilL {k : Nat} : Sk (k + 1) (.list []) := sk_lst fun _ h => nomatch h
theorem sk_nilT {k : Nat} : Sk (k + 1) (.tuple []) := sk_tup fun _ h => nomatch h
theorem eqv_all_ints : ∀ (xs ys : List Int), PyData.eqvAll (xs.map .int) (ys.map .int) = decide (xs = ys)
  | [], [] => by simp [PyData.eqvAll]
  | [], _ :: _ => by simp [PyData.eqvAll]
  | _ :: _, [] => by simp [PyData.eqvAll]
  | x :: xs, y :: ys => by
    simp only [List.map_cons, PyData.eqvAll, PyData.eqv, eqv_all_ints xs ys]
    by_cases h : x = y
    · by_cases h2 : xs = ys
      · simp [h, h2]
      · simp [h, h2]
    · simp [h]
theorem eqv_ti (xs ys : List Int) : PyData.eqv (TuI xs) (TuI ys) = decide (xs = ys) := by rw [PyData.eqv, eqv_all_ints]
theorem eqv_li (xs ys : List Int) : PyData.eqv (LiI xs) (LiI ys) = decide (xs = ys) := by rw [PyData.eqv, eqv_all_ints]
theorem eqv_ti0 (xs : List Int) : PyData.eqv (TuI xs) (.tuple []) = decide (xs = []) := eqv_ti xs []
theorem eqv_li0 (xs : List Int) : PyData.eqv (LiI xs) (.list []) = decide (xs = []) := eqv_li xs []
theorem eqv_all_nil (ds : List PyData) : PyData.eqvAll ds [] = decide (ds = []) := by
  cases ds <;> simp [PyData.eqvAll]
theorem eqv_l0 (ds : List PyData) : PyData.eqv (.list ds) (.list []) = decide (ds = []) := by rw [PyData.eqv, eqv_all_nil]
theorem eqv_t0 (ds : List PyData) : PyData.eqv (.tuple ds) (.tuple []) = decide (ds = []) := by rw [PyData.eqv, eqv_all_nil]
theorem eqv_all_tis : ∀ (xs ys : List (List Int)), PyData.eqvAll (xs.map TuI) (ys.map TuI) = decide (xs = ys)
  | [], [] => by simp [PyData.eqvAll]
  | [], _ :: _ => by simp [PyData.eqvAll]
  | _ :: _, [] => by simp [PyData.eqvAll]
  | x :: xs, y :: ys => by
    rw [List.map_cons, List.map_cons, PyData.eqvAll, eqv_ti, eqv_all_tis xs ys]
    by_cases h : x = y
    · by_cases h2 : xs = ys
      · simp [h, h2]
      · simp [h, h2]
    · simp [h]
theorem eqv_lti (xs ys : List (List Int)) : PyData.eqv (.list (xs.map TuI)) (.list (ys.map TuI)) = decide (xs = ys) := by rw [PyData.eqv, eqv_all_tis]
/-! ### globals -/
section
variable {X : Cx} {x : Str} {pos : Pos}
theorem pe_gs {z : Str} (hg : Gl X x) (hm : ∃ t, X.mg x = some (.str z t)) (hd : (x == ("__debug__" : Str)) = false := by decide) : PE X (.Name x pos) (tC (.str z)) := by
  obtain ⟨t, hm⟩ := hm
  exact pe_glob hg hm ⟨t, rfl⟩ hd
theorem pe_gi {z : Int} (hg : Gl X x) (hm : ∃ t, X.mg x = some (.int z t)) (hd : (x == ("__debug__" : Str)) = false := by decide) : PE X (.Name x pos) (tC (.int z)) := by
  obtain ⟨t, hm⟩ := hm
  exact pe_glob hg hm ⟨t, rfl⟩ hd
end
/-! ### the rules with the written part by name -/
section
variable {X : Cx} {K : PySem.W.Frag}
theorem ko_add (hK : X.K = K := by rfl) : OpR X (binaryOp .Add) (rAdd4 K) := by subst hK; exact ao_add
theorem ko_mul (hK : X.K = K := by rfl) : OpR X (binaryOp .Mult) (rMul2 K) := by subst hK; exact ao_mul
theorem ko_eq (hu : X.A.units + 64 < cLine) (hK : X.K = K := by rfl) : OpR X (compareOp .Eq) (rEqA K) := by subst hK; exact ao_eq hu
theorem ko_ne (hu : X.A.units + 64 < cLine) (hK : X.K = K := by rfl) : OpR X (compareOp .NotEq) (rNeA K) := by subst hK; exact ao_ne hu
theorem ko_in (hK : X.K = K := by rfl) : OpR X (compareOp .In) (rInA K) := by subst hK; exact ao_in
theorem ko_ni (hK : X.K = K := by rfl) : OpR X (compareOp .NotIn) (rNiA K) := by subst hK; exact ao_ni
theorem ko_ix (hK : X.K = K := by rfl) : IxR X (rIx K) := by subst hK; exact ix_seq
theorem ko_sl (hK : X.K = K := by rfl) : SlR X (rSlAny K) := by subst hK; exact as_seq
theorem ko_isi (hK : X.K = K := by rfl) : CallR X (.builtin "isinstance") (rIsi K) := by subst hK; exact call_isi
theorem ko_all (hc : X.calm = true) (hK : X.K = K := by rfl) : CallR X (.builtin "all") (rAll K) := by subst hK; exact cr_all hc
theorem ko_any (hc : X.calm = true) (hK : X.K = K := by rfl) : CallR X (.builtin "any") (rAny K) := by subst hK; exact cr_any hc
theorem ko_sum (hc : X.calm = true) (hK : X.K = K := by rfl) : CallR X (.builtin "sum") (rSum K) := by subst hK; exact cr_sum hc
theorem ko_len (hK : X.K = K := by rfl) : CallR X (.builtin "len") (rLenA K) := by subst hK; exact ac_len
theorem ko_tuple (hK : X.K = K := by rfl) : CallR X (.type "tuple") (rTupOf K) := by subst hK; exact ac_tuple
theorem ko_list (hK : X.K = K := by rfl) : CallR X (.type "list") (rListOf K) := by subst hK; exact ac_list
theorem ki_seq {tg l : Expr} {tl : TE} (hl : PE X l tl) (hK : X.K = K := by rfl) : PI X tg l (iSeq K tl) := by subst hK; exact ai_seq hl
theorem kg_tup {es : List Expr} {k : Nat} {t : TGs} {n : Nat} {pos : Pos} (hc : X.calm = true) (h : PGs X es t) (hK : X.K = K := by rfl)
    (hn : (assignEach es X.env).length = n := by rfl) (hst : (assignEach es X.env).findIdx? (·.1) = none := by rfl) : PG X (.Tuple es k pos) (gTup K n t) := by subst hK; exact pg_tup hc h hn hst
end
/-- what the module's names stand for -/
structure Z (mg : Str → Option Value) : Prop where
  z_all : mg "all" = none
  z_any : mg "any" = none
  z_isinstance : mg "isinstance" = none
  z_len : mg "len" = none
  z_int : mg "int" = none
  z_bool : mg "bool" = none
  z_str : mg "str" = none
  z_tuple : mg "tuple" = none
  z_list : mg "list" = none
  z_sum : mg "sum" = none
  z_sorted : mg "sorted" = none
  z_set : mg "set" = none
  z_range : mg "range" = none
  z_zip : mg "zip" = none
  z_enumerate : mg "enumerate" = none
  z_min : mg "min" = none
  z_max : mg "max" = none
  z_repr : mg "repr" = none
  c_MOST_BOXES : ∃ t, mg "MOST_BOXES" = some (.int 5 t)
  c_MOST_DEEDS : ∃ t, mg "MOST_DEEDS" = some (.int 6 t)
  c_MOST_COIN : ∃ t, mg "MOST_COIN" = some (.int 3 t)
  c_HEAD : ∃ t, mg "HEAD" = some (.str "worths " t)
  c_ARROW : ∃ t, mg "ARROW" = some (.str " > " t)
end
end CN
set_option Elab.async false
set_option linter.all false
set_option maxRecDepth 100000
set_option maxHeartbeats 4000000
/-! KI: enumerate and zip over lists and tuples in any mix. -/
namespace CN
open PySem PySem.Spec PyProof.Rows L2
def SeqK (k : Bool) (h : Heap) (a : Addr) (items : Array Value) : Prop := match k with
  | true => h.IsList a items
  | false => h.IsTuple a items
def IterK (k : Bool) (h : Heap) (it a : Addr) (i : Nat) : Prop := match k with
  | true => h.IsListIter it a i
  | false => h.IsTupleIter it a i
def SqK (k : Bool) (K : PySem.W.Frag) (H : Hp) (a : Addr) (xs : List V) : Prop := match k with
  | true => SqL K H a xs
  | false => SqT K H a xs
theorem drawsK {prog : Program} {w : World} {A : Around} (hh : A.handled = none) (it a : Addr) (hne : a ≠ it) (items : Array Value) : ∀ k, Draws prog w A it [it, a] items.size (fun i v => items[i]? = some v) (fun i h => IterK k h it a i ∧ SeqK k h a items)
  | true => Draws.list hh it a hne items
  | false => Draws.tuple hh it a hne items
theorem sqk_mono {k : Bool} {K : PySem.W.Frag} {B H : Hp} {a : Addr} {xs : List V} (e : Same B H) (h : SqK k K B a xs) : SqK k K H a xs := by
  cases k with
  | true => exact sql_mono e h
  | false => exact sqt_mono e h
theorem iterK_at {k : Bool} {h h' : Heap} {it a : Addr} {i : Nat} (x : IterK k h it a i) (q : ∀ o, h.get? it = some o → h'.get? it = some o) : IterK k h' it a i := by
  cases k with
  | true => exact Heap.IsListIter.at x q
  | false => exact Heap.IsTupleIter.at x q
theorem iterK_obj {k : Bool} {h : Heap} {it a : Addr} {i : Nat} (x : IterK k h it a i) : ∃ o, h.get? it = some o ∧ ∀ v, o.data ≠ .cell v := by
  cases k with
  | true =>
    obtain ⟨o, e, _, d⟩ := x
    exact ⟨o, e, fun v q => by rw [d] at q; cases q⟩
  | false =>
    obtain ⟨o, e, _, d⟩ := x
    exact ⟨o, e, fun v q => by rw [d] at q; cases q⟩
section
variable {X : Cx} {pins : List (Addr × Obj)} {σ : L2.St} {H : Hp} {s : Shared}
theorem sqk_raw {k : Bool} {a : Addr} {xs : List V} (I : Inv X pins σ H s) (h : SqK k X.K H a xs) : ∃ its : List Value, Vals xs its ∧ SeqK k s.heap a its.toArray ∧ a < s.heap.objs.size ∧ ∀ ys, SqK k X.K H a ys → ys = xs := by
  cases k with
  | true =>
    obtain ⟨its, rv, p, _⟩ := I.list h
    exact ⟨its, rv, p.isList, p.lt, fun ys hy => I.list_inj hy h⟩
  | false =>
    obtain ⟨its, rv, p, _⟩ := I.tuple h
    obtain ⟨o, ho, r⟩ := id p
    exact ⟨its, rv, ⟨o, ho, r⟩, Heap.lt_size ho, fun ys hy => I.tuple_inj hy h⟩
end
/-! ### enumerate -/
def IteK (k : Bool) (K : PySem.W.Frag) (a : Addr) : It :=
  ⟨fun i H => ∃ (xs : List V) (x : V), SqK k K H a xs ∧ xs[i]? = some x, fun i H v H' => ∃ T x, v = .ref T ∧ H T = none ∧ H' = upd H T (.tup [.int (i : Nat), x]) ∧ ∀ xs, SqK k K H a xs → xs[i]? = some x, fun i H => ∃ xs : List V, SqK k K H a xs ∧ i = xs.length⟩
theorem turn_enumK {P : Program} {w : World} {K : PySem.W.Frag} {elts : List Expr} {kk : Nat} {tpos : Pos} (k : Bool) (a e it : Addr) :
    Turn P w K (.Tuple elts kk tpos) (IteK k K a) [e, it] e (fun i h => (∃ old, IsEnum h e it ((0 : Int) + ((i : Nat) : Int)) old) ∧ IterK k h it a i ∧ e ≠ it ∧ e ≠ a ∧ a ≠ it) where
  mem := by simp
  obj := fun i h st b hb => by
    obtain ⟨⟨old, he⟩, hi, _⟩ := st
    have e' : b = e ∨ b = it := by simpa using hb
    rcases e' with z | z
    · rw [z]; exact ⟨_, he, fun v q => nomatch q⟩
    · rw [z]; exact iterK_obj hi
  keep := fun i h h' st k => let ⟨⟨old, he⟩, hi, hne⟩ := st; ⟨⟨old, k e (by simp) _ he⟩, iterK_at hi fun o q => k it (by simp) o q, hne⟩
  item := by
    intro X hP hw hK hc i pins s σ H E I hf st hg
    subst hP hw hK
    obtain ⟨he, hit, hne, hea, hai⟩ := st
    obtain ⟨xs, x, hq, hx⟩ := hg
    obtain ⟨its, rv, p, hlt, un⟩ := sqk_raw I hq
    obtain ⟨u, hu, ru⟩ := rv.get hx
    have hh : X.A.in1.handled = none := I.ok.hd hc
    have W := GoesN.enumFrom (prog := X.prog) (w := X.w) (A := X.A) (elts := elts) (x1 := kk) (pos := tpos) 0 (drawsK hh it a hai its.toArray k) e hne (by simp [hne, hea]) (by simp)
    have hil : i < its.toArray.size := by
      rw [List.size_toArray]
      exact (List.getElem?_eq_some_iff.mp hu).1
    refine W.goes i s _ E hil ⟨he, hit, p⟩ fun v h' tk hY st' hk htk => ?_
    obtain ⟨T, t, y, rfl, hT, hy, hTup⟩ := hY
    have ey : y = u := by
      have h1 : its[i]? = some y := by simpa using hy
      rw [hu] at h1
      exact (Option.some.inj h1).symm
    subst ey
    have new : ObjOk X.prog X.w (upd H T (.tup [.int (i : Nat), x])) h' T (.tup [.int (i : Nat), x]) :=
      ⟨by show 2 ≤ sizeLine; decide, [.int ((0 : Int) + (i : Int)) t, y], .cons ⟨t, by rw [Int.zero_add]⟩ (.cons ru .nil), hTup⟩
    have I1 := I.turnedNew (t' := tk) (ch := [e, it]) hk hf hT new
    have hTn : H T = none := I.hok.fresh hT
    refine ⟨.ref T, _, I1, rfl, ⟨T, x, rfl, hTn, rfl, fun ys hy => by rw [un ys hy]; exact hx⟩, ⟨?_, st'.2.1, hne, hea, hai⟩, fun b hb => ?_⟩
    · exact st'.1
    · have hb' : b < s.heap.objs.size := by
        have e' : b = e ∨ b = it := by simpa using hb
        obtain ⟨old, he0⟩ := he
        rcases e' with z | z
        · rw [z]; exact Heap.lt_size he0
        · rw [z]; obtain ⟨o, ho, _⟩ := iterK_obj hit; exact Heap.lt_size ho
      rw [upd_ne (Nat.ne_of_lt (Nat.lt_of_lt_of_le hb' hT))]
      exact (hf b hb).1
  done := by
    intro X hP hw hK hc i pins s σ H E I hf st hg
    subst hP hw hK
    obtain ⟨he, hit, hne, hea, hai⟩ := st
    obtain ⟨xs, hq, hx⟩ := hg
    obtain ⟨its, rv, p, hlt, un⟩ := sqk_raw I hq
    have hh : X.A.in1.handled = none := I.ok.hd hc
    have W := GoesN.enumFrom (prog := X.prog) (w := X.w) (A := X.A) (elts := elts) (x1 := kk) (pos := tpos) 0 (drawsK hh it a hai its.toArray k) e hne (by simp [hne, hea]) (by simp)
    have hil : i = its.toArray.size := by rw [List.size_toArray, hx, rv.length]
    rw [hil] at he hit
    exact W.stops s _ E ⟨he, hit, p⟩ fun h' tk hk htk => I.turnedL (t' := tk) (ch := [e, it]) hk hf
  self := fun A i s Q E st h => let ⟨⟨_, he⟩, _⟩ := st; wpAny_pyIter_enum he h

set_option maxHeartbeats 1000000 in
theorem meets_enumerate_newB1 {v : Value} {o : Obj} {H : Heap → Prop} (B : Begins v o H) :
    Meets (Builtin.«enumerate.__new__» ⟨[.type "enumerate", v], []⟩) (fun _ R s => H s.heap ∧
      R (.ok (.ret (.ref (s.heap.push o).objs.size))) { s with heap := (s.heap.push o).push { cls := .type "enumerate", data := .fields #[.none, .bool false, .ref s.heap.objs.size, rawInt 0, .none, .none] } }) :=
  .of_wp fun prog w A R s h => by
    obtain ⟨hp, g, d, tk, os⟩ := s; obtain ⟨h1, h⟩ := h
    have hsub := sub_enumerate
    have q1 : ∀ {A' : Around} {E : Value → Shared → Prop} {Q : Value → Shared → Prop}, Q (.ref hp.objs.size) ⟨hp.push o, g, d, tk, os⟩ → wpAny (model prog w) A' (pyIter v) Q E ⟨hp, g, d, tk, os⟩ :=
      fun q => B.iter prog w _ _ ⟨hp, g, d, tk, os⟩ _ h1 q
    wp_walk using q1
    refine wpAny_stack_any fun st => wpAny_pure ?_
    split
    · rename_i c _ _ _ _ _
      cases (c == Value.type "enumerate")
      · wp_walk using q1
        exact ⟨_, rfl, h⟩
      · wp_walk using q1
        exact ⟨_, rfl, h⟩
    · wp_walk using q1
      exact ⟨_, rfl, h⟩
section
variable {prog : Program} {w : World} {A : Around} {E : Value → Shared → Prop} {s : Shared}
theorem enum_begins1 {v : Value} {o : Obj} {H : Heap → Prop} {Q : Value → Shared → Prop} (B : Begins v o H) (h1 : H s.heap)
    (h : ∀ h', IsEnum h' (s.heap.objs.size + 1) s.heap.objs.size 0 .none → h'.get? s.heap.objs.size = some o → h'.objs.size = s.heap.objs.size + 2 →
      (∀ b o, s.heap.get? b = some o → h'.get? b = some o) → Q (.ref (s.heap.objs.size + 1)) { s with heap := h' }) :
    wpAny (model prog w) A (call (.type "enumerate") [v]) Q E s := by
  refine callType_new F.called_enumerate (by decide) (F.typeCall_enumerate_1 _) (F.newCall_enumerate_1 _) (fun obj => F.args_object_init_2 obj _) F.entry_enumerate_new
    (meets_enumerate_newB1 B) ⟨h1, ?_⟩
  have hz : (s.heap.push o).objs.size = s.heap.objs.size + 1 := Heap.size_push ..
  show _ ∧ _
  rw [hz]
  have he : IsEnum ((s.heap.push o).push { cls := .type "enumerate", data := .fields #[.none, .bool false, .ref s.heap.objs.size, rawInt 0, .none, .none] }) (s.heap.objs.size + 1) s.heap.objs.size 0 .none := by
    have := Heap.get?_push_size (s.heap.push o) (o := { cls := .type "enumerate", data := .fields #[.none, .bool false, .ref s.heap.objs.size, rawInt 0, .none, .none] }) rfl
    rw [hz] at this; exact this
  refine ⟨⟨_, he, rfl⟩, h _ he (Heap.get?_push_of_some _ (Heap.get?_push_size _ B.free)) (by rw [Heap.size_push, hz]) fun b o x => Heap.get?_push_of_some _ (Heap.get?_push_of_some _ x)⟩
end
theorem begK (k : Bool) (a : Addr) (items : Array Value) : ∃ o, Begins (.ref a) o (fun h => SeqK k h a items) ∧ ∀ (h : Heap) (it : Addr), h.get? it = some o → IterK k h it a 0 := by
  cases k with
  | true => exact ⟨_, begins_list a items, fun h it e => ⟨_, e, rfl, rfl⟩⟩
  | false => exact ⟨_, begins_tuple a items, fun h it e => ⟨_, e, rfl, rfl⟩⟩
def iEnumK (K : PySem.W.Frag) (ta : TA) : L2.TI := fun σ H R => ta σ H fun vs H1 => ∃ k a xs, vs = [.ref a] ∧ SqK k K H1 a xs ∧ R (IteK k K a) H1
theorem ki_enum {X : Cx} {K : PySem.W.Frag} {e : Expr} {ta : TA} {p pos tpos : Pos} {elts : List Expr} {kk : Nat} (hg : Gl X "enumerate") (hm : X.mg "enumerate" = none) (ha : PA X [e] ta) (hK : X.K = K := by rfl) (hs : starEach [e] X.env = [(false, eval e X.env)] := by rfl) :
    PI X (.Tuple elts kk tpos) (.Call (.Name "enumerate" p) [e] [] pos) (iEnumK K ta) := by
  subst hK
  refine ⟨fun pins s σ H R I h => ?_⟩
  refine Call_ (ld_blt I hg hm boot_enumerate (PyProof.Rows.callWith_type1 (thn (ha.run pos pins s σ H _ I h) fun us s1 ⟨vs, H1, I1, r1, q1⟩ => ?_) hs rfl))
  obtain ⟨k, a, xs, ex, hq, q⟩ := q1
  subst ex
  cases r1 with
  | cons r rr =>
    cases rr
    cases r
    obtain ⟨its, rv, p', hlt, un⟩ := sqk_raw I1 hq
    obtain ⟨o, Bg, ho⟩ := begK k a its.toArray
    refine enum_begins1 Bg p' fun h' he hit hsz hk => wpAny_pyIter_enum he ?_
    have I2 : Inv X pins σ H1 { s1 with heap := h' } := I1.kept (t' := s1.toks) hk
    refine ⟨s1.heap.objs.size + 1, [s1.heap.objs.size + 1, s1.heap.objs.size], _, _, H1, rfl, I2, turn_enumK k a (s1.heap.objs.size + 1) s1.heap.objs.size, ⟨⟨.none, he⟩, ho _ _ hit, Nat.succ_ne_self _, ?_, ?_⟩, fun b hb => ?_, q⟩
    · exact Nat.ne_of_gt (Nat.lt_succ_of_lt hlt)
    · exact Nat.ne_of_lt hlt
    · have e' : b = s1.heap.objs.size + 1 ∨ b = s1.heap.objs.size := by simpa using hb
      have hle : s1.heap.objs.size ≤ b := by
        rcases e' with z | z
        · rw [z]; exact Nat.le_add_right _ _
        · rw [z]; exact Nat.le_refl _
      exact I1.fpOk hle (I1.hok.fresh hle)
/-! ### zip of two -/
def ItzK (k1 k2 : Bool) (K : PySem.W.Frag) (a b : Addr) : It :=
  ⟨fun i H => ∃ (xs ys : List V) (x y : V), SqK k1 K H a xs ∧ SqK k2 K H b ys ∧ xs[i]? = some x ∧ ys[i]? = some y,
    fun i H v H' => ∃ T x y, v = .ref T ∧ H T = none ∧ H' = upd H T (.tup [x, y]) ∧ (∀ xs, SqK k1 K H a xs → xs[i]? = some x) ∧ ∀ ys, SqK k2 K H b ys → ys[i]? = some y,
    fun i H => ∃ xs ys : List V, SqK k1 K H a xs ∧ SqK k2 K H b ys ∧ i = min xs.length ys.length⟩
theorem turn_zipK {P : Program} {w : World} {K : PySem.W.Frag} {elts : List Expr} {kk : Nat} {tpos : Pos} (k1 k2 : Bool) {a b N : Addr} (hla : a < N) (hlb : b < N) :
    Turn P w K (.Tuple elts kk tpos) (ItzK k1 k2 K a b) [N + 4, N + 2, N + 3, N, N + 1] (N + 4) (fun i h => IsZip h (N + 4) (N + 2) (N + 3) .none ∧ IsTupOf2 h (N + 2) (.ref N) (.ref (N + 1)) ∧ (∃ x y, IsTupOf2 h (N + 3) x y) ∧ IterK k1 h N a i ∧ IterK k2 h (N + 1) b i) where
  mem := by simp
  obj := fun i h st c hc => by
    obtain ⟨hz, hTI, ⟨x, y, hTO⟩, h1, h2⟩ := st
    have e' : c = N + 4 ∨ c = N + 2 ∨ c = N + 3 ∨ c = N ∨ c = N + 1 := by simpa using hc
    rcases e' with q | q | q | q | q
    · rw [q]; exact ⟨_, hz, fun v q => nomatch q⟩
    · rw [q]; exact ⟨_, hTI, fun v q => nomatch q⟩
    · rw [q]; exact ⟨_, hTO, fun v q => nomatch q⟩
    · rw [q]; exact iterK_obj h1
    · rw [q]; exact iterK_obj h2
  keep := fun i h h' st k => by
    obtain ⟨hz, hTI, ⟨x, y, hTO⟩, h1, h2⟩ := st
    exact ⟨k (N + 4) (by simp) _ hz, k (N + 2) (by simp) _ hTI, ⟨x, y, k (N + 3) (by simp) _ hTO⟩, iterK_at h1 fun o q => k N (by simp) o q, iterK_at h2 fun o q => k (N + 1) (by simp) o q⟩
  item := by
    intro X hP hw hK hc i pins s σ H E I hf st hg
    subst hP hw hK
    obtain ⟨hz, hTI, ⟨x0, y0, hTO⟩, h1, h2⟩ := st
    obtain ⟨xs, ys, x, y, hqx, hqy, hx, hy⟩ := hg
    obtain ⟨its, rv, p, _, un⟩ := sqk_raw I hqx
    obtain ⟨its2, rv2, p2, _, un2⟩ := sqk_raw I hqy
    obtain ⟨u, hu, ru⟩ := rv.get hx
    obtain ⟨u2, hu2, ru2⟩ := rv2.get hy
    have hh : X.A.in1.handled = none := I.ok.hd hc
    have W := GoesN.zip2 (prog := X.prog) (w := X.w) (A := X.A) (elts := elts) (x1 := kk) (pos := tpos) (zip_sep2 (N := N) (fp1 := [a]) (fp2 := [b]) (by simpa using hla) (by simpa using hlb)) (drawsK hh N a (Nat.ne_of_lt hla) its.toArray k1) (drawsK hh (N + 1) b (Nat.ne_of_lt (Nat.lt_succ_of_lt hlb)) its2.toArray k2)
    have hil : i < min its.toArray.size its2.toArray.size := by
      rw [List.size_toArray, List.size_toArray]
      exact Nat.lt_min.mpr ⟨(List.getElem?_eq_some_iff.mp hu).1, (List.getElem?_eq_some_iff.mp hu2).1⟩
    refine W.goes i s _ E hil ⟨hz, hTI, ⟨x0, y0, hTO⟩, ⟨h1, p⟩, ⟨h2, p2⟩⟩ fun v h' tk hY st' hk htk => ?_
    obtain ⟨T, y1, y2, rfl, hT, hy1, hy2, hTup⟩ := hY
    have ey : y1 = u := by
      have h1 : its[i]? = some y1 := by simpa using hy1
      rw [hu] at h1
      exact (Option.some.inj h1).symm
    have ey2 : y2 = u2 := by
      have h1 : its2[i]? = some y2 := by simpa using hy2
      rw [hu2] at h1
      exact (Option.some.inj h1).symm
    subst ey ey2
    have new : ObjOk X.prog X.w (upd H T (.tup [x, y])) h' T (.tup [x, y]) :=
      ⟨by show 2 ≤ sizeLine; decide, [y1, y2], .cons ru (.cons ru2 .nil), hTup⟩
    have I1 := I.turnedNew (t' := tk) (ch := [N + 4, N + 2, N + 3, N, N + 1]) (fun b o hb y => hk b o (fun hm => hb (by
      have e' : b = N + 4 ∨ b = N + 3 ∨ b = N ∨ b = N + 1 := by simpa using hm
      rcases e' with q | q | q | q <;> simp [q])) y) hf hT new
    have hTn : H T = none := I.hok.fresh hT
    refine ⟨.ref T, _, I1, rfl, ⟨T, x, y, rfl, hTn, rfl, fun ys hy => by rw [un ys hy]; exact hx, fun ys hy' => by rw [un2 ys hy']; exact hy⟩, ⟨st'.1, st'.2.1, st'.2.2.1, st'.2.2.2.1.1, st'.2.2.2.2.1⟩, fun c hcm => ?_⟩
    have hlt : c < s.heap.objs.size := by
      have e' : c = N + 4 ∨ c = N + 2 ∨ c = N + 3 ∨ c = N ∨ c = N + 1 := by simpa using hcm
      rcases e' with q | q | q | q | q
      · rw [q]; exact Heap.lt_size hz
      · rw [q]; exact Heap.lt_size hTI
      · rw [q]; exact Heap.lt_size hTO
      · rw [q]; obtain ⟨o, ho, _⟩ := iterK_obj h1; exact Heap.lt_size ho
      · rw [q]; obtain ⟨o, ho, _⟩ := iterK_obj h2; exact Heap.lt_size ho
    rw [upd_ne (Nat.ne_of_lt (Nat.lt_of_lt_of_le hlt hT))]
    exact (hf c hcm).1
  done := by
    intro X hP hw hK hc i pins s σ H E I hf st hg
    subst hP hw hK
    obtain ⟨hz, hTI, ⟨x0, y0, hTO⟩, h1, h2⟩ := st
    obtain ⟨xs, ys, hqx, hqy, hx⟩ := hg
    obtain ⟨its, rv, p, _, un⟩ := sqk_raw I hqx
    obtain ⟨its2, rv2, p2, _, un2⟩ := sqk_raw I hqy
    have hh : X.A.in1.handled = none := I.ok.hd hc
    have W := GoesN.zip2 (prog := X.prog) (w := X.w) (A := X.A) (elts := elts) (x1 := kk) (pos := tpos) (zip_sep2 (N := N) (fp1 := [a]) (fp2 := [b]) (by simpa using hla) (by simpa using hlb)) (drawsK hh N a (Nat.ne_of_lt hla) its.toArray k1) (drawsK hh (N + 1) b (Nat.ne_of_lt (Nat.lt_succ_of_lt hlb)) its2.toArray k2)
    have hil : i = min its.toArray.size its2.toArray.size := by rw [List.size_toArray, List.size_toArray, hx, rv.length, rv2.length]
    rw [hil] at h1 h2
    exact W.stops s _ E ⟨hz, hTI, ⟨x0, y0, hTO⟩, ⟨h1, p⟩, ⟨h2, p2⟩⟩ fun h' tk hk htk => I.turnedL (t' := tk) (ch := [N + 4, N + 2, N + 3, N, N + 1]) (fun b o hb y => hk b o (fun hm => hb (by
      have e' : b = N + 4 ∨ b = N + 3 ∨ b = N ∨ b = N + 1 := by simpa using hm
      rcases e' with q | q | q | q <;> simp [q])) y) hf
  self := fun A i s Q E st h => wpAny_pyIter_zip st.1 h
def iZipK (K : PySem.W.Frag) (ta : TA) : L2.TI := fun σ H R => ta σ H fun vs H1 => ∃ k1 k2 a b xs ys, vs = [.ref a, .ref b] ∧ SqK k1 K H1 a xs ∧ SqK k2 K H1 b ys ∧ R (ItzK k1 k2 K a b) H1
theorem ki_zip {X : Cx} {K : PySem.W.Frag} {e e2 : Expr} {ta : TA} {p pos tpos : Pos} {elts : List Expr} {kk : Nat} (hg : Gl X "zip") (hm : X.mg "zip" = none) (ha : PA X [e, e2] ta) (hK : X.K = K := by rfl)
    (hs : starEach [e, e2] X.env = (false, eval e X.env) :: starEach [e2] X.env := by rfl) (hpl : (backTo pos (starEach [e2] X.env)).any (·.1) = false := by rfl) :
    PI X (.Tuple elts kk tpos) (.Call (.Name "zip" p) [e, e2] [] pos) (iZipK K ta) := by
  subst hK
  refine ⟨fun pins s σ H R I h => ?_⟩
  refine Call_ (ld_blt I hg hm PyProof.Rows.boot_zip (PyProof.Rows.callWith_type1 (thn (ha.run pos pins s σ H _ I h) fun us s1 ⟨vs, H1, I1, r1, q1⟩ => ?_) hs hpl))
  obtain ⟨k1, k2, a, b, xs, ys, ex, hqx, hqy, q⟩ := q1
  subst ex
  cases r1 with
  | cons r rr =>
    cases rr with
    | cons r' rr =>
      cases rr
      cases r
      cases r'
      obtain ⟨its, rv, p', hlt, un⟩ := sqk_raw I1 hqx
      obtain ⟨its2, rv2, p2, hlt2, un2⟩ := sqk_raw I1 hqy
      obtain ⟨o, Bg, ho⟩ := begK k1 a its.toArray
      obtain ⟨o2, Bg2, ho2⟩ := begK k2 b its2.toArray
      refine zip_begins2 Bg Bg2 p' p2 fun h' hz hTI hTO h1 h2 hsz hk => wpAny_pyIter_zip hz ?_
      have I2 : Inv X pins σ H1 { s1 with heap := h' } := I1.kept (t' := s1.toks) hk
      refine ⟨s1.heap.objs.size + 4, [s1.heap.objs.size + 4, s1.heap.objs.size + 2, s1.heap.objs.size + 3, s1.heap.objs.size, s1.heap.objs.size + 1], _, _, H1, rfl, I2, turn_zipK k1 k2 hlt hlt2, ⟨hz, hTI, ⟨_, _, hTO⟩, ho _ _ h1, ho2 _ _ h2⟩, fun c hcm => ?_, q⟩
      have e' : c = s1.heap.objs.size + 4 ∨ c = s1.heap.objs.size + 2 ∨ c = s1.heap.objs.size + 3 ∨ c = s1.heap.objs.size ∨ c = s1.heap.objs.size + 1 := by simpa using hcm
      have hle : s1.heap.objs.size ≤ c := by
        rcases e' with z | z | z | z | z
        · rw [z]; exact Nat.le_add_right _ _
        · rw [z]; exact Nat.le_add_right _ _
        · rw [z]; exact Nat.le_add_right _ _
        · rw [z]; exact Nat.le_refl _
        · rw [z]; exact Nat.le_add_right _ _
      exact I1.fpOk hle (I1.hok.fresh hle)
/-! ### what comes from them -/
section
variable {K : PySem.W.Frag} {σ : L2.St} {B B' H H' : Hp} {te : TE} {ta : TA} {ds es : List PyData}
def Qs (k : Bool) (ds : List PyData) : PyData := if k then .list ds else .tuple ds
theorem dp_qs {k : Bool} {v : V} (h : Dp K B v (Qs k ds)) : ∃ a xs, v = .ref a ∧ SqK k K B a xs ∧ DpAll K B xs ds := by
  cases k with
  | true => exact dp_lst_inv h
  | false => exact dp_tup_inv h
def enumD (ds : List PyData) : List PyData := (List.range ds.length).map fun i => .tuple [.int (i : Nat), ds.getD i .none]
def zipD (ds es : List PyData) : List PyData := (List.range (min ds.length es.length)).map fun i => .tuple [ds.getD i .none, es.getD i .none]
theorem ei_enum (k : Bool) (h : EA ta σ B [Da K (Qs k ds)]) : EI K (iEnumK K ta) σ B (enumD ds) := fun B1 H a b R q => h B1 H a b _ fun vs B2 H2 g p => by
  obtain ⟨v, rfl, p'⟩ := all2_1 p
  obtain ⟨x, xs, rfl, hs, ha⟩ := dp_qs p'
  have hlen : (enumD ds).length = ds.length := by simp [enumD]
  refine ⟨k, x, xs, rfl, sqk_mono g.bh hs, q _ B2 H2 g ⟨fun i H hi e => ?_, fun H e => ?_, fun i H x' H' B3 d hd e1 e2 y => ?_⟩⟩
  · rw [hlen] at hi
    have hi' : i < xs.length := by rw [dpa_length ha]; exact hi
    exact ⟨xs, xs[i], sqk_mono e hs, List.getElem?_eq_getElem hi'⟩
  · exact ⟨xs, sqk_mono e hs, by rw [hlen, dpa_length ha]⟩
  · obtain ⟨T, x1, rfl, hT, rfl, f⟩ := y
    have hi : i < ds.length := by
      have := (List.getElem?_eq_some_iff.mp hd).1
      rwa [hlen] at this
    have hx := f xs (sqk_mono (e1.trans e2) hs)
    obtain ⟨d', hd', r⟩ := dpa_get ha hx
    have e : d = .tuple [.int (i : Nat), d'] := by
      rw [enumD, List.getElem?_map, List.getElem?_range hi] at hd
      rw [← Option.some.inj hd]
      show PyData.tuple [.int (i : Nat), ds.getD i .none] = _
      rw [List.getD_eq_getElem?_getD, hd']
      rfl
    subst e
    exact ⟨_, .new e2 hT, dp_tup upd_same (.cons (.int _) (.cons (dp_mono (e1.trans (same_new (e2.free hT))) _ _ r) .nil))⟩
theorem ei_zip (k1 k2 : Bool) (h : EA ta σ B [Da K (Qs k1 ds), Da K (Qs k2 es)]) : EI K (iZipK K ta) σ B (zipD ds es) := fun B1 H a b R q => h B1 H a b _ fun vs B2 H2 g p => by
  obtain ⟨v, v2, rfl, p', p2⟩ := all2_2 p
  obtain ⟨x, xs, rfl, hs, ha⟩ := dp_qs p'
  obtain ⟨x2, ys, rfl, hs2, ha2⟩ := dp_qs p2
  have hlen : (zipD ds es).length = min ds.length es.length := by simp [zipD]
  refine ⟨k1, k2, x, x2, xs, ys, rfl, sqk_mono g.bh hs, sqk_mono g.bh hs2, q _ B2 H2 g ⟨fun i H hi e => ?_, fun H e => ?_, fun i H x' H' B3 d hd e1 e2 y => ?_⟩⟩
  · rw [hlen] at hi
    have hi' : i < xs.length := by rw [dpa_length ha]; omega
    have hi2 : i < ys.length := by rw [dpa_length ha2]; omega
    exact ⟨xs, ys, xs[i], ys[i], sqk_mono e hs, sqk_mono e hs2, List.getElem?_eq_getElem hi', List.getElem?_eq_getElem hi2⟩
  · exact ⟨xs, ys, sqk_mono e hs, sqk_mono e hs2, by rw [hlen, dpa_length ha, dpa_length ha2]⟩
  · obtain ⟨T, x1, y1, rfl, hT, rfl, f, f2⟩ := y
    have hi : i < min ds.length es.length := by
      have := (List.getElem?_eq_some_iff.mp hd).1
      rwa [hlen] at this
    have hx := f xs (sqk_mono (e1.trans e2) hs)
    have hy := f2 ys (sqk_mono (e1.trans e2) hs2)
    obtain ⟨d1, hd1, r1⟩ := dpa_get ha hx
    obtain ⟨d2, hd2, r2⟩ := dpa_get ha2 hy
    have e : d = .tuple [d1, d2] := by
      rw [zipD, List.getElem?_map, List.getElem?_range hi] at hd
      rw [← Option.some.inj hd]
      show PyData.tuple [ds.getD i .none, es.getD i .none] = _
      rw [List.getD_eq_getElem?_getD, hd1, List.getD_eq_getElem?_getD, hd2]
      rfl
    subst e
    have em : Same B2 (upd B3 T (.tup [x1, y1])) := e1.trans (same_new (e2.free hT))
    exact ⟨_, .new e2 hT, dp_tup upd_same (.cons (dp_mono em _ _ r1) (.cons (dp_mono em _ _ r2) .nil))⟩
theorem enumD_map {α : Type} (xs : List α) (f : α → PyData) (d : α) : enumD (xs.map f) = (List.range xs.length).map fun i => .tuple [.int (i : Nat), f (xs.getD i d)] := by
  unfold enumD
  rw [List.length_map]
  refine List.map_congr_left fun i hi => ?_
  have hi : i < xs.length := List.mem_range.mp hi
  simp [List.getD_eq_getElem?_getD, List.getElem?_map, List.getElem?_eq_getElem hi]
theorem zipD_map {α β : Type} (xs : List α) (ys : List β) (f : α → PyData) (g : β → PyData) : zipD (xs.map f) (ys.map g) = (xs.zip ys).map fun p => .tuple [f p.1, g p.2] := by
  unfold zipD
  refine List.ext_getElem? fun i => ?_
  rw [List.length_map, List.length_map, List.getElem?_map, List.getElem?_map]
  by_cases hi : i < min xs.length ys.length
  · have h1 : i < xs.length := by omega
    have h2 : i < ys.length := by omega
    rw [List.getElem?_range hi]
    have : (xs.zip ys)[i]? = some (xs[i], ys[i]) := by
      rw [List.getElem?_eq_getElem (by rw [List.length_zip]; exact hi), List.getElem_zip]
    rw [this]
    simp [List.getD_eq_getElem?_getD, List.getElem?_map, List.getElem?_eq_getElem h1, List.getElem?_eq_getElem h2]
  · rw [List.getElem?_eq_none (by rw [List.length_range]; omega), List.getElem?_eq_none (by rw [List.length_zip]; omega)]
    rfl
end
end CN
set_option Elab.async false
set_option linter.all false
set_option maxRecDepth 100000
set_option maxHeartbeats 4000000
/-! KS0: sets of ints, sorted. -/
namespace CN
open PySem PySem.Spec PyProof.Rows L2
section
variable {P : Program} {w : World} {A : Around} {E : Value → Shared → Prop} {s : Shared}
theorem call_set_lstI {l : Addr} {items : Array Value} (ns : List Int) {Q : Value → Shared → Prop} (hh : A.handled = none) (hl : s.heap.IsList l items) (hit : IntsAre items.toList ns) (hb : ns.length + 1 < scanBound)
    (h : ∀ (h' : Heap) (tk c : Nat), SetR w h' s.heap.objs.size (fun j => decide (j ∈ ns)) c → c ≤ ns.length → (∀ b o, s.heap.get? b = some o → h'.get? b = some o) → Q (.ref s.heap.objs.size) { s with heap := h', toks := tk }) :
    wpAny (model P w) A (call (.type "set") [.ref l]) Q E s := by
  have hisz : items.size = ns.length := by
    have q := IntsAre.length hit
    rw [Array.length_toList] at q
    exact q
  obtain ⟨c, tl, hmro⟩ := F.called_set.mro
  have hmade := F.called_set.made
  have hsub := F.called_set.sub
  refine wpAny_call (codeAny_of_tree ?_)
  show wpAny _ _ (callAny (.type "set") _) _ _ _
  refine wpAny_pure ⟨Code.quiet_builtin _ (by decide +kernel), codeAny_builtin F.entry_type_call ?_⟩
  rw [Around.under_plain (weight_type_call_type "set" [.ref l] []) rfl]
  have h1 := F.called_set.notType
  have h2 := F.called_set.canCreate
  have hct := F.typeCall_set_1 (.ref l)
  repeat (any_goals (first | assumption | wp_step))

  refine codeAny_mono (code_set_led1 (.ref l) (E := E) (Q₁ := fun obj s₁ => obj = .ref s.heap.objs.size ∧ s₁ = { s with heap := s.heap.push { cls := .type "set", dict := none, data := .set #[] 0 (.fresh 0 0 (!w.params.followText "set-order")) } }) ⟨rfl, rfl⟩) fun r s₁ hr => ?_
  cases r with
  | error e => exact hr
  | ok fl =>
    cases fl with
    | ret obj =>
      obtain ⟨rfl, rfl⟩ := hr
      have hS : (s.heap.push { cls := .type "set", dict := none, data := .set #[] 0 (.fresh 0 0 (!w.params.followText "set-order")) }).get? s.heap.objs.size = some { cls := .type "set", dict := none, data := .set #[] 0 (.fresh 0 0 (!w.params.followText "set-order")) } := Heap.get?_push_size _ rfl
      have hT : Shared.TypeIs { s with heap := s.heap.push { cls := .type "set", dict := none, data := .set #[] 0 (.fresh 0 0 (!w.params.followText "set-order")) } } (.ref s.heap.objs.size) "set" := ⟨_, hS, rfl⟩
      have hli := F.called_set.init.lookup
      have hbi := F.called_set.init.bind (.ref s.heap.objs.size)
      repeat (any_goals (first | assumption | wp_step))

      refine codeAny_mono (codeAny_call_builtin (R := wants (fun r s₂ => r = .none ∧ ∃ h' tk c, s₂ = { s with heap := h', toks := tk } ∧ SetR w h' s.heap.objs.size (fun j => decide (j ∈ ns)) c ∧ c ≤ ns.length ∧
          (∀ b o, s.heap.get? b = some o → h'.get? b = some o)) E) F.called_set.init.plain F.entry_set_init (check_set_init_1 hT ?_)) fun r₂ s₂ hr₂ => ?_
      · obtain ⟨ol, hol, hcl, nl, hdl⟩ := hl
        obtain ⟨ocls, odict, odata, oslots⟩ := ol
        simp only at hcl hdl
        subst hcl; subst hdl
        have hol' : (s.heap.push { cls := .type "set", dict := none, data := .set #[] 0 (.fresh 0 0 (!w.params.followText "set-order")) }).get? l = some { cls := .type "list", dict := odict, data := .seq items nl, slots := oslots } := Heap.get?_push_of_some _ hol
        have hsls := F.sub_list_set
        have hslf := F.sub_list_frozenset
        have hne : (Value.type "list" == Value.type "dict") = false := by decide
        have hl1 : (s.heap.push { cls := .type "set", dict := none, data := .set #[] 0 (.fresh 0 0 (!w.params.followText "set-order")) }).IsList l items := ⟨_, hol', rfl, nl, rfl⟩
        unfold Builtin.«set.__init__» noKeywords Builtin.Frozenset.updateFrom
        generalize hPI : pyIter = PI
        wp_walk
        subst hPI

        refine wpAny_pyIter_list hl1 ?_
        refine wpAny_bind (wpAny_runValue ?_)
        have hlS : l < s.heap.objs.size := Heap.lt_size hol
        have hh3 : A.in1.in1.in1.handled = none := by simp [hh]
        have hz1 : (s.heap.push { cls := .type "set", dict := none, data := .set #[] 0 (.fresh 0 0 (!w.params.followText "set-order")) }).objs.size = s.heap.objs.size + 1 := Heap.size_push ..
        have hneI : l ≠ (s.heap.push { cls := .type "set", dict := none, data := .set #[] 0 (.fresh 0 0 (!w.params.followText "set-order")) }).objs.size := by
          rw [Heap.size_push]; exact Nat.ne_of_lt (Nat.lt_succ_of_lt hlS)
        have hSf : s.heap.objs.size ∉ [(s.heap.push { cls := .type "set", dict := none, data := .set #[] 0 (.fresh 0 0 (!w.params.followText "set-order")) }).objs.size, l] := by
          rw [Heap.size_push]; simp only [List.mem_cons, List.mem_singleton, List.not_mem_nil, or_false, not_or]
          exact ⟨Nat.ne_of_lt (Nat.lt_succ_self _), Nat.ne_of_gt hlS⟩
        have hval : ∀ (i : Nat) (v : Value), items[i]? = some v → ∃ k t, ns[i]? = some k ∧ v = .int k t := fun i v hv => by
          have hi : i < ns.length := by rw [← hisz]; exact (Array.getElem?_eq_some_iff.mp hv).1
          obtain ⟨t, e⟩ := PyProof.Rows.IntsAre.int_at hit i v (by rw [Array.getElem?_toList]; exact hv)
          refine ⟨ns[i], t, List.getElem?_eq_getElem hi, ?_⟩
          rw [e, List.getD_eq_getElem?_getD, List.getElem?_eq_getElem hi] <;> rfl
        refine set_update_ints ((Walks.list hh3 _ l hneI items).toS) s.heap.objs.size
          hSf ns hisz hb hval (items.size - 0) 0 _ (by omega) (Nat.zero_le _)
          ⟨⟨_, Heap.get?_push_size _ rfl, rfl, rfl⟩, (hl1.push _)⟩ ?hS0 ?hR
        case hS0 =>
          have hget : ((s.heap.push { cls := .type "set", dict := none, data := .set #[] 0 (.fresh 0 0 (!w.params.followText "set-order")) }).push { cls := .type "list_iterator", data := .fields #[.ref l, .int 0 0] }).get? s.heap.objs.size
              = some { cls := .type "set", dict := none, data := .set #[] 0 (.fresh 0 0 (!w.params.followText "set-order")) } := Heap.get?_push_of_some _ hS
          exact ⟨0, Nat.le_refl 0, setR_new_at hget⟩
        case hR =>
          intro s' c' hm hc' hS'
          obtain ⟨h', g2, d', tk', os'⟩ := s'
          have eg : g2 = s.gens := hm.gens
          have ed : d' = s.drawn := hm.drawn
          have eo : os' = s.os := hm.os
          subst eg; subst ed; subst eo
          show wpAny _ _ _ _ _ _
          refine wpAny_pure ?_
          show wpAny _ _ (ret Value.none) _ _ _
          rw [hisz] at hc'
          refine wpAny_pure ⟨rfl, h', tk', c', rfl, hS', hc', fun b o e => ?_⟩
          have hb0 : b < s.heap.objs.size := Heap.lt_size e
          have hb1 : b ≠ s.heap.objs.size := Nat.ne_of_lt hb0
          have hb2 : b ≠ (s.heap.push { cls := .type "set", dict := none, data := .set #[] 0 (.fresh 0 0 (!w.params.followText "set-order")) }).objs.size := by
            rw [Heap.size_push]; exact Nat.ne_of_lt (Nat.lt_succ_of_lt hb0)
          exact hm.heap b o (by simp only [List.mem_cons, List.mem_singleton, List.not_mem_nil, or_false, not_or]; exact ⟨hb1, hb2⟩) (Heap.get?_push_of_some _ (Heap.get?_push_of_some _ e))

      · cases r₂ with
        | error e => exact hr₂
        | ok fl₂ =>
          cases fl₂ with
          | ret r =>
            obtain ⟨rfl, h', tk, c', rfl, hS', hc', hk'⟩ := hr₂
            repeat (any_goals (first | assumption | wp_step))
            exact h _ _ _ hS' hc' hk'
          | _ => exact hr₂.elim
    | _ => exact hr.elim


end
end CN
set_option Elab.async false
set_option linter.all false
set_option maxRecDepth 100000
set_option maxHeartbeats 4000000
/-! KS: sets of ints, sorted. -/
namespace CN
open PySem PySem.Spec PyProof.Rows L2
/-! ### set(ints) -/
def rSetTL (w : World) (K : PySem.W.Frag) : List V → Hp → VK → Prop := fun vs H Q => ∃ (k : Bool) (a : Addr) (ns : List Int), vs = [.ref a] ∧ SqK k K H a (ns.map V.int) ∧ ns.length ≤ 1000 ∧
  ∀ (c : Nat) (p : Addr), c ≤ ns.length → H p = none → Q (.ref p) (upd H p (SetO w p (fun j => decide (j ∈ ns)) c))
theorem cr_setTL {X : Cx} (hc : X.calm = true) : CallR X (.type "set") (rSetTL X.w X.K) := by
  intro pins s σ H vs us Q I r h
  obtain ⟨k, a, ns, rfl, hs, hl, q⟩ := h
  obtain ⟨its, rv, p, _, _⟩ := sqk_raw I hs
  rw [Vals.ref1 r]
  have hi : IntsAre its.toArray.toList ns := ints_of_vals rv
  have hd := I.ok.hd hc
  have fin : ∀ (h' : Heap) (tk c : Nat), SetR X.w h' s.heap.objs.size (fun j => decide (j ∈ ns)) c → c ≤ ns.length → (∀ b o, s.heap.get? b = some o → h'.get? b = some o) → EP X pins σ Q (.ref s.heap.objs.size) { s with heap := h', toks := tk } := fun h' tk c R hcn kk =>
    ⟨.ref _, upd H s.heap.objs.size (SetO X.w s.heap.objs.size (fun j => decide (j ∈ ns)) c), I.laid (t' := tk) kk (Nat.le_refl _) (setO_new R), rfl, q c _ hcn (I.hok.fresh (Nat.le_refl _))⟩
  cases k with
  | true => exact call_set_lstI ns hd p hi (by unfold scanBound; omega) fin
  | false => exact call_set_tupI ns hd p hi (by unfold scanBound; omega) fin
/-! ### sorted(data) -/
theorem vals_each {R : V → Value → Prop} : ∀ {xs : List V} {us : List Value}, Vals xs us → ∀ {ds : List PyData}, xs.length = ds.length → PySem.W.EachIs (fun u (b : V × PyData) => RelV b.1 u ∧ b ∈ xs.zip ds) us (xs.zip ds)
  | [], _, .nil, _, _ => by
    rw [List.zip_nil_left]
    exact .nil
  | x :: xs, _, .cons r t, d :: ds, h => by
    rw [List.zip_cons_cons]
    refine .cons ⟨r, List.mem_cons_self ..⟩ ((vals_each (R := R) t (by simpa using h)).mono fun u b hb => ⟨hb.1, List.mem_cons_of_mem _ hb.2⟩)
  | _ :: _, _, .cons _ _, [], h => by simp at h
theorem each_vals {Z : V × PyData → Prop} : ∀ {us : List Value} {bs : List (V × PyData)}, PySem.W.EachIs (fun u (b : V × PyData) => RelV b.1 u ∧ Z b) us bs → Vals (bs.map (·.1)) us
  | _, _, .nil => .nil
  | _, _, .cons r t => .cons r.1 (each_vals t)
theorem dpa_zip {K : PySem.W.Frag} {H : Hp} : ∀ {xs : List V} {ds : List PyData}, DpAll K H xs ds → ∀ b : V × PyData, b ∈ xs.zip ds → Dp K H b.1 b.2
  | _, _, .nil, b, hb => by simp at hb
  | _, _, .cons r t, b, hb => by
    rw [List.zip_cons_cons] at hb
    rcases List.mem_cons.mp hb with rfl | hb
    · exact r
    · exact dpa_zip t b hb
theorem perm_of_map {α β : Type} {f : α → β} {l m : List β} (h : l.Perm m) : ∀ ws : List α, m = ws.map f → ∃ us : List α, us.Perm ws ∧ l = us.map f := by
  induction h with
  | nil => intro ws e; cases ws with
    | nil => exact ⟨[], .refl _, rfl⟩
    | cons a b => cases e
  | cons x h ih => intro ws e; cases ws with
    | nil => cases e
    | cons a b =>
      obtain ⟨e1, e2⟩ := List.cons.inj e
      obtain ⟨us, p, q⟩ := ih b e2
      exact ⟨a :: us, p.cons a, by rw [List.map_cons, q, e1]⟩
  | swap x y l => intro ws e; match ws, e with
    | [], e => cases e
    | [a], e => cases e
    | a :: b :: c, e =>
      obtain ⟨e1, e2⟩ := List.cons.inj e
      obtain ⟨e3, e4⟩ := List.cons.inj e2
      exact ⟨b :: a :: c, List.Perm.swap _ _ _, by rw [List.map_cons, List.map_cons, e1, e3, e4]⟩
  | trans _ _ ih1 ih2 => intro ws e; 
                         obtain ⟨us, p, q⟩ := ih2 ws e
                         obtain ⟨us2, p2, q2⟩ := ih1 us q
                         exact ⟨us2, p2.trans p, q2⟩
theorem dpa_unzip {K : PySem.W.Frag} {H : Hp} : ∀ {bs : List (V × PyData)}, (∀ b, b ∈ bs → Dp K H b.1 b.2) → DpAll K H (bs.map (·.1)) (bs.map (·.2))
  | [], _ => .nil
  | b :: bs, h => .cons (h b (List.mem_cons_self ..)) (dpa_unzip fun c hc => h c (List.mem_cons_of_mem _ hc))
/-- the law's use: data that compare with one another -/
def rSortD (K : PySem.W.Frag) : List V → Hp → VK → Prop := fun vs H Q => ∃ (a : Addr) (xs : List V) (ds : List PyData), vs = [.ref a] ∧ SqL K H a xs ∧ DpAll K H xs ds ∧ PySem.W.AllAlike ds ∧ PySem.W.Sortable ds ∧ (∀ d, d ∈ ds → d.depth ≤ 64) ∧ ds.length ≤ 100000 ∧
  ∀ (bs : List (V × PyData)) (p : Addr), bs = (xs.zip ds).mergeSort (PySem.W.dataLe false fun b : V × PyData => b.2) → H p = none → Q (.ref p) (upd H p (.lst (bs.map (·.1))))
theorem cr_sortD {X : Cx} (hu : X.A.units + 66 < cLine) : CallR X (.builtin "sorted") (rSortD X.K) := by
  intro pins s σ H vs us Q I r h
  obtain ⟨a, xs, ds, rfl, hs, ha, hal, hsb, hdp, hln, q⟩ := h
  obtain ⟨its, rv, hl, hz⟩ := I.list hs
  rw [Vals.ref1 r]
  have hlen := dpa_length ha
  have e := vals_each (R := fun _ _ => True) rv (ds := ds) hlen
  have hsnd : (xs.zip ds).map (·.2) = ds := List.map_snd_zip (by omega)
  have hzl : (xs.zip ds).length = ds.length := by rw [List.length_zip]; omega
  refine PySem.W.sorted_data (bs := xs.zip ds) (enc := fun b : V × PyData => b.2) hl.isList e (e.mono fun u b hb => ?_) (by rw [hsnd]; exact hal) (by rw [hsnd]; exact hsb) (by rw [hzl]; exact sz_of hln) (fun b hb => ?_) fun out ho eo => ?_
  · exact Dp.reads I b.2 b.1 u (dpa_zip ha b hb.2) hb.1
  · have := hdp b.2 (by rw [← hsnd]; exact List.mem_map_of_mem hb)
    omega
  · have pm := List.mergeSort_perm (xs.zip ds) (PySem.W.dataLe false (fun b : V × PyData => b.2))
    obtain ⟨ep, he'⟩ := PyProof.Rows.sortedAll_at s.heap its out.toArray
    have rv' := each_vals eo
    have hsz : (((xs.zip ds).mergeSort (PySem.W.dataLe false fun b : V × PyData => b.2)).map (·.1)).length ≤ sizeLine := by
      rw [List.length_map, pm.length_eq, hzl]
      exact sz_of hln
    exact ⟨.ref _, upd H (s.heap.objs.size + 1) (.lst _), I.laid (t' := s.toks) (fun _ _ => PyProof.Rows.sortedAll_old) (Nat.le_succ _) ⟨hsz, out, ep, rv', he'⟩, rfl, q _ _ rfl (I.hok.fresh (Nat.le_succ _))⟩
def rSortA (w : World) (K : PySem.W.Frag) : List V → Hp → VK → Prop := fun vs H Q => rSortedI K vs H Q ∨ rSortedSet w vs H Q ∨ rSortD K vs H Q
theorem CallR.or3 {X : Cx} {f : Value} {r1 r2 r3 : List V → Hp → VK → Prop} (h1 : CallR X f r1) (h2 : CallR X f r2) (h3 : CallR X f r3) : CallR X f (fun vs H Q => r1 vs H Q ∨ r2 vs H Q ∨ r3 vs H Q) := fun pins s σ H vs us Q I r h => by
  rcases h with h | h | h
  · exact h1 pins s σ H vs us Q I r h
  · exact h2 pins s σ H vs us Q I r h
  · exact h3 pins s σ H vs us Q I r h
theorem ko_sorted {X : Cx} {K : PySem.W.Frag} {w : World} (hc : X.calm = true) (hu : X.A.units + 66 < cLine) (hK : X.K = K := by rfl) (hw : X.w = w := by rfl) : CallR X (.builtin "sorted") (rSortA w K) := by
  subst hK hw
  exact CallR.or3 cr_sortedI (cr_sortedSet hc) (cr_sortD hu)
theorem ko_set {X : Cx} {K : PySem.W.Frag} {w : World} (hc : X.calm = true) (hK : X.K = K := by rfl) (hw : X.w = w := by rfl) : CallR X (.type "set") (rSetTL w K) := by
  subst hK hw
  exact cr_setTL hc
/-! ### in data -/
/-- ascending, each once -/
def ins1 (x : Int) : List Int → List Int
  | [] => [x]
  | y :: ys => if x < y then x :: y :: ys else if x = y then y :: ys else y :: ins1 x ys
def asc : List Int → List Int
  | [] => []
  | x :: xs => ins1 x (asc xs)
theorem mem_ins1 {x z : Int} : ∀ {ys : List Int}, z ∈ ins1 x ys ↔ z = x ∨ z ∈ ys
  | [] => by simp [ins1]
  | y :: ys => by
    unfold ins1
    split
    · simp
    · split
      · rename_i h
        subst h
        simp
      · rw [List.mem_cons, mem_ins1 (ys := ys), List.mem_cons]
        constructor
        · rintro (h | h | h)
          · exact .inr (.inl h)
          · exact .inl h
          · exact .inr (.inr h)
        · rintro (h | h | h)
          · exact .inr (.inl h)
          · exact .inl h
          · exact .inr (.inr h)
theorem mem_asc {z : Int} : ∀ {ys : List Int}, z ∈ asc ys ↔ z ∈ ys
  | [] => by simp [asc]
  | y :: ys => by rw [asc, mem_ins1, mem_asc (ys := ys), List.mem_cons]
theorem ins1_pw {x : Int} : ∀ {ys : List Int}, ys.Pairwise (· < ·) → (ins1 x ys).Pairwise (· < ·)
  | [], _ => by simp [ins1]
  | y :: ys, h => by
    have h1 := List.pairwise_cons.mp h
    unfold ins1
    split
    · rename_i q
      refine List.pairwise_cons.mpr ⟨fun z hz => ?_, h⟩
      rcases List.mem_cons.mp hz with rfl | hz
      · exact q
      · exact Int.lt_trans q (h1.1 z hz)
    · split
      · exact h
      · rename_i q1 q2
        refine List.pairwise_cons.mpr ⟨fun z hz => ?_, ins1_pw h1.2⟩
        rcases mem_ins1.mp hz with rfl | hz
        · omega
        · exact h1.1 z hz
theorem asc_pw : ∀ {ys : List Int}, (asc ys).Pairwise (· < ·)
  | [] => List.Pairwise.nil
  | _ :: ys => ins1_pw asc_pw
theorem asc_is {ns xs : List Int} (h : ns.Pairwise (· < ·)) (k : ∀ z, z ∈ ns ↔ z ∈ xs) : ns = asc xs := CM.asc_ext h asc_pw fun z => by rw [k, mem_asc]
theorem asc_of_pw {xs : List Int} (h : xs.Pairwise (· < ·)) : asc xs = xs := (asc_is h fun _ => Iff.rfl).symm
/-- the sorted list -/
def srt (xs : List Int) : List Int := xs.mergeSort fun a b => decide (a ≤ b)
theorem srt_perm (xs : List Int) : (srt xs).Perm xs := List.mergeSort_perm _ _
theorem srt_is {ns xs : List Int} (h : ns.Pairwise (· ≤ ·)) (k : ns.Perm xs) : ns = srt xs := by
  have p : (srt xs).Pairwise (· ≤ ·) := by
    have := List.pairwise_mergeSort (le := fun a b : Int => decide (a ≤ b)) (fun a b c h1 h2 => by simp at *; omega) (fun a b => by simp; omega) xs
    exact this.imp fun {a b} h => by simpa using h
  exact List.Perm.eq_of_pairwise (fun a b _ _ h1 h2 => Int.le_antisymm h1 h2) h p (k.trans (srt_perm xs).symm)
section
variable {K : PySem.W.Frag} {w : World} {B : Hp}
/-- a set object -/
def Sv (w : World) (ns : List Int) : Pd := fun v B => ∃ (a : Addr) (c : Nat), v = .ref a ∧ B a = some (SetO w a (fun j => decide (j ∈ ns)) c) ∧ c ≤ ns.length
instance {w : World} {ns : List Int} : Mo (Sv w ns) := ⟨fun _ _ _ e ⟨a, c, h1, h2, h3⟩ => ⟨a, c, h1, e _ _ h2, h3⟩⟩
theorem cv_set (k : Bool) {ns : List Int} (hl : ns.length ≤ 1000) : CV (rSetTL w K) B [Da K (Qs k (ns.map .int))] (Sv w ns) := fun vs B1 H _ b p Q q => by
  obtain ⟨x, rfl, px⟩ := all2_1 p
  obtain ⟨a, xs, rfl, hs, ha⟩ := dp_qs px
  rw [dpa_ints_inv ns ha] at hs
  exact ⟨k, a, ns, rfl, sqk_mono b hs, hl, fun c p hc hp => q _ _ _ (.new b hp) ⟨p, c, rfl, upd_same, hc⟩⟩
theorem cv_sset {ns : List Int} (hl : ns.length < 64) : CV (rSortA w K) B [Sv w ns] (Da K (LiI (asc ns))) := fun vs B1 H _ b p Q q => by
  obtain ⟨x, rfl, a, c, rfl, ha, hc⟩ := all2_1 p
  refine .inr (.inl ⟨a, _, c, rfl, b _ _ ha, by omega, fun ms p hm hk hl2 hp => ?_⟩)
  have e : ms = asc ns := asc_is hm fun z => by rw [hk]; simp
  subst e
  exact q _ _ _ (.new b hp) (dp_lst upd_same (dpa_ints _))
theorem cv_sints {ns : List Int} : CV (rSortA w K) B [Da K (LiI ns)] (Da K (LiI (srt ns))) := fun vs B1 H _ b p Q q => by
  obtain ⟨x, rfl, px⟩ := all2_1 p
  obtain ⟨a, rfl, hs⟩ := dp_li_inv px
  refine .inl ⟨a, ns, rfl, sql_mono b hs, fun ms p h1 h2 hp => ?_⟩
  rw [srt_is h2 h1]
  exact q _ _ _ (.new b hp) (dp_lst upd_same (dpa_ints _))
/-- of (int, set) pairs: the order is not told -/
def LP (ws : List (List Int)) : PyData := .list (ws.map fun s => .tuple [.int (s.length : Int), TuI s])
/-- the sets in order -/
def ordS (ws : List (List Int)) : List (List Int) := ws.mergeSort (PySem.W.dataLe false (fun t : List Int => PyData.tuple [.int (t.length : Int), TuI t]))
theorem ordS_perm (ws : List (List Int)) : (ordS ws).Perm ws := List.mergeSort_perm _ _
theorem alikeAll_ints : ∀ (xs ys : List Int), PySem.W.alikeAll (xs.map .int) (ys.map .int) = true
  | [], _ => by simp [PySem.W.alikeAll]
  | _ :: _, [] => by simp [PySem.W.alikeAll]
  | x :: xs, y :: ys => by simp [PySem.W.alikeAll, PySem.W.alike, alikeAll_ints xs ys]
theorem cv_sD {ws : List (List Int)} (hl : ws.length ≤ 1000) : CV (rSortA w K) B [Da K (LP ws)] (Da K (LP (ordS ws))) := fun vs B1 H _ b p Q q => by
  obtain ⟨x, rfl, px⟩ := all2_1 p
  obtain ⟨a, xs, rfl, hs, ha⟩ := dp_lst_inv px
  have hm := dpa_mono b _ _ ha
  refine .inr (.inr ⟨a, xs, _, rfl, sql_mono b hs, hm, ?_, .inl ?_, ?_, by rw [List.length_map]; omega, fun bs p pm hp => ?_⟩)
  · intro d hd d' hd'
    obtain ⟨s, _, rfl⟩ := List.mem_map.mp hd
    obtain ⟨t, _, rfl⟩ := List.mem_map.mp hd'
    simp [PySem.W.alike, PySem.W.alikeAll, alikeAll_ints]
  · intro d hd
    obtain ⟨s, _, rfl⟩ := List.mem_map.mp hd
    exact ⟨_, _, rfl⟩
  · intro d hd
    obtain ⟨s, _, rfl⟩ := List.mem_map.mp hd
    have : Sk 2 (.tuple [.int (s.length : Int), TuI s]) := sk_tup fun e he => by
      rcases List.mem_cons.mp he with rfl | he
      · exact sk_int
      · rcases List.mem_cons.mp he with rfl | he
        · exact sk_ti _
        · cases he
    exact Nat.le_trans this.2 (by decide)
  · have pp : bs.Perm (xs.zip (ws.map fun s => PyData.tuple [.int (s.length : Int), TuI s])) := by rw [pm]; exact List.mergeSort_perm _ _
    have hd : DpAll K B1 (bs.map (·.1)) (bs.map (·.2)) := dpa_unzip fun c hc => dpa_zip ha c (pp.mem_iff.mp hc)
    have hz : (xs.zip (ws.map fun s => PyData.tuple [.int (s.length : Int), TuI s])).map (·.2) = ws.map fun s => PyData.tuple [.int (s.length : Int), TuI s] := List.map_snd_zip (by rw [dpa_length ha]; exact Nat.le_refl _)
    have e1 : bs.map (·.2) = (ordS ws).map fun s => PyData.tuple [.int (s.length : Int), TuI s] := by
      have z1 := List.map_mergeSort (r := PySem.W.dataLe false fun b : V × PyData => b.2) (s := PySem.W.dataLe false fun d : PyData => d) (f := fun b : V × PyData => b.2) (l := xs.zip (ws.map fun s => PyData.tuple [.int (s.length : Int), TuI s])) (fun a _ b _ => rfl)
      have z2 := List.map_mergeSort (r := PySem.W.dataLe false (fun t : List Int => PyData.tuple [.int (t.length : Int), TuI t])) (s := PySem.W.dataLe false fun d : PyData => d) (f := fun t : List Int => PyData.tuple [.int (t.length : Int), TuI t]) (l := ws) (fun a _ b _ => rfl)
      rw [pm, z1, hz, ← z2]
      rfl
    rw [e1] at hd
    exact q _ _ _ (.new b hp) (dp_lst upd_same (dpa_mono (same_new (b.free hp)) _ _ hd))
end
end CN
set_option Elab.async false
set_option linter.all false
set_option maxRecDepth 100000
set_option maxHeartbeats 4000000
/-! KO: sorted(found, key=in_order). -/
namespace CN
open PySem PySem.Spec PyProof.Rows L2
section
variable {P : Program} {w : World} {K : PySem.W.Frag} {mg : Str → Option Value} {base : Heap}
abbrev s_in_order : Stmt := topS 21
abbrev N_in_order : List Str := ["row"]
theorem sc_in_order : FnScope N_in_order ["row"] (defScope s_in_order) := ⟨rfl, rfl, rfl, by decide +kernel, rfl, by decide +kernel, by decide +kernel⟩
theorem readsAll_ints {h : Heap} : ∀ {us : List Value} {ns : List Int}, IntsAre us ns → ReadsAll h us (ns.map .int) []
  | _, _, .nil => .nil
  | _, _, .cons n t r => .cons (as := []) (bs := []) (.int n t) (readsAll_ints r)
theorem in_order_raw {f : Addr} {fd : FuncData} (F : Fun K "in_order" "in_order" s_in_order f fd) (M : Mod K mg base) (hm : mg "len" = none) {A : Around} (hr : A.depth < recursionLimit) (s : Shared) (hk : ∀ b o, base.get? b = some o → s.heap.get? b = some o)
    {a : Addr} {its : List Value} {ns : List Int} (ht : IsTup s.heap a its.toArray) (hi : IntsAre its ns) (hz : its.length ≤ 1000) :
    wpAny (model P w) A (call (.ref f) [.ref a]) (PySem.W.KeyPure (.tuple [.int (ns.length : Int), TuI ns]) s) (fun _ _ => False) s := by
  obtain ⟨oc, od, kV, doc, pm, an, cdv, ct, osl, rfl, lk, hcd⟩ := F.ex
  have KX : K.In s.heap := M.kin.keeps hk
  have lim : s.heap.NoLimit := M.nolimit.keeps hk
  refine wpAny_call (codeAny_call_function hr (KX _ _ lk) rfl sc_in_order.co sc_in_order.gen rfl (PySem.W.codeRec_of KX hcd) ?_)
  rw [show bindArgs (PySem.W.fnOf "in_order" "in_order" (defArgs s_in_order) (defBody s_in_order) (defScope s_in_order) .none kV doc pm an cdv ct) ⟨[.ref a], []⟩ = (pure ((["row"] : List Str).zip [Value.ref a]) : Sem (List (Str × Value))) from rfl]
  refine wpAny_pure ?_
  refine wpAny_newFunctionEnv_cells rfl (fun y hy => .inl (by
    have e : y = (("row" : Str), Value.ref a) := by simpa using hy
    rw [e]
    rfl)) fun env he s1 x => ?_
  subst he
  refine ⟨lim.keeps x.toInCall.keep, codeAny_func ?_⟩
  obtain ⟨h1, tk, rfl, hk1⟩ := x.done
  have hns := x.toInCall.ns
  have hbk : ∀ b o, base.get? b = some o → h1.get? b = some o := fun b o e => hk1 b o (hk b o e)
  obtain ⟨mb, hb1, hb2⟩ := M.blt
  have hrow : ∀ {s2 : Shared} {pos : Pos} {A' : Around} {Q : Value → Shared → Prop} {E : Value → Shared → Prop}, s2.heap = h1 → Q (.ref a) s2 → wpAny (model P w) A' (eval (.Name "row" pos) (newEnv (defScope s_in_order) s.heap.objs.size mainGlobals (cellsFrom (s.heap.objs.size + 1) (defScope s_in_order).names []) ("in_order" ++ ".<locals>.") (some f) cdv none builtinsNs)) Q E s2 := fun {s2 pos A' Q E} e q =>
    wpAny_Name (wpAny_loadName_local rfl rfl (by rw [e]; exact hns) rfl q)
  have ht1 : IsTup h1 a its.toArray := by
    obtain ⟨o, ho, r⟩ := ht
    exact ⟨o, hk1 _ _ ho, r⟩
  have hl := hi.length
  refine wpAny_execs_cons (wpAny_Return_some (wpAny_Tuple_spliced ?_))
  refine Calls.spliced_cons ?_
  refine wpAny_Call_Name_kw (Calls.Name_function_global rfl rfl (Calls.loadGlobal_builtin (M.glob.keeps hbk) hm (hb1.keeps hbk) ((hb2 "len" (by decide)).trans boot_len) ?_) (by decide))
  refine PyProof.Rows.callWith_builtin1 (Calls.spliced_cons (hrow rfl (Calls.spliced_nil ?_))) rfl rfl
  refine PyProof.Rows.len_tuple ht1 (by rw [List.size_toArray]; omega) ?_
  refine Calls.spliced_cons (hrow rfl (Calls.spliced_nil ?_))
  refine ⟨by show 2 ≤ sizeLine; decide, ?_⟩
  refine ⟨_, _, rfl, fun b o e => Heap.get?_push_of_some _ (hk1 b o e), ?_⟩
  obtain ⟨o, ho, hc, n, hd⟩ := ht1
  have r1 : Reads (h1.push { cls := .type "tuple", data := .seq [Value.int (its.toArray.size : Int) (tk + 1), .ref a].toArray }) (.ref a) (TuI ns) [] := by
    exact Reads.tuple (Heap.get?_push_of_some _ ho) hc hd (readsAll_ints hi)
  have r2 : ReadsAll (h1.push { cls := .type "tuple", data := .seq [Value.int (its.toArray.size : Int) (tk + 1), .ref a].toArray }) [Value.int (its.toArray.size : Int) (tk + 1), .ref a] [.int (ns.length : Int), TuI ns] ([] ++ ([] ++ [])) := by
    refine .cons ?_ (.cons r1 .nil)
    rw [List.size_toArray, hl]
    exact .int _ _
  exact Reads.tuple (Heap.get?_push_size _ rfl) rfl rfl r2
end
def rSortKey (K : PySem.W.Frag) (f : Addr) : List V → List V → Hp → VK → Prop := fun vs zs H Q => ∃ (a : Addr) (xs : List V) (ws : List (List Int)), vs = [.ref a] ∧ zs = [.ref f] ∧ SqL K H a xs ∧ DpAll K H xs (ws.map TuI) ∧ (∀ s, s ∈ ws → s.length ≤ 1000) ∧ ws.length ≤ 100000 ∧
  ∀ (bs : List (V × List Int)) (p : Addr), bs = (xs.zip ws).mergeSort (PySem.W.dataLe false (fun b : V × List Int => PyData.tuple [.int (b.2.length : Int), TuI b.2])) → H p = none → Q (.ref p) (upd H p (.lst (bs.map (·.1))))
theorem vals_each2 {β : Type} : ∀ {xs : List V} {us : List Value}, Vals xs us → ∀ {ds : List β}, xs.length = ds.length → PySem.W.EachIs (fun u (b : V × β) => RelV b.1 u ∧ b ∈ xs.zip ds) us (xs.zip ds)
  | [], _, .nil, _, _ => by
    rw [List.zip_nil_left]
    exact .nil
  | x :: xs, _, .cons r t, d :: ds, h => by
    rw [List.zip_cons_cons]
    refine .cons ⟨r, List.mem_cons_self ..⟩ ((vals_each2 t (by simpa using h)).mono fun u b hb => ⟨hb.1, List.mem_cons_of_mem _ hb.2⟩)
  | _ :: _, _, .cons _ _, [], h => by simp at h
theorem each_vals2 {β : Type} {Z : V × β → Prop} : ∀ {us : List Value} {bs : List (V × β)}, PySem.W.EachIs (fun u (b : V × β) => RelV b.1 u ∧ Z b) us bs → Vals (bs.map (·.1)) us
  | _, _, .nil => .nil
  | _, _, .cons r t => .cons r.1 (each_vals2 t)
theorem dpa_zip2 {K : PySem.W.Frag} {H : Hp} {β : Type} {g : β → PyData} : ∀ {xs : List V} {ws : List β}, DpAll K H xs (ws.map g) → ∀ b : V × β, b ∈ xs.zip ws → Dp K H b.1 (g b.2)
  | _, [], h, b, hb => by simp at hb
  | _, w :: ws, h, b, hb => by
    cases h with
    | cons r t =>
      rw [List.zip_cons_cons] at hb
      rcases List.mem_cons.mp hb with rfl | hb
      · exact r
      · exact dpa_zip2 t b hb
theorem cr_sortKey {X : Cx} {f : Addr} {fd : FuncData} {k : Nat} (F : Fun X.K "in_order" "in_order" s_in_order f fd) (hm : X.mg "len" = none) (hr : Room k X.A) : CallRK X (.builtin "sorted") [Str.ofString "key"] (rSortKey X.K f) := by
  intro pins s σ H vs zs us ws Q I r rz h
  obtain ⟨a, xs, ss, rfl, rfl, hs, ha, hsl, hln, q⟩ := h
  obtain ⟨its, rv, hl, hz⟩ := I.list hs
  rw [Vals.ref1 r]
  rw [Vals.ref1 rz]
  have hlen : xs.length = ss.length := by rw [dpa_length ha, List.length_map]
  have e := vals_each2 rv (ds := ss) hlen
  have hsnd : (xs.zip ss).map (·.2) = ss := List.map_snd_zip (by omega)
  have hzl : (xs.zip ss).length = ss.length := by rw [List.length_zip]; omega
  have hmm : (xs.zip ss).map (fun b : V × List Int => PyData.tuple [.int (b.2.length : Int), TuI b.2]) = ss.map fun t => PyData.tuple [.int (t.length : Int), TuI t] := by
    conv => rhs; rw [← hsnd]
    rw [List.map_map]
    rfl
  have hun := hr.units
  have hdp := hr.dp
  refine PySem.W.sorted_key_data (b := false) (bs := xs.zip ss) (fun b : V × List Int => PyData.tuple [.int (b.2.length : Int), TuI b.2]) hl.isList e ?_ ?_ (by rw [hzl]; exact sz_of hln) (fun b hb => ?_) (PyProof.Rows.ksk_s1 _ _) (fun _ => PyProof.Rows.ksk_l1 _ _) (fun x => PyProof.Rows.ksk_t1 f x)
    (fun u b hb hm2 h tk kp => ?_) fun out c h' tk kp hn hD ho eo => ?_
  · rw [hmm]
    intro d hd d' hd'
    obtain ⟨s, _, rfl⟩ := List.mem_map.mp hd
    obtain ⟨t, _, rfl⟩ := List.mem_map.mp hd'
    simp [PySem.W.alike, PySem.W.alikeAll, alikeAll_ints]
  · rw [hmm]
    refine .inl fun d hd => ?_
    obtain ⟨s, _, rfl⟩ := List.mem_map.mp hd
    exact ⟨_, _, rfl⟩
  · have : Sk 2 (.tuple [.int (b.2.length : Int), TuI b.2]) := sk_tup fun e he => by
      rcases List.mem_cons.mp he with rfl | he
      · exact sk_int
      · rcases List.mem_cons.mp he with rfl | he
        · exact sk_ti _
        · cases he
    have := this.2
    omega
  · have hd := dpa_zip2 (g := TuI) ha b hb.2
    obtain ⟨p, ep, ht⟩ := dp_ti_inv hd
    have hu : u = .ref p := by
      have r := hb.1
      rw [ep] at r
      exact r
    subst hu
    obtain ⟨is, ri, pt, hzi⟩ := I.tuple ht
    have hi := ri.ints
    refine in_order_raw (P := X.prog) (w := X.w) (s := { s with heap := h, toks := tk }) F I.ok.mod hm (by show X.A.in1.in1.depth < _; show X.A.depth < _; omega) (fun b o e => kp b o (I.bk b o e)) ?_ hi ?_
    · obtain ⟨o, ho, r⟩ := pt
      exact ⟨o, kp _ _ ho, r⟩
    · rw [hi.length]
      exact hsl b.2 (by rw [← hsnd]; exact List.mem_map_of_mem hb.2)
  · have pm := List.mergeSort_perm (xs.zip ss) (PySem.W.dataLe false (fun b : V × List Int => PyData.tuple [.int (b.2.length : Int), TuI b.2]))
    have rv' := each_vals2 eo
    have hsz : (((xs.zip ss).mergeSort (PySem.W.dataLe false (fun b : V × List Int => PyData.tuple [.int (b.2.length : Int), TuI b.2]))).map (·.1)).length ≤ sizeLine := by
      rw [List.length_map, pm.length_eq, hzl]
      exact sz_of hln
    exact ⟨.ref _, upd H (s.heap.objs.size + 1) (.lst _), I.laid (t' := tk) kp (Nat.le_succ _) ⟨hsz, out, c, rv', hD⟩, rfl, q _ _ rfl (I.hok.fresh (Nat.le_succ _))⟩
theorem ev_sortKey {K : PySem.W.Frag} {σ : L2.St} {B : Hp} {te tf : TE} {f : Addr} {ws : List (List Int)} (h : EV te σ B (Da K (.list (ws.map TuI)))) (hf : EV tf σ B (Xv (.ref f))) (hs : ∀ s, s ∈ ws → s.length ≤ 1000) (hl : ws.length ≤ 100000) :
    EV (tCKw (rSortKey K f) (tCons te tNil) (tCons tf tNil)) σ B (Da K (.list ((ordS ws).map TuI))) := fun B1 H a b Q q =>
  h B1 H a b _ fun v B2 H2 g2 p => hf B2 H2 (a.trans g2.bb) g2.bh _ fun u B3 H3 g3 pu => by
    obtain rfl : u = V.ref f := pu
    obtain ⟨x, xs, rfl, hx, ha⟩ := dp_lst_inv (dp_mono g3.bb _ _ p)
    refine ⟨x, xs, ws, rfl, rfl, sql_mono g3.bh hx, dpa_mono g3.bh _ _ ha, hs, hl, fun bs p pm hp => ?_⟩
    have hlen : xs.length = ws.length := by rw [dpa_length ha, List.length_map]
    have hsnd : (xs.zip ws).map (·.2) = ws := List.map_snd_zip (by omega)
    have pp : bs.Perm (xs.zip ws) := by rw [pm]; exact List.mergeSort_perm _ _
    have pm2 : bs.map (·.2) = ordS ws := by
      have z := List.map_mergeSort (r := PySem.W.dataLe false (fun b : V × List Int => PyData.tuple [.int (b.2.length : Int), TuI b.2])) (s := PySem.W.dataLe false (fun t : List Int => PyData.tuple [.int (t.length : Int), TuI t])) (f := fun b : V × List Int => b.2) (l := xs.zip ws) (fun a _ b _ => rfl)
      rw [pm, z, hsnd]
      rfl
    have hd : DpAll K B3 (bs.map (·.1)) ((bs.map (·.2)).map TuI) := by
      rw [List.map_map]
      have : ∀ cs : List (V × List Int), (∀ c, c ∈ cs → Dp K B3 c.1 (TuI c.2)) → DpAll K B3 (cs.map (·.1)) (cs.map (TuI ∘ (·.2))) := fun cs => by
        induction cs with
        | nil => intro _; exact .nil
        | cons c cs ih => intro h; exact .cons (h c (List.mem_cons_self ..)) (ih fun d hd => h d (List.mem_cons_of_mem _ hd))
      exact this bs fun c hc => dpa_zip2 (g := TuI) ha c (pp.mem_iff.mp hc)
    rw [pm2] at hd
    exact q _ _ _ ((g2.trans g3).trans (.new g3.bh hp)) (dp_lst upd_same (dpa_mono (same_new (g3.bh.free hp)) _ _ hd))
end CN
set_option Elab.async false
set_option linter.all false
set_option maxRecDepth 100000
set_option maxHeartbeats 4000000
/-! KG: a generator def whose last statement is a loop that yields; a list comprehension over its call. -/
namespace CN
open PySem PySem.Spec PyProof.Rows L2 GenW
/-- asleep: the consumer puts v behind the list at S and stores at C -/
structure Sl2 (S C : Addr) (v : Value) (s s' : Shared) : Prop where
  os : s'.os = s.os
  bare : AllBare s'.gens
  keep : ∀ b o, b ≠ S → b ≠ C → s.heap.get? b = some o → s'.heap.get? b = some o
  own : ∀ acc c, s.heap.get? S = some (lstObj acc c) → ∃ c', s'.heap.get? S = some (lstObj (acc.push v) c')
  cc : ∃ oC, s'.heap.get? C = some oC ∧ ∀ v, oC.data ≠ .cell v
def Ap2 (X : Cx) (S C : Addr) : Prop := Apart X S ∧ Apart X C ∧ S ≠ C
def GI2 (X : Cx) (S C : Addr) (ip : List (Addr × Obj)) (s₀ : Shared) (ys : List V) (σ : L2.St) (H : Hp) (s : Shared) : Prop :=
  ∃ (acc : Array Value) (c : Nat) (oC : Obj), Vals ys acc.toList ∧ s₀.heap.get? C = some oC ∧ Inv X ((S, lstObj acc c) :: (C, oC) :: ip) σ H s
theorem GI2.woken {X : Cx} {S C : Addr} {ip : List (Addr × Obj)} {s₀ : Shared} {ys : List V} {x : V} {v : Value} {σ : L2.St} {H : Hp} {s s' : Shared} (hpn : ∀ p ∈ X.pn, p.1 ≠ S ∧ p.1 ≠ C) (hip : ∀ p ∈ ip, p.1 ≠ S ∧ p.1 ≠ C) (hA : Ap2 X S C) (h : GI2 X S C ip s₀ ys σ H s) (rv : RelV x v) (z : Sl2 S C v s s') :
    GI2 X S C ip s' (ys ++ [x]) σ H s' := by
  obtain ⟨acc, c, oC, r, e0, I⟩ := h
  obtain ⟨eS, hS0, hSL, hSf, _⟩ := I.pin (S, lstObj acc c) (List.mem_append_right _ List.mem_cons_self)
  obtain ⟨eC, hC0, hCL, hCf, _⟩ := I.pin (C, oC) (List.mem_append_right _ (List.mem_cons_of_mem _ List.mem_cons_self))
  have I0 : Inv X ip σ H s := I.pins_of fun p hp => I.pin p (List.mem_append_right _ (List.mem_cons_of_mem _ (List.mem_cons_of_mem _ hp)))
  have nt : ∀ b u, H b = some u → b ≠ S ∧ b ≠ C := fun b u q => ⟨fun hb => (by rw [hb, hS0] at q; cases q), fun hb => (by rw [hb, hC0] at q; cases q)⟩
  obtain ⟨z1, z2, z3, z4, oC', z5, z6⟩ := z
  obtain ⟨c', eS'⟩ := z4 acc c eS
  obtain ⟨hh, g, d, t, o⟩ := s'
  have ho : o = s.os := z1
  subst ho
  have nc : ∀ b, b ∉ [S, C] → b ≠ S ∧ b ≠ C := fun b hb => ⟨fun e => hb (by rw [e]; simp), fun e => hb (by rw [e]; simp)⟩
  have J : Inv X ip σ H { s with heap := hh, gens := g, drawn := d, toks := t } := by
    refine I0.step (g' := g) (t' := t) (d' := d) (ch := [S, C]) (fun b hb => ?_)
      (fun b ob _ _ hc q _ => z3 b ob (nc b hc).1 (nc b hc).2 q) (fun b ob _ _ hc q _ => ⟨ob.slots, z3 b ob (nc b hc).1 (nc b hc).2 q⟩) (fun _ _ _ _ n => n) (fun b ob hc q => ⟨ob, z3 b ob (nc b hc).1 (nc b hc).2 q⟩)
      (fun _ _ q => q) (fun _ _ _ q => q) (fun b ps q => ⟨#[], by rw [q]; simp⟩) (fun m hm => ?_) (fun b u q => ?_) z2
    · have e' : b = S ∨ b = C := by simpa using hb
      rcases e' with e | e
      · rw [e]
        refine ⟨.inr hA.1.1, hA.1.2.1, hA.1.2.2, fun p hp => ?_⟩
        rcases List.mem_append.mp hp with hp | hp
        · exact (hpn p hp).1
        · exact (hip p hp).1
      · rw [e]
        refine ⟨.inr hA.2.1.1, hA.2.1.2.1, hA.2.1.2.2, fun p hp => ?_⟩
        rcases List.mem_append.mp hp with hp | hp
        · exact (hpn p hp).2
        · exact (hip p hp).2
    · obtain ⟨ob, es, ep, ho, r⟩ := hm
      exact ⟨ob, es, ep, z3 _ ob (Ne.symm hSL) (Ne.symm hCL) ho, r⟩
    · refine (I0.hok b u q).stay (fun c v hc y => z3 c v ?_ ?_ y) (fun _ y => y) fun _ _ y => y
      · rcases hc with y | y
        · rw [y]; exact (nt b u q).1
        · exact (nt c _ y).1
      · rcases hc with y | y
        · rw [y]; exact (nt b u q).2
        · exact (nt c _ y).2
  refine ⟨acc.push v, c', oC', ?_, z5, J.pins_of fun p hp => ?_⟩
  · rw [Array.toList_push]
    exact r.append (.cons rv .nil)
  · rcases List.mem_cons.mp hp with hp | hp
    · rw [hp]
      exact ⟨eS', hS0, hSL, hSf, fun v q => by cases q⟩
    · rcases List.mem_cons.mp hp with hp | hp
      · rw [hp]
        exact ⟨z5, hC0, hCL, hCf, z6⟩
      · exact J.pin p (List.mem_append_right _ hp)
def GY2 (X : Cx) (S C : Addr) : Protocol := fun n s₀ v s kap =>
  ∃ ys x ip σ H, n + 1 + ys.length = sizeLine ∧ RelV x v ∧ GI2 X S C ip s₀ ys σ H s ∧ ∀ s', Sl2 S C v s s' → kap (.send .none) s'
/-- where the generator's code stands -/
structure GC2 (X : Cx) (S C : Addr) (A : Around) (c : Code) (fs : List Frame) (gd : Bool → Bool) : Prop where
  pn : ∀ p ∈ X.pn, p.1 ≠ S ∧ p.1 ≠ C
  apart : Ap2 X S C
  over : A.over c fs = X.A
  split : splitAtGen fs = none
  guard : fs.any Frame.guarded = false
  gd : gd false = false
section
variable {X : Cx} {S C : Addr} {A : Around} {R : GenEnd} {n : Nat} {s₀ s : Shared} {c : Code} {fs : List Frame} {K : Flow → Sem PySem.Fin} {J : Value → Sem PySem.Fin} {gd : Bool → Bool} {lv : List Value → List Value}
theorem seg_For {target iter : Expr} {body orelse : List Stmt} {pos : Pos} {M : Model} {Y : Protocol} {env : Env}
    (h : wpAny M (A.over c fs) (eval iter env) (fun x s₁ => wpAny M (A.over c fs) (pyIter x) (fun it s₂ => ∀ p, Seg M A R Y n s₀ (.forLoop target it body orelse env) (M.den (.forLoop target it body orelse env))
      (.ret (fun r => ((match r with | .ok f => (.pure f : Sem Flow) | .error e => .raise e).onRaise fun (x : Value) => do
        if (← field x 1) == Value.none then unsupported "frame.own-activation:exception-without-traceback"
        setFlight x env.frame).wrap K J gd lv) none (gd false) (lv []) c p [] :: fs) s₂) (fun _ _ => False) s₁) (fun _ _ => False) s)
    (hs : ∀ x, foldedSetIterable iter env x = pure x := by intro _; rfl) :
    Seg M A R Y n s₀ c ((exec (.For target iter body orelse pos) env).wrap K J gd lv) fs s := by
  rw [exec_For]
  refine seg_bind_wrap (wpAny_standAt ?_)
  refine seg_bind_wrap (wpAny_mono h (fun x s₁ h₁ => ?_) fun _ _ z => False.elim z)
  refine seg_bind_wrap (wpAny_of_eq (hs x) ?_)
  refine seg_bind_wrap (wpAny_standAt ?_)
  refine seg_bind_wrap (wpAny_holding (wpAny_mono h₁ (fun it s₂ h₂ => ?_) fun _ _ z => False.elim z))
  exact seg_call h₂
theorem seg_forLoop {prog : Program} {w : World} {Y : Protocol} {env : Env} {target : Expr} {it : Value} {body : List Stmt}
    (h : wpAny (model prog w) (A.over (.forLoop target it body [] env) fs) (pyNext it) (fun r s₁ => match r with
      | none => Seg (model prog w) A R Y n s₀ (.forLoop target it body [] env) (.pure (.again (.block [] env))) fs s₁
      | some v => wpAny (model prog w) (A.over (.forLoop target it body [] env) fs) (letOwnedTupleGo target it v) (fun _ s₂ => wpAny (model prog w) (A.over (.forLoop target it body [] env) fs) (assign target env v) (fun _ s₃ =>
          Seg (model prog w) A R Y n s₀ (.forLoop target it body [] env) ((execs body env).wrap (fun f => match f with
            | .next | .cont => .pure (.again (.forLoop target it body [] env))
            | .brk => .pure (.done .next)
            | .ret v => .pure (.done (.ret v))) (fun e => (do noteFrame e env; theTreesLotGoes e : Sem Unit).wrap (fun _ => .raise e) .raise id id) id id) fs s₃) (fun _ _ => False) s₂) (fun _ _ => False) s₁) (fun _ _ => False) s) :
    Seg (model prog w) A R Y n s₀ (.forLoop target it body [] env) ((model prog w).den (.forLoop target it body [] env)) fs s := by
  show Seg _ A R Y n s₀ _ ((forTurn target it body [] env).onRaise (fun x => do noteFrame x env; theTreesLotGoes x)) fs s
  unfold forTurn
  rw [Sem.onRaise_eq_wrap]
  refine seg_bind_wrap (wpAny_standAt ?_)
  refine seg_bind_wrap (wpAny_onRaise (wpAny_mono h (fun r s₁ h₁ => ?_) fun _ _ z => False.elim z))
  cases r with
  | none => exact h₁
  | some v =>
    refine seg_bind_wrap (wpAny_mono h₁ (fun _ s₂ h₂ => ?_) fun _ _ z => False.elim z)
    refine seg_bind_wrap (wpAny_mono h₂ (fun _ s₃ h₃ => ?_) fun _ _ z => False.elim z)
    rw [Sem.bind_eq_wrap', Sem.wrap_wrap]
    rw [Sem.wrap_congr (execs body env) _ _ (K' := fun f => match f with
            | .next | .cont => .pure (.again (.forLoop target it body [] env))
            | .brk => .pure (.done .next)
            | .ret v => .pure (.done (.ret v))) (H' := (fun e => (do noteFrame e env; theTreesLotGoes e : Sem Unit).wrap (fun _ => .raise e) .raise id id))
        (fun f => by cases f <;> rfl)
        (fun e => by first | exact Sem.bind_eq_wrap _ _ | (show (do noteFrame e env; theTreesLotGoes e : Sem Unit).bind (fun _ => .raise e) = _; rw [Sem.bind_eq_wrap]))]
    exact h₃
end
/-! ### the loop that yields -/
abbrev TG2 := (List V → L2.St → Hp → Prop) → List V → L2.St → Hp → Prop
def tGForY (wi : L2.TI) (g : TG) (te : TE) : TG2 := fun nx ys σ H => wi σ H fun Jt H1 => ∃ W : Nat → Nat → List V → L2.St → Hp → Prop, (∃ m, W 0 m ys σ H1) ∧ ∀ i m ys σ H, W i m ys σ H →
  (Jt.stop i H ∧ nx ys σ H) ∨ (Jt.go i H ∧ ys.length < sizeLine ∧ ∀ x H', Jt.yld i H x H' → g x σ H' fun σ2 H2 => te σ2 H2 fun y H3 => ∃ m', m' < m ∧ W (i + 1) m' (ys ++ [y]) σ2 H3)
/-- a generator's last statement -/
structure GL (X : Cx) (st : Stmt) (t : TG2) : Prop where
  run : ∀ (A : Around) (S C : Addr) (R : GenEnd) (n : Nat) (ys : List V) (s₀ : Shared) (c : Code) (fs : List Frame) (K : Flow → Sem PySem.Fin) (J : Value → Sem PySem.Fin) (gd : Bool → Bool) (lv : List Value → List Value) (s : Shared) (σ : L2.St) (H : Hp) (nx : List V → L2.St → Hp → Prop),
    GC2 X S C A c fs gd → n + ys.length = sizeLine → (∀ (n : Nat) (ys : List V) (s₀ s : Shared) (σ : L2.St) (H : Hp), n + ys.length = sizeLine → GI2 X S C [] s₀ ys σ H s → nx ys σ H → Seg (model X.prog X.w) A R (GY2 X S C) n s₀ c (K .next) fs s) →
    GI2 X S C [] s₀ ys σ H s → t nx ys σ H → Seg (model X.prog X.w) A R (GY2 X S C) n s₀ c ((exec st X.env).wrap K J gd lv) fs s
section
variable {X : Cx}
theorem fpok2 {pins : List (Addr × Obj)} {H' : Hp} {b : Addr} (f : FpOk X pins H' b) {H2 : Hp} (hn : H2 b = none) : FpOk X pins H2 b := ⟨hn, f.2⟩
theorem gl_forY {tg iter e : Expr} {wi : L2.TI} {g : TG} {te : TE} {pos yp ep : Pos} (hx : ∀ e s, X.xe e s → False) (hc : X.calm = true) (hi : PI X tg iter wi) (hg : PG X tg g) (he : PE X e te) (hs : ∀ x, foldedSetIterable iter X.env x = pure x := by intro _; rfl)
    (hco : X.env.scope.isCoroutine = false := by rfl) (hia : interactive X.env = false := by rfl) : GL X (.For tg iter [.Expr (.Yield (some e) yp) ep] [] pos) (tGForY wi g te) := by
  refine ⟨fun A S C R n ys s₀ c fs K J gd lv s σ H nx gc hn k hI ht => ?_⟩
  have nox : ∀ {α : Type} {t : Sem α} {Q : α → Shared → Prop} {s : Shared}, wpAny (model X.prog X.w) X.A t Q X.xe s → wpAny (model X.prog X.w) X.A t Q (fun _ _ => False) s := fun h => wpAny_mono h (fun _ _ q => q) fun e s z => hx e s z
  obtain ⟨acc, cc, oC, r, e0, I⟩ := hI
  refine seg_For ?_ hs
  rw [gc.over]
  refine wpAny_mono (nox (hi.run _ s σ H _ I ht)) (fun v s1 h1 => ?_) fun _ _ z => z
  refine wpAny_mono (nox h1) (fun itv s2 h2 p => ?_) fun _ _ z => z
  obtain ⟨it, fp, tn, Jt, H2, rfl, I2, T, st2, f2, W, ⟨m0, w0⟩, turn⟩ := h2
  have gov : A.over (.forLoop tg (.ref it) [.Expr (.Yield (some e) yp) ep] [] X.env) (.ret (fun r => ((match r with | .ok f => (.pure f : Sem Flow) | .error e => .raise e).onRaise fun (x : Value) => do
        if (← field x 1) == Value.none then unsupported "frame.own-activation:exception-without-traceback"
        setFlight x X.env.frame).wrap K J gd lv) none (gd false) (lv []) c p [] :: fs) = X.A := (over_loop rfl rfl).trans gc.over
  have stat : ∀ b ∈ fp, b ≠ S ∧ b ≠ C ∧ ∀ (pins : List (Addr × Obj)) (H' : Hp), (∀ q ∈ pins, q.1 = S ∨ q.1 = C) → H' b = none → FpOk X pins H' b := fun b hb => by
    obtain ⟨g0, g1, g2, g3, g4, g5⟩ := f2 b hb
    have nS : b ≠ S := fun q => g5 (S, lstObj acc cc) (List.mem_append_right _ List.mem_cons_self) q.symm
    have nC : b ≠ C := fun q => g5 (C, oC) (List.mem_append_right _ (List.mem_cons_of_mem _ List.mem_cons_self)) q.symm
    refine ⟨nS, nC, fun pins H' hp hn => ⟨hn, g1, g2, g3, g4, fun q hq => ?_⟩⟩
    rcases List.mem_append.mp hq with z | z
    · exact g5 q (List.mem_append_left _ z)
    · rcases hp q z with z | z
      · rw [z]; exact Ne.symm nS
      · rw [z]; exact Ne.symm nC
  have gsplit : splitAtGen (Frame.ret (fun r => ((match r with | .ok f => (.pure f : Sem Flow) | .error e => .raise e).onRaise fun (x : Value) => do
        if (← field x 1) == Value.none then unsupported "frame.own-activation:exception-without-traceback"
        setFlight x X.env.frame).wrap K J gd lv) none (gd false) (lv []) c p [] :: fs) = none := by
    show (splitAtGen fs).map _ = none
    rw [gc.split]; rfl
  have gguard : (Frame.ret (fun r => ((match r with | .ok f => (.pure f : Sem Flow) | .error e => .raise e).onRaise fun (x : Value) => do
        if (← field x 1) == Value.none then unsupported "frame.own-activation:exception-without-traceback"
        setFlight x X.env.frame).wrap K J gd lv) none (gd false) (lv []) c p [] :: fs).any Frame.guarded = false := by
    show (gd false || fs.any Frame.guarded) = false
    rw [gc.gd, gc.guard]; rfl
  have loop : ∀ (m i n : Nat) (ys : List V) (s₀ s : Shared) (σ : L2.St) (H : Hp) (acc : Array Value) (cc : Nat) (oC : Obj), n + ys.length = sizeLine → W i m ys σ H → tn i s.heap → (∀ b ∈ fp, H b = none) → Vals ys acc.toList → s₀.heap.get? C = some oC → Inv X ((S, lstObj acc cc) :: (C, oC) :: []) σ H s →
      Seg (model X.prog X.w) A R (GY2 X S C) n s₀ (.forLoop tg (.ref it) [.Expr (.Yield (some e) yp) ep] [] X.env) ((model X.prog X.w).den (.forLoop tg (.ref it) [.Expr (.Yield (some e) yp) ep] [] X.env))
        (.ret (fun r => ((match r with | .ok f => (.pure f : Sem Flow) | .error e => .raise e).onRaise fun (x : Value) => do
        if (← field x 1) == Value.none then unsupported "frame.own-activation:exception-without-traceback"
        setFlight x X.env.frame).wrap K J gd lv) none (gd false) (lv []) c p [] :: fs) s := by
    intro m
    induction m using Nat.strongRecOn with
    | ind m ih =>
      intro i n ys s₀ s σ H acc cc oC hn w hst hfp r e0 I
      have hpp : ∀ q ∈ ((S, lstObj acc cc) :: (C, oC) :: [] : List (Addr × Obj)), q.1 = S ∨ q.1 = C := fun q hq => by
        rcases List.mem_cons.mp hq with z | z
        · rw [z]; exact .inl rfl
        · rcases List.mem_cons.mp z with z | z
          · rw [z]; exact .inr rfl
          · cases z
      have sok : ∀ {H' : Hp}, (∀ b ∈ fp, H' b = none) → ∀ b ∈ fp, FpOk X ((S, lstObj acc cc) :: (C, oC) :: []) H' b := fun {H'} hz b hb => (stat b hb).2.2 _ H' hpp (hz b hb)
      refine seg_forLoop ?_
      rw [gov]
      rcases turn i m ys σ H w with ⟨stop, q⟩ | ⟨go, hlt, step⟩
      · refine wpAny_mono (T.done X rfl rfl rfl hc i _ s σ H (fun _ _ => False) I (sok hfp) hst stop) (fun r' s' hr => ?_) fun _ _ z => z
        obtain ⟨rfl, I'⟩ := hr
        refine seg_again rfl ?_
        exact seg_leaf (.ok .next) (k n ys s₀ s' σ H hn ⟨acc, cc, oC, r, e0, I'⟩ q)
      · refine wpAny_mono (T.item X rfl rfl rfl hc i _ s σ H (fun _ _ => False) I (sok hfp) hst go) (fun r' s' hr => ?_) fun _ _ z => z
        obtain ⟨u, rfl, hu⟩ := hr
        refine wpAny_mono hu (fun _ s7 h7 => ?_) fun _ _ z => z
        obtain ⟨x, H7, I7, r7, y7, st7, n7⟩ := h7
        have I7' := I7.pinned (sok n7) (T.obj _ _ st7)
        refine wpAny_mono (nox (hg.run _ s7 σ H7 x u _ I7' r7 (step x H7 y7))) (fun _ s8 h8 => ?_) fun _ _ z => z
        obtain ⟨σ8, H8, I8, q8⟩ := h8
        obtain ⟨n, rfl⟩ : ∃ m, n = m + 1 := ⟨n - 1, by omega⟩
        refine seg_execs_cons ?_
        refine seg_Expr_Yield gsplit rfl gguard ?_ hco hia
        rw [gov]
        refine wpAny_mono (nox (he.run _ s8 σ8 H8 _ I8 q8)) (fun v s9 h9 => ?_) fun _ _ z => False.elim z
        obtain ⟨y, H9, I9, ry, m', hm, w'⟩ := h9
        intro kap hk
        refine ⟨ys, y, pinsAt fp s7.heap, σ8, H9, hn, ry, ⟨acc, cc, oC, r, e0, I9⟩, fun s'' z => hk .none s'' ?_⟩
        have hip : ∀ q ∈ pinsAt fp s7.heap, q.1 ≠ S ∧ q.1 ≠ C := fun q hq => ⟨(stat q.1 (of_pinsAt hq).1).1, (stat q.1 (of_pinsAt hq).1).2.1⟩
        obtain ⟨acc2, cc2, oC2, r2, e2, I10⟩ := GI2.woken gc.pn hip gc.apart ⟨acc, cc, oC, r, e0, I9⟩ ry z
        have pin' : ∀ b ∈ fp, ∀ o, s7.heap.get? b = some o → s''.heap.get? b = some o ∧ H9 b = none := fun b hb o e =>
          let z := I10.pin (b, o) (List.mem_append_right _ (List.mem_cons_of_mem _ (List.mem_cons_of_mem _ (mem_pinsAt hb e))))
          ⟨z.1, z.2.1⟩
        refine seg_execs_nil (seg_again rfl ?_)
        refine ih m' hm (i + 1) n (ys ++ [y]) s'' s'' σ8 H9 acc2 cc2 oC2 ?_ w' (T.keep _ _ _ st7 fun b hb o e => (pin' b hb o e).1) (fun b hb => ?_) r2 e2 (I10.pins_of fun q hq => I10.pin q (List.mem_append_right _ ?_))
        · rw [List.length_append, List.length_singleton]; omega
        · obtain ⟨o, e, _⟩ := T.obj _ _ st7 b hb
          exact (pin' b hb o e).2
        · rcases List.mem_cons.mp hq with z | z
          · rw [z]; exact List.mem_cons_self
          · rcases List.mem_cons.mp z with z | z
            · rw [z]; exact List.mem_cons_of_mem _ List.mem_cons_self
            · cases z
  exact loop m0 0 n ys s₀ s2 σ H2 acc cc oC hn w0 st2 (fun b hb => (f2 b hb).1) r e0 I2
end
end CN
set_option Elab.async false
set_option linter.all false
set_option maxRecDepth 100000
set_option maxHeartbeats 4000000
/-! KH: a generator def's promise; its call. -/
namespace CN
open PySem PySem.Spec PyProof.Rows L2 GenW
structure GB (X : Cx) (body : List Stmt) (t : TG2) : Prop where
  run : ∀ (A : Around) (S C : Addr) (R : GenEnd) (n : Nat) (ys : List V) (s₀ : Shared) (c : Code) (fs : List Frame) (K : Flow → Sem PySem.Fin) (J : Value → Sem PySem.Fin) (gd : Bool → Bool) (lv : List Value → List Value) (s : Shared) (σ : L2.St) (H : Hp) (nx : List V → L2.St → Hp → Prop),
    GC2 X S C A c fs gd → n + ys.length = sizeLine → (∀ (n : Nat) (ys : List V) (s₀ s : Shared) (σ : L2.St) (H : Hp), n + ys.length = sizeLine → GI2 X S C [] s₀ ys σ H s → nx ys σ H → Seg (model X.prog X.w) A R (GY2 X S C) n s₀ c (K .next) fs s) →
    GI2 X S C [] s₀ ys σ H s → t nx ys σ H → Seg (model X.prog X.w) A R (GY2 X S C) n s₀ c ((execs body X.env).wrap K J gd lv) fs s
section
variable {X : Cx}
theorem gb_one {st : Stmt} {t : TG2} (h : GL X st t) : GB X [st] t := by
  refine ⟨fun A S C R n ys s₀ c fs K J gd lv s σ H nx gc hn k hI ht => ?_⟩
  refine seg_execs_cons ?_
  refine h.run A S C R n ys s₀ c fs _ J gd lv s σ H nx gc hn (fun n' ys' s₀' s' σ' H' hn' hI' q => ?_) hI ht
  exact seg_execs_nil (k n' ys' s₀' s' σ' H' hn' hI' q)
def tGSeq (t1 : TS) (t : TG2) : TG2 := fun nx ys σ H => t1 { nx := fun σ' H' => t nx ys σ' H', rt := fun _ _ => False } σ H
theorem gb_cons {st : Stmt} {rest : List Stmt} {t1 : TS} {t : TG2} (hx : ∀ e s, X.xe e s → False) (h : PS X st t1) (hr : GB X rest t) : GB X (st :: rest) (tGSeq t1 t) := by
  refine ⟨fun A S C R n ys s₀ c fs K J gd lv s σ H nx gc hn k hI ht => ?_⟩
  obtain ⟨acc, cc, oC, r, e0, I⟩ := hI
  refine seg_execs_cons (seg_wrap ?_)
  rw [gc.over]
  refine wpAny_mono (h.run _ s σ H _ I ht) (fun f s' hs => ?_) fun e s' z => (hx e s' z).elim
  cases f with
  | next =>
    obtain ⟨σ', H', I', q⟩ := hs
    exact hr.run A S C R n ys s₀ c fs K J gd lv s' σ' H' nx gc hn k ⟨acc, cc, oC, r, e0, I'⟩ q
  | brk => obtain ⟨_, _, _, q⟩ := hs; exact False.elim q
  | cont => obtain ⟨_, _, _, q⟩ := hs; exact False.elim q
  | ret u => obtain ⟨_, _, _, _, _, q⟩ := hs; exact False.elim q
end
abbrev SpG2 := List V → Hp → (List V → Hp → Prop) → Prop
def FEnd2 (P : Program) (w : World) (outer : List Env) (H : Hp) (s : Shared) (S C : Addr) (Q : List V → Hp → Prop) (n : Nat) (s₀ s1 : Shared) : Prop :=
  ∃ H' ys acc c oC, s1.os = s.os ∧ AllBare s1.gens ∧ Un (frs outer) [] H H' s.heap s1.heap ∧ HOk P w H' s1.heap ∧ H' S = none ∧ H' C = none ∧ s1.heap.get? S = some (lstObj acc c) ∧ s₀.heap.get? C = some oC ∧ s1.heap.get? C = some oC ∧ Vals ys acc.toList ∧ ys.length ≤ sizeLine ∧ Q ys H'
def REnd2 (P : Program) (w : World) (outer : List Env) (H : Hp) (s : Shared) (S C : Addr) (Q : List V → Hp → Prop) : GenEnd := fun n s₀ r s1 =>
  ((r = .ok (.ret .none) ∨ r = .ok .next) ∧ FEnd2 P w outer H s S C Q n s₀ s1) ∨ ∃ e, r = .error e ∧ False
def YItem2 (s : Shared) (S C a : Addr) (g : Nat) : Protocol := fun n s₀ v s1 kap =>
  s1.os = s.os ∧ AllBare s1.gens ∧ s1.heap.NoLimit ∧ s1.heap.IsGen a g ∧ (∃ (acc : Array Value) (c : Nat) (oC : Obj), s1.heap.get? S = some (lstObj acc c) ∧ n + 1 + acc.size = sizeLine ∧ s₀.heap.get? C = some oC ∧ s1.heap.get? C = some oC) ∧ ∀ s', Sl2 S C v s1 s' → kap (.send .none) s'
def GMade2 (P : Program) (w : World) (k : Nat) (outer : List Env) (H : Hp) (s : Shared) (Q : List V → Hp → Prop) (u : Value) (s' : Shared) : Prop :=
  ∃ (a : Addr) (g : Nat) (c : Code), u = .ref a ∧ s.heap.objs.size ≤ a ∧ a < s'.heap.objs.size ∧ s'.heap.IsGen a g ∧ s'.gens[g]? = some (.fresh c) ∧ s'.os = s.os ∧ AllBare s'.gens ∧ s'.heap.NoLimit ∧ (∀ b o, s.heap.get? b = some o → s'.heap.get? b = some o) ∧
    ∀ (A : Around) (S C : Addr) (s2 : Shared), Room k A → A.frames = some outer → s'.heap.objs.size ≤ S → s'.heap.objs.size ≤ C → S ≠ C → (∀ b o, s'.heap.get? b = some o → s2.heap.get? b = some o) → (∃ c, s2.heap.get? S = some (lstObj #[] c)) → (∃ oC, s2.heap.get? C = some oC ∧ ∀ v, oC.data ≠ .cell v) → s2.os = s.os → AllBare s2.gens →
      Seg (model P w) A (REnd2 P w outer H s S C Q) (YItem2 s S C a g) sizeLine s2 c ((model P w).den c) [] s2
structure GFn2 (P : Program) (w : World) (K : PySem.W.Frag) (mg : Str → Option Value) (base : Heap) (k : Nat) (f : Addr) (fd : FuncData) (ps : List Str) (sp : SpG2) : Prop where
  len : ∀ vs H Q, sp vs H Q → vs.length = ps.length
  run : ∀ (A : Around) (outer : List Env) (s : Shared) (H : Hp) (args : Args) (us : List Value) (vs : List V) (Q : List V → Hp → Prop), Room k A → Env0 P w K mg base A outer s H → BindsTo s fd args (ps.zip us) → Vals vs us → sp vs H Q →
    codeAny (model P w) A (.call (.ref f) args) (fun r s' => match r with | .ok (.ret u) => GMade2 P w k outer H s Q u s' | _ => False) s
/-- the context of the body -/
def gcx2 (P : Program) (w : World) (K : PySem.W.Frag) (mg : Str → Option Value) (base : Heap) (N : List Str) (qual : Str) (scope : Scope) (f : Addr) (cd : Value) (A : Around) (outer : List Env) (s : Shared) (H : Hp) (pn : List (Addr × Obj)) : Cx :=
  { gcxOf P w K mg base N qual scope f cd A outer s H E0 pn with xe := fun _ _ => False }
theorem Inv.gcx2 {P : Program} {w : World} {K : PySem.W.Frag} {mg : Str → Option Value} {base : Heap} {N : List Str} {qual : Str} {scope : Scope} {f : Addr} {cd : Value} {A : Around} {outer : List Env} {s s1 : Shared} {H H' : Hp} {pn pins : List (Addr × Obj)} {σ : L2.St}
    (I : Inv (gcxOf P w K mg base N qual scope f cd A outer s H E0 []) [] σ H' s1)
    (h : ∀ p ∈ pn ++ pins, s1.heap.get? p.1 = some p.2 ∧ H' p.1 = none ∧ p.1 ≠ (envOfC qual scope s.heap.objs.size f cd).locals ∧ p.1 ∉ frs outer ∧ ∀ v, p.2.data ≠ .cell v) :
    Inv (CN.gcx2 P w K mg base N qual scope f cd A outer s H pn) pins σ H' s1 :=
  ⟨⟨I.ok.mod, I.ok.kind, I.ok.glob, I.ok.blt, I.ok.above, I.ok.inj, I.ok.has, I.ok.cab, I.ok.hd, I.ok.frames, I.ok.stk, I.ok.exf, I.ok.bs, I.ok.bsz, I.ok.noex, I.ok.exfs, I.ok.funs, I.ok.frf⟩, I.os, I.bare, I.base, I.loc, I.cell, I.free, I.freeC, h, I.hok, I.len⟩
theorem seg_bot {M : Model} {A : Around} {R : GenEnd} {Y : Protocol} {n : Nat} {s₀ : Shared} {c : Code} {fs : List Frame} {s : Shared} {P : Prop} (h : False) : P := h.elim
/-- THE RULE -/
theorem gfn2_of {P : Program} {w : World} {K : PySem.W.Frag} {mg : Str → Option Value} {base : Heap} {k : Nat} {f : Addr} {name qual : Str} {params : Arguments} {body : List Stmt} {scope : Scope} {dV kV doc pm cdv ct oc : Value} {an od : Option Addr}
    {osl : Array (Option Value)} {N ps : List Str} {sp : SpG2} (lk : K.lookup f = some ⟨oc, od, .func (PySem.W.fnOf name qual params body scope dV kV doc pm an cdv ct), osl⟩) (hcd : PySem.W.codeIn K cdv qual = true) (S : GScope N ps scope)
    (len : ∀ vs H Q, sp vs H Q → vs.length = ps.length)
    (hbody : ∀ (A : Around) (outer : List Env) (s : Shared) (H : Hp) (vs : List V) (Q : List V → Hp → Prop) (pn : List (Addr × Obj)), Room k (A.deeper (envOfC qual scope s.heap.objs.size f cdv)) → sp vs H Q →
      ∃ t : TG2, GB (gcx2 P w K mg base N qual scope f cdv A outer s H pn) body t ∧ t (fun ys _ H' => Q ys H') [] (start N vs) H) :
    GFn2 P w K mg base (k + 1) f (PySem.W.fnOf name qual params body scope dV kV doc pm an cdv ct) ps sp := by
  refine ⟨len, fun A outer s H args us vs Q hr e0 hb r hsp => ?_⟩
  have hl := len _ _ _ hsp
  have KX : K.In s.heap := e0.mod.kin.keeps fun b o e => (e0.bs b o e).1
  have lim : s.heap.NoLimit := e0.mod.nolimit.keeps fun b o e => (e0.bs b o e).1
  have hkind : ∀ y ∈ ps.zip us, scope.names.lookup y.1 = some .local ∨ (scope.names.lookup y.1 = some .cell ∧ ((cellsFrom (s.heap.objs.size + 1) scope.names []).lookup y.1).isSome = true) := fun ⟨n, v⟩ hy => by
    rcases S.par n (List.of_mem_zip hy).1 with q | q
    · exact .inl q
    · exact .inr ⟨q, PySem.W.cellsFrom_some _ _ _ (.inl q)⟩
  refine codeAny_call_generator hr.depth (KX _ _ lk) rfl S.co S.gen rfl (PySem.W.codeRec_of KX hcd) (hb _ _ _ _ ?_)
  refine wpAny_newFunctionEnv_cells S.kind hkind fun env he s1 x => ?_
  subst he
  have lim1 : s1.heap.NoLimit := lim.keeps x.toInCall.keep
  refine ⟨lim1, ?_⟩
  obtain ⟨h1, tk, es1, hk1⟩ := x.done
  have os1 : s1.os = s.os := by rw [es1]
  have gen1 : s1.gens = s.gens := by rw [es1]
  have lt1 : s.heap.objs.size < s1.heap.objs.size := x.toInCall.ns.lt
  have sz1 : s.heap.objs.size ≤ s1.heap.objs.size := Nat.le_of_lt lt1
  have kp1 : ∀ b o, s.heap.get? b = some o → s1.heap.get? b = some o := x.toInCall.keep
  have main : ∀ (go : Obj) (nm qn : Value) (tk2 : Nat), go.cls = .type "generator" → go.data = .fields #[.int s1.gens.size 0, nm, qn] → go.slots = #[] → (∀ h : Heap, (h.push go).get? h.objs.size = some go) →
      GMade2 P w (k + 1) outer H s Q (.ref s1.heap.objs.size) { s1 with gens := s1.gens.push (.fresh (.func body (envOfC qual scope s.heap.objs.size f cdv))), toks := tk2, heap := s1.heap.push go } := by
    intro go nm qn tk2 hgc hgd0 hgs hgp
    have hgen : ∀ h : Heap, h.get? s1.heap.objs.size = some go → h.IsGen s1.heap.objs.size s1.gens.size := fun h e => ⟨go, nm, qn, e, hgc, hgd0, hgs⟩
    have hpushed : (s1.heap.push go).get? s1.heap.objs.size = some go := hgp _
    refine ⟨s1.heap.objs.size, s1.gens.size, _, rfl, sz1, ?_, hgen _ hpushed, Array.getElem?_push_size .., os1, ?_, lim1.keeps fun b o e => Heap.get?_push_of_some _ e, fun b o e => Heap.get?_push_of_some _ (kp1 b o e), ?_⟩
    · show _ < (s1.heap.push _).objs.size
      rw [Heap.size_push]; exact Nat.lt_succ_self _
    · exact AllBare.push (by rw [gen1]; exact e0.bare) rfl
    intro Aw Sx Cx2 s2 hrw hfr hSx hCx hSC hk2 hSo hCo hos hba
    have e0w : Env0 P w K mg base Aw outer s H := ⟨hfr, e0.mod, e0.bs, e0.bsz, e0.funs, e0.frf, e0.hok, e0.bare⟩
    obtain ⟨t, ht, hq⟩ := hbody Aw outer s H vs Q [(s1.heap.objs.size, go)] (hrw.deeper _) hsp
    have I1 : Inv (gcxOf P w K mg base N qual scope f cdv Aw outer s H E0 []) [] (start N vs) H s1 := inv_startG S hrw.hd e0w hl r x
    have kp2 : ∀ b o, s1.heap.get? b = some o → s2.heap.get? b = some o := fun b o e => hk2 b o (Heap.get?_push_of_some _ e)
    have I2 : Inv (gcxOf P w K mg base N qual scope f cdv Aw outer s H E0 []) [] (start N vs) H s2 :=
      I1.call' (ch := []) (hos.trans os1.symm) (Un.kept kp2) (I1.hok.kept kp2) hba fun b z => by simp at z
    have big : ∀ {Z : Addr}, (s1.heap.push go).objs.size ≤ Z → s1.heap.objs.size < Z := fun {Z} q => by
      rw [Heap.size_push] at q
      exact q
    have hSz : s1.heap.objs.size < Sx := big hSx
    have hCz : s1.heap.objs.size < Cx2 := big hCx
    obtain ⟨cS, heS⟩ := hSo
    obtain ⟨oC, heC, hcell⟩ := hCo
    have hea : s2.heap.get? s1.heap.objs.size = some go := hk2 s1.heap.objs.size go hpushed
    have hgd : ∀ v, go.data ≠ .cell v := fun v q => by rw [hgd0] at q; cases q
    have young : ∀ b, s1.heap.objs.size ≤ b → H b = none ∧ b ≠ s.heap.objs.size ∧ b ∉ frs outer ∧ s.heap.objs.size ≤ b ∧ ∀ y c, (cellsFrom (s.heap.objs.size + 1) scope.names []).lookup y = some c → c ≠ b := fun b hb => by
      refine ⟨I1.hok.fresh hb, Nat.ne_of_gt (Nat.lt_of_lt_of_le lt1 hb), I1.nofs hb, Nat.le_trans sz1 hb, fun y c e z => ?_⟩
      obtain ⟨v, ob, ho, _⟩ := I1.cell y c e
      have := Heap.lt_size ho
      rw [z] at this
      exact absurd (Nat.lt_of_lt_of_le this hb) (Nat.lt_irrefl _)
    have hSne : s1.heap.objs.size ≠ Sx := Nat.ne_of_lt hSz
    have hCne : s1.heap.objs.size ≠ Cx2 := Nat.ne_of_lt hCz
    have hG : GI2 (gcx2 P w K mg base N qual scope f cdv Aw outer s H [(s1.heap.objs.size, go)]) Sx Cx2 [] s2 [] (start N vs) H s2 := by
      refine ⟨#[], cS, oC, .nil, heC, Inv.gcx2 I2 fun p hp => ?_⟩
      rcases List.mem_append.mp hp with z | z
      · rw [List.mem_singleton.mp z]
        obtain ⟨y1, y2, y3, _, _⟩ := young s1.heap.objs.size (Nat.le_refl _)
        exact ⟨hea, y1, y2, y3, hgd⟩
      · rcases List.mem_cons.mp z with z | z
        · rw [z]
          obtain ⟨y1, y2, y3, _, _⟩ := young Sx (Nat.le_of_lt hSz)
          exact ⟨heS, y1, y2, y3, fun v q => by cases q⟩
        · rw [List.mem_singleton.mp z]
          obtain ⟨y1, y2, y3, _, _⟩ := young Cx2 (Nat.le_of_lt hCz)
          exact ⟨heC, y1, y2, y3, hcell⟩
    have hAp : Ap2 (gcx2 P w K mg base N qual scope f cdv Aw outer s H [(s1.heap.objs.size, go)]) Sx Cx2 := by
      obtain ⟨_, y2, _, y4, y5⟩ := young Sx (Nat.le_of_lt hSz)
      obtain ⟨_, z2, _, z4, z5⟩ := young Cx2 (Nat.le_of_lt hCz)
      exact ⟨⟨y4, y2, y5⟩, ⟨z4, z2, z5⟩, hSC⟩
    have hpn : ∀ p ∈ [(s1.heap.objs.size, go)], p.1 ≠ Sx ∧ p.1 ≠ Cx2 := fun p hp => by
      rw [List.mem_singleton.mp hp]
      exact ⟨hSne, hCne⟩
    have pinned : ∀ {ip : List (Addr × Obj)} {s₀ : Shared} {ys : List V} {s' : Shared} {σ' : L2.St} {H' : Hp}, GI2 (gcx2 P w K mg base N qual scope f cdv Aw outer s H [(s1.heap.objs.size, go)]) Sx Cx2 ip s₀ ys σ' H' s' → s'.heap.IsGen s1.heap.objs.size s1.gens.size := fun {ip s₀ ys s' σ' H'} hI => by
      obtain ⟨acc, cc, oC, _, _, J⟩ := hI
      exact hgen _ (J.pin (s1.heap.objs.size, go) (List.mem_append_left _ (List.mem_singleton.mpr rfl))).1
    refine seg_func ?_
    refine seg_imp (R := fun n s₀ r s1 => r = .ok (.ret .none) ∧ FEnd2 P w outer H s Sx Cx2 Q n s₀ s1)
      (Y := GY2 (gcx2 P w K mg base N qual scope f cdv Aw outer s H [(s1.heap.objs.size, go)]) Sx Cx2) (fun n s₀ r s1' hR => .inl ⟨.inl hR.1, hR.2⟩) (fun n s₀ v s1' kap kap' hkk hY => ?_) sizeLine ?_
    · obtain ⟨ys, xx, ip, σ', H', hn, h2, hI, h3⟩ := hY
      have hg := pinned hI
      obtain ⟨acc, cc, oC', ra, e0', J⟩ := hI
      have ea := (J.pin (Sx, lstObj acc cc) (List.mem_append_right _ List.mem_cons_self)).1
      have eC := (J.pin (Cx2, oC') (List.mem_append_right _ (List.mem_cons_of_mem _ List.mem_cons_self))).1
      have hsz : acc.size = ys.length := by
        have e1 := ra.length
        have e2 : acc.toList.length = acc.size := by simp
        omega
      exact ⟨J.os, J.bare, J.nolimit, hg, ⟨acc, cc, oC', ea, by rw [hsz]; exact hn, e0', eC⟩, fun s' z => hkk _ _ (h3 s' z)⟩
    · refine ht.run Aw Sx Cx2 _ sizeLine [] s2 _ [] _ _ id id s2 (start N vs) H _ ⟨hpn, hAp, over_func, rfl, rfl, rfl⟩ (Nat.add_zero _) (fun n ys s₀ s' σ' H' hn hI hQ => ?_) hG hq
      obtain ⟨acc, cc, oC', ra, e0', J⟩ := hI
      obtain ⟨ea, a1, _⟩ := J.pin (Sx, lstObj acc cc) (List.mem_append_right _ List.mem_cons_self)
      obtain ⟨eC, a2, _⟩ := J.pin (Cx2, oC') (List.mem_append_right _ (List.mem_cons_of_mem _ List.mem_cons_self))
      exact seg_end (.ok (.ret .none)) ⟨rfl, H', ys, acc, cc, oC', J.os, J.bare, J.base, J.hok, a1, a2, ea, e0', eC, ra, by omega, hQ⟩
  exact main _ _ _ _ rfl rfl rfl fun h => Heap.get?_push_size _ rfl
end CN
set_option Elab.async false
set_option linter.all false
set_option maxRecDepth 100000
set_option maxHeartbeats 4000000
/-! KJ: [x for x in f(..)], f a generator def. -/
namespace CN
open PySem PySem.Spec PyProof.Rows L2 GenW
section
variable {P : Program} {w : World}
theorem ns_obj {h : Heap} {C : Addr} {m : Str → Option Value} (x : h.Ns C m) : ∃ oC, h.get? C = some oC ∧ ∀ v, oC.data ≠ .cell v := by
  obtain ⟨o, es, ep, ho, hd, _⟩ := x
  exact ⟨o, ho, fun v e => by rw [hd] at e; cases e⟩
/-- the block's loop -/
theorem gen_loop {outer : List Env} {H : Hp} {sc : Shared} {Q : List V → Hp → Prop} {A : Around} {R : Result → Shared → Prop} {S C a : Addr} {g : Nat} {y : Str} {p1 p2 pos : Pos} {iter : Expr} {scope : Scope} {ce : Env}
    (hh : A.handled = none) (hd : A.depth < recursionLimit) (hSa : S ≠ a) (hCa : C ≠ a) (hSc : S ≠ cStatics) (hCc : C ≠ cStatics) (hSC : S ≠ C) (hL : ce.locals = C) (hk : ce.scope.kind = .function) (hy : ce.kindOf y = some .local) (hp : (ce.scope.kind == .class || (ce.scope.kind == .module && ce.locals != ce.globals)) = false) (hdb : (y == ("__debug__" : Str)) = false)
    (hend : ∀ s' acc c H' ys m, s'.heap.get? S = some (lstObj acc c) → Vals ys acc.toList → ys.length ≤ sizeLine → s'.os = sc.os → AllBare s'.gens → Un (frs outer) [] H H' sc.heap s'.heap → HOk P w H' s'.heap → H' S = none → H' C = none → s'.heap.Ns C m → Q ys H' → R (.ok .next) s')
    (m : Nat) (s : Shared) (hg : s.heap.IsGen a g) (hl : s.heap.NoLimit) (hn : ∃ mC, s.heap.Ns C mC)
    (hgo : ∃ gs, s.gens[g]? = some gs ∧ gs.Goes (model P w) A.in1 (REnd2 P w outer H sc S C Q) (YItem2 sc S C a g) m (.send .none) (s.setGen g .running)) :
    codeAny (model P w) A (.compLoop (.ListComp (.Name y p1) [⟨.Name y p2, iter, [], 0⟩] scope pos) 0 (.ref a) (.ref S) ce) R s := by
  refine compLoop_any (fun m s => s.heap.IsGen a g ∧ s.heap.NoLimit ∧ (∃ mC, s.heap.Ns C mC) ∧ ∃ gs, s.gens[g]? = some gs ∧ gs.Goes (model P w) A.in1 (REnd2 P w outer H sc S C Q) (YItem2 sc S C a g) m (.send .none) (s.setGen g .running)) ?_ m ⟨hg, hl, hn, hgo⟩
  rintro m s ⟨hg, hl, ⟨mC, hn⟩, gs, hgs, hgo⟩
  have hgl : g < s.gens.size := (Array.getElem?_eq_some_iff.mp hgs).1
  refine wpAny_gsz (n := g + 1) hgl (next_genG (A := A) (F := FEnd2 P w outer H sc S C Q) (Er := fun _ _ => False) hh hl hd hg hgs hgo (fun v s₁ gs' hbare hv => ?_) (fun s₁ hp2 h' hk2 => ?_) fun e s₁ he => he.elim)
  · intro hsz
    obtain ⟨os1, hb1, hl1, hg1, ⟨acc, c, oC, hS1, hasz, hC0, hC1⟩, hkap⟩ := hv
    have hasz' : acc.size < sizeLine := by omega
    have hn1 : s₁.heap.Ns C mC := hn.at' fun o e => by
      have e0 : s.heap.get? C = some oC := hC0
      rw [e0] at e
      cases e
      exact hC1
    have hsz1 : g < s₁.gens.size := by
      have q : (s₁.setGen g gs').gens.size = s₁.gens.size := setGen_size _ _ _
      have hsz' : g + 1 ≤ (s₁.setGen g gs').gens.size := hsz
      omega
    show wpAny _ _ (letOwnedTupleGo (.Name y p2) (.ref a) v) _ _ _
    unfold letOwnedTupleGo
    refine wpAny_pure ?_
    refine wpAny_assign_Name (wpAny_storeName_local hy (m := mC) (by rw [hL]; exact hn1) (fun h2 hn2 sb2 => ?_) hp)
    rw [hL] at hn2 sb2
    refine wpAny_tests_nil ?_
    rw [if_pos rfl]
    refine wpAny_Name (wpAny_loadName_local hk hy (m := fun x => if x = y then some v else mC x) (by rw [hL]; exact hn2) (if_pos rfl) ?_) hdb
    have hS2 : h2.get? S = some (lstObj acc c) := (sb2.2 _ hSC).trans hS1
    refine append_at (s := { s₁.setGen g gs' with heap := h2, toks := _ }) hS2 (fun h3 sb3 ho3 => ?_) (Nat.le_of_lt hasz')
    have keep3 : ∀ b o, b ≠ S → b ≠ C → s₁.heap.get? b = some o → h3.get? b = some o := fun b o hbS hbC e => (sb3.2 _ hbS).trans ((sb2.2 _ hbC).trans e)
    have hn3 : h3.Ns C (fun x => if x = y then some v else mC x) := hn2.at' fun o e => (sb3.2 _ (Ne.symm hSC)).trans e
    cases m with
    | zero =>
      exact False.elim (hkap { s₁.setGen g gs' with heap := h3 } ⟨rfl, allBare_setGen hb1 hbare, keep3, fun acc' c' e => by
        rw [hS1] at e
        cases e
        exact ⟨_, ho3⟩, ns_obj hn3⟩)
    | succ m =>
      refine ⟨m, Nat.lt_succ_self _, ?_, ?_, ⟨_, hn3⟩, gs', setGen_at hsz1, ?_⟩
      · obtain ⟨o, nm, qn, ho, r⟩ := hg1
        exact ⟨o, nm, qn, keep3 a o (Ne.symm hSa) (Ne.symm hCa) ho, r⟩
      · obtain ⟨mc, hns, hnn⟩ := hl1
        exact ⟨mc, hns.at' fun o e => keep3 _ o (Ne.symm hSc) (Ne.symm hCc) e, hnn⟩
      · exact hkap _ ⟨rfl, allBare_setGen (s := s₁.setGen g gs') (allBare_setGen hb1 hbare) rfl, keep3, fun acc' c' e => by
          rw [hS1] at e
          cases e
          exact ⟨_, ho3⟩, ns_obj hn3⟩
  · intro _
    obtain ⟨H', ys, acc, c, oC, os1, hb1, un, hok, hSn, hCn, hS1, hC0, hC1, hv, hle, hQ⟩ := hp2
    have hn1 : s₁.heap.Ns C mC := hn.at' fun o e => by
      have e0 : s.heap.get? C = some oC := hC0
      rw [e0] at e
      cases e
      exact hC1
    exact hend _ acc c H' ys mC (hk2 _ _ hS1) hv hle os1 (allBare_setGen hb1 rfl) (un.trans (Un.kept hk2)) (hok.kept hk2) hSn hCn (hn1.at' fun o e => hk2 _ _ e) hQ
end
abbrev TGen2 := L2.St → Hp → (List V → Hp → Prop) → Prop
structure PGen2 (X : Cx) (k : Nat) (e : Expr) (tg : TGen2) : Prop where
  run : ∀ (pins : List (Addr × Obj)) (s : Shared) (σ : L2.St) (H : Hp) (cont : List V → Hp → Prop), Inv X pins σ H s → tg σ H cont → wpAny (model X.prog X.w) X.A (eval e X.env)
    (fun u s' => ∃ H1 sc, Inv X pins σ H1 sc ∧ GMade2 X.prog X.w k X.stack H1 sc cont u s') X.xe s
def tCallG2 (sp : SpG2) (t : TA) : TGen2 := fun σ H cont => t σ H fun vs H1 => sp vs H1 cont
def tLcG (tg : TGen2) : TE := fun σ H Q => tg σ H fun out H2 => ∀ p, H2 p = none → Q (.ref p) (upd H2 p (.lst out))
section
variable {X : Cx}
theorem pgen2_call {k : Nat} {f : Addr} {fd : FuncData} {ps : List Str} {sp : SpG2} {x : Str} {p pos' : Pos} {e : Expr} {es : List Expr} {t : TA} (F : GFn2 X.prog X.w X.K X.mg X.base k f fd ps sp) (hr : Room k X.A) (hg : Gl X x) (hm : X.mg x = some (.ref f)) (hk : PySem.W.keepIn X.K (.ref f) = true) (hb : Binds X.K fd ps [])
    (ha : PA X (e :: es) t) (hdb : (x == ("__debug__" : Str)) = false := by decide) (he : starEach (e :: es) X.env = (false, eval e X.env) :: starEach es X.env := by rfl) (hpl : (backTo pos' (starEach es X.env)).any (·.1) = false := by rfl) :
    PGen2 X k (.Call (.Name x p) (e :: es) [] pos') (tCallG2 sp t) := by
  refine ⟨fun pins s σ H cont I h => ?_⟩
  refine wpAny_Call_Name_kw (ld_glob I hg hm ?_ hdb)
  refine PySem.W.callWith_K (h₀ := X.base) I.ok.mod.kin hk (thn (ha.run pos' pins s σ H _ I h) fun us s1 ⟨vs, H1, I1, r, q⟩ => ⟨I1.kIn, ?_⟩) he hpl
  have hl2 : us.length = ps.length := by rw [← r.length]; exact F.len _ _ _ q
  have hb1 := hb s1 us I1.kIn (by rw [List.append_nil]; exact hl2)
  rw [List.append_nil] at hb1
  refine wpAny_call (codeAny_mono (F.run X.A X.stack s1 H1 ⟨us, []⟩ us vs cont hr I1.env0 hb1 r q) fun r s' hq => ?_)
  cases r with
  | error e => exact False.elim hq
  | ok fl =>
    cases fl with
    | ret u => exact ⟨H1, s1, I1, hq⟩
    | next => exact False.elim hq
    | brk => exact False.elim hq
    | cont => exact False.elim hq
theorem pe_lcG {k : Nat} {y : Str} {p1 p2 pos : Pos} {iter : Expr} {scope : Scope} {own : List (Str × Nat)} {tg : TGen2} (hc : X.calm = true) (hN : X.N.Nodup) (ok : BlkOk X.N X.env.scope scope own) (hy : scope.names.lookup y = some .local) (h : PGen2 X k iter tg) (hr : Room (k + 1) X.A)
    (hdb : (y == ("__debug__" : Str)) = false := by decide) (hs : ∀ x, foldedSetIterable iter X.env x = pure x := by intro _; rfl) :
    PE X (.ListComp (.Name y p1) [⟨.Name y p2, iter, [], 0⟩] scope pos) (tLcG tg) := by
  refine ⟨fun pins s σ H Q I hq => ?_⟩
  rw [eval_ListComp]
  have hfree : ∀ y ∈ scope.names, y.2 = .free → ∃ c, X.env.cells.lookup y.1 = some c := fun y hy e => by
    rcases ok.free y hy e with k | k
    · exact I.ok.has _ (.inl k)
    · exact I.ok.has _ (.inr k)
  refine wpAny_comprehension_free (use := none) rfl hs (closure_ok hfree) ok.kind (fun y hy e => by rw [ok.uniq y hy, e])
    (thn (h.run pins s σ H _ I hq) fun xv s1 hx => ?_)
  obtain ⟨H1, sc, I1, a, g, c, rfl, ha1, ha2, hg, hgs, hos, hb, hl, hkp, wake⟩ := hx
  refine wpAny_pyIter_gen hg ?_
  refine wpAny_newObj_type (newEnv_comp ?_) (by show 0 ≤ sizeLine; decide)
  have hsz : sc.heap.objs.size ≤ s1.heap.objs.size := Nat.le_trans ha1 (Nat.le_of_lt ha2)
  generalize hD : s1.heap.objs.size = D at ha2
  generalize hs3 : ({ s1 with heap := s1.heap.push { cls := .type "list", data := .seq ([] : List Value).toArray } } : Shared) = s3
  have h3 : s3.heap = s1.heap.push { cls := .type "list", data := .seq ([] : List Value).toArray } := by rw [← hs3]
  have z3 : s3.heap.objs.size = D + 1 := by rw [h3, Heap.size_push, hD]
  have k3 : ∀ b o, s1.heap.get? b = some o → s3.heap.get? b = some o := fun b o e => by rw [h3]; exact Heap.get?_push_of_some _ e
  have hD3 : s3.heap.get? D = some (lstObj #[] 0) := by
    rw [h3, ← hD]
    exact Heap.get?_push_size _ rfl
  have g3 : s3.gens = s1.gens ∧ s3.os = s1.os := by rw [← hs3]; exact ⟨rfl, rfl⟩
  show codeAny _ _ (.compStart (.ListComp (.Name y p1) [⟨.Name y p2, iter, [], 0⟩] scope pos) 0 (.ref a) (.ref D) (compEnvC scope (cellsFrom (s3.heap.objs.size + 1) scope.names (cloFrom X.env.cells scope.names [])) s3.heap.objs.size X.env)) (compPost (model X.prog X.w) X.A X.xe none (EP X pins σ Q) (.ref D) s3.heap.objs.size) { s3 with heap := pushCells (s3.heap.push { cls := .type "dict", data := .dict #[] }) scope.names }
  rw [z3]
  generalize hs4 : ({ s3 with heap := pushCells (s3.heap.push { cls := .type "dict", data := .dict #[] }) scope.names } : Shared) = s4
  have k4 : ∀ b o, s1.heap.get? b = some o → s4.heap.get? b = some o := fun b o e => by rw [← hs4]; exact pushCells_keeps _ _ _ _ (Heap.get?_push_of_some _ (k3 b o e))
  have hD4 : s4.heap.get? D = some (lstObj #[] 0) := by rw [← hs4]; exact pushCells_keeps _ _ _ _ (Heap.get?_push_of_some _ hD3)
  have hC4 : s4.heap.Ns (D + 1) fun _ => none := by
    rw [← hs4, ← z3]
    exact (Heap.Ns.new s3.heap (.type "dict")).keeps (pushCells_keeps _ _)
  have g4 : s4.gens = s1.gens ∧ s4.os = s1.os := by rw [← hs4]; exact g3
  have hcl : cStatics < D := by
    obtain ⟨_, hn, _⟩ := hl
    rw [← hD]
    exact hn.lt
  have hgn : s4.heap.IsGen a g := hg.keeps k4
  have loop : codeAny (model X.prog X.w) X.A (.compLoop (.ListComp (.Name y p1) [⟨.Name y p2, iter, [], 0⟩] scope pos) 0 (.ref a) (.ref D) (compEnvC scope (cellsFrom (D + 1 + 1) scope.names (cloFrom X.env.cells scope.names [])) (D + 1) X.env)) (compPost (model X.prog X.w) X.A X.xe none (EP X pins σ Q) (.ref D) (D + 1)) s4 := by
    have hky : (compEnvC scope (cellsFrom (D + 1 + 1) scope.names (cloFrom X.env.cells scope.names [])) (D + 1) X.env).kindOf y = some .local := lookup_relabel_local hy
    refine gen_loop (outer := X.stack) (H := H1) (sc := sc) (Q := fun out H2 => ∀ p, H2 p = none → Q (.ref p) (upd H2 p (.lst out))) (I.ok.hd hc) hr.depth (Nat.ne_of_gt ha2) (Nat.ne_of_gt (Nat.lt_succ_of_lt ha2)) (Nat.ne_of_gt hcl) (Nat.ne_of_gt (Nat.lt_succ_of_lt hcl)) (Nat.ne_of_lt (Nat.lt_succ_self _)) rfl ok.kind
      hky ?_ hdb (fun s' acc c' H' ys m q1 q2 q3 q4 q5 q6 q7 q8 q9 q10 q11 => ?_) sizeLine s4 hgn (hl.keeps k4) ⟨_, hC4⟩ ⟨.fresh c, by rw [g4.1]; exact hgs, ?_⟩
    · show (scope.kind == .class || (scope.kind == .module && _)) = false
      rw [ok.kind]
      rfl
    · have hSz : sc.heap.objs.size ≤ D := by rw [← hD]; exact hsz
      refine ⟨m, q10, fun h'' sb => ?_⟩
      have I7 := I1.drained hSz q3 q1 q2 .nil q4 q5 q6 q7 q8
      have hCn : upd H' D (.lst ys) (D + 1) = none := by rw [upd_ne (Nat.succ_ne_self _)]; exact q9
      obtain ⟨f0, f1, f2, f3, f4, f5⟩ := I1.fpOk (H' := upd H' D (.lst ys)) (b := D + 1) (Nat.le_succ_of_le hSz) hCn
      exact ⟨.ref D, _, I7.turned (t' := s'.toks) (fun b o hb e => (sb.2 b hb).trans e) f0 f1 f3 f4 f5, rfl, q11 D q8⟩
    · refine ⟨rfl, ?_⟩
      refine wake X.A.in1 D (D + 1) _ ?_ I1.ok.frames ?_ ?_ (Nat.ne_of_lt (Nat.lt_succ_self _)) k4 ⟨0, hD4⟩ (ns_obj hC4) (g4.2.trans hos) (allBare_setGen (by rw [g4.1]; exact hb) rfl)
      · exact hr.in1
      · rw [hD]; exact Nat.le_refl _
      · rw [hD]; exact Nat.le_succ _
  exact codeAny_compStart_list loop (wpAny_pyIter_gen hgn loop)
end
end CN
set_option Elab.async false
set_option linter.all false
set_option maxRecDepth 100000
set_option maxHeartbeats 4000000
/-! KR: defs that are run where no list is being shown; repr of data. -/
namespace CN
open PySem PySem.Spec PyProof.Rows L2
structure FnOkG (P : Program) (w : World) (K : PySem.W.Frag) (mg : Str → Option Value) (base : Heap) (k : Nat) (f : Addr) (fd : FuncData) (ps : List Str) (sp : Sp) : Prop where
  len : ∀ vs H Q, sp vs H Q E0 → vs.length = ps.length
  run : ∀ (A : Around) (outer : List Env) (s : Shared) (H : Hp) (args : Args) (us : List Value) (vs : List V) (Q : VK), A.guards = some [] → Room k A → Env0 P w K mg base A outer s H → BindsTo s fd args (ps.zip us) → Vals vs us → sp vs H Q E0 →
    codeAny (model P w) A (.call (.ref f) args) (CR CX0 outer P w H s Q E0) s
structure CalG (P : Program) (w : World) (K : PySem.W.Frag) (mg : Str → Option Value) (base : Heap) (x : Str) (k : Nat) (ps : List Str) (sp : Sp) : Prop where
  ex : ∃ f fd, FnOkG P w K mg base k f fd ps sp ∧ mg x = some (.ref f) ∧ PySem.W.keepIn K (.ref f) = true ∧ Binds K fd ps []
theorem fnG_of {P : Program} {w : World} {K : PySem.W.Frag} {mg : Str → Option Value} {base : Heap} {k : Nat} {f : Addr} {name qual : Str} {params : Arguments} {body : List Stmt} {scope : Scope} {dV kV doc pm cdv ct oc : Value} {an od : Option Addr}
    {osl : Array (Option Value)} {N ps : List Str} {sp : Sp} (lk : K.lookup f = some ⟨oc, od, .func (PySem.W.fnOf name qual params body scope dV kV doc pm an cdv ct), osl⟩) (hcd : PySem.W.codeIn K cdv qual = true) (S : FnScope N ps scope)
    (len : ∀ vs H Q, sp vs H Q E0 → vs.length = ps.length)
    (hbody : ∀ (A : Around) (outer : List Env) (s : Shared) (H : Hp) (vs : List V) (Q : VK), (A.deeper (envOfC qual scope s.heap.objs.size f cdv)).guards = some [] → Room k (A.deeper (envOfC qual scope s.heap.objs.size f cdv)) → sp vs H Q E0 →
      ∃ t, PSs (cxOf CX0 P w K mg base N qual scope f cdv A outer s H E0) body t ∧ t { nx := fun _ H' => Q .non H', rt := Q } (start N vs) H) :
    FnOkG P w K mg base (k + 1) f (PySem.W.fnOf name qual params body scope dV kV doc pm an cdv ct) ps sp := by
  refine ⟨len, fun A outer s H args us vs Q hgd hr e0 hb r hsp => ?_⟩
  have hl := len _ _ _ hsp
  have KX : K.In s.heap := e0.mod.kin.keeps fun b o e => (e0.bs b o e).1
  have lim : s.heap.NoLimit := e0.mod.nolimit.keeps fun b o e => (e0.bs b o e).1
  have hkind : ∀ y ∈ ps.zip us, scope.names.lookup y.1 = some .local ∨ (scope.names.lookup y.1 = some .cell ∧ ((cellsFrom (s.heap.objs.size + 1) scope.names []).lookup y.1).isSome = true) := fun ⟨n, v⟩ hy => by
    rcases S.par n (List.of_mem_zip hy).1 with q | q
    · exact .inl q
    · exact .inr ⟨q, PySem.W.cellsFrom_some _ _ _ (.inl q)⟩
  refine codeAny_call_function hr.depth (KX _ _ lk) rfl S.co S.gen rfl (PySem.W.codeRec_of KX hcd) (hb _ _ _ _ ?_)
  refine wpAny_newFunctionEnv_cells S.kind hkind fun env he s1 x => ?_
  subst he
  refine ⟨lim.keeps x.toInCall.keep, codeAny_func ?_⟩
  obtain ⟨t, ht, hq⟩ := hbody A outer s H vs Q hgd (hr.deeper _) hsp
  have I : Inv (cxOf CX0 P w K mg base N qual scope f cdv A outer s H E0) [] (start N vs) H s1 := inv_start S hr.hd e0 hl r x
  refine wpAny_mono (ht.run [] s1 (start N vs) H _ I hq) (fun fl s' hs => ?_) fun e s' hs => hs
  have fin : ∀ {σ' : L2.St} {H' : Hp} {v : V} {u : Value}, Inv (cxOf CX0 P w K mg base N qual scope f cdv A outer s H E0) [] σ' H' s' → RelV v u → Q v H' → CE outer P w H s Q u s' :=
    fun {σ' H' v u} J rv q => ⟨v, H', J.os, J.bare, J.base, J.hok, rv, q⟩
  cases fl with
  | ret u =>
    obtain ⟨v, σ', H', J, rv, q⟩ := hs
    exact fin J rv q
  | next =>
    obtain ⟨σ', H', J, q⟩ := hs
    exact fin (v := V.non) (u := Value.none) J rfl q
  | brk =>
    obtain ⟨_, _, _, q⟩ := hs
    exact False.elim q
  | cont =>
    obtain ⟨_, _, _, q⟩ := hs
    exact False.elim q

section
variable {P : Program} {w : World} {K : PySem.W.Frag} {mg : Str → Option Value} {base : Heap} {x qual : Str} {st : Stmt} {N ps : List Str} {k : Nat} {sp : Sp}
theorem FunC.calG (F : FunC K mg x qual st) (S : FnScope N ps (defScope st))
    (hb : ∀ (kV doc pm : Value) (an : Option Addr) (cdv ct : Value) (us : List Value), us.length = ps.length → bindArgs (PySem.W.fnOf x qual (defArgs st) (defBody st) (defScope st) .none kV doc pm an cdv ct) ⟨us, []⟩ = pure (ps.zip us))
    (len : ∀ vs H Q, sp vs H Q E0 → vs.length = ps.length)
    (hbody : ∀ (f : Addr) (cdv : Value) (A : Around) (outer : List Env) (s : Shared) (H : Hp) (vs : List V) (Q : VK), (A.deeper (envOfC qual (defScope st) s.heap.objs.size f cdv)).guards = some [] → Room k (A.deeper (envOfC qual (defScope st) s.heap.objs.size f cdv)) → sp vs H Q E0 →
      ∃ t, PSs (cxOf CX0 P w K mg base N qual (defScope st) f cdv A outer s H E0).nox (defBody st) t ∧ t { nx := fun _ H' => Q .non H', rt := Q } (start N vs) H) : CalG P w K mg base x (k + 1) ps sp := by
  obtain ⟨f, fd, Fn, hm⟩ := F.ex
  have hbn := Fn.binds hb
  have hkp := Fn.kp
  obtain ⟨oc, od, kV, doc, pm, an, cdv, ct, osl, rfl, lk, hcd⟩ := Fn.ex
  refine ⟨f, _, fnG_of lk hcd S len fun A outer s H vs Q hg hr hsp => ?_, hm, hkp, hbn⟩
  obtain ⟨t, h, q⟩ := hbody f cdv A outer s H vs Q hg hr hsp
  exact ⟨t, h.nox, q⟩
end
section
variable {X : Cx} {x : Str} {k j : Nat} {ps : List Str} {sp : Sp} {p pos : Pos} {e : Expr} {es : List Expr} {t : TA}
theorem pe_calG (C : CalG X.prog X.w X.K X.mg X.base x k ps sp) (hgd : X.A.guards = some []) (hr : Room j X.A) (hg : Gl X x) (ha : PA X (e :: es) t) (hk : k ≤ j := by decide) (hdb : (x == ("__debug__" : Str)) = false := by decide)
    (he : starEach (e :: es) X.env = (false, eval e X.env) :: starEach es X.env := by rfl) (hpl : (backTo pos (starEach es X.env)).any (·.1) = false := by rfl) : PE X (.Call (.Name x p) (e :: es) [] pos) (tCall sp [] E0 t) := by
  obtain ⟨f, fd, F, hm, hkp, hb⟩ := C.ex
  refine ⟨fun pins s σ H Q I h => ?_⟩
  refine wpAny_Call_Name_kw (ld_glob I hg hm ?_ hdb)
  refine PySem.W.callWith_K (h₀ := X.base) I.ok.mod.kin hkp (thn (ha.run pos pins s σ H _ I h) fun us s1 ⟨vs, H1, I1, r, q⟩ => ⟨I1.kIn, ?_⟩) he hpl
  have q : sp vs H1 Q E0 := by
    have q' : sp (vs ++ []) H1 Q E0 := q
    rw [List.append_nil] at q'
    exact q'
  have hl2 : us.length = ps.length := by rw [← r.length]; exact F.len _ _ _ q
  have hb1 := hb s1 us I1.kIn (by rw [List.append_nil]; exact hl2)
  rw [List.append_nil] at hb1
  refine wpAny_call (codeAny_mono (F.run X.A X.stack s1 H1 ⟨us, []⟩ us vs Q hgd (hr.mono hk) I1.env0 hb1 r q) fun r s' hq => ?_)
  cases r with
  | error e => exact False.elim hq
  | ok fl =>
    cases fl with
    | ret u => exact I1.after hq
    | next => exact False.elim hq
    | brk => exact False.elim hq
    | cont => exact False.elim hq
end
/-! ### repr -/
def rReprD (K : PySem.W.Frag) : List V → Hp → VK → Prop := fun vs H Q => ∃ (a : Addr) (d : PyData), vs = [.ref a] ∧ Dp K H (.ref a) d ∧ d.hasDict = false ∧ d.showable = true ∧ d.depth ≤ 60 ∧ d.shown.length ≤ sizeLine ∧ Q (.str d.shown) H
theorem cr_reprD {X : Cx} (hgd : X.A.guards = some []) (hu : X.A.units + 64 < cLine) : CallR X (.builtin "repr") (rReprD X.K) := by
  intro pins s σ H vs us Q I r h
  obtain ⟨a, d, rfl, hd, hnd, hs, hdp, hsz, q⟩ := h
  rw [Vals.ref1 r]
  obtain ⟨as, rr⟩ := Dp.reads I d (.ref a) (.ref a) hd rfl
  exact PySem.repr_of_reads' rr hs (PyData.noDict_hsm hnd) hgd (by omega) (fun _ _ e => e) (fun h' u tk hk => ⟨.str d.shown, H, I.kept (t' := tk) hk, ⟨u, rfl⟩, q⟩) hsz
theorem ko_repr {X : Cx} {K : PySem.W.Frag} (hgd : X.A.guards = some []) (hu : X.A.units + 64 < cLine) (hK : X.K = K := by rfl) : CallR X (.builtin "repr") (rReprD K) := by
  subst hK
  exact cr_reprD hgd hu
theorem cv_reprB {K : PySem.W.Frag} {B : Hp} {x y : Bool} : CV (rReprD K) B [Da K (.list ([x, y].map .bool))] (Xv (.str (PyData.shown (.list ([x, y].map .bool))))) := fun vs B1 H _ b p Q q => by
  obtain ⟨v, rfl, pv⟩ := all2_1 p
  obtain ⟨a, xs, rfl, hs, ha⟩ := dp_lst_inv pv
  refine ⟨a, _, rfl, dp_mono b _ _ pv, rfl, rfl, ?_, ?_, q _ B1 H (.refl b) rfl⟩
  · simp [PyData.depth, PyData.depthAll]
  · cases x <;> cases y <;> exact Nat.le_trans (show _ ≤ 20 by decide) (sz_of (by decide))
/-! ### the law's call -/
theorem law_callG {P : Program} {w : World} {K : PySem.W.Frag} {mg mb : Str → Option Value} {k : Nat} {fa a : Addr} {fd : FuncData} {x : Str} {sp : Sp} {s₁ : Shared} {vs : List Value} {ns : List Int}
    (KX : K.In s₁.heap) (hns : s₁.heap.Ns mainGlobals mg) (hb : s₁.heap.Ns builtinsNs mb) (hbb : ∀ x : Str, x ≠ "__name__" → mb x = bootBuiltins x) (hlim : s₁.heap.NoLimit) (hg : s₁.gens = #[])
    (ha : s₁.heap.get? a = some { cls := .type "list", data := .seq vs.toArray }) (hi : IntsAre vs ns) (hl : ns.length ≤ sizeLine) (hr : Room k callerA)
    (F : ∀ base : Heap, K.In base → base.Ns mainGlobals mg → FnOkG P w K mg base k fa fd [x] sp) (hbind : ∀ (s : Shared) (u : Value), BindsTo s fd ⟨[u], []⟩ [(x, u)])
    (hsp : ∀ H : Hp, Only H → SqL K H a (ns.map V.int) → sp [.ref a] H (fun v _ => v = .bl true) E0) :
    codeAny (model P w) callerA (.call (.ref fa) ⟨[.ref a], []⟩) (fun r s' => r = .ok (.ret (.bool true)) ∧ OldK s₁.heap s'.heap ∧ s'.os = s₁.os ∧ AllBare s'.gens) s₁ := by
  have rv := vals_ints hi
  have lenV := hi.length
  -- from an abstract heap in which nothing but the script may be tracked
  have core : ∀ H : Hp, Only H → SqL K H a (ns.map V.int) → HOk P w H s₁.heap → (∀ b, H b ≠ none → b = a) → (H a ≠ none → K.lookup a = none) →
      codeAny (model P w) callerA (.call (.ref fa) ⟨[.ref a], []⟩) (fun r s' => r = .ok (.ret (.bool true)) ∧ OldK s₁.heap s'.heap ∧ s'.os = s₁.os ∧ AllBare s'.gens) s₁ := by
    intro H hO hS hok hA hK
    have base_of : ∀ {b : Addr} {o : Obj}, s₁.heap.get? b = some o → H b = none → (hidT s₁.heap H).get? b = some o := fun e n => hidT_get e n
    have noA : ∀ {b : Addr} {o : Obj} {es : Array DictEntry} {ep : Nat}, s₁.heap.get? b = some o → o.data = .dict es ep → H b = none := fun {b o es ep} e d => by
      cases q : H b with
      | none => rfl
      | some u =>
        have e' : b = a := hA b (by rw [q]; simp)
        subst e'
        rw [ha] at e; cases e
        have d' : Data.seq vs.toArray _ = Data.dict es ep := d
        cases d'
    have nsK : ∀ {b : Addr} {m : Str → Option Value}, s₁.heap.Ns b m → (hidT s₁.heap H).Ns b m := fun {b m} ⟨o, es, ep, e, d, r⟩ => ⟨o, es, ep, base_of e (noA e d), d, r⟩
    have hKb : K.In (hidT s₁.heap H) := fun b o e => base_of (KX b o e) (by
      cases q : H b with
      | none => rfl
      | some u =>
        have e' : b = a := hA b (by rw [q]; simp)
        subst e'
        rw [hK (by rw [q]; simp)] at e; cases e)
    have hM : Mod K mg (hidT s₁.heap H) := ⟨hKb, nsK hns, ⟨mb, nsK hb, hbb⟩, let ⟨mc, h1, h2⟩ := hlim; ⟨mc, nsK h1, h2⟩⟩
    have e0 : Env0 P w K mg (hidT s₁.heap H) callerA [] s₁ H := ⟨rfl, hM, fun b o e => of_hidT e, Nat.le_of_eq (hidT_size _ _), trivial, fun b hb => absurd (show b ∈ ([] : List Addr) from hb) (by simp), hok, .of_eq hg⟩
    refine codeAny_mono ((F _ hKb (nsK hns)).run callerA [] s₁ H ⟨[.ref a], []⟩ [.ref a] [.ref a] _ rfl hr e0 (hbind s₁ (.ref a)) (.cons rfl .nil) (hsp H hO hS)) fun r s' h => ?_
    cases r with
    | error e => exact False.elim h
    | ok fl =>
      cases fl with
      | next => exact False.elim h
      | brk => exact False.elim h
      | cont => exact False.elim h
      | ret u =>
        obtain ⟨v, H', os, bare, un, hok', r', q⟩ := h
        have q' : v = .bl true := q
        subst q'
        obtain rfl : u = Value.bool true := r'
        refine ⟨rfl, OldK.of_keep fun b o e => ?_, os, bare⟩
        cases q : H b with
        | none => exact un.keep b o e q (by intro z; exact absurd (show b ∈ ([] : List Addr) from z) (by simp)) (by simp)
        | some u =>
          rcases hO b with z | ⟨ob, xs, z⟩
          · rw [q] at z; cases z
          · have z2 := un.frzs b ob _ z
            obtain ⟨e1, _⟩ := hok b _ z
            obtain ⟨e2, _⟩ := hok' b _ z2
            rw [e] at e1; cases e1
            exact e2
  cases hk : K.lookup a with
  | some o =>
    -- the script is one of the module's own objects
    have e := KX a o hk
    rw [ha] at e
    cases e
    refine core (fun _ => none) (fun _ => .inl rfl) (.inr ⟨_, vs.toArray, _, hk, rfl, rfl, rfl, by rw [List.size_toArray, lenV]; exact hl, by simpa using rv⟩) (fun b u z => by have z' : (none : Option HO) = some u := z; cases z') (fun b z => absurd rfl z) fun z => absurd rfl z
  | none =>
    refine core (fun b => if b = a then some (.frz { cls := .type "list", data := .seq vs.toArray } (.lst (ns.map V.int))) else none) (fun b => ?_) (.inl (.inr ⟨{ cls := .type "list", data := .seq vs.toArray }, if_pos rfl⟩)) (fun b u z => ?_) (fun b z => ?_) fun _ => hk
    · by_cases hb : b = a
      · exact .inr ⟨_, _, if_pos hb⟩
      · exact .inl (if_neg hb)
    · by_cases hb : b = a
      · have z' := (if_pos hb).symm.trans z
        cases z'
        subst hb
        exact ⟨ha, by rw [List.length_map]; exact hl, vs, _, rv, ha⟩
      · have z' := (if_neg hb).symm.trans z
        cases z'
    · by_cases hb : b = a
      · exact hb
      · exact absurd (if_neg hb) z

theorem walk_ofG {l : PySem.W.OpenLaw} {n k : Nat} {q : Program} {loose : List Str} {XP : (Str → Option Value) → Heap → Prop} {YP : World → Heap → Prop} {d : DefRec} {x : Str}
    (hn : l.most = some n) (hn2 : n ≤ sizeLine) (hdf : d.params.defaults = []) (hr : Room k callerA)
    (F : ∀ (w : World) (mg : Str → Option Value) (fa : Addr) (h : Heap), YP w h → h.Ns mainGlobals mg → mg d.name = some (.ref fa) →
      ∃ (K : PySem.W.Frag) (fd : FuncData) (sp : Sp), K.In h ∧ (∀ (s : Shared) (u : Value), BindsTo s fd ⟨[u], []⟩ [(x, u)]) ∧
        (∀ (H : Hp) (a : Addr) (ns : List Int), ns.length ≤ n → Only H → SqL K H a (ns.map V.int) → sp [.ref a] H (fun v _ => v = .bl true) E0) ∧
        ∀ base : Heap, K.In base → base.Ns mainGlobals mg → FnOkG l.prog w K mg base k fa fd [x] sp) :
    PySem.W.WalkO q loose XP YP l.row.toRowW d [] (fun f vs => PySem.call f vs) := by
  refine Att.attach_call hn hdf fun w s₀ s₁ mg mb fa o pm cd doc a vs ns G Y ho hd hcd hmg hobj hints hlen hg => ?_
  obtain ⟨K, fd, sp, KX, hb, hsp, hF⟩ := F w mg fa _ Y G.T.g hmg
  exact law_callG KX G.T.g G.T.b G.T.builtins G.T.nolimit hg hobj hints (Nat.le_trans hlen hn2) hr hF hb fun H hO hS => hsp H a ns hlen hO hS
end CN
set_option Elab.async false
set_option linter.all false
set_option maxRecDepth 100000
set_option maxHeartbeats 4000000
/-! KN: the class Net. -/
namespace CN
open PySem PySem.Spec PyProof.Rows L2
/-- what of the class is asked -/
structure NetF (K : PySem.W.Frag) (mg : Str → Option Value) (C : Addr) : Prop where
  glo : mg "Net" = some (.ref C)
  cls : Cls K C
  kp : PySem.W.keepIn K (.ref C) = true
  nc : NoAttr K C "coins"
  nr : NoAttr K C "row"
  ca : PySem.W.findIn K (.ref C) "__class__" = some (some (.builtin "object.__class__"))
  cg : PySem.W.specialIn K (.builtin "object.__class__") "__get__" = some (some (.builtin "getset_descriptor.__get__"))
  ct : PySem.W.takesIn K (.builtin "object.__class__") = some true
  cm : PySem.W.mroIn K C (.type "object") = some true
  nq : PySem.W.noSeq K C = true
  rd : ClX.CRead K C (.type "type")
/-- a net: its worths, its deeds -/
def NetP (K : PySem.W.Frag) (C : Addr) (ws : List Int) (ds : List Deed) : Pd := fun v B => ∃ a dx v1 v2, v = .ref a ∧ B a = some (.ins C dx [("coins", v1), ("row", v2)]) ∧ Dp K B v1 (TuI ws) ∧ Dp K B v2 (.tuple (ds.map DD))
instance {K : PySem.W.Frag} {C : Addr} {ws : List Int} {ds : List Deed} : Mo (NetP K C ws ds) := ⟨fun _ _ _ e ⟨a, dx, v1, v2, h1, h2, h3, h4⟩ => ⟨a, dx, v1, v2, h1, e _ _ h2, dp_mono e _ _ h3, dp_mono e _ _ h4⟩⟩
section
variable {P : Program} {w : World} {K : PySem.W.Frag} {mg : Str → Option Value} {base : Heap} {k : Nat} {f : Addr} {fd : FuncData} {ps : List Str} {sp : Sp} {C : Addr}
theorem fnR_of (F : FnOk P w K mg base CX0 k f fd ps sp) (hb : L2.Binds K fd ps []) : FnR P w K mg base CX0 k f sp := fun A outer s H us vs Q E hr e0 r hs => by
  have KX : K.In s.heap := e0.mod.kin.keeps fun b o e => (e0.bs b o e).1
  have hl : us.length = ps.length := by rw [← r.length]; exact F.len _ _ _ _ hs
  have hb1 := hb s us KX (by rw [List.append_nil]; exact hl)
  rw [List.append_nil] at hb1
  exact F.run A outer s H ⟨us, []⟩ us vs Q E hr e0 hb1 r hs
end
/-- a method by its promise; a property; a classmethod; the making -/
structure CalM (P : Program) (w : World) (K : PySem.W.Frag) (mg : Str → Option Value) (base : Heap) (C : Addr) (m : Str) (k : Nat) (sp : Sp) : Prop where
  ex : ∃ f, FnR P w K mg base CX0 k f sp ∧ Meth K C m f ∧ PySem.W.fnIn K f = true
structure CalP (P : Program) (w : World) (K : PySem.W.Frag) (mg : Str → Option Value) (base : Heap) (C : Addr) (m : Str) (k : Nat) (sp : Sp) : Prop where
  ex : ∃ p g fd, FnOk P w K mg base CX0 k g fd ["self"] sp ∧ PropOf K C m p g ∧ L2.Binds K fd ["self"] []
structure CalC (P : Program) (w : World) (K : PySem.W.Frag) (mg : Str → Option Value) (base : Heap) (C : Addr) (m : Str) (k : Nat) (sp : Sp) : Prop where
  ex : ∃ p g, FnR P w K mg base CX0 k g sp ∧ ClX.CMet K C (.type "type") m p g
structure CalI (P : Program) (w : World) (K : PySem.W.Frag) (mg : Str → Option Value) (base : Heap) (C : Addr) (k : Nat) (sp : Sp) : Prop where
  ex : ∃ f, FnR P w K mg base CX0 k f sp ∧ L2.Mk K C f
section
variable {X : Cx} {C : Addr} {k j : Nat} {sp : Sp} {e o : Expr} {es : List Expr} {ta tf : TE} {t : TA} {pos p apos : Pos} {m x : Str}
theorem pe_prp (c : Cls X.K C) (M : CalP X.prog X.w X.K X.mg X.base C m k sp) (hr : Room j X.A) (he : PE X e ta) (hk : k + 1 ≤ j := by decide) (hab : attributeBase e m X.env (eval e X.env) = eval e X.env := by rfl) : PE X (.Attribute e m pos) (tProp C sp [] E0 ta) := by
  obtain ⟨p, g, fd, F, hp, hb⟩ := M.ex
  exact pe_prop he c hp F (hr.mono hk) hb .nil pass0 hab
theorem pe_clm (N : ClX.CRead X.K C (.type "type")) (M : CalC X.prog X.w X.K X.mg X.base C m k sp) (hr : Room j X.A) (he : PE X o ta) (ha : PA X (e :: es) t) (hk : k ≤ j := by decide) {pl : Sem Bool}
    (hst : starEach (e :: es) X.env = (false, eval e X.env) :: starEach es X.env := by rfl) (hpl : (backTo pos (starEach es X.env)).any (·.1) = false := by rfl)
    (ht : eval (.Call (.Attribute o m apos) (e :: es) [] pos) X.env = (do
      let ov ← eval o X.env
      standAt apos.atName
      let (f, first) ← holding [ov] (getMethod ov m pl)
      callWith pos f first (backTo pos (starEach (e :: es) X.env)) (backToKw pos (keywordEach [] X.env))) := by rfl) :
    PE X (.Call (.Attribute o m apos) (e :: es) [] pos) (ClX.tCMeth C sp E0 ta t) := by
  obtain ⟨p, g, F, hc⟩ := M.ex
  exact ClX.pe_cmeth he N hc F (hr.mono hk) pass0 ha hst hpl ht
/-- cls(e, .., *y) -/
def tMakeL (C : Addr) (sp : Sp) (tf : TE) (t : TA) : TE := fun σ H Q => tf σ H fun y H1 => y = .ref C ∧ StX.tMakeR C sp E0 t σ H1 Q
theorem pe_makeL (M : CalI X.prog X.w X.K X.mg X.base C k sp) (hr : Room j X.A) (hf : PE X (.Name x p) tf) (ha : PA X (e :: es) t) (hk : k + 1 ≤ j := by decide)
    (he : starEach (e :: es) X.env = (false, eval e X.env) :: starEach es X.env := by rfl) (hst : (backTo pos (starEach es X.env)).any (·.1) = true := by rfl) : PE X (.Call (.Name x p) (e :: es) [] pos) (tMakeL C sp tf t) := by
  obtain ⟨g, F, Mk⟩ := M.ex
  refine ⟨fun pins s σ H Q I h => ?_⟩
  refine wpAny_Call_Name_kw (thn (hf.run pins s σ H _ I h) fun u s0 ⟨y, H0, I0, ry, ey, q0⟩ => ?_)
  subst ey
  obtain rfl : u = Value.ref C := ry
  refine PySem.W.callWith_S2 (h₀ := X.base) I.ok.mod.kin Mk.kp (thn (ha.run pos pins s0 σ H0 _ I0 q0) fun us s1 ⟨vs, H1, I1, r, q⟩ => ⟨I1.kIn, ?_⟩) he hst
  exact StX.run_makeR Mk F (hr.mono hk) pass0 I1 r q
/-! ### len(net), net[i] -/
def rLenO (C : Addr) (sp : Sp) : List V → Hp → VK → Prop := fun vs H Q => ∃ a dx fs, vs = [.ref a] ∧ H a = some (.ins C dx fs) ∧ sp [.ref a] H (fun v H' => ∃ n : Nat, v = .int n ∧ n < 100000 ∧ Q (.int n) H') E0
theorem inst_at {pins : List (Addr × Obj)} {σ : L2.St} {H : Hp} {s : Shared} {a dx : Addr} {fs : List (Str × V)} (I : Inv X pins σ H s) (e : H a = some (.ins C dx fs)) : ∃ ox od, PySem.W.InstAt s.heap a ox C od := by
  obtain ⟨mA, O, _⟩ := ins_get I.hok e
  obtain ⟨od, J, _⟩ := O.look
  exact ⟨_, _, J⟩
theorem run_in1 {pins : List (Addr × Obj)} {σ : L2.St} {H : Hp} {s : Shared} {Q : VK} {f : Addr} {us : List Value} {vs : List V} {E1 : Value → Shared → Prop} (F : FnR X.prog X.w X.K X.mg X.base CX0 k f sp) (hr : Room (k + 1) X.A) (I : Inv X pins σ H s) (r : Vals vs us) (h : sp vs H Q E0) :
    wpAny (model X.prog X.w) X.A.in1 (call (.ref f) us) (EP X pins σ Q) E1 s := by
  refine wpAny_call (codeAny_mono (F X.A.in1 X.stack s H us vs Q E0 hr.in1 I.env0.in1 r h) fun r s' hq => ?_)
  cases r with
  | error e => exact False.elim hq
  | ok fl =>
    cases fl with
    | ret u => exact I.after hq
    | next => exact False.elim hq
    | brk => exact False.elim hq
    | cont => exact False.elim hq
theorem ko_lenO (M : CalM X.prog X.w X.K X.mg X.base C "__len__" k sp) (hr : Room j X.A) (hk : k + 1 ≤ j := by decide) : CallR X (.builtin "len") (rLenO C sp) := by
  obtain ⟨f, F, hm, _⟩ := M.ex
  intro pins s σ H vs us Q I r h
  obtain ⟨a, dx, fs, rfl, ea, q⟩ := h
  rw [Vals.ref1 r]
  obtain ⟨m, fr⟩ := I.fr
  obtain ⟨ox, od, J⟩ := inst_at I ea
  refine PySem.W.len_K fr I.ok.mod.kin J hm.at_ hm.fn (thn (run_in1 (us := [.ref a]) (vs := [.ref a]) F (hr.mono hk) I (.cons rfl .nil) q) fun u s' ⟨v, H', I', rv, n, ev, hn, q'⟩ => ?_)
  subst ev
  obtain ⟨t, rfl⟩ := rv
  exact ⟨⟨by omega, by omega⟩, .int n, H', I'.tok _, ⟨_, rfl⟩, q'⟩
def tIxO (C : Addr) (sp : Sp) (ta tb : TE) : TE := fun σ H Q => ta σ H fun x H1 => tb σ H1 fun y H2 => ∃ a dx fs i, x = .ref a ∧ y = .int i ∧ H2 a = some (.ins C dx fs) ∧ sp [.ref a, .int i] H2 Q E0
theorem pe_ixO {a b : Expr} {ta tb : TE} (M : CalM X.prog X.w X.K X.mg X.base C "__getitem__" k sp) (hr : Room j X.A) (ha : PE X a ta) (hb : PE X b tb) (hsl : ∀ x i : Value, subscripted b true x i = runValue (.builtin "lifetime.subscript" ⟨[x, i], []⟩)) (hk : k + 1 ≤ j := by decide) : PE X (.Subscript a b pos) (tIxO C sp ta tb) := by
  obtain ⟨f, F, hm, hf⟩ := M.ex
  refine ⟨fun pins s σ H Q I h => ?_⟩
  refine Subscript_ (thn (ha.run pins s σ H _ I h) fun u s1 ⟨x, H1, I1, rx, q1⟩ => thn (hb.run pins s1 σ H1 _ I1 q1) fun u2 s2 ⟨y, H2, I2, ry, a0, dx, fs, i, ex, ey, ea, q⟩ => ?_)
  subst ex ey
  obtain rfl : u = Value.ref a0 := rx
  obtain ⟨t, rfl⟩ := ry
  obtain ⟨m, fr⟩ := I2.fr
  obtain ⟨ox, od, J⟩ := inst_at I2 ea
  exact PySem.W.sub_K fr I2.ok.mod.kin J hm.at_ hf hm.fn (run_in1 (us := [.ref a0, .int i t]) (vs := [.ref a0, .int i]) F (hr.mono hk) I2 (.cons rfl (.cons ⟨t, rfl⟩ .nil)) q) (hsl _ _)
/-! ### self.f as a target -/
def gFld (K : PySem.W.Frag) (ta : TE) (f : Str) : TG := fun v σ H Q => ta σ H fun x H2 => ∃ a C dx fs, x = .ref a ∧ H2 a = some (.ins C dx fs) ∧ Cls K C ∧ NoAttr K C f ∧ fs.length < 1000 ∧ Q σ (upd H2 a (.ins C dx (putF f v fs)))
theorem pg_fld (he : PE X o ta) : PG X (.Attribute o m pos) (gFld X.K ta m) := by
  refine ⟨fun pins s σ H v u Q I r h => ?_⟩
  show wpAny _ _ (do
    let ov ← holding [u] (eval o X.env)
    standAt pos.atName
    holding [u, ov] (setAttr ov m u)
    release [u, ov] []) _ _ s
  refine wpAny_bind (wpAny_holding (thn (he.run pins s σ H _ I h) fun ov s1 ⟨x, H1, I1, rx, a, C, dx, fs, ex, ea, c, n, l, q⟩ => ?_))
  subst ex
  obtain rfl : ov = Value.ref a := rx
  refine wpAny_bind (wpAny_standAt (wpAny_bind (wpAny_holding (setattr_ok I1 ea c n l r fun s2 I2 => wpAny_release ?_))))
  exact ⟨σ, _, I2, q⟩
end
/-! ### readings -/
section
variable {K : PySem.W.Frag} {mg : Str → Option Value} {σ : L2.St} {B : Hp} {te tf : TE} {C : Addr} {sp : Sp} {ws : List Int} {ds : List Deed} {S : Pd}
theorem cv_isN (N : NetF K mg C) : CV (rIsi K) B [NetP K C ws ds, Xv (.ref C)] (Xv (.bl true)) := fun vs B1 H _ e p Q q => by
  obtain ⟨x, y, rfl, ⟨a, dx, v1, v2, rfl, h2, _⟩, py⟩ := all2_2 p
  exact ⟨_, _, _, _, true, rfl, by rw [show y = V.ref C from py]; exact .own C, .base (.ins (e _ _ h2) N.cls N.ca N.cg N.ct N.cm), if_pos (beq_self_eq_true _), q _ B1 H (.refl e) rfl⟩
theorem ev_coins (N : NetF K mg C) (h : EV te σ B (NetP K C ws ds)) : EV (tFld K te "coins") σ B (Da K (TuI ws)) := fun B1 H a b Q q => h B1 H a b _ fun v B2 H2 g p => by
  obtain ⟨a, dx, v1, v2, rfl, h2, h3, h4⟩ := p
  exact ⟨a, C, dx, _, v1, rfl, g.bh _ _ h2, N.cls, N.nc, rfl, q v1 B2 H2 g h3⟩
theorem ev_row (N : NetF K mg C) (h : EV te σ B (NetP K C ws ds)) : EV (tFld K te "row") σ B (Da K (.tuple (ds.map DD))) := fun B1 H a b Q q => h B1 H a b _ fun v B2 H2 g p => by
  obtain ⟨a, dx, v1, v2, rfl, h2, h3, h4⟩ := p
  exact ⟨a, C, dx, _, v2, rfl, g.bh _ _ h2, N.cls, N.nr, rfl, q v2 B2 H2 g h4⟩
theorem ev_prp (h : EV te σ B (NetP K C ws ds)) (hs : SpV sp B [NetP K C ws ds] S) : EV (tProp C sp [] E0 te) σ B S := fun B1 H a b Q q => h B1 H a b _ fun v B2 H2 g p => by
  obtain ⟨x, dx, v1, v2, rfl, h2, h3⟩ := id p
  exact ⟨x, dx, _, rfl, g.bh _ _ h2, hs [.ref x] B2 H2 (a.trans g.bb) g.bh ⟨p, trivial⟩ Q E0 fun v B3 H3 g3 => q v B3 H3 (g.trans g3)⟩
theorem cv_lenO {n : Nat} (hs : SpV sp B [NetP K C ws ds] (Xv (.int (n : Int)))) (hn : n < 100000) : CV (rLenO C sp) B [NetP K C ws ds] (Xv (.int (n : Int))) := fun vs B1 H e b p Q q => by
  obtain ⟨x, rfl, px⟩ := all2_1 p
  obtain ⟨a, dx, v1, v2, rfl, h2, h3⟩ := id px
  exact ⟨a, dx, _, rfl, b _ _ h2, hs [.ref a] B1 H e b ⟨px, trivial⟩ _ E0 fun v B3 H3 g3 pv => ⟨n, pv, hn, q _ B3 H3 g3 rfl⟩⟩
theorem ev_ixO {i : Int} (h : EV te σ B (NetP K C ws ds)) (hi : EV tf σ B (Xv (.int i))) (hs : SpV sp B [NetP K C ws ds, Xv (.int i)] S) : EV (tIxO C sp te tf) σ B S := fun B1 H a b Q q => h B1 H a b _ fun v B2 H2 g p => hi B2 H2 (a.trans g.bb) g.bh _ fun u B3 H3 g3 pu => by
  have p3 := Mo.mo v B2 B3 g3.bb p
  obtain ⟨x, dx, v1, v2, rfl, h2, h3⟩ := id p3
  obtain rfl : u = V.int i := pu
  exact ⟨x, dx, _, i, rfl, rfl, g3.bh _ _ h2, hs [.ref x, .int i] B3 H3 ((a.trans g.bb).trans g3.bb) g3.bh ⟨p3, rfl, trivial⟩ Q E0 fun v B4 H4 g4 => q v B4 H4 ((g.trans g3).trans g4)⟩
end
end CN
namespace CN
open PySem PySem.Spec PyProof.Rows L2
theorem ko_sortedR {X : Cx} {K : PySem.W.Frag} {w : World} {j : Nat} (hr : Room j X.A) (hc : X.calm = true := by rfl) (hK : X.K = K := by rfl) (hw : X.w = w := by rfl) : CallR X (.builtin "sorted") (rSortA w K) := ko_sorted hc (by have := hr.un; omega) hK hw
theorem ko_reprR {X : Cx} {K : PySem.W.Frag} {j : Nat} (hgd : X.A.guards = some []) (hr : Room j X.A) (hK : X.K = K := by rfl) : CallR X (.builtin "repr") (rReprD K) := ko_repr hgd (by have := hr.un; omega) hK
/-- a generator def by its promise -/
structure CalY (P : Program) (w : World) (K : PySem.W.Frag) (mg : Str → Option Value) (base : Heap) (x : Str) (k : Nat) (ps : List Str) (sp : SpG2) : Prop where
  ex : ∃ f fd, GFn2 P w K mg base k f fd ps sp ∧ mg x = some (.ref f) ∧ PySem.W.keepIn K (.ref f) = true ∧ L2.Binds K fd ps []
theorem pe_lcg {X : Cx} {k j : Nat} {ps : List Str} {sp : SpG2} {x y : Str} {p p1 p2 pos pos' : Pos} {e : Expr} {es : List Expr} {scope : Scope} {own : List (Str × Nat)} {t : TA} (C : CalY X.prog X.w X.K X.mg X.base x k ps sp) (hr : Room j X.A) (hc : X.calm = true) (hN : X.N.Nodup) (ok : BlkOk X.N X.env.scope scope own)
    (hy : scope.names.lookup y = some .local) (hg : Gl X x) (ha : PA X (e :: es) t) (hk : k + 1 ≤ j := by decide) (hd1 : (y == ("__debug__" : Str)) = false := by decide) (hd2 : (x == ("__debug__" : Str)) = false := by decide)
    (hs : ∀ v, foldedSetIterable (.Call (.Name x p) (e :: es) [] pos') X.env v = pure v := by intro _; rfl) (he : starEach (e :: es) X.env = (false, eval e X.env) :: starEach es X.env := by rfl) (hpl : (backTo pos' (starEach es X.env)).any (·.1) = false := by rfl) :
    PE X (.ListComp (.Name y p1) [⟨.Name y p2, .Call (.Name x p) (e :: es) [] pos', [], 0⟩] scope pos) (tLcG (tCallG2 sp t)) := by
  obtain ⟨f, fd, F, hm, hkp, hb⟩ := C.ex
  exact pe_lcG hc hN ok hy (pgen2_call F (hr.mono (Nat.le_of_succ_le hk)) hg hm hkp hb ha hd2 he hpl) (hr.mono hk) hd1 hs
section
variable {K : PySem.W.Frag} {σ : L2.St} {B : Hp} {tr : TA} {Ps : List Pd} {sp : SpG2} {ds : List PyData}
/-- a generator's promise: it hands out ds -/
def SpY (K : PySem.W.Frag) (sp : SpG2) (B : Hp) (Ps : List Pd) (ds : List PyData) : Prop := ∀ vs B1 H, Same B B1 → Same B1 H → All2 Ps vs B1 → ∀ Q : List V → Hp → Prop, (∀ out B' H', Gr B1 H B' H' → DpAll K B' out ds → Q out H') → sp vs H Q
theorem ev_lcg (h : EA tr σ B Ps) (hs : SpY K sp B Ps ds) : EV (tLcG (tCallG2 sp tr)) σ B (Da K (.list ds)) := fun B1 H a b Q q => h B1 H a b _ fun vs B2 H2 g2 p =>
  hs vs B2 H2 (a.trans g2.bb) g2.bh p _ fun out B3 H3 g3 hd l hl => q _ _ _ ((g2.trans g3).trans (.new g3.bh hl)) (dp_lst upd_same (dpa_mono (same_new (g3.bh.free hl)) _ _ hd))
end
end CN
set_option Elab.async false
set_option linter.all false
set_option maxRecDepth 100000
set_option maxHeartbeats 4000000
/-! KQ: slices; lists by their address; loops in short. -/
namespace CN
open PySem PySem.Spec PyProof.Rows L2
section
variable {K : PySem.W.Frag} {σ : L2.St} {B H : Hp} {te : TE} {tt : TT} {tl th : TO} {lo hi : Option Int} {ds : List PyData} {α : Type}
def cutD {α : Type} (xs : List α) (lo hi : Option Int) : List α := (xs.drop (HT.sIx xs.length 0 lo)).take (HT.sIx xs.length xs.length hi - HT.sIx xs.length 0 lo)
theorem dpa_drop : ∀ {xs : List V} {ds : List PyData} (n : Nat), DpAll K B xs ds → DpAll K B (xs.drop n) (ds.drop n)
  | _, _, 0, h => h
  | _, _, n + 1, .nil => .nil
  | _, _, n + 1, .cons _ t => dpa_drop n t
theorem dpa_take : ∀ {xs : List V} {ds : List PyData} (n : Nat), DpAll K B xs ds → DpAll K B (xs.take n) (ds.take n)
  | _, _, 0, h => .nil
  | _, _, n + 1, .nil => .nil
  | _, _, n + 1, .cons r t => .cons r (dpa_take n t)
theorem dpa_cut {xs : List V} (h : DpAll K B xs ds) : DpAll K B (cutV xs lo hi) (cutD ds lo hi) := by
  unfold cutV cutD
  rw [dpa_length h]
  exact dpa_take _ (dpa_drop _ h)
theorem cutD_map {β : Type} (f : α → β) (xs : List α) : cutD (xs.map f) lo hi = (cutD xs lo hi).map f := by
  unfold cutD
  rw [List.length_map, ← List.map_drop, ← List.map_take]
theorem cutD_len (xs : List α) : (cutD xs lo hi).length ≤ xs.length := by
  unfold cutD
  rw [List.length_take, List.length_drop]
  omega
theorem cutD_from {k : Int} (h : 0 ≤ k) (xs : List α) : cutD xs (some k) none = xs.drop k.toNat := by
  unfold cutD
  have e : HT.sIx xs.length 0 (some k) = min k.toNat xs.length := by
    have := HT.sIx_nat xs.length 0 k.toNat
    rwa [Int.toNat_of_nonneg h] at this
  rw [e]
  show (xs.drop _).take (xs.length - _) = _
  by_cases h2 : k.toNat ≤ xs.length
  · rw [Nat.min_eq_left h2]
    exact List.take_of_length_le (by rw [List.length_drop]; exact Nat.le_refl _)
  · rw [Nat.min_eq_right (by omega), List.drop_of_length_le (Nat.le_refl _), List.drop_of_length_le (by omega)]
    simp
theorem cutD_to {k : Int} (h : 0 ≤ k) (xs : List α) : cutD xs none (some k) = xs.take k.toNat := by
  unfold cutD
  have e : HT.sIx xs.length xs.length (some k) = min k.toNat xs.length := by
    have := HT.sIx_nat xs.length xs.length k.toNat
    rwa [Int.toNat_of_nonneg h] at this
  rw [e]
  show (xs.drop 0).take (min k.toNat xs.length - 0) = _
  rw [List.drop_zero, Nat.sub_zero, List.take_eq_take_iff]
  omega
theorem ev_slT (h : EV te σ B (Da K (.tuple ds))) (h1 : EO tl σ B lo) (h2 : EO th σ B hi) : EV (tSl (rSlAny K) te tl th) σ B (Da K (.tuple (cutD ds lo hi))) := ev_sl h h1 h2 fun x B1 H a b p Q q => by
  obtain ⟨l, xs, rfl, hs, ha⟩ := dp_tup_inv p
  refine .inr (.inr ⟨l, xs, rfl, sqt_mono b hs, fun hw => ?_, fun hw l' hl => ?_⟩)
  · have e : cutD ds lo hi = ds := by
      unfold cutD
      rw [← dpa_length ha, hw.1, hw.2]
      show (ds.drop 0).take (xs.length - 0) = ds
      rw [List.drop_zero, Nat.sub_zero, dpa_length ha]
      exact List.take_length
    rw [e] at q
    exact q _ B1 H (.refl b) p
  · exact q _ _ _ (.new b hl) (dp_tup upd_same (dpa_cut (dpa_mono (same_new (b.free hl)) _ _ ha)))
theorem ev_slL (h : EV te σ B (Da K (.list ds))) (h1 : EO tl σ B lo) (h2 : EO th σ B hi) : EV (tSl (rSlAny K) te tl th) σ B (Da K (.list (cutD ds lo hi))) := ev_sl h h1 h2 fun x B1 H a b p Q q => by
  obtain ⟨l, xs, rfl, hs, ha⟩ := dp_lst_inv p
  exact .inl ⟨l, xs, rfl, sql_mono b hs, fun l' hl => q _ _ _ (.new b hl) (dp_lst upd_same (dpa_cut (dpa_mono (same_new (b.free hl)) _ _ ha)))⟩
theorem ev_slS {z : Str} (h : EV te σ B (Xv (.str z))) (h1 : EO tl σ B lo) (h2 : EO th σ B hi) (hz : z.length ≤ 100000) : EV (tSl (rSlAny K) te tl th) σ B (Xv (.str (cutS z lo hi))) := ev_sl h h1 h2 fun x B1 H a b p Q q =>
  .inr (.inl ⟨z, p, sz_of hz, q _ B1 H (.refl b) rfl⟩)
/-- a list display, a comprehension: their lists by address -/
theorem ev_lstL {tr : TA} (ds : List PyData) (h : EA tr σ B (ds.map (Da K))) (hl : ds.length ≤ 100000) : EV (tLst tr) σ B (Dl K ds) := fun B1 H a b Q q =>
  h B1 H a b _ fun vs B2 H2 g2 p => ⟨by rw [all2_len p, List.length_map]; exact sz_of hl, fun l hl' =>
    q _ _ _ (g2.trans (.new g2.bh hl')) ⟨l, vs, rfl, upd_same, dpa_mono (same_new (g2.bh.free hl')) ds vs (all2_dpa p)⟩⟩
theorem ev_da (h : EV te σ B (Dl K ds)) : EV te σ B (Da K (.list ds)) := h.imp fun _ _ p => dl_da p
theorem ev_lcL0 {wi : L2.TI} {g : TG} {vs : List Nat} (xs : List α) (enc : α → PyData) (gd : α → PyData) (hi : EI K wi σ B (xs.map enc)) (hl : xs.length ≤ 40000)
    (hs : ∀ a x B1, a ∈ xs → Same B B1 → Dp K B1 x (enc a) → LT K g tYes te vs σ B1 x true (gd a)) : EV (tLc wi g tYes te vs) σ B (Dl K (xs.map gd)) := (ev_lcL xs enc (fun _ => true) gd hi hl hs).imp fun v B' p => by
  rw [filter_yes] at p
  exact p
theorem rng_get {lo : Int} {n i : Nat} {d : PyData} (h : ((rangeL lo n).map PyData.int)[i]? = some d) : d = .int (lo + (i : Int)) ∧ i < n := by
  have hl : ((rangeL lo n).map PyData.int).length = n := by simp [rangeL]
  have hi : i < n := by
    have := (List.getElem?_eq_some_iff.mp h).1
    rwa [hl] at this
  rw [List.getElem?_map, rangeL, List.getElem?_map, List.getElem?_range hi] at h
  exact ⟨(Option.some.inj h).symm, hi⟩
theorem map_get {f : α → PyData} {xs : List α} {i : Nat} {d : PyData} (h : (xs.map f)[i]? = some d) : ∃ a, xs[i]? = some a ∧ d = f a := by
  rw [List.getElem?_map] at h
  cases e : xs[i]? with
  | none => rw [e] at h; cases h
  | some a => rw [e] at h; exact ⟨a, rfl, (Option.some.inj h).symm⟩
variable {D : Ends} {wi : L2.TI} {g : TG} {tu tz : TS}
/-- a base that knows more is given up -/
theorem Gr.drop {B Bf B2 H H2 : Hp} (g : Gr Bf H B2 H2) (e : Same B Bf) : Gr B H B H2 := ⟨Same.refl B, g.hh, e.trans (g.bb.trans g.bh), fun a o h _ _ => ⟨o, h⟩⟩
/-- if t: ..  (no else) -/
theorem q_ifn {t : TT} {b : Bool} (e : Same B H) (h : ET t σ B b) (h1 : b = true → ∀ B' H', Gr B H B' H' → tu { D with nx := tz D } σ H') (h2 : b = false → ∀ B' H', Gr B H B' H' → tz D σ H') : tSeq (tIfS t tu tNext) tz D σ H := q_if e h h1 h2
theorem s_ifn {t : TT} {b : Bool} (e : Same B H) (h : ET t σ B b) (h1 : b = true → ∀ B' H', Gr B H B' H' → tu D σ H') (h2 : b = false → ∀ B' H', Gr B H B' H' → D.nx σ H') : tIfS t tu tNext D σ H := s_if e h h1 h2
theorem q_for (e : Same B H) (hi : EI K wi σ B ds) (Pv : Hp → Nat → L2.St → Hp → Hp → Prop) (h0 : ∀ B1 H1, Gr B H B1 H1 → Pv B1 0 σ B1 H1)
    (hG : ∀ B1 i σ' B' H', Pv B1 i σ' B' H' → Same B1 B' ∧ Same B' H')
    (hs : ∀ B1 i x σ' B' H' B'' H'' d, Gr B H B1 B1 ∨ True → ds[i]? = some d → Pv B1 i σ' B' H' → Gr B' H' B'' H'' → Dp K B'' x d → g x σ' H'' fun σ2 H2 => tu { D with nx := fun σ3 H3 => ∃ B3, Pv B1 (i + 1) σ3 B3 H3, ct := fun σ3 H3 => ∃ B3, Pv B1 (i + 1) σ3 B3 H3, bk := tz D } σ2 H2)
    (hd : ∀ B1 σ' B' H', Pv B1 ds.length σ' B' H' → tz D σ' H') : tSeq (tFor wi g tu) tz D σ H :=
  s_for (D := { D with nx := tz D }) e hi Pv h0 hG hs hd
/-- loops: what was known at the entry (Bz, Hz) stays so -/
theorem s_forG {Bz Hz : Hp} (z : Gr Bz Hz B H) (hi : EI K wi σ B ds) (Pv : Nat → L2.St → Hp → Hp → Prop) (h0 : ∀ B1 H1, Gr B H B1 H1 → Pv 0 σ B1 H1)
    (hs : ∀ i x σ' B0 H0 B' H' d (N : L2.St → Hp → Prop), Pv i σ' B0 H0 → Gr Bz Hz B0 H0 → Gr B0 H0 B' H' → ds[i]? = some d → Dp K B' x d → (∀ σ3 B3 H3, Gr Bz Hz B3 H3 → Same B' B3 → Pv (i + 1) σ3 B3 H3 → N σ3 H3) →
      g x σ' H' fun σ2 H2 => tu { D with nx := N, ct := N, bk := D.nx } σ2 H2)
    (hd : ∀ σ' B' H', Gr Bz Hz B' H' → Same B B' → Pv ds.length σ' B' H' → D.nx σ' H') : tFor wi g tu D σ H :=
  s_for z.bh hi (fun B1 i σ' B' H' => Same B B1 ∧ Same B1 B' ∧ Gr Bz Hz B' H' ∧ Pv i σ' B' H') (fun B1 H1 g1 => ⟨g1.bb, Same.refl _, z.trans g1, h0 B1 H1 g1⟩) (fun B1 i σ' B' H' ⟨_, h1, h2, _⟩ => ⟨h1, h2.bh⟩)
    (fun B1 i x σ' B0 H0 B' H' d _ hd ⟨h00, h1, h2, h3⟩ g1 dx => hs i x σ' B0 H0 B' H' d _ h3 h2 g1 hd dx fun σ3 B3 H3 a b c => ⟨B3, h00, (h1.trans g1.bb).trans b, a, c⟩)
    (fun B1 σ' B' H' ⟨h00, h1, h2, h3⟩ => hd σ' B' H' h2 (h00.trans h1) h3)
theorem q_forG {Bz Hz : Hp} (z : Gr Bz Hz B H) (hi : EI K wi σ B ds) (Pv : Nat → L2.St → Hp → Hp → Prop) (h0 : ∀ B1 H1, Gr B H B1 H1 → Pv 0 σ B1 H1)
    (hs : ∀ i x σ' B0 H0 B' H' d (N : L2.St → Hp → Prop), Pv i σ' B0 H0 → Gr Bz Hz B0 H0 → Gr B0 H0 B' H' → ds[i]? = some d → Dp K B' x d → (∀ σ3 B3 H3, Gr Bz Hz B3 H3 → Same B' B3 → Pv (i + 1) σ3 B3 H3 → N σ3 H3) →
      g x σ' H' fun σ2 H2 => tu { D with nx := N, ct := N, bk := tz D } σ2 H2)
    (hd : ∀ σ' B' H', Gr Bz Hz B' H' → Same B B' → Pv ds.length σ' B' H' → tz D σ' H') : tSeq (tFor wi g tu) tz D σ H :=
  s_forG (D := { D with nx := tz D }) z hi Pv h0 hs hd
/-! ### new lists that will change -/
theorem en_lst {tr : TA} (ds : List PyData) (h : EA tr σ B (ds.map (Da K))) (hl : ds.length ≤ 100000) : EN K (tLst tr) σ B ds := fun B1 H a b Q q =>
  h B1 H a b _ fun vs B2 H2 g2 p => ⟨by rw [all2_len p, List.length_map]; exact sz_of hl, fun l hl' =>
    q l vs B2 _ (g2.mut (g2.hh.free hl') (g2.bh.free hl')) (g2.hh.free hl') upd_same (g2.bh.free hl') (all2_dpa p)⟩
theorem en_lc0 {wi : L2.TI} {g : TG} {vs : List Nat} (xs : List α) (enc : α → PyData) (gd : α → PyData) (hi : EI K wi σ B (xs.map enc)) (hl : xs.length ≤ 40000)
    (hs : ∀ a x B1, a ∈ xs → Same B B1 → Dp K B1 x (enc a) → LT K g tYes te vs σ B1 x true (gd a)) : EN K (tLc wi g tYes te vs) σ B (xs.map gd) := (en_lc xs enc (fun _ => true) gd hi hl hs).is (by rw [filter_yes])
theorem en_list {tr : TE} (k : Bool) (h : EV tr σ B (Da K (Qs k ds))) : EN K (tCB (rListOf K) (tCons tr tNil)) σ B ds := fun B1 H a b Q q =>
  h B1 H a b _ fun v B2 H2 g2 p => by
    obtain ⟨x, xs, rfl, hs, ha⟩ := dp_qs p
    refine ⟨x, xs, rfl, ?_, fun l hl' => q l xs B2 _ (g2.mut (g2.hh.free hl') (g2.bh.free hl')) (g2.hh.free hl') upd_same (g2.bh.free hl') ha⟩
    cases k with
    | true => exact .inl (sql_mono g2.bh hs)
    | false => exact .inr (sqt_mono g2.bh hs)
theorem s_new {i : Nat} (e : Same B H) (h : EN K te σ B ds) (k : ∀ l xs B' H', Gr B H B' H' → H l = none → H' l = some (.lst xs) → B' l = none → DpAll K B' xs ds → D.nx (σ.set i (some (.ref l))) H') : tAsg te (gName i) D σ H := h B H (Same.refl _) e _ k
theorem q_new {i : Nat} (e : Same B H) (h : EN K te σ B ds) (k : ∀ l xs B' H', Gr B H B' H' → H l = none → H' l = some (.lst xs) → B' l = none → DpAll K B' xs ds → tz D (σ.set i (some (.ref l))) H') : tSeq (tAsg te (gName i)) tz D σ H := h B H (Same.refl _) e _ k
/-- an unknown list is known for a while -/
theorem known {l : Addr} {xs : List V} (e : Same B H) (hl : H l = some (.lst xs)) (hb : B l = none) (ha : DpAll K B xs ds) : Same B (upd B l (.lst xs)) ∧ Same (upd B l (.lst xs)) H ∧ Dp K (upd B l (.lst xs)) (.ref l) (.list ds) :=
  ⟨same_new hb, fun a o h => by
    by_cases q : a = l
    · subst q
      rw [upd_same] at h
      cases h
      exact hl
    · rw [upd_ne q] at h
      exact e a o h, dp_lst upd_same (dpa_mono (same_new hb) _ _ ha)⟩
theorem ev_D {i : Nat} {v : V} {d : PyData} (h : σ[i]? = some (some v)) (hp : Dp K B v d) : EV (tVar i) σ B (Da K d) := ev_d (P := Da K d) h hp
theorem q_while {t : TT} (W : Nat → L2.St → Hp → Hp → Prop) (m0 : Nat) (h0 : W m0 σ B H)
    (hs : ∀ m σ' B' H', W m σ' B' H' → ∃ b, Same B' H' ∧ ET t σ' B' b ∧ (b = true → ∀ B1 H1, Gr B' H' B1 H1 → tu { D with nx := fun σ2 H2 => ∃ m' B2, m' < m ∧ W m' σ2 B2 H2, ct := fun σ2 H2 => ∃ m' B2, m' < m ∧ W m' σ2 B2 H2, bk := tz D } σ' H1) ∧ (b = false → ∀ B1 H1, Gr B' H' B1 H1 → tz D σ' H1)) :
    tSeq (tWhile t tu) tz D σ H := s_while (D := { D with nx := tz D }) W m0 h0 hs
theorem ov_notN {x : V} : OV (fun x y H Q => y = .non ∧ Q (.bl (!decide (x = .non))) H) B (Xv x) (Xv .non) (Xv (.bl (!decide (x = .non)))) := fun a b B1 H _ e pa pb Q q => by
  obtain rfl : a = x := pa
  exact ⟨pb, q _ B1 H (.refl e) rfl⟩
theorem ev_lcBIf {wi : L2.TI} {g : TG} {vs : List Nat} (xs : List α) (enc : α → PyData) (p : α → Bool) (f : α → Bool) (hi : EI K wi σ B (xs.map enc)) (hl : xs.length ≤ 40000)
    (hs : ∀ a x B1, a ∈ xs → Same B B1 → Dp K B1 x (enc a) → LT K g tt te vs σ B1 x (p a) (.bool (f a))) : EV (tLc wi g tt te vs) σ B (Da K (.list (((xs.filter p).map f).map .bool))) :=
  ev_is (ev_lc xs enc p (fun a => .bool (f a)) hi hl hs) (by rw [List.map_map] <;> rfl)
theorem blk_any {N : List Str} {sc sc' scope : Scope} {own : List (Str × Nat)} (h : BlkOk N sc scope own) (hf : ∀ y ∈ scope.names, y.2 ≠ .free) : BlkOk N sc' scope own := ⟨h.kind, h.uniq, h.ix, fun y hy e => absurd e (hf y hy), h.own⟩
end
end CN
set_option linter.all false
/-! M2: fixed points: the boxes that hang together, the greatest trap; plain. -/
namespace CM
open CN (asc mem_asc asc_pw asc_is asc_of_pw ins1 mem_ins1)
theorem asc_sublist : ∀ {M L : List Int}, L.Pairwise (· < ·) → M.Pairwise (· < ·) → (∀ x, x ∈ L → x ∈ M) → L.Sublist M
  | [], [], _, _, _ => List.Sublist.slnil
  | [], a :: L, _, _, h => absurd (h a List.mem_cons_self) (by simp)
  | b :: M, [], _, _, _ => List.nil_sublist _
  | b :: M, a :: L, hL, hM, h => by
    have hL1 := List.pairwise_cons.mp hL
    have hM1 := List.pairwise_cons.mp hM
    by_cases e : a = b
    · subst e
      refine List.Sublist.cons_cons _ (asc_sublist hL1.2 hM1.2 fun x hx => ?_)
      rcases List.mem_cons.mp (h x (List.mem_cons_of_mem _ hx)) with q | q
      · have := hL1.1 x hx
        omega
      · exact q
    · refine List.Sublist.cons _ (asc_sublist hL hM1.2 fun x hx => ?_)
      rcases List.mem_cons.mp (h x hx) with q | q
      · subst q
        rcases List.mem_cons.mp hx with q | q
        · exact absurd q.symm e
        · have h1 := hL1.1 x q
          rcases List.mem_cons.mp (h a List.mem_cons_self) with z | z
          · exact absurd z e
          · have := hM1.1 a z
            omega
      · exact q
theorem asc_lt {L M : List Int} (hL : L.Pairwise (· < ·)) (hM : M.Pairwise (· < ·)) (h : ∀ x, x ∈ L → x ∈ M) (hne : M ≠ L) : L.length < M.length := by
  have s := asc_sublist hL hM h
  rcases Nat.lt_or_ge L.length M.length with q | q
  · exact q
  · exact absurd (s.eq_of_length_le q).symm hne
/-- 0, .., n - 1 -/
def box (n : Nat) : List Int := (List.range n).map fun (i : Nat) => (i : Int)
theorem mem_box {n : Nat} {x : Int} : x ∈ box n ↔ 0 ≤ x ∧ x < (n : Int) := by
  unfold box
  rw [List.mem_map]
  constructor
  · rintro ⟨i, hi, rfl⟩
    have := List.mem_range.mp hi
    omega
  · rintro ⟨h1, h2⟩
    exact ⟨x.toNat, List.mem_range.mpr (by omega), by omega⟩
theorem box_pw (n : Nat) : (box n).Pairwise (· < ·) := by
  unfold box
  rw [List.pairwise_map]
  exact List.pairwise_lt_range.imp fun h => by omega
theorem box_len (n : Nat) : (box n).length = n := by simp [box]
theorem len_le_box {n : Nat} {L : List Int} (hL : L.Pairwise (· < ·)) (h : ∀ x, x ∈ L → 0 ≤ x ∧ x < (n : Int)) : L.length ≤ n := by
  have := (asc_sublist hL (box_pw n) fun x hx => mem_box.mpr (h x hx)).length_le
  rwa [box_len] at this
/-! ### what hangs together -/
def mstep (met : List Int) (d : Deed) : List Int := if touch (d.1 ++ d.2) met then asc (met ++ d.1 ++ d.2) else met
def mpass (met : List Int) (ds : List Deed) : List Int := ds.foldl mstep met
theorem mstep_sup {met : List Int} {d : Deed} {x : Int} (h : x ∈ met) : x ∈ mstep met d := by
  unfold mstep
  split
  · rw [mem_asc]
    simp [h]
  · exact h
theorem mstep_in {met : List Int} {d : Deed} {x : Int} (h : x ∈ mstep met d) : x ∈ met ∨ x ∈ d.1 ∨ x ∈ d.2 := by
  unfold mstep at h
  split at h
  · rw [mem_asc] at h
    simp at h
    exact h
  · exact .inl h
theorem mstep_pw {met : List Int} {d : Deed} (h : met.Pairwise (· < ·)) : (mstep met d).Pairwise (· < ·) := by
  unfold mstep
  split
  · exact asc_pw
  · exact h
theorem mpass_sup : ∀ {ds : List Deed} {met : List Int} {x : Int}, x ∈ met → x ∈ mpass met ds
  | [], _, _, h => h
  | d :: ds, met, x, h => mpass_sup (ds := ds) (met := mstep met d) (mstep_sup h)
theorem mpass_pw : ∀ {ds : List Deed} {met : List Int}, met.Pairwise (· < ·) → (mpass met ds).Pairwise (· < ·)
  | [], _, h => h
  | d :: ds, met, h => mpass_pw (ds := ds) (met := mstep met d) (mstep_pw h)
theorem mpass_fix : ∀ {ds : List Deed} {met : List Int}, met.Pairwise (· < ·) → mpass met ds = met → ∀ d, d ∈ ds → touch (d.1 ++ d.2) met = true → ∀ x, x ∈ d.1 ++ d.2 → x ∈ met
  | [], _, _, _, _, h => by cases h
  | d :: ds, met, hp, e, c, hc => by
    have e' : mpass (mstep met d) ds = met := e
    have e1 : mstep met d = met := asc_ext (mstep_pw hp) hp fun x => ⟨fun h => by
      have := mpass_sup (ds := ds) h
      rwa [e'] at this, mstep_sup⟩
    rcases List.mem_cons.mp hc with rfl | hc
    · intro ht x hx
      rw [← e1]
      unfold mstep
      rw [if_pos ht, mem_asc]
      simp at hx ⊢
      exact .inr hx
    · rw [e1] at e'
      exact mpass_fix hp e' c hc
/-- all hang together -/
def Conn (n : Nat) (ds : List Deed) : Prop := ∀ M : Int → Prop, (∃ x, 0 ≤ x ∧ x < (n : Int) ∧ M x) → (∀ d, d ∈ ds → (∃ x, (x ∈ d.1 ∨ x ∈ d.2) ∧ M x) → ∀ x, x ∈ d.1 ∨ x ∈ d.2 → M x) → ∀ x, 0 ≤ x → x < (n : Int) → M x
def Ins (n : Nat) (ds : List Deed) : Prop := ∀ d, d ∈ ds → (∀ x, x ∈ d.1 → 0 ≤ x ∧ x < (n : Int)) ∧ ∀ x, x ∈ d.2 → 0 ≤ x ∧ x < (n : Int)
theorem mpass_ins : ∀ {ds : List Deed} {met : List Int} {n : Nat}, Ins n ds → (∀ x, x ∈ met → 0 ≤ x ∧ x < (n : Int)) → ∀ x, x ∈ mpass met ds → 0 ≤ x ∧ x < (n : Int)
  | [], _, _, _, h => h
  | d :: ds, met, n, hi, h => mpass_ins (ds := ds) (met := mstep met d) (fun c hc => hi c (List.mem_cons_of_mem _ hc)) fun x hx => by
    rcases mstep_in hx with q | q | q
    · exact h x q
    · exact (hi d List.mem_cons_self).1 x q
    · exact (hi d List.mem_cons_self).2 x q
theorem met_all {n : Nat} {ds : List Deed} {met : List Int} (hc : Conn n ds) (hp : met.Pairwise (· < ·)) (hi : ∀ x, x ∈ met → 0 ≤ x ∧ x < (n : Int)) (h0 : (0 : Int) ∈ met) (hf : mpass met ds = met) : met = box n := by
  refine asc_ext hp (box_pw n) fun x => ⟨fun h => mem_box.mpr (hi x h), fun h => ?_⟩
  obtain ⟨h1, h2⟩ := mem_box.mp h
  have i0 := hi 0 h0
  refine hc (fun x => x ∈ met) ⟨0, i0.1, i0.2, h0⟩ (fun d hd ⟨y, hy, hm⟩ x hx => ?_) x h1 h2
  exact mpass_fix hp hf d hd (touch_iff.mpr ⟨y, List.mem_append.mpr hy, hm⟩) x (List.mem_append.mpr hx)
/-! ### the greatest trap -/
def gstep (L : List Int) (d : Deed) : List Int := if touch d.2 L then L else L.filter fun b => !decide (b ∈ d.1)
def gpass (L : List Int) (ds : List Deed) : List Int := ds.foldl gstep L
theorem gstep_sub {L : List Int} {d : Deed} : (gstep L d).Sublist L := by
  unfold gstep
  split
  · exact List.Sublist.refl _
  · exact List.filter_sublist
theorem gpass_sub : ∀ {ds : List Deed} {L : List Int}, (gpass L ds).Sublist L
  | [], L => List.Sublist.refl L
  | d :: ds, L => (gpass_sub (ds := ds) (L := gstep L d)).trans gstep_sub
theorem gstep_keep {ds : List Deed} {L T : List Int} {d : Deed} (hd : d ∈ ds) (hT : isTr ds T = true) (h : ∀ x, x ∈ T → x ∈ L) : ∀ x, x ∈ T → x ∈ gstep L d := fun x hx => by
  unfold gstep
  split
  · exact h x hx
  · rename_i q
    have q' : touch d.2 L = false := by simpa using q
    rw [List.mem_filter]
    refine ⟨h x hx, ?_⟩
    cases e : decide (x ∈ d.1) with
    | false => rfl
    | true =>
      have hxd := of_decide_eq_true e
      obtain ⟨y, hy1, hy2⟩ := touch_iff.mp ((isTr_iff.mp hT).2 d hd (touch_iff.mpr ⟨x, hxd, hx⟩))
      exact absurd (h y hy2) (touch_no.mp q' y hy1)
theorem gpass_keep {es : List Deed} : ∀ {ds : List Deed} {L T : List Int}, (∀ d, d ∈ ds → d ∈ es) → isTr es T = true → (∀ x, x ∈ T → x ∈ L) → ∀ x, x ∈ T → x ∈ gpass L ds
  | [], _, _, _, _, h => h
  | d :: ds, L, T, hs, hT, h => gpass_keep (ds := ds) (L := gstep L d) (fun c hc => hs c (List.mem_cons_of_mem _ hc)) hT (gstep_keep (hs d List.mem_cons_self) hT h)
theorem gpass_fix : ∀ {ds : List Deed} {L : List Int}, gpass L ds = L → ∀ d, d ∈ ds → gstep L d = L
  | [], _, _, _, h => by cases h
  | d :: ds, L, e, c, hc => by
    have e' : gpass (gstep L d) ds = L := e
    have s1 : (gpass (gstep L d) ds).Sublist (gstep L d) := gpass_sub
    rw [e'] at s1
    have e1 : gstep L d = L := gstep_sub.eq_of_length_le s1.length_le
    rcases List.mem_cons.mp hc with rfl | hc
    · exact e1
    · rw [e1] at e'
      exact gpass_fix e' c hc
theorem gstep_fix {L : List Int} {d : Deed} (h : gstep L d = L) (ht : touch d.1 L = true) : touch d.2 L = true := by
  cases e : touch d.2 L with
  | true => rfl
  | false =>
    obtain ⟨x, h1, h2⟩ := touch_iff.mp ht
    unfold gstep at h
    rw [e, if_neg Bool.false_ne_true] at h
    rw [← h, List.mem_filter] at h2
    rw [decide_eq_true h1] at h2
    exact absurd h2.2 (by decide)
/-! ### nets -/
def worthB (ws : List Int) (bs : List Int) : Int := (bs.map fun b => ws.getD b.toNat 0).sum
def Inr (n : Nat) (bs : List Int) : Prop := ∀ b, b ∈ bs → 0 ≤ b ∧ b < (n : Int)
def okWs (ws : List Int) : Bool := (decide (1 ≤ ws.length) && decide (ws.length ≤ 5)) && ws.all fun x => decide (1 ≤ x) && decide (x ≤ 3)
structure DeedOk (ws : List Int) (d : Deed) : Prop where
  s1 : IsSet ws.length d.1
  s2 : IsSet ws.length d.2
  n1 : d.1 ≠ []
  n2 : d.2 ≠ []
  w : worthB ws d.1 = worthB ws d.2
def Free (ds : List Deed) : Prop := ∀ d, d ∈ ds → ∀ c, c ∈ ds → d.1 = c.1 ∨ touch d.1 c.1 = false
structure NetOk (ws : List Int) (ds : List Deed) : Prop where
  w : okWs ws = true
  n : ds ≠ []
  l : ds.length ≤ 6
  d : ∀ d, d ∈ ds → DeedOk ws d
  f : Free ds
  c : Conn ws.length ds
theorem NetOk.w5 {ws : List Int} {ds : List Deed} (h : NetOk ws ds) : 1 ≤ ws.length ∧ ws.length ≤ 5 := by
  have h := h.w
  unfold okWs at h
  simp at h
  exact h.1
theorem isSet_len {n : Nat} {s : List Int} (h : IsSet n s) : s.length ≤ n := len_le_box h.2 h.1
end CM
set_option Elab.async false
set_option linter.all false
set_option maxRecDepth 100000
/-! M3: a net's text, read back. -/
namespace CM
open PySem TL
def Dig (xs : List Int) : Prop := ∀ d, d ∈ xs → 0 ≤ d ∧ d ≤ 9
def ts (d : Int) : Str := Str.ofString (toString d)
def dg (d : Int) : Str := ⟨#[48 + d.toNat]⟩
theorem ts_dg {d : Int} (h : 0 ≤ d ∧ d ≤ 9) : ts d = dg d := by
  obtain ⟨n, rfl⟩ : ∃ n : Nat, d = (n : Int) := ⟨d.toNat, by omega⟩
  refine ext_tl ?_
  unfold ts
  rw [tl_num, numL_lt (by omega)]
  rfl
def nums (xs : List Int) : Str := Txt.join " " (xs.map ts)
def numL' (xs : List Int) : List Nat := joinL [32] (xs.map fun d => [48 + d.toNat])
theorem map_dg {xs : List Int} (h : Dig xs) : xs.map ts = xs.map dg := List.map_congr_left fun d hd => ts_dg (h d hd)
theorem tl_nums {xs : List Int} (h : Dig xs) : tl (nums xs) = numL' xs := by
  unfold nums numL'
  rw [join_eq, tl_join, map_dg h, List.map_map]
  rfl
theorem numL_mem : ∀ {xs : List Int}, Dig xs → ∀ c, c ∈ numL' xs → c = 32 ∨ (48 ≤ c ∧ c ≤ 57)
  | [], _, c, h => by cases h
  | [d], hd, c, h => by
    have := hd d List.mem_cons_self
    have e : c = 48 + d.toNat := by simpa [numL', joinL] using h
    omega
  | d :: e :: r, hd, c, h => by
    have hd0 := hd d List.mem_cons_self
    have e1 : numL' (d :: e :: r) = [48 + d.toNat] ++ ([32] ++ numL' (e :: r)) := rfl
    rw [e1] at h
    rcases List.mem_append.mp h with h | h
    · have e : c = 48 + d.toNat := by simpa using h
      omega
    · rcases List.mem_append.mp h with h | h
      · exact .inl (by simpa using h)
      · exact numL_mem (fun x hx => hd x (List.mem_cons_of_mem _ hx)) c h
theorem numL_len : ∀ xs : List Int, (numL' xs).length ≤ 2 * xs.length
  | [] => by simp [numL', joinL]
  | [d] => by simp [numL', joinL]
  | d :: e :: r => by
    have e1 : numL' (d :: e :: r) = [48 + d.toNat] ++ ([32] ++ numL' (e :: r)) := rfl
    have := numL_len (e :: r)
    rw [e1]
    simp at this ⊢
    omega
theorem nums_len {xs : List Int} (h : Dig xs) : (nums xs).length ≤ 2 * xs.length := by
  rw [len_tl, tl_nums h]
  exact numL_len xs
theorem sp_tl : tl (" " : Str) = 32 :: [] := by decide
theorem ar_tl : tl (" > " : Str) = 32 :: 62 :: [32] := by decide
theorem nl_tl : tl ("\n" : Str) = 10 :: [] := by decide
theorem split_nums {xs : List Int} (h : Dig xs) (hne : xs ≠ []) : Txt.split (nums xs) " " = xs.map ts := by
  unfold nums
  refine split_join sp_tl (by decide +kernel) (fun e => hne (List.map_eq_nil_iff.mp e)) fun p hp => ?_
  obtain ⟨d, hd, rfl⟩ := List.mem_map.mp hp
  rw [ts_dg (h d hd)]
  show 32 ∉ [48 + d.toNat]
  simp
  omega
/-- the arrow does not begin within a row of figures -/
theorem pre_num : ∀ {xs : List Int}, Dig xs → ∀ (X : List Nat) (i : Nat), i < (numL' xs).length → pre (32 :: 62 :: [32]) ((numL' xs ++ X).drop i) = false
  | [], _, X, i, h => by simp [numL', joinL] at h
  | [d], hd, X, i, h => by
    have h0 : i = 0 := by simpa [numL', joinL] using h
    subst h0
    exact pre_of_head _ _ (by omega)
  | d :: e :: r, hd, X, i, h => by
    have he := hd e (List.mem_cons_of_mem _ List.mem_cons_self)
    have e1 : numL' (d :: e :: r) ++ X = (48 + d.toNat) :: 32 :: (numL' (e :: r) ++ X) := rfl
    rw [e1]
    match i, h with
    | 0, _ => exact pre_of_head _ _ (by omega)
    | 1, _ =>
      obtain ⟨Z, hZ⟩ : ∃ Z, numL' (e :: r) ++ X = (48 + e.toNat) :: Z := by
        cases r with
        | nil => exact ⟨X, rfl⟩
        | cons a b => exact ⟨_, rfl⟩
      show pre _ (32 :: (numL' (e :: r) ++ X)) = false
      rw [hZ]
      unfold pre
      cases q : (List.take (32 :: 62 :: [32] : List Nat).length (32 :: (48 + e.toNat) :: Z) == 32 :: 62 :: [32]) with
      | false => rfl
      | true =>
        have z := eq_of_beq q
        simp at z
        omega
    | i + 2, h =>
      show pre _ ((numL' (e :: r) ++ X).drop i) = false
      refine pre_num (fun x hx => hd x (List.mem_cons_of_mem _ hx)) X i ?_
      have e2 : (numL' (d :: e :: r)).length = (numL' (e :: r)).length + 2 := rfl
      omega
def lineOf (d : Deed) : Str := nums d.1 ++ " > " ++ nums d.2
theorem split_line {d : Deed} (h1 : Dig d.1) (h2 : Dig d.2) : Txt.split (lineOf d) " > " = [nums d.1, nums d.2] := by
  refine map_tl_inj ?_
  rw [split_spl _ _ (by rw [ar_tl]; simp) (kind_ok (by decide +kernel))]
  unfold lineOf
  rw [tl_append, tl_append, ar_tl, tl_nums h1, tl_nums h2, List.append_assoc, spl_part (by simp) (pre_num h1 _), spl_last (fun i hi => by
    have := pre_num h2 [] i hi
    rwa [List.append_nil] at this)]
  rw [List.nil_append, List.nil_append]
  show [numL' d.1, numL' d.2] = [tl (nums d.1), tl (nums d.2)]
  rw [tl_nums h1, tl_nums h2]
def headOf (ws : List Int) : Str := "worths " ++ nums ws
def lnsOf (ws : List Int) (ds : List Deed) : List Str := headOf ws :: ds.map lineOf
def textOf (ws : List Int) (ds : List Deed) : Str := Txt.join "\n" (lnsOf ws ds) ++ "\n"
theorem no_nl {xs : List Int} (h : Dig xs) : 10 ∉ tl (nums xs) := fun hm => by
  rw [tl_nums h] at hm
  rcases numL_mem h 10 hm with z | z
  · omega
  · omega
theorem head_tl : tl ("worths " : Str) = [119, 111, 114, 116, 104, 115, 32] := by decide
theorem split_text {ws : List Int} {ds : List Deed} (hw : Dig ws) (hd : ∀ d, d ∈ ds → Dig d.1 ∧ Dig d.2) : Txt.split (Txt.join "\n" (lnsOf ws ds)) "\n" = lnsOf ws ds := by
  refine split_join nl_tl (by decide +kernel) (by simp [lnsOf]) fun p hp => ?_
  rcases List.mem_cons.mp hp with rfl | hp
  · unfold headOf
    rw [tl_append, head_tl]
    intro h
    rcases List.mem_append.mp h with h | h
    · exact absurd h (by decide)
    · exact no_nl hw h
  · obtain ⟨d, hd2, rfl⟩ := List.mem_map.mp hp
    obtain ⟨a, b⟩ := hd d hd2
    unfold lineOf
    rw [tl_append, tl_append, ar_tl]
    intro h
    rcases List.mem_append.mp h with h | h
    · rcases List.mem_append.mp h with h | h
      · exact no_nl a h
      · exact absurd h (by decide)
    · exact no_nl b h
theorem cut_last (x : Str) : L2.cutS (x ++ "\n") none (some (-1)) = x := by
  refine ext_tl ?_
  unfold L2.cutS
  have hl : (x ++ ("\n" : Str)).length = x.length + 1 := by rw [len_tl, tl_append, nl_tl, List.length_append, ← len_tl]; rfl
  have e : HT.sIx (x ++ ("\n" : Str)).length (x ++ ("\n" : Str)).length (some (-1)) = x.length := by
    rw [hl]
    unfold HT.sIx
    dsimp only
    rw [if_pos (by decide)]
    omega
  rw [e]
  show (((x ++ ("\n" : Str)).cps.toList.drop 0).take (x.length - 0)) = tl x
  rw [List.drop_zero, Nat.sub_zero]
  show (tl (x ++ ("\n" : Str))).take x.length = tl x
  rw [tl_append, len_tl, List.take_left]
theorem cut_head (x : Str) : L2.cutS ("worths " ++ x) (some 7) none = x := by
  refine ext_tl ?_
  unfold L2.cutS
  have hl : (("worths " : Str) ++ x).length = 7 + x.length := by rw [len_tl, tl_append, head_tl, List.length_append, ← len_tl]; rfl
  have e : HT.sIx (("worths " : Str) ++ x).length 0 (some 7) = 7 := by
    rw [hl]
    unfold HT.sIx
    dsimp only
    rw [if_neg (by decide)]
    show min 7 (7 + x.length) = 7
    omega
  rw [e, HT.sIx_none]
  show ((tl (("worths " : Str) ++ x)).drop 7).take (_ - 7) = tl x
  rw [tl_append, head_tl]
  show (tl x).take (_ - 7) = tl x
  rw [hl, List.take_of_length_le]
  rw [← len_tl]
  omega
theorem line_len {d : Deed} (h1 : Dig d.1) (h2 : Dig d.2) (l1 : d.1.length ≤ 10) (l2 : d.2.length ≤ 10) : (lineOf d).length ≤ 43 := by
  have n1 := nums_len h1
  have n2 := nums_len h2
  unfold lineOf
  rw [len_tl, tl_append, tl_append, ar_tl, List.length_append, List.length_append, ← len_tl, ← len_tl]
  show _ + 3 + _ ≤ 43
  omega
theorem head_len {ws : List Int} (h1 : Dig ws) (l1 : ws.length ≤ 10) : (headOf ws).length ≤ 27 := by
  have n1 := nums_len h1
  unfold headOf
  rw [len_tl, tl_append, head_tl, List.length_append, ← len_tl]
  show 7 + _ ≤ 27
  omega
theorem sum_le : ∀ {ys : List Str} {m : Nat}, (∀ y, y ∈ ys → y.length ≤ m) → (ys.map (·.length)).sum ≤ ys.length * m
  | [], _, _ => by simp
  | y :: ys, m, h => by
    have h1 := h y List.mem_cons_self
    have h2 := sum_le (ys := ys) (m := m) fun z hz => h z (List.mem_cons_of_mem _ hz)
    rw [List.map_cons, List.sum_cons, List.length_cons, Nat.succ_mul]
    omega
theorem join_len : ∀ (S : List Nat) (parts : List (List Nat)), (joinL S parts).length ≤ (parts.map (·.length)).sum + parts.length * S.length
  | S, [] => by simp [joinL]
  | S, [p] => by simp [joinL]
  | S, p :: q :: r => by
    have := join_len S (q :: r)
    show (p ++ (S ++ joinL S (q :: r))).length ≤ _
    rw [List.length_append, List.length_append, List.map_cons, List.sum_cons, List.length_cons, Nat.succ_mul]
    omega
theorem Join_len (y : Str) (parts : List Str) : (Txt.join y parts).length ≤ (parts.map (·.length)).sum + parts.length * y.length := by
  rw [len_tl, join_eq, tl_join, len_tl y]
  have h := join_len (tl y) (parts.map tl)
  have e : ((parts.map tl).map (·.length)).sum = (parts.map (·.length)).sum := by
    rw [List.map_map]
    exact congrArg List.sum (List.map_congr_left fun z _ => (len_tl z).symm)
  rw [e, List.length_map] at h
  exact h
/-- of plain signs -/
def Pln (x : Str) : Prop := ∀ c, c ∈ tl x → c < 200
theorem pln_nums {xs : List Int} (h : Dig xs) : Pln (nums xs) := fun c hc => by
  rw [tl_nums h] at hc
  rcases numL_mem h c hc with z | z <;> omega
theorem pln_app {x y : Str} (h : Pln x) (k : Pln y) : Pln (x ++ y) := fun c hc => by
  rw [tl_append] at hc
  rcases List.mem_append.mp hc with z | z
  · exact h c z
  · exact k c z
theorem pln_ok {x : Str} (h : Pln x) : PyData.strOk x = true := by
  unfold PyData.strOk
  rw [← Array.all_toList, List.all_eq_true]
  intro c hc
  have := h c hc
  exact decide_eq_true (by omega)
theorem pln_lns {ws : List Int} {ds : List Deed} (hw : Dig ws) (hd : ∀ d, d ∈ ds → Dig d.1 ∧ Dig d.2) : ∀ y, y ∈ lnsOf ws ds → Pln y := fun y hy => by
  rcases List.mem_cons.mp hy with rfl | hy
  · exact pln_app (fun c hc => by
      rw [head_tl] at hc
      revert c
      decide) (pln_nums hw)
  · obtain ⟨d, hd2, rfl⟩ := List.mem_map.mp hy
    exact pln_app (pln_app (pln_nums (hd d hd2).1) (fun c hc => by
      rw [ar_tl] at hc
      revert c
      decide)) (pln_nums (hd d hd2).2)
end CM
set_option Elab.async false
set_option linter.all false
set_option maxRecDepth 100000
set_option maxHeartbeats 4000000
/-! D1: sets. -/
namespace CN
open PySem PySem.Spec PyProof.Rows L2 CM
section
variable {P : Program} {w : World} {K : PySem.W.Frag} {mg : Str → Option Value} {base : Heap}
abbrev s_is_integer : Stmt := topS 17
abbrev N_is_integer : List Str := ["thing"]
theorem sc_is_integer : FnScope N_is_integer ["thing"] (defScope s_is_integer) := ⟨rfl, rfl, rfl, by decide +kernel, rfl, by decide +kernel, by decide +kernel⟩
def spIsInteger (K : PySem.W.Frag) : Sp := pSp fun vs B S => ∃ i : Int, All2 [Xv (.int i)] vs B ∧ S = Xv (.bl true)
theorem ok_is_integer (F : FunC K mg "is_integer" "is_integer" s_is_integer) (T : Z mg) : Cal P w K mg base "is_integer" 1 ["thing"] (spIsInteger K) := by
  refine F.cal sc_is_integer (fun _ _ _ _ _ _ us hl => match us, hl with | [_], _ => rfl) (fun vs H Q E h => by obtain ⟨_, _, _, ⟨_, h, _⟩, _⟩ := h; exact all2_len h) (fun f cdv A outer s H vs Q E hr h => ?_)
  obtain ⟨B, S, e, ⟨i, p, rfl⟩, q⟩ := h
  obtain ⟨x, rfl, px⟩ := all2_1 p
  refine ⟨_, (pss_one (ps_ret (pe_and (pe_callB (ko_isi (K := K)) (by rfl) T.z_isinstance (by decide +kernel) (pa_cons (pv 0) (pa_cons (pe_bltn (v := .ty "int") (u := .type "int") (by rfl) T.z_int (by decide +kernel) rfl) pa_nil))) (pe_one (pe_not (pe_callB (ko_isi (K := K)) (by rfl) T.z_isinstance (by decide +kernel) (pa_cons (pv 0) (pa_cons (pe_bltn (v := .ty "bool") (u := .type "bool") (by rfl) T.z_bool (by decide +kernel) rfl) pa_nil)))))))), ?_⟩
  obtain rfl : x = V.int i := px
  exact s_ret e (ev_andV (ev_cb (ea_cons (ev_i (ev_var rfl)) (ea_cons ev_c ea_nil)) (cv_isi kit_ii)) fun _ => ev_notV (ev_cb (ea_cons (ev_i (ev_var rfl)) (ea_cons ev_c ea_nil)) (cv_isi kit_ib))) q
abbrev s_is_between : Stmt := topS 18
abbrev N_is_between : List Str := ["thing", "low", "high"]
theorem sc_is_between : FnScope N_is_between ["thing", "low", "high"] (defScope s_is_between) := ⟨rfl, rfl, rfl, by decide +kernel, rfl, by decide +kernel, by decide +kernel⟩
def spBetween (K : PySem.W.Frag) : Sp := pSp fun vs B S => ∃ i a b : Int, All2 [Xv (.int i), Xv (.int a), Xv (.int b)] vs B ∧ S = Xv (.bl (decide (a ≤ i) && decide (i ≤ b)))
theorem ok_is_between (F : FunC K mg "is_between" "is_between" s_is_between) (T : Z mg) (c_is_integer : Cal P w K mg base "is_integer" 1 ["thing"] (spIsInteger K)) : Cal P w K mg base "is_between" 2 ["thing", "low", "high"] (spBetween K) := by
  refine F.cal sc_is_between (fun _ _ _ _ _ _ us hl => match us, hl with | [_, _, _], _ => rfl) (fun vs H Q E h => by obtain ⟨_, _, _, ⟨_, _, _, h, _⟩, _⟩ := h; exact all2_len h) (fun f cdv A outer s H vs Q E hr h => ?_)
  obtain ⟨B, S, e, ⟨i, a, b, p, rfl⟩, q⟩ := h
  obtain ⟨x, y, z, rfl, px, py, pz⟩ := all2_3 p
  refine ⟨_, (pss_one (ps_ret (pe_and (pe_cal c_is_integer hr (by rfl) (pa_cons (pv 0) pa_nil)) (pe_one (pe_chain op_le op_le (pv 1) (pv 0) (pv 2)))))), ?_⟩
  obtain rfl : x = V.int i := px
  obtain rfl : y = V.int a := py
  obtain rfl : z = V.int b := pz
  exact s_ret e (ev_andV (ev_call (ea_cons (ev_var rfl) ea_nil) (spv fun vs B1 _ h => ⟨i, h, rfl⟩)) fun _ => ev_chain (ev_var rfl) (ev_var rfl) (ev_var rfl)) q
abbrev s_have_common : Stmt := topS 23
abbrev N_have_common : List Str := ["one", "other", "thing"]
theorem sc_have_common : FnScope N_have_common ["one", "other"] (defScope s_have_common) := ⟨rfl, rfl, rfl, by decide +kernel, rfl, by decide +kernel, by decide +kernel⟩
def spHave (K : PySem.W.Frag) : Sp := pSp fun vs B S => ∃ xs ys : List Int, All2 [Da K (TuI xs), Da K (TuI ys)] vs B ∧ xs.length ≤ 1000 ∧ S = Xv (.bl (touch xs ys))
theorem ok_have_common (F : FunC K mg "have_common" "have_common" s_have_common) (T : Z mg) : Cal P w K mg base "have_common" 1 ["one", "other"] (spHave K) := by
  refine F.cal sc_have_common (fun _ _ _ _ _ _ us hl => match us, hl with | [_, _], _ => rfl) (fun vs H Q E h => by obtain ⟨_, _, _, ⟨_, _, h, _⟩, _⟩ := h; exact all2_len h) (fun f cdv A outer s H vs Q E hr h => ?_)
  obtain ⟨B, S, e, ⟨xs, ys, p, hl, rfl⟩, q⟩ := h
  obtain ⟨x, y, rfl, px, py⟩ := all2_2 p
  refine ⟨_, (pss_one (ps_ret (pe_callB (ko_any rfl (K := K)) (by rfl) T.z_any (by decide +kernel) (pa_cons (pe_lc (own := [("thing", 2)]) (g := gName 2) (tt := tYes) rfl sc_have_common.nd (ki_seq (K := K) (pv 0)) (blkOk_by (own := [("thing", 2)]) (N := N_have_common) (sc := defScope s_have_common) (by decide +kernel)) (fun _ _ _ _ _ => (pg_name (i := 2) sc_have_common.nd rfl (Or.inl rfl))) (fun _ _ _ _ _ => pts_nil) (fun _ _ _ _ _ => (pe_cmpR (ko_in (K := K)) (pv 2) (pv 1) rfl))) pa_nil)))), ?_⟩
  exact s_ret e (ev_bl (ev_cb (ea_cons (ev_lcB xs .int (fun x => decide (x ∈ ys)) (ei_tup (ev_d rfl px)) (by omega) fun a v B1 ha e1 dv => lt_name rfl et_yes fun _ =>
    ev_b (ev_op (ev_var (v := v) rfl) (ev_d (v := y) rfl (dp_mono e1 _ _ py)) (dp_int_inv dv ▸ ov_inTI))) ea_nil) cv_any) (by rw [List.any_map]; rfl)) q
end
end CN
set_option Elab.async false
set_option linter.all false
set_option maxRecDepth 100000
set_option maxHeartbeats 4000000
/-! D2: sets, more. -/
namespace CN
open PySem PySem.Spec PyProof.Rows L2 CM
section
variable {P : Program} {w : World} {K : PySem.W.Frag} {mg : Str → Option Value} {base : Heap}
theorem eo_i {σ : L2.St} {B : Hp} {te : TE} {i : Int} (h : EV te σ B (Xv (.int i))) : EO (tPart te) σ B (some i) := eo_some h
abbrev s_is_set : Stmt := topS 19
abbrev N_is_set : List Str := ["thing", "many", "one", "other"]
theorem sc_is_set : FnScope N_is_set ["thing", "many"] (defScope s_is_set) := ⟨rfl, rfl, rfl, by decide +kernel, rfl, by decide +kernel, by decide +kernel⟩
def spIsSet (K : PySem.W.Frag) : Sp := pSp fun vs B S => ∃ (xs : List Int) (n : Int), All2 [Da K (TuI xs), Xv (.int n)] vs B ∧ xs.length ≤ 1000 ∧ S = Xv (.bl (setB xs n))
theorem ok_is_set (F : FunC K mg "is_set" "is_set" s_is_set) (T : Z mg) (c_is_between : Cal P w K mg base "is_between" 2 ["thing", "low", "high"] (spBetween K)) : Cal P w K mg base "is_set" 3 ["thing", "many"] (spIsSet K) := by
  refine F.cal sc_is_set (fun _ _ _ _ _ _ us hl => match us, hl with | [_, _], _ => rfl) (fun vs H Q E h => by obtain ⟨_, _, _, ⟨_, _, h, _⟩, _⟩ := h; exact all2_len h) (fun f cdv A outer s H vs Q E hr h => ?_)
  obtain ⟨B, S, e, ⟨xs, n, p, hl, rfl⟩, q⟩ := h
  obtain ⟨x, y, rfl, px, py⟩ := all2_2 p
  obtain rfl : y = V.int n := py
  refine ⟨_, (pss_cons (ps_if (PW.pt (pw_or (pt_not (pt_val (pe_callB (ko_isi (K := K)) (by rfl) T.z_isinstance (by decide +kernel) (pa_cons (pv 0) (pa_cons (pe_bltn (v := .ty "tuple") (u := .type "tuple") (by rfl) T.z_tuple (by decide +kernel) rfl) pa_nil))))) (pw_or1 (pt_not (pt_val (pe_callB (ko_all rfl (K := K)) (by rfl) T.z_all (by decide +kernel) (pa_cons (pe_lc (own := [("one", 2)]) (g := gName 2) (tt := tYes) rfl sc_is_set.nd (ki_seq (K := K) (pv 0)) (blkOk_by (own := [("one", 2)]) (N := N_is_set) (sc := defScope s_is_set) (by decide +kernel)) (fun _ _ _ _ _ => (pg_name (i := 2) sc_is_set.nd rfl (Or.inl rfl))) (fun _ _ _ _ _ => pts_nil) (fun _ _ _ _ _ => (pe_cal c_is_between hr (by rfl) (pa_cons (pv 2) (pa_cons pe_int (pa_cons (pe_op op_sub (pv 1) pe_int) pa_nil)))))) pa_nil))))))) (pss_one (ps_ret pe_bl)) pss_nil)
      (pss_one (ps_ret (pe_callB (ko_all rfl (K := K)) (by rfl) T.z_all (by decide +kernel) (pa_cons (pe_lc (own := [("one", 2), ("other", 3)]) (g := gTup K 2 (gCons (gName 2) (gCons (gName 3) (gNil)))) (tt := tYes) rfl sc_is_set.nd (ki_zip (K := K) (by rfl) T.z_zip (pa_cons (pv 0) (pa_cons (pe_slice (ko_sl (K := K)) (pv 0) (po_some pe_int) po_none) pa_nil))) (blkOk_by (own := [("one", 2), ("other", 3)]) (N := N_is_set) (sc := defScope s_is_set) (by decide +kernel)) (fun _ _ _ _ _ => (kg_tup (K := K) rfl (pgs_cons (pg_name (i := 2) sc_is_set.nd rfl (Or.inl rfl)) (pgs_cons (pg_name (i := 3) sc_is_set.nd rfl (Or.inl rfl)) pgs_nil)))) (fun _ _ _ _ _ => pts_nil) (fun _ _ _ _ _ => (pe_cmpR op_lt (pv 2) (pv 3) (nomark _)))) pa_nil))))), ?_⟩
  have hall : ET (tTest (tCB (rAll K) (tCons (tLc (iSeq K (tVar 0)) (gName 2) tYes (tCall (spBetween K) [] E0 (tCons (tVar 2) (tCons (tC (.int 0)) (tCons (tOp (rI0 fun i j => .int (i - j)) (tVar 1) (tC (.int 1))) tNil)))) [2]) tNil))) (start N_is_set [x, .int n]) B (xs.all fun x => decide (0 ≤ x) && decide (x ≤ n - 1)) :=
    et_test (ev_bl (ev_cb (ea_cons (ev_lcB xs .int (fun x => decide (0 ≤ x) && decide (x ≤ n - 1)) (ei_tup (ev_d rfl px)) (by omega) fun a v B1 ha e1 dv => lt_name rfl et_yes fun _ =>
      ev_b (ev_call (ea_cons (ev_var rfl) (ea_cons ev_c (ea_cons (ev_op (ev_var rfl) ev_c ov_I0) ea_nil))) (spv fun vs B2 _ h => ⟨a, 0, n - 1, by rw [dp_int_inv dv] at h; exact h, rfl⟩))) ea_nil) cv_all) (by rw [List.all_map]; rfl))
  refine q_ifn e (et_or (et_not (et_test (ev_cb (ea_cons (ev_d rfl px) (ea_cons ev_c ea_nil)) (cv_isi kit_tt)))) fun _ => et_not hall) (fun h B1 H1 g => ?_) fun h B1 H1 g => ?_
  · have hf : (xs.all fun x => decide (0 ≤ x) && decide (x ≤ n - 1)) = false := by simpa using h
    have e2 : setB xs n = false := by unfold setB; rw [hf]; rfl
    rw [e2] at q
    exact s_ret g.bh ev_c fun v B2 H2 g2 p => q v B2 H2 (g.trans g2) p
  · have ht : (xs.all fun x => decide (0 ≤ x) && decide (x ≤ n - 1)) = true := by simpa using h
    have e2 : setB xs n = ((xs.zip xs.tail).all fun p => decide (p.1 < p.2)) := by unfold setB; rw [ht]; rfl
    rw [e2] at q
    refine s_ret g.bh (ev_bl (ev_cb (ea_cons (ev_lcB (xs.zip xs.tail) (fun p => .tuple [.int p.1, .int p.2]) (fun p => decide (p.1 < p.2)) ?_ (by rw [List.length_zip]; omega) fun a v B2 ha e2 dv => ?_) ea_nil) cv_all) (by rw [List.all_map]; rfl)) fun v B2 H2 g2 p => q v B2 H2 (g.trans g2) p
    · have hx := dp_mono g.bb _ _ px
      have z := ei_zip (K := K) (σ := start N_is_set [x, .int n]) (B := B1) (ds := xs.map .int) (es := xs.tail.map .int) (ta := tCons (tVar 0) (tCons (tSl (rSlAny K) (tVar 0) (tPart (tC (.int 1))) tNoPart) tNil)) false false
        (ea_cons (ev_d rfl hx) (ea_cons (ev_is (ev_slT (ev_d rfl hx) (eo_some ev_c) eo_none) (by rw [cutD_from (by decide), ← List.map_drop]; show PyData.tuple ((xs.drop 1).map .int) = _; rw [List.drop_one]; rfl)) ea_nil))
      rw [zipD_map] at z
      exact z
    · refine lt_tup2 dv (fun _ _ => rfl) (fun _ _ _ _ => et_yes) fun x1 x2 d1 d2 _ => ?_
      obtain rfl := dp_int_inv d1
      obtain rfl := dp_int_inv d2
      exact ev_b (ev_op (ev_var rfl) (ev_var rfl) ov_I0)
abbrev s_are_counts : Stmt := topS 20
abbrev N_are_counts : List Str := ["thing", "many", "one"]
theorem sc_are_counts : FnScope N_are_counts ["thing", "many"] (defScope s_are_counts) := ⟨rfl, rfl, rfl, by decide +kernel, rfl, by decide +kernel, by decide +kernel⟩
def spCounts (K : PySem.W.Frag) : Sp := pSp fun vs B S => ∃ (xs : List Int) (n : Int), All2 [Da K (TuI xs), Xv (.int n)] vs B ∧ xs.length ≤ 1000 ∧ S = Xv (.bl (decide ((xs.length : Int) = n) && xs.all fun x => decide (x ≥ 0)))
theorem ok_are_counts (F : FunC K mg "are_counts" "are_counts" s_are_counts) (T : Z mg) (c_is_integer : Cal P w K mg base "is_integer" 1 ["thing"] (spIsInteger K)) : Cal P w K mg base "are_counts" 2 ["thing", "many"] (spCounts K) := by
  refine F.cal sc_are_counts (fun _ _ _ _ _ _ us hl => match us, hl with | [_, _], _ => rfl) (fun vs H Q E h => by obtain ⟨_, _, _, ⟨_, _, h, _⟩, _⟩ := h; exact all2_len h) (fun f cdv A outer s H vs Q E hr h => ?_)
  obtain ⟨B, S, e, ⟨xs, n, p, hl, rfl⟩, q⟩ := h
  obtain ⟨x, y, rfl, px, py⟩ := all2_2 p
  obtain rfl : y = V.int n := py
  have hu := hr.units
  refine ⟨_, (pss_one (ps_ret (pe_and (pe_callB (ko_isi (K := K)) (by rfl) T.z_isinstance (by decide +kernel) (pa_cons (pv 0) (pa_cons (pe_bltn (v := .ty "tuple") (u := .type "tuple") (by rfl) T.z_tuple (by decide +kernel) rfl) pa_nil))) (pe_and (pe_cmpR (ko_eq hu (K := K)) (pe_callB (ko_len (K := K)) (by rfl) T.z_len (by decide +kernel) (pa_cons (pv 0) pa_nil)) (pv 1) (nomark _)) (pe_one (pe_callB (ko_all rfl (K := K)) (by rfl) T.z_all (by decide +kernel) (pa_cons (pe_lc (own := [("one", 2)]) (g := gName 2) (tt := tYes) rfl sc_are_counts.nd (ki_seq (K := K) (pv 0)) (blkOk_by (own := [("one", 2)]) (N := N_are_counts) (sc := defScope s_are_counts) (by decide +kernel)) (fun _ _ _ _ _ => (pg_name (i := 2) sc_are_counts.nd rfl (Or.inl rfl))) (fun _ _ _ _ _ => pts_nil) (fun _ _ _ _ _ => (pe_and (pe_cal c_is_integer hr (by rfl) (pa_cons (pv 2) pa_nil)) (pe_one (pe_cmpR op_ge (pv 2) pe_int (nomark _)))))) pa_nil))))))), ?_⟩
  refine s_ret e (ev_bl (ev_andV (ev_cb (ea_cons (ev_d rfl px) (ea_cons ev_c ea_nil)) (cv_isi kit_tt)) fun _ => ev_andV (ev_op (ev_cb (ea_cons (ev_d rfl px) ea_nil) cv_lent) (ev_var rfl) ov_eqi) fun _ =>
    ev_cb (ea_cons (ev_lcB xs .int (fun x => decide (x ≥ 0)) (ei_tup (ev_d rfl px)) (by omega) fun a v B1 ha e1 dv => lt_name rfl et_yes fun _ => ev_b (ev_bl (ev_andV (ev_call (ea_cons (ev_var rfl) ea_nil) (spv fun vs B2 _ h => ⟨a, by rw [dp_int_inv dv] at h; exact h, rfl⟩)) fun _ => ev_op (ev_var (by rw [dp_int_inv dv]; rfl)) ev_c ov_I0) (Bool.true_and _))) ea_nil) cv_all) ?_) q
  rw [List.length_map, List.all_map]
  rfl
abbrev s_is_inside : Stmt := topS 24
abbrev N_is_inside : List Str := ["one", "other", "thing"]
theorem sc_is_inside : FnScope N_is_inside ["one", "other"] (defScope s_is_inside) := ⟨rfl, rfl, rfl, by decide +kernel, rfl, by decide +kernel, by decide +kernel⟩
def spInside (K : PySem.W.Frag) : Sp := pSp fun vs B S => ∃ xs ys : List Int, All2 [Da K (TuI xs), Da K (TuI ys)] vs B ∧ xs.length ≤ 1000 ∧ S = Xv (.bl (inside xs ys))
theorem ok_is_inside (F : FunC K mg "is_inside" "is_inside" s_is_inside) (T : Z mg) : Cal P w K mg base "is_inside" 1 ["one", "other"] (spInside K) := by
  refine F.cal sc_is_inside (fun _ _ _ _ _ _ us hl => match us, hl with | [_, _], _ => rfl) (fun vs H Q E h => by obtain ⟨_, _, _, ⟨_, _, h, _⟩, _⟩ := h; exact all2_len h) (fun f cdv A outer s H vs Q E hr h => ?_)
  obtain ⟨B, S, e, ⟨xs, ys, p, hl, rfl⟩, q⟩ := h
  obtain ⟨x, y, rfl, px, py⟩ := all2_2 p
  refine ⟨_, (pss_one (ps_ret (pe_callB (ko_all rfl (K := K)) (by rfl) T.z_all (by decide +kernel) (pa_cons (pe_lc (own := [("thing", 2)]) (g := gName 2) (tt := tYes) rfl sc_is_inside.nd (ki_seq (K := K) (pv 0)) (blkOk_by (own := [("thing", 2)]) (N := N_is_inside) (sc := defScope s_is_inside) (by decide +kernel)) (fun _ _ _ _ _ => (pg_name (i := 2) sc_is_inside.nd rfl (Or.inl rfl))) (fun _ _ _ _ _ => pts_nil) (fun _ _ _ _ _ => (pe_cmpR (ko_in (K := K)) (pv 2) (pv 1) rfl))) pa_nil)))), ?_⟩
  exact s_ret e (ev_bl (ev_cb (ea_cons (ev_lcB xs .int (fun x => decide (x ∈ ys)) (ei_tup (ev_d rfl px)) (by omega) fun a v B1 ha e1 dv => lt_name rfl et_yes fun _ =>
    ev_b (ev_op (ev_var (v := v) rfl) (ev_d (v := y) rfl (dp_mono e1 _ _ py)) (dp_int_inv dv ▸ ov_inTI))) ea_nil) cv_all) (by rw [List.all_map]; rfl)) q
end
end CN
set_option Elab.async false
set_option linter.all false
set_option maxRecDepth 100000
set_option maxHeartbeats 4000000
/-! D3: all sets; worths; moves. -/
namespace CN
open PySem PySem.Spec PyProof.Rows L2 CM
section
variable {P : Program} {w : World} {K : PySem.W.Frag} {mg : Str → Option Value} {base : Heap}
abbrev s_sets_below : Stmt := topS 22
abbrev N_sets_below : List Str := ["many", "found", "thing", "row"]
theorem sc_sets_below : FnScope N_sets_below ["many"] (defScope s_sets_below) := ⟨rfl, rfl, rfl, by decide +kernel, rfl, by decide +kernel, by decide +kernel⟩
def spBelow (K : PySem.W.Frag) : Sp := pSp fun vs B S => ∃ n : Nat, All2 [Xv (.int (n : Int))] vs B ∧ n ≤ 6 ∧ S = Da K (.list ((ordS (subs n)).map TuI))
theorem subs_small {n : Nat} (h : n ≤ 6) : (subs n).length ≤ 64 := by
  rw [subs_len]
  exact Nat.le_trans (Nat.pow_le_pow_right (by decide) h) (by decide)
theorem subs_sml {n : Nat} {s : List Int} (h : s ∈ subs n) : s.length ≤ n := by
  induction n generalizing s with
  | zero =>
    have : s = [] := by simpa [subs] using h
    rw [this]
    exact Nat.le_refl _
  | succ n ih =>
    rw [subs] at h
    rcases List.mem_append.mp h with h | h
    · exact Nat.le_succ_of_le (ih h)
    · obtain ⟨t, ht, rfl⟩ := List.mem_map.mp h
      rw [List.length_append]
      exact Nat.succ_le_succ (ih ht)
theorem ok_sets_below (F : FunC K mg "sets_below" "sets_below" s_sets_below) (T : Z mg) (F0 : FunC K mg "in_order" "in_order" s_in_order) : Cal P w K mg base "sets_below" 1 ["many"] (spBelow K) := by
  obtain ⟨fio, fdio, Fio, gio⟩ := F0.ex
  refine F.cal sc_sets_below (fun _ _ _ _ _ _ us hl => match us, hl with | [_], _ => rfl) (fun vs H Q E h => by obtain ⟨_, _, _, ⟨_, h, _⟩, _⟩ := h; exact all2_len h) (fun f cdv A outer s H vs Q E hr h => ?_)
  obtain ⟨B, S, e, ⟨n, p, hn, rfl⟩, q⟩ := h
  obtain ⟨x, rfl, px⟩ := all2_1 p
  obtain rfl : x = V.int n := px
  refine ⟨_, (pss_cons (ps_set (i := 1) sc_sets_below.nd rfl (Or.inl rfl) (pe_lst (pa_cons (pe_tup pa_nil) pa_nil)))
      (pss_cons (ps_for PassesOwn.never rfl (pi_range1 (by rfl) T.z_range (pa_cons (pv 0) pa_nil)) (pg_name (i := 2) sc_sets_below.nd rfl (Or.inr rfl)) (pss_one (ps_set (i := 1) sc_sets_below.nd rfl (Or.inl rfl) (pe_op (ko_add (K := K)) (pv 1) (pe_lc (own := [("row", 3)]) (g := gName 3) (tt := tYes) rfl sc_sets_below.nd (ki_seq (K := K) (pv 1)) (blkOk_by (own := [("row", 3)]) (N := N_sets_below) (sc := defScope s_sets_below) (by decide +kernel)) (fun _ _ _ _ _ => (pg_name (i := 3) sc_sets_below.nd rfl (Or.inl rfl))) (fun _ _ _ _ _ => pts_nil) (fun _ _ _ _ _ => (pe_op (ko_add (K := K)) (pv 3) (pe_tup (pa_cons (pv 2) pa_nil)))))))))
      (pss_one (ps_ret (pe_callBK (cr_sortKey Fio T.z_len hr) (by rfl) T.z_sorted (by decide +kernel) (pa_cons (pv 1) pa_nil) (pk_cons (pe_glob (v := V.ref fio) (by rfl) gio rfl) pk_nil)))))), ?_⟩
  refine q_asg e (ev_lstL (K := K) [TuI []] (ea_cons (ev_tup [] ea_nil (by decide)) ea_nil) (by decide)) fun v0 B0 H0 g0 p0 => ?_
  refine q_forG (K := K) g0 (ei_rng1 (ea_cons (ev_var rfl) ea_nil) (by omega)) (fun i σ' B' H' => ∃ v t r, σ' = [some (.int n), some v, t, r] ∧ Dl K ((subs i).map TuI) v B') (fun B1 H1 g1 => ⟨v0, none, none, rfl, Mo.mo _ _ _ g1.bb p0⟩) ?_ ?_
  · rintro i x σ' B0 H0 B' H' d N ⟨v, t, r, rfl, hv⟩ hg g hd dx fin
    obtain ⟨rfl, hi⟩ := rng_get hd
    have hi6 : i < 6 := by omega
    obtain rfl := dp_int_inv dx
    have hv' := Mo.mo _ _ _ g.bb hv
    have hsz := subs_small (n := i) (by omega)
    refine s_asg g.bh (ev_op (ev_d rfl hv') (ev_lcL0 (subs i) TuI (fun s => TuI (s ++ [(i : Int)])) (ei_lst (ev_d rfl (dl_da hv'))) (by omega) fun a x B2 ha e2 dx2 => lt_name rfl et_yes fun _ => ?_) (ov_addL (by rw [List.length_map, List.length_map]; omega))) fun v2 B2 H2 g2 p2 => fin _ B2 H2 ((hg.trans g).trans g2) g2.bb ⟨v2, _, _, rfl, ?_⟩
    · have hal := subs_sml ha
      exact ev_is (ev_op (ev_d rfl dx2) (ev_tup [.int (i : Int)] (ea_cons (ev_i (ev_var (by rw [Int.zero_add]; rfl))) ea_nil) (by simp)) (ov_addT (by rw [List.length_map]; show a.length + 1 ≤ _; omega))) (by show PyData.tuple _ = PyData.tuple _; rw [List.map_append]; rfl)
    · have e2 : (subs (i + 1)).map TuI = (subs i).map TuI ++ (subs i).map fun s => TuI (s ++ [(i : Int)]) := by
        rw [subs, List.map_append, List.map_map]
        rfl
      rw [e2]
      exact p2
  · rintro σ' B' H' hg _ ⟨v, t, r, rfl, hv⟩
    have hl : ((rangeL 0 (n : Int).toNat).map PyData.int).length = n := by simp [rangeL]
    rw [hl] at hv
    have hsz := subs_small hn
    exact s_ret hg.bh (ev_sortKey (ev_d rfl (dl_da hv)) ev_c (fun s hs => Nat.le_trans (subs_sml hs) (by omega)) (by omega)) fun v B2 H2 g2 p => q v B2 H2 (hg.trans g2) p
abbrev s_smallest_of : Stmt := topS 50
abbrev N_smallest_of : List Str := ["some", "found", "boxes", "other"]
theorem sc_smallest_of : FnScope N_smallest_of ["some"] (defScope s_smallest_of) := ⟨rfl, rfl, rfl, by decide +kernel, rfl, by decide +kernel, by decide +kernel⟩
def spSmall (K : PySem.W.Frag) : Sp := pSp fun vs B S => ∃ ws : List (List Int), All2 [Da K (.list (ws.map TuI))] vs B ∧ ws.length ≤ 1000 ∧ (∀ s, s ∈ ws → s.length ≤ 1000) ∧ S = Da K (.list ((smallest [] ws).map TuI))
theorem small_snoc : ∀ (r found : List (List Int)) (b : List Int), smallest found (r ++ [b]) = if (smallest found r).any (fun o => inside o b) then smallest found r else smallest found r ++ [b]
  | [], found, b => by
    rw [List.nil_append, smallest, smallest, smallest]
  | a :: r, found, b => by
    rw [List.cons_append, smallest, smallest, small_snoc r _ b]
theorem small_sub : ∀ (r found : List (List Int)) (s : List Int), s ∈ smallest found r → s ∈ found ∨ s ∈ r
  | [], found, s, h => .inl h
  | a :: r, found, s, h => by
    rw [smallest] at h
    rcases small_sub r _ s h with h | h
    · split at h
      · exact .inl h
      · rcases List.mem_append.mp h with h | h
        · exact .inl h
        · exact .inr (by rw [List.mem_singleton.mp h]; exact List.mem_cons_self)
    · exact .inr (List.mem_cons_of_mem _ h)
theorem small_len : ∀ (r found : List (List Int)), (smallest found r).length ≤ found.length + r.length
  | [], found => Nat.le_refl _
  | a :: r, found => by
    rw [smallest]
    refine Nat.le_trans (small_len r _) ?_
    split
    · simp
    · simp
      omega
theorem ok_smallest_of (F : FunC K mg "smallest_of" "smallest_of" s_smallest_of) (T : Z mg) (c_is_inside : Cal P w K mg base "is_inside" 1 ["one", "other"] (spInside K)) : Cal P w K mg base "smallest_of" 2 ["some"] (spSmall K) := by
  refine F.cal sc_smallest_of (fun _ _ _ _ _ _ us hl => match us, hl with | [_], _ => rfl) (fun vs H Q E h => by obtain ⟨_, _, _, ⟨_, h, _⟩, _⟩ := h; exact all2_len h) (fun f cdv A outer s H vs Q E hr h => ?_)
  obtain ⟨B, S, e, ⟨ws, p, hl, hls, rfl⟩, q⟩ := h
  obtain ⟨x, rfl, px⟩ := all2_1 p
  refine ⟨_, (pss_cons (ps_set (i := 1) sc_smallest_of.nd rfl (Or.inl rfl) (pe_lst pa_nil))
      (pss_cons (ps_for PassesOwn.never rfl (ki_seq (K := K) (pv 0)) (pg_name (i := 2) sc_smallest_of.nd rfl (Or.inr rfl)) (pss_one (ps_if (pt_not (pt_val (pe_callB (ko_any rfl (K := K)) (by rfl) T.z_any (by decide +kernel) (pa_cons (pe_lc (own := [("other", 3)]) (g := gName 3) (tt := tYes) rfl sc_smallest_of.nd (ki_seq (K := K) (pv 1)) (blkOk_by (own := [("other", 3)]) (N := N_smallest_of) (sc := defScope s_smallest_of) (by decide +kernel)) (fun _ _ _ _ _ => (pg_name (i := 3) sc_smallest_of.nd rfl (Or.inl rfl))) (fun _ _ _ _ _ => pts_nil) (fun _ _ _ _ _ => (pe_cal c_is_inside hr (by rfl) (pa_cons (pv 3) (pa_cons (pv 2) pa_nil))))) pa_nil)))) (pss_one (ps_expr (pe_bm PySem.F.plainAttrs_list PySem.F.slot_list_append PySem.F.type_list_append mt_append (pv 1) (pa_cons (pv 2) pa_nil)))) pss_nil)))
      (pss_one (ps_ret (pv 1))))), ?_⟩
  refine q_new (K := K) e (en_lst [] ea_nil (by simp)) fun l xs B0 H0 g0 hl0 hH hB hd0 => ?_
  have px0 := dp_mono g0.bb _ _ px
  refine q_forG (K := K) g0 (ei_lst (ev_d rfl px0)) (fun i σ' B' H' => ∃ t r ys, σ' = [some x, some (.ref l), t, r] ∧ H' l = some (.lst ys) ∧ B' l = none ∧ DpAll K B' ys ((smallest [] (ws.take i)).map TuI)) (fun B1 H1 g1 => ⟨none, none, xs, rfl, g1.hh _ _ hH, g1.unk hH hB, dpa_mono g1.bb _ _ hd0⟩) ?_ ?_
  · rintro i v σ' B1 H1 B' H' d N ⟨t, r, ys, rfl, h1, h2, h3⟩ hg g hd dv fin
    obtain ⟨b, hb, rfl⟩ := map_get hd
    have hbm : b ∈ ws := List.mem_of_getElem? hb
    have h1' := g.hh _ _ h1
    have h2' := g.unk h1 h2
    have h3' := dpa_mono g.bb _ _ h3
    obtain ⟨k1, k2, k3⟩ := known g.bh h1' h2' h3'
    have hsl : (smallest [] (ws.take i)).length ≤ 1000 := Nat.le_trans (small_len _ _) (by rw [List.length_nil, Nat.zero_add, List.length_take]; omega)
    have tk : ws.take (i + 1) = ws.take i ++ [b] := by rw [List.take_add_one, hb]; rfl
    refine s_ifn k2 (et_not (et_test (ev_bl (ev_cb (ea_cons (ev_lcB (smallest [] (ws.take i)) TuI (fun o => inside o b) (ei_lst (ev_d rfl k3)) (by omega) fun a u B2 ha e2 du => lt_name rfl et_yes fun _ =>
      ev_b (ev_call (ea_cons (ev_d rfl du) (ea_cons (ev_d rfl (dp_mono (k1.trans e2) _ _ dv)) ea_nil)) (spv fun vs B3 _ h => ⟨a, b, h, ?_, rfl⟩))) ea_nil) cv_any) (by rw [List.any_map] <;> rfl)))) (fun hc B2 H2 g2 => ?_) fun hc B2 H2 g2 => ?_
    · rcases small_sub _ _ _ ha with z | z
      · cases z
      · exact hls a (List.mem_of_mem_take z)
    · have g3 := g2.drop k1
      refine s_app g3.bh (g3.hh _ _ h1') h2' (ev_var rfl) (ev_d (P := Da K (TuI b)) rfl dv) ?_ fun v2 B4 H4 g4 h4 p4 _ => ?_
      · have := dpa_length h3'
        rw [this, List.length_map]
        omega
      · have hb4 := g4.unk (g3.hh _ _ h1') h2'
        refine fin _ B4 _ (((hg.trans g).trans (g3.trans g4)).mut hl0 hb4) g4.bb ⟨_, _, _, rfl, upd_same, hb4, ?_⟩
        have hf : ((smallest [] (ws.take i)).any fun o => inside o b) = false := by simpa using hc
        rw [tk, small_snoc, hf, if_neg Bool.false_ne_true, List.map_append]
        exact dpa_append (dpa_mono g4.bb _ _ h3') (.cons p4 .nil)
    · have g3 := g2.drop k1
      refine fin _ B' H2 ((hg.trans g).trans g3) (Same.refl _) ⟨_, _, _, rfl, g3.hh _ _ h1', h2', ?_⟩
      have hf : ((smallest [] (ws.take i)).any fun o => inside o b) = true := by simpa using hc
      rw [tk, small_snoc, hf, if_pos rfl]
      exact h3'
  · rintro σ' B' H' hg _ ⟨t, r, ys, rfl, h1, h2, h3⟩
    rw [List.length_map, List.take_length] at h3
    obtain ⟨k1, k2, k3⟩ := known hg.bh h1 h2 h3
    exact s_ret k2 (ev_d rfl k3) fun v B2 H2 g2 p => q v B2 H2 ((hg.freeze hl0 h1 h2).trans g2) p
abbrev s_worth_of : Stmt := topS 35
abbrev N_worth_of : List Str := ["worths", "boxes", "box"]
theorem sc_worth_of : FnScope N_worth_of ["worths", "boxes"] (defScope s_worth_of) := ⟨rfl, rfl, rfl, by decide +kernel, rfl, by decide +kernel, by decide +kernel⟩
def spWorth (K : PySem.W.Frag) : Sp := pSp fun vs B S => ∃ ws bs : List Int, All2 [Da K (TuI ws), Da K (TuI bs)] vs B ∧ Inr ws.length bs ∧ bs.length ≤ 1000 ∧ S = Xv (.int (worthB ws bs))
theorem get_of {ws : List Int} {b : Int} (h : 0 ≤ b ∧ b < (ws.length : Int)) : (ws.map PyData.int)[b.toNat]? = some (.int (ws.getD b.toNat 0)) := by
  have hb : b.toNat < ws.length := by omega
  rw [List.getElem?_map, List.getD_eq_getElem?_getD, List.getElem?_eq_getElem hb]
  rfl
theorem ok_worth_of (F : FunC K mg "worth_of" "worth_of" s_worth_of) (T : Z mg) : Cal P w K mg base "worth_of" 1 ["worths", "boxes"] (spWorth K) := by
  refine F.cal sc_worth_of (fun _ _ _ _ _ _ us hl => match us, hl with | [_, _], _ => rfl) (fun vs H Q E h => by obtain ⟨_, _, _, ⟨_, _, h, _⟩, _⟩ := h; exact all2_len h) (fun f cdv A outer s H vs Q E hr h => ?_)
  obtain ⟨B, S, e, ⟨ws, bs, p, hb, hl, rfl⟩, q⟩ := h
  obtain ⟨x, y, rfl, px, py⟩ := all2_2 p
  refine ⟨_, (pss_one (ps_ret (pe_callB (ko_sum rfl (K := K)) (by rfl) T.z_sum (by decide +kernel) (pa_cons (pe_lc (own := [("box", 2)]) (g := gName 2) (tt := tYes) rfl sc_worth_of.nd (ki_seq (K := K) (pv 1)) (blkOk_by (own := [("box", 2)]) (N := N_worth_of) (sc := defScope s_worth_of) (by decide +kernel)) (fun _ _ _ _ _ => (pg_name (i := 2) sc_worth_of.nd rfl (Or.inl rfl))) (fun _ _ _ _ _ => pts_nil) (fun _ _ _ _ _ => (pe_ix (ko_ix (K := K)) (pv 0) (pv 2) (fun _ _ => rfl)))) pa_nil)))), ?_⟩
  exact s_ret e (ev_cb (ea_cons (ev_lcI bs .int (fun b => ws.getD b.toNat 0) (ei_tup (ev_d rfl py)) (by omega) fun a v B1 ha e1 dv => lt_name rfl et_yes fun _ =>
    ev_op (ev_d rfl (dp_mono e1 _ _ px)) (ev_var (by rw [dp_int_inv dv]; rfl)) (ov_ixt (Int.toNat_of_nonneg (hb a ha).1).symm (get_of (hb a ha)))) ea_nil) cv_sum) q
abbrev s_are_worths : Stmt := topS 34
abbrev N_are_worths : List Str := ["thing", "one"]
theorem sc_are_worths : FnScope N_are_worths ["thing"] (defScope s_are_worths) := ⟨rfl, rfl, rfl, by decide +kernel, rfl, by decide +kernel, by decide +kernel⟩
def spWorths (K : PySem.W.Frag) : Sp := pSp fun vs B S => ∃ ws : List Int, All2 [Da K (TuI ws)] vs B ∧ ws.length ≤ 1000 ∧ okWs ws = true ∧ S = Xv (.bl true)
theorem ok_are_worths (F : FunC K mg "are_worths" "are_worths" s_are_worths) (T : Z mg) (c_is_between : Cal P w K mg base "is_between" 2 ["thing", "low", "high"] (spBetween K)) : Cal P w K mg base "are_worths" 3 ["thing"] (spWorths K) := by
  refine F.cal sc_are_worths (fun _ _ _ _ _ _ us hl => match us, hl with | [_], _ => rfl) (fun vs H Q E h => by obtain ⟨_, _, _, ⟨_, h, _⟩, _⟩ := h; exact all2_len h) (fun f cdv A outer s H vs Q E hr h => ?_)
  obtain ⟨B, S, e, ⟨ws, p, hl, hw, rfl⟩, q⟩ := h
  obtain ⟨x, rfl, px⟩ := all2_1 p
  refine ⟨_, (pss_cons (ps_if (PW.pt (pw_or (pt_not (pt_val (pe_callB (ko_isi (K := K)) (by rfl) T.z_isinstance (by decide +kernel) (pa_cons (pv 0) (pa_cons (pe_bltn (v := .ty "tuple") (u := .type "tuple") (by rfl) T.z_tuple (by decide +kernel) rfl) pa_nil))))) (pw_or1 (pt_not (pt_chain op_le op_le pe_int (pe_callB (ko_len (K := K)) (by rfl) T.z_len (by decide +kernel) (pa_cons (pv 0) pa_nil)) (pe_gi (by rfl) T.c_MOST_BOXES)))))) (pss_one (ps_ret pe_bl)) pss_nil)
      (pss_one (ps_ret (pe_callB (ko_all rfl (K := K)) (by rfl) T.z_all (by decide +kernel) (pa_cons (pe_lc (own := [("one", 1)]) (g := gName 1) (tt := tYes) rfl sc_are_worths.nd (ki_seq (K := K) (pv 0)) (blkOk_by (own := [("one", 1)]) (N := N_are_worths) (sc := defScope s_are_worths) (by decide +kernel)) (fun _ _ _ _ _ => (pg_name (i := 1) sc_are_worths.nd rfl (Or.inl rfl))) (fun _ _ _ _ _ => pts_nil) (fun _ _ _ _ _ => (pe_cal c_is_between hr (by rfl) (pa_cons (pv 1) (pa_cons pe_int (pa_cons (pe_gi (by rfl) T.c_MOST_COIN) pa_nil)))))) pa_nil))))), ?_⟩
  unfold okWs at hw
  obtain ⟨hw1, hw2⟩ := Bool.and_eq_true_iff.mp hw
  obtain ⟨hw3, hw4⟩ := Bool.and_eq_true_iff.mp hw1
  have a1 := of_decide_eq_true hw3
  have a2 := of_decide_eq_true hw4
  have hch : (!(decide ((1 : Int) ≤ (ws.length : Int)) && decide ((ws.length : Int) ≤ 5))) = false := by
    rw [decide_eq_true (by omega), decide_eq_true (by omega)]
    rfl
  refine q_not e (et_is (et_or (et_not (et_test (ev_cb (ea_cons (ev_d rfl px) (ea_cons ev_c ea_nil)) (cv_isi kit_tt)))) fun _ => et_not (et_B (ev_chain ev_c (ev_cb (ea_cons (ev_d rfl px) ea_nil) cv_lent) ev_c))) ?_) fun B1 H1 g => ?_
  · rw [List.length_map]
    simpa using hch
  · refine s_ret g.bh (ev_bl (ev_cb (ea_cons (ev_lcB ws .int (fun x => decide (1 ≤ x) && decide (x ≤ 3)) (ei_tup (ev_d rfl (dp_mono g.bb _ _ px))) (by omega) fun a v B2 ha e2 dv => lt_name rfl et_yes fun _ =>
      ev_b (ev_call (ea_cons (ev_var rfl) (ea_cons ev_c (ea_cons ev_c ea_nil))) (spv fun vs B3 _ h => ⟨a, 1, 3, by rw [dp_int_inv dv] at h; exact h, rfl⟩))) ea_nil) cv_all) (by rw [List.all_map]; exact hw2)) fun v B2 H2 g2 p => q v B2 H2 (g.trans g2) p
end
end CN
set_option Elab.async false
set_option linter.all false
set_option maxRecDepth 100000
set_option maxHeartbeats 4000000
/-! D4: deeds, moves. -/
namespace CN
open PySem PySem.Spec PyProof.Rows L2 CM
section
variable {P : Program} {w : World} {K : PySem.W.Frag} {mg : Str → Option Value} {base : Heap}
theorem dd_get0 (d : Deed) : ([TuI d.1, TuI d.2] : List PyData)[0]? = some (TuI d.1) := rfl
theorem dd_get1 (d : Deed) : ([TuI d.1, TuI d.2] : List PyData)[1]? = some (TuI d.2) := rfl
abbrev s_is_deed : Stmt := topS 36
abbrev N_is_deed : List Str := ["worths", "thing", "side"]
theorem sc_is_deed : FnScope N_is_deed ["worths", "thing"] (defScope s_is_deed) := ⟨rfl, rfl, rfl, by decide +kernel, rfl, by decide +kernel, by decide +kernel⟩
def spDeed (K : PySem.W.Frag) : Sp := pSp fun vs B S => ∃ (ws : List Int) (d : Deed), All2 [Da K (TuI ws), Da K (DD d)] vs B ∧ ws.length ≤ 1000 ∧ DeedOk ws d ∧ S = Xv (.bl true)
theorem ok_is_deed (F : FunC K mg "is_deed" "is_deed" s_is_deed) (T : Z mg) (c_is_set : Cal P w K mg base "is_set" 3 ["thing", "many"] (spIsSet K)) (c_worth_of : Cal P w K mg base "worth_of" 1 ["worths", "boxes"] (spWorth K)) : Cal P w K mg base "is_deed" 4 ["worths", "thing"] (spDeed K) := by
  refine F.cal sc_is_deed (fun _ _ _ _ _ _ us hl => match us, hl with | [_, _], _ => rfl) (fun vs H Q E h => by obtain ⟨_, _, _, ⟨_, _, h, _⟩, _⟩ := h; exact all2_len h) (fun f cdv A outer s H vs Q E hr h => ?_)
  obtain ⟨B, S, e, ⟨ws, d, p, hl, ok, rfl⟩, q⟩ := h
  obtain ⟨x, y, rfl, px, py⟩ := all2_2 p
  have hu := hr.units
  have l1 := isSet_len ok.s1
  have l2 := isSet_len ok.s2
  refine ⟨_, (pss_cons (ps_if (PW.pt (pw_or (pt_not (pt_val (pe_callB (ko_isi (K := K)) (by rfl) T.z_isinstance (by decide +kernel) (pa_cons (pv 1) (pa_cons (pe_bltn (v := .ty "tuple") (u := .type "tuple") (by rfl) T.z_tuple (by decide +kernel) rfl) pa_nil))))) (pw_or1 (pt_cmpR (ko_ne hu (K := K)) (pe_callB (ko_len (K := K)) (by rfl) T.z_len (by decide +kernel) (pa_cons (pv 1) pa_nil)) pe_int (nomark _))))) (pss_one (ps_ret pe_bl)) pss_nil)
      (pss_cons (ps_if (pt_not (pt_val (pe_callB (ko_all rfl (K := K)) (by rfl) T.z_all (by decide +kernel) (pa_cons (pe_lc (own := [("side", 2)]) (g := gName 2) (tt := tYes) rfl sc_is_deed.nd (ki_seq (K := K) (pv 1)) (blkOk_by (own := [("side", 2)]) (N := N_is_deed) (sc := defScope s_is_deed) (by decide +kernel)) (fun _ _ _ _ _ => (pg_name (i := 2) sc_is_deed.nd rfl (Or.inl rfl))) (fun _ _ _ _ _ => pts_nil) (fun _ _ _ _ _ => (pe_and (pe_cal c_is_set hr (by rfl) (pa_cons (pv 2) (pa_cons (pe_callB (ko_len (K := K)) (by rfl) T.z_len (by decide +kernel) (pa_cons (pv 0) pa_nil)) pa_nil))) (pe_one (pe_cmpR (ko_ne hu (K := K)) (pv 2) (pe_tup pa_nil) (nomark _)))))) pa_nil)))) (pss_one (ps_ret pe_bl)) pss_nil)
      (pss_one (ps_ret (pe_cmpR (ko_eq hu (K := K)) (pe_cal c_worth_of hr (by rfl) (pa_cons (pv 0) (pa_cons (pe_ix (ko_ix (K := K)) (pv 1) pe_int (fun _ _ => rfl)) pa_nil))) (pe_cal c_worth_of hr (by rfl) (pa_cons (pv 0) (pa_cons (pe_ix (ko_ix (K := K)) (pv 1) pe_int (fun _ _ => rfl)) pa_nil))) (nomark _)))))), ?_⟩
  refine q_not e (et_or (x := false) (y := false) (et_not (x := true) (et_test (ev_cb (ea_cons (ev_D rfl py) (ea_cons ev_c ea_nil)) (cv_isi kit_tt)))) fun _ => et_test (ev_bl (ev_op (ev_cb (ea_cons (ev_D rfl py) ea_nil) cv_lent) ev_c ov_nei) rfl)) fun B1 H1 g1 => ?_
  have px1 := dp_mono g1.bb _ _ px
  have py1 := dp_mono g1.bb _ _ py
  refine q_not g1.bh (et_not (x := true) (et_test (ev_bl (ev_cb (ea_cons (ev_lcB [d.1, d.2] TuI (fun _ => true) (ei_tup (ev_D rfl py1)) (by simp) fun a v B2 ha e2 dv => lt_name rfl et_yes fun _ => ?_) ea_nil) cv_all) rfl))) fun B2 H2 g2 => ?_
  · have hs : IsSet ws.length a ∧ a ≠ [] := by
      rcases List.mem_cons.mp ha with rfl | ha
      · exact ⟨ok.s1, ok.n1⟩
      · rcases List.mem_cons.mp ha with rfl | ha
        · exact ⟨ok.s2, ok.n2⟩
        · cases ha
    have hal := isSet_len hs.1
    have e1 : setB a (ws.length : Int) = true := setB_iff.mpr hs.1
    refine ev_b (ev_bl (ev_andV (ev_call (ea_cons (ev_D rfl dv) (ea_cons (ev_cb (ea_cons (ev_D rfl (dp_mono e2 _ _ px1)) ea_nil) cv_lent) ea_nil)) (spv fun vs B3 _ h => ⟨a, (ws.length : Int), ?_, by omega, rfl⟩)) fun _ => ev_op (ev_D rfl dv) (ev_tup [] ea_nil (by simp)) (ov_ned (sk_ti (k := 0) a).sh (sk_nilT (k := 0)).sh)) ?_)
    · rw [List.length_map] at h
      exact h
    · rw [e1, eqv_ti0, decide_eq_false hs.2]
      rfl
  · have px2 := dp_mono g2.bb _ _ px1
    have py2 := dp_mono g2.bb _ _ py1
    refine s_ret g2.bh (ev_bl (ev_op (ev_call (ea_cons (ev_D rfl px2) (ea_cons (ev_op (ev_D rfl py2) ev_c (ov_ixt (j := 0) rfl (dd_get0 d))) ea_nil)) (spv fun vs B3 _ h => ⟨ws, d.1, h, ok.s1.1, by omega, rfl⟩))
      (ev_call (ea_cons (ev_D rfl px2) (ea_cons (ev_op (ev_D rfl py2) ev_c (ov_ixt (j := 1) rfl (dd_get1 d))) ea_nil)) (spv fun vs B3 _ h => ⟨ws, d.2, h, ok.s2.1, by omega, rfl⟩)) ov_eqi) (decide_eq_true ok.w)) fun v B3 H3 g3 p => q v B3 H3 ((g1.trans g2).trans g3) p
abbrev s_moved : Stmt := topS 60
abbrev N_moved : List Str := ["deed", "state", "takes", "puts", "box", "coins"]
theorem sc_moved : FnScope N_moved ["deed", "state"] (defScope s_moved) := ⟨rfl, rfl, rfl, by decide +kernel, rfl, by decide +kernel, by decide +kernel⟩
def movedS (d : Deed) (st : List Int) : List Int := (List.range st.length).map fun i => st.getD i 0 - (if decide ((i : Int) ∈ d.1) then 1 else 0) + (if decide ((i : Int) ∈ d.2) then 1 else 0)
def spMoved (K : PySem.W.Frag) : Sp := pSp fun vs B S => ∃ (d : Deed) (st : List Int), All2 [Da K (DD d), Da K (TuI st)] vs B ∧ st.length ≤ 1000 ∧ S = Da K (TuI (movedS d st))
theorem ok_moved (F : FunC K mg "moved" "moved" s_moved) (T : Z mg) : Cal P w K mg base "moved" 1 ["deed", "state"] (spMoved K) := by
  refine F.cal sc_moved (fun _ _ _ _ _ _ us hl => match us, hl with | [_, _], _ => rfl) (fun vs H Q E h => by obtain ⟨_, _, _, ⟨_, _, h, _⟩, _⟩ := h; exact all2_len h) (fun f cdv A outer s H vs Q E hr h => ?_)
  obtain ⟨B, S, e, ⟨d, st, p, hl, rfl⟩, q⟩ := h
  obtain ⟨x, y, rfl, px, py⟩ := all2_2 p
  refine ⟨_, (pss_cons (ps_asg (pv 0) (kg_tup (K := K) rfl (pgs_cons (pg_name (i := 2) sc_moved.nd rfl (Or.inr rfl)) (pgs_cons (pg_name (i := 3) sc_moved.nd rfl (Or.inr rfl)) pgs_nil))))
      (pss_one (ps_ret (pe_callTy (ko_tuple (K := K)) (by rfl) T.z_tuple (by decide +kernel) (pa_cons (pe_lc (own := [("box", 4), ("coins", 5)]) (g := gTup K 2 (gCons (gName 4) (gCons (gName 5) (gNil)))) (tt := tYes) rfl sc_moved.nd (ki_enum (K := K) (by rfl) T.z_enumerate (pa_cons (pv 1) pa_nil)) (blkOk_by (own := [("box", 4), ("coins", 5)]) (N := N_moved) (sc := defScope s_moved) (by decide +kernel)) (fun _ _ _ _ _ => (kg_tup (K := K) rfl (pgs_cons (pg_name (i := 4) sc_moved.nd rfl (Or.inl rfl)) (pgs_cons (pg_name (i := 5) sc_moved.nd rfl (Or.inl rfl)) pgs_nil)))) (fun _ _ _ _ _ => pts_nil) (fun _ _ _ _ _ => (pe_op (ko_add (K := K)) (pe_op op_sub (pv 5) (pe_callTy ac_int (by rfl) T.z_int (by decide +kernel) (pa_cons (pe_cmpR (ko_in (K := K)) (pv 4) (pv 2) rfl) pa_nil))) (pe_callTy ac_int (by rfl) T.z_int (by decide +kernel) (pa_cons (pe_cmpR (ko_in (K := K)) (pv 4) (pv 3) rfl) pa_nil))))) pa_nil))))), ?_⟩
  refine q_asg2 (K := K) e (ev_D rfl px) fun v1 v2 B1 H1 g1 p1 p2 => ?_
  have py1 := dp_mono g1.bb _ _ py
  have hi := ei_enum (K := K) (σ := [some x, some y, some v1, some v2, none, none]) (B := B1) (ta := tCons (tVar 1) tNil) false (ea_cons (ev_D rfl py1) ea_nil)
  rw [enumD_map st .int 0] at hi
  refine s_ret g1.bh (ev_is (ev_cb (ea_cons (ev_lcI (List.range st.length) (fun i => .tuple [.int (i : Nat), .int (st.getD i 0)]) (fun i => st.getD i 0 - (if decide ((i : Int) ∈ d.1) then 1 else 0) + (if decide ((i : Int) ∈ d.2) then 1 else 0)) hi (by rw [List.length_range]; omega) fun a v B2 ha e2 dv => ?_) ea_nil) cv_tuple) rfl) fun v B2 H2 g2 p => q v B2 H2 (g1.trans g2) p
  refine lt_tup2 dv (fun _ _ => rfl) (fun _ _ _ _ => et_yes) fun x1 x2 d1 d2 _ => ?_
  obtain rfl := dp_int_inv d1
  obtain rfl := dp_int_inv d2
  have q1 := dp_mono e2 _ _ p1
  have q2 := dp_mono e2 _ _ p2
  exact ev_i (ev_op (ev_op (ev_var rfl) (ev_cb (ea_cons (ev_op (ev_var rfl) (ev_D rfl q1) ov_inTI) ea_nil) cv_intb) ov_I0) (ev_cb (ea_cons (ev_op (ev_var rfl) (ev_D rfl q2) ov_inTI) ea_nil) cv_intb) ov_addI)
abbrev s_can_do : Stmt := topS 61
abbrev N_can_do : List Str := ["deed", "state", "box"]
theorem sc_can_do : FnScope N_can_do ["deed", "state"] (defScope s_can_do) := ⟨rfl, rfl, rfl, by decide +kernel, rfl, by decide +kernel, by decide +kernel⟩
def spCan (K : PySem.W.Frag) : Sp := pSp fun vs B S => ∃ (d : Deed) (st : List Int), All2 [Da K (DD d), Da K (TuI st)] vs B ∧ Inr st.length d.1 ∧ d.1.length ≤ 1000 ∧ S = Xv (.bl (canDo d st))
theorem ok_can_do (F : FunC K mg "can_do" "can_do" s_can_do) (T : Z mg) : Cal P w K mg base "can_do" 1 ["deed", "state"] (spCan K) := by
  refine F.cal sc_can_do (fun _ _ _ _ _ _ us hl => match us, hl with | [_, _], _ => rfl) (fun vs H Q E h => by obtain ⟨_, _, _, ⟨_, _, h, _⟩, _⟩ := h; exact all2_len h) (fun f cdv A outer s H vs Q E hr h => ?_)
  obtain ⟨B, S, e, ⟨d, st, p, hb, hl, rfl⟩, q⟩ := h
  obtain ⟨x, y, rfl, px, py⟩ := all2_2 p
  refine ⟨_, (pss_one (ps_ret (pe_callB (ko_all rfl (K := K)) (by rfl) T.z_all (by decide +kernel) (pa_cons (pe_lc (own := [("box", 2)]) (g := gName 2) (tt := tYes) rfl sc_can_do.nd (ki_seq (K := K) (pe_ix (ko_ix (K := K)) (pv 0) pe_int (fun _ _ => rfl))) (blkOk_by (own := [("box", 2)]) (N := N_can_do) (sc := defScope s_can_do) (by decide +kernel)) (fun _ _ _ _ _ => (pg_name (i := 2) sc_can_do.nd rfl (Or.inl rfl))) (fun _ _ _ _ _ => pts_nil) (fun _ _ _ _ _ => (pe_cmpR op_gt (pe_ix (ko_ix (K := K)) (pv 1) (pv 2) (fun _ _ => rfl)) pe_int (nomark _)))) pa_nil)))), ?_⟩
  refine s_ret e (ev_bl (ev_cb (ea_cons (ev_lcB d.1 .int (fun b => decide (0 < st.getD b.toNat 0)) (ei_tup (ev_op (ev_D rfl px) ev_c (ov_ixt (j := 0) rfl (dd_get0 d)))) (by omega) fun a v B2 ha e2 dv => lt_name rfl et_yes fun _ => ?_) ea_nil) cv_all) (by rw [List.all_map] <;> rfl)) q
  exact ev_b (ev_op (ev_xi (ev_op (ev_D rfl (dp_mono e2 _ _ py)) (ev_var (by rw [dp_int_inv dv]; rfl)) (ov_ixt (Int.toNat_of_nonneg (hb a ha).1).symm (get_of (hb a ha))))) ev_c ov_I0)
end
end CN
set_option Elab.async false
set_option linter.all false
set_option maxRecDepth 100000
set_option maxHeartbeats 4000000
/-! D5: nets' looks. -/
namespace CN
open PySem PySem.Spec PyProof.Rows L2 CM
section
variable {P : Program} {w : World} {K : PySem.W.Frag} {mg : Str → Option Value} {base : Heap}
theorem dds_get {ds : List Deed} {i : Nat} {d : Deed} (h : ds[i]? = some d) : (ds.map DD)[i]? = some (DD d) := by rw [List.getElem?_map, h]; rfl
abbrev s_first_unlike : Stmt := topS 37
abbrev N_first_unlike : List Str := ["deeds", "second", "first", "one", "other"]
theorem sc_first_unlike : FnScope N_first_unlike ["deeds"] (defScope s_first_unlike) := ⟨rfl, rfl, rfl, by decide +kernel, rfl, by decide +kernel, by decide +kernel⟩
def spUnlike (K : PySem.W.Frag) : Sp := pSp fun vs B S => ∃ ds : List Deed, All2 [Da K (.tuple (ds.map DD))] vs B ∧ ds.length ≤ 1000 ∧ (∀ d, d ∈ ds → d.1.length ≤ 1000) ∧ Free ds ∧ S = Xv .non
theorem ok_first_unlike (F : FunC K mg "first_unlike" "first_unlike" s_first_unlike) (T : Z mg) (c_have_common : Cal P w K mg base "have_common" 1 ["one", "other"] (spHave K)) : Cal P w K mg base "first_unlike" 2 ["deeds"] (spUnlike K) := by
  refine F.cal sc_first_unlike (fun _ _ _ _ _ _ us hl => match us, hl with | [_], _ => rfl) (fun vs H Q E h => by obtain ⟨_, _, _, ⟨_, h, _⟩, _⟩ := h; exact all2_len h) (fun f cdv A outer s H vs Q E hr h => ?_)
  obtain ⟨B, S, e, ⟨ds, p, hl, hd1, hf, rfl⟩, q⟩ := h
  obtain ⟨x, rfl, px⟩ := all2_1 p
  have hu := hr.units
  refine ⟨_, (pss_cons (ps_for PassesOwn.never rfl (pi_range1 (by rfl) T.z_range (pa_cons (pe_callB (ko_len (K := K)) (by rfl) T.z_len (by decide +kernel) (pa_cons (pv 0) pa_nil)) pa_nil)) (pg_name (i := 1) sc_first_unlike.nd rfl (Or.inl rfl)) (pss_one (ps_for PassesOwn.never rfl (pi_range1 (by rfl) T.z_range (pa_cons (pv 1) pa_nil)) (pg_name (i := 2) sc_first_unlike.nd rfl (Or.inl rfl)) (pss_cons (ps_par (i := 3) (j := 4) rfl sc_first_unlike.nd rfl rfl (by decide) rfl rfl (pa_cons (pe_ix (ko_ix (K := K)) (pe_ix (ko_ix (K := K)) (pv 0) (pv 2) (fun _ _ => rfl)) pe_int (fun _ _ => rfl)) (pa_cons (pe_ix (ko_ix (K := K)) (pe_ix (ko_ix (K := K)) (pv 0) (pv 1) (fun _ _ => rfl)) pe_int (fun _ _ => rfl)) pa_nil)) rfl)
      (pss_one (ps_if (PW.pt (pw_and (pt_cmpR (ko_ne hu (K := K)) (pv 3) (pv 4) (nomark _)) (pw_and1 (pt_val (pe_cal c_have_common hr (by rfl) (pa_cons (pv 3) (pa_cons (pv 4) pa_nil))))))) (pss_one (ps_ret (pe_tup (pa_cons (pv 2) (pa_cons (pv 1) pa_nil))))) pss_nil))))))
      (pss_one (ps_ret pe_non))), ?_⟩
  refine q_forG (K := K) (.refl e) (ei_rng1 (n := (ds.length : Int)) (ea_cons (ev_cb (ea_cons (ev_D rfl px) ea_nil) (by have z := cv_lent (K := K) (B := B) (ds := ds.map DD); rw [List.length_map] at z; exact z)) ea_nil) (by omega)) (fun i σ' B' H' => ∃ a b c d, σ' = [some x, a, b, c, d]) (fun B1 H1 g1 => ⟨_, _, _, _, rfl⟩) ?_ ?_
  · rintro i v σ' B1 H1 B' H' dd N ⟨a, b, c, d, rfl⟩ hg g hdd dv fin
    obtain ⟨rfl, hi⟩ := rng_get hdd
    obtain rfl := dp_int_inv dv
    rw [Int.toNat_natCast] at hi
    refine s_forG (K := K) (hg.trans g) (ei_rng1 (n := (i : Int)) (ea_cons (ev_var (by rw [Int.zero_add]; rfl)) ea_nil) (by omega)) (fun j σ' B' H' => ∃ b c d, σ' = [some x, some (.int (i : Int)), b, c, d]) (fun B1 H1 g1 => ⟨_, _, _, by rw [Int.zero_add]; rfl⟩) ?_ ?_
    · rintro j v2 σ2 B2 H2 B3 H3 dd2 N2 ⟨b, c, d, rfl⟩ hg2 g2 hdd2 dv2 fin2
      obtain ⟨rfl, hj⟩ := rng_get hdd2
      obtain rfl := dp_int_inv dv2
      rw [Int.toNat_natCast] at hj
      obtain ⟨d1, e1⟩ : ∃ d1, ds[j]? = some d1 := ⟨ds[j]'(by omega), List.getElem?_eq_getElem (by omega)⟩
      obtain ⟨d2, e2⟩ : ∃ d2, ds[i]? = some d2 := ⟨ds[i]'hi, List.getElem?_eq_getElem hi⟩
      have pxx := dp_mono (hg2.trans g2).bb _ _ px
      refine q_par g2.bh (ea_cons (ev_op (ev_op (ev_D rfl pxx) (ev_var rfl) (ov_ixt (j := j) (Int.zero_add _) (dds_get e1))) ev_c (ov_ixt (j := 0) rfl (dd_get0 d1))) (ea_cons (ev_op (ev_op (ev_D rfl pxx) (ev_var rfl) (ov_ixt (j := i) rfl (dds_get e2))) ev_c (ov_ixt (j := 0) rfl (dd_get0 d2))) ea_nil)) fun v1 v2 B4 H4 g4 p1 p2 => ?_
      have hne : ((!decide (d1.1 = d2.1)) && touch d1.1 d2.1) = false := by
        rcases hf d1 (List.mem_of_getElem? e1) d2 (List.mem_of_getElem? e2) with z | z
        · rw [decide_eq_true z]; rfl
        · rw [z, Bool.and_false]
      refine s_not g4.bh (et_is (et_and (et_test (ev_op (ev_D rfl p1) (ev_D rfl p2) (ov_ned (sk_ti (k := 0) d1.1).sh (sk_ti (k := 0) d2.1).sh))) fun _ => et_test (ev_call (ea_cons (ev_D rfl p1) (ea_cons (ev_D rfl p2) ea_nil)) (spv fun vs B5 _ h => ⟨d1.1, d2.1, h, hd1 d1 (List.mem_of_getElem? e1), rfl⟩))) (by rw [eqv_ti]; exact hne)) fun B5 H5 g5 => ?_
      exact fin2 _ B5 H5 (((hg2.trans g2).trans g4).trans g5) (g4.bb.trans g5.bb) ⟨_, _, _, rfl⟩
    · rintro σ2 B2 H2 hg2 hb2 ⟨b, c, d, rfl⟩
      exact fin _ B2 H2 hg2 hb2 ⟨_, _, _, _, rfl⟩
  · rintro σ' B' H' hg _ ⟨a, b, c, d, rfl⟩
    exact s_ret hg.bh ev_c fun v B2 H2 g2 p => q v B2 H2 (hg.trans g2) p
abbrev s_met_from : Stmt := topS 38
abbrev N_met_from : List Str := ["deeds", "met", "before", "takes", "puts"]
theorem sc_met_from : FnScope N_met_from ["deeds"] (defScope s_met_from) := ⟨rfl, rfl, rfl, by decide +kernel, rfl, by decide +kernel, by decide +kernel⟩
def spMet (K : PySem.W.Frag) : Sp := pSp fun vs B S => ∃ (n : Nat) (ds : List Deed), All2 [Da K (.tuple (ds.map DD))] vs B ∧ 1 ≤ n ∧ n ≤ 20 ∧ ds.length ≤ 1000 ∧ (∀ d, d ∈ ds → IsSet n d.1 ∧ IsSet n d.2) ∧ Conn n ds ∧ S = Da K (TuI (box n))
theorem mpass_snoc {met : List Int} {ds : List Deed} {d : Deed} : mpass met (ds ++ [d]) = mstep (mpass met ds) d := by unfold mpass; rw [List.foldl_append]; rfl
theorem ok_met_from (F : FunC K mg "met_from" "met_from" s_met_from) (T : Z mg) (c_have_common : Cal P w K mg base "have_common" 1 ["one", "other"] (spHave K)) : Cal P w K mg base "met_from" 2 ["deeds"] (spMet K) := by
  refine F.cal sc_met_from (fun _ _ _ _ _ _ us hl => match us, hl with | [_], _ => rfl) (fun vs H Q E h => by obtain ⟨_, _, _, ⟨_, _, h, _⟩, _⟩ := h; exact all2_len h) (fun f cdv A outer s H vs Q E hr h => ?_)
  obtain ⟨B, S, e, ⟨n, ds, p, hn1, hn2, hl, hds, hc, rfl⟩, q⟩ := h
  obtain ⟨x, rfl, px⟩ := all2_1 p
  have hu := hr.units
  have hins : Ins n ds := fun d hd => ⟨(hds d hd).1.1, (hds d hd).2.1⟩
  refine ⟨_, (pss_cons (ps_set (i := 1) sc_met_from.nd rfl (Or.inl rfl) (pe_tup (pa_cons pe_int pa_nil)))
      (pss_cons (ps_set (i := 2) sc_met_from.nd rfl (Or.inl rfl) (pe_tup pa_nil))
      (pss_cons (ps_while PassesOwn.never (pt_cmpR (ko_ne hu (K := K)) (pv 1) (pv 2) (nomark _)) (pss_cons (ps_set (i := 2) sc_met_from.nd rfl (Or.inl rfl) (pv 1))
      (pss_one (ps_for PassesOwn.never rfl (ki_seq (K := K) (pv 0)) (kg_tup (K := K) rfl (pgs_cons (pg_name (i := 3) sc_met_from.nd rfl (Or.inl rfl)) (pgs_cons (pg_name (i := 4) sc_met_from.nd rfl (Or.inl rfl)) pgs_nil))) (pss_one (ps_if (pt_val (pe_cal c_have_common hr (by rfl) (pa_cons (pe_op (ko_add (K := K)) (pv 3) (pv 4)) (pa_cons (pv 1) pa_nil)))) (pss_one (ps_set (i := 1) sc_met_from.nd rfl (Or.inl rfl) (pe_callTy (ko_tuple (K := K)) (by rfl) T.z_tuple (by decide +kernel) (pa_cons (pe_callB (ko_sortedR hr (K := K) (w := w)) (by rfl) T.z_sorted (by decide +kernel) (pa_cons (pe_callTy (ko_set rfl (K := K) (w := w)) (by rfl) T.z_set (by decide +kernel) (pa_cons (pe_op (ko_add (K := K)) (pe_op (ko_add (K := K)) (pv 1) (pv 3)) (pv 4)) pa_nil)) pa_nil)) pa_nil)))) pss_nil))))))
      (pss_one (ps_ret (pv 1)))))), ?_⟩
  refine q_asg (P := Da K (TuI [0])) e (ev_is (ev_tup [.int 0] (ea_cons ev_ci ea_nil) (by simp)) rfl) fun vm B1 H1 g1 p1 => ?_
  refine q_asg (P := Da K (TuI [])) g1.bh (ev_is (ev_tup [] ea_nil (by simp)) rfl) fun vb B2 H2 g2 p2 => ?_
  refine q_while (fun m σ' B' H' => ∃ vm vb t1 t2 met bef, σ' = [some x, some vm, some vb, t1, t2] ∧ Dp K B' vm (TuI met) ∧ Dp K B' vb (TuI bef) ∧ Gr B H B' H' ∧ met.Pairwise (· < ·) ∧ (∀ x, x ∈ met → 0 ≤ x ∧ x < (n : Int)) ∧ (0 : Int) ∈ met ∧ ((bef = [] ∧ met = [0]) ∨ met = mpass bef ds) ∧ m = 2 * (n - met.length) + (if met = bef then 0 else 1)) _
    ⟨vm, vb, none, none, [0], [], rfl, dp_mono g2.bb _ _ p1, p2, g1.trans g2, by simp, fun x hx => by (have : x = 0 := by simpa using hx); omega, by simp, .inl ⟨rfl, rfl⟩, rfl⟩ ?_
  rintro m σ' B' H' ⟨vm, vb, t1, t2, met, bef, rfl, hm, hb, hg, hpw, hin, h0, hor, rfl⟩
  have hml := len_le_box hpw hin
  refine ⟨!decide (met = bef), hg.bh, et_is (et_test (ev_op (ev_D rfl hm) (ev_D rfl hb) (ov_ned (sk_ti (k := 0) met).sh (sk_ti (k := 0) bef).sh))) (by rw [eqv_ti]), fun ht B3 H3 g3 => ?_, fun hfl B3 H3 g3 => ?_⟩
  · have hne : ¬ met = bef := by simpa using ht
    have hm3 := dp_mono g3.bb _ _ hm
    refine q_asg (P := Da K (TuI met)) g3.bh (ev_D rfl hm3) fun vb2 B4 H4 g4 p4 => ?_
    have hm4 := dp_mono g4.bb _ _ hm3
    have hgg := (hg.trans g3).trans g4
    refine s_forG (K := K) hgg (ei_tup (ev_D rfl (dp_mono hgg.bb _ _ px))) (fun i σ' B' H' => ∃ vm' t1 t2, σ' = [some x, some vm', some vb2, t1, t2] ∧ Dp K B' vm' (TuI (mpass met (ds.take i))) ∧ Dp K B' vb2 (TuI met)) (fun B1 H1 g1 => ⟨vm, t1, t2, rfl, dp_mono g1.bb _ _ hm4, dp_mono g1.bb _ _ p4⟩) ?_ ?_
    · rintro i v σ2 B5 H5 B6 H6 dd N ⟨vm', t1, t2, rfl, h1, h2⟩ hg5 g6 hdd dv fin
      obtain ⟨d, hd, rfl⟩ := map_get hdd
      have hdm := List.mem_of_getElem? hd
      have tk : ds.take (i + 1) = ds.take i ++ [d] := by rw [List.take_add_one, hd]; rfl
      have hpw2 := mpass_pw (ds := ds.take i) hpw
      have hin2 : ∀ x, x ∈ mpass met (ds.take i) → 0 ≤ x ∧ x < (n : Int) := mpass_ins (fun c hc => hins c (List.mem_of_mem_take hc)) hin
      have hl2 := len_le_box hpw2 hin2
      have l1 := isSet_len (hds d hdm).1
      have l2 := isSet_len (hds d hdm).2
      have h1' := dp_mono g6.bb _ _ h1
      have h2' := dp_mono g6.bb _ _ h2
      refine g_tup2 g6.bh dv fun x1 x2 q1 q2 => ?_
      have hcat : ∀ {σ : L2.St} {Bz : Hp}, σ[3]? = some (some x1) → σ[4]? = some (some x2) → Same B6 Bz → EV (tOp (rAdd4 K) (tVar 3) (tVar 4)) σ Bz (Da K (TuI (d.1 ++ d.2))) := fun a b c => ev_is (ev_op (ev_D a (dp_mono c _ _ q1)) (ev_D b (dp_mono c _ _ q2)) (ov_addT (by rw [List.length_map, List.length_map]; omega))) (by rw [← List.map_append])
      refine s_ifn g6.bh (et_test (ev_call (ea_cons (hcat rfl rfl (Same.refl _)) (ea_cons (ev_D rfl h1') ea_nil)) (spv fun vs B7 _ h => ⟨d.1 ++ d.2, _, h, by rw [List.length_append]; omega, rfl⟩))) (fun htc B7 H7 g7 => ?_) fun htc B7 H7 g7 => ?_
      · refine s_asg g7.bh (P := Da K (TuI (mpass met (ds.take (i + 1))))) (ev_is (ev_cb (ea_cons (ev_cb (ea_cons (ev_cb (ea_cons (ev_is (ev_op (ev_op (ev_D rfl (dp_mono g7.bb _ _ h1')) (ev_D rfl (dp_mono g7.bb _ _ q1)) (ov_addT (by rw [List.length_map, List.length_map]; omega))) (ev_D rfl (dp_mono g7.bb _ _ q2)) (ov_addT (by simp only [List.length_append, List.length_map]; omega)))
          (by rw [← List.map_append, ← List.map_append]; rfl)) ea_nil) (cv_set (w := w) false (ns := mpass met (ds.take i) ++ d.1 ++ d.2) (by simp only [List.length_append]; omega))) ea_nil) (cv_sset (by simp only [List.length_append]; omega))) ea_nil) cv_tuple) ?_) fun v8 B8 H8 g8 p8 => fin _ B8 H8 (((hg5.trans g6).trans g7).trans g8) (g7.bb.trans g8.bb) ⟨v8, _, _, rfl, p8, dp_mono (g7.bb.trans g8.bb) _ _ h2'⟩
        rw [tk, mpass_snoc]
        unfold mstep
        rw [if_pos htc]
      · refine fin _ B7 H7 ((hg5.trans g6).trans g7) g7.bb ⟨vm', _, _, rfl, ?_, dp_mono g7.bb _ _ h2'⟩
        rw [tk, mpass_snoc]
        unfold mstep
        rw [if_neg (by rw [htc]; exact Bool.false_ne_true)]
        exact dp_mono g7.bb _ _ h1'
    · rintro σ2 B5 H5 hg5 _ ⟨vm', t1, t2, rfl, h1, h2⟩
      rw [List.length_map, List.take_length] at h1
      have hpw2 := mpass_pw (ds := ds) hpw
      have hin2 : ∀ x, x ∈ mpass met ds → 0 ≤ x ∧ x < (n : Int) := mpass_ins hins hin
      have hl2 := len_le_box hpw2 hin2
      refine ⟨_, B5, ?_, vm', vb2, t1, t2, mpass met ds, met, rfl, h1, h2, hg5, hpw2, hin2, mpass_sup h0, .inr rfl, rfl⟩
      rw [if_neg hne]
      by_cases z : mpass met ds = met
      · rw [if_pos z, z]
        omega
      · rw [if_neg z]
        have := asc_lt hpw hpw2 (fun x hx => mpass_sup hx) z
        omega
  · have he : met = bef := by simpa using hfl
    subst he
    have hfix : mpass met ds = met := by
      rcases hor with ⟨z1, z2⟩ | z
      · rw [z1] at z2
        cases z2
      · exact z.symm
    rw [met_all hc hpw hin h0 hfix] at hm
    exact s_ret g3.bh (ev_D rfl (dp_mono g3.bb _ _ hm)) fun v B4 H4 g4 p4 => q v B4 H4 ((hg.trans g3).trans g4) p4
end
end CN
set_option Elab.async false
set_option linter.all false
set_option maxRecDepth 100000
set_option maxHeartbeats 4000000
/-! D6: the class. -/
namespace CN
open PySem PySem.Spec PyProof.Rows L2 CM
structure FunM (K : PySem.W.Frag) (C : Addr) (m qual : Str) (st : Stmt) : Prop where
  ex : ∃ f fd, Fun K m qual st f fd ∧ Meth K C m f ∧ PySem.W.fnIn K f = true
structure FunP (K : PySem.W.Frag) (C : Addr) (m qual : Str) (st : Stmt) : Prop where
  ex : ∃ p f fd, Fun K m qual st f fd ∧ PropOf K C m p f
section
variable {P : Program} {w : World} {K : PySem.W.Frag} {mg : Str → Option Value} {base : Heap} {C : Addr}
/-! ### the looks at a net -/
abbrev s_Net_deeds : Stmt := inClass (topS 40) 5
abbrev N_Net_deeds : List Str := ["self"]
theorem sc_Net_deeds : FnScope N_Net_deeds ["self"] (defScope s_Net_deeds) := ⟨rfl, rfl, rfl, by decide +kernel, rfl, by decide +kernel, by decide +kernel⟩
def spDeeds (K : PySem.W.Frag) (C : Addr) : Sp := pSp fun vs B S => ∃ (ws : List Int) (ds : List Deed), All2 [NetP K C ws ds] vs B ∧ S = Da K (.tuple (ds.map DD))
theorem ok_deeds (F : FunP K C "deeds" "Net.deeds" s_Net_deeds) (N : NetF K mg C) : CalP P w K mg base C "deeds" 1 (spDeeds K C) := by
  obtain ⟨p, g, fd, Fn, hp⟩ := F.ex
  refine ⟨p, g, fd, Fn.ok sc_Net_deeds (fun vs H Q E h => by obtain ⟨_, _, _, ⟨_, _, h, _⟩, _⟩ := h; exact all2_len h) (fun cdv A outer s H vs Q E hr h => ?_), hp, Fn.binds (fun _ _ _ _ _ _ us hl => match us, hl with | [_], _ => rfl)⟩
  obtain ⟨B, S, e, ⟨ws, ds, p, rfl⟩, q⟩ := h
  obtain ⟨x, rfl, px⟩ := all2_1 p
  refine ⟨_, (pss_one (ps_ret (pe_fld (pv 0) rfl))), ?_⟩
  exact s_ret e (ev_row N (ev_d rfl px)) q
abbrev s_Net_boxes : Stmt := inClass (topS 40) 6
abbrev N_Net_boxes : List Str := ["self"]
theorem sc_Net_boxes : FnScope N_Net_boxes ["self"] (defScope s_Net_boxes) := ⟨rfl, rfl, rfl, by decide +kernel, rfl, by decide +kernel, by decide +kernel⟩
def spBoxes (K : PySem.W.Frag) (C : Addr) : Sp := pSp fun vs B S => ∃ (ws : List Int) (ds : List Deed), All2 [NetP K C ws ds] vs B ∧ S = Xv (.int (ws.length : Int))
theorem ok_boxes (F : FunP K C "boxes" "Net.boxes" s_Net_boxes) (N : NetF K mg C) (T : Z mg) : CalP P w K mg base C "boxes" 1 (spBoxes K C) := by
  obtain ⟨p, g, fd, Fn, hp⟩ := F.ex
  refine ⟨p, g, fd, Fn.ok sc_Net_boxes (fun vs H Q E h => by obtain ⟨_, _, _, ⟨_, _, h, _⟩, _⟩ := h; exact all2_len h) (fun cdv A outer s H vs Q E hr h => ?_), hp, Fn.binds (fun _ _ _ _ _ _ us hl => match us, hl with | [_], _ => rfl)⟩
  obtain ⟨B, S, e, ⟨ws, ds, p, rfl⟩, q⟩ := h
  obtain ⟨x, rfl, px⟩ := all2_1 p
  refine ⟨_, (pss_one (ps_ret (pe_callB (ko_len (K := K)) (by rfl) T.z_len (by decide +kernel) (pa_cons (pe_fld (pv 0) rfl) pa_nil)))), ?_⟩
  have z := cv_lent (K := K) (B := B) (ds := ws.map .int)
  rw [List.length_map] at z
  exact s_ret e (ev_cb (ea_cons (ev_coins N (ev_d rfl px)) ea_nil) z) q
abbrev s_Net_ddlendd : Stmt := inClass (topS 40) 8
abbrev N_Net_ddlendd : List Str := ["self"]
theorem sc_Net_ddlendd : FnScope N_Net_ddlendd ["self"] (defScope s_Net_ddlendd) := ⟨rfl, rfl, rfl, by decide +kernel, rfl, by decide +kernel, by decide +kernel⟩
def spLenN (K : PySem.W.Frag) (C : Addr) : Sp := pSp fun vs B S => ∃ (ws : List Int) (ds : List Deed), All2 [NetP K C ws ds] vs B ∧ S = Xv (.int (ds.length : Int))
theorem ok_lenN (F : FunM K C "__len__" "Net.__len__" s_Net_ddlendd) (N : NetF K mg C) (T : Z mg) : CalM P w K mg base C "__len__" 1 (spLenN K C) := by
  obtain ⟨f, fd, Fn, hm, hf⟩ := F.ex
  refine ⟨f, fnR_of (Fn.ok (ps := ["self"]) sc_Net_ddlendd (fun vs H Q E h => by obtain ⟨_, _, _, ⟨_, _, h, _⟩, _⟩ := h; exact all2_len h) (fun cdv A outer s H vs Q E hr h => ?_)) (Fn.binds (fun _ _ _ _ _ _ us hl => match us, hl with | [_], _ => rfl)), hm, hf⟩
  obtain ⟨B, S, e, ⟨ws, ds, p, rfl⟩, q⟩ := h
  obtain ⟨x, rfl, px⟩ := all2_1 p
  refine ⟨_, (pss_one (ps_ret (pe_callB (ko_len (K := K)) (by rfl) T.z_len (by decide +kernel) (pa_cons (pe_fld (pv 0) rfl) pa_nil)))), ?_⟩
  have z := cv_lent (K := K) (B := B) (ds := ds.map DD)
  rw [List.length_map] at z
  exact s_ret e (ev_cb (ea_cons (ev_row N (ev_d rfl px)) ea_nil) z) q
abbrev s_Net_ddgetitemdd : Stmt := inClass (topS 40) 10
abbrev N_Net_ddgetitemdd : List Str := ["self", "number"]
theorem sc_Net_ddgetitemdd : FnScope N_Net_ddgetitemdd ["self", "number"] (defScope s_Net_ddgetitemdd) := ⟨rfl, rfl, rfl, by decide +kernel, rfl, by decide +kernel, by decide +kernel⟩
def spItem (K : PySem.W.Frag) (C : Addr) : Sp := pSp fun vs B S => ∃ (ws : List Int) (ds : List Deed) (i : Nat) (d : Deed), All2 [NetP K C ws ds, Xv (.int (i : Int))] vs B ∧ ds[i]? = some d ∧ S = Da K (DD d)
theorem ok_item (F : FunM K C "__getitem__" "Net.__getitem__" s_Net_ddgetitemdd) (N : NetF K mg C) (T : Z mg) (c_is_between : Cal P w K mg base "is_between" 2 ["thing", "low", "high"] (spBetween K)) : CalM P w K mg base C "__getitem__" 3 (spItem K C) := by
  obtain ⟨f, fd, Fn, hm, hf⟩ := F.ex
  refine ⟨f, fnR_of (Fn.ok (ps := ["self", "number"]) sc_Net_ddgetitemdd (fun vs H Q E h => by obtain ⟨_, _, _, ⟨_, _, _, _, h, _⟩, _⟩ := h; exact all2_len h) (fun cdv A outer s H vs Q E hr h => ?_)) (Fn.binds (fun _ _ _ _ _ _ us hl => match us, hl with | [_, _], _ => rfl)), hm, hf⟩
  obtain ⟨B, S, e, ⟨ws, ds, i, d, p, hd, rfl⟩, q⟩ := h
  obtain ⟨x, y, rfl, px, py⟩ := all2_2 p
  obtain rfl : y = V.int (i : Int) := py
  have hi := (List.getElem?_eq_some_iff.mp hd).1
  refine ⟨_, (pss_cons (ps_if (pt_not (pt_val (pe_cal c_is_between hr (by rfl) (pa_cons (pv 1) (pa_cons pe_int (pa_cons (pe_op op_sub (pe_callB (ko_len (K := K)) (by rfl) T.z_len (by decide +kernel) (pa_cons (pe_fld (pv 0) rfl) pa_nil)) pe_int) pa_nil)))))) (pss_one ps_never) pss_nil)
      (pss_one (ps_ret (pe_ix (ko_ix (K := K)) (pe_fld (pv 0) rfl) (pv 1) (fun _ _ => rfl))))), ?_⟩
  have z := cv_lent (K := K) (B := B) (ds := ds.map DD)
  rw [List.length_map] at z
  refine q_not e (et_is (et_not (et_test (ev_call (ea_cons (ev_var rfl) (ea_cons ev_c (ea_cons (ev_op (ev_cb (ea_cons (ev_row N (ev_d rfl px)) ea_nil) z) ev_c ov_I0) ea_nil))) (spv fun vs B3 _ h => ⟨(i : Int), 0, (ds.length : Int) - 1, h, rfl⟩)))) ?_) fun B1 H1 g1 => ?_
  · rw [decide_eq_true (by omega), decide_eq_true (by omega)]
    rfl
  · exact s_ret g1.bh (ev_op (ev_row N (ev_d rfl (Mo.mo _ _ _ g1.bb px))) (ev_var rfl) (ov_ixt (j := i) rfl (dds_get hd))) fun v B2 H2 g2 p => q v B2 H2 (g1.trans g2) p
abbrev s_need_net : Stmt := topS 42
abbrev N_need_net : List Str := ["thing"]
theorem sc_need_net : FnScope N_need_net ["thing"] (defScope s_need_net) := ⟨rfl, rfl, rfl, by decide +kernel, rfl, by decide +kernel, by decide +kernel⟩
def spNeedN (K : PySem.W.Frag) (C : Addr) : Sp := pSp fun vs B S => ∃ (ws : List Int) (ds : List Deed), All2 [NetP K C ws ds] vs B ∧ S = Xv .non
theorem ok_need_net (F : FunC K mg "need_net" "need_net" s_need_net) (N : NetF K mg C) (T : Z mg) : Cal P w K mg base "need_net" 1 ["thing"] (spNeedN K C) := by
  refine F.cal sc_need_net (fun _ _ _ _ _ _ us hl => match us, hl with | [_], _ => rfl) (fun vs H Q E h => by obtain ⟨_, _, _, ⟨_, _, h, _⟩, _⟩ := h; exact all2_len h) (fun f cdv A outer s H vs Q E hr h => ?_)
  obtain ⟨B, S, e, ⟨ws, ds, p, rfl⟩, q⟩ := h
  obtain ⟨x, rfl, px⟩ := all2_1 p
  refine ⟨_, (pss_one (ps_if (pt_not (pt_val (pe_callB (ko_isi (K := K)) (by rfl) T.z_isinstance (by decide +kernel) (pa_cons (pv 0) (pa_cons (pe_glob (v := V.ref C) (by rfl) N.glo rfl) pa_nil))))) (pss_one ps_never) pss_nil)), ?_⟩
  exact s_not e (et_not (x := true) (et_test (ev_cb (ea_cons (ev_d rfl px) (ea_cons ev_c ea_nil)) (cv_isN N)))) fun B1 H1 g1 => q _ B1 H1 g1 rfl
abbrev s_need_number : Stmt := topS 43
abbrev N_need_number : List Str := ["net", "thing"]
theorem sc_need_number : FnScope N_need_number ["net", "thing"] (defScope s_need_number) := ⟨rfl, rfl, rfl, by decide +kernel, rfl, by decide +kernel, by decide +kernel⟩
def spNeedI (K : PySem.W.Frag) (C : Addr) : Sp := pSp fun vs B S => ∃ (ws : List Int) (ds : List Deed) (i : Nat), All2 [NetP K C ws ds, Xv (.int (i : Int))] vs B ∧ i < ds.length ∧ ds.length < 1000 ∧ S = Xv .non
theorem ok_need_number (F : FunC K mg "need_number" "need_number" s_need_number) (T : Z mg) (c_is_between : Cal P w K mg base "is_between" 2 ["thing", "low", "high"] (spBetween K)) (c_Net_ddlendd : CalM P w K mg base C "__len__" 1 (spLenN K C)) : Cal P w K mg base "need_number" 3 ["net", "thing"] (spNeedI K C) := by
  refine F.cal sc_need_number (fun _ _ _ _ _ _ us hl => match us, hl with | [_, _], _ => rfl) (fun vs H Q E h => by obtain ⟨_, _, _, ⟨_, _, _, h, _⟩, _⟩ := h; exact all2_len h) (fun f cdv A outer s H vs Q E hr h => ?_)
  obtain ⟨B, S, e, ⟨ws, ds, i, p, hi, hl, rfl⟩, q⟩ := h
  obtain ⟨x, y, rfl, px, py⟩ := all2_2 p
  obtain rfl : y = V.int (i : Int) := py
  refine ⟨_, (pss_one (ps_if (pt_not (pt_val (pe_cal c_is_between hr (by rfl) (pa_cons (pv 1) (pa_cons pe_int (pa_cons (pe_op op_sub (pe_callB (ko_lenO c_Net_ddlendd hr) (by rfl) T.z_len (by decide +kernel) (pa_cons (pv 0) pa_nil)) pe_int) pa_nil)))))) (pss_one ps_never) pss_nil)), ?_⟩
  refine s_not e (et_is (et_not (et_test (ev_call (ea_cons (ev_var rfl) (ea_cons ev_c (ea_cons (ev_op (ev_cb (ea_cons (ev_d rfl px) ea_nil) (cv_lenO (n := ds.length) (spv fun vs B3 _ h => ⟨ws, ds, h, rfl⟩) (by omega))) ev_c ov_I0) ea_nil))) (spv fun vs B3 _ h => ⟨(i : Int), 0, (ds.length : Int) - 1, h, rfl⟩)))) ?_) fun B1 H1 g1 => q _ B1 H1 g1 rfl
  rw [decide_eq_true (by omega), decide_eq_true (by omega)]
  rfl
abbrev s_need_state : Stmt := topS 44
abbrev N_need_state : List Str := ["net", "thing"]
theorem sc_need_state : FnScope N_need_state ["net", "thing"] (defScope s_need_state) := ⟨rfl, rfl, rfl, by decide +kernel, rfl, by decide +kernel, by decide +kernel⟩
def spNeedS (K : PySem.W.Frag) (C : Addr) : Sp := pSp fun vs B S => ∃ (ws : List Int) (ds : List Deed) (st : List Int), All2 [NetP K C ws ds, Da K (TuI st)] vs B ∧ st.length = ws.length ∧ st.length ≤ 1000 ∧ (∀ x, x ∈ st → 0 ≤ x) ∧ S = Xv .non
theorem ok_need_state (F : FunC K mg "need_state" "need_state" s_need_state) (N : NetF K mg C) (T : Z mg) (c_need_net : Cal P w K mg base "need_net" 1 ["thing"] (spNeedN K C)) (c_are_counts : Cal P w K mg base "are_counts" 2 ["thing", "many"] (spCounts K)) (c_Net_boxes : CalP P w K mg base C "boxes" 1 (spBoxes K C)) : Cal P w K mg base "need_state" 3 ["net", "thing"] (spNeedS K C) := by
  refine F.cal sc_need_state (fun _ _ _ _ _ _ us hl => match us, hl with | [_, _], _ => rfl) (fun vs H Q E h => by obtain ⟨_, _, _, ⟨_, _, _, h, _⟩, _⟩ := h; exact all2_len h) (fun f cdv A outer s H vs Q E hr h => ?_)
  obtain ⟨B, S, e, ⟨ws, ds, st, p, hl, hl2, hz, rfl⟩, q⟩ := h
  obtain ⟨x, y, rfl, px, py⟩ := all2_2 p
  refine ⟨_, (pss_cons (ps_expr (pe_cal c_need_net hr (by rfl) (pa_cons (pv 0) pa_nil)))
      (pss_one (ps_if (pt_not (pt_val (pe_cal c_are_counts hr (by rfl) (pa_cons (pv 1) (pa_cons (pe_prp N.cls c_Net_boxes hr (pv 0)) pa_nil))))) (pss_one ps_never) pss_nil))), ?_⟩
  refine q_drop e (ev_call (ea_cons (ev_d rfl px) ea_nil) (spv fun vs B3 _ h => ⟨ws, ds, h, rfl⟩)) fun B1 H1 g1 => ?_
  refine s_not g1.bh (et_is (et_not (et_test (ev_call (ea_cons (ev_D rfl (dp_mono g1.bb _ _ py)) (ea_cons (ev_prp (ev_d rfl (Mo.mo _ _ _ g1.bb px)) (spv fun vs B3 _ h => ⟨ws, ds, h, rfl⟩)) ea_nil)) (spv fun vs B3 _ h => ⟨st, (ws.length : Int), h, by omega, rfl⟩)))) ?_) fun B2 H2 g2 => q _ B2 H2 (g1.trans g2) rfl
  rw [hl, decide_eq_true rfl, List.all_eq_true.mpr fun z hz' => decide_eq_true (hz z hz')]
  rfl
end
end CN
set_option Elab.async false
set_option linter.all false
set_option maxRecDepth 100000
set_option maxHeartbeats 4000000
/-! D7: drains, traps. -/
namespace CN
open PySem PySem.Spec PyProof.Rows L2 CM
section
variable {P : Program} {w : World} {K : PySem.W.Frag} {mg : Str → Option Value} {base : Heap} {C : Addr}
/-- small deeds -/
def Sml (ds : List Deed) : Prop := ds.length ≤ 1000 ∧ ∀ d, d ∈ ds → d.1.length ≤ 1000 ∧ d.2.length ≤ 1000
abbrev s_check_deeds : Stmt := topS 39
abbrev N_check_deeds : List Str := ["worths", "deeds", "deed", "found", "met"]
theorem sc_check_deeds : FnScope N_check_deeds ["worths", "deeds"] (defScope s_check_deeds) := ⟨rfl, rfl, rfl, by decide +kernel, rfl, by decide +kernel, by decide +kernel⟩
def spCheck (K : PySem.W.Frag) : Sp := pSp fun vs B S => ∃ (ws : List Int) (ds : List Deed), All2 [Da K (TuI ws), Da K (.tuple (ds.map DD))] vs B ∧ NetOk ws ds ∧ S = Xv .non
theorem cv_lenw {B : Hp} {ws : List Int} : CV (rLenA K) B [Da K (TuI ws)] (Xv (.int (ws.length : Int))) := by
  have z := cv_lent (K := K) (B := B) (ds := ws.map .int)
  rwa [List.length_map] at z
theorem cv_lend {B : Hp} {ds : List Deed} : CV (rLenA K) B [Da K (.tuple (ds.map DD))] (Xv (.int (ds.length : Int))) := by
  have z := cv_lent (K := K) (B := B) (ds := ds.map DD)
  rwa [List.length_map] at z
theorem all_true {α : Type} (xs : List α) : (xs.map fun _ => true).all id = true := by rw [List.all_map]; exact List.all_eq_true.mpr fun _ _ => rfl
theorem ok_check_deeds (F : FunC K mg "check_deeds" "check_deeds" s_check_deeds) (T : Z mg) (c_is_deed : Cal P w K mg base "is_deed" 4 ["worths", "thing"] (spDeed K)) (c_first_unlike : Cal P w K mg base "first_unlike" 2 ["deeds"] (spUnlike K)) (c_met_from : Cal P w K mg base "met_from" 2 ["deeds"] (spMet K)) :
    Cal P w K mg base "check_deeds" 5 ["worths", "deeds"] (spCheck K) := by
  refine F.cal sc_check_deeds (fun _ _ _ _ _ _ us hl => match us, hl with | [_, _], _ => rfl) (fun vs H Q E h => by obtain ⟨_, _, _, ⟨_, _, h, _⟩, _⟩ := h; exact all2_len h) (fun f cdv A outer s H vs Q E hr h => ?_)
  obtain ⟨B, S, e, ⟨ws, ds, p, ok, rfl⟩, q⟩ := h
  obtain ⟨x, y, rfl, px, py⟩ := all2_2 p
  have hu := hr.units
  have hw5 := ok.w5
  have hl6 := ok.l
  refine ⟨_, (pss_cons (ps_if (PW.pt (pw_or (pt_cmpR (ko_eq hu (K := K)) (pv 1) (pe_tup pa_nil) (nomark _)) (pw_or1 (pt_not (pt_val (pe_callB (ko_all rfl (K := K)) (by rfl) T.z_all (by decide +kernel) (pa_cons (pe_lc (own := [("deed", 2)]) (g := gName 2) (tt := tYes) rfl sc_check_deeds.nd (ki_seq (K := K) (pv 1)) (blkOk_by (own := [("deed", 2)]) (N := N_check_deeds) (sc := defScope s_check_deeds) (by decide +kernel)) (fun _ _ _ _ _ => (pg_name (i := 2) sc_check_deeds.nd rfl (Or.inl rfl))) (fun _ _ _ _ _ => pts_nil) (fun _ _ _ _ _ => (pe_cal c_is_deed hr (by rfl) (pa_cons (pv 0) (pa_cons (pv 2) pa_nil))))) pa_nil))))))) (pss_one ps_never) pss_nil)
      (pss_cons (ps_if (pt_cmpR op_gt (pe_callB (ko_len (K := K)) (by rfl) T.z_len (by decide +kernel) (pa_cons (pv 1) pa_nil)) (pe_gi (by rfl) T.c_MOST_DEEDS) (nomark _)) (pss_one ps_never) pss_nil)
      (pss_cons (ps_set (i := 3) sc_check_deeds.nd rfl (Or.inl rfl) (pe_cal c_first_unlike hr (by rfl) (pa_cons (pv 1) pa_nil)))
      (pss_cons (ps_if (pt_cmpR op_notN (pv 3) pe_non (nomark _)) (pss_one ps_never) pss_nil)
      (pss_cons (ps_set (i := 4) sc_check_deeds.nd rfl (Or.inl rfl) (pe_cal c_met_from hr (by rfl) (pa_cons (pv 1) pa_nil)))
      (pss_one (ps_if (pt_cmpR op_lt (pe_callB (ko_len (K := K)) (by rfl) T.z_len (by decide +kernel) (pa_cons (pv 4) pa_nil)) (pe_callB (ko_len (K := K)) (by rfl) T.z_len (by decide +kernel) (pa_cons (pv 0) pa_nil)) (nomark _)) (pss_one ps_never) pss_nil))))))), ?_⟩
  refine q_not e (et_or (x := false) (y := false) (et_is (et_test (ev_op (ev_D rfl py) (ev_tup [] ea_nil (by simp)) (ov_eqd (sk_tdd (k := 0) ds).sh (sk_nilT (k := 0)).sh))) (by rw [eqv_t0]; exact decide_eq_false fun z => ok.n (List.map_eq_nil_iff.mp z))) fun _ => et_not (x := true) (et_test (ev_bl (ev_cb (ea_cons (ev_lcB ds DD (fun _ => true) (ei_tup (ev_D rfl py)) (by omega) fun a v B2 ha e2 dv => lt_name rfl et_yes fun _ =>
    ev_b (ev_call (ea_cons (ev_D rfl (dp_mono e2 _ _ px)) (ea_cons (ev_D rfl dv) ea_nil)) (spv fun vs B3 _ h => ⟨ws, a, h, by omega, ok.d a ha, rfl⟩))) ea_nil) cv_all) (all_true ds)))) fun B1 H1 g1 => ?_
  have px1 := dp_mono g1.bb _ _ px
  have py1 := dp_mono g1.bb _ _ py
  refine q_not g1.bh (et_is (et_test (ev_op (ev_cb (ea_cons (ev_D rfl py1) ea_nil) cv_lend) ev_c ov_I0)) (by simp; omega)) fun B2 H2 g2 => ?_
  have px2 := dp_mono g2.bb _ _ px1
  have py2 := dp_mono g2.bb _ _ py1
  have hdl : ∀ d, d ∈ ds → d.1.length ≤ 1000 := fun d hd => by
    have := isSet_len (ok.d d hd).s1
    omega
  refine q_asg g2.bh (ev_call (ea_cons (ev_D rfl py2) ea_nil) (spv fun vs B3 _ h => ⟨ds, h, by omega, hdl, ok.f, rfl⟩)) fun v3 B3 H3 g3 p3 => ?_
  obtain rfl : v3 = V.non := p3
  refine q_not g3.bh (et_test (ev_bl (ev_op (ev_var rfl) ev_c ov_notN) rfl)) fun B4 H4 g4 => ?_
  have px4 := dp_mono (g3.bb.trans g4.bb) _ _ px2
  have py4 := dp_mono (g3.bb.trans g4.bb) _ _ py2
  refine q_asg g4.bh (ev_call (ea_cons (ev_D rfl py4) ea_nil) (spv fun vs B3 _ h => ⟨ws.length, ds, h, by omega, by omega, by omega, fun d hd => ⟨(ok.d d hd).s1, (ok.d d hd).s2⟩, ok.c, rfl⟩)) fun v5 B5 H5 g5 p5 => ?_
  refine s_not g5.bh (et_is (et_test (ev_op (ev_cb (ea_cons (ev_D rfl p5) ea_nil) cv_lenw) (ev_cb (ea_cons (ev_D rfl (dp_mono g5.bb _ _ px4)) ea_nil) cv_lenw) ov_I0)) (by rw [box_len]; simp)) fun B6 H6 g6 => q _ B6 H6 (((((g1.trans g2).trans g3).trans g4).trans g5).trans g6) rfl
abbrev s_is_a_drain : Stmt := topS 46
abbrev N_is_a_drain : List Str := ["net", "boxes", "takes", "puts"]
theorem sc_is_a_drain : FnScope N_is_a_drain ["net", "boxes"] (defScope s_is_a_drain) := ⟨rfl, rfl, rfl, by decide +kernel, rfl, by decide +kernel, by decide +kernel⟩
def spADr (K : PySem.W.Frag) (C : Addr) : Sp := pSp fun vs B S => ∃ (ws : List Int) (ds : List Deed) (xs : List Int), All2 [NetP K C ws ds, Da K (TuI xs)] vs B ∧ Sml ds ∧ S = Xv (.bl (isDr ds xs))
theorem ok_is_a_drain (F : FunC K mg "is_a_drain" "is_a_drain" s_is_a_drain) (N : NetF K mg C) (T : Z mg) (c_have_common : Cal P w K mg base "have_common" 1 ["one", "other"] (spHave K)) (c_Net_deeds : CalP P w K mg base C "deeds" 1 (spDeeds K C)) : Cal P w K mg base "is_a_drain" 3 ["net", "boxes"] (spADr K C) := by
  refine F.cal sc_is_a_drain (fun _ _ _ _ _ _ us hl => match us, hl with | [_, _], _ => rfl) (fun vs H Q E h => by obtain ⟨_, _, _, ⟨_, _, _, h, _⟩, _⟩ := h; exact all2_len h) (fun f cdv A outer s H vs Q E hr h => ?_)
  obtain ⟨B, S, e, ⟨ws, ds, xs, p, hs, rfl⟩, q⟩ := h
  obtain ⟨x, y, rfl, px, py⟩ := all2_2 p
  have hu := hr.units
  have hl := hs.1
  refine ⟨_, (pss_one (ps_ret (pe_and (pe_cmpR (ko_ne hu (K := K)) (pv 1) (pe_tup pa_nil) (nomark _)) (pe_one (pe_callB (ko_all rfl (K := K)) (by rfl) T.z_all (by decide +kernel) (pa_cons (pe_lc (own := [("takes", 2), ("puts", 3)]) (g := gTup K 2 (gCons (gName 2) (gCons (gName 3) (gNil)))) rfl sc_is_a_drain.nd (ki_seq (K := K) (pe_prp N.cls c_Net_deeds hr (pv 0))) (blkOk_by (own := [("takes", 2), ("puts", 3)]) (N := N_is_a_drain) (sc := defScope s_is_a_drain) (by decide +kernel)) (fun _ _ _ _ _ => (kg_tup (K := K) rfl (pgs_cons (pg_name (i := 2) sc_is_a_drain.nd rfl (Or.inl rfl)) (pgs_cons (pg_name (i := 3) sc_is_a_drain.nd rfl (Or.inl rfl)) pgs_nil)))) (fun _ _ _ _ _ => pts_one (pt_val (pe_cal c_have_common hr (by rfl) (pa_cons (pv 3) (pa_cons (pv 1) pa_nil))))) (fun _ _ _ _ _ => (pe_cal c_have_common hr (by rfl) (pa_cons (pv 2) (pa_cons (pv 1) pa_nil))))) pa_nil)))))), ?_⟩
  refine s_ret e (ev_bl (ev_andV (ev_bl (ev_op (ev_D rfl py) (ev_tup [] ea_nil (by simp)) (ov_ned (sk_ti (k := 0) xs).sh (sk_nilT (k := 0)).sh)) (by rw [eqv_ti0])) fun _ => ev_cb (ea_cons (ev_lcBIf ds DD (fun d => touch d.2 xs) (fun d => touch d.1 xs) (ei_tup (ev_prp (ev_d rfl px) (spv fun vs B3 _ h => ⟨ws, ds, h, rfl⟩))) (by omega) fun a v B2 ha e2 dv => ?_) ea_nil) cv_all) (by unfold isDr; rw [List.all_map] <;> rfl)) q
  have py2 := dp_mono e2 _ _ py
  exact lt_tup2 dv (fun _ _ => rfl) (fun x1 x2 q1 q2 => et_test (ev_call (ea_cons (ev_D rfl q2) (ea_cons (ev_D rfl py2) ea_nil)) (spv fun vs B3 _ h => ⟨a.2, xs, h, (hs.2 a ha).2, rfl⟩))) fun x1 x2 q1 q2 _ => ev_b (ev_call (ea_cons (ev_D rfl q1) (ea_cons (ev_D rfl py2) ea_nil)) (spv fun vs B3 _ h => ⟨a.1, xs, h, (hs.2 a ha).1, rfl⟩))
abbrev s_is_a_trap : Stmt := topS 47
abbrev N_is_a_trap : List Str := ["net", "boxes", "takes", "puts"]
theorem sc_is_a_trap : FnScope N_is_a_trap ["net", "boxes"] (defScope s_is_a_trap) := ⟨rfl, rfl, rfl, by decide +kernel, rfl, by decide +kernel, by decide +kernel⟩
def spATr (K : PySem.W.Frag) (C : Addr) : Sp := pSp fun vs B S => ∃ (ws : List Int) (ds : List Deed) (xs : List Int), All2 [NetP K C ws ds, Da K (TuI xs)] vs B ∧ Sml ds ∧ S = Xv (.bl (isTr ds xs))
theorem ok_is_a_trap (F : FunC K mg "is_a_trap" "is_a_trap" s_is_a_trap) (N : NetF K mg C) (T : Z mg) (c_have_common : Cal P w K mg base "have_common" 1 ["one", "other"] (spHave K)) (c_Net_deeds : CalP P w K mg base C "deeds" 1 (spDeeds K C)) : Cal P w K mg base "is_a_trap" 3 ["net", "boxes"] (spATr K C) := by
  refine F.cal sc_is_a_trap (fun _ _ _ _ _ _ us hl => match us, hl with | [_, _], _ => rfl) (fun vs H Q E h => by obtain ⟨_, _, _, ⟨_, _, _, h, _⟩, _⟩ := h; exact all2_len h) (fun f cdv A outer s H vs Q E hr h => ?_)
  obtain ⟨B, S, e, ⟨ws, ds, xs, p, hs, rfl⟩, q⟩ := h
  obtain ⟨x, y, rfl, px, py⟩ := all2_2 p
  have hu := hr.units
  have hl := hs.1
  refine ⟨_, (pss_one (ps_ret (pe_and (pe_cmpR (ko_ne hu (K := K)) (pv 1) (pe_tup pa_nil) (nomark _)) (pe_one (pe_callB (ko_all rfl (K := K)) (by rfl) T.z_all (by decide +kernel) (pa_cons (pe_lc (own := [("takes", 2), ("puts", 3)]) (g := gTup K 2 (gCons (gName 2) (gCons (gName 3) (gNil)))) rfl sc_is_a_trap.nd (ki_seq (K := K) (pe_prp N.cls c_Net_deeds hr (pv 0))) (blkOk_by (own := [("takes", 2), ("puts", 3)]) (N := N_is_a_trap) (sc := defScope s_is_a_trap) (by decide +kernel)) (fun _ _ _ _ _ => (kg_tup (K := K) rfl (pgs_cons (pg_name (i := 2) sc_is_a_trap.nd rfl (Or.inl rfl)) (pgs_cons (pg_name (i := 3) sc_is_a_trap.nd rfl (Or.inl rfl)) pgs_nil)))) (fun _ _ _ _ _ => pts_one (pt_val (pe_cal c_have_common hr (by rfl) (pa_cons (pv 2) (pa_cons (pv 1) pa_nil))))) (fun _ _ _ _ _ => (pe_cal c_have_common hr (by rfl) (pa_cons (pv 3) (pa_cons (pv 1) pa_nil))))) pa_nil)))))), ?_⟩
  refine s_ret e (ev_bl (ev_andV (ev_bl (ev_op (ev_D rfl py) (ev_tup [] ea_nil (by simp)) (ov_ned (sk_ti (k := 0) xs).sh (sk_nilT (k := 0)).sh)) (by rw [eqv_ti0])) fun _ => ev_cb (ea_cons (ev_lcBIf ds DD (fun d => touch d.1 xs) (fun d => touch d.2 xs) (ei_tup (ev_prp (ev_d rfl px) (spv fun vs B3 _ h => ⟨ws, ds, h, rfl⟩))) (by omega) fun a v B2 ha e2 dv => ?_) ea_nil) cv_all) (by unfold isTr; rw [List.all_map] <;> rfl)) q
  have py2 := dp_mono e2 _ _ py
  exact lt_tup2 dv (fun _ _ => rfl) (fun x1 x2 q1 q2 => et_test (ev_call (ea_cons (ev_D rfl q1) (ea_cons (ev_D rfl py2) ea_nil)) (spv fun vs B3 _ h => ⟨a.1, xs, h, (hs.2 a ha).1, rfl⟩))) fun x1 x2 q1 q2 _ => ev_b (ev_call (ea_cons (ev_D rfl q2) (ea_cons (ev_D rfl py2) ea_nil)) (spv fun vs B3 _ h => ⟨a.2, xs, h, (hs.2 a ha).2, rfl⟩))
abbrev s_is_drain : Stmt := topS 48
abbrev N_is_drain : List Str := ["net", "thing"]
theorem sc_is_drain : FnScope N_is_drain ["net", "thing"] (defScope s_is_drain) := ⟨rfl, rfl, rfl, by decide +kernel, rfl, by decide +kernel, by decide +kernel⟩
def spDr (K : PySem.W.Frag) (C : Addr) : Sp := pSp fun vs B S => ∃ (ws : List Int) (ds : List Deed) (xs : List Int), All2 [NetP K C ws ds, Da K (TuI xs)] vs B ∧ Sml ds ∧ xs.length ≤ 1000 ∧ IsSet ws.length xs ∧ S = Xv (.bl (isDr ds xs))
theorem ok_is_drain (F : FunC K mg "is_drain" "is_drain" s_is_drain) (N : NetF K mg C) (T : Z mg) (c_need_net : Cal P w K mg base "need_net" 1 ["thing"] (spNeedN K C)) (c_is_set : Cal P w K mg base "is_set" 3 ["thing", "many"] (spIsSet K)) (c_is_a_drain : Cal P w K mg base "is_a_drain" 3 ["net", "boxes"] (spADr K C)) (c_Net_boxes : CalP P w K mg base C "boxes" 1 (spBoxes K C)) : Cal P w K mg base "is_drain" 4 ["net", "thing"] (spDr K C) := by
  refine F.cal sc_is_drain (fun _ _ _ _ _ _ us hl => match us, hl with | [_, _], _ => rfl) (fun vs H Q E h => by obtain ⟨_, _, _, ⟨_, _, _, h, _⟩, _⟩ := h; exact all2_len h) (fun f cdv A outer s H vs Q E hr h => ?_)
  obtain ⟨B, S, e, ⟨ws, ds, xs, p, hs, hl, hset, rfl⟩, q⟩ := h
  obtain ⟨x, y, rfl, px, py⟩ := all2_2 p
  refine ⟨_, (pss_cons (ps_expr (pe_cal c_need_net hr (by rfl) (pa_cons (pv 0) pa_nil)))
      (pss_one (ps_ret (pe_and (pe_cal c_is_set hr (by rfl) (pa_cons (pv 1) (pa_cons (pe_prp N.cls c_Net_boxes hr (pv 0)) pa_nil))) (pe_one (pe_cal c_is_a_drain hr (by rfl) (pa_cons (pv 0) (pa_cons (pv 1) pa_nil)))))))), ?_⟩
  refine q_drop e (ev_call (ea_cons (ev_d rfl px) ea_nil) (spv fun vs B3 _ h => ⟨ws, ds, h, rfl⟩)) fun B1 H1 g1 => ?_
  have px1 := Mo.mo _ _ _ g1.bb px
  have py1 := dp_mono g1.bb _ _ py
  exact s_ret g1.bh (ev_bl (ev_andV (ev_bl (ev_call (ea_cons (ev_D rfl py1) (ea_cons (ev_prp (ev_d rfl px1) (spv fun vs B3 _ h => ⟨ws, ds, h, rfl⟩)) ea_nil)) (spv fun vs B3 _ h => ⟨xs, (ws.length : Int), h, hl, rfl⟩)) (setB_iff.mpr hset)) fun _ => ev_call (ea_cons (ev_d rfl px1) (ea_cons (ev_D rfl py1) ea_nil)) (spv fun vs B3 _ h => ⟨ws, ds, xs, h, hs, rfl⟩)) (Bool.true_and _)) fun v B2 H2 g2 p => q v B2 H2 (g1.trans g2) p
abbrev s_is_trap : Stmt := topS 49
abbrev N_is_trap : List Str := ["net", "thing"]
theorem sc_is_trap : FnScope N_is_trap ["net", "thing"] (defScope s_is_trap) := ⟨rfl, rfl, rfl, by decide +kernel, rfl, by decide +kernel, by decide +kernel⟩
def spTr (K : PySem.W.Frag) (C : Addr) : Sp := pSp fun vs B S => ∃ (ws : List Int) (ds : List Deed) (xs : List Int), All2 [NetP K C ws ds, Da K (TuI xs)] vs B ∧ Sml ds ∧ xs.length ≤ 1000 ∧ IsSet ws.length xs ∧ S = Xv (.bl (isTr ds xs))
theorem ok_is_trap (F : FunC K mg "is_trap" "is_trap" s_is_trap) (N : NetF K mg C) (T : Z mg) (c_need_net : Cal P w K mg base "need_net" 1 ["thing"] (spNeedN K C)) (c_is_set : Cal P w K mg base "is_set" 3 ["thing", "many"] (spIsSet K)) (c_is_a_trap : Cal P w K mg base "is_a_trap" 3 ["net", "boxes"] (spATr K C)) (c_Net_boxes : CalP P w K mg base C "boxes" 1 (spBoxes K C)) : Cal P w K mg base "is_trap" 4 ["net", "thing"] (spTr K C) := by
  refine F.cal sc_is_trap (fun _ _ _ _ _ _ us hl => match us, hl with | [_, _], _ => rfl) (fun vs H Q E h => by obtain ⟨_, _, _, ⟨_, _, _, h, _⟩, _⟩ := h; exact all2_len h) (fun f cdv A outer s H vs Q E hr h => ?_)
  obtain ⟨B, S, e, ⟨ws, ds, xs, p, hs, hl, hset, rfl⟩, q⟩ := h
  obtain ⟨x, y, rfl, px, py⟩ := all2_2 p
  refine ⟨_, (pss_cons (ps_expr (pe_cal c_need_net hr (by rfl) (pa_cons (pv 0) pa_nil)))
      (pss_one (ps_ret (pe_and (pe_cal c_is_set hr (by rfl) (pa_cons (pv 1) (pa_cons (pe_prp N.cls c_Net_boxes hr (pv 0)) pa_nil))) (pe_one (pe_cal c_is_a_trap hr (by rfl) (pa_cons (pv 0) (pa_cons (pv 1) pa_nil)))))))), ?_⟩
  refine q_drop e (ev_call (ea_cons (ev_d rfl px) ea_nil) (spv fun vs B3 _ h => ⟨ws, ds, h, rfl⟩)) fun B1 H1 g1 => ?_
  have px1 := Mo.mo _ _ _ g1.bb px
  have py1 := dp_mono g1.bb _ _ py
  exact s_ret g1.bh (ev_bl (ev_andV (ev_bl (ev_call (ea_cons (ev_D rfl py1) (ea_cons (ev_prp (ev_d rfl px1) (spv fun vs B3 _ h => ⟨ws, ds, h, rfl⟩)) ea_nil)) (spv fun vs B3 _ h => ⟨xs, (ws.length : Int), h, hl, rfl⟩)) (setB_iff.mpr hset)) fun _ => ev_call (ea_cons (ev_d rfl px1) (ea_cons (ev_D rfl py1) ea_nil)) (spv fun vs B3 _ h => ⟨ws, ds, xs, h, hs, rfl⟩)) (Bool.true_and _)) fun v B2 H2 g2 p => q v B2 H2 (g1.trans g2) p
abbrev s_need_boxes : Stmt := topS 56
abbrev N_need_boxes : List Str := ["net", "thing"]
theorem sc_need_boxes : FnScope N_need_boxes ["net", "thing"] (defScope s_need_boxes) := ⟨rfl, rfl, rfl, by decide +kernel, rfl, by decide +kernel, by decide +kernel⟩
def spNeedB (K : PySem.W.Frag) (C : Addr) : Sp := pSp fun vs B S => ∃ (ws : List Int) (ds : List Deed) (xs : List Int), All2 [NetP K C ws ds, Da K (TuI xs)] vs B ∧ xs.length ≤ 1000 ∧ IsSet ws.length xs ∧ S = Xv .non
theorem ok_need_boxes (F : FunC K mg "need_boxes" "need_boxes" s_need_boxes) (N : NetF K mg C) (T : Z mg) (c_need_net : Cal P w K mg base "need_net" 1 ["thing"] (spNeedN K C)) (c_is_set : Cal P w K mg base "is_set" 3 ["thing", "many"] (spIsSet K)) (c_Net_boxes : CalP P w K mg base C "boxes" 1 (spBoxes K C)) : Cal P w K mg base "need_boxes" 4 ["net", "thing"] (spNeedB K C) := by
  refine F.cal sc_need_boxes (fun _ _ _ _ _ _ us hl => match us, hl with | [_, _], _ => rfl) (fun vs H Q E h => by obtain ⟨_, _, _, ⟨_, _, _, h, _⟩, _⟩ := h; exact all2_len h) (fun f cdv A outer s H vs Q E hr h => ?_)
  obtain ⟨B, S, e, ⟨ws, ds, xs, p, hl, hset, rfl⟩, q⟩ := h
  obtain ⟨x, y, rfl, px, py⟩ := all2_2 p
  refine ⟨_, (pss_cons (ps_expr (pe_cal c_need_net hr (by rfl) (pa_cons (pv 0) pa_nil)))
      (pss_one (ps_if (pt_not (pt_val (pe_cal c_is_set hr (by rfl) (pa_cons (pv 1) (pa_cons (pe_prp N.cls c_Net_boxes hr (pv 0)) pa_nil))))) (pss_one ps_never) pss_nil))), ?_⟩
  refine q_drop e (ev_call (ea_cons (ev_d rfl px) ea_nil) (spv fun vs B3 _ h => ⟨ws, ds, h, rfl⟩)) fun B1 H1 g1 => ?_
  exact s_not g1.bh (et_not (x := true) (et_test (ev_bl (ev_call (ea_cons (ev_D rfl (dp_mono g1.bb _ _ py)) (ea_cons (ev_prp (ev_d rfl (Mo.mo _ _ _ g1.bb px)) (spv fun vs B3 _ h => ⟨ws, ds, h, rfl⟩)) ea_nil)) (spv fun vs B3 _ h => ⟨xs, (ws.length : Int), h, hl, rfl⟩)) (setB_iff.mpr hset)))) fun B2 H2 g2 => q _ B2 H2 (g1.trans g2) rfl
abbrev s_drains_of : Stmt := topS 51
abbrev N_drains_of : List Str := ["net", "boxes"]
theorem sc_drains_of : FnScope N_drains_of ["net"] (defScope s_drains_of) := ⟨rfl, rfl, rfl, by decide +kernel, rfl, by decide +kernel, by decide +kernel⟩
/-- the smallest of those -/
def leastOf (n : Nat) (p : List Int → Bool) : List (List Int) := smallest [] ((ordS (subs n)).filter p)
def spDrs (K : PySem.W.Frag) (C : Addr) : Sp := pSp fun vs B S => ∃ (ws : List Int) (ds : List Deed), All2 [NetP K C ws ds] vs B ∧ Sml ds ∧ ws.length ≤ 6 ∧ S = Da K (.list ((leastOf ws.length (isDr ds)).map TuI))
theorem ordS_len (n : Nat) (h : n ≤ 6) : (ordS (subs n)).length ≤ 64 := by rw [(ordS_perm _).length_eq]; exact subs_small h
theorem ordS_set {n : Nat} {s : List Int} : s ∈ ordS (subs n) ↔ IsSet n s := by rw [(ordS_perm _).mem_iff, mem_subs]
theorem ok_drains_of (F : FunC K mg "drains_of" "drains_of" s_drains_of) (N : NetF K mg C) (c_smallest_of : Cal P w K mg base "smallest_of" 2 ["some"] (spSmall K)) (c_sets_below : Cal P w K mg base "sets_below" 1 ["many"] (spBelow K)) (c_is_a_drain : Cal P w K mg base "is_a_drain" 3 ["net", "boxes"] (spADr K C)) (c_Net_boxes : CalP P w K mg base C "boxes" 1 (spBoxes K C)) : Cal P w K mg base "drains_of" 4 ["net"] (spDrs K C) := by
  refine F.cal sc_drains_of (fun _ _ _ _ _ _ us hl => match us, hl with | [_], _ => rfl) (fun vs H Q E h => by obtain ⟨_, _, _, ⟨_, _, h, _⟩, _⟩ := h; exact all2_len h) (fun f cdv A outer s H vs Q E hr h => ?_)
  obtain ⟨B, S, e, ⟨ws, ds, p, hs, hw, rfl⟩, q⟩ := h
  obtain ⟨x, rfl, px⟩ := all2_1 p
  have hol := ordS_len ws.length hw
  refine ⟨_, (pss_one (ps_ret (pe_cal c_smallest_of hr (by rfl) (pa_cons (pe_lc (own := [("boxes", 1)]) (g := gName 1) rfl sc_drains_of.nd (ki_seq (K := K) (pe_cal c_sets_below hr (by rfl) (pa_cons (pe_prp N.cls c_Net_boxes hr (pv 0)) pa_nil))) (blkOk_by (own := [("boxes", 1)]) (N := N_drains_of) (sc := defScope s_drains_of) (by decide +kernel)) (fun _ _ _ _ _ => (pg_name (i := 1) sc_drains_of.nd rfl (Or.inl rfl))) (fun _ _ _ _ _ => pts_one (pt_val (pe_cal c_is_a_drain hr (by rfl) (pa_cons (pv 0) (pa_cons (pv 1) pa_nil))))) (fun _ _ _ _ _ => (pv 1))) pa_nil)))), ?_⟩
  refine s_ret e (ev_call (ea_cons (ev_lc (ordS (subs ws.length)) TuI (isDr ds) TuI (ei_lst (ev_call (ea_cons (ev_prp (ev_d rfl px) (spv fun vs B3 _ h => ⟨ws, ds, h, rfl⟩)) ea_nil) (spv fun vs B3 _ h => ⟨ws.length, h, hw, rfl⟩))) (by omega) fun a v B2 ha e2 dv => lt_name rfl (et_test (ev_call (ea_cons (ev_d rfl (Mo.mo _ _ _ e2 px)) (ea_cons (ev_D rfl dv) ea_nil)) (spv fun vs B3 _ h => ⟨ws, ds, a, h, hs, rfl⟩))) fun _ => ev_D rfl dv) ea_nil) (spv fun vs B3 _ h => ⟨_, h, ?_, fun s hs2 => ?_, rfl⟩)) q
  · exact Nat.le_trans (List.length_filter_le _ _) (by omega)
  · have := isSet_len (ordS_set.mp (List.mem_filter.mp hs2).1)
    omega
end
end CN
set_option Elab.async false
set_option linter.all false
set_option maxRecDepth 100000
set_option maxHeartbeats 4000000
/-! D8: the greatest within; moves; all smallest. -/
namespace CN
open PySem PySem.Spec PyProof.Rows L2 CM
section
variable {P : Program} {w : World} {K : PySem.W.Frag} {mg : Str → Option Value} {base : Heap} {x qual : Str} {st : Stmt} {N ps : List Str} {k : Nat} {sp : SpG2}
theorem FunC.caly (F : FunC K mg x qual st) (S : GScope N ps (defScope st))
    (hb : ∀ (kV doc pm : Value) (an : Option Addr) (cdv ct : Value) (us : List Value), us.length = ps.length → bindArgs (PySem.W.fnOf x qual (defArgs st) (defBody st) (defScope st) .none kV doc pm an cdv ct) ⟨us, []⟩ = pure (ps.zip us))
    (len : ∀ vs H Q, sp vs H Q → vs.length = ps.length)
    (hbody : ∀ (f : Addr) (cdv : Value) (A : Around) (outer : List Env) (s : Shared) (H : Hp) (vs : List V) (Q : List V → Hp → Prop) (pn : List (Addr × Obj)), Room k (A.deeper (envOfC qual (defScope st) s.heap.objs.size f cdv)) → sp vs H Q →
      ∃ t : TG2, GB (gcx2 P w K mg base N qual (defScope st) f cdv A outer s H pn) (defBody st) t ∧ t (fun ys _ H' => Q ys H') [] (start N vs) H) : CalY P w K mg base x (k + 1) ps sp := by
  obtain ⟨f, fd, Fn, hm⟩ := F.ex
  have hbn := Fn.binds hb
  have hkp := Fn.kp
  obtain ⟨oc, od, kV, doc, pm, an, cdv, ct, osl, rfl, lk, hcd⟩ := Fn.ex
  exact ⟨f, _, gfn2_of lk hcd S len fun A outer s H vs Q pn hr hsp => hbody f cdv A outer s H vs Q pn hr hsp, hm, hkp, hbn⟩
end
section
variable {K : PySem.W.Frag} {σ : L2.St} {B H : Hp} {wi : L2.TI} {ds : List PyData}
theorem y_for {j : Nat} {nx : List V → L2.St → Hp → Prop} (e : Same B H) (hj : j < σ.length) (hi : EI K wi σ B ds) (hl : ds.length ≤ 100000) (hq : ∀ out σ' B' H', Gr B H B' H' → DpAll K B' out ds → nx out σ' H') : tGForY wi (gName j) (tVar j) nx [] σ H :=
  hi B H (Same.refl _) e _ fun J B1 H1 g1 it => by
    refine ⟨fun i m ys σ' H' => m = ds.length - i ∧ i ≤ ds.length ∧ σ'.length = σ.length ∧ ∃ B', Same B1 B' ∧ Gr B H B' H' ∧ DpAll K B' ys (ds.take i), ⟨ds.length, rfl, Nat.zero_le _, rfl, B1, Same.refl _, g1, .nil⟩, ?_⟩
    rintro i m ys σ' H' ⟨rfl, hi', hσ, B', b1, g, hd⟩
    by_cases hlt : i < ds.length
    · have hx : ds[i]? = some ds[i] := List.getElem?_eq_getElem hlt
      have hyl := dpa_length hd
      rw [List.length_take] at hyl
      refine .inr ⟨it.go i H' hlt (b1.trans g.bh), sz_lt (by omega), fun x H4 y => ?_⟩
      obtain ⟨B4, g4, dx⟩ := it.yld i H' x H4 B' ds[i] hx b1 g.bh y
      refine ⟨x, by rw [List.getElem?_set_self (by omega)], ds.length - (i + 1), by omega, rfl, hlt, by rw [List.length_set]; exact hσ, B4, b1.trans g4.bb, g.trans g4, ?_⟩
      rw [List.take_add_one, hx]
      exact dpa_append (dpa_mono g4.bb _ _ hd) (.cons dx .nil)
    · have ei : i = ds.length := by omega
      subst ei
      rw [List.take_length] at hd
      exact .inl ⟨it.stop H' (b1.trans g.bh), hq _ _ B' H' g hd⟩
end
section
variable {P : Program} {w : World} {K : PySem.W.Frag} {mg : Str → Option Value} {base : Heap} {C : Addr}
abbrev s_drains : Stmt := topS 52
abbrev N_drains : List Str := ["net", "boxes"]
theorem sc_drains : GScope N_drains ["net"] (defScope s_drains) := ⟨rfl, rfl, rfl, by decide +kernel, rfl, by decide +kernel, by decide +kernel⟩
def syDr (K : PySem.W.Frag) (C : Addr) : SpG2 := fun vs H Q => ∃ (B : Hp) (ws : List Int) (ds : List Deed), Same B H ∧ All2 [NetP K C ws ds] vs B ∧ Sml ds ∧ ws.length ≤ 6 ∧ ∀ out B' H', Gr B H B' H' → DpAll K B' out ((leastOf ws.length (isDr ds)).map TuI) → Q out H'
theorem least_len (n : Nat) (p : List Int → Bool) (h : n ≤ 6) : (leastOf n p).length ≤ 64 := by
  unfold leastOf
  refine Nat.le_trans (small_len _ _) ?_
  rw [List.length_nil, Nat.zero_add]
  exact Nat.le_trans (List.length_filter_le _ _) (ordS_len n h)
theorem ok_drains (F : FunC K mg "drains" "drains" s_drains) (c_need_net : Cal P w K mg base "need_net" 1 ["thing"] (spNeedN K C)) (c_drains_of : Cal P w K mg base "drains_of" 4 ["net"] (spDrs K C)) : CalY P w K mg base "drains" 5 ["net"] (syDr K C) := by
  refine F.caly sc_drains (fun _ _ _ _ _ _ us hl => match us, hl with | [_], _ => rfl) (fun vs H Q h => by obtain ⟨_, _, _, _, h, _⟩ := h; exact all2_len h) (fun f cdv A outer s H vs Q pn hr h => ?_)
  obtain ⟨B, ws, ds, e, p, hs, hw, q⟩ := h
  obtain ⟨x, rfl, px⟩ := all2_1 p
  refine ⟨_, (gb_cons (fun _ _ z => z) (ps_expr (pe_cal c_need_net hr (by rfl) (pa_cons (pv 0) pa_nil))) (gb_one (gl_forY (fun _ _ z => z) rfl (ki_seq (K := K) (pe_cal c_drains_of hr (by rfl) (pa_cons (pv 0) pa_nil))) (pg_name (i := 1) sc_drains.nd rfl (Or.inl rfl)) (pv 1)))), ?_⟩
  refine s_drop e (ev_call (ea_cons (ev_d rfl px) ea_nil) (spv fun vs B3 _ h => ⟨ws, ds, h, rfl⟩)) fun B1 H1 g1 => ?_
  refine y_for (K := K) g1.bh (by show 1 < 2; decide) (ei_lst (ev_call (ea_cons (ev_d rfl (Mo.mo _ _ _ g1.bb px)) ea_nil) (spv fun vs B3 _ h => ⟨ws, ds, h, hs, hw, rfl⟩))) ?_ fun out σ' B' H' g hd => q out B' H' (g1.trans g) hd
  have := least_len ws.length (isDr ds) hw
  rw [List.length_map]
  omega
abbrev s_traps : Stmt := topS 53
abbrev N_traps : List Str := ["net", "boxes"]
theorem sc_traps : GScope N_traps ["net"] (defScope s_traps) := ⟨rfl, rfl, rfl, by decide +kernel, rfl, by decide +kernel, by decide +kernel⟩
def syTr (K : PySem.W.Frag) (C : Addr) : SpG2 := fun vs H Q => ∃ (B : Hp) (ws : List Int) (ds : List Deed), Same B H ∧ All2 [NetP K C ws ds] vs B ∧ Sml ds ∧ ws.length ≤ 6 ∧ ∀ out B' H', Gr B H B' H' → DpAll K B' out ((leastOf ws.length (isTr ds)).map TuI) → Q out H'
theorem ok_traps (F : FunC K mg "traps" "traps" s_traps) (N : NetF K mg C) (c_need_net : Cal P w K mg base "need_net" 1 ["thing"] (spNeedN K C)) (c_smallest_of : Cal P w K mg base "smallest_of" 2 ["some"] (spSmall K)) (c_sets_below : Cal P w K mg base "sets_below" 1 ["many"] (spBelow K)) (c_is_a_trap : Cal P w K mg base "is_a_trap" 3 ["net", "boxes"] (spATr K C)) (c_Net_boxes : CalP P w K mg base C "boxes" 1 (spBoxes K C)) : CalY P w K mg base "traps" 5 ["net"] (syTr K C) := by
  refine F.caly sc_traps (fun _ _ _ _ _ _ us hl => match us, hl with | [_], _ => rfl) (fun vs H Q h => by obtain ⟨_, _, _, _, h, _⟩ := h; exact all2_len h) (fun f cdv A outer s H vs Q pn hr h => ?_)
  obtain ⟨B, ws, ds, e, p, hs, hw, q⟩ := h
  obtain ⟨x, rfl, px⟩ := all2_1 p
  refine ⟨_, (gb_cons (fun _ _ z => z) (ps_expr (pe_cal c_need_net hr (by rfl) (pa_cons (pv 0) pa_nil))) (gb_one (gl_forY (fun _ _ z => z) rfl (ki_seq (K := K) (pe_cal c_smallest_of hr (by rfl) (pa_cons (pe_lc (own := [("boxes", 1)]) (g := gName 1) rfl sc_traps.nd (ki_seq (K := K) (pe_cal c_sets_below hr (by rfl) (pa_cons (pe_prp N.cls c_Net_boxes hr (pv 0)) pa_nil))) (blkOk_by (own := [("boxes", 1)]) (N := N_traps) (sc := defScope s_traps) (by decide +kernel)) (fun _ _ _ _ _ => (pg_name (i := 1) sc_traps.nd rfl (Or.inl rfl))) (fun _ _ _ _ _ => pts_one (pt_val (pe_cal c_is_a_trap hr (by rfl) (pa_cons (pv 0) (pa_cons (pv 1) pa_nil))))) (fun _ _ _ _ _ => (pv 1))) pa_nil))) (pg_name (i := 1) sc_traps.nd rfl (Or.inl rfl)) (pv 1)))), ?_⟩
  refine s_drop e (ev_call (ea_cons (ev_d rfl px) ea_nil) (spv fun vs B3 _ h => ⟨ws, ds, h, rfl⟩)) fun B1 H1 g1 => ?_
  have px1 := Mo.mo _ _ _ g1.bb px
  have hol := ordS_len ws.length hw
  have hf1 : ((ordS (subs ws.length)).filter (isTr ds)).length ≤ 1000 := Nat.le_trans (List.length_filter_le _ _) (by omega)
  have hf2 : ∀ s, s ∈ (ordS (subs ws.length)).filter (isTr ds) → s.length ≤ 1000 := fun s hs2 => by
    have := isSet_len (ordS_set.mp (List.mem_filter.mp hs2).1)
    omega
  have hl1 : ((leastOf ws.length (isTr ds)).map TuI).length ≤ 100000 := by
    have := least_len ws.length (isTr ds) hw
    rw [List.length_map]
    omega
  refine y_for (K := K) (ds := (leastOf ws.length (isTr ds)).map TuI) g1.bh (by show 1 < 2; decide) (ei_lst (ev_call (ea_cons (ev_lc (ordS (subs ws.length)) TuI (isTr ds) TuI (ei_lst (ev_call (ea_cons (ev_prp (ev_d rfl px1) (spv fun vs B3 _ h => ⟨ws, ds, h, rfl⟩)) ea_nil) (spv fun vs B3 _ h => ⟨ws.length, h, hw, rfl⟩))) (by omega) fun a v B2 ha e2 dv => lt_name rfl (et_test (ev_call (ea_cons (ev_d rfl (Mo.mo _ _ _ e2 px1)) (ea_cons (ev_D rfl dv) ea_nil)) (spv fun vs B3 _ h => ⟨ws, ds, a, h, hs, rfl⟩))) fun _ => ev_D rfl dv) ea_nil) (spv fun vs B3 _ h => ⟨_, h, hf1, hf2, rfl⟩))) hl1 fun out σ' B' H' g hd => q out B' H' (g1.trans g) hd
end
end CN
set_option Elab.async false
set_option linter.all false
set_option maxRecDepth 100000
set_option maxHeartbeats 4000000
/-! D9: the greatest within. -/
namespace CN
open PySem PySem.Spec PyProof.Rows L2 CM
section
variable {P : Program} {w : World} {K : PySem.W.Frag} {mg : Str → Option Value} {base : Heap} {C : Addr}
abbrev s_greatest_trap : Stmt := topS 54
abbrev N_greatest_trap : List Str := ["net", "boxes", "left", "before", "takes", "puts", "box"]
theorem sc_greatest_trap : FnScope N_greatest_trap ["net", "boxes"] (defScope s_greatest_trap) := ⟨rfl, rfl, rfl, by decide +kernel, rfl, by decide +kernel, by decide +kernel⟩
def GPT (K : PySem.W.Frag) (ds : List Deed) (xs : List Int) : Pd := fun v B => ∃ L, Gt ds xs L ∧ Dp K B v (TuI L)
def spGT (K : PySem.W.Frag) (C : Addr) : Sp := pSp fun vs B S => ∃ (ws : List Int) (ds : List Deed) (xs : List Int), All2 [NetP K C ws ds, Da K (TuI xs)] vs B ∧ Sml ds ∧ xs.length ≤ 1000 ∧ S = GPT K ds xs
theorem ok_greatest_trap (F : FunC K mg "greatest_trap" "greatest_trap" s_greatest_trap) (N : NetF K mg C) (T : Z mg) (c_have_common : Cal P w K mg base "have_common" 1 ["one", "other"] (spHave K)) (c_Net_deeds : CalP P w K mg base C "deeds" 1 (spDeeds K C)) : Cal P w K mg base "greatest_trap" 3 ["net", "boxes"] (spGT K C) := by
  refine F.cal sc_greatest_trap (fun _ _ _ _ _ _ us hl => match us, hl with | [_, _], _ => rfl) (fun vs H Q E h => by obtain ⟨_, _, _, ⟨_, _, _, h, _⟩, _⟩ := h; exact all2_len h) (fun f cdv A outer s H vs Q E hr h => ?_)
  obtain ⟨B, S, e, ⟨ws, ds, xs, p, hs, hl, rfl⟩, q⟩ := h
  obtain ⟨x, y, rfl, px, py⟩ := all2_2 p
  have hu := hr.units
  have hl1 := hs.1
  refine ⟨_, (pss_cons (ps_par (i := 2) (j := 3) rfl sc_greatest_trap.nd rfl rfl (by decide) rfl rfl (pa_cons (pv 1) (pa_cons (pe_tup pa_nil) pa_nil)) rfl)
      (pss_cons (ps_while PassesOwn.never (pt_cmpR (ko_ne hu (K := K)) (pv 2) (pv 3) (nomark _)) (pss_cons (ps_set (i := 3) sc_greatest_trap.nd rfl (Or.inl rfl) (pv 2))
      (pss_one (ps_for PassesOwn.never rfl (ki_seq (K := K) (pe_prp N.cls c_Net_deeds hr (pv 0))) (kg_tup (K := K) rfl (pgs_cons (pg_name (i := 4) sc_greatest_trap.nd rfl (Or.inr rfl)) (pgs_cons (pg_name (i := 5) sc_greatest_trap.nd rfl (Or.inl rfl)) pgs_nil))) (pss_one (ps_if (pt_not (pt_val (pe_cal c_have_common hr (by rfl) (pa_cons (pv 5) (pa_cons (pv 2) pa_nil))))) (pss_one (ps_set (i := 2) sc_greatest_trap.nd rfl (Or.inl rfl) (pe_callTy (ko_tuple (K := K)) (by rfl) T.z_tuple (by decide +kernel) (pa_cons (pe_lc (own := [("box", 6)]) (g := gName 6) rfl sc_greatest_trap.nd (ki_seq (K := K) (pv 2)) (blkOk_by (own := [("box", 6)]) (N := N_greatest_trap) (sc := defScope s_greatest_trap) (by decide +kernel)) (fun _ _ _ _ _ => (pg_name (i := 6) sc_greatest_trap.nd rfl (Or.inl rfl))) (fun _ _ _ _ _ => pts_one (pt_cmpR (ko_ni (K := K)) (pv 6) (pv 4) rfl)) (fun _ _ _ _ _ => (pv 6))) pa_nil)))) pss_nil))))))
      (pss_one (ps_ret (pv 2))))), ?_⟩
  refine q_par (P := Da K (TuI xs)) (R := Da K (TuI [])) e (ea_cons (ev_D rfl py) (ea_cons (ev_is (ev_tup [] ea_nil (by simp)) (rfl : _ = TuI [])) ea_nil)) fun v1 v2 B1 H1 g1 p1 p2 => ?_
  refine q_while (fun m σ' B' H' => ∃ vl vb t1 t2 t3 L bef, σ' = [some x, some y, some vl, some vb, t1, t2, t3] ∧ Dp K B' vl (TuI L) ∧ Dp K B' vb (TuI bef) ∧ Gr B H B' H' ∧ L.Sublist xs ∧ (∀ Z, isTr ds Z = true → (∀ x, x ∈ Z → x ∈ xs) → ∀ x, x ∈ Z → x ∈ L) ∧ ((bef = [] ∧ L = xs) ∨ L = gpass bef ds) ∧ m = 2 * L.length + (if L = bef then 0 else 1)) _
    ⟨v1, v2, none, none, none, xs, [], rfl, p1, p2, g1, List.Sublist.refl _, fun Z _ h => h, .inl ⟨rfl, rfl⟩, rfl⟩ ?_
  rintro m σ' B' H' ⟨vl, vb, t1, t2, t3, L, bef, rfl, hm, hb, hg, hsub, hall, hor, rfl⟩
  have hLl := hsub.length_le
  refine ⟨!decide (L = bef), hg.bh, et_is (et_test (ev_op (ev_D rfl hm) (ev_D rfl hb) (ov_ned (sk_ti (k := 0) L).sh (sk_ti (k := 0) bef).sh))) (by rw [eqv_ti]), fun ht B3 H3 g3 => ?_, fun hfl B3 H3 g3 => ?_⟩
  · have hne : ¬ L = bef := by simpa using ht
    have hm3 := dp_mono g3.bb _ _ hm
    refine q_asg (P := Da K (TuI L)) g3.bh (ev_D rfl hm3) fun vb2 B4 H4 g4 p4 => ?_
    have hm4 := dp_mono g4.bb _ _ hm3
    have hgg := (hg.trans g3).trans g4
    refine s_forG (K := K) hgg (ei_tup (ev_prp (ev_d rfl (Mo.mo _ _ _ hgg.bb px)) (spv fun vs B3 _ h => ⟨ws, ds, h, rfl⟩))) (fun i σ' B' H' => ∃ vl' t1 t2 t3, σ' = [some x, some y, some vl', some vb2, t1, t2, t3] ∧ Dp K B' vl' (TuI (gpass L (ds.take i))) ∧ Dp K B' vb2 (TuI L)) (fun B1 H1 g1 => ⟨vl, t1, t2, t3, rfl, dp_mono g1.bb _ _ hm4, dp_mono g1.bb _ _ p4⟩) ?_ ?_
    · rintro i v σ2 B5 H5 B6 H6 dd N' ⟨vl', t1, t2, t3, rfl, h1, h2⟩ hg5 g6 hdd dv fin
      obtain ⟨d, hd, rfl⟩ := map_get hdd
      have hdm := List.mem_of_getElem? hd
      have tk : ds.take (i + 1) = ds.take i ++ [d] := by rw [List.take_add_one, hd]; rfl
      have sn : gpass L (ds.take (i + 1)) = gstep (gpass L (ds.take i)) d := by
        rw [tk]
        exact List.foldl_append
      have sl : (gpass L (ds.take i)).length ≤ L.length := gpass_sub.length_le
      have h1' := dp_mono g6.bb _ _ h1
      have h2' := dp_mono g6.bb _ _ h2
      refine g_tup2 g6.bh dv fun x1 x2 q1 q2 => ?_
      refine s_ifn g6.bh (et_not (et_test (ev_call (ea_cons (ev_D rfl q2) (ea_cons (ev_D rfl h1') ea_nil)) (spv fun vs B7 _ h => ⟨d.2, _, h, (hs.2 d hdm).2, rfl⟩)))) (fun htc B7 H7 g7 => ?_) fun htc B7 H7 g7 => ?_
      · have htf : touch d.2 (gpass L (ds.take i)) = false := by simpa using htc
        refine s_asg g7.bh (P := Da K (TuI (gpass L (ds.take (i + 1))))) (ev_is (ev_cb (ea_cons (ev_lcIf (gpass L (ds.take i)) .int (fun b => !decide (b ∈ d.1)) (fun b => b) (ei_tup (ev_D rfl (dp_mono g7.bb _ _ h1'))) (by omega) fun a u B8 ha e8 du => lt_name rfl (et_test (ev_op (ev_var (by rw [dp_int_inv du]; rfl)) (ev_D rfl (dp_mono (g7.bb.trans e8) _ _ q1)) ov_niTI)) fun _ => ev_D rfl du) ea_nil) cv_tuple) ?_) fun v8 B8 H8 g8 p8 => fin _ B8 H8 (((hg5.trans g6).trans g7).trans g8) (g7.bb.trans g8.bb) ⟨v8, _, _, _, rfl, p8, dp_mono (g7.bb.trans g8.bb) _ _ h2'⟩
        rw [sn]
        unfold gstep
        rw [if_neg (by show ¬ touch d.2 _ = true; rw [htf]; exact Bool.false_ne_true), List.map_id']
        try rfl
      · have htf : touch d.2 (gpass L (ds.take i)) = true := by simpa using htc
        refine fin _ B7 H7 ((hg5.trans g6).trans g7) g7.bb ⟨vl', _, _, _, rfl, ?_, dp_mono g7.bb _ _ h2'⟩
        rw [sn]
        unfold gstep
        rw [if_pos (show touch d.2 _ = true from htf)]
        exact dp_mono g7.bb _ _ h1'
    · rintro σ2 B5 H5 hg5 _ ⟨vl', t1, t2, t3, rfl, h1, h2⟩
      rw [List.length_map, List.take_length] at h1
      have hsb : (gpass L ds).Sublist L := gpass_sub
      refine ⟨_, B5, ?_, vl', vb2, t1, t2, t3, gpass L ds, L, rfl, h1, h2, hg5, hsb.trans hsub, fun Z hZ hZx => gpass_keep (fun _ h => h) hZ (hall Z hZ hZx), .inr rfl, rfl⟩
      rw [if_neg hne]
      by_cases z : gpass L ds = L
      · rw [if_pos z, z]
        omega
      · rw [if_neg z]
        have hlt : (gpass L ds).length < L.length := by
          rcases Nat.lt_or_ge (gpass L ds).length L.length with h | h
          · exact h
          · exact absurd (hsb.eq_of_length_le h) z
        omega
  · have he : L = bef := by simpa using hfl
    subst he
    have hok : ∀ d, d ∈ ds → touch d.2 L = false → touch d.1 L = false := by
      rcases hor with ⟨z1, z2⟩ | z
      · intro d _ _
        rw [z1]
        exact touch_no.mpr fun x _ h => by cases h
      · intro d hd h2
        cases h1 : touch d.1 L with
        | false => rfl
        | true =>
          have := gstep_fix (gpass_fix z.symm d hd) h1
          rw [h2] at this
          cases this
    exact s_ret g3.bh (ev_D rfl (dp_mono g3.bb _ _ hm)) fun v B4 H4 g4 p4 => q v B4 H4 ((hg.trans g3).trans g4) ⟨L, ⟨hsub, hok, hall⟩, p4⟩
abbrev s_trap_in : Stmt := topS 57
abbrev N_trap_in : List Str := ["net", "boxes"]
theorem sc_trap_in : FnScope N_trap_in ["net", "boxes"] (defScope s_trap_in) := ⟨rfl, rfl, rfl, by decide +kernel, rfl, by decide +kernel, by decide +kernel⟩
def spTIn (K : PySem.W.Frag) (C : Addr) : Sp := pSp fun vs B S => ∃ (ws : List Int) (ds : List Deed) (xs : List Int), All2 [NetP K C ws ds, Da K (TuI xs)] vs B ∧ Sml ds ∧ xs.length ≤ 1000 ∧ IsSet ws.length xs ∧ S = GPT K ds xs
theorem ok_trap_in (F : FunC K mg "trap_in" "trap_in" s_trap_in) (c_need_boxes : Cal P w K mg base "need_boxes" 4 ["net", "thing"] (spNeedB K C)) (c_greatest_trap : Cal P w K mg base "greatest_trap" 3 ["net", "boxes"] (spGT K C)) : Cal P w K mg base "trap_in" 5 ["net", "boxes"] (spTIn K C) := by
  refine F.cal sc_trap_in (fun _ _ _ _ _ _ us hl => match us, hl with | [_, _], _ => rfl) (fun vs H Q E h => by obtain ⟨_, _, _, ⟨_, _, _, h, _⟩, _⟩ := h; exact all2_len h) (fun f cdv A outer s H vs Q E hr h => ?_)
  obtain ⟨B, S, e, ⟨ws, ds, xs, p, hs, hl, hset, rfl⟩, q⟩ := h
  obtain ⟨x, y, rfl, px, py⟩ := all2_2 p
  refine ⟨_, (pss_cons (ps_expr (pe_cal c_need_boxes hr (by rfl) (pa_cons (pv 0) (pa_cons (pv 1) pa_nil))))
      (pss_one (ps_ret (pe_cal c_greatest_trap hr (by rfl) (pa_cons (pv 0) (pa_cons (pv 1) pa_nil)))))), ?_⟩
  refine q_drop e (ev_call (ea_cons (ev_d rfl px) (ea_cons (ev_D rfl py) ea_nil)) (spv fun vs B3 _ h => ⟨ws, ds, xs, h, hl, hset, rfl⟩)) fun B1 H1 g1 => ?_
  exact s_ret g1.bh (ev_call (ea_cons (ev_d rfl (Mo.mo _ _ _ g1.bb px)) (ea_cons (ev_D rfl (dp_mono g1.bb _ _ py)) ea_nil)) (spv fun vs B3 _ h => ⟨ws, ds, xs, h, hs, hl, rfl⟩)) fun v B2 H2 g2 p => q v B2 H2 (g1.trans g2) p
abbrev s_greatest_drain : Stmt := topS 55
abbrev N_greatest_drain : List Str := ["net", "boxes", "left", "before", "takes", "puts", "box"]
theorem sc_greatest_drain : FnScope N_greatest_drain ["net", "boxes"] (defScope s_greatest_drain) := ⟨rfl, rfl, rfl, by decide +kernel, rfl, by decide +kernel, by decide +kernel⟩
def GPD (K : PySem.W.Frag) (ds : List Deed) (xs : List Int) : Pd := fun v B => ∃ L, Gt (ds.map swp) xs L ∧ Dp K B v (TuI L)
def spGD (K : PySem.W.Frag) (C : Addr) : Sp := pSp fun vs B S => ∃ (ws : List Int) (ds : List Deed) (xs : List Int), All2 [NetP K C ws ds, Da K (TuI xs)] vs B ∧ Sml ds ∧ xs.length ≤ 1000 ∧ S = GPD K ds xs
theorem ok_greatest_drain (F : FunC K mg "greatest_drain" "greatest_drain" s_greatest_drain) (N : NetF K mg C) (T : Z mg) (c_have_common : Cal P w K mg base "have_common" 1 ["one", "other"] (spHave K)) (c_Net_deeds : CalP P w K mg base C "deeds" 1 (spDeeds K C)) : Cal P w K mg base "greatest_drain" 3 ["net", "boxes"] (spGD K C) := by
  refine F.cal sc_greatest_drain (fun _ _ _ _ _ _ us hl => match us, hl with | [_, _], _ => rfl) (fun vs H Q E h => by obtain ⟨_, _, _, ⟨_, _, _, h, _⟩, _⟩ := h; exact all2_len h) (fun f cdv A outer s H vs Q E hr h => ?_)
  obtain ⟨B, S, e, ⟨ws, ds, xs, p, hs, hl, rfl⟩, q⟩ := h
  obtain ⟨x, y, rfl, px, py⟩ := all2_2 p
  have hu := hr.units
  have hl1 := hs.1
  refine ⟨_, (pss_cons (ps_par (i := 2) (j := 3) rfl sc_greatest_drain.nd rfl rfl (by decide) rfl rfl (pa_cons (pv 1) (pa_cons (pe_tup pa_nil) pa_nil)) rfl)
      (pss_cons (ps_while PassesOwn.never (pt_cmpR (ko_ne hu (K := K)) (pv 2) (pv 3) (nomark _)) (pss_cons (ps_set (i := 3) sc_greatest_drain.nd rfl (Or.inl rfl) (pv 2))
      (pss_one (ps_for PassesOwn.never rfl (ki_seq (K := K) (pe_prp N.cls c_Net_deeds hr (pv 0))) (kg_tup (K := K) rfl (pgs_cons (pg_name (i := 4) sc_greatest_drain.nd rfl (Or.inl rfl)) (pgs_cons (pg_name (i := 5) sc_greatest_drain.nd rfl (Or.inr rfl)) pgs_nil))) (pss_one (ps_if (pt_not (pt_val (pe_cal c_have_common hr (by rfl) (pa_cons (pv 4) (pa_cons (pv 2) pa_nil))))) (pss_one (ps_set (i := 2) sc_greatest_drain.nd rfl (Or.inl rfl) (pe_callTy (ko_tuple (K := K)) (by rfl) T.z_tuple (by decide +kernel) (pa_cons (pe_lc (own := [("box", 6)]) (g := gName 6) rfl sc_greatest_drain.nd (ki_seq (K := K) (pv 2)) (blkOk_by (own := [("box", 6)]) (N := N_greatest_drain) (sc := defScope s_greatest_drain) (by decide +kernel)) (fun _ _ _ _ _ => (pg_name (i := 6) sc_greatest_drain.nd rfl (Or.inl rfl))) (fun _ _ _ _ _ => pts_one (pt_cmpR (ko_ni (K := K)) (pv 6) (pv 5) rfl)) (fun _ _ _ _ _ => (pv 6))) pa_nil)))) pss_nil))))))
      (pss_one (ps_ret (pv 2))))), ?_⟩
  refine q_par (P := Da K (TuI xs)) (R := Da K (TuI [])) e (ea_cons (ev_D rfl py) (ea_cons (ev_is (ev_tup [] ea_nil (by simp)) (rfl : _ = TuI [])) ea_nil)) fun v1 v2 B1 H1 g1 p1 p2 => ?_
  refine q_while (fun m σ' B' H' => ∃ vl vb t1 t2 t3 L bef, σ' = [some x, some y, some vl, some vb, t1, t2, t3] ∧ Dp K B' vl (TuI L) ∧ Dp K B' vb (TuI bef) ∧ Gr B H B' H' ∧ L.Sublist xs ∧ (∀ Z, isTr (ds.map swp) Z = true → (∀ x, x ∈ Z → x ∈ xs) → ∀ x, x ∈ Z → x ∈ L) ∧ ((bef = [] ∧ L = xs) ∨ L = gpass bef (ds.map swp)) ∧ m = 2 * L.length + (if L = bef then 0 else 1)) _
    ⟨v1, v2, none, none, none, xs, [], rfl, p1, p2, g1, List.Sublist.refl _, fun Z _ h => h, .inl ⟨rfl, rfl⟩, rfl⟩ ?_
  rintro m σ' B' H' ⟨vl, vb, t1, t2, t3, L, bef, rfl, hm, hb, hg, hsub, hall, hor, rfl⟩
  have hLl := hsub.length_le
  refine ⟨!decide (L = bef), hg.bh, et_is (et_test (ev_op (ev_D rfl hm) (ev_D rfl hb) (ov_ned (sk_ti (k := 0) L).sh (sk_ti (k := 0) bef).sh))) (by rw [eqv_ti]), fun ht B3 H3 g3 => ?_, fun hfl B3 H3 g3 => ?_⟩
  · have hne : ¬ L = bef := by simpa using ht
    have hm3 := dp_mono g3.bb _ _ hm
    refine q_asg (P := Da K (TuI L)) g3.bh (ev_D rfl hm3) fun vb2 B4 H4 g4 p4 => ?_
    have hm4 := dp_mono g4.bb _ _ hm3
    have hgg := (hg.trans g3).trans g4
    refine s_forG (K := K) hgg (ei_tup (ev_prp (ev_d rfl (Mo.mo _ _ _ hgg.bb px)) (spv fun vs B3 _ h => ⟨ws, ds, h, rfl⟩))) (fun i σ' B' H' => ∃ vl' t1 t2 t3, σ' = [some x, some y, some vl', some vb2, t1, t2, t3] ∧ Dp K B' vl' (TuI (gpass L ((ds.take i).map swp))) ∧ Dp K B' vb2 (TuI L)) (fun B1 H1 g1 => ⟨vl, t1, t2, t3, rfl, dp_mono g1.bb _ _ hm4, dp_mono g1.bb _ _ p4⟩) ?_ ?_
    · rintro i v σ2 B5 H5 B6 H6 dd N' ⟨vl', t1, t2, t3, rfl, h1, h2⟩ hg5 g6 hdd dv fin
      obtain ⟨d, hd, rfl⟩ := map_get hdd
      have hdm := List.mem_of_getElem? hd
      have tk : ds.take (i + 1) = ds.take i ++ [d] := by rw [List.take_add_one, hd]; rfl
      have sn : gpass L ((ds.take (i + 1)).map swp) = gstep (gpass L ((ds.take i).map swp)) (swp d) := by
        rw [tk]
        rw [List.map_append]
        exact List.foldl_append
      have sl : (gpass L ((ds.take i).map swp)).length ≤ L.length := gpass_sub.length_le
      have h1' := dp_mono g6.bb _ _ h1
      have h2' := dp_mono g6.bb _ _ h2
      refine g_tup2 g6.bh dv fun x1 x2 q1 q2 => ?_
      refine s_ifn g6.bh (et_not (et_test (ev_call (ea_cons (ev_D rfl q1) (ea_cons (ev_D rfl h1') ea_nil)) (spv fun vs B7 _ h => ⟨d.1, _, h, (hs.2 d hdm).1, rfl⟩)))) (fun htc B7 H7 g7 => ?_) fun htc B7 H7 g7 => ?_
      · have htf : touch d.1 (gpass L ((ds.take i).map swp)) = false := by simpa using htc
        refine s_asg g7.bh (P := Da K (TuI (gpass L ((ds.take (i + 1)).map swp)))) (ev_is (ev_cb (ea_cons (ev_lcIf (gpass L ((ds.take i).map swp)) .int (fun b => !decide (b ∈ d.2)) (fun b => b) (ei_tup (ev_D rfl (dp_mono g7.bb _ _ h1'))) (by omega) fun a u B8 ha e8 du => lt_name rfl (et_test (ev_op (ev_var (by rw [dp_int_inv du]; rfl)) (ev_D rfl (dp_mono (g7.bb.trans e8) _ _ q2)) ov_niTI)) fun _ => ev_D rfl du) ea_nil) cv_tuple) ?_) fun v8 B8 H8 g8 p8 => fin _ B8 H8 (((hg5.trans g6).trans g7).trans g8) (g7.bb.trans g8.bb) ⟨v8, _, _, _, rfl, p8, dp_mono (g7.bb.trans g8.bb) _ _ h2'⟩
        rw [sn]
        unfold gstep
        rw [if_neg (by show ¬ touch d.1 _ = true; rw [htf]; exact Bool.false_ne_true), List.map_id']
        try rfl
      · have htf : touch d.1 (gpass L ((ds.take i).map swp)) = true := by simpa using htc
        refine fin _ B7 H7 ((hg5.trans g6).trans g7) g7.bb ⟨vl', _, _, _, rfl, ?_, dp_mono g7.bb _ _ h2'⟩
        rw [sn]
        unfold gstep
        rw [if_pos (show touch (swp d).2 _ = true from htf)]
        exact dp_mono g7.bb _ _ h1'
    · rintro σ2 B5 H5 hg5 _ ⟨vl', t1, t2, t3, rfl, h1, h2⟩
      rw [List.length_map, List.take_length] at h1
      have hsb : (gpass L (ds.map swp)).Sublist L := gpass_sub
      refine ⟨_, B5, ?_, vl', vb2, t1, t2, t3, gpass L (ds.map swp), L, rfl, h1, h2, hg5, hsb.trans hsub, fun Z hZ hZx => gpass_keep (fun _ h => h) hZ (hall Z hZ hZx), .inr rfl, rfl⟩
      rw [if_neg hne]
      by_cases z : gpass L (ds.map swp) = L
      · rw [if_pos z, z]
        omega
      · rw [if_neg z]
        have hlt : (gpass L (ds.map swp)).length < L.length := by
          rcases Nat.lt_or_ge (gpass L (ds.map swp)).length L.length with h | h
          · exact h
          · exact absurd (hsb.eq_of_length_le h) z
        omega
  · have he : L = bef := by simpa using hfl
    subst he
    have hok : ∀ d, d ∈ (ds.map swp) → touch d.2 L = false → touch d.1 L = false := by
      rcases hor with ⟨z1, z2⟩ | z
      · intro d _ _
        rw [z1]
        exact touch_no.mpr fun x _ h => by cases h
      · intro d hd h2
        cases h1 : touch d.1 L with
        | false => rfl
        | true =>
          have := gstep_fix (gpass_fix z.symm d hd) h1
          rw [h2] at this
          cases this
    exact s_ret g3.bh (ev_D rfl (dp_mono g3.bb _ _ hm)) fun v B4 H4 g4 p4 => q v B4 H4 ((hg.trans g3).trans g4) ⟨L, ⟨hsub, hok, hall⟩, p4⟩
abbrev s_drain_in : Stmt := topS 58
abbrev N_drain_in : List Str := ["net", "boxes"]
theorem sc_drain_in : FnScope N_drain_in ["net", "boxes"] (defScope s_drain_in) := ⟨rfl, rfl, rfl, by decide +kernel, rfl, by decide +kernel, by decide +kernel⟩
def spDIn (K : PySem.W.Frag) (C : Addr) : Sp := pSp fun vs B S => ∃ (ws : List Int) (ds : List Deed) (xs : List Int), All2 [NetP K C ws ds, Da K (TuI xs)] vs B ∧ Sml ds ∧ xs.length ≤ 1000 ∧ IsSet ws.length xs ∧ S = GPD K ds xs
theorem ok_drain_in (F : FunC K mg "drain_in" "drain_in" s_drain_in) (c_need_boxes : Cal P w K mg base "need_boxes" 4 ["net", "thing"] (spNeedB K C)) (c_greatest_drain : Cal P w K mg base "greatest_drain" 3 ["net", "boxes"] (spGD K C)) : Cal P w K mg base "drain_in" 5 ["net", "boxes"] (spDIn K C) := by
  refine F.cal sc_drain_in (fun _ _ _ _ _ _ us hl => match us, hl with | [_, _], _ => rfl) (fun vs H Q E h => by obtain ⟨_, _, _, ⟨_, _, _, h, _⟩, _⟩ := h; exact all2_len h) (fun f cdv A outer s H vs Q E hr h => ?_)
  obtain ⟨B, S, e, ⟨ws, ds, xs, p, hs, hl, hset, rfl⟩, q⟩ := h
  obtain ⟨x, y, rfl, px, py⟩ := all2_2 p
  refine ⟨_, (pss_cons (ps_expr (pe_cal c_need_boxes hr (by rfl) (pa_cons (pv 0) (pa_cons (pv 1) pa_nil))))
      (pss_one (ps_ret (pe_cal c_greatest_drain hr (by rfl) (pa_cons (pv 0) (pa_cons (pv 1) pa_nil)))))), ?_⟩
  refine q_drop e (ev_call (ea_cons (ev_d rfl px) (ea_cons (ev_D rfl py) ea_nil)) (spv fun vs B3 _ h => ⟨ws, ds, xs, h, hl, hset, rfl⟩)) fun B1 H1 g1 => ?_
  exact s_ret g1.bh (ev_call (ea_cons (ev_d rfl (Mo.mo _ _ _ g1.bb px)) (ea_cons (ev_D rfl (dp_mono g1.bb _ _ py)) ea_nil)) (spv fun vs B3 _ h => ⟨ws, ds, xs, h, hs, hl, rfl⟩)) fun v B2 H2 g2 p => q v B2 H2 (g1.trans g2) p
end
end CN
set_option Elab.async false
set_option linter.all false
set_option maxRecDepth 100000
set_option maxHeartbeats 4000000
/-! D10: after; the making. -/
namespace CN
open PySem PySem.Spec PyProof.Rows L2 CM
section
variable {P : Program} {w : World} {K : PySem.W.Frag} {mg : Str → Option Value} {base : Heap} {C : Addr}
abbrev s_after : Stmt := topS 62
abbrev N_after : List Str := ["net", "state", "number"]
theorem sc_after : FnScope N_after ["net", "state", "number"] (defScope s_after) := ⟨rfl, rfl, rfl, by decide +kernel, rfl, by decide +kernel, by decide +kernel⟩
def spAfter (K : PySem.W.Frag) (C : Addr) : Sp := pSp fun vs B S => ∃ (ws : List Int) (ds : List Deed) (st : List Int) (i : Nat) (d : Deed), All2 [NetP K C ws ds, Da K (TuI st), Xv (.int (i : Int))] vs B ∧ st.length = ws.length ∧ st.length ≤ 1000 ∧ (∀ x, x ∈ st → 0 ≤ x) ∧ ds[i]? = some d ∧ ds.length < 1000 ∧ Inr st.length d.1 ∧ d.1.length ≤ 1000 ∧ canDo d st = true ∧ S = Da K (TuI (movedS d st))
theorem ok_after (F : FunC K mg "after" "after" s_after) (c_need_state : Cal P w K mg base "need_state" 3 ["net", "thing"] (spNeedS K C)) (c_need_number : Cal P w K mg base "need_number" 3 ["net", "thing"] (spNeedI K C)) (c_can_do : Cal P w K mg base "can_do" 1 ["deed", "state"] (spCan K)) (c_moved : Cal P w K mg base "moved" 1 ["deed", "state"] (spMoved K)) (c_Net_ddgetitemdd : CalM P w K mg base C "__getitem__" 3 (spItem K C)) :
    Cal P w K mg base "after" 5 ["net", "state", "number"] (spAfter K C) := by
  refine F.cal sc_after (fun _ _ _ _ _ _ us hl => match us, hl with | [_, _, _], _ => rfl) (fun vs H Q E h => by obtain ⟨_, _, _, ⟨_, _, _, _, _, h, _⟩, _⟩ := h; exact all2_len h) (fun f cdv A outer s H vs Q E hr h => ?_)
  obtain ⟨B, S, e, ⟨ws, ds, st, i, d, p, hl, hl2, hz, hd, hdl, hin, hd1, hcan, rfl⟩, q⟩ := h
  obtain ⟨x, y, z, rfl, px, py, pz⟩ := all2_3 p
  obtain rfl : z = V.int (i : Int) := pz
  refine ⟨_, (pss_cons (ps_expr (pe_cal c_need_state hr (by rfl) (pa_cons (pv 0) (pa_cons (pv 1) pa_nil))))
      (pss_cons (ps_expr (pe_cal c_need_number hr (by rfl) (pa_cons (pv 0) (pa_cons (pv 2) pa_nil))))
      (pss_cons (ps_if (pt_not (pt_val (pe_cal c_can_do hr (by rfl) (pa_cons (pe_ixO c_Net_ddgetitemdd hr (pv 0) (pv 2) (fun _ _ => rfl)) (pa_cons (pv 1) pa_nil))))) (pss_one ps_never) pss_nil)
      (pss_one (ps_ret (pe_cal c_moved hr (by rfl) (pa_cons (pe_ixO c_Net_ddgetitemdd hr (pv 0) (pv 2) (fun _ _ => rfl)) (pa_cons (pv 1) pa_nil)))))))), ?_⟩
  refine q_drop e (ev_call (ea_cons (ev_d rfl px) (ea_cons (ev_D rfl py) ea_nil)) (spv fun vs B3 _ h => ⟨ws, ds, st, h, hl, hl2, hz, rfl⟩)) fun B1 H1 g1 => ?_
  have px1 := Mo.mo _ _ _ g1.bb px
  have py1 := dp_mono g1.bb _ _ py
  refine q_drop g1.bh (ev_call (ea_cons (ev_d rfl px1) (ea_cons (ev_var rfl) ea_nil)) (spv fun vs B3 _ h => ⟨ws, ds, i, h, (List.getElem?_eq_some_iff.mp hd).1, hdl, rfl⟩)) fun B2 H2 g2 => ?_
  have px2 := Mo.mo _ _ _ g2.bb px1
  have py2 := dp_mono g2.bb _ _ py1
  refine q_not g2.bh (et_not (x := true) (et_test (ev_bl (ev_call (ea_cons (ev_ixO (ev_d rfl px2) (ev_var rfl) (spv fun vs B3 _ h => ⟨ws, ds, i, d, h, hd, rfl⟩)) (ea_cons (ev_D rfl py2) ea_nil)) (spv fun vs B3 _ h => ⟨d, st, h, hin, hd1, rfl⟩)) hcan))) fun B3 H3 g3 => ?_
  have px3 := Mo.mo _ _ _ g3.bb px2
  have py3 := dp_mono g3.bb _ _ py2
  exact s_ret g3.bh (ev_call (ea_cons (ev_ixO (ev_d rfl px3) (ev_var rfl) (spv fun vs B3 _ h => ⟨ws, ds, i, d, h, hd, rfl⟩)) (ea_cons (ev_D rfl py3) ea_nil)) (spv fun vs B3 _ h => ⟨d, st, h, hl2, rfl⟩)) fun v B4 H4 g4 p => q v B4 H4 (((g1.trans g2).trans g3).trans g4) p
/-! ### the making -/
abbrev s_Net_ddinitdd : Stmt := inClass (topS 40) 1
abbrev N_Net_ddinitdd : List Str := ["self", "worths", "deeds"]
theorem sc_Net_ddinitdd : FnScope N_Net_ddinitdd ["self", "worths", "deeds"] (defScope s_Net_ddinitdd) := ⟨rfl, rfl, rfl, by decide +kernel, rfl, by decide +kernel, by decide +kernel⟩
def spInit0 (K : PySem.W.Frag) (C : Addr) : Sp := fun vs H Q _ => ∃ (B : Hp) (x dx : Addr) (v d : V) (ws : List Int) (ds : List Deed), vs = [.ref x, v, d] ∧ Same B H ∧ B x = none ∧ H x = some (.ins C dx []) ∧ Dp K B v (TuI ws) ∧ Dp K B d (.tuple (ds.map DD)) ∧ NetOk ws ds ∧
  ∀ B' H' v1 v2, Gr B H B' H' → H' x = some (.ins C dx []) → B' x = none → Dp K B' v1 (TuI ws) → Dp K B' v2 (.tuple (ds.map DD)) → Q .non (upd H' x (.ins C dx [("coins", v1), ("row", v2)]))
def spInit (K : PySem.W.Frag) (C : Addr) : Sp := fun vs H Q E => ∃ ws rest, vs = ws ++ rest ∧ ws.length = (["self", "worths"] : List Str).length ∧ rest.length ≤ sizeLine ∧ ∀ p, H p = none → spInit0 K C (ws ++ [V.ref p]) (upd H p (.tup rest)) Q E
theorem putF_row (v1 v2 : V) : putF "row" v2 (putF "coins" v1 []) = [((("coins" : Str), v1) : Str × V), ("row", v2)] := by
  show putF "row" v2 [((("coins" : Str), v1) : Str × V)] = _
  unfold putF
  rw [if_neg (by decide)]
  rfl
theorem upd_up {H : Hp} {x : Addr} {o1 o2 : HO} : upd (upd H x o1) x o2 = upd H x o2 := by
  funext a
  by_cases h : a = x
  · rw [h, upd_same, upd_same]
  · rw [upd_ne h, upd_ne h, upd_ne h]
theorem ok_init {f : Addr} {fd : FuncData} (Fn : Fun K "__init__" "Net.__init__" s_Net_ddinitdd f fd) (M : L2.Mk K C f) (N : NetF K mg C) (T : Z mg) (c_are_worths : Cal P w K mg base "are_worths" 3 ["thing"] (spWorths K)) (c_check_deeds : Cal P w K mg base "check_deeds" 5 ["worths", "deeds"] (spCheck K)) : CalI P w K mg base C 6 (spInit K C) := by
  refine ⟨f, ?_, M⟩
  obtain ⟨oc, od, kV, doc, pm, an, cdv, ct, osl, rfl, lk, hcd⟩ := Fn.ex
  refine StX.fn_star (ps := ["self", "worths"]) (pv := "deeds") lk hcd sc_Net_ddinitdd StX.cxUp_none
    (StX.bind_star2 (B := fun xs => bindArgs (PySem.W.fnOf "__init__" "Net.__init__" (defArgs s_Net_ddinitdd) (defBody s_Net_ddinitdd) (defScope s_Net_ddinitdd) .none kV doc pm an cdv ct) ⟨xs, []⟩) (fun _ _ => rfl) (fun _ _ _ _ => rfl)) (sp := spInit0 K C) fun A outer s H vs Q E hr h => ?_
  obtain ⟨B, x, dx, v, d, ws, ds, rfl, e, hBx, hHx, pv', pd, ok, q⟩ := h
  have hw5 := ok.w5
  refine ⟨_, PSs.nox (pss_cons (ps_if (pt_not (pt_val (pe_cal c_are_worths hr (by rfl) (pa_cons (pv 1) pa_nil)))) (pss_one ps_never) pss_nil)
      (pss_cons (ps_expr (pe_cal c_check_deeds hr (by rfl) (pa_cons (pv 1) (pa_cons (pv 2) pa_nil))))
      (pss_one (ps_asg (pe_tup (pa_cons (pv 1) (pa_cons (pv 2) pa_nil))) (kg_tup (K := K) rfl (pgs_cons (pg_fld (pv 0)) (pgs_cons (pg_fld (pv 0)) pgs_nil))))))), ?_⟩
  refine q_not e (et_not (x := true) (et_test (ev_call (ea_cons (ev_D rfl pv') ea_nil) (spv fun vs B3 _ h => ⟨ws, h, by omega, ok.w, rfl⟩)))) fun B1 H1 g1 => ?_
  have pv1 := dp_mono g1.bb _ _ pv'
  have pd1 := dp_mono g1.bb _ _ pd
  refine q_drop g1.bh (ev_call (ea_cons (ev_D rfl pv1) (ea_cons (ev_D rfl pd1) ea_nil)) (spv fun vs B3 _ h => ⟨ws, ds, h, ok, rfl⟩)) fun B2 H2 g2 => ?_
  have pv2 := dp_mono g2.bb _ _ pv1
  have pd2 := dp_mono g2.bb _ _ pd1
  refine ev_tup [TuI ws, .tuple (ds.map DD)] (ea_cons (ev_D rfl pv2) (ea_cons (ev_D rfl pd2) ea_nil)) (by simp) B2 H2 (Same.refl _) g2.bh _ fun u B3 H3 g3 p3 => ?_
  have gg := (g1.trans g2).trans g3
  have hx3 := gg.hh _ _ hHx
  have hb3 := gg.unk hHx hBx
  obtain ⟨a, us, rfl, hs, ha⟩ := dp_tup_inv p3
  cases ha with
  | cons h1 h2 =>
    cases h2 with
    | cons h3 h4 =>
      cases h4
      refine ⟨a, _, rfl, sqt_mono g3.bh hs, rfl, _, _, rfl, .ref x, rfl, x, C, dx, [], rfl, hx3, N.cls, N.nc, by decide, _, _, rfl, .ref x, rfl, x, C, dx, _, rfl, upd_same, N.cls, N.nr, by simp [putF], rfl, ?_⟩
      rename_i x1 x2
      rw [upd_up, putF_row]
      exact q B3 H3 x1 x2 gg hx3 hb3 h1 h3
end
end CN
set_option Elab.async false
set_option linter.all false
set_option maxRecDepth 100000
set_option maxHeartbeats 4000000
/-! D11: texts. -/
namespace CN
open PySem PySem.Spec PyProof.Rows L2 CM
section
variable {K : PySem.W.Frag} {σ : L2.St} {B : Hp} {to te : TE}
theorem ev_join {sep : Str} {ys : List Str} (h : EV to σ B (Xv (.str sep))) (h2 : EV te σ B (Da K (LiS ys))) (hl : (ys.map (·.length)).sum + ys.length * sep.length ≤ 16777216) :
    EV (tM1 (fun x xs H Q => ∃ a p, ∃ ys : List Str, x = .str a ∧ xs = [.ref p] ∧ (SqL K H p (ys.map V.str) ∨ SqT K H p (ys.map V.str)) ∧ (ys.map (·.length)).sum + ys.length * a.length ≤ 16777216 ∧ Q (.str (Txt.join a ys)) H) to te) σ B (Xv (.str (Txt.join sep ys))) := fun B1 H a b Q q => h B1 H a b _ fun v B2 H2 g2 p => by
  obtain rfl : v = V.str sep := p
  refine ⟨⟨sep, rfl⟩, h2 B2 H2 (a.trans g2.bb) g2.bh _ fun u B3 H3 g3 pu => ?_⟩
  obtain ⟨l, xs, rfl, hs, ha⟩ := dp_lst_inv pu
  rw [dpa_strs_inv ys ha] at hs
  exact ⟨sep, l, ys, rfl, rfl, .inl (sql_mono g3.bh hs), hl, q _ B3 H3 (g2.trans g3) rfl⟩
theorem ev_split {x sep : Str} (h : EV to σ B (Xv (.str x))) (h2 : EV te σ B (Xv (.str sep))) (hs : (sep.length == 0) = false) (hl : x.length ≤ 100000) :
    EV (tM1 (fun x xs H Q => ∃ a b, x = .str a ∧ xs = [.str b] ∧ (b.length == 0) = false ∧ a.length + 2 ≤ sizeLine ∧ rNewStrs (Txt.split a b) H Q) to te) σ B (Da K (LiS (Txt.split x sep))) := fun B1 H a b Q q => h B1 H a b _ fun v B2 H2 g2 p => by
  obtain rfl : v = V.str x := p
  refine ⟨⟨x, rfl⟩, h2 B2 H2 (a.trans g2.bb) g2.bh _ fun u B3 H3 g3 pu => ?_⟩
  obtain rfl : u = V.str sep := pu
  exact ⟨x, sep, rfl, rfl, hs, Nat.le_trans (Nat.add_le_add_right hl 2) (by decide), fun l hl => q _ _ _ ((g2.trans g3).trans (.new g3.bh hl)) (dp_lst upd_same (dpa_strs _))⟩
theorem ev_ends {x y : Str} (h : EV to σ B (Xv (.str x))) (h2 : EV te σ B (Xv (.str y))) :
    EV (tM1 (fun x xs H Q => ∃ a b, x = .str a ∧ xs = [.str b] ∧ Q (.bl (Txt.endswith a b)) H) to te) σ B (Xv (.bl (Txt.endswith x y))) := fun B1 H a b Q q => h B1 H a b _ fun v B2 H2 g2 p => by
  obtain rfl : v = V.str x := p
  refine ⟨⟨x, rfl⟩, h2 B2 H2 (a.trans g2.bb) g2.bh _ fun u B3 H3 g3 pu => ?_⟩
  obtain rfl : u = V.str y := pu
  exact ⟨x, y, rfl, rfl, q _ B3 H3 (g2.trans g3) rfl⟩
theorem ov_inC {c : Nat} {z : Str} : OV (rInA K) B (Xv (.str ⟨#[c]⟩)) (Xv (.str z)) (Xv (.bl (decide (c ∈ z.cps.toList)))) := OV.r fun a b B1 H _ e pa pb Q q => ⟨c, z, pa, pb, q _ B1 H (.refl e) rfl⟩
theorem ev_str {d : Int} (h : EV te σ B (Xv (.int d))) (hd : 0 ≤ d ∧ d ≤ 9) : EV (tCB rStrI (tCons te tNil)) σ B (Xv (.str (ts d))) := ev_cb (ea_cons h ea_nil) (cv_stri (by
  have h2 : d.natAbs < 10 := by omega
  exact Nat.lt_of_lt_of_le ((by decide : ∀ n < 10, Nat.log2 n < 10) _ h2) (by decide)))
end
theorem ts_len {d : Int} (h : 0 ≤ d ∧ d ≤ 9) : (ts d).length = 1 := by rw [ts_dg h]; rfl
theorem sum_ts : ∀ {xs : List Int}, Dig xs → ((xs.map ts).map (·.length)).sum = xs.length
  | [], _ => rfl
  | d :: xs, h => by
    rw [List.map_cons, List.map_cons, List.sum_cons, sum_ts fun x hx => h x (List.mem_cons_of_mem _ hx), ts_len (h d List.mem_cons_self), List.length_cons]
    omega
theorem sp_len : (" " : Str).length = 1 := by decide
section
variable {P : Program} {w : World} {K : PySem.W.Frag} {mg : Str → Option Value} {base : Heap} {C : Addr}
abbrev s_numbers_text : Stmt := topS 28
abbrev N_numbers_text : List Str := ["numbers", "one"]
theorem sc_numbers_text : FnScope N_numbers_text ["numbers"] (defScope s_numbers_text) := ⟨rfl, rfl, rfl, by decide +kernel, rfl, by decide +kernel, by decide +kernel⟩
def spNums (K : PySem.W.Frag) : Sp := pSp fun vs B S => ∃ xs : List Int, All2 [Da K (TuI xs)] vs B ∧ Dig xs ∧ xs.length ≤ 100 ∧ S = Xv (.str (nums xs))
theorem ok_numbers_text (F : FunC K mg "numbers_text" "numbers_text" s_numbers_text) (T : Z mg) : Cal P w K mg base "numbers_text" 1 ["numbers"] (spNums K) := by
  refine F.cal sc_numbers_text (fun _ _ _ _ _ _ us hl => match us, hl with | [_], _ => rfl) (fun vs H Q E h => by obtain ⟨_, _, _, ⟨_, h, _⟩, _⟩ := h; exact all2_len h) (fun f cdv A outer s H vs Q E hr h => ?_)
  obtain ⟨B, S, e, ⟨xs, p, hd, hl, rfl⟩, q⟩ := h
  obtain ⟨x, rfl, px⟩ := all2_1 p
  refine ⟨_, (pss_one (ps_ret (pe_join pe_str (pe_lc (own := [("one", 1)]) (g := gName 1) (tt := tYes) rfl sc_numbers_text.nd (ki_seq (K := K) (pv 0)) (blkOk_by (own := [("one", 1)]) (N := N_numbers_text) (sc := defScope s_numbers_text) (by decide +kernel)) (fun _ _ _ _ _ => (pg_name (i := 1) sc_numbers_text.nd rfl (Or.inl rfl))) (fun _ _ _ _ _ => pts_nil) (fun _ _ _ _ _ => (pe_callTy ac_str (by rfl) T.z_str (by decide +kernel) (pa_cons (pv 1) pa_nil))))))), ?_⟩
  exact s_ret e (ev_join (K := K) ev_c (ev_lcS xs .int ts (ei_tup (ev_D rfl px)) (by omega) fun a v B2 ha e2 dv => lt_name rfl et_yes fun _ => ev_s (ev_str (ev_var (by rw [dp_int_inv dv]; rfl)) (hd a ha))) (by rw [sum_ts hd, List.length_map, sp_len]; omega)) q
abbrev s_net_lines : Stmt := topS 29
abbrev N_net_lines : List Str := ["worths", "deeds", "takes", "puts"]
theorem sc_net_lines : FnScope N_net_lines ["worths", "deeds"] (defScope s_net_lines) := ⟨rfl, rfl, rfl, by decide +kernel, rfl, by decide +kernel, by decide +kernel⟩
/-- small figures -/
structure TxtOk (ws : List Int) (ds : List Deed) : Prop where
  w : Dig ws
  w1 : ws ≠ []
  wl : ws.length ≤ 10
  d : ∀ d, d ∈ ds → (Dig d.1 ∧ Dig d.2) ∧ (d.1 ≠ [] ∧ d.2 ≠ []) ∧ d.1.length ≤ 10 ∧ d.2.length ≤ 10
  l : ds.length ≤ 10
theorem ar_len : (" > " : Str).length = 3 := by decide
theorem hd_len : ("worths " : Str).length = 7 := by decide
theorem app_len (x y : Str) : (x ++ y).length = x.length + y.length := by rw [TL.len_tl, TL.tl_append, List.length_append, ← TL.len_tl, ← TL.len_tl]
def spLines (K : PySem.W.Frag) : Sp := pSp fun vs B S => ∃ (ws : List Int) (ds : List Deed), All2 [Da K (TuI ws), Da K (.tuple (ds.map DD))] vs B ∧ TxtOk ws ds ∧ S = Da K (LiS (lnsOf ws ds))
theorem ok_net_lines (F : FunC K mg "net_lines" "net_lines" s_net_lines) (T : Z mg) (c_numbers_text : Cal P w K mg base "numbers_text" 1 ["numbers"] (spNums K)) : Cal P w K mg base "net_lines" 2 ["worths", "deeds"] (spLines K) := by
  refine F.cal sc_net_lines (fun _ _ _ _ _ _ us hl => match us, hl with | [_, _], _ => rfl) (fun vs H Q E h => by obtain ⟨_, _, _, ⟨_, _, h, _⟩, _⟩ := h; exact all2_len h) (fun f cdv A outer s H vs Q E hr h => ?_)
  obtain ⟨B, S, e, ⟨ws, ds, p, ok, rfl⟩, q⟩ := h
  obtain ⟨x, y, rfl, px, py⟩ := all2_2 p
  have hl := ok.l
  have hwl := ok.wl
  refine ⟨_, (pss_one (ps_ret (pe_op (ko_add (K := K)) (pe_lst (pa_cons (pe_op (ko_add (K := K)) (pe_gs (by rfl) T.c_HEAD) (pe_cal c_numbers_text hr (by rfl) (pa_cons (pv 0) pa_nil))) pa_nil)) (pe_lc (own := [("takes", 2), ("puts", 3)]) (g := gTup K 2 (gCons (gName 2) (gCons (gName 3) (gNil)))) (tt := tYes) rfl sc_net_lines.nd (ki_seq (K := K) (pv 1)) (blkOk_by (own := [("takes", 2), ("puts", 3)]) (N := N_net_lines) (sc := defScope s_net_lines) (by decide +kernel)) (fun _ _ _ _ _ => (kg_tup (K := K) rfl (pgs_cons (pg_name (i := 2) sc_net_lines.nd rfl (Or.inl rfl)) (pgs_cons (pg_name (i := 3) sc_net_lines.nd rfl (Or.inl rfl)) pgs_nil)))) (fun _ _ _ _ _ => pts_nil) (fun _ _ _ _ _ => (pe_op (ko_add (K := K)) (pe_op (ko_add (K := K)) (pe_cal c_numbers_text hr (by rfl) (pa_cons (pv 2) pa_nil)) (pe_gs (by rfl) T.c_ARROW)) (pe_cal c_numbers_text hr (by rfl) (pa_cons (pv 3) pa_nil)))))))), ?_⟩
  have hn := nums_len ok.w
  refine s_ret e (ev_is (ev_da (ev_op (ev_lstL (K := K) [.str (headOf ws)] (ea_cons (ev_s (ev_op ev_c (ev_call (ea_cons (ev_D rfl px) ea_nil) (spv fun vs B3 _ h => ⟨ws, h, ok.w, by omega, rfl⟩)) (ov_addS (by rw [hd_len]; omega)))) ea_nil) (by simp)) (ev_lcL0 ds DD (fun d => .str (lineOf d)) (ei_tup (ev_D rfl py)) (by omega) fun a v B2 ha e2 dv => ?_) (ov_addL (by rw [List.length_map]; show 1 + _ ≤ _; omega)))) ?_) q
  · obtain ⟨⟨o1, o2⟩, _, l1, l2⟩ := ok.d a ha
    have n1 := nums_len o1
    have n2 := nums_len o2
    exact lt_tup2 dv (fun _ _ => rfl) (fun _ _ _ _ => et_yes) fun x1 x2 d1 d2 _ => ev_s (ev_op (ev_op (ev_call (ea_cons (ev_D rfl d1) ea_nil) (spv fun vs B3 _ h => ⟨a.1, h, o1, by omega, rfl⟩)) ev_c (ov_addS (by rw [ar_len]; omega))) (ev_call (ea_cons (ev_D rfl d2) ea_nil) (spv fun vs B3 _ h => ⟨a.2, h, o2, by omega, rfl⟩)) (ov_addS (by rw [app_len, ar_len]; omega)))
  · show PyData.list _ = PyData.list ((lnsOf ws ds).map .str)
    unfold lnsOf
    rw [List.map_cons, List.map_map]
    rfl
abbrev s_digit_in : Stmt := topS 30
abbrev N_digit_in : List Str := ["word"]
theorem sc_digit_in : FnScope N_digit_in ["word"] (defScope s_digit_in) := ⟨rfl, rfl, rfl, by decide +kernel, rfl, by decide +kernel, by decide +kernel⟩
def spDig (K : PySem.W.Frag) : Sp := pSp fun vs B S => ∃ d : Int, All2 [Xv (.str (dg d))] vs B ∧ (0 ≤ d ∧ d ≤ 9) ∧ S = Xv (.int d)
theorem dg_text : ∀ n : Nat, n < 10 → PySem.intText? (⟨#[48 + n]⟩ : Str) = some (n : Int) := by decide +kernel
theorem dg_in : ∀ n : Nat, n < 10 → decide ((48 + n) ∈ ("0123456789" : Str).cps.toList) = true := by decide +kernel
theorem ok_digit_in (F : FunC K mg "digit_in" "digit_in" s_digit_in) (T : Z mg) : Cal P w K mg base "digit_in" 1 ["word"] (spDig K) := by
  refine F.cal sc_digit_in (fun _ _ _ _ _ _ us hl => match us, hl with | [_], _ => rfl) (fun vs H Q E h => by obtain ⟨_, _, _, ⟨_, h, _⟩, _⟩ := h; exact all2_len h) (fun f cdv A outer s H vs Q E hr h => ?_)
  obtain ⟨B, S, e, ⟨d, p, hd, rfl⟩, q⟩ := h
  obtain ⟨x, rfl, px⟩ := all2_1 p
  obtain rfl : x = V.str (dg d) := px
  have hu := hr.units
  have hn : d.toNat < 10 := by omega
  have e1 := dg_text d.toNat hn
  rw [Int.toNat_of_nonneg hd.1] at e1
  refine ⟨_, (pss_one (ps_ret (pe_ifExp (PW.pt (pw_and (pt_cmpR (ko_eq hu (K := K)) (pe_callB (ko_len (K := K)) (by rfl) T.z_len (by decide +kernel) (pa_cons (pv 0) pa_nil)) pe_int (nomark _)) (pw_and1 (pt_cmpR (ko_in (K := K)) (pv 0) pe_str rfl)))) (pe_callTy ac_int (by rfl) T.z_int (by decide +kernel) (pa_cons (pv 0) pa_nil)) pe_int))), ?_⟩
  refine s_ret e (ev_if (b := true) (et_is (et_and (et_test (ev_op (ev_cb (ea_cons (ev_var rfl) ea_nil) (cv_lens (by show 1 ≤ _; omega))) ev_c ov_eqi)) fun _ => et_test (ev_op (P := Xv (.str (dg d))) (ev_var rfl) ev_c (ov_inC (c := 48 + d.toNat)))) ?_) (fun _ => ev_cb (ea_cons (ev_var rfl) ea_nil) (cv_ints e1 (by show 1 ≤ _; omega))) fun z => by cases z) q
  rw [dg_in d.toNat hn]
  rfl
abbrev s_numbers_in : Stmt := topS 31
abbrev N_numbers_in : List Str := ["part", "word"]
theorem sc_numbers_in : FnScope N_numbers_in ["part"] (defScope s_numbers_in) := ⟨rfl, rfl, rfl, by decide +kernel, rfl, by decide +kernel, by decide +kernel⟩
def spNumsIn (K : PySem.W.Frag) : Sp := pSp fun vs B S => ∃ xs : List Int, All2 [Xv (.str (nums xs))] vs B ∧ Dig xs ∧ xs ≠ [] ∧ xs.length ≤ 100 ∧ S = Da K (TuI xs)
theorem ok_numbers_in (F : FunC K mg "numbers_in" "numbers_in" s_numbers_in) (T : Z mg) (c_digit_in : Cal P w K mg base "digit_in" 1 ["word"] (spDig K)) : Cal P w K mg base "numbers_in" 2 ["part"] (spNumsIn K) := by
  refine F.cal sc_numbers_in (fun _ _ _ _ _ _ us hl => match us, hl with | [_], _ => rfl) (fun vs H Q E h => by obtain ⟨_, _, _, ⟨_, h, _⟩, _⟩ := h; exact all2_len h) (fun f cdv A outer s H vs Q E hr h => ?_)
  obtain ⟨B, S, e, ⟨xs, p, hd, hne, hl, rfl⟩, q⟩ := h
  obtain ⟨x, rfl, px⟩ := all2_1 p
  obtain rfl : x = V.str (nums xs) := px
  have hn := nums_len hd
  refine ⟨_, (pss_one (ps_ret (pe_callTy (ko_tuple (K := K)) (by rfl) T.z_tuple (by decide +kernel) (pa_cons (pe_lc (own := [("word", 1)]) (g := gName 1) (tt := tYes) rfl sc_numbers_in.nd (ki_seq (K := K) (pe_split (pv 0) pe_str)) (blkOk_by (own := [("word", 1)]) (N := N_numbers_in) (sc := defScope s_numbers_in) (by decide +kernel)) (fun _ _ _ _ _ => (pg_name (i := 1) sc_numbers_in.nd rfl (Or.inl rfl))) (fun _ _ _ _ _ => pts_nil) (fun _ _ _ _ _ => (pe_cal c_digit_in hr (by rfl) (pa_cons (pv 1) pa_nil)))) pa_nil)))), ?_⟩
  have hi := ev_split (K := K) (σ := start N_numbers_in [V.str (nums xs)]) (B := B) (to := tVar 0) (te := tC (.str " ")) (ev_var rfl) ev_c (by decide) (by omega)
  rw [split_nums hd hne] at hi
  refine s_ret e (ev_cb (ea_cons (ev_lcI xs (fun d => .str (ts d)) (fun d => d) (ei_lst (ev_is hi (by show PyData.list ((xs.map ts).map .str) = _; rw [List.map_map] <;> rfl))) (by omega) fun a v B2 ha e2 dv => lt_name rfl et_yes fun _ => ev_i (ev_call (ea_cons (ev_var rfl) ea_nil) (spv fun vs B3 _ h => ⟨a, by rw [dp_str_inv dv, ts_dg (hd a ha)] at h; exact h, hd a ha, rfl⟩))) ea_nil) (by rw [List.map_id']; exact cv_tuple)) q
end
end CN
set_option Elab.async false
set_option linter.all false
set_option maxRecDepth 100000
set_option maxHeartbeats 4000000
/-! D12: a net read. -/
namespace CN
open PySem PySem.Spec PyProof.Rows L2 CM
theorem TxtOk.lns {ws : List Int} {ds : List Deed} (ok : TxtOk ws ds) : ∀ y, y ∈ lnsOf ws ds → y.length ≤ 43 := fun y hy => by
  rcases List.mem_cons.mp hy with rfl | hy
  · exact Nat.le_trans (head_len ok.w ok.wl) (by decide)
  · obtain ⟨d, hd, rfl⟩ := List.mem_map.mp hy
    obtain ⟨⟨o1, o2⟩, _, l1, l2⟩ := ok.d d hd
    exact line_len o1 o2 l1 l2
theorem TxtOk.jl {ws : List Int} {ds : List Deed} (ok : TxtOk ws ds) : ((lnsOf ws ds).map (·.length)).sum + (lnsOf ws ds).length * ("\n" : Str).length ≤ 1000 := by
  have h1 := sum_le ok.lns
  have h2 : (lnsOf ws ds).length ≤ 11 := by
    have := ok.l
    unfold lnsOf
    rw [List.length_cons, List.length_map]
    omega
  have h3 : ("\n" : Str).length = 1 := by decide
  rw [h3]
  omega
theorem TxtOk.tl {ws : List Int} {ds : List Deed} (ok : TxtOk ws ds) : (textOf ws ds).length ≤ 1001 := by
  unfold textOf
  rw [app_len]
  have := Join_len "\n" (lnsOf ws ds)
  have := ok.jl
  have h3 : ("\n" : Str).length = 1 := by decide
  omega
theorem sk_lis {k : Nat} {ys : List Str} (h : ∀ y, y ∈ ys → Pln y) : Sk (k + 1) (LiS ys) := sk_lst (mem_map' fun y hy => sk_str (by simpa [PyData.canLay0] using pln_ok (h y hy)))
theorem eqv_all_refl : ∀ ys : List Str, PyData.eqvAll (ys.map .str) (ys.map .str) = true
  | [] => by simp [PyData.eqvAll]
  | y :: ys => by simp [PyData.eqvAll, PyData.eqv, eqv_all_refl ys]
theorem ev_sx {σ : L2.St} {B : Hp} {te : TE} {i j : Str} (h : EV te σ B (Xv (.str i))) (q : i = j) : EV te σ B (Xv (.str j)) := q ▸ h
section
variable {P : Program} {w : World} {K : PySem.W.Frag} {mg : Str → Option Value} {base : Heap} {C : Addr}
abbrev s_parts_in : Stmt := topS 32
abbrev N_parts_in : List Str := ["text", "lines", "worths", "deeds", "line", "part", "deed"]
theorem sc_parts_in : FnScope N_parts_in ["text"] (defScope s_parts_in) := ⟨rfl, rfl, rfl, by decide +kernel, rfl, by decide +kernel, by decide +kernel⟩
def spParts (K : PySem.W.Frag) : Sp := pSp fun vs B S => ∃ (ws : List Int) (ds : List Deed), All2 [Xv (.str (textOf ws ds))] vs B ∧ TxtOk ws ds ∧ S = Da K (.tuple [TuI ws, .tuple (ds.map DD)])
theorem ok_parts_in (F : FunC K mg "parts_in" "parts_in" s_parts_in) (T : Z mg) (c_numbers_in : Cal P w K mg base "numbers_in" 2 ["part"] (spNumsIn K)) (c_net_lines : Cal P w K mg base "net_lines" 2 ["worths", "deeds"] (spLines K)) : Cal P w K mg base "parts_in" 3 ["text"] (spParts K) := by
  refine F.cal sc_parts_in (fun _ _ _ _ _ _ us hl => match us, hl with | [_], _ => rfl) (fun vs H Q E h => by obtain ⟨_, _, _, ⟨_, _, h, _⟩, _⟩ := h; exact all2_len h) (fun f cdv A outer s H vs Q E hr h => ?_)
  obtain ⟨B, S, e, ⟨ws, ds, p, ok, rfl⟩, q⟩ := h
  obtain ⟨x, rfl, px⟩ := all2_1 p
  obtain rfl : x = V.str (textOf ws ds) := px
  have hu := hr.units
  have hl := ok.l
  have hwl := ok.wl
  have htl := ok.tl
  refine ⟨_, (pss_cons (ps_if (PW.pt (pw_or (pt_not (pt_val (pe_callB (ko_isi (K := K)) (by rfl) T.z_isinstance (by decide +kernel) (pa_cons (pv 0) (pa_cons (pe_bltn (v := .ty "str") (u := .type "str") (by rfl) T.z_str (by decide +kernel) rfl) pa_nil))))) (pw_or1 (pt_not (pt_val (pe_m1 PySem.F.slot_str_endswith PySem.F.type_str_endswith mt_endswith (pv 0) pe_str)))))) (pss_one ps_never) pss_nil)
      (pss_cons (ps_set (i := 1) sc_parts_in.nd rfl (Or.inl rfl) (pe_split (pe_slice (ko_sl (K := K)) (pv 0) po_none (po_some (pe_un un_neg pe_int))) pe_str))
      (pss_cons (ps_set (i := 2) sc_parts_in.nd rfl (Or.inl rfl) (pe_cal c_numbers_in hr (by rfl) (pa_cons (pe_slice (ko_sl (K := K)) (pe_ix (ko_ix (K := K)) (pv 1) pe_int (fun _ _ => rfl)) (po_some (pe_callB (ko_len (K := K)) (by rfl) T.z_len (by decide +kernel) (pa_cons (pe_gs (by rfl) T.c_HEAD) pa_nil))) po_none) pa_nil)))
      (pss_cons (ps_set (i := 3) sc_parts_in.nd rfl (Or.inl rfl) (pe_callTy (ko_tuple (K := K)) (by rfl) T.z_tuple (by decide +kernel) (pa_cons (pe_lc (own := [("line", 4)]) (g := gName 4) (tt := tYes) rfl sc_parts_in.nd (ki_seq (K := K) (pe_slice (ko_sl (K := K)) (pv 1) (po_some pe_int) po_none)) (blkOk_by (own := [("line", 4)]) (N := N_parts_in) (sc := defScope s_parts_in) (by decide +kernel)) (fun _ _ _ _ _ => (pg_name (i := 4) sc_parts_in.nd rfl (Or.inl rfl))) (fun _ _ _ _ _ => pts_nil) (fun _ _ _ _ _ => (pe_callTy (ko_tuple (K := K)) (by rfl) T.z_tuple (by decide +kernel) (pa_cons (pe_lc (own := [("part", 5)]) (g := gName 5) (tt := tYes) rfl sc_parts_in.nd (ki_seq (K := K) (pe_split (pv 4) (pe_gs (by rfl) T.c_ARROW))) (blk_any (blkOk_by (own := [("part", 5)]) (N := N_parts_in) (sc := defScope s_parts_in) (by decide +kernel)) (by decide +kernel)) (fun _ _ _ _ _ => (pg_name (i := 5) sc_parts_in.nd rfl (Or.inl rfl))) (fun _ _ _ _ _ => pts_nil) (fun _ _ _ _ _ => (pe_cal c_numbers_in hr (by rfl) (pa_cons (pv 5) pa_nil)))) pa_nil)))) pa_nil)))
      (pss_cons (ps_if (PW.pt (pw_or (pt_not (pt_val (pe_callB (ko_all rfl (K := K)) (by rfl) T.z_all (by decide +kernel) (pa_cons (pe_lc (own := [("deed", 6)]) (g := gName 6) (tt := tYes) rfl sc_parts_in.nd (ki_seq (K := K) (pv 3)) (blkOk_by (own := [("deed", 6)]) (N := N_parts_in) (sc := defScope s_parts_in) (by decide +kernel)) (fun _ _ _ _ _ => (pg_name (i := 6) sc_parts_in.nd rfl (Or.inl rfl))) (fun _ _ _ _ _ => pts_nil) (fun _ _ _ _ _ => (pe_cmpR (ko_eq hu (K := K)) (pe_callB (ko_len (K := K)) (by rfl) T.z_len (by decide +kernel) (pa_cons (pv 6) pa_nil)) pe_int (nomark _)))) pa_nil)))) (pw_or1 (pt_cmpR (ko_ne hu (K := K)) (pe_cal c_net_lines hr (by rfl) (pa_cons (pv 2) (pa_cons (pv 3) pa_nil))) (pv 1) (nomark _))))) (pss_one ps_never) pss_nil)
      (pss_one (ps_ret (pe_tup (pa_cons (pv 2) (pa_cons (pv 3) pa_nil)))))))))), ?_⟩
  refine q_not e (et_or (x := false) (y := false) (et_not (x := true) (et_test (ev_cb (ea_cons (ev_s (ev_var rfl)) (ea_cons ev_c ea_nil)) (cv_isi kit_ss)))) fun _ => et_not (x := true) (et_test (ev_bl (ev_ends (ev_var rfl) ev_c) (PySem.W.KT.ends_app _ _)))) fun B1 H1 g1 => ?_
  have hj : (Txt.join "\n" (lnsOf ws ds)).length ≤ 100000 := by
    have := Join_len "\n" (lnsOf ws ds)
    have := ok.jl
    omega
  have hdg : ∀ d, d ∈ ds → Dig d.1 ∧ Dig d.2 := fun d hd => (ok.d d hd).1
  refine q_asg (P := Da K (LiS (lnsOf ws ds))) g1.bh (ev_is (ev_split (K := K) (x := Txt.join "\n" (lnsOf ws ds)) (ev_sx (ev_slS (ev_var rfl) eo_none (eo_some (ev_un ev_c uv_neg)) (by omega)) (cut_last _)) ev_c (by decide) hj) (by rw [split_text ok.w hdg])) fun v2 B2 H2 g2 p2 => ?_
  have hwn := head_len ok.w ok.wl
  refine q_asg (P := Da K (TuI ws)) g2.bh (ev_call (ea_cons (ev_sx (ev_slS (K := K) (ev_xs (ev_op (ev_D rfl p2) ev_c (ov_ixl (j := 0) rfl (rfl : ((lnsOf ws ds).map PyData.str)[0]? = some (.str (headOf ws)))))) (eo_some (i := 7) (ev_cb (ea_cons ev_c ea_nil) (cv_lens (x := "worths ") (by rw [hd_len]; decide)))) eo_none (by omega)) (cut_head (nums ws))) ea_nil) (spv fun vs B3 _ h => ⟨ws, h, ok.w, ok.w1, by omega, rfl⟩)) fun v3 B3 H3 g3 p3 => ?_
  have p23 := dp_mono g3.bb _ _ p2
  refine q_asg (P := Da K (.tuple (ds.map DD))) g3.bh (ev_cb (ea_cons (ev_lc0 ds (fun d => .str (lineOf d)) DD (ei_lst (ev_is (ev_slL (ev_D rfl p23) (eo_some ev_c) eo_none) ?_)) (by omega) fun a v B4 ha e4 dv => lt_name rfl et_yes fun _ => ?_) ea_nil) cv_tuple) fun v4 B4 H4 g4 p4 => ?_
  · rw [cutD_from (by decide)]
    show PyData.list (((lnsOf ws ds).map PyData.str).drop 1) = _
    unfold lnsOf
    rw [List.map_cons, List.drop_one, List.tail_cons, List.map_map]
    rfl
  · obtain ⟨⟨o1, o2⟩, ⟨n1, n2⟩, l1, l2⟩ := ok.d a ha
    have hll := line_len o1 o2 l1 l2
    obtain rfl := dp_str_inv dv
    refine ev_cb (ea_cons (ev_lc0 [a.1, a.2] (fun xs => .str (nums xs)) TuI (ei_lst (ev_is (ev_split (K := K) (ev_var rfl) ev_c (by decide) (by omega)) (by rw [split_line o1 o2]; rfl))) (by simp) fun b u B5 hb e5 du => lt_name rfl et_yes fun _ => ?_) ea_nil) cv_tuple
    obtain rfl := dp_str_inv du
    have hb2 : Dig b ∧ b ≠ [] ∧ b.length ≤ 100 := by
      rcases List.mem_cons.mp hb with rfl | hb
      · exact ⟨o1, n1, by omega⟩
      · rcases List.mem_cons.mp hb with rfl | hb
        · exact ⟨o2, n2, by omega⟩
        · cases hb
    exact ev_call (ea_cons (ev_var rfl) ea_nil) (spv fun vs B6 _ h => ⟨b, h, hb2.1, hb2.2.1, hb2.2.2, rfl⟩)
  have p34 := dp_mono g4.bb _ _ p3
  have p24 := dp_mono g4.bb _ _ p23
  have hsk := sk_lis (k := 0) (pln_lns ok.w hdg)
  refine q_not g4.bh (et_or (x := false) (y := false) (et_not (x := true) (et_test (ev_bl (ev_cb (ea_cons (ev_lcB ds DD (fun _ => true) (ei_tup (ev_D rfl p4)) (by omega) fun a v B5 ha e5 dv => lt_name rfl et_yes fun _ =>
    ev_b (ev_bl (ev_op (ev_cb (ea_cons (ev_D rfl dv) ea_nil) cv_lent) ev_c ov_eqi) rfl)) ea_nil) cv_all) (all_true ds)))) fun _ => et_is (et_test (ev_op (ev_call (S := Da K (LiS (lnsOf ws ds))) (ea_cons (ev_D rfl p34) (ea_cons (ev_D rfl p4) ea_nil)) (spv fun vs B5 _ h => ⟨ws, ds, h, ok, rfl⟩)) (ev_D rfl p24) (ov_ned hsk.sh hsk.sh))) (by rw [PyData.eqv, eqv_all_refl]; rfl)) fun B5 H5 g5 => ?_
  exact s_ret g5.bh (ev_tup [TuI ws, .tuple (ds.map DD)] (ea_cons (ev_D rfl (dp_mono g5.bb _ _ p34)) (ea_cons (ev_D rfl (dp_mono g5.bb _ _ p4)) ea_nil)) (by simp)) fun v6 B6 H6 g6 p6 => q v6 B6 H6 (((((g1.trans g2).trans g3).trans g4).trans g5).trans g6) p6
end
end CN
set_option Elab.async false
set_option linter.all false
set_option maxRecDepth 100000
set_option maxHeartbeats 4000000
/-! D13: a net built. -/
namespace CN
open PySem PySem.Spec PyProof.Rows L2 CM
theorem _root_.CM.NetOk.txt {ws : List Int} {ds : List Deed} (h : NetOk ws ds) : TxtOk ws ds := by
  have h5 := h.w5
  have hl := h.l
  have hw := h.w
  unfold okWs at hw
  have hw2 := (Bool.and_eq_true_iff.mp hw).2
  refine ⟨fun d hd => ?_, fun e => ?_, by omega, fun d hd => ?_, by omega⟩
  · have := List.all_eq_true.mp hw2 d hd
    simp at this
    omega
  · rw [e] at h5
    simp at h5
  · have o := h.d d hd
    have l1 := isSet_len o.s1
    have l2 := isSet_len o.s2
    exact ⟨⟨fun x hx => by have := o.s1.1 x hx; omega, fun x hx => by have := o.s2.1 x hx; omega⟩, ⟨o.n1, o.n2⟩, by omega, by omega⟩
theorem _root_.CM.NetOk.sml {ws : List Int} {ds : List Deed} (h : NetOk ws ds) : Sml ds := by
  have h5 := h.w5
  have hl := h.l
  refine ⟨by omega, fun d hd => ?_⟩
  have o := h.d d hd
  have l1 := isSet_len o.s1
  have l2 := isSet_len o.s2
  exact ⟨by omega, by omega⟩
section
variable {P : Program} {w : World} {K : PySem.W.Frag} {mg : Str → Option Value} {base : Heap} {C : Addr}
theorem ev_makeL {σ : L2.St} {B : Hp} {tf te td : TE} {ws : List Int} {ds : List Deed} (hf : EV tf σ B (Xv (.ref C))) (he : EV te σ B (Da K (TuI ws))) (hd : EV td σ B (Da K (.tuple (ds.map DD)))) (ok : NetOk ws ds) : EV (tMakeL C (spInit K C) tf (tCons te (StX.tStar K td tNil))) σ B (NetP K C ws ds) := fun B1 H a b Q q =>
  hf B1 H a b _ fun y B2 H2 g2 py => by
    refine ⟨py, ?_⟩
    refine he B2 H2 (a.trans g2.bb) g2.bh _ fun v B3 H3 g3 pv => ?_
    refine hd B3 H3 ((a.trans g2.bb).trans g3.bb) g3.bh _ fun u B4 H4 g4 pu => ?_
    obtain ⟨l, xs, rfl, hs, ha⟩ := dp_tup_inv pu
    refine ⟨l, xs, rfl, .inl (sqt_mono g4.bh hs), fun x dx hx hdx hne => ?_⟩
    have pv4 := dp_mono g4.bb _ _ pv
    have gI : Gr B4 H4 B4 (upd (upd H4 dx (.own x)) x (.ins C dx [])) := by
      have g1 := (Gr.refl g4.bh).mut (o := .own x) hdx (g4.bh.free hdx)
      exact g1.mut hx (g4.bh.free hx)
    have hl6 := ok.l
    refine ⟨[.ref x, v], xs ++ [], rfl, rfl, ?_, fun p hp => ?_⟩
    · rw [List.append_nil, dpa_length ha, List.length_map]
      exact sz_of (by omega)
    · rw [List.append_nil]
      have hxp : x ≠ p := fun e => by
        rw [← e, upd_same] at hp
        cases hp
      have hBp := gI.bh.free hp
      have gP := gI.trans (Gr.new (o := .tup xs) gI.bh hp)
      refine ⟨upd B4 p (.tup xs), x, dx, v, .ref p, ws, ds, rfl, gP.bh, ?_, ?_, dp_mono gP.bb _ _ pv4, dp_tup upd_same (dpa_mono gP.bb _ _ ha), ok, fun B' H' v1 v2 g hx' hb' d1 d2 => ?_⟩
      · rw [upd_ne hxp]
        exact g4.bh.free hx
      · rw [upd_ne hxp]
        exact upd_same
      · refine ⟨rfl, ?_⟩
        have gg := (gP.trans g).mut (o := .ins C dx [("coins", v1), ("row", v2)]) hx hb'
        have gf := gg.freeze hx upd_same hb'
        have e0 := same_new (o := .ins C dx [("coins", v1), ("row", v2)]) hb'
        exact q _ _ _ (((g2.trans g3).trans g4).trans gf) ⟨x, dx, v1, v2, rfl, upd_same, dp_mono e0 _ _ d1, dp_mono e0 _ _ d2⟩
theorem ev_clm {σ : L2.St} {B : Hp} {to : TE} {t : TA} {sp : Sp} {Ps : List Pd} {S : Pd} (h : EV to σ B (Xv (.ref C))) (ha : EA t σ B Ps) (hs : SpV sp B (Xv (.ref C) :: Ps) S) : EV (ClX.tCMeth C sp E0 to t) σ B S := fun B1 H a b Q q => h B1 H a b _ fun v B2 H2 g2 p =>
  ⟨p, ha B2 H2 (a.trans g2.bb) g2.bh _ fun vs B3 H3 g3 pvs => hs (.ref C :: vs) B3 H3 ((a.trans g2.bb).trans g3.bb) g3.bh ⟨rfl, pvs⟩ Q E0 fun v B4 H4 g4 => q v B4 H4 ((g2.trans g3).trans g4)⟩
abbrev s_Net_read : Stmt := inClass (topS 40) 2
abbrev N_Net_read : List Str := ["cls", "text", "worths", "deeds", "deed"]
theorem sc_Net_read : FnScope N_Net_read ["cls", "text"] (defScope s_Net_read) := ⟨rfl, rfl, rfl, by decide +kernel, rfl, by decide +kernel, by decide +kernel⟩
def spRead (K : PySem.W.Frag) (C : Addr) : Sp := pSp fun vs B S => ∃ (ws : List Int) (ds : List Deed), All2 [Xv (.ref C), Xv (.str (textOf ws ds))] vs B ∧ NetOk ws ds ∧ S = NetP K C ws ds
theorem ok_read {p g : Addr} {fd : FuncData} (Fn : Fun K "read" "Net.read" s_Net_read g fd) (hc : ClX.CMet K C (.type "type") "read" p g) (T : Z mg) (c_parts_in : Cal P w K mg base "parts_in" 3 ["text"] (spParts K)) (c_are_worths : Cal P w K mg base "are_worths" 3 ["thing"] (spWorths K))
    (c_is_deed : Cal P w K mg base "is_deed" 4 ["worths", "thing"] (spDeed K)) (c_first_unlike : Cal P w K mg base "first_unlike" 2 ["deeds"] (spUnlike K)) (c_met_from : Cal P w K mg base "met_from" 2 ["deeds"] (spMet K)) (c_Net_ddinitdd : CalI P w K mg base C 6 (spInit K C)) : CalC P w K mg base C "read" 8 (spRead K C) := by
  refine ⟨p, g, fnR_of (Fn.ok (ps := ["cls", "text"]) sc_Net_read (fun vs H Q E h => by obtain ⟨_, _, _, ⟨_, _, h, _⟩, _⟩ := h; exact all2_len h) (fun cdv A outer s H vs Q E hr h => ?_)) (Fn.binds (fun _ _ _ _ _ _ us hl => match us, hl with | [_, _], _ => rfl)), hc⟩
  obtain ⟨B, S, e, ⟨ws, ds, p, ok, rfl⟩, q⟩ := h
  obtain ⟨x, y, rfl, px, py⟩ := all2_2 p
  obtain rfl : x = V.ref C := px
  obtain rfl : y = V.str (textOf ws ds) := py
  have hu := hr.units
  have hw5 := ok.w5
  have hl6 := ok.l
  have hdl : ∀ d, d ∈ ds → d.1.length ≤ 1000 := fun d hd => by
    have := isSet_len (ok.d d hd).s1
    omega
  have h1l : 1 ≤ ds.length := by
    have := ok.n
    cases ds with
    | nil => exact absurd rfl this
    | cons a b => simp
  refine ⟨_, (pss_cons (ps_asg (pe_cal c_parts_in hr (by rfl) (pa_cons (pv 1) pa_nil)) (kg_tup (K := K) rfl (pgs_cons (pg_name (i := 2) sc_Net_read.nd rfl (Or.inr rfl)) (pgs_cons (pg_name (i := 3) sc_Net_read.nd rfl (Or.inl rfl)) pgs_nil))))
      (pss_cons (ps_if (PW.pt (pw_or (pt_not (pt_val (pe_cal c_are_worths hr (by rfl) (pa_cons (pv 2) pa_nil)))) (pw_or1 (pt_not (pt_chain op_le op_le pe_int (pe_callB (ko_len (K := K)) (by rfl) T.z_len (by decide +kernel) (pa_cons (pv 3) pa_nil)) (pe_gi (by rfl) T.c_MOST_DEEDS)))))) (pss_one ps_never) pss_nil)
      (pss_cons (ps_if (PW.pt (pw_or (pt_not (pt_val (pe_callB (ko_all rfl (K := K)) (by rfl) T.z_all (by decide +kernel) (pa_cons (pe_lc (own := [("deed", 4)]) (g := gName 4) (tt := tYes) rfl sc_Net_read.nd (ki_seq (K := K) (pv 3)) (blkOk_by (own := [("deed", 4)]) (N := N_Net_read) (sc := defScope s_Net_read) (by decide +kernel)) (fun _ _ _ _ _ => (pg_name (i := 4) sc_Net_read.nd rfl (Or.inl rfl))) (fun _ _ _ _ _ => pts_nil) (fun _ _ _ _ _ => (pe_cal c_is_deed hr (by rfl) (pa_cons (pv 2) (pa_cons (pv 4) pa_nil))))) pa_nil)))) (pw_or1 (pt_cmpR op_notN (pe_cal c_first_unlike hr (by rfl) (pa_cons (pv 3) pa_nil)) pe_non (nomark _))))) (pss_one ps_never) pss_nil)
      (pss_cons (ps_if (pt_cmpR op_lt (pe_callB (ko_len (K := K)) (by rfl) T.z_len (by decide +kernel) (pa_cons (pe_cal c_met_from hr (by rfl) (pa_cons (pv 3) pa_nil)) pa_nil)) (pe_callB (ko_len (K := K)) (by rfl) T.z_len (by decide +kernel) (pa_cons (pv 2) pa_nil)) (nomark _)) (pss_one ps_never) pss_nil)
      (pss_one (ps_ret (pe_makeL c_Net_ddinitdd hr (pv 0) (pa_cons (pv 2) (StX.pa_star (pv 3) pa_nil))))))))), ?_⟩
  refine q_asg2 (K := K) e (ev_call (ea_cons (ev_var rfl) ea_nil) (spv fun vs B3 _ h => ⟨ws, ds, h, ok.txt, rfl⟩)) fun v1 v2 B1 H1 g1 p1 p2 => ?_
  refine q_not g1.bh (et_or (x := false) (y := false) (et_not (x := true) (et_test (ev_call (ea_cons (ev_D rfl p1) ea_nil) (spv fun vs B3 _ h => ⟨ws, h, by omega, ok.w, rfl⟩)))) fun _ => et_is (et_not (et_test (ev_chain ev_c (ev_cb (ea_cons (ev_D rfl p2) ea_nil) cv_lend) ev_c))) (by rw [decide_eq_true (by omega), decide_eq_true (by omega)]; rfl)) fun B2 H2 g2 => ?_
  have q1 := dp_mono g2.bb _ _ p1
  have q2 := dp_mono g2.bb _ _ p2
  refine q_not g2.bh (et_or (x := false) (y := false) (et_not (x := true) (et_test (ev_bl (ev_cb (ea_cons (ev_lcB ds DD (fun _ => true) (ei_tup (ev_D rfl q2)) (by omega) fun a v B2 ha e2 dv => lt_name rfl et_yes fun _ =>
    ev_b (ev_call (ea_cons (ev_D rfl (dp_mono e2 _ _ q1)) (ea_cons (ev_D rfl dv) ea_nil)) (spv fun vs B3 _ h => ⟨ws, a, h, by omega, ok.d a ha, rfl⟩))) ea_nil) cv_all) (all_true ds)))) fun _ => et_test (ev_bl (ev_op (ev_call (ea_cons (ev_D rfl q2) ea_nil) (spv fun vs B3 _ h => ⟨ds, h, by omega, hdl, ok.f, rfl⟩)) ev_c ov_notN) rfl)) fun B3 H3 g3 => ?_
  have r1 := dp_mono g3.bb _ _ q1
  have r2 := dp_mono g3.bb _ _ q2
  refine q_not g3.bh (et_is (et_test (ev_op (ev_cb (ea_cons (ev_call (ea_cons (ev_D rfl r2) ea_nil) (spv fun vs B3 _ h => ⟨ws.length, ds, h, by omega, by omega, by omega, fun d hd => ⟨(ok.d d hd).s1, (ok.d d hd).s2⟩, ok.c, rfl⟩)) ea_nil) cv_lenw) (ev_cb (ea_cons (ev_D rfl r1) ea_nil) cv_lenw) ov_I0)) (by rw [box_len]; simp)) fun B4 H4 g4 => ?_
  exact s_ret g4.bh (ev_makeL (ev_var rfl) (ev_D rfl (dp_mono g4.bb _ _ r1)) (ev_D rfl (dp_mono g4.bb _ _ r2)) ok) fun v B5 H5 g5 p => q v B5 H5 ((((g1.trans g2).trans g3).trans g4).trans g5) p
abbrev s__law_text : Stmt := topS 71
abbrev N__law_text : List Str := ["_law_worths", "_law_deeds", "_law_lines", "_law_one", "_law_takes", "_law_puts", "_law_other", "_law_box"]
theorem sc__law_text : FnScope N__law_text ["_law_worths", "_law_deeds"] (defScope s__law_text) := ⟨rfl, rfl, rfl, by decide +kernel, rfl, by decide +kernel, by decide +kernel⟩
/-- deeds given as a list or as a tuple -/
def spLText (K : PySem.W.Frag) : Sp := pSp fun vs B S => ∃ (ws : List Int) (ds : List Deed), All2 [Da K (TuI ws), Da K (.list (ds.map DD))] vs B ∧ TxtOk ws ds ∧ S = Xv (.str (textOf ws ds))
theorem ok__law_text (F : FunC K mg "_law_text" "_law_text" s__law_text) (T : Z mg) : Cal P w K mg base "_law_text" 1 ["_law_worths", "_law_deeds"] (spLText K) := by
  refine F.cal sc__law_text (fun _ _ _ _ _ _ us hl => match us, hl with | [_, _], _ => rfl) (fun vs H Q E h => by obtain ⟨_, _, _, ⟨_, _, h, _⟩, _⟩ := h; exact all2_len h) (fun f cdv A outer s H vs Q E hr h => ?_)
  obtain ⟨B, S, e, ⟨ws, ds, p, ok, rfl⟩, q⟩ := h
  obtain ⟨x, y, rfl, px, py⟩ := all2_2 p
  have hl := ok.l
  have hwl := ok.wl
  have hn := nums_len ok.w
  refine ⟨_, (pss_cons (ps_set (i := 2) sc__law_text.nd rfl (Or.inl rfl) (pe_lst (pa_cons (pe_op (ko_add (K := K)) pe_str (pe_join pe_str (pe_lc (own := [("_law_one", 3)]) (g := gName 3) (tt := tYes) rfl sc__law_text.nd (ki_seq (K := K) (pv 0)) (blkOk_by (own := [("_law_one", 3)]) (N := N__law_text) (sc := defScope s__law_text) (by decide +kernel)) (fun _ _ _ _ _ => (pg_name (i := 3) sc__law_text.nd rfl (Or.inl rfl))) (fun _ _ _ _ _ => pts_nil) (fun _ _ _ _ _ => (pe_callTy ac_str (by rfl) T.z_str (by decide +kernel) (pa_cons (pv 3) pa_nil)))))) pa_nil)))
      (pss_cons (ps_for PassesOwn.never rfl (ki_seq (K := K) (pv 1)) (kg_tup (K := K) rfl (pgs_cons (pg_name (i := 4) sc__law_text.nd rfl (Or.inl rfl)) (pgs_cons (pg_name (i := 5) sc__law_text.nd rfl (Or.inl rfl)) pgs_nil))) (pss_cons (ps_par (i := 3) (j := 6) rfl sc__law_text.nd rfl rfl (by decide) rfl rfl (pa_cons (pe_lc (own := [("_law_box", 7)]) (g := gName 7) (tt := tYes) rfl sc__law_text.nd (ki_seq (K := K) (pv 4)) (blkOk_by (own := [("_law_box", 7)]) (N := N__law_text) (sc := defScope s__law_text) (by decide +kernel)) (fun _ _ _ _ _ => (pg_name (i := 7) sc__law_text.nd rfl (Or.inl rfl))) (fun _ _ _ _ _ => pts_nil) (fun _ _ _ _ _ => (pe_callTy ac_str (by rfl) T.z_str (by decide +kernel) (pa_cons (pv 7) pa_nil)))) (pa_cons (pe_lc (own := [("_law_box", 7)]) (g := gName 7) (tt := tYes) rfl sc__law_text.nd (ki_seq (K := K) (pv 5)) (blkOk_by (own := [("_law_box", 7)]) (N := N__law_text) (sc := defScope s__law_text) (by decide +kernel)) (fun _ _ _ _ _ => (pg_name (i := 7) sc__law_text.nd rfl (Or.inl rfl))) (fun _ _ _ _ _ => pts_nil) (fun _ _ _ _ _ => (pe_callTy ac_str (by rfl) T.z_str (by decide +kernel) (pa_cons (pv 7) pa_nil)))) pa_nil)) rfl)
      (pss_one (ps_expr (pe_bm PySem.F.plainAttrs_list PySem.F.slot_list_append PySem.F.type_list_append mt_append (pv 2) (pa_cons (pe_op (ko_add (K := K)) (pe_op (ko_add (K := K)) (pe_join pe_str (pv 3)) pe_str) (pe_join pe_str (pv 6))) pa_nil))))))
      (pss_one (ps_ret (pe_op (ko_add (K := K)) (pe_join pe_str (pv 2)) pe_str))))), ?_⟩
  refine q_new (K := K) e (en_lst [.str (headOf ws)] (ea_cons (ev_s (ev_op ev_c (ev_join (K := K) ev_c (ev_lcS ws .int ts (ei_tup (ev_D rfl px)) (by omega) fun a v B2 ha e2 dv => lt_name rfl et_yes fun _ => ev_s (ev_str (ev_var (by rw [dp_int_inv dv]; rfl)) (ok.w a ha))) (by rw [sum_ts ok.w, List.length_map, sp_len]; omega)) (ov_addS (by rw [hd_len]; show 7 + (nums ws).length ≤ _; omega)))) ea_nil) (by simp)) fun l xs B0 H0 g0 hl0 hH hB hd0 => ?_
  refine q_forG (K := K) g0 (ei_lst (ev_D rfl (dp_mono g0.bb _ _ py))) (fun i σ' B' H' => ∃ a b c d t ys, σ' = [some x, some y, some (.ref l), a, b, c, d, t] ∧ H' l = some (.lst ys) ∧ B' l = none ∧ DpAll K B' ys (((lnsOf ws (ds.take i))).map .str)) (fun B1 H1 g1 => ⟨none, none, none, none, none, xs, rfl, g1.hh _ _ hH, g1.unk hH hB, dpa_mono g1.bb _ _ hd0⟩) ?_ ?_
  · rintro i v σ' B1 H1 B' H' dd N ⟨a, b, c, d0, t, ys, rfl, h1, h2, h3⟩ hg g hdd dv fin
    obtain ⟨d, hd, rfl⟩ := map_get hdd
    have hdm := List.mem_of_getElem? hd
    obtain ⟨⟨o1, o2⟩, _, l1, l2⟩ := ok.d d hdm
    have h1' := g.hh _ _ h1
    have h2' := g.unk h1 h2
    have h3' := dpa_mono g.bb _ _ h3
    have n1 := nums_len o1
    have n2 := nums_len o2
    refine g_tup2 g.bh dv fun x1 x2 q1 q2 => ?_
    refine q_par (P := Da K (LiS (d.1.map ts))) (R := Da K (LiS (d.2.map ts))) g.bh (ea_cons (ev_lcS d.1 .int ts (ei_tup (ev_D rfl q1)) (by omega) fun a v B2 ha e2 dv => lt_name rfl et_yes fun _ => ev_s (ev_str (ev_var (by rw [dp_int_inv dv]; rfl)) (o1 a ha))) (ea_cons (ev_lcS d.2 .int ts (ei_tup (ev_D rfl q2)) (by omega) fun a v B2 ha e2 dv => lt_name rfl et_yes fun _ => ev_s (ev_str (ev_var (by rw [dp_int_inv dv]; rfl)) (o2 a ha))) ea_nil)) fun w1 w2 B2 H2 g2 p1 p2 => ?_
    have h1'' := g2.hh _ _ h1'
    have h2'' := g2.unk h1' h2'
    refine s_app (P := Da K (.str (lineOf d))) g2.bh h1'' h2'' (ev_var rfl) (ev_s (ev_op (ev_op (ev_join (K := K) (sep := " ") (ys := d.1.map ts) ev_c (ev_D rfl p1) (by rw [sum_ts o1, List.length_map, sp_len]; omega)) ev_c (ov_addS (by rw [ar_len]; show (nums d.1).length + 3 ≤ _; omega))) (ev_join (K := K) (sep := " ") (ys := d.2.map ts) ev_c (ev_D rfl p2) (by rw [sum_ts o2, List.length_map, sp_len]; omega)) (ov_addS (by rw [app_len, ar_len]; show (nums d.1).length + 3 + (nums d.2).length ≤ _; omega)))) ?_ fun v2 B4 H4 g4 h4 p4 _ => ?_
    · rw [dpa_length h3', List.length_map]
      unfold lnsOf
      rw [List.length_cons, List.length_map, List.length_take]
      omega
    · have hb4 := g4.unk h1'' h2''
      refine fin _ B4 _ (((hg.trans g).trans (g2.trans g4)).mut hl0 hb4) (g2.bb.trans g4.bb) ⟨_, _, _, _, _, _, rfl, upd_same, hb4, ?_⟩
      have tk : ds.take (i + 1) = ds.take i ++ [d] := by rw [List.take_add_one, hd]; rfl
      have e5 : (lnsOf ws (ds.take (i + 1))).map PyData.str = (lnsOf ws (ds.take i)).map PyData.str ++ [.str (lineOf d)] := by
        rw [tk]
        unfold lnsOf
        rw [List.map_append, List.map_cons, List.map_cons, List.map_append]
        rfl
      rw [e5]
      exact dpa_append (dpa_mono (g2.bb.trans g4.bb) _ _ h3') (.cons p4 .nil)
  · rintro σ' B' H' hg _ ⟨a, b, c, d0, t, ys, rfl, h1, h2, h3⟩
    rw [List.length_map, List.take_length] at h3
    obtain ⟨k1, k2, k3⟩ := known hg.bh h1 h2 h3
    have hj := ok.jl
    have hj2 := Join_len "\n" (lnsOf ws ds)
    have hnl : ("\n" : Str).length = 1 := by decide
    exact s_ret k2 (ev_op (ev_join (K := K) ev_c (ev_D rfl k3) (by omega)) ev_c (ov_addS (by rw [hnl]; omega))) fun v B2 H2 g2 p => q v B2 H2 ((hg.freeze hl0 h1 h2).trans g2) p
abbrev s__law_built : Stmt := topS 72
abbrev N__law_built : List Str := ["_law_worths", "_law_deeds"]
theorem sc__law_built : FnScope N__law_built ["_law_worths", "_law_deeds"] (defScope s__law_built) := ⟨rfl, rfl, rfl, by decide +kernel, rfl, by decide +kernel, by decide +kernel⟩
def spBuilt (K : PySem.W.Frag) (C : Addr) : Sp := pSp fun vs B S => ∃ (ws : List Int) (ds : List Deed), All2 [Da K (TuI ws), Da K (.list (ds.map DD))] vs B ∧ NetOk ws ds ∧ S = NetP K C ws ds
theorem ok__law_built (F : FunC K mg "_law_built" "_law_built" s__law_built) (N : NetF K mg C) (c__law_text : Cal P w K mg base "_law_text" 1 ["_law_worths", "_law_deeds"] (spLText K)) (c_Net_read : CalC P w K mg base C "read" 8 (spRead K C)) : Cal P w K mg base "_law_built" 9 ["_law_worths", "_law_deeds"] (spBuilt K C) := by
  refine F.cal sc__law_built (fun _ _ _ _ _ _ us hl => match us, hl with | [_, _], _ => rfl) (fun vs H Q E h => by obtain ⟨_, _, _, ⟨_, _, h, _⟩, _⟩ := h; exact all2_len h) (fun f cdv A outer s H vs Q E hr h => ?_)
  obtain ⟨B, S, e, ⟨ws, ds, p, ok, rfl⟩, q⟩ := h
  obtain ⟨x, y, rfl, px, py⟩ := all2_2 p
  refine ⟨_, (pss_one (ps_ret (pe_clm N.rd c_Net_read hr (pe_glob (v := V.ref C) (by rfl) N.glo rfl) (pa_cons (pe_cal c__law_text hr (by rfl) (pa_cons (pv 0) (pa_cons (pv 1) pa_nil))) pa_nil)))), ?_⟩
  exact s_ret e (ev_clm ev_c (ea_cons (ev_call (ea_cons (ev_D rfl px) (ea_cons (ev_D rfl py) ea_nil)) (spv fun vs B3 _ h => ⟨ws, ds, h, ok.txt, rfl⟩)) ea_nil) (spv fun vs B3 _ h => ⟨ws, ds, h, ok, rfl⟩)) q
end
end CN
set_option Elab.async false
set_option linter.all false
set_option maxRecDepth 100000
set_option maxHeartbeats 4000000
/-! D14: the law's own looks. -/
namespace CN
open PySem PySem.Spec PyProof.Rows L2 CM
theorem filter_nil {α : Type} (xs : List α) (f : α → Bool) : decide ((xs.filter f).map (fun _ => (1 : Int)) = []) = xs.all fun x => !f x := by
  rw [Bool.eq_iff_iff, decide_eq_true_iff, List.all_eq_true, List.map_eq_nil_iff, List.filter_eq_nil_iff]
  simp
theorem filter_nn {α : Type} (xs : List α) (f : α → Bool) : (!decide ((xs.filter f).map (fun _ => (1 : Int)) = [])) = xs.any f := by
  rw [filter_nil, Bool.eq_iff_iff]
  simp
section
variable {P : Program} {w : World} {K : PySem.W.Frag} {mg : Str → Option Value} {base : Heap} {C : Addr}
abbrev s__law_within : Stmt := topS 64
abbrev N__law_within : List Str := ["_law_one", "_law_other", "_law_box"]
theorem sc__law_within : FnScope N__law_within ["_law_one", "_law_other"] (defScope s__law_within) := ⟨rfl, rfl, rfl, by decide +kernel, rfl, by decide +kernel, by decide +kernel⟩
theorem ok__law_within (F : FunC K mg "_law_within" "_law_within" s__law_within) : Cal P w K mg base "_law_within" 1 ["_law_one", "_law_other"] (spInside K) := by
  refine F.cal sc__law_within (fun _ _ _ _ _ _ us hl => match us, hl with | [_, _], _ => rfl) (fun vs H Q E h => by obtain ⟨_, _, _, ⟨_, _, h, _⟩, _⟩ := h; exact all2_len h) (fun f cdv A outer s H vs Q E hr h => ?_)
  obtain ⟨B, S, e, ⟨xs, ys, p, hl, rfl⟩, q⟩ := h
  obtain ⟨x, y, rfl, px, py⟩ := all2_2 p
  have hu := hr.units
  refine ⟨_, (pss_one (ps_ret (pe_cmpR (ko_eq hu (K := K)) (pe_lc (own := [("_law_box", 2)]) (g := gName 2) rfl sc__law_within.nd (ki_seq (K := K) (pv 0)) (blkOk_by (own := [("_law_box", 2)]) (N := N__law_within) (sc := defScope s__law_within) (by decide +kernel)) (fun _ _ _ _ _ => (pg_name (i := 2) sc__law_within.nd rfl (Or.inl rfl))) (fun _ _ _ _ _ => pts_one (pt_cmpR (ko_ni (K := K)) (pv 2) (pv 1) rfl)) (fun _ _ _ _ _ => pe_int)) (pe_lst pa_nil) (nomark _)))), ?_⟩
  refine s_ret e (ev_bl (ev_op (ev_lcIf xs .int (fun x => !decide (x ∈ ys)) (fun _ => 1) (ei_tup (ev_D rfl px)) (by omega) fun a v B2 ha e2 dv => lt_name rfl (et_test (ev_op (ev_var (by rw [dp_int_inv dv]; rfl)) (ev_D rfl (dp_mono e2 _ _ py)) ov_niTI)) fun _ => ev_ci) (ev_lst [] ea_nil (by simp)) (ov_eqd (sk_li (k := 0) _).sh (sk_nilL (k := 0)).sh)) ?_) q
  rw [eqv_li0, filter_nil]
  unfold inside
  simp
abbrev s__law_is_empty : Stmt := topS 65
abbrev N__law_is_empty : List Str := ["_law_state_here", "_law_boxes", "_law_box"]
theorem sc__law_is_empty : FnScope N__law_is_empty ["_law_state_here", "_law_boxes"] (defScope s__law_is_empty) := ⟨rfl, rfl, rfl, by decide +kernel, rfl, by decide +kernel, by decide +kernel⟩
def spEmpty (K : PySem.W.Frag) : Sp := pSp fun vs B S => ∃ st xs : List Int, All2 [Da K (TuI st), Da K (TuI xs)] vs B ∧ Inr st.length xs ∧ xs.length ≤ 1000 ∧ S = Xv (.bl (empty st xs))
theorem ok__law_is_empty (F : FunC K mg "_law_is_empty" "_law_is_empty" s__law_is_empty) : Cal P w K mg base "_law_is_empty" 1 ["_law_state_here", "_law_boxes"] (spEmpty K) := by
  refine F.cal sc__law_is_empty (fun _ _ _ _ _ _ us hl => match us, hl with | [_, _], _ => rfl) (fun vs H Q E h => by obtain ⟨_, _, _, ⟨_, _, h, _⟩, _⟩ := h; exact all2_len h) (fun f cdv A outer s H vs Q E hr h => ?_)
  obtain ⟨B, S, e, ⟨st, xs, p, hb, hl, rfl⟩, q⟩ := h
  obtain ⟨x, y, rfl, px, py⟩ := all2_2 p
  have hu := hr.units
  refine ⟨_, (pss_one (ps_ret (pe_cmpR (ko_eq hu (K := K)) (pe_lc (own := [("_law_box", 2)]) (g := gName 2) rfl sc__law_is_empty.nd (ki_seq (K := K) (pv 1)) (blkOk_by (own := [("_law_box", 2)]) (N := N__law_is_empty) (sc := defScope s__law_is_empty) (by decide +kernel)) (fun _ _ _ _ _ => (pg_name (i := 2) sc__law_is_empty.nd rfl (Or.inl rfl))) (fun _ _ _ _ _ => pts_one (pt_cmpR op_gt (pe_ix (ko_ix (K := K)) (pv 0) (pv 2) (fun _ _ => rfl)) pe_int (nomark _))) (fun _ _ _ _ _ => pe_int)) (pe_lst pa_nil) (nomark _)))), ?_⟩
  refine s_ret e (ev_bl (ev_op (ev_lcIf xs .int (fun b => decide (0 < st.getD b.toNat 0)) (fun _ => 1) (ei_tup (ev_D rfl py)) (by omega) fun a v B2 ha e2 dv => lt_name rfl (et_test (ev_op (ev_xi (ev_op (ev_D rfl (dp_mono e2 _ _ px)) (ev_var (by rw [dp_int_inv dv]; rfl)) (ov_ixt (Int.toNat_of_nonneg (hb a ha).1).symm (get_of (hb a ha))))) ev_c ov_I0)) fun _ => ev_ci) (ev_lst [] ea_nil (by simp)) (ov_eqd (sk_li (k := 0) _).sh (sk_nilL (k := 0)).sh)) ?_) q
  rw [eqv_li0, filter_nil]
  rfl
abbrev s__law_touches : Stmt := topS 66
abbrev N__law_touches : List Str := ["_law_one", "_law_other", "_law_box"]
theorem sc__law_touches : FnScope N__law_touches ["_law_one", "_law_other"] (defScope s__law_touches) := ⟨rfl, rfl, rfl, by decide +kernel, rfl, by decide +kernel, by decide +kernel⟩
theorem ok__law_touches (F : FunC K mg "_law_touches" "_law_touches" s__law_touches) : Cal P w K mg base "_law_touches" 1 ["_law_one", "_law_other"] (spHave K) := by
  refine F.cal sc__law_touches (fun _ _ _ _ _ _ us hl => match us, hl with | [_, _], _ => rfl) (fun vs H Q E h => by obtain ⟨_, _, _, ⟨_, _, h, _⟩, _⟩ := h; exact all2_len h) (fun f cdv A outer s H vs Q E hr h => ?_)
  obtain ⟨B, S, e, ⟨xs, ys, p, hl, rfl⟩, q⟩ := h
  obtain ⟨x, y, rfl, px, py⟩ := all2_2 p
  have hu := hr.units
  refine ⟨_, (pss_one (ps_ret (pe_cmpR (ko_ne hu (K := K)) (pe_lc (own := [("_law_box", 2)]) (g := gName 2) rfl sc__law_touches.nd (ki_seq (K := K) (pv 0)) (blkOk_by (own := [("_law_box", 2)]) (N := N__law_touches) (sc := defScope s__law_touches) (by decide +kernel)) (fun _ _ _ _ _ => (pg_name (i := 2) sc__law_touches.nd rfl (Or.inl rfl))) (fun _ _ _ _ _ => pts_one (pt_cmpR (ko_in (K := K)) (pv 2) (pv 1) rfl)) (fun _ _ _ _ _ => pe_int)) (pe_lst pa_nil) (nomark _)))), ?_⟩
  refine s_ret e (ev_bl (ev_op (ev_lcIf xs .int (fun x => decide (x ∈ ys)) (fun _ => 1) (ei_tup (ev_D rfl px)) (by omega) fun a v B2 ha e2 dv => lt_name rfl (et_test (ev_op (ev_var (by rw [dp_int_inv dv]; rfl)) (ev_D rfl (dp_mono e2 _ _ py)) ov_inTI)) fun _ => ev_ci) (ev_lst [] ea_nil (by simp)) (ov_ned (sk_li (k := 0) _).sh (sk_nilL (k := 0)).sh)) ?_) q
  rw [eqv_li0, filter_nn]
  rfl
abbrev s__law_is_trap : Stmt := topS 67
abbrev N__law_is_trap : List Str := ["_law_deeds", "_law_boxes", "_law_out", "_law_takes", "_law_puts"]
theorem sc__law_is_trap : FnScope N__law_is_trap ["_law_deeds", "_law_boxes"] (defScope s__law_is_trap) := ⟨rfl, rfl, rfl, by decide +kernel, rfl, by decide +kernel, by decide +kernel⟩
def spLTr (K : PySem.W.Frag) : Sp := pSp fun vs B S => ∃ (ds : List Deed) (xs : List Int), All2 [Da K (.list (ds.map DD)), Da K (TuI xs)] vs B ∧ Sml ds ∧ S = Xv (.bl (isTr ds xs))
theorem ev_lcTf {σ : L2.St} {B : Hp} {te : TE} {tt : TT} {wi : L2.TI} {g : TG} {vs : List Nat} {α : Type} (xs : List α) (enc : α → PyData) (p : α → Bool) (f : α → List Int) (hi : EI K wi σ B (xs.map enc)) (hl : xs.length ≤ 40000)
    (hs : ∀ a x B1, a ∈ xs → Same B B1 → Dp K B1 x (enc a) → LT K g tt te vs σ B1 x (p a) (TuI (f a))) : EV (tLc wi g tt te vs) σ B (Da K (.list (((xs.filter p).map f).map TuI))) :=
  ev_is (ev_lc xs enc p (fun a => TuI (f a)) hi hl hs) (by rw [List.map_map] <;> rfl)
theorem ok__law_is_trap (F : FunC K mg "_law_is_trap" "_law_is_trap" s__law_is_trap) (c__law_touches : Cal P w K mg base "_law_touches" 1 ["_law_one", "_law_other"] (spHave K)) : Cal P w K mg base "_law_is_trap" 2 ["_law_deeds", "_law_boxes"] (spLTr K) := by
  refine F.cal sc__law_is_trap (fun _ _ _ _ _ _ us hl => match us, hl with | [_, _], _ => rfl) (fun vs H Q E h => by obtain ⟨_, _, _, ⟨_, _, h, _⟩, _⟩ := h; exact all2_len h) (fun f cdv A outer s H vs Q E hr h => ?_)
  obtain ⟨B, S, e, ⟨ds, xs, p, hs, rfl⟩, q⟩ := h
  obtain ⟨x, y, rfl, px, py⟩ := all2_2 p
  have hu := hr.units
  have hl := hs.1
  refine ⟨_, (pss_cons (ps_setLc (i := 2) (own := [("_law_takes", 3), ("_law_puts", 4)]) (g := gTup K 2 (gCons (gName 3) (gCons (gName 4) (gNil)))) rfl sc__law_is_trap.nd rfl rfl (sw_true rfl rfl rfl (by decide +kernel)) (ki_seq (K := K) (pv 0)) (blkOk_by (own := [("_law_takes", 3), ("_law_puts", 4)]) (N := N__law_is_trap) (sc := defScope s__law_is_trap) (by decide +kernel)) (fun _ _ _ _ _ => (kg_tup (K := K) rfl (pgs_cons (pg_name (i := 3) sc__law_is_trap.nd rfl (Or.inl rfl)) (pgs_cons (pg_name (i := 4) sc__law_is_trap.nd rfl (Or.inl rfl)) pgs_nil)))) (fun _ _ _ _ _ => pts_one (pt_val (pe_cal c__law_touches hr (by rfl) (pa_cons (pv 3) (pa_cons (pv 1) pa_nil))))) (fun _ _ _ _ _ => (pv 4)))
      (pss_one (ps_ret (pe_and (pe_cmpR (ko_ne hu (K := K)) (pv 1) (pe_tup pa_nil) (nomark _)) (pe_one (pe_cmpR (ko_eq hu (K := K)) (pe_lc (own := [("_law_puts", 4)]) (g := gName 4) rfl sc__law_is_trap.nd (ki_seq (K := K) (pv 2)) (blkOk_by (own := [("_law_puts", 4)]) (N := N__law_is_trap) (sc := defScope s__law_is_trap) (by decide +kernel)) (fun _ _ _ _ _ => (pg_name (i := 4) sc__law_is_trap.nd rfl (Or.inl rfl))) (fun _ _ _ _ _ => pts_one (pt_not (pt_val (pe_cal c__law_touches hr (by rfl) (pa_cons (pv 4) (pa_cons (pv 1) pa_nil)))))) (fun _ _ _ _ _ => pe_int)) (pe_lst pa_nil) (nomark _))))))), ?_⟩
  refine q_asg (P := Da K (.list (((ds.filter fun d => touch d.1 xs).map (·.2)).map TuI))) e (ev_lcTf ds DD (fun d => touch d.1 xs) (·.2) (ei_lst (ev_D rfl px)) (by omega) fun a v B2 ha e2 dv => lt_tup2 dv (fun _ _ => rfl) (fun x1 x2 q1 q2 => et_test (ev_call (ea_cons (ev_D rfl q1) (ea_cons (ev_D rfl (dp_mono e2 _ _ py)) ea_nil)) (spv fun vs B3 _ h => ⟨a.1, xs, h, (hs.2 a ha).1, rfl⟩))) fun x1 x2 q1 q2 _ => ev_D rfl q2) fun v1 B1 H1 g1 p1 => ?_
  have py1 := dp_mono g1.bb _ _ py
  have hfl : ((ds.filter fun d => touch d.1 xs).map (·.2)).length ≤ 40000 := by
    rw [List.length_map]
    exact Nat.le_trans (List.length_filter_le _ _) (by omega)
  have hfm : ∀ s, s ∈ (ds.filter fun d => touch d.1 xs).map (·.2) → s.length ≤ 1000 := fun s hs2 => by
    obtain ⟨d, hd, rfl⟩ := List.mem_map.mp hs2
    exact (hs.2 d (List.mem_filter.mp hd).1).2
  refine s_ret g1.bh (ev_bl (ev_andV (ev_bl (ev_op (ev_D rfl py1) (ev_tup [] ea_nil (by simp)) (ov_ned (sk_ti (k := 0) xs).sh (sk_nilT (k := 0)).sh)) (by rw [eqv_ti0])) fun _ => ev_op (ev_lcIf ((ds.filter fun d : Deed => touch d.1 xs).map (fun d : Deed => d.2)) TuI (fun s => !touch s xs) (fun _ => 1) (ei_lst (ev_D rfl p1)) hfl fun a v B2 ha e2 dv => lt_name rfl (et_not (et_test (ev_call (ea_cons (ev_D rfl dv) (ea_cons (ev_D rfl (dp_mono e2 _ _ py1)) ea_nil)) (spv fun vs B3 _ h => ⟨a, xs, h, hfm a ha, rfl⟩)))) fun _ => ev_ci) (ev_lst [] ea_nil (by simp)) (ov_eqd (sk_li (k := 0) _).sh (sk_nilL (k := 0)).sh)) ?_) fun v B2 H2 g2 p => q v B2 H2 (g1.trans g2) p
  rw [eqv_li0, filter_nil]
  unfold isTr
  rw [List.all_map]
  congr 2
  funext d
  simp
abbrev s__law_is_drain : Stmt := topS 68
abbrev N__law_is_drain : List Str := ["_law_deeds", "_law_boxes", "_law_into", "_law_takes", "_law_puts"]
theorem sc__law_is_drain : FnScope N__law_is_drain ["_law_deeds", "_law_boxes"] (defScope s__law_is_drain) := ⟨rfl, rfl, rfl, by decide +kernel, rfl, by decide +kernel, by decide +kernel⟩
def spLDr (K : PySem.W.Frag) : Sp := pSp fun vs B S => ∃ (ds : List Deed) (xs : List Int), All2 [Da K (.list (ds.map DD)), Da K (TuI xs)] vs B ∧ Sml ds ∧ S = Xv (.bl (isDr ds xs))
theorem ok__law_is_drain (F : FunC K mg "_law_is_drain" "_law_is_drain" s__law_is_drain) (c__law_touches : Cal P w K mg base "_law_touches" 1 ["_law_one", "_law_other"] (spHave K)) : Cal P w K mg base "_law_is_drain" 2 ["_law_deeds", "_law_boxes"] (spLDr K) := by
  refine F.cal sc__law_is_drain (fun _ _ _ _ _ _ us hl => match us, hl with | [_, _], _ => rfl) (fun vs H Q E h => by obtain ⟨_, _, _, ⟨_, _, h, _⟩, _⟩ := h; exact all2_len h) (fun f cdv A outer s H vs Q E hr h => ?_)
  obtain ⟨B, S, e, ⟨ds, xs, p, hs, rfl⟩, q⟩ := h
  obtain ⟨x, y, rfl, px, py⟩ := all2_2 p
  have hu := hr.units
  have hl := hs.1
  refine ⟨_, (pss_cons (ps_setLc (i := 2) (own := [("_law_takes", 3), ("_law_puts", 4)]) (g := gTup K 2 (gCons (gName 3) (gCons (gName 4) (gNil)))) rfl sc__law_is_drain.nd rfl rfl (sw_true rfl rfl rfl (by decide +kernel)) (ki_seq (K := K) (pv 0)) (blkOk_by (own := [("_law_takes", 3), ("_law_puts", 4)]) (N := N__law_is_drain) (sc := defScope s__law_is_drain) (by decide +kernel)) (fun _ _ _ _ _ => (kg_tup (K := K) rfl (pgs_cons (pg_name (i := 3) sc__law_is_drain.nd rfl (Or.inl rfl)) (pgs_cons (pg_name (i := 4) sc__law_is_drain.nd rfl (Or.inl rfl)) pgs_nil)))) (fun _ _ _ _ _ => pts_one (pt_val (pe_cal c__law_touches hr (by rfl) (pa_cons (pv 4) (pa_cons (pv 1) pa_nil))))) (fun _ _ _ _ _ => (pv 3)))
      (pss_one (ps_ret (pe_and (pe_cmpR (ko_ne hu (K := K)) (pv 1) (pe_tup pa_nil) (nomark _)) (pe_one (pe_cmpR (ko_eq hu (K := K)) (pe_lc (own := [("_law_takes", 3)]) (g := gName 3) rfl sc__law_is_drain.nd (ki_seq (K := K) (pv 2)) (blkOk_by (own := [("_law_takes", 3)]) (N := N__law_is_drain) (sc := defScope s__law_is_drain) (by decide +kernel)) (fun _ _ _ _ _ => (pg_name (i := 3) sc__law_is_drain.nd rfl (Or.inl rfl))) (fun _ _ _ _ _ => pts_one (pt_not (pt_val (pe_cal c__law_touches hr (by rfl) (pa_cons (pv 3) (pa_cons (pv 1) pa_nil)))))) (fun _ _ _ _ _ => pe_int)) (pe_lst pa_nil) (nomark _))))))), ?_⟩
  refine q_asg (P := Da K (.list (((ds.filter fun d => touch d.2 xs).map (·.1)).map TuI))) e (ev_lcTf ds DD (fun d => touch d.2 xs) (·.1) (ei_lst (ev_D rfl px)) (by omega) fun a v B2 ha e2 dv => lt_tup2 dv (fun _ _ => rfl) (fun x1 x2 q1 q2 => et_test (ev_call (ea_cons (ev_D rfl q2) (ea_cons (ev_D rfl (dp_mono e2 _ _ py)) ea_nil)) (spv fun vs B3 _ h => ⟨a.2, xs, h, (hs.2 a ha).2, rfl⟩))) fun x1 x2 q1 q2 _ => ev_D rfl q1) fun v1 B1 H1 g1 p1 => ?_
  have py1 := dp_mono g1.bb _ _ py
  have hfl : ((ds.filter fun d => touch d.2 xs).map (·.1)).length ≤ 40000 := by
    rw [List.length_map]
    exact Nat.le_trans (List.length_filter_le _ _) (by omega)
  have hfm : ∀ s, s ∈ (ds.filter fun d => touch d.2 xs).map (·.1) → s.length ≤ 1000 := fun s hs2 => by
    obtain ⟨d, hd, rfl⟩ := List.mem_map.mp hs2
    exact (hs.2 d (List.mem_filter.mp hd).1).1
  refine s_ret g1.bh (ev_bl (ev_andV (ev_bl (ev_op (ev_D rfl py1) (ev_tup [] ea_nil (by simp)) (ov_ned (sk_ti (k := 0) xs).sh (sk_nilT (k := 0)).sh)) (by rw [eqv_ti0])) fun _ => ev_op (ev_lcIf ((ds.filter fun d : Deed => touch d.2 xs).map (fun d : Deed => d.1)) TuI (fun s => !touch s xs) (fun _ => 1) (ei_lst (ev_D rfl p1)) hfl fun a v B2 ha e2 dv => lt_name rfl (et_not (et_test (ev_call (ea_cons (ev_D rfl dv) (ea_cons (ev_D rfl (dp_mono e2 _ _ py1)) ea_nil)) (spv fun vs B3 _ h => ⟨a, xs, h, hfm a ha, rfl⟩)))) fun _ => ev_ci) (ev_lst [] ea_nil (by simp)) (ov_eqd (sk_li (k := 0) _).sh (sk_nilL (k := 0)).sh)) ?_) fun v B2 H2 g2 p => q v B2 H2 (g1.trans g2) p
  rw [eqv_li0, filter_nil]
  unfold isDr
  rw [List.all_map]
  congr 2
  funext d
  simp
abbrev s__law_same : Stmt := topS 69
abbrev N__law_same : List Str := ["_law_found", "_law_due"]
theorem sc__law_same : FnScope N__law_same ["_law_found", "_law_due"] (defScope s__law_same) := ⟨rfl, rfl, rfl, by decide +kernel, rfl, by decide +kernel, by decide +kernel⟩
def spSame (K : PySem.W.Frag) : Sp := pSp fun vs B S => ∃ x y : Bool, All2 [Da K (.list ([x, y].map .bool)), Da K (.list ([x, y].map .bool))] vs B ∧ S = Xv (.bl true)
theorem ok__law_same (F : FunC K mg "_law_same" "_law_same" s__law_same) (T : Z mg) : CalG P w K mg base "_law_same" 1 ["_law_found", "_law_due"] (spSame K) := by
  refine F.calG sc__law_same (fun _ _ _ _ _ _ us hl => match us, hl with | [_, _], _ => rfl) (fun vs H Q h => by obtain ⟨_, _, _, ⟨_, _, h, _⟩, _⟩ := h; exact all2_len h) (fun f cdv A outer s H vs Q hgd hr h => ?_)
  obtain ⟨B, S, e, ⟨a, b, p, rfl⟩, q⟩ := h
  obtain ⟨x, y, rfl, px, py⟩ := all2_2 p
  have hu := hr.units
  refine ⟨_, (pss_one (ps_ret (pe_cmpR (ko_eq hu (K := K)) (pe_callB (ko_reprR hgd hr (K := K)) (by rfl) T.z_repr (by decide +kernel) (pa_cons (pv 0) pa_nil)) (pe_callB (ko_reprR hgd hr (K := K)) (by rfl) T.z_repr (by decide +kernel) (pa_cons (pv 1) pa_nil)) (nomark _)))), ?_⟩
  exact s_ret e (ev_bl (ev_op (ev_cb (ea_cons (ev_D rfl px) ea_nil) cv_reprB) (ev_cb (ea_cons (ev_D rfl py) ea_nil) cv_reprB) (ov_eqS rfl)) (decide_eq_true rfl)) q
abbrev s__law_unlike : Stmt := topS 70
abbrev N__law_unlike : List Str := ["_law_deeds", "_law_second", "_law_other", "_law_first", "_law_one"]
theorem sc__law_unlike : FnScope N__law_unlike ["_law_deeds"] (defScope s__law_unlike) := ⟨rfl, rfl, rfl, by decide +kernel, rfl, by decide +kernel, by decide +kernel⟩
def spLUn (K : PySem.W.Frag) : Sp := pSp fun vs B S => ∃ ds : List Deed, All2 [Da K (.list (ds.map DD))] vs B ∧ Sml ds ∧ S = fun v B => ∃ us : List (Int × Int), Dp K B v (.list (us.map fun u => .tuple [.int u.1, .int u.2])) ∧ (us = [] → Free ds)
theorem ok__law_unlike (F : FunC K mg "_law_unlike" "_law_unlike" s__law_unlike) (T : Z mg) (c__law_touches : Cal P w K mg base "_law_touches" 1 ["_law_one", "_law_other"] (spHave K)) : Cal P w K mg base "_law_unlike" 2 ["_law_deeds"] (spLUn K) := by
  refine F.cal sc__law_unlike (fun _ _ _ _ _ _ us hl => match us, hl with | [_], _ => rfl) (fun vs H Q E h => by obtain ⟨_, _, _, ⟨_, h, _⟩, _⟩ := h; exact all2_len h) (fun f cdv A outer s H vs Q E hr h => ?_)
  obtain ⟨B, S, e, ⟨ds, p, hs, rfl⟩, q⟩ := h
  obtain ⟨x, rfl, px⟩ := all2_1 p
  have hu := hr.units
  have hl := hs.1
  refine ⟨_, (pss_cons (ps_for PassesOwn.never rfl (ki_enum (K := K) (by rfl) T.z_enumerate (pa_cons (pv 0) pa_nil)) (kg_tup (K := K) rfl (pgs_cons (pg_name (i := 1) sc__law_unlike.nd rfl (Or.inl rfl)) (pgs_cons (pg_name (i := 2) sc__law_unlike.nd rfl (Or.inl rfl)) pgs_nil))) (pss_one (ps_for PassesOwn.never rfl (ki_enum (K := K) (by rfl) T.z_enumerate (pa_cons (pe_slice (ko_sl (K := K)) (pv 0) po_none (po_some (pv 1))) pa_nil)) (kg_tup (K := K) rfl (pgs_cons (pg_name (i := 3) sc__law_unlike.nd rfl (Or.inl rfl)) (pgs_cons (pg_name (i := 4) sc__law_unlike.nd rfl (Or.inl rfl)) pgs_nil))) (pss_one (ps_if (PW.pt (pw_and (pt_cmpR (ko_ne hu (K := K)) (pe_ix (ko_ix (K := K)) (pv 4) pe_int (fun _ _ => rfl)) (pe_ix (ko_ix (K := K)) (pv 2) pe_int (fun _ _ => rfl)) (nomark _)) (pw_and1 (pt_val (pe_cal c__law_touches hr (by rfl) (pa_cons (pe_ix (ko_ix (K := K)) (pv 4) pe_int (fun _ _ => rfl)) (pa_cons (pe_ix (ko_ix (K := K)) (pv 2) pe_int (fun _ _ => rfl)) pa_nil))))))) (pss_one (ps_ret (pe_lst (pa_cons (pe_tup (pa_cons (pv 3) (pa_cons (pv 1) pa_nil))) pa_nil)))) pss_nil)))))
      (pss_one (ps_ret (pe_lst pa_nil)))), ?_⟩
  have hi := ei_enum (K := K) (σ := start N__law_unlike [x]) (B := B) (ta := tCons (tVar 0) tNil) true (ea_cons (ev_D rfl px) ea_nil)
  rw [enumD_map ds DD ([], [])] at hi
  refine q_forG (K := K) (.refl e) hi (fun i σ' B' H' => (∃ a b c d, σ' = [some x, a, b, c, d]) ∧ ∀ j k dj dk, j < k → k < i → ds[j]? = some dj → ds[k]? = some dk → dj.1 = dk.1 ∨ touch dj.1 dk.1 = false) (fun B1 H1 g1 => ⟨⟨_, _, _, _, rfl⟩, fun j k _ _ _ h => absurd h (Nat.not_lt_zero _)⟩) ?_ ?_
  · rintro i v σ' B1 H1 B' H' dd N ⟨⟨a, b, c, d, rfl⟩, hfr⟩ hg g hdd dv fin
    obtain ⟨i', hi', rfl⟩ := map_get hdd
    have hil : i < ds.length := by
      have := (List.getElem?_eq_some_iff.mp hi').1
      rwa [List.length_range] at this
    rw [List.getElem?_range hil] at hi'
    obtain rfl := Option.some.inj hi'
    obtain ⟨d2, e2⟩ : ∃ d2, ds[i]? = some d2 := ⟨ds[i]'hil, List.getElem?_eq_getElem hil⟩
    have eg2 : ds.getD i ([], []) = d2 := by rw [List.getD_eq_getElem?_getD, e2]; rfl
    rw [eg2] at dv
    refine g_tup2 g.bh dv fun x1 x2 q1 q2 => ?_
    obtain rfl := dp_int_inv q1
    have px1 := dp_mono (hg.trans g).bb _ _ px
    have hi2 := ei_enum (K := K) (σ := [some x, some (V.int (i : Int)), some x2, c, d]) (B := B') (ta := tCons (tSl (rSlAny K) (tVar 0) tNoPart (tPart (tVar 1))) tNil) (ds := (ds.take i).map DD) true (ea_cons (ev_is (ev_slL (ev_D rfl px1) eo_none (eo_some (ev_var rfl))) (by rw [cutD_to (by omega), ← List.map_take, Int.toNat_natCast]; rfl)) ea_nil)
    rw [enumD_map (ds.take i) DD ([], [])] at hi2
    refine s_forG (K := K) (hg.trans g) hi2 (fun j σ' B' H' => (∃ c d, σ' = [some x, some (V.int (i : Int)), some x2, c, d]) ∧ Dp K B' x2 (DD d2) ∧ ∀ j' dj, j' < j → ds[j']? = some dj → dj.1 = d2.1 ∨ touch dj.1 d2.1 = false) (fun B1 H1 g1 => ⟨⟨_, _, rfl⟩, dp_mono g1.bb _ _ q2, fun j _ h => absurd h (Nat.not_lt_zero _)⟩) ?_ ?_
    · rintro j v2 σ2 B2 H2 B3 H3 dd2 N2 ⟨⟨c, d, rfl⟩, hx2, hfr2⟩ hg2 g2 hdd2 dv2 fin2
      obtain ⟨j', hj', rfl⟩ := map_get hdd2
      have hjl : j < (ds.take i).length := by
        have := (List.getElem?_eq_some_iff.mp hj').1
        rwa [List.length_range] at this
      rw [List.getElem?_range hjl] at hj'
      obtain rfl := Option.some.inj hj'
      have hji : j < i := by rw [List.length_take] at hjl; omega
      obtain ⟨d1, e1⟩ : ∃ d1, ds[j]? = some d1 := ⟨ds[j]'(by omega), List.getElem?_eq_getElem (by omega)⟩
      have eg1 : (ds.take i).getD j ([], []) = d1 := by rw [List.getD_eq_getElem?_getD, List.getElem?_take_of_lt hji, e1]; rfl
      rw [eg1] at dv2
      refine g_tup2 g2.bh dv2 fun y1 y2 r1 r2 => ?_
      have hx3 := dp_mono g2.bb _ _ hx2
      refine s_ifn g2.bh (et_and (et_test (ev_op (ev_op (ev_D rfl r2) ev_c (ov_ixt (j := 0) rfl (dd_get0 d1))) (ev_op (ev_D rfl hx3) ev_c (ov_ixt (j := 0) rfl (dd_get0 d2))) (ov_ned (sk_ti (k := 0) d1.1).sh (sk_ti (k := 0) d2.1).sh))) fun _ => et_test (ev_call (ea_cons (ev_op (ev_D rfl r2) ev_c (ov_ixt (j := 0) rfl (dd_get0 d1))) (ea_cons (ev_op (ev_D rfl hx3) ev_c (ov_ixt (j := 0) rfl (dd_get0 d2))) ea_nil)) (spv fun vs B5 _ h => ⟨d1.1, d2.1, h, (hs.2 d1 (List.mem_of_getElem? e1)).1, rfl⟩))) (fun ht B4 H4 g4 => ?_) fun hf B4 H4 g4 => ?_
      · obtain rfl := dp_int_inv r1
        exact s_ret g4.bh (ev_lst [.tuple [.int (j : Int), .int (i : Int)]] (ea_cons (ev_tup [.int (j : Int), .int (i : Int)] (ea_cons (ev_i (ev_var rfl)) (ea_cons (ev_i (ev_var rfl)) ea_nil)) (by simp)) ea_nil) (by simp)) fun v B5 H5 g5 p5 => q v B5 H5 (((hg2.trans g2).trans g4).trans g5) ⟨[((j : Int), (i : Int))], p5, fun z => by cases z⟩
      · refine fin2 _ B4 H4 ((hg2.trans g2).trans g4) g4.bb ⟨⟨_, _, rfl⟩, dp_mono g4.bb _ _ hx3, fun j' dj hj' ej => ?_⟩
        by_cases z : j' = j
        · subst z
          rw [e1] at ej
          obtain rfl := Option.some.inj ej
          rw [eqv_ti] at hf
          by_cases z2 : d1.1 = d2.1
          · exact .inl z2
          · rw [decide_eq_false z2] at hf
            exact .inr (by simpa using hf)
        · exact hfr2 j' dj (by omega) ej
    · rintro σ2 B2 H2 hg2 hb2 ⟨⟨c, d, rfl⟩, hx2, hfr2⟩
      refine fin _ B2 H2 hg2 hb2 ⟨⟨_, _, _, _, rfl⟩, fun j k dj dk hjk hk ej ek => ?_⟩
      by_cases z : k = i
      · subst z
        rw [e2] at ek
        obtain rfl := Option.some.inj ek
        refine hfr2 j dj ?_ ej
        rw [List.length_map, List.length_range, List.length_take]
        omega
      · exact hfr j k dj dk hjk (by omega) ej ek
  · rintro σ' B' H' hg _ ⟨⟨a, b, c, d, rfl⟩, hfr⟩
    rw [List.length_map, List.length_range] at hfr
    refine s_ret hg.bh (ev_lst [] ea_nil (by simp)) fun v B2 H2 g2 p2 => q v B2 H2 (hg.trans g2) ⟨[], p2, fun _ d1 h1 d2 h2 => ?_⟩
    obtain ⟨j, hj⟩ := List.mem_iff_getElem?.mp h1
    obtain ⟨k, hk⟩ := List.mem_iff_getElem?.mp h2
    have hjl := (List.getElem?_eq_some_iff.mp hj).1
    have hkl := (List.getElem?_eq_some_iff.mp hk).1
    rcases Nat.lt_trichotomy j k with z | z | z
    · exact hfr j k d1 d2 z hkl hj hk
    · subst z
      rw [hj] at hk
      obtain rfl := Option.some.inj hk
      exact .inl rfl
    · rcases hfr k j d2 d1 z hjl hk hj with y | y
      · exact .inl y.symm
      · exact .inr (by rw [touch_comm]; exact y)
end
end CN
set_option Elab.async false
set_option linter.all false
set_option maxRecDepth 100000
set_option maxHeartbeats 4000000
/-! M4: the boxes that hang together with box 0. -/
namespace CM
def lstep (met : List Int) (d : Deed) : List Int := if touch (d.1 ++ d.2) met then met ++ (d.1 ++ d.2).filter (fun x => !decide (x ∈ met)) else met
def lpass (met : List Int) (ds : List Deed) : List Int := ds.foldl lstep met
def lmet (ds : List Deed) (k : Nat) : List Int := Nat.rec [0] (fun _ met => lpass met ds) k
theorem lmet_s (ds : List Deed) (k : Nat) : lmet ds (k + 1) = lpass (lmet ds k) ds := rfl
theorem lpass_snoc {met : List Int} {ds : List Deed} {d : Deed} : lpass met (ds ++ [d]) = lstep (lpass met ds) d := by unfold lpass; rw [List.foldl_append]; rfl
theorem nodup_len : ∀ (n : Nat) (A : List Int), A.Nodup → (∀ x, x ∈ A → 0 ≤ x ∧ x < (n : Int)) → A.length ≤ n
  | 0, A, _, h => by
    cases A with
    | nil => exact Nat.le_refl _
    | cons a _ => exact absurd (h a List.mem_cons_self) (by omega)
  | n + 1, A, hn, h => by
    have ih := nodup_len n (A.erase (n : Int)) (hn.erase _) fun x hx => by
      have h1 := (hn.mem_erase_iff.mp hx)
      have h2 := h x h1.2
      have h3 := h1.1
      omega
    rw [List.length_erase] at ih
    split at ih <;> omega
/-- what stands in met: two lists without doubles -/
def Two (n : Nat) (met : List Int) : Prop := ∃ A C : List Int, A.Nodup ∧ C.Nodup ∧ met.Perm (A ++ C) ∧ (∀ x, x ∈ A → 0 ≤ x ∧ x < (n : Int)) ∧ ∀ x, x ∈ C → 0 ≤ x ∧ x < (n : Int)
theorem Two.len {n : Nat} {met : List Int} (h : Two n met) : met.length ≤ 2 * n := by
  obtain ⟨A, C, h1, h2, h3, h4, h5⟩ := h
  have := nodup_len n A h1 h4
  have := nodup_len n C h2 h5
  rw [h3.length_eq, List.length_append]
  omega
theorem Two.ins {n : Nat} {met : List Int} (h : Two n met) : ∀ x, x ∈ met → 0 ≤ x ∧ x < (n : Int) := fun x hx => by
  obtain ⟨A, C, h1, h2, h3, h4, h5⟩ := h
  rcases List.mem_append.mp (h3.mem_iff.mp hx) with h | h
  · exact h4 x h
  · exact h5 x h
theorem nodup_app {A X : List Int} (h1 : A.Nodup) (h2 : X.Nodup) (h3 : ∀ x, x ∈ X → x ∉ A) : (A ++ X).Nodup := by
  rw [List.nodup_append]
  exact ⟨h1, h2, fun a ha b hb e => h3 b hb (e ▸ ha)⟩
theorem pw_nodup {s : List Int} (h : s.Pairwise (· < ·)) : s.Nodup := h.imp fun a => by omega
theorem Two.step {n : Nat} {met : List Int} {d : Deed} (h : Two n met) (h1 : IsSet n d.1) (h2 : IsSet n d.2) : Two n (lstep met d) := by
  unfold lstep
  split
  · obtain ⟨A, C, k1, k2, k3, k4, k5⟩ := h
    refine ⟨A ++ d.1.filter (fun x => !decide (x ∈ met)), C ++ d.2.filter (fun x => !decide (x ∈ met)), nodup_app k1 ((pw_nodup h1.2).filter _) ?_, nodup_app k2 ((pw_nodup h2.2).filter _) ?_, ?_, ?_, ?_⟩
    · intro x hx hA
      have := (List.mem_filter.mp hx).2
      have hm : x ∈ met := k3.mem_iff.mpr (List.mem_append_left _ hA)
      simp [hm] at this
    · intro x hx hA
      have := (List.mem_filter.mp hx).2
      have hm : x ∈ met := k3.mem_iff.mpr (List.mem_append_right _ hA)
      simp [hm] at this
    · rw [List.filter_append, List.append_assoc]
      refine (k3.append_right _).trans ?_
      rw [List.append_assoc]
      refine List.Perm.append_left _ ?_
      rw [← List.append_assoc, ← List.append_assoc]
      exact List.Perm.append_right _ List.perm_append_comm
    · intro x hx
      rcases List.mem_append.mp hx with hx | hx
      · exact k4 x hx
      · exact h1.1 x (List.mem_filter.mp hx).1
    · intro x hx
      rcases List.mem_append.mp hx with hx | hx
      · exact k5 x hx
      · exact h2.1 x (List.mem_filter.mp hx).1
  · exact h
theorem Two.pass {n : Nat} : ∀ {ds : List Deed} {met : List Int}, Two n met → (∀ d, d ∈ ds → IsSet n d.1 ∧ IsSet n d.2) → Two n (lpass met ds)
  | [], _, h, _ => h
  | d :: ds, _, h, k => Two.pass (ds := ds) (h.step (k d List.mem_cons_self).1 (k d List.mem_cons_self).2) fun c hc => k c (List.mem_cons_of_mem _ hc)
theorem two0 {n : Nat} (h : 1 ≤ n) : Two n [0] := ⟨[0], [], by simp, by simp, by simp, fun x hx => by (have : x = 0 := by simpa using hx); omega, by simp⟩
theorem two_met {n : Nat} {ds : List Deed} (h : 1 ≤ n) (k : ∀ d, d ∈ ds → IsSet n d.1 ∧ IsSet n d.2) : ∀ j, Two n (lmet ds j)
  | 0 => two0 h
  | j + 1 => (two_met h k j).pass k
/-- what is closed and holds 0 holds all that were met -/
def Cl (ds : List Deed) (M : Int → Prop) : Prop := ∀ d, d ∈ ds → (∃ x, (x ∈ d.1 ∨ x ∈ d.2) ∧ M x) → ∀ x, x ∈ d.1 ∨ x ∈ d.2 → M x
theorem cl_step {ds : List Deed} {M : Int → Prop} (c : Cl ds M) {met : List Int} {d : Deed} (hd : d ∈ ds) (h : ∀ x, x ∈ met → M x) : ∀ x, x ∈ lstep met d → M x := fun x hx => by
  unfold lstep at hx
  split at hx
  · rename_i ht
    rcases List.mem_append.mp hx with hx | hx
    · exact h x hx
    · obtain ⟨y, hy1, hy2⟩ := touch_iff.mp ht
      exact c d hd ⟨y, List.mem_append.mp hy1, h y hy2⟩ x (List.mem_append.mp (List.mem_filter.mp hx).1)
  · exact h x hx
theorem cl_pass {es : List Deed} {M : Int → Prop} (c : Cl es M) : ∀ {ds : List Deed} {met : List Int}, (∀ d, d ∈ ds → d ∈ es) → (∀ x, x ∈ met → M x) → ∀ x, x ∈ lpass met ds → M x
  | [], _, _, h => h
  | d :: ds, met, k, h => cl_pass c (ds := ds) (met := lstep met d) (fun d hd => k d (List.mem_cons_of_mem _ hd)) (cl_step c (k d List.mem_cons_self) h)
theorem cl_met {ds : List Deed} {M : Int → Prop} (c : Cl ds M) (h0 : M 0) : ∀ j x, x ∈ lmet ds j → M x
  | 0 => fun x hx => by rw [List.mem_singleton.mp (show x ∈ [(0 : Int)] from hx)]; exact h0
  | j + 1 => cl_pass c (fun d hd => hd) (cl_met c h0 j)
theorem conn_of {n : Nat} {ds : List Deed} {j : Nat} (h : ∀ x : Int, 0 ≤ x → x < (n : Int) → x ∈ lmet ds j) : Conn n ds := fun M ⟨x0, a, b, hM⟩ c x hx1 hx2 => by
  by_cases z : M 0
  · exact cl_met (M := M) c z j x (h x hx1 hx2)
  · refine absurd hM (cl_met (M := fun x => ¬ M x) (fun d hd ⟨y, hy, hn⟩ u hu hMu => hn (c d hd ⟨u, hu, hMu⟩ y hy)) z j x0 (h x0 a b))
end CM
set_option Elab.async false
set_option linter.all false
set_option maxRecDepth 100000
set_option maxHeartbeats 4000000
/-! D15: the law's own helpers that draw nothing. -/
namespace CN
open PySem PySem.Spec PyProof.Rows L2 CM
section
variable {P : Program} {w : World} {K : PySem.W.Frag} {mg : Str → Option Value} {base : Heap} {C : Addr}
theorem blk_in {N : List Str} {sc sc' scope : Scope} {own : List (Str × Nat)} (x : Str) (h : BlkOk N sc scope own) (hf : ∀ y ∈ scope.names, y.2 = .free → y.1 = x) (hx : sc'.names.lookup x = some .cell) : BlkOk N sc' scope own := ⟨h.kind, h.uniq, h.ix, fun y hy e => .inl (by rw [hf y hy e]; exact hx), h.own⟩
abbrev s__law_worth : Stmt := topS 77
abbrev N__law_worth : List Str := ["_law_worths", "_law_boxes", "_law_box"]
theorem sc__law_worth : FnScope N__law_worth ["_law_worths", "_law_boxes"] (defScope s__law_worth) := ⟨rfl, rfl, rfl, by decide +kernel, rfl, by decide +kernel, by decide +kernel⟩
theorem ok__law_worth (F : FunC K mg "_law_worth" "_law_worth" s__law_worth) (T : Z mg) : Cal P w K mg base "_law_worth" 1 ["_law_worths", "_law_boxes"] (spWorth K) := by
  refine F.cal sc__law_worth (fun _ _ _ _ _ _ us hl => match us, hl with | [_, _], _ => rfl) (fun vs H Q E h => by obtain ⟨_, _, _, ⟨_, _, h, _⟩, _⟩ := h; exact all2_len h) (fun f cdv A outer s H vs Q E hr h => ?_)
  obtain ⟨B, S, e, ⟨ws, bs, p, hb, hl, rfl⟩, q⟩ := h
  obtain ⟨x, y, rfl, px, py⟩ := all2_2 p
  refine ⟨_, (pss_one (ps_ret (pe_callB (ko_sum rfl (K := K)) (by rfl) T.z_sum (by decide +kernel) (pa_cons (pe_lc (own := [("_law_box", 2)]) (g := gName 2) (tt := tYes) rfl sc__law_worth.nd (ki_seq (K := K) (pv 1)) (blkOk_by (own := [("_law_box", 2)]) (N := N__law_worth) (sc := defScope s__law_worth) (by decide +kernel)) (fun _ _ _ _ _ => (pg_name (i := 2) sc__law_worth.nd rfl (Or.inl rfl))) (fun _ _ _ _ _ => pts_nil) (fun _ _ _ _ _ => (pe_ix (ko_ix (K := K)) (pv 0) (pv 2) (fun _ _ => rfl)))) pa_nil)))), ?_⟩
  exact s_ret e (ev_cb (ea_cons (ev_lcI bs .int (fun b => ws.getD b.toNat 0) (ei_tup (ev_d rfl py)) (by omega) fun a v B1 ha e1 dv => lt_name rfl et_yes fun _ =>
    ev_op (ev_d rfl (dp_mono e1 _ _ px)) (ev_var (by rw [dp_int_inv dv]; rfl)) (ov_ixt (Int.toNat_of_nonneg (hb a ha).1).symm (get_of (hb a ha)))) ea_nil) cv_sum) q
abbrev s__law_cell_at : Stmt := topS 73
abbrev N__law_cell_at : List Str := ["_law_script", "_law_k"]
theorem sc__law_cell_at : FnScope N__law_cell_at ["_law_script", "_law_k"] (defScope s__law_cell_at) := ⟨rfl, rfl, rfl, by decide +kernel, rfl, by decide +kernel, by decide +kernel⟩
def spCell (K : PySem.W.Frag) : Sp := pSp fun vs B S => ∃ xs : List Int, All2 [Da K (LiI xs), Xv (.int 0)] vs B ∧ S = fun v _ => ∃ i : Int, v = .int i
theorem ok__law_cell_at (F : FunC K mg "_law_cell_at" "_law_cell_at" s__law_cell_at) (T : Z mg) : Cal P w K mg base "_law_cell_at" 1 ["_law_script", "_law_k"] (spCell K) := by
  refine F.cal sc__law_cell_at (fun _ _ _ _ _ _ us hl => match us, hl with | [_, _], _ => rfl) (fun vs H Q E h => by obtain ⟨_, _, _, ⟨_, h, _⟩, _⟩ := h; exact all2_len h) (fun f cdv A outer s H vs Q E hr h => ?_)
  obtain ⟨B, S, e, ⟨xs, p, rfl⟩, q⟩ := h
  obtain ⟨x, y, rfl, px, py⟩ := all2_2 p
  obtain rfl : y = V.int 0 := py
  refine ⟨_, (pss_cons (ps_if (pt_cmpR op_lt (pv 1) (pe_callB (ko_len (K := K)) (by rfl) T.z_len (by decide +kernel) (pa_cons (pv 0) pa_nil)) (nomark _)) (pss_one (ps_ret (pe_ix (ko_ix (K := K)) (pv 0) (pv 1) (fun _ _ => rfl)))) pss_nil)
      (pss_one (ps_ret pe_int))), ?_⟩
  refine q_ifn e (et_test (ev_op (ev_var rfl) (ev_cb (ea_cons (ev_D rfl px) ea_nil) cv_lenl) ov_I0)) (fun ht B1 H1 g1 => ?_) fun hf B1 H1 g1 => ?_
  · rw [List.length_map] at ht
    have hl : 0 < xs.length := by simpa using ht
    exact s_ret g1.bh (ev_xi (ev_op (ev_D rfl (dp_mono g1.bb _ _ px)) (ev_var rfl) (ov_ixl (j := 0) rfl (by rw [List.getElem?_map, List.getElem?_eq_getElem hl]; rfl)))) fun v B2 H2 g2 p2 => q v B2 H2 (g1.trans g2) ⟨_, p2⟩
  · exact s_ret g1.bh ev_c fun v B2 H2 g2 p2 => q v B2 H2 (g1.trans g2) ⟨_, p2⟩
abbrev s__law_moved : Stmt := topS 87
abbrev N__law_moved : List Str := ["_law_deed", "_law_state_here", "_law_box", "_law_coins"]
theorem sc__law_moved : FnScope N__law_moved ["_law_deed", "_law_state_here"] (defScope s__law_moved) := ⟨rfl, rfl, rfl, by decide +kernel, rfl, by decide +kernel, by decide +kernel⟩
theorem ok__law_moved (F : FunC K mg "_law_moved" "_law_moved" s__law_moved) (T : Z mg) : Cal P w K mg base "_law_moved" 1 ["_law_deed", "_law_state_here"] (spMoved K) := by
  refine F.cal sc__law_moved (fun _ _ _ _ _ _ us hl => match us, hl with | [_, _], _ => rfl) (fun vs H Q E h => by obtain ⟨_, _, _, ⟨_, _, h, _⟩, _⟩ := h; exact all2_len h) (fun f cdv A outer s H vs Q E hr h => ?_)
  obtain ⟨B, S, e, ⟨d, st, p, hl, rfl⟩, q⟩ := h
  obtain ⟨x, y, rfl, px, py⟩ := all2_2 p
  refine ⟨_, (pss_one (ps_ret (pe_callTy (ko_tuple (K := K)) (by rfl) T.z_tuple (by decide +kernel) (pa_cons (pe_lc (own := [("_law_box", 2), ("_law_coins", 3)]) (g := gTup K 2 (gCons (gName 2) (gCons (gName 3) (gNil)))) (tt := tYes) rfl sc__law_moved.nd (ki_enum (K := K) (by rfl) T.z_enumerate (pa_cons (pv 1) pa_nil)) (blkOk_by (own := [("_law_box", 2), ("_law_coins", 3)]) (N := N__law_moved) (sc := defScope s__law_moved) (by decide +kernel)) (fun _ _ _ _ _ => (kg_tup (K := K) rfl (pgs_cons (pg_name (i := 2) sc__law_moved.nd rfl (Or.inl rfl)) (pgs_cons (pg_name (i := 3) sc__law_moved.nd rfl (Or.inl rfl)) pgs_nil)))) (fun _ _ _ _ _ => pts_nil) (fun _ _ _ _ _ => (pe_op (ko_add (K := K)) (pe_op op_sub (pv 3) (pe_callTy ac_int (by rfl) T.z_int (by decide +kernel) (pa_cons (pe_cmpR (ko_in (K := K)) (pv 2) (pe_ix (ko_ix (K := K)) (pv 0) pe_int (fun _ _ => rfl)) rfl) pa_nil))) (pe_callTy ac_int (by rfl) T.z_int (by decide +kernel) (pa_cons (pe_cmpR (ko_in (K := K)) (pv 2) (pe_ix (ko_ix (K := K)) (pv 0) pe_int (fun _ _ => rfl)) rfl) pa_nil))))) pa_nil)))), ?_⟩
  have hi := ei_enum (K := K) (σ := [some x, some y, none, none]) (B := B) (ta := tCons (tVar 1) tNil) false (ea_cons (ev_D rfl py) ea_nil)
  rw [enumD_map st .int 0] at hi
  refine s_ret e (ev_is (ev_cb (ea_cons (ev_lcI (List.range st.length) (fun i => .tuple [.int (i : Nat), .int (st.getD i 0)]) (fun i => st.getD i 0 - (if decide ((i : Int) ∈ d.1) then 1 else 0) + (if decide ((i : Int) ∈ d.2) then 1 else 0)) hi (by rw [List.length_range]; omega) fun a v B2 ha e2 dv => ?_) ea_nil) cv_tuple) rfl) q
  refine lt_tup2 dv (fun _ _ => rfl) (fun _ _ _ _ => et_yes) fun x1 x2 d1 d2 _ => ?_
  obtain rfl := dp_int_inv d1
  obtain rfl := dp_int_inv d2
  have p1 := dp_mono e2 _ _ px
  exact ev_i (ev_op (ev_op (ev_var rfl) (ev_cb (ea_cons (ev_op (ev_var rfl) (ev_op (ev_D rfl p1) ev_c (ov_ixt (j := 0) rfl (dd_get0 d))) ov_inTI) ea_nil) cv_intb) ov_I0) (ev_cb (ea_cons (ev_op (ev_var rfl) (ev_op (ev_D rfl p1) ev_c (ov_ixt (j := 1) rfl (dd_get1 d))) ov_inTI) ea_nil) cv_intb) ov_addI)
abbrev s__law_possible : Stmt := topS 86
abbrev N__law_possible : List Str := ["_law_deeds", "_law_state_here", "_law_at", "_law_deed", "_law_box"]
theorem sc__law_possible : FnScope N__law_possible ["_law_deeds", "_law_state_here"] (defScope s__law_possible) := ⟨rfl, rfl, rfl, by decide +kernel, rfl, by decide +kernel, by decide +kernel⟩
/-- the places of the deeds whose boxes are not empty -/
def possN (ds : List Deed) (st : List Int) : List Nat := (List.range ds.length).filter fun i => (ds.getD i ([], [])).1.all fun b => !decide (st.getD b.toNat 0 = 0)
def spPoss (K : PySem.W.Frag) : Sp := pSp fun vs B S => ∃ (ds : List Deed) (st : List Int), All2 [Da K (.list (ds.map DD)), Da K (TuI st)] vs B ∧ Sml ds ∧ (∀ d, d ∈ ds → Inr st.length d.1) ∧ S = Da K (TuI ((possN ds st).map fun (i : Nat) => (i : Int)))
theorem ok__law_possible (F : FunC K mg "_law_possible" "_law_possible" s__law_possible) (T : Z mg) : Cal P w K mg base "_law_possible" 1 ["_law_deeds", "_law_state_here"] (spPoss K) := by
  refine F.cal sc__law_possible (fun _ _ _ _ _ _ us hl => match us, hl with | [_, _], _ => rfl) (fun vs H Q E h => by obtain ⟨_, _, _, ⟨_, _, h, _⟩, _⟩ := h; exact all2_len h) (fun f cdv A outer s H vs Q E hr h => ?_)
  obtain ⟨B, S, e, ⟨ds, st, p, hs, hin, rfl⟩, q⟩ := h
  obtain ⟨x, y, rfl, px, py⟩ := all2_2 p
  have hu := hr.units
  have hl := hs.1
  refine ⟨_, (pss_one (ps_ret (pe_callTy (ko_tuple (K := K)) (by rfl) T.z_tuple (by decide +kernel) (pa_cons (pe_lc (own := [("_law_at", 2), ("_law_deed", 3)]) (g := gTup K 2 (gCons (gName 2) (gCons (gName 3) (gNil)))) rfl sc__law_possible.nd (ki_enum (K := K) (by rfl) T.z_enumerate (pa_cons (pv 0) pa_nil)) (blkOk_by (own := [("_law_at", 2), ("_law_deed", 3)]) (N := N__law_possible) (sc := defScope s__law_possible) (by decide +kernel)) (fun _ _ _ _ _ => (kg_tup (K := K) rfl (pgs_cons (pg_name (i := 2) sc__law_possible.nd rfl (Or.inl rfl)) (pgs_cons (pg_name (i := 3) sc__law_possible.nd rfl (Or.inl rfl)) pgs_nil)))) (fun _ _ _ _ _ => pts_one (pt_cmpR (ko_eq hu (K := K)) (pe_lc (own := [("_law_box", 4)]) (g := gName 4) rfl sc__law_possible.nd (ki_seq (K := K) (pe_ix (ko_ix (K := K)) (pv 3) pe_int (fun _ _ => rfl))) (blk_in "_law_state_here" (blkOk_by (own := [("_law_box", 4)]) (N := N__law_possible) (sc := defScope s__law_possible) (by decide +kernel)) (by decide +kernel) (by rfl)) (fun _ _ _ _ _ => (pg_name (i := 4) sc__law_possible.nd rfl (Or.inl rfl))) (fun _ _ _ _ _ => pts_one (pt_cmpR (ko_eq hu (K := K)) (pe_ix (ko_ix (K := K)) (pv 1) (pv 4) (fun _ _ => rfl)) pe_int (nomark _))) (fun _ _ _ _ _ => pe_int)) (pe_lst pa_nil) (nomark _))) (fun _ _ _ _ _ => (pv 2))) pa_nil)))), ?_⟩
  have hi := ei_enum (K := K) (σ := [some x, some y, none, none, none]) (B := B) (ta := tCons (tVar 0) tNil) true (ea_cons (ev_D rfl px) ea_nil)
  rw [enumD_map ds DD ([], [])] at hi
  refine s_ret e (ev_is (ev_cb (ea_cons (ev_lcIf (List.range ds.length) (fun i => .tuple [.int (i : Nat), DD (ds.getD i ([], []))]) (fun i => (ds.getD i ([], [])).1.all fun b => !decide (st.getD b.toNat 0 = 0)) (fun i => (i : Int)) hi (by rw [List.length_range]; omega) fun a v B2 ha e2 dv => ?_) ea_nil) cv_tuple) rfl) q
  have hal : a < ds.length := List.mem_range.mp ha
  have hmem : ds.getD a ([], []) ∈ ds := by
    rw [List.getD_eq_getElem?_getD, List.getElem?_eq_getElem hal]
    exact List.getElem_mem hal
  generalize ds.getD a ([], []) = d at dv hmem ⊢
  have py2 := dp_mono e2 _ _ py
  refine lt_tup2 dv (fun _ _ => rfl) (fun x1 x2 q1 q2 => ?_) fun x1 x2 d1 d2 _ => ?_
  · refine et_is (et_test (ev_op (ev_lcIf d.1 .int (fun b => decide (st.getD b.toNat 0 = 0)) (fun _ => 1) (ei_tup (ev_op (ev_D rfl q2) ev_c (ov_ixt (j := 0) rfl (dd_get0 d)))) (by have := (hs.2 d hmem).1; omega) fun b u B3 hb e3 du => lt_name rfl (et_test (ev_op (ev_xi (ev_op (ev_D rfl (dp_mono e3 _ _ py2)) (ev_var (by rw [dp_int_inv du]; rfl)) (ov_ixt (Int.toNat_of_nonneg (hin d hmem b hb).1).symm (get_of (hin d hmem b hb))))) ev_c ov_eqi)) fun _ => ev_ci) (ev_lst [] ea_nil (by simp)) (ov_eqd (sk_li (k := 0) _).sh (sk_nilL (k := 0)).sh))) ?_
    rw [eqv_li0, filter_nil]
  · obtain rfl := dp_int_inv d1
    exact ev_i (ev_var rfl)
abbrev s__law_sets : Stmt := topS 78
abbrev N__law_sets : List Str := ["_law_count", "_law_found", "_law_one", "_law_row_here", "_law_length"]
theorem sc__law_sets : FnScope N__law_sets ["_law_count"] (defScope s__law_sets) := ⟨rfl, rfl, rfl, by decide +kernel, rfl, by decide +kernel, by decide +kernel⟩
theorem ok__law_sets (F : FunC K mg "_law_sets" "_law_sets" s__law_sets) (T : Z mg) : Cal P w K mg base "_law_sets" 1 ["_law_count"] (spBelow K) := by
  refine F.cal sc__law_sets (fun _ _ _ _ _ _ us hl => match us, hl with | [_], _ => rfl) (fun vs H Q E h => by obtain ⟨_, _, _, ⟨_, h, _⟩, _⟩ := h; exact all2_len h) (fun f cdv A outer s H vs Q E hr h => ?_)
  obtain ⟨B, S, e, ⟨n, p, hn, rfl⟩, q⟩ := h
  obtain ⟨x, rfl, px⟩ := all2_1 p
  obtain rfl : x = V.int n := px
  refine ⟨_, (pss_cons (ps_set (i := 1) sc__law_sets.nd rfl (Or.inl rfl) (pe_lst (pa_cons (pe_tup pa_nil) pa_nil)))
      (pss_cons (ps_for PassesOwn.never rfl (pi_range1 (by rfl) T.z_range (pa_cons (pv 0) pa_nil)) (pg_name (i := 2) sc__law_sets.nd rfl (Or.inr rfl)) (pss_one (ps_set (i := 1) sc__law_sets.nd rfl (Or.inl rfl) (pe_op (ko_add (K := K)) (pv 1) (pe_lc (own := [("_law_row_here", 3)]) (g := gName 3) (tt := tYes) rfl sc__law_sets.nd (ki_seq (K := K) (pv 1)) (blkOk_by (own := [("_law_row_here", 3)]) (N := N__law_sets) (sc := defScope s__law_sets) (by decide +kernel)) (fun _ _ _ _ _ => (pg_name (i := 3) sc__law_sets.nd rfl (Or.inl rfl))) (fun _ _ _ _ _ => pts_nil) (fun _ _ _ _ _ => (pe_op (ko_add (K := K)) (pv 3) (pe_tup (pa_cons (pv 2) pa_nil)))))))))
      (pss_one (ps_ret (pe_lc (own := [("_law_length", 4), ("_law_row_here", 3)]) (g := gTup K 2 (gCons (gName 4) (gCons (gName 3) (gNil)))) (tt := tYes) rfl sc__law_sets.nd (ki_seq (K := K) (pe_callB (ko_sortedR hr (K := K) (w := w)) (by rfl) T.z_sorted (by decide +kernel) (pa_cons (pe_lc (own := [("_law_row_here", 3)]) (g := gName 3) (tt := tYes) rfl sc__law_sets.nd (ki_seq (K := K) (pv 1)) (blkOk_by (own := [("_law_row_here", 3)]) (N := N__law_sets) (sc := defScope s__law_sets) (by decide +kernel)) (fun _ _ _ _ _ => (pg_name (i := 3) sc__law_sets.nd rfl (Or.inl rfl))) (fun _ _ _ _ _ => pts_nil) (fun _ _ _ _ _ => (pe_tup (pa_cons (pe_callB (ko_len (K := K)) (by rfl) T.z_len (by decide +kernel) (pa_cons (pv 3) pa_nil)) (pa_cons (pv 3) pa_nil))))) pa_nil))) (blkOk_by (own := [("_law_length", 4), ("_law_row_here", 3)]) (N := N__law_sets) (sc := defScope s__law_sets) (by decide +kernel)) (fun _ _ _ _ _ => (kg_tup (K := K) rfl (pgs_cons (pg_name (i := 4) sc__law_sets.nd rfl (Or.inl rfl)) (pgs_cons (pg_name (i := 3) sc__law_sets.nd rfl (Or.inl rfl)) pgs_nil)))) (fun _ _ _ _ _ => pts_nil) (fun _ _ _ _ _ => (pv 3))))))), ?_⟩
  refine q_asg e (ev_lstL (K := K) [TuI []] (ea_cons (ev_tup [] ea_nil (by decide)) ea_nil) (by decide)) fun v0 B0 H0 g0 p0 => ?_
  refine q_forG (K := K) g0 (ei_rng1 (ea_cons (ev_var rfl) ea_nil) (by omega)) (fun i σ' B' H' => ∃ v t r z, σ' = [some (.int n), some v, t, r, z] ∧ Dl K ((subs i).map TuI) v B') (fun B1 H1 g1 => ⟨v0, none, none, none, rfl, Mo.mo _ _ _ g1.bb p0⟩) ?_ ?_
  · rintro i x σ' B0 H0 B' H' d N ⟨v, t, r, z, rfl, hv⟩ hg g hd dx fin
    obtain ⟨rfl, hi⟩ := rng_get hd
    have hi6 : i < 6 := by omega
    obtain rfl := dp_int_inv dx
    have hv' := Mo.mo _ _ _ g.bb hv
    have hsz := subs_small (n := i) (by omega)
    refine s_asg g.bh (ev_op (ev_d rfl hv') (ev_lcL0 (subs i) TuI (fun s => TuI (s ++ [(i : Int)])) (ei_lst (ev_d rfl (dl_da hv'))) (by omega) fun a x B2 ha e2 dx2 => lt_name rfl et_yes fun _ => ?_) (ov_addL (by rw [List.length_map, List.length_map]; omega))) fun v2 B2 H2 g2 p2 => fin _ B2 H2 ((hg.trans g).trans g2) g2.bb ⟨v2, _, _, _, rfl, ?_⟩
    · have hal := subs_sml ha
      exact ev_is (ev_op (ev_d rfl dx2) (ev_tup [.int (i : Int)] (ea_cons (ev_i (ev_var (by rw [Int.zero_add]; rfl))) ea_nil) (by simp)) (ov_addT (by rw [List.length_map]; show a.length + 1 ≤ _; omega))) (by show PyData.tuple _ = PyData.tuple _; rw [List.map_append]; rfl)
    · have e2 : (subs (i + 1)).map TuI = (subs i).map TuI ++ (subs i).map fun s => TuI (s ++ [(i : Int)]) := by
        rw [subs, List.map_append, List.map_map]
        rfl
      rw [e2]
      exact p2
  · rintro σ' B' H' hg _ ⟨v, t, r, z, rfl, hv⟩
    have hl : ((rangeL 0 (n : Int).toNat).map PyData.int).length = n := by simp [rangeL]
    rw [hl] at hv
    have hsz := subs_small hn
    refine s_ret hg.bh (ev_is (ev_lc0 (ordS (subs n)) (fun s => .tuple [.int (s.length : Int), TuI s]) TuI (ei_lst (ev_cb (ea_cons (ev_is (ev_lc0 (subs n) TuI (fun s => .tuple [.int (s.length : Int), TuI s]) (ei_lst (ev_D rfl (dl_da hv))) (by omega) fun a x B2 ha e2 dx2 => lt_name rfl et_yes fun _ => ?_) rfl) ea_nil) (cv_sD (by omega)))) (by rw [(ordS_perm _).length_eq]; omega) fun a x B2 ha e2 dx2 => lt_tup2 dx2 (fun _ _ => rfl) (fun _ _ _ _ => et_yes) fun x1 x2 d1 d2 _ => ev_D rfl d2) rfl) fun v B2 H2 g2 p => q v B2 H2 (hg.trans g2) p
    refine ev_tup [.int (a.length : Int), TuI a] (ea_cons (ev_i ?_) (ea_cons (ev_D rfl dx2) ea_nil)) (by simp)
    have := ev_cb (ea_cons (ev_D (K := K) (σ := (wipe [some (V.int ↑n), some v, t, r, z] [3]).set 3 (some x)) (i := 3) rfl dx2) ea_nil) (cv_lent (K := K) (B := B2))
    rwa [List.length_map] at this
abbrev s__law_met : Stmt := topS 81
abbrev N__law_met : List Str := ["_law_deeds", "_law_met_here", "_law_turn", "_law_takes", "_law_puts", "_law_box"]
theorem sc__law_met : FnScope N__law_met ["_law_deeds"] (defScope s__law_met) := ⟨rfl, rfl, rfl, by decide +kernel, rfl, by decide +kernel, by decide +kernel⟩
def spLMet (K : PySem.W.Frag) : Sp := pSp fun vs B S => ∃ (n : Nat) (ds : List Deed), All2 [Da K (.list (ds.map DD))] vs B ∧ 1 ≤ n ∧ n ≤ 20 ∧ ds.length ≤ 1000 ∧ (∀ d, d ∈ ds → IsSet n d.1 ∧ IsSet n d.2) ∧ S = Da K (TuI (asc (lmet ds 5)))
theorem ok__law_met (F : FunC K mg "_law_met" "_law_met" s__law_met) (T : Z mg) : Cal P w K mg base "_law_met" 1 ["_law_deeds"] (spLMet K) := by
  refine F.cal sc__law_met (fun _ _ _ _ _ _ us hl => match us, hl with | [_], _ => rfl) (fun vs H Q E h => by obtain ⟨_, _, _, ⟨_, _, h, _⟩, _⟩ := h; exact all2_len h) (fun f cdv A outer s H vs Q E hr h => ?_)
  obtain ⟨B, S, e, ⟨n, ds, p, hn1, hn2, hl, hds, rfl⟩, q⟩ := h
  obtain ⟨x, rfl, px⟩ := all2_1 p
  have hu := hr.units
  refine ⟨_, (pss_cons (ps_set (i := 1) sc__law_met.nd rfl (Or.inr rfl) (pe_lst (pa_cons pe_int pa_nil)))
      (pss_cons (ps_for PassesOwn.never rfl (pi_range1 (by rfl) T.z_range (pa_cons pe_int pa_nil)) (pg_name (i := 2) sc__law_met.nd rfl (Or.inl rfl)) (pss_one (ps_for PassesOwn.never rfl (ki_seq (K := K) (pv 0)) (kg_tup (K := K) rfl (pgs_cons (pg_name (i := 3) sc__law_met.nd rfl (Or.inl rfl)) (pgs_cons (pg_name (i := 4) sc__law_met.nd rfl (Or.inl rfl)) pgs_nil))) (pss_one (ps_if (pt_cmpR (ko_ne hu (K := K)) (pe_lc (own := [("_law_box", 5)]) (g := gName 5) rfl sc__law_met.nd (ki_seq (K := K) (pe_op (ko_add (K := K)) (pv 3) (pv 4))) (blkOk_by (own := [("_law_box", 5)]) (N := N__law_met) (sc := defScope s__law_met) (by decide +kernel)) (fun _ _ _ _ _ => (pg_name (i := 5) sc__law_met.nd rfl (Or.inl rfl))) (fun _ _ _ _ _ => pts_one (pt_cmpR (ko_in (K := K)) (pv 5) (pv 1) rfl)) (fun _ _ _ _ _ => pe_int)) (pe_lst pa_nil) (nomark _)) (pss_one (ps_set (i := 1) sc__law_met.nd rfl (Or.inr rfl) (pe_op (ko_add (K := K)) (pv 1) (pe_lc (own := [("_law_box", 5)]) (g := gName 5) rfl sc__law_met.nd (ki_seq (K := K) (pe_op (ko_add (K := K)) (pv 3) (pv 4))) (blkOk_by (own := [("_law_box", 5)]) (N := N__law_met) (sc := defScope s__law_met) (by decide +kernel)) (fun _ _ _ _ _ => (pg_name (i := 5) sc__law_met.nd rfl (Or.inl rfl))) (fun _ _ _ _ _ => pts_one (pt_cmpR (ko_ni (K := K)) (pv 5) (pv 1) rfl)) (fun _ _ _ _ _ => (pv 5)))))) pss_nil)))))
      (pss_one (ps_ret (pe_callTy (ko_tuple (K := K)) (by rfl) T.z_tuple (by decide +kernel) (pa_cons (pe_callB (ko_sortedR hr (K := K) (w := w)) (by rfl) T.z_sorted (by decide +kernel) (pa_cons (pe_callTy (ko_set rfl (K := K) (w := w)) (by rfl) T.z_set (by decide +kernel) (pa_cons (pv 1) pa_nil)) pa_nil)) pa_nil)))))), ?_⟩
  refine q_asg e (P := Dl K ([0].map .int)) (ev_lstL [.int 0] (ea_cons ev_ci ea_nil) (by simp)) fun vm B1 H1 g1 p1 => ?_
  refine q_forG (K := K) g1 (ei_rng1 (n := 5) (ea_cons ev_c ea_nil) (by omega)) (fun i σ' B' H' => ∃ v t1 t2 t3 t4, σ' = [some x, some v, t1, t2, t3, t4] ∧ Dl K ((lmet ds i).map .int) v B') (fun B1 H1 g1 => ⟨vm, none, none, none, none, rfl, Mo.mo _ _ _ g1.bb p1⟩) ?_ ?_
  · rintro i y σ' B0 H0 B' H' d N ⟨v, t1, t2, t3, t4, rfl, hv⟩ hg g hd dx fin
    have hg2 := hg.trans g
    refine s_forG (K := K) hg2 (ei_lst (ev_D rfl (dp_mono hg2.bb _ _ px))) (fun j σ' B2 H2 => (∃ v t2 t3 t4, σ' = [some x, some v, some y, t2, t3, t4] ∧ Dl K ((lpass (lmet ds i) (ds.take j)).map .int) v B2)) (fun B1 H1 g1 => ⟨v, t2, t3, t4, rfl, Mo.mo _ _ _ (g.bb.trans g1.bb) hv⟩) ?_ ?_
    · rintro j u σ2 B5 H5 B6 H6 dd N2 ⟨v2, t2, t3, t4, rfl, hv2⟩ hg5 g6 hdd du fin2
      obtain ⟨d, hd, rfl⟩ := map_get hdd
      have hdm := List.mem_of_getElem? hd
      have tk : ds.take (j + 1) = ds.take j ++ [d] := by rw [List.take_add_one, hd]; rfl
      have two := (two_met hn1 hds i).pass (ds := ds.take j) fun c hc => hds c (List.mem_of_mem_take hc)
      have hml := two.len
      generalize hmt : lpass (lmet ds i) (ds.take j) = met at *
      have l1 := isSet_len (hds d hdm).1
      have l2 := isSet_len (hds d hdm).2
      have hv6 := Mo.mo _ _ _ g6.bb hv2
      refine g_tup2 g6.bh du fun x1 x2 q1 q2 => ?_
      have hcat : ∀ {σ : L2.St} {Bz : Hp}, σ[3]? = some (some x1) → σ[4]? = some (some x2) → Same B6 Bz → EV (tOp (rAdd4 K) (tVar 3) (tVar 4)) σ Bz (Da K (TuI (d.1 ++ d.2))) := fun a b c => ev_is (ev_op (ev_D a (dp_mono c _ _ q1)) (ev_D b (dp_mono c _ _ q2)) (ov_addT (by rw [List.length_map, List.length_map]; omega))) (by rw [← List.map_append])
      have hcl : (d.1 ++ d.2).length ≤ 40000 := by rw [List.length_append]; omega
      refine s_ifn g6.bh (et_is (et_test (ev_op (ev_lcIf (d.1 ++ d.2) .int (fun z => decide (z ∈ met)) (fun _ => 1) (ei_tup (hcat rfl rfl (Same.refl _))) hcl fun a v B2 ha e2 dv => lt_name rfl (et_test (ev_op (ev_var (by rw [dp_int_inv dv]; rfl)) (ev_D rfl (dp_mono e2 _ _ (dl_da hv6))) ov_inLI)) fun _ => ev_ci) (ev_lst [] ea_nil (by simp)) (ov_ned (sk_li (k := 0) _).sh (sk_nilL (k := 0)).sh))) (c := touch (d.1 ++ d.2) met) (by rw [eqv_li0, filter_nn]; rfl)) (fun htc B7 H7 g7 => ?_) fun htc B7 H7 g7 => ?_
      · have hv7 := Mo.mo _ _ _ g7.bb hv6
        have hfl : ((d.1 ++ d.2).filter fun z => !decide (z ∈ met)).length ≤ (d.1 ++ d.2).length := List.length_filter_le _ _
        rw [List.length_append] at hfl
        refine s_asg g7.bh (ev_op (ev_d rfl hv7) (ev_lcL (d.1 ++ d.2) .int (fun z => !decide (z ∈ met)) .int (ei_tup (hcat rfl rfl g7.bb)) hcl fun a v B2 ha e2 dv => lt_name rfl (et_test (ev_op (ev_var (by rw [dp_int_inv dv]; rfl)) (ev_D rfl (dp_mono e2 _ _ (dl_da hv7))) ov_niLI)) fun _ => ev_D rfl dv) (ov_addL (by rw [List.length_map, List.length_map]; omega))) fun v8 B8 H8 g8 p8 => fin2 _ B8 H8 (((hg5.trans g6).trans g7).trans g8) (g7.bb.trans g8.bb) ⟨v8, _, _, _, rfl, ?_⟩
        rw [tk, lpass_snoc, hmt]
        unfold lstep
        rw [if_pos htc, List.map_append]
        exact p8
      · refine fin2 _ B7 H7 ((hg5.trans g6).trans g7) g7.bb ⟨v2, _, _, _, rfl, ?_⟩
        rw [tk, lpass_snoc, hmt]
        unfold lstep
        rw [if_neg (by rw [htc]; exact Bool.false_ne_true)]
        exact Mo.mo _ _ _ g7.bb hv6
    · rintro σ2 B5 H5 hg5 hb5 ⟨v2, t2, t3, t4, rfl, hv2⟩
      rw [List.length_map, List.take_length] at hv2
      exact fin _ B5 H5 hg5 hb5 ⟨v2, _, _, _, _, rfl, hv2⟩
  · rintro σ' B' H' hg _ ⟨v, t1, t2, t3, t4, rfl, hv⟩
    have hl5 : ((rangeL 0 (5 : Int).toNat).map PyData.int).length = 5 := by simp [rangeL]
    rw [hl5] at hv
    have hml := (two_met hn1 hds 5).len
    exact s_ret hg.bh (ev_cb (ea_cons (ev_cb (ea_cons (ev_cb (ea_cons (ev_D rfl (dl_da hv)) ea_nil) (cv_set (w := w) true (ns := lmet ds 5) (by omega))) ea_nil) (cv_sset (by omega))) ea_nil) cv_tuple) fun v B2 H2 g2 p => q v B2 H2 (hg.trans g2) p
end
end CN
set_option Elab.async false
set_option linter.all false
set_option maxRecDepth 100000
set_option maxHeartbeats 4000000
/-! KP: evaluation while a pen, a list of three ints that draws change, stands beside what is known. -/
namespace CN
open PySem PySem.Spec PyProof.Rows L2
/-- the heap without the pen -/
def del (H : Hp) (l : Addr) : Hp := fun a => if a = l then none else H a
theorem del_at {H : Hp} {l : Addr} : del H l l = none := if_pos rfl
theorem del_ne {H : Hp} {l a : Addr} (h : a ≠ l) : del H l a = H a := if_neg h
theorem del_some {H : Hp} {l a : Addr} {o : HO} (h : del H l a = some o) : a ≠ l ∧ H a = some o := by
  by_cases q : a = l
  · subst q
    rw [del_at] at h
    cases h
  · exact ⟨q, by rwa [del_ne q] at h⟩
theorem del_none {H : Hp} {l : Addr} (h : H l = none) : del H l = H := funext fun a => by
  by_cases q : a = l
  · subst q
    rw [del_at, h]
  · rw [del_ne q]
theorem del_updl {H : Hp} {l : Addr} {o : HO} : del (upd H l o) l = del H l := funext fun a => by
  by_cases q : a = l
  · subst q
    rw [del_at, del_at]
  · rw [del_ne q, del_ne q, upd_ne q]
theorem del_upd {H : Hp} {l a : Addr} {o : HO} (h : a ≠ l) : del (upd H a o) l = upd (del H l) a o := funext fun b => by
  by_cases q : b = l
  · subst q
    rw [del_at, upd_ne (Ne.symm h), del_at]
  · rw [del_ne q]
    by_cases z : b = a
    · subst z
      rw [upd_same, upd_same]
    · rw [upd_ne z, upd_ne z, del_ne q]
theorem same_del {B H : Hp} {l : Addr} (e : Same B (del H l)) : Same B H := fun a o h => (del_some (e a o h)).2
theorem none_del {B H : Hp} {l : Addr} (e : Same B (del H l)) : B l = none := by
  cases h : B l with
  | none => rfl
  | some o =>
    have := e l o h
    rw [del_at] at this
    cases this
theorem same_to_del {B H : Hp} {l : Addr} (e : Same B H) (h : B l = none) : Same B (del H l) := fun a o ha => by
  rw [del_ne (ne_of_none ha h)]
  exact e a o ha
/-- a pen with m draws to go -/
def Pn (l : Addr) (m : Nat) (H : Hp) : Prop := ∃ a b c : Int, H l = some (.lst [.int a, .int b, .int c]) ∧ 0 ≤ a ∧ 0 ≤ b ∧ b < 1000000007 ∧ 0 ≤ c ∧ c + m ≤ 1000000
theorem Pn.weak {l : Addr} {m n : Nat} {H : Hp} (h : Pn l m H) (k : n ≤ m) : Pn l n H := by
  obtain ⟨a, b, c, h1, h2, h3, h4, h5, h6⟩ := h
  exact ⟨a, b, c, h1, h2, h3, h4, h5, by omega⟩
theorem Pn.keep {l : Addr} {m : Nat} {H H' : Hp} (h : Pn l m H) (e : Same H H') : Pn l m H' := by
  obtain ⟨a, b, c, h1, h2⟩ := h
  exact ⟨a, b, c, e _ _ h1, h2⟩
theorem Pn.upd {l a : Addr} {m : Nat} {H : Hp} {o : HO} (h : Pn l m H) (e : a ≠ l) : Pn l m (upd H a o) := by
  obtain ⟨x, b, c, h1, h2⟩ := h
  exact ⟨x, b, c, by rw [upd_ne (Ne.symm e)]; exact h1, h2⟩
theorem Gr.del {B H B' H' : Hp} {l : Addr} {m : Nat} (g : Gr B H B' H') (e : Same B (del H l)) (hp : Pn l m H) : Gr B (CN.del H l) B' (CN.del H' l) := by
  obtain ⟨a, b, c, h1, _⟩ := hp
  have hb := g.unk h1 (none_del e)
  refine ⟨g.bb, fun x o h => ?_, same_to_del g.bh hb, fun x o h o' h' => g.sp x o h o' (del_some h').2⟩
  obtain ⟨q, h2⟩ := del_some h
  rw [del_ne q]
  exact g.hh x o h2
theorem Gr.undel {B H B' H' : Hp} {l : Addr} (g : Gr B H B' (CN.del H' l)) : Gr B H B' H' :=
  ⟨g.bb, fun a o h => (del_some (g.hh a o h)).2, same_del g.bh, g.sp⟩
def EVp (te : TE) (l : Addr) (k : Nat) (σ : L2.St) (B : Hp) (P : Pd) : Prop := ∀ B1 H m, Same B B1 → Same B1 (del H l) → Pn l (m + k) H → ∀ Q : VK, (∀ v B' H', Gr B1 (del H l) B' (del H' l) → Pn l m H' → P v B' → Q v H') → te σ H Q
def EAp (ta : TA) (l : Addr) (k : Nat) (σ : L2.St) (B : Hp) (Ps : List Pd) : Prop := ∀ B1 H m, Same B B1 → Same B1 (del H l) → Pn l (m + k) H → ∀ Q : List V → Hp → Prop, (∀ vs B' H', Gr B1 (del H l) B' (del H' l) → Pn l m H' → All2 Ps vs B' → Q vs H') → ta σ H Q
def EIp (K : PySem.W.Frag) (wi : L2.TI) (l : Addr) (k : Nat) (σ : L2.St) (B : Hp) (ds : List PyData → Prop) : Prop := ∀ B1 H m, Same B B1 → Same B1 (del H l) → Pn l (m + k) H → ∀ R : It → Hp → Prop, (∀ J B' H' d, Gr B1 (del H l) B' (del H' l) → Pn l m H' → ds d → ItOk K J B' d → R J H') → wi σ H R
def SpP (sp : Sp) (l : Addr) (k : Nat) (B : Hp) (Ps : List Pd) (S : Pd) : Prop := ∀ vs B1 H m, Same B B1 → Same B1 (del H l) → Pn l (m + k) H → All2 Ps vs B1 → ∀ (Q : VK) (E : XK), (∀ v B' H', Gr B1 (del H l) B' (del H' l) → Pn l m H' → S v B' → Q v H') → sp vs H Q E
/-- a def's promise that draws at most k times -/
def pSpP (k : Nat) (R : Addr → List V → Hp → Pd → Prop) : Sp := fun vs H Q _ => ∃ B S l m, Same B (del H l) ∧ Pn l (m + k) H ∧ R l vs B S ∧ ∀ v B' H', Gr B (del H l) B' (del H' l) → Pn l m H' → S v B' → Q v H'
/-- one of some -/
def Exd {ι : Type} (p : ι → Prop) (R : ι → Pd) : Pd := fun v B => ∃ i, p i ∧ R i v B
instance {ι : Type} {p : ι → Prop} {R : ι → Pd} [h : ∀ i, Mo (R i)] : Mo (Exd p R) := ⟨fun v B B' e ⟨i, hp, hr⟩ => ⟨i, hp, (h i).mo v B B' e hr⟩⟩
section
variable {K : PySem.W.Frag} {σ : L2.St} {B B' H H' : Hp} {ta tb te : TE} {t : TT} {tr : TA} {P R S : Pd} {Ps : List Pd} {v : V} {l : Addr} {k k1 k2 m : Nat}
theorem ep (h : EV te σ B P) : EVp te l 0 σ B P := fun B1 H m a e hp Q q => h B1 H a (same_del e) Q fun v B' H' g p => q v B' H' (g.del e hp) (hp.keep g.hh) p
theorem epa (h : EA tr σ B Ps) : EAp tr l 0 σ B Ps := fun B1 H m a e hp Q q => h B1 H a (same_del e) Q fun v B' H' g p => q v B' H' (g.del e hp) (hp.keep g.hh) p
theorem EVp.imp (h : EVp te l k σ B P) (f : ∀ v B', P v B' → R v B') : EVp te l k σ B R := fun B1 H m a e hp Q q => h B1 H m a e hp Q fun v B' H' g p z => q v B' H' g p (f v B' z)
theorem EVp.mono (e : Same B B') (h : EVp te l k σ B P) : EVp te l k σ B' P := fun B1 H m a => h B1 H m (e.trans a)
theorem EVp.more (h : EVp te l k1 σ B P) (hk : k1 ≤ k) : EVp te l k σ B P := fun B1 H m a e hp Q q => h B1 H (m + (k - k1)) a e (hp.weak (by omega)) Q fun v B' H' g p z => q v B' H' g (p.weak (by omega)) z
theorem ep_op {r : R2} [Mo P] (ha : EVp ta l k1 σ B P) (hb : EVp tb l k2 σ B R) (hr : OV r B P R S) : EVp (tOp r ta tb) l (k1 + k2) σ B S := fun B1 H m a e hp Q q =>
  ha B1 H (m + k2) a e (hp.weak (by omega)) _ fun x B2 H2 g2 p2 px => hb B2 H2 m (a.trans g2.bb) g2.bh p2 _ fun y B3 H3 g3 p3 py =>
    hr x y B3 H3 ((a.trans g2.bb).trans g3.bb) (same_del g3.bh) (Mo.mo x B2 B3 g3.bb px) py Q fun v B4 H4 g4 pv => q v B4 H4 ((g2.trans g3).trans (g4.del g3.bh p3)) (p3.keep g4.hh) pv
theorem ep_cb {r : List V → Hp → VK → Prop} (ha : EAp tr l k σ B Ps) (hr : CV r B Ps S) : EVp (tCB r tr) l k σ B S := fun B1 H m a e hp Q q =>
  ha B1 H m a e hp _ fun x B2 H2 g2 p2 px => hr x B2 H2 (a.trans g2.bb) (same_del g2.bh) px Q fun v B4 H4 g4 pv => q v B4 H4 (g2.trans (g4.del g2.bh p2)) (p2.keep g4.hh) pv
theorem epa_cons [Mo P] (ha : EVp ta l k1 σ B P) (hr : EAp tr l k2 σ B Ps) : EAp (tCons ta tr) l (k1 + k2) σ B (P :: Ps) := fun B1 H m a e hp Q q =>
  ha B1 H (m + k2) a e (hp.weak (by omega)) _ fun x B2 H2 g2 p2 px => hr B2 H2 m (a.trans g2.bb) g2.bh p2 _ fun vs B3 H3 g3 p3 pvs => q (x :: vs) B3 H3 (g2.trans g3) p3 ⟨Mo.mo x B2 B3 g3.bb px, pvs⟩
theorem spP {Rl : Addr → List V → Hp → Pd → Prop} (h : ∀ vs B1, Same B B1 → All2 Ps vs B1 → Rl l vs B1 S) : SpP (pSpP k Rl) l k B Ps S := fun vs B1 H m a b hp p Q E q => ⟨B1, S, l, m, b, hp, h vs B1 a p, q⟩
theorem ep_call {sp : Sp} {E : XK} (h : EAp tr l k1 σ B Ps) (hs : SpP sp l k2 B Ps S) : EVp (tCall sp [] E tr) l (k1 + k2) σ B S := fun B1 H m a e hp Q q =>
  h B1 H (m + k2) a e (hp.weak (by omega)) _ fun vs B2 H2 g2 p2 p => by
    rw [List.append_nil]
    exact hs vs B2 H2 m (a.trans g2.bb) g2.bh p2 p Q E fun v B3 H3 g3 => q v B3 H3 (g2.trans g3)
theorem ep_if {b : Bool} (h : ET t σ B b) (h1 : b = true → EVp ta l k σ B P) (h2 : b = false → EVp tb l k σ B P) : EVp (tIf t ta tb) l k σ B P := fun B1 H m a e hp Q q => h B1 H a (same_del e) _ fun B2 H2 g2 => by
  cases b with
  | true =>
    show ta σ H2 Q
    exact h1 rfl B2 H2 m (a.trans g2.bb) (g2.del e hp).bh (hp.keep g2.hh) Q fun v B3 H3 g3 => q v B3 H3 ((g2.del e hp).trans g3)
  | false =>
    show tb σ H2 Q
    exact h2 rfl B2 H2 m (a.trans g2.bb) (g2.del e hp).bh (hp.keep g2.hh) Q fun v B3 H3 g3 => q v B3 H3 ((g2.del e hp).trans g3)
/-- pointwise -/
theorem ov_ex {ι : Type} {p : ι → Prop} {R S : ι → Pd} {r : R2} (h : ∀ i, p i → OV r B P (R i) (S i)) : OV r B P (Exd p R) (Exd p S) := fun x y B1 H a b px ⟨i, hi, hy⟩ Q q => h i hi x y B1 H a b px hy Q fun v B' H' g s => q v B' H' g ⟨i, hi, s⟩
theorem ov_exl {ι : Type} {p : ι → Prop} {P S : ι → Pd} {r : R2} (h : ∀ i, p i → OV r B (P i) R (S i)) : OV r B (Exd p P) R (Exd p S) := fun x y B1 H a b ⟨i, hi, hx⟩ py Q q => h i hi x y B1 H a b hx py Q fun v B' H' g s => q v B' H' g ⟨i, hi, s⟩
theorem cv_ex1 {ι : Type} {p : ι → Prop} {R S : ι → Pd} {r : List V → Hp → VK → Prop} (h : ∀ i, p i → CV r B [R i] (S i)) : CV r B [Exd p R] (Exd p S) := fun vs B1 H a b py Q q => by
  match vs, py with
  | [x], ⟨⟨i, hi, hx⟩, hn⟩ => exact h i hi [x] B1 H a b ⟨hx, hn⟩ Q fun v B' H' g s => q v B' H' g ⟨i, hi, s⟩
theorem all2_anyT : ∀ {ds : List PyData} {vs : List V} {B : Hp}, DpAll K B vs ds → ds.length = vs.length := fun h => (dpa_length h).symm
/-- one of a sequence, at a drawn place -/
abbrev Rng (n : Int) : Pd := Exd (fun i : Int => 0 ≤ i ∧ i < n) fun i => Xv (.int i)
abbrev AnyD (K : PySem.W.Frag) (ds : List PyData) : Pd := Exd (fun d => d ∈ ds) fun d => Da K d
theorem ov_pickL {ds : List PyData} : OV (rIx K) B (Da K (.list ds)) (Rng (ds.length : Int)) (AnyD K ds) := fun x y B1 H a b px ⟨i, hi, hy⟩ Q q => by
  have hl : i.toNat < ds.length := by omega
  exact ov_ixl (j := i.toNat) (Int.toNat_of_nonneg hi.1).symm (List.getElem?_eq_getElem hl) x y B1 H a b px hy Q fun v B' H' g s => q v B' H' g ⟨_, List.getElem_mem hl, s⟩
theorem ov_pickT {ds : List PyData} : OV (rIx K) B (Da K (.tuple ds)) (Rng (ds.length : Int)) (AnyD K ds) := fun x y B1 H a b px ⟨i, hi, hy⟩ Q q => by
  have hl : i.toNat < ds.length := by omega
  exact ov_ixt (j := i.toNat) (Int.toNat_of_nonneg hi.1).symm (List.getElem?_eq_getElem hl) x y B1 H a b px hy Q fun v B' H' g s => q v B' H' g ⟨_, List.getElem_mem hl, s⟩
/-! ### iterables -/
theorem eip {wi : L2.TI} {ds : List PyData} (h : EI K wi σ B ds) : EIp K wi l 0 σ B (fun d => d = ds) := fun B1 H m a e hp Q q => h B1 H a (same_del e) Q fun J B' H' g it => q J B' H' ds (g.del e hp) (hp.keep g.hh) rfl it
theorem eip_rng {p : Int → Prop} (h : EAp tr l k σ B [Exd p fun i => Xv (.int i)]) (hn : ∀ n, p n → -1000 ≤ n ∧ n ≤ 100000) : EIp K (iRng1 tr) l k σ B (fun d => ∃ n, p n ∧ d = (rangeL 0 n.toNat).map .int) := fun B1 H m a e hp R q => h B1 H m a e hp _ fun vs B2 H2 g p2 p => by
  obtain ⟨x, rfl, ⟨n, hpn, px⟩⟩ := all2_1 p
  have := hn n hpn
  exact ⟨n, by rw [show x = V.int n from px], by omega, by omega, q _ B2 H2 _ g p2 ⟨n, hpn, rfl⟩ itOk_rng⟩
/-! ### statements -/
variable {D : Ends} {tu tw tz : TS} {g : TG}
theorem p_ret (e : Same B (del H l)) (hp : Pn l m H) (h : EVp te l k σ B P) (hk : k ≤ m) (q : ∀ v B' H', Gr B (del H l) B' (del H' l) → Pn l (m - k) H' → P v B' → D.rt v H') : tRet te D σ H := h B H (m - k) (Same.refl _) e (hp.weak (by omega)) _ q
theorem p_asg {i : Nat} (e : Same B (del H l)) (hp : Pn l m H) (h : EVp te l k σ B P) (hk : k ≤ m) (q : ∀ v B' H', Gr B (del H l) B' (del H' l) → Pn l (m - k) H' → P v B' → D.nx (σ.set i (some v)) H') : tAsg te (gName i) D σ H := h B H (m - k) (Same.refl _) e (hp.weak (by omega)) _ q
theorem pq_asg {i : Nat} (e : Same B (del H l)) (hp : Pn l m H) (h : EVp te l k σ B P) (hk : k ≤ m) (q : ∀ v B' H', Gr B (del H l) B' (del H' l) → Pn l (m - k) H' → P v B' → tz D (σ.set i (some v)) H') : tSeq (tAsg te (gName i)) tz D σ H := h B H (m - k) (Same.refl _) e (hp.weak (by omega)) _ q
theorem pq_asg2 {i j : Nat} {ι : Type} {p : ι → Prop} {d1 d2 : ι → PyData} (e : Same B (del H l)) (hp : Pn l m H) (h : EVp te l k σ B (Exd p fun i => Da K (.tuple [d1 i, d2 i]))) (hk : k ≤ m) (q : ∀ i0 v1 v2 B' H', p i0 → Gr B (del H l) B' (del H' l) → Pn l (m - k) H' → Dp K B' v1 (d1 i0) → Dp K B' v2 (d2 i0) → tz D ((σ.set i (some v1)).set j (some v2)) H') :
    tSeq (tAsg te (gTup K 2 (gCons (gName i) (gCons (gName j) gNil)))) tz D σ H := h B H (m - k) (Same.refl _) e (hp.weak (by omega)) _ fun v B' H' g z ⟨i0, hp0, p⟩ => by
  obtain ⟨a, xs, rfl, hs, ha⟩ := dp_tup_inv p
  cases ha with
  | cons h1 h2 =>
    cases h2 with
    | cons h3 h4 =>
      cases h4
      exact ⟨a, _, rfl, sqt_mono (same_del g.bh) hs, rfl, _, _, rfl, _, _, rfl, rfl, q i0 _ _ B' H' hp0 g z h1 h3⟩
theorem p_if {b : Bool} (e : Same B (del H l)) (hp : Pn l m H) (h : ET t σ B b) (h1 : b = true → ∀ B' H', Gr B (del H l) B' (del H' l) → Pn l m H' → tu D σ H') (h2 : b = false → ∀ B' H', Gr B (del H l) B' (del H' l) → Pn l m H' → tw D σ H') : tIfS t tu tw D σ H := h B H (Same.refl _) (same_del e) _ fun B' H' g => by
  cases b with
  | true => exact h1 rfl B' H' (g.del e hp) (hp.keep g.hh)
  | false => exact h2 rfl B' H' (g.del e hp) (hp.keep g.hh)
theorem pq_if {b : Bool} (e : Same B (del H l)) (hp : Pn l m H) (h : ET t σ B b) (h1 : b = true → ∀ B' H', Gr B (del H l) B' (del H' l) → Pn l m H' → tu { D with nx := tz D } σ H') (h2 : b = false → ∀ B' H', Gr B (del H l) B' (del H' l) → Pn l m H' → tw { D with nx := tz D } σ H') : tSeq (tIfS t tu tw) tz D σ H :=
  p_if (D := { D with nx := tz D }) e hp h h1 h2
/-- l2.append(e), l2 unknown to the base -/
theorem p_app {l2 : Addr} {xs : List V} {ta : TE} (e : Same B (del H l)) (hp : Pn l m H) (hu : del H l l2 = some (.lst xs)) (hb : B l2 = none) (ha : EV ta σ B (Xv (.ref l2))) (h : EVp te l k σ B P) (hk : k ≤ m) (hz : xs.length < 100000)
    (q : ∀ v B' H', Gr B (del H l) B' (del H' l) → Pn l (m - k) (upd H' l2 (.lst (xs ++ [v]))) → P v B' → B' l2 = none → del H' l l2 = some (.lst xs) → Same B' (del (upd H' l2 (.lst (xs ++ [v]))) l) → D.nx σ (upd H' l2 (.lst (xs ++ [v])))) : tDrop (tBM K "list" rAppend ta (tCons te tNil)) D σ H :=
  ha B H (Same.refl _) (same_del e) _ fun w B1 H1 g1 pw => by
    obtain rfl : w = V.ref l2 := pw
    have hne := (del_some hu).1
    have g1' := g1.del e hp
    have u1 := g1'.hh _ _ hu
    have b1 := g1'.unk hu hb
    refine ⟨Or.inl ⟨rfl, xs, Or.inl (Or.inl (del_some u1).2)⟩, ?_⟩
    refine h B1 H1 (m - k) g1.bb g1'.bh ((hp.keep g1.hh).weak (by omega)) _ fun v B2 H2 g2 p2 pv => ?_
    have u2 := g2.hh _ _ u1
    have b2 := g2.unk u1 b1
    exact ⟨l2, xs, v, rfl, rfl, (del_some u2).2, sz_lt hz, q v B2 H2 (g1'.trans g2) (p2.upd hne) pv b2 u2 (by rw [del_upd hne]; exact same_mut g2.bh b2)⟩
/-- for, with c draws a turn -/
theorem p_for {Bz Hz : Hp} {wi : L2.TI} {dq : List PyData → Prop} (c : Nat) {k n : Nat} (z : Gr Bz Hz B (del H l)) (hp : Pn l m H) (hi : EIp K wi l k σ B dq) (hn : ∀ d, dq d → d.length ≤ n) (hk : k + n * c ≤ m) (Pv : List PyData → Nat → L2.St → Hp → Hp → Prop) (h0 : ∀ ds B1 H1, dq ds → Gr B (del H l) B1 (del H1 l) → Pv ds 0 σ B1 H1)
    (hs : ∀ ds i x σ' B0 H0 B' H' d M (N : L2.St → Hp → Prop), dq ds → Pv ds i σ' B0 H0 → Gr Bz Hz B0 (del H0 l) → Gr B0 (del H0 l) B' (del H' l) → Pn l (M + c) H' → ds[i]? = some d → Dp K B' x d → (∀ σ3 B3 H3, Gr Bz Hz B3 (del H3 l) → Same B' B3 → Pn l M H3 → Pv ds (i + 1) σ3 B3 H3 → N σ3 H3) →
      g x σ' H' fun σ2 H2 => tu { D with nx := N, ct := N, bk := D.nx } σ2 H2)
    (hd : ∀ ds σ' B' H', dq ds → Gr Bz Hz B' (del H' l) → Same B B' → Pn l (m - k - n * c) H' → Pv ds ds.length σ' B' H' → D.nx σ' H') : tFor wi g tu D σ H := hi B H (m - k) (Same.refl _) z.bh (hp.weak (by omega)) _ fun J B1 H1 ds g1 hp1 hds it => by
  have hlen := hn ds hds
  have hmul : ds.length * c ≤ n * c := Nat.mul_le_mul_right c hlen
  refine ⟨fun i m' σ' H' => m' = ds.length - i ∧ i ≤ ds.length ∧ ∃ B', Same B1 B' ∧ Gr Bz Hz B' (del H' l) ∧ Pn l (m - k - n * c + (ds.length - i) * c) H' ∧ Pv ds i σ' B' H', ⟨ds.length, by simp, Nat.zero_le _, B1, Same.refl _, z.trans g1, hp1.weak (by simp only [Nat.sub_zero]; omega), h0 ds B1 H1 hds g1⟩, ?_⟩
  rintro i m' σ' H' ⟨rfl, hi', B', e1, e2, e3, p⟩
  by_cases hlt : i < ds.length
  · refine .inr ⟨it.go i H' hlt (e1.trans (same_del e2.bh)), fun σ3 H3 => ∃ B3, Same B1 B3 ∧ Gr Bz Hz B3 (del H3 l) ∧ Pn l (m - k - n * c + (ds.length - (i + 1)) * c) H3 ∧ Pv ds (i + 1) σ3 B3 H3, fun σ3 H3 p => ⟨ds.length - (i + 1), by omega, rfl, hlt, p⟩, fun x H4 y => ?_⟩
    obtain ⟨B4, g4, dx⟩ := it.yld i H' x H4 B' ds[i] (List.getElem?_eq_getElem hlt) e1 (same_del e2.bh) y
    refine hs ds i x σ' B' H' B4 H4 ds[i] (m - k - n * c + (ds.length - (i + 1)) * c) _ hds p e2 (g4.del e2.bh e3) ((e3.keep g4.hh).weak ?_) (List.getElem?_eq_getElem hlt) dx fun σ3 B3 H3 a b c' d' => ⟨B3, (e1.trans g4.bb).trans b, a, c', d'⟩
    have : ds.length - i = ds.length - (i + 1) + 1 := by omega
    rw [this, Nat.succ_mul]
    omega
  · have e : i = ds.length := by omega
    subst e
    exact .inl ⟨it.stop H' (e1.trans (same_del e2.bh)), hd ds _ B' _ hds e2 (g1.bb.trans e1) (e3.weak (by omega)) p⟩
theorem pq_for {Bz Hz : Hp} {wi : L2.TI} {dq : List PyData → Prop} (c : Nat) {k n : Nat} (z : Gr Bz Hz B (del H l)) (hp : Pn l m H) (hi : EIp K wi l k σ B dq) (hn : ∀ d, dq d → d.length ≤ n) (hk : k + n * c ≤ m) (Pv : List PyData → Nat → L2.St → Hp → Hp → Prop) (h0 : ∀ ds B1 H1, dq ds → Gr B (del H l) B1 (del H1 l) → Pv ds 0 σ B1 H1)
    (hs : ∀ ds i x σ' B0 H0 B' H' d M (N : L2.St → Hp → Prop), dq ds → Pv ds i σ' B0 H0 → Gr Bz Hz B0 (del H0 l) → Gr B0 (del H0 l) B' (del H' l) → Pn l (M + c) H' → ds[i]? = some d → Dp K B' x d → (∀ σ3 B3 H3, Gr Bz Hz B3 (del H3 l) → Same B' B3 → Pn l M H3 → Pv ds (i + 1) σ3 B3 H3 → N σ3 H3) →
      g x σ' H' fun σ2 H2 => tu { D with nx := N, ct := N, bk := tz D } σ2 H2)
    (hd : ∀ ds σ' B' H', dq ds → Gr Bz Hz B' (del H' l) → Same B B' → Pn l (m - k - n * c) H' → Pv ds ds.length σ' B' H' → tz D σ' H') : tSeq (tFor wi g tu) tz D σ H :=
  p_for (D := { D with nx := tz D }) c z hp hi hn hk Pv h0 hs hd
end
end CN
set_option Elab.async false
set_option linter.all false
set_option maxRecDepth 100000
set_option maxHeartbeats 4000000
/-! E1: draws. -/
namespace CN
open PySem PySem.Spec PyProof.Rows L2 CM
section
variable {P : Program} {w : World} {K : PySem.W.Frag} {mg : Str → Option Value} {base : Heap} {C : Addr}
theorem pen_known {K : PySem.W.Frag} {B H : Hp} {l : Addr} {a b c : Int} (e : Same B (del H l)) (hl : H l = some (.lst [.int a, .int b, .int c])) :
    Same B (upd B l (.lst [.int a, .int b, .int c])) ∧ Same (upd B l (.lst [.int a, .int b, .int c])) H ∧ Dp K (upd B l (.lst [.int a, .int b, .int c])) (.ref l) (LiI [a, b, c]) :=
  known (K := K) (ds := [.int a, .int b, .int c]) (same_del e) hl (none_del e) (.cons (.int a) (.cons (.int b) (.cons (.int c) .nil)))
theorem ev_pen0 {K : PySem.W.Frag} {σ : L2.St} {B : Hp} {l : Addr} {a b c : Int} {i : Nat} (h : σ[i]? = some (some (.ref l))) (d : Dp K B (.ref l) (LiI [a, b, c])) (j : Nat) (x : Int) (hj : [a, b, c][j]? = some x) : EV (tOp (rIx K) (tVar i) (tC (.int (j : Int)))) σ B (Xv (.int x)) :=
  ev_xi (ev_op (ev_D h d) ev_c (ov_ixl (j := j) rfl (by rw [List.getElem?_map, hj]; rfl)))
theorem s_setPen {D : Ends} {te : TE} {σ : L2.St} {i j : Nat} {B H : Hp} {l : Addr} {x : Int} {xs : List V} (e : Same B H) (h : EV te σ B (Xv (.int x))) (hi : σ[i]? = some (some (.ref l))) (hl : H l = some (.lst xs)) (hj : j < xs.length)
    (k : ∀ B' H', Gr B H B' H' → D.nx σ (upd H' l (.lst (xs.set j (.int x))))) : tAsg te (gSub (tVar i) (tC (.int (j : Int))) rSetL) D σ H := h B H (Same.refl _) e _ fun v B' H' g pv => by
  obtain rfl : v = V.int x := pv
  refine ⟨.ref l, hi, l, xs, (j : Int), j, rfl, rfl, g.hh _ _ hl, ?_, k B' H' g⟩
  unfold ixN
  rw [if_pos (by omega), if_pos (by omega), Int.toNat_natCast]
abbrev s__law_draw : Stmt := topS 75
abbrev N__law_draw : List Str := ["_law_pen_here", "_law_count", "_law_digit", "_law_stir"]
theorem sc__law_draw : FnScope N__law_draw ["_law_pen_here", "_law_count"] (defScope s__law_draw) := ⟨rfl, rfl, rfl, by decide +kernel, rfl, by decide +kernel, by decide +kernel⟩
def spDraw : Sp := pSpP 1 fun l vs B S => ∃ n : Int, All2 [Xv (.ref l), Xv (.int n)] vs B ∧ 0 < n ∧ n ≤ 1000 ∧ S = Rng n
theorem ok__law_draw (F : FunC K mg "_law_draw" "_law_draw" s__law_draw) : Cal P w K mg base "_law_draw" 1 ["_law_pen_here", "_law_count"] spDraw := by
  refine F.cal sc__law_draw (fun _ _ _ _ _ _ us hl => match us, hl with | [_, _], _ => rfl) (fun vs H Q E h => by obtain ⟨_, _, _, _, _, _, ⟨_, h, _⟩, _⟩ := h; exact all2_len h) (fun f cdv A outer s H vs Q E hr h => ?_)
  obtain ⟨B, S, l, m, e, hp, ⟨n, p, hn0, hn1, rfl⟩, q⟩ := h
  obtain ⟨x, y, rfl, px, py⟩ := all2_2 p
  obtain rfl : x = V.ref l := px
  obtain rfl : y = V.int n := py
  have hu := hr.units
  obtain ⟨a, b, c, hl, ha, hb0, hb1, hc0, hc1⟩ := hp
  obtain ⟨kb, kh, kd⟩ := pen_known (K := K) e hl
  have hBl := none_del e
  refine ⟨_, (pss_cons (ps_if (pt_cmpR op_gt (pe_ix (ko_ix (K := K)) (pv 0) pe_int (fun _ _ => rfl)) pe_int (nomark _)) (pss_cons (ps_set (i := 2) sc__law_draw.nd rfl (Or.inl rfl) (pe_op op_mod (pe_ix (ko_ix (K := K)) (pv 0) pe_int (fun _ _ => rfl)) (pv 1)))
      (pss_cons (ps_asg (pe_op op_fdiv (pe_ix (ko_ix (K := K)) (pv 0) pe_int (fun _ _ => rfl)) (pv 1)) (pg_sub (pv 0) pe_int set_list))
      (pss_one (ps_ret (pv 2))))) pss_nil)
      (pss_cons (ps_asg (pe_op (ko_add (K := K)) (pe_ix (ko_ix (K := K)) (pv 0) pe_int (fun _ _ => rfl)) pe_int) (pg_sub (pv 0) pe_int set_list))
      (pss_cons (ps_set (i := 3) sc__law_draw.nd rfl (Or.inl rfl) (pe_op op_mod (pe_op (ko_mul (K := K)) (pe_op (ko_add (K := K)) (pe_ix (ko_ix (K := K)) (pv 0) pe_int (fun _ _ => rfl)) (pe_op (ko_mul (K := K)) pe_int (pe_ix (ko_ix (K := K)) (pv 0) pe_int (fun _ _ => rfl)))) (pe_op (ko_add (K := K)) pe_int (pe_op (ko_mul (K := K)) pe_int (pe_ix (ko_ix (K := K)) (pv 0) pe_int (fun _ _ => rfl))))) pe_int))
      (pss_cons (ps_set (i := 3) sc__law_draw.nd rfl (Or.inl rfl) (pe_op op_mod (pe_op (ko_add (K := K)) (pe_op (ko_add (K := K)) (pe_op (ko_mul (K := K)) (pv 3) (pv 3)) (pe_op (ko_mul (K := K)) pe_int (pe_ix (ko_ix (K := K)) (pv 0) pe_int (fun _ _ => rfl)))) pe_int) pe_int))
      (pss_one (ps_ret (pe_op op_mod (pe_op op_fdiv (pe_op op_mod (pe_op (ko_mul (K := K)) (pv 3) pe_int) pe_int) pe_int) (pv 1)))))))), ?_⟩
  refine q_ifn kh (et_test (ev_op (ev_pen0 rfl kd 0 a rfl) ev_c ov_I0)) (fun ht B1 H1 g1 => ?_) fun hf B1 H1 g1 => ?_
  · refine q_asg g1.bh (ev_op (ev_pen0 rfl (dp_mono g1.bb _ _ kd) 0 a rfl) (ev_var rfl) (ov_I hn0)) fun v2 B2 H2 g2 p2 => ?_
    obtain rfl : v2 = V.int (a % n) := p2
    have hl2 := g2.hh _ _ (g1.hh _ _ hl)
    refine s_setPen (D := { nx := _, rt := Q, bk := _, ct := _ }) (j := 0) g2.bh (ev_op (ev_pen0 rfl (dp_mono (g1.bb.trans g2.bb) _ _ kd) 0 a rfl) (ev_var rfl) (ov_I ⟨hn0, by omega⟩)) rfl hl2 (Nat.lt_of_sub_eq_succ rfl) fun B3 H3 g3 => ?_
    have g := ((g1.trans g2).trans g3).drop kb
    have gd := g.del e (m := m) ⟨a, b, c, hl, ha, hb0, hb1, hc0, by omega⟩
    have e4 : Same B (del (upd H3 l (.lst [.int (a / n), .int b, .int c])) l) := by
      rw [del_updl]
      exact gd.bh
    refine s_ret (same_del e4) (ev_var rfl) fun v B' H' g4 pv => ?_
    obtain rfl : v = V.int (a % n) := pv
    have hpn : Pn l m (upd H3 l (.lst [.int (a / n), .int b, .int c])) := ⟨_, _, _, upd_same, Int.ediv_nonneg ha (by omega), hb0, hb1, hc0, by omega⟩
    have g5 := g4.del e4 hpn
    rw [del_updl] at g5
    exact q _ B' H' (gd.trans g5) (hpn.keep g4.hh) ⟨a % n, ⟨Int.emod_nonneg _ (by omega), Int.emod_lt_of_pos _ hn0⟩, rfl⟩
  · refine s_setPen (D := { nx := _, rt := Q, bk := _, ct := _ }) (j := 2) g1.bh (ev_op (ev_pen0 rfl (dp_mono g1.bb _ _ kd) 2 c rfl) ev_c ov_addI) rfl (g1.hh _ _ hl) (Nat.lt_of_sub_eq_succ rfl) fun B3 H3 g3 => ?_
    have g := (g1.trans g3).drop kb
    have gd := g.del e (m := m) ⟨a, b, c, hl, ha, hb0, hb1, hc0, by omega⟩
    have e4 : Same B (del (upd H3 l (.lst [.int a, .int b, .int (c + 1)])) l) := by
      rw [del_updl]
      exact gd.bh
    have hpn : Pn l m (upd H3 l (.lst [.int a, .int b, .int (c + 1)])) := ⟨_, _, _, upd_same, ha, hb0, hb1, by omega, by omega⟩
    obtain ⟨kb2, kh2, kd2⟩ := pen_known (K := K) e4 upd_same
    have t1 : -(2 ^ 64) < (69621 + 2 * (c + 1)) ∧ (69621 + 2 * (c + 1)) < 2 ^ 64 := by omega
    refine q_asg kh2 (ev_op (ev_op (ev_op (ev_pen0 rfl kd2 1 b rfl) (ev_op ev_c (ev_pen0 rfl kd2 2 _ rfl) (ov_mulI (by decide))) ov_addI) (ev_op ev_c (ev_op ev_c (ev_pen0 rfl kd2 2 _ rfl) (ov_mulI (by decide))) ov_addI) (ov_mulI' t1)) ev_c (ov_I (by decide))) fun v5 B5 H5 g5 p5 => ?_
    obtain rfl : v5 = V.int _ := p5
    generalize hz : (b + 17 * (c + 1)) * (69621 + 2 * (c + 1)) % 2147483647 = z at *
    have hz0 : 0 ≤ z ∧ z < 2147483647 := by rw [← hz]; exact ⟨Int.emod_nonneg _ (by decide), Int.emod_lt_of_pos _ (by decide)⟩
    have kd5 := dp_mono g5.bb _ _ kd2
    refine q_asg g5.bh (ev_op (ev_op (ev_op (ev_op (ev_var rfl) (ev_var rfl) (ov_mulI (by omega))) (ev_op ev_c (ev_pen0 rfl kd5 2 _ rfl) (ov_mulI (by decide))) ov_addI) ev_c ov_addI) ev_c (ov_I (by decide))) fun v6 B6 H6 g6 p6 => ?_
    obtain rfl : v6 = V.int _ := p6
    refine s_ret g6.bh (ev_op (ev_op (ev_op (ev_op (ev_var rfl) ev_c (ov_mulI' (by decide))) ev_c (ov_I (by decide))) ev_c (ov_I ⟨by decide, by decide⟩)) (ev_var rfl) (ov_I hn0)) fun v B' H' g7 pv => ?_
    have g8 := ((g5.trans g6).trans g7).drop kb2
    have g9 := g8.del e4 hpn
    rw [del_updl] at g9
    exact q _ B H' (gd.trans g9) (hpn.keep g8.hh) ⟨_, ⟨Int.emod_nonneg _ (by omega), Int.emod_lt_of_pos _ hn0⟩, pv⟩
end
end CN
set_option Elab.async false
set_option linter.all false
set_option maxRecDepth 100000
set_option maxHeartbeats 4000000
/-! E2: a pen, picks, drawn orders, states, rows. -/
namespace CN
open PySem PySem.Spec PyProof.Rows L2 CM
section
variable {P : Program} {w : World} {K : PySem.W.Frag} {mg : Str → Option Value} {base : Heap} {C : Addr}
abbrev s__law_pen : Stmt := topS 74
abbrev N__law_pen : List Str := ["_law_cell"]
theorem sc__law_pen : FnScope N__law_pen ["_law_cell"] (defScope s__law_pen) := ⟨rfl, rfl, rfl, by decide +kernel, rfl, by decide +kernel, by decide +kernel⟩
/-- a new pen -/
def spPen : Sp := fun vs H Q _ => ∃ (B : Hp) (i : Int), Same B H ∧ vs = [.int i] ∧ ∀ l B' H', H l = none → Gr B H B' (del H' l) → Pn l 900000 H' → Q (.ref l) H'
theorem ok__law_pen (F : FunC K mg "_law_pen" "_law_pen" s__law_pen) (T : Z mg) : Cal P w K mg base "_law_pen" 1 ["_law_cell"] spPen := by
  refine F.cal sc__law_pen (fun _ _ _ _ _ _ us hl => match us, hl with | [_], _ => rfl) (fun vs H Q E h => by obtain ⟨_, _, _, h, _⟩ := h; rw [h]; rfl) (fun f cdv A outer s H vs Q E hr h => ?_)
  obtain ⟨B, i, e, rfl, q⟩ := h
  refine ⟨_, (pss_one (ps_ret (pe_lst (pa_cons (pe_callB (ac_max rfl) (by rfl) T.z_max (by decide +kernel) (pa_cons pe_int (pa_cons (pe_op op_sub (pv 0) (pe_op op_pow pe_int pe_int)) pa_nil))) (pa_cons (pe_op op_mod (pv 0) pe_int) (pa_cons pe_int pa_nil)))))), ?_⟩
  refine en_lst (K := K) [.int (if i - 10 ^ 18 > 0 then i - 10 ^ 18 else 0), .int (i % 1000000007), .int 0] (ea_cons (ev_i (ev_cb (ea_cons ev_c (ea_cons (ev_op (ev_var rfl) (ev_op ev_c ev_c (ov_I ⟨by decide, by decide, by decide⟩)) ov_I0) ea_nil)) cv_max)) (ea_cons (ev_i (ev_op (ev_var rfl) ev_c (ov_I (by decide)))) (ea_cons ev_ci ea_nil))) (by simp) B H (Same.refl _) e _ fun l xs B' H' g hl hl' hb hd => ?_
  have hx : xs = [.int (if i - 10 ^ 18 > 0 then i - 10 ^ 18 else 0), .int (i % 1000000007), .int 0] := by
    cases hd with
    | cons a hd => cases hd with
      | cons b hd => cases hd with
        | cons c hd =>
          cases hd
          rw [dp_int_inv a, dp_int_inv b, dp_int_inv c]
  subst hx
  refine q l B' H' hl ⟨g.bb, fun a o h => ?_, same_to_del g.bh hb, g.sp⟩ ⟨_, _, _, hl', ?_, Int.emod_nonneg _ (by decide), Int.emod_lt_of_pos _ (by decide), by omega, by omega⟩
  · rw [del_ne (ne_of_none h hl)]
    exact g.hh a o h
  · split <;> omega
abbrev s__law_pick : Stmt := topS 79
abbrev N__law_pick : List Str := ["_law_pen_here", "_law_some"]
theorem sc__law_pick : FnScope N__law_pick ["_law_pen_here", "_law_some"] (defScope s__law_pick) := ⟨rfl, rfl, rfl, by decide +kernel, rfl, by decide +kernel, by decide +kernel⟩
def spPick (K : PySem.W.Frag) : Sp := pSpP 1 fun l vs B S => ∃ (k : Bool) (ds : List PyData), All2 [Xv (.ref l), Da K (Qs k ds)] vs B ∧ ds ≠ [] ∧ ds.length ≤ 1000 ∧ S = AnyD K ds
theorem ok__law_pick (F : FunC K mg "_law_pick" "_law_pick" s__law_pick) (T : Z mg) (c__law_draw : Cal P w K mg base "_law_draw" 1 ["_law_pen_here", "_law_count"] spDraw) : Cal P w K mg base "_law_pick" 2 ["_law_pen_here", "_law_some"] (spPick K) := by
  refine F.cal sc__law_pick (fun _ _ _ _ _ _ us hl => match us, hl with | [_, _], _ => rfl) (fun vs H Q E h => by obtain ⟨_, _, _, _, _, _, ⟨_, _, h, _⟩, _⟩ := h; exact all2_len h) (fun f cdv A outer s H vs Q E hr h => ?_)
  obtain ⟨B, S, l, m, e, hp, ⟨k, ds, p, hne, hl, rfl⟩, q⟩ := h
  obtain ⟨x, y, rfl, px, py⟩ := all2_2 p
  obtain rfl : x = V.ref l := px
  have hpos : 0 < ds.length := List.length_pos_iff.mpr hne
  refine ⟨_, (pss_one (ps_ret (pe_ix (ko_ix (K := K)) (pv 1) (pe_cal c__law_draw hr (by rfl) (pa_cons (pv 0) (pa_cons (pe_callB (ko_len (K := K)) (by rfl) T.z_len (by decide +kernel) (pa_cons (pv 1) pa_nil)) pa_nil))) (fun _ _ => rfl)))), ?_⟩
  cases k with
  | true => exact p_ret e hp (ep_op (ep (ev_D rfl py)) (ep_call (epa (ea_cons (ev_var rfl) (ea_cons (ev_cb (ea_cons (ev_D rfl py) ea_nil) cv_lenl) ea_nil))) (spP fun vs B1 _ h => ⟨(ds.length : Int), h, by omega, by omega, rfl⟩)) ov_pickL) (by omega) fun v B' H' g hp' pv => q v B' H' g (hp'.weak (by omega)) pv
  | false => exact p_ret e hp (ep_op (ep (ev_D rfl py)) (ep_call (epa (ea_cons (ev_var rfl) (ea_cons (ev_cb (ea_cons (ev_D rfl py) ea_nil) cv_lent) ea_nil))) (spP fun vs B1 _ h => ⟨(ds.length : Int), h, by omega, by omega, rfl⟩)) ov_pickT) (by omega) fun v B' H' g hp' pv => q v B' H' g (hp'.weak (by omega)) pv
abbrev s__law_mixed : Stmt := topS 76
abbrev N__law_mixed : List Str := ["_law_pen_here", "_law_things", "_law_rest", "_law_found", "_law_turn"]
theorem sc__law_mixed : FnScope N__law_mixed ["_law_pen_here", "_law_things"] (defScope s__law_mixed) := ⟨rfl, rfl, rfl, by decide +kernel, rfl, by decide +kernel, by decide +kernel⟩
theorem erase_perm {α : Type} : ∀ {xs : List α} {j : Nat} (h : j < xs.length), (xs[j] :: xs.eraseIdx j).Perm xs
  | [], _, h => absurd h (Nat.not_lt_zero _)
  | x :: xs, 0, _ => List.Perm.refl _
  | x :: xs, j + 1, h => (List.Perm.swap _ _ _).trans ((erase_perm (xs := xs) (j := j) (Nat.lt_of_succ_lt_succ h)).cons x)
theorem dpa_erase {B : Hp} {xs : List V} {ds : List PyData} (k : Nat) (h : DpAll K B xs ds) : DpAll K B (xs.eraseIdx k) (ds.eraseIdx k) := by
  rw [List.eraseIdx_eq_take_drop_succ, List.eraseIdx_eq_take_drop_succ]
  exact dpa_append (dpa_take _ h) (dpa_drop _ h)
theorem ixs_of {i : Int} {n : Nat} (h : 0 ≤ i ∧ i < (n : Int)) : seqIndex? i n = some i.toNat := by
  have hn : ¬ i < 0 := by omega
  simp [seqIndex?, hn, h.1, h.2]
def spMix (K : PySem.W.Frag) : Sp := pSpP 10 fun l vs B S => ∃ ds : List PyData, All2 [Xv (.ref l), Da K (.list ds)] vs B ∧ ds.length ≤ 10 ∧ S = Exd (fun es => es.Perm ds) fun es => Da K (.list es)
theorem ok__law_mixed (F : FunC K mg "_law_mixed" "_law_mixed" s__law_mixed) (T : Z mg) (c__law_draw : Cal P w K mg base "_law_draw" 1 ["_law_pen_here", "_law_count"] spDraw) : Cal P w K mg base "_law_mixed" 2 ["_law_pen_here", "_law_things"] (spMix K) := by
  refine F.cal sc__law_mixed (fun _ _ _ _ _ _ us hl => match us, hl with | [_, _], _ => rfl) (fun vs H Q E h => by obtain ⟨_, _, _, _, _, _, ⟨_, h, _⟩, _⟩ := h; exact all2_len h) (fun f cdv A outer s H vs Q E hr h => ?_)
  obtain ⟨B, S, l, m, e, hp, ⟨ds, p, hl, rfl⟩, q⟩ := h
  obtain ⟨x, y, rfl, px, py⟩ := all2_2 p
  obtain rfl : x = V.ref l := px
  refine ⟨_, (pss_cons (ps_par (i := 2) (j := 3) rfl sc__law_mixed.nd rfl rfl (by decide) rfl rfl (pa_cons (pe_callTy (ko_list (K := K)) (by rfl) T.z_list (by decide +kernel) (pa_cons (pv 1) pa_nil)) (pa_cons (pe_lst pa_nil) pa_nil)) rfl)
      (pss_cons (ps_for PassesOwn.never rfl (pi_range1 (by rfl) T.z_range (pa_cons (pe_callB (ko_len (K := K)) (by rfl) T.z_len (by decide +kernel) (pa_cons (pv 1) pa_nil)) pa_nil)) (pg_name (i := 4) sc__law_mixed.nd rfl (Or.inl rfl)) (pss_one (ps_expr (pe_bm PySem.F.plainAttrs_list PySem.F.slot_list_append PySem.F.type_list_append mt_append (pv 3) (pa_cons (pe_bm PySem.F.plainAttrs_list PySem.F.slot_list_pop PySem.F.type_list_pop mt_popAt (pv 2) (pa_cons (pe_cal c__law_draw hr (by rfl) (pa_cons (pv 0) (pa_cons (pe_callB (ko_len (K := K)) (by rfl) T.z_len (by decide +kernel) (pa_cons (pv 2) pa_nil)) pa_nil))) pa_nil)) pa_nil)))))
      (pss_one (ps_ret (pv 3))))), ?_⟩
  refine en_list (K := K) true (ev_D rfl py) B H (Same.refl _) (same_del e) _ fun l1 xs1 B1 H1 g1 n1 h1 b1 d1 => ?_
  have g1' := g1.del e hp
  have hp1 := hp.keep g1.hh
  refine en_lst (K := K) [] ea_nil (by simp) B1 H1 (Same.refl _) g1.bh _ fun l2 xs2 B2 H2 g2 n2 h2 b2 d2 => ?_
  cases d2
  have g2' := g2.del g1'.bh hp1
  have hp2 := hp1.keep g2.hh
  have ne1 : l1 ≠ l := fun z => by
    obtain ⟨_, _, _, z1, _⟩ := hp
    rw [z, z1] at n1
    cases n1
  have ne2 : l2 ≠ l := fun z => by
    obtain ⟨_, _, _, z1, _⟩ := hp1
    rw [z, z1] at n2
    cases n2
  have ne12 : l1 ≠ l2 := fun z => by
    rw [← z, h1] at n2
    cases n2
  have hz1 : del H l l1 = none := by rw [del_ne ne1]; exact n1
  have hz2 : del H l l2 = none := by
    rw [del_ne ne2]
    cases z : H l2 with
    | none => rfl
    | some o =>
      rw [g1.hh _ _ z] at n2
      cases n2
  have b12 : B2 l1 = none := g2.unk h1 b1
  refine ⟨.ref l1, .ref l2, rfl, ?_⟩
  have hcnt : EI K (iRng1 (tCons (tCB (rLenA K) (tCons (tVar 1) tNil)) tNil)) [some (V.ref l), some y, some (.ref l1), some (.ref l2), none] B2 ((rangeL 0 ((ds.length : Int)).toNat).map .int) := ei_rng1 (ea_cons (ev_cb (ea_cons (ev_D rfl (dp_mono (g1.bb.trans g2.bb) _ _ py)) ea_nil) cv_lenl) ea_nil) (by omega)
  have hlr : ((rangeL 0 ((ds.length : Int)).toNat).map PyData.int).length = ds.length := by simp [rangeL]
  refine pq_for (K := K) (l := l) (m := m + 10) 1 (n := 10) (g1'.trans g2') hp2 (eip hcnt) (fun d hd => by rw [hd, hlr]; exact hl) (by omega)
    (fun _ i σ' B' H' => ∃ t xs ys es fs, σ' = [some (V.ref l), some y, some (.ref l1), some (.ref l2), t] ∧ del H' l l1 = some (.lst xs) ∧ del H' l l2 = some (.lst ys) ∧ B' l1 = none ∧ B' l2 = none ∧ DpAll K B' xs es ∧ DpAll K B' ys fs ∧ (es ++ fs).Perm ds ∧ fs.length = i) ?_ ?_ ?_
  · intro ds0 B3 H3 _ g3
    have k1 : del H2 l l1 = some (.lst xs1) := by rw [del_ne ne1]; exact g2.hh _ _ h1
    have k2 : del H2 l l2 = some (.lst []) := by rw [del_ne ne2]; exact h2
    exact ⟨none, xs1, [], ds, [], rfl, g3.hh _ _ k1, g3.hh _ _ k2, g3.unk k1 b12, g3.unk k2 b2, dpa_mono (g2.bb.trans g3.bb) _ _ d1, .nil, by simp, rfl⟩
  · rintro ds0 i z σ' B0 H0 B' H' d M N rfl ⟨t, xs, ys, es, fs, rfl, u1, u2, v1, v2, dx, dy, pm, fl⟩ hg g hpM hd _ fin
    have hi : i < ds.length := by
      have := (List.getElem?_eq_some_iff.mp hd).1
      rwa [hlr] at this
    have hel : es.length + fs.length = ds.length := by rw [← List.length_append]; exact pm.length_eq
    have u1' := g.hh _ _ u1
    have u2' := g.hh _ _ u2
    have v1' := g.unk u1 v1
    have v2' := g.unk u2 v2
    have dx' := dpa_mono g.bb _ _ dx
    have dy' := dpa_mono g.bb _ _ dy
    obtain ⟨kb, kh, kd⟩ := known (K := K) g.bh u1' v1' dx'
    have dr := ep_call (sp := spDraw) (E := E0) (l := l) (σ := [some (V.ref l), some y, some (.ref l1), some (.ref l2), some z]) (epa (ea_cons (ev_var (i := 0) rfl) (ea_cons (ev_cb (ea_cons (ev_D (K := K) (i := 2) rfl kd) ea_nil) cv_lenl) ea_nil))) (spP (k := 1) (S := Rng (es.length : Int)) fun vs B1 _ h => ⟨(es.length : Int), h, by omega, by omega, rfl⟩)
    show tDrop _ _ [some (V.ref l), some y, some (.ref l1), some (.ref l2), some z] H'
    refine ⟨.ref l2, rfl, Or.inl ⟨rfl, ys, Or.inl (Or.inl (del_some u2').2)⟩, ?_⟩
    refine ⟨.ref l1, rfl, Or.inl ⟨rfl, xs, Or.inl (Or.inl (del_some u1').2)⟩, ?_⟩
    refine dr _ H' M (Same.refl _) kh (hpM.weak (by omega)) _ fun v B3 H3 g3 hp3 ⟨j, hj, pv⟩ => ?_
    obtain rfl : v = V.int j := pv
    have g3' := g3.drop kb
    have hxl := dpa_length dx'
    have hjn : j.toNat < xs.length := by omega
    have w1 := g3'.hh _ _ u1'
    have w2 := g3'.hh _ _ u2'
    refine ⟨l1, xs, j, j.toNat, xs[j.toNat], rfl, rfl, (del_some w1).2, by omega, by omega, ixs_of (by omega), List.getElem?_eq_getElem hjn, ?_⟩
    refine ⟨l2, ys, xs[j.toNat], rfl, rfl, by rw [upd_ne (Ne.symm ne12)]; exact (del_some w2).2, sz_lt (by rw [dpa_length dy']; omega), ?_⟩
    have hjd : j.toNat < es.length := by omega
    obtain ⟨de, hde, rde⟩ := dpa_get dx' (List.getElem?_eq_getElem hjn)
    have ede : de = es[j.toNat] := by
      rw [List.getElem?_eq_getElem hjd] at hde
      exact (Option.some.inj hde).symm
    subst ede
    have gg := ((hg.trans g).trans g3')
    have gm := (gg.mut (o := .lst (xs.eraseIdx j.toNat)) hz1 v1').mut (o := .lst (ys ++ [xs[j.toNat]])) hz2 v2'
    have eH : del (upd (upd H3 l1 (.lst (xs.eraseIdx j.toNat))) l2 (.lst (ys ++ [xs[j.toNat]]))) l = upd (upd (del H3 l) l1 (.lst (xs.eraseIdx j.toNat))) l2 (.lst (ys ++ [xs[j.toNat]])) := by
      rw [del_upd ne2, del_upd ne1]
    refine fin _ B' _ (by rw [eH]; exact gm) (Same.refl _) ((hp3.upd ne1).upd ne2) ⟨some z, xs.eraseIdx j.toNat, ys ++ [xs[j.toNat]], es.eraseIdx j.toNat, fs ++ [es[j.toNat]], rfl, ?_, ?_, v1', v2', dpa_erase _ dx', dpa_append dy' (.cons rde .nil), ?_, by rw [List.length_append, fl]; rfl⟩
    · rw [eH, upd_ne ne12, upd_same]
    · rw [eH, upd_same]
    · refine List.Perm.trans ?_ pm
      have a1 : (es.eraseIdx j.toNat ++ (fs ++ [es[j.toNat]])).Perm (es[j.toNat] :: (es.eraseIdx j.toNat ++ fs)) := by
        rw [← List.append_assoc]
        exact List.perm_append_singleton _ _
      refine a1.trans ?_
      rw [← List.cons_append]
      exact List.Perm.append_right _ (erase_perm hjd)
  · rintro ds0 σ' B' H' rfl hg _ hpM ⟨t, xs, ys, es, fs, rfl, u1, u2, v1, v2, dx, dy, pm, fl⟩
    rw [hlr] at fl
    have hel : es.length + fs.length = ds.length := by rw [← List.length_append]; exact pm.length_eq
    have he0 : es = [] := List.length_eq_zero_iff.mp (by omega)
    subst he0
    refine ⟨.ref l2, rfl, ?_⟩
    have gf := hg.freeze hz2 u2 v2
    exact q (.ref l2) (upd B' l2 (.lst ys)) H' gf (hpM.weak (by omega)) ⟨fs, pm, dp_lst upd_same (dpa_mono (same_new v2) _ _ dy)⟩
end
end CN
set_option Elab.async false
set_option linter.all false
set_option maxRecDepth 100000
set_option maxHeartbeats 4000000
/-! M5: rows of deeds, in plain lists. -/
namespace CN
open CM
theorem movedS_len (d : Deed) (st : List Int) : (movedS d st).length = st.length := by simp [movedS]
theorem movedS_get {d : Deed} {st : List Int} {i : Nat} (h : i < st.length) : (movedS d st).getD i 0 = st.getD i 0 - (if decide ((i : Int) ∈ d.1) then 1 else 0) + (if decide ((i : Int) ∈ d.2) then 1 else 0) := by
  unfold movedS
  rw [List.getD_eq_getElem?_getD, List.getElem?_map, List.getElem?_range h]
  rfl
theorem nn_get {st : List Int} (h : ∀ x, x ∈ st → 0 ≤ x) (i : Nat) : 0 ≤ st.getD i 0 := by
  rw [List.getD_eq_getElem?_getD]
  cases e : st[i]? with
  | none => exact Int.le_refl _
  | some x => exact h x (List.mem_of_getElem? e)
theorem can_at {d : Deed} {st : List Int} {i : Nat} (h : canDo d st = true) (hi : (i : Int) ∈ d.1) : 0 < st.getD i 0 := by
  have := List.all_eq_true.mp h _ hi
  rw [Int.toNat_natCast] at this
  exact of_decide_eq_true this
theorem moved_nn {d : Deed} {st : List Int} (h : canDo d st = true) (hn : ∀ x, x ∈ st → 0 ≤ x) : ∀ x, x ∈ movedS d st → 0 ≤ x := fun x hx => by
  obtain ⟨i, hi, rfl⟩ := List.mem_map.mp hx
  have h0 := nn_get hn i
  by_cases z : (i : Int) ∈ d.1
  · have := can_at h z
    rw [decide_eq_true z]
    generalize st.getD i 0 = g at *
    simp only [if_true, Bool.false_eq_true, if_false]
    split <;> omega
  · rw [decide_eq_false z]
    generalize st.getD i 0 = g at *
    simp only [if_true, Bool.false_eq_true, if_false]
    split <;> omega
/-- the state behind a row -/
def runS (ds : List Deed) (st : List Int) (row : List Nat) : List Int := row.foldl (fun s i => movedS (ds.getD i ([], [])) s) st
theorem runS_snoc {ds : List Deed} {st : List Int} {row : List Nat} {i : Nat} : runS ds st (row ++ [i]) = movedS (ds.getD i ([], [])) (runS ds st row) := by
  unfold runS
  rw [List.foldl_append]
  rfl
theorem runS_len (ds : List Deed) (st : List Int) : ∀ (n : Nat) (row : List Nat), row.length = n → (runS ds st row).length = st.length
  | 0, row, h => by rw [List.length_eq_zero_iff.mp h]; rfl
  | n + 1, row, h => by
    have hne : row ≠ [] := fun z => by rw [z] at h; cases h
    rw [← List.dropLast_concat_getLast hne, runS_snoc, movedS_len]
    exact runS_len ds st n _ (by rw [List.length_dropLast, h]; rfl)
/-- each of a row's deeds can be done -/
def RowOk (ds : List Deed) (st : List Int) (row : List Nat) : Prop := ∀ (k i : Nat), row[k]? = some i → i < ds.length ∧ canDo (ds.getD i ([], [])) (runS ds st (row.take k)) = true
theorem rowOk_nil {ds : List Deed} {st : List Int} : RowOk ds st [] := fun k i h => by simp at h
theorem rowOk_snoc {ds : List Deed} {st : List Int} {row : List Nat} {j : Nat} (h : RowOk ds st row) (h1 : j < ds.length) (h2 : canDo (ds.getD j ([], [])) (runS ds st row) = true) : RowOk ds st (row ++ [j]) := fun k i hk => by
  by_cases z : k < row.length
  · rw [List.getElem?_append_left z] at hk
    rw [List.take_append_of_le_length (Nat.le_of_lt z)]
    exact h k i hk
  · rw [List.getElem?_append_right (Nat.le_of_not_lt z)] at hk
    have hk0 : k - row.length = 0 := by
      have := (List.getElem?_eq_some_iff.mp hk).1
      simp at this
      omega
    rw [hk0] at hk
    obtain rfl : j = i := by simpa using hk
    have hke : k = row.length := by omega
    subst hke
    rw [List.take_left']
    · exact ⟨h1, h2⟩
    · rfl
theorem take_snoc {row : List Nat} {k i : Nat} (h : row[k]? = some i) : row.take (k + 1) = row.take k ++ [i] := by
  rw [List.take_add_one, h]
  rfl
theorem run_nn {ds : List Deed} {st : List Int} (hn : ∀ x, x ∈ st → 0 ≤ x) {row : List Nat} (h : RowOk ds st row) : ∀ k, k ≤ row.length → ∀ x, x ∈ runS ds st (row.take k) → 0 ≤ x
  | 0, _ => by rw [List.take_zero]; exact hn
  | k + 1, hk => by
    have e : row[k]? = some row[k] := List.getElem?_eq_getElem hk
    rw [take_snoc e, runS_snoc]
    exact moved_nn (h k _ e).2 (run_nn hn h k (by omega))
/-- drains without coins stay so -/
theorem dr_stays {n : Nat} {ds : List Deed} {d : Deed} {st : List Int} {S : List Int} (hd : d ∈ ds) (hl : st.length = n) (hS : IsSet n S) (hD : isDr ds S = true) (he : empty st S = true) (hn : ∀ x, x ∈ st → 0 ≤ x) (hc : canDo d st = true) : empty (movedS d st) S = true := by
  have hno : ∀ x, x ∈ S → ¬ (x ∈ d.1) := fun x hx hx1 => by
    have h1 := List.all_eq_true.mp he x hx
    have h2 := List.all_eq_true.mp hc x hx1
    rw [h2] at h1
    cases h1
  have hno2 : ∀ x, x ∈ S → ¬ (x ∈ d.2) := fun x hx hx2 => by
    have h1 := (isDr_iff.mp hD).2 d hd (touch_iff.mpr ⟨x, hx2, hx⟩)
    obtain ⟨y, hy1, hy2⟩ := touch_iff.mp h1
    exact hno y hy2 hy1
  refine List.all_eq_true.mpr fun b hb => ?_
  have hr := hS.1 b hb
  have hbn : b.toNat < st.length := by omega
  have h1 := List.all_eq_true.mp he b hb
  rw [movedS_get hbn, Int.toNat_of_nonneg hr.1, decide_eq_false (hno b hb), decide_eq_false (hno2 b hb)]
  simpa using h1
/-- traps with a coin keep one -/
theorem tr_stays {n : Nat} {ds : List Deed} {d : Deed} {st : List Int} {S : List Int} (hd : d ∈ ds) (hl : st.length = n) (hS : IsSet n S) (hT : isTr ds S = true) (he : empty st S = false) (hn : ∀ x, x ∈ st → 0 ≤ x) (hc : canDo d st = true) : empty (movedS d st) S = false := by
  obtain ⟨b, hb, hb1⟩ : ∃ b, b ∈ S ∧ 0 < st.getD b.toNat 0 := by
    have : ¬ (∀ b, b ∈ S → (!decide (0 < st.getD b.toNat 0)) = true) := fun z => by
      have := List.all_eq_true.mpr z
      unfold empty at he
      rw [this] at he
      cases he
    obtain ⟨b, hb⟩ := Classical.not_forall.mp this
    obtain ⟨h1, h2⟩ := Classical.not_imp.mp hb
    exact ⟨b, h1, by simpa using h2⟩
  have key : ∃ c, c ∈ S ∧ 0 < (movedS d st).getD c.toNat 0 := by
    by_cases z : touch d.1 S = true
    · obtain ⟨c, hc2, hcS⟩ := touch_iff.mp ((isTr_iff.mp hT).2 d hd z)
      have hr := hS.1 c hcS
      refine ⟨c, hcS, ?_⟩
      have hcn : c.toNat < st.length := by omega
      have h0 := nn_get hn c.toNat
      rw [movedS_get hcn, Int.toNat_of_nonneg hr.1, decide_eq_true hc2]
      by_cases y : c ∈ d.1
      · have := can_at (i := c.toNat) hc (by rw [Int.toNat_of_nonneg hr.1]; exact y)
        rw [decide_eq_true y]
        generalize st.getD c.toNat 0 = g at *
        simp
        omega
      · rw [decide_eq_false y]
        generalize st.getD c.toNat 0 = g at *
        simp
        omega
    · have hr := hS.1 b hb
      have hbn : b.toNat < st.length := by omega
      have hnb : ¬ (b ∈ d.1) := fun y => z (touch_iff.mpr ⟨b, y, hb⟩)
      refine ⟨b, hb, ?_⟩
      rw [movedS_get hbn, Int.toNat_of_nonneg hr.1, decide_eq_false hnb]
      generalize st.getD b.toNat 0 = g at *
      simp only [if_true, Bool.false_eq_true, if_false]
      split <;> omega
  obtain ⟨c, hcS, hc0⟩ := key
  cases e : empty (movedS d st) S with
  | false => rfl
  | true =>
    have := List.all_eq_true.mp e c hcS
    rw [decide_eq_true hc0] at this
    cases this
end CN
set_option Elab.async false
set_option linter.all false
set_option maxRecDepth 100000
set_option maxHeartbeats 4000000
/-! E3: drawn states and rows. -/
namespace CN
open PySem PySem.Spec PyProof.Rows L2 CM
section
variable {P : Program} {w : World} {K : PySem.W.Frag} {mg : Str → Option Value} {base : Heap} {C : Addr}
theorem dpa_set {B : Hp} {xs : List V} {ds : List PyData} {j : Nat} {x : V} {d : PyData} (h : DpAll K B xs ds) (hx : Dp K B x d) : DpAll K B (xs.set j x) (ds.set j d) := by
  rw [List.set_eq_take_append_cons_drop, List.set_eq_take_append_cons_drop, dpa_length h]
  split
  · exact dpa_append (dpa_take _ h) (.cons hx (dpa_drop _ h))
  · exact h
theorem s_setI {D : Ends} {te : TE} {σ : L2.St} {i i2 : Nat} {B H : Hp} {l : Addr} {x j : Int} {xs : List V} (e : Same B H) (h : EV te σ B (Xv (.int x))) (hi : σ[i]? = some (some (.ref l))) (hi2 : σ[i2]? = some (some (.int j))) (hl : H l = some (.lst xs)) (hj : 0 ≤ j ∧ j < (xs.length : Int))
    (k : ∀ B' H', Gr B H B' H' → D.nx σ (upd H' l (.lst (xs.set j.toNat (.int x))))) : tAsg te (gSub (tVar i) (tVar i2) rSetL) D σ H := h B H (Same.refl _) e _ fun v B' H' g pv => by
  obtain rfl : v = V.int x := pv
  refine ⟨.ref l, hi, .int j, hi2, l, xs, j, j.toNat, rfl, rfl, g.hh _ _ hl, ?_, k B' H' g⟩
  unfold ixN
  rw [if_pos hj.1, if_pos hj.2]
/-- the last one -/
theorem ov_last {B : Hp} {ds : List PyData} {d : PyData} : OV (rIx K) B (Da K (.tuple (ds ++ [d]))) (Xv (.int (-1))) (Da K d) := OV.r (OV.l fun x y B1 H _ b px py Q q => by
  obtain ⟨p, xs, rfl, hs, ha⟩ := dp_tup_inv px
  have hl := dpa_length ha
  rw [List.length_append] at hl
  have hl : xs.length = ds.length + 1 := hl
  have hlt : ds.length < xs.length := by omega
  obtain ⟨d', hd', r⟩ := dpa_get ha (List.getElem?_eq_getElem hlt)
  rw [List.getElem?_append_right (Nat.le_refl _), Nat.sub_self] at hd'
  cases hd'
  refine ⟨p, xs, -1, xs[ds.length], rfl, py, sqt_mono b hs, ?_, q _ B1 H (.refl b) r⟩
  unfold atI ixN
  rw [if_neg (by decide), if_pos (by omega)]
  show xs[(-1 + (xs.length : Int)).toNat]? = _
  rw [show (-1 + (xs.length : Int)).toNat = ds.length by omega, List.getElem?_eq_getElem hlt])
/-- (e,), e drawn -/
theorem ep_tup1 {te : TE} {l : Addr} {k : Nat} {σ : L2.St} {B : Hp} {ι : Type} {p : ι → Prop} {d : ι → PyData} (h : EVp te l k σ B (Exd p fun i => Da K (d i))) : EVp (tTup (tCons te tNil)) l k σ B (Exd p fun i => Da K (.tuple [d i])) := fun B1 H m a e hp Q q =>
  h B1 H m a e hp _ fun v B2 H2 g2 p2 ⟨i, hi, pv⟩ => ⟨by show 1 ≤ sizeLine; decide, fun t ht => by
    have n1 : t ≠ l := fun z => by
      obtain ⟨_, _, _, z1, _⟩ := p2
      rw [z, z1] at ht
      cases ht
    have hn : del H2 l t = none := by rw [del_ne n1]; exact ht
    refine q _ (upd B2 t (.tup [v])) _ ?_ (p2.upd n1) ⟨i, hi, dp_tup upd_same (.cons (dp_mono (same_new (g2.bh.free hn)) _ _ pv) .nil)⟩
    rw [del_upd n1]
    exact g2.trans (.new g2.bh hn)⟩
theorem ep_tup2 {te tf : TE} {l : Addr} {k k2 : Nat} {σ : L2.St} {B : Hp} {ι κ : Type} {p : ι → Prop} {r : κ → Prop} {d : ι → PyData} {f : κ → PyData} (h : EVp te l k σ B (Exd p fun i => Da K (d i))) (h2 : EVp tf l k2 σ B (Exd r fun i => Da K (f i))) : EVp (tTup (tCons te (tCons tf tNil))) l (k + k2) σ B (Exd (fun x : ι × κ => p x.1 ∧ r x.2) fun x => Da K (.tuple [d x.1, f x.2])) := fun B1 H m a e hp Q q =>
  h B1 H (m + k2) a e (hp.weak (by omega)) _ fun v B2 H2 g2 p2 ⟨i, hi, pv⟩ => h2 B2 H2 m (a.trans g2.bb) g2.bh p2 _ fun v3 B3 H3 g3 p3 ⟨j, hj, pv3⟩ => ⟨by show 2 ≤ sizeLine; decide, fun t ht => by
    have n1 : t ≠ l := fun z => by
      obtain ⟨_, _, _, z1, _⟩ := p3
      rw [z, z1] at ht
      cases ht
    have hn : del H3 l t = none := by rw [del_ne n1]; exact ht
    have sm := same_new (o := .tup [v, v3]) (g3.bh.free hn)
    refine q _ (upd B3 t (.tup [v, v3])) _ ?_ (p3.upd n1) ⟨(i, j), ⟨hi, hj⟩, dp_tup upd_same (.cons (dp_mono (g3.bb.trans sm) _ _ pv) (.cons (dp_mono sm _ _ pv3) .nil))⟩
    rw [del_upd n1]
    exact (g2.trans g3).trans (.new g3.bh hn)⟩
theorem rng_i {te : TE} {l : Addr} {k : Nat} {σ : L2.St} {B : Hp} {p : Int → Prop} (h : EVp te l k σ B (Exd p fun i => Xv (.int i))) : EVp te l k σ B (Exd p fun i => Da K (.int i)) := h.imp fun v B' ⟨i, hi, e⟩ => ⟨i, hi, by rw [show v = V.int i from e]; exact .int i⟩
theorem pq_new {te : TE} {tz : TS} {D : Ends} {σ : L2.St} {B H : Hp} {l : Addr} {m i : Nat} {ds : List PyData} (e : Same B (del H l)) (hp : Pn l m H) (h : EN K te σ B ds)
    (k : ∀ l2 xs B' H', Gr B (del H l) B' (del H' l) → Pn l m H' → l2 ≠ l → del H l l2 = none → del H' l l2 = some (.lst xs) → B' l2 = none → DpAll K B' xs ds → tz D (σ.set i (some (.ref l2))) H') : tSeq (tAsg te (gName i)) tz D σ H :=
  h B H (Same.refl _) (same_del e) _ fun l2 xs B1 H1 g1 n1 h1 b1 d1 => by
    have ne1 : l2 ≠ l := fun z => by
      obtain ⟨_, _, _, z1, _⟩ := hp
      rw [z, z1] at n1
      cases n1
    exact k l2 xs B1 H1 (g1.del e hp) (hp.keep g1.hh) ne1 (by rw [del_ne ne1]; exact n1) (by rw [del_ne ne1]; exact h1) b1 d1
abbrev s__law_state : Stmt := topS 85
abbrev N__law_state : List Str := ["_law_pen_here", "_law_worths", "_law_most", "_law_coins", "_law_box", "_law_turn", "_law_one", "_law_count"]
theorem sc__law_state : FnScope N__law_state ["_law_pen_here", "_law_worths", "_law_most"] (defScope s__law_state) := ⟨rfl, rfl, rfl, by decide +kernel, rfl, by decide +kernel, by decide +kernel⟩
def spState (K : PySem.W.Frag) : Sp := pSpP 10 fun l vs B S => ∃ (ws : List Int) (mo : Int), All2 [Xv (.ref l), Da K (TuI ws), Xv (.int mo)] vs B ∧ okWs ws = true ∧ S = Exd (fun st : List Int => st.length = ws.length ∧ ∀ x, x ∈ st → 0 ≤ x) fun st => Da K (TuI st)
theorem okWs_iff {ws : List Int} (h : okWs ws = true) : 1 ≤ ws.length ∧ ws.length ≤ 5 ∧ ∀ x, x ∈ ws → 1 ≤ x ∧ x ≤ 3 := by
  unfold okWs at h
  obtain ⟨h1, h2⟩ := Bool.and_eq_true_iff.mp h
  obtain ⟨h3, h4⟩ := Bool.and_eq_true_iff.mp h1
  refine ⟨of_decide_eq_true h3, of_decide_eq_true h4, fun x hx => ?_⟩
  have := List.all_eq_true.mp h2 x hx
  simpa using this
theorem ok__law_state (F : FunC K mg "_law_state" "_law_state" s__law_state) (T : Z mg) (c__law_draw : Cal P w K mg base "_law_draw" 1 ["_law_pen_here", "_law_count"] spDraw) : Cal P w K mg base "_law_state" 2 ["_law_pen_here", "_law_worths", "_law_most"] (spState K) := by
  refine F.cal sc__law_state (fun _ _ _ _ _ _ us hl => match us, hl with | [_, _, _], _ => rfl) (fun vs H Q E h => by obtain ⟨_, _, _, _, _, _, ⟨_, _, h, _⟩, _⟩ := h; exact all2_len h) (fun f cdv A outer s H vs Q E hr h => ?_)
  obtain ⟨B, S, l, m, e, hp, ⟨ws, mo, p, hw, rfl⟩, q⟩ := h
  obtain ⟨x, y, z, rfl, px, py, pz⟩ := all2_3 p
  obtain rfl : x = V.ref l := px
  obtain rfl : z = V.int mo := pz
  obtain ⟨hw1, hw5, hwb⟩ := okWs_iff hw
  refine ⟨_, (pss_cons (ps_setLc (i := 3) (own := [("_law_box", 4)]) (g := gName 4) (tt := tYes) rfl sc__law_state.nd rfl rfl (sw_true rfl rfl rfl (by decide +kernel)) (ki_seq (K := K) (pv 1)) (blkOk_by (own := [("_law_box", 4)]) (N := N__law_state) (sc := defScope s__law_state) (by decide +kernel)) (fun _ _ _ _ _ => (pg_name (i := 4) sc__law_state.nd rfl (Or.inl rfl))) (fun _ _ _ _ _ => pts_nil) (fun _ _ _ _ _ => pe_int))
      (pss_cons (ps_for PassesOwn.never rfl (pi_range1 (by rfl) T.z_range (pa_cons (pe_op (ko_add (K := K)) pe_int (pe_cal c__law_draw hr (by rfl) (pa_cons (pv 0) (pa_cons pe_int pa_nil)))) pa_nil)) (pg_name (i := 5) sc__law_state.nd rfl (Or.inl rfl)) (pss_cons (ps_set (i := 4) sc__law_state.nd rfl (Or.inl rfl) (pe_cal c__law_draw hr (by rfl) (pa_cons (pv 0) (pa_cons (pe_callB (ko_len (K := K)) (by rfl) T.z_len (by decide +kernel) (pa_cons (pv 1) pa_nil)) pa_nil))))
      (pss_one (ps_if (pt_cmpR op_le (pe_op (ko_add (K := K)) (pe_callB (ko_sum rfl (K := K)) (by rfl) T.z_sum (by decide +kernel) (pa_cons (pe_lc (own := [("_law_one", 6), ("_law_count", 7)]) (g := gTup K 2 (gCons (gName 6) (gCons (gName 7) (gNil)))) (tt := tYes) rfl sc__law_state.nd (ki_zip (K := K) (by rfl) T.z_zip (pa_cons (pv 1) (pa_cons (pv 3) pa_nil))) (blkOk_by (own := [("_law_one", 6), ("_law_count", 7)]) (N := N__law_state) (sc := defScope s__law_state) (by decide +kernel)) (fun _ _ _ _ _ => (kg_tup (K := K) rfl (pgs_cons (pg_name (i := 6) sc__law_state.nd rfl (Or.inl rfl)) (pgs_cons (pg_name (i := 7) sc__law_state.nd rfl (Or.inl rfl)) pgs_nil)))) (fun _ _ _ _ _ => pts_nil) (fun _ _ _ _ _ => (pe_op (ko_mul (K := K)) (pv 6) (pv 7)))) pa_nil)) (pe_ix (ko_ix (K := K)) (pv 1) (pv 4) (fun _ _ => rfl))) (pv 2) (nomark _)) (pss_one (ps_asg (pe_op (ko_add (K := K)) (pe_ix (ko_ix (K := K)) (pv 3) (pv 4) (fun _ _ => rfl)) pe_int) (pg_sub (pv 3) (pv 4) set_list))) pss_nil))))
      (pss_one (ps_ret (pe_callTy (ko_tuple (K := K)) (by rfl) T.z_tuple (by decide +kernel) (pa_cons (pv 3) pa_nil)))))), ?_⟩
  refine pq_new (K := K) e hp (en_lc0 ws .int (fun _ => .int 0) (ei_tup (ev_D rfl py)) (by omega) (fun a v B2 ha e2 dv => lt_name rfl et_yes fun _ => ev_ci)) fun lc xs0 B1 H1 g1' hp1 ne1 hz1 k1 b1 d1 => ?_
  refine pq_for (K := K) (l := l) (m := m + 10) 1 (k := 1) (n := 5) g1' hp1 (eip_rng (p := fun n => 1 ≤ n ∧ n ≤ 5) (epa_cons (k1 := 0 + (0 + 1)) (k2 := 0) ((ep_op (ep ev_c) (ep_call (epa (ea_cons (ev_var rfl) (ea_cons ev_c ea_nil))) (spP fun vs B1 _ h => ⟨5, h, by omega, by omega, rfl⟩)) (ov_ex fun i _ => ov_addI)).imp fun v B' ⟨i, hi, e⟩ => ⟨1 + i, by omega, e⟩) (epa ea_nil)) (by omega)) (fun d ⟨n, hn, hd⟩ => by rw [hd]; simp [rangeL]; omega) (by omega)
    (fun _ i σ' B' H' => ∃ (b t o c : Option V) (xs : List V) (cs : List Int), σ' = [some (V.ref l), some y, some (.int mo), some (.ref lc), b, t, o, c] ∧ del H' l lc = some (.lst xs) ∧ B' lc = none ∧ DpAll K B' xs (cs.map .int) ∧ cs.length = ws.length ∧ ∀ x, x ∈ cs → 0 ≤ x) ?_ ?_ ?_
  · intro ds0 B3 H3 _ g3
    exact ⟨none, none, none, none, xs0, ws.map fun _ => 0, rfl, g3.hh _ _ k1, g3.unk k1 b1, by rw [List.map_map]; exact dpa_mono g3.bb _ _ d1, by simp, fun x hx => by obtain ⟨_, _, rfl⟩ := List.mem_map.mp hx; exact Int.le_refl _⟩
  · rintro ds0 i zz σ' B0 H0 B' H' d M N - ⟨b, t, o, c, xs, cs, rfl, u1, v1, dx, cl, cn⟩ hg g hpM hd dz fin
    have hgg := hg.trans g
    have py' := dp_mono hgg.bb _ _ py
    refine pq_asg hgg.bh hpM (ep_call (epa (ea_cons (ev_var rfl) (ea_cons (ev_cb (ea_cons (ev_D rfl py') ea_nil) cv_lent) ea_nil))) (spP fun vs B1 _ h => ⟨_, h, by rw [List.length_map]; omega, by rw [List.length_map]; omega, rfl⟩)) (by omega) fun v5 B5 H5 g5 hp5 ⟨j, hj, pv⟩ => ?_
    obtain rfl : v5 = V.int j := pv
    rw [List.length_map] at hj
    have hgt := g.trans g5
    have u5 := hgt.hh _ _ u1
    have v5 := hgt.unk u1 v1
    have dx5 := dpa_mono hgt.bb _ _ dx
    have py5 := dp_mono g5.bb _ _ py'
    obtain ⟨kb, kh, kd⟩ := known (K := K) g5.bh u5 v5 dx5
    have hxl : xs.length = cs.length := by rw [dpa_length dx5, List.length_map]
    have hzi := ei_zip (K := K) (σ := [some (V.ref l), some y, some (.int mo), some (.ref lc), some (.int j), some zz, o, c]) (B := upd B5 lc (.lst xs)) (ds := ws.map .int) (es := cs.map .int) (ta := tCons (tVar 1) (tCons (tVar 3) tNil)) false true (ea_cons (ev_D rfl (dp_mono kb _ _ py5)) (ea_cons (ev_D rfl kd) ea_nil))
    rw [zipD_map] at hzi
    have hgo := hgg.trans g5
    refine p_if (b := _) kh (hp5.weak (n := M) (by omega)) (et_test (ev_op (ev_op (ev_cb (ea_cons (ev_lcI (ws.zip cs) (fun p => .tuple [.int p.1, .int p.2]) (fun p => p.1 * p.2) hzi (by rw [List.length_zip]; omega) fun a v B2 ha e2 dv => lt_tup2 dv (fun _ _ => rfl) (fun _ _ _ _ => et_yes) fun x1 x2 q1 q2 _ => ?_) ea_nil) cv_sum) (ev_xi (ev_op (ev_D rfl (dp_mono kb _ _ py5)) (ev_var rfl) (ov_ixt (j := j.toNat) (Int.toNat_of_nonneg hj.1).symm (get_of ⟨hj.1, by omega⟩)))) ov_addI) (ev_var rfl) ov_I0)) (fun ht B6 H6 g6 hp6 => ?_) fun hf B6 H6 g6 hp6 => ?_
    · obtain rfl := dp_int_inv q1
      obtain rfl := dp_int_inv q2
      have := hwb a.1 (List.of_mem_zip ha).1
      exact ev_i (ev_op (ev_var rfl) (ev_var rfl) (ov_mulI (by omega)))
    · have kd6 := dp_mono g6.bb _ _ kd
      have hj2 : 0 ≤ j ∧ j < (cs.length : Int) := by omega
      refine s_setI (B := B6) (same_del g6.bh) (ev_op (ev_xi (ev_op (ev_D rfl kd6) (ev_var rfl) (ov_ixl (j := j.toNat) (Int.toNat_of_nonneg hj.1).symm (get_of hj2)))) ev_c ov_addI) rfl rfl (del_some (g6.hh _ _ u5)).2 (by omega) fun B7 H7 g7 => ?_
      have g8 := (g6.trans (g7.del g6.bh hp6)).drop kb
      have eH : del (upd H7 lc (.lst (xs.set j.toNat (.int (cs.getD j.toNat 0 + 1))))) l = upd (del H7 l) lc (.lst (xs.set j.toNat (.int (cs.getD j.toNat 0 + 1)))) := del_upd ne1
      refine fin _ B5 _ (by rw [eH]; exact (hgo.trans g8).mut hz1 v5) g5.bb ((hp6.keep g7.hh).upd ne1) ⟨_, _, _, _, _, cs.set j.toNat (cs.getD j.toNat 0 + 1), rfl, by rw [eH, upd_same], v5, ?_, by rw [List.length_set]; exact cl, fun x hx => ?_⟩
      · rw [List.map_set]
        exact dpa_set dx5 (.int _)
      · rcases List.mem_or_eq_of_mem_set hx with hx | rfl
        · exact cn x hx
        · have := nn_get cn j.toNat
          omega
    · have g8 := g6.drop kb
      exact fin _ B5 H6 (hgo.trans g8) g5.bb hp6 ⟨_, _, _, _, xs, cs, rfl, g6.hh _ _ u5, v5, dx5, cl, cn⟩
  · rintro ds0 σ' B' H' ⟨n, hn, rfl⟩ hg _ hpM ⟨b, t, o, c, xs, cs, rfl, u1, v1, dx, cl, cn⟩
    obtain ⟨kb, kh, kd⟩ := known (K := K) hg.bh u1 v1 dx
    exact p_ret kh (hpM.weak (n := m) (by omega)) (ep (ev_cb (ea_cons (ev_D rfl kd) ea_nil) cv_tuple)) (Nat.zero_le _) fun v B2 H2 g2 hp2 pv => q v B2 H2 ((hg.freeze hz1 u1 v1).trans g2) hp2 ⟨cs, ⟨cl, cn⟩, pv⟩
end
end CN
set_option Elab.async false
set_option linter.all false
set_option maxRecDepth 100000
set_option maxHeartbeats 4000000
/-! E4: drawn rows; appends. -/
namespace CN
open PySem PySem.Spec PyProof.Rows L2 CM
section
variable {P : Program} {w : World} {K : PySem.W.Frag} {mg : Str → Option Value} {base : Heap} {C : Addr}
theorem pq_par {i j : Nat} {ta : TA} {P R : Pd} {tz : TS} {D : Ends} {σ : L2.St} {B H : Hp} {l : Addr} {m k : Nat} (e : Same B (del H l)) (hp : Pn l m H) (h : EAp ta l k σ B [P, R]) (hk : k ≤ m)
    (q : ∀ v1 v2 B' H', Gr B (del H l) B' (del H' l) → Pn l (m - k) H' → P v1 B' → R v2 B' → tz D ((σ.set i (some v1)).set j (some v2)) H') : tSeq (tPar i j ta) tz D σ H :=
  h B H (m - k) (Same.refl _) e (hp.weak (by omega)) _ fun vs B' H' g hp' p => by
    obtain ⟨x, y, rfl, px, py⟩ := all2_2 p
    exact ⟨x, y, rfl, q x y B' H' g hp' px py⟩
theorem poss_can {ds : List Deed} {st : List Int} {i : Nat} (hn : ∀ x, x ∈ st → 0 ≤ x) (h : i ∈ possN ds st) : i < ds.length ∧ canDo (ds.getD i ([], [])) st = true := by
  obtain ⟨h1, h2⟩ := List.mem_filter.mp h
  refine ⟨List.mem_range.mp h1, List.all_eq_true.mpr fun b hb => ?_⟩
  have h3 := List.all_eq_true.mp h2 b hb
  have h4 := nn_get hn b.toNat
  generalize st.getD b.toNat 0 = g at *
  have : g ≠ 0 := by simpa using h3
  exact decide_eq_true (by omega)
abbrev s__law_row : Stmt := topS 88
abbrev N__law_row : List Str := ["_law_pen_here", "_law_deeds", "_law_state_here", "_law_size", "_law_row_here", "_law_here", "_law_turn", "_law_some"]
theorem sc__law_row : FnScope N__law_row ["_law_pen_here", "_law_deeds", "_law_state_here", "_law_size"] (defScope s__law_row) := ⟨rfl, rfl, rfl, by decide +kernel, rfl, by decide +kernel, by decide +kernel⟩
abbrev TuN (row : List Nat) : PyData := TuI (row.map fun (i : Nat) => (i : Int))
def spRow (K : PySem.W.Frag) : Sp := pSpP 10 fun l vs B S => ∃ (ds : List Deed) (st : List Int), All2 [Xv (.ref l), Da K (.list (ds.map DD)), Da K (TuI st), Xv (.int 6)] vs B ∧ Sml ds ∧ (∀ d, d ∈ ds → Inr st.length d.1) ∧ st.length ≤ 1000 ∧ (∀ x, x ∈ st → 0 ≤ x) ∧ S = Exd (fun row : List Nat => RowOk ds st row ∧ row.length ≤ 6) fun row => Da K (TuN row)
theorem ok__law_row (F : FunC K mg "_law_row" "_law_row" s__law_row) (T : Z mg) (c__law_possible : Cal P w K mg base "_law_possible" 1 ["_law_deeds", "_law_state_here"] (spPoss K)) (c__law_pick : Cal P w K mg base "_law_pick" 2 ["_law_pen_here", "_law_some"] (spPick K)) (c__law_moved : Cal P w K mg base "_law_moved" 1 ["_law_deed", "_law_state_here"] (spMoved K)) :
    Cal P w K mg base "_law_row" 3 ["_law_pen_here", "_law_deeds", "_law_state_here", "_law_size"] (spRow K) := by
  refine F.cal sc__law_row (fun _ _ _ _ _ _ us hl => match us, hl with | [_, _, _, _], _ => rfl) (fun vs H Q E h => by obtain ⟨_, _, _, _, _, _, ⟨_, _, h, _⟩, _⟩ := h; exact all2_len h) (fun f cdv A outer s H vs Q E hr h => ?_)
  obtain ⟨B, S, l, m, e, hp, ⟨ds, st, p, hs, hin, hsl, hnn, rfl⟩, q⟩ := h
  obtain ⟨x, y, z, u, rfl, px, py, pz, pu⟩ := all2_4 p
  obtain rfl : x = V.ref l := px
  obtain rfl : u = V.int 6 := pu
  have hu := hr.units
  refine ⟨_, (pss_cons (ps_par (i := 4) (j := 5) rfl sc__law_row.nd rfl rfl (by decide) rfl rfl (pa_cons (pe_tup pa_nil) (pa_cons (pv 2) pa_nil)) rfl)
      (pss_cons (ps_for PassesOwn.never rfl (pi_range1 (by rfl) T.z_range (pa_cons (pv 3) pa_nil)) (pg_name (i := 6) sc__law_row.nd rfl (Or.inl rfl)) (pss_cons (ps_set (i := 7) sc__law_row.nd rfl (Or.inl rfl) (pe_cal c__law_possible hr (by rfl) (pa_cons (pv 1) (pa_cons (pv 5) pa_nil))))
      (pss_one (ps_if (pt_cmpR (ko_ne hu (K := K)) (pv 7) (pe_tup pa_nil) (nomark _)) (pss_cons (ps_set (i := 4) sc__law_row.nd rfl (Or.inl rfl) (pe_op (ko_add (K := K)) (pv 4) (pe_tup (pa_cons (pe_cal c__law_pick hr (by rfl) (pa_cons (pv 0) (pa_cons (pv 7) pa_nil))) pa_nil))))
      (pss_one (ps_set (i := 5) sc__law_row.nd rfl (Or.inl rfl) (pe_cal c__law_moved hr (by rfl) (pa_cons (pe_ix (ko_ix (K := K)) (pv 1) (pe_ix (ko_ix (K := K)) (pv 4) (pe_un un_neg pe_int) (fun _ _ => rfl)) (fun _ _ => rfl)) (pa_cons (pv 5) pa_nil)))))) pss_nil))))
      (pss_one (ps_ret (pv 4))))), ?_⟩
  refine pq_par (P := Da K (TuI [])) (R := Da K (TuI st)) e hp (epa (ea_cons (ev_tup [] ea_nil (by simp)) (ea_cons (ev_D rfl pz) ea_nil))) (Nat.zero_le _) fun v4 v5 B1 H1 g1 hp1 p4 p5 => ?_
  refine pq_for (K := K) (l := l) (m := m + 10) 1 (k := 0) (n := 6) g1 hp1 (eip (ei_rng1 (n := 6) (ea_cons (ev_var rfl) ea_nil) (by omega))) (fun d hd => by rw [hd]; simp [rangeL]) (by omega)
    (fun _ i σ' B' H' => ∃ (r h : V) (t o : Option V) (row : List Nat), σ' = [some (V.ref l), some y, some z, some (.int 6), some r, some h, t, o] ∧ Dp K B' r (TuN row) ∧ Dp K B' h (TuI (runS ds st row)) ∧ RowOk ds st row ∧ row.length ≤ i)
    (fun _ B2 H2 _ g2 => ⟨v4, v5, none, none, [], rfl, dp_mono g2.bb _ _ p4, dp_mono g2.bb _ _ p5, rowOk_nil, Nat.le_refl _⟩) ?_ ?_
  · rintro ds0 i zz σ' B0 H0 B' H' d M N rfl ⟨r, h, t, o, row, rfl, dr, dh, rok, rl⟩ hg g hpM hd dz fin
    have hi6 : i < 6 := by
      have := (List.getElem?_eq_some_iff.mp hd).1
      simpa [rangeL] using this
    have hgg := hg.trans g
    have py1 := dp_mono hgg.bb _ _ py
    have dr1 := dp_mono g.bb _ _ dr
    have dh1 := dp_mono g.bb _ _ dh
    have hrl := runS_len ds st _ row rfl
    have hnr : ∀ x, x ∈ runS ds st row → 0 ≤ x := by
      have := run_nn hnn rok row.length (Nat.le_refl _)
      rwa [List.take_length] at this
    refine pq_asg hgg.bh hpM (ep (ev_call (ea_cons (ev_D rfl py1) (ea_cons (ev_D rfl dh1) ea_nil)) (spv fun vs B3 _ h => ⟨ds, runS ds st row, h, hs, fun d hd => by rw [hrl]; exact hin d hd, rfl⟩))) (Nat.zero_le _) fun v7 B2 H2 g2 hp2 p7 => ?_
    have p7' : Dp K B2 v7 (TuN (possN ds (runS ds st row))) := p7
    refine p_if g2.bh hp2 (et_test (ev_op (ev_D rfl p7') (ev_tup [] ea_nil (by simp)) (ov_ned (sk_ti (k := 0) _).sh (sk_nilT (k := 0)).sh))) (fun ht B3 H3 g3 hp3 => ?_) fun hf B3 H3 g3 hp3 => ?_
    · rw [eqv_ti0] at ht
      have hne : possN ds (runS ds st row) ≠ [] := fun z => by
        rw [z] at ht
        simp at ht
      have hlp : (possN ds (runS ds st row)).length ≤ 1000 := by
        have h1 := List.length_filter_le (fun i => (ds.getD i ([], [])).1.all fun b => !decide ((runS ds st row).getD b.toNat 0 = 0)) (List.range ds.length)
        rw [List.length_range] at h1
        exact Nat.le_trans h1 hs.1
      have p73 := dp_mono g3.bb _ _ p7'
      have dr3 := dp_mono (g2.bb.trans g3.bb) _ _ dr1
      have pk : EVp (tCall (spPick K) [] E0 (tCons (tVar 0) (tCons (tVar 7) tNil))) l (0 + 1) [some (V.ref l), some y, some z, some (.int 6), some r, some h, some zz, some v7] B3 (Exd (fun i : Nat => i ∈ possN ds (runS ds st row)) fun (i : Nat) => Da K (.int (i : Int))) := by
        refine (ep_call (epa (ea_cons (ev_var rfl) (ea_cons (ev_D rfl p73) ea_nil))) (spP fun vs B4 _ h => ⟨false, _, h, ?_, by rw [List.length_map, List.length_map]; exact hlp, rfl⟩)).imp fun v B' ⟨dd, hdd, e⟩ => ?_
        · exact fun z => hne (List.map_eq_nil_iff.mp (List.map_eq_nil_iff.mp z))
        · obtain ⟨a, ha, rfl⟩ := List.mem_map.mp hdd
          obtain ⟨b, hb, rfl⟩ := List.mem_map.mp ha
          exact ⟨b, hb, e⟩
      refine pq_asg g3.bh hp3 (ep_op (ep (ev_D rfl dr3)) (ep_tup1 pk) (ov_ex fun i _ => ov_addT (by rw [List.length_map, List.length_map]; show row.length + 1 ≤ _; omega))) (Nat.le_add_left _ _) fun v8 B4 H4 g4 hp4 ⟨j, hj, p8⟩ => ?_
      · obtain ⟨hj1, hj2⟩ := poss_can hnr hj
        have ej : ds[j]? = some (ds.getD j ([], [])) := by rw [List.getD_eq_getElem?_getD, List.getElem?_eq_getElem hj1]; rfl
        have pyy := dp_mono ((g2.bb.trans g3.bb).trans g4.bb) _ _ py1
        have dh4 := dp_mono ((g2.bb.trans g3.bb).trans g4.bb) _ _ dh1
        refine p_asg g4.bh hp4 (ep (ev_call (ea_cons (ev_op (ev_D rfl pyy) (ev_xi (ev_op (ev_D rfl p8) (ev_un ev_c uv_neg) ov_last)) (ov_ixl (j := j) rfl (by rw [List.getElem?_map, ej]; rfl))) (ea_cons (ev_D rfl dh4) ea_nil)) (spv fun vs B5 _ h => ⟨ds.getD j ([], []), runS ds st row, h, by rw [hrl]; exact hsl, rfl⟩))) (Nat.zero_le _) fun v9 B5 H5 g5 hp5 p9 => ?_
        refine fin _ B5 H5 ((((hgg.trans g2).trans g3).trans g4).trans g5) (((g2.bb.trans g3.bb).trans g4.bb).trans g5.bb) (hp5.weak (by omega)) ⟨v8, v9, _, _, row ++ [j], rfl, ?_, ?_, rowOk_snoc rok hj1 hj2, by rw [List.length_append]; show row.length + 1 ≤ _; omega⟩
        · have := dp_mono g5.bb _ _ p8
          show Dp K B5 v8 (PyData.tuple _)
          rw [List.map_append, List.map_append]
          exact this
        · rw [runS_snoc]
          exact p9
    · exact fin _ B3 H3 ((hgg.trans g2).trans g3) (g2.bb.trans g3.bb) (hp3.weak (by omega)) ⟨r, h, _, _, row, rfl, dp_mono (g2.bb.trans g3.bb) _ _ dr1, dp_mono (g2.bb.trans g3.bb) _ _ dh1, rok, by omega⟩
  · rintro ds0 σ' B' H' rfl hg _ hpM ⟨r, h, t, o, row, rfl, dr, dh, rok, rl⟩
    exact p_ret hg.bh hpM (ep (ev_D rfl dr)) (Nat.zero_le _) fun v B2 H2 g2 hp2 pv => q v B2 H2 (hg.trans g2) (hp2.weak (by omega)) ⟨row, ⟨rok, by simpa [rangeL] using rl⟩, pv⟩
end
end CN
set_option Elab.async false
set_option linter.all false
set_option maxRecDepth 100000
set_option maxHeartbeats 4000000
/-! M6: nets that are nets. -/
namespace CM
def okDeedB (ws : List Int) (d : Deed) : Bool := setB d.1 ws.length && (setB d.2 ws.length && (!decide (d.1 = []) && (!decide (d.2 = []) && decide (worthB ws d.1 = worthB ws d.2))))
theorem okDeed_of {ws : List Int} {d : Deed} (h : okDeedB ws d = true) : DeedOk ws d := by
  unfold okDeedB at h
  simp only [Bool.and_eq_true, Bool.not_eq_true', decide_eq_true_eq, decide_eq_false_iff_not] at h
  obtain ⟨h1, h2, h3, h4, h5⟩ := h
  exact ⟨setB_iff.mp h1, setB_iff.mp h2, h3, h4, h5⟩
def freeB (ds : List Deed) : Bool := ds.all fun d => ds.all fun c => decide (d.1 = c.1) || !touch d.1 c.1
theorem free_of {ds : List Deed} (h : freeB ds = true) : Free ds := fun d hd c hc => by
  have := List.all_eq_true.mp (List.all_eq_true.mp h d hd) c hc
  simpa using this
def connB (n : Nat) (ds : List Deed) : Bool := (box n).all fun x => decide (x ∈ lmet ds 5)
theorem connB_of {n : Nat} {ds : List Deed} (h : connB n ds = true) : Conn n ds := conn_of (j := 5) fun x h1 h2 => of_decide_eq_true (List.all_eq_true.mp h x (mem_box.mpr ⟨h1, h2⟩))
def okNetB (ws : List Int) (ds : List Deed) : Bool := okWs ws && (!decide (ds = []) && (decide (ds.length ≤ 6) && (ds.all (okDeedB ws) && (freeB ds && connB ws.length ds))))
theorem okNet_of {ws : List Int} {ds : List Deed} (h : okNetB ws ds = true) : NetOk ws ds := by
  unfold okNetB at h
  simp only [Bool.and_eq_true, Bool.not_eq_true', decide_eq_true_eq, decide_eq_false_iff_not] at h
  obtain ⟨h1, h2, h3, h4, h5, h6⟩ := h
  exact ⟨h1, h2, h3, fun d hd => okDeed_of (List.all_eq_true.mp h4 d hd), free_of h5, connB_of h6⟩
/-! ### by hand -/
def kitN : List (List Int × List Deed) := [([2, 1, 1], [([0], [1, 2]), ([1, 2], [0])]),
  ([1, 1, 1, 2], [([0], [1]), ([0], [2]), ([1, 2], [3]), ([3], [0, 1])]),
  ([2, 1, 1, 1, 1], [([0], [1, 2]), ([1], [3]), ([2], [4]), ([3, 4], [0])]),
  ([2, 1, 1, 1], [([0], [1, 2]), ([1], [3]), ([2, 3], [0])]),
  ([1, 1, 1], [([0], [1]), ([0], [2]), ([1], [0]), ([2], [0])]),
  ([2, 1, 1, 1, 1], [([0], [1, 2]), ([0], [3, 4]), ([1, 2], [0]), ([3, 4], [0])]),
  ([2, 1, 1, 1, 1], [([0], [1, 2]), ([0], [3, 4]), ([1, 3], [0]), ([2, 4], [0])]),
  ([1, 1, 2], [([0, 1], [0, 1]), ([0, 1], [2]), ([2], [0, 1])]),
  ([1, 1, 1, 1], [([0, 1], [2, 3]), ([2], [0]), ([3], [1]), ([2], [2])]),
  ([2], [([0], [0])])]
theorem kit_ok : kitN.all (fun p => okNetB p.1 p.2) = true := by decide +kernel
theorem kit_net {p : List Int × List Deed} (h : p ∈ kitN) : NetOk p.1 p.2 := okNet_of (List.all_eq_true.mp kit_ok p h)
/-! ### rings -/
theorem Conn.more {n : Nat} {ds es : List Deed} (h : Conn n ds) (k : ∀ d, d ∈ ds → d ∈ es) : Conn n es := fun M a c => h M a fun d hd => c d (k d hd)
def ringD (n : Nat) : List Deed := (List.range n).map fun (i : Nat) => ([(i : Int)], [((i : Int) + 1) % (n : Int)])
theorem ring_conn : ∀ n, 2 ≤ n → n ≤ 5 → Conn n (ringD n)
  | 0, h, _ => absurd h (by decide)
  | 1, h, _ => absurd h (by decide)
  | 2, _, _ => connB_of (by decide +kernel)
  | 3, _, _ => connB_of (by decide +kernel)
  | 4, _, _ => connB_of (by decide +kernel)
  | 5, _, _ => connB_of (by decide +kernel)
  | n + 6, _, h => absurd h (by omega)
theorem isSet_one {n : Nat} {x : Int} (h : 0 ≤ x ∧ x < (n : Int)) : IsSet n [x] := ⟨fun y hy => by rw [List.mem_singleton.mp hy]; exact h, by simp⟩
theorem worth_one {n : Nat} {a x : Int} (h : 0 ≤ x ∧ x < (n : Int)) : worthB (List.replicate n a) [x] = a := by
  have hx : x.toNat < n := by omega
  simp [worthB, List.getD_eq_getElem?_getD, List.getElem?_replicate, hx]
/-- a deed of one box each -/
def One (n : Nat) (d : Deed) : Prop := ∃ x y : Int, d = ([x], [y]) ∧ (0 ≤ x ∧ x < (n : Int)) ∧ 0 ≤ y ∧ y < (n : Int)
theorem ring_one {n : Nat} (h : 2 ≤ n) {d : Deed} (hd : d ∈ ringD n) : One n d := by
  obtain ⟨i, hi, rfl⟩ := List.mem_map.mp hd
  have := List.mem_range.mp hi
  exact ⟨_, _, rfl, ⟨by omega, by omega⟩, Int.emod_nonneg _ (by omega), Int.emod_lt_of_pos _ (by omega)⟩
theorem okWs_rep {n : Nat} {a : Int} (h2 : 2 ≤ n) (h5 : n ≤ 5) (ha : 1 ≤ a ∧ a ≤ 2) : okWs (List.replicate n a) = true := by
  unfold okWs
  simp only [List.length_replicate, Bool.and_eq_true, decide_eq_true_eq]
  refine ⟨⟨by omega, by omega⟩, List.all_eq_true.mpr fun x hx => ?_⟩
  rw [(List.mem_replicate.mp hx).2]
  simp
  omega
theorem ring_ok {n : Nat} {a : Int} {es : List Deed} (h2 : 2 ≤ n) (h5 : n ≤ 5) (ha : 1 ≤ a ∧ a ≤ 2) (he : ∀ d, d ∈ es → One n d) (hl : n + es.length ≤ 6) : NetOk (List.replicate n a) (ringD n ++ es) := by
  have hone : ∀ d, d ∈ ringD n ++ es → One n d := fun d hd => by
    rcases List.mem_append.mp hd with h | h
    · exact ring_one h2 h
    · exact he d h
  have hln : (ringD n).length = n := by simp [ringD]
  refine ⟨okWs_rep h2 h5 ha, fun z => ?_, by rw [List.length_append, hln]; exact hl, fun d hd => ?_, fun d hd c hc => ?_, ?_⟩
  · have := congrArg List.length z
    rw [List.length_append, hln] at this
    simp at this
    omega
  · obtain ⟨x, y, rfl, hx, hy⟩ := hone d hd
    refine ⟨?_, ?_, by simp, by simp, ?_⟩
    · rw [List.length_replicate]; exact isSet_one hx
    · rw [List.length_replicate]; exact isSet_one hy
    · rw [worth_one hx, worth_one hy]
  · obtain ⟨x, y, rfl, hx, hy⟩ := hone d hd
    obtain ⟨x', y', rfl, hx', hy'⟩ := hone c hc
    by_cases z : x = x'
    · exact .inl (by rw [z])
    · refine .inr (touch_no.mpr fun u hu => ?_)
      rw [List.mem_singleton.mp hu]
      exact fun q => z (List.mem_singleton.mp q)
  · rw [List.length_replicate]
    exact (ring_conn n h2 h5).more fun d hd => List.mem_append_left _ hd
/-! ### the order of deeds; takes and puts exchanged -/
theorem NetOk.perm {ws : List Int} {ds es : List Deed} (h : NetOk ws ds) (p : es.Perm ds) : NetOk ws es :=
  ⟨h.w, fun z => h.n (by rw [z] at p; exact List.nil_perm.mp p), by rw [p.length_eq]; exact h.l, fun d hd => h.d d (p.mem_iff.mp hd), fun d hd c hc => h.f d (p.mem_iff.mp hd) c (p.mem_iff.mp hc), h.c.more fun d hd => p.mem_iff.mpr hd⟩
theorem NetOk.swp {ws : List Int} {ds : List Deed} (h : NetOk ws ds) (f : Free (ds.map CM.swp)) : NetOk ws (ds.map CM.swp) := by
  refine ⟨h.w, fun z => h.n (List.map_eq_nil_iff.mp z), by rw [List.length_map]; exact h.l, fun d hd => ?_, f, fun M a c => h.c M a fun d hd => ?_⟩
  · obtain ⟨e, he, rfl⟩ := List.mem_map.mp hd
    have o := h.d e he
    exact ⟨o.s2, o.s1, o.n2, o.n1, o.w.symm⟩
  · have := c (CM.swp d) (List.mem_map_of_mem hd)
    intro ⟨x, hx, hm⟩ y hy
    exact this ⟨x, hx.symm, hm⟩ y hy.symm
end CM
set_option Elab.async false
set_option linter.all false
set_option maxRecDepth 100000
set_option maxHeartbeats 4000000
/-! M7: boxes renamed. -/
namespace CN
open CM
theorem sum_perm {xs ys : List Int} (h : xs.Perm ys) : xs.sum = ys.sum := by
  induction h with
  | nil => rfl
  | cons a _ ih => rw [List.sum_cons, List.sum_cons, ih]
  | swap a b l => simp only [List.sum_cons]; omega
  | trans _ _ a b => rw [a, b]
def nam (N : List Int) (b : Int) : Int := N.getD b.toNat 0
def ren (N : List Int) (d : Deed) : Deed := (srt (d.1.map (nam N)), srt (d.2.map (nam N)))
def givn (ws N : List Int) : List Int := (box ws.length).map fun b => ws.getD (N.idxOf b) 0
theorem mem_srt {xs : List Int} {x : Int} : x ∈ srt xs ↔ x ∈ xs := (srt_perm xs).mem_iff
theorem srt_le (xs : List Int) : (srt xs).Pairwise (· ≤ ·) := by
  have := List.pairwise_mergeSort (le := fun a b : Int => decide (a ≤ b)) (fun a b c h1 h2 => by simp at h1 h2 ⊢; omega) (fun a b => by simp; omega) xs
  exact this.imp fun h => of_decide_eq_true h
theorem lt_of_nodup : ∀ {xs : List Int}, xs.Pairwise (· ≤ ·) → xs.Nodup → xs.Pairwise (· < ·)
  | [], _, _ => .nil
  | x :: xs, .cons a h, hn => by
    have hn' := List.nodup_cons.mp hn
    refine .cons (fun b hb => ?_) (lt_of_nodup h hn'.2)
    have h1 := a b hb
    have h2 : x ≠ b := fun z => hn'.1 (by rw [z]; exact hb)
    omega
theorem nodup_map {f : Int → Int} {xs : List Int} (h : xs.Nodup) (hf : ∀ a, a ∈ xs → ∀ b, b ∈ xs → f a = f b → a = b) : (xs.map f).Nodup := by
  induction xs with
  | nil => exact .nil
  | cons x xs ih =>
    have h' := List.nodup_cons.mp h
    rw [List.map_cons, List.nodup_cons]
    refine ⟨fun hx => ?_, ih h'.2 fun a ha b hb => hf a (List.mem_cons_of_mem _ ha) b (List.mem_cons_of_mem _ hb)⟩
    obtain ⟨y, hy, e⟩ := List.mem_map.mp hx
    have := hf y (List.mem_cons_of_mem _ hy) x List.mem_cons_self e
    exact h'.1 (this ▸ hy)
section
variable {n : Nat} {N : List Int} (p : N.Perm (box n))
include p
theorem nam_len : N.length = n := by rw [p.length_eq, box_len]
theorem nam_nodup : N.Nodup := p.nodup_iff.mpr (pw_nodup (box_pw n))
theorem nam_at {b : Int} (h : 0 ≤ b ∧ b < (n : Int)) : ∃ h2 : b.toNat < N.length, nam N b = N[b.toNat] := by
  have hl : b.toNat < N.length := by rw [nam_len p]; omega
  refine ⟨hl, ?_⟩
  unfold nam
  rw [List.getD_eq_getElem?_getD, List.getElem?_eq_getElem hl]
  rfl
theorem nam_in {b : Int} (h : 0 ≤ b ∧ b < (n : Int)) : 0 ≤ nam N b ∧ nam N b < (n : Int) := by
  obtain ⟨hl, e⟩ := nam_at p h
  rw [e]
  exact mem_box.mp (p.mem_iff.mp (List.getElem_mem hl))
theorem idx_nam {b : Int} (h : 0 ≤ b ∧ b < (n : Int)) : N.idxOf (nam N b) = b.toNat := by
  obtain ⟨hl, e⟩ := nam_at p h
  rw [e]
  exact (nam_nodup p).idxOf_getElem _ hl
theorem nam_inj {a b : Int} (ha : 0 ≤ a ∧ a < (n : Int)) (hb : 0 ≤ b ∧ b < (n : Int)) (h : nam N a = nam N b) : a = b := by
  have h1 := idx_nam p ha
  have h2 := idx_nam p hb
  rw [h, h2] at h1
  omega
theorem nam_sur {y : Int} (h : 0 ≤ y ∧ y < (n : Int)) : ∃ b : Int, (0 ≤ b ∧ b < (n : Int)) ∧ nam N b = y := by
  have hm : y ∈ N := p.mem_iff.mpr (mem_box.mpr h)
  obtain ⟨i, hi, e⟩ := List.mem_iff_getElem.mp hm
  have := nam_len p
  have hb : 0 ≤ (i : Int) ∧ (i : Int) < (n : Int) := by omega
  refine ⟨(i : Int), hb, ?_⟩
  obtain ⟨hl, e2⟩ := nam_at p hb
  rw [e2]
  exact e
theorem set_ren {s : List Int} (h : IsSet n s) : IsSet n (srt (s.map (nam N))) := by
  refine ⟨fun x hx => ?_, lt_of_nodup (srt_le _) ((srt_perm _).nodup_iff.mpr (nodup_map (pw_nodup h.2) fun a ha b hb => nam_inj p (h.1 a ha) (h.1 b hb)))⟩
  obtain ⟨b, hb, rfl⟩ := List.mem_map.mp (mem_srt.mp hx)
  exact nam_in p (h.1 b hb)
theorem giv_at {ws : List Int} (hw : ws.length = n) {b : Int} (h : 0 ≤ b ∧ b < (n : Int)) : (givn ws N).getD (nam N b).toNat 0 = ws.getD b.toNat 0 := by
  have h2 := nam_in p h
  have hl : (nam N b).toNat < n := by omega
  unfold givn box
  rw [List.map_map, List.getD_eq_getElem?_getD, List.getElem?_map, hw, List.getElem?_range hl]
  show ws.getD (N.idxOf (((nam N b).toNat : Nat) : Int)) 0 = _
  rw [Int.toNat_of_nonneg h2.1, idx_nam p h]
theorem worth_ren {ws s : List Int} (hw : ws.length = n) (h : ∀ x, x ∈ s → 0 ≤ x ∧ x < (n : Int)) : worthB (givn ws N) (srt (s.map (nam N))) = worthB ws s := by
  unfold worthB
  rw [sum_perm ((srt_perm _).map _), List.map_map]
  congr 1
  exact List.map_congr_left fun b hb => giv_at p hw (h b hb)
theorem touch_ren {s t : List Int} (hs : ∀ x, x ∈ s → 0 ≤ x ∧ x < (n : Int)) (ht : ∀ x, x ∈ t → 0 ≤ x ∧ x < (n : Int)) (h : touch s t = false) : touch (srt (s.map (nam N))) (srt (t.map (nam N))) = false := by
  refine touch_no.mpr fun x hx hy => ?_
  obtain ⟨a, ha, rfl⟩ := List.mem_map.mp (mem_srt.mp hx)
  obtain ⟨b, hb, e⟩ := List.mem_map.mp (mem_srt.mp hy)
  have := nam_inj p (ht b hb) (hs a ha) e
  exact touch_no.mp h a ha (this ▸ hb)
theorem NetOk_ren {ws : List Int} {ds : List Deed} (hw : ws.length = n) (h : NetOk ws ds) : NetOk (givn ws N) (ds.map (ren N)) := by
  have hgl : (givn ws N).length = n := by simp [givn, box, hw]
  have hr : ∀ d, d ∈ ds → (∀ x, x ∈ d.1 → 0 ≤ x ∧ x < (n : Int)) ∧ ∀ x, x ∈ d.2 → 0 ≤ x ∧ x < (n : Int) := fun d hd => by
    have o := h.d d hd
    have a := o.s1.1
    have b := o.s2.1
    rw [hw] at a b
    exact ⟨a, b⟩
  refine ⟨?_, fun z => h.n (List.map_eq_nil_iff.mp z), by rw [List.length_map]; exact h.l, fun d hd => ?_, fun d hd c hc => ?_, ?_⟩
  · have hk := h.w
    unfold okWs at hk ⊢
    rw [hgl, ← hw]
    obtain ⟨h1, h2⟩ := Bool.and_eq_true_iff.mp hk
    refine Bool.and_eq_true_iff.mpr ⟨h1, List.all_eq_true.mpr fun x hx => ?_⟩
    obtain ⟨b, hb, rfl⟩ := List.mem_map.mp hx
    have hbm := mem_box.mp hb
    rw [hw] at hbm
    have hil : N.idxOf b < ws.length := by
      have hm : b ∈ N := p.mem_iff.mpr (mem_box.mpr hbm)
      have := List.idxOf_lt_length_of_mem hm
      rw [nam_len p] at this
      omega
    refine List.all_eq_true.mp h2 _ ?_
    rw [List.getD_eq_getElem?_getD, List.getElem?_eq_getElem hil]
    exact List.getElem_mem hil
  · obtain ⟨e, he, rfl⟩ := List.mem_map.mp hd
    have o := h.d e he
    have o1 := o.s1
    have o2 := o.s2
    rw [hw] at o1 o2
    refine ⟨by rw [hgl]; exact set_ren p o1, by rw [hgl]; exact set_ren p o2, fun z => o.n1 ?_, fun z => o.n2 ?_, ?_⟩
    · have := (srt_perm (e.1.map (nam N))).length_eq
      rw [show srt (e.1.map (nam N)) = [] from z, List.length_map] at this
      exact List.length_eq_zero_iff.mp this.symm
    · have := (srt_perm (e.2.map (nam N))).length_eq
      rw [show srt (e.2.map (nam N)) = [] from z, List.length_map] at this
      exact List.length_eq_zero_iff.mp this.symm
    · show worthB _ (srt _) = worthB _ (srt _)
      rw [worth_ren p hw (hr e he).1, worth_ren p hw (hr e he).2]
      exact o.w
  · obtain ⟨e, he, rfl⟩ := List.mem_map.mp hd
    obtain ⟨e', he', rfl⟩ := List.mem_map.mp hc
    rcases h.f e he e' he' with z | z
    · exact .inl (by show srt (e.1.map _) = srt (e'.1.map _); rw [z])
    · exact .inr (touch_ren p (hr e he).1 (hr e' he').1 z)
  · rw [hgl]
    intro M ⟨x0, a, b, hM⟩ c x h1 h2
    obtain ⟨b0, hb0, e0⟩ := nam_sur p ⟨a, b⟩
    obtain ⟨bx, hbx, ex⟩ := nam_sur p ⟨h1, h2⟩
    have hc := h.c
    rw [hw] at hc
    have key := hc (fun b => M (nam N b)) ⟨b0, hb0.1, hb0.2, by rw [e0]; exact hM⟩ (fun d hd ⟨y, hy, hMy⟩ u hu => by
      refine c (ren N d) (List.mem_map_of_mem hd) ⟨nam N y, ?_, hMy⟩ (nam N u) ?_
      · rcases hy with hy | hy
        · exact .inl (mem_srt.mpr (List.mem_map_of_mem hy))
        · exact .inr (mem_srt.mpr (List.mem_map_of_mem hy))
      · rcases hu with hu | hu
        · exact .inl (mem_srt.mpr (List.mem_map_of_mem hu))
        · exact .inr (mem_srt.mpr (List.mem_map_of_mem hu))) bx hbx.1 hbx.2
    rw [ex] at key
    exact key
end
end CN
set_option Elab.async false
set_option linter.all false
set_option maxRecDepth 100000
set_option maxHeartbeats 4000000
/-! E5: nets by hand, rings. -/
namespace CN
open PySem PySem.Spec PyProof.Rows L2 CM
section
variable {P : Program} {w : World} {K : PySem.W.Frag} {mg : Str → Option Value} {base : Heap} {C : Addr}
/-- a list that changes, at l2, beside the pen at l -/
def Ls (K : PySem.W.Frag) (l l2 : Addr) (B H : Hp) (ds : List PyData) : Prop := ∃ xs, del H l l2 = some (.lst xs) ∧ B l2 = none ∧ DpAll K B xs ds
theorem Ls.gr {l l2 : Addr} {B H B' H' : Hp} {ds : List PyData} (u : Ls K l l2 B H ds) (g : Gr B (del H l) B' (del H' l)) : Ls K l l2 B' H' ds := by
  obtain ⟨xs, h1, h2, h3⟩ := u
  exact ⟨xs, g.hh _ _ h1, g.unk h1 h2, dpa_mono g.bb _ _ h3⟩
theorem Ls.is {l l2 : Addr} {B H : Hp} {ds es : List PyData} (u : Ls K l l2 B H ds) (e : ds = es) : Ls K l l2 B H es := e ▸ u
/-- it stops changing -/
theorem Ls.fix {l l2 : Addr} {Bz Hz B H : Hp} {ds : List PyData} (u : Ls K l l2 B H ds) (z : Gr Bz Hz B (del H l)) (hz : Hz l2 = none) : ∃ B', Gr Bz Hz B' (del H l) ∧ Same B B' ∧ Dp K B' (.ref l2) (.list ds) := by
  obtain ⟨xs, h1, h2, h3⟩ := u
  exact ⟨_, z.freeze hz h1 h2, same_new h2, dp_lst upd_same (dpa_mono (same_new h2) _ _ h3)⟩
theorem p_appc {D : Ends} {σ : L2.St} {ta te : TE} {l l2 : Addr} {m k : Nat} {B H Bz Hz : Hp} {ds : List PyData} {ι : Type} {p : ι → Prop} {d : ι → PyData} (z : Gr Bz Hz B (del H l)) (hz : Hz l2 = none) (hp : Pn l m H) (u : Ls K l l2 B H ds) (ha : EV ta σ B (Xv (.ref l2))) (h : EVp te l k σ B (Exd p fun i => Da K (d i))) (hk : k ≤ m) (hl : ds.length < 100000)
    (q : ∀ i B' H', p i → Gr Bz Hz B' (del H' l) → Same B B' → Pn l (m - k) H' → Ls K l l2 B' H' (ds ++ [d i]) → D.nx σ H') : tDrop (tBM K "list" rAppend ta (tCons te tNil)) D σ H := by
  obtain ⟨xs, h1, h2, h3⟩ := u
  have hne := (del_some h1).1
  refine p_app z.bh hp h1 h2 ha h hk (by rw [dpa_length h3]; exact hl) fun v B' H' g hp' ⟨i, hi, pv⟩ hb' u' _ => q i B' _ hi ?_ g.bb hp' ⟨xs ++ [v], ?_, hb', dpa_append (dpa_mono g.bb _ _ h3) (.cons pv .nil)⟩
  · rw [del_upd hne]
    exact (z.trans g).mut hz hb'
  · rw [del_upd hne, upd_same]
theorem pq_appc {D : Ends} {tz : TS} {σ : L2.St} {ta te : TE} {l l2 : Addr} {m k : Nat} {B H Bz Hz : Hp} {ds : List PyData} {ι : Type} {p : ι → Prop} {d : ι → PyData} (z : Gr Bz Hz B (del H l)) (hz : Hz l2 = none) (hp : Pn l m H) (u : Ls K l l2 B H ds) (ha : EV ta σ B (Xv (.ref l2))) (h : EVp te l k σ B (Exd p fun i => Da K (d i))) (hk : k ≤ m) (hl : ds.length < 100000)
    (q : ∀ i B' H', p i → Gr Bz Hz B' (del H' l) → Same B B' → Pn l (m - k) H' → Ls K l l2 B' H' (ds ++ [d i]) → tz D σ H') : tSeq (tDrop (tBM K "list" rAppend ta (tCons te tNil))) tz D σ H := p_appc (D := { D with nx := tz D }) z hz hp u ha h hk hl q
theorem ead_nil {σ : L2.St} {B : Hp} : EA tNil σ B (([] : List PyData).map (Da K)) := ea_nil
theorem ead_cons {σ : L2.St} {B : Hp} {ta : TE} {tr : TA} {d : PyData} {ds : List PyData} (h : EV ta σ B (Da K d)) (hr : EA tr σ B (ds.map (Da K))) : EA (tCons ta tr) σ B ((d :: ds).map (Da K)) := ea_cons h hr
/-- worths and deeds -/
abbrev netD (p : List Int × List Deed) : PyData := .tuple [TuI p.1, .list (p.2.map DD)]
abbrev NetX (K : PySem.W.Frag) : Pd := Exd (fun p : List Int × List Deed => NetOk p.1 p.2) fun p => Da K (netD p)
def spNetX (K : PySem.W.Frag) : Sp := pSpP 10 fun l vs B S => All2 [Xv (.ref l)] vs B ∧ S = NetX K
abbrev s__law_kit : Stmt := topS 82
abbrev N__law_kit : List Str := ["_law_pen_here", "_law_some"]
theorem sc__law_kit : FnScope N__law_kit ["_law_pen_here"] (defScope s__law_kit) := ⟨rfl, rfl, rfl, by decide +kernel, rfl, by decide +kernel, by decide +kernel⟩
theorem ok__law_kit (F : FunC K mg "_law_kit" "_law_kit" s__law_kit) (c__law_pick : Cal P w K mg base "_law_pick" 2 ["_law_pen_here", "_law_some"] (spPick K)) : Cal P w K mg base "_law_kit" 3 ["_law_pen_here"] (spNetX K) := by
  refine F.cal sc__law_kit (fun _ _ _ _ _ _ us hl => match us, hl with | [_], _ => rfl) (fun vs H Q E h => by obtain ⟨_, _, _, _, _, _, ⟨h, _⟩, _⟩ := h; exact all2_len h) (fun f cdv A outer s H vs Q E hr h => ?_)
  obtain ⟨B, S, l, m, e, hp, ⟨p, rfl⟩, q⟩ := h
  obtain ⟨x, rfl, px⟩ := all2_1 p
  obtain rfl : x = V.ref l := px
  refine ⟨_, (pss_cons (ps_set (i := 1) sc__law_kit.nd rfl (Or.inl rfl) (pe_lst (pa_cons (pe_tup (pa_cons (pe_tup (pa_cons pe_int (pa_cons pe_int (pa_cons pe_int pa_nil)))) (pa_cons (pe_lst (pa_cons (pe_tup (pa_cons (pe_tup (pa_cons pe_int pa_nil)) (pa_cons (pe_tup (pa_cons pe_int (pa_cons pe_int pa_nil))) pa_nil))) (pa_cons (pe_tup (pa_cons (pe_tup (pa_cons pe_int (pa_cons pe_int pa_nil))) (pa_cons (pe_tup (pa_cons pe_int pa_nil)) pa_nil))) pa_nil))) pa_nil))) pa_nil)))
      (pss_cons (ps_expr (pe_bm PySem.F.plainAttrs_list PySem.F.slot_list_append PySem.F.type_list_append mt_append (pv 1) (pa_cons (pe_tup (pa_cons (pe_tup (pa_cons pe_int (pa_cons pe_int (pa_cons pe_int (pa_cons pe_int pa_nil))))) (pa_cons (pe_lst (pa_cons (pe_tup (pa_cons (pe_tup (pa_cons pe_int pa_nil)) (pa_cons (pe_tup (pa_cons pe_int pa_nil)) pa_nil))) (pa_cons (pe_tup (pa_cons (pe_tup (pa_cons pe_int pa_nil)) (pa_cons (pe_tup (pa_cons pe_int pa_nil)) pa_nil))) (pa_cons (pe_tup (pa_cons (pe_tup (pa_cons pe_int (pa_cons pe_int pa_nil))) (pa_cons (pe_tup (pa_cons pe_int pa_nil)) pa_nil))) (pa_cons (pe_tup (pa_cons (pe_tup (pa_cons pe_int pa_nil)) (pa_cons (pe_tup (pa_cons pe_int (pa_cons pe_int pa_nil))) pa_nil))) pa_nil))))) pa_nil))) pa_nil)))
      (pss_cons (ps_expr (pe_bm PySem.F.plainAttrs_list PySem.F.slot_list_append PySem.F.type_list_append mt_append (pv 1) (pa_cons (pe_tup (pa_cons (pe_tup (pa_cons pe_int (pa_cons pe_int (pa_cons pe_int (pa_cons pe_int (pa_cons pe_int pa_nil)))))) (pa_cons (pe_lst (pa_cons (pe_tup (pa_cons (pe_tup (pa_cons pe_int pa_nil)) (pa_cons (pe_tup (pa_cons pe_int (pa_cons pe_int pa_nil))) pa_nil))) (pa_cons (pe_tup (pa_cons (pe_tup (pa_cons pe_int pa_nil)) (pa_cons (pe_tup (pa_cons pe_int pa_nil)) pa_nil))) (pa_cons (pe_tup (pa_cons (pe_tup (pa_cons pe_int pa_nil)) (pa_cons (pe_tup (pa_cons pe_int pa_nil)) pa_nil))) (pa_cons (pe_tup (pa_cons (pe_tup (pa_cons pe_int (pa_cons pe_int pa_nil))) (pa_cons (pe_tup (pa_cons pe_int pa_nil)) pa_nil))) pa_nil))))) pa_nil))) pa_nil)))
      (pss_cons (ps_expr (pe_bm PySem.F.plainAttrs_list PySem.F.slot_list_append PySem.F.type_list_append mt_append (pv 1) (pa_cons (pe_tup (pa_cons (pe_tup (pa_cons pe_int (pa_cons pe_int (pa_cons pe_int (pa_cons pe_int pa_nil))))) (pa_cons (pe_lst (pa_cons (pe_tup (pa_cons (pe_tup (pa_cons pe_int pa_nil)) (pa_cons (pe_tup (pa_cons pe_int (pa_cons pe_int pa_nil))) pa_nil))) (pa_cons (pe_tup (pa_cons (pe_tup (pa_cons pe_int pa_nil)) (pa_cons (pe_tup (pa_cons pe_int pa_nil)) pa_nil))) (pa_cons (pe_tup (pa_cons (pe_tup (pa_cons pe_int (pa_cons pe_int pa_nil))) (pa_cons (pe_tup (pa_cons pe_int pa_nil)) pa_nil))) pa_nil)))) pa_nil))) pa_nil)))
      (pss_cons (ps_expr (pe_bm PySem.F.plainAttrs_list PySem.F.slot_list_append PySem.F.type_list_append mt_append (pv 1) (pa_cons (pe_tup (pa_cons (pe_tup (pa_cons pe_int (pa_cons pe_int (pa_cons pe_int pa_nil)))) (pa_cons (pe_lst (pa_cons (pe_tup (pa_cons (pe_tup (pa_cons pe_int pa_nil)) (pa_cons (pe_tup (pa_cons pe_int pa_nil)) pa_nil))) (pa_cons (pe_tup (pa_cons (pe_tup (pa_cons pe_int pa_nil)) (pa_cons (pe_tup (pa_cons pe_int pa_nil)) pa_nil))) (pa_cons (pe_tup (pa_cons (pe_tup (pa_cons pe_int pa_nil)) (pa_cons (pe_tup (pa_cons pe_int pa_nil)) pa_nil))) (pa_cons (pe_tup (pa_cons (pe_tup (pa_cons pe_int pa_nil)) (pa_cons (pe_tup (pa_cons pe_int pa_nil)) pa_nil))) pa_nil))))) pa_nil))) pa_nil)))
      (pss_cons (ps_expr (pe_bm PySem.F.plainAttrs_list PySem.F.slot_list_append PySem.F.type_list_append mt_append (pv 1) (pa_cons (pe_tup (pa_cons (pe_tup (pa_cons pe_int (pa_cons pe_int (pa_cons pe_int (pa_cons pe_int (pa_cons pe_int pa_nil)))))) (pa_cons (pe_lst (pa_cons (pe_tup (pa_cons (pe_tup (pa_cons pe_int pa_nil)) (pa_cons (pe_tup (pa_cons pe_int (pa_cons pe_int pa_nil))) pa_nil))) (pa_cons (pe_tup (pa_cons (pe_tup (pa_cons pe_int pa_nil)) (pa_cons (pe_tup (pa_cons pe_int (pa_cons pe_int pa_nil))) pa_nil))) (pa_cons (pe_tup (pa_cons (pe_tup (pa_cons pe_int (pa_cons pe_int pa_nil))) (pa_cons (pe_tup (pa_cons pe_int pa_nil)) pa_nil))) (pa_cons (pe_tup (pa_cons (pe_tup (pa_cons pe_int (pa_cons pe_int pa_nil))) (pa_cons (pe_tup (pa_cons pe_int pa_nil)) pa_nil))) pa_nil))))) pa_nil))) pa_nil)))
      (pss_cons (ps_expr (pe_bm PySem.F.plainAttrs_list PySem.F.slot_list_append PySem.F.type_list_append mt_append (pv 1) (pa_cons (pe_tup (pa_cons (pe_tup (pa_cons pe_int (pa_cons pe_int (pa_cons pe_int (pa_cons pe_int (pa_cons pe_int pa_nil)))))) (pa_cons (pe_lst (pa_cons (pe_tup (pa_cons (pe_tup (pa_cons pe_int pa_nil)) (pa_cons (pe_tup (pa_cons pe_int (pa_cons pe_int pa_nil))) pa_nil))) (pa_cons (pe_tup (pa_cons (pe_tup (pa_cons pe_int pa_nil)) (pa_cons (pe_tup (pa_cons pe_int (pa_cons pe_int pa_nil))) pa_nil))) (pa_cons (pe_tup (pa_cons (pe_tup (pa_cons pe_int (pa_cons pe_int pa_nil))) (pa_cons (pe_tup (pa_cons pe_int pa_nil)) pa_nil))) (pa_cons (pe_tup (pa_cons (pe_tup (pa_cons pe_int (pa_cons pe_int pa_nil))) (pa_cons (pe_tup (pa_cons pe_int pa_nil)) pa_nil))) pa_nil))))) pa_nil))) pa_nil)))
      (pss_cons (ps_expr (pe_bm PySem.F.plainAttrs_list PySem.F.slot_list_append PySem.F.type_list_append mt_append (pv 1) (pa_cons (pe_tup (pa_cons (pe_tup (pa_cons pe_int (pa_cons pe_int (pa_cons pe_int pa_nil)))) (pa_cons (pe_lst (pa_cons (pe_tup (pa_cons (pe_tup (pa_cons pe_int (pa_cons pe_int pa_nil))) (pa_cons (pe_tup (pa_cons pe_int (pa_cons pe_int pa_nil))) pa_nil))) (pa_cons (pe_tup (pa_cons (pe_tup (pa_cons pe_int (pa_cons pe_int pa_nil))) (pa_cons (pe_tup (pa_cons pe_int pa_nil)) pa_nil))) (pa_cons (pe_tup (pa_cons (pe_tup (pa_cons pe_int pa_nil)) (pa_cons (pe_tup (pa_cons pe_int (pa_cons pe_int pa_nil))) pa_nil))) pa_nil)))) pa_nil))) pa_nil)))
      (pss_cons (ps_expr (pe_bm PySem.F.plainAttrs_list PySem.F.slot_list_append PySem.F.type_list_append mt_append (pv 1) (pa_cons (pe_tup (pa_cons (pe_tup (pa_cons pe_int (pa_cons pe_int (pa_cons pe_int (pa_cons pe_int pa_nil))))) (pa_cons (pe_lst (pa_cons (pe_tup (pa_cons (pe_tup (pa_cons pe_int (pa_cons pe_int pa_nil))) (pa_cons (pe_tup (pa_cons pe_int (pa_cons pe_int pa_nil))) pa_nil))) (pa_cons (pe_tup (pa_cons (pe_tup (pa_cons pe_int pa_nil)) (pa_cons (pe_tup (pa_cons pe_int pa_nil)) pa_nil))) (pa_cons (pe_tup (pa_cons (pe_tup (pa_cons pe_int pa_nil)) (pa_cons (pe_tup (pa_cons pe_int pa_nil)) pa_nil))) (pa_cons (pe_tup (pa_cons (pe_tup (pa_cons pe_int pa_nil)) (pa_cons (pe_tup (pa_cons pe_int pa_nil)) pa_nil))) pa_nil))))) pa_nil))) pa_nil)))
      (pss_cons (ps_expr (pe_bm PySem.F.plainAttrs_list PySem.F.slot_list_append PySem.F.type_list_append mt_append (pv 1) (pa_cons (pe_tup (pa_cons (pe_tup (pa_cons pe_int pa_nil)) (pa_cons (pe_lst (pa_cons (pe_tup (pa_cons (pe_tup (pa_cons pe_int pa_nil)) (pa_cons (pe_tup (pa_cons pe_int pa_nil)) pa_nil))) pa_nil)) pa_nil))) pa_nil)))
      (pss_one (ps_ret (pe_cal c__law_pick hr (by rfl) (pa_cons (pv 0) (pa_cons (pv 1) pa_nil))))))))))))))), ?_⟩
  refine pq_new (K := K) e hp (en_lst (K := K) [netD kitN[0]] (ead_cons (ev_tup _ (ead_cons (ev_tup _ (ead_cons ev_ci (ead_cons ev_ci (ead_cons ev_ci ead_nil))) (by decide +kernel)) (ead_cons (ev_lst _ (ead_cons (ev_tup _ (ead_cons (ev_tup _ (ead_cons ev_ci ead_nil) (by decide +kernel)) (ead_cons (ev_tup _ (ead_cons ev_ci (ead_cons ev_ci ead_nil)) (by decide +kernel)) ead_nil)) (by decide +kernel)) (ead_cons (ev_tup _ (ead_cons (ev_tup _ (ead_cons ev_ci (ead_cons ev_ci ead_nil)) (by decide +kernel)) (ead_cons (ev_tup _ (ead_cons ev_ci ead_nil) (by decide +kernel)) ead_nil)) (by decide +kernel)) ead_nil)) (by decide +kernel)) ead_nil)) (by decide +kernel)) ead_nil) (by simp)) fun lc xs0 B0 H0 g0 hp0 ne1 hz1 k1 b1 d1 => ?_
  have u0 : Ls K l lc B0 H0 [netD kitN[0]] := ⟨xs0, k1, b1, d1⟩
  refine pq_appc (K := K) (p := fun _ : Unit => True) (d := fun _ => netD kitN[1]) g0 hz1 hp0 u0 (ev_var rfl) ((ep (ev_tup _ (ead_cons (ev_tup _ (ead_cons ev_ci (ead_cons ev_ci (ead_cons ev_ci (ead_cons ev_ci ead_nil)))) (by decide +kernel)) (ead_cons (ev_lst _ (ead_cons (ev_tup _ (ead_cons (ev_tup _ (ead_cons ev_ci ead_nil) (by decide +kernel)) (ead_cons (ev_tup _ (ead_cons ev_ci ead_nil) (by decide +kernel)) ead_nil)) (by decide +kernel)) (ead_cons (ev_tup _ (ead_cons (ev_tup _ (ead_cons ev_ci ead_nil) (by decide +kernel)) (ead_cons (ev_tup _ (ead_cons ev_ci ead_nil) (by decide +kernel)) ead_nil)) (by decide +kernel)) (ead_cons (ev_tup _ (ead_cons (ev_tup _ (ead_cons ev_ci (ead_cons ev_ci ead_nil)) (by decide +kernel)) (ead_cons (ev_tup _ (ead_cons ev_ci ead_nil) (by decide +kernel)) ead_nil)) (by decide +kernel)) (ead_cons (ev_tup _ (ead_cons (ev_tup _ (ead_cons ev_ci ead_nil) (by decide +kernel)) (ead_cons (ev_tup _ (ead_cons ev_ci (ead_cons ev_ci ead_nil)) (by decide +kernel)) ead_nil)) (by decide +kernel)) ead_nil)))) (by decide +kernel)) ead_nil)) (by decide +kernel))).imp fun v B' h => ⟨(), trivial, h⟩) (Nat.zero_le _) (by simp) fun _ B1 H1 _ g1 _ hp1 u1 => ?_
  refine pq_appc (K := K) (p := fun _ : Unit => True) (d := fun _ => netD kitN[2]) g1 hz1 hp1 u1 (ev_var rfl) ((ep (ev_tup _ (ead_cons (ev_tup _ (ead_cons ev_ci (ead_cons ev_ci (ead_cons ev_ci (ead_cons ev_ci (ead_cons ev_ci ead_nil))))) (by decide +kernel)) (ead_cons (ev_lst _ (ead_cons (ev_tup _ (ead_cons (ev_tup _ (ead_cons ev_ci ead_nil) (by decide +kernel)) (ead_cons (ev_tup _ (ead_cons ev_ci (ead_cons ev_ci ead_nil)) (by decide +kernel)) ead_nil)) (by decide +kernel)) (ead_cons (ev_tup _ (ead_cons (ev_tup _ (ead_cons ev_ci ead_nil) (by decide +kernel)) (ead_cons (ev_tup _ (ead_cons ev_ci ead_nil) (by decide +kernel)) ead_nil)) (by decide +kernel)) (ead_cons (ev_tup _ (ead_cons (ev_tup _ (ead_cons ev_ci ead_nil) (by decide +kernel)) (ead_cons (ev_tup _ (ead_cons ev_ci ead_nil) (by decide +kernel)) ead_nil)) (by decide +kernel)) (ead_cons (ev_tup _ (ead_cons (ev_tup _ (ead_cons ev_ci (ead_cons ev_ci ead_nil)) (by decide +kernel)) (ead_cons (ev_tup _ (ead_cons ev_ci ead_nil) (by decide +kernel)) ead_nil)) (by decide +kernel)) ead_nil)))) (by decide +kernel)) ead_nil)) (by decide +kernel))).imp fun v B' h => ⟨(), trivial, h⟩) (Nat.zero_le _) (by simp) fun _ B2 H2 _ g2 _ hp2 u2 => ?_
  refine pq_appc (K := K) (p := fun _ : Unit => True) (d := fun _ => netD kitN[3]) g2 hz1 hp2 u2 (ev_var rfl) ((ep (ev_tup _ (ead_cons (ev_tup _ (ead_cons ev_ci (ead_cons ev_ci (ead_cons ev_ci (ead_cons ev_ci ead_nil)))) (by decide +kernel)) (ead_cons (ev_lst _ (ead_cons (ev_tup _ (ead_cons (ev_tup _ (ead_cons ev_ci ead_nil) (by decide +kernel)) (ead_cons (ev_tup _ (ead_cons ev_ci (ead_cons ev_ci ead_nil)) (by decide +kernel)) ead_nil)) (by decide +kernel)) (ead_cons (ev_tup _ (ead_cons (ev_tup _ (ead_cons ev_ci ead_nil) (by decide +kernel)) (ead_cons (ev_tup _ (ead_cons ev_ci ead_nil) (by decide +kernel)) ead_nil)) (by decide +kernel)) (ead_cons (ev_tup _ (ead_cons (ev_tup _ (ead_cons ev_ci (ead_cons ev_ci ead_nil)) (by decide +kernel)) (ead_cons (ev_tup _ (ead_cons ev_ci ead_nil) (by decide +kernel)) ead_nil)) (by decide +kernel)) ead_nil))) (by decide +kernel)) ead_nil)) (by decide +kernel))).imp fun v B' h => ⟨(), trivial, h⟩) (Nat.zero_le _) (by simp) fun _ B3 H3 _ g3 _ hp3 u3 => ?_
  refine pq_appc (K := K) (p := fun _ : Unit => True) (d := fun _ => netD kitN[4]) g3 hz1 hp3 u3 (ev_var rfl) ((ep (ev_tup _ (ead_cons (ev_tup _ (ead_cons ev_ci (ead_cons ev_ci (ead_cons ev_ci ead_nil))) (by decide +kernel)) (ead_cons (ev_lst _ (ead_cons (ev_tup _ (ead_cons (ev_tup _ (ead_cons ev_ci ead_nil) (by decide +kernel)) (ead_cons (ev_tup _ (ead_cons ev_ci ead_nil) (by decide +kernel)) ead_nil)) (by decide +kernel)) (ead_cons (ev_tup _ (ead_cons (ev_tup _ (ead_cons ev_ci ead_nil) (by decide +kernel)) (ead_cons (ev_tup _ (ead_cons ev_ci ead_nil) (by decide +kernel)) ead_nil)) (by decide +kernel)) (ead_cons (ev_tup _ (ead_cons (ev_tup _ (ead_cons ev_ci ead_nil) (by decide +kernel)) (ead_cons (ev_tup _ (ead_cons ev_ci ead_nil) (by decide +kernel)) ead_nil)) (by decide +kernel)) (ead_cons (ev_tup _ (ead_cons (ev_tup _ (ead_cons ev_ci ead_nil) (by decide +kernel)) (ead_cons (ev_tup _ (ead_cons ev_ci ead_nil) (by decide +kernel)) ead_nil)) (by decide +kernel)) ead_nil)))) (by decide +kernel)) ead_nil)) (by decide +kernel))).imp fun v B' h => ⟨(), trivial, h⟩) (Nat.zero_le _) (by simp) fun _ B4 H4 _ g4 _ hp4 u4 => ?_
  refine pq_appc (K := K) (p := fun _ : Unit => True) (d := fun _ => netD kitN[5]) g4 hz1 hp4 u4 (ev_var rfl) ((ep (ev_tup _ (ead_cons (ev_tup _ (ead_cons ev_ci (ead_cons ev_ci (ead_cons ev_ci (ead_cons ev_ci (ead_cons ev_ci ead_nil))))) (by decide +kernel)) (ead_cons (ev_lst _ (ead_cons (ev_tup _ (ead_cons (ev_tup _ (ead_cons ev_ci ead_nil) (by decide +kernel)) (ead_cons (ev_tup _ (ead_cons ev_ci (ead_cons ev_ci ead_nil)) (by decide +kernel)) ead_nil)) (by decide +kernel)) (ead_cons (ev_tup _ (ead_cons (ev_tup _ (ead_cons ev_ci ead_nil) (by decide +kernel)) (ead_cons (ev_tup _ (ead_cons ev_ci (ead_cons ev_ci ead_nil)) (by decide +kernel)) ead_nil)) (by decide +kernel)) (ead_cons (ev_tup _ (ead_cons (ev_tup _ (ead_cons ev_ci (ead_cons ev_ci ead_nil)) (by decide +kernel)) (ead_cons (ev_tup _ (ead_cons ev_ci ead_nil) (by decide +kernel)) ead_nil)) (by decide +kernel)) (ead_cons (ev_tup _ (ead_cons (ev_tup _ (ead_cons ev_ci (ead_cons ev_ci ead_nil)) (by decide +kernel)) (ead_cons (ev_tup _ (ead_cons ev_ci ead_nil) (by decide +kernel)) ead_nil)) (by decide +kernel)) ead_nil)))) (by decide +kernel)) ead_nil)) (by decide +kernel))).imp fun v B' h => ⟨(), trivial, h⟩) (Nat.zero_le _) (by simp) fun _ B5 H5 _ g5 _ hp5 u5 => ?_
  refine pq_appc (K := K) (p := fun _ : Unit => True) (d := fun _ => netD kitN[6]) g5 hz1 hp5 u5 (ev_var rfl) ((ep (ev_tup _ (ead_cons (ev_tup _ (ead_cons ev_ci (ead_cons ev_ci (ead_cons ev_ci (ead_cons ev_ci (ead_cons ev_ci ead_nil))))) (by decide +kernel)) (ead_cons (ev_lst _ (ead_cons (ev_tup _ (ead_cons (ev_tup _ (ead_cons ev_ci ead_nil) (by decide +kernel)) (ead_cons (ev_tup _ (ead_cons ev_ci (ead_cons ev_ci ead_nil)) (by decide +kernel)) ead_nil)) (by decide +kernel)) (ead_cons (ev_tup _ (ead_cons (ev_tup _ (ead_cons ev_ci ead_nil) (by decide +kernel)) (ead_cons (ev_tup _ (ead_cons ev_ci (ead_cons ev_ci ead_nil)) (by decide +kernel)) ead_nil)) (by decide +kernel)) (ead_cons (ev_tup _ (ead_cons (ev_tup _ (ead_cons ev_ci (ead_cons ev_ci ead_nil)) (by decide +kernel)) (ead_cons (ev_tup _ (ead_cons ev_ci ead_nil) (by decide +kernel)) ead_nil)) (by decide +kernel)) (ead_cons (ev_tup _ (ead_cons (ev_tup _ (ead_cons ev_ci (ead_cons ev_ci ead_nil)) (by decide +kernel)) (ead_cons (ev_tup _ (ead_cons ev_ci ead_nil) (by decide +kernel)) ead_nil)) (by decide +kernel)) ead_nil)))) (by decide +kernel)) ead_nil)) (by decide +kernel))).imp fun v B' h => ⟨(), trivial, h⟩) (Nat.zero_le _) (by simp) fun _ B6 H6 _ g6 _ hp6 u6 => ?_
  refine pq_appc (K := K) (p := fun _ : Unit => True) (d := fun _ => netD kitN[7]) g6 hz1 hp6 u6 (ev_var rfl) ((ep (ev_tup _ (ead_cons (ev_tup _ (ead_cons ev_ci (ead_cons ev_ci (ead_cons ev_ci ead_nil))) (by decide +kernel)) (ead_cons (ev_lst _ (ead_cons (ev_tup _ (ead_cons (ev_tup _ (ead_cons ev_ci (ead_cons ev_ci ead_nil)) (by decide +kernel)) (ead_cons (ev_tup _ (ead_cons ev_ci (ead_cons ev_ci ead_nil)) (by decide +kernel)) ead_nil)) (by decide +kernel)) (ead_cons (ev_tup _ (ead_cons (ev_tup _ (ead_cons ev_ci (ead_cons ev_ci ead_nil)) (by decide +kernel)) (ead_cons (ev_tup _ (ead_cons ev_ci ead_nil) (by decide +kernel)) ead_nil)) (by decide +kernel)) (ead_cons (ev_tup _ (ead_cons (ev_tup _ (ead_cons ev_ci ead_nil) (by decide +kernel)) (ead_cons (ev_tup _ (ead_cons ev_ci (ead_cons ev_ci ead_nil)) (by decide +kernel)) ead_nil)) (by decide +kernel)) ead_nil))) (by decide +kernel)) ead_nil)) (by decide +kernel))).imp fun v B' h => ⟨(), trivial, h⟩) (Nat.zero_le _) (by simp) fun _ B7 H7 _ g7 _ hp7 u7 => ?_
  refine pq_appc (K := K) (p := fun _ : Unit => True) (d := fun _ => netD kitN[8]) g7 hz1 hp7 u7 (ev_var rfl) ((ep (ev_tup _ (ead_cons (ev_tup _ (ead_cons ev_ci (ead_cons ev_ci (ead_cons ev_ci (ead_cons ev_ci ead_nil)))) (by decide +kernel)) (ead_cons (ev_lst _ (ead_cons (ev_tup _ (ead_cons (ev_tup _ (ead_cons ev_ci (ead_cons ev_ci ead_nil)) (by decide +kernel)) (ead_cons (ev_tup _ (ead_cons ev_ci (ead_cons ev_ci ead_nil)) (by decide +kernel)) ead_nil)) (by decide +kernel)) (ead_cons (ev_tup _ (ead_cons (ev_tup _ (ead_cons ev_ci ead_nil) (by decide +kernel)) (ead_cons (ev_tup _ (ead_cons ev_ci ead_nil) (by decide +kernel)) ead_nil)) (by decide +kernel)) (ead_cons (ev_tup _ (ead_cons (ev_tup _ (ead_cons ev_ci ead_nil) (by decide +kernel)) (ead_cons (ev_tup _ (ead_cons ev_ci ead_nil) (by decide +kernel)) ead_nil)) (by decide +kernel)) (ead_cons (ev_tup _ (ead_cons (ev_tup _ (ead_cons ev_ci ead_nil) (by decide +kernel)) (ead_cons (ev_tup _ (ead_cons ev_ci ead_nil) (by decide +kernel)) ead_nil)) (by decide +kernel)) ead_nil)))) (by decide +kernel)) ead_nil)) (by decide +kernel))).imp fun v B' h => ⟨(), trivial, h⟩) (Nat.zero_le _) (by simp) fun _ B8 H8 _ g8 _ hp8 u8 => ?_
  refine pq_appc (K := K) (p := fun _ : Unit => True) (d := fun _ => netD kitN[9]) g8 hz1 hp8 u8 (ev_var rfl) ((ep (ev_tup _ (ead_cons (ev_tup _ (ead_cons ev_ci ead_nil) (by decide +kernel)) (ead_cons (ev_lst _ (ead_cons (ev_tup _ (ead_cons (ev_tup _ (ead_cons ev_ci ead_nil) (by decide +kernel)) (ead_cons (ev_tup _ (ead_cons ev_ci ead_nil) (by decide +kernel)) ead_nil)) (by decide +kernel)) ead_nil) (by decide +kernel)) ead_nil)) (by decide +kernel))).imp fun v B' h => ⟨(), trivial, h⟩) (Nat.zero_le _) (by simp) fun _ B9 H9 _ g9 _ hp9 u9 => ?_
  obtain ⟨Bf, gf, ef, df⟩ := u9.fix g9 hz1
  have df' : Dp K Bf (.ref lc) (Qs true (kitN.map netD)) := df
  refine p_ret gf.bh hp9 (ep_call (epa (ea_cons (ev_var rfl) (ea_cons (ev_D rfl df') ea_nil))) (spP fun vs B4 _ h => ⟨true, _, h, by decide, by decide, rfl⟩)) (by omega) fun v B' H' g hp' ⟨d, hd, pv⟩ => ?_
  obtain ⟨np, hnp, rfl⟩ := List.mem_map.mp hd
  exact q v B' H' (gf.trans g) (hp'.weak (by omega)) ⟨np, kit_net hnp, pv⟩
abbrev s__law_ring : Stmt := topS 83
abbrev N__law_ring : List Str := ["_law_pen_here", "_law_many", "_law_deeds", "_law_box", "_law_turn"]
theorem sc__law_ring : FnScope N__law_ring ["_law_pen_here"] (defScope s__law_ring) := ⟨rfl, rfl, rfl, by decide +kernel, rfl, by decide +kernel, by decide +kernel⟩
theorem ov_repT {B : Hp} {d : PyData} {n : Int} (h : 2 ≤ n ∧ n ≤ 1000) : OV (rMul2 K) B (Da K (.tuple [d])) (Xv (.int n)) (Da K (.tuple (List.replicate n.toNat d))) := OV.r fun x y B1 H _ b px py Q q => by
  obtain ⟨p, xs, rfl, hs, ha⟩ := dp_tup_inv px
  obtain ⟨v, rfl, hv⟩ : ∃ v, xs = [v] ∧ Dp K B1 v d := by
    cases ha with
    | cons a r => cases r; exact ⟨_, rfl, a⟩
  refine ⟨p, n, [v], rfl, py, sqt_mono b hs, by simp, h.1, h.2, by simp, fun t ht => ?_⟩
  have e : (List.replicate n.toNat [v]).flatten = List.replicate n.toNat v := by
    induction n.toNat with
    | zero => rfl
    | succ k ih => rw [List.replicate_succ, List.flatten_cons, ih, List.replicate_succ]; rfl
  have hd : ∀ k, DpAll K B1 (List.replicate k v) (List.replicate k d) := fun k => by
    induction k with
    | zero => exact .nil
    | succ k ih => rw [List.replicate_succ, List.replicate_succ]; exact .cons hv ih
  rw [e]
  exact q _ _ _ (.new b ht) (dp_tup upd_same (dpa_mono (same_new (b.free ht)) _ _ (hd _)))
theorem ringL (n : Nat) : (rangeL 0 n).map (fun b => DD ([b], [(b + 1) % (n : Int)])) = (ringD n).map DD := by
  unfold rangeL ringD
  rw [List.map_map, List.map_map]
  refine List.map_congr_left fun i _ => ?_
  show DD ([0 + (i : Int)], [(0 + (i : Int) + 1) % (n : Int)]) = _
  rw [Int.zero_add]
  rfl
theorem ok__law_ring (F : FunC K mg "_law_ring" "_law_ring" s__law_ring) (T : Z mg) (c__law_draw : Cal P w K mg base "_law_draw" 1 ["_law_pen_here", "_law_count"] spDraw) : Cal P w K mg base "_law_ring" 2 ["_law_pen_here"] (spNetX K) := by
  refine F.cal sc__law_ring (fun _ _ _ _ _ _ us hl => match us, hl with | [_], _ => rfl) (fun vs H Q E h => by obtain ⟨_, _, _, _, _, _, ⟨h, _⟩, _⟩ := h; exact all2_len h) (fun f cdv A outer s H vs Q E hr h => ?_)
  obtain ⟨B, S, l, m, e, hp, ⟨p, rfl⟩, q⟩ := h
  obtain ⟨x, rfl, px⟩ := all2_1 p
  obtain rfl : x = V.ref l := px
  refine ⟨_, (pss_cons (ps_set (i := 1) sc__law_ring.nd rfl (Or.inr rfl) (pe_op (ko_add (K := K)) pe_int (pe_cal c__law_draw hr (by rfl) (pa_cons (pv 0) (pa_cons pe_int pa_nil)))))
      (pss_cons (ps_setLc (i := 2) (own := [("_law_box", 3)]) (g := gName 3) (tt := tYes) rfl sc__law_ring.nd rfl rfl (sw_true rfl rfl rfl (by decide +kernel)) (pi_range1 (by rfl) T.z_range (pa_cons (pv 1) pa_nil)) (blkOk_by (own := [("_law_box", 3)]) (N := N__law_ring) (sc := defScope s__law_ring) (by decide +kernel)) (fun _ _ _ _ _ => (pg_name (i := 3) sc__law_ring.nd rfl (Or.inl rfl))) (fun _ _ _ _ _ => pts_nil) (fun _ _ _ _ _ => (pe_tup (pa_cons (pe_tup (pa_cons (pv 3) pa_nil)) (pa_cons (pe_tup (pa_cons (pe_op op_mod (pe_op (ko_add (K := K)) (pv 3) pe_int) (pv 1)) pa_nil)) pa_nil)))))
      (pss_cons (ps_for PassesOwn.never rfl (pi_range1 (by rfl) T.z_range (pa_cons (pe_cal c__law_draw hr (by rfl) (pa_cons (pv 0) (pa_cons (pe_callB (ac_min rfl) (by rfl) T.z_min (by decide +kernel) (pa_cons pe_int (pa_cons (pe_op op_sub pe_int (pv 1)) pa_nil))) pa_nil))) pa_nil)) (pg_name (i := 4) sc__law_ring.nd rfl (Or.inl rfl)) (pss_one (ps_expr (pe_bm PySem.F.plainAttrs_list PySem.F.slot_list_append PySem.F.type_list_append mt_append (pv 2) (pa_cons (pe_tup (pa_cons (pe_tup (pa_cons (pe_cal c__law_draw hr (by rfl) (pa_cons (pv 0) (pa_cons (pv 1) pa_nil))) pa_nil)) (pa_cons (pe_tup (pa_cons (pe_cal c__law_draw hr (by rfl) (pa_cons (pv 0) (pa_cons (pv 1) pa_nil))) pa_nil)) pa_nil))) pa_nil)))))
      (pss_one (ps_ret (pe_tup (pa_cons (pe_op (ko_mul (K := K)) (pe_tup (pa_cons (pe_op (ko_add (K := K)) pe_int (pe_cal c__law_draw hr (by rfl) (pa_cons (pv 0) (pa_cons pe_int pa_nil)))) pa_nil)) (pv 1)) (pa_cons (pv 2) pa_nil)))))))), ?_⟩
  refine pq_asg e hp (ep_op (ep ev_c) (ep_call (epa (ea_cons (ev_var rfl) (ea_cons ev_c ea_nil))) (spP fun vs B1 _ h => ⟨4, h, by omega, by omega, rfl⟩)) (ov_ex fun i _ => ov_addI)) (by omega) fun v1 B1 H1 g1 hp1 ⟨j, hj, p1⟩ => ?_
  obtain rfl : v1 = V.int (2 + j) := p1
  obtain ⟨n, hn⟩ : ∃ n : Nat, 2 + j = (n : Int) := ⟨(2 + j).toNat, by omega⟩
  have hn2 : 2 ≤ n := by omega
  have hn5 : n ≤ 5 := by omega
  rw [hn]
  refine pq_new (K := K) g1.bh hp1 (EN.is (en_lc0 (rangeL 0 n) .int (fun b => DD ([b], [(b + 1) % (n : Int)])) (ei_rng1 (n := (n : Int)) (ea_cons (ev_var rfl) ea_nil) (by omega)) (by simp [rangeL]; omega) (fun a v B2 ha e2 dv => lt_name rfl et_yes fun _ => ?_)) (ringL n)) fun lc xs0 B2 H2 g2 hp2 ne1 hz1 k1 b1 d1 => ?_
  · have e1 : v = V.int a := dp_int_inv dv
    subst e1
    exact ev_tup [TuI [a], TuI [(a + 1) % (n : Int)]] (ea_cons (ev_tup [.int a] (ea_cons (ev_i (ev_var rfl)) ea_nil) (by simp)) (ea_cons (ev_tup [.int ((a + 1) % (n : Int))] (ea_cons (ev_i (ev_op (ev_op (ev_var rfl) ev_c ov_addI) (ev_var rfl) (ov_I (by omega)))) ea_nil) (by simp)) ea_nil)) (by simp)
  · have hz0 : del H l lc = none := by
      cases zz : del H l lc with
      | none => rfl
      | some o =>
        rw [g1.hh _ _ zz] at hz1
        cases hz1
    refine pq_for (K := K) (l := l) (m := m + 10 - (0 + (0 + 1))) 2 (k := 1) (n := 2) (g1.trans g2) hp2 (eip_rng (p := fun k => 0 ≤ k ∧ k ≤ 2 ∧ (n : Int) + k ≤ 6) (epa_cons (k1 := 0 + 1) (k2 := 0) ((ep_call (epa (ea_cons (ev_var rfl) (ea_cons (ev_cb (ea_cons ev_c (ea_cons (ev_op ev_c (ev_var rfl) ov_I0) ea_nil)) cv_min) ea_nil))) (spP fun vs B1 _ h => ⟨_, h, by split <;> omega, by split <;> omega, rfl⟩)).imp fun v B' ⟨i, hi, e⟩ => ⟨i, by
        have h2 := hi.2
        split at h2 <;> omega, e⟩) (epa ea_nil)) (by omega)) (fun d ⟨n, hn, hd⟩ => by rw [hd]; simp [rangeL]; omega) (by omega)
      (fun _ i σ' B' H' => ∃ (b t : Option V) (es : List Deed), σ' = [some (V.ref l), some (.int (n : Int)), some (.ref lc), b, t] ∧ Ls K l lc B' H' ((ringD n ++ es).map DD) ∧ (∀ d, d ∈ es → One n d) ∧ es.length = i) ?_ ?_ ?_
    · intro ds0 B3 H3 _ g3
      exact ⟨none, none, [], rfl, Ls.gr (Ls.is ⟨xs0, k1, b1, d1⟩ (by rw [List.append_nil])) g3, (fun d hd => nomatch hd), rfl⟩
    · rintro ds0 i zz σ' B0 H0 B' H' d M N ⟨k, hk, rfl⟩ ⟨b, t, es, rfl, u, ho, el⟩ hg g hpM hd dz fin
      have hi : i < k.toNat := by
        have := (List.getElem?_eq_some_iff.mp hd).1
        simpa [rangeL] using this
      have dr : ∀ {zz : V}, EVp (tTup (tCons (tCall spDraw [] E0 (tCons (tVar 0) (tCons (tVar 1) tNil))) tNil)) l (0 + 1) [some (V.ref l), some (.int (n : Int)), some (.ref lc), b, some zz] B' (Exd (fun i : Int => 0 ≤ i ∧ i < (n : Int)) fun i => Da K (.tuple [.int i])) := ep_tup1 (rng_i (ep_call (epa (ea_cons (ev_var rfl) (ea_cons (ev_var rfl) ea_nil))) (spP fun vs B1 _ h => ⟨_, h, by omega, by omega, rfl⟩)))
      refine p_appc (K := K) (hg.trans g) hz0 hpM (u.gr g) (ev_var rfl) (ep_tup2 dr dr) (by omega) (by simp [ringD]; omega) fun ⟨a, c⟩ B3 H3 ⟨ha, hc⟩ g3 e3 hp3 u3 => ?_
      refine fin _ B3 H3 g3 e3 (hp3.weak (by omega)) ⟨_, _, es ++ [([a], [c])], rfl, u3.is ?_, fun d hd => ?_, by rw [List.length_append, el]; rfl⟩
      · rw [← List.append_assoc, List.map_append (l₁ := ringD n ++ es)]
        rfl
      · rcases List.mem_append.mp hd with h | h
        · exact ho d h
        · rw [List.mem_singleton.mp h]
          exact ⟨a, c, rfl, ha, hc⟩
    · rintro ds0 σ' B' H' ⟨k, hk, rfl⟩ hg _ hpM ⟨b, t, es, rfl, u, ho, el⟩
      obtain ⟨Bf, gf, ef, df⟩ := u.fix hg hz0
      have hel : es.length = k.toNat := by rw [el]; simp [rangeL]
      refine p_ret gf.bh hpM (ep_tup2 (p := fun i : Int => 1 ≤ i ∧ i ≤ 2) (d := fun i => .tuple (List.replicate ((n : Int)).toNat (.int i))) (r := fun _ : Unit => True) (f := fun _ => .list ((ringD n ++ es).map DD)) (ep_op (ep_tup1 (rng_i (p := fun i : Int => 1 ≤ i ∧ i ≤ 2) ((ep_op (ep ev_c) (ep_call (epa (ea_cons (ev_var rfl) (ea_cons ev_c ea_nil))) (spP fun vs B1 _ h => ⟨2, h, by omega, by omega, rfl⟩)) (ov_ex fun i _ => ov_addI)).imp fun v B' ⟨i, hi, e⟩ => ⟨1 + i, by omega, e⟩))) (ep (ev_var rfl)) (ov_exl (p := fun i : Int => 1 ≤ i ∧ i ≤ 2) (S := fun i => Da K (.tuple (List.replicate ((n : Int)).toNat (.int i)))) fun i _ => ov_repT (n := (n : Int)) (by omega))) ((ep (ev_D rfl df)).imp fun v B' h => ⟨(), trivial, h⟩)) (by omega) fun v B2 H2 g2 hp2 ⟨⟨a, _⟩, ⟨ha, _⟩, pv⟩ => ?_
      refine q v B2 H2 (gf.trans g2) (hp2.weak (by omega)) ⟨(List.replicate n a, ringD n ++ es), ring_ok hn2 hn5 ha ho (by omega), ?_⟩
      show Dp K B2 v (.tuple [.tuple ((List.replicate n a).map .int), _])
      rw [List.map_replicate]
      exact pv
end
end CN
set_option Elab.async false
set_option linter.all false
set_option maxRecDepth 100000
set_option maxHeartbeats 4000000
/-! E6: more rules with a pen. -/
namespace CN
open PySem PySem.Spec PyProof.Rows L2 CM
section
variable {P : Program} {w : World} {K : PySem.W.Frag} {mg : Str → Option Value} {base : Heap} {C : Addr}
theorem cv_ex2 {ι : Type} {p : ι → Prop} {P : Pd} {R S : ι → Pd} {B : Hp} {r : List V → Hp → VK → Prop} (h : ∀ i, p i → CV r B [P, R i] (S i)) : CV r B [P, Exd p R] (Exd p S) := fun vs B1 H a b py Q q => by
  match vs, py with
  | [x, y], ⟨hx, ⟨i, hi, hy⟩, hn⟩ => exact h i hi [x, y] B1 H a b ⟨hx, hy, hn⟩ Q fun v B' H' g s => q v B' H' g ⟨i, hi, s⟩
theorem ev_lstRg {te : TE} {σ : L2.St} {B : Hp} {n : Nat} (h : EV te σ B (Xv (.int (n : Int)))) (hn : n ≤ 1000) : EV (tLstRg (tRg1 te)) σ B (Da K (LiI (box n))) := fun B1 H a b Q q =>
  h B1 H a b _ fun v B2 H2 g2 p => ⟨(n : Int), p, .of_le (Int.le_refl _) (by omega) (by omega) (by omega), fun l hl => by
    have e : rgV 0 (n : Int) = (box n).map V.int := by
      unfold rgV box
      rw [List.map_map]
      rw [show ((n : Int) - 0).toNat = n by omega]
      refine List.map_congr_left fun i _ => ?_
      show V.int (0 + (i : Int)) = V.int (i : Int)
      rw [Int.zero_add]
    rw [e]
    exact q _ _ _ (g2.trans (.new g2.bh hl)) (dp_lst upd_same (dpa_ints _))⟩
theorem idx_le {b : Int} : ∀ (xs : List Int) (m : Nat), xs[m]? = some b → xs.idxOf b ≤ m
  | [], m, h => by simp at h
  | x :: xs, 0, h => by
    obtain rfl : x = b := by simpa using h
    simp [List.idxOf_cons]
  | x :: xs, m + 1, h => by
    have := idx_le xs m (by simpa using h)
    rw [List.idxOf_cons]
    cases (x == b) with
    | true => exact Nat.zero_le _
    | false => exact Nat.succ_le_succ this
theorem ev_index {ta te : TE} {σ : L2.St} {B : Hp} {xs : List Int} {b : Int} (ha : EV ta σ B (Da K (LiI xs))) (he : EV te σ B (Xv (.int b))) (hb : b ∈ xs) : EV (tBM K "list" (rIndex K) ta (tCons te tNil)) σ B (Xv (.int (xs.idxOf b : Nat))) := fun B1 H a e Q q =>
  ha B1 H a e _ fun v B2 H2 g2 p => by
    obtain ⟨l, rfl, hs⟩ := dp_li_inv p
    refine ⟨Or.inl ⟨rfl, _, sql_mono g2.bh hs⟩, ?_⟩
    refine he B2 H2 (a.trans g2.bb) g2.bh _ fun y B3 H3 g3 py => ?_
    obtain rfl : y = V.int b := py
    have hlt := List.idxOf_lt_length_of_mem hb
    have hat : xs[xs.idxOf b]? = some b := by rw [List.getElem?_eq_getElem hlt, List.getElem_idxOf hlt]
    have hev : ∀ x : Int, eqV (.int x) (.int b) = decide (x = b) := fun x => by simp [eqV, Bool.beq_eq_decide_eq]
    refine ⟨l, xs.map V.int, .int b, xs.idxOf b, .int b, rfl, rfl, sql_mono g3.bh (sql_mono g3.bb hs), rfl, flat_ints xs, ?_, ?_, fun m z hm hz => ?_, q _ B3 H3 (g2.trans g3) rfl⟩
    · rw [List.getElem?_map, hat]
      rfl
    · rw [hev]
      exact decide_eq_true rfl
    · rw [List.getElem?_map] at hz
      cases e1 : xs[m]? with
      | none => rw [e1] at hz; cases hz
      | some c =>
        rw [e1] at hz
        cases hz
        rw [hev]
        refine decide_eq_false fun hc => ?_
        subst hc
        exact absurd hm (Nat.not_lt_of_le (idx_le xs m e1))
/-- for over what a larger base tells -/
theorem p_forK {D : Ends} {tu : TS} {g : TG} {σ : L2.St} {B Bk H Bz Hz : Hp} {l : Addr} {m : Nat} {wi : L2.TI} {dq : List PyData → Prop} (c : Nat) {k n : Nat} (z : Gr Bz Hz B (del H l)) (e1 : Same B Bk) (e2 : Same Bk (del H l)) (hp : Pn l m H) (hk : k + n * c ≤ m)
    (hi : ∀ R : It → Hp → Prop, (∀ J B' H' d, Gr Bk (del H l) B' (del H' l) → Pn l (m - k) H' → dq d → (∀ B, ItOk K J B d) → R J H') → wi σ H R)
    (hn : ∀ d, dq d → d.length ≤ n) (Pv : List PyData → Nat → L2.St → Hp → Hp → Prop) (h0 : ∀ ds H1, dq ds → Gr B (del H l) B (del H1 l) → Pv ds 0 σ B H1)
    (hs : ∀ ds i x σ' B0 H0 B' H' d M (N : L2.St → Hp → Prop), dq ds → Pv ds i σ' B0 H0 → Gr Bz Hz B0 (del H0 l) → Gr B0 (del H0 l) B' (del H' l) → Pn l (M + c) H' → ds[i]? = some d → Dp K B' x d → (∀ σ3 B3 H3, Gr Bz Hz B3 (del H3 l) → Same B' B3 → Pn l M H3 → Pv ds (i + 1) σ3 B3 H3 → N σ3 H3) →
      g x σ' H' fun σ2 H2 => tu { D with nx := N, ct := N, bk := D.nx } σ2 H2)
    (hd : ∀ ds σ' B' H', dq ds → Gr Bz Hz B' (del H' l) → Same B B' → Pn l (m - k - n * c) H' → Pv ds ds.length σ' B' H' → D.nx σ' H') : tFor wi g tu D σ H := hi _ fun J Bn H1 ds g1 hp1 hds itA => by
  have it := itA B
  have g1' := g1.drop e1
  have hlen := hn ds hds
  have hmul : ds.length * c ≤ n * c := Nat.mul_le_mul_right c hlen
  refine ⟨fun i m' σ' H' => m' = ds.length - i ∧ i ≤ ds.length ∧ ∃ B', Same B B' ∧ Gr Bz Hz B' (del H' l) ∧ Pn l (m - k - n * c + (ds.length - i) * c) H' ∧ Pv ds i σ' B' H', ⟨ds.length, by simp, Nat.zero_le _, B, Same.refl _, z.trans g1', hp1.weak (by simp only [Nat.sub_zero]; omega), h0 ds H1 hds g1'⟩, ?_⟩
  rintro i m' σ' H' ⟨rfl, hi', B', e1, e2, e3, p⟩
  by_cases hlt : i < ds.length
  · refine .inr ⟨it.go i H' hlt (e1.trans (same_del e2.bh)), fun σ3 H3 => ∃ B3, Same B B3 ∧ Gr Bz Hz B3 (del H3 l) ∧ Pn l (m - k - n * c + (ds.length - (i + 1)) * c) H3 ∧ Pv ds (i + 1) σ3 B3 H3, fun σ3 H3 p => ⟨ds.length - (i + 1), by omega, rfl, hlt, p⟩, fun x H4 y => ?_⟩
    obtain ⟨B4, g4, dx⟩ := it.yld i H' x H4 B' ds[i] (List.getElem?_eq_getElem hlt) e1 (same_del e2.bh) y
    refine hs ds i x σ' B' H' B4 H4 ds[i] (m - k - n * c + (ds.length - (i + 1)) * c) _ hds p e2 (g4.del e2.bh e3) ((e3.keep g4.hh).weak ?_) (List.getElem?_eq_getElem hlt) dx fun σ3 B3 H3 a b c' d' => ⟨B3, (e1.trans g4.bb).trans b, a, c', d'⟩
    have : ds.length - i = ds.length - (i + 1) + 1 := by omega
    rw [this, Nat.succ_mul]
    omega
  · have e : i = ds.length := by omega
    subst e
    exact .inl ⟨it.stop H' (e1.trans (same_del e2.bh)), hd ds _ B' _ hds e2 e1 (e3.weak (by omega)) p⟩
theorem hi_rng {σ : L2.St} {B H : Hp} {l : Addr} {m k : Nat} {tr : TA} {p : Int → Prop} (e : Same B (del H l)) (hp : Pn l m H) (h : EAp tr l k σ B [Exd p fun i => Xv (.int i)]) (hk : k ≤ m) (hn : ∀ n, p n → -1000 ≤ n ∧ n ≤ 100000) :
    ∀ R : It → Hp → Prop, (∀ J B' H' d, Gr B (del H l) B' (del H' l) → Pn l (m - k) H' → (∃ n, p n ∧ d = (rangeL 0 n.toNat).map .int) → (∀ B, ItOk K J B d) → R J H') → iRng1 tr σ H R := fun R q => h B H (m - k) (Same.refl _) e (hp.weak (by omega)) _ fun vs B2 H2 g p2 pp => by
  obtain ⟨x, rfl, ⟨n, hpn, px⟩⟩ := all2_1 pp
  have := hn n hpn
  exact ⟨n, by rw [show x = V.int n from px], by omega, by omega, q _ B2 H2 _ g p2 ⟨n, hpn, rfl⟩ fun B => itOk_rng⟩
/-- while, the test read by a larger base -/
theorem pq_while {D : Ends} {tu tz : TS} {σ : L2.St} {B H : Hp} {t : TT} (W : Nat → L2.St → Hp → Hp → Prop) (m0 : Nat) (h0 : W m0 σ B H)
    (hs : ∀ m σ' B' H', W m σ' B' H' → ∃ Bk b, Same B' Bk ∧ Same Bk H' ∧ ET t σ' Bk b ∧ (b = true → ∀ H1, Gr B' H' B' H1 → tu { D with nx := fun σ2 H2 => ∃ m' B2, m' < m ∧ W m' σ2 B2 H2, ct := fun σ2 H2 => ∃ m' B2, m' < m ∧ W m' σ2 B2 H2, bk := tz D } σ' H1) ∧ (b = false → ∀ H1, Gr B' H' B' H1 → tz D σ' H1)) :
    tSeq (tWhile t tu) tz D σ H :=
  ⟨fun m σ' H' => ∃ B', W m σ' B' H', ⟨m0, B, h0⟩, fun m σ' H' ⟨B', hw⟩ => by
    obtain ⟨Bk, b, e1, e2, hb, h1, h2⟩ := hs m σ' B' H' hw
    refine hb Bk H' (Same.refl _) e2 _ fun B1 H1 g1 => ?_
    have g1' := g1.drop e1
    cases b with
    | true => exact ⟨fun σ2 H2 => ∃ m' B2, m' < m ∧ W m' σ2 B2 H2, fun σ2 H2 ⟨m', B2, hm, hw⟩ => ⟨m', hm, B2, hw⟩, h1 rfl H1 g1'⟩
    | false => exact h2 rfl H1 g1'⟩
/-- a comprehension whose elements are drawn, k draws each -/
theorem ep_lc {wi : L2.TI} {g : TG} {te : TE} {vs : List Nat} {σ : L2.St} {B : Hp} {l : Addr} {α ι : Type} {p : ι → Prop} {dd : ι → PyData} (k n : Nat) (xs : List α) (enc : α → PyData) (hi : EI K wi σ B (xs.map enc)) (hl : xs.length ≤ 40000) (hn : xs.length ≤ n)
    (hs : ∀ a x B1 H1 (Q : L2.St → Hp → Prop), a ∈ xs → Same B B1 → Same B1 (del H1 l) → Dp K B1 x (enc a) → (∀ σ2, wipe σ2 vs = wipe σ vs → EVp te l k σ2 B1 (Exd p fun i => Da K (dd i)) → Q σ2 H1) → g x (wipe σ vs) H1 Q) :
    EVp (tLc wi g tYes te vs) l (n * k) σ B (Exd (fun is : List ι => is.length = xs.length ∧ ∀ i, i ∈ is → p i) fun is => Da K (.list (is.map dd))) := fun B1 H m a e hp Q q => hi B1 H a (same_del e) _ fun J B2 H2 g2' it D hD => by
  have hlen : (xs.map enc).length = xs.length := List.length_map _
  have g2 := g2'.del e hp
  have hp2 := hp.keep g2'.hh
  have hDl : D ≠ l := fun z => by
    obtain ⟨_, _, _, z1, _⟩ := hp2
    rw [z, z1] at hD
    cases hD
  have hD' : del H2 l D = none := by rw [del_ne hDl]; exact hD
  have hB2D : B2 D = none := g2.bh.free hD'
  have g0 : Gr B2 (del H2 l) B2 (del (upd H2 D (.lst [])) l) := by
    rw [del_upd hDl]
    exact (Gr.refl g2.bh).mut hD' hB2D
  have hmul : xs.length * k ≤ n * k := Nat.mul_le_mul_right k hn
  refine ⟨fun i m' H' => m' = xs.length - i ∧ i ≤ xs.length ∧ ∃ (B3 : Hp) (acc : List V) (is : List ι), Gr B2 (del H2 l) B3 (del H' l) ∧ Pn l (m + (xs.length - i) * k) H' ∧ del H' l D = some (.lst acc) ∧ B3 D = none ∧ is.length = i ∧ (∀ i, i ∈ is → p i) ∧ DpAll K B3 acc (is.map dd), ⟨xs.length, by simp, Nat.zero_le _, B2, [], [], g0, (hp2.weak (by simp only [Nat.sub_zero]; omega)).upd hDl, by rw [del_upd hDl]; exact upd_same, hB2D, rfl, (fun _ h => nomatch h), .nil⟩, ?_⟩
  rintro i m' H' ⟨rfl, hi', B3, acc, is, g3, hp3, hacc, h3D, hil, hip, hdp⟩
  by_cases hlt : i < xs.length
  · have hx : xs[i]? = some xs[i] := List.getElem?_eq_getElem hlt
    refine .inr ⟨it.go i H' (by rw [hlen]; exact hlt) (g3.bb.trans (same_del g3.bh)), fun H'' => ∃ (B3 : Hp) (acc : List V) (is : List ι), Gr B2 (del H2 l) B3 (del H'' l) ∧ Pn l (m + (xs.length - (i + 1)) * k) H'' ∧ del H'' l D = some (.lst acc) ∧ B3 D = none ∧ is.length = i + 1 ∧ (∀ i, i ∈ is → p i) ∧ DpAll K B3 acc (is.map dd), fun H'' p => ⟨xs.length - (i + 1), by omega, rfl, hlt, p⟩, fun x H4 y => ?_⟩
    obtain ⟨B4, g4', dx⟩ := it.yld i H' x H4 B3 (enc xs[i]) (by rw [List.getElem?_map, hx]; rfl) g3.bb (same_del g3.bh) y
    have g4 := g4'.del g3.bh hp3
    have hp4 := hp3.keep g4'.hh
    refine hs xs[i] x B4 H4 _ (List.getElem_mem hlt) ((a.trans g2.bb).trans (g3.bb.trans g4.bb)) g4.bh dx fun σ2 hw he => ⟨hw, ?_⟩
    have h4D := g4.hh _ _ hacc
    have h4B := g4.unk hacc h3D
    show te σ2 H4 _
    refine he B4 H4 (m + (xs.length - (i + 1)) * k) (Same.refl _) g4.bh (hp4.weak ?_) _ fun v B6 H6 g6 hp6 ⟨j, hj, dv⟩ => ?_
    · have : xs.length - i = xs.length - (i + 1) + 1 := by omega
      rw [this, Nat.succ_mul]
      omega
    · have h6D := g6.hh _ _ h4D
      have h6B := g6.unk h4D h4B
      refine ⟨acc, (del_some h6D).2, ?_, B6, acc ++ [v], is ++ [j], ?_, hp6.upd hDl, ?_, h6B, by rw [List.length_append, hil]; rfl, fun i hi => ?_, ?_⟩
      · have h1 := dpa_length hdp
        rw [List.length_map, hil] at h1
        exact sz_lt (by omega)
      · rw [del_upd hDl]
        exact ((g3.trans g4).trans g6).mut hD' h6B
      · rw [del_upd hDl]
        exact upd_same
      · rcases List.mem_append.mp hi with h | h
        · exact hip i h
        · rw [List.mem_singleton.mp h]; exact hj
      · rw [List.map_append]
        exact dpa_append (dpa_mono (g4.bb.trans g6.bb) _ _ hdp) (.cons dv .nil)
  · have e : i = xs.length := by omega
    subst e
    refine .inl ⟨by rw [← hlen]; exact it.stop H' (g3.bb.trans (same_del g3.bh)), ?_⟩
    exact q _ _ _ ((g2.trans g3).freeze (by
      cases zz : del H l D with
      | none => rfl
      | some o =>
        rw [g2.hh _ _ zz] at hD'
        cases hD') hacc h3D) (hp3.weak (by omega)) ⟨is, ⟨hil, hip⟩, dp_lst upd_same (dpa_mono (same_new h3D) _ _ hdp)⟩
end
end CN
set_option Elab.async false
set_option linter.all false
set_option maxRecDepth 100000
set_option maxHeartbeats 4000000
/-! M8: loose nets. -/
namespace CN
open CM
structure LInv (ws : List Int) (ds : List Deed) (rest : List Int) : Prop where
  d : ∀ d, d ∈ ds → DeedOk ws d
  f : Free ds
  r : rest.Nodup
  ri : ∀ x, x ∈ rest → 0 ≤ x ∧ x < (ws.length : Int)
  sep : ∀ d, d ∈ ds → ∀ x, x ∈ rest → x ∉ d.1
structure DIn (ws : List Int) (ds : List Deed) (rest t : List Int) : Prop where
  i : LInv ws ds rest
  s : IsSet ws.length t
  n : t ≠ []
  sep : ∀ x, x ∈ t → x ∉ rest
  f : ∀ d, d ∈ ds → d.1 = t ∨ touch d.1 t = false
theorem linv0 {ws rest : List Int} (p : rest.Perm (box ws.length)) : LInv ws [] rest :=
  ⟨(fun _ h => nomatch h), (fun _ h => nomatch h), p.nodup_iff.mpr (pw_nodup (box_pw _)), fun x hx => mem_box.mp (p.mem_iff.mp hx), (fun _ h => nomatch h)⟩
theorem LInv.cut {ws rest : List Int} {ds : List Deed} (h : LInv ws ds rest) {s : Nat} (hs : 1 ≤ s) (hne : rest ≠ []) : DIn ws ds (rest.drop s) (srt (rest.take s)) := by
  have hsub : ∀ x, x ∈ srt (rest.take s) → x ∈ rest := fun x hx => List.mem_of_mem_take (mem_srt.mp hx)
  have hnt : (rest.take s).Nodup := h.r.sublist (List.take_sublist _ _)
  refine ⟨⟨h.d, h.f, h.r.sublist (List.drop_sublist _ _), fun x hx => h.ri x (List.mem_of_mem_drop hx), fun d hd x hx => h.sep d hd x (List.mem_of_mem_drop hx)⟩, ⟨fun x hx => h.ri x (hsub x hx), lt_of_nodup (srt_le _) ((srt_perm _).nodup_iff.mpr hnt)⟩, fun z => ?_, fun x hx hd => ?_, fun d hd => .inr (touch_no.mpr fun x hx ht => h.sep d hd x (hsub x ht) hx)⟩
  · have := (srt_perm (rest.take s)).length_eq
    rw [z, List.length_take] at this
    have hp : 0 < rest.length := List.length_pos_iff.mpr hne
    simp at this
    omega
  · have hx' := mem_srt.mp hx
    have hn := h.r
    rw [← List.take_append_drop s rest, List.nodup_append] at hn
    exact hn.2.2 x hx' x hd rfl
theorem worth_nn {ws : List Int} (h : ∀ x, x ∈ ws → 1 ≤ x ∧ x ≤ 3) : ∀ t : List Int, 0 ≤ worthB ws t
  | [] => Int.le_refl _
  | b :: t => by
    have ih := worth_nn h t
    have hb : 0 ≤ ws.getD b.toNat 0 := by
      rw [List.getD_eq_getElem?_getD]
      cases e : ws[b.toNat]? with
      | none => exact Int.le_refl _
      | some x => have := h x (List.mem_of_getElem? e); show 0 ≤ x; omega
    show 0 ≤ ((b :: t).map _).sum
    rw [List.map_cons, List.sum_cons]
    unfold worthB at ih
    omega
theorem worth_pos {ws t : List Int} (h : ∀ x, x ∈ ws → 1 ≤ x ∧ x ≤ 3) (ht : ∀ x, x ∈ t → 0 ≤ x ∧ x < (ws.length : Int)) (hne : t ≠ []) : 0 < worthB ws t := by
  cases t with
  | nil => exact absurd rfl hne
  | cons b t =>
    have hb := ht b List.mem_cons_self
    have hl : b.toNat < ws.length := by omega
    have ih := worth_nn h t
    have h1 : 1 ≤ ws.getD b.toNat 0 := by
      rw [List.getD_eq_getElem?_getD, List.getElem?_eq_getElem hl]
      exact (h _ (List.getElem_mem hl)).1
    show 0 < ((b :: t).map _).sum
    rw [List.map_cons, List.sum_cons]
    unfold worthB at ih
    omega
theorem DIn.app {ws rest t s : List Int} {ds : List Deed} (hw : ∀ x, x ∈ ws → 1 ≤ x ∧ x ≤ 3) (h : DIn ws ds rest t) (hs : IsSet ws.length s) (e : worthB ws s = worthB ws t) : DIn ws (ds ++ [(t, s)]) rest t := by
  have hmem : ∀ d, d ∈ ds ++ [(t, s)] → d ∈ ds ∨ d = (t, s) := fun d hd => by
    rcases List.mem_append.mp hd with h | h
    · exact .inl h
    · exact .inr (List.mem_singleton.mp h)
  refine ⟨⟨fun d hd => ?_, fun d hd c hc => ?_, h.i.r, h.i.ri, fun d hd x hx => ?_⟩, h.s, h.n, h.sep, fun d hd => ?_⟩
  · rcases hmem d hd with hd | rfl
    · exact h.i.d d hd
    · refine ⟨h.s, hs, h.n, fun z => ?_, e.symm⟩
      have := worth_pos hw h.s.1 h.n
      have z : s = [] := z
      rw [← e, z] at this
      exact absurd this (Int.lt_irrefl 0)
  · rcases hmem d hd with hd | rfl
    · rcases hmem c hc with hc | rfl
      · exact h.i.f d hd c hc
      · exact h.f d hd
    · rcases hmem c hc with hc | rfl
      · rcases h.f c hc with q | q
        · exact .inl q.symm
        · exact .inr (by rw [touch_comm]; exact q)
      · exact .inl rfl
  · rcases hmem d hd with hd | rfl
    · exact h.i.sep d hd x hx
    · exact fun q => h.sep x q hx
  · rcases hmem d hd with hd | rfl
    · exact h.f d hd
    · exact .inl rfl
/-- what is drawn loosely -/
structure Loose (p : List Int × List Deed) : Prop where
  w : okWs p.1 = true
  n : 2 ≤ p.1.length
  l : p.2.length ≤ 6
  d : ∀ d, d ∈ p.2 → DeedOk p.1 d
  f : Free p.2
theorem Loose.net {p : List Int × List Deed} (h : Loose p) (k : p.1.length ≤ (asc (lmet p.2 5)).length) : NetOk p.1 p.2 := by
  have h5 : 1 ≤ p.1.length := by have := h.n; omega
  have two := two_met (n := p.1.length) h5 (fun d hd => ⟨(h.d d hd).s1, (h.d d hd).s2⟩) 5
  have hall : ∀ x : Int, 0 ≤ x → x < (p.1.length : Int) → x ∈ lmet p.2 5 := fun x h1 h2 => by
    have hi : ∀ y, y ∈ asc (lmet p.2 5) → y ∈ box p.1.length := fun y hy => mem_box.mpr (two.ins y (mem_asc.mp hy))
    by_cases z : box p.1.length = asc (lmet p.2 5)
    · exact mem_asc.mp (z ▸ mem_box.mpr ⟨h1, h2⟩)
    · have := asc_lt asc_pw (box_pw _) hi z
      rw [box_len] at this
      omega
  refine ⟨h.w, fun z => ?_, h.l, h.d, h.f, conn_of hall⟩
  have h2 := h.n
  rw [z] at hall
  have := hall 1 (by omega) (by omega)
  revert this
  decide
end CN
set_option Elab.async false
set_option linter.all false
set_option maxRecDepth 100000
set_option maxHeartbeats 4000000
/-! E7: loose nets. -/
namespace CN
open PySem PySem.Spec PyProof.Rows L2 CM
section
variable {P : Program} {w : World} {K : PySem.W.Frag} {mg : Str → Option Value} {base : Heap} {C : Addr}
theorem pq_parN {i j : Nat} {te tf : TE} {P : Pd} {tz : TS} {D : Ends} {σ : L2.St} {B H : Hp} {l : Addr} {m k : Nat} {ds : List PyData} [Mo P] (e : Same B (del H l)) (hp : Pn l m H) (h : EVp te l k σ B P) (hk : k ≤ m) (h2 : EN K tf σ B ds)
    (q : ∀ v l2 B' H', Gr B (del H l) B' (del H' l) → Pn l (m - k) H' → P v B' → del H l l2 = none → Ls K l l2 B' H' ds → tz D ((σ.set i (some v)).set j (some (.ref l2))) H') : tSeq (tPar i j (tCons te (tCons tf tNil))) tz D σ H :=
  h B H (m - k) (Same.refl _) e (hp.weak (by omega)) _ fun v B1 H1 g1 hp1 pv => h2 B1 H1 g1.bb (same_del g1.bh) _ fun l2 xs B2 H2 g2 n2 h2' b2 d2 => by
    have ne2 : l2 ≠ l := fun z => by
      obtain ⟨_, _, _, z1, _⟩ := hp1
      rw [z, z1] at n2
      cases n2
    have g2' := g2.del g1.bh hp1
    refine ⟨v, .ref l2, rfl, q v l2 B2 H2 (g1.trans g2') (hp1.keep g2.hh) (Mo.mo _ _ _ g2.bb pv) ?_ ⟨xs, by rw [del_ne ne2]; exact h2', b2, d2⟩⟩
    cases zz : del H l l2 with
    | none => rfl
    | some o =>
      have := (del_some (g1.hh _ _ zz)).2
      rw [n2] at this
      cases this
theorem pick_ints {te : TE} {l : Addr} {k : Nat} {σ : L2.St} {B : Hp} {xs : List Int} (h : EVp te l k σ B (AnyD K (xs.map .int))) : EVp te l k σ B (Exd (fun i : Int => i ∈ xs) fun i => Xv (.int i)) := h.imp fun v B' ⟨d, hd, p⟩ => by
  obtain ⟨i, hi, rfl⟩ := List.mem_map.mp hd
  exact ⟨i, hi, dp_int_inv p⟩
theorem Exd.to {ι κ : Type} {p : ι → Prop} {R : ι → Pd} {p' : κ → Prop} {R' : κ → Pd} {v : V} {B : Hp} (h : Exd p R v B) (f : ∀ i, p i → R i v B → ∃ j, p' j ∧ R' j v B) : Exd p' R' v B := by
  obtain ⟨i, hi, hr⟩ := h
  exact f i hi hr
abbrev s__law_loose : Stmt := topS 80
abbrev N__law_loose : List Str := ["_law_pen_here", "_law_many", "_law_worths", "_law_box", "_law_rest", "_law_deeds", "_law_size", "_law_takes", "_law_due", "_law_same_here", "_law_boxes", "_law_turn"]
theorem sc__law_loose : FnScope N__law_loose ["_law_pen_here"] (defScope s__law_loose) := ⟨rfl, rfl, rfl, by decide +kernel, rfl, by decide +kernel, by decide +kernel⟩
def spLoose (K : PySem.W.Frag) : Sp := pSpP 60 fun l vs B S => All2 [Xv (.ref l)] vs B ∧ S = Exd Loose fun p => Da K (netD p)
theorem ok__law_loose (F : FunC K mg "_law_loose" "_law_loose" s__law_loose) (T : Z mg) (c__law_draw : Cal P w K mg base "_law_draw" 1 ["_law_pen_here", "_law_count"] spDraw) (c__law_mixed : Cal P w K mg base "_law_mixed" 2 ["_law_pen_here", "_law_things"] (spMix K)) (c__law_pick : Cal P w K mg base "_law_pick" 2 ["_law_pen_here", "_law_some"] (spPick K))
    (c__law_worth : Cal P w K mg base "_law_worth" 1 ["_law_worths", "_law_boxes"] (spWorth K)) (c__law_sets : Cal P w K mg base "_law_sets" 1 ["_law_count"] (spBelow K)) : Cal P w K mg base "_law_loose" 3 ["_law_pen_here"] (spLoose K) := by
  refine F.cal sc__law_loose (fun _ _ _ _ _ _ us hl => match us, hl with | [_], _ => rfl) (fun vs H Q E h => by obtain ⟨_, _, _, _, _, _, ⟨h, _⟩, _⟩ := h; exact all2_len h) (fun f cdv A outer s H vs Q E hr h => ?_)
  obtain ⟨B, S, l, m, e, hp, ⟨p, rfl⟩, q⟩ := h
  obtain ⟨x, rfl, px⟩ := all2_1 p
  obtain rfl : x = V.ref l := px
  have hu := hr.units
  refine ⟨_, (pss_cons (ps_set (i := 1) sc__law_loose.nd rfl (Or.inl rfl) (pe_op (ko_add (K := K)) pe_int (pe_cal c__law_draw hr (by rfl) (pa_cons (pv 0) (pa_cons pe_int pa_nil)))))
      (pss_cons (ps_set (i := 2) sc__law_loose.nd rfl (Or.inr rfl) (pe_callTy (ko_tuple (K := K)) (by rfl) T.z_tuple (by decide +kernel) (pa_cons (pe_lc (own := [("_law_box", 3)]) (g := gName 3) (tt := tYes) rfl sc__law_loose.nd (pi_range1 (by rfl) T.z_range (pa_cons (pv 1) pa_nil)) (blkOk_by (own := [("_law_box", 3)]) (N := N__law_loose) (sc := defScope s__law_loose) (by decide +kernel)) (fun _ _ _ _ _ => (pg_name (i := 3) sc__law_loose.nd rfl (Or.inl rfl))) (fun _ _ _ _ _ => pts_nil) (fun _ _ _ _ _ => (pe_ix (ko_ix (K := K)) (pe_lst (pa_cons pe_int (pa_cons pe_int (pa_cons pe_int (pa_cons pe_int (pa_cons pe_int (pa_cons pe_int pa_nil))))))) (pe_cal c__law_draw hr (by rfl) (pa_cons (pv 0) (pa_cons pe_int pa_nil))) (fun _ _ => rfl)))) pa_nil)))
      (pss_cons (ps_par (i := 4) (j := 5) rfl sc__law_loose.nd rfl rfl (by decide) rfl rfl (pa_cons (pe_cal c__law_mixed hr (by rfl) (pa_cons (pv 0) (pa_cons (pe_listRg rfl (by rfl) T.z_list (prg_1 (by rfl) T.z_range (pv 1))) pa_nil))) (pa_cons (pe_lst pa_nil) pa_nil)) rfl)
      (pss_cons (ps_while PassesOwn.never (PW.pt (pw_and (pt_cmpR (ko_ne hu (K := K)) (pv 4) (pe_lst pa_nil) (nomark _)) (pw_and1 (pt_cmpR op_lt (pe_callB (ko_len (K := K)) (by rfl) T.z_len (by decide +kernel) (pa_cons (pv 5) pa_nil)) pe_int (nomark _))))) (pss_cons (ps_set (i := 6) sc__law_loose.nd rfl (Or.inl rfl) (pe_callB (ac_min rfl) (by rfl) T.z_min (by decide +kernel) (pa_cons (pe_callB (ko_len (K := K)) (by rfl) T.z_len (by decide +kernel) (pa_cons (pv 4) pa_nil)) (pa_cons (pe_ix (ko_ix (K := K)) (pe_lst (pa_cons pe_int (pa_cons pe_int (pa_cons pe_int (pa_cons pe_int pa_nil))))) (pe_cal c__law_draw hr (by rfl) (pa_cons (pv 0) (pa_cons pe_int pa_nil))) (fun _ _ => rfl)) pa_nil))))
      (pss_cons (ps_par (i := 7) (j := 4) rfl sc__law_loose.nd rfl rfl (by decide) rfl rfl (pa_cons (pe_callTy (ko_tuple (K := K)) (by rfl) T.z_tuple (by decide +kernel) (pa_cons (pe_callB (ko_sortedR hr (K := K) (w := w)) (by rfl) T.z_sorted (by decide +kernel) (pa_cons (pe_slice (ko_sl (K := K)) (pv 4) po_none (po_some (pv 6))) pa_nil)) pa_nil)) (pa_cons (pe_slice (ko_sl (K := K)) (pv 4) (po_some (pv 6)) po_none) pa_nil)) rfl)
      (pss_cons (ps_set (i := 8) sc__law_loose.nd rfl (Or.inr rfl) (pe_cal c__law_worth hr (by rfl) (pa_cons (pv 2) (pa_cons (pv 7) pa_nil))))
      (pss_cons (ps_setLc (i := 9) (own := [("_law_boxes", 10)]) (g := gName 10) rfl sc__law_loose.nd rfl rfl (sw_true rfl rfl rfl (by decide +kernel)) (ki_seq (K := K) (pe_cal c__law_sets hr (by rfl) (pa_cons (pv 1) pa_nil))) (blkOk_by (own := [("_law_boxes", 10)]) (N := N__law_loose) (sc := defScope s__law_loose) (by decide +kernel)) (fun _ _ _ _ _ => (pg_name (i := 10) sc__law_loose.nd rfl (Or.inl rfl))) (fun _ _ _ _ _ => pts_one (pt_cmpR (ko_eq hu (K := K)) (pe_cal c__law_worth hr (by rfl) (pa_cons (pv 2) (pa_cons (pv 10) pa_nil))) (pv 8) (nomark _))) (fun _ _ _ _ _ => (pv 10)))
      (pss_one (ps_for PassesOwn.never rfl (pi_range1 (by rfl) T.z_range (pa_cons (pe_callB (ac_min rfl) (by rfl) T.z_min (by decide +kernel) (pa_cons (pe_op op_sub pe_int (pe_callB (ko_len (K := K)) (by rfl) T.z_len (by decide +kernel) (pa_cons (pv 5) pa_nil))) (pa_cons (pe_op (ko_add (K := K)) pe_int (pe_cal c__law_draw hr (by rfl) (pa_cons (pv 0) (pa_cons pe_int pa_nil)))) pa_nil))) pa_nil)) (pg_name (i := 11) sc__law_loose.nd rfl (Or.inl rfl)) (pss_one (ps_expr (pe_bm PySem.F.plainAttrs_list PySem.F.slot_list_append PySem.F.type_list_append mt_append (pv 5) (pa_cons (pe_tup (pa_cons (pv 7) (pa_cons (pe_cal c__law_pick hr (by rfl) (pa_cons (pv 0) (pa_cons (pv 9) pa_nil))) pa_nil))) pa_nil)))))))))))
      (pss_one (ps_ret (pe_tup (pa_cons (pv 2) (pa_cons (pv 5) pa_nil))))))))), ?_⟩
  refine pq_asg e hp (ep_op (ep ev_c) (ep_call (epa (ea_cons (ev_var rfl) (ea_cons ev_c ea_nil))) (spP fun vs B1 _ h => ⟨4, h, by omega, by omega, rfl⟩)) (ov_ex fun i _ => ov_addI)) (by omega) fun v1 B1 H1 g1 hp1 ⟨j, hj, p1⟩ => ?_
  obtain rfl : v1 = V.int (2 + j) := p1
  obtain ⟨n, hn⟩ : ∃ n : Nat, 2 + j = (n : Int) := ⟨(2 + j).toNat, by omega⟩
  have hn2 : 2 ≤ n := by omega
  have hn5 : n ≤ 5 := by omega
  rw [hn]
  refine pq_asg g1.bh hp1 (ep_cb (epa_cons (ep_lc (p := fun i : Int => 1 ≤ i ∧ i ≤ 3) (dd := .int) 1 5 (rangeL 0 n) .int (ei_rng1 (n := (n : Int)) (ea_cons (ev_var rfl) ea_nil) (by omega)) (by simp [rangeL]; omega) (by simp [rangeL]; omega) fun a x B2 H2 Q ha e2 eh dx h => h _ rfl ?_) (epa ea_nil)) (cv_ex1 fun is _ => cv_tuple)) (by omega) fun vw B2 H2 g2 hp2 ⟨ws, hws, pw⟩ => ?_
  · refine (pick_ints (xs := [1, 1, 1, 2, 2, 3]) (ep_op (ep (ev_lst [.int 1, .int 1, .int 1, .int 2, .int 2, .int 3] (ead_cons ev_ci (ead_cons ev_ci (ead_cons ev_ci (ead_cons ev_ci (ead_cons ev_ci (ead_cons ev_ci ead_nil)))))) (by decide))) (ep_call (epa (ea_cons (ev_var rfl) (ea_cons ev_c ea_nil))) (spP fun vs B1 _ h => ⟨6, h, by omega, by omega, rfl⟩)) ov_pickL)).imp fun v B' ⟨i, hi, e⟩ => ⟨i, ?_, ?_⟩
    · simp at hi
      omega
    · rw [show v = V.int i from e]
      exact .int i
  obtain ⟨hwl, hwb⟩ := hws
  have hwl : ws.length = n := by rw [hwl]; simp [rangeL]
  have hwok : okWs ws = true := by
    unfold okWs
    rw [hwl]
    refine Bool.and_eq_true_iff.mpr ⟨by simp; omega, List.all_eq_true.mpr fun x hx => ?_⟩
    have := hwb x hx
    simp
    omega
  have pw' : Dp K B2 vw (TuI ws) := pw
  refine pq_parN (K := K) (ds := []) g2.bh hp2 (ep_call (epa (ea_cons (ev_var rfl) (ea_cons (ev_lstRg (n := n) (ev_var rfl) (by omega)) ea_nil))) (spP fun vs B1 _ h => ⟨(box n).map .int, h, by rw [List.length_map, box_len]; omega, rfl⟩)) (by omega) (en_lst [] ea_nil (by simp)) fun vr0 lc B3 H3 g3 hp3 ⟨es, hes, pr0⟩ hz3 u3 => ?_
  obtain ⟨rest0, hr0, rfl⟩ := perm_of_map hes (box n) rfl
  have hz0 : del H l lc = none := by
    cases zz : del H l lc with
    | none => rfl
    | some o =>
      rw [g2.hh _ _ (g1.hh _ _ zz)] at hz3
      cases hz3
  have g123 := (g1.trans g2).trans g3
  refine pq_while (fun k σ' B' H' => ∃ (rest : List Int) (ds : List Deed) (vr : V) (s3 s6 s7 s8 s9 s10 s11 : Option V), σ' = [some (V.ref l), some (.int (n : Int)), some vw, s3, some vr, some (.ref lc), s6, s7, s8, s9, s10, s11] ∧ Dp K B' vr (LiI rest) ∧ Dp K B' vw (TuI ws) ∧ Ls K l lc B' H' (ds.map DD) ∧ Gr B (del H l) B' (del H' l) ∧ Pn l (m + 4 * rest.length) H' ∧ LInv ws ds rest ∧ ds.length ≤ 6 ∧ rest.length ≤ n ∧ k = rest.length) _
    ⟨rest0, [], vr0, none, none, none, none, none, none, none, rfl, pr0, dp_mono g3.bb _ _ pw', u3, g123, hp3.weak (by rw [hr0.length_eq, box_len]; omega), linv0 (by rw [hwl]; exact hr0), by simp, by rw [hr0.length_eq, box_len]; omega, rfl⟩ ?_
  rintro k σ' B' H' ⟨rest, ds, vr, s3, s6, s7, s8, s9, s10, s11, rfl, dr, dw, u, hg, hpk, inv, dl, rl, rfl⟩
  obtain ⟨xs, u1, u2, u3'⟩ := u
  obtain ⟨kb, kh, kd⟩ := known (K := K) hg.bh u1 u2 u3'
  refine ⟨_, !decide (rest = []) && decide ((ds.length : Int) < 6), kb, same_del kh, et_and (et_is (et_test (ev_op (ev_D rfl (dp_mono kb _ _ dr)) (ev_lst [] ea_nil (by simp)) (ov_ned (sk_li (k := 0) rest).sh (sk_nilL (k := 0)).sh))) (by rw [eqv_li0])) (fun _ => et_is (et_test (ev_op (ev_cb (ea_cons (ev_D rfl kd) ea_nil) cv_lenl) ev_c ov_I0)) (by rw [List.length_map])), fun ht H4 g4 => ?_, fun hf H4 g4 => ?_⟩
  · obtain ⟨ht1, ht2⟩ := Bool.and_eq_true_iff.mp ht
    have hne : rest ≠ [] := by simpa using ht1
    have hdl : ds.length < 6 := by have := of_decide_eq_true ht2; omega
    have hrl : 0 < rest.length := List.length_pos_iff.mpr hne
    have g4' := g4.del hg.bh hpk
    have hp4 := hpk.keep g4.hh
    refine pq_asg g4'.bh hp4 (ep_cb (epa_cons (k1 := 0) (k2 := 0 + (0 + 1) + 0) (ep (ev_cb (ea_cons (ev_D rfl dr) ea_nil) cv_lenl)) (epa_cons (pick_ints (xs := [1, 1, 1, 2]) (ep_op (ep (ev_lst [.int 1, .int 1, .int 1, .int 2] (ead_cons ev_ci (ead_cons ev_ci (ead_cons ev_ci (ead_cons ev_ci ead_nil)))) (by decide))) (ep_call (epa (ea_cons (ev_var rfl) (ea_cons ev_c ea_nil))) (spP fun vs B1 _ h => ⟨4, h, by omega, by omega, rfl⟩)) ov_pickL)) (epa ea_nil))) (cv_ex2 fun i _ => cv_min)) (by omega) fun v6 B5 H5 g5 hp5 ⟨i, hi, p6⟩ => ?_
    rw [List.length_map] at p6
    obtain ⟨sz, hsz, hsz1, hsz2⟩ : ∃ sz : Nat, v6 = V.int (sz : Int) ∧ 1 ≤ sz ∧ sz ≤ rest.length := by
      have hi' : 1 ≤ i := by simp at hi; omega
      refine ⟨(if i < (rest.length : Int) then i else (rest.length : Int)).toNat, ?_, ?_, ?_⟩
      · rw [show v6 = V.int _ from p6]
        congr 1
        split <;> omega
      · split <;> omega
      · split <;> omega
    subst hsz
    have din := inv.cut hsz1 hne
    generalize htt : srt (rest.take sz) = t at *
    have dr5 := dp_mono (g4'.bb.trans g5.bb) _ _ dr
    refine pq_par (P := Da K (TuI t)) (R := Da K (LiI (rest.drop sz))) g5.bh hp5 (epa (ea_cons (ev_is (ev_cb (ea_cons (ev_cb (ea_cons (ev_is (ev_slL (ev_D rfl dr5) eo_none (eo_some (ev_var rfl))) (e := LiI (rest.take sz)) (by rw [cutD_to (by omega), Int.toNat_natCast, ← List.map_take]) ) ea_nil) cv_sints) ea_nil) cv_tuple) (by rw [htt])) (ea_cons (ev_is (ev_slL (ev_D rfl dr5) (eo_some (ev_var rfl)) eo_none) (by rw [cutD_from (by omega), Int.toNat_natCast, ← List.map_drop])) ea_nil))) (Nat.zero_le _) fun v7 v4 B6 H6 g6 hp6 p7 p4 => ?_
    have dw6 := dp_mono ((g4'.bb.trans g5.bb).trans g6.bb) _ _ dw
    have hws : ws.length ≤ 1000 := by omega
    have htl := isSet_len din.s
    refine pq_asg g6.bh hp6 (ep (ev_call (ea_cons (ev_D rfl dw6) (ea_cons (ev_D rfl p7) ea_nil)) (spv fun vs B1 _ h => ⟨ws, t, h, din.s.1, by omega, rfl⟩))) (Nat.zero_le _) fun v8 B7 H7 g7 hp7 p8 => ?_
    obtain rfl : v8 = V.int (worthB ws t) := p8
    have dw7 := dp_mono g7.bb _ _ dw6
    have hsl : (ordS (subs n)).length ≤ 64 := by rw [(ordS_perm _).length_eq]; exact subs_small (by omega)
    refine pq_asg g7.bh hp7 (ep (ev_lc (ordS (subs n)) TuI (fun s => decide (worthB ws s = worthB ws t)) TuI (ei_lst (ev_call (ea_cons (ev_var rfl) ea_nil) (spv fun vs B1 _ h => ⟨n, h, by omega, rfl⟩))) (by omega) fun a v B2 ha e2 dv => lt_name rfl (et_test (ev_op (ev_call (ea_cons (ev_D rfl (dp_mono e2 _ _ dw7)) (ea_cons (ev_D rfl dv) ea_nil)) (spv fun vs B3 _ h => ⟨ws, a, h, ?_, ?_, rfl⟩)) (ev_var rfl) ov_eqi)) fun _ => ev_D rfl dv)) (Nat.zero_le _) fun v9 B8 H8 g8 hp8 p9 => ?_
    · rw [show Inr ws.length a ↔ Inr n a by rw [hwl]]
      exact (subs_isSet ((ordS_perm _).mem_iff.mp ha)).1
    · have := subs_sml ((ordS_perm _).mem_iff.mp ha)
      omega
    · have gB := (((g4'.trans g5).trans g6).trans g7).trans g8
      have hg8 := hg.trans gB
      have u8 : Ls K l lc B8 H8 (ds.map DD) := Ls.gr ⟨xs, u1, u2, u3'⟩ gB
      obtain ⟨xs8, w1, w2, w3⟩ := u8
      obtain ⟨kb8, kh8, kd8⟩ := known (K := K) hg8.bh w1 w2 w3
      have p78 := dp_mono (g7.bb.trans g8.bb) _ _ p7
      have p48 := dp_mono (g7.bb.trans g8.bb) _ _ p4
      have dw8 := dp_mono g8.bb _ _ dw7
      generalize hsame : ((ordS (subs n)).filter fun s => decide (worthB ws s = worthB ws t)) = same at p9
      have htm : t ∈ same := by
        rw [← hsame]
        exact List.mem_filter.mpr ⟨(ordS_perm _).mem_iff.mpr (isSet_subs (by rw [← hwl]; exact din.s)), decide_eq_true rfl⟩
      have hsm : same.length ≤ 64 := by
        rw [← hsame]
        exact Nat.le_trans (List.length_filter_le _ _) hsl
      refine p_forK (K := K) (l := l) (m := m + 4 * rest.length - (0 + (0 + (0 + 1) + 0)) - 0 - 0 - 0) 1 (k := 0 + (0 + (0 + 1) + 0) + 0) (n := 2) hg8 kb8 kh8 hp8 (by omega)
        (hi_rng (p := fun k => 0 ≤ k ∧ k ≤ 2 ∧ (ds.length : Int) + k ≤ 6) kh8 hp8 (epa_cons ((ep_cb (epa_cons (ep (ev_op ev_c (ev_cb (ea_cons (ev_D rfl kd8) ea_nil) cv_lenl) ov_I0)) (epa_cons (ep_op (ep ev_c) (ep_call (epa (ea_cons (ev_var rfl) (ea_cons ev_c ea_nil))) (spP fun vs B1 _ h => ⟨2, h, by omega, by omega, rfl⟩)) (ov_ex fun i _ => ov_addI)) (epa ea_nil))) (cv_ex2 fun i _ => cv_min)).imp fun v B' ⟨i, hi, e⟩ => ⟨_, ?_, e⟩) (epa ea_nil)) (by omega) (by omega))
        (fun d ⟨n, hn, hd⟩ => by rw [hd]; simp [rangeL]; omega)
        (fun _ i σ' B' H' => ∃ (s11 : Option V) (ds' : List Deed), σ' = [some (V.ref l), some (.int (n : Int)), some vw, s3, some v4, some (.ref lc), some (.int (sz : Int)), some v7, some (.int (worthB ws t)), some v9, s10, s11] ∧ Ls K l lc B' H' (ds'.map DD) ∧ DIn ws ds' (rest.drop sz) t ∧ ds'.length = ds.length + i ∧ Dp K B' v4 (LiI (rest.drop sz)) ∧ Dp K B' v7 (TuI t) ∧ Dp K B' v9 (.list (same.map TuI)) ∧ Dp K B' vw (TuI ws)) ?_ ?_ ?_
      · rw [List.length_map]
        split <;> omega
      · intro ds0 H9 _ g9
        exact ⟨s11, ds, rfl, Ls.gr ⟨xs8, w1, w2, w3⟩ g9, din, rfl, p48, p78, p9, dw8⟩
      · rintro ds0 i zz σ' B0 H0 B' H' d M N ⟨k, hk, rfl⟩ ⟨s11, ds', rfl, u, di, el, a4, a7, a9, aw⟩ hg0 g hpM hd dz fin
        have hi : i < k.toNat := by
          have := (List.getElem?_eq_some_iff.mp hd).1
          simpa [rangeL] using this
        have a7' := dp_mono g.bb _ _ a7
        have a9' := dp_mono g.bb _ _ a9
        have hnem : same.map TuI ≠ [] := fun z => by
          rw [List.map_eq_nil_iff.mp z] at htm
          cases htm
        have pk : EVp (tCall (spPick K) [] E0 (tCons (tVar 0) (tCons (tVar 9) tNil))) l (0 + 1) [some (V.ref l), some (.int (n : Int)), some vw, s3, some v4, some (.ref lc), some (.int (sz : Int)), some v7, some (.int (worthB ws t)), some v9, s10, some zz] B' (Exd (fun s : List Int => s ∈ same) fun s => Da K (TuI s)) := by
          refine (ep_call (epa (ea_cons (ev_var rfl) (ea_cons (ev_D rfl a9') ea_nil))) (spP fun vs B1 _ h => ⟨true, same.map TuI, h, hnem, by rw [List.length_map]; omega, rfl⟩)).imp fun v B' h => ?_
          obtain ⟨d, hd, hv⟩ := h
          obtain ⟨s, hs, rfl⟩ := List.mem_map.mp hd
          exact ⟨s, hs, hv⟩
        refine p_appc (K := K) (hg0.trans g) hz0 hpM (u.gr g) (ev_var rfl) (ep_tup2 (p := fun _ : Unit => True) (d := fun _ => TuI t) (r := fun s : List Int => s ∈ same) (f := fun s => TuI s) ((ep (ev_D rfl a7')).imp fun v B' h => ⟨(), trivial, h⟩) pk) (by omega) (by rw [List.length_map]; omega) fun ⟨_, s⟩ B9 H9 ⟨_, hs⟩ g9 e9 hp9 u9 => ?_
        have hs' := hs
        rw [← hsame] at hs'
        obtain ⟨hs1, hs2⟩ := List.mem_filter.mp hs'
        have hset := subs_isSet ((ordS_perm _).mem_iff.mp hs1)
        refine fin _ B9 H9 g9 e9 (hp9.weak (by omega)) ⟨_, ds' ++ [(t, s)], rfl, u9.is ?_, di.app hwb (by rw [hwl]; exact hset) (of_decide_eq_true hs2), by rw [List.length_append, el]; rfl, dp_mono (g.bb.trans e9) _ _ a4, dp_mono e9 _ _ a7', dp_mono e9 _ _ a9', dp_mono (g.bb.trans e9) _ _ aw⟩
        rw [List.map_append]
        rfl
      · rintro ds0 σ' B' H' ⟨k, hk, rfl⟩ hg0 _ hpM ⟨s11, ds', rfl, u, di, el, a4, a7, a9, aw⟩
        have hrd : (rest.drop sz).length = rest.length - sz := List.length_drop
        refine ⟨(rest.drop sz).length, B', by omega, rest.drop sz, ds', v4, _, _, _, _, _, _, _, rfl, a4, aw, u, hg0, hpM.weak (by omega), di.i, ?_, by omega, rfl⟩
        rw [el]
        simp [rangeL]
        omega
  · have g4' := g4.del hg.bh hpk
    obtain ⟨Bf, gf, ef, df⟩ := Ls.fix (K := K) (ds := ds.map DD) (Ls.gr ⟨xs, u1, u2, u3'⟩ g4') (hg.trans g4') hz0
    refine p_ret gf.bh (hpk.keep g4.hh) (ep (ev_tup [TuI ws, .list (ds.map DD)] (ea_cons (ev_D rfl (dp_mono ef _ _ dw)) (ea_cons (ev_D rfl df) ea_nil)) (by simp))) (Nat.zero_le _) fun v B5 H5 g5 hp5 pv => ?_
    exact q v B5 H5 (gf.trans g5) (hp5.weak (by omega)) ⟨(ws, ds), ⟨hwok, by show 2 ≤ ws.length; omega, dl, inv.d, inv.f⟩, pv⟩
end
end CN
set_option Elab.async false
set_option linter.all false
set_option maxRecDepth 100000
set_option maxHeartbeats 4000000
/-! E8: drawn nets. -/
namespace CN
open PySem PySem.Spec PyProof.Rows L2 CM
section
variable {X : Cx} {K : PySem.W.Frag} {T name id : String} {r : V → List V → Hp → VK → Prop} {o e : Expr} {es : List Expr} {to : TE} {t : TA} {apos cpos : Pos}
theorem ko_index (hK : X.K = K := by rfl) : MtR X "list.index" (rIndex K) := hK ▸ mt_index
theorem pe_bmK (pa : PlainAttrs T) (slot : Slot T name id) (hty : typeOf (.builtin id) = pure (.type "method_descriptor")) (hm : MtR X id r) (ho : PE X o to) (ha : PA X (e :: es) t) (hK : X.K = K := by rfl)
    (hbase : attributeBase o name X.env (eval o X.env) = eval o X.env := by rfl)
    (hfew : ((backTo cpos (starEach (e :: es) X.env)).all (fun x => !x.1) && (backToKw cpos (keywordEach [] X.env)).all (fun x => x.1.isSome)
      && decide ((e :: es).length + ([] : List Keyword).length + (if ([] : List Keyword).isEmpty then 0 else 1) < 30)) = true := by rfl)
    (hline : (apos.endLine == cpos.line) = true := by rfl) (hs : starEach (e :: es) X.env = (false, eval e X.env) :: starEach es X.env := by rfl) (hplain : (backTo cpos (starEach es X.env)).any (·.1) = false := by rfl) :
    PE X (.Call (.Attribute o name apos) (e :: es) [] cpos) (tBM K T r to t) := hK ▸ pe_bm pa slot hty hm ho ha hbase hfew hline hs hplain
end
section
variable {P : Program} {w : World} {K : PySem.W.Frag} {mg : Str → Option Value} {base : Heap} {C : Addr}
theorem pq_ifAsg2 {i1 j1 : Nat} {ι : Type} {p : ι → Prop} {d1 d2 : ι → PyData} {te : TE} {t : TT} {tz : TS} {D : Ends} {σ : L2.St} {B H : Hp} {l : Addr} {m k : Nat} {b : Bool} (e : Same B (del H l)) (hp : Pn l m H) (h : ET t σ B b) (h1 : b = true → EVp te l k σ B (Exd p fun i => Da K (.tuple [d1 i, d2 i]))) (hk : k ≤ m)
    (q : ∀ σ' B' H', Gr B (del H l) B' (del H' l) → Pn l (m - k) H' → ((b = true ∧ ∃ i v1 v2, p i ∧ Dp K B' v1 (d1 i) ∧ Dp K B' v2 (d2 i) ∧ σ' = (σ.set i1 (some v1)).set j1 (some v2)) ∨ (b = false ∧ σ' = σ)) → tz D σ' H') :
    tSeq (tIfS t (tAsg te (gTup K 2 (gCons (gName i1) (gCons (gName j1) gNil)))) tNext) tz D σ H := pq_if e hp h (fun hb B1 H1 g1 hp1 => by
  refine h1 hb B1 H1 (m - k) g1.bb g1.bh (hp1.weak (by omega)) _ fun v B' H' g z ⟨i0, hp0, pp⟩ => ?_
  obtain ⟨a, xs, rfl, hs, ha⟩ := dp_tup_inv pp
  cases ha with
  | cons a1 a2 =>
    cases a2 with
    | cons a3 a4 =>
      cases a4
      exact ⟨a, _, rfl, sqt_mono (same_del g.bh) hs, rfl, _, _, rfl, _, _, rfl, rfl, q _ B' H' (g1.trans g) z (.inl ⟨hb, i0, _, _, hp0, a1, a3, rfl⟩)⟩) fun hb B1 H1 g1 hp1 => q σ B1 H1 g1 (hp1.weak (by omega)) (.inr ⟨hb, rfl⟩)
theorem rangeL_box (n : Nat) : rangeL 0 n = box n := by
  unfold rangeL box
  exact List.map_congr_left fun i _ => by omega
abbrev s__law_net : Stmt := topS 84
abbrev N__law_net : List Str := ["_law_pen_here", "_law_kind", "_law_worths", "_law_deeds", "_law_names", "_law_turned", "_law_takes", "_law_puts", "_law_one", "_law_other", "_law_box", "_law_given"]
theorem sc__law_net : FnScope N__law_net ["_law_pen_here"] (defScope s__law_net) := ⟨rfl, rfl, rfl, by decide +kernel, rfl, by decide +kernel, by decide +kernel⟩
def spNet (K : PySem.W.Frag) : Sp := pSpP 100 fun l vs B S => All2 [Xv (.ref l)] vs B ∧ S = NetX K
theorem ok__law_net (F : FunC K mg "_law_net" "_law_net" s__law_net) (T : Z mg) (c__law_draw : Cal P w K mg base "_law_draw" 1 ["_law_pen_here", "_law_count"] spDraw) (c__law_mixed : Cal P w K mg base "_law_mixed" 2 ["_law_pen_here", "_law_things"] (spMix K)) (c__law_loose : Cal P w K mg base "_law_loose" 3 ["_law_pen_here"] (spLoose K))
    (c__law_met : Cal P w K mg base "_law_met" 1 ["_law_deeds"] (spLMet K)) (c__law_kit : Cal P w K mg base "_law_kit" 3 ["_law_pen_here"] (spNetX K)) (c__law_ring : Cal P w K mg base "_law_ring" 2 ["_law_pen_here"] (spNetX K)) : Cal P w K mg base "_law_net" 4 ["_law_pen_here"] (spNet K) := by
  refine F.cal sc__law_net (fun _ _ _ _ _ _ us hl => match us, hl with | [_], _ => rfl) (fun vs H Q E h => by obtain ⟨_, _, _, _, _, _, ⟨h, _⟩, _⟩ := h; exact all2_len h) (fun f cdv A outer s H vs Q E hr h => ?_)
  obtain ⟨B, S, l, m, e, hp, ⟨p, rfl⟩, q⟩ := h
  obtain ⟨x, rfl, px⟩ := all2_1 p
  obtain rfl : x = V.ref l := px
  have hu := hr.units
  refine ⟨_, (pss_cons (ps_set (i := 1) sc__law_net.nd rfl (Or.inl rfl) (pe_cal c__law_draw hr (by rfl) (pa_cons (pv 0) (pa_cons pe_int pa_nil))))
      (pss_cons (ps_asg (pe_cal c__law_loose hr (by rfl) (pa_cons (pv 0) pa_nil)) (kg_tup (K := K) rfl (pgs_cons (pg_name (i := 2) sc__law_net.nd rfl (Or.inr rfl)) (pgs_cons (pg_name (i := 3) sc__law_net.nd rfl (Or.inl rfl)) pgs_nil))))
      (pss_cons (ps_if (PW.pt (pw_or (pt_cmpR op_lt (pv 1) pe_int (nomark _)) (pw_or1 (pt_cmpR op_lt (pe_callB (ko_len (K := K)) (by rfl) T.z_len (by decide +kernel) (pa_cons (pe_cal c__law_met hr (by rfl) (pa_cons (pv 3) pa_nil)) pa_nil)) (pe_callB (ko_len (K := K)) (by rfl) T.z_len (by decide +kernel) (pa_cons (pv 2) pa_nil)) (nomark _))))) (pss_one (ps_asg (pe_ifExp (pt_cmpR (ko_in (K := K)) (pv 1) (pe_tup (pa_cons pe_int (pa_cons pe_int pa_nil))) rfl) (pe_cal c__law_kit hr (by rfl) (pa_cons (pv 0) pa_nil)) (pe_cal c__law_ring hr (by rfl) (pa_cons (pv 0) pa_nil))) (kg_tup (K := K) rfl (pgs_cons (pg_name (i := 2) sc__law_net.nd rfl (Or.inr rfl)) (pgs_cons (pg_name (i := 3) sc__law_net.nd rfl (Or.inl rfl)) pgs_nil))))) pss_nil)
      (pss_cons (ps_set (i := 4) sc__law_net.nd rfl (Or.inr rfl) (pe_cal c__law_mixed hr (by rfl) (pa_cons (pv 0) (pa_cons (pe_listRg rfl (by rfl) T.z_list (prg_1 (by rfl) T.z_range (pe_callB (ko_len (K := K)) (by rfl) T.z_len (by decide +kernel) (pa_cons (pv 2) pa_nil)))) pa_nil))))
      (pss_cons (ps_set (i := 5) sc__law_net.nd rfl (Or.inl rfl) (pe_lst pa_nil))
      (pss_cons (ps_for PassesOwn.never rfl (ki_seq (K := K) (pv 3)) (kg_tup (K := K) rfl (pgs_cons (pg_name (i := 6) sc__law_net.nd rfl (Or.inl rfl)) (pgs_cons (pg_name (i := 7) sc__law_net.nd rfl (Or.inl rfl)) pgs_nil))) (pss_cons (ps_par (i := 8) (j := 9) rfl sc__law_net.nd rfl rfl (by decide) rfl rfl (pa_cons (pe_lc (own := [("_law_box", 10)]) (g := gName 10) (tt := tYes) rfl sc__law_net.nd (ki_seq (K := K) (pv 6)) (blkOk_by (own := [("_law_box", 10)]) (N := N__law_net) (sc := defScope s__law_net) (by decide +kernel)) (fun _ _ _ _ _ => (pg_name (i := 10) sc__law_net.nd rfl (Or.inl rfl))) (fun _ _ _ _ _ => pts_nil) (fun _ _ _ _ _ => (pe_ix (ko_ix (K := K)) (pv 4) (pv 10) (fun _ _ => rfl)))) (pa_cons (pe_lc (own := [("_law_box", 10)]) (g := gName 10) (tt := tYes) rfl sc__law_net.nd (ki_seq (K := K) (pv 7)) (blkOk_by (own := [("_law_box", 10)]) (N := N__law_net) (sc := defScope s__law_net) (by decide +kernel)) (fun _ _ _ _ _ => (pg_name (i := 10) sc__law_net.nd rfl (Or.inl rfl))) (fun _ _ _ _ _ => pts_nil) (fun _ _ _ _ _ => (pe_ix (ko_ix (K := K)) (pv 4) (pv 10) (fun _ _ => rfl)))) pa_nil)) rfl)
      (pss_one (ps_expr (pe_bm PySem.F.plainAttrs_list PySem.F.slot_list_append PySem.F.type_list_append mt_append (pv 5) (pa_cons (pe_tup (pa_cons (pe_callTy (ko_tuple (K := K)) (by rfl) T.z_tuple (by decide +kernel) (pa_cons (pe_callB (ko_sortedR hr (K := K) (w := w)) (by rfl) T.z_sorted (by decide +kernel) (pa_cons (pv 8) pa_nil)) pa_nil)) (pa_cons (pe_callTy (ko_tuple (K := K)) (by rfl) T.z_tuple (by decide +kernel) (pa_cons (pe_callB (ko_sortedR hr (K := K) (w := w)) (by rfl) T.z_sorted (by decide +kernel) (pa_cons (pv 9) pa_nil)) pa_nil)) pa_nil))) pa_nil))))))
      (pss_cons (ps_setLc (i := 11) (own := [("_law_box", 10)]) (g := gName 10) (tt := tYes) rfl sc__law_net.nd rfl rfl (sw_true rfl rfl rfl (by decide +kernel)) (pi_range1 (by rfl) T.z_range (pa_cons (pe_callB (ko_len (K := K)) (by rfl) T.z_len (by decide +kernel) (pa_cons (pv 2) pa_nil)) pa_nil)) (blkOk_by (own := [("_law_box", 10)]) (N := N__law_net) (sc := defScope s__law_net) (by decide +kernel)) (fun _ _ _ _ _ => (pg_name (i := 10) sc__law_net.nd rfl (Or.inl rfl))) (fun _ _ _ _ _ => pts_nil) (fun _ _ _ _ _ => (pe_ix (ko_ix (K := K)) (pv 2) (pe_bmK (K := K) PySem.F.plainAttrs_list PySem.F.slot_list_index PySem.F.type_list_index (ko_index (K := K)) (pv 4) (pa_cons (pv 10) pa_nil)) (fun _ _ => rfl))))
      (pss_one (ps_ret (pe_tup (pa_cons (pe_callTy (ko_tuple (K := K)) (by rfl) T.z_tuple (by decide +kernel) (pa_cons (pv 11) pa_nil)) (pa_cons (pe_cal c__law_mixed hr (by rfl) (pa_cons (pv 0) (pa_cons (pv 5) pa_nil))) pa_nil)))))))))))), ?_⟩
  refine pq_asg e hp (ep_call (epa (ea_cons (ev_var rfl) (ea_cons ev_c ea_nil))) (spP fun vs B1 _ h => ⟨4, h, by omega, by omega, rfl⟩)) (by omega) fun v1 B1 H1 g1 hp1 ⟨j, hj, p1⟩ => ?_
  obtain rfl : v1 = V.int j := p1
  refine pq_asg2 (K := K) (p := Loose) (d1 := fun p => TuI p.1) (d2 := fun p => .list (p.2.map DD)) g1.bh hp1 (ep_call (epa (ea_cons (ev_var rfl) ea_nil)) (spP fun vs B1 _ h => ⟨h, rfl⟩)) (by omega) fun lo v2 v3 B2 H2 hlo g2 hp2 p2 p3 => ?_
  have h5 := okWs_iff hlo.w
  have n2 := hlo.n
  have two := two_met (n := lo.1.length) h5.1 (fun d hd => ⟨(hlo.d d hd).s1, (hlo.d d hd).s2⟩) 5
  refine pq_ifAsg2 (K := K) (p := fun p : List Int × List Deed => NetOk p.1 p.2) (d1 := fun p => TuI p.1) (d2 := fun p => .list (p.2.map DD)) (b := decide (j < 2) || decide (((asc (lmet lo.2 5)).length : Int) < (lo.1.length : Int))) g2.bh hp2
    (et_or (et_test (ev_op (ev_var rfl) ev_c ov_I0)) fun _ => et_is (et_test (ev_op (ev_cb (ea_cons (ev_call (ea_cons (ev_D rfl p3) ea_nil) (spv fun vs B3 _ h => ⟨lo.1.length, lo.2, h, h5.1, by omega, by have := hlo.l; omega, fun d hd => ⟨(hlo.d d hd).s1, (hlo.d d hd).s2⟩, rfl⟩)) ea_nil) cv_lent) (ev_cb (ea_cons (ev_D rfl p2) ea_nil) cv_lent) ov_I0)) (by rw [List.length_map, List.length_map]))
    (fun _ => ep_if (et_test (ev_op (ev_var rfl) (ev_tup [.int 0, .int 2] (ead_cons ev_ci (ead_cons ev_ci ead_nil)) (by decide)) (ov_inTI (xs := [0, 2])))) (fun _ => ep_call (epa (ea_cons (ev_var rfl) ea_nil)) (spP fun vs B3 _ h => ⟨h, rfl⟩)) fun _ => ep_call (epa (ea_cons (ev_var rfl) ea_nil)) (spP fun vs B3 _ h => ⟨h, rfl⟩)) (by omega) fun σ' B3 H3 g3 hp3 hor => ?_
  obtain ⟨ws, ds, v2', v3', rfl, ok, q2, q3⟩ : ∃ ws ds v2' v3', σ' = [some (V.ref l), some (.int j), some v2', some v3', none, none, none, none, none, none, none, none] ∧ NetOk ws ds ∧ Dp K B3 v2' (TuI ws) ∧ Dp K B3 v3' (.list (ds.map DD)) := by
    rcases hor with ⟨_, np, w1, w2, hnp, a1, a2, rfl⟩ | ⟨hb, rfl⟩
    · exact ⟨np.1, np.2, w1, w2, rfl, hnp, a1, a2⟩
    · have h2 := (Bool.or_eq_false_iff.mp hb).2
      have h3 := of_decide_eq_false h2
      exact ⟨lo.1, lo.2, v2, v3, rfl, hlo.net (by omega), dp_mono g3.bb _ _ p2, dp_mono g3.bb _ _ p3⟩
  have hw5 := ok.w5
  have hg3 := (g1.trans g2).trans g3
  refine pq_asg g3.bh hp3 (ep_call (epa (ea_cons (ev_var rfl) (ea_cons (ev_lstRg (n := ws.length) (by
    have := ev_cb (ea_cons (ev_D (K := K) (σ := [some (V.ref l), some (.int j), some v2', some v3', none, none, none, none, none, none, none, none]) (i := 2) rfl q2) ea_nil) (cv_lent (K := K) (B := B3))
    rwa [List.length_map] at this) (by omega)) ea_nil))) (spP fun vs B1 _ h => ⟨(box ws.length).map .int, h, by rw [List.length_map, box_len]; omega, rfl⟩)) (by omega) fun v4 B4 H4 g4 hp4 ⟨es, hes, p4⟩ => ?_
  obtain ⟨N, hN, rfl⟩ := perm_of_map hes (box ws.length) rfl
  have hNl : N.length = ws.length := nam_len hN
  have p4' : Dp K B4 v4 (LiI N) := p4
  refine pq_new (K := K) g4.bh hp4 (en_lst [] ea_nil (by simp)) fun lc xs0 B5 H5 g5 hp5 ne5 hz5 k5 b5 d5 => ?_
  have hg5 := (hg3.trans g4).trans g5
  have hz0 : del H l lc = none := by
    cases zz : del H l lc with
    | none => rfl
    | some o =>
      rw [(hg3.trans g4).hh _ _ zz] at hz5
      cases hz5
  have q35 := dp_mono (g4.bb.trans g5.bb) _ _ q3
  refine pq_for (K := K) (l := l) 0 (k := 0) (n := 6) hg5 hp5 (eip (ei_lst (ev_D rfl q35))) (fun d hd => by rw [hd, List.length_map]; exact ok.l) (by omega)
    (fun _ i σ' B' H' => ∃ (s6 s7 s8 s9 s10 : Option V), σ' = [some (V.ref l), some (.int j), some v2', some v3', some v4, some (.ref lc), s6, s7, s8, s9, s10, none] ∧ Ls K l lc B' H' (((ds.take i).map (ren N)).map DD) ∧ Dp K B' v4 (LiI N) ∧ Dp K B' v2' (TuI ws))
    (fun _ B6 H6 _ g6 => ⟨none, none, none, none, none, rfl, Ls.gr ⟨xs0, k5, b5, d5⟩ g6, dp_mono (g5.bb.trans g6.bb) _ _ p4', dp_mono ((g4.bb.trans g5.bb).trans g6.bb) _ _ q2⟩) ?_ ?_
  · rintro ds0 i zz σ' B0 H0 B' H' dd M Nx rfl ⟨s6, s7, s8, s9, s10, rfl, u, a4, a2⟩ hg0 g hpM hdd dz fin
    obtain ⟨d, hd, rfl⟩ := map_get hdd
    have hdm := List.mem_of_getElem? hd
    have od := ok.d d hdm
    have l1 := isSet_len od.s1
    have l2 := isSet_len od.s2
    have tk : ds.take (i + 1) = ds.take i ++ [d] := by rw [List.take_add_one, hd]; rfl
    refine g_tup2 (same_del g.bh) dz fun x1 x2 r1 r2 => ?_
    have a4' := dp_mono g.bb _ _ a4
    have hel : ∀ {s : List Int} {σ : L2.St} {x : V} {B2 : Hp} {a : Int}, IsSet ws.length s → a ∈ s → Same B' B2 → σ[4]? = some (some v4) → σ[10]? = some (some x) → Dp K B2 x (.int a) → EV (tOp (rIx K) (tVar 4) (tVar 10)) σ B2 (Da K (.int (nam N a))) := fun hs ha e2 h4 h10 dv => by
      have hr := hs.1 _ ha
      rw [← hNl] at hr
      exact ev_op (ev_D h4 (dp_mono e2 _ _ a4')) (ev_var (by rw [dp_int_inv dv] at h10; exact h10)) (ov_ixl (Int.toNat_of_nonneg hr.1).symm (get_of hr))
    refine pq_par (P := Da K (LiI (d.1.map (nam N)))) (R := Da K (LiI (d.2.map (nam N)))) g.bh hpM (epa (ea_cons (ev_lcI d.1 .int (nam N) (ei_tup (ev_D rfl r1)) (by omega) fun a v B2 ha e2 dv => lt_name rfl et_yes fun _ => hel od.s1 ha e2 rfl rfl dv) (ea_cons (ev_lcI d.2 .int (nam N) (ei_tup (ev_D rfl r2)) (by omega) fun a v B2 ha e2 dv => lt_name rfl et_yes fun _ => hel od.s2 ha e2 rfl rfl dv) ea_nil))) (Nat.zero_le _) fun y1 y2 B6 H6 g6 hp6 t1 t2 => ?_
    refine p_appc (K := K) (p := fun _ : Unit => True) (d := fun _ => DD (ren N d)) ((hg0.trans g).trans g6) hz0 hp6 ((u.gr g).gr g6) (ev_var rfl) ((ep (ev_tup [TuI (srt (d.1.map (nam N))), TuI (srt (d.2.map (nam N)))] (ead_cons (ev_cb (ea_cons (ev_cb (ea_cons (ev_D rfl t1) ea_nil) cv_sints) ea_nil) cv_tuple) (ead_cons (ev_cb (ea_cons (ev_cb (ea_cons (ev_D rfl t2) ea_nil) cv_sints) ea_nil) cv_tuple) ead_nil)) (by simp))).imp fun v B' h => ⟨(), trivial, h⟩) (Nat.zero_le _) (by rw [List.length_map, List.length_map, List.length_take]; have := ok.l; omega) fun _ B7 H7 _ g7 e7 hp7 u7 => ?_
    refine fin _ B7 H7 g7 (g6.bb.trans e7) (hp7.weak (by omega)) ⟨_, _, _, _, _, rfl, u7.is ?_, dp_mono (g6.bb.trans e7) _ _ a4', dp_mono (g.bb.trans (g6.bb.trans e7)) _ _ a2⟩
    rw [tk, List.map_append, List.map_append]
    rfl
  · rintro ds0 σ' B' H' rfl hg _ hpM ⟨s6, s7, s8, s9, s10, rfl, u, a4, a2⟩
    rw [List.length_map, List.take_length] at u
    refine pq_asg (P := Da K (LiI (givn ws N))) hg.bh hpM (ep (ev_is (ev_lcI (rangeL 0 ws.length) .int (fun b => ws.getD (N.idxOf b) 0) (ei_rng1 (n := ((ws.length : Nat) : Int)) (ea_cons (by
      have := ev_cb (ea_cons (ev_D (K := K) (σ := [some (V.ref l), some (.int j), some v2', some v3', some v4, some (.ref lc), s6, s7, s8, s9, s10, none]) (i := 2) rfl a2) ea_nil) (cv_lent (K := K) (B := B'))
      rwa [List.length_map] at this) ea_nil) (by omega)) (by simp [rangeL]; omega) fun a v B2 ha e2 dv => lt_name rfl et_yes fun _ => ?_) (e := LiI (givn ws N)) (by rw [rangeL_box]; rfl))) (Nat.zero_le _) fun v11 B8 H8 g8 hp8 p11 => ?_
    · rw [rangeL_box] at ha
      have hm : a ∈ N := hN.mem_iff.mpr ha
      have hil := List.idxOf_lt_length_of_mem hm
      rw [hNl] at hil
      exact ev_op (ev_D rfl (dp_mono e2 _ _ a2)) (ev_index (ev_D rfl (dp_mono e2 _ _ a4)) (ev_var (by rw [dp_int_inv dv]; rfl)) hm) (ov_ixt (j := N.idxOf a) rfl (by rw [List.getElem?_map, List.getD_eq_getElem?_getD, List.getElem?_eq_getElem hil]; rfl))
    · obtain ⟨Bf, gf, ef, df⟩ := (u.gr g8).fix (hg.trans g8) hz0
      refine p_ret gf.bh hp8 (ep_tup2 (p := fun _ : Unit => True) (d := fun _ => TuI (givn ws N)) ((ep (ev_cb (ea_cons (ev_D rfl (dp_mono ef _ _ p11)) ea_nil) cv_tuple)).imp fun v B' h => ⟨(), trivial, h⟩) (ep_call (epa (ea_cons (ev_var rfl) (ea_cons (ev_D rfl df) ea_nil))) (spP fun vs B1 _ h => ⟨_, h, by rw [List.length_map, List.length_map]; have := ok.l; omega, rfl⟩))) (by omega) fun v B9 H9 g9 hp9 ⟨⟨_, es⟩, ⟨_, hes⟩, pv⟩ => ?_
      obtain ⟨ds2, hds2, hes2⟩ := perm_of_map hes _ rfl
      refine q v B9 H9 (gf.trans g9) (hp9.weak (by omega)) ⟨(givn ws N, ds2), (NetOk_ren hN rfl ok).perm hds2, ?_⟩
      have hes2 : es = ds2.map DD := hes2
      rw [hes2] at pv
      exact pv
end
end CN
set_option Elab.async false
set_option linter.all false
set_option maxRecDepth 100000
set_option maxHeartbeats 4000000
/-! D16: unions. -/
namespace CN
open PySem PySem.Spec PyProof.Rows L2 CM
section
variable {X : Cx} {a b c : Expr} {pos : Pos} {tc ta tb : TT}
def tTIf (t ta tb : TT) : TT := fun σ H Q => t σ H fun c H1 => if c = true then ta σ H1 Q else tb σ H1 Q
theorem pt_ifExp (hc : PT X c tc) (ha : PT X a ta) (hb : PT X b tb) : PT X (.IfExp c a b pos) (tTIf tc ta tb) := by
  refine ⟨fun pins s σ H Q I h => ?_⟩
  show wpAny (model X.prog X.w) X.A (do if ← PySem.isTrue c X.env (eval c X.env) then PySem.isTrue a X.env (eval a X.env) else PySem.isTrue b X.env (eval b X.env)) _ _ _
  refine wpAny_bind (thn (hc.run pins s σ H _ I h) fun d s1 ⟨H1, I1, q1⟩ => ?_)
  cases d with
  | true => exact ha.run pins s1 σ H1 Q I1 q1
  | false => exact hb.run pins s1 σ H1 Q I1 q1
theorem et_if {σ : L2.St} {B : Hp} {b : Bool} {r : Bool} (h : ET tc σ B b) (h1 : b = true → ET ta σ B r) (h2 : b = false → ET tb σ B r) : ET (tTIf tc ta tb) σ B r := fun B1 H a c Q q => h B1 H a c _ fun B2 H2 g2 => by
  cases b with
  | true =>
    show ta σ H2 Q
    exact h1 rfl B2 H2 (a.trans g2.bb) g2.bh Q fun B3 H3 g3 => q B3 H3 (g2.trans g3)
  | false =>
    show tb σ H2 Q
    exact h2 rfl B2 H2 (a.trans g2.bb) g2.bh Q fun B3 H3 g3 => q B3 H3 (g2.trans g3)
end
section
variable {P : Program} {w : World} {K : PySem.W.Frag} {mg : Str → Option Value} {base : Heap} {C : Addr}
abbrev SetsD (n : Nat) : PyData := .list ((ordS (subs n)).map TuI)
def kd (k : Int) (ds : List Deed) (s : List Int) : Bool := if decide (k = 0) then isDr ds s else isTr ds s
theorem kd_union {k : Int} {ds : List Deed} {S T : List Int} (hS : kd k ds S = true) (hT : kd k ds T = true) : kd k ds (asc (S ++ T)) = true := by
  have hm : ∀ x, x ∈ asc (S ++ T) ↔ x ∈ S ∨ x ∈ T := fun x => by rw [mem_asc, List.mem_append]
  unfold kd at *
  split at hS
  · rename_i h
    rw [if_pos h] at hT ⊢
    exact union_dr hm hS hT
  · rename_i h
    rw [if_neg h] at hT ⊢
    exact union_tr hm hS hT
theorem asc_set {n : Nat} {S T : List Int} (hS : IsSet n S) (hT : IsSet n T) : IsSet n (asc (S ++ T)) := ⟨fun x hx => by
  rcases List.mem_append.mp (mem_asc.mp hx) with h | h
  · exact hS.1 x h
  · exact hT.1 x h, asc_pw⟩
theorem least_inside {n : Nat} {p : List Int → Bool} {s : List Int} (hs : IsSet n s) (h : p s = true) : (leastOf n p).any (fun o => inside o s) = true := by
  have hb : s ∈ (ordS (subs n)).filter p := List.mem_filter.mpr ⟨ordS_set.mpr hs, h⟩
  obtain ⟨o, ho, hi⟩ := smallest_has (found := []) hb
  exact List.any_eq_true.mpr ⟨o, ho, hi⟩
theorem least_sub {n : Nat} {p : List Int → Bool} {s : List Int} (h : s ∈ leastOf n p) : s ∈ ordS (subs n) := by
  rcases small_sub _ _ _ h with h | h
  · cases h
  · exact (List.mem_filter.mp h).1
abbrev s__law_unions_right : Stmt := topS 89
abbrev N__law_unions_right : List Str := ["_law_net_here", "_law_some", "_law_kind", "_law_good", "_law_row_here", "_law_least", "_law_one", "_law_other", "_law_both"]
theorem sc__law_unions_right : FnScope N__law_unions_right ["_law_net_here", "_law_some"] (defScope s__law_unions_right) := ⟨rfl, rfl, rfl, by decide +kernel, rfl, by decide +kernel, by decide +kernel⟩
def spUni (K : PySem.W.Frag) (C : Addr) : Sp := pSp fun vs B S => ∃ (ws : List Int) (ds : List Deed), All2 [NetP K C ws ds, Da K (SetsD ws.length)] vs B ∧ NetOk ws ds ∧ S = Xv (.bl true)
theorem ok__law_unions_right (F : FunC K mg "_law_unions_right" "_law_unions_right" s__law_unions_right) (T : Z mg) (c_is_drain : Cal P w K mg base "is_drain" 4 ["net", "thing"] (spDr K C)) (c_is_trap : Cal P w K mg base "is_trap" 4 ["net", "thing"] (spTr K C)) (c_drains : CalY P w K mg base "drains" 5 ["net"] (syDr K C)) (c_traps : CalY P w K mg base "traps" 5 ["net"] (syTr K C)) (c__law_within : Cal P w K mg base "_law_within" 1 ["_law_one", "_law_other"] (spInside K)) :
    Cal P w K mg base "_law_unions_right" 7 ["_law_net_here", "_law_some"] (spUni K C) := by
  refine F.cal sc__law_unions_right (fun _ _ _ _ _ _ us hl => match us, hl with | [_, _], _ => rfl) (fun vs H Q E h => by obtain ⟨_, _, _, ⟨_, _, h, _⟩, _⟩ := h; exact all2_len h) (fun f cdv A outer s H vs Q E hr h => ?_)
  obtain ⟨B, S, e, ⟨ws, ds, p, ok, rfl⟩, q⟩ := h
  obtain ⟨x, y, rfl, px, py⟩ := all2_2 p
  have hu := hr.units
  have hs := ok.sml
  have hw5 := ok.w5
  have hol := ordS_len ws.length (by omega)
  refine ⟨_, (pss_cons (ps_for PassesOwn.never rfl (pi_range1 (by rfl) T.z_range (pa_cons pe_int pa_nil)) (pg_name (i := 2) sc__law_unions_right.nd rfl (Or.inr rfl)) (pss_cons (ps_setLc (i := 3) (own := [("_law_row_here", 4)]) (g := gName 4) rfl sc__law_unions_right.nd rfl rfl (sw_true rfl rfl rfl (by decide +kernel)) (ki_seq (K := K) (pv 1)) (blkOk_by (own := [("_law_row_here", 4)]) (N := N__law_unions_right) (sc := defScope s__law_unions_right) (by decide +kernel)) (fun _ _ _ _ _ => (pg_name (i := 4) sc__law_unions_right.nd rfl (Or.inl rfl))) (fun _ _ _ _ _ => pts_one (pt_ifExp (pt_cmpR (ko_eq hu (K := K)) (pv 2) pe_int (nomark _)) (pt_val (pe_cal c_is_drain hr (by rfl) (pa_cons (pv 0) (pa_cons (pv 4) pa_nil)))) (pt_val (pe_cal c_is_trap hr (by rfl) (pa_cons (pv 0) (pa_cons (pv 4) pa_nil)))))) (fun _ _ _ _ _ => (pv 4)))
      (pss_cons (ps_set (i := 5) sc__law_unions_right.nd rfl (Or.inl rfl) (pe_ifExp (pt_cmpR (ko_eq hu (K := K)) (pv 2) pe_int (nomark _)) (pe_lcg (own := [("_law_row_here", 4)]) c_drains hr rfl sc__law_unions_right.nd (blkOk_by (own := [("_law_row_here", 4)]) (N := N__law_unions_right) (sc := defScope s__law_unions_right) (by decide +kernel)) (by rfl) (by rfl) (pa_cons (pv 0) pa_nil)) (pe_lcg (own := [("_law_row_here", 4)]) c_traps hr rfl sc__law_unions_right.nd (blkOk_by (own := [("_law_row_here", 4)]) (N := N__law_unions_right) (sc := defScope s__law_unions_right) (by decide +kernel)) (by rfl) (by rfl) (pa_cons (pv 0) pa_nil))))
      (pss_one (ps_for PassesOwn.never rfl (ki_seq (K := K) (pv 3)) (pg_name (i := 6) sc__law_unions_right.nd rfl (Or.inr rfl)) (pss_cons (ps_if (pt_cmpR (ko_eq hu (K := K)) (pe_lc (own := [("_law_row_here", 4)]) (g := gName 4) rfl sc__law_unions_right.nd (ki_seq (K := K) (pv 5)) (blkOk_by (own := [("_law_row_here", 4)]) (N := N__law_unions_right) (sc := defScope s__law_unions_right) (by decide +kernel)) (fun _ _ _ _ _ => (pg_name (i := 4) sc__law_unions_right.nd rfl (Or.inl rfl))) (fun _ _ _ _ _ => pts_one (pt_val (pe_cal c__law_within hr (by rfl) (pa_cons (pv 4) (pa_cons (pv 6) pa_nil))))) (fun _ _ _ _ _ => pe_int)) (pe_lst pa_nil) (nomark _)) (pss_one (ps_ret pe_bl)) pss_nil)
      (pss_one (ps_for PassesOwn.never rfl (ki_seq (K := K) (pv 3)) (pg_name (i := 7) sc__law_unions_right.nd rfl (Or.inl rfl)) (pss_cons (ps_set (i := 8) sc__law_unions_right.nd rfl (Or.inl rfl) (pe_callTy (ko_tuple (K := K)) (by rfl) T.z_tuple (by decide +kernel) (pa_cons (pe_callB (ko_sortedR hr (K := K) (w := w)) (by rfl) T.z_sorted (by decide +kernel) (pa_cons (pe_callTy (ko_set rfl (K := K) (w := w)) (by rfl) T.z_set (by decide +kernel) (pa_cons (pe_op (ko_add (K := K)) (pv 6) (pv 7)) pa_nil)) pa_nil)) pa_nil)))
      (pss_one (ps_if (pt_not (pt_ifExp (pt_cmpR (ko_eq hu (K := K)) (pv 2) pe_int (nomark _)) (pt_val (pe_cal c_is_drain hr (by rfl) (pa_cons (pv 0) (pa_cons (pv 8) pa_nil)))) (pt_val (pe_cal c_is_trap hr (by rfl) (pa_cons (pv 0) (pa_cons (pv 8) pa_nil)))))) (pss_one (ps_ret pe_bl)) pss_nil)))))))))))
      (pss_one (ps_ret pe_bl))), ?_⟩
  refine q_forG (K := K) (.refl e) (ei_rng1 (n := 2) (ea_cons ev_c ea_nil) (by omega)) (fun i σ' B' H' => ∃ s2 s3 s4 s5 s6 s7 s8 : Option V, σ' = [some x, some y, s2, s3, s4, s5, s6, s7, s8]) (fun B1 H1 g1 => ⟨_, _, _, _, _, _, _, rfl⟩) ?_ ?_
  · rintro i vk σ' B0 H0 B1 H1 d N ⟨s2, s3, s4, s5, s6, s7, s8, rfl⟩ hg g hd dk fin
    obtain ⟨rfl, hi⟩ := rng_get hd
    obtain rfl := dp_int_inv dk
    generalize hkk : (0 : Int) + (i : Int) = k at *
    have hgg := hg.trans g
    have px1 := Mo.mo _ _ _ hgg.bb px
    have py1 := Mo.mo _ _ _ hgg.bb py
    have hcase : ∀ {σ : L2.St} {B2 : Hp}, σ[2]? = some (some (.int k)) → ET (tTest (tOp (rEqA K) (tVar 2) (tC (.int 0)))) σ B2 (decide (k = 0)) := fun h => et_test (ev_op (ev_var h) ev_c ov_eqi)
    have hkd : ∀ {σ : L2.St} {B2 : Hp} {v : V} {a : List Int} {j : Nat}, Same B1 B2 → σ[2]? = some (some (.int k)) → σ[0]? = some (some x) → σ[j]? = some (some v) → Dp K B2 v (TuI a) → IsSet ws.length a → ET (tTIf (tTest (tOp (rEqA K) (tVar 2) (tC (.int 0)))) (tTest (tCall (spDr K C) [] E0 (tCons (tVar 0) (tCons (tVar j) tNil)))) (tTest (tCall (spTr K C) [] E0 (tCons (tVar 0) (tCons (tVar j) tNil))))) σ B2 (kd k ds a) := fun {σ B2 v a j} e2 h2 h0 hj dv ha => by
      have hal := isSet_len ha
      refine et_if (hcase h2) (fun hb => et_is (et_test (ev_call (ea_cons (ev_d h0 (Mo.mo _ _ _ e2 px1)) (ea_cons (ev_D hj dv) ea_nil)) (spv fun vs B3 _ h => ⟨ws, ds, a, h, hs, by omega, ha, rfl⟩))) ?_) fun hb => et_is (et_test (ev_call (ea_cons (ev_d h0 (Mo.mo _ _ _ e2 px1)) (ea_cons (ev_D hj dv) ea_nil)) (spv fun vs B3 _ h => ⟨ws, ds, a, h, hs, by omega, ha, rfl⟩))) ?_
      · unfold kd
        rw [if_pos hb]
      · unfold kd
        rw [if_neg (by rw [hb]; exact Bool.false_ne_true)]
    refine q_asg (P := Da K (.list (((ordS (subs ws.length)).filter (kd k ds)).map TuI))) g.bh (ev_lc (ordS (subs ws.length)) TuI (kd k ds) TuI (ei_lst (ev_D rfl py1)) (by omega) fun a v B2 ha e2 dv => lt_name rfl (hkd e2 rfl rfl rfl dv (ordS_set.mp ha)) fun _ => ev_D rfl dv) fun v3 B2 H2 g2 p3 => ?_
    have px2 := Mo.mo _ _ _ g2.bb px1
    refine q_asg (P := Da K (.list ((leastOf ws.length (kd k ds)).map TuI))) g2.bh (ev_if (hcase rfl) (fun hb => ev_is (ev_lcg (ea_cons (ev_d rfl px2) ea_nil) fun vs B3 H3 a b pp Q' q' => ⟨B3, ws, ds, b, pp, hs, by omega, q'⟩) ?_) fun hb => ev_is (ev_lcg (ea_cons (ev_d rfl px2) ea_nil) fun vs B3 H3 a b pp Q' q' => ⟨B3, ws, ds, b, pp, hs, by omega, q'⟩) ?_) fun v5 B3 H3 g3 p5 => ?_
    · rw [show kd k ds = isDr ds from funext fun s => by unfold kd; rw [if_pos hb]]
    · rw [show kd k ds = isTr ds from funext fun s => by unfold kd; rw [if_neg (by rw [hb]; exact Bool.false_ne_true)]]
    · have p33 := dp_mono g3.bb _ _ p3
      have hll := least_len ws.length (kd k ds) (by omega)
      have hgl : ((ordS (subs ws.length)).filter (kd k ds)).length ≤ 64 := Nat.le_trans (List.length_filter_le _ _) hol
      have h13 := (hgg.trans g2).trans g3
      refine s_forG (K := K) (.refl h13.bh) (ei_lst (ev_D rfl p33)) (fun j σ' B' H' => ∃ s4 s6 s7 s8 : Option V, σ' = [some x, some y, some (.int k), some v3, s4, some v5, s6, s7, s8]) (fun B1 H1 g1 => ⟨_, _, _, _, rfl⟩) ?_ ?_
      · rintro j v6 σ2 B4 H4 B5 H5 dd N2 ⟨s4, s6, s7, s8, rfl⟩ hg4 g5 hdd d6 fin2
        obtain ⟨s, hs1, rfl⟩ := map_get hdd
        obtain ⟨hs2, hs3⟩ := List.mem_filter.mp (List.mem_of_getElem? hs1)
        have hset := ordS_set.mp hs2
        have hsl := isSet_len hset
        have hg5 := hg4.trans g5
        have d6' : Dp K B5 v6 (TuI s) := d6
        refine q_not hg5.bh (et_is (et_test (ev_op (ev_lcIf (leastOf ws.length (kd k ds)) TuI (fun o => inside o s) (fun _ => 1) (ei_lst (ev_D rfl (dp_mono hg5.bb _ _ p5))) (by omega) fun a v B6 ha e2 dv => lt_name rfl (et_test (ev_call (ea_cons (ev_D rfl dv) (ea_cons (ev_D rfl (dp_mono e2 _ _ d6')) ea_nil)) (spv fun vs B7 _ h => ⟨a, s, h, ?_, rfl⟩))) fun _ => ev_ci) (ev_lst [] ea_nil (by simp)) (ov_eqd (sk_li (k := 0) _).sh (sk_nilL (k := 0)).sh))) ?_) fun B6 H6 g6 => ?_
        · have := isSet_len (ordS_set.mp (least_sub ha))
          omega
        · rw [eqv_li0, filter_nil]
          have h1 := least_inside (n := ws.length) (p := kd k ds) hset hs3
          cases h2 : (leastOf ws.length (kd k ds)).all fun o => !inside o s with
          | false => rfl
          | true =>
            obtain ⟨o, ho, hi⟩ := List.any_eq_true.mp h1
            have := List.all_eq_true.mp h2 o ho
            rw [hi] at this
            cases this
        · have hg6 := hg5.trans g6
          have d66 := dp_mono g6.bb _ _ d6'
          refine s_forG (K := K) (.refl hg6.bh) (ei_lst (ev_D rfl (dp_mono hg6.bb _ _ p33))) (fun j σ' B' H' => ∃ s4 s7 s8 : Option V, σ' = [some x, some y, some (.int k), some v3, s4, some v5, some v6, s7, s8]) (fun B1 H1 g1 => ⟨_, _, _, rfl⟩) ?_ ?_
          · rintro j2 v7 σ3 B7 H7 B8 H8 dd2 N3 ⟨s4, s7, s8, rfl⟩ hg7 g8 hdd2 d7 fin3
            obtain ⟨t, ht1, rfl⟩ := map_get hdd2
            obtain ⟨ht2, ht3⟩ := List.mem_filter.mp (List.mem_of_getElem? ht1)
            have htset := ordS_set.mp ht2
            have htl := isSet_len htset
            have hg8 := hg7.trans g8
            have d7' : Dp K B8 v7 (TuI t) := d7
            refine q_asg (P := Da K (TuI (asc (s ++ t)))) hg8.bh (ev_cb (ea_cons (ev_cb (ea_cons (ev_cb (ea_cons (ev_is (ev_op (ev_D rfl (dp_mono hg8.bb _ _ d66)) (ev_D rfl d7') (ov_addT (by rw [List.length_map, List.length_map]; omega))) (e := PyData.tuple ((s ++ t).map .int)) (by rw [List.map_append])) ea_nil) (cv_set (w := w) false (ns := s ++ t) (by rw [List.length_append]; omega))) ea_nil) (cv_sset (by rw [List.length_append]; omega))) ea_nil) cv_tuple) fun v8 B9 H9 g9 p8 => ?_
            have e19 : Same B1 B9 := (g2.bb.trans g3.bb).trans (hg6.bb.trans (hg8.bb.trans g9.bb))
            refine s_not g9.bh (et_is (et_not (hkd e19 rfl rfl rfl p8 (asc_set hset htset))) (by rw [kd_union hs3 ht3]; rfl)) fun B10 H10 g10 => fin3 _ B10 H10 ((hg8.trans g9).trans g10) (g9.bb.trans g10.bb) ⟨_, _, _, rfl⟩
          · rintro σ3 B7 H7 hg7 hb7 ⟨s4, s7, s8, rfl⟩
            exact fin2 _ B7 H7 (hg6.trans hg7) (g6.bb.trans hb7) ⟨_, _, _, _, rfl⟩
      · rintro σ2 B4 H4 hg4 hb4 ⟨s4, s6, s7, s8, rfl⟩
        exact fin _ B4 H4 (h13.trans hg4) (g2.bb.trans (g3.bb.trans hb4)) ⟨_, _, _, _, _, _, _, rfl⟩
  · rintro σ' B' H' hg _ ⟨s2, s3, s4, s5, s6, s7, s8, rfl⟩
    exact s_ret hg.bh ev_c fun v B2 H2 g2 p2 => q v B2 H2 (hg.trans g2) p2
end
end CN
set_option Elab.async false
set_option linter.all false
set_option maxRecDepth 100000
set_option maxHeartbeats 4000000
/-! D17: the greatest within a set; along rows. -/
namespace CN
open PySem PySem.Spec PyProof.Rows L2 CM
section
variable {P : Program} {w : World} {K : PySem.W.Frag} {mg : Str → Option Value} {base : Heap} {C : Addr}
/-- a pair of any two -/
def Pr (K : PySem.W.Frag) (P R : Pd) : Pd := fun v B => ∃ a x y, v = .ref a ∧ SqT K B a [x, y] ∧ P x B ∧ R y B
theorem ev_pr {σ : L2.St} {B : Hp} {ta tb : TE} {P R : Pd} [Mo P] [Mo R] (ha : EV ta σ B P) (hb : EV tb σ B R) : EV (tTup (tCons ta (tCons tb tNil))) σ B (Pr K P R) := fun B1 H a b Q q =>
  ha B1 H a b _ fun x B2 H2 g2 px => hb B2 H2 (a.trans g2.bb) g2.bh _ fun y B3 H3 g3 py => ⟨by show 2 ≤ sizeLine; decide, fun t ht => by
    have sm := same_new (o := .tup [x, y]) (g3.bh.free ht)
    exact q (.ref t) _ _ ((g2.trans g3).trans (.new g3.bh ht)) ⟨t, x, y, rfl, .inl (.inl upd_same), Mo.mo _ _ _ (g3.bb.trans sm) px, Mo.mo _ _ _ sm py⟩⟩
theorem q_asgPr {i j : Nat} {σ : L2.St} {B H : Hp} {te : TE} {tz : TS} {D : Ends} {P R : Pd} (e : Same B H) (h : EV te σ B (Pr K P R)) (k : ∀ v1 v2 B' H', Gr B H B' H' → P v1 B' → R v2 B' → tz D ((σ.set i (some v1)).set j (some v2)) H') :
    tSeq (tAsg te (gTup K 2 (gCons (gName i) (gCons (gName j) gNil)))) tz D σ H := h B H (Same.refl _) e _ fun v B' H' g ⟨a, x, y, ev, hs, px, py⟩ => by
  subst ev
  exact ⟨a, _, rfl, sqt_mono g.bh hs, rfl, _, _, rfl, _, _, rfl, rfl, k x y B' H' g px py⟩
instance {ds : List Deed} {xs : List Int} : Mo (GPT K ds xs) := ⟨fun v B B' e ⟨L, h1, h2⟩ => ⟨L, h1, dp_mono e _ _ h2⟩⟩
instance {ds : List Deed} {xs : List Int} : Mo (GPD K ds xs) := ⟨fun v B B' e ⟨L, h1, h2⟩ => ⟨L, h1, dp_mono e _ _ h2⟩⟩
theorem gt_set {n : Nat} {ds : List Deed} {xs L : List Int} (h : IsSet n xs) (g : Gt ds xs L) : IsSet n L := ⟨fun x hx => h.1 x (g.sub.subset hx), h.2.sublist g.sub⟩
theorem gt_in {ds : List Deed} {xs L s : List Int} (g : Gt ds xs L) (h1 : isTr ds s = true) (h2 : inside s xs = true) : inside s L = true := inside_iff.mpr (g.all s h1 (inside_iff.mp h2))
abbrev s__law_inside_right : Stmt := topS 90
abbrev N__law_inside_right : List Str := ["_law_net_here", "_law_some", "_law_boxes", "_law_trap", "_law_drain", "_law_inner", "_law_row_here"]
theorem sc__law_inside_right : FnScope N__law_inside_right ["_law_net_here", "_law_some", "_law_boxes"] (defScope s__law_inside_right) := ⟨rfl, rfl, rfl, by decide +kernel, rfl, by decide +kernel, by decide +kernel⟩
def spIns (K : PySem.W.Frag) (C : Addr) : Sp := pSp fun vs B S => ∃ (ws : List Int) (ds : List Deed) (xs : List Int), All2 [NetP K C ws ds, Da K (SetsD ws.length), Da K (TuI xs)] vs B ∧ NetOk ws ds ∧ IsSet ws.length xs ∧ S = Xv (.bl true)
theorem ok__law_inside_right (F : FunC K mg "_law_inside_right" "_law_inside_right" s__law_inside_right) (T : Z mg) (c_trap_in : Cal P w K mg base "trap_in" 5 ["net", "boxes"] (spTIn K C)) (c_drain_in : Cal P w K mg base "drain_in" 5 ["net", "boxes"] (spDIn K C)) (c_is_drain : Cal P w K mg base "is_drain" 4 ["net", "thing"] (spDr K C)) (c_is_trap : Cal P w K mg base "is_trap" 4 ["net", "thing"] (spTr K C)) (c__law_within : Cal P w K mg base "_law_within" 1 ["_law_one", "_law_other"] (spInside K)) :
    Cal P w K mg base "_law_inside_right" 6 ["_law_net_here", "_law_some", "_law_boxes"] (spIns K C) := by
  refine F.cal sc__law_inside_right (fun _ _ _ _ _ _ us hl => match us, hl with | [_, _, _], _ => rfl) (fun vs H Q E h => by obtain ⟨_, _, _, ⟨_, _, _, h, _⟩, _⟩ := h; exact all2_len h) (fun f cdv A outer s H vs Q E hr h => ?_)
  obtain ⟨B, S, e, ⟨ws, ds, xs, p, ok, hset, rfl⟩, q⟩ := h
  obtain ⟨x, y, z, rfl, px, py, pz⟩ := all2_3 p
  have hu := hr.units
  have hs := ok.sml
  have hw5 := ok.w5
  have hol := ordS_len ws.length (by omega)
  have hxl := isSet_len hset
  refine ⟨_, (pss_cons (ps_asg (pe_tup (pa_cons (pe_cal c_trap_in hr (by rfl) (pa_cons (pv 0) (pa_cons (pv 2) pa_nil))) (pa_cons (pe_cal c_drain_in hr (by rfl) (pa_cons (pv 0) (pa_cons (pv 2) pa_nil))) pa_nil))) (kg_tup (K := K) rfl (pgs_cons (pg_name (i := 3) sc__law_inside_right.nd rfl (Or.inr rfl)) (pgs_cons (pg_name (i := 4) sc__law_inside_right.nd rfl (Or.inr rfl)) pgs_nil))))
      (pss_cons (ps_if (PW.pt (pw_or (PW.pt (pw_and (pt_cmpR (ko_ne hu (K := K)) (pv 3) (pe_tup pa_nil) (nomark _)) (pw_and1 (pt_not (pt_val (pe_cal c_is_trap hr (by rfl) (pa_cons (pv 0) (pa_cons (pv 3) pa_nil)))))))) (pw_or1 (PW.pt (pw_and (pt_cmpR (ko_ne hu (K := K)) (pv 4) (pe_tup pa_nil) (nomark _)) (pw_and1 (pt_not (pt_val (pe_cal c_is_drain hr (by rfl) (pa_cons (pv 0) (pa_cons (pv 4) pa_nil))))))))))) (pss_one (ps_ret pe_bl)) pss_nil)
      (pss_cons (ps_setLc (i := 5) (own := [("_law_row_here", 6)]) (g := gName 6) rfl sc__law_inside_right.nd rfl rfl (sw_true rfl rfl rfl (by decide +kernel)) (ki_seq (K := K) (pv 1)) (blkOk_by (own := [("_law_row_here", 6)]) (N := N__law_inside_right) (sc := defScope s__law_inside_right) (by decide +kernel)) (fun _ _ _ _ _ => (pg_name (i := 6) sc__law_inside_right.nd rfl (Or.inl rfl))) (fun _ _ _ _ _ => pts_one (pt_val (pe_cal c__law_within hr (by rfl) (pa_cons (pv 6) (pa_cons (pv 2) pa_nil))))) (fun _ _ _ _ _ => (pv 6)))
      (pss_cons (ps_if (pt_cmpR (ko_ne hu (K := K)) (pe_lc (own := [("_law_row_here", 6)]) (g := gName 6) rfl sc__law_inside_right.nd (ki_seq (K := K) (pv 5)) (blkOk_by (own := [("_law_row_here", 6)]) (N := N__law_inside_right) (sc := defScope s__law_inside_right) (by decide +kernel)) (fun _ _ _ _ _ => (pg_name (i := 6) sc__law_inside_right.nd rfl (Or.inl rfl))) (fun _ _ _ _ _ => pts_one (PW.pt (pw_and (pt_val (pe_cal c_is_trap hr (by rfl) (pa_cons (pv 0) (pa_cons (pv 6) pa_nil)))) (pw_and1 (pt_not (pt_val (pe_cal c__law_within hr (by rfl) (pa_cons (pv 6) (pa_cons (pv 3) pa_nil))))))))) (fun _ _ _ _ _ => pe_int)) (pe_lst pa_nil) (nomark _)) (pss_one (ps_ret pe_bl)) pss_nil)
      (pss_one (ps_ret (pe_cmpR (ko_eq hu (K := K)) (pe_lc (own := [("_law_row_here", 6)]) (g := gName 6) rfl sc__law_inside_right.nd (ki_seq (K := K) (pv 5)) (blkOk_by (own := [("_law_row_here", 6)]) (N := N__law_inside_right) (sc := defScope s__law_inside_right) (by decide +kernel)) (fun _ _ _ _ _ => (pg_name (i := 6) sc__law_inside_right.nd rfl (Or.inl rfl))) (fun _ _ _ _ _ => pts_one (PW.pt (pw_and (pt_val (pe_cal c_is_drain hr (by rfl) (pa_cons (pv 0) (pa_cons (pv 6) pa_nil)))) (pw_and1 (pt_not (pt_val (pe_cal c__law_within hr (by rfl) (pa_cons (pv 6) (pa_cons (pv 4) pa_nil))))))))) (fun _ _ _ _ _ => pe_int)) (pe_lst pa_nil) (nomark _)))))))), ?_⟩
  refine q_asgPr (K := K) e (ev_pr (ev_call (ea_cons (ev_d rfl px) (ea_cons (ev_D rfl pz) ea_nil)) (spv fun vs B3 _ h => ⟨ws, ds, xs, h, hs, by omega, hset, rfl⟩)) (ev_call (ea_cons (ev_d rfl px) (ea_cons (ev_D rfl pz) ea_nil)) (spv fun vs B3 _ h => ⟨ws, ds, xs, h, hs, by omega, hset, rfl⟩))) fun v3 v4 B1 H1 g1 ⟨La, t1, d1⟩ ⟨Lb, t2, d2⟩ => ?_
  have px1 := Mo.mo _ _ _ g1.bb px
  have s1 := gt_set hset t1
  have s2 := gt_set hset t2
  have l1 := isSet_len s1
  have l2 := isSet_len s2
  have hdr : ∀ {σ : L2.St} {B2 : Hp} {v : V} {a : List Int} {j : Nat}, Same B1 B2 → σ[0]? = some (some x) → σ[j]? = some (some v) → Dp K B2 v (TuI a) → IsSet ws.length a → EV (tCall (spDr K C) [] E0 (tCons (tVar 0) (tCons (tVar j) tNil))) σ B2 (Xv (.bl (isDr ds a))) := fun {σ B2 v a j} e2 h0 hj dv ha => ev_call (ea_cons (ev_d h0 (Mo.mo _ _ _ e2 px1)) (ea_cons (ev_D hj dv) ea_nil)) (spv fun vs B3 _ h => ⟨ws, ds, a, h, hs, by have := isSet_len ha; omega, ha, rfl⟩)
  have htr : ∀ {σ : L2.St} {B2 : Hp} {v : V} {a : List Int} {j : Nat}, Same B1 B2 → σ[0]? = some (some x) → σ[j]? = some (some v) → Dp K B2 v (TuI a) → IsSet ws.length a → EV (tCall (spTr K C) [] E0 (tCons (tVar 0) (tCons (tVar j) tNil))) σ B2 (Xv (.bl (isTr ds a))) := fun {σ B2 v a j} e2 h0 hj dv ha => ev_call (ea_cons (ev_d h0 (Mo.mo _ _ _ e2 px1)) (ea_cons (ev_D hj dv) ea_nil)) (spv fun vs B3 _ h => ⟨ws, ds, a, h, hs, by have := isSet_len ha; omega, ha, rfl⟩)
  refine q_not g1.bh (et_is (et_or (x := !decide (La = []) && !isTr ds La) (y := !decide (Lb = []) && !isDr ds Lb) (et_and (et_is (et_test (ev_op (ev_D rfl d1) (ev_tup [] ea_nil (by simp)) (ov_ned (sk_ti (k := 0) La).sh (sk_nilT (k := 0)).sh))) (by rw [eqv_ti0])) fun _ => et_not (et_test (htr (Same.refl _) rfl rfl d1 s1))) fun _ => et_and (et_is (et_test (ev_op (ev_D rfl d2) (ev_tup [] ea_nil (by simp)) (ov_ned (sk_ti (k := 0) Lb).sh (sk_nilT (k := 0)).sh))) (by rw [eqv_ti0])) fun _ => et_not (et_test (hdr (Same.refl _) rfl rfl d2 s2))) ?_) fun B2 H2 g2 => ?_
  · have a1 : (!decide (La = []) && !isTr ds La) = false := by
      by_cases z : La = []
      · simp [z]
      · rw [t1.tr z]; simp
    have a2 : (!decide (Lb = []) && !isDr ds Lb) = false := by
      by_cases z : Lb = []
      · simp [z]
      · rw [← isTr_swp, t2.tr z]; simp
    rw [a1, a2]
    rfl
  · refine q_asg (P := Da K (.list (((ordS (subs ws.length)).filter fun s => inside s xs).map TuI))) g2.bh (ev_lc (ordS (subs ws.length)) TuI (fun s => inside s xs) TuI (ei_lst (ev_D rfl (dp_mono (g1.bb.trans g2.bb) _ _ py))) (by omega) fun a v B3 ha e2 dv => lt_name rfl (et_test (ev_call (ea_cons (ev_D rfl dv) (ea_cons (ev_D rfl (dp_mono ((g1.bb.trans g2.bb).trans e2) _ _ pz)) ea_nil)) (spv fun vs B4 _ h => ⟨a, xs, h, by have := isSet_len (ordS_set.mp ha); omega, rfl⟩))) fun _ => ev_D rfl dv) fun v5 B3 H3 g3 p5 => ?_
    have e13 := g2.bb.trans g3.bb
    have d13 := dp_mono e13 _ _ d1
    have d23 := dp_mono e13 _ _ d2
    have hil : ((ordS (subs ws.length)).filter fun s => inside s xs).length ≤ 64 := Nat.le_trans (List.length_filter_le _ _) hol
    refine q_not g3.bh (et_is (et_test (ev_op (ev_lcIf ((ordS (subs ws.length)).filter fun s => inside s xs) TuI (fun s => isTr ds s && !inside s La) (fun _ => 1) (ei_lst (ev_D rfl p5)) (by omega) fun a v B4 ha e2 dv => lt_name rfl (et_and (et_test (htr (e13.trans e2) rfl rfl dv (ordS_set.mp (List.mem_filter.mp ha).1))) fun _ => et_not (et_test (ev_call (ea_cons (ev_D rfl dv) (ea_cons (ev_D rfl (dp_mono e2 _ _ d13)) ea_nil)) (spv fun vs B5 _ h => ⟨a, La, h, by have := isSet_len (ordS_set.mp (List.mem_filter.mp ha).1); omega, rfl⟩)))) fun _ => ev_ci) (ev_lst [] ea_nil (by simp)) (ov_ned (sk_li (k := 0) _).sh (sk_nilL (k := 0)).sh))) ?_) fun B4 H4 g4 => ?_
    · rw [eqv_li0, filter_nn]
      refine List.any_eq_false.mpr fun s hs1 => ?_
      obtain ⟨_, h2⟩ := List.mem_filter.mp hs1
      intro h
      obtain ⟨h3, h4⟩ := Bool.and_eq_true_iff.mp h
      rw [gt_in t1 h3 h2] at h4
      cases h4
    · refine s_ret g4.bh (ev_bl (ev_op (ev_lcIf ((ordS (subs ws.length)).filter fun s => inside s xs) TuI (fun s => isDr ds s && !inside s Lb) (fun _ => 1) (ei_lst (ev_D rfl (dp_mono g4.bb _ _ p5))) (by omega) fun a v B4 ha e2 dv => lt_name rfl (et_and (et_test (hdr ((e13.trans g4.bb).trans e2) rfl rfl dv (ordS_set.mp (List.mem_filter.mp ha).1))) fun _ => et_not (et_test (ev_call (ea_cons (ev_D rfl dv) (ea_cons (ev_D rfl (dp_mono (g4.bb.trans e2) _ _ d23)) ea_nil)) (spv fun vs B5 _ h => ⟨a, Lb, h, by have := isSet_len (ordS_set.mp (List.mem_filter.mp ha).1); omega, rfl⟩)))) fun _ => ev_ci) (ev_lst [] ea_nil (by simp)) (ov_eqd (sk_li (k := 0) _).sh (sk_nilL (k := 0)).sh)) ?_) fun v B5 H5 g5 p5 => q v B5 H5 ((((g1.trans g2).trans g3).trans g4).trans g5) p5
      rw [eqv_li0, filter_nil]
      refine List.all_eq_true.mpr fun s hs1 => ?_
      obtain ⟨_, h2⟩ := List.mem_filter.mp hs1
      cases h : isDr ds s with
      | false => rfl
      | true =>
        rw [gt_in t2 (by rw [isTr_swp]; exact h) h2]
        rfl
abbrev s__law_along_right : Stmt := topS 91
abbrev N__law_along_right : List Str := ["_law_net_here", "_law_some", "_law_state_here", "_law_row_here", "_law_here", "_law_number", "_law_there", "_law_boxes"]
theorem sc__law_along_right : FnScope N__law_along_right ["_law_net_here", "_law_some", "_law_state_here", "_law_row_here"] (defScope s__law_along_right) := ⟨rfl, rfl, rfl, by decide +kernel, rfl, by decide +kernel, by decide +kernel⟩
def spAlo (K : PySem.W.Frag) (C : Addr) : Sp := pSp fun vs B S => ∃ (ws : List Int) (ds : List Deed) (st : List Int) (row : List Nat), All2 [NetP K C ws ds, Da K (SetsD ws.length), Da K (TuI st), Da K (TuI (row.map fun (i : Nat) => (i : Int)))] vs B ∧ NetOk ws ds ∧ st.length = ws.length ∧ (∀ x, x ∈ st → 0 ≤ x) ∧ RowOk ds st row ∧ row.length ≤ 1000 ∧ S = Xv (.bl true)
theorem ok__law_along_right (F : FunC K mg "_law_along_right" "_law_along_right" s__law_along_right) (c_after : Cal P w K mg base "after" 5 ["net", "state", "number"] (spAfter K C)) (c_is_drain : Cal P w K mg base "is_drain" 4 ["net", "thing"] (spDr K C)) (c_is_trap : Cal P w K mg base "is_trap" 4 ["net", "thing"] (spTr K C)) (c__law_is_empty : Cal P w K mg base "_law_is_empty" 1 ["_law_state_here", "_law_boxes"] (spEmpty K)) :
    Cal P w K mg base "_law_along_right" 6 ["_law_net_here", "_law_some", "_law_state_here", "_law_row_here"] (spAlo K C) := by
  refine F.cal sc__law_along_right (fun _ _ _ _ _ _ us hl => match us, hl with | [_, _, _, _], _ => rfl) (fun vs H Q E h => by obtain ⟨_, _, _, ⟨_, _, _, _, h, _⟩, _⟩ := h; exact all2_len h) (fun f cdv A outer s H vs Q E hr h => ?_)
  obtain ⟨B, S, e, ⟨ws, ds, st, row, p, ok, hsl, hnn, rok, rl, rfl⟩, q⟩ := h
  obtain ⟨x, y, z, u, rfl, px, py, pz, pu⟩ := all2_4 p
  have hu := hr.units
  have hs := ok.sml
  have hw5 := ok.w5
  have hol := ordS_len ws.length (by omega)
  refine ⟨_, (pss_cons (ps_set (i := 4) sc__law_along_right.nd rfl (Or.inl rfl) (pv 2))
      (pss_cons (ps_for PassesOwn.never rfl (ki_seq (K := K) (pv 3)) (pg_name (i := 5) sc__law_along_right.nd rfl (Or.inl rfl)) (pss_cons (ps_set (i := 6) sc__law_along_right.nd rfl (Or.inl rfl) (pe_cal c_after hr (by rfl) (pa_cons (pv 0) (pa_cons (pv 4) (pa_cons (pv 5) pa_nil)))))
      (pss_cons (ps_for PassesOwn.never rfl (ki_seq (K := K) (pv 1)) (pg_name (i := 7) sc__law_along_right.nd rfl (Or.inl rfl)) (pss_cons (ps_if (PW.pt (pw_and (pt_val (pe_cal c__law_is_empty hr (by rfl) (pa_cons (pv 4) (pa_cons (pv 7) pa_nil)))) (pw_and (pt_val (pe_cal c_is_drain hr (by rfl) (pa_cons (pv 0) (pa_cons (pv 7) pa_nil)))) (pw_and1 (pt_not (pt_val (pe_cal c__law_is_empty hr (by rfl) (pa_cons (pv 6) (pa_cons (pv 7) pa_nil))))))))) (pss_one (ps_ret pe_bl)) pss_nil)
      (pss_one (ps_if (PW.pt (pw_and (pt_not (pt_val (pe_cal c__law_is_empty hr (by rfl) (pa_cons (pv 4) (pa_cons (pv 7) pa_nil))))) (pw_and (pt_val (pe_cal c_is_trap hr (by rfl) (pa_cons (pv 0) (pa_cons (pv 7) pa_nil)))) (pw_and1 (pt_val (pe_cal c__law_is_empty hr (by rfl) (pa_cons (pv 6) (pa_cons (pv 7) pa_nil)))))))) (pss_one (ps_ret pe_bl)) pss_nil))))
      (pss_one (ps_set (i := 4) sc__law_along_right.nd rfl (Or.inl rfl) (pv 6))))))
      (pss_one (ps_ret pe_bl)))), ?_⟩
  refine q_asg (P := Da K (TuI st)) e (ev_D rfl pz) fun v4 B1 H1 g1 p4 => ?_
  have pu1 := dp_mono g1.bb _ _ pu
  have pu1' : Dp K B1 u (.tuple ((row.map fun (i : Nat) => (i : Int)).map .int)) := pu1
  have px1 := Mo.mo _ _ _ g1.bb px
  have py1 := dp_mono g1.bb _ _ py
  refine q_forG (K := K) (.refl g1.bh) (ei_tup (ev_D rfl pu1')) (fun i σ' B' H' => ∃ (h : V) (s5 s6 s7 : Option V), σ' = [some x, some y, some z, some u, some h, s5, s6, s7] ∧ Dp K B' h (TuI (runS ds st (row.take i)))) (fun B2 H2 g2 => ⟨v4, _, _, _, rfl, dp_mono g2.bb _ _ p4⟩) ?_ ?_
  · rintro i v5 σ' B0 H0 B2 H2 d N ⟨h, s5, s6, s7, rfl, dh⟩ hg g hd d5 fin
    rw [List.map_map] at hd
    obtain ⟨k, hk, rfl⟩ := map_get hd
    obtain rfl : v5 = V.int (k : Int) := dp_int_inv d5
    obtain ⟨hkl, hcan⟩ := rok i k hk
    have hil : i < row.length := (List.getElem?_eq_some_iff.mp hk).1
    have hgg := hg.trans g
    have dh2 := dp_mono g.bb _ _ dh
    have hn := run_nn hnn rok i (Nat.le_of_lt hil)
    have hrl : (runS ds st (row.take i)).length = st.length := runS_len ds st _ _ rfl
    have ek : ds[k]? = some (ds.getD k ([], [])) := by rw [List.getD_eq_getElem?_getD, List.getElem?_eq_getElem hkl]; rfl
    have hdm := List.mem_of_getElem? ek
    have tks := take_snoc hk
    have hrun : runS ds st (row.take (i + 1)) = movedS (ds.getD k ([], [])) (runS ds st (row.take i)) := by rw [tks, runS_snoc]
    generalize ds.getD k ([], []) = d at *
    have od := ok.d d hdm
    have l1 := isSet_len od.s1
    refine q_asg g.bh (ev_call (ea_cons (ev_d rfl (Mo.mo _ _ _ hgg.bb px1)) (ea_cons (ev_D rfl dh2) (ea_cons (ev_var rfl) ea_nil))) (spv fun vs B3 _ h => ⟨ws, ds, _, k, d, h, by omega, by omega, hn, ek, by have := ok.l; omega, fun b hb => by have := od.s1.1 b hb; omega, by omega, hcan, rfl⟩)) fun v6 B3 H3 g3 p6 => ?_
    generalize hst0 : runS ds st (row.take i) = st0 at *
    have p6' : Dp K B3 v6 (TuI (movedS d st0)) := p6
    have h13 := hgg.trans g3
    have dh3 := dp_mono g3.bb _ _ dh2
    refine (s_forG (D := { nx := _, rt := _, bk := _, ct := _ }) (K := K) (.refl h13.bh) (ei_lst (ev_D rfl (dp_mono h13.bb _ _ py1))) (fun j σ' B' H' => ∃ s7 : Option V, σ' = [some x, some y, some z, some u, some h, some (.int (k : Int)), some v6, s7]) (fun B1 H1 g1 => ⟨_, rfl⟩) ?_ ?_)
    · rintro j v7 σ2 B4 H4 B5 H5 dd N2 ⟨s7, rfl⟩ hg4 g5 hdd d7 fin2
      obtain ⟨s, hs1, rfl⟩ := map_get hdd
      have hset := ordS_set.mp (List.mem_of_getElem? hs1)
      have hsl2 := isSet_len hset
      have hg5 := hg4.trans g5
      have d7' : Dp K B5 v7 (TuI s) := d7
      have e15 := h13.bb.trans hg5.bb
      have hemp : ∀ {B6 : Hp} {j : Nat} {v : V} {sx : List Int}, Same B5 B6 → [some x, some y, some z, some u, some h, some (.int (k : Int)), some v6, some v7][j]? = some (some v) → Dp K B6 v (TuI sx) → sx.length = ws.length → EV (tCall (spEmpty K) [] E0 (tCons (tVar j) (tCons (tVar 7) tNil))) [some x, some y, some z, some u, some h, some (.int (k : Int)), some v6, some v7] B6 (Xv (.bl (empty sx s))) := fun {B6 j v sx} e6 hj dv hl => ev_call (ea_cons (ev_D hj dv) (ea_cons (ev_D rfl (dp_mono e6 _ _ d7')) ea_nil)) (spv fun vs B7 _ hh => ⟨sx, s, hh, fun b hb => by have := hset.1 b hb; omega, by omega, rfl⟩)
      have hml : (movedS d st0).length = ws.length := by rw [movedS_len]; omega
      refine q_not hg5.bh (et_is (et_and (et_test (hemp (Same.refl _) rfl (dp_mono hg5.bb _ _ dh3) (by omega))) fun _ => et_and (et_test (ev_call (ea_cons (ev_d rfl (Mo.mo _ _ _ e15 px1)) (ea_cons (ev_D rfl d7') ea_nil)) (spv fun vs B7 _ hh => ⟨ws, ds, s, hh, hs, by omega, hset, rfl⟩))) fun _ => et_not (et_test (hemp (Same.refl _) rfl (dp_mono hg5.bb _ _ p6') hml))) ?_) fun B6 H6 g6 => ?_
      · cases h1 : empty st0 s with
        | false => rfl
        | true =>
          cases h2 : isDr ds s with
          | false => rfl
          | true =>
            rw [dr_stays hdm (by omega) hset h2 h1 hn hcan]
            rfl
      · refine s_not g6.bh (et_is (et_and (et_not (et_test (hemp g6.bb rfl (dp_mono (hg5.bb.trans g6.bb) _ _ dh3) (by omega)))) fun _ => et_and (et_test (ev_call (ea_cons (ev_d rfl (Mo.mo _ _ _ (e15.trans g6.bb) px1)) (ea_cons (ev_D rfl (dp_mono g6.bb _ _ d7')) ea_nil)) (spv fun vs B7 _ hh => ⟨ws, ds, s, hh, hs, by omega, hset, rfl⟩))) fun _ => et_test (hemp g6.bb rfl (dp_mono (hg5.bb.trans g6.bb) _ _ p6') hml)) ?_) fun B7 H7 g7 => fin2 _ B7 H7 ((hg5.trans g6).trans g7) (g6.bb.trans g7.bb) ⟨_, rfl⟩
        cases h1 : empty st0 s with
        | true => rfl
        | false =>
          cases h2 : isTr ds s with
          | false => rfl
          | true =>
            rw [tr_stays hdm (by omega) hset h2 h1 hn hcan]
            rfl
    · rintro σ2 B4 H4 hg4 hb4 ⟨s7, rfl⟩
      have p64 := dp_mono hg4.bb _ _ p6'
      refine s_asg hg4.bh (ev_D rfl p64) fun v B5 H5 g5 p5 => fin _ B5 H5 ((h13.trans hg4).trans g5) (g3.bb.trans (hb4.trans g5.bb)) ⟨v, _, _, _, rfl, ?_⟩
      rw [hrun]
      exact p5
  · rintro σ' B' H' hg _ ⟨h, s5, s6, s7, rfl, dh⟩
    exact s_ret hg.bh ev_c fun v B2 H2 g2 p2 => q v B2 H2 ((g1.trans hg).trans g2) p2
end
end CN
set_option Elab.async false
set_option linter.all false
set_option maxRecDepth 100000
set_option maxHeartbeats 4000000
/-! D18: takes and puts exchanged. -/
namespace CN
open PySem PySem.Spec PyProof.Rows L2 CM
section
variable {P : Program} {w : World} {K : PySem.W.Frag} {mg : Str → Option Value} {base : Heap} {C : Addr}
/-- a test that answers one of some -/
def ETx (t : TT) (σ : L2.St) (B : Hp) (p : Bool → Prop) : Prop := ∀ B1 H, Same B B1 → Same B1 H → ∀ Q : Bool → Hp → Prop, (∀ b B' H', Gr B1 H B' H' → p b → Q b H') → t σ H Q
theorem etx_test {te : TE} {σ : L2.St} {B : Hp} {p : Bool → Prop} (h : EV te σ B (fun v _ => ∃ b, v = .bl b ∧ p b)) : ETx (tTest te) σ B p := fun B1 H a c Q q => h B1 H a c _ fun v B' H' g ⟨b, e, hp⟩ => ⟨b, e, q b B' H' g hp⟩
theorem q_ifX {t : TT} {tu tz : TS} {D : Ends} {σ : L2.St} {B H : Hp} {p : Bool → Prop} (e : Same B H) (h : ETx t σ B p) (h1 : p true → ∀ B' H', Gr B H B' H' → tu { D with nx := tz D } σ H') (h2 : p false → ∀ B' H', Gr B H B' H' → tz D σ H') : tSeq (tIfS t tu tNext) tz D σ H := h B H (Same.refl _) e _ fun b B' H' g hp => by
  cases b with
  | true => exact h1 hp B' H' g
  | false => exact h2 hp B' H' g
theorem ov_ne_gt {B : Hp} {ds : List Deed} {xs : List Int} (hx : xs.Pairwise (· < ·)) : OV (rNeA K) B (GPT K (ds.map swp) xs) (GPD K ds xs) (Xv (.bl false)) := fun x y B1 H a b ⟨La, g1, d1⟩ ⟨Lb, g2, d2⟩ Q q => by
  have e := g1.uniq hx g2
  subst e
  refine ov_ned (sk_ti (k := 0) La).sh (sk_ti (k := 0) La).sh x y B1 H (Same.refl _) b d1 d2 Q fun v B' H' g p => q v B' H' g ?_
  rw [eqv_ti] at p
  simpa using p
abbrev s__law_exchanged_right : Stmt := topS 92
abbrev N__law_exchanged_right : List Str := ["_law_net_here", "_law_worths", "_law_deeds", "_law_some", "_law_others", "_law_takes", "_law_puts", "_law_row_here", "_law_due", "_law_back"]
theorem sc__law_exchanged_right : FnScope N__law_exchanged_right ["_law_net_here", "_law_worths", "_law_deeds", "_law_some"] (defScope s__law_exchanged_right) := ⟨rfl, rfl, rfl, by decide +kernel, rfl, by decide +kernel, by decide +kernel⟩
def spExc (K : PySem.W.Frag) (C : Addr) : Sp := pSp fun vs B S => ∃ (ws : List Int) (ds : List Deed), All2 [NetP K C ws ds, Da K (TuI ws), Da K (.list (ds.map DD)), Da K (SetsD ws.length)] vs B ∧ NetOk ws ds ∧ S = Xv (.bl true)
theorem ok__law_exchanged_right (F : FunC K mg "_law_exchanged_right" "_law_exchanged_right" s__law_exchanged_right) (T : Z mg) (c__law_is_trap : Cal P w K mg base "_law_is_trap" 2 ["_law_deeds", "_law_boxes"] (spLTr K)) (c__law_is_drain : Cal P w K mg base "_law_is_drain" 2 ["_law_deeds", "_law_boxes"] (spLDr K)) (c__law_same : CalG P w K mg base "_law_same" 1 ["_law_found", "_law_due"] (spSame K))
    (c_is_drain : Cal P w K mg base "is_drain" 4 ["net", "thing"] (spDr K C)) (c_is_trap : Cal P w K mg base "is_trap" 4 ["net", "thing"] (spTr K C)) (c__law_unlike : Cal P w K mg base "_law_unlike" 2 ["_law_deeds"] (spLUn K)) (c__law_built : Cal P w K mg base "_law_built" 9 ["_law_worths", "_law_deeds"] (spBuilt K C)) (c_drains : CalY P w K mg base "drains" 5 ["net"] (syDr K C)) (c_traps : CalY P w K mg base "traps" 5 ["net"] (syTr K C))
    (c_trap_in : Cal P w K mg base "trap_in" 5 ["net", "boxes"] (spTIn K C)) (c_drain_in : Cal P w K mg base "drain_in" 5 ["net", "boxes"] (spDIn K C)) :
    CalG P w K mg base "_law_exchanged_right" 10 ["_law_net_here", "_law_worths", "_law_deeds", "_law_some"] (spExc K C) := by
  refine F.calG sc__law_exchanged_right (fun _ _ _ _ _ _ us hl => match us, hl with | [_, _, _, _], _ => rfl) (fun vs H Q h => by obtain ⟨_, _, _, ⟨_, _, h, _⟩, _⟩ := h; exact all2_len h) (fun f cdv A outer s H vs Q hgd hr h => ?_)
  obtain ⟨B, S, e, ⟨ws, ds, p, ok, rfl⟩, q⟩ := h
  obtain ⟨x, y, z, u, rfl, px, py, pz, pu⟩ := all2_4 p
  have hu := hr.units
  have hs := ok.sml
  have hw5 := ok.w5
  have hol := ordS_len ws.length (by omega)
  have hs2 : Sml (ds.map swp) := ⟨by rw [List.length_map]; exact hs.1, fun d hd => by
    obtain ⟨c, hc, rfl⟩ := List.mem_map.mp hd
    exact ⟨(hs.2 c hc).2, (hs.2 c hc).1⟩⟩
  refine ⟨_, (pss_cons (ps_setLc (i := 4) (own := [("_law_takes", 5), ("_law_puts", 6)]) (g := gTup K 2 (gCons (gName 5) (gCons (gName 6) (gNil)))) (tt := tYes) rfl sc__law_exchanged_right.nd rfl rfl (sw_true rfl rfl rfl (by decide +kernel)) (ki_seq (K := K) (pv 2)) (blkOk_by (own := [("_law_takes", 5), ("_law_puts", 6)]) (N := N__law_exchanged_right) (sc := defScope s__law_exchanged_right) (by decide +kernel)) (fun _ _ _ _ _ => (kg_tup (K := K) rfl (pgs_cons (pg_name (i := 5) sc__law_exchanged_right.nd rfl (Or.inl rfl)) (pgs_cons (pg_name (i := 6) sc__law_exchanged_right.nd rfl (Or.inl rfl)) pgs_nil)))) (fun _ _ _ _ _ => pts_nil) (fun _ _ _ _ _ => (pe_tup (pa_cons (pv 6) (pa_cons (pv 5) pa_nil)))))
      (pss_cons (ps_for PassesOwn.never rfl (ki_seq (K := K) (pv 3)) (pg_name (i := 7) sc__law_exchanged_right.nd rfl (Or.inl rfl)) (pss_cons (ps_set (i := 8) sc__law_exchanged_right.nd rfl (Or.inl rfl) (pe_lst (pa_cons (pe_cal c__law_is_trap hr (by rfl) (pa_cons (pv 4) (pa_cons (pv 7) pa_nil))) (pa_cons (pe_cal c__law_is_drain hr (by rfl) (pa_cons (pv 4) (pa_cons (pv 7) pa_nil))) pa_nil))))
      (pss_one (ps_if (pt_not (pt_val (pe_calG c__law_same hgd hr (by rfl) (pa_cons (pe_lst (pa_cons (pe_cal c_is_drain hr (by rfl) (pa_cons (pv 0) (pa_cons (pv 7) pa_nil))) (pa_cons (pe_cal c_is_trap hr (by rfl) (pa_cons (pv 0) (pa_cons (pv 7) pa_nil))) pa_nil))) (pa_cons (pv 8) pa_nil))))) (pss_one (ps_ret pe_bl)) pss_nil))))
      (pss_cons (ps_if (pt_cmpR (ko_ne hu (K := K)) (pe_cal c__law_unlike hr (by rfl) (pa_cons (pv 4) pa_nil)) (pe_lst pa_nil) (nomark _)) (pss_one (ps_ret pe_bl)) pss_nil)
      (pss_cons (ps_set (i := 9) sc__law_exchanged_right.nd rfl (Or.inr rfl) (pe_cal c__law_built hr (by rfl) (pa_cons (pv 1) (pa_cons (pv 4) pa_nil))))
      (pss_cons (ps_if (pt_cmpR (ko_ne hu (K := K)) (pe_lcg (own := [("_law_row_here", 7)]) c_drains hr rfl sc__law_exchanged_right.nd (blkOk_by (own := [("_law_row_here", 7)]) (N := N__law_exchanged_right) (sc := defScope s__law_exchanged_right) (by decide +kernel)) (by rfl) (by rfl) (pa_cons (pv 9) pa_nil)) (pe_lcg (own := [("_law_row_here", 7)]) c_traps hr rfl sc__law_exchanged_right.nd (blkOk_by (own := [("_law_row_here", 7)]) (N := N__law_exchanged_right) (sc := defScope s__law_exchanged_right) (by decide +kernel)) (by rfl) (by rfl) (pa_cons (pv 0) pa_nil)) (nomark _)) (pss_one (ps_ret pe_bl)) pss_nil)
      (pss_one (ps_ret (pe_cmpR (ko_eq hu (K := K)) (pe_lc (own := [("_law_row_here", 7)]) (g := gName 7) rfl sc__law_exchanged_right.nd (ki_seq (K := K) (pv 3)) (blkOk_by (own := [("_law_row_here", 7)]) (N := N__law_exchanged_right) (sc := defScope s__law_exchanged_right) (by decide +kernel)) (fun _ _ _ _ _ => (pg_name (i := 7) sc__law_exchanged_right.nd rfl (Or.inl rfl))) (fun _ _ _ _ _ => pts_one (pt_cmpR (ko_ne hu (K := K)) (pe_cal c_trap_in hr (by rfl) (pa_cons (pv 9) (pa_cons (pv 7) pa_nil))) (pe_cal c_drain_in hr (by rfl) (pa_cons (pv 0) (pa_cons (pv 7) pa_nil))) (nomark _))) (fun _ _ _ _ _ => pe_int)) (pe_lst pa_nil) (nomark _))))))))), ?_⟩
  refine q_asg (P := Da K (.list ((ds.map swp).map DD))) e (ev_is (ev_lc0 ds DD (fun d => DD (swp d)) (ei_lst (ev_D rfl pz)) (by have := ok.l; omega) fun a v B2 ha e2 dv => lt_tup2 dv (fun _ _ => rfl) (fun _ _ _ _ => et_yes) fun x1 x2 d1 d2 _ => ev_tup [TuI a.2, TuI a.1] (ea_cons (ev_D rfl d2) (ea_cons (ev_D rfl d1) ea_nil)) (by simp)) (by rw [List.map_map]; rfl)) fun v4 B1 H1 g1 p4 => ?_
  have px1 := Mo.mo _ _ _ g1.bb px
  have pu1 := dp_mono g1.bb _ _ pu
  refine q_forG (K := K) (.refl g1.bh) (ei_lst (ev_D rfl pu1)) (fun i σ' B' H' => ∃ s7 s8 : Option V, σ' = [some x, some y, some z, some u, some v4, none, none, s7, s8, none]) (fun B2 H2 g2 => ⟨none, none, rfl⟩) ?_ ?_
  · rintro i v7 σ' B0 H0 B2 H2 dd N ⟨s7, s8, rfl⟩ hg g hdd d7 fin
    obtain ⟨t, ht1, rfl⟩ := map_get hdd
    have hset := ordS_set.mp (List.mem_of_getElem? ht1)
    have htl := isSet_len hset
    have hgg := hg.trans g
    have d7' : Dp K B2 v7 (TuI t) := d7
    have p42 := dp_mono hgg.bb _ _ p4
    refine q_asg (P := Da K (.list ([isDr ds t, isTr ds t].map .bool))) g.bh (ev_lst [.bool (isDr ds t), .bool (isTr ds t)] (ea_cons (ev_b (ev_bl (ev_call (ea_cons (ev_D rfl p42) (ea_cons (ev_D rfl d7') ea_nil)) (spv fun vs B3 _ h => ⟨ds.map swp, t, h, hs2, rfl⟩)) isTr_swp)) (ea_cons (ev_b (ev_bl (ev_call (ea_cons (ev_D rfl p42) (ea_cons (ev_D rfl d7') ea_nil)) (spv fun vs B3 _ h => ⟨ds.map swp, t, h, hs2, rfl⟩)) isDr_swp)) ea_nil)) (by simp)) fun v8 B3 H3 g3 p8 => ?_
    have d73 := dp_mono g3.bb _ _ d7'
    have px3 := Mo.mo _ _ _ (hgg.bb.trans g3.bb) px1
    exact s_not g3.bh (et_is (et_not (et_test (ev_call (ea_cons (ev_lst [.bool (isDr ds t), .bool (isTr ds t)] (ea_cons (ev_b (ev_call (ea_cons (ev_d rfl px3) (ea_cons (ev_D rfl d73) ea_nil)) (spv fun vs B3 _ h => ⟨ws, ds, t, h, hs, by omega, hset, rfl⟩))) (ea_cons (ev_b (ev_call (ea_cons (ev_d rfl px3) (ea_cons (ev_D rfl d73) ea_nil)) (spv fun vs B3 _ h => ⟨ws, ds, t, h, hs, by omega, hset, rfl⟩))) ea_nil)) (by simp)) (ea_cons (ev_D rfl p8) ea_nil)) (spv fun vs B4 _ h => ⟨isDr ds t, isTr ds t, h, rfl⟩)))) rfl) fun B4 H4 g4 => fin _ B4 H4 ((hgg.trans g3).trans g4) (g3.bb.trans g4.bb) ⟨_, _, rfl⟩
  · rintro σ' B2 H2 hg _ ⟨s7, s8, rfl⟩
    have h12 := g1.trans hg
    have p42 := dp_mono hg.bb _ _ p4
    refine q_ifX (p := fun b => b = true ∨ (b = false ∧ Free (ds.map swp))) hg.bh (etx_test fun B3 H3 a b Q' q' => ev_call (E := E0) (ea_cons (ev_D (i := 4) rfl p42) ea_nil) (spv (S := fun v B => ∃ us : List (Int × Int), Dp K B v (.list (us.map fun u => .tuple [.int u.1, .int u.2])) ∧ (us = [] → Free (ds.map swp))) fun vs B3 _ h => ⟨ds.map swp, h, hs2, rfl⟩) B3 H3 a b _ fun v B4 H4 g4 ⟨us, du, hfr⟩ => ?_) (fun hb B3 H3 g3 => ?_) fun hb B3 H3 g3 => ?_
    · refine ev_lst (K := K) [] ea_nil (by simp) B4 H4 (Same.refl _) g4.bh _ fun v2 B5 H5 g5 d2 => ?_
      refine ov_ned (K := K) (d := .list (us.map fun u => .tuple [.int u.1, .int u.2])) (sk_lst (k := 1) (mem_map' fun _ _ => sk_tup fun e he => by
        rcases List.mem_cons.mp he with rfl | he
        · exact sk_int
        · rcases List.mem_cons.mp he with rfl | he
          · exact sk_int
          · cases he)).sh (sk_nilL (k := 0)).sh v v2 B5 H5 (Same.refl _) g5.bh (dp_mono g5.bb _ _ du) d2 _ fun v3 B6 H6 g6 p6 => q' v3 B6 H6 ((g4.trans g5).trans g6) ?_
      rw [eqv_l0] at p6
      refine ⟨_, p6, ?_⟩
      by_cases hus : us = []
      · exact .inr ⟨by simp [hus], hfr hus⟩
      · exact .inl (by simp [hus])
    · exact s_ret g3.bh ev_c fun v B4 H4 g4 p4 => q v B4 H4 ((h12.trans g3).trans g4) p4
    · have hfree : Free (ds.map swp) := by
        rcases hb with h | h
        · cases h
        · exact h.2
      have ok2 := ok.swp hfree
      have g23 := hg.trans g3
      have px3 := Mo.mo _ _ _ g23.bb px1
      refine q_asg g3.bh (ev_call (ea_cons (ev_D rfl (dp_mono (g1.bb.trans g23.bb) _ _ py)) (ea_cons (ev_D rfl (dp_mono g3.bb _ _ p42)) ea_nil)) (spv fun vs B4 _ h => ⟨ws, ds.map swp, h, ok2, rfl⟩)) fun v9 B4 H4 g4 p9 => ?_
      have p9' : NetP K C ws (ds.map swp) v9 B4 := p9
      have px4 := Mo.mo _ _ _ g4.bb px3
      have hll := fun pp => least_len ws.length pp (by omega)
      refine q_not g4.bh (et_is (et_test (ev_op (ev_lcg (ea_cons (ev_d rfl p9') ea_nil) fun vs B5 H5 a b pp Q' q' => ⟨B5, ws, ds.map swp, b, pp, hs2, by omega, q'⟩) (ev_lcg (ea_cons (ev_d rfl px4) ea_nil) fun vs B5 H5 a b pp Q' q' => ⟨B5, ws, ds, b, pp, hs, by omega, q'⟩) (ov_ned (sk_lst (k := 1) (mem_map' fun _ _ => sk_ti _)).sh (sk_lst (k := 1) (mem_map' fun _ _ => sk_ti _)).sh))) ?_) fun B5 H5 g5 => ?_
      · rw [eqv_lti, show isDr (ds.map swp) = isTr ds from funext fun s => isDr_swp, decide_eq_true rfl]
        rfl
      · have p95 := Mo.mo _ _ _ g5.bb p9'
        have px5 := Mo.mo _ _ _ g5.bb px4
        have pu5 := dp_mono (g23.bb.trans (g4.bb.trans g5.bb)) _ _ pu1
        refine s_ret g5.bh (ev_bl (ev_op (ev_lcIf (ordS (subs ws.length)) TuI (fun _ => false) (fun _ => 1) (ei_lst (ev_D rfl pu5)) (by omega) fun a v B6 ha e2 dv => lt_name rfl (et_test (ev_op (ev_call (ea_cons (ev_d rfl (Mo.mo _ _ _ e2 p95)) (ea_cons (ev_D rfl dv) ea_nil)) (spv fun vs B7 _ h => ⟨ws, ds.map swp, a, h, hs2, by have := isSet_len (ordS_set.mp ha); omega, ordS_set.mp ha, rfl⟩)) (ev_call (ea_cons (ev_d rfl (Mo.mo _ _ _ e2 px5)) (ea_cons (ev_D rfl dv) ea_nil)) (spv fun vs B7 _ h => ⟨ws, ds, a, h, hs, by have := isSet_len (ordS_set.mp ha); omega, ordS_set.mp ha, rfl⟩)) (ov_ne_gt (ordS_set.mp ha).2))) fun _ => ev_ci) (ev_lst [] ea_nil (by simp)) (ov_eqd (sk_li (k := 0) _).sh (sk_nilL (k := 0)).sh)) ?_) fun v B6 H6 g6 p6 => q v B6 H6 (((((h12.trans g3).trans g4).trans g5).trans g6)) p6
        rw [eqv_li0, filter_nil]
        exact List.all_eq_true.mpr fun _ _ => rfl
end
end CN
set_option Elab.async false
set_option linter.all false
set_option maxRecDepth 100000
set_option maxHeartbeats 4000000
/-! E9: the law. -/
namespace CN
open PySem PySem.Spec PyProof.Rows L2 CM
section
variable {P : Program} {w : World} {K : PySem.W.Frag} {mg : Str → Option Value} {base : Heap} {C : Addr}
/-- a def run where no list is being shown, its function told -/
structure CalG2 (P : Program) (w : World) (K : PySem.W.Frag) (mg : Str → Option Value) (base : Heap) (x : Str) (k : Nat) (ps : List Str) (sp : Sp) : Prop where
  ex : ∃ f fd, FnOkG P w K mg base k f fd ps sp ∧ mg x = some (.ref f) ∧ (∃ oc od osl, K.lookup f = some ⟨oc, od, .func fd, osl⟩) ∧ Binds K fd ps []
theorem FunC.calG2 {x qual : Str} {st : Stmt} {N ps : List Str} {k : Nat} {sp : Sp} (F : FunC K mg x qual st) (S : FnScope N ps (defScope st))
    (hb : ∀ (kV doc pm : Value) (an : Option Addr) (cdv ct : Value) (us : List Value), us.length = ps.length → bindArgs (PySem.W.fnOf x qual (defArgs st) (defBody st) (defScope st) .none kV doc pm an cdv ct) ⟨us, []⟩ = pure (ps.zip us))
    (len : ∀ vs H Q, sp vs H Q E0 → vs.length = ps.length)
    (hbody : ∀ (f : Addr) (cdv : Value) (A : Around) (outer : List Env) (s : Shared) (H : Hp) (vs : List V) (Q : VK), (A.deeper (envOfC qual (defScope st) s.heap.objs.size f cdv)).guards = some [] → Room k (A.deeper (envOfC qual (defScope st) s.heap.objs.size f cdv)) → sp vs H Q E0 →
      ∃ t, PSs (cxOf CX0 P w K mg base N qual (defScope st) f cdv A outer s H E0).nox (defBody st) t ∧ t { nx := fun _ H' => Q .non H', rt := Q } (start N vs) H) : CalG2 P w K mg base x (k + 1) ps sp := by
  obtain ⟨f, fd, Fn, hm⟩ := F.ex
  have hbn := Fn.binds hb
  obtain ⟨oc, od, kV, doc, pm, an, cdv, ct, osl, rfl, lk, hcd⟩ := Fn.ex
  refine ⟨f, _, fnG_of lk hcd S len fun A outer s H vs Q hg hr hsp => ?_, hm, ⟨_, _, _, lk⟩, hbn⟩
  obtain ⟨t, h, q⟩ := hbody f cdv A outer s H vs Q hg hr hsp
  exact ⟨t, h.nox, q⟩
theorem s_forX {D : Ends} {tu : TS} {g : TG} {σ : L2.St} {B H Bz Hz : Hp} {wi : L2.TI} {dq : List PyData → Prop} (z : Gr Bz Hz B H) (hi : ∀ R : It → Hp → Prop, (∀ J B' H' d, Gr B H B' H' → dq d → ItOk K J B' d → R J H') → wi σ H R) (Pv : Nat → L2.St → Hp → Hp → Prop) (h0 : ∀ B1 H1, Gr B H B1 H1 → Pv 0 σ B1 H1)
    (hs : ∀ ds i x σ' B0 H0 B' H' d (N : L2.St → Hp → Prop), dq ds → Pv i σ' B0 H0 → Gr Bz Hz B0 H0 → Gr B0 H0 B' H' → ds[i]? = some d → Dp K B' x d → (∀ σ3 B3 H3, Gr Bz Hz B3 H3 → Same B' B3 → Pv (i + 1) σ3 B3 H3 → N σ3 H3) →
      g x σ' H' fun σ2 H2 => tu { D with nx := N, ct := N, bk := D.nx } σ2 H2)
    (hd : ∀ n σ' B' H', Gr Bz Hz B' H' → Pv n σ' B' H' → D.nx σ' H') : tFor wi g tu D σ H := hi _ fun J B1 H1 ds g1 hds it => by
  refine ⟨fun i m σ' H' => m = ds.length - i ∧ i ≤ ds.length ∧ ∃ B', Same B1 B' ∧ Gr Bz Hz B' H' ∧ Pv i σ' B' H', ⟨ds.length, by simp, Nat.zero_le _, B1, Same.refl _, z.trans g1, h0 B1 H1 g1⟩, ?_⟩
  rintro i m σ' H' ⟨rfl, hi', B', e1, e2, p⟩
  by_cases hlt : i < ds.length
  · refine .inr ⟨it.go i H' hlt (e1.trans e2.bh), fun σ3 H3 => ∃ B3, Same B1 B3 ∧ Gr Bz Hz B3 H3 ∧ Pv (i + 1) σ3 B3 H3, fun σ3 H3 p => ⟨ds.length - (i + 1), by omega, rfl, hlt, p⟩, fun x H4 y => ?_⟩
    obtain ⟨B4, g4, dx⟩ := it.yld i H' x H4 B' ds[i] (List.getElem?_eq_getElem hlt) e1 e2.bh y
    exact hs ds i x σ' B' H' B4 H4 ds[i] _ hds p e2 g4 (List.getElem?_eq_getElem hlt) dx fun σ3 B3 H3 a b c => ⟨B3, (e1.trans g4.bb).trans b, a, c⟩
  · have e : i = ds.length := by omega
    subst e
    exact .inl ⟨it.stop H' (e1.trans e2.bh), hd _ _ B' _ e2 p⟩
theorem q_forX {D : Ends} {tu tz : TS} {g : TG} {σ : L2.St} {B H Bz Hz : Hp} {wi : L2.TI} {dq : List PyData → Prop} (z : Gr Bz Hz B H) (hi : ∀ R : It → Hp → Prop, (∀ J B' H' d, Gr B H B' H' → dq d → ItOk K J B' d → R J H') → wi σ H R) (Pv : Nat → L2.St → Hp → Hp → Prop) (h0 : ∀ B1 H1, Gr B H B1 H1 → Pv 0 σ B1 H1)
    (hs : ∀ ds i x σ' B0 H0 B' H' d (N : L2.St → Hp → Prop), dq ds → Pv i σ' B0 H0 → Gr Bz Hz B0 H0 → Gr B0 H0 B' H' → ds[i]? = some d → Dp K B' x d → (∀ σ3 B3 H3, Gr Bz Hz B3 H3 → Same B' B3 → Pv (i + 1) σ3 B3 H3 → N σ3 H3) →
      g x σ' H' fun σ2 H2 => tu { D with nx := N, ct := N, bk := tz D } σ2 H2)
    (hd : ∀ n σ' B' H', Gr Bz Hz B' H' → Pv n σ' B' H' → tz D σ' H') : tSeq (tFor wi g tu) tz D σ H := s_forX (D := { D with nx := tz D }) z hi Pv h0 hs hd
theorem q_pen {i j : Nat} {tz : TS} {D : Ends} {σ : L2.St} {B H : Hp} {c : Int} (e : Same B H) (h : σ[j]? = some (some (.int c))) (k : ∀ l B' H', H l = none → Gr B H B' (del H' l) → Pn l 900000 H' → tz D (σ.set i (some (.ref l))) H') :
    tSeq (tAsg (tCall spPen [] E0 (tCons (tVar j) tNil)) (gName i)) tz D σ H := ⟨.int c, h, B, c, e, rfl, fun l B' H' hl g hp => k l B' H' hl g hp⟩
theorem pq_asgPr {i j : Nat} {σ : L2.St} {B H : Hp} {l : Addr} {m : Nat} {te : TE} {tz : TS} {D : Ends} {P R : Pd} (e : Same B (del H l)) (hp : Pn l m H) (h : EV te σ B (Pr K P R)) (k : ∀ v1 v2 B' H', Gr B (del H l) B' (del H' l) → Pn l m H' → P v1 B' → R v2 B' → tz D ((σ.set i (some v1)).set j (some v2)) H') :
    tSeq (tAsg te (gTup K 2 (gCons (gName i) (gCons (gName j) gNil)))) tz D σ H := q_asgPr (same_del e) h fun v1 v2 B' H' g p r => k v1 v2 B' H' (g.del e hp) (hp.keep g.hh) p r
theorem pq_not {t : TT} {tu tz : TS} {D : Ends} {σ : L2.St} {B H : Hp} {l : Addr} {m : Nat} (e : Same B (del H l)) (hp : Pn l m H) (h : ET t σ B false) (k : ∀ B' H', Gr B (del H l) B' (del H' l) → Pn l m H' → tz D σ H') : tSeq (tIfS t tu tNext) tz D σ H := pq_if e hp h (fun z => nomatch z) fun _ => k
theorem p_notT {te : TE} {tu : TS} {D : Ends} {σ : L2.St} {B H : Hp} {l : Addr} {m k : Nat} (e : Same B (del H l)) (hp : Pn l m H) (h : EVp te l k σ B (Xv (.bl true))) (hk : k ≤ m) (q : ∀ B' H', Gr B (del H l) B' (del H' l) → Pn l (m - k) H' → D.nx σ H') : tIfS (tNot (tTest te)) tu tNext D σ H :=
  h B H (m - k) (Same.refl _) e (hp.weak (by omega)) _ fun v B' H' g hp' pv => ⟨true, pv, q B' H' g hp'⟩
theorem ev_lst1x {te : TE} {σ : L2.St} {B : Hp} (h : EV te σ B (fun v _ => ∃ i : Int, v = .int i)) : EV (tLst (tCons te tNil)) σ B (Exd (fun _ : Int => True) fun i => Dl K [.int i]) := fun B1 H a b Q q =>
  h B1 H a b _ fun v B2 H2 g2 ⟨i, hv⟩ => ⟨by show 1 ≤ sizeLine; decide, fun t ht => by
    subst hv
    exact q (.ref t) _ _ (g2.trans (.new g2.bh ht)) ⟨i, trivial, t, _, rfl, upd_same, .cons (.int i) .nil⟩⟩
theorem ev_slLD {σ : L2.St} {B : Hp} {te : TE} {tl th : TO} {ds : List PyData} {lo hi : Option Int} (h : EV te σ B (Da K (.list ds))) (h1 : EO tl σ B lo) (h2 : EO th σ B hi) : EV (tSl (rSlAny K) te tl th) σ B (Dl K (cutD ds lo hi)) := ev_sl h h1 h2 fun x B1 H a b p Q q => by
  obtain ⟨l, xs, rfl, hs, ha⟩ := dp_lst_inv p
  exact .inl ⟨l, xs, rfl, sql_mono b hs, fun l' hl => q _ _ _ (.new b hl) ⟨l', _, rfl, upd_same, dpa_cut (dpa_mono (same_new (b.free hl)) _ _ ha)⟩⟩
abbrev s_law : Stmt := topS 93
abbrev N_law : List Str := ["_law_script", "_law_cell", "_law_pen_here", "_law_lap", "_law_worths", "_law_deeds", "_law_net_here", "_law_some", "_law_boxes", "_law_turn", "_law_state_here"]
theorem sc_law : FnScope N_law ["_law_script"] (defScope s_law) := ⟨rfl, rfl, rfl, by decide +kernel, rfl, by decide +kernel, by decide +kernel⟩
def spLaw (K : PySem.W.Frag) : Sp := pSp fun vs B S => ∃ xs : List Int, All2 [Da K (LiI xs)] vs B ∧ xs.length ≤ 1000 ∧ S = Xv (.bl true)
theorem ok_law (F : FunC K mg "law" "law" s_law) (T : Z mg) (c__law_cell_at : Cal P w K mg base "_law_cell_at" 1 ["_law_script", "_law_k"] (spCell K)) (c__law_pen : Cal P w K mg base "_law_pen" 1 ["_law_cell"] spPen) (c__law_net : Cal P w K mg base "_law_net" 4 ["_law_pen_here"] (spNet K)) (c__law_built : Cal P w K mg base "_law_built" 9 ["_law_worths", "_law_deeds"] (spBuilt K C)) (c__law_sets : Cal P w K mg base "_law_sets" 1 ["_law_count"] (spBelow K))
    (c__law_exchanged_right : CalG P w K mg base "_law_exchanged_right" 10 ["_law_net_here", "_law_worths", "_law_deeds", "_law_some"] (spExc K C)) (c__law_unions_right : Cal P w K mg base "_law_unions_right" 7 ["_law_net_here", "_law_some"] (spUni K C)) (c__law_inside_right : Cal P w K mg base "_law_inside_right" 6 ["_law_net_here", "_law_some", "_law_boxes"] (spIns K C))
    (c__law_state : Cal P w K mg base "_law_state" 2 ["_law_pen_here", "_law_worths", "_law_most"] (spState K)) (c__law_along_right : Cal P w K mg base "_law_along_right" 6 ["_law_net_here", "_law_some", "_law_state_here", "_law_row_here"] (spAlo K C)) (c__law_row : Cal P w K mg base "_law_row" 3 ["_law_pen_here", "_law_deeds", "_law_state_here", "_law_size"] (spRow K)) :
    CalG2 P w K mg base "law" 11 ["_law_script"] (spLaw K) := by
  refine F.calG2 sc_law (fun _ _ _ _ _ _ us hl => match us, hl with | [_], _ => rfl) (fun vs H Q h => by obtain ⟨_, _, _, ⟨_, h, _⟩, _⟩ := h; exact all2_len h) (fun f cdv A outer s H vs Q hgd hr h => ?_)
  obtain ⟨B, S, e, ⟨xs, p, hxl, rfl⟩, q⟩ := h
  obtain ⟨x, rfl, px⟩ := all2_1 p
  have hu := hr.units
  refine ⟨_, (pss_cons (ps_for PassesOwn.never rfl (ki_seq (K := K) (pe_op (ko_add (K := K)) (pe_lst (pa_cons (pe_cal c__law_cell_at hr (by rfl) (pa_cons (pv 0) (pa_cons pe_int pa_nil))) pa_nil)) (pe_slice (ko_sl (K := K)) (pv 0) (po_some pe_int) (po_some pe_int)))) (pg_name (i := 1) sc_law.nd rfl (Or.inl rfl)) (pss_cons (ps_set (i := 2) sc_law.nd rfl (Or.inl rfl) (pe_cal c__law_pen hr (by rfl) (pa_cons (pv 1) pa_nil)))
      (pss_one (ps_for PassesOwn.never rfl (pi_range1 (by rfl) T.z_range (pa_cons pe_int pa_nil)) (pg_name (i := 3) sc_law.nd rfl (Or.inl rfl)) (pss_cons (ps_asg (pe_cal c__law_net hr (by rfl) (pa_cons (pv 2) pa_nil)) (kg_tup (K := K) rfl (pgs_cons (pg_name (i := 4) sc_law.nd rfl (Or.inl rfl)) (pgs_cons (pg_name (i := 5) sc_law.nd rfl (Or.inl rfl)) pgs_nil))))
      (pss_cons (ps_asg (pe_tup (pa_cons (pe_cal c__law_built hr (by rfl) (pa_cons (pv 4) (pa_cons (pv 5) pa_nil))) (pa_cons (pe_cal c__law_sets hr (by rfl) (pa_cons (pe_callB (ko_len (K := K)) (by rfl) T.z_len (by decide +kernel) (pa_cons (pv 4) pa_nil)) pa_nil)) pa_nil))) (kg_tup (K := K) rfl (pgs_cons (pg_name (i := 6) sc_law.nd rfl (Or.inr rfl)) (pgs_cons (pg_name (i := 7) sc_law.nd rfl (Or.inr rfl)) pgs_nil))))
      (pss_cons (ps_if (PW.pt (pw_or (pt_not (pt_val (pe_cal c__law_unions_right hr (by rfl) (pa_cons (pv 6) (pa_cons (pv 7) pa_nil))))) (pw_or1 (pt_not (pt_val (pe_calG c__law_exchanged_right hgd hr (by rfl) (pa_cons (pv 6) (pa_cons (pv 4) (pa_cons (pv 5) (pa_cons (pv 7) pa_nil)))))))))) (pss_one (ps_ret pe_bl)) pss_nil)
      (pss_cons (ps_if (pt_cmpR (ko_ne hu (K := K)) (pe_lc (own := [("_law_boxes", 8)]) (g := gName 8) rfl sc_law.nd (ki_seq (K := K) (pv 7)) (blkOk_by (own := [("_law_boxes", 8)]) (N := N_law) (sc := defScope s_law) (by decide +kernel)) (fun _ _ _ _ _ => (pg_name (i := 8) sc_law.nd rfl (Or.inl rfl))) (fun _ _ _ _ _ => pts_one (pt_not (pt_val (pe_cal c__law_inside_right hr (by rfl) (pa_cons (pv 6) (pa_cons (pv 7) (pa_cons (pv 8) pa_nil))))))) (fun _ _ _ _ _ => pe_int)) (pe_lst pa_nil) (nomark _)) (pss_one (ps_ret pe_bl)) pss_nil)
      (pss_one (ps_for PassesOwn.never rfl (pi_range1 (by rfl) T.z_range (pa_cons pe_int pa_nil)) (pg_name (i := 9) sc_law.nd rfl (Or.inl rfl)) (pss_cons (ps_set (i := 10) sc_law.nd rfl (Or.inl rfl) (pe_cal c__law_state hr (by rfl) (pa_cons (pv 2) (pa_cons (pv 4) (pa_cons pe_int pa_nil)))))
      (pss_one (ps_if (pt_not (pt_val (pe_cal c__law_along_right hr (by rfl) (pa_cons (pv 6) (pa_cons (pv 7) (pa_cons (pv 10) (pa_cons (pe_cal c__law_row hr (by rfl) (pa_cons (pv 2) (pa_cons (pv 5) (pa_cons (pv 10) (pa_cons pe_int pa_nil))))) pa_nil))))))) (pss_one (ps_ret pe_bl)) pss_nil)))))))))))))
      (pss_one (ps_ret pe_bl))), ?_⟩
  have hlst : EV (tOp (rAdd4 K) (tLst (tCons (tCall (spCell K) [] E0 (tCons (tVar 0) (tCons (tC (.int 0)) tNil))) tNil)) (tSl (rSlAny K) (tVar 0) (tPart (tC (.int 1))) (tPart (tC (.int 3))))) (start N_law [x]) B (Exd (fun _ : Int => True) fun i => Dl K ([.int i] ++ (cutD xs (some 1) (some 3)).map .int)) := by
    refine ev_op (P := Exd (fun _ : Int => True) fun i => Dl K [.int i]) (ev_lst1x (ev_call (ea_cons (ev_D rfl px) (ea_cons ev_c ea_nil)) (spv fun vs B3 _ h => ⟨xs, h, rfl⟩))) (ev_slLD (ev_D rfl px) (eo_some ev_c) (eo_some ev_c)) (ov_exl fun i _ => ?_)
    rw [cutD_map]
    have hcl := cutD_len (lo := some 1) (hi := some 3) xs
    exact ov_addL (by rw [List.length_map]; show 1 + _ ≤ _; omega)
  refine q_forX (K := K) (dq := fun d => ∃ i : Int, d = ([.int i] ++ (cutD xs (some 1) (some 3)).map .int)) (.refl e) (fun R hR => hlst B H (Same.refl _) e _ fun v B1 H1 g1 ⟨i, _, hv⟩ => ?_)
    (fun _ σ' B' H' => ∃ s1 s2 s3 s4 s5 s6 s7 s8 s9 s10 : Option V, σ' = [some x, s1, s2, s3, s4, s5, s6, s7, s8, s9, s10]) (fun B1 H1 g1 => ⟨_, _, _, _, _, _, _, _, _, _, rfl⟩) ?_ ?_
  · obtain ⟨a, ys, rfl, hs, ha⟩ := dp_lst_inv (dl_da hv)
    exact ⟨a, rfl, .inl ⟨⟨ys, sql_mono g1.bh hs⟩, hR _ B1 H1 _ g1 ⟨i, rfl⟩ (itOk_lst hs ha)⟩⟩
  · rintro dd i v1 σ' B0 H0 B1 H1 d N ⟨i0, rfl⟩ ⟨s1, s2, s3, s4, s5, s6, s7, s8, s9, s10, rfl⟩ hg g hd d1 fin
    obtain ⟨c, rfl⟩ : ∃ c : Int, v1 = V.int c := by
      have hm := List.mem_of_getElem? hd
      rcases List.mem_append.mp hm with h | h
      · rw [List.mem_singleton.mp h] at d1
        exact ⟨_, dp_int_inv d1⟩
      · obtain ⟨z, _, rfl⟩ := List.mem_map.mp h
        exact ⟨_, dp_int_inv d1⟩
    have hgg := hg.trans g
    refine q_pen hgg.bh rfl fun l B2 H2 hl g2 hp2 => ?_
    have h12 : Gr B H B2 (del H2 l) := hgg.trans g2
    refine p_for (K := K) (l := l) (m := 900000) 1000 (k := 0) (n := 4) h12 hp2 (eip (ei_rng1 (n := 4) (ea_cons ev_c ea_nil) (by omega))) (fun d hd => by rw [hd]; simp [rangeL]) (by omega)
      (fun _ _ σ' B' H' => ∃ s3 s4 s5 s6 s7 s8 s9 s10 : Option V, σ' = [some x, some (.int c), some (.ref l), s3, s4, s5, s6, s7, s8, s9, s10]) (fun _ B3 H3 _ g3 => ⟨_, _, _, _, _, _, _, _, rfl⟩) ?_ ?_
    · rintro ds0 j v3 σ' B3 H3 B4 H4 dd M N2 rfl ⟨s3, s4, s5, s6, s7, s8, s9, s10, rfl⟩ hg3 g4 hp4 hd3 dd3 fin2
      have hg4 := hg3.trans g4
      refine pq_asg2 (K := K) (p := fun p : List Int × List Deed => NetOk p.1 p.2) (d1 := fun p => TuI p.1) (d2 := fun p => .list (p.2.map DD)) hg4.bh hp4 (ep_call (epa (ea_cons (ev_var rfl) ea_nil)) (spP fun vs B5 _ h => ⟨h, rfl⟩)) (by omega) fun np v4 v5 B5 H5 ok g5 hp5 p4 p5 => ?_
      obtain ⟨ws, ds⟩ := np
      have ok : NetOk ws ds := ok
      have p4 : Dp K B5 v4 (TuI ws) := p4
      have p5 : Dp K B5 v5 (.list (ds.map DD)) := p5
      have hs := ok.sml
      have hw5 := ok.w5
      have hol := ordS_len ws.length (by omega)
      have hlen : ∀ {σ : L2.St}, σ[4]? = some (some v4) → EV (tCB (rLenA K) (tCons (tVar 4) tNil)) σ B5 (Xv (.int (ws.length : Int))) := fun h4 => by
        have := ev_cb (ea_cons (ev_D h4 p4) ea_nil) (cv_lent (K := K) (B := B5))
        rwa [List.length_map] at this
      refine pq_asgPr (K := K) (P := NetP K C ws ds) (R := Da K (SetsD ws.length)) g5.bh hp5 (ev_pr (ev_call (ea_cons (ev_D rfl p4) (ea_cons (ev_D rfl p5) ea_nil)) (spv fun vs B6 _ h => ⟨ws, ds, h, ok, rfl⟩)) (ev_call (ea_cons (hlen rfl) ea_nil) (spv fun vs B6 _ h => ⟨ws.length, h, by omega, rfl⟩))) fun v6 v7 B6 H6 g6 hp6 p6 p7 => ?_
      have p46 := dp_mono g6.bb _ _ p4
      have p56 := dp_mono g6.bb _ _ p5
      refine pq_not g6.bh hp6 (et_or (x := false) (y := false) (et_not (x := true) (et_test (ev_call (ea_cons (ev_d rfl p6) (ea_cons (ev_D rfl p7) ea_nil)) (spv fun vs B7 _ h => ⟨ws, ds, h, ok, rfl⟩)))) fun _ => et_not (x := true) (et_test (ev_call (ea_cons (ev_d rfl p6) (ea_cons (ev_D rfl p46) (ea_cons (ev_D rfl p56) (ea_cons (ev_D rfl p7) ea_nil)))) (spv fun vs B7 _ h => ⟨ws, ds, h, ok, rfl⟩)))) fun B7 H7 g7 hp7 => ?_
      have p67 := Mo.mo _ _ _ g7.bb p6
      have p77 := dp_mono g7.bb _ _ p7
      refine pq_not g7.bh hp7 (et_is (et_test (ev_op (ev_lcIf (ordS (subs ws.length)) TuI (fun _ => false) (fun _ => 1) (ei_lst (ev_D rfl p77)) (by omega) fun a v B8 ha e2 dv => lt_name rfl (et_not (x := true) (et_test (ev_call (ea_cons (ev_d rfl (Mo.mo _ _ _ e2 p67)) (ea_cons (ev_D rfl (dp_mono e2 _ _ p77)) (ea_cons (ev_D rfl dv) ea_nil))) (spv fun vs B9 _ h => ⟨ws, ds, a, h, ok, ordS_set.mp ha, rfl⟩)))) fun _ => ev_ci) (ev_lst [] ea_nil (by simp)) (ov_ned (sk_li (k := 0) _).sh (sk_nilL (k := 0)).sh))) (by rw [eqv_li0, filter_nn]; exact List.any_eq_false.mpr fun _ _ => Bool.false_ne_true)) fun B8 H8 g8 hp8 => ?_
      have e68 := g7.bb.trans g8.bb
      have p68 := Mo.mo _ _ _ e68 p6
      have p78 := dp_mono e68 _ _ p7
      have p48 := dp_mono e68 _ _ p46
      have p58 := dp_mono e68 _ _ p56
      have hg8 := (((hg4.trans g5).trans g6).trans g7).trans g8
      have eM : M + 1000 - (0 + 100) ≥ M + 3 * 30 := by omega
      refine p_for (K := K) (l := l) (m := M + 3 * 30) 30 (k := 0) (n := 3) (.refl g8.bh) (hp8.weak eM) (eip (ei_rng1 (n := 3) (ea_cons ev_c ea_nil) (by omega))) (fun d hd => by rw [hd]; simp [rangeL]) (by omega)
        (fun _ _ σ' B' H' => ∃ s8 s9 s10 : Option V, σ' = [some x, some (.int c), some (.ref l), some v3, some v4, some v5, some v6, some v7, s8, s9, s10]) (fun _ B3 H3 _ g3 => ⟨_, _, _, rfl⟩) ?_ ?_
      · rintro ds1 j2 v9 σ' B9 H9 B10 H10 dd4 M2 N3 rfl ⟨s8, s9, s10, rfl⟩ hg9 g10 hp10 hd4 dd4' fin3
        have hg10 := hg9.trans g10
        have q4 := dp_mono hg10.bb _ _ p48
        refine pq_asg hg10.bh hp10 (ep_call (epa (ea_cons (ev_var rfl) (ea_cons (ev_D rfl q4) (ea_cons ev_c ea_nil)))) (spP fun vs B7 _ h => ⟨ws, 5, h, ok.w, rfl⟩)) (by omega) fun v10 B11 H11 g11 hp11 ⟨st, ⟨hst1, hst2⟩, pst⟩ => ?_
        have pst : Dp K B11 v10 (TuI st) := pst
        have hb := hg10.bb.trans g11.bb
        have q6 := Mo.mo _ _ _ hb p68
        have q7 := dp_mono hb _ _ p78
        have q5 := dp_mono hb _ _ p58
        refine p_notT g11.bh hp11 (ep_call (k2 := 0) (epa_cons (ep (ev_d rfl q6)) (epa_cons (ep (ev_D rfl q7)) (epa_cons (ep (ev_D rfl pst)) (epa_cons (ep_call (epa (ea_cons (ev_var rfl) (ea_cons (ev_D rfl q5) (ea_cons (ev_D rfl pst) (ea_cons ev_c ea_nil))))) (spP fun vs B7 _ h => ⟨ds, st, h, hs, fun d hd b hb => by have := (ok.d d hd).s1.1 b hb; omega, by omega, hst2, rfl⟩)) (epa ea_nil))))) fun vs B12 H12 m12 a12 b12 hp12 hall Q' E' q' => ?_) (by omega) fun B12 H12 g12 hp12 => fin3 _ B12 H12 ((hg10.trans g11).trans g12) (g11.bb.trans g12.bb) (hp12.weak (by omega)) ⟨_, _, _, rfl⟩
        obtain ⟨z1, z2, z3, z4, rfl, y1, y2, y3, ⟨row, ⟨rok, rl⟩, y4⟩⟩ := all2_4 hall
        exact ⟨B12, _, same_del b12, ⟨ws, ds, st, row, ⟨y1, y2, y3, y4, trivial⟩, ok, hst1, hst2, rok, by omega, rfl⟩, fun v B' H' g p => q' v B' H' (g.del b12 hp12) (hp12.keep g.hh) p⟩
      · rintro ds1 σ' B9 H9 rfl hg9 _ hp9 ⟨s8, s9, s10, rfl⟩
        exact fin2 _ B9 H9 (hg8.trans hg9) ((((g5.bb.trans g6.bb).trans g7.bb).trans g8.bb).trans hg9.bb) (hp9.weak (by omega)) ⟨_, _, _, _, _, _, _, _, rfl⟩
    · rintro ds0 σ' B3 H3 rfl hg3 hb3 hp3 ⟨s3, s4, s5, s6, s7, s8, s9, s10, rfl⟩
      exact fin _ B3 H3 hg3.undel (g2.bb.trans hb3) ⟨_, _, _, _, _, _, _, _, _, _, rfl⟩
  · rintro n σ' B1 H1 hg ⟨s1, s2, s3, s4, s5, s6, s7, s8, s9, s10, rfl⟩
    exact s_ret hg.bh ev_c fun v B2 H2 g2 p2 => q v B2 H2 (hg.trans g2) p2
end
end CN
set_option Elab.async false
set_option linter.all false
set_option maxRecDepth 100000
set_option maxHeartbeats 4000000
/-! FA: from what the head tells to the law's promise. -/
namespace CN
open PySem PySem.Spec PyProof.Rows L2 CM
section
variable {P : Program} {w : World} {K : PySem.W.Frag} {mg : Str → Option Value} {base : Heap} {h : Heap}
theorem sc_all (c : SaysC K) : (fa.all fun f => f.ok K) = true ∧ (fn.all fun d => d.ok K) = true ∧ exB K = true := by
  have c1 : ((fa.all fun f => f.ok K) && ((fn.all fun d => d.ok K) && exB K)) = true := congrArg (fun z : He.AlD => z.1) c
  obtain ⟨a, b⟩ := Bool.and_eq_true_iff.mp c1
  exact ⟨a, Bool.and_eq_true_iff.mp b⟩
theorem sc_fact (c : SaysC K) {f : He.Fa} (hf : f ∈ fa) : f.ok K = true := List.all_eq_true.mp (sc_all c).1 f hf
theorem sc_def (c : SaysC K) (i : Nat) {d : He5.DefA} (hd : fn[i]? = some d) : ∃ fd, FunD K d.name d.qual d.params d.body d.scope (d.dvs K) (d.kws K) (d.at_ K) fd := by
  have e : fn.map (fun d => He5.fnA K (d.at_ K)) = fn.map He5.DefA.val := congrArg (fun z : He.AlD => z.2) c
  have e2 : (fn.map fun d => He5.fnA K (d.at_ K))[i]? = (fn.map He5.DefA.val)[i]? := by rw [e]
  rw [List.getElem?_map, List.getElem?_map, hd] at e2
  exact He5.DefA.funD (Option.some.inj e2) (List.all_eq_true.mp (sc_all c).2.1 d (List.mem_of_getElem? hd))
theorem fa_fact (c : SaysC K) (i : Nat) {f : He.Fa} (hf : fa[i]? = some f) : f.ok K = true := sc_fact c (List.mem_of_getElem? hf)
theorem propB_ok {C : Addr} {m : Str} (h : propB K C m = true) : PropOf K C m (He.ma K C m) (prg K C m) := by
  unfold propB at h
  obtain ⟨h1, h⟩ := Bool.and_eq_true_iff.mp h
  obtain ⟨h2, h⟩ := Bool.and_eq_true_iff.mp h
  obtain ⟨h3, h4⟩ := Bool.and_eq_true_iff.mp h
  refine ⟨He.eqO_ok h1, He.eqO_ok h2, of_decide_eq_true h3, ?_⟩
  unfold prg
  split at h4
  · rename_i g rest e
    rw [e]
    exact ⟨rest, rfl⟩
  · cases h4
abbrev CC (K : PySem.W.Frag) : Addr := He.ga K "Net"

theorem fc (X : K.In h) (G : h.Ns mainGlobals mg) (c : SaysC K) (i j : Nat) {x : Str} {st : Stmt} {d : He5.DefA} (hd : fn[i]? = some d) (e : d = ⟨fun K => He.ga K x, x, x, defArgs st, defBody st, defScope st, [], []⟩) (hj : fa[j]? = some (.glo x)) : FunC K mg x x st := by
  subst e
  obtain ⟨fd, F⟩ := sc_def c i hd
  exact ⟨_, fd, He5.fun_of F, He.glo_ok X G (fa_fact c j hj)⟩
theorem fnIn_of {x qual : Str} {params : Arguments} {body : List Stmt} {scope : Scope} {dvs : List V} {kws : List (Str × V)} {f : Addr} {fd : FuncData} (F : FunD K x qual params body scope dvs kws f fd) : PySem.W.fnIn K f = true := by
  obtain ⟨oc, od, _, _, _, _, _, _, _, osl, e, l, _⟩ := F.ex
  unfold PySem.W.fnIn
  rw [l]
theorem exB_ok (c : SaysC K) : PropOf K (CC K) "deeds" (He.ma K (CC K) "deeds") (prg K (CC K) "deeds") ∧ PropOf K (CC K) "boxes" (He.ma K (CC K) "boxes") (prg K (CC K) "boxes") ∧ ClX.CMet K (CC K) (.type "type") "read" (He.ma K (CC K) "read") (He5.wf K (CC K) "classmethod" "read") ∧ ClX.CRead K (CC K) (.type "type") ∧ PySem.W.noSeq K (CC K) = true ∧ PySem.W.fnIn K (He.ma K (CC K) "__getitem__") = true ∧
    PySem.W.findIn K (.ref (CC K)) "__class__" = some (some (.builtin "object.__class__")) ∧ PySem.W.specialIn K (.builtin "object.__class__") "__get__" = some (some (.builtin "getset_descriptor.__get__")) ∧ PySem.W.takesIn K (.builtin "object.__class__") = some true ∧ PySem.W.mroIn K (CC K) (.type "object") = some true ∧ PySem.W.keepIn K (.ref (CC K)) = true := by
  have h := (sc_all c).2.2
  unfold exB at h
  obtain ⟨h1, h⟩ := Bool.and_eq_true_iff.mp h
  obtain ⟨h2, h⟩ := Bool.and_eq_true_iff.mp h
  obtain ⟨h3, h⟩ := Bool.and_eq_true_iff.mp h
  obtain ⟨h4, h⟩ := Bool.and_eq_true_iff.mp h
  obtain ⟨h5, h⟩ := Bool.and_eq_true_iff.mp h
  obtain ⟨h6, h⟩ := Bool.and_eq_true_iff.mp h
  obtain ⟨h7, h⟩ := Bool.and_eq_true_iff.mp h
  obtain ⟨h8, h⟩ := Bool.and_eq_true_iff.mp h
  obtain ⟨h9, h⟩ := Bool.and_eq_true_iff.mp h
  obtain ⟨h10, h⟩ := Bool.and_eq_true_iff.mp h
  obtain ⟨h11, h⟩ := Bool.and_eq_true_iff.mp h
  obtain ⟨h12, h13⟩ := Bool.and_eq_true_iff.mp h
  exact ⟨propB_ok h1, propB_ok h2, He5.cmet_of h3 h4, ⟨h5, He.eqO_ok h6⟩, h7, h8, He.eqO_ok h9, He.eqO_ok h10, of_decide_eq_true h11, of_decide_eq_true h12, h13⟩
theorem netF_of (X : K.In h) (G : h.Ns mainGlobals mg) (c : SaysC K) : NetF K mg (CC K) := by
  obtain ⟨e1, e2, e3, e4, e5, e6, e7, e8, e9, e10, e11⟩ := exB_ok c
  exact { glo := He.glo_ok X G (fa_fact c 6 rfl), cls := He.cls_ok (fa_fact c 0 rfl), kp := e11, nc := He.noat_ok (fa_fact c 1 rfl), nr := He.noat_ok (fa_fact c 2 rfl), ca := e7, cg := e8, ct := e9, cm := e10, nq := e5, rd := e4 }

theorem z_of (X : K.In h) (G : h.Ns mainGlobals mg) (c : SaysC K) : Z mg := { z_all := He.free_ok X G (fa_fact c 12 rfl), z_any := He.free_ok X G (fa_fact c 13 rfl), z_isinstance := He.free_ok X G (fa_fact c 14 rfl), z_len := He.free_ok X G (fa_fact c 15 rfl), z_int := He.free_ok X G (fa_fact c 16 rfl), z_bool := He.free_ok X G (fa_fact c 17 rfl), z_str := He.free_ok X G (fa_fact c 18 rfl), z_tuple := He.free_ok X G (fa_fact c 19 rfl), z_list := He.free_ok X G (fa_fact c 20 rfl), z_sum := He.free_ok X G (fa_fact c 21 rfl), z_sorted := He.free_ok X G (fa_fact c 22 rfl), z_set := He.free_ok X G (fa_fact c 23 rfl), z_range := He.free_ok X G (fa_fact c 24 rfl), z_zip := He.free_ok X G (fa_fact c 25 rfl), z_enumerate := He.free_ok X G (fa_fact c 26 rfl), z_min := He.free_ok X G (fa_fact c 27 rfl), z_max := He.free_ok X G (fa_fact c 28 rfl), z_repr := He.free_ok X G (fa_fact c 29 rfl), c_MOST_BOXES := He.int_ok X G (fa_fact c 7 rfl), c_MOST_DEEDS := He.int_ok X G (fa_fact c 8 rfl), c_MOST_COIN := He.int_ok X G (fa_fact c 9 rfl), c_HEAD := He.str_ok X G (fa_fact c 10 rfl), c_ARROW := He.str_ok X G (fa_fact c 11 rfl) }
theorem law_of (X : K.In h) (G : h.Ns mainGlobals mg) (c : SaysC K) (hl : mg ("law" : Str) = some (.ref (He.ga K "law"))) : CalG2 P w K mg base "law" 11 ["_law_script"] (spLaw K) := by
  have T := z_of X G c
  have N := netF_of X G c
  obtain ⟨e1, e2, e3, e4, e5, e6, e7, e8, e9, e10, e11⟩ := exB_ok c
  have F_is_integer : FunC K mg "is_integer" "is_integer" s_is_integer := fc X G c 0 30 (d := d_is_integer) rfl rfl (by kernel_rfl)
  have F_is_between : FunC K mg "is_between" "is_between" s_is_between := fc X G c 1 31 (d := d_is_between) rfl rfl (by kernel_rfl)
  have F_is_set : FunC K mg "is_set" "is_set" s_is_set := fc X G c 2 32 (d := d_is_set) rfl rfl (by kernel_rfl)
  have F_are_counts : FunC K mg "are_counts" "are_counts" s_are_counts := fc X G c 3 33 (d := d_are_counts) rfl rfl (by kernel_rfl)
  have F_in_order : FunC K mg "in_order" "in_order" s_in_order := fc X G c 4 34 (d := d_in_order) rfl rfl (by kernel_rfl)
  have F_sets_below : FunC K mg "sets_below" "sets_below" s_sets_below := fc X G c 5 35 (d := d_sets_below) rfl rfl (by kernel_rfl)
  have F_have_common : FunC K mg "have_common" "have_common" s_have_common := fc X G c 6 36 (d := d_have_common) rfl rfl (by kernel_rfl)
  have F_is_inside : FunC K mg "is_inside" "is_inside" s_is_inside := fc X G c 7 37 (d := d_is_inside) rfl rfl (by kernel_rfl)
  have F_numbers_text : FunC K mg "numbers_text" "numbers_text" s_numbers_text := fc X G c 8 38 (d := d_numbers_text) rfl rfl (by kernel_rfl)
  have F_net_lines : FunC K mg "net_lines" "net_lines" s_net_lines := fc X G c 9 39 (d := d_net_lines) rfl rfl (by kernel_rfl)
  have F_digit_in : FunC K mg "digit_in" "digit_in" s_digit_in := fc X G c 10 40 (d := d_digit_in) rfl rfl (by kernel_rfl)
  have F_numbers_in : FunC K mg "numbers_in" "numbers_in" s_numbers_in := fc X G c 11 41 (d := d_numbers_in) rfl rfl (by kernel_rfl)
  have F_parts_in : FunC K mg "parts_in" "parts_in" s_parts_in := fc X G c 12 42 (d := d_parts_in) rfl rfl (by kernel_rfl)
  have F_are_worths : FunC K mg "are_worths" "are_worths" s_are_worths := fc X G c 13 43 (d := d_are_worths) rfl rfl (by kernel_rfl)
  have F_worth_of : FunC K mg "worth_of" "worth_of" s_worth_of := fc X G c 14 44 (d := d_worth_of) rfl rfl (by kernel_rfl)
  have F_is_deed : FunC K mg "is_deed" "is_deed" s_is_deed := fc X G c 15 45 (d := d_is_deed) rfl rfl (by kernel_rfl)
  have F_first_unlike : FunC K mg "first_unlike" "first_unlike" s_first_unlike := fc X G c 16 46 (d := d_first_unlike) rfl rfl (by kernel_rfl)
  have F_met_from : FunC K mg "met_from" "met_from" s_met_from := fc X G c 17 47 (d := d_met_from) rfl rfl (by kernel_rfl)
  have F_check_deeds : FunC K mg "check_deeds" "check_deeds" s_check_deeds := fc X G c 18 48 (d := d_check_deeds) rfl rfl (by kernel_rfl)
  have F_need_net : FunC K mg "need_net" "need_net" s_need_net := fc X G c 20 50 (d := d_need_net) rfl rfl (by kernel_rfl)
  have F_need_number : FunC K mg "need_number" "need_number" s_need_number := fc X G c 21 51 (d := d_need_number) rfl rfl (by kernel_rfl)
  have F_need_state : FunC K mg "need_state" "need_state" s_need_state := fc X G c 22 52 (d := d_need_state) rfl rfl (by kernel_rfl)
  have F_is_a_drain : FunC K mg "is_a_drain" "is_a_drain" s_is_a_drain := fc X G c 23 53 (d := d_is_a_drain) rfl rfl (by kernel_rfl)
  have F_is_a_trap : FunC K mg "is_a_trap" "is_a_trap" s_is_a_trap := fc X G c 24 54 (d := d_is_a_trap) rfl rfl (by kernel_rfl)
  have F_is_drain : FunC K mg "is_drain" "is_drain" s_is_drain := fc X G c 25 55 (d := d_is_drain) rfl rfl (by kernel_rfl)
  have F_is_trap : FunC K mg "is_trap" "is_trap" s_is_trap := fc X G c 26 56 (d := d_is_trap) rfl rfl (by kernel_rfl)
  have F_smallest_of : FunC K mg "smallest_of" "smallest_of" s_smallest_of := fc X G c 27 57 (d := d_smallest_of) rfl rfl (by kernel_rfl)
  have F_drains_of : FunC K mg "drains_of" "drains_of" s_drains_of := fc X G c 28 58 (d := d_drains_of) rfl rfl (by kernel_rfl)
  have F_drains : FunC K mg "drains" "drains" s_drains := fc X G c 29 59 (d := d_drains) rfl rfl (by kernel_rfl)
  have F_traps : FunC K mg "traps" "traps" s_traps := fc X G c 30 60 (d := d_traps) rfl rfl (by kernel_rfl)
  have F_greatest_trap : FunC K mg "greatest_trap" "greatest_trap" s_greatest_trap := fc X G c 31 61 (d := d_greatest_trap) rfl rfl (by kernel_rfl)
  have F_greatest_drain : FunC K mg "greatest_drain" "greatest_drain" s_greatest_drain := fc X G c 32 62 (d := d_greatest_drain) rfl rfl (by kernel_rfl)
  have F_need_boxes : FunC K mg "need_boxes" "need_boxes" s_need_boxes := fc X G c 33 63 (d := d_need_boxes) rfl rfl (by kernel_rfl)
  have F_trap_in : FunC K mg "trap_in" "trap_in" s_trap_in := fc X G c 34 64 (d := d_trap_in) rfl rfl (by kernel_rfl)
  have F_drain_in : FunC K mg "drain_in" "drain_in" s_drain_in := fc X G c 35 65 (d := d_drain_in) rfl rfl (by kernel_rfl)
  have F_moved : FunC K mg "moved" "moved" s_moved := fc X G c 36 66 (d := d_moved) rfl rfl (by kernel_rfl)
  have F_can_do : FunC K mg "can_do" "can_do" s_can_do := fc X G c 37 67 (d := d_can_do) rfl rfl (by kernel_rfl)
  have F_after : FunC K mg "after" "after" s_after := fc X G c 38 68 (d := d_after) rfl rfl (by kernel_rfl)
  have F__law_within : FunC K mg "_law_within" "_law_within" s__law_within := fc X G c 39 69 (d := d__law_within) rfl rfl (by kernel_rfl)
  have F__law_is_empty : FunC K mg "_law_is_empty" "_law_is_empty" s__law_is_empty := fc X G c 40 70 (d := d__law_is_empty) rfl rfl (by kernel_rfl)
  have F__law_touches : FunC K mg "_law_touches" "_law_touches" s__law_touches := fc X G c 41 71 (d := d__law_touches) rfl rfl (by kernel_rfl)
  have F__law_is_trap : FunC K mg "_law_is_trap" "_law_is_trap" s__law_is_trap := fc X G c 42 72 (d := d__law_is_trap) rfl rfl (by kernel_rfl)
  have F__law_is_drain : FunC K mg "_law_is_drain" "_law_is_drain" s__law_is_drain := fc X G c 43 73 (d := d__law_is_drain) rfl rfl (by kernel_rfl)
  have F__law_same : FunC K mg "_law_same" "_law_same" s__law_same := fc X G c 44 74 (d := d__law_same) rfl rfl (by kernel_rfl)
  have F__law_unlike : FunC K mg "_law_unlike" "_law_unlike" s__law_unlike := fc X G c 45 75 (d := d__law_unlike) rfl rfl (by kernel_rfl)
  have F__law_text : FunC K mg "_law_text" "_law_text" s__law_text := fc X G c 46 76 (d := d__law_text) rfl rfl (by kernel_rfl)
  have F__law_built : FunC K mg "_law_built" "_law_built" s__law_built := fc X G c 47 77 (d := d__law_built) rfl rfl (by kernel_rfl)
  have F__law_cell_at : FunC K mg "_law_cell_at" "_law_cell_at" s__law_cell_at := fc X G c 48 78 (d := d__law_cell_at) rfl rfl (by kernel_rfl)
  have F__law_pen : FunC K mg "_law_pen" "_law_pen" s__law_pen := fc X G c 49 79 (d := d__law_pen) rfl rfl (by kernel_rfl)
  have F__law_draw : FunC K mg "_law_draw" "_law_draw" s__law_draw := fc X G c 50 80 (d := d__law_draw) rfl rfl (by kernel_rfl)
  have F__law_mixed : FunC K mg "_law_mixed" "_law_mixed" s__law_mixed := fc X G c 51 81 (d := d__law_mixed) rfl rfl (by kernel_rfl)
  have F__law_worth : FunC K mg "_law_worth" "_law_worth" s__law_worth := fc X G c 52 82 (d := d__law_worth) rfl rfl (by kernel_rfl)
  have F__law_sets : FunC K mg "_law_sets" "_law_sets" s__law_sets := fc X G c 53 83 (d := d__law_sets) rfl rfl (by kernel_rfl)
  have F__law_pick : FunC K mg "_law_pick" "_law_pick" s__law_pick := fc X G c 54 84 (d := d__law_pick) rfl rfl (by kernel_rfl)
  have F__law_loose : FunC K mg "_law_loose" "_law_loose" s__law_loose := fc X G c 55 85 (d := d__law_loose) rfl rfl (by kernel_rfl)
  have F__law_met : FunC K mg "_law_met" "_law_met" s__law_met := fc X G c 56 86 (d := d__law_met) rfl rfl (by kernel_rfl)
  have F__law_kit : FunC K mg "_law_kit" "_law_kit" s__law_kit := fc X G c 57 87 (d := d__law_kit) rfl rfl (by kernel_rfl)
  have F__law_ring : FunC K mg "_law_ring" "_law_ring" s__law_ring := fc X G c 58 88 (d := d__law_ring) rfl rfl (by kernel_rfl)
  have F__law_net : FunC K mg "_law_net" "_law_net" s__law_net := fc X G c 59 89 (d := d__law_net) rfl rfl (by kernel_rfl)
  have F__law_state : FunC K mg "_law_state" "_law_state" s__law_state := fc X G c 60 90 (d := d__law_state) rfl rfl (by kernel_rfl)
  have F__law_possible : FunC K mg "_law_possible" "_law_possible" s__law_possible := fc X G c 61 91 (d := d__law_possible) rfl rfl (by kernel_rfl)
  have F__law_moved : FunC K mg "_law_moved" "_law_moved" s__law_moved := fc X G c 62 92 (d := d__law_moved) rfl rfl (by kernel_rfl)
  have F__law_row : FunC K mg "_law_row" "_law_row" s__law_row := fc X G c 63 93 (d := d__law_row) rfl rfl (by kernel_rfl)
  have F__law_unions_right : FunC K mg "_law_unions_right" "_law_unions_right" s__law_unions_right := fc X G c 64 94 (d := d__law_unions_right) rfl rfl (by kernel_rfl)
  have F__law_inside_right : FunC K mg "_law_inside_right" "_law_inside_right" s__law_inside_right := fc X G c 65 95 (d := d__law_inside_right) rfl rfl (by kernel_rfl)
  have F__law_along_right : FunC K mg "_law_along_right" "_law_along_right" s__law_along_right := fc X G c 66 96 (d := d__law_along_right) rfl rfl (by kernel_rfl)
  have F__law_exchanged_right : FunC K mg "_law_exchanged_right" "_law_exchanged_right" s__law_exchanged_right := fc X G c 67 97 (d := d__law_exchanged_right) rfl rfl (by kernel_rfl)
  obtain ⟨fdl, FL⟩ := sc_def c 68 (d := d_law) rfl
  have F_law : FunC K mg "law" "law" s_law := ⟨_, fdl, He5.fun_of FL, hl⟩
  obtain ⟨fd1, D1⟩ := sc_def c 73 (d := d_Net_deeds) rfl
  have P_Net_deeds : FunP K (CC K) "deeds" "Net.deeds" s_Net_deeds := ⟨_, _, fd1, He5.fun_of D1, e1⟩
  obtain ⟨fd2, D2⟩ := sc_def c 74 (d := d_Net_boxes) rfl
  have P_Net_boxes : FunP K (CC K) "boxes" "Net.boxes" s_Net_boxes := ⟨_, _, fd2, He5.fun_of D2, e2⟩
  obtain ⟨fd3, D3⟩ := sc_def c 70 (d := d_Net_ddlendd) rfl
  have m3 := He.meth_ok (fa_fact c 3 (f := .meth "Net" "__len__") rfl)
  have M_Net_ddlendd : FunM K (CC K) "__len__" "Net.__len__" s_Net_ddlendd := ⟨_, fd3, He5.fun_of D3, m3, fnIn_of D3⟩
  obtain ⟨fd4, D4⟩ := sc_def c 71 (d := d_Net_ddgetitemdd) rfl
  have M_Net_ddgetitemdd : FunM K (CC K) "__getitem__" "Net.__getitem__" s_Net_ddgetitemdd := ⟨_, fd4, He5.fun_of D4, He.meth_ok (fa_fact c 4 (f := .meth "Net" "__getitem__") rfl), e6⟩
  obtain ⟨fd5, D5⟩ := sc_def c 69 (d := d_Net_ddinitdd) rfl
  have Fn_Net_ddinitdd : Fun K "__init__" "Net.__init__" s_Net_ddinitdd (He.ma K (CC K) "__init__") fd5 := He5.fun_of D5
  have mk := He.mkr_ok (fa_fact c 5 (f := .mkr "Net") rfl)
  obtain ⟨fd6, D6⟩ := sc_def c 72 (d := d_Net_read) rfl
  have Fn_Net_read : Fun K "read" "Net.read" s_Net_read (He5.wf K (CC K) "classmethod" "read") fd6 := He5.fun_of D6
  have cm := e3
  have c_is_integer := ok_is_integer (P := P) (w := w) (base := base) F_is_integer T
  have c_is_between := ok_is_between (P := P) (w := w) (base := base) F_is_between T c_is_integer
  have c_have_common := ok_have_common (P := P) (w := w) (base := base) F_have_common T
  have c_is_set := ok_is_set (P := P) (w := w) (base := base) F_is_set T c_is_between
  have c_are_counts := ok_are_counts (P := P) (w := w) (base := base) F_are_counts T c_is_integer
  have c_is_inside := ok_is_inside (P := P) (w := w) (base := base) F_is_inside T
  have c_sets_below := ok_sets_below (P := P) (w := w) (base := base) F_sets_below T F_in_order
  have c_smallest_of := ok_smallest_of (P := P) (w := w) (base := base) F_smallest_of T c_is_inside
  have c_worth_of := ok_worth_of (P := P) (w := w) (base := base) F_worth_of T
  have c_are_worths := ok_are_worths (P := P) (w := w) (base := base) F_are_worths T c_is_between
  have c_is_deed := ok_is_deed (P := P) (w := w) (base := base) F_is_deed T c_is_set c_worth_of
  have c_moved := ok_moved (P := P) (w := w) (base := base) F_moved T
  have c_can_do := ok_can_do (P := P) (w := w) (base := base) F_can_do T
  have c_first_unlike := ok_first_unlike (P := P) (w := w) (base := base) F_first_unlike T c_have_common
  have c_met_from := ok_met_from (P := P) (w := w) (base := base) F_met_from T c_have_common
  have c_Net_deeds := ok_deeds (P := P) (w := w) (base := base) P_Net_deeds N
  have c_Net_boxes := ok_boxes (P := P) (w := w) (base := base) P_Net_boxes N T
  have c_Net_ddlendd := ok_lenN (P := P) (w := w) (base := base) M_Net_ddlendd N T
  have c_Net_ddgetitemdd := ok_item (P := P) (w := w) (base := base) M_Net_ddgetitemdd N T c_is_between
  have c_need_net := ok_need_net (P := P) (w := w) (base := base) F_need_net N T
  have c_need_number := ok_need_number (P := P) (w := w) (base := base) F_need_number T c_is_between c_Net_ddlendd
  have c_need_state := ok_need_state (P := P) (w := w) (base := base) F_need_state N T c_need_net c_are_counts c_Net_boxes
  have c_check_deeds := ok_check_deeds (P := P) (w := w) (base := base) F_check_deeds T c_is_deed c_first_unlike c_met_from
  have c_is_a_drain := ok_is_a_drain (P := P) (w := w) (base := base) F_is_a_drain N T c_have_common c_Net_deeds
  have c_is_a_trap := ok_is_a_trap (P := P) (w := w) (base := base) F_is_a_trap N T c_have_common c_Net_deeds
  have c_is_drain := ok_is_drain (P := P) (w := w) (base := base) F_is_drain N T c_need_net c_is_set c_is_a_drain c_Net_boxes
  have c_is_trap := ok_is_trap (P := P) (w := w) (base := base) F_is_trap N T c_need_net c_is_set c_is_a_trap c_Net_boxes
  have c_need_boxes := ok_need_boxes (P := P) (w := w) (base := base) F_need_boxes N T c_need_net c_is_set c_Net_boxes
  have c_drains_of := ok_drains_of (P := P) (w := w) (base := base) F_drains_of N c_smallest_of c_sets_below c_is_a_drain c_Net_boxes
  have c_drains := ok_drains (P := P) (w := w) (base := base) F_drains c_need_net c_drains_of
  have c_traps := ok_traps (P := P) (w := w) (base := base) F_traps N c_need_net c_smallest_of c_sets_below c_is_a_trap c_Net_boxes
  have c_greatest_trap := ok_greatest_trap (P := P) (w := w) (base := base) F_greatest_trap N T c_have_common c_Net_deeds
  have c_trap_in := ok_trap_in (P := P) (w := w) (base := base) F_trap_in c_need_boxes c_greatest_trap
  have c_greatest_drain := ok_greatest_drain (P := P) (w := w) (base := base) F_greatest_drain N T c_have_common c_Net_deeds
  have c_drain_in := ok_drain_in (P := P) (w := w) (base := base) F_drain_in c_need_boxes c_greatest_drain
  have c_after := ok_after (P := P) (w := w) (base := base) F_after c_need_state c_need_number c_can_do c_moved c_Net_ddgetitemdd
  have c_Net_ddinitdd := ok_init (P := P) (w := w) (base := base) Fn_Net_ddinitdd mk N T c_are_worths c_check_deeds
  have c_numbers_text := ok_numbers_text (P := P) (w := w) (base := base) F_numbers_text T
  have c_net_lines := ok_net_lines (P := P) (w := w) (base := base) F_net_lines T c_numbers_text
  have c_digit_in := ok_digit_in (P := P) (w := w) (base := base) F_digit_in T
  have c_numbers_in := ok_numbers_in (P := P) (w := w) (base := base) F_numbers_in T c_digit_in
  have c_parts_in := ok_parts_in (P := P) (w := w) (base := base) F_parts_in T c_numbers_in c_net_lines
  have c_Net_read := ok_read (P := P) (w := w) (base := base) Fn_Net_read cm T c_parts_in c_are_worths c_is_deed c_first_unlike c_met_from c_Net_ddinitdd
  have c__law_text := ok__law_text (P := P) (w := w) (base := base) F__law_text T
  have c__law_built := ok__law_built (P := P) (w := w) (base := base) F__law_built N c__law_text c_Net_read
  have c__law_within := ok__law_within (P := P) (w := w) (base := base) F__law_within
  have c__law_is_empty := ok__law_is_empty (P := P) (w := w) (base := base) F__law_is_empty
  have c__law_touches := ok__law_touches (P := P) (w := w) (base := base) F__law_touches
  have c__law_is_trap := ok__law_is_trap (P := P) (w := w) (base := base) F__law_is_trap c__law_touches
  have c__law_is_drain := ok__law_is_drain (P := P) (w := w) (base := base) F__law_is_drain c__law_touches
  have c__law_same := ok__law_same (P := P) (w := w) (base := base) F__law_same T
  have c__law_unlike := ok__law_unlike (P := P) (w := w) (base := base) F__law_unlike T c__law_touches
  have c__law_worth := ok__law_worth (P := P) (w := w) (base := base) F__law_worth T
  have c__law_cell_at := ok__law_cell_at (P := P) (w := w) (base := base) F__law_cell_at T
  have c__law_moved := ok__law_moved (P := P) (w := w) (base := base) F__law_moved T
  have c__law_possible := ok__law_possible (P := P) (w := w) (base := base) F__law_possible T
  have c__law_sets := ok__law_sets (P := P) (w := w) (base := base) F__law_sets T
  have c__law_met := ok__law_met (P := P) (w := w) (base := base) F__law_met T
  have c__law_draw := ok__law_draw (P := P) (w := w) (base := base) F__law_draw
  have c__law_pen := ok__law_pen (P := P) (w := w) (base := base) F__law_pen T
  have c__law_pick := ok__law_pick (P := P) (w := w) (base := base) F__law_pick T c__law_draw
  have c__law_mixed := ok__law_mixed (P := P) (w := w) (base := base) F__law_mixed T c__law_draw
  have c__law_state := ok__law_state (P := P) (w := w) (base := base) F__law_state T c__law_draw
  have c__law_row := ok__law_row (P := P) (w := w) (base := base) F__law_row T c__law_possible c__law_pick c__law_moved
  have c__law_kit := ok__law_kit (P := P) (w := w) (base := base) F__law_kit c__law_pick
  have c__law_ring := ok__law_ring (P := P) (w := w) (base := base) F__law_ring T c__law_draw
  have c__law_loose := ok__law_loose (P := P) (w := w) (base := base) F__law_loose T c__law_draw c__law_mixed c__law_pick c__law_worth c__law_sets
  have c__law_net := ok__law_net (P := P) (w := w) (base := base) F__law_net T c__law_draw c__law_mixed c__law_loose c__law_met c__law_kit c__law_ring
  have c__law_unions_right := ok__law_unions_right (P := P) (w := w) (base := base) F__law_unions_right T c_is_drain c_is_trap c_drains c_traps c__law_within
  have c__law_inside_right := ok__law_inside_right (P := P) (w := w) (base := base) F__law_inside_right T c_trap_in c_drain_in c_is_drain c_is_trap c__law_within
  have c__law_along_right := ok__law_along_right (P := P) (w := w) (base := base) F__law_along_right c_after c_is_drain c_is_trap c__law_is_empty
  have c__law_exchanged_right := ok__law_exchanged_right (P := P) (w := w) (base := base) F__law_exchanged_right T c__law_is_trap c__law_is_drain c__law_same c_is_drain c_is_trap c__law_unlike c__law_built c_drains c_traps c_trap_in c_drain_in
  have c_law := ok_law (P := P) (w := w) (base := base) F_law T c__law_cell_at c__law_pen c__law_net c__law_built c__law_sets c__law_exchanged_right c__law_unions_right c__law_inside_right c__law_state c__law_along_right c__law_row
  exact c_law
end
end CN
set_option Elab.async false
set_option linter.all false
set_option maxRecDepth 100000
set_option maxHeartbeats 4000000
/-! FIN: the row. -/
namespace CN
open PySem PySem.Spec PyProof.Rows L2
theorem facts {P : Program} {w : World} {K : PySem.W.Frag} {h : Heap} {mg : Str → Option Value} {f : Addr} (X : K.In h) (G : h.Ns mainGlobals mg) (hfa : mg ("law" : Str) = some (.ref f)) (c : SaysC K) :
    ∃ fd : FuncData, (∀ (s : Shared) (v : Value), BindsTo s fd ⟨[v], []⟩ [("_law_script", v)]) ∧ ∀ base : Heap, K.In base → base.Ns mainGlobals mg → FnOkG P w K mg base 11 f fd ["_law_script"] (spLaw K) := by
  have hl : mg ("law" : Str) = some (.ref (He.ga K "law")) := He.glo_ok X G (fa_fact c 98 (f := .glo "law") (by kernel_rfl))
  have e := hfa.symm.trans hl
  obtain rfl : f = He.ga K "law" := Value.ref.inj (Option.some.inj e)
  obtain ⟨fd, F⟩ := sc_def c 68 (d := d_law) rfl
  have F : FunD K "law" "law" (defArgs s_law) (defBody s_law) (defScope s_law) [] [] (He.ga K "law") fd := F
  refine ⟨fd, fun s v => ?_, fun base _ _ => ?_⟩
  · exact FunD.bindsA (ps := ["_law_script"]) F (fun _ _ _ _ _ _ us hl => match us, hl with | [_], _ => rfl) s [v] rfl
  · obtain ⟨f2, fd2, ok, hm, ⟨oc, od, osl, lk⟩, _⟩ := (law_of (P := P) (w := w) (base := base) X G c hl).ex
    obtain rfl : f2 = He.ga K "law" := Value.ref.inj (Option.some.inj (hm.symm.trans hl))
    obtain ⟨oc2, od2, _, _, _, _, _, _, _, osl2, _, lk2, _⟩ := F.ex
    have z := lk.symm.trans lk2
    simp only [Option.some.injEq, Obj.mk.injEq, Data.func.injEq] at z
    obtain rfl : fd2 = fd := z.2.2.1
    exact ok
end CN
open PySem PySem.W PySem.Calls PyProof.Rows
set_option maxHeartbeats 0
theorem PySem.Challenge.cw_choicenets_k18_whole_drains_and_traps_holds : PySem.Challenge.rw_choicenets_k18_whole_drains_and_traps.Holds := by
  w_on; o_law
  refine HandSHeadRun.head_any (r := OpenLaw.row PySem.Challenge.rw_choicenets_k18_whole_drains_and_traps) (q := view (OpenLaw.row PySem.Challenge.rw_choicenets_k18_whole_drains_and_traps).prog [93]) (H := CN.hk) (ob := CN.ob) (M := 7000) (loose := CN.loose) (d := HandSHeadRun.topDef (OpenLaw.row PySem.Challenge.rw_choicenets_k18_whole_drains_and_traps).prog 93) (kwd := []) CN.ob_eq
    (by kernel_rfl) (fun s => by kernel_rfl) CN.run (by kernel_rfl) (by kernel_rfl) (by kernel_rfl) (by rfl) (by first | assumption | decide +kernel) (by decide +kernel) ⟨rfl, rfl, rfl, rfl, rfl, by decide +kernel⟩ ?hw ?hc
  case hw => w_witness2
  case hc =>
    refine CN.walk_ofG (l := PySem.Challenge.rw_choicenets_k18_whole_drains_and_traps) (n := 63) (k := 11) (x := "_law_script") rfl (by decide) (by kernel_rfl) ⟨rfl, by decide, by decide⟩ ?F
    intro w mg fa h Y G hmg0
    obtain ⟨K, KX, c⟩ := Y
    have hmg : mg ("law" : PySem.Str) = some (.ref fa) := by
      have e : (HandSHeadRun.topDef (OpenLaw.row PySem.Challenge.rw_choicenets_k18_whole_drains_and_traps).prog 93).name = ("law" : PySem.Str) := by kernel_rfl
      rw [← e]
      exact hmg0
    obtain ⟨fd, hb, hF⟩ := CN.facts (P := (PySem.Challenge.rw_choicenets_k18_whole_drains_and_traps).prog) (w := w) KX G hmg c
    exact ⟨K, fd, CN.spLaw K, KX, hb, fun H a ns hl _ hS => ⟨H, _, L2.Same.refl H, ⟨ns, ⟨.lst hS (CN.dpa_ints ns), trivial⟩, by omega, rfl⟩, fun v B' H' _ p => p⟩, hF⟩
