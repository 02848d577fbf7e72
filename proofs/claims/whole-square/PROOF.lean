import PyProof.Rows.All
import Wide.All
import OpenK.AllK
import Wide.FinOn
import HandS.ForMost
import HandS.Defaults
import HandS.HeadHook1
import HandS.HeadHook2
import HandS.HeadHook3
import HandS.HeadHook4
import HandS.Lambda
import HandS.Nested
import PySem.Challenge.RW_standby_k90_whole_a_square_at_the_bounds
import HandS.Head0
import HandS.Head1
import HandS.Head2
import HandS.HeadEnd
import HandS.HeadWalk
import PyProof.Rows.SortShell
import KE.KDictSum
import KE.KDictList
import HandS.DictTup
import KE.GoesEnum
import KE.GoesMore
import HandS.DictComp
import KE.KLam
import KE.KSortKey
import HandS.SortOrd
import HandS.SortRule
import HandS.SortInts
import HandS.SortKw
import PyProof.DictCompW
import HandS.Walk
import HandS.TupAny
import HandS.IsInst
import HandS.ListItems
import KE.KDictPairs
import PyProof.SeqRoads2
import KE.KRevSl
import HandS.Style
import HandS.Zip
import HandS.CallRecv
set_option Elab.async false
set_option linter.all false
set_option maxRecDepth 100000
set_option maxHeartbeats 0
/-! The mathematics: a row called, two walkers, the row told by pairs. Plain lists, no program. -/
namespace Sb
section
variable {A : Type} [DecidableEq A]

/-- the place of x in a list (its length where it is not there) -/
def pos (l : List A) (x : A) : Nat := match l with
  | [] => 0
  | y :: r => if y = x then 0 else pos r x + 1
theorem pos_lt : ∀ {l : List A} {x : A}, x ∈ l → pos l x < l.length
  | y :: r, x, h => by
    unfold pos
    by_cases e : y = x
    · rw [if_pos e]; simp
    · rw [if_neg e]
      have h' : x ∈ r := by
        rcases List.mem_cons.mp h with q | q
        · exact absurd q.symm e
        · exact q
      have := pos_lt h'
      simp; omega
theorem get_pos : ∀ {l : List A} {x : A}, x ∈ l → l[pos l x]? = some x
  | y :: r, x, h => by
    unfold pos
    by_cases e : y = x
    · rw [if_pos e]; simp [e]
    · rw [if_neg e]
      have h' : x ∈ r := by
        rcases List.mem_cons.mp h with q | q
        · exact absurd q.symm e
        · exact q
      simpa using get_pos h'
theorem pos_inj {l : List A} {x y : A} (hx : x ∈ l) (hy : y ∈ l) (e : pos l x = pos l y) : x = y := by
  have a := get_pos hx
  rw [e, get_pos hy] at a
  exact (Option.some.inj a).symm
theorem pos_at : ∀ {l : List A} {i : Nat} {x : A}, l.Nodup → l[i]? = some x → pos l x = i
  | y :: r, 0, x, _, h => by
    have e : y = x := by simpa using h
    unfold pos
    rw [if_pos e]
  | y :: r, i + 1, x, nd, h => by
    have h' : r[i]? = some x := by simpa using h
    have hm : x ∈ r := List.mem_of_getElem? h'
    have ne : ¬ y = x := fun e => (List.nodup_cons.mp nd).1 (e ▸ hm)
    unfold pos
    rw [if_neg ne, pos_at (List.nodup_cons.mp nd).2 h']
theorem pos_getElem {l : List A} (nd : l.Nodup) (i : Nat) (hi : i < l.length) : pos l l[i] = i := pos_at nd (by simp [hi])
/-- in a list that rises by a key the places rise as the keys -/
theorem pairwise_pos {R : A → A → Prop} {l : List A} (nd : l.Nodup) (p : l.Pairwise R) {x y : A} (hx : x ∈ l) (hy : y ∈ l) (h : pos l x < pos l y) : R x y := by
  have a := List.pairwise_iff_getElem.mp p (pos l x) (pos l y) (pos_lt hx) (pos_lt hy) h
  have e1 : l[pos l x]'(pos_lt hx) = x := by
    have q := get_pos hx
    rw [List.getElem?_eq_getElem (pos_lt hx)] at q
    exact Option.some.inj q
  have e2 : l[pos l y]'(pos_lt hy) = y := by
    have q := get_pos hy
    rw [List.getElem?_eq_getElem (pos_lt hy)] at q
    exact Option.some.inj q
  rw [e1, e2] at a
  exact a
theorem pairwise_pos_lt {l : List A} (nd : l.Nodup) : l.Pairwise fun x y => pos l x < pos l y := by
  rw [List.pairwise_iff_getElem]
  intro i j hi hj h
  rw [pos_getElem nd i hi, pos_getElem nd j hj]
  exact h
/-- there is but one order of a list in which all stand by a relation that can't go both ways -/
theorem uniq_order {R : A → A → Prop} (no : ∀ x y, R x y → R y x → x = y) : ∀ {l m : List A}, l.Pairwise R → m.Pairwise R → l.Perm m → l = m
  | [], m, _, _, h => (List.Perm.eq_nil h.symm).symm
  | x :: l, [], _, _, h => absurd h.length_eq (by simp)
  | x :: l, y :: m, hl, hm, h => by
    have e : x = y := by
      rcases List.mem_cons.mp (h.mem_iff.mp (List.mem_cons_self (a := x) (l := l))) with q | hx
      · exact q
      · rcases List.mem_cons.mp (h.mem_iff.mpr (List.mem_cons_self (a := y) (l := m))) with q | hy
        · exact q.symm
        · exact no x y ((List.pairwise_cons.mp hl).1 y hy) ((List.pairwise_cons.mp hm).1 x hx)
    subst e
    rw [uniq_order no (List.pairwise_cons.mp hl).2 (List.pairwise_cons.mp hm).2 h.cons_inv]

/-! ### a row called -/
/-- by whom each is told, among those told one as they stood -/
def callF (t : A → A) (row : List A) : List A := row.flatMap fun n => row.filter fun w => decide (t w = n)
/-- x before y: by the place of whom they are told, then by their own -/
def keyLt (t : A → A) (row : List A) (x y : A) : Prop := pos row (t x) < pos row (t y) ∨ (pos row (t x) = pos row (t y) ∧ pos row x < pos row y)
theorem callF_sorted {t : A → A} {row : List A} (nd : row.Nodup) : (callF t row).Pairwise (keyLt t row) := by
  unfold callF
  rw [List.pairwise_flatMap]
  refine ⟨fun n hn => ?_, ?_⟩
  · have h1 := (pairwise_pos_lt nd).filter (fun w => decide (t w = n))
    have h2 : (row.filter fun w => decide (t w = n)).Pairwise fun x y => pos row x < pos row y ∧ t x = n ∧ t y = n := by
      rw [List.pairwise_iff_getElem] at h1 ⊢
      intro i j hi hj hij
      have a : ∀ k (hk : k < (row.filter fun w => decide (t w = n)).length), t ((row.filter fun w => decide (t w = n))[k]) = n := fun k hk => by
        have m := List.getElem_mem hk
        exact of_decide_eq_true (List.mem_filter.mp m).2
      exact ⟨h1 i j hi hj hij, a i hi, a j hj⟩
    refine h2.imp fun {x y} h => .inr ⟨by rw [h.2.1, h.2.2], h.1⟩
  · refine (pairwise_pos_lt nd).imp fun {n m} h x hx y hy => .inl ?_
    rw [of_decide_eq_true (List.mem_filter.mp hx).2, of_decide_eq_true (List.mem_filter.mp hy).2]
    exact h
theorem mem_callF {t : A → A} {row : List A} (ht : ∀ x ∈ row, t x ∈ row) {x : A} : x ∈ callF t row ↔ x ∈ row := by
  unfold callF
  rw [List.mem_flatMap]
  constructor
  · rintro ⟨n, _, h⟩
    exact (List.mem_filter.mp h).1
  · intro h
    exact ⟨t x, ht x h, List.mem_filter.mpr ⟨h, decide_eq_true rfl⟩⟩
theorem keyLt_irrefl {t : A → A} {row : List A} {x : A} : ¬ keyLt t row x x := by
  unfold keyLt
  omega
theorem nodup_of_pairwise {R : A → A → Prop} (ir : ∀ x, ¬ R x x) {l : List A} (h : l.Pairwise R) : l.Nodup :=
  h.imp fun {x y} r e => by subst e; exact ir _ r
theorem callF_nodup {t : A → A} {row : List A} (nd : row.Nodup) : (callF t row).Nodup := nodup_of_pairwise (fun _ => keyLt_irrefl) (callF_sorted nd)
theorem callF_perm {t : A → A} {row : List A} (nd : row.Nodup) (ht : ∀ x ∈ row, t x ∈ row) : (callF t row).Perm row :=
  (List.perm_ext_iff_of_nodup (callF_nodup nd) nd).mpr fun x => mem_callF ht
/-- the sorted row is the called one -/
theorem callF_uniq {t : A → A} {row out : List A} (nd : row.Nodup) (ht : ∀ x ∈ row, t x ∈ row) (hp : out.Perm row) (hs : out.Pairwise fun x y => ¬ keyLt t row y x) : out = callF t row := by
  have ndo : out.Nodup := hp.nodup_iff.mpr nd
  have h1 : out.Pairwise (fun x y => (x ∈ row ∧ y ∈ row) ∧ ¬ keyLt t row y x) := by
    rw [List.pairwise_iff_getElem] at hs ⊢
    intro i j hi hj hij
    exact ⟨⟨hp.mem_iff.mp (List.getElem_mem hi), hp.mem_iff.mp (List.getElem_mem hj)⟩, hs i j hi hj hij⟩
  have h2 : (callF t row).Pairwise (fun x y => (x ∈ row ∧ y ∈ row) ∧ ¬ keyLt t row y x) := by
    have h := callF_sorted (t := t) nd
    rw [List.pairwise_iff_getElem] at h ⊢
    intro i j hi hj hij
    refine ⟨⟨(mem_callF ht).mp (List.getElem_mem hi), (mem_callF ht).mp (List.getElem_mem hj)⟩, fun z => ?_⟩
    have q := h i j hi hj hij
    unfold keyLt at q z
    omega
  refine uniq_order (R := fun x y => (x ∈ row ∧ y ∈ row) ∧ ¬ keyLt t row y x) (fun x y a b => ?_) h1 h2 (hp.trans (callF_perm nd ht).symm)
  have ha := a.2
  have hb := b.2
  unfold keyLt at ha hb
  exact pos_inj a.1.1 a.1.2 (by omega)

/-! ### two walkers -/
def gone (t : A → A) (p : A × A) : A × A := if t p.1 = t p.2 then p else (t p.1, t p.2)
def ahead (row : List A) (p : A × A) : Prop := pos row p.1 < pos row p.2
instance {row : List A} {p : A × A} : Decidable (ahead row p) := by unfold ahead; infer_instance
theorem gone_ne {t : A → A} {p : A × A} (h : p.1 ≠ p.2) : (gone t p).1 ≠ (gone t p).2 := by
  unfold gone
  by_cases e : t p.1 = t p.2
  · rw [if_pos e]; exact h
  · rw [if_neg e]; exact e
theorem gone_mem {t : A → A} {row : List A} {p : A × A} (ht : ∀ x ∈ row, t x ∈ row) (h : p.1 ∈ row ∧ p.2 ∈ row) : (gone t p).1 ∈ row ∧ (gone t p).2 ∈ row := by
  unfold gone
  by_cases e : t p.1 = t p.2
  · rw [if_pos e]; exact h
  · rw [if_neg e]; exact ⟨ht _ h.1, ht _ h.2⟩
/-- who is ahead behind a call -/
theorem ahead_call {t : A → A} {row : List A} (nd : row.Nodup) (ht : ∀ x ∈ row, t x ∈ row) {p : A × A} (h : p.1 ∈ row ∧ p.2 ∈ row) (hne : p.1 ≠ p.2) : ahead (callF t row) p ↔ ahead row (gone t p) := by
  have nc := callF_nodup (t := t) nd
  have sc := callF_sorted (t := t) nd
  have m1 := (mem_callF ht).mpr h.1
  have m2 := (mem_callF ht).mpr h.2
  have key : ahead (callF t row) p ↔ keyLt t row p.1 p.2 := by
    constructor
    · intro a
      exact pairwise_pos nc sc m1 m2 a
    · intro k
      unfold ahead
      rcases Nat.lt_trichotomy (pos (callF t row) p.1) (pos (callF t row) p.2) with q | q | q
      · exact q
      · exact absurd (pos_inj m1 m2 q) hne
      · have k' := pairwise_pos nc sc m2 m1 q
        unfold keyLt at k k'
        omega
  rw [key]
  unfold gone ahead keyLt
  by_cases e : t p.1 = t p.2
  · rw [if_pos e, e]
    omega
  · rw [if_neg e]
    have ne : pos row (t p.1) ≠ pos row (t p.2) := fun z => e (pos_inj (ht _ h.1) (ht _ h.2) z)
    show _ ↔ pos row (t p.1) < pos row (t p.2)
    omega

/-! ### words -/
/-- the row behind a word -/
def word (ts : List (A → A)) (row : List A) : List A := ts.foldl (fun r t => callF t r) row
/-- the last pair of the walkers, from the last call back -/
def walk (ts : List (A → A)) (p : A × A) : A × A := ts.reverse.foldl (fun q t => gone t q) p
theorem walk_cons (t : A → A) (ts : List (A → A)) (p : A × A) : walk (t :: ts) p = gone t (walk ts p) := by
  unfold walk
  rw [List.reverse_cons, List.foldl_append] <;> rfl
def Keeps (names : List A) (ts : List (A → A)) : Prop := ∀ t ∈ ts, ∀ x ∈ names, t x ∈ names
theorem word_perm : ∀ {ts : List (A → A)} {row : List A}, row.Nodup → Keeps row ts → (word ts row).Perm row ∧ (word ts row).Nodup
  | [], row, nd, _ => ⟨List.Perm.refl _, nd⟩
  | t :: ts, row, nd, k => by
    have p := callF_perm nd (k t (List.mem_cons_self ..))
    have h := word_perm (ts := ts) (row := callF t row) (callF_nodup nd) fun u hu x hx => p.mem_iff.mpr (k u (List.mem_cons_of_mem _ hu) x (p.mem_iff.mp hx))
    exact ⟨h.1.trans p, h.2⟩
theorem walk_ok : ∀ {ts : List (A → A)} {row : List A} {p : A × A}, Keeps row ts → p.1 ∈ row ∧ p.2 ∈ row → p.1 ≠ p.2 → ((walk ts p).1 ∈ row ∧ (walk ts p).2 ∈ row) ∧ (walk ts p).1 ≠ (walk ts p).2
  | [], row, p, _, h, hne => ⟨h, hne⟩
  | t :: ts, row, p, k, h, hne => by
    obtain ⟨a, b⟩ := walk_ok (ts := ts) (fun u hu => k u (List.mem_cons_of_mem _ hu)) h hne
    rw [walk_cons]
    exact ⟨gone_mem (k t (List.mem_cons_self ..)) a, gone_ne b⟩
/-- (a): who is ahead behind a word hangs on one pair of the first row -/
theorem ahead_word : ∀ {ts : List (A → A)} {row : List A} {p : A × A}, row.Nodup → Keeps row ts → p.1 ∈ row ∧ p.2 ∈ row → p.1 ≠ p.2 → (ahead (word ts row) p ↔ ahead row (walk ts p))
  | [], row, p, _, _, _, _ => Iff.rfl
  | t :: ts, row, p, nd, k, h, hne => by
    have ht := k t (List.mem_cons_self ..)
    have pm := callF_perm nd ht
    have k' : Keeps row ts := fun u hu => k u (List.mem_cons_of_mem _ hu)
    have k2 : Keeps (callF t row) ts := fun u hu x hx => pm.mem_iff.mpr (k' u hu x (pm.mem_iff.mp hx))
    have e := ahead_word (ts := ts) (row := callF t row) (p := p) (callF_nodup nd) k2 ⟨pm.mem_iff.mpr h.1, pm.mem_iff.mpr h.2⟩ hne
    obtain ⟨a, b⟩ := walk_ok k' h hne
    rw [walk_cons]
    show ahead (word ts (callF t row)) p ↔ _
    rw [e, ahead_call nd ht a b]

/-! ### the row told by pairs -/
/-- of how many of the names it is told that they are ahead of one -/
def rank (names : List A) (lt : A → A → Bool) (one : A) : Nat := (names.filter fun o => decide (o ≠ one) && lt o one).length
theorem filter_pos_lt : ∀ {l : List A}, l.Nodup → ∀ k, k ≤ l.length → l.filter (fun o => decide (pos l o < k)) = l.take k := by
  intro l nd k hk
  have h : ∀ (m : List A) (j : Nat), m = l.drop j → m.filter (fun o => decide (pos l o < k)) = m.take (k - j) := by
    intro m
    induction m with
    | nil => intro j _; simp
    | cons x m ih =>
      intro j e
      have hx : l[j]? = some x := by
        have q := congrArg (fun z => z[0]?) e
        simpa using q.symm
      have px := pos_at nd hx
      have e2 : m = l.drop (j + 1) := by
        have q := congrArg List.tail e
        simpa using q
      have i2 := ih (j + 1) e2
      by_cases h : j < k
      · rw [List.filter_cons_of_pos (by rw [px]; exact decide_eq_true h), i2]
        have e3 : k - j = (k - (j + 1)) + 1 := by omega
        rw [e3, List.take_succ_cons]
      · rw [List.filter_cons_of_neg (by rw [px, decide_eq_true_eq]; exact h), i2]
        have e3 : k - j = 0 := by omega
        have e4 : k - (j + 1) = 0 := by omega
        rw [e3, e4]; simp
  have := h l 0 (by simp)
  simpa using this
theorem rank_pos {names row : List A} (hp : names.Perm row) (nd : row.Nodup) {lt : A → A → Bool} {one : A} (h1 : one ∈ row)
    (hl : ∀ o ∈ row, o ≠ one → (lt o one = true ↔ ahead row (o, one))) : rank names lt one = pos row one := by
  unfold rank
  have e1 : (names.filter fun o => decide (o ≠ one) && lt o one).length = (row.filter fun o => decide (o ≠ one) && lt o one).length := (hp.filter _).length_eq
  have e2 : (row.filter fun o => decide (o ≠ one) && lt o one) = row.filter fun o => decide (pos row o < pos row one) := by
    refine List.filter_congr fun o ho => ?_
    by_cases e : o = one
    · subst e
      simp
    · have a := hl o ho e
      unfold ahead at a
      by_cases q : pos row o < pos row one
      · rw [decide_eq_true q, a.mpr q]
        simp [e]
      · rw [decide_eq_false q]
        have b : lt o one = false := by
          cases z : lt o one with
          | false => rfl
          | true => exact absurd (a.mp z) q
        rw [b]; simp
  rw [e1, e2, filter_pos_lt nd _ (Nat.le_of_lt (pos_lt h1)), List.length_take]
  exact Nat.min_eq_left (Nat.le_of_lt (pos_lt h1))
/-- sorted by the ranks the names are the row -/
theorem rank_row {names row out : List A} (hp : names.Perm row) (nd : row.Nodup) {g : A → Nat} (hg : ∀ x ∈ row, g x = pos row x) (ho : out.Perm names) (hs : out.Pairwise fun x y => ¬ g y < g x) : out = row := by
  have hor := ho.trans hp
  have h1 : out.Pairwise (fun x y => (x ∈ row ∧ y ∈ row) ∧ ¬ pos row y < pos row x) := by
    rw [List.pairwise_iff_getElem] at hs ⊢
    intro i j hi hj hij
    have a := hor.mem_iff.mp (List.getElem_mem hi)
    have b := hor.mem_iff.mp (List.getElem_mem hj)
    have q := hs i j hi hj hij
    rw [hg _ a, hg _ b] at q
    exact ⟨⟨a, b⟩, q⟩
  have h2 : row.Pairwise (fun x y => (x ∈ row ∧ y ∈ row) ∧ ¬ pos row y < pos row x) := by
    rw [List.pairwise_iff_getElem]
    intro i j hi hj hij
    rw [pos_getElem nd i hi, pos_getElem nd j hj]
    exact ⟨⟨List.getElem_mem hi, List.getElem_mem hj⟩, by omega⟩
  refine uniq_order (R := fun x y => (x ∈ row ∧ y ∈ row) ∧ ¬ pos row y < pos row x) (fun x y a b => ?_) h1 h2 hor
  have ha := a.2
  have hb := b.2
  exact pos_inj a.1.1 a.1.2 (by omega)
end
end Sb
/-! The text by places, its defs, the facts that the head is to tell. -/
namespace Sb
open PySem PySem.Spec PyProof.Rows L2
abbrev prg : Program := PySem.Challenge.pw_standby_k90_whole_a_square_at_the_bounds
def top (i : Nat) : Stmt := prg.main.body.getD i (.Pass ⟨0, 0, 0, 0⟩)
/-- a def of the module's, the i-th statement -/
def dM (x : Str) (i : Nat) : He.DefD := ⟨(x, none), x, x, defArgs (top i), defBody (top i), defScope (top i), [], []⟩
/-- a method m of the class x at i, the j-th statement of its body -/
def dC (x m q : Str) (i j : Nat) : He.DefD := ⟨(x, some m), m, q, defArgs (inClass (top i) j), defBody (inClass (top i) j), defScope (inClass (top i) j), [], []⟩
def dPlaces : He.DefD := dM "places_of" 10
def dAlike : He.DefD := dM "look_alike" 11
def dPlace : He.DefD := dM "place_of" 12
def dByNames : He.DefD := dM "by_names" 14
def dPeople : He.DefD := dM "people" 15
def dLookN : He.DefD := dM "look_name" 16
def dCallOf : He.DefD := dM "call_of" 17
def dPlain : He.DefD := dM "plain_call" 18
def dCalled : He.DefD := dM "called" 20
def dGone : He.DefD := dM "gone" 22
def dWays : He.DefD := dM "ways_back" 23
def dWalked : He.DefD := dM "walked" 24
def dPairs : He.DefD := dM "all_pairs" 26
def dTold : He.DefD := dM "told_pairs" 27
def dRowBy : He.DefD := dM "row_by" 28
def dLess : He.DefD := dM "is_less" 29
def dTabInit : He.DefD := dC "Table" "__init__" "Table.__init__" 30 0
def dLeads : He.DefD := dC "Table" "leads" "Table.leads" 30 8
def dPgInit : He.DefD := dC "Page" "__init__" "Page.__init__" 32 0
def dFresh : He.DefD := dM "fresh" 33
def dSqInit : He.DefD := dC "Square" "__init__" "Square.__init__" 34 0
def dSqLen : He.DefD := dC "Square" "__len__" "Square.__len__" 34 1
def dPage : He.DefD := dC "Square" "page" "Square.page" 34 4
def dStands : He.DefD := dC "Square" "stands" "Square.stands" 34 5
def dBegun : He.DefD := dC "Square" "begun" "Square.begun" 34 6
def dWord : He.DefD := dC "Square" "word" "Square.word" 34 7
def dTable : He.DefD := dC "Square" "table" "Square.table" 34 8
def dDeeds : He.DefD := dC "Square" "deeds" "Square.deeds" 34 9
def dMarks : He.DefD := dC "Square" "marks" "Square.marks" 34 10
def dSqLook : He.DefD := dC "Square" "look_name" "Square.look_name" 34 11
def dCall : He.DefD := dC "Square" "call" "Square.call" 34 12
def dCome : He.DefD := { dC "Square" "come" "Square.come" 34 13 with dfl := [.non] }
def dLeave : He.DefD := dC "Square" "leave" "Square.leave" 34 14
def dChange : He.DefD := dC "Square" "change" "Square.change" 34 15
def dUndo : He.DefD := dC "Square" "undo" "Square.undo" 34 16
def dAsOf : He.DefD := dC "Square" "as_of" "Square.as_of" 34 17
def dRows : He.DefD := dM "rows_behind" 36
def dCalledAll : He.DefD := dM "called_all" 37
def lBox : He.DefD := dM "_law_box" 39
def lTake : He.DefD := dM "_law_take" 40
def lPick : He.DefD := dM "_law_pick" 41
def lSame : He.DefD := dM "_law_same" 42
def lFolded : He.DefD := dM "_law_folded" 43
def lRow : He.DefD := dM "_law_row" 44
def lCalled : He.DefD := dM "_law_called" 45
def lNames : He.DefD := dM "_law_many_names" 46
def lDeed : He.DefD := dM "_law_deed" 47
def lRight : He.DefD := dM "_law_right" 48
def lLaw : He.DefD := dM "law" 49
def fn : List He.DefD := [dPlaces, dAlike, dPlace, dByNames, dPeople, dLookN, dCallOf, dPlain, dCalled, dGone, dWays, dWalked, dPairs, dTold, dRowBy, dLess, dTabInit, dLeads, dPgInit, dFresh] ++
  [dSqInit, dSqLen, dPage, dStands, dBegun, dWord, dTable, dDeeds, dMarks, dSqLook, dCall, dCome, dLeave, dChange, dUndo, dAsOf, dRows, dCalledAll] ++
  [lBox, lTake, lPick, lSame, lFolded, lRow, lCalled, lNames, lDeed, lRight, lLaw]
/-- the module's own names that are read -/
def gloN : List Str := (["places_of", "look_alike", "place_of", "by_names", "people", "look_name", "call_of", "plain_call", "called", "gone", "ways_back", "walked", "all_pairs", "told_pairs", "row_by", "is_less", "Table", "Page", "fresh", "Square", "rows_behind", "called_all"] : List Str) ++
  (["_law_box", "_law_take", "_law_pick", "_law_same", "_law_folded", "_law_row", "_law_called", "_law_many_names", "_law_deed", "_law_right", "law"] : List Str)
/-- the built-in names that are read -/
def freeN : List Str := ["enumerate", "sorted", "tuple", "list", "reversed", "len", "isinstance", "dict", "abs", "int", "all", "zip", "range", "str", "bool"]
def clsN : List Str := ["Table", "Page", "Square"]
def noatN : List (Str × Str) := [("Table", "own_names"), ("Table", "own_pairs"), ("Page", "own_row"), ("Page", "own_begun"), ("Page", "own_word"), ("Square", "own_pages"), ("Square", "own_marks")]
def methN : List (Str × Str) := ([("Table", "leads"), ("Square", "__len__"), ("Square", "page"), ("Square", "stands"), ("Square", "begun"), ("Square", "word"), ("Square", "table"), ("Square", "deeds"), ("Square", "marks"), ("Square", "look_name")] : List (Str × Str)) ++
  ([("Square", "call"), ("Square", "come"), ("Square", "leave"), ("Square", "change"), ("Square", "undo"), ("Square", "as_of")] : List (Str × Str))
def fa : List He.Fa := gloN.map He.Fa.glo ++ (freeN.map He.Fa.free ++ (clsN.map He.Fa.cls ++ (clsN.map He.Fa.mkr ++ (noatN.map (fun p => He.Fa.noat p.1 p.2) ++ methN.map fun p => He.Fa.meth p.1 p.2))))
/-- the tables of the two defs that make a lambda stand apart -/
def exB (K : PySem.W.Frag) : Bool := !decide ((He.cT K ("called", none)).2 = (He.cT K ("row_by", none)).2)
def tf : List (Str × Option Str) := [("called", none), ("row_by", none)]
end Sb
/-! The head: the top's run, in the kernel. -/
namespace Sb
open PySem PySem.Spec PyProof.Rows L2
abbrev R : PySem.W.OpenRow := PySem.W.OpenLaw.row PySem.Challenge.rw_standby_k90_whole_a_square_at_the_bounds
abbrev hk : PySem.W.Hook := He.hookX 5 fa fn [] tf exB
def ob (s : PySem.W.SharedT) : He.AlX := He.obsX 5 fa fn [] tf exB (HandSHeadRun.getT s)
theorem ob_eq (s : PySem.W.SharedT) : ob s = hk.obs s.abs := He.obsX_eq (HandSHeadRun.getT_eq s)
def loose : List Str := (["_wall", "Unlike", "Alike", "NoName", "NoPlace", "NoDeed", "Known", "Last", "places_of", "look_alike", "place_of", "by_names", "people", "look_name", "call_of", "plain_call", "called", "gone", "ways_back", "walked", "all_pairs", "told_pairs", "row_by", "is_less", "Table", "Page", "fresh", "Square", "rows_behind", "called_all"] : List Str) ++
  (["_law_box", "_law_take", "_law_pick", "_law_same", "_law_folded", "_law_row", "_law_called", "_law_many_names", "_law_deed", "_law_right"] : List Str)
theorem run (w : World) : HandSHeadRun.RunEq R (PySem.W.view R.prog [49]) hk ob 8000 loose w := by
  intro os
  kernel_rfl
end Sb
/-! What every def leans on; short words for calls. -/
namespace Sb
open PySem PySem.Spec PyProof.Rows L2 LamX
/-! ### what stands behind the top -/
structure En (P : Program) (w : World) (K : PySem.W.Frag) (mg : Str → Option Value) (base : Heap) : Prop where
  glo : ∀ x ∈ gloN, mg x = some (.ref (He.ga K x))
  free : ∀ x ∈ freeN, mg x = none
  says : He.SaysD fa fn K
  tne : (He.cT K ("called", none)).2 ≠ (He.cT K ("row_by", none)).2
  tb : ∀ p ∈ tf, TabB base mg (He.cT K p).1 (He.cT K p).2
section
variable {P : Program} {w : World} {K : PySem.W.Frag} {mg : Str → Option Value} {base : Heap}
theorem En.g (e : En P w K mg base) (x : Str) (h : x ∈ gloN := by decide +kernel) : mg x = some (.ref (He.ga K x)) := e.glo x h
theorem En.f (e : En P w K mg base) (x : Str) (h : x ∈ freeN := by decide +kernel) : mg x = none := e.free x h
theorem En.cls (e : En P w K mg base) (x : Str) (h : x ∈ clsN := by decide +kernel) : Cls K (He.ga K x) :=
  He.cls_ok (e.says.facts (List.mem_append_right _ (List.mem_append_right _ (List.mem_append_left _ (List.mem_map_of_mem h)))))
theorem En.mkr (e : En P w K mg base) (x : Str) (h : x ∈ clsN := by decide +kernel) : Mk K (He.ga K x) (He.ma K (He.ga K x) "__init__") :=
  He.mkr_ok (e.says.facts (List.mem_append_right _ (List.mem_append_right _ (List.mem_append_right _ (List.mem_append_left _ (List.mem_map_of_mem h))))))
theorem En.noat (e : En P w K mg base) (x f : Str) (h : (x, f) ∈ noatN := by decide +kernel) : NoAttr K (He.ga K x) f :=
  He.noat_ok (e.says.facts (List.mem_append_right _ (List.mem_append_right _ (List.mem_append_right _ (List.mem_append_right _ (List.mem_append_left _ (List.mem_map_of_mem (f := fun p : Str × Str => He.Fa.noat p.1 p.2) h)))))))
theorem En.meth (e : En P w K mg base) (x m : Str) (h : (x, m) ∈ methN := by decide +kernel) : Meth K (He.ga K x) m (He.ma K (He.ga K x) m) :=
  He.meth_ok (e.says.facts (List.mem_append_right _ (List.mem_append_right _ (List.mem_append_right _ (List.mem_append_right _ (List.mem_append_right _ (List.mem_map_of_mem (f := fun p : Str × Str => He.Fa.meth p.1 p.2) h)))))))
/-- the function object of a def -/
abbrev FdOk (K : PySem.W.Frag) (d : He.DefD) (fd : FuncData) : Prop := FunD K d.name d.qual d.params d.body d.scope (d.dvs K) (d.kws K) (He.fAd K d.at_) fd
theorem En.fd (e : En P w K mg base) (i : Nat) {d : He.DefD} (h : fn[i]? = some d := by rfl) : ∃ fd, FdOk K d fd := e.says.def_ i h
/-- the def d keeps its promise by k calls, one in another; nothing leaves it; its parameters are all written -/
structure Ok (P : Program) (w : World) (K : PySem.W.Frag) (mg : Str → Option Value) (base : Heap) (k : Nat) (d : He.DefD) (ps : List Str) (sp : Sp) : Prop where
  ex : ∃ fd, FnOk P w K mg base CX0 k (He.fAd K d.at_) fd ps sp ∧ Binds K fd ps []
  kp : PySem.W.keepIn K (.ref (He.fAd K d.at_)) = true
theorem Ok.mono {j k : Nat} {d : He.DefD} {ps : List Str} {sp : Sp} (o : Ok P w K mg base j d ps sp) (h : j ≤ k) : Ok P w K mg base k d ps sp :=
  let ⟨fd, a, b⟩ := o.ex
  ⟨⟨fd, a.mono h, b⟩, o.kp⟩
theorem Ok.imp {k : Nat} {d : He.DefD} {ps : List Str} {sp sp' : Sp} (o : Ok P w K mg base k d ps sp) (h : ∀ vs H Q E, sp' vs H Q E → sp vs H Q E) : Ok P w K mg base k d ps sp' :=
  let ⟨fd, a, b⟩ := o.ex
  ⟨⟨fd, a.imp h, b⟩, o.kp⟩
/-- THE RULE for a def -/
theorem ok_by {d : He.DefD} {fd : FuncData} {N ps : List Str} {k : Nat} {sp : Sp} (F : FdOk K d fd) (hd : d.dfl = []) (S : FnScope N ps d.scope)
    (hb : ∀ (kV doc pm : Value) (an : Option Addr) (cdv ct : Value) (us : List Value), us.length = ps.length → bindArgs (PySem.W.fnOf d.name d.qual d.params d.body d.scope .none kV doc pm an cdv ct) ⟨us, []⟩ = pure (ps.zip us))
    (len : ∀ vs H Q E, sp vs H Q E → vs.length = ps.length)
    (hbody : ∀ (cdv : Value) (A : Around) (outer : List Env) (s : Shared) (H : Hp) (vs : List V) (Q : VK) (E : XK), Room k (A.deeper (envOfC d.qual d.scope s.heap.objs.size (He.fAd K d.at_) cdv)) → sp vs H Q E →
      ∃ t, PSs (cxOf CX0 P w K mg base N d.qual d.scope (He.fAd K d.at_) cdv A outer s H E).nox d.body t ∧ t { nx := fun _ H' => Q .non H', rt := Q } (start N vs) H) : Ok P w K mg base (k + 1) d ps sp := by
  have hv : d.dvs K = [] := by
    unfold He.DefD.dvs
    rw [hd]
    rfl
  have F' : FunD K d.name d.qual d.params d.body d.scope [] (d.kws K) (He.fAd K d.at_) fd := by
    have h := F
    unfold FdOk at h
    rw [hv] at h
    exact h
  exact ⟨⟨fd, F.ok S len fun cdv A outer s H vs Q E hr hsp => let ⟨t, h, q⟩ := hbody cdv A outer s H vs Q E hr hsp; ⟨t, h.nox, q⟩, F'.bindsN hb⟩, F.kp⟩
/-- the same, told of the code object that the def's frame runs -/
theorem ok_byC {d : He.DefD} {fd : FuncData} {N ps : List Str} {k : Nat} {sp : Sp} (F : FdOk K d fd) (hd : d.dfl = []) (S : FnScope N ps d.scope)
    (hb : ∀ (kV doc pm : Value) (an : Option Addr) (cdv ct : Value) (us : List Value), us.length = ps.length → bindArgs (PySem.W.fnOf d.name d.qual d.params d.body d.scope .none kV doc pm an cdv ct) ⟨us, []⟩ = pure (ps.zip us))
    (len : ∀ vs H Q E, sp vs H Q E → vs.length = ps.length)
    (hbody : ∀ (A : Around) (outer : List Env) (s : Shared) (H : Hp) (vs : List V) (Q : VK) (E : XK), Room k (A.deeper (envOfC d.qual d.scope s.heap.objs.size (He.fAd K d.at_) (.ref (He.codeOf K d.at_)))) → sp vs H Q E →
      ∃ t, PSs (cxOf CX0 P w K mg base N d.qual d.scope (He.fAd K d.at_) (.ref (He.codeOf K d.at_)) A outer s H E).nox d.body t ∧ t { nx := fun _ H' => Q .non H', rt := Q } (start N vs) H) : Ok P w K mg base (k + 1) d ps sp := by
  have hv : d.dvs K = [] := by
    unfold He.DefD.dvs
    rw [hd]
    rfl
  have F' : FunD K d.name d.qual d.params d.body d.scope [] (d.kws K) (He.fAd K d.at_) fd := by
    have h := F
    unfold FdOk at h
    rw [hv] at h
    exact h
  obtain ⟨oc, od, dV, kV, doc, pm, an, cdv, ct, osl, rfl, lk, hcd, _, _⟩ := F.ex
  obtain ⟨c, rfl⟩ := He.codeIn_ref hcd
  have ec : He.codeOf K d.at_ = c := He.codeOf_eq lk rfl
  refine ⟨⟨_, fn_of lk hcd S len fun A outer s H vs Q E hr hsp => ?_, F'.bindsN hb⟩, F.kp⟩
  rw [← ec] at hr ⊢
  obtain ⟨t, h, q⟩ := hbody A outer s H vs Q E hr hsp
  exact ⟨t, h.nox, q⟩
end
/-! ### calls -/
section
variable {X : Cx} {j k : Nat} {d : He.DefD} {ps : List Str} {sp : Sp} {x m : Str} {p pos apos : Pos} {e o : Expr} {es : List Expr} {ta : TE} {t : TA} {C : Addr}
/-- f(e, ..) -/
theorem pe_fn (O : Ok X.prog X.w X.K X.mg X.base j d ps sp) (hr : Room k X.A) (hk : j ≤ k) (hg : Gl X x) (hm : X.mg x = some (.ref (He.fAd X.K d.at_))) (ha : PA X (e :: es) t) (hdb : (x == ("__debug__" : Str)) = false := by decide)
    (he : starEach (e :: es) X.env = (false, eval e X.env) :: starEach es X.env := by rfl) (hpl : (backTo pos (starEach es X.env)).any (·.1) = false := by rfl) : PE X (.Call (.Name x p) (e :: es) [] pos) (tCall sp [] E0 t) := by
  obtain ⟨fd, F, b⟩ := O.ex
  exact pe_call F (hr.mono hk) hg hm O.kp b .nil pass0 ha hdb he hpl
theorem pe_fn0 (O : Ok X.prog X.w X.K X.mg X.base j d ps sp) (hr : Room k X.A) (hk : j ≤ k) (hg : Gl X x) (hm : X.mg x = some (.ref (He.fAd X.K d.at_))) (hdb : (x == ("__debug__" : Str)) = false := by decide) : PE X (.Call (.Name x p) [] [] pos) (tCall sp [] E0 tNil) := by
  obtain ⟨fd, F, b⟩ := O.ex
  exact pe_call0 F (hr.mono hk) hg hm O.kp b .nil pass0 hdb
/-- o.m(e, ..) -/
theorem pe_mt {pl : Sem Bool} (he : PE X o ta) (c : Cls X.K C) (hm : Meth X.K C m (He.fAd X.K d.at_)) (O : Ok X.prog X.w X.K X.mg X.base j d ps sp) (hr : Room k X.A) (hk : j ≤ k) (ha : PA X (e :: es) t)
    (hst : starEach (e :: es) X.env = (false, eval e X.env) :: starEach es X.env := by rfl) (hpl : (backTo pos (starEach es X.env)).any (·.1) = false := by rfl)
    (ht : eval (.Call (.Attribute o m apos) (e :: es) [] pos) X.env = (do
      let ov ← eval o X.env
      standAt apos.atName
      let (f, first) ← holding [ov] (getMethod ov m pl)
      callWith pos f first (backTo pos (starEach (e :: es) X.env)) (backToKw pos (keywordEach [] X.env))) := by rfl) :
    PE X (.Call (.Attribute o m apos) (e :: es) [] pos) (tMeth C m sp [] E0 ta t) := by
  obtain ⟨fd, F, b⟩ := O.ex
  exact pe_meth he c hm F (hr.mono hk) b .nil pass0 ha hst hpl ht
theorem pe_mt0 {pl : Sem Bool} (he : PE X o ta) (c : Cls X.K C) (hm : Meth X.K C m (He.fAd X.K d.at_)) (O : Ok X.prog X.w X.K X.mg X.base j d ps sp) (hr : Room k X.A) (hk : j ≤ k)
    (ht : eval (.Call (.Attribute o m apos) [] [] pos) X.env = (do
      let ov ← eval o X.env
      standAt apos.atName
      let (f, first) ← holding [ov] (getMethod ov m pl)
      callWith pos f first (backTo pos (starEach [] X.env)) (backToKw pos (keywordEach [] X.env))) := by rfl) :
    PE X (.Call (.Attribute o m apos) [] [] pos) (tMeth C m sp [] E0 ta tNil) := by
  obtain ⟨fd, F, b⟩ := O.ex
  exact pe_meth0 he c hm F (hr.mono hk) b .nil pass0 ht
/-- C(e, ..) -/
theorem pe_mk (M : Mk X.K C (He.fAd X.K d.at_)) (O : Ok X.prog X.w X.K X.mg X.base j d ps sp) (hr : Room k X.A) (hk : j + 1 ≤ k) (hg : Gl X x) (hm : X.mg x = some (.ref C)) (ha : PA X (e :: es) t) (hdb : (x == ("__debug__" : Str)) = false := by decide)
    (he : starEach (e :: es) X.env = (false, eval e X.env) :: starEach es X.env := by rfl) (hpl : (backTo pos (starEach es X.env)).any (·.1) = false := by rfl) : PE X (.Call (.Name x p) (e :: es) [] pos) (tMake C sp [] E0 t) := by
  obtain ⟨fd, F, b⟩ := O.ex
  exact pe_make M F (hr.mono hk) hg hm b .nil pass0 ha hdb he hpl
end
/-! ### heaps -/
theorem same_upd {H : Hp} {p : Addr} {o : HO} (h : H p = none) : Same H (upd H p o) := fun b u e => by
  rw [upd_ne (ne_of_none e h)]
  exact e
theorem same_upd2 {H H' : Hp} {p : Addr} {o : HO} (s : Same H H') (h : H' p = none) : Same H (upd H' p o) := s.trans (same_upd h)
theorem Same.sqT {K : PySem.W.Frag} {H H' : Hp} {a : Addr} {xs : List V} (e : Same H H') (h : SqT K H a xs) : SqT K H' a xs := by
  rcases h with (h | ⟨o, h⟩) | h
  · exact .inl (.inl (e _ _ h))
  · exact .inl (.inr ⟨o, e _ _ h⟩)
  · exact .inr h
/-- all that was tracked is as it was, but the objects at M and the tables of code objects -/
def Keep (M : List Addr) (H H' : Hp) : Prop := ∀ b o, H b = some o → b ∉ M → (∀ ps, o ≠ .tbl ps) → H' b = some o
theorem Keep.refl {M : List Addr} {H : Hp} : Keep M H H := fun _ _ h _ _ => h
theorem Keep.trans {M : List Addr} {H H1 H2 : Hp} (a : Keep M H H1) (b : Keep M H1 H2) : Keep M H H2 := fun c o h m t => b c o (a c o h m t) m t
theorem Keep.mono {M N : List Addr} {H H' : Hp} (a : Keep M H H') (h : ∀ b ∈ M, b ∈ N) : Keep N H H' := fun c o e m t => a c o e (fun z => m (h c z)) t
theorem Keep.of {M : List Addr} {H H' : Hp} (s : Same H H') : Keep M H H' := fun b o e _ _ => s b o e
theorem Keep.ext {M : List Addr} {H H' : Hp} (s : ExtN H H') : Keep M H H' := fun b o e _ t => s b o e t
theorem Keep.new {M : List Addr} {H H' : Hp} {p : Addr} {o : HO} (s : Keep M H H') (h : H' p = none) : Keep M H (upd H' p o) := s.trans (.of (same_upd h))
theorem Keep.put {M : List Addr} {H H' : Hp} {p : Addr} {o : HO} (s : Keep M H H') (h : p ∈ M) : Keep M H (upd H' p o) := s.trans fun b u e m _ => by
  rw [upd_ne (fun z => m (by rw [z]; exact h))]
  exact e
theorem Keep.sm {H H' : Hp} (s : Same H H') : Keep [] H H' := .of s
/-- the tables of the two defs that make a lambda -/
def tabsOf (K : PySem.W.Frag) : List (Addr × Str) := [((He.cT K ("called", none)).2, "called.<locals>.<lambda>"), ((He.cT K ("row_by", none)).2, "row_by.<locals>.<lambda>")]
end Sb
/-! sorted of texts out of a tuple, out of a dict's values. -/
namespace Sb
open PySem PySem.Spec PyProof.Rows L2
section
variable {prog : Program} {w : World} {A : Around} {E : Value → Shared → Prop} {s : Shared}
/-- the items of a tuple, taken into a new list -/
theorem take_tuple {t : Addr} {vs : List Value} {Q : List Value → Shared → Prop} (ht : IsTup s.heap t vs.toArray) (hz : vs.length ≤ sizeLine)
    (h : ∀ h' : Heap, (∀ b o, s.heap.get? b = some o → h'.get? b = some o) → Q vs { s with heap := h' }) : wpAny (model prog w) A (collect (.ref t)) Q E s := by
  obtain ⟨o, ho, hc, n, hd⟩ := id ht
  have old : ∀ b u, s.heap.get? b = some u → (s.heap.push (seqObj "list" #[] 0)).get? b = some u := fun b u e => Heap.get?_push_of_some _ e
  have own : (s.heap.push (seqObj "list" #[] 0)).get? s.heap.objs.size = some (seqObj "list" #[] 0) := Heap.get?_push_size _ rfl
  unfold collect
  refine wpAny_bind (wpAny_runValue (codeAny_builtin entry_proto_collect' ?_))
  refine wpAny_bind (wpAny_newList (wpAny_pure ⟨Code.quiet_builtin _ (by decide +kernel), codeAny_builtin entry_list_iadd' ?_⟩))
  show wpAny _ _ (Builtin.List.listExtendWith (.ref s.heap.objs.size) (.ref t) (.ref s.heap.objs.size)) _ _ { s with heap := s.heap.push (seqObj "list" #[] 0) }
  unfold Builtin.List.listExtendWith
  refine wpAny_bind (wpAny_typeOf (T := "tuple") ⟨o, old t o ho, hc⟩ ?_)
  rw [if_pos (by
    have e : (Value.type "tuple" == Value.type "tuple") = true := by rfl
    rw [e, Bool.or_true])]
  refine wpAny_bind (listItems_at (old t o ho) hd ?_)
  refine wpAny_bind (listItems_at own rfl ?_)
  rw [if_neg (by simp)]
  refine wpAny_bind (listUpdate_at own rfl ?_ (Nat.zero_le _) (by simp only [Array.size_append, List.size_toArray, List.length_nil]; omega))
  refine wpAny_pure ?_
  refine wpAny_bind (wpAny_load (get?_update_seq own _) (wpAny_pure ?_))
  have fin := h ((s.heap.push (seqObj "list" #[] 0)).update s.heap.objs.size (Obj.mapSeq (· ++ vs.toArray))) fun b u e => by
    rw [Heap.get?_update_ne _ _ _ _ (Nat.ne_of_lt (Heap.lt_size e))]
    exact old b u e
  rw [show ((#[] : Array Value) ++ vs.toArray).toList = vs by simp]
  exact fin
end
section
variable {X : Cx} {pins : List (Addr × Obj)} {σ : L2.St} {H H1 : Hp} {s : Shared}
/-- sorted(x): x gives these texts, one behind another -/
theorem sorted_texts {E : Value → Shared → Prop} {arg : Value} {xs : List Str} {Q : VK} (h64 : xs.length < 64)
    (hcol : ∀ (R : List Value → Shared → Prop), (∀ us h' tk, StrsAre us xs → Inv X pins σ H1 { s with heap := h', toks := tk } → R us { s with heap := h', toks := tk }) → wpAny (model X.prog X.w) X.A.in1 (collect arg) R E s)
    (q : ∀ ys p, ys.Perm xs → sortedS ys = true → H1 p = none → Q (.ref p) (upd H1 p (.lst (ys.map V.str)))) : wpAny (model X.prog X.w) X.A (call (.builtin "sorted") [arg]) (EP X pins σ Q) E s := by
  refine Calls.call_function_entry PyProof.Rows.kind_sorted PyProof.Rows.plain_sorted PyProof.Rows.entry_sorted (PyProof.Rows.args_sorted1 _) ?_
  unfold Builtin.«sorted»
  refine wpAny_bind (m := checkCount "sorted" 1 1 _) (wpAny_pure ?_)
  refine wpAny_bind (hcol _ fun us h' tk hS I1 => ?_)
  have hl : us.length = xs.length := hS.length
  refine wpAny_bind (wpAny_newList ?_ (by rw [hl, sizeLine_eq]; omega))
  have hoL : (h'.push (seqObj "list" us.toArray 0)).get? h'.objs.size = some (seqObj "list" us.toArray 0) := Heap.get?_push_size _ rfl
  show wpAny _ _ _ _ _ { s with heap := h'.push (seqObj "list" us.toArray 0), toks := tk }
  refine wpAny_bind (wpAny_holding (wpAny_call_entry PyProof.Rows.slot_list_sort ⟨_, hoL, rfl⟩ PyProof.Rows.entry_list_sort
    (list_sort_treeK strKind_oneLt (s := { s with heap := h'.push (seqObj "list" us.toArray 0), toks := tk }) hoL hS.keysOf (fun v₁ v₂ rest e => keyKind_strs (by rw [← e]; exact hS)) (by rw [hl]; exact h64) fun st' hp hs => ⟨_, rfl, ?_⟩)
    (PyProof.Rows.args_list_sort _)))
  obtain ⟨ys, g1, g2, g3⟩ := sorted_out_str hS hp hs
  obtain ⟨e', he'⟩ := PyProof.Rows.sortedHeap_at (vs := us) (out := (arrOf st').map (·.2)) hoL
  have hlen : (ys.map V.str).length ≤ sizeLine := by
    rw [List.length_map, g2.length_eq, sizeLine_eq]
    omega
  have fr := I1.hok.fresh (Nat.le_refl h'.objs.size)
  refine wpAny_pure ⟨_, rfl, .ref h'.objs.size, upd H1 h'.objs.size (.lst (ys.map V.str)), I1.laid (t' := tk) (fun b u e => ?_) (Nat.le_refl _)
    (show ObjOk X.prog X.w _ _ _ (.lst (ys.map V.str)) from ⟨hlen, ((arrOf st').map (·.2)).toList, e', vals_of_strs g1, by rw [Array.toArray_toList]; exact he'⟩), rfl, q ys _ g2 g3 fr⟩
  have hb : b < h'.objs.size := Heap.lt_size e
  rw [PyProof.Rows.sortedHeap_old (Nat.ne_of_lt hb) (by rw [size_push']; exact Nat.lt_succ_of_lt hb)]
  exact Heap.get?_push_of_some _ e
end
section
variable {X : Cx}
/-- sorted(t), a tuple of texts -/
def rSortedT (K : PySem.W.Frag) : List V → Hp → VK → Prop := fun vs H Q => ∃ (a : Addr) (xs : List Str), vs = [V.ref a] ∧ SqT K H a (xs.map V.str) ∧ xs.length < 64 ∧
  ∀ (ys : List Str) (p : Addr), ys.Perm xs → sortedS ys = true → H p = none → Q (.ref p) (upd H p (.lst (ys.map V.str)))
theorem cr_sortedT : CallR X (.builtin "sorted") (rSortedT X.K) := by
  intro pins s σ H vs us Q I r h
  obtain ⟨a, xs, rfl, hs, h64, q⟩ := h
  obtain ⟨its, rv, ht, hz⟩ := I.tuple hs
  rw [Vals.ref1 r]
  refine sorted_texts (H1 := H) h64 (fun R hR => ?_) q
  exact take_tuple ht (by rw [← rv.length]; exact hz) fun h' k => hR its h' s.toks rv.strs (I.kept k)
/-- the view d.values() at p -/
def valuesO (p d : Addr) : HO := .ext fun h => h.IsValuesView p d
def rValues : V → List V → Hp → VK → Prop := fun x xs H Q => ∃ (a : Addr) (kvs : List (Key × V)), x = .ref a ∧ xs = [] ∧ H a = some (.dK kvs) ∧ ∀ p, H p = none → Q (.ref p) (upd H p (valuesO p a))
theorem mt_values : MtR X "dict.values" rValues := by
  intro pins s σ H x xs v us Q I rx rxs h
  obtain ⟨a, kvs, rfl, rfl, ha, q⟩ := h
  cases rx
  cases rxs
  obtain ⟨z, hd, vs, rel, dd⟩ := dk_of I.hok ha
  refine call_meetsIn PySem.F.slot_dict_values dd.typeIs PySem.F.entry_dict_values (PySem.F.args_dict_values_1 _) (meets_dict_values (mixKind X.prog X.w) a hd) ⟨⟨vs, dd⟩, ?_⟩
  have hf : H s.heap.objs.size = none := I.hok.fresh (Nat.le_refl _)
  have ho : (s.heap.push { cls := .type "dict_values", data := .fields #[.ref a] }).get? s.heap.objs.size = some { cls := .type "dict_values", data := .fields #[.ref a] } := Heap.get?_push_size _ rfl
  exact ⟨.ref s.heap.objs.size, upd H s.heap.objs.size (valuesO s.heap.objs.size a), I.laid (t' := s.toks) (fun b u e => Heap.get?_push_of_some _ e) (Nat.le_refl _)
    ⟨⟨_, ho, rfl, rfl⟩, ⟨_, ho⟩, fun h1 h2 x k => let ⟨o, h0, r⟩ := x; ⟨o, k o h0, r⟩⟩, rfl, q _ hf⟩
/-- sorted(d.values()), texts -/
def rSortedVs : List V → Hp → VK → Prop := fun vs H Q => ∃ (p a : Addr) (kvs : List (Key × V)) (xs : List Str), vs = [V.ref p] ∧ H p = some (valuesO p a) ∧ H a = some (.dK kvs) ∧ kvs.map (·.2) = xs.map V.str ∧ xs.length < 64 ∧
  ∀ (ys : List Str) (p : Addr), ys.Perm xs → sortedS ys = true → H p = none → Q (.ref p) (upd H p (.lst (ys.map V.str)))
theorem vals_snd : ∀ {kvs : List (Key × V)} {vs : List (Key × Value)}, KV kvs vs → Vals (kvs.map (·.2)) (vs.map (·.2))
  | _, _, .nil => .nil
  | _, _, .cons r t => .cons r.2 (vals_snd t)
theorem cr_sortedVs (hc : X.calm = true) : CallR X (.builtin "sorted") rSortedVs := by
  intro pins s σ H vs us Q I r h
  obtain ⟨p, a, kvs, xs, rfl, hp, ha, hx, h64, q⟩ := h
  rw [Vals.ref1 r]
  obtain ⟨z, hd, ws, rel, dd⟩ := dk_of I.hok ha
  obtain ⟨ep, hat⟩ := dd.dictAt
  obtain ⟨hv, _, _⟩ := I.hok p _ hp
  have hl : ws.length = xs.length := by
    have e := congrArg List.length hx
    rw [List.length_map, List.length_map] at e
    rw [← e]
    exact (Paired.length rel).symm
  refine sorted_texts (H1 := H) h64 (fun R hR => ?_) q
  refine PySem.W.kdu_collect (A := X.A.in1) (PySem.W.kdl_values (knd := mixKind X.prog X.w) (kvs := ws) (ep := ep) (r := p) (d := a)) (I.ok.hd hc) ⟨hv, hat⟩ (by rw [hl, sizeLine_eq]; omega) fun h' tk acc hk hacc => ?_
  have hrel := vals_snd rel
  rw [hx] at hrel
  have hS : StrsAre (ws.map (·.2)) xs := hrel.strs
  have e : acc.toList = ws.map (·.2) := by
    refine List.ext_getElem? fun j => ?_
    cases q : acc.toList[j]? with
    | none =>
      have h1 := List.getElem?_eq_none_iff.mp q
      rw [Array.length_toList, hacc.1] at h1
      rw [List.getElem?_eq_none_iff.mpr (by rw [List.length_map]; exact h1)]
    | some v =>
      obtain ⟨k, e1⟩ := hacc.2 j v (by rw [← Array.getElem?_toList]; exact q)
      rw [List.getElem?_map, e1] <;> rfl
  rw [e]
  exact hR _ h' tk hS (I.kept hk)
end
end Sb
/-! enumerate of a tuple. -/
namespace Sb
open PySem PySem.Spec PyProof.Rows L2
theorem enum_new1 {v : Value} {o : Obj} {H : Heap → Prop} (B : Begins v o H) :
    Meets (Builtin.«enumerate.__new__» ⟨[.type "enumerate", v], []⟩) (fun _ R s => H s.heap ∧
      R (.ok (.ret (.ref (s.heap.push o).objs.size))) { s with heap := (s.heap.push o).push { cls := .type "enumerate", data := .fields #[.none, .bool false, .ref s.heap.objs.size, rawInt 0, .none, .none] } }) :=
  .of_wp fun prog w A R s h => by
    obtain ⟨hp, g, d, tk, os⟩ := s
    obtain ⟨h1, h⟩ := h
    have hsub := sub_enumerate
    have mk : ∀ {A' : Around} {E : Value → Shared → Prop} {Q : Value → Shared → Prop}, Q (.ref hp.objs.size) ⟨hp.push o, g, d, tk, os⟩ → wpAny (model prog w) A' (pyIter v) Q E ⟨hp, g, d, tk, os⟩ :=
      fun q => B.iter prog w _ _ ⟨hp, g, d, tk, os⟩ _ h1 q
    wp_walk using mk
    refine wpAny_stack_any fun st => wpAny_pure ?_
    split
    · rename_i c _ _ _ _ _
      cases (c == Value.type "enumerate")
      all_goals
        wp_walk using mk
        exact ⟨_, rfl, h⟩
    · wp_walk using mk
      exact ⟨_, rfl, h⟩
section
variable {prog : Program} {w : World} {A : Around} {E : Value → Shared → Prop} {s : Shared}
theorem enum_made {v : Value} {o : Obj} {H : Heap → Prop} {Q : Value → Shared → Prop} (B : Begins v o H) (h1 : H s.heap)
    (h : ∀ h', IsEnum h' (s.heap.objs.size + 1) s.heap.objs.size 0 .none → h'.get? s.heap.objs.size = some o → (∀ b o, s.heap.get? b = some o → h'.get? b = some o) → Q (.ref (s.heap.objs.size + 1)) { s with heap := h' }) :
    wpAny (model prog w) A (call (.type "enumerate") [v]) Q E s := by
  refine callType_new F.called_enumerate (by decide) (F.typeCall_enumerate_1 _) (F.newCall_enumerate_1 _) (fun obj => F.args_object_init_2 obj _) F.entry_enumerate_new (enum_new1 B) ⟨h1, ?_⟩
  have hz : (s.heap.push o).objs.size = s.heap.objs.size + 1 := Heap.size_push ..
  show _ ∧ _
  rw [hz]
  have he : IsEnum ((s.heap.push o).push { cls := .type "enumerate", data := .fields #[.none, .bool false, .ref s.heap.objs.size, rawInt 0, .none, .none] }) (s.heap.objs.size + 1) s.heap.objs.size 0 .none := by
    have e := Heap.get?_push_size (s.heap.push o) (o := { cls := .type "enumerate", data := .fields #[.none, .bool false, .ref s.heap.objs.size, rawInt 0, .none, .none] }) rfl
    rw [hz] at e
    exact e
  exact ⟨⟨_, he, rfl⟩, h _ he (Heap.get?_push_of_some _ (Heap.get?_push_size _ B.free)) fun b u x => Heap.get?_push_of_some _ (Heap.get?_push_of_some _ x)⟩
end
/-- the items of the tuple at a, each in a new pair with its place -/
def IteT (K : PySem.W.Frag) (a : Addr) : It :=
  ⟨fun i H => ∃ (xs : List V) (x : V), SqT K H a xs ∧ xs[i]? = some x, fun i H v H' => ∃ T x, v = .ref T ∧ H T = none ∧ H' = upd H T (.tup [.int (i : Nat), x]) ∧ ∀ xs, SqT K H a xs → xs[i]? = some x, fun i H => ∃ xs : List V, SqT K H a xs ∧ xs.length ≤ i⟩
theorem turn_enumT {P : Program} {w : World} {K : PySem.W.Frag} {elts : List Expr} {kk : Nat} {tpos : Pos} (a e it : Addr) :
    Turn P w K (.Tuple elts kk tpos) (IteT K a) [e, it] e (fun i h => (∃ old, IsEnum h e it ((i : Nat) : Int) old) ∧ h.IsTupleIter it a i ∧ e ≠ it ∧ a ≠ e ∧ a ≠ it) where
  mem := List.mem_cons_self
  obj := fun i h st b hb => by
    obtain ⟨⟨old, he⟩, ⟨o, ho, hc, hd⟩, _⟩ := st
    rcases List.mem_cons.mp hb with z | z
    · rw [z]; exact ⟨_, he, fun v q => nomatch q⟩
    · rw [List.mem_singleton.mp z]
      exact ⟨o, ho, fun v q => by rw [hd] at q; cases q⟩
  keep := fun i h h' st k => by
    obtain ⟨⟨old, he⟩, hi, r⟩ := st
    exact ⟨⟨old, k e List.mem_cons_self _ he⟩, hi.at fun o q => k it (by simp) o q, r⟩
  item := by
    intro X hP hw hK hc i pins s σ H E I hf st hg
    subst hP hw hK
    obtain ⟨⟨old, he⟩, hit, hne, hae, hai⟩ := st
    obtain ⟨xs, x, hq, hx⟩ := hg
    obtain ⟨its, rv, p, hz⟩ := I.tuple hq
    obtain ⟨u, hu, ru⟩ := rv.get hx
    have hel : e < s.heap.objs.size := Heap.lt_size he
    have hil : it < s.heap.objs.size := by obtain ⟨_, q, _⟩ := hit; exact Heap.lt_size q
    have hlt : i < its.toArray.size := by
      have q := (List.getElem?_eq_some_iff.mp hu).1
      simpa using q
    have D := Draws.tuple (prog := X.prog) (w := X.w) (A := X.A.in1) (I.ok.hd hc) it a hai its.toArray
    refine wpAny_pyNext_enum_itemC D he ⟨hit, (show s.heap.IsTuple a its.toArray from p)⟩ hlt hne (fun z => ?_) fun y h' tk hy ho hst' hT hsz hk => ?_
    · rcases List.mem_cons.mp z with z | z
      · exact hne z
      · exact hae (List.mem_singleton.mp z).symm
    · have ey : y = u := by
        have e1 : its.toArray[i]? = some u := by simpa using hu
        rw [hy] at e1
        exact Option.some.inj e1
      subst ey
      refine ⟨_, rfl, wpAny_letOwnedTupleGo_enum (s := { s with heap := h', toks := tk + 1 }) ho fun h'' he' sb => ?_⟩
      have hT2 : h''.get? s.heap.objs.size = some { cls := .type "tuple", data := .seq #[.int i tk, y] } := (sb.2 _ (Nat.ne_of_gt hel)).trans hT
      have new : ObjOk X.prog X.w (upd H s.heap.objs.size (.tup [.int (i : Nat), x])) h'' s.heap.objs.size (.tup [.int (i : Nat), x]) :=
        ⟨by show 2 ≤ sizeLine; decide, [.int i tk, y], .cons ⟨_, rfl⟩ (.cons ru .nil), ⟨_, hT2, rfl, _, rfl⟩⟩
      have I1 : Inv X pins σ (upd H s.heap.objs.size (.tup [.int (i : Nat), x])) { s with heap := h'', toks := tk + 1 } :=
        I.turnedNew (ch := [e, it]) (fun b ob hb q => (sb.2 b (fun z => hb (by simp [z]))).trans (hk b ob (fun z => hb (by simp [z])) (fun z => hb (by simp [z])) q)) hf (Nat.le_refl _) new
      refine ⟨.ref s.heap.objs.size, _, I1, rfl, ⟨_, x, rfl, I.hok.fresh (Nat.le_refl _), rfl, fun ys hy => by rw [I.tuple_inj hy hq]; exact hx⟩, ⟨⟨y, ?_⟩, hst'.1.at fun o q => (sb.2 it (Ne.symm hne)).trans q, hne, hae, hai⟩, fun b hb => ?_⟩
      · have e1 : ((i + 1 : Nat) : Int) = (i : Int) + 1 := by omega
        rw [e1]
        exact he'
      · have hb' : b < s.heap.objs.size := by
          rcases List.mem_cons.mp hb with z | z
          · rw [z]; exact hel
          · rw [List.mem_singleton.mp z]; exact hil
        rw [upd_ne (Nat.ne_of_lt hb')]
        exact (hf b hb).1
  done := by
    intro X hP hw hK hc i pins s σ H E I hf st hg
    subst hP hw hK
    obtain ⟨⟨old, he⟩, hit, hne, hae, hai⟩ := st
    obtain ⟨xs, hq, hx⟩ := hg
    obtain ⟨its, rv, p, hz⟩ := I.tuple hq
    obtain ⟨f0, f1, f2, f3, f4, f5⟩ := hf it (by simp)
    have hl := rv.length
    have hT : s.TypeIs (.ref e) "enumerate" := ⟨_, he, rfl⟩
    unfold pyNext
    refine wpAny_bind (wpAny_attempt (wpAny_callSpecial?_slot (name := Str.ofString "__next__") hT F.slot_enumerate_next
      (wpAny_call_entry F.slot_enumerate_next hT F.entry_enumerate_next ?_ (F.args_enumerate_next_1 _))))
    show wpAny _ _ (field (.ref e) 2 >>= _) _ _ _
    refine wpAny_bind (wpAny_field he rfl (x := .ref it) rfl ?_)
    refine wpAny_bind (wpAny_nextOf_tuple_end (I.ok.hd hc) hit (show s.heap.IsTuple a its.toArray from p) (by simp; omega) fun h' x eb hx' => ?_)
    obtain ⟨o, ho, hc'⟩ := hx'
    refine wpAny_bind (wpAny_isInstance (T := "StopIteration") (b := true) ⟨o, ho, hc'⟩ isSubtype_stop ?_)
    exact wpAny_pure ⟨rfl, I.turned (t' := s.toks) (fun b o hb q => eb b o hb q) f0 f1 f3 f4 f5⟩
  self := fun A i s Q E st h => let ⟨⟨_, he⟩, _⟩ := st; wpAny_pyIter_enum he h
def iEnumT (K : PySem.W.Frag) (ta : TA) : TI := fun σ H R => ta σ H fun vs H1 => ∃ a xs, vs = [.ref a] ∧ SqT K H1 a xs ∧ R (IteT K a) H1
theorem pi_enumT {X : Cx} {e : Expr} {ta : TA} {p pos tpos : Pos} {elts : List Expr} {kk : Nat} (hg : Gl X "enumerate") (hm : X.mg "enumerate" = none) (ha : PA X [e] ta) (hs : starEach [e] X.env = [(false, eval e X.env)] := by rfl) :
    PI X (.Tuple elts kk tpos) (.Call (.Name "enumerate" p) [e] [] pos) (iEnumT X.K ta) := by
  refine ⟨fun pins s σ H R I h => ?_⟩
  refine Call_ (ld_blt I hg hm boot_enumerate (PyProof.Rows.callWith_type1 (thn (ha.run pos pins s σ H _ I h) fun us s1 ⟨vs, H1, I1, r1, q1⟩ => ?_) hs rfl))
  obtain ⟨a, xs, ex, hq, q⟩ := q1
  subst ex
  obtain ⟨its, rv, p', hz⟩ := I1.tuple hq
  rw [Vals.ref1 r1]
  have hal : a < s1.heap.objs.size := p'.lt
  refine enum_made (begins_tuple a its.toArray) (show s1.heap.IsTuple a its.toArray from p') fun h' he hit hk => wpAny_pyIter_enum he ?_
  have I2 : Inv X pins σ H1 { s1 with heap := h' } := I1.kept (t' := s1.toks) hk
  refine ⟨s1.heap.objs.size + 1, [s1.heap.objs.size + 1, s1.heap.objs.size], _, _, H1, rfl, I2, turn_enumT a (s1.heap.objs.size + 1) s1.heap.objs.size,
    ⟨⟨.none, he⟩, ⟨_, hit, rfl, rfl⟩, Nat.succ_ne_self _, Nat.ne_of_lt (Nat.lt_succ_of_lt hal), Nat.ne_of_lt hal⟩, fun b hb => ?_, q⟩
  have hle : s1.heap.objs.size ≤ b := by
    rcases List.mem_cons.mp hb with z | z
    · rw [z]; exact Nat.le_add_right _ _
    · rw [List.mem_singleton.mp z]; exact Nat.le_refl _
  exact I1.fpOk hle (I1.hok.fresh hle)
/-- a dict comprehension over such pairs -/
theorem dc_enumT {K : PySem.W.Frag} {a : Addr} {xs : List V} {g : TG} {tt : TT} {tk tv : TE} {vs : List Nat} {σ : L2.St} {H1 : Hp} {D : Addr} {Qd : Hp → Prop} (Pv : Nat → Hp → Prop) (h0 : Pv 0 (upd H1 D (.dK []))) (hl : ∀ i H, i ≤ xs.length → Pv i H → SqT K H a xs)
    (hs : ∀ i x H T, xs[i]? = some x → Pv i H → H T = none → g (.ref T) (wipe σ vs) (upd H T (.tup [.int (i : Nat), x])) fun σ2 H2 => wipe σ2 vs = wipe σ vs ∧ tt σ2 H2 fun b H3 =>
      if b = true then tk σ2 H3 fun y H4 => tv σ2 H4 fun z H5 => ∃ kvs k, y = kV k ∧ H5 D = some (.dK kvs) ∧ kvs.length < sizeLine ∧ Pv (i + 1) (upd H5 D (.dK (putK kvs k z))) else Pv (i + 1) H3) (hd : ∀ H, Pv xs.length H → Qd H) :
    ∃ W : Nat → Nat → Hp → Prop, (∃ m, W 0 m (upd H1 D (.dK []))) ∧ ∀ i m H, W i m H →
      ((IteT K a).stop i H ∧ Qd H) ∨ ((IteT K a).go i H ∧ ∃ Nx : Hp → Prop, (∀ H', Nx H' → ∃ m', m' < m ∧ W (i + 1) m' H') ∧ ∀ x H', (IteT K a).yld i H x H' → g x (wipe σ vs) H' fun σ2 H2 => wipe σ2 vs = wipe σ vs ∧ tt σ2 H2 fun b H3 =>
        if b = true then tk σ2 H3 fun y H4 => tv σ2 H4 fun z H5 => ∃ kvs k, y = kV k ∧ H5 D = some (.dK kvs) ∧ kvs.length < sizeLine ∧ Nx (upd H5 D (.dK (putK kvs k z))) else Nx H3) := by
  refine ⟨fun i m H => m = xs.length - i ∧ i ≤ xs.length ∧ Pv i H, ⟨xs.length, by simp, Nat.zero_le _, h0⟩, ?_⟩
  rintro i m H ⟨rfl, hi, p⟩
  have q := hl i H hi p
  by_cases hlt : i < xs.length
  · refine .inr ⟨⟨xs, xs[i], q, by simp [hlt]⟩, Pv (i + 1), fun H' p' => ⟨xs.length - (i + 1), by omega, rfl, hlt, p'⟩, fun x H' y => ?_⟩
    obtain ⟨T, z, e1, e2, e3, e4⟩ := y
    subst e1 e3
    exact hs i z H T (e4 xs q) p e2
  · have e : i = xs.length := by omega
    subst e
    exact .inl ⟨⟨xs, q, Nat.le_refl _⟩, hd H p⟩
end Sb
/-! A lambda as a tracked thing: made, called; sorted by it. -/
namespace Sb
open PySem PySem.Spec PyProof.Rows L2 LamX NdefX
structure LF where
  qual : Str
  params : Arguments
  body : Expr
  scope : Scope
  cl : List (Str × Addr)
  c : Addr
abbrev LF.fd (F : LF) (pm ctv : Value) : FuncData := PySem.W.kla_fn "<lambda>" F.qual F.params F.body F.scope F.cl pm (.ref F.c) ctv
abbrev LF.nf (F : LF) : NF := ⟨"<lambda>", F.qual, F.params, [], F.scope, F.cl, F.c⟩
/-- the object at f is the lambda F -/
def LamO (f : Addr) (F : LF) : HO := .ext fun h => ∃ (od : Option Addr) (sl : Array (Option Value)) (pm ctv : Value), h.get? f = some (⟨.type "function", od, .func (F.fd pm ctv), sl⟩ : Obj)
theorem lamO_ne {f : Addr} {F : LF} (ps : Array Value) : LamO f F ≠ .tbl ps := fun z => by
  unfold LamO at z
  cases z
theorem lamO_at {P : Program} {w : World} {H : Hp} {h : Heap} {f : Addr} {F : LF} (hok : HOk P w H h) (e : H f = some (LamO f F)) : ∃ (od : Option Addr) (sl : Array (Option Value)) (pm ctv : Value), h.get? f = some (⟨.type "function", od, .func (F.fd pm ctv), sl⟩ : Obj) := by
  obtain ⟨z, _, _⟩ := hok f _ e
  exact z
section
variable {X : Cx} {pins : List (Addr × Obj)} {σ : L2.St} {H : Hp} {s : Shared}
theorem inv_lam {F : LF} {t' : Nat} {pm ctv : Value} (I : Inv X pins σ H s) :
    Inv X pins σ (upd H s.heap.objs.size (LamO s.heap.objs.size F)) { s with heap := s.heap.push { cls := .type "function", data := .func (F.fd pm ctv) }, toks := t' } := by
  refine I.laid (a := s.heap.objs.size) (fun b u e => Heap.get?_push_of_some _ e) (Nat.le_refl _) ?_
  have e : (s.heap.push ({ cls := .type "function", data := .func (F.fd pm ctv) } : Obj)).get? s.heap.objs.size = some ({ cls := .type "function", data := .func (F.fd pm ctv) } : Obj) := Heap.get?_push_size _ rfl
  exact ⟨⟨_, _, pm, ctv, e⟩, ⟨_, e⟩, fun h1 h2 ⟨od, sl, p, t, z⟩ st => ⟨od, sl, p, t, st _ z⟩⟩
end
/-- lambda ..: body -/
def tLamF (T : List (Addr × Str)) (mk : Addr → LF) : TE := fun σ H Q => Tabs T H ∧ ∀ (f c' : Addr) (H1 : Hp), ExtN H H1 → Tabs T H1 → H f = none → H1 f = some (LamO f (mk c')) → H1 c' = some (CodeO c' (mk c').qual) → Q (.ref f) H1
theorem pe_lamF {X : Cx} {T : List (Addr × Str)} {c P : Addr} {params : Arguments} {body : Expr} {scope : Scope} {pos : Pos} (TB : TabB X.base X.mg c P) (hcode : X.env.code = .ref c) (hm : (P, X.env.qual ++ "<lambda>") ∈ T)
    (hu : ∀ p ∈ T, p.1 = P → p.2 = X.env.qual ++ "<lambda>") (hdef : defaultsOf params X.env = ([], [])) (hfree : ∀ y ∈ scope.names, y.2 = .free → X.env.scope.names.lookup y.1 = some .cell ∨ X.env.scope.names.lookup y.1 = some .free) :
    PE X (.Lambda params body scope pos) (tLamF T fun c' => ⟨X.env.qual ++ "<lambda>", params, body, scope, cloFrom X.env.cells scope.names [], c'⟩) := by
  refine ⟨fun pins s σ H Q I h => ?_⟩
  obtain ⟨hT, h⟩ := h
  have hfr : ∀ y ∈ scope.names, y.2 = .free → ∃ c, X.env.cells.lookup y.1 = some c := fun y hy e => (hfree y hy e).elim (fun z => I.ok.has _ (.inl z)) fun z => I.ok.has _ (.inr z)
  obtain ⟨ps, hP, ht, ha⟩ := hT _ hm
  refine PySem.W.kla_eval hdef ?_
  have bP : s.heap.BuiltinsAt X.mg P := TB.bm.keeps I.bk
  have hP' : s.heap.get? P = some { cls := .none, data := .fields ps } := I.hok P _ hP
  cases hc : codeAmong pos ps.toList with
  | none =>
    refine PySem.W.kla_makeFunction (mg := X.mg) (c := c) (P := P) (ps := ps) (closure_ok hfr) I.ok.glob (I.mod.glob.keeps I.bk) hcode (TB.code.keeps I.bk) hP' ht hc TB.gP bP fun c' ctv h' tk hx hge hlt hrec htb => ?_
    obtain ⟨c2, oc, vs, t, e2, hoc, hd, hv⟩ := hrec
    cases e2
    have nC : H c' = none := I.hok.fresh hge
    have I1 := inv_table (q := X.env.qual ++ "<lambda>") (t' := tk) (more := #[rawInt pos.line, rawInt pos.col, .ref c']) (h' := h') I hP (fun b o hb e => hx b o hb e) htb hge ⟨oc, vs, t, hoc, hd, hv⟩
    have hE : ExtN H (upd (upd H P (.tbl (ps ++ #[rawInt pos.line, rawInt pos.col, .ref c']))) c' (CodeO c' (X.env.qual ++ "<lambda>"))) := fun b o e n => by
      rw [upd_ne (ne_of_none e nC), upd_ne (fun z => n ps (Option.some.inj (e.symm.trans (by rw [z]; exact hP))))]
      exact e
    have eL : (ps ++ #[rawInt pos.line, rawInt pos.col, .ref c']).toList = ps.toList ++ [rawInt pos.line, rawInt pos.col, .ref c'] := by simp
    have T1 : Tabs T (upd (upd H P (.tbl (ps ++ #[rawInt pos.line, rawInt pos.col, .ref c']))) c' (CodeO c' (X.env.qual ++ "<lambda>"))) := fun p hp => by
      by_cases hb : p.1 = P
      · rw [hu p hp hb, hb]
        refine ⟨_, by rw [upd_ne (ne_of_none hP nC), upd_same], by rw [eL]; exact PySem.TriplesOk_snoc _ _ _ _ ht, fun p' cv hcv => ?_⟩
        rw [eL] at hcv
        rcases among_app _ ht hcv with z | z
        · obtain ⟨c0, e1, e2⟩ := ha p' cv z
          exact ⟨c0, e1, hE _ _ e2 codeO_ne⟩
        · exact ⟨c', z, upd_same⟩
      · obtain ⟨ps', a1, a2, a3⟩ := hT p hp
        refine ⟨ps', by rw [upd_ne (ne_of_none a1 nC), upd_ne hb]; exact a1, a2, fun p' cv hcv => ?_⟩
        obtain ⟨c0, e1, e2⟩ := a3 p' cv hcv
        exact ⟨c0, e1, hE _ _ e2 codeO_ne⟩
    have nF := I1.hok.fresh (Nat.le_refl _)
    have I2 := inv_lam (F := ⟨X.env.qual ++ "<lambda>", params, body, scope, cloFrom X.env.cells scope.names [], c'⟩) (t' := tk) (pm := (X.mg "__name__").getD .none) (ctv := ctv) I1
    refine ⟨.ref h'.objs.size, _, I2, rfl, h h'.objs.size c' _ (fun b o e n => ?_) (T1.ext fun b o e => ?_) (I.hok.fresh (Nat.le_trans hge (Nat.le_of_lt hlt))) upd_same ?_⟩
    · exact (upd_ne (ne_of_none (hE b o e n) nF)).trans (hE b o e n)
    · exact (upd_ne (ne_of_none e nF)).trans e
    · exact (upd_ne (Nat.ne_of_lt hlt)).trans upd_same
  | some cv =>
    obtain ⟨c', e, hco⟩ := ha pos cv hc
    subst e
    refine PySem.W.kla_makeFunctionHit (mg := X.mg) (c := c) (P := P) (ps := ps) (closure_ok hfr) I.ok.glob (I.mod.glob.keeps I.bk) hcode (TB.code.keeps I.bk) hP' ht hc bP fun ctv h' tk hx hsz => ?_
    have I1 : Inv X pins σ H { s with heap := h', toks := tk } := I.kept hx
    have nF : H h'.objs.size = none := I1.hok.fresh (Nat.le_refl _)
    have I2 := inv_lam (F := ⟨X.env.qual ++ "<lambda>", params, body, scope, cloFrom X.env.cells scope.names [], c'⟩) (t' := tk) (pm := (X.mg "__name__").getD .none) (ctv := ctv) I1
    refine ⟨.ref h'.objs.size, _, I2, rfl, h h'.objs.size c' _ (fun b o e n => ?_) (hT.ext fun b o e => ?_) nF upd_same ?_⟩
    · exact (upd_ne (ne_of_none e nF)).trans e
    · exact (upd_ne (ne_of_none e nF)).trans e
    · exact (upd_ne (ne_of_none hco nF)).trans hco
/-! ### its call -/
structure LOk (P : Program) (w : World) (K : PySem.W.Frag) (mg : Str → Option Value) (base : Heap) (k : Nat) (f : Addr) (F : LF) (ps fr : List Str) (sp : List (Option V) → Sp) : Prop where
  run : ∀ (A : Around) (outer : List Env) (s : Shared) (H : Hp) (us : List Value) (vs : List V) (ws : List (Option V)) (Q : VK), Room k A → Env0 P w K mg base A outer s H → H f = some (LamO f F) → H F.c = some (CodeO F.c F.qual) →
    CellsAt F.cl fr ws s.heap H → Vals vs us → sp ws vs H Q E0 → codeAny (model P w) A (.call (.ref f) ⟨us, []⟩) (CR CX0 outer P w H s Q E0) s
theorem lok_of {P : Program} {w : World} {K : PySem.W.Frag} {mg : Str → Option Value} {base : Heap} {N ps fr : List Str} {F : LF} {f : Addr} {k : Nat} {sp : List (Option V) → Sp} (S : NScope N ps fr F.scope)
    (hb : ∀ (pm ctv : Value) (us : List Value), us.length = ps.length → bindArgs (F.fd pm ctv) ⟨us, []⟩ = pure (ps.zip us)) (len : ∀ ws vs H Q E, sp ws vs H Q E → vs.length = ps.length)
    (hbody : ∀ (A : Around) (outer : List Env) (s : Shared) (H : Hp) (vs : List V) (ws : List (Option V)) (Q : VK), Room k (A.deeper (envF F.nf f s.heap.objs.size)) → ws.length = fr.length → sp ws vs H Q E0 →
      ∃ t : TE, PE (ncx CX0 P w K mg base N F.nf f A outer s H E0) F.body t ∧ t (startF N vs ws) H Q) : LOk P w K mg base (k + 1) f F ps fr sp := by
  refine ⟨fun A outer s H us vs ws Q hr e0 hf hc C r hsp => ?_⟩
  have hl := len _ _ _ _ _ hsp
  have lim : s.heap.NoLimit := e0.mod.nolimit.keeps fun b o e => (e0.bs b o e).1
  obtain ⟨od, sl, pm, ctv, ho⟩ := lamO_at e0.hok hf
  refine PySem.W.kla_callFunE hr.depth ho rfl S.co S.gen rfl (codeO_at e0.hok hc) ?_
  rw [hb pm ctv us (by rw [← r.length]; exact hl)]
  refine wpAny_pure (wpAny_newFunctionEnv S.nocell (fun ⟨n, _⟩ hy => S.par n (List.of_mem_zip hy).1) (fun h₁ hns hsb => ⟨lim.fresh _ hsb, ?_⟩) S.kind)
  show codeAny _ _ (.expr F.body (envF F.nf f s.heap.objs.size)) _ _
  have kp : ∀ b o, s.heap.get? b = some o → h₁.get? b = some o := fun b o e => hsb.extBut b o (Nat.ne_of_lt (Heap.lt_size e)) (Heap.get?_push_of_some _ e)
  obtain ⟨t, ht, hq⟩ := hbody A outer s H vs ws Q (hr.deeper _) C.len hsp
  have I : Inv (ncx CX0 P w K mg base N F.nf f A outer s H E0) [] (startF N vs ws) H { s with heap := h₁, toks := s.toks + (ps.zip us).length } := inv_startN S hr.hd e0 hl r C hns kp
  refine PySem.W.kla_codeExpr (wpAny_mono (ht.run [] _ (startF N vs ws) H Q I hq) (fun v s' hq => ?_) fun e s' hs => hs)
  obtain ⟨w', H', J, rv, q⟩ := hq
  exact ⟨w', H', J.os, J.bare, J.base, J.hok, rv, q⟩
end Sb
/-! sorted(t, key=lambda ..) -/
namespace Sb
open PySem PySem.Spec PyProof.Rows L2 LamX NdefX
theorem perm_lift {A B : Type} {f : A → B} {m n : List B} (p : m.Perm n) : ∀ l : List A, l.map f = n → ∃ l' : List A, l'.Perm l ∧ l'.map f = m := by
  induction p with
  | nil =>
    intro l e
    exact ⟨l, List.Perm.refl _, e⟩
  | cons x p ih =>
    intro l e
    cases l with
    | nil => cases e
    | cons y l =>
      rw [List.map_cons] at e
      obtain ⟨e1, e2⟩ := List.cons.inj e
      obtain ⟨l', h1, h2⟩ := ih l e2
      exact ⟨y :: l', h1.cons y, by rw [List.map_cons, e1, h2]⟩
  | swap x y r =>
    intro l e
    match l, e with
    | u :: v :: l, e =>
      rw [List.map_cons, List.map_cons] at e
      obtain ⟨e1, e2⟩ := List.cons.inj e
      obtain ⟨e3, e4⟩ := List.cons.inj e2
      exact ⟨v :: u :: l, List.Perm.swap .., by rw [List.map_cons, List.map_cons, e1, e3, e4]⟩
  | trans _ _ ih1 ih2 =>
    intro l e
    obtain ⟨l2, h1, h2⟩ := ih2 l e
    obtain ⟨l3, h3, h4⟩ := ih1 l2 h2
    exact ⟨l3, h3.trans h1, h4⟩
/-- the tuples stay -/
def Tups (H H' : Hp) : Prop := ∀ b ys, H b = some (.tup ys) → H' b = some (.tup ys)
theorem Tups.of {H H' : Hp} (s : Same H H') : Tups H H' := fun b ys e => s b _ e
theorem Tups.trans {H H1 H2 : Hp} (a : Tups H H1) (b : Tups H1 H2) : Tups H H2 := fun c ys e => b c ys (a c ys e)
theorem Tups.put {H : Hp} {p : Addr} {zs : List V} {o : HO} (h : H p = some (.lst zs)) : Tups H (upd H p o) := fun b ys e => by
  rw [upd_ne (ne_of e h (by intro z; cases z))]
  exact e
theorem paired_snoc {A B : Type} {F : A → B → Prop} {x : A} {y : B} (r : F x y) : ∀ {l : List A} {m : List B}, Paired F l m → Paired F (l ++ [x]) (m ++ [y])
  | _, _, .nil => .cons r .nil
  | _, _, .cons q t => .cons q (paired_snoc r t)
theorem zip3 {xs : List V} {ks us : List Value} : ∀ (h1 : xs.length = ks.length) (h2 : ks.length = us.length), (xs.zip (ks.zip us)).map (·.2) = ks.zip us ∧ (xs.zip (ks.zip us)).map (·.1) = xs := fun h1 h2 =>
  ⟨List.map_snd_zip (by rw [List.length_zip]; omega), List.map_fst_zip (by rw [List.length_zip]; omega)⟩
theorem mem_zip3 {num : Value → Int × Int} {kz : V → Int × Int} : ∀ {xs : List V} {ks us : List Value}, Paired (fun x u => num u = kz x) xs ks → Vals xs us → ∀ z ∈ xs.zip (ks.zip us), num z.2.1 = kz z.1 ∧ RelV z.1 z.2.2
  | _, _, _, .nil, _, z, h => by simp at h
  | _, _, _, .cons r t, .cons r' t', z, h => by
    rw [List.zip_cons_cons, List.zip_cons_cons] at h
    rcases List.mem_cons.mp h with e | h
    · rw [e]
      exact ⟨r, r'⟩
    · exact mem_zip3 t t' z h
theorem vals_of_mem {z : List (V × Keyed)} (h : ∀ p ∈ z, RelV p.1 p.2.2) : Vals (z.map (·.1)) (z.map fun p => p.2.2) := by
  induction z with
  | nil => exact .nil
  | cons p z ih => exact .cons (h p (List.mem_cons_self ..)) (ih fun q hq => h q (List.mem_cons_of_mem _ hq))
section
variable {X : Cx} {pins : List (Addr × Obj)} {σ : L2.St} {H : Hp} {s : Shared}
theorem sort_by_lam {a f : Addr} {xs : List V} {kz : V → Int × Int} {KR : Hp → V → V → Prop} {Q : VK} (I : Inv X pins σ H s) (hs : SqT X.K H a xs)
    (keep : ∀ {H1 H2 : Hp} {x k : V}, Tups H1 H2 → KR H1 x k → KR H2 x k)
    (turn : ∀ (s1 : Shared) (H1 : Hp) (x : V) (u : Value) (Qk : VK), Inv X pins σ H1 s1 → Same H H1 → x ∈ xs → RelV x u → (∀ k H2, Same H1 H2 → KR H2 x k → Qk k H2) → wpAny (model X.prog X.w) X.A.in1.in1 (call (.ref f) [u]) (EP X pins σ Qk) (fun _ _ => False) s1)
    (kind : ∀ (s1 : Shared) (H1 : Hp) (ks : List V) (us : List Value), Inv X pins σ H1 s1 → Paired (KR H1) xs ks → Vals ks us → 2 ≤ us.length → ∃ (num : Value → Int × Int) (κ : SortKind), Paired (fun x u => num u = kz x) xs us ∧
      (∀ (R : SortKind → Shared → Prop) (E : Value → Shared → Prop), R κ s1 → wpAny (model X.prog X.w) X.A.in1.in1 (keyKind' us.toArray) R E s1) ∧ SrtO.Cmp X.prog X.w X.A.in1.in1 s1 κ (fun p => p.1 ∈ us) (SrtO.lt2 fun v u => SrtO.lexB (num v) (num u)))
    (q : ∀ ys p H', ys.Perm xs → ys.Pairwise (fun x y => SrtO.lexB (kz y) (kz x) = false) → Same H H' → H p = none → H' p = some (.lst ys) → Q (.ref p) H') :
    wpAny (model X.prog X.w) X.A (call (.builtin "sorted") [.ref a] [(Str.ofString "key", .ref f)]) (EP X pins σ Q) X.xe s := by
  obtain ⟨us, rv, ht, hz⟩ := I.tuple hs
  have hlen : xs.length = us.length := rv.length
  have hzu : us.length ≤ sizeLine := by rw [← hlen]; exact hz
  refine call_function_entry_kw PyProof.Rows.kind_sorted PyProof.Rows.plain_sorted PyProof.Rows.entry_sorted (PyProof.Rows.ksk_s1 _ _) ?_
  unfold Builtin.«sorted»
  refine wpAny_bind (m := checkCount "sorted" 1 1 _) (wpAny_pure ?_)
  refine wpAny_bind (take_tuple ht hzu fun h0 k0 => ?_)
  refine wpAny_bind (wpAny_newList ?_ hzu)
  generalize hL : h0.objs.size = L
  have hoL : (h0.push (seqObj "list" us.toArray 0)).get? L = some (seqObj "list" us.toArray 0) := by rw [← hL]; exact Heap.get?_push_size _ rfl
  have I0 : Inv X pins σ H { s with heap := h0 } := I.kept (t' := s.toks) k0
  have nL : H L = none := I0.hok.fresh (Nat.le_of_eq hL)
  suffices hmain : ∀ P : PySem.Fin → Shared → Prop, (∀ s', EP X pins σ Q (.ref L) s' → P (.done (.ret .none)) s') →
      wpAny (model X.prog X.w) X.A.in1.in1 (Builtin.«list.sort» ⟨[.ref L], [(Str.ofString "key", .ref f)]⟩) P X.xe { s with heap := h0.push (seqObj "list" us.toArray 0) } from
    wpAny_bind (wpAny_holding (wpAny_call_entry_kw PyProof.Rows.slot_list_sort ⟨_, hoL, rfl⟩ PyProof.Rows.entry_list_sort (hmain _ fun s' h => ⟨_, rfl, wpAny_pure ⟨_, rfl, h⟩⟩) (PyProof.Rows.ksk_l1 _ _)))
  intro P hP
  rw [PyProof.Rows.ksk_t1]
  unfold PyProof.Rows.ksk_tree
  obtain ⟨e1, ho1⟩ : ∃ e1, ((h0.push (seqObj "list" us.toArray 0)).update L (Obj.mapSeq fun _ => (#[] : Array Value))).get? L = some (seqObj "list" #[] e1) := ⟨_, get?_update_seq hoL fun _ => #[]⟩
  refine wpAny_bind (listItems_at hoL rfl ?_)
  refine wpAny_bind (listUpdate_at hoL rfl ?_ (by rw [List.size_toArray]; exact hzu) (Nat.zero_le _))
  refine wpAny_bind (seqEpoch_at ho1 rfl ?_)
  -- the list, emptied: told exactly
  have I1 : Inv X pins σ (upd H L (.ext fun h => h.get? L = some (seqObj "list" #[] e1))) { s with heap := (h0.push (seqObj "list" us.toArray 0)).update L (Obj.mapSeq fun _ => (#[] : Array Value)) } := by
    refine I0.laid (t' := s.toks) (fun b u e => ?_) (Nat.le_of_eq hL) ⟨ho1, ⟨_, ho1⟩, fun h1 h2 x k => k _ x⟩
    have hb : b ≠ L := by rw [← hL]; exact Nat.ne_of_lt (Heap.lt_size e)
    rw [Heap.get?_update_ne _ _ _ _ hb]
    exact Heap.get?_push_of_some _ e
  generalize hh1 : (h0.push (seqObj "list" us.toArray 0)).update L (Obj.mapSeq fun _ => (#[] : Array Value)) = g1 at ho1 I1 ⊢
  refine wpAny_bind (wpAny_newTuple ?_ (by show us.length ≤ _; exact hzu))
  refine wpAny_bind (wpAny_newList ?_ (Nat.zero_le _))
  refine wpAny_holding ?_
  have I2 : Inv X pins σ (upd H L (.ext fun h => h.get? L = some (seqObj "list" #[] e1))) { s with heap := g1.push (seqObj "tuple" us.toArray 0) } := I1.kept (t' := s.toks) fun b u e => Heap.get?_push_of_some _ e
  have I3 := I2.lnew (ys := []) (its := []) (t' := s.toks) .nil (Nat.zero_le _)
  have nS := I2.fresh
  generalize hS : (g1.push (seqObj "tuple" us.toArray 0)).objs.size = S at I3 nS ⊢
  show wpAny (model X.prog X.w) X.A.in1.in1 (PyProof.Rows.ksk_rest L (.ref f) false us.toArray e1 (.ref S)) _ _ { s with heap := (g1.push (seqObj "tuple" us.toArray 0)).push (seqObj "list" #[] 0) }
  generalize hs3 : ({ s with heap := (g1.push (seqObj "tuple" us.toArray 0)).push (seqObj "list" #[] 0) } : Shared) = s3 at I3 ⊢
  have nSL : S ≠ L := fun z => by
    rw [z, upd_same] at nS
    cases nS
  have nS0 : H S = none := by
    have z := nS
    rw [upd_ne nSL] at z
    exact z
  unfold PyProof.Rows.ksk_rest
  refine wpAny_bind (wpAny_rule ?_)
  first
    | rw [List.forIn_toArray]
    | (rw [← Array.forIn_toList]; simp only [List.toList_toArray])
    | rw [← Array.forIn_toList]
  refine wpAny_bind (PyProof.Rows.ksk_fold (fun i s' => ∃ (Hj : Hp) (ks : List V), Inv X pins σ Hj s' ∧ Same H Hj ∧ Hj L = some (.ext fun h => h.get? L = some (seqObj "list" #[] e1)) ∧ Hj S = some (.lst ks) ∧ Paired (KR Hj) (xs.take i) ks) us 0 s3
    ⟨_, [], I3, fun b o e => ?_, ?_, upd_same, ?_⟩ ?step ?done)
  · rw [upd_ne (ne_of_none e nS0), upd_ne (ne_of_none e nL)]
    exact e
  · rw [upd_ne (Ne.symm nSL), upd_same]
  · rw [List.take_zero]
    exact .nil
  case step =>
    rintro j u s' hu ⟨Hj, ks, Ij, sj, hLj, hSj, pj⟩
    rw [Nat.zero_add] at pj
    have hj : j < us.length := (List.getElem?_eq_some_iff.mp hu).1
    have hjx : j < xs.length := by omega
    have hx : xs[j]? = some xs[j] := List.getElem?_eq_getElem hjx
    have rx : RelV xs[j] u := by
      obtain ⟨u', h1, h2⟩ := rv.get hx
      rw [hu] at h1
      rw [Option.some.inj h1]
      exact h2
    refine wpAny_bind (wpAny_attempt (wpAny_mono (turn s' Hj xs[j] u (fun k H2 => Same Hj H2 ∧ KR H2 xs[j] k) Ij sj (List.getElem_mem hjx) rx fun k H2 a b => ⟨a, b⟩) (fun v s2 hv => ?_) fun _ _ hF => hF.elim))
    obtain ⟨k, H2, I4, rk, s4, k4⟩ := hv
    try dsimp only
    have hS4 := s4 S _ hSj
    obtain ⟨zl, its, n4, r4, l4, e4⟩ := I4.lstM hS4
    have hkl : ks.length = j := by
      have z := Paired.length pj
      rw [List.length_take] at z
      omega
    have hsz : its.length < us.length := by omega
    refine wpAny_bind (listUpdate_at e4 rfl ?_ (by rw [List.size_toArray]; omega) (by rw [Array.size_push, List.size_toArray]; omega))
    refine wpAny_pure ⟨rfl, _, ks ++ [k], I4.lset (t' := s2.toks) (its' := its ++ [v]) hS4 e4 (by simp) (r4.append (.cons rk .nil)) (by rw [List.length_append, List.length_singleton]; omega), fun b o e => ?_, ?_, upd_same, ?_⟩
    · rw [upd_ne (ne_of_none e nS0)]
      exact s4 b o (sj b o e)
    · rw [upd_ne (Ne.symm nSL)]
      exact s4 L _ hLj
    · have t4 : Tups Hj (upd H2 S (.lst (ks ++ [k]))) := (Tups.of s4).trans (Tups.put hS4)
      have e5 : xs.take (0 + j + 1) = xs.take j ++ [xs[j]] := by
        rw [Nat.zero_add]
        rw [List.take_add_one, hx] <;> rfl
      rw [e5]
      exact paired_snoc (keep (Tups.put hS4) k4) (Paired.mapP pj fun x y r => keep t4 r)
  case done =>
    rintro s' ⟨Hn, ks, In, sn, hLn, hSn, pn⟩
    rw [Nat.zero_add, List.take_of_length_le (Nat.le_of_eq hlen)] at pn
    obtain ⟨zl, its, n4, r4, l4, e4⟩ := In.lstM hSn
    have hkl : ks.length = xs.length := (Paired.length pn).symm
    have hil : its.length = us.length := by omega
    try dsimp only
    refine wpAny_bind (listItems_at e4 rfl ?_)
    -- what is done with the order found
    have fin : ∀ st' : SortSt, failedOf st' = none → (∃ ys : List V, Vals ys ((arrOf st').map (·.2)).toList ∧ ys.Perm xs ∧ ys.Pairwise (fun x y => SrtO.lexB (kz y) (kz x) = false)) →
        wpAny (model X.prog X.w) X.A.in1.in1 (PyProof.Rows.ksk_tail L false e1 (.ref S) st') P X.xe s' := by
      rintro st' hf ⟨ys, ry, py, oy⟩
      have hyl : ((arrOf st').map (·.2)).size = us.length := by
        rw [← Array.length_toList, ← ry.length, py.length_eq, hlen]
      have I5 := In.lset (t' := s'.toks) (its' := []) (ys := []) (f := fun _ => #[]) hSn e4 rfl .nil (Nat.zero_le _)
      have hL5 : upd Hn S (.lst []) L = some (.ext fun h => h.get? L = some (seqObj "list" #[] e1)) := by
        rw [upd_ne (Ne.symm nSL)]
        exact hLn
      have oL5 : (s'.heap.update S (Obj.mapSeq fun _ => (#[] : Array Value))).get? L = some (seqObj "list" #[] e1) := (I5.hok L _ hL5).1
      unfold PyProof.Rows.ksk_tail
      try dsimp only
      refine wpAny_bind (listUpdate_at e4 rfl ?_ (by rw [List.size_toArray]; omega) (Nat.zero_le _))
      refine wpAny_bind (wpAny_letGo ?_)
      refine wpAny_bind (seqEpoch_at oL5 rfl ?_)
      refine wpAny_bind (listUpdate_at oL5 rfl ?_ (Nat.zero_le _) (by simp only [Bool.false_eq_true, if_false]; rw [hyl]; omega))
      rw [hf]
      simp only [bne_self_eq_false, Bool.false_eq_true, if_false]
      refine wpAny_pure (hP _ ?_)
      obtain ⟨c2, hc2⟩ : ∃ c2, ((s'.heap.update S (Obj.mapSeq fun _ => (#[] : Array Value))).update L (Obj.mapSeq fun _ => (arrOf st').map (·.2))).get? L = some (seqObj "list" ((arrOf st').map (·.2)) c2) := ⟨_, get?_update_seq oL5 fun _ => (arrOf st').map (·.2)⟩
      have I6 := I5.write (x := L) (e := L) (o := .lst ys) (t' := s'.toks) (h' := (s'.heap.update S (Obj.mapSeq fun _ => (#[] : Array Value))).update L (Obj.mapSeq fun _ => (arrOf st').map (·.2))) (by rw [hL5]; trivial) (.inl rfl)
        (fun b u hb hu => (Heap.get?_update_ne _ _ _ _ hb).trans hu) ⟨_, hc2⟩ ⟨by rw [py.length_eq]; exact hz, ((arrOf st').map (·.2)).toList, c2, ry, by rw [Array.toArray_toList]; exact hc2⟩
      refine ⟨.ref L, _, I6, rfl, q ys L _ py oy (fun b o e => ?_) nL upd_same⟩
      rw [upd_ne (ne_of_none e nL), upd_ne (ne_of_none e nS0)]
      exact sn b o e
    unfold PyProof.Rows.ksk_end
    try dsimp only
    rw [if_neg Bool.false_ne_true]
    simp only [Bool.false_eq_true, if_false]
    by_cases h2 : us.toArray.size < 2
    · rw [if_pos h2, if_pos h2]
      refine wpAny_bind (wpAny_pure ?_)
      rw [StateT.run_pure]
      refine wpAny_bind (wpAny_pure ?_)
      try dsimp only
      refine fin _ rfl ⟨xs, ?_, List.Perm.refl _, ?_⟩
      · show Vals xs ((its.toArray.zip us.toArray).map (·.2)).toList
        have e : ((its.toArray.zip us.toArray).map (·.2)).toList = us := by
          rw [Array.toList_map]
          have e2 : (its.toArray.zip us.toArray).toList = its.zip us := by simp
          rw [e2]
          exact List.map_snd_zip (by omega)
        rw [e]
        exact rv
      · rw [List.size_toArray] at h2
        match xs, hlen with
        | [], _ => exact List.Pairwise.nil
        | [x], _ => exact List.pairwise_singleton _ _
        | x :: y :: r, hlen => rw [List.length_cons, List.length_cons] at hlen; omega
    · rw [if_neg h2, if_neg h2]
      rw [List.size_toArray] at h2
      obtain ⟨num, κ, hnum, hk, hcmp⟩ := kind s' Hn ks its In pn r4 (by omega)
      refine wpAny_bind (hk _ _ ?_)
      have ez : (its.toArray.zip us.toArray).toList = its.zip us := by simp
      have hall : SrtO.AllL (fun p : Keyed => p.1 ∈ its) (its.toArray.zip us.toArray).toList := fun p hm => by
        rw [ez] at hm
        exact (List.of_mem_zip hm).1
      refine wpAny_bind (wpAny_mono (SrtO.wpS_sortO (st0 := SortSt.mk' κ (its.toArray.zip us.toArray) #[] 7 none)
        (Q := fun _ st' => SrtO.Srtd (SrtO.lt2 fun v u => SrtO.lexB (num v) (num u)) (arrOf st').toList ∧ SrtO.Stb (SrtO.lt2 fun v u => SrtO.lexB (num v) (num u)) (arrOf st').toList (its.toArray.zip us.toArray).toList ∧ failedOf st' = none) (SrtO.swo2 (SrtO.swo_lex num)) hcmp rfl hall rfl rfl fun st' a1 a2 a3 => ⟨a1, a2, a3⟩) ?_ fun _ _ e => e)
      rintro ⟨⟨⟩, st'⟩ s'' ⟨rfl, hp1, hp2, hf⟩
      try dsimp only
      obtain ⟨z1, z2⟩ := zip3 (xs := xs) (ks := its) (us := us) (by omega) (by omega)
      have hperm := hp2.perm
      rw [ez] at hperm
      obtain ⟨Z, p1, p2⟩ := perm_lift (f := fun p : V × Keyed => p.2) hperm (xs.zip (its.zip us)) z1
      have hmem : ∀ z ∈ Z, num z.2.1 = kz z.1 ∧ RelV z.1 z.2.2 := fun z hz => mem_zip3 hnum rv z (p1.mem_iff.mp hz)
      refine fin _ hf ⟨Z.map (·.1), ?_, ?_, ?_⟩
      · rw [Array.toList_map, ← p2, List.map_map]
        exact vals_of_mem fun z hz => (hmem z hz).2
      · have z := p1.map (fun p : V × Keyed => p.1)
        rw [z2] at z
        exact z
      · rw [List.pairwise_map]
        have hs : Z.Pairwise fun x y => SrtO.lexB (num y.2.1) (num x.2.1) = false := by
          have z := hp1
          rw [← p2] at z
          exact List.pairwise_map.mp z
        refine hs.imp_of_mem fun {x y} hx hy r => ?_
        rw [← (hmem x hx).1, ← (hmem y hy).1]
        exact r
end
end Sb
/-! sorted(t, key=lambda x: ..) as an expression. -/
namespace Sb
open PySem PySem.Spec PyProof.Rows L2 LamX NdefX
/-- the key is a new pair of ints -/
def KPair (kz : V → Int × Int) : Hp → V → V → Prop := fun H x k => ∃ t, k = V.ref t ∧ H t = some (.tup [.int (kz x).1, .int (kz x).2])
/-- the key is an int (the first of the two) -/
def KInt (kz : V → Int × Int) : Hp → V → V → Prop := fun _ x k => k = V.int (kz x).1 ∧ (kz x).2 = 0
/-- what a kind of keys must have -/
structure KeyKd (X : Cx) (KR : (V → Int × Int) → Hp → V → V → Prop) : Prop where
  keep : ∀ {kz : V → Int × Int} {H1 H2 : Hp} {x k : V}, Tups H1 H2 → KR kz H1 x k → KR kz H2 x k
  kind : ∀ (kz : V → Int × Int) (pins : List (Addr × Obj)) (σ : L2.St) (xs : List V) (s1 : Shared) (H1 : Hp) (ks : List V) (us : List Value), Inv X pins σ H1 s1 → Paired (KR kz H1) xs ks → Vals ks us → 2 ≤ us.length → ∃ (num : Value → Int × Int) (κ : SortKind), Paired (fun x u => num u = kz x) xs us ∧
      (∀ (R : SortKind → Shared → Prop) (E : Value → Shared → Prop), R κ s1 → wpAny (model X.prog X.w) X.A.in1.in1 (keyKind' us.toArray) R E s1) ∧ SrtO.Cmp X.prog X.w X.A.in1.in1 s1 κ (fun p => p.1 ∈ us) (SrtO.lt2 fun v u => SrtO.lexB (num v) (num u))
def numAt (H : Hp) (u : Value) : Int × Int := match u with
  | .ref t => (match H t with
    | some (.tup [.int i, .int j]) => (i, j)
    | _ => (0, 0))
  | _ => (0, 0)
theorem paired_mem {A B : Type} {F : A → B → Prop} : ∀ {l : List A} {m : List B}, Paired F l m → ∀ b ∈ m, ∃ a ∈ l, F a b
  | _, _, .nil, b, h => by simp at h
  | _, _, .cons r t, b, h => by
    rcases List.mem_cons.mp h with e | h
    · exact ⟨_, List.mem_cons_self .., by rw [e]; exact r⟩
    · obtain ⟨a, h1, h2⟩ := paired_mem t b h
      exact ⟨a, List.mem_cons_of_mem _ h1, h2⟩
theorem paired_comp {A B C : Type} {F : A → B → Prop} {G : B → C → Prop} {R : A → C → Prop} (h : ∀ a b c, F a b → G b c → R a c) : ∀ {l : List A} {m : List B} {n : List C}, Paired F l m → Paired G m n → Paired R l n
  | _, _, _, .nil, .nil => .nil
  | _, _, _, .cons r t, .cons r' t' => .cons (h _ _ _ r r') (paired_comp h t t')
section
variable {X : Cx}
theorem kd_pair : KeyKd X KPair := by
  refine ⟨fun {kz H1 H2 x k} t ⟨a, e, h⟩ => ⟨a, e, t a _ h⟩, fun kz pins σ xs s1 H1 ks us I p r h2 => ?_⟩
  have hnum : Paired (fun x u => numAt H1 u = kz x) xs us := paired_comp (fun x k u ⟨t, e, h⟩ r => by
    subst e
    obtain rfl : u = Value.ref t := r
    show (match H1 t with
      | some (.tup [.int i, .int j]) => (i, j)
      | _ => (0, 0)) = kz x
    rw [h]) p r
  have hpair : ∀ u ∈ us, Srt.IsPair s1.heap u (numAt H1 u).1 (numAt H1 u).2 := fun u hu => by
    obtain ⟨k, hk, ru⟩ := paired_mem r u hu
    obtain ⟨x, hx, t, e, h⟩ := paired_mem p k hk
    subst e
    obtain rfl : u = Value.ref t := ru
    have e2 : numAt H1 (.ref t) = kz x := by
      show (match H1 t with
        | some (.tup [.int i, .int j]) => (i, j)
        | _ => (0, 0)) = kz x
      rw [h]
    rw [e2]
    obtain ⟨_, its2, r2, o, ho, hc, n, hd⟩ := I.hok _ _ h
    obtain ⟨u1, u2, rfl, ri, rj⟩ := vals2 r2
    obtain ⟨t1, rfl⟩ := ri
    obtain ⟨t2, rfl⟩ := rj
    exact ⟨t, o, t1, t2, n, rfl, ho, hc, hd⟩
  obtain ⟨κ, h3, h4⟩ := SrtO.pairs_sortableO (prog := X.prog) (w := X.w) (A := X.A.in1.in1) (s := s1) (a := s1.heap.objs.size) (vs := us) (k := numAt H1) (by omega) hpair (fun o e => absurd (Heap.lt_size e) (Nat.lt_irrefl _)) s1.heap fun b o _ e => e
  exact ⟨numAt H1, κ, hnum, fun R E q => h3 R E q, h4⟩
theorem ltIv_lex : SrtO.ltIv = fun v u => SrtO.lexB (SrtO.iv v, (0 : Int)) (SrtO.iv u, (0 : Int)) := by
  funext v u
  unfold SrtO.ltIv SrtO.lexB
  by_cases e : SrtO.iv v = SrtO.iv u
  · rw [if_pos e, e]
    simp
  · rw [if_neg e]
theorem kd_int : KeyKd X KInt := by
  refine ⟨fun {kz H1 H2 x k} t h => h, fun kz pins σ xs s1 H1 ks us I p r h2 => ?_⟩
  have hnum : Paired (fun x u => (SrtO.iv u, (0 : Int)) = kz x) xs us := paired_comp (fun x k u ⟨e, h⟩ r => by
    subst e
    obtain ⟨t, rfl⟩ : ∃ t, u = Value.int (kz x).1 t := r
    show ((kz x).1, (0 : Int)) = kz x
    rw [← h]) p r
  have hI : IntsAre us (us.map SrtO.iv) := SrtO.ints_iv fun u hu => by
    obtain ⟨k, hk, ru⟩ := paired_mem r u hu
    obtain ⟨x, hx, e, h⟩ := paired_mem p k hk
    subst e
    obtain ⟨t, rfl⟩ : ∃ t, u = Value.int (kz x).1 t := ru
    exact ⟨_, t, rfl⟩
  obtain ⟨κ, h3, h4⟩ := SrtO.ints_sortable (prog := X.prog) (w := X.w) (A := X.A.in1.in1) (s := s1) (a := s1.heap.objs.size) hI h2 s1.heap fun b o _ e => e
  rw [ltIv_lex] at h4
  exact ⟨fun u => (SrtO.iv u, (0 : Int)), κ, hnum, fun R E q => h3 R E q, h4⟩
/-- what is asked where the lambda stands at f -/
def rSortLam (K : PySem.W.Frag) (mk : Addr → LF) (js : List Nat) (sp : List (Option V) → Sp) (KR : (V → Int × Int) → Hp → V → V → Prop) (σ : L2.St) : List V → List V → Hp → VK → Prop := fun vs zs H Q => ∃ (a f c' : Addr) (xs : List V) (kz : V → Int × Int),
  vs = [V.ref a] ∧ zs = [V.ref f] ∧ H f = some (LamO f (mk c')) ∧ H (mk c').c = some (CodeO (mk c').c (mk c').qual) ∧ SqT K H a xs ∧
  (∀ x ∈ xs, ∀ (H1 : Hp) (Qk : VK), Same H H1 → (∀ k H2, Same H1 H2 → KR kz H2 x k → Qk k H2) → sp (js.map (slotAt σ)) [x] H1 Qk E0) ∧
  ∀ (ys : List V) (p : Addr) (H' : Hp), ys.Perm xs → ys.Pairwise (fun x y => SrtO.lexB (kz y) (kz x) = false) → Same H H' → H p = none → H' p = some (.lst ys) → Q (.ref p) H'
def tSortLam (K : PySem.W.Frag) (mk : Addr → LF) (js : List Nat) (sp : List (Option V) → Sp) (KR : (V → Int × Int) → Hp → V → V → Prop) (t tk : TA) : TE := fun σ H Q => t σ H fun vs H1 => tk σ H1 fun zs H2 => rSortLam K mk js sp KR σ vs zs H2 Q
theorem pe_sortLam {mk : Addr → LF} {cl : List (Str × Addr)} {ps fr : List Str} {js : List Nat} {k : Nat} {sp : List (Option V) → Sp} {KR : (V → Int × Int) → Hp → V → V → Prop} {p pos : Pos} {e : Expr} {kws : List Keyword} {t tk : TA} (kd : KeyKd X KR)
    (Fn : ∀ f c', LOk X.prog X.w X.K X.mg X.base k f (mk c') ps fr sp) (hcl : ∀ c', (mk c').cl = cl) (cp : X.Ok → Caps X cl fr js) (hr : Room (k + 2) X.A) (hg : Gl X "sorted") (hm : X.mg "sorted" = none) (ha : PA X [e] t) (hk : PK X kws tk)
    (he : backTo pos (starEach [e] X.env) = (false, eval e X.env) :: backTo pos (starEach [] X.env) := by rfl) (hpl : (backTo pos (starEach [e] X.env)).any (·.1) = false := by rfl)
    (hall : (backToKw pos (keywordEach kws X.env)).all (·.1.isSome) = true := by rfl) (hnone : (backToKw pos (keywordEach kws X.env)).any (·.1.isNone) = false := by rfl) (hks : (backToKw pos (keywordEach kws X.env)).filterMap (·.1) = [Str.ofString "key"] := by rfl) :
    PE X (.Call (.Name "sorted" p) [e] kws pos) (tSortLam X.K mk js sp KR t tk) := by
  refine ⟨fun pins s σ H Q I h => ?_⟩
  refine wpAny_Call_Name_kw (ld_blt I hg hm (show bootBuiltins "sorted" = some (.builtin "sorted") by decide +kernel) ?_)
  refine PyProof.Rows.callWith_kw (thn (ha.run pos pins s σ H _ I h) fun us s1 ⟨vs, H1, I1, r1, q1⟩ => thn (hk.run pos pins s1 σ H1 _ I1 q1) fun ws s2 ⟨zs, H2, I2, r2, q2⟩ => ?_) he hpl hall hnone
  rw [hks]
  obtain ⟨a, f, c', xs, kz, e1, e2, hf, hc, hs, turn, q⟩ := q2
  subst e1 e2
  rw [Vals.ref1 r1, Vals.ref1 r2]
  refine sort_by_lam (kz := kz) (KR := KR kz) I2 hs (fun t r => kd.keep t r) (fun s3 H3 x u Qk I3 s3' hx ru hq => ?_) (fun s3 H3 ks us I3 p3 r3 h3 => kd.kind kz pins σ xs s3 H3 ks us I3 p3 r3 h3) q
  have hcells : CellsAt (mk c').cl fr (js.map (slotAt σ)) s3.heap H3 := by
    rw [hcl c']
    exact cells_of I3 (cp I3.ok)
  refine wpAny_call (codeAny_mono ((Fn f c').run X.A.in1.in1 X.stack s3 H3 [u] [x] _ Qk hr.in1.in1 I3.env0.in1.in1 (s3' _ _ hf) (s3' _ _ hc) hcells (.cons ru .nil) (turn x hx H3 Qk s3' hq)) fun r s' hq' => ?_)
  cases r with
  | error e => exact (show False from hq')
  | ok fl =>
    cases fl with
    | ret u => exact I3.after hq'
    | next => exact False.elim hq'
    | brk => exact False.elim hq'
    | cont => exact False.elim hq'
end
end Sb
/-! {k: v for x in xs}, the keys tuples of texts. -/
namespace Sb
open PySem PySem.Spec PyProof.Rows L2
theorem put_tuple {X : Cx} {pins : List (Addr × Obj)} {σ : L2.St} {H : Hp} {s : Shared} {E : Value → Shared → Prop} {D b : Addr} {kvs : List (List Key × V)} {k : List Key} {v : V} {r : Value} {Q : Unit → Shared → Prop} (hu : X.A.units < cLine) (I : Inv X pins σ H s)
    (hD : H D = some (.dT kvs)) (hb : H b = some (.tup (k.map kV))) (hz : kvs.length < sizeLine) (rv : RelV v r) (h : ∀ s', Inv X pins σ (upd H D (.dT (putK kvs k v))) s' → Q () s') : wpAny (model X.prog X.w) X.A (dictSet D (.ref b) r) Q E s := by
  obtain ⟨z, hd, xs, rel, dd⟩ := dt_of I.hok hD
  have hl : (putK kvs k v).length ≤ sizeLine := Nat.le_trans (length_putK kvs k v) hz
  refine wpAny_dictSet_heap (hsz := by rw [← Paired.length rel]; exact z) (show (tupleKind (mixKind X.prog X.w)).room X.A from hu) (key_of I.hok hb) dd fun h' dd' sb => h _ ?_
  obtain ⟨q, es, ep, hq, h2, h3, h4, _, h5⟩ := dd'
  refine d_write I (by rw [hD]; exact True.intro) sb ⟨q, hq⟩ ⟨hl, hd, _, (rel.put k hb rv).keeps fun c ys ec => ?_, q, es, ep, hq, h2, h3, h4, h5⟩
  rw [upd_ne (ne_of ec hD (fun z => nomatch z))]
  exact ec
section
variable {X : Cx}
/-- D the new dict -/
def tDcT (wi : TI) (g : TG) (tk tv : TE) (vs : List Nat) : TE := fun σ H Q => wi σ H fun J H1 => ∀ D, H1 D = none → ∃ W : Nat → Nat → Hp → Prop, (∃ m, W 0 m (upd H1 D (.dT []))) ∧ ∀ i m H, W i m H →
  (J.stop i H ∧ Q (.ref D) H) ∨ (J.go i H ∧ ∃ Nx : Hp → Prop, (∀ H', Nx H' → ∃ m', m' < m ∧ W (i + 1) m' H') ∧ ∀ x H', J.yld i H x H' → g x (wipe σ vs) H' fun σ2 H2 => wipe σ2 vs = wipe σ vs ∧
    tk σ2 H2 fun y H4 => tv σ2 H4 fun z H5 => ∃ kvs k b, y = .ref b ∧ H5 b = some (.tup (k.map kV)) ∧ H5 D = some (.dT kvs) ∧ kvs.length < sizeLine ∧ Nx (upd H5 D (.dT (putK kvs k z))))
theorem pe_dcT {kx vx tg iter : Expr} {scope : Scope} {own : List (Str × Nat)} {pos : Pos} {wi : TI} {g : TG} {tk tv : TE} (hu : X.A.units < cLine) (hc : X.calm = true) (hN : X.N.Nodup) (hi : PI X tg iter wi) (ok : BlkOk X.N X.env.scope scope own)
    (hg : ∀ (s : Shared) (H : Hp) (C : Addr) (cl : List (Str × Addr)) (fp : List Addr), PG (X.blk s H scope (compEnvC scope cl C X.env) fp) tg g)
    (hk : ∀ (s : Shared) (H : Hp) (C : Addr) (cl : List (Str × Addr)) (fp : List Addr), PE (X.blk s H scope (compEnvC scope cl C X.env) fp) kx tk)
    (he : ∀ (s : Shared) (H : Hp) (C : Addr) (cl : List (Str × Addr)) (fp : List Addr), PE (X.blk s H scope (compEnvC scope cl C X.env) fp) vx tv) (hs : ∀ x, foldedSetIterable iter X.env x = pure x := by intro _; rfl) :
    PE X (.DictComp kx vx [⟨tg, iter, [], 0⟩] scope pos) (tDcT wi g tk tv (own.map (·.2))) := by
  refine ⟨fun pins s σ H Q I h => ?_⟩
  rw [arm_eval_DictComp]
  have hfree : ∀ y ∈ scope.names, y.2 = .free → ∃ c, X.env.cells.lookup y.1 = some c := fun y hy e => (ok.free y hy e).elim (fun k => I.ok.has _ (.inl k)) fun k => I.ok.has _ (.inr k)
  refine wpAny_comprehension_free (use := none) rfl hs (closure_ok hfree) ok.kind (fun y hy e => by rw [ok.uniq y hy, e]) (thn (hi.run pins s σ H _ I h) fun xv s1 hx => thn hx fun itv s2 h2 => ?_)
  obtain ⟨it, fp, tn, J, H2, rfl, I2, T, st2, f2, q⟩ := h2
  refine wpAny_newObj_type (newEnv_comp ?_)
  generalize hD : s2.heap.objs.size = D
  have hDn : H2 D = none := I2.hok.fresh (Nat.le_of_eq hD)
  obtain ⟨W, ⟨m0, w0⟩, turn⟩ := q D hDn
  generalize hs3 : ({ s2 with heap := s2.heap.push { cls := .type "dict", data := .dict #[] } } : Shared) = s3
  have h3 : s3.heap = s2.heap.push { cls := .type "dict", data := .dict #[] } := by rw [← hs3]
  have I3 : Inv X pins σ (upd H2 D (.dT [])) s3 := by
    rw [← hs3]
    refine I2.laid (t' := s2.toks) (fun b o e => Heap.get?_push_of_some _ e) (Nat.le_of_eq hD) ?_
    rw [← hD]
    exact dt_empty s2.heap I2.big
  have f3 : ∀ b ∈ fp, FpOk X pins (upd H2 D (.dT [])) b ∧ b < s3.heap.objs.size := fun b hb => by
    obtain ⟨o, e, _⟩ := T.obj _ _ st2 b hb
    have hlt := Heap.lt_size e
    refine ⟨⟨?_, (f2 b hb).2⟩, by rw [h3, Heap.size_push]; exact Nat.lt_succ_of_lt hlt⟩
    rw [upd_ne (by rw [← hD]; exact Nat.ne_of_lt hlt)]
    exact (f2 b hb).1
  have st3 : tn 0 s3.heap := T.keep _ _ _ st2 fun b _ o e => by rw [h3]; exact Heap.get?_push_of_some _ e
  have I4 := block_start I3 ok hN f3
  have pg := hg s3 (upd H2 D (.dT [])) s3.heap.objs.size (cellsFrom (s3.heap.objs.size + 1) scope.names (cloFrom X.env.cells scope.names [])) fp
  have pk := hk s3 (upd H2 D (.dT [])) s3.heap.objs.size (cellsFrom (s3.heap.objs.size + 1) scope.names (cloFrom X.env.cells scope.names [])) fp
  have pe := he s3 (upd H2 D (.dT [])) s3.heap.objs.size (cellsFrom (s3.heap.objs.size + 1) scope.names (cloFrom X.env.cells scope.names [])) fp
  show codeAny _ _ (.compStart (.DictComp kx vx [⟨tg, iter, [], 0⟩] scope pos) 0 (.ref it) (.ref D) (compEnvC scope (cellsFrom (s3.heap.objs.size + 1) scope.names (cloFrom X.env.cells scope.names [])) s3.heap.objs.size X.env)) _ { s3 with heap := pushCells (s3.heap.push { cls := .type "dict", data := .dict #[] }) scope.names }
  have nfp : ∀ b ∈ fp, (upd H2 D (.dT [])) b = none := fun b hb => (f3 b hb).1.1
  generalize hce : compEnvC scope (cellsFrom (s3.heap.objs.size + 1) scope.names (cloFrom X.env.cells scope.names [])) s3.heap.objs.size X.env = ce at I4 pg pk pe ⊢
  have cL : ce.locals = s3.heap.objs.size := by subst hce; rfl
  generalize hH3 : upd H2 D (.dT []) = H3 at I3 I4 pg pk pe w0 nfp f3
  generalize hs4 : ({ s3 with heap := pushCells (s3.heap.push { cls := .type "dict", data := .dict #[] }) scope.names } : Shared) = s4 at I4 ⊢
  have st4 : tn 0 s4.heap := T.keep _ _ _ st3 fun b _ o e => by rw [← hs4]; exact pushCells_keeps _ _ _ _ (Heap.get?_push_of_some _ e)
  have stat : ∀ {σ' : L2.St} {H' : Hp} {s' : Shared}, Inv (X.blk s3 H3 scope ce fp) [] σ' H' s' → (∀ b ∈ fp, H' b = none) → ∀ b ∈ fp, FpOk (X.blk s3 H3 scope ce fp) [] H' b := fun I' hn b hb =>
    ⟨hn b hb, (I'.ok.exf b hb).1, I'.ok.exfs b hb, .inl hb, fun x c e => (I'.ok.exf b hb).2 x c e, fun p hp => absurd (show p ∈ ([] : List (Addr × Obj)) ++ [] from hp) (by simp)⟩
  refine codeAny_compStart_dict ?loop (T.self X.A 0 _ _ _ st4 ?loop)
  refine compLoop_anyD (fun n s' => ∃ i H', Inv (X.blk s3 H3 scope ce fp) [] (wipe σ (own.map (·.2))) H' s' ∧ tn i s'.heap ∧ (∀ b ∈ fp, H' b = none) ∧ W i n H') ?_ m0 ⟨0, H3, I4, st4, nfp, w0⟩
  rintro n s5 ⟨i, H5, I5, st5, n5, w5⟩
  rcases turn i n H5 w5 with ⟨stop, qq⟩ | ⟨go, Nx, hNx, step⟩
  · refine thnF (T.done (X.blk s3 H3 scope ce fp) rfl rfl rfl hc i [] s5 _ H5 (fun _ _ => False) I5 (stat I5 n5) st5 stop) fun r s6 ⟨hr, I6⟩ => ?_
    subst hr
    have I7 : Inv X pins σ H5 s6 := I3.call' (ch := fp) I6.os I6.base I6.hok I6.bare fun b hb => ⟨(f3 b hb).1.2.2.2.1, (f3 b hb).1.2.1, (f3 b hb).1.2.2.2.2.1, (f3 b hb).1.2.2.2.2.2⟩
    have nC : H5 s3.heap.objs.size = none := by
      have z : H5 ce.locals = none := I6.free
      rw [cL] at z
      exact z
    obtain ⟨m, hn, _⟩ := I6.loc
    have hn : s6.heap.Ns ce.locals m := hn
    rw [cL] at hn
    obtain ⟨f0, f1, f4, f5, f6, f7⟩ := I3.fpOk (Nat.le_refl _) nC
    exact ⟨m, hn, fun h'' sb => ⟨.ref D, H5, I7.turned (t' := s6.toks) (fun b o hb e => (sb.2 b hb).trans e) f0 f1 f5 f6 f7, rfl, qq⟩⟩
  · refine thnF (T.item (X.blk s3 H3 scope ce fp) rfl rfl rfl hc i [] s5 _ H5 (fun _ _ => False) I5 (stat I5 n5) st5 go) fun r s6 ⟨u, hr, h6⟩ => ?_
    subst hr
    refine thnF h6 fun _ s7 ⟨x, H7, I7, r7, y7, st7, n7⟩ => ?_
    have I7' := I7.pinned (stat I7 n7) (T.obj _ _ st7)
    refine thnF (pg.run _ s7 _ H7 x u _ I7' r7 (step x H7 y7)) fun _ s8 ⟨σ8, H8, I8, hw8, q8⟩ => wpAny_tests_nil ?_
    simp only [if_true]
    refine thnF (pk.run _ s8 σ8 H8 _ I8 q8) fun z s10 ⟨yk, H10, I10, r10, q10⟩ => ?_
    refine thnF (pe.run _ s10 σ8 H10 _ I10 q10) fun z2 s11 ⟨yv, H11, I11, r11, kvs, k, b, ek, hb, hD11, hz11, nx⟩ => ?_
    subst ek
    obtain rfl : z = Value.ref b := r10
    refine put_tuple (X := X.blk s3 H3 scope ce fp) hu I11 hD11 hb hz11 r11 fun s12 I12 => ?_
    obtain ⟨m', hm, w'⟩ := hNx _ nx
    have pin' : ∀ b ∈ fp, ∀ o, s7.heap.get? b = some o → s12.heap.get? b = some o ∧ upd H11 D (.dT (putK kvs k yv)) b = none := fun b hb o e =>
      let z := I12.pin (b, o) (List.mem_append_right _ (List.mem_append_right _ (mem_pinsAt hb e)))
      ⟨z.1, z.2.1⟩
    have hl : (wipe σ (own.map (·.2))).length = σ8.length := by rw [← hw8, wipe_length]
    refine ⟨m', hm, i + 1, _, (I12.unpinned (pins := [])).weak hl (fun j v e => ?_), T.keep _ _ _ st7 fun b hb o e => (pin' b hb o e).1, fun b hb => ?_, w'⟩
    · rw [← hw8] at e
      exact (wipe_some e).1
    · obtain ⟨o, e, _⟩ := T.obj _ _ st7 b hb
      exact (pin' b hb o e).2
end
end Sb
/-! Rows, calls and their dicts; the small defs. -/
namespace Sb
open PySem PySem.Spec PyProof.Rows L2 LamX
/-! ### data -/
abbrev RowAt (H : Hp) (a : Addr) (row : List Str) : Prop := H a = some (.tup (row.map V.str))
/-- the dict name -> name of a call's pairs -/
def tellD (c : List (Str × Str)) : List (Key × V) := c.map fun p => (Sum.inr p.1, V.str p.2)
def tell (c : List (Str × Str)) (x : Str) : Str := (c.lookup x).getD x
/-- the dict name -> place of a row -/
def placesD (row : List Str) : List (Key × V) := row.map fun x => (Sum.inr x, V.int ((pos row x : Nat) : Int))
/-- a tuple of two texts -/
abbrev PrAt (H : Hp) (a : Addr) (p : Str × Str) : Prop := H a = some (.tup [.str p.1, .str p.2])
/-- a call: a tuple of pairs -/
def CallAt (H : Hp) (t : Addr) (c : List (Str × Str)) : Prop := ∃ ts : List Addr, H t = some (.tup (ts.map V.ref)) ∧ Paired (fun p a => PrAt H a p) c ts
theorem CallAt.same {H H' : Hp} {t : Addr} {c : List (Str × Str)} (s : ∀ b xs, H b = some (.tup xs) → H' b = some (.tup xs)) (h : CallAt H t c) : CallAt H' t c := by
  obtain ⟨ts, e, p⟩ := h
  exact ⟨ts, s _ _ e, L2.Paired.mapP p fun a b z => s _ _ z⟩
theorem Same.tups {H H' : Hp} (s : Same H H') : ∀ b xs, H b = some (.tup xs) → H' b = some (.tup xs) := fun b xs e => s b _ e
theorem paired_at {A B : Type} {F : A → B → Prop} : ∀ {l : List A} {m : List B} {i : Nat} {y : B}, Paired F l m → m[i]? = some y → ∃ x, l[i]? = some x ∧ F x y
  | _, _, _, _, .nil, h => by simp at h
  | _, _, 0, y, .cons r _, h => by
    simp at h
    subst h
    exact ⟨_, rfl, r⟩
  | _, _, i + 1, y, .cons _ t, h => by
    obtain ⟨x, a, b⟩ := paired_at (i := i) t (by simpa using h)
    exact ⟨x, by simpa using a, b⟩
/-! ### what a dict of a row, of a call holds -/
section
variable {κ A : Type} [DecidableEq κ]
theorem valV_mem {k : A → κ} {v : A → V} {y : A} : ∀ {l : List A}, (∀ x ∈ l, k x = k y → v x = v y) → y ∈ l → valV (l.map fun x => (k x, v x)) (k y) = some (v y)
  | [], _, h => by simp at h
  | x :: l, f, h => by
    rw [List.map_cons]
    by_cases e : k x = k y
    · rw [valV_pos (p := (k x, v x)) e, f x (List.mem_cons_self ..) e]
    · rw [valV_neg (p := (k x, v x)) e]
      rcases List.mem_cons.mp h with z | z
      · exact absurd (by rw [z]) e
      · exact valV_mem (fun x hx => f x (List.mem_cons_of_mem _ hx)) z
theorem valV_out {k : A → κ} {v : A → V} {j : κ} : ∀ {l : List A}, (∀ x ∈ l, k x ≠ j) → valV (l.map fun x => (k x, v x)) j = none
  | [], _ => rfl
  | x :: l, f => by
    rw [List.map_cons, valV_neg (p := (k x, v x)) (f x (List.mem_cons_self ..))]
    exact valV_out fun x hx => f x (List.mem_cons_of_mem _ hx)
end
/-- the first n places -/
def placesF (row : List Str) (n : Nat) : List (Key × V) := (row.take n).map fun x => (Sum.inr x, V.int ((pos row x : Nat) : Int))
theorem places_in {row : List Str} {x : Str} (h : x ∈ row) : valV (placesD row) (Sum.inr x) = some (.int ((pos row x : Nat) : Int)) :=
  valV_mem (k := fun x : Str => (Sum.inr x : Key)) (v := fun x => V.int ((pos row x : Nat) : Int)) (fun y _ e => by rw [Sum.inr.inj e]) h
theorem lookup_some {c : List (Str × Str)} {x : Str} (h : x ∈ c.map (·.1)) : ∃ y, c.lookup x = some y ∧ (x, y) ∈ c := by
  induction c with
  | nil => simp at h
  | cons p c ih =>
    obtain ⟨a, b⟩ := p
    rw [List.lookup_cons]
    by_cases e : x = a
    · subst e
      simp
    · have e1 : (x == a) = false := by simpa using e
      rw [e1]
      rcases List.mem_cons.mp h with z | z
      · exact absurd z e
      · obtain ⟨y, h1, h2⟩ := ih z
        exact ⟨y, h1, List.mem_cons_of_mem _ h2⟩
theorem lookup_none {c : List (Str × Str)} {x : Str} (h : x ∉ c.map (·.1)) : c.lookup x = none := by
  induction c with
  | nil => rfl
  | cons p c ih =>
    obtain ⟨a, b⟩ := p
    rw [List.lookup_cons]
    have e : x ≠ a := fun z => h (by rw [z]; simp)
    have e1 : (x == a) = false := by simpa using e
    rw [e1]
    exact ih fun z => h (List.mem_cons_of_mem _ z)
theorem tellD_get {c : List (Str × Str)} {x : Str} : valV (tellD c) (Sum.inr x) = (c.lookup x).map V.str := by
  induction c with
  | nil => rfl
  | cons p c ih =>
    obtain ⟨a, b⟩ := p
    unfold tellD at ih ⊢
    rw [List.map_cons, List.lookup_cons]
    by_cases e : x = a
    · subst e
      rw [valV_pos (p := ((Sum.inr x : Key), V.str b)) rfl]
      simp
    · have e1 : (x == a) = false := by simpa using e
      rw [e1, valV_neg (p := ((Sum.inr a : Key), V.str b)) (fun z => e (Sum.inr.inj z).symm)]
      exact ih
theorem tellD_in {c : List (Str × Str)} {x : Str} (h : x ∈ c.map (·.1)) : valV (tellD c) (Sum.inr x) = some (.str (tell c x)) := by
  obtain ⟨y, e, _⟩ := lookup_some h
  rw [tellD_get]
  unfold tell
  rw [e]
  rfl
theorem tell_in {c : List (Str × Str)} {x : Str} (h : x ∈ c.map (·.1)) : tell c x ∈ c.map (·.2) := by
  obtain ⟨y, e, m⟩ := lookup_some h
  unfold tell
  rw [e]
  exact List.mem_map.mpr ⟨_, m, rfl⟩
/-! ### sorted lists -/
theorem rising_all : ∀ (p : Str) (l : List Str), risingS p l = true → (∀ x ∈ l, p.cps.toList ≤ x.cps.toList) ∧ l.Pairwise fun a b => a.cps.toList ≤ b.cps.toList
  | p, [], _ => ⟨by simp, .nil⟩
  | p, x :: r, h => by
    have h' : (!ltCps x.cps.toList p.cps.toList && risingS x r) = true := h
    rw [Bool.and_eq_true] at h'
    obtain ⟨a, b⟩ := h'
    rw [ltCps_eq] at a
    have a' : p.cps.toList ≤ x.cps.toList := by simpa using a
    obtain ⟨c, d⟩ := rising_all x r b
    refine ⟨fun y hy => ?_, List.pairwise_cons.mpr ⟨c, d⟩⟩
    rcases List.mem_cons.mp hy with e | hy
    · rw [e]; exact a'
    · exact List.le_trans a' (c y hy)
theorem sorted_pw {l : List Str} (h : sortedS l = true) : l.Pairwise fun a b => a.cps.toList ≤ b.cps.toList := by
  cases l with
  | nil => exact .nil
  | cons x r => exact List.pairwise_cons.mpr (rising_all x r h)
theorem sorted_uniq {xs ys : List Str} (hx : sortedS xs = true) (hy : sortedS ys = true) (p : xs.Perm ys) : xs = ys :=
  uniq_order (R := fun a b : Str => a.cps.toList ≤ b.cps.toList) (fun x y a b => by
    have e := List.le_antisymm a b
    cases x
    cases y
    congr 1
    exact Array.toList_inj.mp e) (sorted_pw hx) (sorted_pw hy) p
/-- a text of signs that there are -/
abbrev SOk (x : Str) : Prop := PyData.strOk x = true
theorem sl24 {n : Nat} (h : n < 64) : n ≤ sizeLine := Nat.le_trans (Nat.le_of_lt h) (by decide)
theorem yes {σ : L2.St} {H : Hp} {A B : Hp → Prop} (h : A H) : tYes σ H fun b H3 => if b = true then A H3 else B H3 := by
  show if true = true then A H else B H
  rw [if_pos rfl]
  exact h
theorem get_map {A B : Type} {f : A → B} {xs : List A} {i : Nat} {x : B} (h : (xs.map f)[i]? = some x) : ∃ y, xs[i]? = some y ∧ x = f y := by
  rw [List.getElem?_map] at h
  cases hc : xs[i]? with
  | none => rw [hc] at h; cases h
  | some y => rw [hc] at h; exact ⟨y, rfl, (Option.some.inj h).symm⟩
theorem take_snoc {A : Type} {xs : List A} {i : Nat} {y : A} (h : xs[i]? = some y) : xs.take (i + 1) = xs.take i ++ [y] := by
  rw [List.take_add_one, h]
  rfl
theorem placesF_snoc {xs : List Str} {i : Nat} {y : Str} (nd : xs.Nodup) (h : xs[i]? = some y) : putK (placesF xs i) (Sum.inr y) (.int (i : Nat)) = placesF xs (i + 1) := by
  rw [putK_new]
  · unfold placesF
    rw [take_snoc h, List.map_append, List.map_singleton, pos_at nd h]
  · refine valV_out (k := fun x : Str => (Sum.inr x : Key)) (v := fun x => V.int ((pos xs x : Nat) : Int)) (fun x hx e => ?_)
    have e := Sum.inr.inj e
    subst e
    obtain ⟨j, hj, e⟩ := List.getElem_of_mem hx
    rw [List.length_take] at hj
    rw [List.getElem_take] at e
    have h1 : xs[j]? = some x := by rw [List.getElem?_eq_getElem (by omega), e]
    have := pos_at nd h1
    rw [pos_at nd h] at this
    omega
theorem placesF_len {xs : List Str} {i : Nat} : (placesF xs i).length ≤ xs.length := by
  unfold placesF
  rw [List.length_map, List.length_take]
  omega
theorem placesF_all (xs : List Str) : placesF xs xs.length = placesD xs := by
  unfold placesF placesD
  rw [List.take_length]
theorem lt_line {n : Nat} (h : n < 64) : n < sizeLine := Nat.lt_of_lt_of_le h (by decide)
theorem same_chg {H H1 : Hp} {D : Addr} {o : HO} (s : Same H H1) (n : H D = none) : Same H (upd H1 D o) := fun b u e => by
  rw [upd_ne (ne_of_none e n)]
  exact s b u e
/-- the target a, b -/
abbrev g2 (K : PySem.W.Frag) (i j : Nat) : TG := gTup K 2 (gCons (gName i) (gCons (gName j) gNil))
section
variable {P : Program} {w : World} {K : PySem.W.Frag} {mg : Str → Option Value} {base : Heap}
theorem dpAll_strs {H : Hp} : ∀ xs : List Str, DpAll K H (xs.map V.str) (xs.map PyData.str)
  | [] => .nil
  | x :: xs => .cons (.str x) (dpAll_strs xs)
theorem depth_strs : ∀ xs : List Str, PyData.depthAll (xs.map PyData.str) = 0
  | [] => by simp [PyData.depthAll]
  | x :: xs => by
    rw [List.map_cons, PyData.depthAll, depth_strs xs, PyData.depth]
    rfl
theorem lay_strs : ∀ xs : List Str, (∀ x ∈ xs, SOk x) → PyData.canLayAll0 (xs.map PyData.str) = true
  | [], _ => by simp [PyData.canLayAll0]
  | x :: xs, h => by
    rw [List.map_cons, PyData.canLayAll0, lay_strs xs fun y hy => h y (List.mem_cons_of_mem _ hy), PyData.canLay0]
    rw [show PyData.strOk x = true from h x (List.mem_cons_self ..)]
    rfl
theorem shp_list {xs : List Str} (h : ∀ x ∈ xs, SOk x) : SeqAt.shaped (.list (xs.map PyData.str)) = true := by
  unfold SeqAt.shaped
  rw [PyData.canLay0, lay_strs xs h, PyData.depth, depth_strs]
  rfl
theorem shp_tup {xs : List Str} (h : ∀ x ∈ xs, SOk x) : SeqAt.shaped (.tuple (xs.map PyData.str)) = true := by
  unfold SeqAt.shaped
  rw [PyData.canLay0, lay_strs xs h, PyData.depth, depth_strs]
  rfl
theorem eqv_list {xs : List Str} (h : ∀ x ∈ xs, SOk x) : PyData.eqv (.list (xs.map PyData.str)) (.list (xs.map PyData.str)) = true := SeqAt.eqv_refl _ (SeqAt.canLay_of_shaped (shp_list h))
theorem eqv_tup {xs : List Str} (h : ∀ x ∈ xs, SOk x) : PyData.eqv (.tuple (xs.map PyData.str)) (.tuple (xs.map PyData.str)) = true := SeqAt.eqv_refl _ (SeqAt.canLay_of_shaped (shp_tup h))
/-! ### look_alike -/
theorem scAlike : FnScope ["one", "other"] ["one", "other"] dAlike.scope := ⟨rfl, rfl, rfl, by decide +kernel, rfl, by decide +kernel, by decide +kernel⟩
def spAlike : Sp := fun vs H Q _ => ∃ (a b : Addr) (xs ys : List Str), vs = [.ref a, .ref b] ∧ RowAt H a xs ∧ RowAt H b ys ∧ xs.Perm ys ∧ xs.length < 64 ∧ (∀ x ∈ xs, SOk x) ∧ ∀ H', Same H H' → Q .non H'
theorem ok_alike (e : En P w K mg base) {k : Nat} : Ok P w K mg base (k + 1) dAlike ["one", "other"] spAlike := by
  obtain ⟨fd, F⟩ := e.fd 1
  refine ok_by F rfl scAlike (fun _ _ _ _ _ _ us hl => match us, hl with | [_, _], _ => rfl) (fun vs H Q E h => ?_) (fun cdv A outer s H vs Q E hr h => ?_)
  · obtain ⟨a, b, xs, ys, rfl, _⟩ := h
    rfl
  · obtain ⟨a, b, xs, ys, rfl, ha, hb, hp, hz, hs, q⟩ := h
    refine ⟨_, pss_one (ps_if (pt_cmpR (op_neD hr.units) (pe_callB cr_sortedT (by rfl) (e.f "sorted") (by decide +kernel) (pa_cons (pv 0) pa_nil)) (pe_callB cr_sortedT (by rfl) (e.f "sorted") (by decide +kernel) (pa_cons (pv 1) pa_nil)) (nomark _)) (pss_one ps_never) pss_nil), ?_⟩
    refine ⟨.ref a, rfl, a, xs, rfl, .inl (.inl ha), hz, fun us p hpu hus np => ?_⟩
    refine ⟨.ref b, rfl, b, ys, rfl, .inl (.inl (same_upd np _ _ hb)), by rw [← hp.length_eq]; exact hz, fun vs p' hpv hvs np' => ?_⟩
    have euv : us = vs := sorted_uniq hus hvs (hpu.trans (hp.trans hpv.symm))
    subst euv
    have s1 : Same H (upd H p (.lst (us.map V.str))) := same_upd np
    have s2 : Same (upd H p (.lst (us.map V.str))) (upd (upd H p (.lst (us.map V.str))) p' (.lst (us.map V.str))) := same_upd np'
    have hs' : ∀ x ∈ us, SOk x := fun x hx => hs x (hpu.mem_iff.mp hx)
    refine ⟨.list (us.map PyData.str), .list (us.map PyData.str), .lst (.inl (.inl (s2 _ _ upd_same))) (dpAll_strs us), .lst (.inl (.inl upd_same)) (dpAll_strs us), shp_list hs', shp_list hs', _, rfl, ?_⟩
    rw [eqv_list hs']
    exact iteF (q _ (s1.trans s2))
/-! ### places_of -/
theorem scPlaces : FnScope ["row", "place", "name"] ["row"] dPlaces.scope := ⟨rfl, rfl, rfl, by decide +kernel, rfl, by decide +kernel, by decide +kernel⟩
def spPlaces : Sp := fun vs H Q _ => ∃ (a : Addr) (xs : List Str), vs = [.ref a] ∧ RowAt H a xs ∧ xs.Nodup ∧ xs.length < 64 ∧ ∀ H' d, Same H H' → H d = none → H' d = some (.dK (placesD xs)) → Q (.ref d) H'
theorem ok_places (e : En P w K mg base) {k : Nat} : Ok P w K mg base (k + 1) dPlaces ["row"] spPlaces := by
  obtain ⟨fd, F⟩ := e.fd 0
  refine ok_by F rfl scPlaces (fun _ _ _ _ _ _ us hl => match us, hl with | [_], _ => rfl) (fun vs H Q E h => ?_) (fun cdv A outer s H vs Q E hr h => ?_)
  · obtain ⟨a, xs, rfl, _⟩ := h
    rfl
  · obtain ⟨a, xs, rfl, ha, nd, hz, q⟩ := h
    refine ⟨_, pss_one (ps_ret (pe_dc (own := [("place", 1), ("name", 2)]) (g := g2 K 1 2) (by rfl) scPlaces.nd (pi_enumT (by rfl) (e.f "enumerate") (pa_cons (pv 0) pa_nil)) (blkOk_by (N := ["row", "place", "name"]) (sc := dPlaces.scope) (by decide +kernel))
      (fun _ _ _ _ _ => pg_tup rfl (pgs_cons (pg_name (i := 1) scPlaces.nd rfl (.inl rfl)) (pgs_cons (pg_name (i := 2) scPlaces.nd rfl (.inl rfl)) pgs_nil))) (fun _ _ _ _ _ => pts_nil) (fun _ _ _ _ _ => pv 2) (fun _ _ _ _ _ => pv 1))), ?_⟩
    refine ⟨.ref a, rfl, a, xs.map V.str, rfl, .inl (.inl ha), fun D nD => ?_⟩
    refine dc_enumT (xs := xs.map V.str) (fun i H1 => Same H H1 ∧ H1 D = some (.dK (placesF xs i))) ⟨same_upd nD, upd_same⟩ (fun i H1 hi hW => .inl (.inl (hW.1 _ _ ha))) (fun i x H1 T hx hW nT => ?_) (fun H1 hW => q _ D hW.1 nD ?_)
    · obtain ⟨sm, hD⟩ := hW
      obtain ⟨y, hy, rfl⟩ := get_map hx
      have sT : Same H1 (upd H1 T (.tup [.int (i : Nat), .str y])) := same_upd nT
      refine ⟨T, _, rfl, .inl (.inl upd_same), rfl, _, _, rfl, _, _, rfl, rfl, rfl, yes ⟨_, rfl, _, rfl, placesF xs i, Sum.inr y, rfl, sT _ _ hD, Nat.lt_of_le_of_lt placesF_len (lt_line hz), same_chg (sm.trans sT) nD, ?_⟩⟩
      rw [upd_same, placesF_snoc nd hy]
    · rw [← placesF_all, ← List.length_map (f := V.str)]
      exact hW.2
end
end Sb
/-! The small defs of rows and calls. -/
namespace Sb
open PySem PySem.Spec PyProof.Rows L2 LamX
theorem in_strs {x : Str} : ∀ xs : List Str, inV (.str x) (xs.map V.str) = decide (x ∈ xs)
  | [] => rfl
  | y :: xs => by
    unfold inV
    rw [List.map_cons, List.any_cons]
    have ih := in_strs (x := x) xs
    unfold inV at ih
    rw [ih]
    by_cases e : y = x
    · subst e
      simp [eqV]
    · have e' : ¬ x = y := fun z => e z.symm
      simp [eqV, e, e', List.mem_cons]
theorem flat_strs (xs : List Str) : (xs.map V.str).all flatV = true := by
  rw [List.all_eq_true]
  intro v hv
  obtain ⟨x, _, rfl⟩ := List.mem_map.mp hv
  rfl
/-- the first n pairs of a call's dict -/
def tellF (c : List (Str × Str)) (n : Nat) : List (Key × V) := tellD (c.take n)
theorem tellF_len {c : List (Str × Str)} {i : Nat} : (tellF c i).length ≤ c.length := by
  unfold tellF tellD
  rw [List.length_map, List.length_take]
  omega
theorem tellF_all (c : List (Str × Str)) : tellF c c.length = tellD c := by
  unfold tellF
  rw [List.take_length]
theorem tellF_snoc {c : List (Str × Str)} {i : Nat} {p : Str × Str} (nd : (c.map (·.1)).Nodup) (h : c[i]? = some p) : putK (tellF c i) (Sum.inr p.1) (.str p.2) = tellF c (i + 1) := by
  rw [putK_new]
  · unfold tellF tellD
    rw [take_snoc h, List.map_append, List.map_singleton]
  · unfold tellF tellD
    refine valV_out (k := fun q : Str × Str => (Sum.inr q.1 : Key)) (v := fun q => V.str q.2) (fun q hq e => ?_)
    have e := Sum.inr.inj e
    obtain ⟨j, hj, e2⟩ := List.getElem_of_mem hq
    rw [List.length_take] at hj
    rw [List.getElem_take] at e2
    have hi := (List.getElem?_eq_some_iff.mp h).1
    have h1 : (c.map (·.1))[j]? = some p.1 := by
      rw [List.getElem?_map, List.getElem?_eq_getElem (by omega), e2, ← e]
      rfl
    have h2 : (c.map (·.1))[i]? = some p.1 := by
      rw [List.getElem?_map, h]
      rfl
    have a1 := pos_at nd h1
    rw [pos_at nd h2] at a1
    omega
theorem Same.none {H H' : Hp} {p : Addr} (s : Same H H') (h : H' p = none) : H p = none := by
  cases e : H p with
  | none => rfl
  | some o => rw [s p o e] at h; cases h
theorem prd_snoc {A B : Type} {F : A → B → Prop} {x : A} {y : B} (r : F x y) : ∀ {l : List A} {m : List B}, Paired F l m → Paired F (l ++ [x]) (m ++ [y])
  | _, _, .nil => .cons r .nil
  | _, _, .cons q t => .cons q (prd_snoc r t)
theorem paired_len {A B : Type} {F : A → B → Prop} : ∀ {l : List A} {m : List B}, Paired F l m → l.length = m.length
  | _, _, .nil => rfl
  | _, _, .cons _ t => congrArg (· + 1) (paired_len t)
section
variable {P : Program} {w : World} {K : PySem.W.Frag} {mg : Str → Option Value} {base : Heap}
/-! ### place_of -/
theorem scPlace : FnScope ["row", "name", "places"] ["row", "name"] dPlace.scope := ⟨rfl, rfl, rfl, by decide +kernel, rfl, by decide +kernel, by decide +kernel⟩
def spPlace : Sp := fun vs H Q _ => ∃ (a : Addr) (xs : List Str) (x : Str), vs = [.ref a, .str x] ∧ RowAt H a xs ∧ xs.Nodup ∧ xs.length < 64 ∧ x ∈ xs ∧ ∀ H', Same H H' → Q (.int ((pos xs x : Nat) : Int)) H'
theorem ok_place (e : En P w K mg base) {k : Nat} (O : Ok P w K mg base k dPlaces ["row"] spPlaces) : Ok P w K mg base (k + 1) dPlace ["row", "name"] spPlace := by
  obtain ⟨fd, F⟩ := e.fd 2
  refine ok_by F rfl scPlace (fun _ _ _ _ _ _ us hl => match us, hl with | [_, _], _ => rfl) (fun vs H Q E h => ?_) (fun cdv A outer s H vs Q E hr h => ?_)
  · obtain ⟨a, xs, x, rfl, _⟩ := h
    rfl
  · obtain ⟨a, xs, x, rfl, ha, nd, hz, hx, q⟩ := h
    refine ⟨_, pss_cons (ps_set (i := 2) scPlace.nd rfl (.inl rfl) (pe_fn O hr (Nat.le_refl _) (by rfl) (e.g "places_of") (pa_cons (pv 0) pa_nil)))
      (pss_cons (ps_if (pt_cmp (pc_dnotin (hu_of hr) (pv 1) (pv 2))) (pss_one ps_never) pss_nil)
        (pss_one (ps_ret (pe_dget (hu_of hr) (pv 2) (pv 1) (fun _ _ => rfl))))), ?_⟩
    refine ⟨.ref a, rfl, a, xs, rfl, ha, nd, hz, fun H1 d s1 nd1 hd => ?_⟩
    refine ⟨.str x, rfl, .ref d, rfl, d, _, rfl, DGet.k (k := Sum.inr x) hd, _, rfl, ?_⟩
    rw [places_in hx]
    refine iteF ⟨.ref d, rfl, .str x, rfl, d, _, rfl, ?_, q _ s1⟩
    rw [← places_in hx]
    exact DGet.k (k := Sum.inr x) hd
/-! ### by_names -/
theorem scByNames : FnScope ["call", "who", "whom"] ["call"] dByNames.scope := ⟨rfl, rfl, rfl, by decide +kernel, rfl, by decide +kernel, by decide +kernel⟩
def spByNames : Sp := fun vs H Q _ => ∃ (a : Addr) (c : List (Str × Str)), vs = [.ref a] ∧ CallAt H a c ∧ (c.map (·.1)).Nodup ∧ c.length < 64 ∧ ∀ H' d, Same H H' → H d = none → H' d = some (.dK (tellD c)) → Q (.ref d) H'
theorem ok_byNames (e : En P w K mg base) {k : Nat} : Ok P w K mg base (k + 1) dByNames ["call"] spByNames := by
  obtain ⟨fd, F⟩ := e.fd 3
  refine ok_by F rfl scByNames (fun _ _ _ _ _ _ us hl => match us, hl with | [_], _ => rfl) (fun vs H Q E h => ?_) (fun cdv A outer s H vs Q E hr h => ?_)
  · obtain ⟨a, c, rfl, _⟩ := h
    rfl
  · obtain ⟨a, c, rfl, ⟨ts, ha, hts⟩, nd, hz, q⟩ := h
    refine ⟨_, pss_one (ps_ret (pe_dc (own := [("who", 1), ("whom", 2)]) (g := g2 K 1 2) (by rfl) scByNames.nd (pi_tup (pv 0)) (blkOk_by (N := ["call", "who", "whom"]) (sc := dByNames.scope) (by decide +kernel))
      (fun _ _ _ _ _ => pg_tup rfl (pgs_cons (pg_name (i := 1) scByNames.nd rfl (.inl rfl)) (pgs_cons (pg_name (i := 2) scByNames.nd rfl (.inl rfl)) pgs_nil))) (fun _ _ _ _ _ => pts_nil) (fun _ _ _ _ _ => pv 1) (fun _ _ _ _ _ => pv 2))), ?_⟩
    refine ⟨.ref a, rfl, a, rfl, ⟨_, .inl (.inl ha)⟩, fun D nD => ?_⟩
    refine dc_tup (xs := ts.map V.ref) (fun i H1 => Same H H1 ∧ H1 D = some (.dK (tellF c i))) ⟨same_upd nD, upd_same⟩ (fun i H1 hi hW => .inl (.inl (hW.1 _ _ ha))) (fun i x H1 hx hW => ?_) (fun H1 hW => q _ D hW.1 nD ?_)
    · obtain ⟨sm, hD⟩ := hW
      obtain ⟨t, ht, rfl⟩ := get_map hx
      obtain ⟨p, hp, pa⟩ := paired_at hts ht
      refine ⟨t, _, rfl, .inl (.inl (sm _ _ pa)), rfl, _, _, rfl, _, _, rfl, rfl, rfl, yes ⟨_, rfl, _, rfl, tellF c i, Sum.inr p.1, rfl, hD, Nat.lt_of_le_of_lt tellF_len (lt_line hz), same_chg sm nD, ?_⟩⟩
      rw [upd_same, tellF_snoc nd hp]
    · rw [← tellF_all, paired_len hts, ← List.length_map (f := V.ref)]
      exact hW.2
/-! ### people -/
theorem scPeople : FnScope ["call", "who", "whom"] ["call"] dPeople.scope := ⟨rfl, rfl, rfl, by decide +kernel, rfl, by decide +kernel, by decide +kernel⟩
def spPeople : Sp := fun vs H Q _ => ∃ (a : Addr) (c : List (Str × Str)), vs = [.ref a] ∧ CallAt H a c ∧ c.length < 64 ∧ ∀ H' d, Same H H' → H d = none → RowAt H' d (c.map (·.1)) → Q (.ref d) H'
theorem ok_people (e : En P w K mg base) {k : Nat} : Ok P w K mg base (k + 1) dPeople ["call"] spPeople := by
  obtain ⟨fd, F⟩ := e.fd 4
  refine ok_by F rfl scPeople (fun _ _ _ _ _ _ us hl => match us, hl with | [_], _ => rfl) (fun vs H Q E h => ?_) (fun cdv A outer s H vs Q E hr h => ?_)
  · obtain ⟨a, c, rfl, _⟩ := h
    rfl
  · obtain ⟨a, c, rfl, ⟨ts, ha, hts⟩, hz, q⟩ := h
    refine ⟨_, pss_one (ps_ret (pe_callTy call_tuple_of (by rfl) (e.f "tuple") (by decide +kernel) (pa_cons (pe_lc (own := [("who", 1), ("whom", 2)]) (g := g2 K 1 2) (by rfl) scPeople.nd (pi_tup (pv 0)) (blkOk_by (N := ["call", "who", "whom"]) (sc := dPeople.scope) (by decide +kernel))
      (fun _ _ _ _ _ => pg_tup rfl (pgs_cons (pg_name (i := 1) scPeople.nd rfl (.inl rfl)) (pgs_cons (pg_name (i := 2) scPeople.nd rfl (.inl rfl)) pgs_nil))) (fun _ _ _ _ _ => pts_nil) (fun _ _ _ _ _ => pv 1)) pa_nil))), ?_⟩
    refine ⟨.ref a, rfl, a, rfl, ⟨_, .inl (.inl ha)⟩, fun D nD => ?_⟩
    refine lc_tup (xs := ts.map V.ref) (fun i H1 => Same H H1 ∧ H1 D = some (.lst (((c.map (·.1)).take i).map V.str))) ⟨same_upd nD, upd_same⟩ (fun i H1 hi hW => .inl (.inl (hW.1 _ _ ha))) (fun i x H1 hx hW => ?_) (fun H1 hW => ?_)
    · obtain ⟨sm, hD⟩ := hW
      obtain ⟨t, ht, rfl⟩ := get_map hx
      obtain ⟨p, hp, pa⟩ := paired_at hts ht
      have h1 : (c.map (·.1))[i]? = some p.1 := by
        rw [List.getElem?_map, hp]
        rfl
      refine ⟨t, _, rfl, .inl (.inl (sm _ _ pa)), rfl, _, _, rfl, _, _, rfl, rfl, rfl, yes ⟨_, rfl, _, hD, ?_, same_chg sm nD, ?_⟩⟩
      · rw [List.length_map, List.length_take, List.length_map]
        exact lt_line (by omega)
      · rw [upd_same, take_snoc h1, List.map_append]
        rfl
    · have e1 : (((c.map (·.1)).take (ts.map V.ref).length).map V.str) = (c.map (·.1)).map V.str := by
        rw [List.take_of_length_le]
        rw [List.length_map, List.length_map, paired_len hts]
        exact Nat.le_refl _
      rw [e1] at hW
      exact ⟨D, _, rfl, .inl ⟨.inl (.inl hW.2), fun p np => q _ p (same_chg hW.1 (Same.none hW.1 np)) (Same.none hW.1 np) upd_same⟩⟩
/-! ### look_name -/
theorem scLookN : FnScope ["names", "name"] ["names", "name"] dLookN.scope := ⟨rfl, rfl, rfl, by decide +kernel, rfl, by decide +kernel, by decide +kernel⟩
def spLookN (K : PySem.W.Frag) : Sp := fun vs H Q _ => ∃ (a : Addr) (xs : List Str) (x : Str), vs = [.ref a, .str x] ∧ RowAt H a xs ∧ x ∈ xs ∧ Q .non H
theorem ok_lookN (e : En P w K mg base) {k : Nat} : Ok P w K mg base (k + 1) dLookN ["names", "name"] (spLookN K) := by
  obtain ⟨fd, F⟩ := e.fd 5
  refine ok_by F rfl scLookN (fun _ _ _ _ _ _ us hl => match us, hl with | [_, _], _ => rfl) (fun vs H Q E h => ?_) (fun cdv A outer s H vs Q E hr h => ?_)
  · obtain ⟨a, xs, x, rfl, _⟩ := h
    rfl
  · obtain ⟨a, xs, x, rfl, ha, hx, q⟩ := h
    refine ⟨_, pss_one (ps_if (pt_cmpR op_notIn_seq (pv 1) (pv 0) (by rfl)) (pss_one ps_never) pss_nil), ?_⟩
    refine ⟨.str x, rfl, .ref a, rfl, a, xs.map V.str, rfl, .inr (.inl (.inl ha)), rfl, flat_strs xs, _, rfl, ?_⟩
    rw [in_strs, decide_eq_true hx]
    exact iteF q
/-! ### call_of -/
theorem scCallOf : FnScope ["names", "told", "name", "who"] ["names", "told"] dCallOf.scope := ⟨rfl, rfl, rfl, by decide +kernel, rfl, by decide +kernel, by decide +kernel⟩
/-- the call of the sorted names -/
def callC (names : List Str) (t : List (Str × Str)) : List (Str × Str) := names.map fun x => (x, tell t x)
def spCallOf : Sp := fun vs H Q _ => ∃ (a d : Addr) (xs : List Str) (t : List (Str × Str)), vs = [.ref a, .ref d] ∧ RowAt H a xs ∧ xs.length < 64 ∧ H d = some (.dK (tellD t)) ∧ t.length < 64 ∧ (∀ p ∈ t, p.1 ∈ xs ∧ p.2 ∈ xs) ∧
  ∀ H' r ys, Same H H' → H r = none → ys.Perm xs → sortedS ys = true → CallAt H' r (callC ys t) → Q (.ref r) H'
theorem ok_callOf (e : En P w K mg base) {k : Nat} (O : Ok P w K mg base k dLookN ["names", "name"] (spLookN K)) : Ok P w K mg base (k + 1) dCallOf ["names", "told"] spCallOf := by
  obtain ⟨fd, F⟩ := e.fd 6
  refine ok_by F rfl scCallOf (fun _ _ _ _ _ _ us hl => match us, hl with | [_, _], _ => rfl) (fun vs H Q E h => ?_) (fun cdv A outer s H vs Q E hr h => ?_)
  · obtain ⟨a, d, xs, t, rfl, _⟩ := h
    rfl
  · obtain ⟨a, d, xs, t, rfl, ha, hz, hd, htz, hm, q⟩ := h
    refine ⟨_, pss_cons (ps_for PassesOwn.never rfl (pi_list (pe_callB (call_sortedD rfl) (by rfl) (e.f "sorted") (by decide +kernel) (pa_cons (pv 1) pa_nil))) (pg_name (i := 2) scCallOf.nd rfl (.inl rfl))
        (pss_one (ps_expr (pe_fn O hr (Nat.le_refl _) (by rfl) (e.g "look_name") (pa_cons (pv 0) (pa_cons (pv 2) pa_nil))))))
      (pss_cons (ps_for PassesOwn.never rfl (pi_list (pe_callB (cr_sortedVs rfl) (by rfl) (e.f "sorted") (by decide +kernel) (pa_cons (pe_bm0 PySem.F.plainAttrs_dict PySem.F.slot_dict_values PySem.F.type_dict_values mt_values (pv 1)) pa_nil))) (pg_name (i := 2) scCallOf.nd rfl (.inl rfl))
        (pss_one (ps_expr (pe_fn O hr (Nat.le_refl _) (by rfl) (e.g "look_name") (pa_cons (pv 0) (pa_cons (pv 2) pa_nil))))))
      (pss_one (ps_ret (pe_callTy call_tuple_of (by rfl) (e.f "tuple") (by decide +kernel) (pa_cons (pe_lc (own := [("who", 3)]) (g := gName 3) (by rfl) scCallOf.nd (pi_list (pe_callB cr_sortedT (by rfl) (e.f "sorted") (by decide +kernel) (pa_cons (pv 0) pa_nil)))
          (blkOk_by (N := ["names", "told", "name", "who"]) (sc := dCallOf.scope) (by decide +kernel))
          (fun _ _ _ _ _ => pg_name (i := 3) scCallOf.nd rfl (.inl rfl)) (fun _ _ _ _ _ => pts_nil) (fun _ _ _ _ _ => pe_tup (pa_cons (pv 3) (pa_cons (pe_dget2 (hu_of hr) (pv 1) (pv 3) (pv 3) ⟨rfl, rfl, rfl, rfl⟩) pa_nil)))) pa_nil))))), ?_⟩
    -- for name in sorted(told)
    refine ⟨.ref d, rfl, d, tellD t, t.map (·.1), rfl, .of hd, by unfold tellD; rw [List.map_map, List.map_map]; rfl, by rw [List.length_map]; exact htz, fun us p hpu hus np => ?_⟩
    have s1 : Same H (upd H p (.lst (us.map V.str))) := same_upd np
    refine ⟨p, rfl, ⟨_, .inl (.inl upd_same)⟩, for_list (xs := us.map V.str) (fun i σ H' => ∃ y, σ = [some (.ref a), some (.ref d), y, none] ∧ H' = upd H p (.lst (us.map V.str))) ⟨none, rfl, rfl⟩
      (fun i σ H' _ ⟨_, _, e⟩ => by rw [e]; exact .inl (.inl upd_same)) (fun i v σ H' hv ⟨y, e1, e2⟩ => ?_) (fun σ H' ⟨y, e1, e2⟩ => ?_)⟩
    · obtain ⟨x, hx, rfl⟩ := get_map hv
      subst e1 e2
      obtain ⟨q1, hq1, rfl⟩ := List.mem_map.mp (hpu.mem_iff.mp (List.mem_of_getElem? hx))
      exact ⟨.ref a, rfl, _, rfl, a, xs, _, rfl, s1 _ _ ha, (hm q1 hq1).1, _, rfl, rfl⟩
    subst e1 e2
    -- for name in sorted(told.values())
    refine ⟨.ref d, rfl, .inr (.inr (.inl ⟨rfl, .inl ⟨_, s1 _ _ hd⟩⟩)), d, tellD t, rfl, rfl, s1 _ _ hd, fun pv npv => ?_⟩
    have s2 : Same H (upd (upd H p (.lst (us.map V.str))) pv (valuesO pv d)) := s1.trans (same_upd npv)
    refine ⟨pv, d, tellD t, t.map (·.2), rfl, upd_same, s2 _ _ hd, by unfold tellD; rw [List.map_map, List.map_map]; rfl, by rw [List.length_map]; exact htz, fun us' p' hpu' hus' np' => ?_⟩
    generalize upd (upd H p (.lst (us.map V.str))) pv (valuesO pv d) = H2 at s2 np' ⊢
    have s3 : Same H (upd H2 p' (.lst (us'.map V.str))) := s2.trans (same_upd np')
    refine ⟨p', rfl, ⟨_, .inl (.inl upd_same)⟩, for_list (xs := us'.map V.str) (fun i σ H' => ∃ y, σ = [some (.ref a), some (.ref d), y, none] ∧ H' = upd H2 p' (.lst (us'.map V.str))) ⟨y, rfl, rfl⟩
      (fun i σ H' _ ⟨_, _, e⟩ => by rw [e]; exact .inl (.inl upd_same)) (fun i v σ H' hv ⟨y, e1, e2⟩ => ?_) (fun σ H' ⟨y, e1, e2⟩ => ?_)⟩
    · obtain ⟨x, hx, rfl⟩ := get_map hv
      subst e1 e2
      obtain ⟨q1, hq1, rfl⟩ := List.mem_map.mp (hpu'.mem_iff.mp (List.mem_of_getElem? hx))
      exact ⟨.ref a, rfl, _, rfl, a, xs, _, rfl, s3 _ _ ha, (hm q1 hq1).2, _, rfl, rfl⟩
    subst e1 e2
    generalize upd H2 p' (.lst (us'.map V.str)) = H3 at s3 ⊢
    -- the call
    refine ⟨.ref a, rfl, a, xs, rfl, .inl (.inl (s3 _ _ ha)), hz, fun ys q0 hpy hsy nq => ?_⟩
    have s4 : Same H (upd H3 q0 (.lst (ys.map V.str))) := s3.trans (same_upd nq)
    have hq0 : upd H3 q0 (.lst (ys.map V.str)) q0 = some (.lst (ys.map V.str)) := upd_same
    generalize upd H3 q0 (.lst (ys.map V.str)) = H4 at s4 hq0 ⊢
    have hyz : ys.length < 64 := by rw [hpy.length_eq]; exact hz
    refine ⟨q0, rfl, ⟨_, .inl (.inl hq0)⟩, fun D nD => ?_⟩
    refine lc_list (xs := ys.map V.str) (fun i H' => Same H4 H' ∧ ∃ ts : List Addr, H' D = some (.lst (ts.map V.ref)) ∧ Paired (fun p a => PrAt H' a p) ((callC ys t).take i) ts) ⟨same_upd nD, [], upd_same, .nil⟩
      (fun i H' _ hW => .inl (.inl (hW.1 _ _ hq0))) (fun i v H' hv ⟨sm, ts, hD, hts⟩ => ?_) (fun H' ⟨sm, ts, hD, hts⟩ => ?_)
    · obtain ⟨x, hx, rfl⟩ := get_map hv
      have hti : ts.length ≤ i := by
        rw [← paired_len hts, List.length_take]
        omega
      have hi : i < ys.length := (List.getElem?_eq_some_iff.mp hx).1
      have hc : (callC ys t)[i]? = some (x, tell t x) := by
        unfold callC
        rw [List.getElem?_map, hx]
        rfl
      refine ⟨rfl, yes ⟨_, rfl, .ref d, rfl, d, rfl, .inl ⟨_, .of (sm _ _ (s4 _ _ hd))⟩, _, rfl, _, rfl, _, DGet.k (k := Sum.inr x) (sm _ _ (s4 _ _ hd)), ?_⟩⟩
      have ev : (valV (tellD t) (Sum.inr x)).getD (.str x) = .str (tell t x) := by
        rw [tellD_get]
        unfold tell
        cases t.lookup x <;> rfl
      rw [ev]
      refine ⟨by show 2 ≤ sizeLine; decide, fun T nT => ?_⟩
      have sT : Same H' (upd H' T (.tup [.str x, .str (tell t x)])) := same_upd nT
      refine ⟨_, sT _ _ hD, by rw [List.length_map]; exact lt_line (by omega), same_chg (sm.trans sT) nD, ts ++ [T], ?_, ?_⟩
      · rw [upd_same, List.map_append]
        rfl
      · have nTD : T ≠ D := fun e => by
          rw [e] at nT
          rw [hD] at nT
          cases nT
        rw [take_snoc hc]
        refine prd_snoc ?_ (L2.Paired.mapP hts fun p b h => ?_)
        · show upd _ D _ T = _
          rw [upd_ne nTD, upd_same]
        · show upd _ D _ b = _
          rw [upd_ne (ne_of (sT _ _ h) (sT _ _ hD) (by intro z; cases z))]
          exact sT _ _ h
    · have e1 : (callC ys t).take (ys.map V.str).length = callC ys t := by
        rw [List.take_of_length_le]
        unfold callC
        rw [List.length_map, List.length_map]
        exact Nat.le_refl _
      rw [e1] at hts
      have s5 : Same H H' := s4.trans sm
      refine ⟨D, _, rfl, .inl ⟨.inl (.inl hD), fun r nr => q _ r ys (s5.trans (same_upd nr)) (Same.none s5 nr) hpy hsy ⟨ts, upd_same, L2.Paired.mapP hts fun p b h => same_upd nr _ _ h⟩⟩⟩
end
end Sb
/-! plain_call, the walkers. -/
namespace Sb
open PySem PySem.Spec PyProof.Rows L2 LamX
section
variable {P : Program} {w : World} {K : PySem.W.Frag} {mg : Str → Option Value} {base : Heap}
/-! ### plain_call -/
theorem scPlain : FnScope ["call", "who", "name"] ["call"] dPlain.scope := ⟨rfl, rfl, rfl, by decide +kernel, rfl, by decide +kernel, by decide +kernel⟩
def spPlain : Sp := fun vs H Q _ => ∃ (a : Addr) (c : List (Str × Str)), vs = [.ref a] ∧ CallAt H a c ∧ c.length < 64 ∧ ∀ H' r, Same H H' → H r = none → CallAt H' r c → Q (.ref r) H'
theorem ok_plain (e : En P w K mg base) {k : Nat} : Ok P w K mg base (k + 1) dPlain ["call"] spPlain := by
  obtain ⟨fd, F⟩ := e.fd 7
  refine ok_by F rfl scPlain (fun _ _ _ _ _ _ us hl => match us, hl with | [_], _ => rfl) (fun vs H Q E h => ?_) (fun cdv A outer s H vs Q E hr h => ?_)
  · obtain ⟨a, c, rfl, _⟩ := h
    rfl
  · obtain ⟨a, c, rfl, ⟨ts, ha, hts⟩, hz, q⟩ := h
    refine ⟨_, pss_one (ps_ret (pe_callTy call_tuple_of (by rfl) (e.f "tuple") (by decide +kernel) (pa_cons (pe_lc (own := [("who", 1), ("name", 2)]) (g := g2 K 1 2) (by rfl) scPlain.nd (pi_tup (pv 0)) (blkOk_by (N := ["call", "who", "name"]) (sc := dPlain.scope) (by decide +kernel))
      (fun _ _ _ _ _ => pg_tup rfl (pgs_cons (pg_name (i := 1) scPlain.nd rfl (.inl rfl)) (pgs_cons (pg_name (i := 2) scPlain.nd rfl (.inl rfl)) pgs_nil))) (fun _ _ _ _ _ => pts_nil) (fun _ _ _ _ _ => pe_tup (pa_cons (pv 1) (pa_cons (pv 2) pa_nil)))) pa_nil))), ?_⟩
    refine ⟨.ref a, rfl, a, rfl, ⟨_, .inl (.inl ha)⟩, fun D nD => ?_⟩
    refine lc_tup (xs := ts.map V.ref) (fun i H' => Same H H' ∧ ∃ us : List Addr, H' D = some (.lst (us.map V.ref)) ∧ Paired (fun p a => PrAt H' a p) (c.take i) us) ⟨same_upd nD, [], upd_same, .nil⟩ (fun i H1 hi hW => .inl (.inl (hW.1 _ _ ha)))
      (fun i x H' hx ⟨sm, us, hD, hus⟩ => ?_) (fun H' ⟨sm, us, hD, hus⟩ => ?_)
    · obtain ⟨t, ht, rfl⟩ := get_map hx
      obtain ⟨p, hp, pa⟩ := paired_at hts ht
      have hui : us.length ≤ i := by
        rw [← paired_len hus, List.length_take]
        omega
      have hi : i < c.length := (List.getElem?_eq_some_iff.mp hp).1
      refine ⟨t, _, rfl, .inl (.inl (sm _ _ pa)), rfl, _, _, rfl, _, _, rfl, rfl, rfl, yes ⟨_, rfl, _, rfl, by show 2 ≤ sizeLine; decide, fun T nT => ?_⟩⟩
      have sT : Same H' (upd H' T (.tup [.str p.1, .str p.2])) := same_upd nT
      refine ⟨_, sT _ _ hD, by rw [List.length_map]; exact lt_line (by omega), same_chg (sm.trans sT) nD, us ++ [T], ?_, ?_⟩
      · rw [upd_same, List.map_append]
        rfl
      · have nTD : T ≠ D := fun e => by
          rw [e] at nT
          rw [hD] at nT
          cases nT
        rw [take_snoc hp]
        refine prd_snoc ?_ (L2.Paired.mapP hus fun p b h => ?_)
        · show upd _ D _ T = _
          rw [upd_ne nTD, upd_same]
        · show upd _ D _ b = _
          rw [upd_ne (ne_of (sT _ _ h) (sT _ _ hD) (by intro z; cases z))]
          exact sT _ _ h
    · have e1 : c.take (ts.map V.ref).length = c := by
        rw [List.take_of_length_le]
        rw [List.length_map, paired_len hts]
        exact Nat.le_refl _
      rw [e1] at hus
      refine ⟨D, _, rfl, .inl ⟨.inl (.inl hD), fun r nr => q _ r (sm.trans (same_upd nr)) (Same.none sm nr) ⟨us, upd_same, L2.Paired.mapP hus fun p b h => same_upd nr _ _ h⟩⟩⟩
/-! ### gone -/
theorem scGone : FnScope ["told", "pair", "one", "other"] ["told", "pair"] dGone.scope := ⟨rfl, rfl, rfl, by decide +kernel, rfl, by decide +kernel, by decide +kernel⟩
def spGone : Sp := fun vs H Q _ => ∃ (d b : Addr) (c : List (Str × Str)) (p : Str × Str), vs = [.ref d, .ref b] ∧ H d = some (.dK (tellD c)) ∧ PrAt H b p ∧ p.1 ∈ c.map (·.1) ∧ p.2 ∈ c.map (·.1) ∧
  ∀ H' r, Same H H' → PrAt H' r (gone (tell c) p) → Q (.ref r) H'
theorem ok_gone (e : En P w K mg base) {k : Nat} : Ok P w K mg base (k + 1) dGone ["told", "pair"] spGone := by
  obtain ⟨fd, F⟩ := e.fd 9
  refine ok_by F rfl scGone (fun _ _ _ _ _ _ us hl => match us, hl with | [_, _], _ => rfl) (fun vs H Q E h => ?_) (fun cdv A outer s H vs Q E hr h => ?_)
  · obtain ⟨d, b, c, p, rfl, _⟩ := h
    rfl
  · obtain ⟨d, b, c, p, rfl, hd, hb, h1, h2, q⟩ := h
    refine ⟨_, pss_cons (ps_par (by rfl) scGone.nd (i := 2) (j := 3) rfl rfl (by decide) rfl rfl (pa_cons (pe_dget (hu_of hr) (pv 0) (pe_ix ix_tup (pv 1) pe_int (fun _ _ => rfl)) (fun _ _ => rfl)) (pa_cons (pe_dget (hu_of hr) (pv 0) (pe_ix ix_tup (pv 1) pe_int (fun _ _ => rfl)) (fun _ _ => rfl)) pa_nil)) (by rfl))
      (pss_one (ps_ret (pe_ifExp (pt_cmpR op_eq (pv 2) (pv 3) (nomark _)) (pv 1) (pe_tup (pa_cons (pv 2) (pa_cons (pv 3) pa_nil)))))), ?_⟩
    have g1 : DGet H d (.str p.1) (some (.str (tell c p.1))) := by
      rw [← tellD_in h1]
      exact DGet.k (k := Sum.inr p.1) hd
    have g2 : DGet H d (.str p.2) (some (.str (tell c p.2))) := by
      rw [← tellD_in h2]
      exact DGet.k (k := Sum.inr p.2) hd
    refine ⟨.ref d, rfl, .ref b, rfl, b, _, _, _, rfl, rfl, .inl (.inl hb), atI_nat (xs := [V.str p.1, V.str p.2]) (j := 0) rfl, d, _, rfl, g1, .ref d, rfl, .ref b, rfl, b, _, _, _, rfl, rfl, .inl (.inl hb), atI_nat (xs := [V.str p.1, V.str p.2]) (j := 1) rfl, d, _, rfl, g2, _, _, rfl, ?_⟩
    refine ⟨_, rfl, _, rfl, rfl, _, rfl, ?_⟩
    by_cases e : tell c p.1 = tell c p.2
    · rw [decide_eq_true (by rw [e])]
      refine iteT ⟨_, rfl, q _ b (fun _ _ z => z) ?_⟩
      unfold gone
      rw [if_pos e]
      exact hb
    · rw [decide_eq_false (fun z => e (V.str.inj z))]
      refine iteF ⟨_, rfl, _, rfl, by show 2 ≤ sizeLine; decide, fun r nr => q _ r (same_upd nr) ?_⟩
      unfold gone
      rw [if_neg e]
      exact upd_same
theorem tup_put {H : Hp} {r D : Addr} {ts xs : List V} {o : HO} (h : H r = some (.tup ts)) (hD : H D = some (.lst xs)) : upd H D o r = some (.tup ts) := by
  rw [upd_ne (ne_of h hD (by intro z; cases z))]
  exact h
/-! ### a walk's reading, whatever a turn asks -/
theorem lc_any {J : It} {n : Nat} {G : Hp → Prop} {Y : Nat → Hp → V → Hp → Prop} (w : Walk J n G Y) {M : V → Hp → (Hp → Prop) → Prop} {H0 : Hp} {Qd : Hp → Prop} (Pv : Nat → Hp → Prop) (h0 : Pv 0 H0) (hG : ∀ i H, i ≤ n → Pv i H → G H)
    (hs : ∀ i x H H', i < n → Pv i H → Y i H x H' → M x H' (Pv (i + 1))) (hd : ∀ H, Pv n H → Qd H) :
    ∃ W : Nat → Nat → Hp → Prop, (∃ m, W 0 m H0) ∧ ∀ i m H, W i m H → (J.stop i H ∧ Qd H) ∨ (J.go i H ∧ ∃ Nx : Hp → Prop, (∀ H', Nx H' → ∃ m', m' < m ∧ W (i + 1) m' H') ∧ ∀ x H', J.yld i H x H' → M x H' Nx) := by
  refine ⟨fun i m H => m = n - i ∧ i ≤ n ∧ Pv i H, ⟨n, by simp, Nat.zero_le _, h0⟩, ?_⟩
  rintro i m H ⟨rfl, hi, p⟩
  have q := hG i H hi p
  by_cases hlt : i < n
  · exact .inr ⟨w.goes i H hlt q, Pv (i + 1), fun H' p' => ⟨n - (i + 1), by omega, rfl, hlt, p'⟩, fun x H' y => hs i x H H' hlt p (w.yields i H x H' hlt q y)⟩
  · have e : i = n := by omega
    subst e
    exact .inl ⟨w.stops H q, hd H p⟩
/-! ### ways_back -/
/-- a list of calls -/
def WordAt (H : Hp) (a : Addr) (cs : List (List (Str × Str))) : Prop := ∃ ts : List Addr, H a = some (.lst (ts.map V.ref)) ∧ Paired (fun c t => CallAt H t c) cs ts
/-- a list of dicts -/
def WaysAt (H : Hp) (a : Addr) (cs : List (List (Str × Str))) : Prop := ∃ ds : List Addr, H a = some (.lst (ds.map V.ref)) ∧ Paired (fun c d => H d = some (.dK (tellD c))) cs ds
theorem WordAt.same {H H' : Hp} {a : Addr} {cs : List (List (Str × Str))} (s : Same H H') (h : WordAt H a cs) : WordAt H' a cs := by
  obtain ⟨ts, e, p⟩ := h
  exact ⟨ts, s _ _ e, L2.Paired.mapP p fun c t z => CallAt.same (Same.tups s) z⟩
theorem WaysAt.same {H H' : Hp} {a : Addr} {cs : List (List (Str × Str))} (s : Same H H') (h : WaysAt H a cs) : WaysAt H' a cs := by
  obtain ⟨ts, e, p⟩ := h
  exact ⟨ts, s _ _ e, L2.Paired.mapP p fun c t z => s _ _ z⟩
/-- a call of the names: each once, told names of them -/
structure CallOk (names : List Str) (c : List (Str × Str)) : Prop where
  nd : (c.map (·.1)).Nodup
  pm : (c.map (·.1)).Perm names
  to : ∀ p ∈ c, p.2 ∈ names
theorem CallOk.len {names : List Str} {c : List (Str × Str)} (o : CallOk names c) : c.length = names.length := by
  rw [← o.pm.length_eq, List.length_map]
theorem CallOk.mem {names : List Str} {c : List (Str × Str)} (o : CallOk names c) {x : Str} (h : x ∈ names) : x ∈ c.map (·.1) := o.pm.mem_iff.mpr h
theorem CallOk.tell {names : List Str} {c : List (Str × Str)} (o : CallOk names c) {x : Str} (h : x ∈ names) : tell c x ∈ names := by
  obtain ⟨p, hp, e⟩ := List.mem_map.mp (tell_in (o.mem h))
  rw [← e]
  exact o.to p hp
theorem scWays : FnScope ["word", "call"] ["word"] dWays.scope := ⟨rfl, rfl, rfl, by decide +kernel, rfl, by decide +kernel, by decide +kernel⟩
def spWays : Sp := fun vs H Q _ => ∃ (a : Addr) (cs : List (List (Str × Str))), vs = [.ref a] ∧ WordAt H a cs ∧ (∀ c ∈ cs, (c.map (·.1)).Nodup ∧ c.length < 64) ∧ cs.length < 1000 ∧
  ∀ H' r, Same H H' → H r = none → WaysAt H' r cs.reverse → Q (.ref r) H'
theorem ok_ways (e : En P w K mg base) {k : Nat} (O : Ok P w K mg base k dByNames ["call"] spByNames) : Ok P w K mg base (k + 1) dWays ["word"] spWays := by
  obtain ⟨fd, F⟩ := e.fd 10
  refine ok_by F rfl scWays (fun _ _ _ _ _ _ us hl => match us, hl with | [_], _ => rfl) (fun vs H Q E h => ?_) (fun cdv A outer s H vs Q E hr h => ?_)
  · obtain ⟨a, cs, rfl, _⟩ := h
    rfl
  · obtain ⟨a, cs, rfl, ⟨ts, ha, hts⟩, hc, hz, q⟩ := h
    refine ⟨_, pss_one (ps_ret (pe_lc (own := [("call", 1)]) (g := gName 1) (by rfl) scWays.nd (pi_reversed (by rfl) (e.f "reversed") (pa_cons (pv 0) pa_nil)) (blkOk_by (N := ["word", "call"]) (sc := dWays.scope) (by decide +kernel))
      (fun _ _ _ _ _ => pg_name (i := 1) scWays.nd rfl (.inl rfl)) (fun _ _ _ _ _ => pts_nil) (fun _ _ _ _ _ => pe_fn O (hr.mono (Nat.le_refl _)) (Nat.le_refl _) (by rfl) (e.g "by_names") (pa_cons (pv 1) pa_nil)))), ?_⟩
    refine ⟨.ref a, rfl, a, ts.map V.ref, rfl, .inl (.inl ha), fun D nD => ?_⟩
    have hl : cs.length = ts.length := paired_len hts
    refine lc_it (walk_rev (xs := ts.map V.ref)) (fun i H' => Same H H' ∧ ∃ ds : List Addr, H' D = some (.lst (ds.map V.ref)) ∧ Paired (fun c d => H' d = some (.dK (tellD c))) (cs.reverse.take i) ds) ⟨same_upd nD, [], upd_same, .nil⟩
      (fun i H' _ hW => .inl (.inl (hW.1 _ _ ha))) (fun i x H1 H2 hi ⟨sm, ds, hD, hds⟩ hy => ?_) (fun H' ⟨sm, ds, hD, hds⟩ => ?_)
    · obtain ⟨rfl, hx⟩ := hy
      obtain ⟨t, ht, rfl⟩ := get_map hx
      obtain ⟨c, hcc, ca⟩ := paired_at hts ht
      rw [List.length_map] at hi hcc
      have hrev : cs.reverse[i]? = some c := by
        rw [List.getElem?_reverse (by omega), hl]
        exact hcc
      have hdi : ds.length ≤ i := by
        rw [← paired_len hds, List.length_take]
        omega
      obtain ⟨n1, n2⟩ := hc c (List.mem_of_getElem? hcc)
      refine ⟨rfl, yes ⟨_, rfl, t, c, rfl, CallAt.same (Same.tups sm) ca, n1, n2, fun H' d s' nd hd => ?_⟩⟩
      refine ⟨_, s' _ _ hD, by rw [List.length_map]; exact Nat.lt_of_lt_of_le (by omega : ds.length < 1000) (by decide), same_chg (sm.trans s') nD, ds ++ [d], ?_, ?_⟩
      · rw [upd_same, List.map_append]
        rfl
      · rw [take_snoc hrev]
        refine prd_snoc ?_ (L2.Paired.mapP hds fun p b h => ?_)
        · show upd _ D _ d = _
          rw [upd_ne (ne_of hd (s' _ _ hD) (by intro z; cases z))]
          exact hd
        · show upd _ D _ b = _
          rw [upd_ne (ne_of (s' _ _ h) (s' _ _ hD) (by intro z; cases z))]
          exact s' _ _ h
    · rw [List.length_map] at hds
      rw [List.take_of_length_le (by rw [List.length_reverse, hl]; exact Nat.le_refl _)] at hds
      exact q _ D sm nD ⟨ds, hD, hds⟩
/-! ### walked -/
theorem scWalked : FnScope ["ways", "pair", "found", "told"] ["ways", "pair"] dWalked.scope := ⟨rfl, rfl, rfl, by decide +kernel, rfl, by decide +kernel, by decide +kernel⟩
/-- through the ways -/
def goneAll (cs : List (List (Str × Str))) (p : Str × Str) : Str × Str := cs.foldl (fun q c => gone (tell c) q) p
theorem goneAll_mem {names : List Str} : ∀ {cs : List (List (Str × Str))} {p : Str × Str}, (∀ c ∈ cs, CallOk names c) → p.1 ∈ names ∧ p.2 ∈ names → (goneAll cs p).1 ∈ names ∧ (goneAll cs p).2 ∈ names
  | [], _, _, h => h
  | c :: cs, p, ho, h => goneAll_mem (cs := cs) (fun c hc => ho c (List.mem_cons_of_mem _ hc)) (gone_mem (fun x hx => (ho c (List.mem_cons_self ..)).tell hx) h)
theorem goneAll_take {cs : List (List (Str × Str))} {p : Str × Str} {i : Nat} {c : List (Str × Str)} (h : cs[i]? = some c) : goneAll (cs.take (i + 1)) p = gone (tell c) (goneAll (cs.take i) p) := by
  rw [take_snoc h]
  unfold goneAll
  rw [List.foldl_append]
  rfl
def spWalked : Sp := fun vs H Q _ => ∃ (a b : Addr) (cs : List (List (Str × Str))) (names : List Str) (p : Str × Str), vs = [.ref a, .ref b] ∧ WaysAt H a cs ∧ PrAt H b p ∧ (∀ c ∈ cs, CallOk names c) ∧ (p.1 ∈ names ∧ p.2 ∈ names) ∧ cs.length < 1000 ∧
  ∀ H' r xs z, Same H H' → H r = none → H' r = some (.lst (xs ++ [V.ref z])) → PrAt H' z (goneAll cs p) → Q (.ref r) H'
theorem ok_walked (e : En P w K mg base) {k : Nat} (O : Ok P w K mg base k dGone ["told", "pair"] spGone) : Ok P w K mg base (k + 1) dWalked ["ways", "pair"] spWalked := by
  obtain ⟨fd, F⟩ := e.fd 11
  refine ok_by F rfl scWalked (fun _ _ _ _ _ _ us hl => match us, hl with | [_, _], _ => rfl) (fun vs H Q E h => ?_) (fun cdv A outer s H vs Q E hr h => ?_)
  · obtain ⟨a, b, cs, names, p, rfl, _⟩ := h
    rfl
  · obtain ⟨a, b, cs, names, p, rfl, ⟨ds, ha, hds⟩, hb, hc, hp, hz, q⟩ := h
    refine ⟨_, pss_cons (ps_set (i := 2) scWalked.nd rfl (.inl rfl) (pe_lst (pa_cons (pv 1) pa_nil)))
      (pss_cons (ps_for PassesOwn.never rfl (pi_list (pv 0)) (pg_name (i := 3) scWalked.nd rfl (.inl rfl))
        (pss_one (ps_expr (pe_bm PySem.F.plainAttrs_list PySem.F.slot_list_append PySem.F.type_list_append mt_append (pv 2) (pa_cons (pe_fn O hr (Nat.le_refl _) (by rfl) (e.g "gone") (pa_cons (pv 3) (pa_cons (pe_ix ix_list (pv 2) (pe_un un_neg pe_int) (fun _ _ => rfl)) pa_nil))) pa_nil)))))
      (pss_one (ps_ret (pv 2)))), ?_⟩
    refine ⟨_, rfl, by show 1 ≤ sizeLine; decide, fun D nD => ?_⟩
    refine ⟨.ref a, rfl, a, rfl, ⟨_, .inl (.inl (same_upd nD _ _ ha))⟩, for_list (xs := ds.map V.ref) (fun i σ H' => ∃ y, σ = [some (.ref a), some (.ref b), some (.ref D), y] ∧ Same H H' ∧ ∃ xs z, xs.length = i ∧ H' D = some (.lst (xs ++ [V.ref z])) ∧ PrAt H' z (goneAll (cs.take i) p)) ?_
      (fun i σ H' _ ⟨_, _, sm, _⟩ => .inl (.inl (sm _ _ ha))) (fun i v σ H' hv ⟨y, e1, sm, xs, z, hxl, hD, hzp⟩ => ?_) (fun σ H' ⟨y, e1, sm, xs, z, hxl, hD, hzp⟩ => ?_)⟩
    · exact ⟨none, rfl, same_upd nD, [], b, rfl, upd_same, same_upd nD _ _ hb⟩
    · subst e1
      obtain ⟨d, hd, rfl⟩ := get_map hv
      obtain ⟨c, hcc, cd⟩ := paired_at hds hd
      have hm := goneAll_mem (cs := cs.take i) (fun c hc' => hc c (List.mem_of_mem_take hc')) hp
      have ho := hc c (List.mem_of_getElem? hcc)
      have hi : i < cs.length := (List.getElem?_eq_some_iff.mp hcc).1
      refine ⟨.ref D, rfl, .inl ⟨rfl, _, .inl (.inl hD)⟩, .ref d, rfl, .ref D, rfl, 1, rfl, D, _, -1, _, rfl, rfl, .inl (.inl hD), atI_last xs (V.ref z), ?_⟩
      refine ⟨d, z, c, _, rfl, sm _ _ cd, hzp, ho.mem hm.1, ho.mem hm.2, fun H2 r s2 hr2 => ?_⟩
      refine ⟨D, _, _, rfl, rfl, s2 _ _ hD, ?_, ?_⟩
      · rw [List.length_append, hxl]
        exact Nat.lt_of_lt_of_le (show i + 1 < 2000 by omega) (by decide)
      · refine ⟨some (.ref d), rfl, same_chg (sm.trans s2) nD, xs ++ [V.ref z], r, by rw [List.length_append, hxl]; rfl, upd_same, ?_⟩
        rw [goneAll_take hcc]
        exact tup_put hr2 (s2 _ _ hD)
    · subst e1
      rw [List.length_map, ← paired_len hds, List.take_of_length_le (Nat.le_refl _)] at hzp
      exact ⟨_, rfl, q _ D xs z sm nD hD hzp⟩
end
end Sb
/-! all pairs, whom they go to. -/
namespace Sb
open PySem PySem.Spec PyProof.Rows L2 LamX
/-- the pairs of unlike names, one by one -/
def pairsOf (xs : List Str) (one : Str) : List (Str × Str) := (xs.filter fun o => decide (one ≠ o)).map fun o => (one, o)
def pairsF (xs ys : List Str) : List (Str × Str) := ys.flatMap (pairsOf xs)
theorem mem_pairsF {xs ys : List Str} {p : Str × Str} : p ∈ pairsF xs ys ↔ p.1 ∈ ys ∧ p.2 ∈ xs ∧ p.1 ≠ p.2 := by
  unfold pairsF pairsOf
  rw [List.mem_flatMap]
  constructor
  · rintro ⟨a, ha, h⟩
    obtain ⟨b, hb, rfl⟩ := List.mem_map.mp h
    rw [List.mem_filter] at hb
    exact ⟨ha, hb.1, of_decide_eq_true hb.2⟩
  · rintro ⟨h1, h2, h3⟩
    exact ⟨p.1, h1, List.mem_map.mpr ⟨p.2, List.mem_filter.mpr ⟨h2, decide_eq_true h3⟩, rfl⟩⟩
/-- a list of pairs -/
def PairsAt (H : Hp) (a : Addr) (ps : List (Str × Str)) : Prop := ∃ ts : List Addr, H a = some (.lst (ts.map V.ref)) ∧ Paired (fun p t => PrAt H t p) ps ts
section
variable {P : Program} {w : World} {K : PySem.W.Frag} {mg : Str → Option Value} {base : Heap}
theorem scPairs : FnScope ["names", "one", "other"] ["names"] dPairs.scope := ⟨rfl, rfl, rfl, by decide +kernel, rfl, by decide +kernel, by decide +kernel⟩
def spPairs : Sp := fun vs H Q _ => ∃ (a : Addr) (xs : List Str), vs = [.ref a] ∧ RowAt H a xs ∧ xs.length < 64 ∧ ∀ H' r, Same H H' → H r = none → PairsAt H' r (pairsF xs xs) → (pairsF xs xs).length ≤ 4096 → Q (.ref r) H'
theorem ok_pairs (e : En P w K mg base) {k : Nat} : Ok P w K mg base (k + 1) dPairs ["names"] spPairs := by
  obtain ⟨fd, F⟩ := e.fd 12
  refine ok_by F rfl scPairs (fun _ _ _ _ _ _ us hl => match us, hl with | [_], _ => rfl) (fun vs H Q E h => ?_) (fun cdv A outer s H vs Q E hr h => ?_)
  · obtain ⟨a, xs, rfl, _⟩ := h
    rfl
  · obtain ⟨a, xs, rfl, ha, hz, q⟩ := h
    refine ⟨_, pss_one (ps_ret (pe_lc2 (own := [("one", 1), ("other", 2)]) (vs1 := [2]) (wi1 := iTup K (tVar 0)) (g := gName 1) (g1 := gName 2) (by rfl) scPairs.nd (pi_tup (pv 0)) (blkOk_by (N := ["names", "one", "other"]) (sc := dPairs.scope) (by decide +kernel)) (by decide)
      (fun _ _ _ _ _ => pg_name (i := 1) scPairs.nd rfl (.inl rfl)) (fun _ _ _ _ _ => pts_nil) (fun _ _ _ _ _ => pi_tup (pv 0)) (fun _ _ _ _ _ => pg_name (i := 2) scPairs.nd rfl (.inl rfl))
      (fun _ _ _ _ _ => pts_one (pt_cmpR op_ne (pv 1) (pv 2) (nomark _))) (fun _ _ _ _ _ => pe_tup (pa_cons (pv 1) (pa_cons (pv 2) pa_nil))))), ?_⟩
    refine ⟨.ref a, rfl, a, rfl, ⟨_, .inl (.inl ha)⟩, fun D nD => ?_⟩
    refine lc_any (walk_tup (xs := xs.map V.str)) (fun i H' => Same H H' ∧ ∃ ts : List Addr, H' D = some (.lst (ts.map V.ref)) ∧ ts.length ≤ i * 64 ∧ Paired (fun p t => PrAt H' t p) (pairsF xs (xs.take i)) ts) ⟨same_upd nD, [], upd_same, Nat.zero_le _, .nil⟩
      (fun i H' _ hW => .inl (.inl (hW.1 _ _ ha))) (fun i v H1 H2 hi ⟨sm, ts, hD, hl, hts⟩ hy => ?_) (fun H' ⟨sm, ts, hD, hl, hts⟩ => ?_)
    · obtain ⟨rfl, hv⟩ := hy
      obtain ⟨x, hx, rfl⟩ := get_map hv
      rw [List.length_map] at hi
      refine ⟨rfl, yes (A := fun H => _) ⟨.ref a, rfl, a, rfl, ⟨_, .inl (.inl (sm _ _ ha))⟩, ?_⟩⟩
      refine lc_any (walk_tup (xs := xs.map V.str)) (fun j H' => Same H H' ∧ ∃ ts : List Addr, H' D = some (.lst (ts.map V.ref)) ∧ ts.length ≤ i * 64 + j ∧ Paired (fun p t => PrAt H' t p) (pairsF xs (xs.take i) ++ pairsOf (xs.take j) x) ts) ⟨sm, ts, hD, hl, by rw [show pairsOf (xs.take 0) x = [] from rfl, List.append_nil]; exact hts⟩
        (fun j H' _ hW => .inl (.inl (hW.1 _ _ ha))) (fun j v H1 H2 hj ⟨sm, ts, hD, hl, hts⟩ hy => ?_) (fun H' ⟨sm, ts, hD, hl, hts⟩ => ?_)
      · obtain ⟨rfl, hv⟩ := hy
        obtain ⟨y, hyy, rfl⟩ := get_map hv
        rw [List.length_map] at hj
        refine ⟨rfl, _, rfl, _, rfl, rfl, _, rfl, ?_⟩
        by_cases exy : x = y
        · subst exy
          rw [decide_eq_true rfl]
          refine iteF ⟨sm, ts, hD, by omega, ?_⟩
          rw [show pairsOf (xs.take (j + 1)) x = pairsOf (xs.take j) x by
            unfold pairsOf
            rw [take_snoc hyy, List.filter_append]
            simp]
          exact hts
        · rw [decide_eq_false (fun z => exy (V.str.inj z))]
          refine iteT ⟨_, rfl, _, rfl, by show 2 ≤ sizeLine; decide, fun T nT => ?_⟩
          have sT : Same H2 (upd H2 T (.tup [.str x, .str y])) := same_upd nT
          have nTD : T ≠ D := fun e => by
            rw [e] at nT
            rw [hD] at nT
            cases nT
          refine ⟨_, sT _ _ hD, ?_, same_chg (sm.trans sT) nD, ts ++ [T], ?_, ?_, ?_⟩
          · rw [List.length_map]
            exact Nat.lt_of_lt_of_le (show ts.length < 10000 by omega) (by decide)
          · rw [upd_same, List.map_append]
            rfl
          · rw [List.length_append]
            show ts.length + 1 ≤ _
            omega
          · rw [show pairsOf (xs.take (j + 1)) x = pairsOf (xs.take j) x ++ [(x, y)] by
              unfold pairsOf
              rw [take_snoc hyy, List.filter_append, List.map_append]
              simp [exy], ← List.append_assoc]
            refine prd_snoc ?_ (L2.Paired.mapP hts fun p b h => tup_put (sT _ _ h) (sT _ _ hD))
            show upd _ D _ T = _
            rw [upd_ne nTD, upd_same]
      · refine ⟨sm, ts, hD, ?_, ?_⟩
        · rw [List.length_map] at hl
          omega
        · rw [List.length_map, List.take_length] at hts
          rw [show pairsF xs (xs.take (i + 1)) = pairsF xs (xs.take i) ++ pairsOf xs x by
            unfold pairsF
            rw [take_snoc hx, List.flatMap_append, List.flatMap_singleton]]
          exact hts
    · rw [List.length_map, List.take_length] at hts
      rw [List.length_map] at hl
      refine q _ D sm nD ⟨ts, hD, hts⟩ ?_
      rw [paired_len hts]
      omega
/-! ### told_pairs -/
theorem scTold : FnScope ["names", "word", "ways", "pair"] ["names", "word"] dTold.scope := ⟨rfl, rfl, rfl, by decide +kernel, rfl, by decide +kernel, by decide +kernel⟩
/-- the dict of the pairs -/
def ToldAt (H : Hp) (d : Addr) (xs : List Str) (cs : List (List (Str × Str))) : Prop := ∃ kvs : List (List Key × V), H d = some (.dT kvs) ∧ ∀ x ∈ xs, ∀ y ∈ xs, x ≠ y → ∃ z, valV kvs [Sum.inr x, Sum.inr y] = some (.ref z) ∧ PrAt H z (goneAll cs.reverse (x, y))
theorem ToldAt.same {H H' : Hp} {d : Addr} {xs : List Str} {cs : List (List (Str × Str))} (s : Same H H') (h : ToldAt H d xs cs) : ToldAt H' d xs cs := by
  obtain ⟨kvs, hd, f⟩ := h
  refine ⟨kvs, s _ _ hd, fun x hx y hy hn => ?_⟩
  obtain ⟨z, h1, h2⟩ := f x hx y hy hn
  exact ⟨z, h1, s _ _ h2⟩
def spTold : Sp := fun vs H Q _ => ∃ (a wa : Addr) (xs : List Str) (cs : List (List (Str × Str))), vs = [.ref a, .ref wa] ∧ RowAt H a xs ∧ xs.length < 64 ∧ WordAt H wa cs ∧ (∀ c ∈ cs, CallOk xs c) ∧ cs.length < 1000 ∧
  ∀ H' d, Same H H' → H d = none → ToldAt H' d xs cs → Q (.ref d) H'
theorem ok_told (e : En P w K mg base) {k : Nat} (OW : Ok P w K mg base k dWays ["word"] spWays) (OP : Ok P w K mg base k dPairs ["names"] spPairs) (OK : Ok P w K mg base k dWalked ["ways", "pair"] spWalked) :
    Ok P w K mg base (k + 1) dTold ["names", "word"] spTold := by
  obtain ⟨fd, F⟩ := e.fd 13
  refine ok_by F rfl scTold (fun _ _ _ _ _ _ us hl => match us, hl with | [_, _], _ => rfl) (fun vs H Q E h => ?_) (fun cdv A outer s H vs Q E hr h => ?_)
  · obtain ⟨a, wa, xs, cs, rfl, _⟩ := h
    rfl
  · obtain ⟨a, wa, xs, cs, rfl, ha, hz, hw, hc, hcz, q⟩ := h
    refine ⟨_, pss_cons (ps_set (i := 2) scTold.nd rfl (.inr rfl) (pe_fn OW hr (Nat.le_refl _) (by rfl) (e.g "ways_back") (pa_cons (pv 1) pa_nil)))
      (pss_one (ps_ret (pe_dcT (own := [("pair", 3)]) (g := gName 3) (hr.units0) (by rfl) scTold.nd (pi_list (pe_fn OP hr (Nat.le_refl _) (by rfl) (e.g "all_pairs") (pa_cons (pv 0) pa_nil))) (blkOk_by (N := ["names", "word", "ways", "pair"]) (sc := dTold.scope) (by decide +kernel))
        (fun _ _ _ _ _ => pg_name (i := 3) scTold.nd rfl (.inl rfl)) (fun _ _ _ _ _ => pv 3) (fun _ _ _ _ _ => pe_ix (r := rIxL K) ix_list (pe_fn OK (hr.mono (Nat.le_refl _)) (Nat.le_refl _) (by rfl) (e.g "walked") (pa_cons (pv 2) (pa_cons (pv 3) pa_nil))) (pe_un un_neg pe_int) (fun _ _ => rfl))))), ?_⟩
    refine ⟨.ref wa, rfl, wa, cs, rfl, hw, fun c h => ⟨(hc c h).nd, by rw [(hc c h).len]; exact hz⟩, hcz, fun H1 r s1 nr hwr => ?_⟩
    refine ⟨.ref a, rfl, a, xs, rfl, s1 _ _ ha, hz, fun H2 r2 s2 nr2 ⟨ts, hts, hps⟩ hpl => ?_⟩
    have s12 := s1.trans s2
    have hwr2 := WaysAt.same s2 hwr
    refine ⟨r2, rfl, ⟨_, .inl (.inl hts)⟩, fun D nD => ?_⟩
    refine lc_any (walk_list (xs := ts.map V.ref)) (fun i H' => Same H2 H' ∧ ∃ kvs : List (List Key × V), H' D = some (.dT kvs) ∧ kvs.length ≤ i ∧ ∀ p ∈ (pairsF xs xs).take i, ∃ z, valV kvs [Sum.inr p.1, Sum.inr p.2] = some (.ref z) ∧ PrAt H' z (goneAll cs.reverse p)) ⟨same_upd nD, [], upd_same, Nat.zero_le _, by simp⟩
      (fun i H' _ hW => .inl (.inl (hW.1 _ _ hts))) (fun i v H3 H4 hi ⟨sm, kvs, hD, hl, hk⟩ hy => ?_) (fun H' ⟨sm, kvs, hD, hl, hk⟩ => ?_)
    · obtain ⟨rfl, hv⟩ := hy
      obtain ⟨t, ht, rfl⟩ := get_map hv
      obtain ⟨p, hp, hpa⟩ := paired_at hps ht
      obtain ⟨h1, h2, h3⟩ := mem_pairsF.mp (List.mem_of_getElem? hp)
      have hip : i < (pairsF xs xs).length := (List.getElem?_eq_some_iff.mp hp).1
      refine ⟨rfl, _, rfl, _, rfl, _, rfl, r, t, cs.reverse, xs, p, rfl, WaysAt.same sm hwr2, sm _ _ hpa, fun c h => hc c (List.mem_reverse.mp h), ⟨h1, h2⟩, by rw [List.length_reverse]; exact hcz, fun H5 l zs z s5 nl hl5 hz5 => ?_⟩
      refine ⟨1, rfl, l, _, -1, _, rfl, rfl, .inl (.inl hl5), atI_last zs (V.ref z), ?_⟩
      refine ⟨kvs, [Sum.inr p.1, Sum.inr p.2], t, rfl, s5 _ _ (sm _ _ hpa), s5 _ _ hD, Nat.lt_of_le_of_lt (by omega : kvs.length ≤ 4096) (by decide), same_chg (sm.trans s5) nD, _, upd_same, ?_, fun p' hp' => ?_⟩
      · exact Nat.le_trans (length_putK kvs _ _) (by omega)
      · rw [take_snoc hp] at hp'
        have keep : ∀ (b : Addr) (q : Str × Str), PrAt H5 b q → PrAt (upd H5 D (.dT (putK kvs [Sum.inr p.1, Sum.inr p.2] (.ref z)))) b q := fun b q h => by
          show upd _ D _ b = _
          rw [upd_ne (ne_of h (s5 _ _ hD) (by intro z; cases z))]
          exact h
        rw [valV_put]
        by_cases ep : p' = p
        · subst ep
          rw [if_pos rfl]
          exact ⟨z, rfl, keep _ _ hz5⟩
        · rw [if_neg (fun z => ep (by
            have e1 := Sum.inr.inj (List.cons.inj z).1
            have e2 := Sum.inr.inj (List.cons.inj (List.cons.inj z).2).1
            exact Prod.ext e1 e2))]
          rcases List.mem_append.mp hp' with m | m
          · obtain ⟨z', q1, q2⟩ := hk p' m
            exact ⟨z', q1, keep _ _ (s5 _ _ q2)⟩
          · exact absurd (by simpa using m) ep
    · rw [List.length_map, ← paired_len hps, List.take_length] at hk
      exact q _ D (s12.trans sm) (Same.none s12 nD) ⟨kvs, hD, fun x hx y hy hn => hk (x, y) (mem_pairsF.mpr ⟨hx, hy, hn⟩)⟩
/-! ### is_less -/
theorem scLess : FnScope ["places", "pair"] ["places", "pair"] dLess.scope := ⟨rfl, rfl, rfl, by decide +kernel, rfl, by decide +kernel, by decide +kernel⟩
def spLess : Sp := fun vs H Q _ => ∃ (d b : Addr) (row : List Str) (p : Str × Str), vs = [.ref d, .ref b] ∧ H d = some (.dK (placesD row)) ∧ PrAt H b p ∧ (p.1 ∈ row ∧ p.2 ∈ row) ∧ Q (.bl (decide (ahead row p))) H
theorem ok_less (e : En P w K mg base) {k : Nat} : Ok P w K mg base (k + 1) dLess ["places", "pair"] spLess := by
  obtain ⟨fd, F⟩ := e.fd 15
  refine ok_by F rfl scLess (fun _ _ _ _ _ _ us hl => match us, hl with | [_, _], _ => rfl) (fun vs H Q E h => ?_) (fun cdv A outer s H vs Q E hr h => ?_)
  · obtain ⟨d, b, row, p, rfl, _⟩ := h
    rfl
  · obtain ⟨d, b, row, p, rfl, hd, hb, hp, q⟩ := h
    refine ⟨_, pss_one (ps_ret (pe_cmp (pc_lt (pe_dget (hu_of hr) (pv 0) (pe_ix ix_tup (pv 1) pe_int (fun _ _ => rfl)) (fun _ _ => rfl)) (pe_dget (hu_of hr) (pv 0) (pe_ix ix_tup (pv 1) pe_int (fun _ _ => rfl)) (fun _ _ => rfl))) rfl)), ?_⟩
    have g1 : ∀ x ∈ row, DGet H d (.str x) (some (.int ((pos row x : Nat) : Int))) := fun x hx => by
      rw [← places_in hx]
      exact DGet.k (k := Sum.inr x) hd
    refine ⟨.ref d, rfl, .ref b, rfl, b, _, _, _, rfl, rfl, .inl (.inl hb), atI_nat (xs := [V.str p.1, V.str p.2]) (j := 0) rfl, d, _, rfl, g1 _ hp.1, .ref d, rfl, .ref b, rfl, b, _, _, _, rfl, rfl, .inl (.inl hb), atI_nat (xs := [V.str p.1, V.str p.2]) (j := 1) rfl, d, _, rfl, g1 _ hp.2, _, _, rfl, rfl, ?_⟩
    have e1 : decide (((pos row p.1 : Nat) : Int) < ((pos row p.2 : Nat) : Int)) = decide (ahead row p) := by
      unfold ahead
      exact decide_eq_decide.mpr (by omega)
    show Q (.bl (decide (((pos row p.1 : Nat) : Int) < ((pos row p.2 : Nat) : Int)))) H
    rw [e1]
    exact q
end
end Sb
/-! called, row_by: sorted by a lambda. -/
namespace Sb
open PySem PySem.Spec PyProof.Rows L2 LamX NdefX
/-! ### the lambda of a `return tuple(sorted(.., key = lambda ..))` -/
def lamE : Stmt → Expr
  | .Return (some (.Call _ [.Call _ _ [⟨_, e, _⟩] _] _ _)) _ => e
  | _ => .Constant .none 0 ⟨0, 0, 0, 0⟩
def lamArgs : Expr → Arguments
  | .Lambda a _ _ _ => a
  | _ => { posonlyargs := [], args := [], vararg := none, kwonlyargs := [], kw_defaults := [], kwarg := none, defaults := [] }
def lamBody : Expr → Expr
  | .Lambda _ b _ _ => b
  | e => e
def lamScope : Expr → Scope
  | .Lambda _ _ s _ => s
  | _ => { kind := .function, names := [], isGenerator := false, isCoroutine := false }
def eC : Expr := lamE (dCalled.body.getD 2 (.Pass ⟨0, 0, 0, 0⟩))
def eR : Expr := lamE (dRowBy.body.getD 2 (.Pass ⟨0, 0, 0, 0⟩))
theorem nsC : NScope ["name", "told", "places"] ["name"] ["told", "places"] (lamScope eC) := nscope_by (by decide +kernel)
theorem nsR : NScope ["name", "order"] ["name"] ["order"] (lamScope eR) := nscope_by (by decide +kernel)
abbrev lfC (q : Str) (cl : List (Str × Addr)) (c : Addr) : LF := ⟨q, lamArgs eC, lamBody eC, lamScope eC, cl, c⟩
abbrev lfR (q : Str) (cl : List (Str × Addr)) (c : Addr) : LF := ⟨q, lamArgs eR, lamBody eR, lamScope eR, cl, c⟩
section
variable {P : Program} {w : World} {K : PySem.W.Frag} {mg : Str → Option Value} {base : Heap}
def spLamC (ws : List (Option V)) : Sp := fun vs H Q _ => ∃ (td pd : Addr) (c : List (Str × Str)) (row : List Str) (x : Str), ws = [some (.ref td), some (.ref pd)] ∧ vs = [.str x] ∧ H td = some (.dK (tellD c)) ∧ H pd = some (.dK (placesD row)) ∧
  x ∈ c.map (·.1) ∧ tell c x ∈ row ∧ x ∈ row ∧ ∀ t H', Same H H' → H' t = some (.tup [.int ((pos row (tell c x) : Nat) : Int), .int ((pos row x : Nat) : Int)]) → Q (.ref t) H'
theorem lam_called {k : Nat} {q : Str} {cl : List (Str × Addr)} {f c' : Addr} : LOk P w K mg base (k + 1) f (lfC q cl c') ["name"] ["told", "places"] spLamC := by
  refine lok_of nsC (fun _ _ us hl => match us, hl with | [_], _ => rfl) (fun ws vs H Q E h => ?_) (fun A outer s H vs ws Q hr hw h => ?_)
  · obtain ⟨td, pd, c, row, x, e1, rfl, _⟩ := h
    rfl
  · obtain ⟨td, pd, c, row, x, rfl, rfl, ht, hp, hx, htx, hxr, q⟩ := h
    refine ⟨_, pe_tup (pa_cons (pe_dget (hu_of hr) (pv 2) (pe_dget (hu_of hr) (pv 1) (pv 0) (fun _ _ => rfl)) (fun _ _ => rfl)) (pa_cons (pe_dget (hu_of hr) (pv 2) (pv 0) (fun _ _ => rfl)) pa_nil)), ?_⟩
    have g1 : ∀ x ∈ row, DGet H pd (.str x) (some (.int ((pos row x : Nat) : Int))) := fun x hx => by
      rw [← places_in hx]
      exact DGet.k (k := Sum.inr x) hp
    have g2 : DGet H td (.str x) (some (.str (tell c x))) := by
      rw [← tellD_in hx]
      exact DGet.k (k := Sum.inr x) ht
    exact ⟨.ref pd, rfl, .ref td, rfl, .str x, rfl, td, _, rfl, g2, pd, _, rfl, g1 _ htx, .ref pd, rfl, .str x, rfl, pd, _, rfl, g1 _ hxr, by show 2 ≤ sizeLine; decide, fun t nt => q t _ (same_upd nt) upd_same⟩
/-- a dict of whole numbers by name -/
def numD (xs : List Str) (g : Str → Nat) : List (Key × V) := xs.map fun x => (Sum.inr x, V.int ((g x : Nat) : Int))
theorem numD_in {xs : List Str} {g : Str → Nat} {x : Str} (h : x ∈ xs) : valV (numD xs g) (Sum.inr x) = some (.int ((g x : Nat) : Int)) :=
  valV_mem (k := fun x : Str => (Sum.inr x : Key)) (v := fun x => V.int ((g x : Nat) : Int)) (fun y _ e => by rw [Sum.inr.inj e]) h
def spLamR (ws : List (Option V)) : Sp := fun vs H Q _ => ∃ (od : Addr) (xs : List Str) (g : Str → Nat) (x : Str), ws = [some (.ref od)] ∧ vs = [.str x] ∧ H od = some (.dK (numD xs g)) ∧ x ∈ xs ∧ Q (.int ((g x : Nat) : Int)) H
theorem lam_rowBy {k : Nat} {q : Str} {cl : List (Str × Addr)} {f c' : Addr} : LOk P w K mg base (k + 1) f (lfR q cl c') ["name"] ["order"] spLamR := by
  refine lok_of nsR (fun _ _ us hl => match us, hl with | [_], _ => rfl) (fun ws vs H Q E h => ?_) (fun A outer s H vs ws Q hr hw h => ?_)
  · obtain ⟨od, xs, g, x, e1, rfl, _⟩ := h
    rfl
  · obtain ⟨od, xs, g, x, rfl, rfl, ho, hx, q⟩ := h
    refine ⟨_, pe_dget (hu_of hr) (pv 1) (pv 0) (fun _ _ => rfl), ?_⟩
    refine ⟨.ref od, rfl, .str x, rfl, od, _, rfl, ?_, q⟩
    rw [← numD_in (g := g) hx]
    exact DGet.k (k := Sum.inr x) ho
/-! ### called -/
theorem ExtN.tup {H H' : Hp} {a : Addr} {xs : List V} (e : ExtN H H') (h : H a = some (.tup xs)) : H' a = some (.tup xs) := e a _ h fun _ z => by cases z
theorem ExtN.lst {H H' : Hp} {a : Addr} {xs : List V} (e : ExtN H H') (h : H a = some (.lst xs)) : H' a = some (.lst xs) := e a _ h fun _ z => by cases z
theorem ExtN.dk {H H' : Hp} {a : Addr} {xs : List (Key × V)} (e : ExtN H H') (h : H a = some (.dK xs)) : H' a = some (.dK xs) := e a _ h fun _ z => by cases z
theorem ExtN.dt {H H' : Hp} {a : Addr} {xs : List (List Key × V)} (e : ExtN H H') (h : H a = some (.dT xs)) : H' a = some (.dT xs) := e a _ h fun _ z => by cases z
theorem ExtN.none {H H' : Hp} {a : Addr} (e : ExtN H H') (hn : ∀ ps, H a ≠ some (.tbl ps)) (h : H' a = none) : H a = none := by
  cases q : H a with
  | none => rfl
  | some o =>
    rw [e a o q fun ps z => hn ps (by rw [q, z])] at h
    cases h
theorem qC : (dCalled.qual ++ ".<locals>." ++ "<lambda>" : Str) = "called.<locals>.<lambda>" := by decide +kernel
theorem qR : (dRowBy.qual ++ ".<locals>." ++ "<lambda>" : Str) = "row_by.<locals>.<lambda>" := by decide +kernel
theorem hmC : ((He.cT K ("called", none)).2, (dCalled.qual ++ ".<locals>." ++ "<lambda>" : Str)) ∈ tabsOf K := by
  rw [qC]
  exact List.mem_cons_self
theorem hmR : ((He.cT K ("row_by", none)).2, (dRowBy.qual ++ ".<locals>." ++ "<lambda>" : Str)) ∈ tabsOf K := by
  rw [qR]
  exact List.mem_cons_of_mem _ List.mem_cons_self
theorem huC (e : En P w K mg base) : ∀ p ∈ tabsOf K, p.1 = (He.cT K ("called", none)).2 → p.2 = (dCalled.qual ++ ".<locals>." ++ "<lambda>" : Str) := by
  intro p hp h
  rw [qC]
  unfold tabsOf at hp
  rcases List.mem_cons.mp hp with z | z
  · rw [z]
  · have z := List.mem_singleton.mp z
    rw [z] at h
    exact absurd h.symm e.tne
theorem huR (e : En P w K mg base) : ∀ p ∈ tabsOf K, p.1 = (He.cT K ("row_by", none)).2 → p.2 = (dRowBy.qual ++ ".<locals>." ++ "<lambda>" : Str) := by
  intro p hp h
  rw [qR]
  unfold tabsOf at hp
  rcases List.mem_cons.mp hp with z | z
  · rw [z] at h
    exact absurd h e.tne
  · have z := List.mem_singleton.mp z
    rw [z]
theorem hfreeC : ∀ y ∈ (lamScope eC).names, y.2 = .free → dCalled.scope.names.lookup y.1 = some .cell ∨ dCalled.scope.names.lookup y.1 = some .free := by decide +kernel
theorem hfreeR : ∀ y ∈ (lamScope eR).names, y.2 = .free → dRowBy.scope.names.lookup y.1 = some .cell ∨ dRowBy.scope.names.lookup y.1 = some .free := by decide +kernel
theorem hfrC : ∀ y ∈ (["told", "places"] : List Str), (y, NameKind.free) ∈ (lamScope eC).names := by decide +kernel
theorem hfrR : ∀ y ∈ (["order"] : List Str), (y, NameKind.free) ∈ (lamScope eR).names := by decide +kernel
theorem scCalled : FnScope ["row", "call", "told", "places"] ["row", "call"] dCalled.scope := ⟨rfl, rfl, rfl, by decide +kernel, rfl, by decide +kernel, by decide +kernel⟩
def spCalled (K : PySem.W.Frag) : Sp := fun vs H Q _ => ∃ (a ca : Addr) (row : List Str) (c : List (Str × Str)), vs = [.ref a, .ref ca] ∧ RowAt H a row ∧ row.Nodup ∧ row.length < 64 ∧ (∀ x ∈ row, SOk x) ∧ CallAt H ca c ∧ CallOk row c ∧ Tabs (tabsOf K) H ∧
  ∀ H' r, ExtN H H' → Tabs (tabsOf K) H' → RowAt H' r (callF (tell c) row) → Q (.ref r) H'
theorem ok_called (e : En P w K mg base) {k : Nat} (hk : 3 ≤ k) (OA : Ok P w K mg base k dAlike ["one", "other"] spAlike) (OP : Ok P w K mg base k dPeople ["call"] spPeople) (OB : Ok P w K mg base k dByNames ["call"] spByNames) (OL : Ok P w K mg base k dPlaces ["row"] spPlaces) :
    Ok P w K mg base (k + 1) dCalled ["row", "call"] (spCalled K) := by
  obtain ⟨fd, F⟩ := e.fd 8
  refine ok_byC F rfl scCalled (fun _ _ _ _ _ _ us hl => match us, hl with | [_, _], _ => rfl) (fun vs H Q E h => ?_) (fun A outer s H vs Q E hr h => ?_)
  · obtain ⟨a, ca, row, c, rfl, _⟩ := h
    rfl
  · obtain ⟨a, ca, row, c, rfl, ha, nd, hz, hs, hc, ho, hT, q⟩ := h
    let X : Cx := (cxOf CX0 P w K mg base ["row", "call", "told", "places"] dCalled.qual dCalled.scope (He.fAd K dCalled.at_) (.ref (He.codeOf K dCalled.at_)) A outer s H E).nox
    refine ⟨_, pss_cons (ps_expr (pe_fn OA hr (Nat.le_refl _) (by rfl) (e.g "look_alike") (pa_cons (pv 0) (pa_cons (pe_fn OP hr (Nat.le_refl _) (by rfl) (e.g "people") (pa_cons (pv 1) pa_nil)) pa_nil))))
      (pss_cons (ps_asg (pe_tup (pa_cons (pe_fn OB hr (Nat.le_refl _) (by rfl) (e.g "by_names") (pa_cons (pv 1) pa_nil)) (pa_cons (pe_fn OL hr (Nat.le_refl _) (by rfl) (e.g "places_of") (pa_cons (pv 0) pa_nil)) pa_nil)))
        (pg_tup rfl (pgs_cons (pg_name (i := 2) scCalled.nd rfl (.inr rfl)) (pgs_cons (pg_name (i := 3) scCalled.nd rfl (.inr rfl)) pgs_nil))))
      (pss_one (ps_ret (pe_callTy call_tuple_of (by rfl) (e.f "tuple") (by decide +kernel) (pa_cons (pe_sortLam (mk := fun c' => lfC (X.env.qual ++ "<lambda>") (cloFrom X.env.cells (lamScope eC).names []) c') (js := [2, 3]) (fr := ["told", "places"]) (k := 1) kd_pair
        (fun f c' => lam_called) (fun _ => rfl) (fun ok => Caps.made (scope := lamScope eC) ok hfreeC hfrC rfl) (hr.mono hk) (by rfl) (e.f "sorted") (pa_cons (pv 0) pa_nil)
        (pk_cons (pe_lamF (e.tb ("called", none) (by decide)) rfl hmC (huC e) rfl hfreeC) pk_nil)) pa_nil))))), ?_⟩
    -- look_alike(row, people(call))
    refine ⟨.ref a, rfl, .ref ca, rfl, ca, c, rfl, hc, by rw [ho.len]; exact hz, fun H1 d s1 nd1 hd => ?_⟩
    refine ⟨a, d, row, c.map (·.1), rfl, s1 _ _ ha, hd, ho.pm.symm, hz, hs, fun H2 s2 => ?_⟩
    have s12 := s1.trans s2
    -- told, places = ..
    refine ⟨.ref ca, rfl, ca, c, rfl, CallAt.same (Same.tups s12) hc, ho.nd, by rw [ho.len]; exact hz, fun H3 td s3 ntd htd => ?_⟩
    have s13 := s12.trans s3
    refine ⟨.ref a, rfl, a, row, rfl, s13 _ _ ha, nd, hz, fun H4 pd s4 npd hpd => ⟨by show 2 ≤ sizeLine; decide, fun T nT => ?_⟩⟩
    have s14 := s13.trans s4
    have s5 : Same H4 (upd H4 T (.tup [.ref td, .ref pd])) := same_upd nT
    refine ⟨T, _, rfl, .inl (.inl upd_same), rfl, _, _, rfl, _, _, rfl, rfl, ?_⟩
    have htd5 := s5 _ _ (s4 _ _ htd)
    have hpd5 := s5 _ _ hpd
    have s15 := s14.trans s5
    have hT5 : Tabs (tabsOf K) (upd H4 T (.tup [.ref td, .ref pd])) := hT.ext s15
    generalize upd H4 T (.tup [.ref td, .ref pd]) = H5 at s15 hT5 htd5 hpd5 ⊢
    -- sorted(row, key = ..)
    refine ⟨.ref a, rfl, hT5, fun f c' H6 x6 t6 nf hf hc6 => ?_⟩
    have x06 : ExtN H H6 := (ExtN.of s15).trans x6
    refine ⟨a, f, c', row.map V.str, (fun v => match v with | .str x => (((pos row (tell c x) : Nat) : Int), ((pos row x : Nat) : Int)) | _ => (0, 0)), rfl, rfl, hf, hc6, .inl (.inl (ExtN.tup x06 ha)), fun v hv H7 Qk s7 hq => ?_, fun ys p H7 hpm hpw s7 np hp => ?_⟩
    · obtain ⟨x, hx, rfl⟩ := List.mem_map.mp hv
      exact ⟨td, pd, c, row, x, rfl, rfl, s7 _ _ (ExtN.dk x6 htd5), s7 _ _ (ExtN.dk x6 hpd5), ho.mem hx, ho.tell hx, hx, fun t H8 s8 h8 => hq _ H8 s8 ⟨t, rfl, h8⟩⟩
    · obtain ⟨zs, hzp, rfl⟩ := perm_lift hpm row rfl
      have hz2 : zs = callF (tell c) row := by
        refine callF_uniq nd (fun x hx => ho.tell hx) hzp ?_
        rw [List.pairwise_map] at hpw
        refine hpw.imp fun {x y} h hk => ?_
        have h2 : SrtO.lexB (((pos row (tell c y) : Nat) : Int), ((pos row y : Nat) : Int)) (((pos row (tell c x) : Nat) : Int), ((pos row x : Nat) : Int)) = false := h
        rw [show SrtO.lexB (((pos row (tell c y) : Nat) : Int), ((pos row y : Nat) : Int)) (((pos row (tell c x) : Nat) : Int), ((pos row x : Nat) : Int)) = true from SrtO.lexB_iff.mpr (by
          unfold keyLt at hk
          show ((pos row (tell c y) : Nat) : Int) < ((pos row (tell c x) : Nat) : Int) ∨ (((pos row (tell c y) : Nat) : Int) = ((pos row (tell c x) : Nat) : Int) ∧ ((pos row y : Nat) : Int) < ((pos row x : Nat) : Int))
          omega)] at h2
        cases h2
      subst hz2
      refine ⟨p, _, rfl, .inl ⟨.inl (.inl hp), fun r nr => q _ r ?_ ?_ upd_same⟩⟩
      · exact (x06.trans (.of s7)).trans (.of (same_upd nr))
      · exact (t6.ext s7).ext (same_upd nr)
end
end Sb
/-! row_by. -/
namespace Sb
open PySem PySem.Spec PyProof.Rows L2 LamX NdefX
/-- the row that a word leads a row to -/
abbrev wordC (cs : List (List (Str × Str))) (row : List Str) : List Str := word (cs.map tell) row
theorem walk_gone (cs : List (List (Str × Str))) (p : Str × Str) : walk (cs.map tell) p = goneAll cs.reverse p := by
  unfold walk goneAll
  rw [← List.map_reverse, List.foldl_map]
/-- o stands before one, by the pairs -/
def ltB (row : List Str) (cs : List (List (Str × Str))) (o one : Str) : Bool := decide (ahead row (goneAll cs.reverse (o, one)))
theorem keeps_of {row : List Str} {cs : List (List (Str × Str))} (h : ∀ c ∈ cs, CallOk row c) : Keeps row (cs.map tell) := by
  intro t ht x hx
  obtain ⟨c, hc, rfl⟩ := List.mem_map.mp ht
  exact (h c hc).tell hx
theorem CallOk.perm {names row : List Str} {c : List (Str × Str)} (o : CallOk names c) (p : names.Perm row) : CallOk row c := ⟨o.nd, o.pm.trans p, fun q hq => p.mem_iff.mp (o.to q hq)⟩
theorem rank_word {names row : List Str} {cs : List (List (Str × Str))} (hp : names.Perm row) (nd : row.Nodup) (h : ∀ c ∈ cs, CallOk row c) {x : Str} (hx : x ∈ row) : rank names (ltB row cs) x = pos (wordC cs row) x := by
  obtain ⟨pw, nw⟩ := word_perm nd (keeps_of h)
  refine rank_pos (hp.trans pw.symm) nw (pw.mem_iff.mpr hx) fun o ho hne => ?_
  unfold ltB
  rw [decide_eq_true_eq, ← walk_gone]
  exact (ahead_word (p := (o, x)) nd (keeps_of h) ⟨pw.mem_iff.mp ho, hx⟩ hne).symm
/-- the ranks of the first n names -/
def rankF (xs : List Str) (g : Str → Nat) (n : Nat) : List (Key × V) := numD (xs.take n) g
theorem rankF_snoc {xs : List Str} {g : Str → Nat} {i : Nat} {y : Str} (nd : xs.Nodup) (h : xs[i]? = some y) : putK (rankF xs g i) (Sum.inr y) (.int ((g y : Nat) : Int)) = rankF xs g (i + 1) := by
  rw [putK_new]
  · unfold rankF numD
    rw [take_snoc h, List.map_append, List.map_singleton]
  · refine valV_out (k := fun x : Str => (Sum.inr x : Key)) (v := fun x => V.int ((g x : Nat) : Int)) (fun x hx e => ?_)
    have e := Sum.inr.inj e
    subst e
    obtain ⟨j, hj, e⟩ := List.getElem_of_mem hx
    rw [List.length_take] at hj
    rw [List.getElem_take] at e
    have h1 : xs[j]? = some x := by rw [List.getElem?_eq_getElem (by omega), e]
    have := pos_at nd h1
    rw [pos_at nd h] at this
    omega
theorem rankF_len {xs : List Str} {g : Str → Nat} {i : Nat} : (rankF xs g i).length ≤ xs.length := by
  unfold rankF numD
  rw [List.length_map, List.length_take]
  omega
section
variable {P : Program} {w : World} {K : PySem.W.Frag} {mg : Str → Option Value} {base : Heap}
theorem scRowBy : FnScope ["names", "told", "places", "order", "one", "ahead", "other"] ["names", "told", "places"] dRowBy.scope := ⟨rfl, rfl, rfl, by decide +kernel, rfl, by decide +kernel, by decide +kernel⟩
def spRowBy (K : PySem.W.Frag) : Sp := fun vs H Q _ => ∃ (a td pd : Addr) (xs row : List Str) (cs : List (List (Str × Str))), vs = [.ref a, .ref td, .ref pd] ∧ RowAt H a xs ∧ xs.length < 64 ∧ xs.Perm row ∧ row.Nodup ∧ ToldAt H td xs cs ∧ (∀ c ∈ cs, CallOk row c) ∧
  H pd = some (.dK (placesD row)) ∧ Tabs (tabsOf K) H ∧ ∀ H' r, ExtN H H' → Tabs (tabsOf K) H' → RowAt H' r (wordC cs row) → Q (.ref r) H'
theorem ok_rowBy (e : En P w K mg base) {k : Nat} (hk : 3 ≤ k) (OL : Ok P w K mg base k dLess ["places", "pair"] spLess) : Ok P w K mg base (k + 1) dRowBy ["names", "told", "places"] (spRowBy K) := by
  obtain ⟨fd, F⟩ := e.fd 14
  refine ok_byC F rfl scRowBy (fun _ _ _ _ _ _ us hl => match us, hl with | [_, _, _], _ => rfl) (fun vs H Q E h => ?_) (fun A outer s H vs Q E hr h => ?_)
  · obtain ⟨a, td, pd, xs, row, cs, rfl, _⟩ := h
    rfl
  · obtain ⟨a, td, pd, xs, row, cs, rfl, ha, hz, hpm, nd, ⟨kvs, htd, hkv⟩, hc, hpd, hT, q⟩ := h
    let X : Cx := (cxOf CX0 P w K mg base ["names", "told", "places", "order", "one", "ahead", "other"] dRowBy.qual dRowBy.scope (He.fAd K dRowBy.at_) (.ref (He.codeOf K dRowBy.at_)) A outer s H E).nox
    refine ⟨_, pss_cons (ps_set (i := 3) scRowBy.nd rfl (.inr rfl) pe_dnewK)
      (pss_cons (ps_for PassesOwn.never rfl (pi_tup (pv 0)) (pg_name (i := 4) scRowBy.nd rfl (.inr rfl))
        (pss_cons (ps_setLc (i := 5) (own := [("other", 6)]) (g := gName 6) (by rfl) scRowBy.nd rfl rfl (sw_true rfl rfl rfl (by decide +kernel)) (pi_tup (pv 0)) (blkOk_by (N := ["names", "told", "places", "order", "one", "ahead", "other"]) (sc := dRowBy.scope) (by decide +kernel))
          (fun _ _ _ _ _ => pg_name (i := 6) scRowBy.nd rfl (.inl rfl))
          (fun _ _ _ _ _ => pts_one (PW.pt (pw_and (pt_cmpR op_ne (pv 6) (pv 4) (nomark _)) (pw_and1 (pt_val (pe_fn OL (hr.mono (Nat.le_refl _)) (Nat.le_refl _) (by rfl) (e.g "is_less") (pa_cons (pv 2) (pa_cons (pe_dget (hu_of hr) (pv 1) (pe_tup (pa_cons (pv 6) (pa_cons (pv 4) pa_nil))) (fun _ _ => rfl)) pa_nil))))))))
          (fun _ _ _ _ _ => pv 6))
        (pss_one (ps_dput (hu_of hr) (pv 3) (pv 4) (pe_callB call_len_seq (by rfl) (e.f "len") PySem.boot_len (pa_cons (pv 5) pa_nil)) rfl))))
      (pss_one (ps_ret (pe_callTy call_tuple_of (by rfl) (e.f "tuple") (by decide +kernel) (pa_cons (pe_sortLam (mk := fun c' => lfR (X.env.qual ++ "<lambda>") (cloFrom X.env.cells (lamScope eR).names []) c') (js := [3]) (fr := ["order"]) (k := 1) kd_int
        (fun f c' => lam_rowBy) (fun _ => rfl) (fun ok => Caps.made (scope := lamScope eR) ok hfreeR hfrR rfl) (hr.mono hk) (by rfl) (e.f "sorted") (pa_cons (pv 0) pa_nil)
        (pk_cons (pe_lamF (e.tb ("row_by", none) (by decide)) rfl hmR (huR e) rfl hfreeR) pk_nil)) pa_nil))))), ?_⟩
    obtain ⟨pw, nw⟩ := word_perm nd (keeps_of hc)
    have ndx : xs.Nodup := hpm.nodup_iff.mpr nd
    refine fun O nO => ?_
    have s0 : Same H (upd H O (.dK [])) := same_upd nO
    refine ⟨.ref a, rfl, a, rfl, ⟨_, .inl (.inl (s0 _ _ ha))⟩, for_tup (xs := xs.map V.str) (fun i σ H' => ∃ y4 y5, σ = [some (.ref a), some (.ref td), some (.ref pd), some (.ref O), y4, y5, none] ∧ Same H H' ∧ H' O = some (.dK (rankF xs (fun x => rank xs (ltB row cs) x) i))) ⟨none, none, rfl, s0, upd_same⟩
      (fun i σ H' _ ⟨_, _, _, sm, _⟩ => .inl (.inl (sm _ _ ha))) (fun i v σ H' hv ⟨y4, y5, e1, sm, hO⟩ => ?_) (fun σ H' ⟨y4, y5, e1, sm, hO⟩ => ?_)⟩
    · subst e1
      obtain ⟨x, hx, rfl⟩ := get_map hv
      have hxm := List.mem_of_getElem? hx
      refine ⟨.ref a, rfl, a, rfl, ⟨_, .inl (.inl (sm _ _ ha))⟩, fun D nD => ?_⟩
      refine lc_any (walk_tup (xs := xs.map V.str)) (fun j H2 => Same H' H2 ∧ H2 D = some (.lst (((xs.take j).filter fun o => decide (o ≠ x) && ltB row cs o x).map V.str))) ⟨same_upd nD, upd_same⟩
        (fun j H2 _ hW => .inl (.inl (hW.1 _ _ (sm _ _ ha)))) (fun j v H2 H3 hj ⟨sj, hD⟩ hy => ?_) (fun H2 ⟨sj, hD⟩ => ?_)
      · obtain ⟨rfl, hv⟩ := hy
        obtain ⟨o, ho, rfl⟩ := get_map hv
        have hom := List.mem_of_getElem? ho
        rw [List.length_map] at hj
        refine ⟨rfl, _, rfl, _, rfl, rfl, _, rfl, ?_⟩
        by_cases eox : o = x
        · subst eox
          rw [decide_eq_true rfl]
          refine iteF (iteF ⟨sj, ?_⟩)
          rw [hD, take_snoc ho, List.filter_append]
          simp
        · rw [decide_eq_false (fun z => eox (V.str.inj z))]
          obtain ⟨z, hz1, hz2⟩ := hkv o hom x hxm eox
          refine iteT ⟨.ref pd, rfl, .ref td, rfl, .str o, rfl, .str x, rfl, by show 2 ≤ sizeLine; decide, fun T nT => ?_⟩
          have s4 : Same H3 (upd H3 T (.tup [.str o, .str x])) := same_upd nT
          have sA := sm.trans (sj.trans s4)
          have hm := goneAll_mem (cs := cs.reverse) (fun c h => hc c (List.mem_reverse.mp h)) (p := (o, x)) ⟨hpm.mem_iff.mp hom, hpm.mem_iff.mp hxm⟩
          refine ⟨td, .ref z, rfl, ?_, pd, z, row, goneAll cs.reverse (o, x), rfl, sA _ _ hpd, sA _ _ hz2, hm, _, rfl, ?_⟩
          · rw [← hz1]
            exact DGet.t (k := [Sum.inr o, Sum.inr x]) (sA _ _ htd) upd_same
          · show if ltB row cs o x = true then _ else _
            cases hb : ltB row cs o x with
            | true =>
              refine iteT ⟨_, rfl, _, s4 _ _ hD, ?_, same_chg (sj.trans s4) nD, ?_⟩
              · rw [List.length_map]
                refine lt_line (Nat.lt_of_le_of_lt (List.length_filter_le _ _) ?_)
                rw [List.length_take]
                omega
              · rw [upd_same, take_snoc ho, List.filter_append, List.map_append]
                simp [eox, hb]
            | false =>
              refine iteF ⟨sj.trans s4, ?_⟩
              rw [s4 _ _ hD, take_snoc ho, List.filter_append]
              simp [hb]
      · rw [List.length_map, List.take_length] at hD
        refine ⟨.ref D, rfl, D, _, rfl, .inl (.inl (.inl hD)), .ref O, rfl, .str x, rfl, O, _, rfl, DPut.k (k := Sum.inr x) (sj _ _ hO) (Nat.lt_of_le_of_lt rankF_len (lt_line hz)), _, _, rfl, same_chg (sm.trans sj) nO, ?_⟩
        rw [upd_same, List.length_map]
        show some (HO.dK (putK _ _ (V.int ((rank xs (ltB row cs) x : Nat) : Int)))) = _
        rw [rankF_snoc (g := fun x => rank xs (ltB row cs) x) ndx hx]
    · subst e1
      rw [List.length_map] at hO
      have hO : H' O = some (.dK (numD xs fun x => rank xs (ltB row cs) x)) := by
        rw [hO]
        unfold rankF
        rw [List.take_length]
      have hT5 : Tabs (tabsOf K) H' := hT.ext sm
      refine ⟨.ref a, rfl, hT5, fun f c' H6 x6 t6 nf hf hc6 => ?_⟩
      have x06 : ExtN H H6 := (ExtN.of sm).trans x6
      refine ⟨a, f, c', xs.map V.str, (fun v => match v with | .str x => (((rank xs (ltB row cs) x : Nat) : Int), 0) | _ => (0, 0)), rfl, rfl, hf, hc6, .inl (.inl (ExtN.tup x06 ha)), fun v hv H7 Qk s7 hq => ?_, fun ys p H7 hpm' hpw s7 np hp => ?_⟩
      · obtain ⟨x, hx, rfl⟩ := List.mem_map.mp hv
        exact ⟨O, xs, fun x => rank xs (ltB row cs) x, x, rfl, rfl, s7 _ _ (ExtN.dk x6 hO), hx, hq _ H7 (fun _ _ z => z) ⟨rfl, rfl⟩⟩
      · obtain ⟨zs, hzp, rfl⟩ := perm_lift hpm' xs rfl
        have hz2 : zs = wordC cs row := by
          refine rank_row (hpm.trans pw.symm) nw (g := fun x => rank xs (ltB row cs) x) (fun x hx => rank_word hpm nd hc (pw.mem_iff.mp hx)) hzp ?_
          rw [List.pairwise_map] at hpw
          refine hpw.imp fun {x y} h hk => ?_
          have h2 : SrtO.lexB (((rank xs (ltB row cs) y : Nat) : Int), (0 : Int)) (((rank xs (ltB row cs) x : Nat) : Int), (0 : Int)) = false := h
          rw [show SrtO.lexB (((rank xs (ltB row cs) y : Nat) : Int), (0 : Int)) (((rank xs (ltB row cs) x : Nat) : Int), (0 : Int)) = true from SrtO.lexB_iff.mpr (by
            show ((rank xs (ltB row cs) y : Nat) : Int) < ((rank xs (ltB row cs) x : Nat) : Int) ∨ _
            exact .inl (by omega))] at h2
          cases h2
        subst hz2
        refine ⟨p, _, rfl, .inl ⟨.inl (.inl hp), fun r nr => q _ r ?_ ?_ upd_same⟩⟩
        · exact (x06.trans (.of s7)).trans (.of (same_upd nr))
        · exact (t6.ext s7).ext (same_upd nr)
end
end Sb
/-! Frames; the table; the pages of a square. -/
namespace Sb
open PySem PySem.Spec PyProof.Rows L2 LamX NdefX
/-! ### frames -/
/-- all that was tracked stays, but the lists at M and the tables of code objects -/
def FrT (M : List Addr) (H H' : Hp) : Prop := ∀ b o, H b = some o → (∀ ps, o ≠ .tbl ps) → ((∃ xs, o = .lst xs) → b ∉ M) → H' b = some o
/-- .. and the tables stay tables -/
def Fm (K : PySem.W.Frag) (M : List Addr) (H H' : Hp) : Prop := FrT M H H' ∧ (Tabs (tabsOf K) H → Tabs (tabsOf K) H')
section
variable {K : PySem.W.Frag} {M N : List Addr} {H H' H1 H2 : Hp}
theorem FrT.refl : FrT M H H := fun _ _ h _ _ => h
theorem FrT.trans (a : FrT M H H1) (b : FrT M H1 H2) : FrT M H H2 := fun c o h t m => b c o (a c o h t m) t m
theorem FrT.mono (a : FrT M H H') (h : ∀ b ∈ M, b ∈ N) : FrT N H H' := fun c o e t m => a c o e t fun l z => m l (h c z)
theorem Fm.refl : Fm K M H H := ⟨.refl, id⟩
theorem Fm.trans (a : Fm K M H H1) (b : Fm K M H1 H2) : Fm K M H H2 := ⟨a.1.trans b.1, fun t => b.2 (a.2 t)⟩
theorem Fm.mono (a : Fm K M H H') (h : ∀ b ∈ M, b ∈ N) : Fm K N H H' := ⟨a.1.mono h, a.2⟩
theorem Fm.of (s : Same H H') : Fm K M H H' := ⟨fun b o e _ _ => s b o e, fun t => t.ext s⟩
theorem Fm.ext (x : ExtN H H') (t : Tabs (tabsOf K) H') : Fm K M H H' := ⟨fun b o e n _ => x b o e n, fun _ => t⟩
theorem Fm.tup {a : Addr} {xs : List V} (f : Fm K M H H') (h : H a = some (.tup xs)) : H' a = some (.tup xs) := f.1 a _ h (fun _ z => by cases z) fun ⟨_, z⟩ => by cases z
theorem Fm.ins {a C dx : Addr} {fs : List (Str × V)} (f : Fm K M H H') (h : H a = some (.ins C dx fs)) : H' a = some (.ins C dx fs) := f.1 a _ h (fun _ z => by cases z) fun ⟨_, z⟩ => by cases z
theorem Fm.dk {a : Addr} {kvs : List (Key × V)} (f : Fm K M H H') (h : H a = some (.dK kvs)) : H' a = some (.dK kvs) := f.1 a _ h (fun _ z => by cases z) fun ⟨_, z⟩ => by cases z
theorem Fm.lst {a : Addr} {xs : List V} (f : Fm K M H H') (h : H a = some (.lst xs)) (m : a ∉ M) : H' a = some (.lst xs) := f.1 a _ h (fun _ z => by cases z) fun _ => m
theorem Fm.tups (f : Fm K M H H') : ∀ b xs, H b = some (.tup xs) → H' b = some (.tup xs) := fun _ _ h => f.tup h
theorem Fm.fresh {a : Addr} (f : Fm K M H H') (hn : ∀ ps, H a ≠ some (.tbl ps)) (hm : (∃ xs, H a = some (.lst xs)) → a ∉ M) (h : H' a = none) : H a = none := by
  cases q : H a with
  | none => rfl
  | some o =>
    rw [f.1 a o q (fun ps z => hn ps (by rw [q, z])) fun ⟨xs, z⟩ => hm ⟨xs, by rw [q, z]⟩] at h
    cases h
theorem tabs_upd {T : List (Addr × Str)} {p : Addr} {u o : HO} (t : Tabs T H) (e : H p = some u) (h1 : ∀ ps, u ≠ .tbl ps) (h2 : ∀ φ, u ≠ .ext φ) : Tabs T (upd H p o) := fun q hq => by
  obtain ⟨ps, a, b, c⟩ := t q hq
  refine ⟨ps, ?_, b, fun pos cv hc => ?_⟩
  · rw [upd_ne (fun z => h1 ps (by rw [z] at a; rw [e] at a; exact Option.some.inj a))]
    exact a
  · obtain ⟨c0, e1, e2⟩ := c pos cv hc
    refine ⟨c0, e1, ?_⟩
    rw [upd_ne (fun z => h2 _ (by rw [z] at e2; rw [e] at e2; exact Option.some.inj e2))]
    exact e2
/-- a list of M is written -/
theorem Fm.put {p : Addr} {xs : List V} {o : HO} (f : Fm K M H H') (h : H' p = some (.lst xs)) (m : p ∈ M) : Fm K M H (upd H' p o) := by
  refine ⟨fun b u e n l => ?_, fun t => tabs_upd (f.2 t) h (fun _ z => by cases z) fun _ z => by cases z⟩
  have e' := f.1 b u e n l
  by_cases hb : b = p
  · subst hb
    rw [h] at e'
    exact absurd m (l ⟨xs, (Option.some.inj e').symm⟩)
  · rw [upd_ne hb]
    exact e'
/-- a thing that is new since H is written -/
theorem Fm.chg {p : Addr} {u o : HO} (f : Fm K M H H') (n : H p = none) (h : H' p = some u) (h1 : ∀ ps, u ≠ .tbl ps) (h2 : ∀ φ, u ≠ .ext φ) : Fm K M H (upd H' p o) := by
  refine ⟨fun b u e n' l => ?_, fun t => tabs_upd (f.2 t) h h1 h2⟩
  rw [upd_ne (ne_of_none e n)]
  exact f.1 b u e n' l
end
/-- all but the instance at x stays -/
def But (x : Addr) (H H' : Hp) : Prop := ∀ b o, b ≠ x → H b = some o → H' b = some o
theorem But.same {x : Addr} {H H1 H2 : Hp} (a : But x H H1) (b : Same H1 H2) : But x H H2 := fun c o n h => b c o (a c o n h)
theorem But.put {x : Addr} {H H1 : Hp} {o : HO} (a : But x H H1) : But x H (upd H1 x o) := fun c u n h => by
  rw [upd_ne n]
  exact a c u n h
theorem But.tup {x a : Addr} {H H1 : Hp} {xs : List V} {C dx : Addr} {fs : List (Str × V)} (b : But x H H1) (hx : H x = some (.ins C dx fs)) (h : H a = some (.tup xs)) : H1 a = some (.tup xs) := b a _ (ne_of h hx fun z => by cases z) h
/-- behind the making of an instance -/
theorem same_made {x dx : Addr} {H H' : Hp} {o : HO} (h1 : H x = none) (h2 : H dx = none) (b : But x (upd (upd H dx (.own x)) x o) H') : Same H H' := fun c u e => b c u (ne_of_none e h1) (by
  rw [upd_ne (ne_of_none e h1), upd_ne (ne_of_none e h2)]
  exact e)
theorem same_new {x dx : Addr} {H : Hp} {o : HO} (h1 : H x = none) (h2 : H dx = none) : Same H (upd (upd H dx (.own x)) x o) := fun c u e => by
  rw [upd_ne (ne_of_none e h1), upd_ne (ne_of_none e h2)]
  exact e
section
variable {P : Program} {w : World} {K : PySem.W.Frag} {mg : Str → Option Value} {base : Heap}
/-! ### Table -/
abbrev gT (K : PySem.W.Frag) : Addr := He.ga K "Table"
abbrev gP (K : PySem.W.Frag) : Addr := He.ga K "Page"
abbrev gS (K : PySem.W.Frag) : Addr := He.ga K "Square"
theorem scTabInit : FnScope ["self", "names", "word", "call"] ["self", "names", "word"] dTabInit.scope := ⟨rfl, rfl, rfl, by decide +kernel, rfl, by decide +kernel, by decide +kernel⟩
/-- a table of the names xs and the word cs -/
def TabAt (K : PySem.W.Frag) (H : Hp) (s : Addr) (xs : List Str) (cs : List (List (Str × Str))) : Prop := ∃ dx t td, H s = some (.ins (gT K) dx [("own_names", .ref t), ("own_pairs", .ref td)]) ∧ RowAt H t xs ∧ ToldAt H td xs cs
def spTabInit (K : PySem.W.Frag) : Sp := fun vs H Q _ => ∃ (s a wa dx : Addr) (row : List Str) (cs : List (List (Str × Str))), vs = [.ref s, .ref a, .ref wa] ∧ H s = some (.ins (gT K) dx []) ∧ RowAt H a row ∧ row.length < 64 ∧ (∀ x ∈ row, SOk x) ∧ WordAt H wa cs ∧ (∀ c ∈ cs, CallOk row c) ∧ cs.length < 1000 ∧
  ∀ H' xs, But s H H' → xs.Perm row → TabAt K H' s xs cs → Q .non H'
theorem ok_tabInit (e : En P w K mg base) {k : Nat} (OA : Ok P w K mg base k dAlike ["one", "other"] spAlike) (OP : Ok P w K mg base k dPeople ["call"] spPeople) (OT : Ok P w K mg base k dTold ["names", "word"] spTold) :
    Ok P w K mg base (k + 1) dTabInit ["self", "names", "word"] (spTabInit K) := by
  obtain ⟨fd, F⟩ := e.fd 16
  refine ok_by F rfl scTabInit (fun _ _ _ _ _ _ us hl => match us, hl with | [_, _, _], _ => rfl) (fun vs H Q E h => ?_) (fun cdv A outer s0 H vs Q E hr h => ?_)
  · obtain ⟨s, a, wa, dx, row, cs, rfl, _⟩ := h
    rfl
  · obtain ⟨s, a, wa, dx, row, cs, rfl, hs, ha, hz, hso, ⟨ts, hw, hts⟩, hc, hcz, q⟩ := h
    refine ⟨_, pss_cons (ps_for PassesOwn.never rfl (pi_list (pv 2)) (pg_name (i := 3) scTabInit.nd rfl (.inl rfl))
        (pss_one (ps_expr (pe_fn OA hr (Nat.le_refl _) (by rfl) (e.g "look_alike") (pa_cons (pv 1) (pa_cons (pe_fn OP hr (Nat.le_refl _) (by rfl) (e.g "people") (pa_cons (pv 3) pa_nil)) pa_nil))))))
      (pss_cons (ps_fld (pv 0) (pe_callTy call_tuple_of (by rfl) (e.f "tuple") (by decide +kernel) (pa_cons (pe_callB cr_sortedT (by rfl) (e.f "sorted") (by decide +kernel) (pa_cons (pv 1) pa_nil)) pa_nil)) rfl)
      (pss_one (ps_fld (pv 0) (pe_fn OT hr (Nat.le_refl _) (by rfl) (e.g "told_pairs") (pa_cons (pe_fld (pv 0) rfl) (pa_cons (pv 2) pa_nil))) rfl))), ?_⟩
    refine ⟨.ref wa, rfl, wa, rfl, ⟨_, .inl (.inl hw)⟩, for_list (xs := ts.map V.ref) (fun i σ H' => ∃ y, σ = [some (.ref s), some (.ref a), some (.ref wa), y] ∧ Same H H') ⟨none, rfl, fun _ _ z => z⟩
      (fun i σ H' _ ⟨_, _, sm⟩ => .inl (.inl (sm _ _ hw))) (fun i v σ H' hv ⟨y, e1, sm⟩ => ?_) (fun σ H' ⟨y, e1, sm⟩ => ?_)⟩
    · subst e1
      obtain ⟨t, ht, rfl⟩ := get_map hv
      obtain ⟨c, hcc, ca⟩ := paired_at hts ht
      have ho := hc c (List.mem_of_getElem? hcc)
      refine ⟨.ref a, rfl, .ref t, rfl, t, c, rfl, CallAt.same (Same.tups sm) ca, by rw [ho.len]; exact hz, fun H1 d s1 nd1 hd => ?_⟩
      exact ⟨a, d, row, c.map (·.1), rfl, s1 _ _ (sm _ _ ha), hd, ho.pm.symm, hz, hso, fun H2 s2 => ⟨_, rfl, (sm.trans s1).trans s2⟩⟩
    · subst e1
      refine ⟨.ref a, rfl, a, row, rfl, .inl (.inl (sm _ _ ha)), hz, fun xs p hpm hxs np => ?_⟩
      refine ⟨p, _, rfl, .inl ⟨.inl (.inl upd_same), fun t nt => ?_⟩⟩
      have s1 : Same H (upd (upd H' p (.lst (xs.map V.str))) t (.tup (xs.map V.str))) := (sm.trans (same_upd np)).trans (same_upd nt)
      have ht : RowAt (upd (upd H' p (.lst (xs.map V.str))) t (.tup (xs.map V.str))) t xs := upd_same
      generalize upd (upd H' p (.lst (xs.map V.str))) t (.tup (xs.map V.str)) = H1 at s1 ht ⊢
      refine ⟨.ref s, rfl, s, gT K, dx, [], rfl, s1 _ _ hs, e.cls "Table", e.noat "Table" "own_names", by decide, ?_⟩
      have hs1 := s1 _ _ hs
      have b1 : But s H (upd H1 s (.ins (gT K) dx [("own_names", .ref t)])) := But.put fun c o _ h => s1 c o h
      have b2 : But s H1 (upd H1 s (.ins (gT K) dx [("own_names", .ref t)])) := But.put fun c o _ h => h
      have ht2 : RowAt (upd H1 s (.ins (gT K) dx [("own_names", .ref t)])) t xs := b2.tup hs1 ht
      refine ⟨.ref s, rfl, s, gT K, dx, [("own_names", .ref t)], .ref t, rfl, upd_same, e.cls "Table", e.noat "Table" "own_names", rfl, .ref wa, rfl, ?_⟩
      refine ⟨t, wa, xs, cs, rfl, ht2, by rw [hpm.length_eq]; exact hz, ⟨ts, ?_, L2.Paired.mapP hts fun c t' h => CallAt.same (fun b zs hb => b1.tup hs hb) h⟩, fun c h => (hc c h).perm hpm.symm, hcz, fun H3 td s3 ntd htd => ?_⟩
      · exact b1 _ _ (ne_of hw hs fun z => by cases z) hw
      · have h3 : H3 s = some (.ins (gT K) dx [("own_names", .ref t)]) := s3 _ _ upd_same
        refine ⟨.ref s, rfl, s, gT K, dx, [("own_names", .ref t)], rfl, h3, e.cls "Table", e.noat "Table" "own_pairs", by show 1 < 1000; decide, ?_⟩
        have b4 : But s H3 (upd H3 s (.ins (gT K) dx [("own_names", .ref t), ("own_pairs", .ref td)])) := But.put fun c o _ h => h
        refine q _ xs ((b1.same s3).put) hpm ⟨dx, t, td, upd_same, b4.tup h3 (s3 _ _ ht2), ?_⟩
        obtain ⟨kvs, h1, h2⟩ := htd
        refine ⟨kvs, b4 _ _ (ne_of h1 h3 fun z => by cases z) h1, fun x hx y hy hn => ?_⟩
        obtain ⟨z, q1, q2⟩ := h2 x hx y hy hn
        exact ⟨z, q1, b4.tup h3 q2⟩
end
end Sb
/-! The yard: a square and its pages; what only reads them. -/
namespace Sb
open PySem PySem.Spec PyProof.Rows L2 LamX NdefX
structure Pg where
  row : List Str
  beg : List Str
  cs : List (List (Str × Str))
def pgFs (ra ba wa : Addr) : List (Str × V) := [("own_row", .ref ra), ("own_begun", .ref ba), ("own_word", .ref wa)]
def sqFs (pl ml : Addr) : List (Str × V) := [("own_pages", .ref pl), ("own_marks", .ref ml)]
def PageAt (K : PySem.W.Frag) (H : Hp) (p : Addr) (g : Pg) : Prop := ∃ (dx ra ba wa : Addr), H p = some (.ins (gP K) dx (pgFs ra ba wa)) ∧ RowAt H ra g.row ∧ RowAt H ba g.beg ∧ WordAt H wa g.cs
def Yard (K : PySem.W.Frag) (H : Hp) (sq pl : Addr) (pgs : List Pg) : Prop := ∃ (dx ml : Addr) (as : List Addr), H sq = some (.ins (gS K) dx (sqFs pl ml)) ∧ H ml = some (.lst []) ∧ H pl = some (.lst (as.map V.ref)) ∧ Paired (fun g a => PageAt K H a g) pgs as ∧ pgs ≠ []
/-- no word stands at b -/
def NotW (H : Hp) (b : Addr) : Prop := ∀ (ts : List Addr) (cs : List (List (Str × Str))), H b = some (.lst (ts.map V.ref)) → Paired (fun c t => CallAt H t c) cs ts → False
/-- the list begins with an int, or with a pair of a thing and an int -/
def Odd (H : Hp) (xs : List V) : Prop := ∃ v vs, xs = v :: vs ∧ ((∃ i, v = .int i) ∨ ∃ t ra n, v = .ref t ∧ H t = some (.tup [.ref ra, .int n]))
theorem prd_last {A B : Type} {F : A → B → Prop} {x : A} : ∀ {l : List A} {m : List B}, Paired F (l ++ [x]) m → ∃ m0 y, m = m0 ++ [y] ∧ Paired F l m0 ∧ F x y
  | [], _, .cons r .nil => ⟨[], _, rfl, .nil, r⟩
  | a :: l, _, .cons r t => by
    obtain ⟨m0, y, e, p, q⟩ := prd_last (l := l) t
    subst e
    exact ⟨_ :: m0, y, rfl, .cons r p, q⟩
theorem refs_ne {ts : List Addr} {ra : Addr} {n : Int} (h : ts.map V.ref = [V.ref ra, V.int n]) : False := by
  match ts, h with
  | [_, _], h => simp at h
  | [], h => simp at h
  | [_], h => simp at h
  | _ :: _ :: _ :: _, h => simp at h
section
variable {K : PySem.W.Frag} {M : List Addr} {H H' H2 : Hp} {sq pl p b : Addr} {pgs : List Pg} {g : Pg} {xs : List V}
theorem Odd.notW (h : H b = some (.lst xs)) (o : Odd H xs) : NotW H b := fun ts cs h' hp => by
  rw [h] at h'
  have e : xs = ts.map V.ref := by
    injection h' with h'
    injection h'
  subst e
  obtain ⟨v, vs, e, o⟩ := o
  cases hp with
  | nil => simp at e
  | cons r t =>
    rw [List.map_cons] at e
    injection e with e1 e2
    rcases o with ⟨i, o⟩ | ⟨t, ra, n, o, ht⟩
    · rw [o] at e1
      cases e1
    · rw [o] at e1
      cases e1
      obtain ⟨us, hu, _⟩ := r
      rw [ht] at hu
      injection hu with hu
      injection hu with hu
      exact refs_ne hu.symm
theorem Odd.mono (f : ∀ c ys, H c = some (.tup ys) → H' c = some (.tup ys)) (o : Odd H xs) : Odd H' xs := by
  obtain ⟨v, vs, e, o⟩ := o
  refine ⟨v, vs, e, o.imp id fun ⟨t, ra, n, e, h⟩ => ⟨t, ra, n, e, f _ _ h⟩⟩
theorem yard_notW (y : Yard K H sq pl pgs) : NotW H pl := fun ts cs h hp => by
  obtain ⟨dx, ml, as, _, _, h3, h4, h5⟩ := y
  rw [h3] at h
  injection h with h
  injection h with h
  cases h4 with
  | nil => exact h5 rfl
  | cons r t =>
    obtain ⟨dx, ra, ba, wa, hp1, _⟩ := r
    cases hp with
    | nil => simp at h
    | cons r' t' =>
      rw [List.map_cons, List.map_cons] at h
      injection h with e1 e2
      cases e1
      obtain ⟨us, hu, _⟩ := r'
      rw [hp1] at hu
      cases hu
theorem yard_odd (y : Yard K H sq pl pgs) (h : H b = some (.lst xs)) (o : Odd H xs) : b ≠ pl := fun z => by
  subst z
  obtain ⟨dx, ml, as, _, _, h3, h4, h5⟩ := y
  rw [h3] at h
  injection h with h
  injection h with h
  subst h
  obtain ⟨v, vs, e, o⟩ := o
  cases h4 with
  | nil => exact h5 rfl
  | cons r t =>
    obtain ⟨dx, ra, ba, wa, hp1, _⟩ := r
    rw [List.map_cons] at e
    injection e with e1 e2
    rcases o with ⟨i, o⟩ | ⟨t, ra, n, o, ht⟩
    · rw [o] at e1
      cases e1
    · rw [o] at e1
      cases e1
      rw [ht] at hp1
      cases hp1
theorem WordAt.fm {a : Addr} {cs : List (List (Str × Str))} (f : Fm K M H H') (m : ∀ b ∈ M, NotW H b) (h : WordAt H a cs) : WordAt H' a cs := by
  obtain ⟨ts, e, q⟩ := h
  exact ⟨ts, f.lst e fun z => m a z ts cs e q, L2.Paired.mapP q fun c t z => CallAt.same f.tups z⟩
theorem PageAt.fm (f : Fm K M H H') (m : ∀ b ∈ M, NotW H b) (h : PageAt K H p g) : PageAt K H' p g := by
  obtain ⟨dx, ra, ba, wa, h1, h2, h3, h4⟩ := h
  exact ⟨dx, ra, ba, wa, f.ins h1, f.tup h2, f.tup h3, h4.fm f m⟩
theorem Yard.fm (f : Fm K M H H') (hM : ∀ b ∈ M, ∃ xs, H b = some (.lst xs) ∧ Odd H xs) (y : Yard K H sq pl pgs) : Yard K H' sq pl pgs := by
  have y' := y
  obtain ⟨dx, ml, as, h1, h2, h3, h4, h5⟩ := y
  refine ⟨dx, ml, as, f.ins h1, f.lst h2 fun z => ?_, f.lst h3 fun z => ?_, L2.Paired.mapP h4 fun g a z => PageAt.fm f (fun b hb => ?_) z, h5⟩
  · obtain ⟨xs, e, o⟩ := hM _ z
    rw [h2] at e
    cases e
    obtain ⟨v, vs, e, _⟩ := o
    cases e
  · obtain ⟨xs, e, o⟩ := hM _ z
    exact yard_odd y' e o rfl
  · obtain ⟨xs, e, o⟩ := hM _ hb
    exact Odd.notW e o
theorem Yard.same (s : Same H H') (y : Yard K H sq pl pgs) : Yard K H' sq pl pgs := Yard.fm (M := []) (.of s) (by simp) y
/-- a page more -/
theorem Yard.push (y : Yard K H sq pl pgs) (f : Fm K [] H H2) (hp : PageAt K H2 p g) : ∃ as : List Addr, H2 pl = some (.lst (as.map V.ref)) ∧ as.length = pgs.length ∧
    Yard K (upd H2 pl (.lst (as.map V.ref ++ [V.ref p]))) sq pl (pgs ++ [g]) ∧ Fm K [pl] H (upd H2 pl (.lst (as.map V.ref ++ [V.ref p]))) := by
  have y2 : Yard K H2 sq pl pgs := Yard.fm f (by simp) y
  have nw := yard_notW y2
  obtain ⟨dx, ml, as, h1, h2, h3, h4, h5⟩ := y2
  have f1 : Fm K [pl] H2 (upd H2 pl (.lst (as.map V.ref ++ [V.ref p]))) := Fm.put .refl h3 (by simp)
  have mw : ∀ b ∈ [pl], NotW H2 b := fun b hb => by
    rw [List.mem_singleton.mp hb]
    exact nw
  refine ⟨as, h3, (paired_len h4).symm, ⟨dx, ml, as ++ [p], f1.ins h1, f1.lst h2 fun z => ?_, ?_, ?_, ?_⟩, (f.mono (by simp)).trans f1⟩
  · have z := List.mem_singleton.mp z
    rw [z, h3] at h2
    injection h2 with h2
    injection h2 with h2
    have := paired_len h4
    cases pgs with
    | nil => exact h5 rfl
    | cons a b =>
      cases as with
      | nil => simp at this
      | cons c d => simp at h2
  · rw [upd_same, List.map_append]
    rfl
  · exact prd_snoc (F := fun g a => PageAt K _ a g) (PageAt.fm f1 mw hp) (L2.Paired.mapP h4 fun g a z => PageAt.fm f1 mw z)
  · simp
/-- the last page -/
theorem Yard.last (y : Yard K H sq pl (pgs ++ [g])) : ∃ (dx ml : Addr) (as : List Addr) (p : Addr), H sq = some (.ins (gS K) dx (sqFs pl ml)) ∧ H pl = some (.lst (as.map V.ref ++ [V.ref p])) ∧ PageAt K H p g ∧ as.length = pgs.length := by
  obtain ⟨dx, ml, as, h1, h2, h3, h4, h5⟩ := y
  obtain ⟨as, p, rfl, q1, q2⟩ := prd_last h4
  rw [List.map_append] at h3
  exact ⟨dx, ml, as, p, h1, h3, q2, (paired_len q1).symm⟩
end
section
variable {P : Program} {w : World} {K : PySem.W.Frag} {mg : Str → Option Value} {base : Heap}
/-! ### Table.leads -/
theorem scLeads : FnScope ["self", "row"] ["self", "row"] dLeads.scope := ⟨rfl, rfl, rfl, by decide +kernel, rfl, by decide +kernel, by decide +kernel⟩
def spLeads (K : PySem.W.Frag) : Sp := fun vs H Q _ => ∃ (s a : Addr) (xs row : List Str) (cs : List (List (Str × Str))), vs = [.ref s, .ref a] ∧ TabAt K H s xs cs ∧ RowAt H a row ∧ xs.Perm row ∧ row.Nodup ∧ row.length < 64 ∧ (∀ x ∈ row, SOk x) ∧ (∀ c ∈ cs, CallOk row c) ∧
  Tabs (tabsOf K) H ∧ ∀ H' r, ExtN H H' → Tabs (tabsOf K) H' → RowAt H' r (wordC cs row) → Q (.ref r) H'
theorem ok_leads (e : En P w K mg base) {k : Nat} (OA : Ok P w K mg base k dAlike ["one", "other"] spAlike) (OL : Ok P w K mg base k dPlaces ["row"] spPlaces) (OR : Ok P w K mg base k dRowBy ["names", "told", "places"] (spRowBy K)) :
    Ok P w K mg base (k + 1) dLeads ["self", "row"] (spLeads K) := by
  obtain ⟨fd, F⟩ := e.fd 17
  refine ok_by F rfl scLeads (fun _ _ _ _ _ _ us hl => match us, hl with | [_, _], _ => rfl) (fun vs H Q E h => ?_) (fun cdv A outer s0 H vs Q E hr h => ?_)
  · obtain ⟨s, a, xs, row, cs, rfl, _⟩ := h
    rfl
  · obtain ⟨s, a, xs, row, cs, rfl, ⟨dx, t, td, hs, ht, htd⟩, ha, hpm, nd, hz, hso, hc, hT, q⟩ := h
    refine ⟨_, pss_cons (ps_expr (pe_fn OA hr (Nat.le_refl _) (by rfl) (e.g "look_alike") (pa_cons (pe_fld (pv 0) rfl) (pa_cons (pv 1) pa_nil))))
      (pss_one (ps_ret (pe_fn OR hr (Nat.le_refl _) (by rfl) (e.g "row_by") (pa_cons (pe_fld (pv 0) rfl) (pa_cons (pe_fld (pv 0) rfl) (pa_cons (pe_fn OL hr (Nat.le_refl _) (by rfl) (e.g "places_of") (pa_cons (pv 1) pa_nil)) pa_nil)))))), ?_⟩
    refine ⟨.ref s, rfl, s, gT K, dx, _, .ref t, rfl, hs, e.cls "Table", e.noat "Table" "own_names", rfl, .ref a, rfl, ?_⟩
    refine ⟨t, a, xs, row, rfl, ht, ha, hpm, by rw [hpm.length_eq]; exact hz, fun x hx => hso x (hpm.mem_iff.mp hx), fun H1 s1 => ?_⟩
    refine ⟨.ref s, rfl, s, gT K, dx, _, .ref t, rfl, s1 _ _ hs, e.cls "Table", e.noat "Table" "own_names", rfl, .ref s, rfl, s, gT K, dx, _, .ref td, rfl, s1 _ _ hs, e.cls "Table", e.noat "Table" "own_pairs", rfl, .ref a, rfl, ?_⟩
    refine ⟨a, row, rfl, s1 _ _ ha, nd, hz, fun H2 pd s2 npd hpd => ?_⟩
    have s12 := s1.trans s2
    exact ⟨t, td, pd, xs, row, cs, rfl, s12 _ _ ht, by rw [hpm.length_eq]; exact hz, hpm, nd, ToldAt.same s12 htd, hc, hpd, hT.ext s12, fun H3 r x3 t3 h3 => q _ r ((ExtN.of s12).trans x3) t3 h3⟩
/-! ### Page, fresh -/
theorem scPgInit : FnScope ["self", "own_row", "begun", "word"] ["self", "own_row", "begun", "word"] dPgInit.scope := ⟨rfl, rfl, rfl, by decide +kernel, rfl, by decide +kernel, by decide +kernel⟩
def spPgInit (K : PySem.W.Frag) : Sp := fun vs H Q _ => ∃ (s ra ba wa dx : Addr), vs = [.ref s, .ref ra, .ref ba, .ref wa] ∧ H s = some (.ins (gP K) dx []) ∧ ∀ H', But s H H' → H' s = some (.ins (gP K) dx (pgFs ra ba wa)) → Q .non H'
theorem ok_pgInit (e : En P w K mg base) {k : Nat} : Ok P w K mg base (k + 1) dPgInit ["self", "own_row", "begun", "word"] (spPgInit K) := by
  obtain ⟨fd, F⟩ := e.fd 18
  refine ok_by F rfl scPgInit (fun _ _ _ _ _ _ us hl => match us, hl with | [_, _, _, _], _ => rfl) (fun vs H Q E h => ?_) (fun cdv A outer s0 H vs Q E hr h => ?_)
  · obtain ⟨s, ra, ba, wa, dx, rfl, _⟩ := h
    rfl
  · obtain ⟨s, ra, ba, wa, dx, rfl, hs, q⟩ := h
    refine ⟨_, pss_cons (ps_fld (pv 0) (pv 1) rfl) (pss_cons (ps_fld (pv 0) (pv 2) rfl) (pss_one (ps_fld (pv 0) (pv 3) rfl))), ?_⟩
    refine ⟨.ref ra, rfl, .ref s, rfl, s, gP K, dx, [], rfl, hs, e.cls "Page", e.noat "Page" "own_row", by decide, ?_⟩
    refine ⟨.ref ba, rfl, .ref s, rfl, s, gP K, dx, _, rfl, upd_same, e.cls "Page", e.noat "Page" "own_begun", by show 1 < 1000; decide, ?_⟩
    refine ⟨.ref wa, rfl, .ref s, rfl, s, gP K, dx, _, rfl, upd_same, e.cls "Page", e.noat "Page" "own_word", by show 2 < 1000; decide, ?_⟩
    exact q _ (But.put (But.put (But.put fun c o _ h => h))) upd_same
theorem scFresh : FnScope ["row"] ["row"] dFresh.scope := ⟨rfl, rfl, rfl, by decide +kernel, rfl, by decide +kernel, by decide +kernel⟩
def spFresh (K : PySem.W.Frag) : Sp := fun vs H Q _ => ∃ (a : Addr) (row : List Str), vs = [.ref a] ∧ (RowAt H a row ∨ H a = some (.lst (row.map V.str))) ∧ ∀ H' p, Same H H' → PageAt K H' p ⟨row, row, []⟩ → Q (.ref p) H'
theorem ok_fresh (e : En P w K mg base) {k : Nat} (hk : 1 ≤ k) (O : Ok P w K mg base k dPgInit ["self", "own_row", "begun", "word"] (spPgInit K)) : Ok P w K mg base (k + 2) dFresh ["row"] (spFresh K) := by
  obtain ⟨fd, F⟩ := e.fd 19
  refine ok_by F rfl scFresh (fun _ _ _ _ _ _ us hl => match us, hl with | [_], _ => rfl) (fun vs H Q E h => ?_) (fun cdv A outer s0 H vs Q E hr h => ?_)
  · obtain ⟨a, row, rfl, _⟩ := h
    rfl
  · obtain ⟨a, row, rfl, ha, q⟩ := h
    have tu : ∀ (X : Cx), True := fun _ => trivial
    refine ⟨_, pss_one (ps_ret (pe_mk (d := dPgInit) (e.mkr "Page") O hr (Nat.le_refl _) (by rfl) (e.g "Page") (pa_cons (pe_callTy call_tuple_of (by rfl) (e.f "tuple") (by decide +kernel) (pa_cons (pv 0) pa_nil)) (pa_cons (pe_callTy call_tuple_of (by rfl) (e.f "tuple") (by decide +kernel) (pa_cons (pv 0) pa_nil)) (pa_cons (pe_lst pa_nil) pa_nil))))), ?_⟩
    -- what stands behind the two rows
    have fin : ∀ (H1 : Hp) (ra ba : Addr), Same H H1 → RowAt H1 ra row → RowAt H1 ba row → ∀ l, H1 l = none → ∀ x dx, upd H1 l (.lst []) x = none → upd H1 l (.lst []) dx = none → dx ≠ x →
        spPgInit K [.ref x, .ref ra, .ref ba, .ref l] (upd (upd (upd H1 l (.lst [])) dx (.own x)) x (.ins (gP K) dx [])) (fun v H2 => v = .non ∧ Q (.ref x) H2) E0 := fun H1 ra ba s1 hra hba l nl x dx nx ndx hne => by
      refine ⟨x, ra, ba, l, dx, rfl, upd_same, fun H2 b2 h2 => ⟨rfl, ?_⟩⟩
      have s2 : Same (upd H1 l (.lst [])) H2 := same_made nx ndx b2
      have s3 : Same H1 H2 := (same_upd nl).trans s2
      exact q _ x (s1.trans s3) ⟨dx, ra, ba, l, h2, s3 _ _ hra, s3 _ _ hba, [], s2 _ _ upd_same, .nil⟩
    rcases ha with ha | ha
    · refine ⟨.ref a, rfl, a, _, rfl, .inr ⟨.inl (.inl ha), ?_⟩⟩
      refine ⟨.ref a, rfl, a, _, rfl, .inr ⟨.inl (.inl ha), ?_⟩⟩
      exact ⟨Nat.zero_le _, fun l nl x dx nx ndx hne => fin H a a (fun _ _ z => z) ha ha l nl x dx nx ndx hne⟩
    · refine ⟨.ref a, rfl, a, _, rfl, .inl ⟨.inl (.inl ha), fun r1 n1 => ?_⟩⟩
      have s1 : Same H (upd H r1 (.tup (row.map V.str))) := same_upd n1
      refine ⟨.ref a, rfl, a, _, rfl, .inl ⟨.inl (.inl (s1 _ _ ha)), fun r2 n2 => ?_⟩⟩
      have s2 : Same (upd H r1 (.tup (row.map V.str))) (upd (upd H r1 (.tup (row.map V.str))) r2 (.tup (row.map V.str))) := same_upd n2
      exact ⟨Nat.zero_le _, fun l nl x dx nx ndx hne => fin _ r1 r2 (s1.trans s2) (s2 _ _ upd_same) upd_same l nl x dx nx ndx hne⟩
end
end Sb
/-! What only reads a square. -/
namespace Sb
open PySem PySem.Spec PyProof.Rows L2 LamX NdefX
section
variable {P : Program} {w : World} {K : PySem.W.Frag} {mg : Str → Option Value} {base : Heap}
/-! ### page -/
theorem scPage : FnScope ["self"] ["self"] dPage.scope := ⟨rfl, rfl, rfl, by decide +kernel, rfl, by decide +kernel, by decide +kernel⟩
def spPage (K : PySem.W.Frag) : Sp := fun vs H Q _ => ∃ (s pl : Addr) (pgs : List Pg) (g : Pg), vs = [.ref s] ∧ Yard K H s pl (pgs ++ [g]) ∧ ∀ p, PageAt K H p g → Q (.ref p) H
theorem ok_page (e : En P w K mg base) {k : Nat} : Ok P w K mg base (k + 1) dPage ["self"] (spPage K) := by
  obtain ⟨fd, F⟩ := e.fd 22
  refine ok_by F rfl scPage (fun _ _ _ _ _ _ us hl => match us, hl with | [_], _ => rfl) (fun vs H Q E h => ?_) (fun cdv A outer s0 H vs Q E hr h => ?_)
  · obtain ⟨s, pl, pgs, g, rfl, _⟩ := h
    rfl
  · obtain ⟨s, pl, pgs, g, rfl, y, q⟩ := h
    obtain ⟨dx, ml, zs, p, h1, h2, h3, h4⟩ := y.last
    refine ⟨_, pss_one (ps_ret (pe_ix ix_list (pe_fld (pv 0) rfl) (pe_un un_neg pe_int) (fun _ _ => rfl))), ?_⟩
    exact ⟨.ref s, rfl, s, gS K, dx, _, .ref pl, rfl, h1, e.cls "Square", e.noat "Square" "own_pages", rfl, 1, rfl, pl, _, -1, _, rfl, rfl, .inl (.inl h2), atI_last _ _, q p h3⟩
/-! ### stands, begun, word -/
theorem scStands : FnScope ["self"] ["self"] dStands.scope := ⟨rfl, rfl, rfl, by decide +kernel, rfl, by decide +kernel, by decide +kernel⟩
def spStands (K : PySem.W.Frag) : Sp := fun vs H Q _ => ∃ (s pl : Addr) (pgs : List Pg) (g : Pg), vs = [.ref s] ∧ Yard K H s pl (pgs ++ [g]) ∧ ∀ r, RowAt H r g.row → Q (.ref r) H
theorem ok_stands (e : En P w K mg base) {k : Nat} (O : Ok P w K mg base k dPage ["self"] (spPage K)) : Ok P w K mg base (k + 1) dStands ["self"] (spStands K) := by
  obtain ⟨fd, F⟩ := e.fd 23
  refine ok_by F rfl scStands (fun _ _ _ _ _ _ us hl => match us, hl with | [_], _ => rfl) (fun vs H Q E h => ?_) (fun cdv A outer s0 H vs Q E hr h => ?_)
  · obtain ⟨s, pl, pgs, g, rfl, _⟩ := h
    rfl
  · obtain ⟨s, pl, pgs, g, rfl, y, q⟩ := h
    obtain ⟨dx, ml, zs, p, h1, h2, h3, h4⟩ := y.last
    refine ⟨_, pss_one (ps_ret (pe_fld (pe_mt0 (d := dPage) (pv 0) (e.cls "Square") (e.meth "Square" "page") O hr (Nat.le_refl _)) rfl)), ?_⟩
    refine ⟨.ref s, rfl, s, dx, _, rfl, h1, rfl, s, pl, pgs, g, rfl, y, fun p' ⟨dp, ra, ba, wa, q1, q2, q3, q4⟩ => ?_⟩
    exact ⟨p', gP K, dp, _, .ref ra, rfl, q1, e.cls "Page", e.noat "Page" "own_row", rfl, q ra q2⟩
theorem scBegun : FnScope ["self"] ["self"] dBegun.scope := ⟨rfl, rfl, rfl, by decide +kernel, rfl, by decide +kernel, by decide +kernel⟩
def spBegun (K : PySem.W.Frag) : Sp := fun vs H Q _ => ∃ (s pl : Addr) (pgs : List Pg) (g : Pg), vs = [.ref s] ∧ Yard K H s pl (pgs ++ [g]) ∧ ∀ r, RowAt H r g.beg → Q (.ref r) H
theorem ok_begun (e : En P w K mg base) {k : Nat} (O : Ok P w K mg base k dPage ["self"] (spPage K)) : Ok P w K mg base (k + 1) dBegun ["self"] (spBegun K) := by
  obtain ⟨fd, F⟩ := e.fd 24
  refine ok_by F rfl scBegun (fun _ _ _ _ _ _ us hl => match us, hl with | [_], _ => rfl) (fun vs H Q E h => ?_) (fun cdv A outer s0 H vs Q E hr h => ?_)
  · obtain ⟨s, pl, pgs, g, rfl, _⟩ := h
    rfl
  · obtain ⟨s, pl, pgs, g, rfl, y, q⟩ := h
    obtain ⟨dx, ml, zs, p, h1, h2, h3, h4⟩ := y.last
    refine ⟨_, pss_one (ps_ret (pe_fld (pe_mt0 (d := dPage) (pv 0) (e.cls "Square") (e.meth "Square" "page") O hr (Nat.le_refl _)) rfl)), ?_⟩
    refine ⟨.ref s, rfl, s, dx, _, rfl, h1, rfl, s, pl, pgs, g, rfl, y, fun p' ⟨dp, ra, ba, wa, q1, q2, q3, q4⟩ => ?_⟩
    exact ⟨p', gP K, dp, _, .ref ba, rfl, q1, e.cls "Page", e.noat "Page" "own_begun", rfl, q ba q3⟩
theorem scWord : FnScope ["self"] ["self"] dWord.scope := ⟨rfl, rfl, rfl, by decide +kernel, rfl, by decide +kernel, by decide +kernel⟩
def spWord (K : PySem.W.Frag) : Sp := fun vs H Q _ => ∃ (s pl : Addr) (pgs : List Pg) (g : Pg), vs = [.ref s] ∧ Yard K H s pl (pgs ++ [g]) ∧ ∀ H' r, Same H H' → H r = none → WordAt H' r g.cs → Q (.ref r) H'
theorem ok_word (e : En P w K mg base) {k : Nat} (O : Ok P w K mg base k dPage ["self"] (spPage K)) : Ok P w K mg base (k + 1) dWord ["self"] (spWord K) := by
  obtain ⟨fd, F⟩ := e.fd 25
  refine ok_by F rfl scWord (fun _ _ _ _ _ _ us hl => match us, hl with | [_], _ => rfl) (fun vs H Q E h => ?_) (fun cdv A outer s0 H vs Q E hr h => ?_)
  · obtain ⟨s, pl, pgs, g, rfl, _⟩ := h
    rfl
  · obtain ⟨s, pl, pgs, g, rfl, y, q⟩ := h
    obtain ⟨dx, ml, zs, p, h1, h2, h3, h4⟩ := y.last
    refine ⟨_, pss_one (ps_ret (pe_callTy call_list_of (by rfl) (e.f "list") (by decide +kernel) (pa_cons (pe_fld (pe_mt0 (d := dPage) (pv 0) (e.cls "Square") (e.meth "Square" "page") O hr (Nat.le_refl _)) rfl) pa_nil))), ?_⟩
    refine ⟨.ref s, rfl, s, dx, _, rfl, h1, rfl, s, pl, pgs, g, rfl, y, fun p' ⟨dp, ra, ba, wa, q1, q2, q3, q4⟩ => ?_⟩
    obtain ⟨ts, w1, w2⟩ := q4
    refine ⟨p', gP K, dp, _, .ref wa, rfl, q1, e.cls "Page", e.noat "Page" "own_word", rfl, wa, _, rfl, .inl (.inl (.inl w1)), fun l nl => ?_⟩
    exact q _ l (same_upd nl) nl ⟨ts, upd_same, L2.Paired.mapP w2 fun c t h => CallAt.same (Same.tups (same_upd nl)) h⟩
/-! ### __len__, deeds, marks, look_name -/
theorem scSqLen : FnScope ["self"] ["self"] dSqLen.scope := ⟨rfl, rfl, rfl, by decide +kernel, rfl, by decide +kernel, by decide +kernel⟩
def spSqLen (K : PySem.W.Frag) : Sp := fun vs H Q _ => ∃ (s pl : Addr) (pgs : List Pg) (g : Pg), vs = [.ref s] ∧ Yard K H s pl (pgs ++ [g]) ∧ Q (.int ((g.row.length : Nat) : Int)) H
theorem ok_sqLen (e : En P w K mg base) {k : Nat} (O : Ok P w K mg base k dStands ["self"] (spStands K)) : Ok P w K mg base (k + 1) dSqLen ["self"] (spSqLen K) := by
  obtain ⟨fd, F⟩ := e.fd 21
  refine ok_by F rfl scSqLen (fun _ _ _ _ _ _ us hl => match us, hl with | [_], _ => rfl) (fun vs H Q E h => ?_) (fun cdv A outer s0 H vs Q E hr h => ?_)
  · obtain ⟨s, pl, pgs, g, rfl, _⟩ := h
    rfl
  · obtain ⟨s, pl, pgs, g, rfl, y, q⟩ := h
    obtain ⟨dx, ml, zs, p, h1, h2, h3, h4⟩ := y.last
    refine ⟨_, pss_one (ps_ret (pe_callB call_len_seq (by rfl) (e.f "len") PySem.boot_len (pa_cons (pe_mt0 (d := dStands) (pv 0) (e.cls "Square") (e.meth "Square" "stands") O hr (Nat.le_refl _)) pa_nil))), ?_⟩
    refine ⟨.ref s, rfl, s, dx, _, rfl, h1, rfl, s, pl, pgs, g, rfl, y, fun r hr => ⟨r, _, rfl, .inr (.inl (.inl hr)), ?_⟩⟩
    rw [List.length_map]
    exact q
theorem scDeeds : FnScope ["self"] ["self"] dDeeds.scope := ⟨rfl, rfl, rfl, by decide +kernel, rfl, by decide +kernel, by decide +kernel⟩
def spDeeds (K : PySem.W.Frag) : Sp := fun vs H Q _ => ∃ (s pl : Addr) (pgs : List Pg) (g : Pg), vs = [.ref s] ∧ Yard K H s pl (pgs ++ [g]) ∧ Q (.int ((pgs.length : Nat) : Int)) H
theorem ok_deeds (e : En P w K mg base) {k : Nat} : Ok P w K mg base (k + 1) dDeeds ["self"] (spDeeds K) := by
  obtain ⟨fd, F⟩ := e.fd 27
  refine ok_by F rfl scDeeds (fun _ _ _ _ _ _ us hl => match us, hl with | [_], _ => rfl) (fun vs H Q E h => ?_) (fun cdv A outer s0 H vs Q E hr h => ?_)
  · obtain ⟨s, pl, pgs, g, rfl, _⟩ := h
    rfl
  · obtain ⟨s, pl, pgs, g, rfl, y, q⟩ := h
    obtain ⟨dx, ml, zs, p, h1, h2, h3, h4⟩ := y.last
    refine ⟨_, pss_one (ps_ret (pe_op op_sub (pe_callB call_len_seq (by rfl) (e.f "len") PySem.boot_len (pa_cons (pe_fld (pv 0) rfl) pa_nil)) pe_int)), ?_⟩
    refine ⟨.ref s, rfl, s, gS K, dx, _, .ref pl, rfl, h1, e.cls "Square", e.noat "Square" "own_pages", rfl, pl, _, rfl, .inl (.inl (.inl h2)), _, _, rfl, rfl, ?_⟩
    have e1 : (((zs.map V.ref ++ [V.ref p]).length : Nat) : Int) - 1 = ((pgs.length : Nat) : Int) := by
      rw [List.length_append, List.length_map, h4]
      show ((pgs.length + 1 : Nat) : Int) - 1 = _
      omega
    show Q (.int ((((zs.map V.ref ++ [V.ref p]).length : Nat) : Int) - 1)) H
    rw [e1]
    exact q
theorem scMarks : FnScope ["self"] ["self"] dMarks.scope := ⟨rfl, rfl, rfl, by decide +kernel, rfl, by decide +kernel, by decide +kernel⟩
def spMarks (K : PySem.W.Frag) : Sp := fun vs H Q _ => ∃ (s pl : Addr) (pgs : List Pg), vs = [.ref s] ∧ Yard K H s pl pgs ∧ ∀ H' r, Same H H' → H r = none → H' r = some (.lst []) → Q (.ref r) H'
theorem ok_marks (e : En P w K mg base) {k : Nat} : Ok P w K mg base (k + 1) dMarks ["self"] (spMarks K) := by
  obtain ⟨fd, F⟩ := e.fd 28
  refine ok_by F rfl scMarks (fun _ _ _ _ _ _ us hl => match us, hl with | [_], _ => rfl) (fun vs H Q E h => ?_) (fun cdv A outer s0 H vs Q E hr h => ?_)
  · obtain ⟨s, pl, pgs, rfl, _⟩ := h
    rfl
  · obtain ⟨s, pl, pgs, rfl, ⟨dx, ml, zs, h1, h2, h3, h4, h5⟩, q⟩ := h
    refine ⟨_, pss_one (ps_ret (pe_callTy call_list_of (by rfl) (e.f "list") (by decide +kernel) (pa_cons (pe_fld (pv 0) rfl) pa_nil))), ?_⟩
    exact ⟨.ref s, rfl, s, gS K, dx, _, .ref ml, rfl, h1, e.cls "Square", e.noat "Square" "own_marks", rfl, ml, _, rfl, .inl (.inl (.inl h2)), fun l nl => q _ l (same_upd nl) nl upd_same⟩
theorem scSqLook : FnScope ["self", "name"] ["self", "name"] dSqLook.scope := ⟨rfl, rfl, rfl, by decide +kernel, rfl, by decide +kernel, by decide +kernel⟩
def spSqLook (K : PySem.W.Frag) : Sp := fun vs H Q _ => ∃ (s pl : Addr) (pgs : List Pg) (g : Pg) (x : Str), vs = [.ref s, .str x] ∧ Yard K H s pl (pgs ++ [g]) ∧ x ∈ g.row ∧ Q .non H
theorem ok_sqLook (e : En P w K mg base) {k : Nat} (O : Ok P w K mg base k dStands ["self"] (spStands K)) : Ok P w K mg base (k + 1) dSqLook ["self", "name"] (spSqLook K) := by
  obtain ⟨fd, F⟩ := e.fd 29
  refine ok_by F rfl scSqLook (fun _ _ _ _ _ _ us hl => match us, hl with | [_, _], _ => rfl) (fun vs H Q E h => ?_) (fun cdv A outer s0 H vs Q E hr h => ?_)
  · obtain ⟨s, pl, pgs, g, x, rfl, _⟩ := h
    rfl
  · obtain ⟨s, pl, pgs, g, x, rfl, y, hx, q⟩ := h
    obtain ⟨dx, ml, zs, p, h1, h2, h3, h4⟩ := y.last
    refine ⟨_, pss_one (ps_if (pt_cmpR op_notIn_seq (pv 1) (pe_mt0 (d := dStands) (pv 0) (e.cls "Square") (e.meth "Square" "stands") O hr (Nat.le_refl _)) (by rfl)) (pss_one ps_never) pss_nil), ?_⟩
    refine ⟨.str x, rfl, .ref s, rfl, s, dx, _, rfl, h1, rfl, s, pl, pgs, g, rfl, y, fun r hr => ⟨r, _, rfl, .inr (.inl (.inl hr)), rfl, flat_strs g.row, _, rfl, ?_⟩⟩
    rw [in_strs, decide_eq_true hx]
    exact iteF q
/-! ### table -/
theorem scTable : FnScope ["self"] ["self"] dTable.scope := ⟨rfl, rfl, rfl, by decide +kernel, rfl, by decide +kernel, by decide +kernel⟩
def spTable (K : PySem.W.Frag) : Sp := fun vs H Q _ => ∃ (s pl : Addr) (pgs : List Pg) (g : Pg), vs = [.ref s] ∧ Yard K H s pl (pgs ++ [g]) ∧ g.row.length < 64 ∧ (∀ x ∈ g.row, SOk x) ∧ (∀ c ∈ g.cs, CallOk g.row c) ∧ g.cs.length < 1000 ∧
  ∀ H' t xs, Same H H' → xs.Perm g.row → TabAt K H' t xs g.cs → Q (.ref t) H'
theorem ok_table (e : En P w K mg base) {k : Nat} (OS : Ok P w K mg base (k + 1) dStands ["self"] (spStands K)) (OW : Ok P w K mg base (k + 1) dWord ["self"] (spWord K)) (OI : Ok P w K mg base k dTabInit ["self", "names", "word"] (spTabInit K)) :
    Ok P w K mg base (k + 2) dTable ["self"] (spTable K) := by
  obtain ⟨fd, F⟩ := e.fd 26
  refine ok_by F rfl scTable (fun _ _ _ _ _ _ us hl => match us, hl with | [_], _ => rfl) (fun vs H Q E h => ?_) (fun cdv A outer s0 H vs Q E hr h => ?_)
  · obtain ⟨s, pl, pgs, g, rfl, _⟩ := h
    rfl
  · obtain ⟨s, pl, pgs, g, rfl, y, hz, hso, hc, hcz, q⟩ := h
    obtain ⟨dx, ml, zs, p, h1, h2, h3, h4⟩ := y.last
    refine ⟨_, pss_one (ps_ret (pe_mk (d := dTabInit) (e.mkr "Table") OI hr (Nat.le_refl _) (by rfl) (e.g "Table") (pa_cons (pe_mt0 (d := dStands) (pv 0) (e.cls "Square") (e.meth "Square" "stands") OS hr (Nat.le_refl _)) (pa_cons (pe_mt0 (d := dWord) (pv 0) (e.cls "Square") (e.meth "Square" "word") OW hr (Nat.le_refl _)) pa_nil)))), ?_⟩
    refine ⟨.ref s, rfl, s, dx, _, rfl, h1, rfl, s, pl, pgs, g, rfl, y, fun r hr => ?_⟩
    refine ⟨.ref s, rfl, s, dx, _, rfl, h1, rfl, s, pl, pgs, g, rfl, y, fun H1 wa s1 nw hw => ?_⟩
    intro x dxx nx ndx hne
    have sn : Same H1 (upd (upd H1 dxx (.own x)) x (.ins (gT K) dxx [])) := same_new nx ndx
    exact ⟨x, r, wa, dxx, g.row, g.cs, rfl, upd_same, sn _ _ (s1 _ _ hr), hz, hso, hw.same sn, hc, hcz, fun H2 xs b2 hpm ht => ⟨rfl, q _ x xs (s1.trans (same_made nx ndx b2)) hpm ht⟩⟩
/-! ### Square.__init__ -/
theorem But.page {s p dx C : Addr} {fs : List (Str × V)} {H H' : Hp} {g : Pg} (b : But s H H') (hs : H s = some (.ins C dx fs)) (hl : fs.length ≠ 3) (h : PageAt K H p g) : PageAt K H' p g := by
  obtain ⟨dp, ra, ba, wa, q1, q2, q3, ts, q4, q5⟩ := h
  refine ⟨dp, ra, ba, wa, b _ _ (ne_of q1 hs fun z => ?_) q1, b.tup hs q2, b.tup hs q3, ts, b _ _ (ne_of q4 hs fun z => by cases z) q4, L2.Paired.mapP q5 fun c t h => CallAt.same (fun _ _ h => b.tup hs h) h⟩
  injection z with z1 z2 z3
  rw [← z3] at hl
  exact hl rfl
theorem scSqInit : FnScope ["self", "row"] ["self", "row"] dSqInit.scope := ⟨rfl, rfl, rfl, by decide +kernel, rfl, by decide +kernel, by decide +kernel⟩
def spSqInit (K : PySem.W.Frag) : Sp := fun vs H Q _ => ∃ (s a dx : Addr) (row : List Str), vs = [.ref s, .ref a] ∧ H s = some (.ins (gS K) dx []) ∧ RowAt H a row ∧ ∀ H' pl, But s H H' → H pl = none → Yard K H' s pl [⟨row, row, []⟩] → Q .non H'
theorem ok_sqInit (e : En P w K mg base) {k : Nat} (O : Ok P w K mg base k dFresh ["row"] (spFresh K)) : Ok P w K mg base (k + 1) dSqInit ["self", "row"] (spSqInit K) := by
  obtain ⟨fd, F⟩ := e.fd 20
  refine ok_by F rfl scSqInit (fun _ _ _ _ _ _ us hl => match us, hl with | [_, _], _ => rfl) (fun vs H Q E h => ?_) (fun cdv A outer s0 H vs Q E hr h => ?_)
  · obtain ⟨s, a, dx, row, rfl, _⟩ := h
    rfl
  · obtain ⟨s, a, dx, row, rfl, hs, ha, q⟩ := h
    refine ⟨_, pss_cons (ps_fld (pv 0) (pe_lst (pa_cons (pe_fn O hr (Nat.le_refl _) (by rfl) (e.g "fresh") (pa_cons (pv 1) pa_nil)) pa_nil)) rfl) (pss_one (ps_fld (pv 0) (pe_lst pa_nil) rfl)), ?_⟩
    refine ⟨.ref a, rfl, a, row, rfl, .inl ha, fun H1 p s1 hp => ⟨by show 1 ≤ sizeLine; decide, fun pl nl => ?_⟩⟩
    have s2 : Same H1 (upd H1 pl (.lst [.ref p])) := same_upd nl
    have hs2 := s2 _ _ (s1 _ _ hs)
    refine ⟨.ref s, rfl, s, gS K, dx, [], rfl, hs2, e.cls "Square", e.noat "Square" "own_pages", by decide, ?_⟩
    have hp2 : PageAt K (upd H1 pl (.lst [.ref p])) p ⟨row, row, []⟩ := PageAt.fm (M := []) (.of s2) (by simp) hp
    have hl2 : (upd H1 pl (.lst [.ref p])) pl = some (.lst [.ref p]) := upd_same
    have s12 := s1.trans s2
    generalize upd H1 pl (.lst [.ref p]) = H2 at s12 hs2 hp2 hl2 ⊢
    have b3 : But s H2 (upd H2 s (.ins (gS K) dx [("own_pages", .ref pl)])) := But.put fun c o _ h => h
    have hp3 := b3.page hs2 (by decide) hp2
    have hl3 := b3 _ _ (ne_of hl2 hs2 fun z => by cases z) hl2
    have hs3 : upd H2 s (.ins (gS K) dx [("own_pages", .ref pl)]) s = some (.ins (gS K) dx [("own_pages", .ref pl)]) := upd_same
    have b03 : But s H (upd H2 s (.ins (gS K) dx [("own_pages", .ref pl)])) := But.put fun c o _ h => s12 c o h
    refine ⟨Nat.zero_le _, fun ml nm => ?_⟩
    have s4 : Same (upd H2 s (.ins (gS K) dx [("own_pages", .ref pl)])) (upd (upd H2 s (.ins (gS K) dx [("own_pages", .ref pl)])) ml (.lst [])) := same_upd nm
    have hm4 : upd (upd H2 s (.ins (gS K) dx [("own_pages", .ref pl)])) ml (.lst []) ml = some (.lst []) := upd_same
    have hs4 := s4 _ _ hs3
    have hl4 := s4 _ _ hl3
    have hp4 : PageAt K (upd (upd H2 s (.ins (gS K) dx [("own_pages", .ref pl)])) ml (.lst [])) p ⟨row, row, []⟩ := PageAt.fm (M := []) (.of s4) (by simp) hp3
    have b04 := b03.same s4
    refine ⟨.ref s, rfl, s, gS K, dx, _, rfl, hs4, e.cls "Square", e.noat "Square" "own_marks", by show 1 < 1000; decide, ?_⟩
    have b5 : But s (upd (upd H2 s (.ins (gS K) dx [("own_pages", .ref pl)])) ml (.lst [])) (upd (upd (upd H2 s (.ins (gS K) dx [("own_pages", .ref pl)])) ml (.lst [])) s (.ins (gS K) dx (sqFs pl ml))) := But.put fun c o _ h => h
    refine q _ pl (But.put b04) (Same.none s1 nl) ⟨dx, ml, [p], upd_same, b5 _ _ (ne_of hm4 hs4 fun z => by cases z) hm4, b5 _ _ (ne_of hl4 hs4 fun z => by cases z) hl4, .cons (b5.page hs4 (by show 1 ≠ 3; decide) hp4) .nil, by simp⟩
end
end Sb
/-! len(x) of an own instance with an own __len__. -/
namespace Sb
open PySem PySem.Spec PyProof.Rows L2 LamX
theorem call_lenO {X : Cx} {j k : Nat} {d : He.DefD} {sp : Sp} {C : Addr} (O : Ok X.prog X.w X.K X.mg X.base j d ["self"] sp) (hr : Room k X.A) (hk : j + 1 ≤ k) (hm : Meth X.K C "__len__" (He.fAd X.K d.at_)) :
    CallR X (.builtin "len") (fun vs H Q => ∃ (a dx : Addr) (fs : List (Str × V)), vs = [.ref a] ∧ H a = some (.ins C dx fs) ∧ sp [.ref a] H (fun v H' => ∃ n : Nat, v = .int ((n : Nat) : Int) ∧ n < 1000000 ∧ Q (.int ((n : Nat) : Int)) H') E0) := by
  intro pins s σ H vs us Q I r h
  obtain ⟨a, dx, fs, rfl, ha, h⟩ := h
  rw [Vals.ref1 r]
  obtain ⟨mA, B, _, _, _, _⟩ := ins_get I.hok ha
  obtain ⟨o, _, _, eo, _⟩ := B.ns
  have IA : PySem.W.InstAt s.heap a (PySem.W.instObj C dx) C (some o) := ⟨B.obj, rfl, rfl, eo⟩
  obtain ⟨fd, F, b⟩ := O.ex
  refine Calls.call_function_entry kind_len plain_len entry_len (args_len1 _) ?_
  unfold Builtin.«len»
  refine wpAny_bind (m := PySem.oneArg "len" _) (wpAny_pure ?_)
  refine wpAny_bind (m := callSpecial? (.ref a) (Str.ofString "__len__")) (PySem.W.special_fn I.kIn IA hm.at_ (beq_iff_eq.mp hm.fn) ?_)
  have r2 : Vals [V.ref a] ([Value.ref a] ++ []) := .cons rfl .nil
  refine wpAny_call (codeAny_mono (F.run X.A.in1 X.stack s H ⟨[.ref a], []⟩ ([.ref a] ++ []) [.ref a] _ E0 (hr.mono hk).in1 I.env0.in1 (b s [.ref a] I.kIn rfl) r2 h) fun r s' hq => ?_)
  cases r with
  | error e => exact (show False from hq).elim
  | ok fl =>
    cases fl with
    | next => exact False.elim hq
    | brk => exact False.elim hq
    | cont => exact False.elim hq
    | ret u =>
      obtain ⟨v, H', I', rv, n, rfl, hn, q⟩ := I.after hq
      obtain ⟨t, rfl⟩ : ∃ t, u = Value.int ((n : Nat) : Int) t := rv
      refine wpAny_bind (wpAny_holding (wpAny_pure ?_))
      refine wpAny_bind (wpAny_letGo ?_)
      show wpAny _ _ (if ((n : Nat) : Int) < 0 then _ else _) _ _ _
      rw [if_neg (by omega)]
      show wpAny _ _ (if ((n : Nat) : Int) ≥ 2 ^ 63 then _ else _) _ _ _
      rw [if_neg (by omega)]
      exact wpAny_bind (wpAny_mkInt (wpAny_pure ⟨_, rfl, .int ((n : Nat) : Int), H', I'.tok _, ⟨_, rfl⟩, q⟩))
end Sb
/-! A def with defaults, every argument written; the three changes of a row. -/
namespace Sb
open PySem PySem.Spec PyProof.Rows L2 LamX NdefX
theorem ok_byD {P : Program} {w : World} {K : PySem.W.Frag} {mg : Str → Option Value} {base : Heap} {d : He.DefD} {fd : FuncData} {N ps : List Str} {k : Nat} {sp : Sp} (F : FdOk K d fd) (hd : d.dfl ≠ []) (S : FnScope N ps d.scope)
    (hb : ∀ (T : Addr) (kV doc pm : Value) (an : Option Addr) (cdv ct : Value) (us its : List Value), us.length = ps.length → its.length = d.dfl.length →
      ∃ k, bindArgs (PySem.W.fnOf d.name d.qual d.params d.body d.scope (.ref T) kV doc pm an cdv ct) ⟨us, []⟩ = seqItems? (.ref T) >>= k ∧ k (some its.toArray) = pure (ps.zip us))
    (len : ∀ vs H Q E, sp vs H Q E → vs.length = ps.length)
    (hbody : ∀ (cdv : Value) (A : Around) (outer : List Env) (s : Shared) (H : Hp) (vs : List V) (Q : VK) (E : XK), Room k (A.deeper (envOfC d.qual d.scope s.heap.objs.size (He.fAd K d.at_) cdv)) → sp vs H Q E →
      ∃ t, PSs (cxOf CX0 P w K mg base N d.qual d.scope (He.fAd K d.at_) cdv A outer s H E).nox d.body t ∧ t { nx := fun _ H' => Q .non H', rt := Q } (start N vs) H) : Ok P w K mg base (k + 1) d ps sp := by
  have hl : (d.dvs K).length = d.dfl.length := by
    unfold He.DefD.dvs
    rw [List.length_map]
  have hn : d.dvs K ≠ [] := fun z => hd (by
    rw [z] at hl
    exact List.length_eq_zero_iff.mp hl.symm)
  obtain ⟨ds, r, b⟩ := F.binds1 (ps := ps) ps.length d.dfl.length hn (by rw [hl]; omega) (fun T kV doc pm an cdv ct us its h1 h2 => by
    obtain ⟨k, e1, e2⟩ := hb T kV doc pm an cdv ct us its h1 (by rw [h2, hl])
    refine ⟨k, e1, ?_⟩
    rw [e2, List.drop_of_length_le (by rw [h2, hl]; exact Nat.le_refl _), List.append_nil])
  rw [List.drop_of_length_le (by rw [hl]; exact Nat.le_refl _)] at r
  cases r
  exact ⟨⟨fd, F.ok S len fun cdv A outer s H vs Q E hr hsp => let ⟨t, h, q⟩ := hbody cdv A outer s H vs Q E hr hsp; ⟨t, h.nox, q⟩, b⟩, F.kp⟩
/-! ### the rows behind the deeds -/
def swapR (row : List Str) (a b : Str) : List Str := (row.set (pos row a) b).set (pos row b) a
def dropR (row : List Str) (a : Str) : List Str := row.take (pos row a) ++ row.drop (pos row a + 1)
def addR (row : List Str) (i : Nat) (a : Str) : List Str := row.take i ++ a :: row.drop i
def swapS (a b x : Str) : Str := if x = a then b else if x = b then a else x
theorem swapS_inj {a b x y : Str} (h : swapS a b x = swapS a b y) : x = y := by
  unfold swapS at h
  by_cases h1 : x = a <;> by_cases h2 : x = b <;> by_cases h3 : y = a <;> by_cases h4 : y = b <;> simp_all
theorem swapR_map {row : List Str} {a b : Str} (nd : row.Nodup) (ha : a ∈ row) (hb : b ∈ row) : swapR row a b = row.map (swapS a b) := by
  unfold swapR
  refine List.ext_getElem (by simp) fun k h1 h2 => ?_
  have hk : k < row.length := by simpa using h2
  rw [List.getElem_map, List.getElem_set, List.getElem_set]
  have ea : pos row a = k ↔ row[k] = a := ⟨fun z => by
    subst z
    have := get_pos ha
    rw [List.getElem?_eq_getElem hk] at this
    exact Option.some.inj this, fun z => by
    rw [← z]
    exact pos_getElem nd k hk⟩
  have eb : pos row b = k ↔ row[k] = b := ⟨fun z => by
    subst z
    have := get_pos hb
    rw [List.getElem?_eq_getElem hk] at this
    exact Option.some.inj this, fun z => by
    rw [← z]
    exact pos_getElem nd k hk⟩
  unfold swapS
  by_cases h1 : pos row b = k
  · rw [if_pos h1, eb.mp h1]
    by_cases h3 : b = a
    · rw [if_pos h3, h3]
    · rw [if_neg h3, if_pos rfl]
  · rw [if_neg h1]
    have n1 : ¬ row[k] = b := fun z => h1 (eb.mpr z)
    by_cases h2 : pos row a = k
    · rw [if_pos h2, if_pos (ea.mp h2)]
    · rw [if_neg h2, if_neg (fun z => h2 (ea.mpr z)), if_neg n1]
theorem swapR_nodup {row : List Str} {a b : Str} (nd : row.Nodup) (ha : a ∈ row) (hb : b ∈ row) : (swapR row a b).Nodup := by
  rw [swapR_map nd ha hb]
  exact nd.map _ fun x y h z => h (swapS_inj z)
theorem swapR_mem {row : List Str} {a b x : Str} (nd : row.Nodup) (ha : a ∈ row) (hb : b ∈ row) (h : x ∈ swapR row a b) : x ∈ row := by
  rw [swapR_map nd ha hb] at h
  obtain ⟨y, hy, e⟩ := List.mem_map.mp h
  unfold swapS at e
  by_cases h1 : y = a
  · rw [if_pos h1] at e
    rw [← e]
    exact hb
  · rw [if_neg h1] at e
    by_cases h2 : y = b
    · rw [if_pos h2] at e
      rw [← e]
      exact ha
    · rw [if_neg h2] at e
      rw [← e]
      exact hy
theorem swapR_len {row : List Str} {a b : Str} : (swapR row a b).length = row.length := by simp [swapR]
theorem dropR_sub {row : List Str} {a : Str} : (dropR row a).Sublist row := by
  unfold dropR
  have h : (row.take (pos row a) ++ row.drop (pos row a + 1)).Sublist (row.take (pos row a) ++ row.drop (pos row a)) :=
    List.Sublist.append (List.Sublist.refl _) (by
      rw [← List.drop_drop]
      exact List.drop_sublist _ _)
  rw [List.take_append_drop] at h
  exact h
theorem dropR_len {row : List Str} {a : Str} (h : a ∈ row) : (dropR row a).length = row.length - 1 := by
  unfold dropR
  have := pos_lt h
  rw [List.length_append, List.length_take, List.length_drop]
  omega
theorem addR_perm {row : List Str} {i : Nat} {a : Str} : (addR row i a).Perm (a :: row) := by
  unfold addR
  refine List.perm_middle.trans ?_
  rw [List.take_append_drop]
theorem addR_len {row : List Str} {i : Nat} {a : Str} : (addR row i a).length = row.length + 1 := by
  rw [addR_perm.length_eq]
  rfl
end Sb
/-! change, leave, come, undo, as_of. -/
namespace Sb
open PySem PySem.Spec PyProof.Rows L2 LamX NdefX
theorem ixN_nat {n j : Nat} (h : j < n) : ixN n ((j : Nat) : Int) = some j := by
  unfold ixN
  rw [if_pos (by omega), if_pos (by omega)]
  simp
section
variable {P : Program} {w : World} {K : PySem.W.Frag} {mg : Str → Option Value} {base : Heap}
theorem scChange : FnScope ["self", "one", "other", "near", "far", "found"] ["self", "one", "other"] dChange.scope := ⟨rfl, rfl, rfl, by decide +kernel, rfl, by decide +kernel, by decide +kernel⟩
def spChange (K : PySem.W.Frag) : Sp := fun vs H Q _ => ∃ (s pl : Addr) (pgs : List Pg) (g : Pg) (x y : Str), vs = [.ref s, .str x, .str y] ∧ Yard K H s pl (pgs ++ [g]) ∧ g.row.Nodup ∧ g.row.length < 64 ∧ x ∈ g.row ∧ y ∈ g.row ∧ pgs.length < 1000 ∧
  ∀ H', Fm K [pl] H H' → Yard K H' s pl (pgs ++ [g] ++ [⟨swapR g.row x y, swapR g.row x y, []⟩]) → Q .non H'
theorem ok_change (e : En P w K mg base) {k : Nat} (OS : Ok P w K mg base k dStands ["self"] (spStands K)) (OP : Ok P w K mg base k dPlace ["row", "name"] spPlace) (OF : Ok P w K mg base k dFresh ["row"] (spFresh K)) :
    Ok P w K mg base (k + 1) dChange ["self", "one", "other"] (spChange K) := by
  obtain ⟨fd, F⟩ := e.fd 33
  refine ok_by F rfl scChange (fun _ _ _ _ _ _ us hl => match us, hl with | [_, _, _], _ => rfl) (fun vs H Q E h => ?_) (fun cdv A outer s0 H vs Q E hr h => ?_)
  · obtain ⟨s, pl, pgs, g, x, y, rfl, _⟩ := h
    rfl
  · obtain ⟨s, pl, pgs, g, x, y, rfl, yd, nd, hz, hx, hy, hpz, q⟩ := h
    obtain ⟨dx, ml, zs, p, h1, h2, h3, h4⟩ := yd.last
    refine ⟨_, pss_cons (ps_par (by rfl) scChange.nd (i := 3) (j := 4) rfl rfl (by decide) rfl rfl
        (pa_cons (pe_fn OP hr (Nat.le_refl _) (by rfl) (e.g "place_of") (pa_cons (pe_mt0 (d := dStands) (pv 0) (e.cls "Square") (e.meth "Square" "stands") OS hr (Nat.le_refl _)) (pa_cons (pv 1) pa_nil)))
        (pa_cons (pe_fn OP hr (Nat.le_refl _) (by rfl) (e.g "place_of") (pa_cons (pe_mt0 (d := dStands) (pv 0) (e.cls "Square") (e.meth "Square" "stands") OS hr (Nat.le_refl _)) (pa_cons (pv 2) pa_nil))) pa_nil)) (by rfl))
      (pss_cons (ps_set (i := 5) scChange.nd rfl (.inl rfl) (pe_callTy call_list_of (by rfl) (e.f "list") (by decide +kernel) (pa_cons (pe_mt0 (d := dStands) (pv 0) (e.cls "Square") (e.meth "Square" "stands") OS hr (Nat.le_refl _)) pa_nil)))
      (pss_cons (ps_asg (pe_tup (pa_cons (pv 2) (pa_cons (pv 1) pa_nil))) (pg_tup rfl (pgs_cons (pg_sub (pv 5) (pv 3) set_list) (pgs_cons (pg_sub (pv 5) (pv 4) set_list) pgs_nil))))
      (pss_one (ps_expr (pe_bm PySem.F.plainAttrs_list PySem.F.slot_list_append PySem.F.type_list_append mt_append (pe_fld (pv 0) rfl) (pa_cons (pe_fn OF hr (Nat.le_refl _) (by rfl) (e.g "fresh") (pa_cons (pv 5) pa_nil)) pa_nil)))))), ?_⟩
    refine ⟨.ref s, rfl, s, dx, _, rfl, h1, rfl, s, pl, pgs, g, rfl, yd, fun r1 hr1 => ⟨.str x, rfl, r1, g.row, x, rfl, hr1, nd, hz, hx, fun H1 s1 => ?_⟩⟩
    have y1 := yd.same s1
    refine ⟨.ref s, rfl, s, dx, _, rfl, s1 _ _ h1, rfl, s, pl, pgs, g, rfl, y1, fun r2 hr2 => ⟨.str y, rfl, r2, g.row, y, rfl, hr2, nd, hz, hy, fun H2 s2 => ?_⟩⟩
    have s12 := s1.trans s2
    have y2 := yd.same s12
    refine ⟨_, _, rfl, ?_⟩
    refine ⟨.ref s, rfl, s, dx, _, rfl, s12 _ _ h1, rfl, s, pl, pgs, g, rfl, y2, fun r3 hr3 => ⟨r3, _, rfl, .inr (.inl (.inl hr3)), fun l nl => ?_⟩⟩
    have s3 : Same H2 (upd H2 l (.lst (g.row.map V.str))) := same_upd nl
    have s13 := s12.trans s3
    refine ⟨.str y, rfl, .str x, rfl, by show 2 ≤ sizeLine; decide, fun T nT => ?_⟩
    have s4 : Same (upd H2 l (.lst (g.row.map V.str))) (upd (upd H2 l (.lst (g.row.map V.str))) T (.tup [.str y, .str x])) := same_upd nT
    have hl4 := s4 _ _ (upd_same (H := H2) (a := l) (o := .lst (g.row.map V.str)))
    have s14 := s13.trans s4
    refine ⟨T, _, rfl, .inl (.inl upd_same), rfl, ?_⟩
    generalize upd (upd H2 l (.lst (g.row.map V.str))) T (.tup [.str y, .str x]) = H4 at s14 hl4 ⊢
    have nl0 : H l = none := Same.none s12 nl
    refine ⟨_, _, rfl, .ref l, rfl, _, rfl, l, _, _, pos g.row x, rfl, rfl, hl4, ixN_nat (by rw [List.length_map]; exact pos_lt hx), ?_⟩
    refine ⟨_, _, rfl, .ref l, rfl, _, rfl, l, _, _, pos g.row y, rfl, rfl, upd_same, ixN_nat (by rw [List.length_set, List.length_map]; exact pos_lt hy), rfl, ?_⟩
    have s5 : Same H (upd (upd H4 l (.lst ((g.row.map V.str).set (pos g.row x) (.str y)))) l (.lst (((g.row.map V.str).set (pos g.row x) (.str y)).set (pos g.row y) (.str x)))) := same_chg (same_chg s14 nl0) nl0
    have hl5 : upd (upd H4 l (.lst ((g.row.map V.str).set (pos g.row x) (.str y)))) l (.lst (((g.row.map V.str).set (pos g.row x) (.str y)).set (pos g.row y) (.str x))) l = some (.lst ((swapR g.row x y).map V.str)) := by
      rw [upd_same]
      unfold swapR
      rw [List.map_set, List.map_set]
    generalize upd (upd H4 l (.lst ((g.row.map V.str).set (pos g.row x) (.str y)))) l (.lst (((g.row.map V.str).set (pos g.row x) (.str y)).set (pos g.row y) (.str x))) = H5 at s5 hl5 ⊢
    refine ⟨.ref s, rfl, s, gS K, dx, _, .ref pl, rfl, s5 _ _ h1, e.cls "Square", e.noat "Square" "own_pages", rfl, .inl ⟨rfl, _, .inl (.inl (s5 _ _ h2))⟩, ?_⟩
    refine ⟨.ref l, rfl, l, swapR g.row x y, rfl, .inr hl5, fun H6 p' s6 hp' => ?_⟩
    obtain ⟨us, u1, u2, u3, u4⟩ := yd.push (.of (s5.trans s6)) hp'
    refine ⟨pl, _, _, rfl, rfl, u1, ?_, q _ u4 u3⟩
    rw [List.length_map, u2, List.length_append]
    exact Nat.lt_of_lt_of_le (show pgs.length + 1 < 2000 by omega) (by decide)
/-! ### undo -/
theorem scUndo : FnScope ["self"] ["self"] dUndo.scope := ⟨rfl, rfl, rfl, by decide +kernel, rfl, by decide +kernel, by decide +kernel⟩
def spUndo (K : PySem.W.Frag) : Sp := fun vs H Q _ => ∃ (s pl : Addr) (pgs : List Pg) (g : Pg), vs = [.ref s] ∧ Yard K H s pl (pgs ++ [g]) ∧
  (pgs = [] → Q (.bl false) H) ∧ (pgs ≠ [] → ∀ H', Fm K [pl] H H' → Yard K H' s pl pgs → Q (.bl true) H')
end
end Sb
/-! leave, come, undo, as_of. -/
namespace Sb
open PySem PySem.Spec PyProof.Rows L2 LamX NdefX
theorem cut_take {xs : List V} {n : Nat} : cutV xs none (some ((n : Nat) : Int)) = xs.take n := by
  unfold cutV
  rw [HT.sIx_none, HT.sIx_nat, List.drop_zero, Nat.sub_zero]
  rcases Nat.le_total n xs.length with h | h
  · rw [Nat.min_eq_left h]
  · rw [Nat.min_eq_right h, List.take_length, List.take_of_length_le h]
theorem cut_drop {xs : List V} {n : Nat} : cutV xs (some ((n : Nat) : Int)) none = xs.drop n := by
  unfold cutV
  rw [HT.sIx_none, HT.sIx_nat]
  rcases Nat.le_total n xs.length with h | h
  · rw [Nat.min_eq_left h, List.take_of_length_le (by rw [List.length_drop]; exact Nat.le_refl _)]
  · rw [Nat.min_eq_right h, Nat.sub_self, List.take_zero, List.drop_of_length_le h]
section
variable {K : PySem.W.Frag} {H : Hp} {Q : VK} {a b : Addr} {xs ys : List V} {lo hi : Option Int}
theorem slA_by (h : H a = some (.tup xs)) (q : ∀ r H', Same H H' → H' r = some (.tup (cutV xs lo hi)) → Q (.ref r) H') : rSlA K (.ref a) lo hi H Q := by
  refine ⟨a, xs, rfl, .inl (.inl h), fun w => q a H (fun _ _ z => z) ?_, fun _ p np => q p _ (same_upd np) upd_same⟩
  unfold cutV
  rw [w.1, w.2, List.drop_zero, Nat.sub_zero, List.take_length]
  exact h
theorem catA_by (h : H a = some (.tup xs)) (h' : H b = some (.tup ys)) (hl : xs.length + ys.length ≤ sizeLine) (q : ∀ r H', Same H H' → H' r = some (.tup (xs ++ ys)) → Q (.ref r) H') : rCatA K (.ref a) (.ref b) H Q := by
  refine ⟨a, b, xs, ys, rfl, rfl, .inl (.inl h), .inl (.inl h'), hl, fun e => ?_, fun _ e => ?_, fun _ _ p np => q p _ (same_upd np) upd_same⟩
  · subst e
    exact q b H (fun _ _ z => z) h'
  · subst e
    exact q a H (fun _ _ z => z) (by rw [List.append_nil]; exact h)
end
section
variable {P : Program} {w : World} {K : PySem.W.Frag} {mg : Str → Option Value} {base : Heap}
theorem scLeave : FnScope ["self", "name", "at"] ["self", "name"] dLeave.scope := ⟨rfl, rfl, rfl, by decide +kernel, rfl, by decide +kernel, by decide +kernel⟩
def spLeave (K : PySem.W.Frag) : Sp := fun vs H Q _ => ∃ (s pl : Addr) (pgs : List Pg) (g : Pg) (x : Str), vs = [.ref s, .str x] ∧ Yard K H s pl (pgs ++ [g]) ∧ g.row.Nodup ∧ g.row.length < 64 ∧ 1 < g.row.length ∧ x ∈ g.row ∧ pgs.length < 1000 ∧
  ∀ H' v, Fm K [pl] H H' → Yard K H' s pl (pgs ++ [g] ++ [⟨dropR g.row x, dropR g.row x, []⟩]) → Q v H'
theorem ok_leave (e : En P w K mg base) {k : Nat} (OS : Ok P w K mg base k dStands ["self"] (spStands K)) (OP : Ok P w K mg base k dPlace ["row", "name"] spPlace) (OF : Ok P w K mg base k dFresh ["row"] (spFresh K)) {j : Nat} (hj : j + 1 ≤ k) (OL : Ok P w K mg base j dSqLen ["self"] (spSqLen K)) :
    Ok P w K mg base (k + 1) dLeave ["self", "name"] (spLeave K) := by
  obtain ⟨fd, F⟩ := e.fd 32
  refine ok_by F rfl scLeave (fun _ _ _ _ _ _ us hl => match us, hl with | [_, _], _ => rfl) (fun vs H Q E h => ?_) (fun cdv A outer s0 H vs Q E hr h => ?_)
  · obtain ⟨s, pl, pgs, g, x, rfl, _⟩ := h
    rfl
  · obtain ⟨s, pl, pgs, g, x, rfl, yd, nd, hz, h1z, hx, hpz, q⟩ := h
    obtain ⟨dx, ml, zs, p, h1, h2, h3, h4⟩ := yd.last
    refine ⟨_, pss_cons (ps_set (i := 2) scLeave.nd rfl (.inl rfl) (pe_fn OP hr (Nat.le_refl _) (by rfl) (e.g "place_of") (pa_cons (pe_mt0 (d := dStands) (pv 0) (e.cls "Square") (e.meth "Square" "stands") OS hr (Nat.le_refl _)) (pa_cons (pv 1) pa_nil))))
      (pss_cons (ps_if (pt_cmpR op_eq (pe_callB (call_lenO (d := dSqLen) OL hr hj (e.meth "Square" "__len__")) (by rfl) (e.f "len") PySem.boot_len (pa_cons (pv 0) pa_nil)) pe_int (nomark _)) (pss_one ps_never) pss_nil)
      (pss_cons (ps_expr (pe_bm PySem.F.plainAttrs_list PySem.F.slot_list_append PySem.F.type_list_append mt_append (pe_fld (pv 0) rfl) (pa_cons (pe_fn OF hr (Nat.le_refl _) (by rfl) (e.g "fresh") (pa_cons
        (pe_op op_catA (pe_slice sl_tupA (pe_mt0 (d := dStands) (pv 0) (e.cls "Square") (e.meth "Square" "stands") OS hr (Nat.le_refl _)) po_none (po_some (pv 2)))
          (pe_slice sl_tupA (pe_mt0 (d := dStands) (pv 0) (e.cls "Square") (e.meth "Square" "stands") OS hr (Nat.le_refl _)) (po_some (pe_op op_add (pv 2) pe_int)) po_none)) pa_nil)) pa_nil)))
      (pss_one (ps_ret (pv 2))))), ?_⟩
    refine ⟨.ref s, rfl, s, dx, _, rfl, h1, rfl, s, pl, pgs, g, rfl, yd, fun r1 hr1 => ⟨.str x, rfl, r1, g.row, x, rfl, hr1, nd, hz, hx, fun H1 s1 => ?_⟩⟩
    have y1 := yd.same s1
    refine ⟨.ref s, rfl, s, dx, _, rfl, s1 _ _ h1, ⟨s, pl, pgs, g, rfl, y1, g.row.length, rfl, by omega, ?_⟩⟩
    refine ⟨rfl, _, rfl, ?_⟩
    rw [decide_eq_false (fun z : V.int ((g.row.length : Nat) : Int) = V.int 1 => by
      injection z with z
      omega)]
    refine iteF ?_
    refine ⟨.ref s, rfl, s, gS K, dx, _, .ref pl, rfl, s1 _ _ h1, e.cls "Square", e.noat "Square" "own_pages", rfl, .inl ⟨rfl, _, .inl (.inl (s1 _ _ h2))⟩, ?_⟩
    refine ⟨.ref s, rfl, s, dx, _, rfl, s1 _ _ h1, rfl, s, pl, pgs, g, rfl, y1, fun r2 hr2 => ⟨_, rfl, _, rfl, slA_by hr2 fun r3 H3 s3 hr3 => ?_⟩⟩
    have s13 := s1.trans s3
    refine ⟨.ref s, rfl, s, dx, _, rfl, s13 _ _ h1, rfl, s, pl, pgs, g, rfl, yd.same s13, fun r4 hr4 => ⟨_, rfl, _, _, rfl, rfl, _, rfl, ?_⟩⟩
    dsimp only [tNoPart]
    refine slA_by hr4 fun r5 H5 s5 hr5 => ?_
    have s15 := s13.trans s5
    have hr3' := s5 _ _ hr3
    rw [cut_take, ← List.map_take] at hr3'
    have hr5' : H5 r5 = some (.tup ((g.row.drop (pos g.row x + 1)).map V.str)) := by
      rw [hr5, show ((pos g.row x : Nat) : Int) + 1 = ((pos g.row x + 1 : Nat) : Int) by omega, cut_drop, List.map_drop]
    have hlen : ((g.row.take (pos g.row x)).map V.str).length + ((g.row.drop (pos g.row x + 1)).map V.str).length ≤ sizeLine := by
      rw [List.length_map, List.length_map, List.length_take, List.length_drop]
      exact sl24 (by omega)
    refine catA_by hr3' hr5' hlen fun r6 H6 s6 hr6 => ?_
    have s16 := s15.trans s6
    have hr6' : RowAt H6 r6 (dropR g.row x) := by
      unfold dropR RowAt
      rw [List.map_append]
      exact hr6
    refine ⟨r6, dropR g.row x, rfl, .inl hr6', fun H7 p' s7 hp' => ?_⟩
    obtain ⟨us, u1, u2, u3, u4⟩ := yd.push (.of (s16.trans s7)) hp'
    refine ⟨pl, _, _, rfl, rfl, u1, ?_, _, rfl, q _ _ u4 u3⟩
    rw [List.length_map, u2, List.length_append]
    exact Nat.lt_of_lt_of_le (show pgs.length + 1 < 2000 by omega) (by decide)
end
end Sb
/-! come, undo, as_of. -/
namespace Sb
open PySem PySem.Spec PyProof.Rows L2 LamX NdefX
section
variable {P : Program} {w : World} {K : PySem.W.Frag} {mg : Str → Option Value} {base : Heap}
theorem scCome : FnScope ["self", "name", "place", "at"] ["self", "name", "place"] dCome.scope := ⟨rfl, rfl, rfl, by decide +kernel, rfl, by decide +kernel, by decide +kernel⟩
def spCome (K : PySem.W.Frag) : Sp := fun vs H Q _ => ∃ (s pl : Addr) (pgs : List Pg) (g : Pg) (x : Str) (i : Nat), vs = [.ref s, .str x, .int ((i : Nat) : Int)] ∧ Yard K H s pl (pgs ++ [g]) ∧ g.row.length < 63 ∧ x ∉ g.row ∧ i ≤ g.row.length ∧ pgs.length < 1000 ∧
  ∀ H', Fm K [pl] H H' → Yard K H' s pl (pgs ++ [g] ++ [⟨addR g.row i x, addR g.row i x, []⟩]) → Q .non H'
theorem ok_come (e : En P w K mg base) {k : Nat} (OS : Ok P w K mg base k dStands ["self"] (spStands K)) (OF : Ok P w K mg base k dFresh ["row"] (spFresh K)) {j : Nat} (hj : j + 1 ≤ k) (OL : Ok P w K mg base j dSqLen ["self"] (spSqLen K)) :
    Ok P w K mg base (k + 1) dCome ["self", "name", "place"] (spCome K) := by
  obtain ⟨fd, F⟩ := e.fd 31
  refine ok_byD F (by decide) scCome (fun T kV doc pm an cdv ct us its hl hl2 => match us, hl, its, hl2 with | [_, _, _], _, [_], _ => ⟨_, rfl, rfl⟩) (fun vs H Q E h => ?_) (fun cdv A outer s0 H vs Q E hr h => ?_)
  · obtain ⟨s, pl, pgs, g, x, i, rfl, _⟩ := h
    rfl
  · obtain ⟨s, pl, pgs, g, x, i, rfl, yd, hz, hx, hi, hpz, q⟩ := h
    obtain ⟨dx, ml, zs, p, h1, h2, h3, h4⟩ := yd.last
    refine ⟨_, pss_cons (ps_if (pt_cmpR op_in_seq (pv 1) (pe_mt0 (d := dStands) (pv 0) (e.cls "Square") (e.meth "Square" "stands") OS hr (Nat.le_refl _)) (by rfl)) (pss_one ps_never) pss_nil)
      (pss_cons (ps_set (i := 3) scCome.nd rfl (.inl rfl) (pe_ifExp (pt_cmp (pc_isN (pv 2))) (pe_callB (call_lenO (d := dSqLen) OL hr hj (e.meth "Square" "__len__")) (by rfl) (e.f "len") PySem.boot_len (pa_cons (pv 0) pa_nil)) (pv 2)))
      (pss_cons (ps_if (pt_not (pt_chain op_le op_le pe_int (pv 3) (pe_callB (call_lenO (d := dSqLen) OL hr hj (e.meth "Square" "__len__")) (by rfl) (e.f "len") PySem.boot_len (pa_cons (pv 0) pa_nil)))) (pss_one ps_never) pss_nil)
      (pss_one (ps_expr (pe_bm PySem.F.plainAttrs_list PySem.F.slot_list_append PySem.F.type_list_append mt_append (pe_fld (pv 0) rfl) (pa_cons (pe_fn OF hr (Nat.le_refl _) (by rfl) (e.g "fresh") (pa_cons
        (pe_op op_catA (pe_op op_catA (pe_slice sl_tupA (pe_mt0 (d := dStands) (pv 0) (e.cls "Square") (e.meth "Square" "stands") OS hr (Nat.le_refl _)) po_none (po_some (pv 3))) (pe_tup (pa_cons (pv 1) pa_nil)))
          (pe_slice sl_tupA (pe_mt0 (d := dStands) (pv 0) (e.cls "Square") (e.meth "Square" "stands") OS hr (Nat.le_refl _)) (po_some (pv 3)) po_none)) pa_nil)) pa_nil)))))), ?_⟩
    refine ⟨.str x, rfl, .ref s, rfl, s, dx, _, rfl, h1, rfl, s, pl, pgs, g, rfl, yd, fun r1 hr1 => ⟨r1, _, rfl, .inr (.inl (.inl hr1)), rfl, flat_strs g.row, _, rfl, ?_⟩⟩
    rw [in_strs, decide_eq_false hx]
    refine iteF ?_
    refine ⟨_, rfl, _, rfl, ?_⟩
    rw [decide_eq_false (fun z : V.int ((i : Nat) : Int) = V.non => by cases z)]
    refine iteF ⟨_, rfl, ?_⟩
    refine ⟨_, rfl, _, _, rfl, rfl, _, rfl, ?_⟩
    rw [decide_eq_true (show (0 : Int) ≤ ((i : Nat) : Int) by omega)]
    refine iteT ⟨.ref s, rfl, s, dx, _, rfl, h1, ⟨s, pl, pgs, g, rfl, yd, g.row.length, rfl, by omega, ?_⟩⟩
    refine ⟨_, _, rfl, rfl, _, rfl, ?_⟩
    rw [decide_eq_true (show ((i : Nat) : Int) ≤ ((g.row.length : Nat) : Int) by omega)]
    refine iteF ?_
    refine ⟨.ref s, rfl, s, gS K, dx, _, .ref pl, rfl, h1, e.cls "Square", e.noat "Square" "own_pages", rfl, .inl ⟨rfl, _, .inl (.inl h2)⟩, ?_⟩
    refine ⟨.ref s, rfl, s, dx, _, rfl, h1, rfl, s, pl, pgs, g, rfl, yd, fun r2 hr2 => ⟨_, rfl, _, rfl, slA_by hr2 fun r3 H3 s3 hr3 => ?_⟩⟩
    refine ⟨_, rfl, by show 1 ≤ sizeLine; decide, fun T nT => ?_⟩
    have s4 : Same H3 (upd H3 T (.tup [.str x])) := same_upd nT
    have hr3' := s4 _ _ hr3
    have hT4 : upd H3 T (.tup [.str x]) T = some (.tup [.str x]) := upd_same
    have s04 := s3.trans s4
    generalize upd H3 T (.tup [.str x]) = H4 at s4 hr3' hT4 s04 ⊢
    rw [cut_take, ← List.map_take] at hr3'
    refine catA_by hr3' hT4 ?_ fun r5 H5 s5 hr5 => ?_
    · rw [List.length_map, List.length_take]
      exact sl24 (by show min _ _ + 1 < 64; omega)
    have s05 := s04.trans s5
    refine ⟨.ref s, rfl, s, dx, _, rfl, s05 _ _ h1, rfl, s, pl, pgs, g, rfl, yd.same s05, fun r6 hr6 => ⟨_, rfl, _, rfl, ?_⟩⟩
    dsimp only [tNoPart]
    refine slA_by hr6 fun r7 H7 s7 hr7 => ?_
    have s07 := s05.trans s7
    have hr5' := s7 _ _ hr5
    rw [cut_drop, ← List.map_drop] at hr7
    refine catA_by hr5' hr7 ?_ fun r8 H8 s8 hr8 => ?_
    · rw [List.length_append, List.length_map, List.length_map, List.length_take, List.length_drop]
      exact sl24 (by show min _ _ + 1 + _ < 64; omega)
    have s08 := s07.trans s8
    have hr8' : RowAt H8 r8 (addR g.row i x) := by
      unfold addR RowAt
      rw [List.map_append, List.map_cons, hr8, List.append_assoc]
      rfl
    refine ⟨r8, addR g.row i x, rfl, .inl hr8', fun H9 p' s9 hp' => ?_⟩
    obtain ⟨us, u1, u2, u3, u4⟩ := yd.push (.of (s08.trans s9)) hp'
    refine ⟨pl, _, _, rfl, rfl, u1, ?_, q _ u4 u3⟩
    rw [List.length_map, u2, List.length_append]
    exact Nat.lt_of_lt_of_le (show pgs.length + 1 < 2000 by omega) (by decide)
end
end Sb
/-! undo, as_of. -/
namespace Sb
open PySem PySem.Spec PyProof.Rows L2 LamX NdefX
theorem prd_take {A B : Type} {F : A → B → Prop} : ∀ (n : Nat) {l : List A} {m : List B}, Paired F l m → Paired F (l.take n) (m.take n)
  | 0, _, _, _ => .nil
  | _ + 1, _, _, .nil => .nil
  | n + 1, _, _, .cons r t => .cons r (prd_take n t)
section
variable {P : Program} {w : World} {K : PySem.W.Frag} {mg : Str → Option Value} {base : Heap}
/-- the last page goes -/
theorem Yard.pop {H : Hp} {s pl : Addr} {pgs : List Pg} {g : Pg} {zs : List Addr} {p : Addr} (y : Yard K H s pl (pgs ++ [g])) (hn : pgs ≠ []) (h : H pl = some (.lst (zs.map V.ref ++ [V.ref p]))) : Yard K (upd H pl (.lst (zs.map V.ref))) s pl pgs ∧ Fm K [pl] H (upd H pl (.lst (zs.map V.ref))) := by
  have f1 : Fm K [pl] H (upd H pl (.lst (zs.map V.ref))) := Fm.put .refl h (by simp)
  have nw := yard_notW y
  have mw : ∀ b ∈ [pl], NotW H b := fun b hb => by
    rw [List.mem_singleton.mp hb]
    exact nw
  obtain ⟨dx, ml, us, h1, h2, h3, h4, h5⟩ := y
  obtain ⟨us, p', rfl, q1, q2⟩ := prd_last h4
  have e : us.map V.ref = zs.map V.ref := by
    rw [h] at h3
    injection h3 with h3
    injection h3 with h3
    rw [List.map_append] at h3
    exact (List.append_inj' h3 rfl).1.symm
  refine ⟨⟨dx, ml, us, f1.ins h1, f1.lst h2 fun z => ?_, ?_, L2.Paired.mapP q1 fun g a z => PageAt.fm f1 mw z, hn⟩, f1⟩
  · have z := List.mem_singleton.mp z
    rw [z, h3] at h2
    injection h2 with h2
    injection h2 with h2
    rw [List.map_append] at h2
    simp at h2
  · rw [upd_same, e]
theorem ok_undo (e : En P w K mg base) {k : Nat} (OD : Ok P w K mg base k dDeeds ["self"] (spDeeds K)) : Ok P w K mg base (k + 1) dUndo ["self"] (spUndo K) := by
  obtain ⟨fd, F⟩ := e.fd 34
  refine ok_by F rfl scUndo (fun _ _ _ _ _ _ us hl => match us, hl with | [_], _ => rfl) (fun vs H Q E h => ?_) (fun cdv A outer s0 H vs Q E hr h => ?_)
  · obtain ⟨s, pl, pgs, g, rfl, _⟩ := h
    rfl
  · obtain ⟨s, pl, pgs, g, rfl, yd, q1, q2⟩ := h
    obtain ⟨dx, ml, zs, p, h1, h2, h3, h4⟩ := yd.last
    refine ⟨_, pss_cons (ps_if (pt_cmpR op_eq (pe_mt0 (d := dDeeds) (pv 0) (e.cls "Square") (e.meth "Square" "deeds") OD hr (Nat.le_refl _)) pe_int (nomark _)) (pss_one (ps_ret pe_bl)) pss_nil)
      (pss_cons (ps_expr (pe_bm0 PySem.F.plainAttrs_list PySem.F.slot_list_pop PySem.F.type_list_pop mt_pop (pe_fld (pv 0) rfl))) (pss_one (ps_ret pe_bl))), ?_⟩
    refine ⟨.ref s, rfl, s, dx, _, rfl, h1, rfl, s, pl, pgs, g, rfl, yd, rfl, _, rfl, ?_⟩
    by_cases e0 : pgs = []
    · rw [decide_eq_true (by rw [e0]; rfl)]
      exact iteT (q1 e0)
    · rw [decide_eq_false (fun z : V.int ((pgs.length : Nat) : Int) = V.int 0 => e0 (by
        injection z with z
        exact List.length_eq_zero_iff.mp (by omega)))]
      refine iteF ⟨.ref s, rfl, s, gS K, dx, _, .ref pl, rfl, h1, e.cls "Square", e.noat "Square" "own_pages", rfl, .inl ⟨rfl, _, .inl (.inl h2)⟩, ?_⟩
      obtain ⟨y1, f1⟩ := yd.pop e0 h2
      refine ⟨pl, _, .ref p, rfl, rfl, h2, by simp, ?_⟩
      rw [List.dropLast_concat]
      exact q2 e0 _ f1 y1
/-! ### as_of -/
theorem scAsOf : FnScope ["self", "many", "other"] ["self", "many"] dAsOf.scope := ⟨rfl, rfl, rfl, by decide +kernel, rfl, by decide +kernel, by decide +kernel⟩
def spAsOf (K : PySem.W.Frag) : Sp := fun vs H Q _ => ∃ (s pl : Addr) (pgs : List Pg) (g : Pg) (m : Nat), vs = [.ref s, .int ((m : Nat) : Int)] ∧ Yard K H s pl (pgs ++ [g]) ∧ m ≤ pgs.length ∧
  ∀ H' s' pl', Same H H' → Yard K H' s' pl' ((pgs ++ [g]).take (m + 1)) → Q (.ref s') H'
theorem ok_asOf (e : En P w K mg base) {k : Nat} (OD : Ok P w K mg base k dDeeds ["self"] (spDeeds K)) (OS : Ok P w K mg base k dStands ["self"] (spStands K)) {j : Nat} (hj : j + 1 ≤ k) (OI : Ok P w K mg base j dSqInit ["self", "row"] (spSqInit K)) :
    Ok P w K mg base (k + 1) dAsOf ["self", "many"] (spAsOf K) := by
  obtain ⟨fd, F⟩ := e.fd 35
  refine ok_by F rfl scAsOf (fun _ _ _ _ _ _ us hl => match us, hl with | [_, _], _ => rfl) (fun vs H Q E h => ?_) (fun cdv A outer s0 H vs Q E hr h => ?_)
  · obtain ⟨s, pl, pgs, g, m, rfl, _⟩ := h
    rfl
  · obtain ⟨s, pl, pgs, g, m, rfl, yd, hm, q⟩ := h
    obtain ⟨dx, ml, zs, p, h1, h2, h3, h4⟩ := yd.last
    refine ⟨_, pss_cons (ps_if (pt_not (pt_chain op_le op_le pe_int (pv 1) (pe_mt0 (d := dDeeds) (pv 0) (e.cls "Square") (e.meth "Square" "deeds") OD hr (Nat.le_refl _)))) (pss_one ps_never) pss_nil)
      (pss_cons (ps_set (i := 2) scAsOf.nd rfl (.inl rfl) (pe_mk (d := dSqInit) (e.mkr "Square") OI hr hj (by rfl) (e.g "Square") (pa_cons (pe_mt0 (d := dStands) (pv 0) (e.cls "Square") (e.meth "Square" "stands") OS hr (Nat.le_refl _)) pa_nil)))
      (pss_cons (ps_fld (pv 2) (pe_slice sl_list (pe_fld (pv 0) rfl) po_none (po_some (pe_op op_add (pv 1) pe_int))) rfl)
      (pss_one (ps_ret (pv 2))))), ?_⟩
    refine ⟨_, rfl, _, _, rfl, rfl, _, rfl, ?_⟩
    rw [decide_eq_true (show (0 : Int) ≤ ((m : Nat) : Int) by omega)]
    refine iteT ⟨.ref s, rfl, s, dx, _, rfl, h1, rfl, s, pl, pgs, g, rfl, yd, ?_⟩
    refine ⟨_, _, rfl, rfl, _, rfl, ?_⟩
    rw [decide_eq_true (show ((m : Nat) : Int) ≤ ((pgs.length : Nat) : Int) by omega)]
    refine iteF ?_
    refine ⟨.ref s, rfl, s, dx, _, rfl, h1, rfl, s, pl, pgs, g, rfl, yd, fun r hr => ?_⟩
    intro x dxx nx ndx hne
    have sn : Same H (upd (upd H dxx (.own x)) x (.ins (gS K) dxx [])) := same_new nx ndx
    refine ⟨x, r, dxx, g.row, rfl, upd_same, sn _ _ hr, fun H1 pl1 b1 _ y1 => ⟨rfl, ?_⟩⟩
    have s1 : Same H H1 := same_made nx ndx b1
    refine ⟨.ref s, rfl, s, gS K, dx, _, .ref pl, rfl, s1 _ _ h1, e.cls "Square", e.noat "Square" "own_pages", rfl, _, rfl, _, _, rfl, rfl, _, rfl, ?_⟩
    refine ⟨pl, _, rfl, .inl (.inl (s1 _ _ h2)), fun pl2 n2 => ?_⟩
    have s2 : Same H1 (upd H1 pl2 (.lst (cutV (zs.map V.ref ++ [V.ref p]) none (some (((m : Nat) : Int) + 1))))) := same_upd n2
    have hp2 : upd H1 pl2 (.lst (cutV (zs.map V.ref ++ [V.ref p]) none (some (((m : Nat) : Int) + 1)))) pl2 = some (.lst (((zs ++ [p]).take (m + 1)).map V.ref)) := by
      rw [upd_same, show ((m : Nat) : Int) + 1 = ((m + 1 : Nat) : Int) by omega, cut_take, List.map_take, List.map_append]
      rfl
    have s12 := s1.trans s2
    generalize upd H1 pl2 (.lst (cutV (zs.map V.ref ++ [V.ref p]) none (some (((m : Nat) : Int) + 1)))) = H2 at s2 s12 hp2 ⊢
    obtain ⟨dx', ml', us, u1, u2, u3, u4, u5⟩ := y1.same s2
    refine ⟨.ref x, rfl, x, gS K, dx', _, rfl, u1, e.cls "Square", e.noat "Square" "own_pages", by show 2 < 1000; decide, .ref x, rfl, ?_⟩
    have b3 : But x H2 (upd H2 x (.ins (gS K) dx' (sqFs pl2 ml'))) := But.put fun c o _ h => h
    have s3 : Same H (upd H2 x (.ins (gS K) dx' (sqFs pl2 ml'))) := same_chg s12 nx
    obtain ⟨dx3, ml3, zs3, v1, v2, v3, v4, v5⟩ := yd.same s3
    have ez : zs3.map V.ref = (zs ++ [p]).map V.ref := by
      have := s3 _ _ h2
      rw [v3] at this
      injection this with this
      injection this with this
      rw [this, List.map_append]
      rfl
    refine q _ x pl2 s3 ⟨dx', ml', zs3.take (m + 1), upd_same, b3 _ _ (ne_of u2 u1 fun z => by cases z) u2, ?_, prd_take (m + 1) v4, ?_⟩
    · rw [List.map_take, ez, ← List.map_take]
      exact b3 _ _ (ne_of hp2 u1 fun z => by cases z) hp2
    · intro z
      have := congrArg List.length z
      rw [List.length_take, List.length_append] at this
      simp at this
end
end Sb
/-! call. -/
namespace Sb
open PySem PySem.Spec PyProof.Rows L2 LamX NdefX LiI
/-- an expression that the proof never comes to -/
def tNeverE : TE := fun _ _ _ => False
theorem pe_never {X : Cx} {e : Expr} : PE X e tNeverE := ⟨fun _ _ _ _ _ _ h => h.elim⟩
theorem prd_tell {H : Hp} : ∀ {t : List (Str × Str)} {ts : List Addr}, Paired (fun (a : Addr) (q : Key × V) => H a = some (.tup [kV q.1, q.2])) ts (tellD t) → Paired (fun q a => PrAt H a q) t ts
  | [], _, .nil => .nil
  | _ :: _, _, .cons r t => .cons r (prd_tell t)
theorem callC_fst (ys : List Str) (t : List (Str × Str)) : (callC ys t).map (·.1) = ys := by
  unfold callC
  rw [List.map_map]
  exact List.map_id ys
theorem callC_ok {row ys : List Str} {t : List (Str × Str)} (nd : row.Nodup) (hp : ys.Perm row) (h : ∀ p ∈ t, p.1 ∈ row ∧ p.2 ∈ row) : CallOk row (callC ys t) := by
  refine ⟨by rw [callC_fst]; exact hp.nodup_iff.mpr nd, by rw [callC_fst]; exact hp, fun p hpm => ?_⟩
  unfold callC at hpm
  obtain ⟨x, hx, rfl⟩ := List.mem_map.mp hpm
  by_cases hm : x ∈ t.map (·.1)
  · obtain ⟨q, hq, e⟩ := List.mem_map.mp (tell_in hm)
    show tell t x ∈ row
    rw [← e]
    exact (h q hq).2
  · show tell t x ∈ row
    unfold tell
    rw [lookup_none hm]
    exact hp.mem_iff.mp hx
section
variable {P : Program} {w : World} {K : PySem.W.Frag} {mg : Str → Option Value} {base : Heap}
theorem scCall : FnScope ["self", "told", "pairs", "who", "whom", "call"] ["self", "told"] dCall.scope := ⟨rfl, rfl, rfl, by decide +kernel, rfl, by decide +kernel, by decide +kernel⟩
def spCall (K : PySem.W.Frag) : Sp := fun vs H Q _ => ∃ (s pl d : Addr) (pgs : List Pg) (g : Pg) (t : List (Str × Str)), vs = [.ref s, .ref d] ∧ Yard K H s pl (pgs ++ [g]) ∧ g.row.Nodup ∧ g.row.length < 64 ∧ (∀ x ∈ g.row, SOk x) ∧ H d = some (.dK (tellD t)) ∧ (t.map (·.1)).Nodup ∧ t.length < 64 ∧ (∀ p ∈ t, p.1 ∈ g.row ∧ p.2 ∈ g.row) ∧
  pgs.length < 1000 ∧ g.cs.length < 1000 ∧ Tabs (tabsOf K) H ∧
  ∀ H' v ys, Fm K [pl] H H' → ys.Perm g.row → sortedS ys = true → Yard K H' s pl (pgs ++ [g] ++ [⟨callF (tell (callC ys t)) g.row, g.beg, g.cs ++ [callC ys t]⟩]) → Q v H'
theorem ok_call (e : En P w K mg base) {k : Nat} (OS : Ok P w K mg base k dStands ["self"] (spStands K)) (OK : Ok P w K mg base k dSqLook ["self", "name"] (spSqLook K)) (OC : Ok P w K mg base k dCallOf ["names", "told"] spCallOf) (OP : Ok P w K mg base k dPlain ["call"] spPlain)
    (OD : Ok P w K mg base k dCalled ["row", "call"] (spCalled K)) (OB : Ok P w K mg base k dBegun ["self"] (spBegun K)) (OW : Ok P w K mg base k dWord ["self"] (spWord K)) {j : Nat} (hj : j + 1 ≤ k) (OI : Ok P w K mg base j dPgInit ["self", "own_row", "begun", "word"] (spPgInit K)) :
    Ok P w K mg base (k + 1) dCall ["self", "told"] (spCall K) := by
  obtain ⟨fd, F⟩ := e.fd 30
  refine ok_by F rfl scCall (fun _ _ _ _ _ _ us hl => match us, hl with | [_, _], _ => rfl) (fun vs H Q E h => ?_) (fun cdv A outer s0 H vs Q E hr h => ?_)
  · obtain ⟨s, pl, d, pgs, g, t, rfl, _⟩ := h
    rfl
  · obtain ⟨s, pl, d, pgs, g, t, rfl, yd, nd, hz, hso, hd, htn, htz, htm, hpz, hcz, hT, q⟩ := h
    obtain ⟨dx, ml, zs, p, h1, h2, h3, h4⟩ := yd.last
    refine ⟨_, pss_cons (ps_set (i := 2) scCall.nd rfl (.inl rfl) (pe_ifExp (pt_val (pe_callB call_isi (by rfl) (e.f "isinstance") (by decide +kernel) (pa_cons (pv 1) (pa_cons (pe_bltn (v := .ty "dict") (by rfl) (e.f "dict") (by decide +kernel) rfl) pa_nil)))) (pe_listItems (by rfl) (pv 1) (by rfl) (e.f "list") (by decide +kernel)) pe_never))
      (pss_cons (ps_for PassesOwn.never rfl (pi_list (pv 2)) (pg_tup rfl (pgs_cons (pg_name (i := 3) scCall.nd rfl (.inl rfl)) (pgs_cons (pg_name (i := 4) scCall.nd rfl (.inl rfl)) pgs_nil)))
        (pss_cons (ps_expr (pe_mt (d := dSqLook) (pv 0) (e.cls "Square") (e.meth "Square" "look_name") OK hr (Nat.le_refl _) (pa_cons (pv 3) pa_nil)))
          (pss_one (ps_expr (pe_mt (d := dSqLook) (pv 0) (e.cls "Square") (e.meth "Square" "look_name") OK hr (Nat.le_refl _) (pa_cons (pv 4) pa_nil))))))
      (pss_cons (ps_set (i := 5) scCall.nd rfl (.inl rfl) (pe_fn OP hr (Nat.le_refl _) (by rfl) (e.g "plain_call") (pa_cons (pe_fn OC hr (Nat.le_refl _) (by rfl) (e.g "call_of") (pa_cons (pe_mt0 (d := dStands) (pv 0) (e.cls "Square") (e.meth "Square" "stands") OS hr (Nat.le_refl _))
        (pa_cons (pe_dc (own := [("who", 3), ("whom", 4)]) (g := g2 K 3 4) (by rfl) scCall.nd (pi_list (pv 2)) (blkOk_by (N := ["self", "told", "pairs", "who", "whom", "call"]) (sc := dCall.scope) (by decide +kernel))
          (fun _ _ _ _ _ => pg_tup rfl (pgs_cons (pg_name (i := 3) scCall.nd rfl (.inl rfl)) (pgs_cons (pg_name (i := 4) scCall.nd rfl (.inl rfl)) pgs_nil))) (fun _ _ _ _ _ => pts_nil) (fun _ _ _ _ _ => pv 3) (fun _ _ _ _ _ => pv 4)) pa_nil))) pa_nil)))
      (pss_cons (ps_expr (pe_bm PySem.F.plainAttrs_list PySem.F.slot_list_append PySem.F.type_list_append mt_append (pe_fld (pv 0) rfl) (pa_cons (pe_mk (d := dPgInit) (e.mkr "Page") OI hr hj (by rfl) (e.g "Page")
        (pa_cons (pe_fn OD hr (Nat.le_refl _) (by rfl) (e.g "called") (pa_cons (pe_mt0 (d := dStands) (pv 0) (e.cls "Square") (e.meth "Square" "stands") OS hr (Nat.le_refl _)) (pa_cons (pv 5) pa_nil)))
        (pa_cons (pe_mt0 (d := dBegun) (pv 0) (e.cls "Square") (e.meth "Square" "begun") OB hr (Nat.le_refl _))
        (pa_cons (pe_op op_cat (pe_mt0 (d := dWord) (pv 0) (e.cls "Square") (e.meth "Square" "word") OW hr (Nat.le_refl _)) (pe_lst (pa_cons (pv 5) pa_nil))) pa_nil)))) pa_nil)))
      (pss_one (ps_ret (pe_mt0 (d := dStands) (pv 0) (e.cls "Square") (e.meth "Square" "stands") OS hr (Nat.le_refl _))))))), ?_⟩
    -- pairs
    refine ⟨.ref d, rfl, .ref d, .ty "dict", .type "dict", .type "dict", true, rfl, .ty _, .base (.dK hd), kit_ty (by decide +kernel), _, rfl, iteT ?_⟩
    refine ⟨.ref d, rfl, d, _, rfl, hd, fun H1 pr ts s1 npr nts nin hpr hts => ?_⟩
    have hts := prd_tell hts
    have s1 : Same H H1 := s1
    have y1 := yd.same s1
    -- for who, whom in pairs
    refine ⟨.ref pr, rfl, pr, rfl, ⟨_, .inl (.inl hpr)⟩, for_list (xs := ts.map V.ref) (fun i σ H' => ∃ y3 y4, σ = [some (.ref s), some (.ref d), some (.ref pr), y3, y4, none] ∧ H' = H1) ⟨none, none, rfl, rfl⟩
      (fun i σ H' _ ⟨_, _, _, e⟩ => by rw [e]; exact .inl (.inl hpr)) (fun i v σ H' hv ⟨y3, y4, e1, e2⟩ => ?_) (fun σ H' ⟨y3, y4, e1, e2⟩ => ?_)⟩
    · subst e1 e2
      obtain ⟨a, ha, rfl⟩ := get_map hv
      obtain ⟨qq, hq, hqa⟩ := paired_at hts ha
      obtain ⟨m1, m2⟩ := htm qq (List.mem_of_getElem? hq)
      refine ⟨a, _, rfl, .inl (.inl hqa), rfl, _, _, rfl, _, _, rfl, rfl, ?_⟩
      refine ⟨.ref s, rfl, s, dx, _, rfl, s1 _ _ h1, rfl, .str qq.1, rfl, s, pl, pgs, g, qq.1, rfl, y1, m1, ?_⟩
      exact ⟨.ref s, rfl, s, dx, _, rfl, s1 _ _ h1, rfl, .str qq.2, rfl, s, pl, pgs, g, qq.2, rfl, y1, m2, _, _, rfl, rfl⟩
    subst e1 e2
    -- call
    refine ⟨.ref s, rfl, s, dx, _, rfl, s1 _ _ h1, rfl, s, pl, pgs, g, rfl, y1, fun r hr1 => ⟨.ref pr, rfl, pr, rfl, ⟨_, .inl (.inl hpr)⟩, fun D nD => ?_⟩⟩
    refine lc_any (walk_list (xs := ts.map V.ref)) (fun i H2 => Same H' H2 ∧ H2 D = some (.dK (tellF t i))) ⟨same_upd nD, upd_same⟩ (fun i H2 _ hW => .inl (.inl (hW.1 _ _ hpr))) (fun i v H2 H3 hi ⟨sm, hD⟩ hy => ?_) (fun H2 ⟨s2, hD⟩ => ?_)
    · obtain ⟨rfl, hv⟩ := hy
      obtain ⟨a, ha, rfl⟩ := get_map hv
      obtain ⟨qq, hq, hqa⟩ := paired_at hts ha
      refine ⟨a, _, rfl, .inl (.inl (sm _ _ hqa)), rfl, _, _, rfl, _, _, rfl, rfl, rfl, yes ⟨_, rfl, _, rfl, tellF t i, Sum.inr qq.1, rfl, hD, Nat.lt_of_le_of_lt tellF_len (lt_line htz), same_chg sm nD, ?_⟩⟩
      rw [upd_same, tellF_snoc htn hq]
    rw [List.length_map, ← paired_len hts, tellF_all] at hD
    have s12 := s1.trans s2
    refine ⟨r, D, g.row, t, rfl, s2 _ _ hr1, hz, hD, htz, htm, fun H3 c0 ys s3 nc0 hpm hys hc0 => ?_⟩
    have hco := callC_ok nd hpm htm
    have hcl : (callC ys t).length < 64 := by rw [hco.len]; exact hz
    refine ⟨c0, callC ys t, rfl, hc0, hcl, fun H4 ca s4 nca hca => ?_⟩
    have s14 := (s12.trans s3).trans s4
    have y4 := yd.same s14
    -- the page
    refine ⟨.ref s, rfl, s, gS K, dx, _, .ref pl, rfl, s14 _ _ h1, e.cls "Square", e.noat "Square" "own_pages", rfl, .inl ⟨rfl, _, .inl (.inl (s14 _ _ h2))⟩, ?_⟩
    refine ⟨.ref s, rfl, s, dx, _, rfl, s14 _ _ h1, rfl, s, pl, pgs, g, rfl, y4, fun r2 hr2 => ⟨.ref ca, rfl, ?_⟩⟩
    refine ⟨r2, ca, g.row, callC ys t, rfl, hr2, nd, hz, hso, hca, hco, hT.ext s14, fun H5 r5 x5 t5 hr5 => ?_⟩
    have f5 : Fm K [] H H5 := (Fm.of s14).trans (Fm.ext x5 t5)
    have y5 : Yard K H5 s pl (pgs ++ [g]) := Yard.fm f5 (by simp) yd
    have hca5 : CallAt H5 ca (callC ys t) := CallAt.same (fun b zs hb => ExtN.tup x5 hb) hca
    refine ⟨.ref s, rfl, s, dx, _, rfl, f5.ins h1, rfl, s, pl, pgs, g, rfl, y5, fun b6 hb6 => ?_⟩
    refine ⟨.ref s, rfl, s, dx, _, rfl, f5.ins h1, rfl, s, pl, pgs, g, rfl, y5, fun H7 w7 s7 nw7 hw7 => ?_⟩
    obtain ⟨us, hw7, hus⟩ := hw7
    refine ⟨.ref ca, rfl, by show 1 ≤ sizeLine; decide, fun l8 nl8 => ?_⟩
    have s8 : Same H7 (upd H7 l8 (.lst [.ref ca])) := same_upd nl8
    have hl8 : upd H7 l8 (.lst [.ref ca]) l8 = some (.lst [.ref ca]) := upd_same
    generalize upd H7 l8 (.lst [.ref ca]) = H8 at s8 hl8 ⊢
    have hul : us.length = g.cs.length := (paired_len hus).symm
    refine ⟨w7, l8, _, _, rfl, rfl, s8 _ _ hw7, hl8, ?_, fun p9 np9 => ?_⟩
    · rw [List.length_map, hul]
      exact Nat.le_of_lt (Nat.lt_of_lt_of_le (show g.cs.length + 1 < 2000 by omega) (by decide))
    have s9 : Same H8 (upd H8 p9 (.lst (us.map V.ref ++ [.ref ca]))) := same_upd np9
    have hw9 : upd H8 p9 (.lst (us.map V.ref ++ [.ref ca])) p9 = some (.lst ((us ++ [ca]).map V.ref)) := by
      rw [upd_same, List.map_append]
      rfl
    have s79 := s8.trans s9
    generalize upd H8 p9 (.lst (us.map V.ref ++ [.ref ca])) = H9 at s9 s79 hw9 ⊢
    intro x dxx nx ndx hne
    refine ⟨x, r5, b6, p9, dxx, rfl, upd_same, fun H10 b10 h10 => ⟨rfl, ?_⟩⟩
    have s10 : Same H9 H10 := same_made nx ndx b10
    have s510 : Same H5 H10 := s7.trans (s79.trans s10)
    have s710 : Same H7 H10 := s79.trans s10
    have hp : PageAt K H10 x ⟨callF (tell (callC ys t)) g.row, g.beg, g.cs ++ [callC ys t]⟩ :=
      ⟨dxx, r5, b6, p9, h10, s510 _ _ hr5, s510 _ _ hb6, us ++ [ca], s10 _ _ hw9, prd_snoc (F := fun c a => CallAt H10 a c) (CallAt.same (Same.tups s510) hca5) (L2.Paired.mapP hus fun c a h => CallAt.same (Same.tups s710) h)⟩
    obtain ⟨vs, u1, u2, u3, u4⟩ := yd.push (f5.trans (.of s510)) hp
    obtain ⟨dx', ml', zs', p', h1', _⟩ := u3.last
    refine ⟨pl, _, _, rfl, rfl, u1, ?_, ?_⟩
    · rw [List.length_map, u2, List.length_append]
      exact Nat.lt_of_lt_of_le (show pgs.length + 1 < 2000 by omega) (by decide)
    · exact ⟨.ref s, rfl, s, dx', _, rfl, h1', rfl, s, pl, _, _, rfl, u3, fun r11 _ => q _ _ ys u4 hpm hys u3⟩
end
end Sb
/-! rows_behind, called_all. -/
namespace Sb
open PySem PySem.Spec PyProof.Rows L2 LamX NdefX
theorem extN_chg {H H1 : Hp} {D : Addr} {o : HO} (s : ExtN H H1) (n : H D = none) : ExtN H (upd H1 D o) := fun b u e t => by
  rw [upd_ne (ne_of_none e n)]
  exact s b u e t
theorem wordC_take {cs : List (List (Str × Str))} {row : List Str} {i : Nat} {c : List (Str × Str)} (h : cs[i]? = some c) : wordC (cs.take (i + 1)) row = callF (tell c) (wordC (cs.take i) row) := by
  unfold wordC word
  rw [take_snoc h, List.map_append, List.foldl_append]
  rfl
theorem wordC_snoc (cs : List (List (Str × Str))) (c : List (Str × Str)) (row : List Str) : wordC (cs ++ [c]) row = callF (tell c) (wordC cs row) := by
  unfold wordC word
  rw [List.map_append, List.foldl_append]
  rfl
section
variable {P : Program} {w : World} {K : PySem.W.Frag} {mg : Str → Option Value} {base : Heap}
theorem scRows : FnScope ["row", "word", "found", "call"] ["row", "word"] dRows.scope := ⟨rfl, rfl, rfl, by decide +kernel, rfl, by decide +kernel, by decide +kernel⟩
def spRows (K : PySem.W.Frag) : Sp := fun vs H Q _ => ∃ (a wa : Addr) (row : List Str) (cs : List (List (Str × Str))), vs = [.ref a, .ref wa] ∧ RowAt H a row ∧ row.Nodup ∧ row.length < 64 ∧ (∀ x ∈ row, SOk x) ∧ WordAt H wa cs ∧ (∀ c ∈ cs, CallOk row c) ∧ cs.length < 1000 ∧ Tabs (tabsOf K) H ∧
  ∀ H' r xs z, ExtN H H' → Tabs (tabsOf K) H' → H' r = some (.lst (xs ++ [V.ref z])) → RowAt H' z (wordC cs row) → Q (.ref r) H'
theorem ok_rows (e : En P w K mg base) {k : Nat} (O : Ok P w K mg base k dCalled ["row", "call"] (spCalled K)) : Ok P w K mg base (k + 1) dRows ["row", "word"] (spRows K) := by
  obtain ⟨fd, F⟩ := e.fd 36
  refine ok_by F rfl scRows (fun _ _ _ _ _ _ us hl => match us, hl with | [_, _], _ => rfl) (fun vs H Q E h => ?_) (fun cdv A outer s0 H vs Q E hr h => ?_)
  · obtain ⟨a, wa, row, cs, rfl, _⟩ := h
    rfl
  · obtain ⟨a, wa, row, cs, rfl, ha, nd, hz, hso, ⟨ts, hw, hts⟩, hc, hcz, hT, q⟩ := h
    refine ⟨_, pss_cons (ps_set (i := 2) scRows.nd rfl (.inl rfl) (pe_lst (pa_cons (pe_callTy call_tuple_of (by rfl) (e.f "tuple") (by decide +kernel) (pa_cons (pv 0) pa_nil)) pa_nil)))
      (pss_cons (ps_for PassesOwn.never rfl (pi_list (pv 1)) (pg_name (i := 3) scRows.nd rfl (.inl rfl))
        (pss_one (ps_expr (pe_bm PySem.F.plainAttrs_list PySem.F.slot_list_append PySem.F.type_list_append mt_append (pv 2) (pa_cons (pe_fn O hr (Nat.le_refl _) (by rfl) (e.g "called") (pa_cons (pe_ix ix_list (pv 2) (pe_un un_neg pe_int) (fun _ _ => rfl)) (pa_cons (pv 3) pa_nil))) pa_nil)))))
      (pss_one (ps_ret (pv 2)))), ?_⟩
    refine ⟨.ref a, rfl, a, _, rfl, .inr ⟨.inl (.inl ha), ?_⟩⟩
    refine ⟨by show 1 ≤ sizeLine; decide, fun D nD => ?_⟩
    have s0 : Same H (upd H D (.lst [.ref a])) := same_upd nD
    refine ⟨.ref wa, rfl, wa, rfl, ⟨_, .inl (.inl (s0 _ _ hw))⟩, for_list (xs := ts.map V.ref) (fun i σ H' => ∃ y, σ = [some (.ref a), some (.ref wa), some (.ref D), y] ∧ ExtN H H' ∧ Tabs (tabsOf K) H' ∧ ∃ xs z, xs.length = i ∧ H' D = some (.lst (xs ++ [V.ref z])) ∧ RowAt H' z (wordC (cs.take i) row)) ?_
      (fun i σ H' _ ⟨_, _, x, _⟩ => .inl (.inl (ExtN.lst x hw))) (fun i v σ H' hv ⟨y, e1, x, t, xs, z, hxl, hD, hzp⟩ => ?_) (fun σ H' ⟨y, e1, x, t, xs, z, hxl, hD, hzp⟩ => ?_)⟩
    · exact ⟨none, rfl, ExtN.of s0, hT.ext s0, [], a, rfl, upd_same, s0 _ _ ha⟩
    · subst e1
      obtain ⟨c0, hc0, rfl⟩ := get_map hv
      obtain ⟨c, hcc, ca⟩ := paired_at hts hc0
      have hi : i < cs.length := (List.getElem?_eq_some_iff.mp hcc).1
      obtain ⟨pw, nw⟩ := word_perm (ts := (cs.take i).map tell) nd (keeps_of fun c h => hc c (List.mem_of_mem_take h))
      refine ⟨.ref D, rfl, .inl ⟨rfl, _, .inl (.inl hD)⟩, .ref D, rfl, 1, rfl, D, _, -1, _, rfl, rfl, .inl (.inl hD), atI_last xs (V.ref z), .ref c0, rfl, ?_⟩
      refine ⟨z, c0, wordC (cs.take i) row, c, rfl, hzp, nw, by rw [pw.length_eq]; exact hz, fun y hy => hso y (pw.mem_iff.mp hy), CallAt.same (fun b ys hb => ExtN.tup x hb) ca, (hc c (List.mem_of_getElem? hcc)).perm pw.symm, t, fun H2 r x2 t2 hr2 => ?_⟩
      have hD2 := ExtN.lst x2 hD
      refine ⟨D, _, _, rfl, rfl, hD2, ?_, ?_⟩
      · rw [List.length_append, hxl]
        exact Nat.lt_of_lt_of_le (show i + 1 < 2000 by omega) (by decide)
      · refine ⟨some (.ref c0), rfl, extN_chg (x.trans x2) nD, tabs_upd t2 hD2 (fun _ z => by cases z) (fun _ z => by cases z), xs ++ [V.ref z], r, by rw [List.length_append, hxl]; rfl, upd_same, ?_⟩
        rw [wordC_take hcc]
        exact tup_put hr2 hD2
    · subst e1
      rw [List.length_map, ← paired_len hts, List.take_of_length_le (Nat.le_refl _)] at hzp
      exact ⟨_, rfl, q _ D xs z x t hD hzp⟩
theorem scCalledAll : FnScope ["row", "word"] ["row", "word"] dCalledAll.scope := ⟨rfl, rfl, rfl, by decide +kernel, rfl, by decide +kernel, by decide +kernel⟩
def spCalledAll (K : PySem.W.Frag) : Sp := fun vs H Q _ => ∃ (a wa : Addr) (row : List Str) (cs : List (List (Str × Str))), vs = [.ref a, .ref wa] ∧ RowAt H a row ∧ row.Nodup ∧ row.length < 64 ∧ (∀ x ∈ row, SOk x) ∧ WordAt H wa cs ∧ (∀ c ∈ cs, CallOk row c) ∧ cs.length < 1000 ∧ Tabs (tabsOf K) H ∧
  ∀ H' z, ExtN H H' → Tabs (tabsOf K) H' → RowAt H' z (wordC cs row) → Q (.ref z) H'
theorem ok_calledAll (e : En P w K mg base) {k : Nat} (O : Ok P w K mg base k dRows ["row", "word"] (spRows K)) : Ok P w K mg base (k + 1) dCalledAll ["row", "word"] (spCalledAll K) := by
  obtain ⟨fd, F⟩ := e.fd 37
  refine ok_by F rfl scCalledAll (fun _ _ _ _ _ _ us hl => match us, hl with | [_, _], _ => rfl) (fun vs H Q E h => ?_) (fun cdv A outer s0 H vs Q E hr h => ?_)
  · obtain ⟨a, wa, row, cs, rfl, _⟩ := h
    rfl
  · obtain ⟨a, wa, row, cs, rfl, ha, nd, hz, hso, hw, hc, hcz, hT, q⟩ := h
    refine ⟨_, pss_one (ps_ret (pe_ix ix_list (pe_fn O hr (Nat.le_refl _) (by rfl) (e.g "rows_behind") (pa_cons (pv 0) (pa_cons (pv 1) pa_nil))) (pe_un un_neg pe_int) (fun _ _ => rfl))), ?_⟩
    exact ⟨.ref a, rfl, .ref wa, rfl, a, wa, row, cs, rfl, ha, nd, hz, hso, hw, hc, hcz, hT, fun H1 r xs z x1 t1 hr1 hz1 => ⟨1, rfl, r, _, -1, _, rfl, rfl, .inl (.inl hr1), atI_last xs (V.ref z), q _ z x1 t1 hz1⟩⟩
end
end Sb
/-! dict(a tuple of pairs); the tuple is known to its object. -/
namespace Sb
open PySem PySem.Spec PyProof.Rows L2
section
variable {X : Cx}
/-- tuple(xs) of a list, the new tuple known to its object -/
theorem call_tupleZ : CallR X (.type "tuple") (fun xs H Q => ∃ p ys, xs = [.ref p] ∧ SqL X.K H p ys ∧ ∀ l o, o.dict = none → H l = none → Q (.ref l) (upd H l (.frz o (.tup ys)))) := by
  intro pins s σ H xs us Q I r h
  obtain ⟨p, ys, rfl, hq, q⟩ := h
  obtain ⟨u, rfl, rx⟩ := vals1 r
  cases rx
  obtain ⟨its, r', pl, hz⟩ := I.list hq
  have hlen := r'.length
  refine call_tuple_list pl.isList (fun h' kp => ?_) (by simp only [List.size_toArray] <;> omega)
  have I1 : Inv X pins σ H { s with heap := h' } := I.kept (t' := s.toks) kp
  have e : (h'.push { cls := .type "tuple", data := .seq its.toArray }).get? h'.objs.size = some { cls := .type "tuple", data := .seq its.toArray } := Heap.get?_push_size _ rfl
  have I2 : Inv X pins σ (upd H h'.objs.size (.frz { cls := .type "tuple", data := .seq its.toArray } (.tup ys))) { s with heap := h'.push { cls := .type "tuple", data := .seq its.toArray } } :=
    I1.laid (t' := s.toks) (fun b o e => Heap.get?_push_of_some _ e) (Nat.le_refl _) (show ObjOk X.prog X.w _ _ _ (.frz _ (.tup ys)) from ⟨e, hz, its, r', IsTup.new _ _⟩)
  exact ⟨.ref h'.objs.size, _, I2, rfl, q _ _ rfl (I1.hok.fresh (Nat.le_refl _))⟩
theorem pairs_ofV {pins : List (Addr × Obj)} {σ : L2.St} {H : Hp} {s : Shared} (I : Inv X pins σ H s) : ∀ {ps : List Addr} {kvs : List (Key × V)}, Paired (fun p kv => SqT X.K H p [kV kv.1, kv.2]) ps kvs →
    ∃ (prs : List (Key × Value)) (pv : List (Value × Value)), KV kvs prs ∧ prs.length = ps.length ∧ pv.length = ps.length ∧ ∀ (j : Nat) (k v : Value), pv[j]? = some (k, v) → ∃ (b : Addr) (q : Key), ps[j]? = some b ∧ IsTup s.heap b #[k, v] ∧ prs[j]? = some (q, v) ∧ keyIs q k = true
  | _, _, .nil => ⟨[], [], .nil, rfl, rfl, fun j k v e => by simp at e⟩
  | _, _, .cons (a := p) (b := kv) h t => by
    obtain ⟨prs, pv, r, h1, h2, hp⟩ := pairs_ofV I t
    obtain ⟨its, rv, ht, _⟩ := I.tuple h
    obtain ⟨u, y, ei, ru, ry⟩ := vals2 rv
    subst ei
    refine ⟨(kv.1, y) :: prs, (u, y) :: pv, .cons ⟨rfl, ry⟩ r, by rw [List.length_cons, List.length_cons, h1], by rw [List.length_cons, List.length_cons, h2], fun j k v e => ?_⟩
    cases j with
    | zero =>
      have e' : (u, y) = (k, v) := Option.some.inj e
      cases e'
      exact ⟨p, kv.1, rfl, ht, rfl, kV_is (P := X.prog) (w := X.w) ru⟩
    | succ j =>
      obtain ⟨b, q, e1, e2, e3, e4⟩ := hp j k v (by simpa using e)
      exact ⟨b, q, by simpa using e1, e2, by simpa using e3, e4⟩
/-- dict(t) of a tuple of pairs (key, value) -/
theorem call_dictZ (hcalm : X.calm = true) : CallR X (.type "dict") (fun xs H Q => ∃ (a : Addr) (o : Obj) (ps : List Addr) (kvs : List (Key × V)), xs = [.ref a] ∧ H a = some (.frz o (.tup (ps.map V.ref))) ∧ o.dict = none ∧ Paired (fun p kv => SqT X.K H p [kV kv.1, kv.2]) ps kvs ∧
    ∀ p, H p = none → Q (.ref p) (upd H p (.dK (mergeK [] kvs)))) := by
  intro pins s σ H xs us Q I r q
  obtain ⟨a, o, ps, kvs, ex, ha, hd0, hp, q⟩ := q
  subst ex
  obtain ⟨u, eu, rx⟩ := vals1 r
  subst eu
  cases rx
  obtain ⟨eo, hz, its, rv, ot, hot, hct, n, hdt⟩ := I.hok a _ ha
  rw [eo] at hot
  cases hot
  have ei := refs_at rv
  subst ei
  rw [List.length_map] at hz
  obtain ⟨prs, pv, rel, h1, h2, hpr⟩ := pairs_ofV I hp
  have ok : PlainSeq "tuple" s.heap a (ps.map Value.ref).toArray ∧ PairItems s.heap (ps.map Value.ref).toArray (fun j => ps.getD j 0) pv := by
    refine ⟨⟨o, n, eo, hct, hd0, hdt⟩, by rw [List.size_toArray, List.length_map, h2], fun j k v e => ?_⟩
    obtain ⟨b, q, e1, e2, e3, e4⟩ := hpr j k v e
    have eb : ps.getD j 0 = b := by rw [List.getD_eq_getElem?_getD, e1]; rfl
    refine ⟨by simp [e1, eb], .inl ?_⟩
    show Heap.IsTuple s.heap (ps.getD j 0) #[k, v]
    rw [eb]
    exact e2
  refine PySem.call_dict_pairs (knd := mixKind X.prog X.w) (kvs := prs) (PairArg.tuple a (ps.map Value.ref).toArray (fun j => ps.getD j 0) pv) (I.ok.hd hcalm) ok ⟨by rw [h1, h2], fun i k v e => ?_⟩ (by rw [h2]; exact hz) fun h' tk hd' k => ?_
  · obtain ⟨b, q, e1, e2, e3, e4⟩ := hpr i k v e
    exact ⟨q, e3, e4⟩
  · have hm : (s.heap.objs.size == sysModules) = false := beq_eq_false_iff_ne.mpr (Nat.ne_of_gt I.big)
    have hlen : (mergeK [] kvs).length ≤ sizeLine := by
      refine Nat.le_trans (length_mergeK kvs []) ?_
      rw [List.length_nil, Nat.zero_add, rel.length, h1]
      exact hz
    exact ⟨.ref s.heap.objs.size, upd H s.heap.objs.size (.dK (mergeK [] kvs)), I.laid (t' := tk) (fun b o e => k b o (by simp) e) (Nat.le_refl _) (show ObjOk X.prog X.w _ _ _ (.dK (mergeK [] kvs)) from ⟨hlen, hm, merged [] prs, KV.merge rel .nil, hd'⟩), rfl, q _ (I.hok.fresh (Nat.le_refl _))⟩
end
end Sb
/-! xs.remove(a text). -/
namespace Sb
open PySem PySem.Spec PyProof.Rows L2
def isS (x : Str) (v : Value) : Bool := match v with
  | .str y _ => y.cps.toList == x.cps.toList
  | _ => false
theorem isS_gives {x : Str} {t : Tok} : ∀ {xs : List Str} {us : List Value}, Vals (xs.map V.str) us → ∀ y ∈ us, MeetsSeq.EqGives y (.str x t) (isS x y)
  | [], _, .nil, y, hy => by simp at hy
  | a :: xs, _, .cons r t', y, hy => by
    rcases List.mem_cons.mp hy with e | hy
    · obtain ⟨u, rfl⟩ := r
      rw [e]
      exact SeqRoads2.EqGives.str a x u t
    · exact isS_gives t' y hy
theorem isS_iff {x y : Str} {t : Tok} : isS x (.str y t) = true ↔ y = x := by
  show (y.cps.toList == x.cps.toList) = true ↔ _
  rw [beq_iff_eq]
  constructor
  · intro e
    cases y
    cases x
    congr 1
    exact Array.toList_inj.mp e
  · intro e
    rw [e]
theorem erase_mapS {A B : Type} {f : A → B} {ls : List A} {i : Nat} : (ls.map f).eraseIdx i = (ls.eraseIdx i).map f := by
  rw [List.eraseIdx_eq_take_drop_succ, List.eraseIdx_eq_take_drop_succ, List.map_append, List.map_take, List.map_drop]
section
variable {X : Cx}
def rRemS : V → List V → Hp → VK → Prop := fun x vs H Q => ∃ (l : Addr) (xs : List Str) (k : Str) (j : Nat), x = .ref l ∧ vs = [.str k] ∧ H l = some (.lst (xs.map V.str)) ∧ xs[j]? = some k ∧ (∀ m : Nat, m < j → xs[m]? ≠ some k) ∧ Q .non (upd H l (.lst ((xs.eraseIdx j).map V.str)))
theorem mt_removeS : MtM X "list.remove" rRemS := by
  intro pins s σ H x vs v us Q I rx rxs h
  obtain ⟨l, xs, k, j, rfl, rfl, hH, hj, hno, q⟩ := h
  cases rx
  obtain ⟨u, rfl, ru⟩ := rxs.one
  obtain ⟨t, rfl⟩ := ru
  obtain ⟨z, its, n, r, hl, e⟩ := I.lstM hH
  rw [List.length_map] at hl z
  have hjn : j < xs.length := (List.getElem?_eq_some_iff.mp hj).1
  have hjl : j < its.toArray.size := by rw [List.size_toArray]; omega
  have at_ : ∀ (m : Nat) (y : Str), xs[m]? = some y → ∃ tm, its[m]? = some (.str y tm) := fun m y h => by
    obtain ⟨u, hu, ru⟩ := r.get (i := m) (x := .str y) (by rw [List.getElem?_map, h]; rfl)
    obtain ⟨tm, rfl⟩ := ru
    exact ⟨tm, hu⟩
  refine call_meets PySem.F.slot_list_remove ⟨_, e, rfl⟩ PySem.F.entry_list_remove (PySem.F.args_list_remove_2 _ _)
    (MeetsSeq.list_remove l its.toArray n (.str k t) (isS k) (fun y hy => isS_gives r y (by simpa using hy)) j hjl ?_ ?_ (by rw [List.size_toArray]; omega)) ⟨e, ?_⟩
  · obtain ⟨tj, hjt⟩ := at_ j k hj
    obtain ⟨h1, h2⟩ := List.getElem?_eq_some_iff.mp hjt
    have e1 : its.toArray[j] = .str k tj := by simpa using h2
    rw [e1]
    exact isS_iff.mpr rfl
  · intro m hm hmj
    have hmn : m < xs.length := by omega
    obtain ⟨tm, hmt⟩ := at_ m _ (List.getElem?_eq_getElem hmn)
    obtain ⟨h1, h2⟩ := List.getElem?_eq_some_iff.mp hmt
    have e1 : its.toArray[m] = .str xs[m] tm := by simpa using h2
    rw [e1]
    cases hb : isS k (.str xs[m] tm) with
    | false => rfl
    | true =>
      refine absurd ?_ (hno m hmj)
      rw [List.getElem?_eq_getElem hmn, isS_iff.mp hb]
  · have rr := r.eraseIdx j
    rw [erase_mapS] at rr
    refine ⟨.non, _, I.lset (its' := its.eraseIdx j) (t' := s.toks) hH e ?_ rr ?_, rfl, q⟩
    · show its.toArray.eraseIdxIfInBounds j = (its.eraseIdx j).toArray
      rw [List.eraseIdxIfInBounds_toArray]
    · rw [List.length_map, List.length_eraseIdx]
      split <;> omega
end
end Sb
/-! xs[-2::-1]. -/
namespace Sb
open PySem PySem.Spec PyProof.Rows L2
theorem rev2_bounds (k : Nat) : sliceBounds (some (-2)) none (some (-1)) (k + 1) = ((k : Int) - 1, -1, -1) := by
  have h1 : ¬ ((-1 : Int) > 0) := by decide
  show (max (-1 : Int) (min ((-2 : Int) + ((k + 1 : Nat) : Int)) (((k + 1 : Nat) : Int) - 1)), (-1 : Int), (-1 : Int)) = _
  rw [show max (-1 : Int) (min ((-2 : Int) + ((k + 1 : Nat) : Int)) (((k + 1 : Nat) : Int) - 1)) = (k : Int) - 1 by omega]
theorem rev2_pick {items : Array Value} {k : Nat} (h : items.size = k + 1) : slicePick items (some (-2)) none (some (-1)) = (items.toList.take k).reverse.toArray := by
  unfold slicePick
  rw [h, rev2_bounds]
  show ((sliceRange ((k : Int) - 1) (-1) (-1)).filterMap (items[·]?)).toArray = _
  rw [PySem.W.krv_sliceRange, PySem.W.krv_range, List.filterMap_reverse]
  have hp := PySem.pick_run items 0 k
  have e : (List.range k).map (0 + ·) = List.range k := by
    rw [show ((0 + ·) : Nat → Nat) = id from funext fun k => Nat.zero_add k, List.map_id]
  rw [e, List.drop_zero] at hp
  rw [hp]
def tRev2 (K : PySem.W.Frag) (te : TE) : TE := fun σ H Q => te σ H fun x H1 => ∃ a xs y, x = .ref a ∧ SqL K H1 a (xs ++ [y]) ∧ ∀ p, H1 p = none → Q (.ref p) (upd H1 p (.lst xs.reverse))
section
variable {X : Cx}
theorem pe_rev2 {e : Expr} {te : TE} {k k2 : Nat} {p1 p2 p3 p4 p5 pos : Pos} (he : PE X e te) : PE X (.Subscript e (.Slice (some (.UnaryOp .USub (.Constant (.int 2) k2 p4) p5)) none (some (.UnaryOp .USub (.Constant (.int 1) k p1) p2)) p3) pos) (tRev2 X.K te) := by
  refine ⟨fun pins s σ H Q I h => ?_⟩
  refine Subscript_ (thn (he.run pins s σ H _ I h) fun v s1 ⟨x, H1, I1, r1, q1⟩ => ?_)
  obtain ⟨a, xs, y, ex, hx, q⟩ := q1
  subst ex
  cases r1
  have hst : PO X (some (.UnaryOp .USub (.Constant (.int 1) k p1) p2)) (tPart (tUn (rU fun i => .int (-i)) (tC (.int 1)))) := po_some (pe_un un_neg pe_int)
  have hst2 : PO X (some (.UnaryOp .USub (.Constant (.int 2) k2 p4) p5)) (tPart (tUn (rU fun i => .int (-i)) (tC (.int 2)))) := po_some (pe_un un_neg pe_int)
  refine wpAny_Slice (thn (hst2.run pins s1 σ H1 (fun o H2 => o = some (-2) ∧ H2 = H1) I1 ⟨2, rfl, -2, rfl, rfl, rfl⟩) fun vl s2 ⟨l, H2, I2, pl, el, e2⟩ => ?_)
  subst el e2
  refine thn (po_none.run pins s2 σ H2 (fun o H3 => o = none ∧ H3 = H2) I2 ⟨rfl, rfl⟩) fun vu s3 ⟨u, H3, I3, pu, eu, e3⟩ => ?_
  subst eu e3
  refine thn (hst.run pins s3 σ H3 (fun o H4 => o = some (-1) ∧ H4 = H3) I3 ⟨1, rfl, -1, rfl, rfl, rfl⟩) fun vs s4 ⟨o, H4, I4, ps, eo, e4⟩ => ?_
  subst eo e4
  have I5 : Inv X pins σ H4 { s4 with heap := s4.heap.push { cls := .type "slice", data := .fields #[vl, vu, vs] } } := I4.kept (t' := s4.toks) fun b ob q => Heap.get?_push_of_some _ q
  obtain ⟨its, r, ht, hz⟩ := I5.list hx
  have hlen := r.length
  rw [List.length_append, List.length_singleton] at hlen hz
  show wpAny (model X.prog X.w) X.A (subscriptTail e (.Slice (some (.UnaryOp .USub (.Constant (.int 2) k2 p4) p5)) none (some (.UnaryOp .USub (.Constant (.int 1) k p1) p2)) p3) (.ref a) (.ref s4.heap.objs.size)) (EP X pins σ Q) X.xe { s4 with heap := s4.heap.push { cls := .type "slice", data := .fields #[vl, vu, vs] } }
  refine tail_any (ops := [.ref a, .ref s4.heap.objs.size]) ht.isList.typeIs (PySem.slot_list_getitem.lookup) ?_ (by with_unfolding_all rfl)
  refine wpAny_getItem_list_slice ht.isList (Heap.IsSliceOf.new _ vl vu vs) pl pu ps (by decide) ?_ (by rw [List.size_toArray]; omega)
  rw [rev2_pick (k := xs.length) (by rw [List.size_toArray]; exact hlen.symm)]
  have rt := (r.take xs.length).reverse
  rw [List.take_left' rfl] at rt
  refine ⟨.ref _, _, I5.laid (t' := s4.toks) (o := .lst xs.reverse) (fun b ob q => Heap.get?_push_of_some _ q) (Nat.le_refl _) ?_, rfl, q _ (I5.hok.fresh (Nat.le_refl _))⟩
  exact ⟨by rw [List.length_reverse]; omega, _, 0, rt, Heap.get?_push_size _ rfl⟩
end
end Sb
/-! The law's draws. -/
namespace Sb
open PySem PySem.Spec PyProof.Rows L2 LamX NdefX
/-- the box of the draws, n of them taken at most -/
def BoxAt (H : Hp) (b : Addr) (n : Nat) : Prop := ∃ b0 b1 b2 : Int, H b = some (.lst [.int b0, .int b1, .int b2]) ∧ 0 ≤ b0 ∧ 0 ≤ b1 ∧ b1 < 1000000000000 ∧ 0 ≤ b2 ∧ b2 ≤ n
theorem b01 (k : Bool) : -(2 ^ 64) < (if k = true then (1 : Int) else 0) ∧ (if k = true then (1 : Int) else 0) < 2 ^ 64 := by cases k <;> decide
theorem b0n (k : Bool) : (0 : Int) ≤ if k = true then (1 : Int) else 0 := by cases k <;> decide
section
variable {P : Program} {w : World} {K : PySem.W.Frag} {mg : Str → Option Value} {base : Heap}
theorem scBox : FnScope ["_law_script", "_law_k", "_law_cell"] ["_law_script", "_law_k"] lBox.scope := ⟨rfl, rfl, rfl, by decide +kernel, rfl, by decide +kernel, by decide +kernel⟩
def spBox (K : PySem.W.Frag) : Sp := fun vs H Q _ => ∃ (a : Addr) (ns : List Int) (k : Nat), vs = [.ref a, .int ((k : Nat) : Int)] ∧ H a = some (.lst (ns.map V.int)) ∧ k < ns.length ∧ ns.length < 64 ∧ ∀ H' b, Same H H' → H b = none → BoxAt H' b 0 → Q (.ref b) H'
theorem ok_box (e : En P w K mg base) {k : Nat} : Ok P w K mg base (k + 1) lBox ["_law_script", "_law_k"] (spBox K) := by
  obtain ⟨fd, F⟩ := e.fd 38
  refine ok_by F rfl scBox (fun _ _ _ _ _ _ us hl => match us, hl with | [_, _], _ => rfl) (fun vs H Q E h => ?_) (fun cdv A outer s0 H vs Q E hr h => ?_)
  · obtain ⟨a, ns, k, rfl, _⟩ := h
    rfl
  · obtain ⟨a, ns, k, rfl, ha, hk, hz, q⟩ := h
    refine ⟨_, pss_cons (ps_set (i := 2) scBox.nd rfl (.inl rfl) pe_int)
      (pss_cons (ps_if (pt_cmpR op_lt (pv 1) (pe_callB call_len_seq (by rfl) (e.f "len") PySem.boot_len (pa_cons (pv 0) pa_nil)) (nomark _)) (pss_one (ps_set (i := 2) scBox.nd rfl (.inl rfl) (pe_ix ix_list (pv 0) (pv 1) (fun _ _ => rfl)))) pss_nil)
      (pss_one (ps_ret (pe_lst (pa_cons (pe_op op_mul (pe_callB call_abs (by rfl) (e.f "abs") (by decide +kernel) (pa_cons (pv 2) pa_nil))
          (pe_callTy call_int1 (by rfl) (e.f "int") (by decide +kernel) (pa_cons (pe_cmpR op_ge (pe_callB call_abs (by rfl) (e.f "abs") (by decide +kernel) (pa_cons (pv 2) pa_nil)) (pe_op op_pow pe_int pe_int) (nomark _)) pa_nil)))
        (pa_cons (pe_op op_add (pe_op op_add (pe_op op_mod (pv 2) pe_int) (pe_op op_mul pe_int (pv 1))) pe_int) (pa_cons pe_int pa_nil))))))), ?_⟩
    have hg : (ns.map V.int)[k]? = some (.int ns[k]) := by
      rw [List.getElem?_map, List.getElem?_eq_getElem hk]
      rfl
    refine ⟨_, rfl, .ref a, rfl, a, _, rfl, .inl (.inl (.inl ha)), _, _, rfl, rfl, _, rfl, ?_⟩
    rw [List.length_map, decide_eq_true (show ((k : Nat) : Int) < ((ns.length : Nat) : Int) by omega)]
    refine iteT ⟨.ref a, rfl, _, rfl, a, _, _, _, rfl, rfl, .inl (.inl ha), atI_nat hg, ?_⟩
    generalize ns[k] = c
    refine ⟨_, rfl, c, rfl, _, rfl, c, rfl, _, _, rfl, rfl, ⟨by decide, by decide, by decide⟩, _, _, rfl, rfl, .inr ⟨_, rfl, _, _, rfl, rfl, ?_, ?_⟩⟩
    · exact .inr (b01 _)
    refine ⟨_, rfl, _, _, rfl, rfl, by show (0 : Int) < 2147483629; decide, _, rfl, _, _, rfl, rfl, .inl ⟨by decide, by decide⟩, _, _, rfl, rfl, _, _, rfl, rfl, by show 3 ≤ sizeLine; decide, fun b nb => ?_⟩
    refine q _ b (same_upd nb) nb ⟨_, _, _, upd_same, ?_, ?_, ?_, Int.le_refl _, Int.le_refl _⟩
    · refine Int.mul_nonneg ?_ (b0n _)
      split <;> omega
    · show (0 : Int) ≤ c % 2147483629 + 7919 * ((k : Nat) : Int) + 11
      omega
    · show c % 2147483629 + 7919 * ((k : Nat) : Int) + 11 < 1000000000000
      omega
/-! ### _law_take -/
theorem scTake : FnScope ["_law_box_here", "_law_size", "_law_found", "_law_once"] ["_law_box_here", "_law_size"] lTake.scope := ⟨rfl, rfl, rfl, by decide +kernel, rfl, by decide +kernel, by decide +kernel⟩
def spTake (K : PySem.W.Frag) : Sp := fun vs H Q _ => ∃ (b : Addr) (n m : Nat), vs = [.ref b, .int ((m : Nat) : Int)] ∧ BoxAt H b n ∧ n < 1000000 ∧ 0 < m ∧ m < 1000 ∧ ∀ H' (r : Nat), Fm K [b] H H' → BoxAt H' b (n + 1) → r < m → Q (.int ((r : Nat) : Int)) H'
theorem ok_take (e : En P w K mg base) {k : Nat} : Ok P w K mg base (k + 1) lTake ["_law_box_here", "_law_size"] (spTake K) := by
  obtain ⟨fd, F⟩ := e.fd 39
  refine ok_by F rfl scTake (fun _ _ _ _ _ _ us hl => match us, hl with | [_, _], _ => rfl) (fun vs H Q E h => ?_) (fun cdv A outer s0 H vs Q E hr h => ?_)
  · obtain ⟨b, n, m, rfl, _⟩ := h
    rfl
  · obtain ⟨b, n, m, rfl, ⟨b0, b1, b2, hb, h0, h1, h1', h2, h2'⟩, hn, hm, hm', q⟩ := h
    refine ⟨_, pss_cons (ps_if (pt_cmpR op_gt (pe_ix ix_list (pv 0) pe_int (fun _ _ => rfl)) pe_int (nomark _))
        (pss_cons (ps_set (i := 2) scTake.nd rfl (.inl rfl) (pe_op op_mod (pe_ix ix_list (pv 0) pe_int (fun _ _ => rfl)) (pv 1)))
        (pss_cons (ps_asg (pe_op op_fdiv (pe_ix ix_list (pv 0) pe_int (fun _ _ => rfl)) (pv 1)) (pg_sub (pv 0) pe_int set_list))
        (pss_one (ps_ret (pv 2))))) pss_nil)
      (pss_cons (ps_asg (pe_op op_add (pe_ix ix_list (pv 0) pe_int (fun _ _ => rfl)) pe_int) (pg_sub (pv 0) pe_int set_list))
      (pss_cons (ps_set (i := 3) scTake.nd rfl (.inl rfl) (pe_op op_mod (pe_op op_pow (pe_op op_add (pe_ix ix_list (pv 0) pe_int (fun _ _ => rfl)) (pe_op op_mul pe_int (pe_ix ix_list (pv 0) pe_int (fun _ _ => rfl)))) pe_int) pe_int))
      (pss_one (ps_ret (pe_op op_mod (pe_op op_fdiv (pe_op op_mod (pe_op op_add (pe_op op_mul (pv 3) (pe_op op_add (pe_op op_mod (pv 3) pe_int) pe_int)) (pe_op op_mul (pe_ix ix_list (pv 0) pe_int (fun _ _ => rfl)) pe_int)) pe_int) pe_int) (pv 1)))))), ?_⟩
    refine ⟨.ref b, rfl, b, _, _, .int b0, rfl, rfl, .inl (.inl hb), atI_nat (j := 0) rfl, _, _, rfl, rfl, _, rfl, ?_⟩
    have hmI : (0 : Int) < ((m : Nat) : Int) := by omega
    by_cases hb0 : (0 : Int) < b0
    · rw [decide_eq_true hb0]
      refine iteT ⟨.ref b, rfl, b, _, _, .int b0, rfl, rfl, .inl (.inl hb), atI_nat (j := 0) rfl, _, rfl, _, _, rfl, rfl, hmI, ?_⟩
      refine ⟨.ref b, rfl, b, _, _, .int b0, rfl, rfl, .inl (.inl hb), atI_nat (j := 0) rfl, _, rfl, _, _, rfl, rfl, ⟨hmI, by omega⟩, .ref b, rfl, b, _, _, 0, rfl, rfl, hb, rfl, ?_⟩
      have hr0 : b0 % ((m : Nat) : Int) = (((b0 % ((m : Nat) : Int)).toNat : Nat) : Int) := (Int.toNat_of_nonneg (Int.emod_nonneg _ (by omega))).symm
      have hlt : b0 % ((m : Nat) : Int) < ((m : Nat) : Int) := Int.emod_lt_of_pos _ hmI
      refine ⟨_, rfl, ?_⟩
      show Q (.int (b0 % ((m : Nat) : Int))) _
      rw [hr0]
      refine q _ _ (Fm.put .refl hb (by simp)) ⟨b0 / ((m : Nat) : Int), b1, b2, upd_same, Int.ediv_nonneg h0 (by omega), h1, h1', h2, by omega⟩ (by omega)
    · rw [decide_eq_false hb0]
      refine iteF ?_
      refine ⟨.ref b, rfl, b, _, _, .int b2, rfl, rfl, .inl (.inl hb), atI_nat (j := 2) rfl, _, _, rfl, rfl, .ref b, rfl, b, _, _, 2, rfl, rfl, hb, rfl, ?_⟩
      have f1 : Fm K [b] H (upd H b (.lst [.int b0, .int b1, .int (b2 + 1)])) := Fm.put .refl hb (by simp)
      have hb1 : upd H b (.lst [.int b0, .int b1, .int (b2 + 1)]) b = some (.lst [.int b0, .int b1, .int (b2 + 1)]) := upd_same
      refine ⟨.ref b, rfl, b, _, _, .int b1, rfl, rfl, .inl (.inl hb1), atI_nat (j := 1) rfl, .ref b, rfl, b, _, _, .int (b2 + 1), rfl, rfl, .inl (.inl hb1), atI_nat (j := 2) rfl, _, _, rfl, rfl, .inl ⟨by decide, by decide⟩, _, _, rfl, rfl, _, _, rfl, rfl, ⟨by decide, by decide, ?_⟩, _, _, rfl, rfl, by show (0 : Int) < 2147483647; decide, ?_⟩
      · show (b1 + 39373 * (b2 + 1)).natAbs < 2 ^ 64
        omega
      have ho := Int.emod_nonneg ((b1 + 39373 * (b2 + 1)) ^ (5 : Int).toNat) (show (2147483647 : Int) ≠ 0 by decide)
      have ho2 := Int.emod_lt_of_pos ((b1 + 39373 * (b2 + 1)) ^ (5 : Int).toNat) (show (0 : Int) < 2147483647 by decide)
      refine ⟨_, rfl, _, rfl, _, _, rfl, rfl, by show (0 : Int) < 40009; decide, _, _, rfl, rfl, _, _, rfl, rfl, .inl ⟨by omega, by omega⟩, ?_⟩
      refine ⟨.ref b, rfl, b, _, _, .int (b2 + 1), rfl, rfl, .inl (.inl hb1), atI_nat (j := 2) rfl, _, _, rfl, rfl, .inl ⟨by omega, by omega⟩, _, _, rfl, rfl, _, _, rfl, rfl, by show (0 : Int) < 2147483629; decide, _, _, rfl, rfl, ⟨by decide, by decide⟩, _, rfl, _, _, rfl, rfl, hmI, ?_⟩
      have hlt := Int.emod_lt_of_pos ((((b1 + 39373 * (b2 + 1)) ^ (5 : Int).toNat % 2147483647) * (((b1 + 39373 * (b2 + 1)) ^ (5 : Int).toNat % 2147483647) % 40009 + 7) + (b2 + 1) * 7919) % 2147483629 / 64) hmI
      have hnn := Int.emod_nonneg ((((b1 + 39373 * (b2 + 1)) ^ (5 : Int).toNat % 2147483647) * (((b1 + 39373 * (b2 + 1)) ^ (5 : Int).toNat % 2147483647) % 40009 + 7) + (b2 + 1) * 7919) % 2147483629 / 64) (show ((m : Nat) : Int) ≠ 0 by omega)
      show Q (.int ((((b1 + 39373 * (b2 + 1)) ^ (5 : Int).toNat % 2147483647) * (((b1 + 39373 * (b2 + 1)) ^ (5 : Int).toNat % 2147483647) % 40009 + 7) + (b2 + 1) * 7919) % 2147483629 / 64 % ((m : Nat) : Int))) (upd H b (.lst [.int b0, .int b1, .int (b2 + 1)]))
      generalize (((b1 + 39373 * (b2 + 1)) ^ (5 : Int).toNat % 2147483647) * (((b1 + 39373 * (b2 + 1)) ^ (5 : Int).toNat % 2147483647) % 40009 + 7) + (b2 + 1) * 7919) % 2147483629 / 64 % ((m : Nat) : Int) = r at hlt hnn ⊢
      rw [show r = ((r.toNat : Nat) : Int) from (Int.toNat_of_nonneg hnn).symm]
      exact q _ _ f1 ⟨b0, b1, b2 + 1, hb1, h0, h1, h1', by omega, by omega⟩ (by omega)
/-! ### _law_pick -/
theorem BoxAt.odd {H : Hp} {b n : Nat} (h : BoxAt H b n) : ∃ xs, H b = some (.lst xs) ∧ Odd H xs := by
  obtain ⟨b0, b1, b2, hb, _⟩ := h
  exact ⟨_, hb, _, _, rfl, .inl ⟨_, rfl⟩⟩
theorem BoxAt.mono {H : Hp} {b n m : Nat} (h : BoxAt H b n) (hm : n ≤ m) : BoxAt H b m := by
  obtain ⟨b0, b1, b2, hb, h0, h1, h1', h2, h2'⟩ := h
  exact ⟨b0, b1, b2, hb, h0, h1, h1', h2, by omega⟩
theorem scPick : FnScope ["_law_box_here", "_law_some"] ["_law_box_here", "_law_some"] lPick.scope := ⟨rfl, rfl, rfl, by decide +kernel, rfl, by decide +kernel, by decide +kernel⟩
def spPick (K : PySem.W.Frag) : Sp := fun vs H Q _ => ∃ (b a n : Nat) (row : List Str), vs = [.ref b, .ref a] ∧ BoxAt H b n ∧ n < 1000000 ∧ RowAt H a row ∧ 0 < row.length ∧ row.length < 64 ∧ ∀ H' x, Fm K [b] H H' → BoxAt H' b (n + 1) → x ∈ row → Q (.str x) H'
theorem ok_pick (e : En P w K mg base) {k : Nat} (O : Ok P w K mg base k lTake ["_law_box_here", "_law_size"] (spTake K)) : Ok P w K mg base (k + 1) lPick ["_law_box_here", "_law_some"] (spPick K) := by
  obtain ⟨fd, F⟩ := e.fd 40
  refine ok_by F rfl scPick (fun _ _ _ _ _ _ us hl => match us, hl with | [_, _], _ => rfl) (fun vs H Q E h => ?_) (fun cdv A outer s0 H vs Q E hr h => ?_)
  · obtain ⟨b, a, n, row, rfl, _⟩ := h
    rfl
  · obtain ⟨b, a, n, row, rfl, hb, hn, ha, hz, hz', q⟩ := h
    refine ⟨_, pss_one (ps_ret (pe_ix ix_tup (pv 1) (pe_fn O hr (Nat.le_refl _) (by rfl) (e.g "_law_take") (pa_cons (pv 0) (pa_cons (pe_callB call_len_seq (by rfl) (e.f "len") PySem.boot_len (pa_cons (pv 1) pa_nil)) pa_nil))) (fun _ _ => rfl))), ?_⟩
    refine ⟨.ref a, rfl, .ref b, rfl, .ref a, rfl, a, _, rfl, .inr (.inl (.inl ha)), b, n, row.length, by rw [List.length_map]; rfl, hb, hn, hz, by omega, fun H1 r f1 hb1 hr1 => ?_⟩
    refine ⟨a, _, _, .str row[r], rfl, rfl, .inl (.inl (f1.tup ha)), atI_nat ?_, q _ _ f1 hb1 (List.getElem_mem _)⟩
    rw [List.getElem?_map, List.getElem?_eq_getElem hr1]
    rfl
end
end Sb
/-! _law_same. -/
namespace Sb
open PySem PySem.Spec PyProof.Rows L2 LamX NdefX RZ
def Sca (v w : V) : Prop := (∃ i, v = .int i ∧ w = .int i) ∨ ∃ x, v = .str x ∧ w = .str x
def SameAt : Nat → Hp → V → V → Prop
  | 0, _, v, w => Sca v w
  | n + 1, H, v, w => Sca v w ∨ ∃ (a b : Addr) (vs ws : List V), v = .ref a ∧ w = .ref b ∧ ((H a = some (.lst vs) ∧ H b = some (.lst ws)) ∨ (H a = some (.tup vs) ∧ H b = some (.tup ws))) ∧ vs.length < 64 ∧ Paired (SameAt n H) vs ws
theorem SameAt.mono {H H' : Hp} (s : Same H H') : ∀ {n : Nat} {v w : V}, SameAt n H v w → SameAt n H' v w
  | 0, _, _, h => h
  | n + 1, _, _, .inl h => .inl h
  | n + 1, _, _, .inr ⟨a, b, vs, ws, e1, e2, h, hl, p⟩ => .inr ⟨a, b, vs, ws, e1, e2, h.imp (fun z => ⟨s _ _ z.1, s _ _ z.2⟩) fun z => ⟨s _ _ z.1, s _ _ z.2⟩, hl, L2.Paired.mapP p fun x y z => SameAt.mono s z⟩
theorem prd_at {A B : Type} {F : A → B → Prop} : ∀ {l : List A} {m : List B} {i : Nat} {x : A}, Paired F l m → l[i]? = some x → ∃ y, m[i]? = some y ∧ F x y
  | _, _, _, _, .nil, h => by simp at h
  | _, _, 0, x, .cons r _, h => by
    simp at h
    subst h
    exact ⟨_, rfl, r⟩
  | _, _, i + 1, x, .cons _ t, h => by
    obtain ⟨y, a, b⟩ := prd_at (i := i) t (by simpa using h)
    exact ⟨y, by simpa using a, b⟩
theorem walk_zipT {K : PySem.W.Frag} {a b : Addr} {xs ys : List V} {n : Nat} (hn : n = min xs.length ys.length) : Walk (ItzT K a b) n (fun H => SqT K H a xs ∧ SqT K H b ys) (YPair (fun i => xs[i]?) (fun i => ys[i]?)) := by
  subst hn
  refine ⟨fun i _ hi q => ?_, fun _ q => ⟨xs, ys, q.1, q.2, by omega⟩, fun i H v H' _ q y => ?_⟩
  · have h1 : i < xs.length := by omega
    have h2 : i < ys.length := by omega
    exact ⟨xs, ys, xs[i], ys[i], q.1, q.2, by simp [h1], by simp [h2]⟩
  · obtain ⟨T, x, z, h1, h2, h3, h4, h5⟩ := y
    exact ⟨T, x, z, h1, h2, h3, h4 xs q.1, h5 ys q.2⟩
section
variable {P : Program} {w : World} {K : PySem.W.Frag} {mg : Str → Option Value} {base : Heap}
theorem scSame : FnScope ["_law_found", "_law_due", "_law_one", "_law_two"] ["_law_found", "_law_due"] lSame.scope := ⟨rfl, rfl, rfl, by decide +kernel, rfl, by decide +kernel, by decide +kernel⟩
def spSame (n : Nat) : Sp := fun vs H Q _ => ∃ (v w : V), vs = [v, w] ∧ SameAt n H v w ∧ ∀ H', Same H H' → Q (.bl true) H'
theorem kLT_l : PySem.W.kitAny K (.type "list") [.type "list", .type "tuple"] = some true := kitAny_cons (kit_ty (by decide +kernel : kitB "list" "list" = some true)) (fun h => by cases h) fun _ => rfl
theorem kLT_t : PySem.W.kitAny K (.type "tuple") [.type "list", .type "tuple"] = some true := kitAny_cons (kit_ty (by decide +kernel : kitB "tuple" "list" = some false)) (fun _ => kitAny_cons (kit_ty (by decide +kernel : kitB "tuple" "tuple" = some true)) (fun h => by cases h) fun _ => rfl) fun h => by cases h
theorem kLT_i : PySem.W.kitAny K (.type "int") [.type "list", .type "tuple"] = some false := kitAny_cons (kit_ty (by decide +kernel : kitB "int" "list" = some false)) (fun _ => kitAny_cons (kit_ty (by decide +kernel : kitB "int" "tuple" = some false)) (fun _ => kitAny_nil) fun h => by cases h) fun h => by cases h
theorem kLT_s : PySem.W.kitAny K (.type "str") [.type "list", .type "tuple"] = some false := kitAny_cons (kit_ty (by decide +kernel : kitB "str" "list" = some false)) (fun _ => kitAny_cons (kit_ty (by decide +kernel : kitB "str" "tuple" = some false)) (fun _ => kitAny_nil) fun h => by cases h) fun h => by cases h
theorem SameAt.sca {n : Nat} {H : Hp} {v w : V} (h : SameAt n H v w) : Sca v w ∨ ∃ m, n = m + 1 ∧ ∃ (a b : Addr) (vs ws : List V), v = .ref a ∧ w = .ref b ∧ ((H a = some (.lst vs) ∧ H b = some (.lst ws)) ∨ (H a = some (.tup vs) ∧ H b = some (.tup ws))) ∧ vs.length < 64 ∧ Paired (SameAt m H) vs ws := by
  cases n with
  | zero => exact .inl h
  | succ m => exact h.imp id fun h => ⟨m, rfl, h⟩
theorem ok_same (e : En P w K mg base) {k n : Nat} (O : ∀ m, n = m + 1 → Ok P w K mg base k lSame ["_law_found", "_law_due"] (spSame m)) : Ok P w K mg base (k + 1) lSame ["_law_found", "_law_due"] (spSame n) := by
  obtain ⟨fd, F⟩ := e.fd 41
  refine ok_by F rfl scSame (fun _ _ _ _ _ _ us hl => match us, hl with | [_, _], _ => rfl) (fun vs H Q E h => ?_) (fun cdv A outer s0 H vs0 Q E hr h => ?_)
  · obtain ⟨v, w, rfl, _⟩ := h
    rfl
  · obtain ⟨v, w, rfl, h, q⟩ := h
    rcases h.sca with (⟨i, rfl, rfl⟩ | ⟨i, rfl, rfl⟩) | ⟨m, rfl, a, b, vs, ws, rfl, rfl, hab, hz, hp⟩
    · skip
      refine ⟨_, pss_cons (ps_if (pt_val (pe_callB call_isiT (by rfl) (e.f "isinstance") (by decide +kernel) (pa_cons (pv 1) (pa_cons (pe_tup (pa_cons (pe_bltn (v := .ty "list") (by rfl) (e.f "list") (by decide +kernel) rfl) (pa_cons (pe_bltn (v := .ty "tuple") (by rfl) (e.f "tuple") (by decide +kernel) rfl) pa_nil))) pa_nil)))) pss_never pss_nil)
        (pss_cons (ps_if (PW.pt (pw_or (pt_cmp (pc_isN (pv 1))) (pw_or1 (pt_val (pe_callB call_isi (by rfl) (e.f "isinstance") (by decide +kernel) (pa_cons (pv 1) (pa_cons (pe_bltn (v := .ty "str") (by rfl) (e.f "str") (by decide +kernel) rfl) pa_nil))))))) (pss_one (ps_ret (pe_and (pe_cmpR op_eq (pv 0) (pv 1) (nomark _)) (pe_one (pe_cmpR op_eq (pe_callB call_isi (by rfl) (e.f "isinstance") (by decide +kernel) (pa_cons (pv 0) (pa_cons (pe_bltn (v := .ty "str") (by rfl) (e.f "str") (by decide +kernel) rfl) pa_nil))) (pe_callB call_isi (by rfl) (e.f "isinstance") (by decide +kernel) (pa_cons (pv 1) (pa_cons (pe_bltn (v := .ty "str") (by rfl) (e.f "str") (by decide +kernel) rfl) pa_nil))) (nomark _)))))) pss_nil)
        (pss_one (ps_ret (pe_and (pe_callB call_isi (by rfl) (e.f "isinstance") (by decide +kernel) (pa_cons (pv 0) (pa_cons (pe_bltn (v := .ty "int") (by rfl) (e.f "int") (by decide +kernel) rfl) pa_nil))) (pe_and (pe_cmpR op_eq (pe_callB call_isi (by rfl) (e.f "isinstance") (by decide +kernel) (pa_cons (pv 0) (pa_cons (pe_bltn (v := .ty "bool") (by rfl) (e.f "bool") (by decide +kernel) rfl) pa_nil))) (pe_callB call_isi (by rfl) (e.f "isinstance") (by decide +kernel) (pa_cons (pv 1) (pa_cons (pe_bltn (v := .ty "bool") (by rfl) (e.f "bool") (by decide +kernel) rfl) pa_nil))) (nomark _)) (pe_one (pe_cmpR op_eq (pv 0) (pv 1) (nomark _)))))))), ?_⟩
      refine ⟨.int i, rfl, by show 2 ≤ sizeLine; decide, fun T nT => ?_⟩
      have s0 : Same H (upd H T (.tup [.ty "list", .ty "tuple"])) := same_upd nT
      refine ⟨.int i, T, [.ty "list", .ty "tuple"], .type "int", [.type "list", .type "tuple"], false, rfl, upd_same, .cons (.ty _) (.cons (.ty _) .nil), .base (.int i), kLT_i, _, rfl, iteF ?_⟩
      refine ⟨_, rfl, _, rfl, ?_⟩
      rw [decide_eq_false (fun z : (.int i : V) = V.non => by cases z)]
      refine iteF ⟨.int i, rfl, .int i, .ty "str", .type "int", .type "str", false, rfl, .ty _, .base (.int i), kit_ty (by decide +kernel), _, rfl, iteF ?_⟩
      refine ⟨.int i, rfl, .int i, .ty "int", .type "int", .type "int", true, rfl, .ty _, .base (.int i), kit_ty (by decide +kernel), _, rfl, iteT ?_⟩
      refine ⟨.int i, rfl, .int i, .ty "bool", .type "int", .type "bool", false, rfl, .ty _, .base (.int i), kit_ty (by decide +kernel), .int i, rfl, .int i, .ty "bool", .type "int", .type "bool", false, rfl, .ty _, .base (.int i), kit_ty (by decide +kernel), rfl, _, rfl, ?_⟩
      rw [decide_eq_true rfl]
      refine iteT ⟨_, rfl, _, rfl, rfl, ?_⟩
      rw [decide_eq_true rfl]
      exact q _ s0

    · skip
      refine ⟨_, pss_cons (ps_if (pt_val (pe_callB call_isiT (by rfl) (e.f "isinstance") (by decide +kernel) (pa_cons (pv 1) (pa_cons (pe_tup (pa_cons (pe_bltn (v := .ty "list") (by rfl) (e.f "list") (by decide +kernel) rfl) (pa_cons (pe_bltn (v := .ty "tuple") (by rfl) (e.f "tuple") (by decide +kernel) rfl) pa_nil))) pa_nil)))) pss_never pss_nil)
        (pss_cons (ps_if (PW.pt (pw_or (pt_cmp (pc_isN (pv 1))) (pw_or1 (pt_val (pe_callB call_isi (by rfl) (e.f "isinstance") (by decide +kernel) (pa_cons (pv 1) (pa_cons (pe_bltn (v := .ty "str") (by rfl) (e.f "str") (by decide +kernel) rfl) pa_nil))))))) (pss_one (ps_ret (pe_and (pe_cmpR op_eq (pv 0) (pv 1) (nomark _)) (pe_one (pe_cmpR op_eq (pe_callB call_isi (by rfl) (e.f "isinstance") (by decide +kernel) (pa_cons (pv 0) (pa_cons (pe_bltn (v := .ty "str") (by rfl) (e.f "str") (by decide +kernel) rfl) pa_nil))) (pe_callB call_isi (by rfl) (e.f "isinstance") (by decide +kernel) (pa_cons (pv 1) (pa_cons (pe_bltn (v := .ty "str") (by rfl) (e.f "str") (by decide +kernel) rfl) pa_nil))) (nomark _)))))) pss_nil)
        (pss_one (ps_ret (pe_and (pe_callB call_isi (by rfl) (e.f "isinstance") (by decide +kernel) (pa_cons (pv 0) (pa_cons (pe_bltn (v := .ty "int") (by rfl) (e.f "int") (by decide +kernel) rfl) pa_nil))) (pe_and (pe_cmpR op_eq (pe_callB call_isi (by rfl) (e.f "isinstance") (by decide +kernel) (pa_cons (pv 0) (pa_cons (pe_bltn (v := .ty "bool") (by rfl) (e.f "bool") (by decide +kernel) rfl) pa_nil))) (pe_callB call_isi (by rfl) (e.f "isinstance") (by decide +kernel) (pa_cons (pv 1) (pa_cons (pe_bltn (v := .ty "bool") (by rfl) (e.f "bool") (by decide +kernel) rfl) pa_nil))) (nomark _)) (pe_one (pe_cmpR op_eq (pv 0) (pv 1) (nomark _)))))))), ?_⟩
      refine ⟨.str i, rfl, by show 2 ≤ sizeLine; decide, fun T nT => ?_⟩
      have s0 : Same H (upd H T (.tup [.ty "list", .ty "tuple"])) := same_upd nT
      refine ⟨.str i, T, [.ty "list", .ty "tuple"], .type "str", [.type "list", .type "tuple"], false, rfl, upd_same, .cons (.ty _) (.cons (.ty _) .nil), .base (.str i), kLT_s, _, rfl, iteF ?_⟩
      refine ⟨_, rfl, _, rfl, ?_⟩
      rw [decide_eq_false (fun z : (.str i : V) = V.non => by cases z)]
      refine iteF ⟨.str i, rfl, .str i, .ty "str", .type "str", .type "str", true, rfl, .ty _, .base (.str i), kit_ty (by decide +kernel), _, rfl, iteT ?_⟩
      refine ⟨_, rfl, _, rfl, rfl, _, rfl, ?_⟩
      rw [decide_eq_true rfl]
      refine iteT ⟨.str i, rfl, .str i, .ty "str", .type "str", .type "str", true, rfl, .ty _, .base (.str i), kit_ty (by decide +kernel), .str i, rfl, .str i, .ty "str", .type "str", .type "str", true, rfl, .ty _, .base (.str i), kit_ty (by decide +kernel), rfl, ?_⟩
      rw [decide_eq_true rfl]
      exact q _ s0

    refine ⟨_, pss_cons (ps_if (pt_val (pe_callB call_isiT (by rfl) (e.f "isinstance") (by decide +kernel) (pa_cons (pv 1) (pa_cons (pe_tup (pa_cons (pe_bltn (v := .ty "list") (by rfl) (e.f "list") (by decide +kernel) rfl) (pa_cons (pe_bltn (v := .ty "tuple") (by rfl) (e.f "tuple") (by decide +kernel) rfl) pa_nil))) pa_nil)))) (pss_cons (ps_if (PW.pt (pw_or (pt_cmpR op_ne (pe_callB call_isi (by rfl) (e.f "isinstance") (by decide +kernel) (pa_cons (pv 0) (pa_cons (pe_bltn (v := .ty "list") (by rfl) (e.f "list") (by decide +kernel) rfl) pa_nil))) (pe_callB call_isi (by rfl) (e.f "isinstance") (by decide +kernel) (pa_cons (pv 1) (pa_cons (pe_bltn (v := .ty "list") (by rfl) (e.f "list") (by decide +kernel) rfl) pa_nil))) (nomark _)) (pw_or1 (pt_cmpR op_ne (pe_callB call_isi (by rfl) (e.f "isinstance") (by decide +kernel) (pa_cons (pv 0) (pa_cons (pe_bltn (v := .ty "tuple") (by rfl) (e.f "tuple") (by decide +kernel) rfl) pa_nil))) (pe_callB call_isi (by rfl) (e.f "isinstance") (by decide +kernel) (pa_cons (pv 1) (pa_cons (pe_bltn (v := .ty "tuple") (by rfl) (e.f "tuple") (by decide +kernel) rfl) pa_nil))) (nomark _))))) (pss_one (ps_ret pe_bl)) pss_nil)
        (pss_cons (ps_if (pt_cmpR op_ne (pe_callB call_len_seq (by rfl) (e.f "len") PySem.boot_len (pa_cons (pv 0) pa_nil)) (pe_callB call_len_seq (by rfl) (e.f "len") PySem.boot_len (pa_cons (pv 1) pa_nil)) (nomark _)) (pss_one (ps_ret pe_bl)) pss_nil)
        (pss_one (ps_ret (pe_callB (cr_all rfl) (by rfl) (e.f "all") (by decide +kernel) (pa_cons (pe_lc (own := [("_law_one", 2), ("_law_two", 3)]) (g := g2 K 2 3) (by rfl) scSame.nd (pi_zipA (by rfl) (e.f "zip") (pa_cons (pv 0) (pa_cons (pv 1) pa_nil))) (blkOk_by (N := ["_law_found", "_law_due", "_law_one", "_law_two"]) (sc := lSame.scope) (by decide +kernel))
          (fun _ _ _ _ _ => pg_tup rfl (pgs_cons (pg_name (i := 2) scSame.nd rfl (.inl rfl)) (pgs_cons (pg_name (i := 3) scSame.nd rfl (.inl rfl)) pgs_nil))) (fun _ _ _ _ _ => pts_nil) (fun _ _ _ _ _ => pe_fn (O m rfl) (hr.mono (Nat.le_refl _)) (Nat.le_refl _) (by rfl) (e.g "_law_same") (pa_cons (pv 2) (pa_cons (pv 3) pa_nil)))) pa_nil)))))) pss_nil) pss_never, ?_⟩
    refine ⟨.ref b, rfl, by show 2 ≤ sizeLine; decide, fun T nT => ?_⟩
    rcases hab with ⟨ha, hb⟩ | ⟨ha, hb⟩
    · skip
      have s0 : Same H (upd H T (.tup [.ty "list", .ty "tuple"])) := same_upd nT
      have ha0 := s0 _ _ ha
      have hb0 := s0 _ _ hb
      refine ⟨.ref b, T, [.ty "list", .ty "tuple"], .type "list", [.type "list", .type "tuple"], true, rfl, upd_same, .cons (.ty _) (.cons (.ty _) .nil), .base (.lst hb0), kLT_l, _, rfl, iteT ?_⟩
      generalize upd H T (.tup [.ty "list", .ty "tuple"]) = H0 at s0 ha0 hb0 ⊢
      refine ⟨.ref a, rfl, .ref a, .ty "list", .type "list", .type "list", true, rfl, .ty _, .base (.lst ha0), kit_ty (by decide +kernel), .ref b, rfl, .ref b, .ty "list", .type "list", .type "list", true, rfl, .ty _, .base (.lst hb0), kit_ty (by decide +kernel), rfl, _, rfl, ?_⟩
      rw [decide_eq_true rfl]
      refine iteF ⟨.ref a, rfl, .ref a, .ty "tuple", .type "list", .type "tuple", false, rfl, .ty _, .base (.lst ha0), kit_ty (by decide +kernel), .ref b, rfl, .ref b, .ty "tuple", .type "list", .type "tuple", false, rfl, .ty _, .base (.lst hb0), kit_ty (by decide +kernel), rfl, _, rfl, ?_⟩
      rw [decide_eq_true rfl]
      refine iteF ?_
      refine ⟨.ref a, rfl, a, _, rfl, .inl (.inl (.inl ha0)), .ref b, rfl, b, _, rfl, .inl (.inl (.inl hb0)), rfl, _, rfl, ?_⟩
      have hlen : vs.length = ws.length := paired_len hp
      rw [decide_eq_true (by rw [hlen])]
      refine iteF ?_
      refine ⟨.ref a, rfl, .ref b, rfl, a, b, vs, ws, rfl, .inl ⟨.inl (.inl ha0), .inl (.inl hb0), fun D nD => ?_⟩⟩
      refine lc_any (walk_zip (xs := vs) (ys := ws) (n := vs.length) (by rw [hlen]; omega)) (fun i H' => Same H0 H' ∧ H' D = some (.lst ((List.replicate i true).map V.bl))) ⟨same_upd nD, upd_same⟩
        (fun i H' _ hW => ⟨.inl (.inl (hW.1 _ _ ha0)), .inl (.inl (hW.1 _ _ hb0))⟩) (fun i v H1 H2 hi ⟨sm, hD⟩ hy => ?_) (fun H' ⟨sm, hD⟩ => ?_)
      · obtain ⟨Z, x, y, rfl, nZ, rfl, hx, hy⟩ := hy
        have sZ : Same H1 (upd H1 Z (.tup [x, y])) := same_upd nZ
        obtain ⟨y', hy', hxy⟩ := prd_at hp hx
        have hy : ws[i]? = some y := hy
        rw [hy] at hy'
        cases hy'
        refine ⟨Z, _, rfl, .inl (.inl upd_same), rfl, _, _, rfl, _, _, rfl, rfl, rfl, yes ⟨_, rfl, _, rfl, x, y, rfl, SameAt.mono (s0.trans (sm.trans sZ)) hxy, fun H3 s3 => ?_⟩⟩
        refine ⟨_, s3 _ _ (sZ _ _ hD), by rw [List.length_map, List.length_replicate]; exact lt_line (by omega), same_chg (sm.trans (sZ.trans s3)) nD, ?_⟩
        rw [upd_same, List.replicate_succ', List.map_append]
        rfl
      · refine ⟨D, List.replicate vs.length true, rfl, .inl (.inl hD), ?_⟩
        rw [show (List.replicate vs.length true).all id = true by simp]
        exact q _ (s0.trans sm)

    · skip
      have s0 : Same H (upd H T (.tup [.ty "list", .ty "tuple"])) := same_upd nT
      have ha0 := s0 _ _ ha
      have hb0 := s0 _ _ hb
      refine ⟨.ref b, T, [.ty "list", .ty "tuple"], .type "tuple", [.type "list", .type "tuple"], true, rfl, upd_same, .cons (.ty _) (.cons (.ty _) .nil), .base (.tup hb0), kLT_t, _, rfl, iteT ?_⟩
      generalize upd H T (.tup [.ty "list", .ty "tuple"]) = H0 at s0 ha0 hb0 ⊢
      refine ⟨.ref a, rfl, .ref a, .ty "list", .type "tuple", .type "list", false, rfl, .ty _, .base (.tup ha0), kit_ty (by decide +kernel), .ref b, rfl, .ref b, .ty "list", .type "tuple", .type "list", false, rfl, .ty _, .base (.tup hb0), kit_ty (by decide +kernel), rfl, _, rfl, ?_⟩
      rw [decide_eq_true rfl]
      refine iteF ⟨.ref a, rfl, .ref a, .ty "tuple", .type "tuple", .type "tuple", true, rfl, .ty _, .base (.tup ha0), kit_ty (by decide +kernel), .ref b, rfl, .ref b, .ty "tuple", .type "tuple", .type "tuple", true, rfl, .ty _, .base (.tup hb0), kit_ty (by decide +kernel), rfl, _, rfl, ?_⟩
      rw [decide_eq_true rfl]
      refine iteF ?_
      refine ⟨.ref a, rfl, a, _, rfl, .inr (.inl (.inl ha0)), .ref b, rfl, b, _, rfl, .inr (.inl (.inl hb0)), rfl, _, rfl, ?_⟩
      have hlen : vs.length = ws.length := paired_len hp
      rw [decide_eq_true (by rw [hlen])]
      refine iteF ?_
      refine ⟨.ref a, rfl, .ref b, rfl, a, b, vs, ws, rfl, .inr ⟨.inl (.inl ha0), .inl (.inl hb0), fun D nD => ?_⟩⟩
      refine lc_any (walk_zipT (xs := vs) (ys := ws) (n := vs.length) (by rw [hlen]; omega)) (fun i H' => Same H0 H' ∧ H' D = some (.lst ((List.replicate i true).map V.bl))) ⟨same_upd nD, upd_same⟩
        (fun i H' _ hW => ⟨.inl (.inl (hW.1 _ _ ha0)), .inl (.inl (hW.1 _ _ hb0))⟩) (fun i v H1 H2 hi ⟨sm, hD⟩ hy => ?_) (fun H' ⟨sm, hD⟩ => ?_)
      · obtain ⟨Z, x, y, rfl, nZ, rfl, hx, hy⟩ := hy
        have sZ : Same H1 (upd H1 Z (.tup [x, y])) := same_upd nZ
        obtain ⟨y', hy', hxy⟩ := prd_at hp hx
        have hy : ws[i]? = some y := hy
        rw [hy] at hy'
        cases hy'
        refine ⟨Z, _, rfl, .inl (.inl upd_same), rfl, _, _, rfl, _, _, rfl, rfl, rfl, yes ⟨_, rfl, _, rfl, x, y, rfl, SameAt.mono (s0.trans (sm.trans sZ)) hxy, fun H3 s3 => ?_⟩⟩
        refine ⟨_, s3 _ _ (sZ _ _ hD), by rw [List.length_map, List.length_replicate]; exact lt_line (by omega), same_chg (sm.trans (sZ.trans s3)) nD, ?_⟩
        rw [upd_same, List.replicate_succ', List.map_append]
        rfl
      · refine ⟨D, List.replicate vs.length true, rfl, .inl (.inl hD), ?_⟩
        rw [show (List.replicate vs.length true).all id = true by simp]
        exact q _ (s0.trans sm)

end
end Sb
/-! _law_folded, _law_many_names, _law_row. -/
namespace Sb
open PySem PySem.Spec PyProof.Rows L2 LamX NdefX RZ
def namesA : List Str := ["ah", "ak", "am", "aq", "at", "az", "bh", "bk", "bm", "bq", "bt", "bz"]
def namesB : List Str := ["c", "ch", "ck", "cm", "cq", "ct", "d", "dh", "dk", "dm", "dq", "dt"]
def NAMES : List Str := namesA ++ namesB
theorem NAMES_nodup : NAMES.Nodup := by decide +kernel
theorem NAMES_len : NAMES.length = 24 := rfl
theorem NAMES_ok : ∀ x ∈ NAMES, SOk x := by
  have h : (NAMES.all fun x => PyData.strOk x) = true := by decide +kernel
  exact fun x hx => List.all_eq_true.mp h x hx
section
variable {P : Program} {w : World} {K : PySem.W.Frag} {mg : Str → Option Value} {base : Heap}
theorem scNames : FnScope ["_law_some"] [] lNames.scope := ⟨rfl, rfl, rfl, by decide +kernel, rfl, by decide +kernel, by decide +kernel⟩
def spNames : Sp := fun vs H Q _ => vs = [] ∧ ∀ H' r, Same H H' → H r = none → H' r = some (.lst (NAMES.map V.str)) → Q (.ref r) H'
theorem ok_names (e : En P w K mg base) {k : Nat} : Ok P w K mg base (k + 1) lNames [] spNames := by
  obtain ⟨fd, F⟩ := e.fd 45
  refine ok_by F rfl scNames (fun _ _ _ _ _ _ us hl => match us, hl with | [], _ => rfl) (fun vs H Q E h => ?_) (fun cdv A outer s0 H vs Q E hr h => ?_)
  · obtain ⟨rfl, _⟩ := h
    rfl
  · obtain ⟨rfl, q⟩ := h
    refine ⟨_, pss_cons (ps_set (i := 0) scNames.nd rfl (.inl rfl) (pe_lst (pa_cons pe_str (pa_cons pe_str (pa_cons pe_str (pa_cons pe_str (pa_cons pe_str (pa_cons pe_str (pa_cons pe_str (pa_cons pe_str (pa_cons pe_str (pa_cons pe_str (pa_cons pe_str (pa_cons pe_str pa_nil))))))))))))))
      (pss_one (ps_ret (pe_op op_cat (pv 0) (pe_lst (pa_cons pe_str (pa_cons pe_str (pa_cons pe_str (pa_cons pe_str (pa_cons pe_str (pa_cons pe_str (pa_cons pe_str (pa_cons pe_str (pa_cons pe_str (pa_cons pe_str (pa_cons pe_str (pa_cons pe_str pa_nil)))))))))))))))), ?_⟩
    refine ⟨by show 12 ≤ sizeLine; decide, fun l nl => ?_⟩
    have s1 : Same H (upd H l (.lst (namesA.map V.str))) := same_upd nl
    refine ⟨_, rfl, by show 12 ≤ sizeLine; decide, fun l2 nl2 => ?_⟩
    have s2 : Same (upd H l (.lst (namesA.map V.str))) (upd (upd H l (.lst (namesA.map V.str))) l2 (.lst (namesB.map V.str))) := same_upd nl2
    refine ⟨l, l2, namesA.map V.str, namesB.map V.str, rfl, rfl, s2 _ _ upd_same, upd_same, by show 24 ≤ sizeLine; decide, fun r nr => ?_⟩
    have s12 := s1.trans s2
    refine q _ r (s12.trans (same_upd nr)) (Same.none s12 nr) ?_
    rw [← List.map_append]
    exact upd_same
/-! ### _law_folded -/
theorem scFolded : FnScope ["_law_script", "_law_size", "_law_cells", "_law_k", "_law_cell"] ["_law_script", "_law_size"] lFolded.scope := ⟨rfl, rfl, rfl, by decide +kernel, rfl, by decide +kernel, by decide +kernel⟩
def spFolded (K : PySem.W.Frag) : Sp := fun vs H Q _ => ∃ (a : Addr) (ns : List Int), vs = [.ref a, .int 2] ∧ SqL K H a (ns.map V.int) ∧ ns.length < 64 ∧ ∀ H' p (ms : List Int), Same H H' → H' p = some (.lst (ms.map V.int)) → 0 < ms.length → ms.length ≤ 2 → Q (.ref p) H'
theorem dp_ints {H : Hp} : ∀ ms : List Int, DpAll K H (ms.map V.int) (ms.map PyData.int)
  | [] => .nil
  | m :: ms => .cons (.int m) (dp_ints ms)
theorem lay_ints : ∀ ms : List Int, PyData.canLayAll0 (ms.map PyData.int) = true
  | [] => by simp [PyData.canLayAll0]
  | m :: ms => by
    rw [List.map_cons, PyData.canLayAll0, lay_ints ms, PyData.canLay0]
    rfl
theorem depth_ints : ∀ ms : List Int, PyData.depthAll (ms.map PyData.int) = 0
  | [] => by simp [PyData.depthAll]
  | m :: ms => by
    rw [List.map_cons, PyData.depthAll, depth_ints ms, PyData.depth]
    rfl
theorem shp_ints (ms : List Int) : SeqAt.shaped (.list (ms.map PyData.int)) = true := by
  unfold SeqAt.shaped
  rw [PyData.canLay0, lay_ints, PyData.depth, depth_ints]
  rfl
theorem cutV_mem {xs : List V} {lo hi : Option Int} {x : V} (h : x ∈ cutV xs lo hi) : x ∈ xs := by
  unfold cutV at h
  exact List.mem_of_mem_drop (List.mem_of_mem_take h)
theorem ok_folded (e : En P w K mg base) {k : Nat} : Ok P w K mg base (k + 1) lFolded ["_law_script", "_law_size"] (spFolded K) := by
  obtain ⟨fd, F⟩ := e.fd 42
  refine ok_by F rfl scFolded (fun _ _ _ _ _ _ us hl => match us, hl with | [_, _], _ => rfl) (fun vs H Q E h => ?_) (fun cdv A outer s0 H vs Q E hr h => ?_)
  · obtain ⟨a, ns, rfl, _⟩ := h
    rfl
  · obtain ⟨a, ns, rfl, ha, hz, q⟩ := h
    refine ⟨_, pss_cons (ps_set (i := 2) scFolded.nd rfl (.inl rfl) (pe_callTy call_list_of (by rfl) (e.f "list") (by decide +kernel) (pa_cons (pe_slice sl_list (pv 0) po_none (po_some (pv 1))) pa_nil)))
      (pss_cons (ps_for PassesOwn.never rfl (pi_enum (by rfl) (e.f "enumerate") (pa_cons (pe_slice sl_list (pv 0) (po_some (pv 1)) (po_some pe_int)) pa_nil)) (pg_tup rfl (pgs_cons (pg_name (i := 3) scFolded.nd rfl (.inl rfl)) (pgs_cons (pg_name (i := 4) scFolded.nd rfl (.inl rfl)) pgs_nil)))
        (pss_one (ps_asg (pe_op op_add (pe_ix ix_list (pv 2) (pe_op op_mod (pv 3) (pv 1)) (fun _ _ => rfl)) (pe_op op_mul (pv 4) (pe_op op_add (pv 3) pe_int))) (pg_sub (pv 2) (pe_op op_mod (pv 3) (pv 1)) set_list))))
      (pss_one (ps_ret (pe_ifExp (pt_cmpR (op_neD hr.units) (pv 2) (pe_lst pa_nil) (nomark _)) (pv 2) (pe_lst (pa_cons pe_int pa_nil)))))), ?_⟩
    have e2 : cutV (ns.map V.int) none (some 2) = (ns.take 2).map V.int := by
      rw [List.map_take]
      exact cut_take (n := 2)
    refine ⟨.ref a, rfl, _, rfl, 2, rfl, a, _, rfl, ha, fun p np => ?_⟩
    rw [e2]
    have s1 : Same H (upd H p (.lst ((ns.take 2).map V.int))) := same_upd np
    refine ⟨p, _, rfl, .inl (.inl (.inl upd_same)), fun C nC => ?_⟩
    have s2 : Same H (upd (upd H p (.lst ((ns.take 2).map V.int))) C (.lst ((ns.take 2).map V.int))) := s1.trans (same_upd nC)
    have hC2 : upd (upd H p (.lst ((ns.take 2).map V.int))) C (.lst ((ns.take 2).map V.int)) C = some (.lst ((ns.take 2).map V.int)) := upd_same
    have nC0 := Same.none s1 nC
    generalize upd (upd H p (.lst ((ns.take 2).map V.int))) C (.lst ((ns.take 2).map V.int)) = H2 at s2 hC2 ⊢
    refine ⟨.ref a, rfl, _, rfl, 2, rfl, 63, rfl, a, _, rfl, s2.seq ha, fun S nS => ?_⟩
    have s3 : Same H2 (upd H2 S (.lst (cutV (ns.map V.int) (some 2) (some 63)))) := same_upd nS
    have hS3 : upd H2 S (.lst (cutV (ns.map V.int) (some 2) (some 63))) S = some (.lst (cutV (ns.map V.int) (some 2) (some 63))) := upd_same
    have hC3 := s3 _ _ hC2
    have s03 := s2.trans s3
    have nSC : S ≠ C := fun z => by
      rw [z] at nS
      rw [nS] at hC2
      cases hC2
    generalize upd H2 S (.lst (cutV (ns.map V.int) (some 2) (some 63))) = H3 at s3 hS3 hC3 s03 ⊢
    refine ⟨S, _, rfl, .inl (.inl hS3), for_it (walk_enum (xs := cutV (ns.map V.int) (some 2) (some 63))) (fun i σ H' => ∃ (y3 y4 : Option V) (ms : List Int), σ = [some (.ref a), some (.int 2), some (.ref C), y3, y4] ∧ Same H H' ∧ H' S = some (.lst (cutV (ns.map V.int) (some 2) (some 63))) ∧ H' C = some (.lst (ms.map V.int)) ∧ ms.length = min 2 ns.length) ?_
      (fun i σ H' _ ⟨_, _, _, _, _, hS, _⟩ => .inl (.inl hS)) (fun i v σ H1 H1' hi ⟨y3, y4, ms, e1, sm, hS, hC, hl⟩ hy => ?_) (fun σ H' ⟨y3, y4, ms, e1, sm, hS, hC, hl⟩ => ?_)⟩
    · exact ⟨none, none, ns.take 2, rfl, s03, hS3, hC3, List.length_take⟩
    · subst e1
      obtain ⟨T, x, y, rfl, nT, rfl, hx, hyy⟩ := hy
      have hyy : (cutV (ns.map V.int) (some 2) (some 63))[i]? = some y := hyy
      cases hx
      obtain ⟨c, _, rfl⟩ := List.mem_map.mp (cutV_mem (List.mem_of_getElem? hyy))
      have hn2 : 2 < ns.length := by
        have h1 : (cutV (ns.map V.int) (some 2) (some 63)).length ≤ ns.length - 2 := by
          unfold cutV
          rw [show HT.sIx (ns.map V.int).length 0 (some 2) = min 2 (ns.map V.int).length from HT.sIx_nat _ 0 2, List.length_take, List.length_drop, List.length_map]
          omega
        omega
      have sT : Same H1 (upd H1 T (.tup [.int (i : Nat), .int c])) := same_upd nT
      have hCT := sT _ _ hC
      have hST := sT _ _ hS
      have smT := sm.trans sT
      have he : ((i : Nat) : Int) % 2 = ((i % 2 : Nat) : Int) := by omega
      have hj : i % 2 < ms.length := by omega
      have hg : (ms.map V.int)[i % 2]? = some (.int ms[i % 2]) := by
        rw [List.getElem?_map, List.getElem?_eq_getElem hj]
        rfl
      refine ⟨T, _, rfl, .inl (.inl upd_same), rfl, _, _, rfl, _, _, rfl, rfl, ?_⟩
      refine ⟨.ref C, rfl, _, rfl, _, rfl, _, _, rfl, rfl, by show (0 : Int) < 2; decide, C, _, _, .int ms[i % 2], rfl, rfl, .inl (.inl hCT), ?_, _, rfl, _, rfl, _, _, rfl, rfl, _, _, rfl, rfl, .inr ⟨by omega, ?_⟩, _, _, rfl, rfl, .ref C, rfl, _, rfl, _, rfl, _, _, rfl, rfl, by show (0 : Int) < 2; decide, C, _, _, i % 2, rfl, rfl, hCT, ?_, ?_⟩
      · show atI _ (((i : Nat) : Int) % 2) = _
        rw [he]
        exact atI_nat hg
      · have : i < 64 := by
          have := cutV_length (ns.map V.int) (some 2) (some 63)
          rw [List.length_map] at this
          omega
        omega
      · show ixN _ (((i : Nat) : Int) % 2) = _
        rw [he]
        exact ixN_nat (by rw [List.length_map]; exact hj)
      · refine ⟨_, _, ms.set (i % 2) (ms[i % 2] + c * (((i : Nat) : Int) + 2)), rfl, same_chg smT nC0, ?_, ?_, by rw [List.length_set]; exact hl⟩
        · rw [upd_ne nSC]
          exact hST
        · rw [upd_same, List.map_set]
    · subst e1
      refine ⟨_, rfl, Nat.zero_le _, fun E nE => ?_⟩
      have sE : Same H' (upd H' E (.lst [])) := same_upd nE
      refine ⟨.list (ms.map PyData.int), .list [], .lst (.inl (.inl (sE _ _ hC))) (dp_ints ms), .lst (.inl (.inl upd_same)) .nil, shp_ints ms, shp_ints [], _, rfl, ?_⟩
      cases ms with
      | nil =>
        rw [show (!PyData.eqv (.list (([] : List Int).map PyData.int)) (.list [])) = false by decide +kernel]
        refine iteF ⟨by show 1 ≤ sizeLine; decide, fun p np => ?_⟩
        exact q _ p [0] ((sm.trans sE).trans (same_upd np)) upd_same (by decide) (by decide)
      | cons m r =>
        rw [show (!PyData.eqv (.list ((m :: r).map PyData.int)) (.list [])) = true by
          rw [PyData.eqv, List.map_cons, PyData.eqvAll]
          rfl]
        refine iteT ⟨_, rfl, q _ C (m :: r) (sm.trans sE) (sE _ _ hC) (by simp) (by rw [hl]; omega)⟩
end
end Sb
/-! _law_row. -/
namespace Sb
open PySem PySem.Spec PyProof.Rows L2 LamX NdefX RZ
theorem seq_nat {i n : Nat} (h : i < n) : seqIndex? ((i : Nat) : Int) n = some i := by
  have h1 : (if ((i : Nat) : Int) < 0 then ((i : Nat) : Int) + ((n : Nat) : Int) else ((i : Nat) : Int)) = ((i : Nat) : Int) := if_neg (by omega)
  show (if (decide (0 ≤ if ((i : Nat) : Int) < 0 then ((i : Nat) : Int) + ((n : Nat) : Int) else ((i : Nat) : Int)) && decide ((if ((i : Nat) : Int) < 0 then ((i : Nat) : Int) + ((n : Nat) : Int) else ((i : Nat) : Int)) < ((n : Nat) : Int))) = true then some (if ((i : Nat) : Int) < 0 then ((i : Nat) : Int) + ((n : Nat) : Int) else ((i : Nat) : Int)).toNat else none) = some i
  rw [h1, decide_eq_true (show (0 : Int) ≤ ((i : Nat) : Int) by omega), decide_eq_true (show ((i : Nat) : Int) < ((n : Nat) : Int) by omega)]
  rfl
theorem erase_perm {A : Type} {ls : List A} {i : Nat} {x : A} (h : ls[i]? = some x) : (x :: ls.eraseIdx i).Perm ls := by
  rw [List.eraseIdx_eq_take_drop_succ]
  obtain ⟨hi, e⟩ := List.getElem?_eq_some_iff.mp h
  have h1 : ls.take i ++ x :: ls.drop (i + 1) = ls := by
    rw [← e, ← List.drop_eq_getElem_cons hi, List.take_append_drop]
  refine List.perm_middle.symm.trans ?_
  rw [h1]
theorem erase_map {A B : Type} {f : A → B} {ls : List A} {i : Nat} : (ls.map f).eraseIdx i = (ls.eraseIdx i).map f := by
  rw [List.eraseIdx_eq_take_drop_succ, List.eraseIdx_eq_take_drop_succ, List.map_append, List.map_take, List.map_drop]
section
variable {P : Program} {w : World} {K : PySem.W.Frag} {mg : Str → Option Value} {base : Heap}
theorem scRow : FnScope ["_law_box_here", "_law_names_due", "_law_left", "_law_found"] ["_law_box_here", "_law_names_due"] lRow.scope := ⟨rfl, rfl, rfl, by decide +kernel, rfl, by decide +kernel, by decide +kernel⟩
def spRow (K : PySem.W.Frag) : Sp := fun vs H Q _ => ∃ (b a n : Nat) (xs : List Str), vs = [.ref b, .ref a] ∧ BoxAt H b n ∧ n < 100000 ∧ H a = some (.lst (xs.map V.str)) ∧ xs.length < 64 ∧ (∀ x ∈ xs, SOk x) ∧ ∀ H' r row, Fm K [b] H H' → BoxAt H' b (n + xs.length) → row.Perm xs → RowAt H' r row → Q (.ref r) H'
theorem ok_row (e : En P w K mg base) {k : Nat} (O : Ok P w K mg base k lTake ["_law_box_here", "_law_size"] (spTake K)) : Ok P w K mg base (k + 1) lRow ["_law_box_here", "_law_names_due"] (spRow K) := by
  obtain ⟨fd, F⟩ := e.fd 43
  refine ok_by F rfl scRow (fun _ _ _ _ _ _ us hl => match us, hl with | [_, _], _ => rfl) (fun vs H Q E h => ?_) (fun cdv A outer s0 H vs Q E hr h => ?_)
  · obtain ⟨b, a, n, xs, rfl, _⟩ := h
    rfl
  · obtain ⟨b, a, n, xs, rfl, hb, hn, ha, hz, hso, q⟩ := h
    refine ⟨_, pss_cons (ps_par (by rfl) scRow.nd (i := 2) (j := 3) rfl rfl (by decide) rfl rfl (pa_cons (pe_callTy call_list_of (by rfl) (e.f "list") (by decide +kernel) (pa_cons (pv 1) pa_nil)) (pa_cons (pe_lst pa_nil) pa_nil)) (by rfl))
      (pss_cons (ps_while PassesOwn.never (pt_cmpR (op_neD hr.units) (pv 2) (pe_lst pa_nil) (nomark _))
        (pss_one (ps_expr (pe_bm PySem.F.plainAttrs_list PySem.F.slot_list_append PySem.F.type_list_append mt_append (pv 3) (pa_cons
          (pe_bm PySem.F.plainAttrs_list PySem.F.slot_list_pop PySem.F.type_list_pop mt_popAt (pv 2) (pa_cons (pe_fn O hr (Nat.le_refl _) (by rfl) (e.g "_law_take") (pa_cons (pv 0) (pa_cons (pe_callB call_len_seq (by rfl) (e.f "len") PySem.boot_len (pa_cons (pv 2) pa_nil)) pa_nil))) pa_nil)) pa_nil)))))
      (pss_one (ps_ret (pe_callTy call_tuple_of (by rfl) (e.f "tuple") (by decide +kernel) (pa_cons (pv 3) pa_nil))))), ?_⟩
    refine ⟨.ref a, rfl, a, _, rfl, .inl (.inl (.inl ha)), fun L nL => ⟨Nat.zero_le _, fun G nG => ⟨_, _, rfl, ?_⟩⟩⟩
    have s1 : Same H (upd H L (.lst (xs.map V.str))) := same_upd nL
    have s2 : Same (upd H L (.lst (xs.map V.str))) (upd (upd H L (.lst (xs.map V.str))) G (.lst [])) := same_upd nG
    have s12 := s1.trans s2
    have hL2 : upd (upd H L (.lst (xs.map V.str))) G (.lst []) L = some (.lst (xs.map V.str)) := s2 _ _ upd_same
    have hG2 : upd (upd H L (.lst (xs.map V.str))) G (.lst []) G = some (.lst []) := upd_same
    have nGH : H G = none := Same.none s1 nG
    have nGL : G ≠ L := fun z => by
      rw [z, upd_same] at nG
      cases nG
    generalize upd (upd H L (.lst (xs.map V.str))) G (.lst []) = H2 at s12 hL2 hG2 ⊢
    have hb' := hb
    obtain ⟨c0, c1, c2, hbx, _⟩ := hb'
    have nLb : L ≠ b := fun z => by
      rw [z, hbx] at nL
      cases nL
    have nGb : G ≠ b := fun z => by
      rw [z, hbx] at nGH
      cases nGH
    have hb2 : BoxAt H2 b n := by
      obtain ⟨d0, d1, d2, e0, e1⟩ := hb
      exact ⟨d0, d1, d2, s12 _ _ e0, e1⟩
    refine ⟨fun m σ H' => ∃ (ls fs : List Str), m = ls.length ∧ σ = [some (.ref b), some (.ref a), some (.ref L), some (.ref G)] ∧ H' L = some (.lst (ls.map V.str)) ∧ H' G = some (.lst (fs.map V.str)) ∧ (fs ++ ls).Perm xs ∧ Fm K [b] H H' ∧ BoxAt H' b (n + fs.length),
      ⟨_, xs, [], rfl, rfl, hL2, hG2, List.Perm.refl _, .of s12, hb2⟩, fun m σ H' ⟨ls, fs, em, e1, hL, hG, hp, f, hb⟩ => ?_⟩
    subst em e1
    have hpl := hp.length_eq
    rw [List.length_append] at hpl
    refine ⟨_, rfl, Nat.zero_le _, fun E nE => ?_⟩
    have sE : Same H' (upd H' E (.lst [])) := same_upd nE
    have hsl : ∀ x ∈ ls, SOk x := fun x hx => hso x (hp.mem_iff.mp (List.mem_append_right _ hx))
    refine ⟨.list (ls.map PyData.str), .list [], .lst (.inl (.inl (sE _ _ hL))) (dpAll_strs ls), .lst (.inl (.inl upd_same)) .nil, shp_list hsl, shp_list (xs := []) (by simp), _, rfl, ?_⟩
    cases ls with
    | nil =>
      rw [show (!PyData.eqv (.list (([] : List Str).map PyData.str)) (.list [])) = false by decide +kernel]
      refine iteF ⟨_, rfl, G, _, rfl, .inl ⟨.inl (.inl (sE _ _ hG)), fun r nr => ?_⟩⟩
      rw [List.append_nil] at hp
      have fE : Fm K [b] H (upd (upd H' E (.lst [])) r (.tup (fs.map V.str))) := f.trans (.of (sE.trans (same_upd nr)))
      refine q _ r fs fE ?_ hp upd_same
      obtain ⟨d0, d1, d2, e0, e1⟩ := hb
      rw [hp.length_eq] at e1
      exact ⟨d0, d1, d2, same_upd nr _ _ (sE _ _ e0), e1⟩
    | cons y r =>
      rw [show (!PyData.eqv (.list ((y :: r).map PyData.str)) (.list [])) = true by
        rw [PyData.eqv, List.map_cons, PyData.eqvAll]
        rfl]
      have hbE : BoxAt (upd H' E (.lst [])) b (n + fs.length) := by
        obtain ⟨d0, d1, d2, e0, e1⟩ := hb
        exact ⟨d0, d1, d2, sE _ _ e0, e1⟩
      have hLE := sE _ _ hL
      have hGE := sE _ _ hG
      have fE : Fm K [b] H (upd H' E (.lst [])) := f.trans (.of sE)
      generalize upd H' E (.lst []) = H3 at hbE hLE hGE fE ⊢
      refine iteT ⟨_, fun σ' H' h => h, .ref G, rfl, .inl ⟨rfl, _, .inl (.inl hGE)⟩, .ref L, rfl, .inl ⟨rfl, _, .inl (.inl hLE)⟩, .ref b, rfl, .ref L, rfl, L, _, rfl, .inl (.inl (.inl hLE)), ?_⟩
      have hrl : (y :: r).length = r.length + 1 := rfl
      refine ⟨b, n + fs.length, (y :: r).length, by rw [List.length_map]; rfl, hbE, by omega, by omega, by omega, fun H4 i f4 hb4 hi => ?_⟩
      have hL4 := f4.lst hLE (fun z => nLb (List.mem_singleton.mp z))
      have hG4 := f4.lst hGE (fun z => nGb (List.mem_singleton.mp z))
      have hg : ((y :: r).map V.str)[i]? = some (.str (y :: r)[i]) := by
        rw [List.getElem?_map, List.getElem?_eq_getElem hi]
        rfl
      refine ⟨L, _, _, i, _, rfl, rfl, hL4, by omega, by omega, seq_nat (by rw [List.length_map]; exact hi), hg, ?_⟩
      have hG5 : upd H4 L (.lst (((y :: r).map V.str).eraseIdx i)) G = some (.lst (fs.map V.str)) := by
        rw [upd_ne nGL]
        exact hG4
      refine ⟨G, _, _, rfl, rfl, hG5, by rw [List.length_map]; exact lt_line (by omega), ?_⟩
      have nLH := nL
      refine ⟨_, ?_, (y :: r).eraseIdx i, fs ++ [(y :: r)[i]], rfl, rfl, ?_, ?_, ?_, ?_, ?_⟩
      · rw [List.length_eraseIdx, if_pos hi]
        omega
      · rw [upd_ne nGL.symm, upd_same, erase_map]
      · rw [upd_same, List.map_append]
        rfl
      · rw [List.append_assoc]
        exact (List.Perm.append_left fs (erase_perm (List.getElem?_eq_getElem hi))).trans hp
      · have f5 : Fm K [b] H (upd H4 L (.lst (((y :: r).map V.str).eraseIdx i))) := Fm.chg (fE.trans f4) nL hL4 (fun _ z => by cases z) fun _ z => by cases z
        exact f5.chg nGH hG5 (fun _ z => by cases z) fun _ z => by cases z
      · obtain ⟨d0, d1, d2, e0, e1⟩ := hb4
        refine ⟨d0, d1, d2, ?_, ?_⟩
        · rw [upd_ne nGb.symm, upd_ne nLb.symm]
          exact e0
        · rw [List.length_append]
          show _ ∧ _ ∧ _ ∧ _ ∧ d2 ≤ ((n + (fs.length + 1) : Nat) : Int)
          omega
end
end Sb
/-! _law_called. -/
namespace Sb
open PySem PySem.Spec PyProof.Rows L2 LamX NdefX RZ
theorem mergeK_new : ∀ (kvs acc : List (Key × V)), (kvs.map (·.1)).Nodup → (∀ p ∈ kvs, p.1 ∉ acc.map (·.1)) → mergeK acc kvs = acc ++ kvs
  | [], acc, _, _ => by
    rw [List.append_nil]
    rfl
  | p :: kvs, acc, nd, h => by
    have e : putK acc p.1 p.2 = acc ++ [p] := putK_new p.2 (by
      cases q : valV acc p.1 with
      | none => rfl
      | some v => exact absurd (valV_in q) (h p (List.mem_cons_self ..)))
    show mergeK (putK acc p.1 p.2) kvs = _
    rw [List.map_cons, List.nodup_cons] at nd
    rw [e, mergeK_new kvs (acc ++ [p]) nd.2 fun q hq m => ?_]
    · rw [List.append_assoc]
      rfl
    · rw [List.map_append] at m
      rcases List.mem_append.mp m with m | m
      · exact h q (List.mem_cons_of_mem _ hq) m
      · have m : q.1 = p.1 := by simpa using m
        exact nd.1 (by rw [← m]; exact List.mem_map_of_mem (f := fun x => x.1) hq)
theorem merge_tell {c : List (Str × Str)} (nd : (c.map (·.1)).Nodup) : mergeK [] (tellD c) = tellD c := by
  rw [mergeK_new _ _ _ (by simp)]
  · rfl
  · unfold tellD
    rw [List.map_map]
    have e : c.map ((fun x : Key × V => x.1) ∘ fun p => ((Sum.inr p.1 : Key), V.str p.2)) = (c.map (·.1)).map Sum.inr := by
      rw [List.map_map]
      rfl
    rw [e]
    exact nd.map _ fun x y h z => h (Sum.inr.inj z)
/-- a call, the tuple known to its object -/
def CryAt (H : Hp) (t : Addr) (c : List (Str × Str)) : Prop := ∃ (o : Obj) (ts : List Addr), H t = some (.frz o (.tup (ts.map V.ref))) ∧ o.dict = none ∧ Paired (fun p a => PrAt H a p) c ts
theorem prd_swap {A B : Type} {F : A → B → Prop} {G : B → A → Prop} (h : ∀ a b, F a b → G b a) : ∀ {l : List A} {m : List B}, Paired F l m → Paired G m l
  | _, _, .nil => .nil
  | _, _, .cons r t => .cons (h _ _ r) (prd_swap h t)
theorem prd_mapR {A B C : Type} {F : A → C → Prop} {f : B → C} : ∀ {l : List A} {m : List B}, Paired (fun a b => F a (f b)) l m → Paired F l (m.map f)
  | _, _, .nil => .nil
  | _, _, .cons r t => .cons r (prd_mapR t)
section
variable {P : Program} {w : World} {K : PySem.W.Frag} {mg : Str → Option Value} {base : Heap}
theorem scLCalled : FnScope ["_law_row_due", "_law_cry", "_law_told", "_law_found", "_law_name", "_law_who"] ["_law_row_due", "_law_cry"] lCalled.scope := ⟨rfl, rfl, rfl, by decide +kernel, rfl, by decide +kernel, by decide +kernel⟩
def spLCalled : Sp := fun vs H Q _ => ∃ (a t : Addr) (row : List Str) (c : List (Str × Str)), vs = [.ref a, .ref t] ∧ RowAt H a row ∧ row.length < 64 ∧ CryAt H t c ∧ CallOk row c ∧ ∀ H' r, Same H H' → RowAt H' r (callF (tell c) row) → Q (.ref r) H'
theorem ok_lcalled (e : En P w K mg base) {k : Nat} : Ok P w K mg base (k + 1) lCalled ["_law_row_due", "_law_cry"] spLCalled := by
  obtain ⟨fd, F⟩ := e.fd 44
  refine ok_by F rfl scLCalled (fun _ _ _ _ _ _ us hl => match us, hl with | [_, _], _ => rfl) (fun vs H Q E h => ?_) (fun cdv A outer s0 H vs Q E hr h => ?_)
  · obtain ⟨a, t, row, c, rfl, _⟩ := h
    rfl
  · obtain ⟨a, t, row, c, rfl, ha, hz, ⟨o, ts, ht, hd0, hts⟩, ho, q⟩ := h
    refine ⟨_, pss_cons (ps_set (i := 2) scLCalled.nd rfl (.inr rfl) (pe_callTy (call_dictZ rfl) (by rfl) (e.f "dict") (by decide +kernel) (pa_cons (pv 1) pa_nil)))
      (pss_cons (ps_set (i := 3) scLCalled.nd rfl (.inl rfl) (pe_lst pa_nil))
      (pss_cons (ps_for PassesOwn.never rfl (pi_tup (pv 0)) (pg_name (i := 4) scLCalled.nd rfl (.inr rfl))
        (pss_one (ps_set (i := 3) scLCalled.nd rfl (.inl rfl) (pe_op op_cat (pv 3) (pe_lc (own := [("_law_who", 5)]) (g := gName 5) (by rfl) scLCalled.nd (pi_tup (pv 0)) (blkOk_by (N := ["_law_row_due", "_law_cry", "_law_told", "_law_found", "_law_name", "_law_who"]) (sc := lCalled.scope) (by decide +kernel))
          (fun _ _ _ _ _ => pg_name (i := 5) scLCalled.nd rfl (.inl rfl)) (fun _ _ _ _ _ => pts_one (pt_cmpR op_eq (pe_dget (hu_of hr) (pv 2) (pv 5) (fun _ _ => rfl)) (pv 4) (nomark _))) (fun _ _ _ _ _ => pv 5))))))
      (pss_one (ps_ret (pe_callTy call_tuple_of (by rfl) (e.f "tuple") (by decide +kernel) (pa_cons (pv 3) pa_nil)))))), ?_⟩
    refine ⟨.ref t, rfl, t, o, ts, tellD c, rfl, ht, hd0, ?_, fun d nd => ?_⟩
    · refine prd_mapR (F := fun p (kv : Key × V) => SqT K H p [kV kv.1, kv.2]) (prd_swap (fun p a h => ?_) hts)
      exact .inl (.inl h)
    rw [merge_tell ho.nd]
    have s1 : Same H (upd H d (.dK (tellD c))) := same_upd nd
    have hd1 : upd H d (.dK (tellD c)) d = some (.dK (tellD c)) := upd_same
    generalize upd H d (.dK (tellD c)) = H1 at s1 hd1 ⊢
    refine ⟨Nat.zero_le _, fun f0 nf0 => ?_⟩
    have s2 : Same H1 (upd H1 f0 (.lst [])) := same_upd nf0
    have s12 := s1.trans s2
    have hd2 := s2 _ _ hd1
    refine ⟨.ref a, rfl, a, rfl, ⟨_, .inl (.inl (s12 _ _ ha))⟩, for_tup (xs := row.map V.str) (fun i σ H' => ∃ (f : Addr) (y4 : Option V) (zs : List Str), σ = [some (.ref a), some (.ref t), some (.ref d), some (.ref f), y4, none] ∧ Same H H' ∧ H' d = some (.dK (tellD c)) ∧ H' f = some (.lst (zs.map V.str)) ∧
        zs = ((row.take i).flatMap fun n => row.filter fun w => decide (tell c w = n)) ∧ zs.length ≤ i * 64) ⟨f0, none, [], rfl, s12, hd2, upd_same, rfl, Nat.zero_le _⟩
      (fun i σ H' _ ⟨_, _, _, _, sm, _⟩ => .inl (.inl (sm _ _ ha))) (fun i v σ H' hv ⟨f, y4, zs, e1, sm, hd, hf, ez, hl⟩ => ?_) (fun σ H' ⟨f, y4, zs, e1, sm, hd, hf, ez, hl⟩ => ?_)⟩
    · subst e1
      obtain ⟨x, hx, rfl⟩ := get_map hv
      have hi : i < row.length := (List.getElem?_eq_some_iff.mp hx).1
      refine ⟨_, rfl, .ref a, rfl, a, rfl, ⟨_, .inl (.inl (sm _ _ ha))⟩, fun D nD => ?_⟩
      refine lc_any (walk_tup (xs := row.map V.str)) (fun j H2 => Same H' H2 ∧ H2 D = some (.lst (((row.take j).filter fun w => decide (tell c w = x)).map V.str))) ⟨same_upd nD, upd_same⟩
        (fun j H2 _ hW => .inl (.inl (hW.1 _ _ (sm _ _ ha)))) (fun j v H2 H3 hj ⟨sj, hD⟩ hy => ?_) (fun H2 ⟨sj, hD⟩ => ?_)
      · obtain ⟨rfl, hv⟩ := hy
        obtain ⟨y, hy, rfl⟩ := get_map hv
        rw [List.length_map] at hj
        have hym := ho.mem (List.mem_of_getElem? hy)
        have g1 : DGet H3 d (.str y) (some (.str (tell c y))) := by
          rw [← tellD_in hym]
          exact DGet.k (k := Sum.inr y) (sj _ _ hd)
        refine ⟨rfl, .ref d, rfl, .str y, rfl, d, _, rfl, g1, _, rfl, rfl, _, rfl, ?_⟩
        by_cases exy : tell c y = x
        · rw [decide_eq_true (by rw [exy])]
          refine iteT ⟨_, rfl, _, hD, ?_, same_chg sj nD, ?_⟩
          · rw [List.length_map]
            refine lt_line (Nat.lt_of_le_of_lt (List.length_filter_le _ _) ?_)
            rw [List.length_take]
            omega
          · rw [upd_same, take_snoc hy, List.filter_append, List.map_append]
            simp [exy]
        · rw [decide_eq_false (fun z => exy (V.str.inj z))]
          refine iteF ⟨sj, ?_⟩
          rw [hD, take_snoc hy, List.filter_append]
          simp [exy]
      · rw [List.length_map, List.take_length] at hD
        have hfl : (row.filter fun w => decide (tell c w = x)).length ≤ 64 := Nat.le_trans (List.length_filter_le _ _) (by omega)
        refine ⟨f, D, _, _, rfl, rfl, sj _ _ hf, hD, ?_, fun p np => ?_⟩
        · rw [List.length_map, List.length_map]
          exact Nat.le_of_lt (Nat.lt_of_le_of_lt (show zs.length + _ ≤ 10000 by omega) (by decide))
        · refine ⟨p, _, zs ++ row.filter fun w => decide (tell c w = x), rfl, (sm.trans sj).trans (same_upd np), same_upd np _ _ (sj _ _ hd), ?_, ?_, ?_⟩
          · rw [upd_same, List.map_append]
          · rw [take_snoc hx, List.flatMap_append, List.flatMap_singleton, ez]
          · rw [List.length_append]
            omega
    · subst e1
      rw [List.length_map, List.take_length] at ez
      refine ⟨_, rfl, f, _, rfl, .inl ⟨.inl (.inl hf), fun r nr => q _ r (sm.trans (same_upd nr)) ?_⟩⟩
      rw [ez]
      exact upd_same
end
end Sb
/-! _law_deed. -/
namespace Sb
open PySem PySem.Spec PyProof.Rows L2 LamX NdefX RZ
structure PgOk (m : Nat) (g : Pg) : Prop where
  nd : g.row.Nodup
  sub : ∀ x ∈ g.row, x ∈ NAMES
  lo : 23 ≤ g.row.length
  hi : g.row.length ≤ 24
  pb : g.row.Perm g.beg
  wd : g.row = wordC g.cs g.beg
  ok : ∀ c ∈ g.cs, CallOk g.row c
  ln : g.cs.length ≤ m
theorem PgOk.sok {m : Nat} {g : Pg} (o : PgOk m g) : ∀ x ∈ g.row, SOk x := fun x hx => NAMES_ok x (o.sub x hx)
theorem PgOk.fresh {m : Nat} {row : List Str} (nd : row.Nodup) (sub : ∀ x ∈ row, x ∈ NAMES) (lo : 23 ≤ row.length) (hi : row.length ≤ 24) : PgOk m ⟨row, row, []⟩ :=
  ⟨nd, sub, lo, hi, List.Perm.refl _, rfl, by simp, Nat.zero_le _⟩
/-- the law's own page: the row, how many calls -/
def LPg (H : Hp) (a : Addr) (g : Pg) : Prop := ∃ ra, H a = some (.tup [.ref ra, .int ((g.cs.length : Nat) : Int)]) ∧ RowAt H ra g.row
theorem LPg.fm {K : PySem.W.Frag} {M : List Addr} {H H' : Hp} {a : Addr} {g : Pg} (f : Fm K M H H') (h : LPg H a g) : LPg H' a g := by
  obtain ⟨ra, h1, h2⟩ := h
  exact ⟨ra, f.tup h1, f.tup h2⟩
theorem BoxAt.same {H H' : Hp} {b n : Nat} (s : Same H H') (h : BoxAt H b n) : BoxAt H' b n := by
  obtain ⟨b0, b1, b2, hb, r⟩ := h
  exact ⟨b0, b1, b2, s _ _ hb, r⟩
theorem BoxAt.fm {K : PySem.W.Frag} {M : List Addr} {H H' : Hp} {b n : Nat} (f : Fm K M H H') (m : b ∉ M) (h : BoxAt H b n) : BoxAt H' b n := by
  obtain ⟨b0, b1, b2, hb, r⟩ := h
  exact ⟨b0, b1, b2, f.lst hb m, r⟩
theorem idxG {row : List Str} {x : Str} (hx : x ∈ row) : (row.map V.str)[pos row x]? = some (V.str x) := by
  rw [List.getElem?_map, get_pos hx]
  rfl
theorem idxE {x : Str} : eqV (.str x) (.str x) = true := by simp [eqV]
theorem idxF {row : List Str} {x : Str} (nd : row.Nodup) : ∀ (m : Nat) (z' : V), m < pos row x → (row.map V.str)[m]? = some z' → eqV z' (.str x) = false := fun m z' hm hz => by
  obtain ⟨y, hy, rfl⟩ := get_map hz
  have e : ¬ y = x := fun z => by
    rw [z] at hy
    rw [pos_at nd hy] at hm
    exact Nat.lt_irrefl _ hm
  simp [eqV, e]
theorem sub_len {A : Type} [DecidableEq A] : ∀ {l m : List A}, l.Nodup → (∀ x ∈ l, x ∈ m) → l.length ≤ m.length
  | [], _, _, _ => Nat.zero_le _
  | x :: l, m, nd, h => by
    rw [List.nodup_cons] at nd
    have h1 := sub_len (l := l) (m := m.erase x) nd.2 fun y hy => by
      refine (List.mem_erase_of_ne fun z => nd.1 (by rw [← z]; exact hy)).mpr (h y (List.mem_cons_of_mem _ hy))
    have hx := h x (List.mem_cons_self ..)
    rw [List.length_erase_of_mem hx] at h1
    have : 0 < m.length := List.length_pos_of_mem hx
    rw [List.length_cons]
    omega
/-- a name more, or in its place -/
theorem put_tell {t : List (Str × Str)} {x y : Str} {row : List Str} (nd : (t.map (·.1)).Nodup) (h : ∀ p ∈ t, p.1 ∈ row ∧ p.2 ∈ row) (hx : x ∈ row) (hy : y ∈ row) :
    ∃ t', putK (tellD t) (Sum.inr x) (.str y) = tellD t' ∧ (t'.map (·.1)).Nodup ∧ (∀ p ∈ t', p.1 ∈ row ∧ p.2 ∈ row) ∧ t'.length ≤ t.length + 1 := by
  by_cases hm : x ∈ t.map (·.1)
  · refine ⟨t.map fun p => if p.1 = x then (p.1, y) else p, ?_, ?_, ?_, by simp⟩
    · unfold putK
      rw [if_pos]
      · unfold tellD
        rw [List.map_map, List.map_map]
        refine List.map_congr_left fun p _ => ?_
        show (if (Sum.inr p.1 : Key) = Sum.inr x then ((Sum.inr p.1 : Key), V.str y) else (Sum.inr p.1, V.str p.2)) = ((fun q : Str × Str => ((Sum.inr q.1 : Key), V.str q.2)) (if p.1 = x then (p.1, y) else p))
        by_cases e : p.1 = x
        · rw [if_pos (by rw [e]), if_pos e]
        · rw [if_neg (fun z => e (Sum.inr.inj z)), if_neg e]
      · rw [List.any_eq_true]
        obtain ⟨p, hp, e⟩ := List.mem_map.mp hm
        exact ⟨(Sum.inr p.1, V.str p.2), List.mem_map.mpr ⟨p, hp, rfl⟩, decide_eq_true (by rw [e])⟩
    · have e : (t.map fun p => if p.1 = x then (p.1, y) else p).map (·.1) = t.map (·.1) := by
        rw [List.map_map]
        refine List.map_congr_left fun p _ => ?_
        show (if p.1 = x then (p.1, y) else p).1 = p.1
        split <;> rfl
      rw [e]
      exact nd
    · intro q hq
      obtain ⟨p, hp, rfl⟩ := List.mem_map.mp hq
      split
      · exact ⟨(h p hp).1, hy⟩
      · exact h p hp
  · refine ⟨t ++ [(x, y)], ?_, ?_, ?_, by simp⟩
    · rw [putK_new]
      · unfold tellD
        rw [List.map_append]
        rfl
      · rw [tellD_get, lookup_none hm]
        rfl
    · rw [List.map_append]
      refine List.nodup_append.mpr ⟨nd, by simp, fun a ha b hb e => ?_⟩
      rw [e] at ha
      have hb : b = x := by simpa using hb
      rw [hb] at ha
      exact hm ha
    · intro q hq
      rcases List.mem_append.mp hq with m | m
      · exact h q m
      · rw [List.mem_singleton.mp m]
        exact ⟨hx, hy⟩
theorem dropR_erase {row : List Str} {x : Str} : dropR row x = row.eraseIdx (pos row x) := by
  rw [List.eraseIdx_eq_take_drop_succ]
  rfl
theorem firstS {row : List Str} {x : Str} (nd : row.Nodup) : ∀ m : Nat, m < pos row x → row[m]? ≠ some x := fun m hm z => by
  rw [pos_at nd z] at hm
  exact Nat.lt_irrefl _ hm
theorem Fm.frz {K : PySem.W.Frag} {M : List Addr} {H H' : Hp} {a : Addr} {o : Obj} {u : HO} (f : Fm K M H H') (h : H a = some (.frz o u)) : H' a = some (.frz o u) := f.1 a _ h (fun _ z => by cases z) fun ⟨_, z⟩ => by cases z
theorem CryAt.fm {K : PySem.W.Frag} {M : List Addr} {H H' : Hp} {t : Addr} {c : List (Str × Str)} (f : Fm K M H H') (h : CryAt H t c) : CryAt H' t c := by
  obtain ⟨o, ts, h1, h2, h3⟩ := h
  exact ⟨o, ts, f.frz h1, h2, L2.Paired.mapP h3 fun p a z => f.tup z⟩
/-- a name that is not in the row -/
theorem name_free {row : List Str} (hl : row.length < 24) : (NAMES.filter fun x => decide (x ∉ row)) ≠ [] := fun z => by
  have h : ∀ x ∈ NAMES, x ∈ row := fun x hx => by
    by_cases hm : x ∈ row
    · exact hm
    · have : x ∈ NAMES.filter fun x => decide (x ∉ row) := List.mem_filter.mpr ⟨hx, decide_eq_true hm⟩
      rw [z] at this
      simp at this
  have := sub_len NAMES_nodup h
  rw [NAMES_len] at this
  omega
/-- a test of two parts whose answers are known -/
theorem and_det {t u : TT} {σ : L2.St} {H : Hp} {Q : Bool → Hp → Prop} (c1 c2 : Bool) (ht : ∀ Qt : Bool → Hp → Prop, Qt c1 H → t σ H Qt) (hu : ∀ Qu : Bool → Hp → Prop, Qu c2 H → u σ H Qu) (hq : Q (c1 && c2) H) : tAnd t u σ H Q := by
  refine ht _ ?_
  cases c1 with
  | false => exact iteF hq
  | true => exact iteT (hu _ hq)
theorem nxt {D : Ends} {σ : L2.St} {H : Hp} (h : D.nx σ H) : tNext D σ H := h
theorem if_det {t u : TT} {a b rest : TS} {D : Ends} {σ : L2.St} {H : Hp} (c1 c2 : Bool) (ht : ∀ Qt : Bool → Hp → Prop, Qt c1 H → t σ H Qt) (hu : ∀ Qu : Bool → Hp → Prop, Qu c2 H → u σ H Qu)
    (hq : if (c1 && c2) = true then a { D with nx := rest D } σ H else b { D with nx := rest D } σ H) : tSeq (tIfS (tAnd t u) a b) rest D σ H := and_det c1 c2 ht hu hq
section
variable {P : Program} {w : World} {K : PySem.W.Frag} {mg : Str → Option Value} {base : Heap}
theorem scDeed : FnScope ["_law_box_here", "_law_yard", "_law_page", "_law_here", "_law_some", "_law_way", "_law_one", "_law_mate", "_law_at", "_law_by", "_law_name", "_law_turn", "_law_cry"] ["_law_box_here", "_law_yard", "_law_page"] lDeed.scope := ⟨rfl, rfl, rfl, by decide +kernel, rfl, by decide +kernel, by decide +kernel⟩
def spDeed (K : PySem.W.Frag) : Sp := fun vs H Q _ => ∃ (b s a pl n m : Nat) (pgs : List Pg) (g : Pg), vs = [.ref b, .ref s, .ref a] ∧ BoxAt H b n ∧ n < 100000 ∧ Yard K H s pl (pgs ++ [g]) ∧ LPg H a g ∧ PgOk m g ∧ m < 500 ∧ pgs.length < 500 ∧ Tabs (tabsOf K) H ∧
  ∀ H' r g', Fm K [b, pl] H H' → BoxAt H' b (n + 100) → Yard K H' s pl (pgs ++ [g] ++ [g']) → LPg H' r g' → PgOk (m + 1) g' → Q (.ref r) H'
theorem ok_deed (e : En P w K mg base) {k : Nat} (OT : Ok P w K mg base k lTake ["_law_box_here", "_law_size"] (spTake K)) (OPk : Ok P w K mg base k lPick ["_law_box_here", "_law_some"] (spPick K)) (ON : Ok P w K mg base k lNames [] spNames) (OLC : Ok P w K mg base k lCalled ["_law_row_due", "_law_cry"] spLCalled)
    (OCh : Ok P w K mg base k dChange ["self", "one", "other"] (spChange K)) (OLe : Ok P w K mg base k dLeave ["self", "name"] (spLeave K)) (OCo : Ok P w K mg base k dCome ["self", "name", "place"] (spCome K)) (OCa : Ok P w K mg base k dCall ["self", "told"] (spCall K)) :
    Ok P w K mg base (k + 1) lDeed ["_law_box_here", "_law_yard", "_law_page"] (spDeed K) := by
  obtain ⟨fd, F⟩ := e.fd 46
  refine ok_by F rfl scDeed (fun _ _ _ _ _ _ us hl => match us, hl with | [_, _, _], _ => rfl) (fun vs H Q E h => ?_) (fun cdv A outer s0 H vs Q E hr h => ?_)
  · obtain ⟨b, s, a, pl, n, m, pgs, g, rfl, _⟩ := h
    rfl
  · obtain ⟨b, s, a, pl, n, m, pgs, g, rfl, hb, hn, yd, ⟨ra, hpg, hra⟩, ok, hm, hpz, hT, q⟩ := h
    obtain ⟨dx, ml, zs, p, h1, h2, h3, h4⟩ := yd.last
    refine ⟨_, pss_cons (ps_asg (pe_tup (pa_cons (pe_callTy call_list_of (by rfl) (e.f "list") (by decide +kernel) (pa_cons (pe_ix ix_tup (pv 2) pe_int (fun _ _ => rfl)) pa_nil)) (pa_cons pe_dnewK pa_nil))) (pg_tup rfl (pgs_cons (pg_name (i := 3) scDeed.nd rfl (.inr rfl)) (pgs_cons (pg_name (i := 4) scDeed.nd rfl (.inr rfl)) pgs_nil))))
      (pss_cons (ps_par (by rfl) scDeed.nd (i := 5) (j := 6) rfl rfl (by decide) rfl rfl (pa_cons (pe_fn OT hr (Nat.le_refl _) (by rfl) (e.g "_law_take") (pa_cons (pv 0) (pa_cons pe_int pa_nil))) (pa_cons (pe_fn OPk hr (Nat.le_refl _) (by rfl) (e.g "_law_pick") (pa_cons (pv 0) (pa_cons (pe_ix ix_tup (pv 2) pe_int (fun _ _ => rfl)) pa_nil))) pa_nil)) (by rfl))
      (pss_cons (ps_if (pt_cmpR op_eq (pv 5) pe_int (nomark _)) (pss_cons (ps_set (i := 7) scDeed.nd rfl (.inl rfl) (pe_fn OPk hr (Nat.le_refl _) (by rfl) (e.g "_law_pick") (pa_cons (pv 0) (pa_cons (pe_ix ix_tup (pv 2) pe_int (fun _ _ => rfl)) pa_nil))))
        (pss_cons (ps_par (by rfl) scDeed.nd (i := 8) (j := 9) rfl rfl (by decide) rfl rfl (pa_cons (pe_bm PySem.F.plainAttrs_list PySem.F.slot_list_index PySem.F.type_list_index mt_index (pv 3) (pa_cons (pv 6) pa_nil)) (pa_cons (pe_bm PySem.F.plainAttrs_list PySem.F.slot_list_index PySem.F.type_list_index mt_index (pv 3) (pa_cons (pv 7) pa_nil)) pa_nil)) (by rfl))
        (pss_cons (ps_asg (pe_tup (pa_cons (pv 7) (pa_cons (pv 6) pa_nil))) (pg_tup rfl (pgs_cons (pg_sub (pv 3) (pv 8) set_list) (pgs_cons (pg_sub (pv 3) (pv 9) set_list) pgs_nil))))
        (pss_cons (ps_expr (pe_mt (d := dChange) (pv 1) (e.cls "Square") (e.meth "Square" "change") OCh hr (Nat.le_refl _) (pa_cons (pv 6) (pa_cons (pv 7) pa_nil))))
        (pss_one (ps_ret (pe_tup (pa_cons (pe_callTy call_tuple_of (by rfl) (e.f "tuple") (by decide +kernel) (pa_cons (pv 3) pa_nil)) (pa_cons pe_int pa_nil))))))))) pss_nil)
      (pss_cons (ps_if (PW.pt (pw_and (pt_cmpR op_eq (pv 5) pe_int (nomark _)) (pw_and1 (pt_cmpR op_gt (pe_callB call_len_seq (by rfl) (e.f "len") PySem.boot_len (pa_cons (pv 3) pa_nil)) pe_int (nomark _))))) (pss_cons (ps_expr (pe_bm PySem.F.plainAttrs_list PySem.F.slot_list_remove PySem.F.type_list_remove mt_removeS (pv 3) (pa_cons (pv 6) pa_nil)))
        (pss_cons (ps_expr (pe_mt (d := dLeave) (pv 1) (e.cls "Square") (e.meth "Square" "leave") OLe hr (Nat.le_refl _) (pa_cons (pv 6) pa_nil)))
        (pss_one (ps_ret (pe_tup (pa_cons (pe_callTy call_tuple_of (by rfl) (e.f "tuple") (by decide +kernel) (pa_cons (pv 3) pa_nil)) (pa_cons pe_int pa_nil))))))) pss_nil)
      (pss_cons (ps_if (PW.pt (pw_and (pt_cmpR op_lt (pv 5) pe_int (nomark _)) (pw_and1 (pt_cmpR op_lt (pe_callB call_len_seq (by rfl) (e.f "len") PySem.boot_len (pa_cons (pv 3) pa_nil)) pe_int (nomark _))))) (pss_cons (ps_set (i := 8) scDeed.nd rfl (.inl rfl) (pe_fn OT hr (Nat.le_refl _) (by rfl) (e.g "_law_take") (pa_cons (pv 0) (pa_cons (pe_op op_add (pe_callB call_len_seq (by rfl) (e.f "len") PySem.boot_len (pa_cons (pv 3) pa_nil)) pe_int) pa_nil))))
        (pss_cons (ps_set (i := 10) scDeed.nd rfl (.inl rfl) (pe_ix ix_list (pe_lc (own := [("_law_name", 10)]) (g := gName 10) (by rfl) scDeed.nd (pi_list (pe_fn0 ON hr (Nat.le_refl _) (by rfl) (e.g "_law_many_names"))) (blkOk_by (N := ["_law_box_here", "_law_yard", "_law_page", "_law_here", "_law_some", "_law_way", "_law_one", "_law_mate", "_law_at", "_law_by", "_law_name", "_law_turn", "_law_cry"]) (sc := lDeed.scope) (by decide +kernel))
            (fun _ _ _ _ _ => pg_name (i := 10) scDeed.nd rfl (.inl rfl)) (fun _ _ _ _ _ => pts_one (pt_cmpR (r := rIn K true) op_notIn_seq (pv 10) (pv 3) (by rfl))) (fun _ _ _ _ _ => pv 10)) pe_int (fun _ _ => rfl)))
        (pss_cons (ps_expr (pe_mt (d := dCome) (pv 1) (e.cls "Square") (e.meth "Square" "come") OCo hr (Nat.le_refl _) (pa_cons (pv 10) (pa_cons (pv 8) pa_nil))))
        (pss_one (ps_ret (pe_tup (pa_cons (pe_callTy call_tuple_of (by rfl) (e.f "tuple") (by decide +kernel) (pa_cons (pe_op op_cat (pe_op op_cat (pe_slice sl_list (pv 3) po_none (po_some (pv 8))) (pe_lst (pa_cons (pv 10) pa_nil))) (pe_slice sl_list (pv 3) (po_some (pv 8)) po_none)) pa_nil)) (pa_cons pe_int pa_nil)))))))) pss_nil)
      (pss_cons (ps_for PassesOwn.never rfl (pi_range1 (by rfl) (e.f "range") (pa_cons (pe_fn OT hr (Nat.le_refl _) (by rfl) (e.g "_law_take") (pa_cons (pv 0) (pa_cons pe_int pa_nil))) pa_nil)) (pg_name (i := 11) scDeed.nd rfl (.inl rfl)) (pss_one (ps_dput (hu_of hr) (pv 4) (pe_fn OPk hr (Nat.le_refl _) (by rfl) (e.g "_law_pick") (pa_cons (pv 0) (pa_cons (pe_ix ix_tup (pv 2) pe_int (fun _ _ => rfl)) pa_nil))) (pe_fn OPk hr (Nat.le_refl _) (by rfl) (e.g "_law_pick") (pa_cons (pv 0) (pa_cons (pe_ix ix_tup (pv 2) pe_int (fun _ _ => rfl)) pa_nil))) rfl)))
      (pss_cons (ps_set (i := 12) scDeed.nd rfl (.inl rfl) (pe_callTy call_tupleZ (by rfl) (e.f "tuple") (by decide +kernel) (pa_cons (pe_lc (own := [("_law_name", 10)]) (g := gName 10) (by rfl) scDeed.nd (pi_list (pe_callB cr_sortedS (by rfl) (e.f "sorted") (by decide +kernel) (pa_cons (pv 3) pa_nil))) (blkOk_by (N := ["_law_box_here", "_law_yard", "_law_page", "_law_here", "_law_some", "_law_way", "_law_one", "_law_mate", "_law_at", "_law_by", "_law_name", "_law_turn", "_law_cry"]) (sc := lDeed.scope) (by decide +kernel))
          (fun _ _ _ _ _ => pg_name (i := 10) scDeed.nd rfl (.inl rfl)) (fun _ _ _ _ _ => pts_nil) (fun _ _ _ _ _ => pe_tup (pa_cons (pv 10) (pa_cons (pe_dget2 (hu_of hr) (pv 4) (pv 10) (pv 10) ⟨rfl, rfl, rfl, rfl⟩) pa_nil)))) pa_nil)))
      (pss_cons (ps_expr (pe_mt (d := dCall) (pv 1) (e.cls "Square") (e.meth "Square" "call") OCa hr (Nat.le_refl _) (pa_cons (pv 4) pa_nil)))
      (pss_one (ps_ret (pe_tup (pa_cons (pe_fn OLC hr (Nat.le_refl _) (by rfl) (e.g "_law_called") (pa_cons (pe_ix ix_tup (pv 2) pe_int (fun _ _ => rfl)) (pa_cons (pv 12) pa_nil))) (pa_cons (pe_op op_add (pe_ix ix_tup (pv 2) pe_int (fun _ _ => rfl)) pe_int) pa_nil)))))))))))), ?_⟩
    have hM := hb.odd
    have hM1 : ∀ c ∈ [b], ∃ xs, H c = some (.lst xs) ∧ Odd H xs := fun c hc => by
      rw [List.mem_singleton.mp hc]
      exact hM
    obtain ⟨bx, hbx, hbo⟩ := hM
    have nbp : b ≠ pl := yard_odd yd hbx hbo
    have hr64 : g.row.length < 64 := Nat.lt_of_le_of_lt ok.hi (by decide)
    have hr0 : 0 < g.row.length := Nat.lt_of_lt_of_le (by decide) ok.lo
    -- _law_here, _law_some
    refine ⟨.ref a, rfl, a, _, _, .ref ra, rfl, rfl, .inl (.inl hpg), atI_nat (xs := [V.ref ra, V.int ((g.cs.length : Nat) : Int)]) (j := 0) rfl, ra, _, rfl, .inr (.inl (.inl hra)), fun L nL => ?_⟩
    refine fun D nD => ⟨by show 2 ≤ sizeLine; decide, fun T nT => ?_⟩
    refine ⟨T, _, rfl, .inl (.inl upd_same), rfl, _, _, rfl, _, _, rfl, rfl, ?_⟩
    have s1 : Same H (upd H L (.lst (g.row.map V.str))) := same_upd nL
    have s2 : Same (upd H L (.lst (g.row.map V.str))) (upd (upd H L (.lst (g.row.map V.str))) D (.dK [])) := same_upd nD
    have s3 : Same (upd (upd H L (.lst (g.row.map V.str))) D (.dK [])) (upd (upd (upd H L (.lst (g.row.map V.str))) D (.dK [])) T (.tup [.ref L, .ref D])) := same_upd nT
    have hL3 := s3 _ _ (s2 _ _ (upd_same (H := H) (a := L) (o := .lst (g.row.map V.str))))
    have hD3 := s3 _ _ (upd_same (H := upd H L (.lst (g.row.map V.str))) (a := D) (o := .dK []))
    have s03 := (s1.trans s2).trans s3
    have nDH : H D = none := Same.none s1 nD
    generalize upd (upd (upd H L (.lst (g.row.map V.str))) D (.dK [])) T (.tup [.ref L, .ref D]) = H3 at s03 hL3 hD3 ⊢
    have nLb : L ≠ b := fun z => by
      rw [z, hbx] at nL
      cases nL
    have nLp : L ≠ pl := fun z => by
      rw [z, h2] at nL
      cases nL
    have mLb : L ∉ [b] := fun z => nLb (List.mem_singleton.mp z)
    -- _law_way, _law_one
    refine ⟨.ref b, rfl, b, n, 20, rfl, hb.same s03, by omega, by decide, by decide, fun H4 wy f4 hb4 hwy => ?_⟩
    have f04 : Fm K [b] H H4 := (Fm.of s03).trans f4
    refine ⟨.ref b, rfl, .ref a, rfl, a, _, _, .ref ra, rfl, rfl, .inl (.inl (f04.tup hpg)), atI_nat (xs := [V.ref ra, V.int ((g.cs.length : Nat) : Int)]) (j := 0) rfl, b, ra, n + 1, g.row, rfl, hb4, by omega, f04.tup hra, hr0, hr64, fun H5 one f5 hb5 hone => ?_⟩
    refine ⟨_, _, rfl, ?_⟩
    have f05 : Fm K [b] H H5 := f04.trans f5
    have hL5 := f5.lst (f4.lst hL3 mLb) mLb
    have hD5 := f5.dk (f4.dk hD3)
    -- the end of each way
    have fin : ∀ (H9 H10 : Hp) (g' : Pg) (m' : Nat) (r R : Addr) (x : Int), x = ((g'.cs.length : Nat) : Int) → Fm K [b, pl] H H9 → BoxAt H9 b m' → m' ≤ n + 100 → Yard K H9 s pl (pgs ++ [g] ++ [g']) → PgOk (m + 1) g' → Same H9 H10 → RowAt H10 r g'.row → H10 R = none → Q (.ref R) (upd H10 R (.tup [.ref r, .int x])) := fun H9 H10 g' m' r R x hx f9 hb9 hm9 y9 o9 s10 hr10 nR => by
      have s11 : Same H10 (upd H10 R (.tup [.ref r, .int x])) := same_upd nR
      have s9 := s10.trans s11
      exact q _ R g' (f9.trans (.of s9)) ((hb9.same s9).mono hm9) (y9.same s9) ⟨r, by rw [← hx]; exact upd_same, s11 _ _ hr10⟩ o9
    refine ⟨_, rfl, rfl, _, rfl, ?_⟩
    by_cases hw0 : wy = 0
    · -- a change
      subst hw0
      rw [decide_eq_true (show V.int ((0 : Nat) : Int) = V.int 0 from rfl)]
      refine iteT ?_
      refine ⟨.ref b, rfl, .ref a, rfl, a, _, _, .ref ra, rfl, rfl, .inl (.inl (f05.tup hpg)), atI_nat (xs := [V.ref ra, V.int ((g.cs.length : Nat) : Int)]) (j := 0) rfl, b, ra, n + 1 + 1, g.row, rfl, hb5, by omega, f05.tup hra, hr0, hr64, fun H6 mate f6 hb6 hmate => ?_⟩
      have f06 : Fm K [b] H H6 := f05.trans f6
      have hL6 := f6.lst hL5 mLb
      refine ⟨.ref L, rfl, .inl ⟨rfl, _, .inl (.inl hL6)⟩, .str one, rfl, L, g.row.map V.str, .str one, pos g.row one, .str one, rfl, rfl, .inl (.inl hL6), rfl, flat_strs g.row, idxG hone, idxE, idxF ok.nd, ?_⟩
      refine ⟨.ref L, rfl, .inl ⟨rfl, _, .inl (.inl hL6)⟩, .str mate, rfl, L, g.row.map V.str, .str mate, pos g.row mate, .str mate, rfl, rfl, .inl (.inl hL6), rfl, flat_strs g.row, idxG hmate, idxE, idxF ok.nd, ?_⟩
      refine ⟨_, _, rfl, ?_⟩
      refine ⟨.str mate, rfl, .str one, rfl, by show 2 ≤ sizeLine; decide, fun T2 nT2 => ?_⟩
      refine ⟨T2, _, rfl, .inl (.inl upd_same), rfl, ?_⟩
      have s7 : Same H6 (upd H6 T2 (.tup [.str mate, .str one])) := same_upd nT2
      have hL7 := s7 _ _ hL6
      have f07 : Fm K [b] H (upd H6 T2 (.tup [.str mate, .str one])) := f06.trans (.of s7)
      have hb7 := hb6.same s7
      generalize upd H6 T2 (.tup [.str mate, .str one]) = H7 at s7 hL7 f07 hb7 ⊢
      refine ⟨_, _, rfl, .ref L, rfl, _, rfl, L, _, _, pos g.row one, rfl, rfl, hL7, ixN_nat (by rw [List.length_map]; exact pos_lt hone), ?_⟩
      refine ⟨_, _, rfl, .ref L, rfl, _, rfl, L, _, _, pos g.row mate, rfl, rfl, upd_same, ixN_nat (by rw [List.length_set, List.length_map]; exact pos_lt hmate), rfl, ?_⟩
      have f08 : Fm K [b] H (upd (upd H7 L (.lst ((g.row.map V.str).set (pos g.row one) (.str mate)))) L (.lst (((g.row.map V.str).set (pos g.row one) (.str mate)).set (pos g.row mate) (.str one)))) :=
        (f07.chg nL hL7 (fun _ z => by cases z) fun _ z => by cases z).chg nL upd_same (fun _ z => by cases z) fun _ z => by cases z
      have hL8 : upd (upd H7 L (.lst ((g.row.map V.str).set (pos g.row one) (.str mate)))) L (.lst (((g.row.map V.str).set (pos g.row one) (.str mate)).set (pos g.row mate) (.str one))) L = some (.lst ((swapR g.row one mate).map V.str)) := by
        rw [upd_same]
        unfold swapR
        rw [List.map_set, List.map_set]
      have hb8 : BoxAt (upd (upd H7 L (.lst ((g.row.map V.str).set (pos g.row one) (.str mate)))) L (.lst (((g.row.map V.str).set (pos g.row one) (.str mate)).set (pos g.row mate) (.str one)))) b (n + 1 + 1 + 1) := by
        obtain ⟨b0, b1, b2, e0, e1⟩ := hb7
        exact ⟨b0, b1, b2, by rw [upd_ne nLb.symm, upd_ne nLb.symm]; exact e0, e1⟩
      generalize upd (upd H7 L (.lst ((g.row.map V.str).set (pos g.row one) (.str mate)))) L (.lst (((g.row.map V.str).set (pos g.row one) (.str mate)).set (pos g.row mate) (.str one))) = H8 at f08 hL8 hb8 ⊢
      refine ⟨.ref s, rfl, s, dx, _, rfl, f08.ins h1, rfl, .str one, rfl, .str mate, rfl, ?_⟩
      refine ⟨s, pl, pgs, g, one, mate, rfl, yd.fm f08 hM1, ok.nd, hr64, hone, hmate, by omega, fun H9 f9 y9 => ?_⟩
      refine ⟨.ref L, rfl, L, _, rfl, .inl ⟨.inl (.inl (f9.lst hL8 fun z => nLp (List.mem_singleton.mp z))), fun r nr => ?_⟩⟩
      refine ⟨by show 2 ≤ sizeLine; decide, fun R nR => ?_⟩
      exact fin H9 _ ⟨swapR g.row one mate, swapR g.row one mate, []⟩ (n + 1 + 1 + 1) r R 0 rfl ((f08.mono (by simp)).trans (f9.mono (by simp))) (hb8.fm f9 fun z => nbp (List.mem_singleton.mp z)) (by omega) y9
        (.fresh (swapR_nodup ok.nd hone hmate) (fun x hx => ok.sub x (swapR_mem ok.nd hone hmate hx)) (by rw [swapR_len]; exact ok.lo) (by rw [swapR_len]; exact ok.hi)) (same_upd nr) upd_same nR
    rw [decide_eq_false (fun z : V.int ((wy : Nat) : Int) = V.int 0 => hw0 (by
      injection z with z
      omega))]
    refine iteF (nxt ?_)
    dsimp only
    -- one who leaves
    refine if_det (decide (V.int ((wy : Nat) : Int) = V.int 1)) (decide ((23 : Int) < (((g.row.map V.str).length : Nat) : Int))) (fun Qt h => ⟨_, rfl, rfl, _, rfl, h⟩) (fun Qu h => ⟨.ref L, rfl, L, _, rfl, .inl (.inl (.inl hL5)), _, _, rfl, rfl, _, rfl, h⟩) ?_
    have e1 : decide (V.int ((wy : Nat) : Int) = V.int 1) = decide (wy = 1) := decide_eq_decide.mpr ⟨fun z => by
      injection z with z
      omega, fun z => by rw [z]; rfl⟩
    have e2 : decide ((23 : Int) < (((g.row.map V.str).length : Nat) : Int)) = decide (23 < g.row.length) := decide_eq_decide.mpr (by rw [List.length_map]; omega)
    rw [e1, e2]
    by_cases hB : wy = 1 ∧ 23 < g.row.length
    · rw [decide_eq_true hB.1, decide_eq_true hB.2]
      refine iteT ?_
      refine ⟨.ref L, rfl, .inl ⟨rfl, _, .inl (.inl hL5)⟩, .str one, rfl, L, g.row, one, pos g.row one, rfl, rfl, hL5, get_pos hone, firstS ok.nd, ?_⟩
      have f06 : Fm K [b] H (upd H5 L (.lst ((g.row.eraseIdx (pos g.row one)).map V.str))) := f05.chg nL hL5 (fun _ z => by cases z) fun _ z => by cases z
      have hL6 : upd H5 L (.lst ((g.row.eraseIdx (pos g.row one)).map V.str)) L = some (.lst ((dropR g.row one).map V.str)) := by rw [upd_same, dropR_erase]
      have hb6 : BoxAt (upd H5 L (.lst ((g.row.eraseIdx (pos g.row one)).map V.str))) b (n + 1 + 1) := by
        obtain ⟨b0, b1, b2, e0, e1⟩ := hb5
        exact ⟨b0, b1, b2, by rw [upd_ne nLb.symm]; exact e0, e1⟩
      generalize upd H5 L (.lst ((g.row.eraseIdx (pos g.row one)).map V.str)) = H6 at f06 hL6 hb6 ⊢
      refine ⟨.ref s, rfl, s, dx, _, rfl, f06.ins h1, rfl, .str one, rfl, ?_⟩
      refine ⟨s, pl, pgs, g, one, rfl, yd.fm f06 hM1, ok.nd, hr64, by omega, hone, by omega, fun H9 v9 f9 y9 => ?_⟩
      refine ⟨.ref L, rfl, L, _, rfl, .inl ⟨.inl (.inl (f9.lst hL6 fun z => nLp (List.mem_singleton.mp z))), fun r nr => ?_⟩⟩
      refine ⟨by show 2 ≤ sizeLine; decide, fun R nR => ?_⟩
      have hdl := dropR_len hone
      exact fin H9 _ ⟨dropR g.row one, dropR g.row one, []⟩ (n + 1 + 1) r R 0 rfl ((f06.mono (by simp)).trans (f9.mono (by simp))) (hb6.fm f9 fun z => nbp (List.mem_singleton.mp z)) (by omega) y9
        (.fresh (dropR_sub.nodup ok.nd) (fun x hx => ok.sub x (dropR_sub.mem hx)) (by omega) (by have := ok.hi; omega)) (same_upd nr) upd_same nR
    have e3 : (decide (wy = 1) && decide (23 < g.row.length)) = false := by
      cases h1 : decide (wy = 1) with
      | false => rfl
      | true =>
        cases h2 : decide (23 < g.row.length) with
        | false => rfl
        | true => exact absurd ⟨of_decide_eq_true h1, of_decide_eq_true h2⟩ hB
    rw [e3]
    refine iteF (nxt ?_)
    dsimp only
    -- one who comes
    refine if_det (decide (((wy : Nat) : Int) < 4)) (decide ((((g.row.map V.str).length : Nat) : Int) < 24)) (fun Qt h => ⟨_, rfl, _, _, rfl, rfl, _, rfl, h⟩) (fun Qu h => ⟨.ref L, rfl, L, _, rfl, .inl (.inl (.inl hL5)), _, _, rfl, rfl, _, rfl, h⟩) ?_
    have e5 : decide ((((g.row.map V.str).length : Nat) : Int) < 24) = decide (g.row.length < 24) := decide_eq_decide.mpr (by rw [List.length_map]; omega)
    rw [e5]
    by_cases hC : ((wy : Nat) : Int) < 4 ∧ g.row.length < 24
    · rw [decide_eq_true hC.1, decide_eq_true hC.2]
      refine iteT ?_
      refine ⟨.ref b, rfl, .ref L, rfl, L, _, rfl, .inl (.inl (.inl hL5)), _, _, rfl, rfl, b, n + 1 + 1, g.row.length + 1, by rw [List.length_map]; rfl, hb5, by omega, by omega, by omega, fun H6 i f6 hb6 hi => ?_⟩
      have f06 : Fm K [b] H H6 := f05.trans f6
      have hL6 := f6.lst hL5 mLb
      refine ⟨rfl, fun H7 ra7 s7 nr7 hr7 => ?_⟩
      have hL7 := s7 _ _ hL6
      refine ⟨ra7, rfl, ⟨_, .inl (.inl hr7)⟩, fun D2 nD2 => ?_⟩
      refine lc_any (walk_list (xs := NAMES.map V.str)) (fun j H' => Same H7 H' ∧ H' D2 = some (.lst (((NAMES.take j).filter fun x => decide (x ∉ g.row)).map V.str))) ⟨same_upd nD2, upd_same⟩
        (fun j H' _ hW => .inl (.inl (hW.1 _ _ hr7))) (fun j v Ha Hb hj ⟨sj, hDj⟩ hy => ?_) (fun H8 ⟨s8, hD8⟩ => ?_)
      · obtain ⟨rfl, hv⟩ := hy
        obtain ⟨y, hy, rfl⟩ := get_map hv
        refine ⟨rfl, .str y, rfl, .ref L, rfl, L, _, rfl, .inl (.inl (.inl (sj _ _ hL7))), rfl, flat_strs g.row, _, rfl, ?_⟩
        rw [in_strs]
        by_cases hym : y ∈ g.row
        · rw [decide_eq_true hym]
          refine iteF ⟨sj, ?_⟩
          rw [hDj, take_snoc hy, List.filter_append]
          simp [hym]
        · rw [decide_eq_false hym]
          refine iteT ⟨_, rfl, _, hDj, ?_, same_chg sj nD2, ?_⟩
          · rw [List.length_map]
            refine lt_line (Nat.lt_of_le_of_lt (List.length_filter_le _ _) (Nat.lt_of_le_of_lt (List.length_take_le _ _) ?_))
            rw [List.length_map, NAMES_len] at hj
            omega
          · rw [upd_same, take_snoc hy, List.filter_append, List.map_append]
            simp [hym]
      rw [List.length_map, List.take_length] at hD8
      obtain ⟨y0, fl, hfl⟩ : ∃ y0 fl, (NAMES.filter fun x => decide (x ∉ g.row)) = y0 :: fl := by
        cases hq : NAMES.filter fun x => decide (x ∉ g.row) with
        | nil => exact absurd hq (name_free hC.2)
        | cons y0 fl => exact ⟨y0, fl, rfl⟩
      have hy0 := List.mem_filter.mp (show y0 ∈ NAMES.filter fun x => decide (x ∉ g.row) by rw [hfl]; exact List.mem_cons_self ..)
      have hy0n : y0 ∉ g.row := of_decide_eq_true hy0.2
      rw [hfl] at hD8
      have hL8 := s8 _ _ hL7
      have f08 : Fm K [b] H H8 := f06.trans (.of (s7.trans s8))
      have hb8 := hb6.same (s7.trans s8)
      refine ⟨D2, _, _, .str y0, rfl, rfl, .inl (.inl hD8), atI_nat (j := 0) rfl, ?_⟩
      refine ⟨.ref s, rfl, s, dx, _, rfl, f08.ins h1, rfl, .str y0, rfl, _, rfl, ?_⟩
      refine ⟨s, pl, pgs, g, y0, i, rfl, yd.fm f08 hM1, by omega, hy0n, by omega, by omega, fun H9 f9 y9 => ?_⟩
      have hL9 := f9.lst hL8 fun z => nLp (List.mem_singleton.mp z)
      have f09 : Fm K [b, pl] H H9 := (f08.mono (by simp)).trans (f9.mono (by simp))
      have hb9 := hb8.fm f9 fun z => nbp (List.mem_singleton.mp z)
      -- the law's own row
      refine ⟨.ref L, rfl, _, rfl, _, rfl, L, _, rfl, .inl (.inl hL9), fun p1 np1 => ?_⟩
      have t1 : Same H9 (upd H9 p1 (.lst (cutV (g.row.map V.str) none (some ((i : Nat) : Int))))) := same_upd np1
      have hp1 : upd H9 p1 (.lst (cutV (g.row.map V.str) none (some ((i : Nat) : Int)))) p1 = some (.lst ((g.row.take i).map V.str)) := by rw [upd_same, cut_take, List.map_take]
      have hL10 := t1 _ _ hL9
      generalize upd H9 p1 (.lst (cutV (g.row.map V.str) none (some ((i : Nat) : Int)))) = H10 at t1 hp1 hL10 ⊢
      refine ⟨.str y0, rfl, by show 1 ≤ sizeLine; decide, fun l1 nl1 => ?_⟩
      have t2 : Same H10 (upd H10 l1 (.lst [.str y0])) := same_upd nl1
      have hl11 : upd H10 l1 (.lst [.str y0]) l1 = some (.lst [.str y0]) := upd_same
      have hp11 := t2 _ _ hp1
      have hL11 := t2 _ _ hL10
      generalize upd H10 l1 (.lst [.str y0]) = H11 at t2 hl11 hp11 hL11 ⊢
      refine ⟨p1, l1, _, _, rfl, rfl, hp11, hl11, ?_, fun c1 nc1 => ?_⟩
      · rw [List.length_map, List.length_take]
        exact sl24 (by show min _ _ + 1 < 64; omega)
      have t3 : Same H11 (upd H11 c1 (.lst ((g.row.take i).map V.str ++ [.str y0]))) := same_upd nc1
      have hc12 : upd H11 c1 (.lst ((g.row.take i).map V.str ++ [.str y0])) c1 = some (.lst ((g.row.take i).map V.str ++ [.str y0])) := upd_same
      have hL12 := t3 _ _ hL11
      generalize upd H11 c1 (.lst ((g.row.take i).map V.str ++ [.str y0])) = H12 at t3 hc12 hL12 ⊢
      refine ⟨.ref L, rfl, _, rfl, _, rfl, ?_⟩
      dsimp only [tNoPart]
      refine ⟨L, _, rfl, .inl (.inl hL12), fun p2 np2 => ?_⟩
      have t4 : Same H12 (upd H12 p2 (.lst (cutV (g.row.map V.str) (some ((i : Nat) : Int)) none))) := same_upd np2
      have hp13 : upd H12 p2 (.lst (cutV (g.row.map V.str) (some ((i : Nat) : Int)) none)) p2 = some (.lst ((g.row.drop i).map V.str)) := by rw [upd_same, cut_drop, List.map_drop]
      have hc13 := t4 _ _ hc12
      generalize upd H12 p2 (.lst (cutV (g.row.map V.str) (some ((i : Nat) : Int)) none)) = H13 at t4 hp13 hc13 ⊢
      refine ⟨c1, p2, _, _, rfl, rfl, hc13, hp13, ?_, fun c2 nc2 => ?_⟩
      · rw [List.length_append, List.length_map, List.length_map, List.length_take, List.length_drop]
        exact sl24 (by show min _ _ + 1 + _ < 64; omega)
      have e6 : (g.row.take i).map V.str ++ [.str y0] ++ (g.row.drop i).map V.str = (addR g.row i y0).map V.str := by
        unfold addR
        rw [List.map_append, List.map_cons, List.append_assoc]
        rfl
      rw [e6]
      have t5 : Same H13 (upd H13 c2 (.lst ((addR g.row i y0).map V.str))) := same_upd nc2
      refine ⟨c2, _, rfl, .inl ⟨.inl (.inl upd_same), fun r nr => ?_⟩⟩
      refine ⟨by show 2 ≤ sizeLine; decide, fun R nR => ?_⟩
      have hpm := addR_perm (row := g.row) (i := i) (a := y0)
      exact fin H9 _ ⟨addR g.row i y0, addR g.row i y0, []⟩ (n + 1 + 1 + 1) r R 0 rfl f09 hb9 (by omega) y9
        (.fresh (hpm.nodup_iff.mpr (List.nodup_cons.mpr ⟨hy0n, ok.nd⟩)) (fun x hx => by
          rcases List.mem_cons.mp (hpm.mem_iff.mp hx) with z | z
          · rw [z]; exact hy0.1
          · exact ok.sub x z) (by rw [addR_len]; have := ok.lo; omega) (by rw [addR_len]; omega)) (((((t1.trans t2).trans t3).trans t4).trans t5).trans (same_upd nr)) upd_same nR
    have e7 : (decide (((wy : Nat) : Int) < 4) && decide (g.row.length < 24)) = false := by
      cases h1 : decide (((wy : Nat) : Int) < 4) with
      | false => rfl
      | true =>
        cases h2 : decide (g.row.length < 24) with
        | false => rfl
        | true => exact absurd ⟨of_decide_eq_true h1, of_decide_eq_true h2⟩ hC
    rw [e7]
    refine iteF (nxt ?_)
    dsimp only
    -- a call
    refine ⟨.ref b, rfl, b, n + 1 + 1, 30, rfl, hb5, by omega, by decide, by decide, fun H6 tn f6 hb6 htn => ?_⟩
    have f06 : Fm K [b] H H6 := f05.trans f6
    refine ⟨_, rfl, by omega, by omega, ?_⟩
    refine for_range (lo := 0) (n := tn) (fun i σ H' => ∃ (y : Option V) (t : List (Str × Str)), σ = [some (.ref b), some (.ref s), some (.ref a), some (.ref L), some (.ref D), some (.int ((wy : Nat) : Int)), some (.str one), none, none, none, none, y, none] ∧ Fm K [b] H H' ∧
        BoxAt H' b (n + 1 + 1 + 1 + 2 * i) ∧ H' L = some (.lst (g.row.map V.str)) ∧ H' D = some (.dK (tellD t)) ∧ (t.map (·.1)).Nodup ∧ (∀ p ∈ t, p.1 ∈ g.row ∧ p.2 ∈ g.row) ∧ t.length ≤ i)
      ⟨none, [], rfl, f06, hb6, f6.lst hL5 mLb, f6.dk hD5, .nil, by simp, Nat.zero_le _⟩ (fun i σ H7 hi ⟨y, t, e1, f, hb7, hL7, hD7, htn7, htm7, htl⟩ => ?_) (fun σ H7 ⟨y, t, e1, f, hb7, hL7, hD7, htn7, htm7, htl⟩ => ?_)
    · subst e1
      refine ⟨.ref b, rfl, .ref a, rfl, a, _, _, .ref ra, rfl, rfl, .inl (.inl (f.tup hpg)), atI_nat (xs := [V.ref ra, V.int ((g.cs.length : Nat) : Int)]) (j := 0) rfl, b, ra, _, g.row, rfl, hb7, by omega, f.tup hra, hr0, hr64, fun H8 x f8 hb8 hx => ?_⟩
      have g8 : Fm K [b] H H8 := f.trans f8
      refine ⟨.ref D, rfl, ?_⟩
      refine ⟨.ref b, rfl, .ref a, rfl, a, _, _, .ref ra, rfl, rfl, .inl (.inl (g8.tup hpg)), atI_nat (xs := [V.ref ra, V.int ((g.cs.length : Nat) : Int)]) (j := 0) rfl, b, ra, _, g.row, rfl, hb8, by omega, g8.tup hra, hr0, hr64, fun H9 z f9 hb9 hz => ?_⟩
      have g9 : Fm K [b] H H9 := g8.trans f9
      have hD9 := f9.dk (f8.dk hD7)
      have hL9 := f9.lst (f8.lst hL7 mLb) mLb
      obtain ⟨t', p1, p2, p3, p4⟩ := put_tell htn7 htm7 hz hx
      refine ⟨D, _, rfl, DPut.k (k := Sum.inr z) hD9 (by unfold tellD; rw [List.length_map]; exact lt_line (by omega)), _, t', rfl, g9.chg nDH hD9 (fun _ z => by cases z) (fun _ z => by cases z), ?_, ?_, ?_, p2, p3, by omega⟩
      · obtain ⟨b0, b1, b2, q0, q1, q2, q3, q4, q5⟩ := hb9
        refine ⟨b0, b1, b2, ?_, q1, q2, q3, q4, by omega⟩
        rw [upd_ne (ne_of q0 hD9 fun z => by cases z)]
        exact q0
      · rw [upd_ne (ne_of hL9 hD9 fun z => by cases z)]
        exact hL9
      · rw [upd_same, p1]
    subst e1
    have htz : t.length < 64 := by omega
    refine ⟨.ref L, rfl, L, g.row, rfl, .inl (.inl hL7), hr64, fun ys q0 hpy hsy nq => ?_⟩
    have t1 : Same H7 (upd H7 q0 (.lst (ys.map V.str))) := same_upd nq
    have hq0 : upd H7 q0 (.lst (ys.map V.str)) q0 = some (.lst (ys.map V.str)) := upd_same
    have hD8 := t1 _ _ hD7
    generalize upd H7 q0 (.lst (ys.map V.str)) = H8 at t1 hq0 hD8 ⊢
    have hyz : ys.length < 64 := by rw [hpy.length_eq]; exact hr64
    refine ⟨q0, rfl, ⟨_, .inl (.inl hq0)⟩, fun D2 nD2 => ?_⟩
    refine lc_any (walk_list (xs := ys.map V.str)) (fun i H' => Same H8 H' ∧ ∃ ts : List Addr, H' D2 = some (.lst (ts.map V.ref)) ∧ Paired (fun p a => PrAt H' a p) ((callC ys t).take i) ts) ⟨same_upd nD2, [], upd_same, .nil⟩
      (fun i H' _ hW => .inl (.inl (hW.1 _ _ hq0))) (fun i v Ha Hb hi ⟨sm, ts, hDt, hts⟩ hy => ?_) (fun H9 ⟨sm, ts, hDt, hts⟩ => ?_)
    · obtain ⟨rfl, hv⟩ := hy
      obtain ⟨x, hx, rfl⟩ := get_map hv
      have hti : ts.length ≤ i := by
        rw [← paired_len hts, List.length_take]
        omega
      have hi : i < ys.length := (List.getElem?_eq_some_iff.mp hx).1
      have hc : (callC ys t)[i]? = some (x, tell t x) := by
        unfold callC
        rw [List.getElem?_map, hx]
        rfl
      refine ⟨rfl, yes ⟨_, rfl, .ref D, rfl, D, rfl, .inl ⟨_, .of (sm _ _ hD8)⟩, _, rfl, _, rfl, _, DGet.k (k := Sum.inr x) (sm _ _ hD8), ?_⟩⟩
      have ev : (valV (tellD t) (Sum.inr x)).getD (.str x) = .str (tell t x) := by
        rw [tellD_get]
        unfold tell
        cases t.lookup x <;> rfl
      rw [ev]
      refine ⟨by show 2 ≤ sizeLine; decide, fun Z nZ => ?_⟩
      have sZ : Same Hb (upd Hb Z (.tup [.str x, .str (tell t x)])) := same_upd nZ
      refine ⟨_, sZ _ _ hDt, by rw [List.length_map]; exact lt_line (by omega), same_chg (sm.trans sZ) nD2, ts ++ [Z], ?_, ?_⟩
      · rw [upd_same, List.map_append]
        rfl
      · have nZD : Z ≠ D2 := fun e => by
          rw [e] at nZ
          rw [hDt] at nZ
          cases nZ
        rw [take_snoc hc]
        refine prd_snoc ?_ (L2.Paired.mapP hts fun p b h => tup_put (sZ _ _ h) (sZ _ _ hDt))
        show upd _ D2 _ Z = _
        rw [upd_ne nZD, upd_same]
    have e8 : (callC ys t).take (ys.map V.str).length = callC ys t := by
      rw [List.take_of_length_le]
      unfold callC
      rw [List.length_map, List.length_map]
      exact Nat.le_refl _
    rw [e8] at hts
    have s79 : Same H7 H9 := t1.trans sm
    refine ⟨D2, _, rfl, .inl (.inl hDt), fun cr o ho ncr => ?_⟩
    have s10 : Same H9 (upd H9 cr (.frz o (.tup (ts.map V.ref)))) := same_upd ncr
    have hcry : CryAt (upd H9 cr (.frz o (.tup (ts.map V.ref)))) cr (callC ys t) := ⟨o, ts, upd_same, ho, L2.Paired.mapP hts fun p a z => s10 _ _ z⟩
    have f10 : Fm K [b] H (upd H9 cr (.frz o (.tup (ts.map V.ref)))) := f.trans (.of (s79.trans s10))
    have hb10 := hb7.same (s79.trans s10)
    have hD10 := s10 _ _ (s79 _ _ hD7)
    generalize upd H9 cr (.frz o (.tup (ts.map V.ref))) = H10 at s10 hcry f10 hb10 hD10 ⊢
    have hcl := ok.ln
    refine ⟨.ref s, rfl, s, dx, _, rfl, f10.ins h1, rfl, .ref D, rfl, ?_⟩
    refine ⟨s, pl, D, pgs, g, t, rfl, yd.fm f10 hM1, ok.nd, hr64, ok.sok, hD10, htn7, htz, htm7, by omega, by omega, f10.2 hT, fun H11 v11 ys2 f11 hp2 hs2 y11 => ?_⟩
    obtain rfl : ys2 = ys := sorted_uniq hs2 hsy (hp2.trans hpy.symm)
    have f011 : Fm K [b, pl] H H11 := (f10.mono (by simp)).trans (f11.mono (by simp))
    have hco := callC_ok ok.nd hpy htm7
    refine ⟨.ref a, rfl, a, _, _, .ref ra, rfl, rfl, .inl (.inl (f011.tup hpg)), atI_nat (xs := [V.ref ra, V.int ((g.cs.length : Nat) : Int)]) (j := 0) rfl, .ref cr, rfl, ?_⟩
    refine ⟨ra, cr, g.row, callC ys2 t, rfl, f011.tup hra, hr64, hcry.fm f11, hco, fun H12 r s12 hr12 => ?_⟩
    have f012 : Fm K [b, pl] H H12 := f011.trans (.of s12)
    refine ⟨.ref a, rfl, a, _, _, .int ((g.cs.length : Nat) : Int), rfl, rfl, .inl (.inl (f012.tup hpg)), atI_nat (xs := [V.ref ra, V.int ((g.cs.length : Nat) : Int)]) (j := 1) rfl, _, _, rfl, rfl, by show 2 ≤ sizeLine; decide, fun R nR => ?_⟩
    have hcp := callF_perm ok.nd (fun x hx => hco.tell hx)
    refine fin H11 H12 ⟨callF (tell (callC ys2 t)) g.row, g.beg, g.cs ++ [callC ys2 t]⟩ (n + 1 + 1 + 1 + 2 * tn) r R (((g.cs.length : Nat) : Int) + 1) ?_ f011 (hb10.fm f11 fun z => nbp (List.mem_singleton.mp z)) (by omega) y11 ?_ s12 hr12 nR
    · show ((g.cs.length : Nat) : Int) + 1 = (((g.cs ++ [callC ys2 t]).length : Nat) : Int)
      rw [List.length_append]
      rfl
    · refine ⟨callF_nodup ok.nd, fun x hx => ok.sub x (hcp.mem_iff.mp hx), by show 23 ≤ (callF _ _).length; rw [hcp.length_eq]; exact ok.lo, by show (callF _ _).length ≤ 24; rw [hcp.length_eq]; exact ok.hi, hcp.trans ok.pb, ?_, fun c hc => ?_, ?_⟩
      · show callF _ g.row = wordC (g.cs ++ [callC ys2 t]) g.beg
        rw [wordC_snoc, ← ok.wd]
      · rcases List.mem_append.mp hc with z | z
        · exact (ok.ok c z).perm hcp.symm
        · rw [List.mem_singleton.mp z]
          exact hco.perm hcp.symm
      · show (g.cs ++ [callC ys2 t]).length ≤ m + 1
        rw [List.length_append]
        show g.cs.length + 1 ≤ m + 1
        omega
end
end Sb
/-! _law_right. -/
namespace Sb
open PySem PySem.Spec PyProof.Rows L2 LamX NdefX RZ
theorem lp_odd {H : Hp} : ∀ {gs : List Pg} {las : List Addr}, Paired (fun g a => LPg H a g) gs las → gs ≠ [] → Odd H (las.map V.ref)
  | [], _, _, h => absurd rfl h
  | _ :: _, _, .cons ⟨ra, h1, _⟩ _, _ => ⟨_, _, rfl, .inr ⟨_, ra, _, rfl, h1⟩⟩
theorem sca_strs {H : Hp} {n : Nat} : ∀ xs : List Str, Paired (SameAt n H) (xs.map V.str) (xs.map V.str)
  | [] => .nil
  | x :: xs => .cons (by cases n with
    | zero => exact .inr ⟨x, rfl, rfl⟩
    | succ n => exact .inl (.inr ⟨x, rfl, rfl⟩)) (sca_strs xs)
theorem rev_at {las : List Addr} {j : Nat} {v : V} (h : (las.map V.ref).reverse[j]? = some v) : ∃ a, j < las.length ∧ las[las.length - 1 - j]? = some a ∧ v = .ref a := by
  have hj := (List.getElem?_eq_some_iff.mp h).1
  rw [List.length_reverse, List.length_map] at hj
  rw [List.getElem?_reverse (by rw [List.length_map]; exact hj), List.length_map] at h
  obtain ⟨a, ha, e⟩ := get_map h
  exact ⟨a, hj, ha, e⟩
/-- all that stands while the law walks: the box, the yard, the law's own pages -/
structure St (K : PySem.W.Frag) (H : Hp) (b s pl LP n : Nat) (gs : List Pg) : Prop where
  box : BoxAt H b n
  yd : Yard K H s pl gs
  lp : ∃ las : List Addr, H LP = some (.lst (las.map V.ref)) ∧ Paired (fun g a => LPg H a g) gs las
  ok : ∀ i g, gs[i]? = some g → PgOk i g
  tabs : Tabs (tabsOf K) H
section
variable {K : PySem.W.Frag} {H H' : Hp} {b s pl LP n : Nat} {gs : List Pg}
theorem St.ne (t : St K H b s pl LP n gs) : gs ≠ [] := by
  obtain ⟨_, _, _, _, _, _, _, h⟩ := t.yd
  exact h
theorem St.odd (t : St K H b s pl LP n gs) : ∃ xs, H LP = some (.lst xs) ∧ Odd H xs := by
  obtain ⟨las, h1, h2⟩ := t.lp
  exact ⟨_, h1, lp_odd h2 t.ne⟩
theorem St.nlp (t : St K H b s pl LP n gs) : LP ≠ pl := by
  obtain ⟨xs, h1, h2⟩ := t.odd
  exact yard_odd t.yd h1 h2
theorem St.nbp (t : St K H b s pl LP n gs) : b ≠ pl := by
  obtain ⟨xs, h1, h2⟩ := t.box.odd
  exact yard_odd t.yd h1 h2
theorem St.nlb (t : St K H b s pl LP n gs) : LP ≠ b := fun z => by
  obtain ⟨las, h1, h2⟩ := t.lp
  obtain ⟨b0, b1, b2, h3, _⟩ := t.box
  rw [z, h3] at h1
  injection h1 with h1
  injection h1 with h1
  match las, h1 with
  | [], h1 => simp at h1
  | _ :: _, h1 => simp at h1
theorem St.fm (t : St K H b s pl LP n gs) (f : Fm K [] H H') : St K H' b s pl LP n gs := by
  obtain ⟨las, h1, h2⟩ := t.lp
  exact ⟨t.box.fm f (by simp), t.yd.fm f (by simp), ⟨las, f.lst h1 (by simp), L2.Paired.mapP h2 fun g a z => z.fm f⟩, t.ok, f.2 t.tabs⟩
theorem St.same (t : St K H b s pl LP n gs) (x : Same H H') : St K H' b s pl LP n gs := t.fm (.of x)
theorem St.take {n' : Nat} (t : St K H b s pl LP n gs) (f : Fm K [b] H H') (hb : BoxAt H' b n') : St K H' b s pl LP n' gs := by
  obtain ⟨las, h1, h2⟩ := t.lp
  refine ⟨hb, t.yd.fm f fun c hc => ?_, ⟨las, f.lst h1 (fun z => t.nlb (List.mem_singleton.mp z)), L2.Paired.mapP h2 fun g a z => z.fm f⟩, t.ok, f.2 t.tabs⟩
  rw [List.mem_singleton.mp hc]
  exact t.box.odd
end
section
variable {P : Program} {w : World} {K : PySem.W.Frag} {mg : Str → Option Value} {base : Heap}
theorem scRight : FnScope ["_law_box_here", "_law_yard", "_law_pages", "_law_turn", "_law_word", "_law_start_row", "_law_many", "_law_elder", "_law_page"] ["_law_box_here"] lRight.scope := ⟨rfl, rfl, rfl, by decide +kernel, rfl, by decide +kernel, by decide +kernel⟩
def spRight (K : PySem.W.Frag) : Sp := fun vs H Q _ => ∃ (b : Nat), vs = [.ref b] ∧ BoxAt H b 0 ∧ Tabs (tabsOf K) H ∧ ∀ H', (∀ c xs, H c = some (.lst xs) → c ≠ b → H' c = some (.lst xs)) → Tabs (tabsOf K) H' → Q (.bl true) H'
theorem ok_right (e : En P w K mg base) {k ji jl : Nat} (hji : ji + 1 ≤ k) (hjl : jl + 1 ≤ k) (OI : Ok P w K mg base ji dSqInit ["self", "row"] (spSqInit K)) (OLn : Ok P w K mg base jl dSqLen ["self"] (spSqLen K)) (ORw : Ok P w K mg base k lRow ["_law_box_here", "_law_names_due"] (spRow K)) (ON : Ok P w K mg base k lNames [] spNames)
    (OT : Ok P w K mg base k lTake ["_law_box_here", "_law_size"] (spTake K)) (ODd : Ok P w K mg base k lDeed ["_law_box_here", "_law_yard", "_law_page"] (spDeed K)) (OSm : Ok P w K mg base k lSame ["_law_found", "_law_due"] (spSame 2))
    (OSt : Ok P w K mg base k dStands ["self"] (spStands K)) (OWd : Ok P w K mg base k dWord ["self"] (spWord K)) (OBg : Ok P w K mg base k dBegun ["self"] (spBegun K)) (ODs : Ok P w K mg base k dDeeds ["self"] (spDeeds K)) (OMk : Ok P w K mg base k dMarks ["self"] (spMarks K))
    (OTb : Ok P w K mg base k dTable ["self"] (spTable K)) (OLd : Ok P w K mg base k dLeads ["self", "row"] (spLeads K)) (OCA : Ok P w K mg base k dCalledAll ["row", "word"] (spCalledAll K)) (OAO : Ok P w K mg base k dAsOf ["self", "many"] (spAsOf K)) (OUn : Ok P w K mg base k dUndo ["self"] (spUndo K)) :
    Ok P w K mg base (k + 1) lRight ["_law_box_here"] (spRight K) := by
  obtain ⟨fd, F⟩ := e.fd 47
  refine ok_by F rfl scRight (fun _ _ _ _ _ _ us hl => match us, hl with | [_], _ => rfl) (fun vs H Q E h => ?_) (fun cdv A outer s0 H vs Q E hr h => ?_)
  · obtain ⟨b, rfl, _⟩ := h
    rfl
  · obtain ⟨b, rfl, hb, hT, q⟩ := h
    refine ⟨_, pss_cons (ps_set (i := 1) scRight.nd rfl (.inl rfl) (pe_mk (d := dSqInit) (e.mkr "Square") OI hr hji (by rfl) (e.g "Square") (pa_cons (pe_fn ORw hr (Nat.le_refl _) (by rfl) (e.g "_law_row") (pa_cons (pv 0) (pa_cons (pe_fn0 ON hr (Nat.le_refl _) (by rfl) (e.g "_law_many_names")) pa_nil))) pa_nil)))
      (pss_cons (ps_set (i := 2) scRight.nd rfl (.inl rfl) (pe_lst (pa_cons (pe_tup (pa_cons (pe_mt0 (d := dStands) (pv 1) (e.cls "Square") (e.meth "Square" "stands") OSt hr (Nat.le_refl _)) (pa_cons pe_int pa_nil))) pa_nil)))
      (pss_cons (ps_for PassesOwn.never rfl (pi_range1 (by rfl) (e.f "range") (pa_cons pe_int pa_nil)) (pg_name (i := 3) scRight.nd rfl (.inl rfl))
        (pss_cons (ps_expr (pe_bm PySem.F.plainAttrs_list PySem.F.slot_list_append PySem.F.type_list_append mt_append (pv 2) (pa_cons (pe_fn ODd hr (Nat.le_refl _) (by rfl) (e.g "_law_deed") (pa_cons (pv 0) (pa_cons (pv 1) (pa_cons (pe_ix ix_list (pv 2) (pe_un un_neg pe_int) (fun _ _ => rfl)) pa_nil)))) pa_nil)))
        (pss_one (ps_if (PW.pt (pw_or (pt_cmpR (op_neD hr.units) (pe_mt0 (d := dStands) (pv 1) (e.cls "Square") (e.meth "Square" "stands") OSt hr (Nat.le_refl _)) (pe_ix ix_tup (pe_ix ix_list (pv 2) (pe_un un_neg pe_int) (fun _ _ => rfl)) pe_int (fun _ _ => rfl)) (nomark _)) (pw_or1 (pt_cmpR op_ne (pe_callB (call_lenO (d := dSqLen) OLn hr hjl (e.meth "Square" "__len__")) (by rfl) (e.f "len") PySem.boot_len (pa_cons (pv 1) pa_nil)) (pe_callB call_len_seq (by rfl) (e.f "len") PySem.boot_len (pa_cons (pe_ix ix_tup (pe_ix ix_list (pv 2) (pe_un un_neg pe_int) (fun _ _ => rfl)) pe_int (fun _ _ => rfl)) pa_nil)) (nomark _))))) (pss_one (ps_ret pe_bl)) pss_nil))))
      (pss_cons (ps_par (by rfl) scRight.nd (i := 4) (j := 5) rfl rfl (by decide) rfl rfl (pa_cons (pe_mt0 (d := dWord) (pv 1) (e.cls "Square") (e.meth "Square" "word") OWd hr (Nat.le_refl _)) (pa_cons (pe_mt0 (d := dBegun) (pv 1) (e.cls "Square") (e.meth "Square" "begun") OBg hr (Nat.le_refl _)) pa_nil)) (by rfl))
      (pss_cons (ps_if (pt_not (pt_val (pe_fn OSm hr (Nat.le_refl _) (by rfl) (e.g "_law_same") (pa_cons (pe_lst (pa_cons (pe_callB call_len_seq (by rfl) (e.f "len") PySem.boot_len (pa_cons (pv 4) pa_nil)) (pa_cons (pe_mt0 (d := dDeeds) (pv 1) (e.cls "Square") (e.meth "Square" "deeds") ODs hr (Nat.le_refl _)) (pa_cons (pe_mt0 (d := dMarks) (pv 1) (e.cls "Square") (e.meth "Square" "marks") OMk hr (Nat.le_refl _)) pa_nil)))) (pa_cons (pe_lst (pa_cons (pe_ix ix_tup (pe_ix ix_list (pv 2) (pe_un un_neg pe_int) (fun _ _ => rfl)) pe_int (fun _ _ => rfl)) (pa_cons pe_int (pa_cons (pe_lst pa_nil) pa_nil)))) pa_nil))))) (pss_one (ps_ret pe_bl)) pss_nil)
      (pss_cons (ps_if (PW.pt (pw_or (pt_cmpR (op_neD hr.units) (pe_fn OCA hr (Nat.le_refl _) (by rfl) (e.g "called_all") (pa_cons (pv 5) (pa_cons (pv 4) pa_nil))) (pe_mt0 (d := dStands) (pv 1) (e.cls "Square") (e.meth "Square" "stands") OSt hr (Nat.le_refl _)) (nomark _)) (pw_or1 (pt_cmpR (op_neD hr.units) (pe_mt (d := dLeads) (pe_mt0 (d := dTable) (pv 1) (e.cls "Square") (e.meth "Square" "table") OTb hr (Nat.le_refl _)) (e.cls "Table") (e.meth "Table" "leads") OLd hr (Nat.le_refl _) (pa_cons (pv 5) pa_nil)) (pe_mt0 (d := dStands) (pv 1) (e.cls "Square") (e.meth "Square" "stands") OSt hr (Nat.le_refl _)) (nomark _))))) (pss_one (ps_ret pe_bl)) pss_nil)
      (pss_cons (ps_for PassesOwn.never rfl (pi_tup (pe_tup (pa_cons pe_int (pa_cons pe_int (pa_cons (pe_fn OT hr (Nat.le_refl _) (by rfl) (e.g "_law_take") (pa_cons (pv 0) (pa_cons pe_int pa_nil))) (pa_cons (pe_fn OT hr (Nat.le_refl _) (by rfl) (e.g "_law_take") (pa_cons (pv 0) (pa_cons pe_int pa_nil))) pa_nil)))))) (pg_name (i := 6) scRight.nd rfl (.inl rfl))
        (pss_cons (ps_set (i := 7) scRight.nd rfl (.inl rfl) (pe_mt (d := dAsOf) (pv 1) (e.cls "Square") (e.meth "Square" "as_of") OAO hr (Nat.le_refl _) (pa_cons (pv 6) pa_nil)))
        (pss_one (ps_if (pt_not (pt_val (pe_fn OSm hr (Nat.le_refl _) (by rfl) (e.g "_law_same") (pa_cons (pe_lst (pa_cons (pe_mt0 (d := dStands) (pv 7) (e.cls "Square") (e.meth "Square" "stands") OSt hr (Nat.le_refl _)) (pa_cons (pe_callB call_len_seq (by rfl) (e.f "len") PySem.boot_len (pa_cons (pe_mt0 (d := dWord) (pv 7) (e.cls "Square") (e.meth "Square" "word") OWd hr (Nat.le_refl _)) pa_nil)) (pa_cons (pe_mt0 (d := dDeeds) (pv 7) (e.cls "Square") (e.meth "Square" "deeds") ODs hr (Nat.le_refl _)) pa_nil)))) (pa_cons (pe_lst (pa_cons (pe_ix ix_tup (pe_ix ix_list (pv 2) (pv 6) (fun _ _ => rfl)) pe_int (fun _ _ => rfl)) (pa_cons (pe_ix ix_tup (pe_ix ix_list (pv 2) (pv 6) (fun _ _ => rfl)) pe_int (fun _ _ => rfl)) (pa_cons (pv 6) pa_nil)))) pa_nil))))) (pss_one (ps_ret pe_bl)) pss_nil))))
      (pss_cons (ps_for PassesOwn.never rfl (pi_list (pe_rev2 (pv 2))) (pg_name (i := 8) scRight.nd rfl (.inl rfl))
        (pss_one (ps_if (PW.pt (pw_or (pt_cmpR op_notBl (pe_mt0 (d := dUndo) (pv 1) (e.cls "Square") (e.meth "Square" "undo") OUn hr (Nat.le_refl _)) pe_bl (nomark _)) (pw_or (pt_cmpR (op_neD hr.units) (pe_mt0 (d := dStands) (pv 1) (e.cls "Square") (e.meth "Square" "stands") OSt hr (Nat.le_refl _)) (pe_ix ix_tup (pv 8) pe_int (fun _ _ => rfl)) (nomark _)) (pw_or1 (pt_cmpR op_ne (pe_callB call_len_seq (by rfl) (e.f "len") PySem.boot_len (pa_cons (pe_mt0 (d := dWord) (pv 1) (e.cls "Square") (e.meth "Square" "word") OWd hr (Nat.le_refl _)) pa_nil)) (pe_ix ix_tup (pv 8) pe_int (fun _ _ => rfl)) (nomark _)))))) (pss_one (ps_ret pe_bl)) pss_nil)))
      (pss_one (ps_ret (pe_cmpR op_isBl (pe_mt0 (d := dUndo) (pv 1) (e.cls "Square") (e.meth "Square" "undo") OUn hr (Nat.le_refl _)) pe_bl (nomark _))))))))))), ?_⟩
    -- the yard
    refine ⟨.ref b, rfl, rfl, fun H1 a1 s1 n1 h1 => ?_⟩
    refine ⟨b, a1, 0, NAMES, rfl, hb.same s1, by decide, h1, by rw [NAMES_len]; decide, NAMES_ok, fun H2 r row f2 hb2 hpm hr2 => ?_⟩
    have f02 : Fm K [b] H H2 := (Fm.of s1).trans f2
    intro s dx ns ndx hne
    refine ⟨s, r, dx, row, rfl, upd_same, same_new ns ndx _ _ hr2, fun H3 pl b3 npl0 y3 => ⟨rfl, ?_⟩⟩
    have s23 : Same H2 H3 := same_made ns ndx b3
    have npl : H2 pl = none := Same.none (same_new ns ndx) npl0
    have hT2 := f02.2 hT
    have hrow : PgOk 0 ⟨row, row, []⟩ := .fresh (hpm.nodup_iff.mpr NAMES_nodup) (fun x hx => hpm.mem_iff.mp hx) (by rw [hpm.length_eq, NAMES_len]; decide) (by rw [hpm.length_eq, NAMES_len]; decide)
    -- the law's own pages
    obtain ⟨dx3, ml3, zs3, p3, hs3, _⟩ := (show Yard K H3 s pl ([] ++ [⟨row, row, []⟩]) from y3).last
    refine ⟨.ref s, rfl, s, dx3, _, rfl, hs3, rfl, s, pl, [], ⟨row, row, []⟩, rfl, y3, fun r4 hr4 => ⟨by show 2 ≤ sizeLine; decide, fun lp0 nlp0 => ⟨by show 1 ≤ sizeLine; decide, fun LP nLP => ?_⟩⟩⟩
    have s34 : Same H3 (upd (upd H3 lp0 (.tup [.ref r4, .int 0])) LP (.lst [.ref lp0])) := (same_upd nlp0).trans (same_upd nLP)
    have hLP4 : upd (upd H3 lp0 (.tup [.ref r4, .int 0])) LP (.lst [.ref lp0]) LP = some (.lst [.ref lp0]) := upd_same
    have hl4 : LPg (upd (upd H3 lp0 (.tup [.ref r4, .int 0])) LP (.lst [.ref lp0])) lp0 ⟨row, row, []⟩ := ⟨r4, same_upd nLP _ _ upd_same, s34 _ _ hr4⟩
    have s24 := s23.trans s34
    have nLP2 : H2 LP = none := Same.none (s23.trans (same_upd nlp0)) nLP
    generalize upd (upd H3 lp0 (.tup [.ref r4, .int 0])) LP (.lst [.ref lp0]) = H4 at s34 hLP4 hl4 s24 ⊢
    have st4 : St K H4 b s pl LP 24 [⟨row, row, []⟩] := by
      refine ⟨(hb2.same s24).mono (by rw [NAMES_len]; decide), y3.same s34, ⟨[lp0], hLP4, .cons hl4 .nil⟩, fun i g hg => ?_, hT2.ext s24⟩
      cases i with
      | zero =>
        cases hg
        exact hrow
      | succ i => simp at hg
    have F4 : Fm K [b, pl, LP] H2 H4 := .of s24
    -- the end: the lists that stood
    have fin : ∀ H', Fm K [b, pl, LP] H2 H' → Q (.bl true) H' := fun H' f => by
      refine q H' (fun c xs hc hn => ?_) (f.2 hT2)
      have h2 := f02.lst hc (fun z => hn (List.mem_singleton.mp z))
      refine f.lst h2 fun z => ?_
      rcases List.mem_cons.mp z with z | z
      · exact hn z
      · rcases List.mem_cons.mp z with z | z
        · rw [z, npl] at h2
          cases h2
        · rw [List.mem_singleton.mp z, nLP2] at h2
          cases h2
    -- eighty deeds
    refine ⟨80, rfl, by decide, by decide, ?_⟩
    refine for_range (lo := 0) (n := 80) (fun i σ H' => ∃ (y3 : Option V) (gs : List Pg), σ = [some (.ref b), some (.ref s), some (.ref LP), y3, none, none, none, none, none] ∧ Fm K [b, pl, LP] H2 H' ∧ St K H' b s pl LP (24 + i * 100) gs ∧ gs.length = i + 1)
      ⟨none, _, rfl, F4, st4, rfl⟩ (fun i σ H5 hi ⟨y3, gs, e1, F5, st5, hgl⟩ => ?_) (fun σ H5 ⟨y3, gs, e1, F5, st5, hgl⟩ => ?_)
    · subst e1
      obtain ⟨pgs, g, rfl⟩ : ∃ pgs g, gs = pgs ++ [g] := ⟨gs.dropLast, gs.getLast st5.ne, (List.dropLast_concat_getLast st5.ne).symm⟩
      rw [List.length_append] at hgl
      have hpl : pgs.length = i := by
        have : pgs.length + 1 = i + 1 := hgl
        omega
      obtain ⟨las, hLP, hlas⟩ := st5.lp
      have hlas0 := hlas
      obtain ⟨las0, la, rfl, hl1, hl2⟩ := prd_last hlas
      have hLP' := hLP
      rw [List.map_append] at hLP'
      have okg := st5.ok i g (by rw [List.getElem?_append_right (by omega), hpl]; simp)
      refine ⟨.ref LP, rfl, .inl ⟨rfl, _, .inl (.inl hLP)⟩, .ref b, rfl, .ref s, rfl, .ref LP, rfl, 1, rfl, LP, _, -1, _, rfl, rfl, .inl (.inl hLP'), atI_last (las0.map V.ref) (V.ref la), ?_⟩
      refine ⟨b, s, la, pl, 24 + i * 100, i, pgs, g, rfl, st5.box, by omega, st5.yd, hl2, okg, by omega, by omega, st5.tabs, fun H6 r6 g' f6 hb6 y6 l6 o6 => ?_⟩
      have mLP : LP ∉ [b, pl] := fun z => by
        rcases List.mem_cons.mp z with z | z
        · exact st5.nlb z
        · exact st5.nlp (List.mem_singleton.mp z)
      have hLP6 := f6.lst hLP mLP
      have hlas6 : Paired (fun g a => LPg H6 a g) (pgs ++ [g]) (las0 ++ [la]) := L2.Paired.mapP hlas0 fun g a z => z.fm f6
      refine ⟨LP, _, _, rfl, rfl, hLP6, ?_, ?_⟩
      · rw [List.length_map, ← paired_len hlas0, List.length_append]
        exact Nat.lt_of_le_of_lt (show pgs.length + 1 ≤ 1000 by omega) (by decide)
      have f7 : Fm K [LP] H6 (upd H6 LP (.lst ((las0 ++ [la]).map V.ref ++ [.ref r6]))) := Fm.put .refl hLP6 (by simp)
      have hLP7 : upd H6 LP (.lst ((las0 ++ [la]).map V.ref ++ [.ref r6])) LP = some (.lst ((las0 ++ [la]).map V.ref ++ [.ref r6])) := upd_same
      have F7 : Fm K [b, pl, LP] H2 (upd H6 LP (.lst ((las0 ++ [la]).map V.ref ++ [.ref r6]))) := (F5.trans (f6.mono (by simp))).trans (f7.mono (by simp))
      have st7 : St K (upd H6 LP (.lst ((las0 ++ [la]).map V.ref ++ [.ref r6]))) b s pl LP (24 + (i + 1) * 100) (pgs ++ [g] ++ [g']) := by
        refine ⟨(hb6.fm f7 fun z => st5.nlb (List.mem_singleton.mp z).symm).mono (by omega), y6.fm f7 fun c hc => ?_, ⟨las0 ++ [la] ++ [r6], by rw [upd_same, List.map_append (l₁ := las0 ++ [la])]; rfl, ?_⟩, fun j gj hj => ?_, f7.2 (f6.2 st5.tabs)⟩
        · rw [List.mem_singleton.mp hc]
          exact ⟨_, hLP6, lp_odd hlas6 (by simp)⟩
        · exact prd_snoc (F := fun g a => LPg _ a g) (l6.fm f7) (L2.Paired.mapP hlas6 fun g a z => z.fm f7)
        · rcases Nat.lt_or_ge j (pgs ++ [g]).length with hlt | hge
          · rw [List.getElem?_append_left hlt] at hj
            exact st5.ok j gj hj
          · rw [List.getElem?_append_right hge] at hj
            have hj0 : j - (pgs ++ [g]).length = 0 := by
              have := (List.getElem?_eq_some_iff.mp hj).1
              rw [List.length_singleton] at this
              omega
            rw [hj0] at hj
            cases hj
            rw [List.length_append, List.length_singleton] at hge hj0
            have ej : j = i + 1 := by omega
            rw [ej]
            exact o6
      have l7 := l6.fm f7
      generalize upd H6 LP (.lst ((las0 ++ [la]).map V.ref ++ [.ref r6])) = H7 at f7 hLP7 F7 st7 l7 ⊢
      obtain ⟨dx7, ml7, zs7, p7, hs7, _⟩ := st7.yd.last
      obtain ⟨ra7, ht7, hr7⟩ := l7
      refine ⟨.ref s, rfl, s, dx7, _, rfl, hs7, rfl, s, pl, pgs ++ [g], g', rfl, st7.yd, fun r8 hr8 => ?_⟩
      refine ⟨.ref LP, rfl, 1, rfl, LP, _, -1, _, rfl, rfl, .inl (.inl hLP7), atI_last _ (V.ref r6), r6, _, _, .ref ra7, rfl, rfl, .inl (.inl ht7), atI_nat (xs := [V.ref ra7, V.int ((g'.cs.length : Nat) : Int)]) (j := 0) rfl, ?_⟩
      refine ⟨.tuple (g'.row.map PyData.str), .tuple (g'.row.map PyData.str), .tup (.inl (.inl hr8)) (dpAll_strs _), .tup (.inl (.inl hr7)) (dpAll_strs _), shp_tup o6.sok, shp_tup o6.sok, _, rfl, ?_⟩
      rw [eqv_tup o6.sok]
      refine iteF ?_
      refine ⟨.ref s, rfl, s, dx7, _, rfl, hs7, ⟨s, pl, pgs ++ [g], g', rfl, st7.yd, g'.row.length, rfl, by have := o6.hi; omega, ?_⟩⟩
      refine ⟨.ref LP, rfl, 1, rfl, LP, _, -1, _, rfl, rfl, .inl (.inl hLP7), atI_last _ (V.ref r6), r6, _, _, .ref ra7, rfl, rfl, .inl (.inl ht7), atI_nat (xs := [V.ref ra7, V.int ((g'.cs.length : Nat) : Int)]) (j := 0) rfl, ra7, _, rfl, .inr (.inl (.inl hr7)), rfl, _, rfl, ?_⟩
      rw [decide_eq_true (by rw [List.length_map])]
      exact iteF ⟨_, _, rfl, F7, st7, by rw [List.length_append, List.length_append, hpl]; rfl⟩
    subst e1
    obtain ⟨pgs, g, rfl⟩ : ∃ pgs g, gs = pgs ++ [g] := ⟨gs.dropLast, gs.getLast st5.ne, (List.dropLast_concat_getLast st5.ne).symm⟩
    rw [List.length_append] at hgl
    have hpl : pgs.length = 80 := by
      have : pgs.length + 1 = 80 + 1 := hgl
      omega
    obtain ⟨las, hLP, hlas⟩ := st5.lp
    obtain ⟨las0, la, rfl, hl1, hl2⟩ := prd_last hlas
    rw [List.map_append] at hLP
    have okg := st5.ok 80 g (by rw [List.getElem?_append_right (by omega), hpl]; simp)
    have hr64 : g.row.length < 64 := Nat.lt_of_le_of_lt okg.hi (by decide)
    obtain ⟨dx5, ml5, zs5, p5, hs5, _⟩ := st5.yd.last
    have ndb : g.beg.Nodup := okg.pb.nodup_iff.mp okg.nd
    have lnb : g.beg.length < 64 := by rw [← okg.pb.length_eq]; exact hr64
    have sob : ∀ x ∈ g.beg, SOk x := fun x hx => okg.sok x (okg.pb.mem_iff.mpr hx)
    have cob : ∀ c ∈ g.cs, CallOk g.beg c := fun c hc => (okg.ok c hc).perm okg.pb
    have lcs : g.cs.length < 1000 := by have := okg.ln; omega
    -- word, start_row
    refine ⟨.ref s, rfl, s, dx5, _, rfl, hs5, rfl, s, pl, pgs, g, rfl, st5.yd, fun H6 wd s6 nw hw => ?_⟩
    have st6 := st5.same s6
    refine ⟨.ref s, rfl, s, dx5, _, rfl, s6 _ _ hs5, rfl, s, pl, pgs, g, rfl, st6.yd, fun bg hbg => ⟨_, _, rfl, ?_⟩⟩
    obtain ⟨us, hwl, hus⟩ := id hw
    -- the numbers
    refine ⟨.ref wd, rfl, wd, _, rfl, .inl (.inl (.inl hwl)), ?_⟩
    refine ⟨.ref s, rfl, s, dx5, _, rfl, s6 _ _ hs5, rfl, s, pl, pgs, g, rfl, st6.yd, ?_⟩
    refine ⟨.ref s, rfl, s, dx5, _, rfl, s6 _ _ hs5, rfl, s, pl, pgs ++ [g], rfl, st6.yd, fun H7 mk s7 nmk hmk => ⟨by show 3 ≤ sizeLine; decide, fun A nA => ?_⟩⟩
    have s67A : Same H6 (upd H7 A (.lst [.int (((us.map V.ref).length : Nat) : Int), .int ((pgs.length : Nat) : Int), .ref mk])) := s7.trans (same_upd nA)
    have hA : upd H7 A (.lst [.int (((us.map V.ref).length : Nat) : Int), .int ((pgs.length : Nat) : Int), .ref mk]) A = some (.lst [.int (((us.map V.ref).length : Nat) : Int), .int ((pgs.length : Nat) : Int), .ref mk]) := upd_same
    have hmkA := same_upd (o := HO.lst [.int (((us.map V.ref).length : Nat) : Int), .int ((pgs.length : Nat) : Int), .ref mk]) nA _ _ hmk
    generalize upd H7 A (.lst [.int (((us.map V.ref).length : Nat) : Int), .int ((pgs.length : Nat) : Int), .ref mk]) = HA at s67A hA hmkA ⊢
    have s5A : Same H5 HA := s6.trans s67A
    obtain ⟨ra5, hla5, hra5⟩ := hl2
    refine ⟨.ref LP, rfl, 1, rfl, LP, _, -1, _, rfl, rfl, .inl (.inl (s5A _ _ hLP)), atI_last _ (V.ref la), la, _, _, .int ((g.cs.length : Nat) : Int), rfl, rfl, .inl (.inl (s5A _ _ hla5)), atI_nat (xs := [V.ref ra5, V.int ((g.cs.length : Nat) : Int)]) (j := 1) rfl, ?_⟩
    refine ⟨Nat.zero_le _, fun em nem => ⟨by show 3 ≤ sizeLine; decide, fun B nB => ?_⟩⟩
    have sAB : Same HA (upd (upd HA em (.lst [])) B (.lst [.int ((g.cs.length : Nat) : Int), .int 80, .ref em])) := (same_upd nem).trans (same_upd nB)
    have hB : upd (upd HA em (.lst [])) B (.lst [.int ((g.cs.length : Nat) : Int), .int 80, .ref em]) B = some (.lst [.int ((g.cs.length : Nat) : Int), .int 80, .ref em]) := upd_same
    have hemB := same_upd (o := HO.lst [.int ((g.cs.length : Nat) : Int), .int 80, .ref em]) nB _ _ (upd_same (H := HA) (a := em) (o := .lst []))
    have hAB := sAB _ _ hA
    have hmkB := sAB _ _ hmkA
    generalize upd (upd HA em (.lst [])) B (.lst [.int ((g.cs.length : Nat) : Int), .int 80, .ref em]) = HB at sAB hB hemB hAB hmkB ⊢
    refine ⟨.ref A, .ref B, rfl, .inr ⟨A, B, _, _, rfl, rfl, .inl ⟨hAB, hB⟩, by show 3 < 64; decide, .cons (.inl (.inl ⟨_, rfl, ?_⟩)) (.cons (.inl (.inl ⟨_, rfl, ?_⟩)) (.cons (.inr ⟨mk, em, [], [], rfl, rfl, .inl ⟨hmkB, hemB⟩, by decide, .nil⟩) .nil))⟩, fun H8 s8 => ⟨_, rfl, iteF ?_⟩⟩
    · rw [List.length_map, paired_len hus]
    · rw [hpl]
      rfl
    have s58 : Same H5 H8 := (s5A.trans sAB).trans s8
    have st8 := st5.same s58
    have F8 : Fm K [b, pl, LP] H2 H8 := F5.trans (.of s58)
    have s68 : Same H6 H8 := (s67A.trans sAB).trans s8
    -- called_all
    refine ⟨.ref bg, rfl, .ref wd, rfl, bg, wd, g.beg, g.cs, rfl, s68 _ _ hbg, ndb, lnb, sob, hw.same s68, cob, lcs, st8.tabs, fun H9 z x9 t9 hz => ?_⟩
    have f9 : Fm K [] H8 H9 := Fm.ext x9 t9
    have st9 := st8.fm f9
    have F9 : Fm K [b, pl, LP] H2 H9 := F8.trans (f9.mono (by simp))
    rw [← okg.wd] at hz
    have hs9 := f9.ins (s58 _ _ hs5)
    refine ⟨.ref s, rfl, s, dx5, _, rfl, hs9, rfl, s, pl, pgs, g, rfl, st9.yd, fun r9 hr9 => ?_⟩
    refine ⟨.tuple (g.row.map PyData.str), .tuple (g.row.map PyData.str), .tup (.inl (.inl hz)) (dpAll_strs _), .tup (.inl (.inl hr9)) (dpAll_strs _), shp_tup okg.sok, shp_tup okg.sok, _, rfl, ?_⟩
    rw [eqv_tup okg.sok]
    refine iteF ?_
    -- the table
    refine ⟨.ref s, rfl, s, dx5, _, rfl, hs9, rfl, s, pl, pgs, g, rfl, st9.yd, hr64, okg.sok, okg.ok, lcs, fun H10 tb xs s10 hpx htab => ?_⟩
    have st10 := st9.same s10
    obtain ⟨dxt, tt, td, hti, _⟩ := id htab
    refine ⟨tb, dxt, _, rfl, hti, rfl, .ref bg, rfl, tb, bg, xs, g.beg, g.cs, rfl, htab, s10 _ _ (ExtN.tup x9 (s68 _ _ hbg)), hpx.trans okg.pb, ndb, lnb, sob, cob, st10.tabs, fun H11 r11 x11 t11 hr11 => ?_⟩
    have f11 : Fm K [] H10 H11 := Fm.ext x11 t11
    have st11 := st10.fm f11
    have F11 : Fm K [b, pl, LP] H2 H11 := (F9.trans (.of s10)).trans (f11.mono (by simp))
    rw [← okg.wd] at hr11
    have hs11 := f11.ins (s10 _ _ hs9)
    refine ⟨.ref s, rfl, s, dx5, _, rfl, hs11, rfl, s, pl, pgs, g, rfl, st11.yd, fun r12 hr12 => ?_⟩
    refine ⟨.tuple (g.row.map PyData.str), .tuple (g.row.map PyData.str), .tup (.inl (.inl hr11)) (dpAll_strs _), .tup (.inl (.inl hr12)) (dpAll_strs _), shp_tup okg.sok, shp_tup okg.sok, _, rfl, ?_⟩
    rw [eqv_tup okg.sok]
    refine iteF ?_
    -- as of
    refine ⟨.ref b, rfl, b, _, 81, rfl, st11.box, by omega, by decide, by decide, fun H12 q1 f12 hb12 hq1 => ?_⟩
    have st12 := st11.take f12 hb12
    refine ⟨.ref b, rfl, b, _, 81, rfl, st12.box, by omega, by decide, by decide, fun H13 q2 f13 hb13 hq2 => ?_⟩
    have st13 := st12.take f13 hb13
    have F13 : Fm K [b, pl, LP] H2 H13 := (F11.trans (f12.mono (by simp))).trans (f13.mono (by simp))
    refine ⟨by show 4 ≤ sizeLine; decide, fun T nT => ?_⟩
    have s14 : Same H13 (upd H13 T (.tup [.int 0, .int 80, .int ((q1 : Nat) : Int), .int ((q2 : Nat) : Int)])) := same_upd nT
    have hT14 : upd H13 T (.tup [.int 0, .int 80, .int ((q1 : Nat) : Int), .int ((q2 : Nat) : Int)]) T = some (.tup [.int 0, .int 80, .int ((q1 : Nat) : Int), .int ((q2 : Nat) : Int)]) := upd_same
    have st14 := st13.same s14
    have F14 : Fm K [b, pl, LP] H2 (upd H13 T (.tup [.int 0, .int 80, .int ((q1 : Nat) : Int), .int ((q2 : Nat) : Int)])) := F13.trans (.of s14)
    generalize upd H13 T (.tup [.int 0, .int 80, .int ((q1 : Nat) : Int), .int ((q2 : Nat) : Int)]) = H14 at hT14 st14 F14 ⊢
    have hmem : ∀ v ∈ [V.int 0, V.int 80, V.int ((q1 : Nat) : Int), V.int ((q2 : Nat) : Int)], ∃ m : Nat, m ≤ 80 ∧ v = .int ((m : Nat) : Int) := by
      intro v hv
      simp only [List.mem_cons, List.not_mem_nil, or_false] at hv
      rcases hv with rfl | rfl | rfl | rfl
      · exact ⟨0, by decide, rfl⟩
      · exact ⟨80, by decide, rfl⟩
      · exact ⟨q1, by omega, rfl⟩
      · exact ⟨q2, by omega, rfl⟩
    refine ⟨T, rfl, ⟨_, .inl (.inl hT14)⟩, for_tup (xs := [.int 0, .int 80, .int ((q1 : Nat) : Int), .int ((q2 : Nat) : Int)]) (fun i σ H' => ∃ (y3 y6 y7 : Option V) (n' : Nat), σ = [some (.ref b), some (.ref s), some (.ref LP), y3, some (.ref wd), some (.ref bg), y6, y7, none] ∧ Fm K [b, pl, LP] H2 H' ∧ St K H' b s pl LP n' (pgs ++ [g]) ∧
        H' T = some (.tup [.int 0, .int 80, .int ((q1 : Nat) : Int), .int ((q2 : Nat) : Int)])) ⟨_, _, _, _, rfl, F14, st14, hT14⟩
      (fun i σ H' _ ⟨_, _, _, _, _, _, _, hT⟩ => .inl (.inl hT)) (fun i v σ H15 hv ⟨y3, y6, y7, n', e1, F15, st15, hT15⟩ => ?_) (fun σ H15 ⟨y3, y6, y7, n', e1, F15, st15, hT15⟩ => ?_)⟩
    · subst e1
      obtain ⟨m, hm80, rfl⟩ := hmem v (List.mem_of_getElem? hv)
      obtain ⟨dxa, mla, zsa, pa, hsa, _⟩ := st15.yd.last
      obtain ⟨las', hLPa, hlasa⟩ := st15.lp
      have hgl2 : (pgs ++ [g]).length = 81 := by rw [List.length_append, hpl]; rfl
      obtain ⟨gm, hgm⟩ : ∃ gm, (pgs ++ [g])[m]? = some gm := ⟨(pgs ++ [g])[m], List.getElem?_eq_getElem (by omega)⟩
      have okm := st15.ok m gm hgm
      obtain ⟨lm, hlm, ram, hltm, hrm⟩ := prd_at hlasa hgm
      have hlmv : (las'.map V.ref)[m]? = some (.ref lm) := by
        rw [List.getElem?_map, hlm]
        rfl
      refine ⟨.ref s, rfl, s, dxa, _, rfl, hsa, rfl, _, rfl, s, pl, pgs, g, m, rfl, st15.yd, by omega, fun H16 se ple s16 ye => ?_⟩
      rw [take_snoc hgm] at ye
      obtain ⟨dxe, mle, zse, pe, hse, _⟩ := ye.last
      have htl : ((pgs ++ [g]).take m).length = m := by
        rw [List.length_take]
        omega
      refine ⟨.ref se, rfl, se, dxe, _, rfl, hse, rfl, se, ple, _, gm, rfl, ye, fun re hre => ?_⟩
      refine ⟨.ref se, rfl, se, dxe, _, rfl, hse, rfl, se, ple, _, gm, rfl, ye, fun H17 we s17 nwe hwe => ?_⟩
      obtain ⟨ue, hwel, hue⟩ := hwe
      refine ⟨we, _, rfl, .inl (.inl (.inl hwel)), ?_⟩
      refine ⟨.ref se, rfl, se, dxe, _, rfl, s17 _ _ hse, rfl, se, ple, _, gm, rfl, ye.same s17, ⟨by show 3 ≤ sizeLine; decide, fun A2 nA2 => ?_⟩⟩
      have s18 : Same H17 (upd H17 A2 (.lst [.ref re, .int (((ue.map V.ref).length : Nat) : Int), .int ((((pgs ++ [g]).take m).length : Nat) : Int)])) := same_upd nA2
      have hA2 : upd H17 A2 (.lst [.ref re, .int (((ue.map V.ref).length : Nat) : Int), .int ((((pgs ++ [g]).take m).length : Nat) : Int)]) A2 = some (.lst [.ref re, .int (((ue.map V.ref).length : Nat) : Int), .int ((((pgs ++ [g]).take m).length : Nat) : Int)]) := upd_same
      generalize upd H17 A2 (.lst [.ref re, .int (((ue.map V.ref).length : Nat) : Int), .int ((((pgs ++ [g]).take m).length : Nat) : Int)]) = H18 at s18 hA2 ⊢
      have s1518 : Same H15 H18 := (s16.trans s17).trans s18
      refine ⟨.ref LP, rfl, _, rfl, LP, _, _, _, rfl, rfl, .inl (.inl (s1518 _ _ hLPa)), atI_nat hlmv, lm, _, _, .ref ram, rfl, rfl, .inl (.inl (s1518 _ _ hltm)), atI_nat (xs := [V.ref ram, V.int ((gm.cs.length : Nat) : Int)]) (j := 0) rfl, ?_⟩
      refine ⟨.ref LP, rfl, _, rfl, LP, _, _, _, rfl, rfl, .inl (.inl (s1518 _ _ hLPa)), atI_nat hlmv, lm, _, _, .int ((gm.cs.length : Nat) : Int), rfl, rfl, .inl (.inl (s1518 _ _ hltm)), atI_nat (xs := [V.ref ram, V.int ((gm.cs.length : Nat) : Int)]) (j := 1) rfl, ?_⟩
      refine ⟨_, rfl, by show 3 ≤ sizeLine; decide, fun B2 nB2 => ?_⟩
      have s19 : Same H18 (upd H18 B2 (.lst [.ref ram, .int ((gm.cs.length : Nat) : Int), .int ((m : Nat) : Int)])) := same_upd nB2
      have hB2 : upd H18 B2 (.lst [.ref ram, .int ((gm.cs.length : Nat) : Int), .int ((m : Nat) : Int)]) B2 = some (.lst [.ref ram, .int ((gm.cs.length : Nat) : Int), .int ((m : Nat) : Int)]) := upd_same
      generalize upd H18 B2 (.lst [.ref ram, .int ((gm.cs.length : Nat) : Int), .int ((m : Nat) : Int)]) = H19 at s19 hB2 ⊢
      have s1519 : Same H15 H19 := s1518.trans s19
      have hm64 : gm.row.length < 64 := Nat.lt_of_le_of_lt okm.hi (by decide)
      refine ⟨.ref A2, .ref B2, rfl, .inr ⟨A2, B2, _, _, rfl, rfl, .inl ⟨s19 _ _ hA2, hB2⟩, by show 3 < 64; decide, .cons (.inr ⟨re, ram, _, _, rfl, rfl, .inr ⟨s19 _ _ (s18 _ _ (s17 _ _ hre)), s1519 _ _ hrm⟩, by rw [List.length_map]; exact hm64, sca_strs gm.row⟩) (.cons (.inl (.inl ⟨_, rfl, ?_⟩)) (.cons (.inl (.inl ⟨_, rfl, ?_⟩)) .nil))⟩, fun H20 s20 => ⟨_, rfl, iteF ?_⟩⟩
      · rw [List.length_map, paired_len hue]
      · rw [htl]
      have s1520 : Same H15 H20 := s1519.trans s20
      exact ⟨_, _, _, n', rfl, F15.trans (.of s1520), st15.same s1520, s1520 _ _ hT15⟩
    subst e1
    -- undone one by one
    obtain ⟨las', hLPa, hlasa⟩ := st15.lp
    obtain ⟨lb0, lb, rfl, hb1, hb2⟩ := prd_last hlasa
    rw [List.map_append] at hLPa
    have hlb : lb0.length = 80 := by rw [← paired_len hb1]; exact hpl
    refine ⟨.ref LP, rfl, LP, lb0.map V.ref, .ref lb, rfl, .inl (.inl hLPa), fun R nR => ?_⟩
    have s16 : Same H15 (upd H15 R (.lst (lb0.map V.ref).reverse)) := same_upd nR
    have hR16 : upd H15 R (.lst (lb0.map V.ref).reverse) R = some (.lst (lb0.map V.ref).reverse) := upd_same
    have nRp : R ≠ pl := fun z => by
      obtain ⟨_, _, _, _, _, hp, _⟩ := st15.yd
      rw [z, hp] at nR
      cases nR
    have st16 := st15.same s16
    have F16 : Fm K [b, pl, LP] H2 (upd H15 R (.lst (lb0.map V.ref).reverse)) := F15.trans (.of s16)
    have hb16 : Paired (fun g a => LPg (upd H15 R (.lst (lb0.map V.ref).reverse)) a g) pgs lb0 := L2.Paired.mapP hb1 fun g a z => z.fm (K := K) (M := []) (.of s16)
    generalize upd H15 R (.lst (lb0.map V.ref).reverse) = H16 at hR16 st16 F16 hb16 ⊢
    have hgl2 : (pgs ++ [g]).length = 81 := by rw [List.length_append, hpl]; rfl
    have htake : ∀ k x, (pgs ++ [g])[k]? = some x → (pgs ++ [g]).take (k + 1) = (pgs ++ [g]).take k ++ [x] := fun k x h => take_snoc h
    refine ⟨R, rfl, ⟨_, .inl (.inl hR16)⟩, for_list (xs := (lb0.map V.ref).reverse) (fun j σ H' => ∃ y6 y7 y8 : Option V, σ = [some (.ref b), some (.ref s), some (.ref LP), y3, some (.ref wd), some (.ref bg), y6, y7, y8] ∧ Fm K [b, pl, LP] H2 H' ∧ Yard K H' s pl ((pgs ++ [g]).take (81 - j)) ∧ H' R = some (.lst (lb0.map V.ref).reverse) ∧
        Paired (fun g a => LPg H' a g) pgs lb0) ⟨_, _, _, rfl, F16, by rw [List.take_of_length_le (by omega)]; exact st16.yd, hR16, hb16⟩
      (fun j σ H' _ ⟨_, _, _, _, _, _, hR, _⟩ => .inl (.inl hR)) (fun j v σ H17 hv ⟨y6, y7, y8, e1, F17, y17, hR17, hb17⟩ => ?_) (fun σ H17 ⟨y6, y7, y8, e1, F17, y17, hR17, hb17⟩ => ?_)⟩
    · subst e1
      obtain ⟨lm, hj, hlm, rfl⟩ := rev_at hv
      rw [hlb] at hj hlm
      obtain ⟨gm, hgm, ram, hltm, hrm⟩ := paired_at hb17 hlm
      have hgm2 : (pgs ++ [g])[80 - 1 - j]? = some gm := by
        rw [List.getElem?_append_left (by omega)]
        exact hgm
      have okm := st15.ok _ gm hgm2
      obtain ⟨gn, hgn⟩ : ∃ gn, (pgs ++ [g])[80 - 1 - j + 1]? = some gn := ⟨(pgs ++ [g])[80 - 1 - j + 1], List.getElem?_eq_getElem (by omega)⟩
      have e2 : (pgs ++ [g]).take (81 - j) = (pgs ++ [g]).take (80 - 1 - j) ++ [gm] ++ [gn] := by
        rw [show 81 - j = 80 - 1 - j + 1 + 1 by omega, htake _ _ hgn, htake _ _ hgm2]
      rw [e2] at y17
      obtain ⟨dxa, mla, zsa, pa, hsa, _⟩ := y17.last
      refine ⟨.ref s, rfl, s, dxa, _, rfl, hsa, rfl, s, pl, _, gn, rfl, y17, fun z => absurd z (by simp), fun _ H18 f18 y18 => ?_⟩
      refine ⟨true, true, rfl, rfl, _, rfl, ?_⟩
      rw [decide_eq_true rfl]
      refine iteF ?_
      obtain ⟨dxb, mlb, zsb, pb, hsb, _⟩ := y18.last
      have F18 : Fm K [b, pl, LP] H2 H18 := F17.trans (f18.mono (by simp))
      have hR18 := f18.lst hR17 (fun z => nRp (List.mem_singleton.mp z))
      have hb18 : Paired (fun g a => LPg H18 a g) pgs lb0 := L2.Paired.mapP hb17 fun g a z => z.fm f18
      have hltm := f18.tup hltm
      have hrm := f18.tup hrm
      refine ⟨.ref s, rfl, s, dxb, _, rfl, hsb, rfl, s, pl, _, gm, rfl, y18, fun r18 hr18 => ?_⟩
      refine ⟨.ref lm, rfl, lm, _, _, .ref ram, rfl, rfl, .inl (.inl hltm), atI_nat (xs := [V.ref ram, V.int ((gm.cs.length : Nat) : Int)]) (j := 0) rfl, ?_⟩
      refine ⟨.tuple (gm.row.map PyData.str), .tuple (gm.row.map PyData.str), .tup (.inl (.inl hr18)) (dpAll_strs _), .tup (.inl (.inl hrm)) (dpAll_strs _), shp_tup okm.sok, shp_tup okm.sok, _, rfl, ?_⟩
      rw [eqv_tup okm.sok]
      refine iteF ?_
      refine ⟨.ref s, rfl, s, dxb, _, rfl, hsb, rfl, s, pl, _, gm, rfl, y18, fun H19 we s19 nwe hwe => ?_⟩
      obtain ⟨ue, hwel, hue⟩ := hwe
      refine ⟨we, _, rfl, .inl (.inl (.inl hwel)), ?_⟩
      refine ⟨.ref lm, rfl, lm, _, _, .int ((gm.cs.length : Nat) : Int), rfl, rfl, .inl (.inl (s19 _ _ hltm)), atI_nat (xs := [V.ref ram, V.int ((gm.cs.length : Nat) : Int)]) (j := 1) rfl, rfl, _, rfl, ?_⟩
      rw [decide_eq_true (by rw [List.length_map, paired_len hue])]
      refine iteF ⟨_, _, _, rfl, F18.trans (.of s19), ?_, s19 _ _ hR18, L2.Paired.mapP hb18 fun g a z => z.fm (K := K) (M := []) (.of s19)⟩
      rw [show 81 - (j + 1) = 80 - 1 - j + 1 by omega, htake _ _ hgm2]
      exact y18.same s19
    subst e1
    rw [List.length_reverse, List.length_map, hlb] at y17
    obtain ⟨g0, hg0⟩ : ∃ g0, (pgs ++ [g])[0]? = some g0 := ⟨(pgs ++ [g])[0], List.getElem?_eq_getElem (by omega)⟩
    rw [show 81 - 80 = 0 + 1 from rfl, htake _ _ hg0, List.take_zero] at y17
    obtain ⟨dxa, mla, zsa, pa, hsa, _⟩ := y17.last
    exact ⟨.ref s, rfl, s, dxa, _, rfl, hsa, rfl, s, pl, [], g0, rfl, y17, fun _ => ⟨false, false, rfl, rfl, fin H17 F17⟩, fun z => absurd rfl z⟩
end
end Sb
/-! law; the defs put together. -/
namespace Sb
open PySem PySem.Spec PyProof.Rows L2 LamX NdefX RZ
section
variable {P : Program} {w : World} {K : PySem.W.Frag} {mg : Str → Option Value} {base : Heap}
theorem scLaw : FnScope ["_law_script", "_law_cells", "_law_k"] ["_law_script"] lLaw.scope := ⟨rfl, rfl, rfl, by decide +kernel, rfl, by decide +kernel, by decide +kernel⟩
def spLaw (K : PySem.W.Frag) : Sp := fun vs H Q _ => ∃ (a : Addr) (ns : List Int), vs = [.ref a] ∧ SqL K H a (ns.map V.int) ∧ ns.length < 64 ∧ Tabs (tabsOf K) H ∧ ∀ H', Q (.bl true) H'
theorem body_law (e : En P w K mg base) {k : Nat} {fd : FuncData} (F : FdOk K lLaw fd) (OF : Ok P w K mg base k lFolded ["_law_script", "_law_size"] (spFolded K)) (OR : Ok P w K mg base k lRight ["_law_box_here"] (spRight K)) (OB : Ok P w K mg base k lBox ["_law_script", "_law_k"] (spBox K)) :
    FnOk P w K mg base CX0 (k + 1) (He.fAd K lLaw.at_) fd ["_law_script"] (spLaw K) := by
  refine FunD.ok F scLaw (fun vs H Q E h => ?_) (fun cdv A outer s0 H vs Q E hr h => ?_)
  · obtain ⟨a, ns, rfl, _⟩ := h
    rfl
  · obtain ⟨a, ns, rfl, ha, hz, hT, q⟩ := h
    suffices hh : ∃ t, PSs (cxOf CX0 P w K mg base ["_law_script", "_law_cells", "_law_k"] lLaw.qual lLaw.scope (He.fAd K lLaw.at_) cdv A outer s0 H E).nox lLaw.body t ∧ t { nx := fun _ H' => Q .non H', rt := Q } (L2.start ["_law_script", "_law_cells", "_law_k"] [V.ref a]) H by
      obtain ⟨t, h1, h2⟩ := hh
      exact ⟨t, h1.nox, h2⟩
    refine ⟨_, pss_cons (ps_set (i := 1) scLaw.nd rfl (.inr rfl) (pe_fn OF hr (Nat.le_refl _) (by rfl) (e.g "_law_folded") (pa_cons (pv 0) (pa_cons pe_int pa_nil))))
      (pss_one (ps_ret (pe_callB (cr_all rfl) (by rfl) (e.f "all") (by decide +kernel) (pa_cons (pe_lc (own := [("_law_k", 2)]) (g := gName 2) (by rfl) scLaw.nd (pi_range1 (by rfl) (e.f "range") (pa_cons (pe_callB call_len_seq (by rfl) (e.f "len") PySem.boot_len (pa_cons (pv 1) pa_nil)) pa_nil)) (blkOk_by (N := ["_law_script", "_law_cells", "_law_k"]) (sc := lLaw.scope) (by decide +kernel))
        (fun _ _ _ _ _ => pg_name (i := 2) scLaw.nd rfl (.inl rfl)) (fun _ _ _ _ _ => pts_nil) (fun _ _ _ _ _ => pe_fn OR (hr.mono (Nat.le_refl _)) (Nat.le_refl _) (by rfl) (e.g "_law_right") (pa_cons (pe_fn OB (hr.mono (Nat.le_refl _)) (Nat.le_refl _) (by rfl) (e.g "_law_box") (pa_cons (pv 1) (pa_cons (pv 2) pa_nil))) pa_nil))) pa_nil)))), ?_⟩
    refine ⟨.ref a, rfl, a, ns, rfl, ha, hz, fun H1 C ms s1 hC h0 h2 => ?_⟩
    have hT1 := hT.ext s1
    refine ⟨.ref C, rfl, C, _, rfl, .inl (.inl (.inl hC)), ((ms.length : Nat) : Int), by rw [List.length_map], by omega, by omega, fun D nD => ?_⟩
    have nDC : D ≠ C := fun z => by
      rw [z, hC] at nD
      cases nD
    have sD : Same H1 (upd H1 D (.lst [])) := same_upd nD
    refine lc_it (walk_range (lo := 0) (n := ms.length)) (fun i H' => Tabs (tabsOf K) H' ∧ H' C = some (.lst (ms.map V.int)) ∧ H' D = some (.lst ((List.replicate i true).map V.bl))) ⟨hT1.ext sD, sD _ _ hC, upd_same⟩
      (fun i H' _ _ => trivial) (fun i v H2 H2' hi ⟨t2, hC2, hD2⟩ hy => ?_) (fun H' ⟨t2, hC2, hD2⟩ => ?_)
    · obtain ⟨rfl, rfl⟩ := hy
      refine ⟨rfl, yes ⟨.ref C, rfl, _, rfl, C, ms, i, by show [V.ref C, V.int (0 + ((i : Nat) : Int))] = _; rw [Int.zero_add], hC2, hi, by omega, fun H3 b s3 nb hb => ?_⟩⟩
      refine ⟨b, rfl, hb, t2.ext s3, fun H4 hl t4 => ?_⟩
      have nDb : D ≠ b := fun z => by
        rw [← z, hD2] at nb
        cases nb
      have nCb : C ≠ b := fun z => by
        rw [← z, hC2] at nb
        cases nb
      have hD4 := hl D _ (s3 _ _ hD2) nDb
      have hC4 := hl C _ (s3 _ _ hC2) nCb
      refine ⟨_, hD4, by rw [List.length_map, List.length_replicate]; exact lt_line (by omega), tabs_upd t4 hD4 (fun _ z => by cases z) (fun _ z => by cases z), ?_, ?_⟩
      · rw [upd_ne nDC.symm]
        exact hC4
      · rw [upd_same, List.replicate_succ', List.map_append]
        rfl
    · refine ⟨D, List.replicate ms.length true, rfl, .inl (.inl hD2), ?_⟩
      rw [show (List.replicate ms.length true).all id = true by simp]
      exact q _
/-- the law keeps its promise -/
theorem ok_law (e : En P w K mg base) {fd : FuncData} (F : FdOk K lLaw fd) : FnOk P w K mg base CX0 8 (He.fAd K lLaw.at_) fd ["_law_script"] (spLaw K) := by
  have alike : Ok P w K mg base 1 dAlike _ _ := ok_alike e
  have places : Ok P w K mg base 1 dPlaces _ _ := ok_places e
  have place : Ok P w K mg base 2 dPlace _ _ := ok_place e places
  have byNames : Ok P w K mg base 1 dByNames _ _ := ok_byNames e
  have people : Ok P w K mg base 1 dPeople _ _ := ok_people e
  have lookN : Ok P w K mg base 1 dLookN _ _ := ok_lookN e
  have callOf : Ok P w K mg base 2 dCallOf _ _ := ok_callOf e lookN
  have plain : Ok P w K mg base 1 dPlain _ _ := ok_plain e
  have gone : Ok P w K mg base 1 dGone _ _ := ok_gone e
  have ways : Ok P w K mg base 2 dWays _ _ := ok_ways e byNames
  have walked : Ok P w K mg base 2 dWalked _ _ := ok_walked e gone
  have pairs : Ok P w K mg base 1 dPairs _ _ := ok_pairs e
  have told : Ok P w K mg base 3 dTold _ _ := ok_told e ways (pairs.mono (by decide)) walked
  have less : Ok P w K mg base 1 dLess _ _ := ok_less e
  have called : Ok P w K mg base 4 dCalled _ _ := ok_called e (by decide) (alike.mono (by decide)) (people.mono (by decide)) (byNames.mono (by decide)) (places.mono (by decide))
  have rowBy : Ok P w K mg base 4 dRowBy _ _ := ok_rowBy e (by decide) (less.mono (by decide))
  have tabInit : Ok P w K mg base 4 dTabInit _ _ := ok_tabInit e (alike.mono (by decide)) (people.mono (by decide)) told
  have leads : Ok P w K mg base 5 dLeads _ _ := ok_leads e (alike.mono (by decide)) (places.mono (by decide)) rowBy
  have pgInit : Ok P w K mg base 1 dPgInit _ _ := ok_pgInit e
  have fresh : Ok P w K mg base 3 dFresh _ _ := ok_fresh e (by decide) pgInit
  have sqInit : Ok P w K mg base 4 dSqInit _ _ := ok_sqInit e fresh
  have page : Ok P w K mg base 1 dPage _ _ := ok_page e
  have stands : Ok P w K mg base 2 dStands _ _ := ok_stands e page
  have begun : Ok P w K mg base 2 dBegun _ _ := ok_begun e page
  have word : Ok P w K mg base 2 dWord _ _ := ok_word e page
  have sqLen : Ok P w K mg base 3 dSqLen _ _ := ok_sqLen e stands
  have deeds : Ok P w K mg base 1 dDeeds _ _ := ok_deeds e
  have marks : Ok P w K mg base 1 dMarks _ _ := ok_marks e
  have sqLook : Ok P w K mg base 3 dSqLook _ _ := ok_sqLook e stands
  have table : Ok P w K mg base 6 dTable _ _ := ok_table e (stands.mono (by decide)) (word.mono (by decide)) tabInit
  have call : Ok P w K mg base 5 dCall _ _ := ok_call e (stands.mono (by decide)) (sqLook.mono (by decide)) (callOf.mono (by decide)) (plain.mono (by decide)) called (begun.mono (by decide)) (word.mono (by decide)) (j := 1) (by decide) pgInit
  have come : Ok P w K mg base 5 dCome _ _ := ok_come e (stands.mono (by decide)) (fresh.mono (by decide)) (j := 3) (by decide) sqLen
  have leave : Ok P w K mg base 5 dLeave _ _ := ok_leave e (stands.mono (by decide)) (place.mono (by decide)) (fresh.mono (by decide)) (j := 3) (by decide) sqLen
  have change : Ok P w K mg base 4 dChange _ _ := ok_change e (stands.mono (by decide)) (place.mono (by decide)) fresh
  have undo : Ok P w K mg base 2 dUndo _ _ := ok_undo e deeds
  have asOf : Ok P w K mg base 6 dAsOf _ _ := ok_asOf e (deeds.mono (by decide)) (stands.mono (by decide)) (j := 4) (by decide) sqInit
  have rows : Ok P w K mg base 5 dRows _ _ := ok_rows e called
  have calledAll : Ok P w K mg base 6 dCalledAll _ _ := ok_calledAll e rows
  have box : Ok P w K mg base 1 lBox _ _ := ok_box e
  have take : Ok P w K mg base 1 lTake _ _ := ok_take e
  have pick : Ok P w K mg base 2 lPick _ _ := ok_pick e take
  have same0 : Ok P w K mg base 1 lSame _ (spSame 0) := ok_same e (k := 0) fun m h => absurd h (by omega)
  have same1 : Ok P w K mg base 2 lSame _ (spSame 1) := ok_same e fun m h => by
    have : m = 0 := by omega
    subst this
    exact same0
  have same2 : Ok P w K mg base 3 lSame _ (spSame 2) := ok_same e fun m h => by
    have : m = 1 := by omega
    subst this
    exact same1
  have folded : Ok P w K mg base 1 lFolded _ _ := ok_folded e
  have row : Ok P w K mg base 2 lRow _ _ := ok_row e take
  have lcalled : Ok P w K mg base 1 lCalled _ _ := ok_lcalled e
  have names : Ok P w K mg base 1 lNames _ _ := ok_names e
  have deed : Ok P w K mg base 6 lDeed _ _ := ok_deed e (take.mono (by decide)) (pick.mono (by decide)) (names.mono (by decide)) (lcalled.mono (by decide)) (change.mono (by decide)) leave come call
  have right : Ok P w K mg base 7 lRight _ _ := ok_right e (ji := 4) (jl := 3) (by decide) (by decide) sqInit sqLen (row.mono (by decide)) (names.mono (by decide)) (take.mono (by decide)) deed (same2.mono (by decide)) (stands.mono (by decide)) (word.mono (by decide)) (begun.mono (by decide)) (deeds.mono (by decide)) (marks.mono (by decide)) table (leads.mono (by decide)) calledAll asOf (undo.mono (by decide))
  exact body_law e F (folded.mono (by decide)) right (box.mono (by decide))
end
end Sb
/-! The end. -/
namespace Sb
open PySem PySem.Spec PyProof.Rows L2 LamX
theorem en_of {P : Program} {w : World} {K : PySem.W.Frag} {h base : Heap} {mg : Str → Option Value} (X : K.In h) (G : h.Ns mainGlobals mg) (c : He.SaysX fa fn [] tf exB w h K) (tb : ∀ p ∈ tf, TabB base mg (He.cT K p).1 (He.cT K p).2) : En P w K mg base where
  glo := fun x hx => He.glo_ok X G (c.t.d.facts (f := .glo x) (List.mem_append_left _ (List.mem_map_of_mem hx)))
  free := fun x hx => He.free_ok X G (c.t.d.facts (f := .free x) (List.mem_append_right _ (List.mem_append_left _ (List.mem_map_of_mem hx))))
  says := c.t.d
  tne := by
    have h := c.more
    unfold exB at h
    intro z
    rw [decide_eq_true z] at h
    cases h
  tb := tb
theorem tabs_of {K : PySem.W.Frag} {H : Hp} (h : ∀ p ∈ tf.map (He.cT K), H p.2 = some (.tbl #[])) : Tabs (tabsOf K) H := by
  intro p hp
  unfold tabsOf at hp
  rcases List.mem_cons.mp hp with z | z
  · rw [z]
    exact TabS.nil (h _ (List.mem_map_of_mem (f := He.cT K) (a := (("called", none) : He.Defn)) (by decide)))
  · rw [List.mem_singleton.mp z]
    exact TabS.nil (h _ (List.mem_map_of_mem (f := He.cT K) (a := (("row_by", none) : He.Defn)) (by decide)))
theorem facts {w : World} {K : PySem.W.Frag} {h : Heap} {mg : Str → Option Value} {f : Addr} (X : K.In h) (G : h.Ns mainGlobals mg) (hfa : mg ("law" : Str) = some (.ref f)) (c : He.SaysX fa fn [] tf exB w h K) :
    LawAtS PySem.Challenge.rw_standby_k90_whole_a_square_at_the_bounds w K CX0 8 63 "_law_script" mg f h := by
  obtain ⟨fd, F⟩ := c.t.d.def_ 48 (d := lLaw) rfl
  have eg : mg ("law" : Str) = some (.ref (He.ga K "law")) := He.glo_ok X G (c.t.d.facts (f := .glo "law") (List.mem_append_left _ (List.mem_map_of_mem (by decide +kernel))))
  have e := hfa.symm.trans eg
  cases e
  have b := FunD.bindsA (ps := ["_law_script"]) F fun _ _ _ _ _ _ us hl => match us, hl with | [_], _ => rfl
  refine ⟨fd, tf.map (He.cT K), spLaw K, fun p hp => ?_, fun p hp => ?_, fun p hp => ?_, fun s u => b s [u] rfl, fun H a ns hl _ hH hS => ⟨a, ns, rfl, hS, by omega, tabs_of hH, fun _ => rfl⟩, fun base KB GB tb => ?_⟩
  · obtain ⟨q, hq, rfl⟩ := List.mem_map.mp hp
    exact c.empty q hq
  · obtain ⟨q, hq, rfl⟩ := List.mem_map.mp hp
    exact c.out q hq
  · obtain ⟨q, hq, rfl⟩ := List.mem_map.mp hp
    exact PySem.W.codeHd_of_K X (c.hd q hq)
  · exact ok_law (en_of X G c fun p hp => tb _ (List.mem_map_of_mem hp)) F
end Sb
open PySem PySem.W PySem.Calls PyProof.Rows
theorem PySem.Challenge.cw_standby_k90_whole_a_square_at_the_bounds_holds : PySem.Challenge.rw_standby_k90_whole_a_square_at_the_bounds.Holds := by
  w_on; o_law
  refine HandSHeadRun.head_any (r := OpenLaw.row PySem.Challenge.rw_standby_k90_whole_a_square_at_the_bounds) (q := view (OpenLaw.row PySem.Challenge.rw_standby_k90_whole_a_square_at_the_bounds).prog [49]) (H := Sb.hk) (ob := Sb.ob) (M := 8000) (loose := Sb.loose) (d := HandSHeadRun.topDef (OpenLaw.row PySem.Challenge.rw_standby_k90_whole_a_square_at_the_bounds).prog 49) (kwd := []) Sb.ob_eq
    (by kernel_rfl) (fun s => by kernel_rfl) Sb.run (by kernel_rfl) (by kernel_rfl) (by kernel_rfl) (by rfl) (by first | assumption | decide +kernel) (by decide +kernel) ⟨rfl, rfl, rfl, rfl, rfl, by decide +kernel⟩ ?hw ?hc
  case hw => w_witness2
  case hc =>
    refine LamX.walk_ofTsE (l := PySem.Challenge.rw_standby_k90_whole_a_square_at_the_bounds) (n := 63) (k := 8) (x := "_law_script") (CX := fun _ => L2.CX0) rfl (by decide) (by kernel_rfl) ⟨rfl, by decide, by decide⟩ ?F (fun _ _ _ _ _ z => z)
    intro w mg fa h Y G hmg0
    obtain ⟨K, KX, c⟩ := Y
    have hmg : mg ("law" : PySem.Str) = some (.ref fa) := by
      have e : (HandSHeadRun.topDef (OpenLaw.row PySem.Challenge.rw_standby_k90_whole_a_square_at_the_bounds).prog 49).name = ("law" : PySem.Str) := by kernel_rfl
      rw [← e]
      exact hmg0
    exact ⟨K, KX, Sb.facts KX G hmg c⟩
