import PyProof.Rows.All
import PyVbceah
import Wide.All
import OpenK.AllK
import Wide.FinOn
import PyProof.EqAt
import PyProof.EqKinds
import PyProof.TupleCall
import PyProof.TypeOfCall
import Open.SpecLaws
import KE.OsGo
import KE.GoesEnum
import KE.GoesZip
import KE.GoesMore
import HandS.ForSpec
import HandS.ForMost
import HandS.Walk
import HandS.Conv
import HandS.TupAny
import HandS.TupMul
import HandS.Style
import HandS.NoneIn
import HandS.SetFor
import HandS.SortInts
import HandS.SortRule
import HandS.Zip
import PySem.Challenge.RW_twodesks_s01_answers
set_option Elab.async false
/-! Two desks, the plain mathematics, part 1: work at a desk, the search for the least end. -/
namespace TdM
open Vbceah

/-! ### work at a desk -/
/-- each stretch is from a moment to a later one -/
def Ok (e : Breaks) : Prop := ∀ b ∈ e, b.1 < b.2
theorem Ok.tl {b : Nat × Nat} {l : Breaks} (h : Ok (b :: l)) : Ok l := fun x hx => h x (List.mem_cons_of_mem _ hx)
theorem Ok.hd {b : Nat × Nat} {l : Breaks} (h : Ok (b :: l)) : b.1 < b.2 := h b List.mem_cons_self
theorem Ok.nil : Ok [] := fun _ h => nomatch h

theorem worked_cons (b : Nat × Nat) (l : Breaks) (t w : Nat) : worked (b :: l) t w = if w = 0 then t else if b.2 ≤ t then worked l t w else if w ≤ b.1 - t then t + w else worked l b.2 (w - (b.1 - t)) := rfl
theorem worked_zero (e : Breaks) (t : Nat) : worked e t 0 = t := by
  cases e with
  | nil => rfl
  | cons b l => simp [worked]

theorem worked_ge : ∀ (e : Breaks) (t w : Nat), t ≤ worked e t w
  | [], t, w => by simp [worked]
  | b :: l, t, w => by
    unfold worked
    by_cases h0 : w = 0
    · rw [if_pos h0]; exact Nat.le_refl _
    · rw [if_neg h0]
      by_cases h1 : b.2 ≤ t
      · rw [if_pos h1]; exact worked_ge l t w
      · rw [if_neg h1]
        dsimp only
        by_cases h2 : w ≤ b.1 - t
        · rw [if_pos h2]; omega
        · rw [if_neg h2]
          have := worked_ge l b.2 (w - (b.1 - t))
          omega

theorem worked_mono : ∀ (e : Breaks) (t t' w w' : Nat), Ok e → t ≤ t' → w ≤ w' → worked e t w ≤ worked e t' w'
  | [], t, t', w, w', _, h1, h2 => by simp only [worked]; omega
  | b :: l, t, t', w, w', ok, h1, h2 => by
    have hb := ok.hd
    by_cases h0 : w = 0
    · subst h0
      rw [worked_zero]
      have := worked_ge (b :: l) t' w'
      omega
    · have h0' : ¬ w' = 0 := by omega
      unfold worked
      rw [if_neg h0, if_neg h0']
      dsimp only
      by_cases h3 : b.2 ≤ t
      · rw [if_pos h3, if_pos (by omega)]
        exact worked_mono l t t' w w' ok.tl h1 h2
      · rw [if_neg h3]
        by_cases h4 : b.2 ≤ t'
        · rw [if_pos h4]
          by_cases h5 : w ≤ b.1 - t
          · rw [if_pos h5]
            have := worked_ge l t' w'
            omega
          · rw [if_neg h5]
            exact worked_mono l b.2 t' _ _ ok.tl h4 (by omega)
        · rw [if_neg h4]
          by_cases h5 : w ≤ b.1 - t
          · rw [if_pos h5]
            by_cases h6 : w' ≤ b.1 - t'
            · rw [if_pos h6]; omega
            · rw [if_neg h6]
              have := worked_ge l b.2 (w' - (b.1 - t'))
              omega
          · rw [if_neg h5, if_neg (by omega)]
            exact worked_mono l b.2 b.2 _ _ ok.tl (Nat.le_refl _) (by omega)

theorem worked_add : ∀ (e : Breaks) (t a b : Nat), Ok e → worked e (worked e t a) b = worked e t (a + b)
  | [], t, a, b, _ => by simp only [worked]; omega
  | x :: l, t, a, b, ok => by
    have hx := ok.hd
    by_cases ha : a = 0
    · subst ha; rw [worked_zero, Nat.zero_add]
    · by_cases hb : b = 0
      · subst hb; rw [worked_zero, Nat.add_zero]
      · have hab : ¬ a + b = 0 := by omega
        by_cases h3 : x.2 ≤ t
        · have e1 : worked (x :: l) t a = worked l t a := by
            conv => lhs; unfold worked
            rw [if_neg ha, if_pos h3]
          have e2 : worked (x :: l) t (a + b) = worked l t (a + b) := by
            conv => lhs; unfold worked
            rw [if_neg hab, if_pos h3]
          have g := worked_ge l t a
          have e3 : worked (x :: l) (worked l t a) b = worked l (worked l t a) b := by
            conv => lhs; unfold worked
            rw [if_neg hb, if_pos (by omega)]
          rw [e1, e2, e3]
          exact worked_add l t a b ok.tl
        · by_cases h5 : a ≤ x.1 - t
          · have e1 : worked (x :: l) t a = t + a := by
              conv => lhs; unfold worked
              rw [if_neg ha, if_neg h3]
              dsimp only
              rw [if_pos h5]
            rw [e1]
            unfold worked
            rw [if_neg hb, if_neg hab, if_neg h3, if_neg (show ¬ x.2 ≤ t + a by omega)]
            dsimp only
            by_cases h6 : a + b ≤ x.1 - t
            · rw [if_pos h6, if_pos (by omega)]; omega
            · rw [if_neg h6, if_neg (by omega)]
              congr 1
              omega
          · have e1 : worked (x :: l) t a = worked l x.2 (a - (x.1 - t)) := by
              conv => lhs; unfold worked
              rw [if_neg ha, if_neg h3]
              dsimp only
              rw [if_neg h5]
            have e2 : worked (x :: l) t (a + b) = worked l x.2 (a + b - (x.1 - t)) := by
              conv => lhs; unfold worked
              rw [if_neg hab, if_neg h3]
              dsimp only
              rw [if_neg (by omega)]
            have g := worked_ge l x.2 (a - (x.1 - t))
            have e3 : worked (x :: l) (worked l x.2 (a - (x.1 - t))) b = worked l (worked l x.2 (a - (x.1 - t))) b := by
              conv => lhs; unfold worked
              rw [if_neg hb, if_pos (by omega)]
            rw [e1, e2, e3, worked_add l _ _ _ ok.tl]
            congr 1
            omega

/-- what the state's stretches are -/
theorem ok_of_behind : ∀ {e : Breaks}, behindOther e = true → Ok e
  | [], _ => .nil
  | [x], h => by
    intro b hb
    have : b = x := by simpa using hb
    subst this
    simpa [behindOther] using h
  | x :: y :: l, h => by
    simp only [behindOther, Bool.and_eq_true, decide_eq_true_eq] at h
    intro b hb
    rcases List.mem_cons.mp hb with rfl | hb
    · exact h.1.1
    · exact ok_of_behind (e := y :: l) h.2 b hb

/-! ### one sheet more -/
theorem placed_mono {e1 e2 : Breaks} (o1 : Ok e1) (o2 : Ok e2) {c d : Clock} (s : Sheet) (h1 : c.one = d.one) (h2 : c.two ≤ d.two) :
    (placed e1 e2 c s).one = (placed e1 e2 d s).one ∧ (placed e1 e2 c s).two ≤ (placed e1 e2 d s).two := by
  simp only [placed]
  rw [h1]
  refine ⟨rfl, worked_mono e2 _ _ _ _ o2 ?_ (Nat.le_refl _)⟩
  omega

end TdM
set_option Elab.async false
set_option linter.all false
/-! Two desks, the plain mathematics, part 2: the search over how far each book is. -/
namespace TdM
open Vbceah

/-! ### the table of a round: first match, stored in place -/
def look (r : Reach) (p : List Nat) : Option Clock := match r with
  | [] => none
  | x :: l => if x.1 = p then some x.2 else look l p
def put (r : Reach) (p : List Nat) (c : Clock) : Reach := match r with
  | [] => [(p, c)]
  | x :: l => if x.1 = p then (p, c) :: l else x :: put l p c
theorem lesserIn_eq : ∀ (r : Reach) (p : List Nat) (c : Clock), lesserIn r p c = match look r p with
    | none => put r p c
    | some x => if c.two < x.two then put r p c else r
  | [], p, c => rfl
  | x :: l, p, c => by
    unfold lesserIn look put
    by_cases h : x.1 = p
    · simp only [if_pos h]
    · simp only [if_neg h]
      rw [lesserIn_eq l p c]
      split
      · rfl
      · split <;> rfl
theorem put_keys : ∀ (r : Reach) (p : List Nat) (c : Clock), (put r p c).map (·.1) = if p ∈ r.map (·.1) then r.map (·.1) else r.map (·.1) ++ [p]
  | [], p, c => by simp [put]
  | x :: l, p, c => by
    unfold put
    by_cases h : x.1 = p
    · simp [if_pos h, h]
    · rw [if_neg h]
      have h' : ¬ p = x.1 := fun e => h e.symm
      simp only [List.map_cons, List.mem_cons, h', false_or]
      rw [put_keys l p c]
      split <;> simp
theorem look_none {r : Reach} {p : List Nat} : look r p = none ↔ p ∉ r.map (·.1) := by
  induction r with
  | nil => simp [look]
  | cons x l ih =>
    unfold look
    by_cases h : x.1 = p
    · simp [if_pos h, h]
    · rw [if_neg h, ih]
      have h' : ¬ p = x.1 := fun e => h e.symm
      simp [h']
theorem look_mem {p : List Nat} {c : Clock} : ∀ {r : Reach}, look r p = some c → (p, c) ∈ r
  | x :: l, h => by
    unfold look at h
    by_cases e : x.1 = p
    · rw [if_pos e] at h
      have h2 := Option.some.inj h
      rw [← e, ← h2]
      exact List.mem_cons_self
    · rw [if_neg e] at h
      exact List.mem_cons_of_mem _ (look_mem h)
theorem put_mem {p q : List Nat} {c d : Clock} : ∀ {r : Reach}, (q, d) ∈ put r p c → (q = p ∧ d = c) ∨ (q, d) ∈ r
  | [], h => by
    simp only [put, List.mem_singleton, Prod.mk.injEq] at h
    exact .inl h
  | x :: l, h => by
    unfold put at h
    by_cases e : x.1 = p
    · rw [if_pos e] at h
      rcases List.mem_cons.mp h with h | h
      · exact .inl (Prod.mk.inj h)
      · exact .inr (List.mem_cons_of_mem _ h)
    · rw [if_neg e] at h
      rcases List.mem_cons.mp h with h | h
      · exact .inr (h ▸ List.mem_cons_self)
      · rcases put_mem h with h | h
        · exact .inl h
        · exact .inr (List.mem_cons_of_mem _ h)
theorem mem_put_self {p : List Nat} {c : Clock} : ∀ {r : Reach}, (p, c) ∈ put r p c
  | [] => by simp [put]
  | x :: l => by
    unfold put
    by_cases e : x.1 = p
    · rw [if_pos e]; exact List.mem_cons_self
    · rw [if_neg e]; exact List.mem_cons_of_mem _ mem_put_self
theorem mem_put_ne {p q : List Nat} {c d : Clock} (hn : q ≠ p) : ∀ {r : Reach}, (q, d) ∈ r → (q, d) ∈ put r p c
  | x :: l, h => by
    unfold put
    by_cases e : x.1 = p
    · rw [if_pos e]
      rcases List.mem_cons.mp h with h | h
      · exact absurd (by rw [← e, ← h]) hn
      · exact List.mem_cons_of_mem _ h
    · rw [if_neg e]
      rcases List.mem_cons.mp h with h | h
      · rw [h]; exact List.mem_cons_self
      · exact List.mem_cons_of_mem _ (mem_put_ne hn h)
theorem put_ne_nil {r : Reach} {p : List Nat} {c : Clock} : put r p c ≠ [] := fun e => by
  have := mem_put_self (p := p) (c := c) (r := r)
  rw [e] at this
  cases this
/-- an entry of a table without a key twice -/
theorem nodup_same {r : Reach} (nd : (r.map (·.1)).Nodup) {p : List Nat} {c d : Clock} (h1 : (p, c) ∈ r) (h2 : (p, d) ∈ r) : c = d := by
  induction r with
  | nil => cases h1
  | cons x l ih =>
    simp only [List.map_cons, List.nodup_cons] at nd
    rcases List.mem_cons.mp h1 with h1 | h1
    · rcases List.mem_cons.mp h2 with h2 | h2
      · have := h1.trans h2.symm
        exact (Prod.mk.inj this).2
      · exact absurd (List.mem_map.mpr ⟨(p, d), h2, by rw [← h1]⟩) nd.1
    · rcases List.mem_cons.mp h2 with h2 | h2
      · exact absurd (List.mem_map.mpr ⟨(p, c), h1, by rw [← h2]⟩) nd.1
      · exact ih nd.2 h1 h2
theorem put_nodup {r : Reach} (nd : (r.map (·.1)).Nodup) (p : List Nat) (c : Clock) : ((put r p c).map (·.1)).Nodup := by
  rw [put_keys]
  split
  · exact nd
  · rename_i h
    rw [List.nodup_append]
    refine ⟨nd, by simp, ?_⟩
    intro a ha b hb e
    have : b = p := by simpa using hb
    subst this
    subst e
    exact h ha

/-! ### how far the books are -/
/-- the computing times of what is done -/
def work (bs : List Book) (p : List Nat) : Nat := ((bs.zip p).map fun x => ((x.1.take x.2).map (·.first)).sum).sum
/-- p is as long as the books, and no book is further than it is long -/
structure Far (bs : List Book) (p : List Nat) : Prop where
  len : p.length = bs.length
  le : ∀ b, p.getD b 0 ≤ (bookAt bs b).length
/-- one sheet of book b more -/
def next (bs : List Book) (e1 e2 : Breaks) (p : List Nat) (c : Clock) (b : Nat) : Option (List Nat × Clock) :=
  ((bookAt bs b)[p.getD b 0]?).map fun s => (p.set b (p.getD b 0 + 1), placed e1 e2 c s)

theorem bookAt_ge {bs : List Book} {b : Nat} (h : bs.length ≤ b) : bookAt bs b = [] := by
  unfold bookAt
  rw [List.getD_eq_getElem?_getD, List.getElem?_eq_none h]
  rfl
theorem lt_of_sheet {bs : List Book} {b i : Nat} {s : Sheet} (h : (bookAt bs b)[i]? = some s) : b < bs.length := by
  apply Classical.byContradiction
  intro hn
  rw [bookAt_ge (Nat.le_of_not_lt hn)] at h
  simp at h
theorem getD_set {l : List Nat} {b c v : Nat} : (l.set b v).getD c 0 = if b = c ∧ b < l.length then v else l.getD c 0 := by
  rw [List.getD_eq_getElem?_getD, List.getD_eq_getElem?_getD, List.getElem?_set]
  by_cases h : b = c
  · subst h
    by_cases h2 : b < l.length
    · simp [h2]
    · simp [h2]
  · simp [h]
theorem Far.step {bs : List Book} {p : List Nat} (F : Far bs p) {b : Nat} {s : Sheet} (h : (bookAt bs b)[p.getD b 0]? = some s) : Far bs (p.set b (p.getD b 0 + 1)) := by
  refine ⟨by rw [List.length_set]; exact F.len, fun c => ?_⟩
  rw [getD_set]
  split
  · rename_i e
    obtain ⟨e, _⟩ := e
    subst e
    have := (List.getElem?_eq_some_iff.mp h).1
    omega
  · exact F.le c
theorem sum_set {l : List Nat} {b : Nat} (h : b < l.length) (v : Nat) : (l.set b v).sum + l.getD b 0 = l.sum + v := by
  induction l generalizing b with
  | nil => simp at h
  | cons x l ih =>
    cases b with
    | zero => simp; omega
    | succ b =>
      have := ih (b := b) (by simpa using h)
      simp at this ⊢
      omega
theorem take_succ_sum {l : Book} {i : Nat} {s : Sheet} (h : l[i]? = some s) : ((l.take (i + 1)).map (·.first)).sum = ((l.take i).map (·.first)).sum + s.first := by
  rw [List.take_add_one, h]
  simp
theorem work_step {bs : List Book} {p : List Nat} {b : Nat} {s : Sheet} (hl : p.length = bs.length) (h : (bookAt bs b)[p.getD b 0]? = some s) :
    work bs (p.set b (p.getD b 0 + 1)) = work bs p + s.first := by
  unfold work
  induction bs generalizing p b with
  | nil => rw [bookAt_ge (by simp)] at h; simp at h
  | cons x bs ih =>
    cases p with
    | nil => simp at hl
    | cons q p =>
      cases b with
      | zero =>
        have h' : x[q]? = some s := by simpa [bookAt] using h
        have := take_succ_sum h'
        simp at this ⊢
        omega
      | succ b =>
        have := ih (p := p) (b := b) (by simpa using hl) (by simpa [bookAt] using h)
        simp at this ⊢
        omega

/-- r's entries go on from p0, c0: n sheets more; the first desk's clock is told by how far they are -/
structure Good (bs : List Book) (e1 : Breaks) (p0 : List Nat) (c0 : Clock) (n : Nat) (r : Reach) : Prop where
  nd : (r.map (·.1)).Nodup
  far : ∀ p c, (p, c) ∈ r → Far bs p
  sum : ∀ p c, (p, c) ∈ r → p.sum = p0.sum + n
  one : ∀ p c, (p, c) ∈ r → ∃ d, work bs p = work bs p0 + d ∧ c.one = worked e1 c0.one d
theorem Good.start {bs : List Book} {e1 : Breaks} {p0 : List Nat} {c0 : Clock} (F : Far bs p0) : Good bs e1 p0 c0 0 [(p0, c0)] := by
  refine ⟨by simp, fun p c h => ?_, fun p c h => ?_, fun p c h => ?_⟩
  all_goals
    have h' := Prod.mk.inj (List.mem_singleton.mp h)
    obtain ⟨rfl, rfl⟩ := h'
  · exact F
  · rfl
  · exact ⟨0, rfl, (worked_zero _ _).symm⟩
theorem Good.ones {bs : List Book} {e1 : Breaks} {p0 : List Nat} {c0 : Clock} {n : Nat} {r : Reach} (g : Good bs e1 p0 c0 n r) {p : List Nat} {c x : Clock} (h : (p, c) ∈ r)
    (hx : ∃ d, work bs p = work bs p0 + d ∧ x.one = worked e1 c0.one d) : x.one = c.one := by
  obtain ⟨d, h1, h2⟩ := g.one p c h
  obtain ⟨d', h3, h4⟩ := hx
  have : d = d' := by omega
  subst this
  rw [h2, h4]

/-- an entry that may be laid into the round that is being made -/
structure Fits (bs : List Book) (e1 : Breaks) (p0 : List Nat) (c0 : Clock) (n : Nat) (p : List Nat) (c : Clock) : Prop where
  far : Far bs p
  sum : p.sum = p0.sum + n
  one : ∃ d, work bs p = work bs p0 + d ∧ c.one = worked e1 c0.one d
theorem Good.fits {bs : List Book} {e1 : Breaks} {p0 : List Nat} {c0 : Clock} {n : Nat} {r : Reach} (g : Good bs e1 p0 c0 n r) {p : List Nat} {c : Clock} (h : (p, c) ∈ r) : Fits bs e1 p0 c0 n p c :=
  ⟨g.far p c h, g.sum p c h, g.one p c h⟩
theorem Good.nil {bs : List Book} {e1 : Breaks} {p0 : List Nat} {c0 : Clock} {n : Nat} : Good bs e1 p0 c0 n [] := ⟨by simp, by simp, by simp, by simp⟩
theorem Good.put {bs : List Book} {e1 : Breaks} {p0 : List Nat} {c0 : Clock} {n : Nat} {r : Reach} (g : Good bs e1 p0 c0 n r) {p : List Nat} {c : Clock} (f : Fits bs e1 p0 c0 n p c) : Good bs e1 p0 c0 n (put r p c) := by
  refine ⟨put_nodup g.nd p c, fun q d h => ?_, fun q d h => ?_, fun q d h => ?_⟩
  all_goals rcases put_mem h with ⟨rfl, rfl⟩ | h
  · exact f.far
  · exact g.far q d h
  · exact f.sum
  · exact g.sum q d h
  · exact f.one
  · exact g.one q d h
theorem Good.lesser {bs : List Book} {e1 : Breaks} {p0 : List Nat} {c0 : Clock} {n : Nat} {r : Reach} (g : Good bs e1 p0 c0 n r) {p : List Nat} {c : Clock} (f : Fits bs e1 p0 c0 n p c) : Good bs e1 p0 c0 n (lesserIn r p c) := by
  rw [lesserIn_eq]
  split
  · exact g.put f
  · split
    · exact g.put f
    · exact g
theorem Fits.step {bs : List Book} {e1 e2 : Breaks} (o1 : Ok e1) {p0 : List Nat} {c0 : Clock} {n : Nat} {p : List Nat} {c : Clock} (f : Fits bs e1 p0 c0 n p c) {b : Nat} {s : Sheet} (h : (bookAt bs b)[p.getD b 0]? = some s) :
    Fits bs e1 p0 c0 (n + 1) (p.set b (p.getD b 0 + 1)) (placed e1 e2 c s) := by
  refine ⟨f.far.step h, ?_, ?_⟩
  · have hb : b < p.length := by rw [f.far.len]; exact lt_of_sheet h
    have := sum_set hb (p.getD b 0 + 1)
    have := f.sum
    omega
  · obtain ⟨d, h1, h2⟩ := f.one
    refine ⟨d + s.first, ?_, ?_⟩
    · rw [work_step f.far.len h]; omega
    · simp only [placed]
      rw [h2, worked_add _ _ _ _ o1]

/-! ### one round -/
/-- one entry's part of a round -/
def fromOne (bs : List Book) (e1 e2 : Breaks) (p : List Nat) (c : Clock) (l : List Nat) (m : Reach) : Reach := l.foldl (fun m b => match (bookAt bs b)[p.getD b 0]? with
  | none => m
  | some s => lesserIn m (p.set b (p.getD b 0 + 1)) (placed e1 e2 c s)) m
theorem further_eq (bs : List Book) (e1 e2 : Breaks) (r : Reach) : further bs e1 e2 r = r.foldl (fun m x => fromOne bs e1 e2 x.1 x.2 (List.range bs.length) m) [] := rfl
theorem fromOne_cons (bs : List Book) (e1 e2 : Breaks) (p : List Nat) (c : Clock) (b : Nat) (l : List Nat) (m : Reach) :
    fromOne bs e1 e2 p c (b :: l) m = fromOne bs e1 e2 p c l (match (bookAt bs b)[p.getD b 0]? with
  | none => m
  | some s => lesserIn m (p.set b (p.getD b 0 + 1)) (placed e1 e2 c s)) := rfl
theorem good_fromOne {bs : List Book} {e1 e2 : Breaks} (o1 : Ok e1) {p0 : List Nat} {c0 : Clock} {n : Nat} {p : List Nat} {c : Clock} (f : Fits bs e1 p0 c0 n p c) : ∀ (l : List Nat) (m : Reach),
    Good bs e1 p0 c0 (n + 1) m → Good bs e1 p0 c0 (n + 1) (fromOne bs e1 e2 p c l m)
  | [], m, g => g
  | b :: l, m, g => by
    rw [fromOne_cons]
    refine good_fromOne o1 f l _ ?_
    split
    · exact g
    · rename_i s hs
      exact g.lesser (f.step o1 hs)
theorem good_further {bs : List Book} {e1 e2 : Breaks} (o1 : Ok e1) {p0 : List Nat} {c0 : Clock} {n : Nat} {r : Reach} (g : Good bs e1 p0 c0 n r) : Good bs e1 p0 c0 (n + 1) (further bs e1 e2 r) := by
  have key : ∀ (l : Reach), (∀ x ∈ l, x ∈ r) → ∀ m, Good bs e1 p0 c0 (n + 1) m → Good bs e1 p0 c0 (n + 1) (l.foldl (fun m x => fromOne bs e1 e2 x.1 x.2 (List.range bs.length) m) m) := by
    intro l
    induction l with
    | nil => intro _ m gm; exact gm
    | cons x l ih =>
      intro hl m gm
      rw [List.foldl_cons]
      refine ih (fun y hy => hl y (List.mem_cons_of_mem _ hy)) _ ?_
      exact good_fromOne o1 (g.fits (hl x List.mem_cons_self)) _ _ gm
  rw [further_eq]
  exact key r (fun _ h => h) [] Good.nil

/-! ### every way is served -/
/-- r has p, no later -/
def Has (r : Reach) (p : List Nat) (c : Clock) : Prop := ∃ d, (p, d) ∈ r ∧ d.one = c.one ∧ d.two ≤ c.two
theorem has_lesser {bs : List Book} {e1 : Breaks} {p0 : List Nat} {c0 : Clock} {n : Nat} {r : Reach} (g : Good bs e1 p0 c0 n r) {p : List Nat} {c : Clock} (f : Fits bs e1 p0 c0 n p c) : Has (lesserIn r p c) p c := by
  rw [lesserIn_eq]
  split
  · exact ⟨c, mem_put_self, rfl, Nat.le_refl _⟩
  · rename_i x hx
    split
    · exact ⟨c, mem_put_self, rfl, Nat.le_refl _⟩
    · exact ⟨x, look_mem hx, (g.ones (look_mem hx) f.one).symm, by omega⟩
theorem has_keep {bs : List Book} {e1 : Breaks} {p0 : List Nat} {c0 : Clock} {n : Nat} {r : Reach} (g : Good bs e1 p0 c0 n r) {p q : List Nat} {c d : Clock} (f : Fits bs e1 p0 c0 n p c) (h : Has r q d) : Has (lesserIn r p c) q d := by
  obtain ⟨x, h1, h2, h3⟩ := h
  rw [lesserIn_eq]
  by_cases e : q = p
  · subst e
    split
    · rename_i hn
      exact absurd (List.mem_map.mpr ⟨(q, x), h1, rfl⟩) (look_none.mp hn)
    · rename_i y hy
      have exy : x = y := nodup_same g.nd h1 (look_mem hy)
      subst exy
      split
      · refine ⟨c, mem_put_self, ?_, by omega⟩
        rw [g.ones h1 f.one, h2]
      · exact ⟨x, h1, h2, h3⟩
  · split
    · exact ⟨x, mem_put_ne e h1, h2, h3⟩
    · split
      · exact ⟨x, mem_put_ne e h1, h2, h3⟩
      · exact ⟨x, h1, h2, h3⟩
theorem has_fromOne {bs : List Book} {e1 e2 : Breaks} (o1 : Ok e1) {p0 : List Nat} {c0 : Clock} {n : Nat} {p : List Nat} {c : Clock} (f : Fits bs e1 p0 c0 n p c) : ∀ (l : List Nat) (m : Reach), Good bs e1 p0 c0 (n + 1) m →
    (∀ q d, Has m q d → Has (fromOne bs e1 e2 p c l m) q d) ∧ ∀ b ∈ l, ∀ q d, next bs e1 e2 p c b = some (q, d) → Has (fromOne bs e1 e2 p c l m) q d
  | [], m, g => ⟨fun _ _ h => h, fun _ h => nomatch h⟩
  | b :: l, m, g => by
    rw [fromOne_cons]
    cases hs : (bookAt bs b)[p.getD b 0]? with
    | none =>
      obtain ⟨k1, k2⟩ := has_fromOne o1 f l m g
      refine ⟨k1, fun b' hb q d e => ?_⟩
      rcases List.mem_cons.mp hb with rfl | hb
      · unfold next at e
        rw [hs] at e
        cases e
      · exact k2 b' hb q d e
    | some s =>
      have f' := f.step (e2 := e2) o1 hs
      obtain ⟨k1, k2⟩ := has_fromOne o1 f l _ (g.lesser f')
      refine ⟨fun q d h => k1 q d (has_keep g f' h), fun b' hb q d e => ?_⟩
      rcases List.mem_cons.mp hb with rfl | hb
      · unfold next at e
        rw [hs] at e
        have e' := Prod.mk.inj (Option.some.inj e)
        rw [← e'.1, ← e'.2]
        exact k1 _ _ (has_lesser g f')
      · exact k2 b' hb q d e
theorem has_further {bs : List Book} {e1 e2 : Breaks} (o1 : Ok e1) {p0 : List Nat} {c0 : Clock} {n : Nat} {r : Reach} (g : Good bs e1 p0 c0 n r) {p : List Nat} {c : Clock} (h : (p, c) ∈ r) {b : Nat} {q : List Nat} {d : Clock} (e : next bs e1 e2 p c b = some (q, d)) :
    Has (further bs e1 e2 r) q d := by
  have hb : b < bs.length := by
    unfold next at e
    cases hs : (bookAt bs b)[p.getD b 0]? with
    | none => rw [hs] at e; cases e
    | some s => exact lt_of_sheet hs
  have key : ∀ (l : Reach), (∀ x ∈ l, x ∈ r) → ∀ m, Good bs e1 p0 c0 (n + 1) m → ((p, c) ∈ l ∨ Has m q d) → Has (l.foldl (fun m x => fromOne bs e1 e2 x.1 x.2 (List.range bs.length) m) m) q d := by
    intro l
    induction l with
    | nil => intro _ m _ hm; exact hm.elim (fun z => nomatch z) id
    | cons x l ih =>
      intro hl m gm hm
      rw [List.foldl_cons]
      have fx := g.fits (hl x List.mem_cons_self)
      obtain ⟨k1, k2⟩ := has_fromOne (e2 := e2) o1 fx (List.range bs.length) m gm
      refine ih (fun y hy => hl y (List.mem_cons_of_mem _ hy)) _ (good_fromOne o1 fx _ _ gm) ?_
      rcases hm with hm | hm
      · rcases List.mem_cons.mp hm with hm | hm
        · right
          subst hm
          exact k2 b (List.mem_range.mpr hb) q d e
        · exact .inl hm
      · exact .inr (k1 q d hm)
  rw [further_eq]
  exact key r (fun _ h => h) [] Good.nil (.inl h)
/-- what stands in a round came from one step -/
theorem mem_lesser {r : Reach} {p q : List Nat} {c d : Clock} (h : (q, d) ∈ lesserIn r p c) : (q = p ∧ d = c) ∨ (q, d) ∈ r := by
  rw [lesserIn_eq] at h
  split at h
  · exact put_mem h
  · split at h
    · exact put_mem h
    · exact .inr h
theorem mem_fromOne {bs : List Book} {e1 e2 : Breaks} {p : List Nat} {c : Clock} {q : List Nat} {d : Clock} : ∀ (l : List Nat) (m : Reach), (q, d) ∈ fromOne bs e1 e2 p c l m → (q, d) ∈ m ∨ ∃ b ∈ l, next bs e1 e2 p c b = some (q, d)
  | [], m, h => .inl h
  | b :: l, m, h => by
    rw [fromOne_cons] at h
    rcases mem_fromOne l _ h with h | ⟨b', hb, e⟩
    · cases hs : (bookAt bs b)[p.getD b 0]? with
      | none => rw [hs] at h; exact .inl h
      | some s =>
        rw [hs] at h
        rcases mem_lesser h with ⟨rfl, rfl⟩ | h
        · refine .inr ⟨b, List.mem_cons_self, ?_⟩
          unfold next
          rw [hs]
          rfl
        · exact .inl h
    · exact .inr ⟨b', List.mem_cons_of_mem _ hb, e⟩
theorem mem_further {bs : List Book} {e1 e2 : Breaks} {r : Reach} {q : List Nat} {d : Clock} (h : (q, d) ∈ further bs e1 e2 r) : ∃ p c b, (p, c) ∈ r ∧ next bs e1 e2 p c b = some (q, d) := by
  have key : ∀ (l : Reach) (m : Reach), (q, d) ∈ l.foldl (fun m x => fromOne bs e1 e2 x.1 x.2 (List.range bs.length) m) m → (q, d) ∈ m ∨ ∃ p c b, (p, c) ∈ l ∧ next bs e1 e2 p c b = some (q, d) := by
    intro l
    induction l with
    | nil => intro m h; exact .inl h
    | cons x l ih =>
      intro m h
      rw [List.foldl_cons] at h
      rcases ih _ h with h | ⟨p, c, b, h1, h2⟩
      · rcases mem_fromOne _ _ h with h | ⟨b, _, e⟩
        · exact .inl h
        · exact .inr ⟨x.1, x.2, b, List.mem_cons_self, e⟩
      · exact .inr ⟨p, c, b, List.mem_cons_of_mem _ h1, h2⟩
  rw [further_eq] at h
  rcases key r [] h with h | h
  · cases h
  · exact h

/-! ### rows of steps -/
inductive Run (bs : List Book) (e1 e2 : Breaks) : List Nat → Clock → Nat → List Nat → Clock → Prop
  | nil (p : List Nat) (c : Clock) : Run bs e1 e2 p c 0 p c
  | cons {p : List Nat} {c : Clock} {b : Nat} {q : List Nat} {d : Clock} {n : Nat} {p' : List Nat} {c' : Clock} : next bs e1 e2 p c b = some (q, d) → Run bs e1 e2 q d n p' c' → Run bs e1 e2 p c (n + 1) p' c'
theorem next_mono {bs : List Book} {e1 e2 : Breaks} (o2 : Ok e2) {p q : List Nat} {c c' d : Clock} {b : Nat} (h1 : c'.one = c.one) (h2 : c'.two ≤ c.two) (e : next bs e1 e2 p c b = some (q, d)) :
    ∃ d', next bs e1 e2 p c' b = some (q, d') ∧ d'.one = d.one ∧ d'.two ≤ d.two := by
  unfold next at e ⊢
  cases hs : (bookAt bs b)[p.getD b 0]? with
  | none => rw [hs] at e; cases e
  | some s =>
    rw [hs] at e
    have e' := Prod.mk.inj (Option.some.inj e)
    rw [← e'.1, ← e'.2]
    refine ⟨placed e1 e2 c' s, rfl, ?_⟩
    simp only [placed]
    rw [h1]
    exact ⟨rfl, worked_mono e2 _ _ _ _ o2 (by omega) (Nat.le_refl _)⟩
theorem Run.mono {bs : List Book} {e1 e2 : Breaks} (o2 : Ok e2) {p p' : List Nat} {c d : Clock} {n : Nat} (h : Run bs e1 e2 p c n p' d) : ∀ {c' : Clock}, c'.one = c.one → c'.two ≤ c.two → ∃ d', Run bs e1 e2 p c' n p' d' ∧ d'.one = d.one ∧ d'.two ≤ d.two := by
  induction h with
  | nil p c => intro c' h1 h2; exact ⟨c', .nil _ _, h1, h2⟩
  | cons e _ ih =>
    intro c' h1 h2
    obtain ⟨d1, k1, k2, k3⟩ := next_mono o2 h1 h2 e
    obtain ⟨d2, k4, k5, k6⟩ := ih k2 k3
    exact ⟨d2, .cons k1 k4, k5, k6⟩
theorem good_reach {bs : List Book} {e1 e2 : Breaks} (o1 : Ok e1) {p0 : List Nat} {c0 : Clock} : ∀ (n k : Nat) (r : Reach), Good bs e1 p0 c0 k r → Good bs e1 p0 c0 (k + n) (reachFrom bs e1 e2 n r)
  | 0, k, r, g => g
  | n + 1, k, r, g => by
    have := good_reach (e2 := e2) o1 n (k + 1) _ (good_further (e2 := e2) o1 g)
    rw [Nat.add_right_comm] at this
    exact this
/-- served -/
theorem has_reach {bs : List Book} {e1 e2 : Breaks} (o1 : Ok e1) (o2 : Ok e2) {p0 : List Nat} {c0 : Clock} : ∀ (n k : Nat) (r : Reach) (p : List Nat) (c : Clock) (p' : List Nat) (c' : Clock), Good bs e1 p0 c0 k r → Has r p c → Run bs e1 e2 p c n p' c' →
    Has (reachFrom bs e1 e2 n r) p' c'
  | 0, k, r, p, c, p', c', g, h, R => by cases R; exact h
  | n + 1, k, r, p, c, p', c', g, ⟨x, h1, h2, h3⟩, R => by
    cases R with
    | cons e R =>
      obtain ⟨d', k1, k2, k3⟩ := next_mono o2 h2 h3 e
      obtain ⟨y, m1, m2, m3⟩ := has_further o1 g h1 k1
      exact has_reach o1 o2 n (k + 1) _ _ _ _ _ (good_further o1 g) ⟨y, m1, m2.trans k2, Nat.le_trans m3 k3⟩ R
/-- .. and nothing else stands there -/
theorem run_reach {bs : List Book} {e1 e2 : Breaks} : ∀ (n : Nat) (r : Reach) (p' : List Nat) (c' : Clock), (p', c') ∈ reachFrom bs e1 e2 n r → ∃ p c, (p, c) ∈ r ∧ Run bs e1 e2 p c n p' c'
  | 0, r, p', c', h => ⟨p', c', h, .nil _ _⟩
  | n + 1, r, p', c', h => by
    obtain ⟨q, d, h1, R⟩ := run_reach n _ p' c' h
    obtain ⟨p, c, b, h2, e⟩ := mem_further h1
    exact ⟨p, c, h2, .cons e R⟩
end TdM
set_option Elab.async false
set_option linter.all false
/-! Two desks: what the program's defs compute, in the specification's words. -/
namespace TdM
open Vbceah

/-- what the calls let be told of books -/
structure Bks (bs : List Book) : Prop where
  few : bs.length ≤ 4
  six : ∀ b ∈ bs, 1 ≤ b.length ∧ b.length ≤ 6
  all : sheetsIn bs ≤ 12
/-- no book is in an order more often than it has sheets -/
def Fit (bs : List Book) (o : List Nat) : Prop := ∀ b, o.count b ≤ (bookAt bs b).length
/-- what holds of the object between two calls -/
structure Iv (s : State) : Prop where
  bks : Bks s.books
  ok1 : Ok s.empty1
  ok2 : Ok s.empty2
  l1 : s.empty1.length ≤ 4
  l2 : s.empty2.length ≤ 4
  fit : Fit s.books s.order
  few : s.order.length ≤ 12
def waitsOf (e1 e2 : Breaks) (l : List Sheet) : List Nat := ((clocks e1 e2 ⟨0, 0⟩ l).zip (⟨0, 0⟩ :: clocks e1 e2 ⟨0, 0⟩ l)).map fun x => x.1.one - x.2.two
def wholeP (bs : List Book) (p : List Nat) : Bool := (bs.zip p).all fun x => !decide (x.2 < x.1.length)
def moreOf (bs : List Book) (p : List Nat) : List Nat := (List.range bs.length).filter fun b => decide (p.getD b 0 < (bookAt bs b).length)
/-- the book that goes on -/
def firstWith (bs : List Book) (e1 e2 : Breaks) (p : List Nat) (c : Clock) (goal : Nat) : Option Nat := (List.range bs.length).find? fun b => match next bs e1 e2 p c b with
  | none => false
  | some x => leastFrom bs e1 e2 x.1 x.2 == goal
def judgeOf (t : Nat) (l : List Int) : List Int := [(verdict t l : Int), if unseen t l = true then 1 else 0, ((candidates t l).length : Int)] ++ candidates t l
def moreAns (t : Nat) (l : List Int) : List Int := match atBest t l with
  | none => [0]
  | some k => [1, (k : Int), (atWorst t l : Int)]
/-- how many of the workings aren't one of the two numbers for which that's least -/
structure Least2 (ns : List Int) (a b : Nat) : Prop where
  ex : ∃ rest : List Nat, (a :: b :: rest).Perm (ns.eraseDups.map (fun v => ns.length - ns.count v) ++ [ns.length, ns.length]) ∧ (a :: b :: rest).Pairwise (· ≤ ·)
end TdM
set_option Elab.async false
set_option linter.all false
/-! Two desks, the plain mathematics, part 3: clocks, sheets of an order. -/
namespace TdM
open Vbceah

theorem clocks_cons (e1 e2 : Breaks) (c : Clock) (s : Sheet) (l : List Sheet) : clocks e1 e2 c (s :: l) = placed e1 e2 c s :: clocks e1 e2 (placed e1 e2 c s) l := rfl
theorem clocks_length (e1 e2 : Breaks) : ∀ (l : List Sheet) (c : Clock), (clocks e1 e2 c l).length = l.length
  | [], _ => rfl
  | s :: l, c => by rw [clocks_cons, List.length_cons, List.length_cons, clocks_length e1 e2 l]
theorem clocks_last (e1 e2 : Breaks) : ∀ (l : List Sheet) (c : Clock), (c :: clocks e1 e2 c l)[l.length]? = some (l.foldl (placed e1 e2) c)
  | [], _ => rfl
  | s :: l, c => by
    rw [clocks_cons, List.length_cons, List.getElem?_cons_succ, clocks_last e1 e2 l]
    rfl
theorem waits_length (e1 e2 : Breaks) (l : List Sheet) : (waitsOf e1 e2 l).length = l.length := by
  unfold waitsOf
  rw [List.length_map, List.length_zip, List.length_cons, clocks_length]
  omega
theorem waits_at {e1 e2 : Breaks} {l : List Sheet} {i : Nat} {c d : Clock} (h1 : (clocks e1 e2 ⟨0, 0⟩ l)[i]? = some c) (h2 : ((⟨0, 0⟩ : Clock) :: clocks e1 e2 ⟨0, 0⟩ l)[i]? = some d) : (waitsOf e1 e2 l)[i]? = some (c.one - d.two) := by
  unfold waitsOf
  have e : ((clocks e1 e2 ⟨0, 0⟩ l).zip (⟨0, 0⟩ :: clocks e1 e2 ⟨0, 0⟩ l))[i]? = some (c, d) := List.getElem?_zip_eq_some.mpr ⟨h1, h2⟩
  rw [List.getElem?_map, e]
  rfl

/-! ### the sheets of an order -/
theorem sheetsOf_cons (bs : List Book) (b : Nat) (l had : List Nat) : sheetsOf bs (b :: l) had = match (bookAt bs b)[doneOf had b]? with
    | none => sheetsOf bs l had
    | some s => s :: sheetsOf bs l (had ++ [b]) := rfl
theorem bookAt_some {bs : List Book} {b : Nat} (h : b < bs.length) : bs[b]? = some (bookAt bs b) := by
  unfold bookAt
  rw [List.getD_eq_getElem?_getD, List.getElem?_eq_getElem h]
  rfl
theorem Fit.lt {bs : List Book} {o : List Nat} (f : Fit bs o) {b : Nat} (h : b ∈ o) : b < bs.length := by
  apply Classical.byContradiction
  intro hn
  have h1 := f b
  rw [bookAt_ge (Nat.le_of_not_lt hn)] at h1
  have := List.count_pos_iff.mpr h
  simp at h1
  omega
theorem Fit.at {bs : List Book} {o : List Nat} (f : Fit bs o) {i b : Nat} (h : o[i]? = some b) : (o.take i).count b < (bookAt bs b).length := by
  have h1 := f b
  have e : o.take (i + 1) = o.take i ++ [b] := by rw [List.take_add_one, h]; rfl
  have h2 : (o.take (i + 1)).count b ≤ o.count b := List.Sublist.count_le b (List.take_sublist _ _)
  rw [e, List.count_append] at h2
  simp at h2
  omega
theorem sheets_step {bs : List Book} {o : List Nat} (f : Fit bs o) {i b : Nat} (h : o[i]? = some b) : ∃ s, (bookAt bs b)[(o.take i).count b]? = some s ∧ sheetsOf bs (o.drop i) (o.take i) = s :: sheetsOf bs (o.drop (i + 1)) (o.take (i + 1)) := by
  have hlt := f.at h
  refine ⟨(bookAt bs b)[(o.take i).count b], List.getElem?_eq_getElem hlt, ?_⟩
  have hl := (List.getElem?_eq_some_iff.mp h).1
  have hx := (List.getElem?_eq_some_iff.mp h).2
  have e1 : o.drop i = b :: o.drop (i + 1) := by rw [← hx]; exact List.drop_eq_getElem_cons hl
  have e2 : o.take (i + 1) = o.take i ++ [b] := by rw [List.take_add_one, h]; rfl
  rw [e1, sheetsOf_cons, show doneOf (o.take i) b = (o.take i).count b from rfl, List.getElem?_eq_getElem hlt, e2]
theorem sheets_length (bs : List Book) : ∀ (l had : List Nat), (sheetsOf bs l had).length ≤ l.length
  | [], _ => Nat.le_refl _
  | b :: l, had => by
    rw [sheetsOf_cons]
    split
    · have := sheets_length bs l had
      simp; omega
    · have := sheets_length bs l (had ++ [b])
      simp; omega
/-- the counts, one more -/
theorem counts_step {n : Nat} {o : List Nat} {b : Nat} (hb : b < n) : ((List.range n).map fun c => o.count c).set b (o.count b + 1) = (List.range n).map fun c => (o ++ [b]).count c := by
  apply List.ext_getElem?
  intro i
  rw [List.getElem?_set]
  by_cases h : b = i
  · subst h
    simp [hb, List.count_append]
  · rw [if_neg h]
    simp only [List.getElem?_map]
    cases hi : (List.range n)[i]? with
    | none => rfl
    | some c =>
      have : c = i := by
        have := (List.getElem?_eq_some_iff.mp hi).2
        simp at this
        exact this.symm
      subst this
      simp [List.count_append, List.count_cons, h]
end TdM
set_option Elab.async false
set_option linter.all false
/-! Two desks, the plain mathematics, part 4: whole books, the rule, the sheet on which the end hangs. -/
namespace TdM
open Vbceah VbceCore

def S1 (l : List Sheet) : Nat := (l.map fun s => s.first).sum
def S2 (l : List Sheet) : Nat := (l.map fun s => s.second).sum
def go (l : List Sheet) (c : Clock) : Clock := l.foldl (placed [] []) c
theorem placed_nil (c : Clock) (s : Sheet) : placed [] [] c s = ⟨c.one + s.first, max c.two (c.one + s.first) + s.second⟩ := rfl
theorem go_cons (s : Sheet) (l : List Sheet) (c : Clock) : go (s :: l) c = go l ⟨c.one + s.first, max c.two (c.one + s.first) + s.second⟩ := rfl
theorem go_app (l m : List Sheet) (c : Clock) : go (l ++ m) c = go m (go l c) := List.foldl_append
theorem S1_cons (s : Sheet) (l : List Sheet) : S1 (s :: l) = s.first + S1 l := by simp [S1]
theorem S2_cons (s : Sheet) (l : List Sheet) : S2 (s :: l) = s.second + S2 l := by simp [S2]
theorem go_one : ∀ (l : List Sheet) (c : Clock), (go l c).one = c.one + S1 l
  | [], c => rfl
  | s :: l, c => by rw [go_cons, go_one l, S1_cons]; simp only; omega
theorem go_two : ∀ (l : List Sheet) (c : Clock), c.one ≤ c.two → (go l c).two = max (c.two + S2 l) (c.one + (go l ⟨0, 0⟩).two) ∧ (go l c).one ≤ (go l c).two
  | [], c, h => by
    show c.two = max (c.two + 0) (c.one + 0) ∧ c.one ≤ c.two
    omega
  | s :: l, c, h => by
    have h1 := go_two l ⟨c.one + s.first, max c.two (c.one + s.first) + s.second⟩ (by simp only; omega)
    have h2 := go_two l ⟨0 + s.first, max 0 (0 + s.first) + s.second⟩ (by simp only; omega)
    rw [go_cons, go_cons, S2_cons]
    simp only at h1 h2 ⊢
    omega
theorem go_ge (l : List Sheet) : S1 l ≤ (go l ⟨0, 0⟩).two ∧ S2 l ≤ (go l ⟨0, 0⟩).two := by
  obtain ⟨h1, h2⟩ := go_two l ⟨0, 0⟩ (Nat.le_refl _)
  have h3 := go_one l ⟨0, 0⟩
  simp only at h1 h2 h3
  omega
theorem blockOf_eq (l : List Sheet) : blockOf l = ⟨S1 l, S2 l, (go l ⟨0, 0⟩).two⟩ := rfl
theorem through_go (l : List Sheet) (c : Clock) (h : c.one ≤ c.two) : through c (blockOf l) = go l c := by
  have h1 := (go_two l c h).1
  have h2 := go_one l c
  have e : go l c = ⟨(go l c).one, (go l c).two⟩ := rfl
  rw [e, h1, h2]
  rfl
theorem end_fold (bs : List Book) : ∀ (ns : List Nat) (c : Clock), c.one ≤ c.two → ns.foldl (fun c i => through c (blockOf (bookAt bs i))) c = go (ns.flatMap (bookAt bs)) c
  | [], c, _ => rfl
  | n :: ns, c, h => by
    rw [List.foldl_cons, through_go _ _ h, List.flatMap_cons, go_app]
    exact end_fold bs ns _ (go_two _ c h).2
theorem end_is (bs : List Book) (ns : List Nat) : endOfBlocks bs ns = (clockOf [] [] (ns.flatMap (bookAt bs))).two := by
  show (ns.foldl (fun c i => through c (blockOf (bookAt bs i))) ⟨0, 0⟩).two = _
  rw [end_fold bs ns _ (Nat.le_refl _)]
  rfl

/-! ### the sheet on which the end hangs -/
def hangs (l : List Sheet) (k : Nat) : Bool := (((l.take (k + 1)).map fun s => s.first).sum + ((l.drop k).map fun s => s.second).sum) == (clockOf [] [] l).two
theorem critical_eq (l : List Sheet) : critical l = (List.range l.length).find? (hangs l) := rfl
theorem hang_some : ∀ (l : List Sheet), l ≠ [] → ∃ k, k < l.length ∧ S1 (l.take (k + 1)) + S2 (l.drop k) = (go l ⟨0, 0⟩).two
  | [], h => absurd rfl h
  | s :: l, _ => by
    have h2 := (go_two l ⟨0 + s.first, max 0 (0 + s.first) + s.second⟩ (by simp only; omega)).1
    rw [go_cons, h2]
    simp only
    by_cases h : s.first + (go l ⟨0, 0⟩).two ≤ s.first + s.second + S2 l
    · refine ⟨0, by simp, ?_⟩
      show S1 [s] + S2 (s :: l) = _
      rw [S1_cons, S2_cons, show S1 [] = 0 from rfl]
      omega
    · have hne : l ≠ [] := by
        rintro rfl
        exact h (by show s.first + 0 ≤ _; omega)
      obtain ⟨k, hk, e⟩ := hang_some l hne
      refine ⟨k + 1, by simp; omega, ?_⟩
      rw [show (s :: l).take (k + 1 + 1) = s :: l.take (k + 1) from rfl, show (s :: l).drop (k + 1) = l.drop k from rfl, S1_cons]
      omega
theorem critical_some {l : List Sheet} (h : l ≠ []) : ∃ k, critical l = some k := by
  obtain ⟨k, hk, e⟩ := hang_some l h
  rw [critical_eq]
  cases hf : (List.range l.length).find? (hangs l) with
  | some j => exact ⟨j, rfl⟩
  | none =>
    have := List.find?_eq_none.mp hf k (List.mem_range.mpr hk)
    exact absurd (show hangs l k = true by unfold hangs; exact beq_iff_eq.mpr e) this
theorem critical_at {l : List Sheet} {k : Nat} (h : critical l = some k) : hangs l k = true ∧ k < l.length ∧ ∀ j, j < k → hangs l j = false := by
  rw [critical_eq] at h
  obtain ⟨h1, h2, h3⟩ := List.find?_range_eq_some.mp h
  exact ⟨h1, List.mem_range.mp h2, fun j hj => by simpa using h3 j hj⟩
theorem critical_nil : critical [] = none := rfl

/-! ### the two-desk rule -/
/-- two rows of the same things in one order -/
theorem perm_uniq {α : Type} {R : α → α → Prop} (as : ∀ a b, R a b → ¬ R b a) : ∀ {l m : List α}, l.Perm m → l.Pairwise R → m.Pairwise R → l = m
  | [], m, p, _, _ => (List.Perm.nil_eq p)
  | a :: l, [], p, _, _ => by have := p.length_eq; simp at this
  | a :: l, b :: m, p, h1, h2 => by
    obtain ⟨ha, hl⟩ := List.pairwise_cons.mp h1
    obtain ⟨hb, hm⟩ := List.pairwise_cons.mp h2
    have e : a = b := by
      have a1 : a ∈ b :: m := p.subset List.mem_cons_self
      have b1 : b ∈ a :: l := p.symm.subset List.mem_cons_self
      rcases List.mem_cons.mp a1 with h | h
      · exact h
      · rcases List.mem_cons.mp b1 with k | k
        · exact k.symm
        · exact absurd (ha b k) (as _ _ (hb a h))
    subst e
    rw [perm_uniq as (List.perm_cons a |>.mp p) hl hm]
theorem insertBy_perm {α : Type} (bf : α → α → Bool) (x : α) : ∀ l : List α, (insertBy bf x l).Perm (x :: l)
  | [] => .refl _
  | y :: l => by
    unfold insertBy
    split
    · exact .refl _
    · exact ((insertBy_perm bf x l).cons y).trans (.swap x y l)
theorem insertBy_sorted {α : Type} {bf : α → α → Bool} (x : α) : ∀ l : List α, (∀ y ∈ l, bf x y = true ∨ bf y x = true) → (∀ a b c, bf a b = true → bf b c = true → bf a c = true) → l.Pairwise (fun a b => bf a b = true) → (insertBy bf x l).Pairwise (fun a b => bf a b = true)
  | [], _, _, _ => by simp [insertBy]
  | y :: l, tot, tr, h => by
    unfold insertBy
    obtain ⟨hy, hl⟩ := List.pairwise_cons.mp h
    split
    · rename_i hb
      refine List.pairwise_cons.mpr ⟨fun z hz => ?_, h⟩
      rcases List.mem_cons.mp hz with rfl | hz
      · exact hb
      · exact tr _ _ _ hb (hy z hz)
    · rename_i hb
      refine List.pairwise_cons.mpr ⟨fun z hz => ?_, insertBy_sorted x l (fun z hz => tot z (List.mem_cons_of_mem _ hz)) tr hl⟩
      rcases List.mem_cons.mp ((insertBy_perm bf x l).subset hz) with rfl | hz
      · exact (tot y List.mem_cons_self).resolve_left hb
      · exact hy z hz
theorem sortBy_perm {α : Type} (bf : α → α → Bool) : ∀ (l a : List α), (l.foldl (fun a x => insertBy bf x a) a).Perm (l ++ a)
  | [], a => .refl _
  | x :: l, a => by
    rw [List.foldl_cons]
    refine (sortBy_perm bf l _).trans ?_
    refine ((insertBy_perm bf x a).append_left l).trans ?_
    exact List.perm_middle
theorem sortBy_sorted {α : Type} {bf : α → α → Bool} (tr : ∀ a b c, bf a b = true → bf b c = true → bf a c = true) : ∀ (l a : List α), (l ++ a).Pairwise (fun a b => bf a b = true ∨ bf b a = true) → a.Pairwise (fun a b => bf a b = true) →
    (l.foldl (fun a x => insertBy bf x a) a).Pairwise (fun a b => bf a b = true)
  | [], a, _, h => h
  | x :: l, a, tot, h => by
    rw [List.foldl_cons]
    rw [List.cons_append] at tot
    obtain ⟨t1, t2⟩ := List.pairwise_cons.mp tot
    refine sortBy_sorted tr l _ ?_ (insertBy_sorted x a (fun y hy => t1 y (List.mem_append_right _ hy)) tr h)
    have p : (l ++ insertBy bf x a).Perm (x :: (l ++ a)) := ((insertBy_perm bf x a).append_left l).trans List.perm_middle
    exact (List.Perm.pairwise_iff (fun {a b} => Or.symm) p).mpr tot
/-- by the key of the rule -/
def rk (x : Nat × Block) : Int × Int × Int := if lead x.2 ≤ tail x.2 then (0, (lead x.2 : Int), (x.1 : Int)) else (1, - (tail x.2 : Int), (x.1 : Int))
def lt3 (a b : Int × Int × Int) : Prop := a.1 < b.1 ∨ (a.1 = b.1 ∧ (a.2.1 < b.2.1 ∨ (a.2.1 = b.2.1 ∧ a.2.2 < b.2.2)))
theorem goes_iff (x y : Nat × Block) : goesFirst x y = true ↔ lt3 (rk x) (rk y) := by
  unfold goesFirst rk lt3
  by_cases h1 : lead x.2 ≤ tail x.2 <;> by_cases h2 : lead y.2 ≤ tail y.2
  · simp only [h1, h2, if_true, decide_true, bne_self_eq_false, Bool.false_eq_true, if_false, Bool.or_eq_true, decide_eq_true_eq, Bool.and_eq_true, beq_iff_eq]
    simp only [Int.lt_irrefl, true_and, false_or]
    omega
  · simp only [h1, h2, if_true, if_false, decide_true, decide_false, Bool.bne_false]
    simp
  · simp only [h1, h2, if_true, if_false, decide_true, decide_false]
    simp
  · simp only [h1, h2, if_false, decide_false, bne_self_eq_false, Bool.false_eq_true, Bool.or_eq_true, decide_eq_true_eq, Bool.and_eq_true, beq_iff_eq]
    simp only [Int.lt_irrefl, true_and, false_or]
    omega
theorem lt3_trans {a b c : Int × Int × Int} (h1 : lt3 a b) (h2 : lt3 b c) : lt3 a c := by unfold lt3 at *; omega
theorem lt3_asymm {a b : Int × Int × Int} (h1 : lt3 a b) : ¬ lt3 b a := by unfold lt3 at *; omega
theorem lt3_tot {a b : Int × Int × Int} (h : a.2.2 ≠ b.2.2) : lt3 a b ∨ lt3 b a := by unfold lt3; omega
/-- how the program parts the books: number and lead, number and tail turned -/
def part1 (bs : List Book) (l : List Nat) : List (Int × Int) := (l.filter fun i => decide (lead (blockOf (bookAt bs i)) ≤ tail (blockOf (bookAt bs i)))).map fun i => ((lead (blockOf (bookAt bs i)) : Int), (i : Int))
def part2 (bs : List Book) (l : List Nat) : List (Int × Int) := (l.filter fun i => !decide (lead (blockOf (bookAt bs i)) ≤ tail (blockOf (bookAt bs i)))).map fun i => (- (tail (blockOf (bookAt bs i)) : Int), (i : Int))
def lex2 (a b : Int × Int) : Prop := a.1 < b.1 ∨ (a.1 = b.1 ∧ a.2 < b.2)
theorem ruled_eq {bs : List Book} {s1 s2 : List (Int × Int)} (p1 : s1.Perm (part1 bs (List.range bs.length))) (p2 : s2.Perm (part2 bs (List.range bs.length))) (g1 : s1.Pairwise fun a b => ¬ lex2 b a) (g2 : s2.Pairwise fun a b => ¬ lex2 b a) :
    s1.map (·.2) ++ s2.map (·.2) = (ruled bs).map fun n : Nat => (n : Int) := by
  have strict : ∀ {s m : List (Int × Int)}, s.Perm m → (m.map (·.2)).Nodup → s.Pairwise (fun a b => ¬ lex2 b a) → s.Pairwise lex2 := by
    intro s m p nd g
    have nd2 : (s.map (·.2)).Nodup := (p.map _).nodup_iff.mpr nd
    have nd3 : s.Pairwise fun a b => a.2 ≠ b.2 := List.pairwise_map.mp nd2
    refine (g.and nd3).imp fun {a b} h => ?_
    unfold lex2 at h ⊢
    omega
  have nds : ∀ q : Nat → Bool, ∀ f : Nat → Int, ((((List.range bs.length).filter q).map fun i => (f i, (i : Int))).map (·.2)).Nodup := by
    intro q f
    rw [List.map_map]
    refine List.pairwise_map.mpr ?_
    refine ((List.pairwise_lt_range (n := bs.length)).filter q).imp fun {a b} h => ?_
    show (a : Int) ≠ (b : Int)
    omega
  have h1 := strict p1 (nds _ _) g1
  have h2 := strict p2 (nds _ _) g2
  let items := (List.range bs.length).map fun i => (i, blockOf (bookAt bs i))
  let f : Nat → Nat × Block := fun i => (i, blockOf (bookAt bs i))
  -- both as rows of triples
  let T : List (Int × Int × Int) := (s1.map fun a => (0, a.1, a.2)) ++ (s2.map fun a => (1, a.1, a.2))
  let U : List (Int × Int × Int) := (sortBy goesFirst items).map rk
  have sU : (sortBy goesFirst items).Pairwise (fun a b => goesFirst a b = true) := by
    refine sortBy_sorted (fun a b c h1 h2 => ?_) items [] ?_ .nil
    · rw [goes_iff] at h1 h2 ⊢
      exact lt3_trans h1 h2
    · rw [List.append_nil]
      refine List.pairwise_map.mpr ?_
      refine (List.pairwise_lt_range (n := bs.length)).imp fun {a b} hab => ?_
      rw [goes_iff, goes_iff]
      refine lt3_tot ?_
      have e1 : ∀ i, (rk (i, blockOf (bookAt bs i))).2.2 = (i : Int) := fun i => by unfold rk; split <;> rfl
      rw [e1, e1]
      omega
  have pU : (sortBy goesFirst items).Perm items := by
    have := sortBy_perm goesFirst items []
    rwa [List.append_nil] at this
  have sT : T.Pairwise lt3 := by
    refine List.pairwise_append.mpr ⟨List.pairwise_map.mpr (h1.imp fun {a b} h => ?_), List.pairwise_map.mpr (h2.imp fun {a b} h => ?_), fun a ha b hb => ?_⟩
    · exact .inr ⟨rfl, h⟩
    · exact .inr ⟨rfl, h⟩
    · obtain ⟨a', _, rfl⟩ := List.mem_map.mp ha
      obtain ⟨b', _, rfl⟩ := List.mem_map.mp hb
      unfold lt3
      simp only
      omega
  have sU' : U.Pairwise lt3 := List.pairwise_map.mpr (sU.imp fun {a b} h => (goes_iff _ _).mp h)
  have pT : T.Perm (items.map rk) := by
    have key : ∀ l : List Nat, ((part1 bs l).map (fun a => ((0 : Int), a.1, a.2)) ++ (part2 bs l).map (fun a => ((1 : Int), a.1, a.2))).Perm ((l.map f).map rk) := by
      intro l
      induction l with
      | nil => exact .refl _
      | cons i l ih =>
        by_cases h : lead (blockOf (bookAt bs i)) ≤ tail (blockOf (bookAt bs i))
        · have e1 : part1 bs (i :: l) = ((lead (blockOf (bookAt bs i)) : Int), (i : Int)) :: part1 bs l := by unfold part1; rw [List.filter_cons_of_pos (by simpa using h)]; rfl
          have e2 : part2 bs (i :: l) = part2 bs l := by unfold part2; rw [List.filter_cons_of_neg (by simpa using h)]
          have e3 : rk (f i) = (0, (lead (blockOf (bookAt bs i)) : Int), (i : Int)) := by unfold rk; rw [if_pos h]
          rw [e1, e2, List.map_cons, List.map_cons, List.map_cons, e3]
          exact ih.cons _
        · have e1 : part1 bs (i :: l) = part1 bs l := by unfold part1; rw [List.filter_cons_of_neg (by simpa using h)]
          have e2 : part2 bs (i :: l) = (- (tail (blockOf (bookAt bs i)) : Int), (i : Int)) :: part2 bs l := by unfold part2; rw [List.filter_cons_of_pos (by simpa using h)]; rfl
          have e3 : rk (f i) = (1, - (tail (blockOf (bookAt bs i)) : Int), (i : Int)) := by unfold rk; rw [if_neg h]
          rw [e1, e2, List.map_cons, List.map_cons, List.map_cons, e3]
          exact List.perm_middle.trans (ih.cons _)
    exact ((p1.map _).append (p2.map _)).trans (key _)
  have e : T = U := perm_uniq (fun a b => lt3_asymm) (pT.trans (pU.map rk).symm) sT sU'
  have e2 : T.map (·.2.2) = U.map (·.2.2) := congrArg _ e
  have eT : T.map (·.2.2) = s1.map (·.2) ++ s2.map (·.2) := by
    show ((s1.map fun a => ((0 : Int), a.1, a.2)) ++ (s2.map fun a => ((1 : Int), a.1, a.2))).map (·.2.2) = _
    rw [List.map_append, List.map_map, List.map_map]
    rfl
  have eU : U.map (·.2.2) = (ruled bs).map fun n : Nat => (n : Int) := by
    show ((sortBy goesFirst items).map rk).map (·.2.2) = ((sortBy goesFirst items).map fun x => x.1).map fun n : Nat => (n : Int)
    rw [List.map_map, List.map_map]
    refine List.map_congr_left fun x _ => ?_
    show (rk x).2.2 = (x.1 : Int)
    unfold rk
    split <;> rfl
  rw [← eT, e2, eU]
theorem ruled_mem {bs : List Book} {n : Nat} (h : n ∈ ruled bs) : n < bs.length := by
  obtain ⟨x, hx, rfl⟩ := List.mem_map.mp h
  have p := sortBy_perm goesFirst ((List.range bs.length).map fun i => (i, blockOf (bookAt bs i))) []
  have := p.subset hx
  rw [List.append_nil] at this
  obtain ⟨i, hi, rfl⟩ := List.mem_map.mp this
  exact List.mem_range.mp hi
theorem ruled_length (bs : List Book) : (ruled bs).length = bs.length := by
  have p := (sortBy_perm goesFirst ((List.range bs.length).map fun i => (i, blockOf (bookAt bs i))) []).length_eq
  unfold ruled sortBy
  rw [List.length_map, p]
  simp
theorem part1_snoc (bs : List Book) (i : Nat) : part1 bs (List.range (i + 1)) = if lead (blockOf (bookAt bs i)) ≤ tail (blockOf (bookAt bs i)) then part1 bs (List.range i) ++ [((lead (blockOf (bookAt bs i)) : Int), (i : Int))] else part1 bs (List.range i) := by
  unfold part1
  rw [List.range_succ, List.filter_append]
  by_cases h : lead (blockOf (bookAt bs i)) ≤ tail (blockOf (bookAt bs i))
  · rw [if_pos h, List.filter_cons_of_pos (by simpa using h)]
    simp
  · rw [if_neg h, List.filter_cons_of_neg (by simpa using h)]
    simp
theorem part2_snoc (bs : List Book) (i : Nat) : part2 bs (List.range (i + 1)) = if lead (blockOf (bookAt bs i)) ≤ tail (blockOf (bookAt bs i)) then part2 bs (List.range i) else part2 bs (List.range i) ++ [(- (tail (blockOf (bookAt bs i)) : Int), (i : Int))] := by
  unfold part2
  rw [List.range_succ, List.filter_append]
  by_cases h : lead (blockOf (bookAt bs i)) ≤ tail (blockOf (bookAt bs i))
  · rw [if_pos h, List.filter_cons_of_neg (by simpa using h)]
    simp
  · rw [if_neg h, List.filter_cons_of_pos (by simpa using h)]
    simp
end TdM
set_option Elab.async false
set_option linter.all false
/-! Two desks, the plain mathematics, part 5: the search's ends. -/
namespace TdM
open Vbceah

theorem look_of_mem {r : Reach} (nd : (r.map (·.1)).Nodup) {p : List Nat} {c : Clock} (h : (p, c) ∈ r) : look r p = some c := by
  cases e : look r p with
  | none => exact absurd (List.mem_map.mpr ⟨(p, c), h, rfl⟩) (look_none.mp e)
  | some d => rw [nodup_same nd h (look_mem e)]
theorem put_length (p : List Nat) (c : Clock) : ∀ r : Reach, (put r p c).length ≤ r.length + 1
  | [] => by simp [put]
  | x :: l => by
    unfold put
    split
    · simp
    · have := put_length p c l
      simp; omega
theorem lesser_length (r : Reach) (p : List Nat) (c : Clock) : (lesserIn r p c).length ≤ r.length + 1 := by
  rw [lesserIn_eq]
  split
  · exact put_length p c r
  · split
    · exact put_length p c r
    · omega
theorem fromOne_length {bs : List Book} {e1 e2 : Breaks} {p : List Nat} {c : Clock} : ∀ (l : List Nat) (m : Reach), (fromOne bs e1 e2 p c l m).length ≤ m.length + l.length
  | [], m => Nat.le_refl _
  | b :: l, m => by
    rw [fromOne_cons]
    split
    · have := fromOne_length (bs := bs) (e1 := e1) (e2 := e2) (p := p) (c := c) l m
      simp; omega
    · rename_i s hs
      have h1 := fromOne_length (bs := bs) (e1 := e1) (e2 := e2) (p := p) (c := c) l (lesserIn m (p.set b (p.getD b 0 + 1)) (placed e1 e2 c s))
      have h2 := lesser_length m (p.set b (p.getD b 0 + 1)) (placed e1 e2 c s)
      simp only [List.length_cons]
      omega
theorem fromOne_filter {bs : List Book} {e1 e2 : Breaks} {p : List Nat} {c : Clock} : ∀ (l : List Nat) (m : Reach), fromOne bs e1 e2 p c l m = fromOne bs e1 e2 p c (l.filter fun b => decide (p.getD b 0 < (bookAt bs b).length)) m
  | [], m => rfl
  | b :: l, m => by
    by_cases h : p.getD b 0 < (bookAt bs b).length
    · rw [List.filter_cons_of_pos (by simpa using h), fromOne_cons, fromOne_cons]
      exact fromOne_filter l _
    · rw [List.filter_cons_of_neg (by simpa using h), fromOne_cons, List.getElem?_eq_none (Nat.le_of_not_lt h)]
      exact fromOne_filter l m
theorem fromOne_more (bs : List Book) (e1 e2 : Breaks) (p : List Nat) (c : Clock) (m : Reach) : fromOne bs e1 e2 p c (List.range bs.length) m = fromOne bs e1 e2 p c (moreOf bs p) m := fromOne_filter _ m
theorem fromOne_app {bs : List Book} {e1 e2 : Breaks} {p : List Nat} {c : Clock} (l k : List Nat) (m : Reach) : fromOne bs e1 e2 p c (l ++ k) m = fromOne bs e1 e2 p c k (fromOne bs e1 e2 p c l m) := List.foldl_append
theorem moreOf_length (bs : List Book) (p : List Nat) : (moreOf bs p).length ≤ bs.length := by
  have := List.length_filter_le (fun b => decide (p.getD b 0 < (bookAt bs b).length)) (List.range bs.length)
  rwa [List.length_range] at this
theorem moreOf_mem {bs : List Book} {p : List Nat} {b : Nat} : b ∈ moreOf bs p ↔ p.getD b 0 < (bookAt bs b).length := by
  unfold moreOf
  rw [List.mem_filter, List.mem_range]
  constructor
  · intro h
    simpa using h.2
  · intro h
    refine ⟨?_, by simpa using h⟩
    apply Classical.byContradiction
    intro hn
    rw [bookAt_ge (Nat.le_of_not_lt hn)] at h
    simp at h
/-- the rounds by parts -/
def roundTo (bs : List Book) (e1 e2 : Breaks) (r : Reach) : Reach := r.foldl (fun m x => fromOne bs e1 e2 x.1 x.2 (moreOf bs x.1) m) []
theorem further_to (bs : List Book) (e1 e2 : Breaks) (r : Reach) : further bs e1 e2 r = roundTo bs e1 e2 r := by
  rw [further_eq]
  unfold roundTo
  congr 1
  funext m x
  exact fromOne_more bs e1 e2 x.1 x.2 m
theorem roundTo_snoc {bs : List Book} {e1 e2 : Breaks} (l : Reach) (x : List Nat × Clock) : roundTo bs e1 e2 (l ++ [x]) = fromOne bs e1 e2 x.1 x.2 (moreOf bs x.1) (roundTo bs e1 e2 l) := by
  unfold roundTo
  rw [List.foldl_append]
  rfl
theorem further_length {bs : List Book} {e1 e2 : Breaks} (h4 : bs.length ≤ 4) (r : Reach) : (further bs e1 e2 r).length ≤ 4 * r.length := by
  have key : ∀ (l m : Reach), (l.foldl (fun m x => fromOne bs e1 e2 x.1 x.2 (List.range bs.length) m) m).length ≤ m.length + 4 * l.length := by
    intro l
    induction l with
    | nil => intro m; simp
    | cons x l ih =>
      intro m
      rw [List.foldl_cons]
      have h1 := ih (fromOne bs e1 e2 x.1 x.2 (List.range bs.length) m)
      have h2 := fromOne_length (bs := bs) (e1 := e1) (e2 := e2) (p := x.1) (c := x.2) (List.range bs.length) m
      rw [List.length_range] at h2
      simp; omega
  rw [further_eq]
  have := key r []
  simpa using this
theorem good_roundTo {bs : List Book} {e1 e2 : Breaks} (o1 : Ok e1) {p0 : List Nat} {c0 : Clock} {n : Nat} {r : Reach} (g : Good bs e1 p0 c0 n r) (i : Nat) : Good bs e1 p0 c0 (n + 1) (roundTo bs e1 e2 (r.take i)) := by
  rw [← further_to]
  refine good_further o1 ⟨?_, fun p c h => g.far p c (List.mem_of_mem_take h), fun p c h => g.sum p c (List.mem_of_mem_take h), fun p c h => g.one p c (List.mem_of_mem_take h)⟩
  rw [List.map_take]
  exact List.Nodup.sublist (List.take_sublist _ _) g.nd

/-! ### whole -/
theorem far_zip {bs : List Book} {p : List Nat} (F : Far bs p) : (wholeP bs p = true ↔ p.sum = sheetsIn bs) ∧ p.sum ≤ sheetsIn bs := by
  have key : ∀ (bs : List Book) (p : List Nat), p.length = bs.length → (∀ b, p.getD b 0 ≤ (bookAt bs b).length) → (wholeP bs p = true ↔ p.sum = sheetsIn bs) ∧ p.sum ≤ sheetsIn bs := by
    intro bs
    induction bs with
    | nil =>
      intro p hl _
      have : p = [] := List.length_eq_zero_iff.mp hl
      subst this
      simp [wholeP, sheetsIn]
    | cons b bs ih =>
      intro p hl hf
      cases p with
      | nil => simp at hl
      | cons q p =>
        have h1 := ih p (by simpa using hl) (fun c => by have := hf (c + 1); simpa [bookAt] using this)
        have h0 : q ≤ b.length := by have := hf 0; simpa [bookAt] using this
        have e1 : sheetsIn (b :: bs) = b.length + sheetsIn bs := by simp [sheetsIn]
        have e2 : (q :: p).sum = q + p.sum := by simp
        have e3 : wholeP (b :: bs) (q :: p) = (!decide (q < b.length) && wholeP bs p) := by simp [wholeP]
        rw [e1, e2, e3]
        refine ⟨?_, by omega⟩
        rw [Bool.and_eq_true, h1.1]
        simp only [Bool.not_eq_true', decide_eq_false_iff_not]
        omega
  exact key bs p F.len F.le
theorem whole_all {bs : List Book} {p : List Nat} (F : Far bs p) (h : p.sum = sheetsIn bs) : p = bs.map (·.length) := by
  have key : ∀ (bs : List Book) (p : List Nat), p.length = bs.length → (∀ b, p.getD b 0 ≤ (bookAt bs b).length) → p.sum = sheetsIn bs → p = bs.map (·.length) := by
    intro bs
    induction bs with
    | nil =>
      intro p hl _ _
      exact List.length_eq_zero_iff.mp hl
    | cons b bs ih =>
      intro p hl hf hs
      cases p with
      | nil => simp at hl
      | cons q p =>
        have hf' : ∀ c, p.getD c 0 ≤ (bookAt bs c).length := fun c => by have := hf (c + 1); simpa [bookAt] using this
        have h0 : q ≤ b.length := by have := hf 0; simpa [bookAt] using this
        have e1 : sheetsIn (b :: bs) = b.length + sheetsIn bs := by simp [sheetsIn]
        have e2 : (q :: p).sum = q + p.sum := by simp
        have h2 := (far_zip (⟨by simpa using hl, hf'⟩ : Far bs p)).2
        rw [e1, e2] at hs
        rw [List.map_cons, ← ih p (by simpa using hl) hf' (by omega)]
        congr 1
        omega
  exact key bs p F.len F.le h
theorem not_whole_next {bs : List Book} {e1 e2 : Breaks} {p : List Nat} {c : Clock} (h : wholeP bs p = false) : ∃ b x, next bs e1 e2 p c b = some x := by
  have key : ∀ (bs : List Book) (p : List Nat), wholeP bs p = false → ∃ b, p.getD b 0 < (bookAt bs b).length := by
    intro bs
    induction bs with
    | nil => intro p h; simp [wholeP] at h
    | cons b bs ih =>
      intro p h
      cases p with
      | nil => simp [wholeP] at h
      | cons q p =>
        have e3 : wholeP (b :: bs) (q :: p) = (!decide (q < b.length) && wholeP bs p) := by simp [wholeP]
        rw [e3, Bool.and_eq_false_iff] at h
        rcases h with h | h
        · refine ⟨0, ?_⟩
          simpa [bookAt] using h
        · obtain ⟨b', hb⟩ := ih p h
          refine ⟨b' + 1, ?_⟩
          simpa [bookAt] using hb
  obtain ⟨b, hb⟩ := key bs p h
  refine ⟨b, (p.set b (p.getD b 0 + 1), placed e1 e2 c (bookAt bs b)[p.getD b 0]), ?_⟩
  unfold next
  rw [List.getElem?_eq_getElem hb]
  rfl

/-! ### the least end from here on -/
theorem reach_ne {bs : List Book} {e1 e2 : Breaks} (o1 : Ok e1) {p0 : List Nat} {c0 : Clock} : ∀ (n k : Nat) (r : Reach), Good bs e1 p0 c0 k r → r ≠ [] → p0.sum + k + n ≤ sheetsIn bs → reachFrom bs e1 e2 n r ≠ []
  | 0, k, r, g, h, _ => h
  | n + 1, k, r, g, h, hs => by
    refine reach_ne o1 n (k + 1) _ (good_further (e2 := e2) o1 g) ?_ (by omega)
    obtain ⟨x, l, rfl⟩ := List.exists_cons_of_ne_nil h
    have F := g.far x.1 x.2 List.mem_cons_self
    have hsum := g.sum x.1 x.2 List.mem_cons_self
    have hw : wholeP bs x.1 = false := by
      cases e : wholeP bs x.1 with
      | false => rfl
      | true => have := (far_zip F).1.mp e; omega
    obtain ⟨b, y, hy⟩ := not_whole_next (e1 := e1) (e2 := e2) (c := x.2) hw
    obtain ⟨d, hd, _⟩ := has_further o1 g (p := x.1) (c := x.2) List.mem_cons_self (q := y.1) (d := y.2) hy
    intro e
    rw [e] at hd
    cases hd
theorem reach_one {bs : List Book} {e1 e2 : Breaks} (o1 : Ok e1) {p : List Nat} {c : Clock} (F : Far bs p) : ∃ x, reachFrom bs e1 e2 (leftOf bs p) [(p, c)] = [x] ∧ Far bs x.1 ∧ x.1.sum = sheetsIn bs := by
  have g := good_reach (e2 := e2) o1 (leftOf bs p) 0 _ (Good.start (e1 := e1) (c0 := c) F)
  have hle := (far_zip F).2
  have hne := reach_ne (e2 := e2) o1 (leftOf bs p) 0 _ (Good.start (e1 := e1) (c0 := c) F) (by simp) (by unfold leftOf; omega)
  cases hr : reachFrom bs e1 e2 (leftOf bs p) [(p, c)] with
  | nil => exact absurd hr hne
  | cons x l =>
    rw [hr] at g
    have hx := g.sum x.1 x.2 List.mem_cons_self
    have Fx := g.far x.1 x.2 List.mem_cons_self
    have ex : x.1.sum = sheetsIn bs := by unfold leftOf at hx; omega
    refine ⟨x, ?_, Fx, ex⟩
    cases l with
    | nil => rfl
    | cons y l =>
      have hy := g.sum y.1 y.2 (List.mem_cons_of_mem _ List.mem_cons_self)
      have Fy := g.far y.1 y.2 (List.mem_cons_of_mem _ List.mem_cons_self)
      have ey : y.1.sum = sheetsIn bs := by unfold leftOf at hy; omega
      have := g.nd
      rw [List.map_cons, List.map_cons, List.nodup_cons] at this
      exact absurd (by rw [whole_all Fx ex, whole_all Fy ey]; exact List.mem_cons_self) this.1
theorem least_is {bs : List Book} {e1 e2 : Breaks} {p : List Nat} {c : Clock} {x : List Nat × Clock} (h : reachFrom bs e1 e2 (leftOf bs p) [(p, c)] = [x]) : leastFrom bs e1 e2 p c = x.2.two := by
  unfold leastFrom
  rw [h]
  rfl
theorem next_far {bs : List Book} {e1 e2 : Breaks} {p : List Nat} {c : Clock} (F : Far bs p) {b : Nat} {x : List Nat × Clock} (h : next bs e1 e2 p c b = some x) : Far bs x.1 ∧ x.1.sum = p.sum + 1 ∧ b < bs.length := by
  unfold next at h
  cases hs : (bookAt bs b)[p.getD b 0]? with
  | none => rw [hs] at h; cases h
  | some s =>
    rw [hs] at h
    have e := Option.some.inj h
    subst e
    have hb := lt_of_sheet hs
    refine ⟨F.step hs, ?_, hb⟩
    have := sum_set (l := p) (b := b) (by rw [F.len]; exact hb) (p.getD b 0 + 1)
    show (p.set b (p.getD b 0 + 1)).sum = _
    omega
theorem run_len {bs : List Book} {e1 e2 : Breaks} {p p' : List Nat} {c c' : Clock} {n : Nat} (R : Run bs e1 e2 p c n p' c') : Far bs p → p'.sum = p.sum + n ∧ Far bs p' := by
  induction R with
  | nil => intro F; exact ⟨rfl, F⟩
  | cons e _ ih =>
    intro F
    obtain ⟨F', h1, _⟩ := next_far F e
    obtain ⟨h2, F2⟩ := ih F'
    simp only at h1
    exact ⟨by omega, F2⟩
/-- no way is earlier, and one is as early -/
theorem least_le {bs : List Book} {e1 e2 : Breaks} (o1 : Ok e1) (o2 : Ok e2) {p p' : List Nat} {c c' : Clock} (F : Far bs p) (R : Run bs e1 e2 p c (leftOf bs p) p' c') : leastFrom bs e1 e2 p c ≤ c'.two := by
  obtain ⟨x, hx, Fx, ex⟩ := reach_one (e2 := e2) o1 (c := c) F
  rw [least_is hx]
  have hr := has_reach o1 o2 (leftOf bs p) 0 _ p c p' c' (Good.start (e1 := e1) (c0 := c) F) ⟨c, by simp, rfl, Nat.le_refl _⟩ R
  rw [hx] at hr
  obtain ⟨d, hd, _, h2⟩ := hr
  have := List.mem_singleton.mp hd
  rw [← this]
  exact h2
theorem least_run {bs : List Book} {e1 e2 : Breaks} (o1 : Ok e1) {p : List Nat} {c : Clock} (F : Far bs p) : ∃ p' c', Run bs e1 e2 p c (leftOf bs p) p' c' ∧ leastFrom bs e1 e2 p c = c'.two := by
  obtain ⟨x, hx, Fx, ex⟩ := reach_one (e2 := e2) o1 (c := c) F
  obtain ⟨p0, c0, hm, R⟩ := run_reach (leftOf bs p) _ x.1 x.2 (by rw [hx]; exact List.mem_cons_self)
  have := Prod.mk.inj (List.mem_singleton.mp hm)
  obtain ⟨rfl, rfl⟩ := this
  exact ⟨x.1, x.2, R, least_is hx⟩
theorem first_some {bs : List Book} {e1 e2 : Breaks} (o1 : Ok e1) (o2 : Ok e2) {p : List Nat} {c : Clock} (F : Far bs p) (hw : wholeP bs p = false) {goal : Nat} (hg : leastFrom bs e1 e2 p c = goal) : ∃ b x, firstWith bs e1 e2 p c goal = some b ∧ next bs e1 e2 p c b = some x ∧ leastFrom bs e1 e2 x.1 x.2 = goal := by
  have hz := far_zip F
  have hlt : p.sum < sheetsIn bs := by
    apply Classical.byContradiction
    intro hn
    have := hz.1.mpr (by omega)
    rw [hw] at this
    cases this
  obtain ⟨p', c', R, e⟩ := least_run (e2 := e2) o1 (c := c) F
  have hl : leftOf bs p = (leftOf bs p - 1) + 1 := by unfold leftOf; omega
  rw [hl] at R
  generalize hn : leftOf bs p - 1 = n at R
  cases R with
  | @cons _ _ b q d _ _ _ en R =>
    obtain ⟨Fq0, hs, hb⟩ := next_far F en
    have Fq : Far bs q := Fq0
    have hlq : leftOf bs q = n := by
      simp only at hs
      unfold leftOf at hn ⊢
      omega
    have h1 : leastFrom bs e1 e2 q d ≤ c'.two := least_le o1 o2 Fq (by rw [hlq]; exact R)
    obtain ⟨p2, c2, R2, e2'⟩ := least_run (e2 := e2) o1 (c := d) Fq
    have h2 : leastFrom bs e1 e2 p c ≤ c2.two := least_le o1 o2 F (by rw [hl, hn, ← hlq]; exact .cons en R2)
    have hgq : leastFrom bs e1 e2 q d = goal := by omega
    cases hf : firstWith bs e1 e2 p c goal with
    | none =>
      unfold firstWith at hf
      have := List.find?_eq_none.mp hf b (List.mem_range.mpr hb)
      rw [en] at this
      exact absurd (beq_iff_eq.mpr hgq) this
    | some b' =>
      unfold firstWith at hf
      have h3 := List.find?_some hf
      cases hx : next bs e1 e2 p c b' with
      | none => rw [hx] at h3; cases h3
      | some x =>
        rw [hx] at h3
        exact ⟨b', x, rfl, hx, beq_iff_eq.mp h3⟩
theorem bestFrom_succ {bs : List Book} {e1 e2 : Breaks} {goal n : Nat} {p : List Nat} {c : Clock} {b : Nat} {x : List Nat × Clock} (h1 : firstWith bs e1 e2 p c goal = some b) (h2 : next bs e1 e2 p c b = some x) :
    bestFrom bs e1 e2 goal (n + 1) p c = b :: bestFrom bs e1 e2 goal n x.1 x.2 := by
  show (match firstWith bs e1 e2 p c goal with
    | none => []
    | some b => match next bs e1 e2 p c b with
      | none => []
      | some x => b :: bestFrom bs e1 e2 goal n x.1 x.2) = _
  rw [h1]
  show (match next bs e1 e2 p c b with
      | none => []
      | some x => b :: bestFrom bs e1 e2 goal n x.1 x.2) = _
  rw [h2]
theorem zeros_far (bs : List Book) : Far bs (zeros bs.length) := by
  refine ⟨by simp [zeros], fun b => ?_⟩
  unfold zeros
  rw [List.getD_eq_getElem?_getD, List.getElem?_replicate]
  split <;> simp
theorem zeros_sum (n : Nat) : (zeros n).sum = 0 := by
  unfold zeros
  induction n with
  | zero => rfl
  | succ n ih => rw [List.replicate_succ, List.sum_cons, ih]
/-- the loop's view: first come the ones that have no sheet left -/
theorem first_more {bs : List Book} {e1 e2 : Breaks} {p : List Nat} {c : Clock} {goal b : Nat} (h : firstWith bs e1 e2 p c goal = some b) :
    ∃ i : Nat, (moreOf bs p)[i]? = some b ∧ ∀ (j b' : Nat), j < i → (moreOf bs p)[j]? = some b' → ∀ x, next bs e1 e2 p c b' = some x → leastFrom bs e1 e2 x.1 x.2 ≠ goal := by
  unfold firstWith at h
  have key : ∀ l : List Nat, l.find? (fun b => match next bs e1 e2 p c b with
      | none => false
      | some x => leastFrom bs e1 e2 x.1 x.2 == goal) = some b →
      ∃ i : Nat, (l.filter fun b => decide (p.getD b 0 < (bookAt bs b).length))[i]? = some b ∧ ∀ (j b' : Nat), j < i → (l.filter fun b => decide (p.getD b 0 < (bookAt bs b).length))[j]? = some b' → ∀ x, next bs e1 e2 p c b' = some x → leastFrom bs e1 e2 x.1 x.2 ≠ goal := by
    intro l
    induction l with
    | nil => intro h; cases h
    | cons a l ih =>
      intro h
      rw [List.find?_cons] at h
      cases ha : next bs e1 e2 p c a with
      | none =>
        rw [ha] at h
        have hn : ¬ p.getD a 0 < (bookAt bs a).length := by
          intro hlt
          unfold next at ha
          rw [List.getElem?_eq_getElem hlt] at ha
          cases ha
        rw [List.filter_cons_of_neg (by simpa using hn)]
        exact ih h
      | some x =>
        have hlt : p.getD a 0 < (bookAt bs a).length := by
          unfold next at ha
          cases hs : (bookAt bs a)[p.getD a 0]? with
          | none => rw [hs] at ha; cases ha
          | some s => exact (List.getElem?_eq_some_iff.mp hs).1
        rw [List.filter_cons_of_pos (by simpa using hlt)]
        rw [ha] at h
        by_cases hg : leastFrom bs e1 e2 x.1 x.2 = goal
        · have : (leastFrom bs e1 e2 x.1 x.2 == goal) = true := beq_iff_eq.mpr hg
          simp only [this] at h
          have hab : a = b := Option.some.inj h
          subst hab
          exact ⟨0, rfl, fun j b' hj => by omega⟩
        · have : (leastFrom bs e1 e2 x.1 x.2 == goal) = false := beq_eq_false_iff_ne.mpr hg
          simp only [this] at h
          obtain ⟨i, h1, h2⟩ := ih h
          refine ⟨i + 1, h1, fun j b' hj hb' y hy => ?_⟩
          cases j with
          | zero =>
            have : a = b' := Option.some.inj hb'
            subst this
            rw [ha] at hy
            cases hy
            exact hg
          | succ j => exact h2 j b' (by omega) hb' y hy
  exact key _ h
end TdM
set_option Elab.async false
set_option linter.all false
/-! Two desks, the plain mathematics, part 6: how many orders; workings. -/
namespace TdM
open Vbceah

/-! ### how many orders -/
def ch : Nat → Nat → Nat
  | _, 0 => 1
  | 0, _ + 1 => 0
  | n + 1, k + 1 => ch n k + ch n (k + 1)
theorem ch_zero (n : Nat) : ch n 0 = 1 := by cases n <;> rfl
theorem ch_step : ∀ n k : Nat, (n + 1) * ch n k = ch (n + 1) (k + 1) * (k + 1)
  | 0, 0 => rfl
  | 0, k + 1 => by
    show 1 * 0 = (0 + 0) * (k + 1 + 1)
    simp
  | n + 1, 0 => by
    have ih := ch_step n 0
    rw [ch_zero] at ih ⊢
    have ih' : (n + 1) * 1 = ch (n + 1) 1 * 1 := ih
    show (n + 1 + 1) * 1 = (ch (n + 1) 0 + ch (n + 1) 1) * 1
    rw [ch_zero]
    clear ih
    omega
  | n + 1, k + 1 => by
    have h1 := ch_step n k
    have h2 := ch_step n (k + 1)
    have e : ch (n + 1) (k + 1) = ch n k + ch n (k + 1) := rfl
    show (n + 1 + 1) * ch (n + 1) (k + 1) = (ch (n + 1) (k + 1) + ch (n + 1) (k + 1 + 1)) * (k + 1 + 1)
    rw [Nat.add_mul (ch (n + 1) (k + 1)), ← h2, Nat.mul_add (ch (n + 1) (k + 1)), ← h1, Nat.mul_one, Nat.add_mul (n + 1), Nat.one_mul]
    rw [e, Nat.mul_add]
    omega
theorem ch_fact : ∀ n k : Nat, ch (n + k) k * (factorial n * factorial k) = factorial (n + k)
  | n, 0 => by
    rw [ch_zero]
    show 1 * (factorial n * 1) = factorial n
    omega
  | n, k + 1 => by
    have ih := ch_fact n k
    have h := ch_step (n + k) k
    show ch (n + k + 1) (k + 1) * (factorial n * ((k + 1) * factorial k)) = (n + k + 1) * factorial (n + k)
    rw [← ih, ← Nat.mul_assoc (n + k + 1), h]
    rw [Nat.mul_comm (factorial n), Nat.mul_assoc (k + 1), ← Nat.mul_assoc, Nat.mul_comm (factorial k)]
theorem fact_pos : ∀ n : Nat, 0 < factorial n
  | 0 => Nat.one_pos
  | n + 1 => Nat.mul_pos (Nat.succ_pos n) (fact_pos n)
/-- the product of the factorials -/
def prodF (bs : List Book) : Nat := (bs.map fun b => factorial b.length).foldl (fun m x => m * x) 1
theorem prodF_snoc (l : List Book) (b : Book) : prodF (l ++ [b]) = prodF l * factorial b.length := by
  unfold prodF
  rw [List.map_append, List.foldl_append]
  rfl
theorem prodF_pos (l : List Book) : 0 < prodF l := by
  unfold prodF
  have key : ∀ (l : List Nat) (a : Nat), 0 < a → (∀ x ∈ l, 0 < x) → 0 < l.foldl (fun m x => m * x) a := by
    intro l
    induction l with
    | nil => intro a h _; exact h
    | cons x l ih => intro a h hl; exact ih _ (Nat.mul_pos h (hl x List.mem_cons_self)) fun y hy => hl y (List.mem_cons_of_mem _ hy)
  refine key _ 1 Nat.one_pos fun x hx => ?_
  obtain ⟨b, _, rfl⟩ := List.mem_map.mp hx
  exact fact_pos _
theorem sheetsIn_snoc (l : List Book) (b : Book) : sheetsIn (l ++ [b]) = sheetsIn l + b.length := by
  unfold sheetsIn
  rw [List.map_append, List.sum_append]
  simp
/-- one sheet more of a book: f0 of what stands ahead of the book, n sheets ahead of it -/
theorem many_step (f0 n k : Nat) : f0 * ch (n + k) k * (n + k + 1) / (k + 1) = f0 * ch (n + (k + 1)) (k + 1) := by
  have h := ch_step (n + k) k
  rw [Nat.mul_assoc, Nat.mul_comm (ch (n + k) k), h, ← Nat.mul_assoc]
  exact Nat.mul_div_cancel _ (Nat.succ_pos k)
/-- one book more -/
theorem many_book {f0 : Nat} {l : List Book} (h : f0 * prodF l = factorial (sheetsIn l)) (b : Book) : f0 * ch (sheetsIn l + b.length) b.length * prodF (l ++ [b]) = factorial (sheetsIn (l ++ [b])) := by
  rw [sheetsIn_snoc, prodF_snoc, ← ch_fact (sheetsIn l) b.length, ← h]
  rw [Nat.mul_comm f0, Nat.mul_assoc, Nat.mul_assoc]
theorem many_end {f0 : Nat} {l : List Book} (h : f0 * prodF l = factorial (sheetsIn l)) : ordersOf l = f0 := by
  show factorial (sheetsIn l) / prodF l = f0
  rw [← h]
  exact Nat.mul_div_cancel _ (prodF_pos l)

/-! ### each number once -/
theorem eraseDups_snoc (l : List Int) (x : Int) : (l ++ [x]).eraseDups = if x ∈ l then l.eraseDups else l.eraseDups ++ [x] := by
  rw [List.eraseDups_append]
  by_cases h : x ∈ l
  · rw [if_pos h]
    have : [x].removeAll l = [] := by
      unfold List.removeAll
      rw [List.filter_cons_of_neg (by simpa using h)]
      rfl
    rw [this]
    simp
  · rw [if_neg h]
    have : [x].removeAll l = [x] := by
      unfold List.removeAll
      rw [List.filter_cons_of_pos (by simpa using h)]
      rfl
    rw [this]
    congr 1
theorem snoc_ind {α : Type} {P : List α → Prop} (h0 : P []) (h1 : ∀ l x, P l → P (l ++ [x])) : ∀ l, P l := by
  have key : ∀ n l, l.length = n → P l := by
    intro n
    induction n with
    | zero => intro l h; rw [List.length_eq_zero_iff.mp h]; exact h0
    | succ n ih =>
      intro l h
      rcases List.eq_nil_or_concat l with e | ⟨l', x, e⟩
      · rw [e] at h; simp at h
      · rw [List.concat_eq_append] at e
        rw [e]
        rw [e] at h
        exact h1 l' x (ih l' (by simpa using h))
  exact fun l => key _ l rfl
theorem dups_mem {x : Int} (l : List Int) : x ∈ l.eraseDups ↔ x ∈ l := by
  refine snoc_ind (P := fun l => x ∈ l.eraseDups ↔ x ∈ l) (by simp) (fun l y ih => ?_) l
  rw [eraseDups_snoc]
  split
  · rename_i h
    rw [ih, List.mem_append]
    constructor
    · exact .inl
    · rintro (h1 | h1)
      · exact h1
      · have := List.mem_singleton.mp h1
        rw [this]; exact h
  · rw [List.mem_append, List.mem_append, ih]
theorem dups_nodup (l : List Int) : l.eraseDups.Nodup := by
  refine snoc_ind (P := fun l : List Int => l.eraseDups.Nodup) (by simp) (fun l y ih => ?_) l
  rw [eraseDups_snoc]
  split
  · exact ih
  · rename_i h
    rw [List.nodup_append]
    refine ⟨ih, by simp, ?_⟩
    intro a ha b hb e
    have := List.mem_singleton.mp hb
    rw [dups_mem] at ha
    rw [e, this] at ha
    exact h ha
theorem dups_length (l : List Int) : l.eraseDups.length ≤ l.length := by
  refine snoc_ind (P := fun l : List Int => l.eraseDups.length ≤ l.length) (by simp) (fun l y ih => ?_) l
  rw [eraseDups_snoc]
  split
  · simp; omega
  · simp; omega

/-! ### slips -/
/-- how many of the workings aren't v -/
def offs (ns : List Int) (v : Int) : Nat := ns.length - ns.count v
theorem count_two {u v : Int} (h : u ≠ v) : ∀ l : List Int, l.count u + l.count v ≤ l.length
  | [] => by simp
  | x :: l => by
    have ih := count_two h l
    rw [List.count_cons, List.count_cons, List.length_cons]
    by_cases h1 : x = u
    · have h2 : ¬ x = v := fun e => h (h1.symm.trans e)
      simp [h1, h]
      omega
    · by_cases h2 : x = v
      · have h3 : ¬ v = u := fun e => h e.symm
        simp [h2, h3]
        omega
      · simp [h1, h2]
        omega
theorem offs_le (ns : List Int) (v : Int) : offs ns v ≤ ns.length := Nat.sub_le _ _
theorem offs_fresh {ns : List Int} {v : Int} (h : v ∉ ns) : offs ns v = ns.length := by
  unfold offs
  rw [List.count_eq_zero.mpr h, Nat.sub_zero]
theorem offs_more (ns : List Int) (k : Nat) (x w : Int) : offs (ns ++ List.replicate k x) w = if w = x then offs ns w else offs ns w + k := by
  unfold offs
  have := List.count_le_length (a := w) (l := ns)
  rw [List.length_append, List.length_replicate, List.count_append, List.count_replicate]
  by_cases h : w = x
  · subst h
    simp
    omega
  · have h' : ¬ x = w := fun e => h e.symm
    simp [h, h']
    omega
theorem unheard_not (ns : List Int) (j : Nat) : unheard ns + (j : Int) ∉ ns := by
  have key : ∀ (l : List Int) (m : Nat), m ≤ l.foldl (fun (m : Nat) z => max m z.natAbs) m ∧ ∀ z ∈ l, z.natAbs ≤ l.foldl (fun (m : Nat) z => max m z.natAbs) m := by
    intro l
    induction l with
    | nil => intro m; simp
    | cons x l ih =>
      intro m
      obtain ⟨h1, h2⟩ := ih (max m x.natAbs)
      rw [List.foldl_cons]
      refine ⟨by omega, fun z hz => ?_⟩
      rcases List.mem_cons.mp hz with rfl | hz
      · omega
      · exact h2 z hz
  intro h
  have := (key ns 0).2 _ h
  unfold unheard at this
  omega
/-- sure: one number alone can be right -/
theorem sure_iff (t : Nat) (vs : List Int) : verdict t vs = 1 ↔ ∃ u, offs vs u ≤ t ∧ ∀ w, w ≠ u → t < offs vs w := by
  have cm : ∀ w, w ∈ candidates t vs ↔ w ∈ vs ∧ offs vs w ≤ t := fun w => by
    unfold candidates kinds
    rw [List.mem_filter, dups_mem]
    unfold possible offs
    simp
  have cnd : (candidates t vs).Nodup := (dups_nodup vs).sublist (List.filter_sublist)
  constructor
  · intro h
    unfold verdict at h
    by_cases hu : unseen t vs = true
    · rw [if_pos hu] at h; cases h
    · rw [if_neg hu] at h
      have hlen : t < vs.length := by unfold unseen at hu; simpa using hu
      cases hc : candidates t vs with
      | nil => rw [hc] at h; cases h
      | cons u r =>
        cases r with
        | cons y r => rw [hc] at h; cases h
        | nil =>
          have hu' := (cm u).mp (by rw [hc]; exact List.mem_cons_self)
          refine ⟨u, hu'.2, fun w hw => ?_⟩
          apply Classical.byContradiction
          intro hn
          by_cases hm : w ∈ vs
          · have := (cm w).mpr ⟨hm, by omega⟩
            rw [hc] at this
            exact hw (List.mem_singleton.mp this)
          · rw [offs_fresh hm] at hn
            omega
  · rintro ⟨u, h1, h2⟩
    have hlen : t < vs.length := by
      by_cases e : unheard vs + ((0 : Nat) : Int) = u
      · have h3 := h2 (unheard vs + ((1 : Nat) : Int)) (by omega)
        rwa [offs_fresh (unheard_not vs 1)] at h3
      · have h3 := h2 _ e
        rwa [offs_fresh (unheard_not vs 0)] at h3
    have hu : u ∈ vs := by
      apply Classical.byContradiction
      intro hn
      rw [offs_fresh hn] at h1
      omega
    have hun : ¬ unseen t vs = true := by unfold unseen; simp; omega
    have hc : candidates t vs = [u] := by
      have hm := (cm u).mpr ⟨hu, h1⟩
      cases hc : candidates t vs with
      | nil => rw [hc] at hm; cases hm
      | cons y r =>
        have hall : ∀ z ∈ candidates t vs, z = u := fun z hz => by
          apply Classical.byContradiction
          intro hn
          have := h2 z hn
          have := ((cm z).mp hz).2
          omega
        cases r with
        | nil => rw [hall y (by rw [hc]; exact List.mem_cons_self)]
        | cons z r =>
          rw [hc] at cnd hall
          have e1 := hall y List.mem_cons_self
          have e2 := hall z (List.mem_cons_of_mem _ List.mem_cons_self)
          rw [List.nodup_cons] at cnd
          exact absurd (by rw [e1, e2]; exact List.mem_cons_self) cnd.1
    unfold verdict
    rw [if_neg hun, hc]

/-- the two numbers behind the two least -/
theorem perm_map_inv {α β : Type} [DecidableEq α] {g : α → β} : ∀ {l : List β} {L : List α}, l.Perm (L.map g) → ∃ L' : List α, L'.Perm L ∧ L'.map g = l
  | [], L, h => by
    have : L.map g = [] := h.symm.eq_nil
    exact ⟨[], by rw [List.map_eq_nil_iff.mp this], rfl⟩
  | a :: l, L, h => by
    obtain ⟨x, hx, e⟩ := List.mem_map.mp (h.subset List.mem_cons_self)
    have p1 : L.Perm (x :: L.erase x) := List.perm_cons_erase hx
    have p2 : (a :: l).Perm (a :: (L.erase x).map g) := by
      have := h.trans (p1.map g)
      rwa [List.map_cons, e] at this
    obtain ⟨L', q1, q2⟩ := perm_map_inv ((List.perm_cons a).mp p2)
    exact ⟨x :: L', (q1.cons x).trans p1.symm, by rw [List.map_cons, e, q2]⟩
/-- all told numbers, and two that nobody told -/
def nums (ns : List Int) : List Int := ns.eraseDups ++ [unheard ns, unheard ns + ((1 : Nat) : Int)]
theorem unheard_zero (ns : List Int) : unheard ns ∉ ns := by
  have := unheard_not ns 0
  simpa using this
theorem nums_nodup (ns : List Int) : (nums ns).Nodup := by
  unfold nums
  rw [List.nodup_append]
  refine ⟨dups_nodup ns, by simp; omega, ?_⟩
  intro a ha b hb e
  rw [dups_mem] at ha
  rw [e] at ha
  rcases List.mem_cons.mp hb with rfl | hb
  · exact unheard_zero ns ha
  · have := List.mem_singleton.mp hb
    subst this
    exact unheard_not ns 1 ha
theorem nums_offs (ns : List Int) : (nums ns).map (offs ns) = ns.eraseDups.map (fun v => ns.length - ns.count v) ++ [ns.length, ns.length] := by
  unfold nums
  rw [List.map_append]
  congr 1
  rw [List.map_cons, List.map_cons, offs_fresh (unheard_zero ns), offs_fresh (unheard_not ns 1)]
  rfl
theorem least2_nums {ns : List Int} {a b : Nat} (h : Least2 ns a b) : ∃ u v, u ≠ v ∧ u ∈ nums ns ∧ v ∈ nums ns ∧ offs ns u = a ∧ offs ns v = b ∧ a ≤ b ∧ b ≤ ns.length ∧ ∀ w, w ≠ u → b ≤ offs ns w := by
  obtain ⟨rest, hp, hs⟩ := h.ex
  rw [← nums_offs] at hp
  obtain ⟨L', q1, q2⟩ := perm_map_inv hp
  cases L' with
  | nil => cases q2
  | cons u L' =>
    cases L' with
    | nil => cases q2
    | cons v r =>
      rw [List.map_cons, List.map_cons] at q2
      have e1 : offs ns u = a := (List.cons.inj q2).1
      have e2 : offs ns v = b := (List.cons.inj (List.cons.inj q2).2).1
      have e3 : r.map (offs ns) = rest := (List.cons.inj (List.cons.inj q2).2).2
      have nd := q1.nodup_iff.mpr (nums_nodup ns)
      rw [List.nodup_cons, List.nodup_cons] at nd
      rw [List.pairwise_cons, List.pairwise_cons] at hs
      have huv : u ≠ v := fun e => nd.1 (by rw [e]; exact List.mem_cons_self)
      have hbn : b ≤ ns.length := by rw [← e2]; exact offs_le ns v
      refine ⟨u, v, huv, q1.subset List.mem_cons_self, q1.subset (List.mem_cons_of_mem _ List.mem_cons_self), e1, e2, hs.1 b List.mem_cons_self, hbn, fun w hw => ?_⟩
      by_cases hm : w ∈ ns
      · have : w ∈ u :: v :: r := q1.symm.subset (List.mem_append_left _ ((dups_mem ns).mpr hm))
        rcases List.mem_cons.mp this with h | h
        · exact absurd h hw
        · rcases List.mem_cons.mp h with h | h
          · rw [h, e2]; exact Nat.le_refl _
          · exact hs.2.1 _ (by rw [← e3]; exact List.mem_map.mpr ⟨w, h, rfl⟩)
      · rw [offs_fresh hm]; exact hbn
/-- whether k more make it sure -/
def sureAt (t : Nat) (ns : List Int) (k : Nat) : Bool := (unheard ns :: kinds ns).any fun v => verdict t (ns ++ List.replicate k v) == 1
theorem atBest_eq (t : Nat) (ns : List Int) : atBest t ns = (List.range (2 * t + 2)).find? (sureAt t ns) := rfl
theorem sureAt_iff (t : Nat) (ns : List Int) (k : Nat) : sureAt t ns k = true ↔ ∃ x ∈ unheard ns :: ns.eraseDups, ∃ u, offs (ns ++ List.replicate k x) u ≤ t ∧ ∀ w, w ≠ u → t < offs (ns ++ List.replicate k x) w := by
  unfold sureAt
  rw [List.any_eq_true]
  constructor
  · rintro ⟨x, hx, h⟩
    exact ⟨x, hx, (sure_iff t _).mp (beq_iff_eq.mp h)⟩
  · rintro ⟨x, hx, h⟩
    exact ⟨x, hx, beq_iff_eq.mpr ((sure_iff t _).mpr h)⟩
theorem fold_max {α : Type} (f : α → Nat) : ∀ (l : List α) (m : Nat), l.foldl (fun m p => max m (f p)) m = max m (l.foldl (fun m p => max m (f p)) 0)
  | [], m => by simp
  | x :: l, m => by
    rw [List.foldl_cons, List.foldl_cons, fold_max f l (max m (f x)), fold_max f l (max 0 (f x))]
    omega
theorem fold_is {α : Type} {f : α → Nat} {l : List α} {M : Nat} (h1 : ∀ x ∈ l, f x ≤ M) (h2 : M = 0 ∨ ∃ x ∈ l, f x = M) : l.foldl (fun m p => max m (f p)) 0 = M := by
  induction l with
  | nil =>
    rcases h2 with h2 | ⟨x, hx, _⟩
    · exact h2.symm
    · cases hx
  | cons x l ih =>
    rw [List.foldl_cons, fold_max]
    have a1 := h1 x List.mem_cons_self
    have a2 : l.foldl (fun m p => max m (f p)) 0 ≤ M := by
      have key : ∀ (l : List α), (∀ x ∈ l, f x ≤ M) → l.foldl (fun m p => max m (f p)) 0 ≤ M := by
        intro l
        induction l with
        | nil => intro _; exact Nat.zero_le _
        | cons y l ih2 =>
          intro h
          rw [List.foldl_cons, fold_max]
          have := ih2 fun z hz => h z (List.mem_cons_of_mem _ hz)
          have := h y List.mem_cons_self
          omega
      exact key l fun z hz => h1 z (List.mem_cons_of_mem _ hz)
    rcases h2 with h2 | ⟨y, hy, e⟩
    · omega
    · rcases List.mem_cons.mp hy with rfl | hy
      · omega
      · have := ih (fun z hz => h1 z (List.mem_cons_of_mem _ hz)) (.inr ⟨y, hy, e⟩)
        omega
/-- the counts of two numbers at two places -/
theorem pairs_mem {t : Nat} {ns : List Int} {p : Nat × Nat} : p ∈ pairs t ns ↔ ∃ i j : Nat, i < j ∧ ∃ w1 w2, (unheard ns :: (unheard ns + ((1 : Nat) : Int)) :: ns.eraseDups)[i]? = some w1 ∧ (unheard ns :: (unheard ns + ((1 : Nat) : Int)) :: ns.eraseDups)[j]? = some w2 ∧ p = (ns.count w1, ns.count w2) ∧
    p.1 + (ns.length - p.1 - p.2) ≤ t ∧ p.2 + (ns.length - p.1 - p.2) ≤ t := by
  have ec : (0 :: 0 :: (kinds ns).map fun v => ns.count v) = (unheard ns :: (unheard ns + ((1 : Nat) : Int)) :: ns.eraseDups).map fun v => ns.count v := by
    rw [List.map_cons, List.map_cons, List.count_eq_zero.mpr (unheard_zero ns), List.count_eq_zero.mpr (unheard_not ns 1)]
    rfl
  unfold pairs
  rw [ec]
  generalize hL : (unheard ns :: (unheard ns + ((1 : Nat) : Int)) :: ns.eraseDups) = L
  simp only [List.mem_filter, List.mem_flatMap, List.mem_map, decide_eq_true_eq]
  constructor
  · rintro ⟨⟨⟨c, i⟩, hx, y, hy, rfl⟩, h⟩
    rw [List.mem_zipIdx_iff_getElem?] at hx
    simp only at hx hy h
    obtain ⟨j, hj⟩ := List.getElem?_of_mem hy
    rw [List.getElem?_drop] at hj
    rw [List.getElem?_map] at hx hj
    cases e1 : L[i]? with
    | none => rw [e1] at hx; cases hx
    | some w1 =>
      cases e2 : L[i + 1 + j]? with
      | none => rw [e2] at hj; cases hj
      | some w2 =>
        rw [e1] at hx
        rw [e2] at hj
        have h1 := Option.some.inj hx
        have h2 := Option.some.inj hj
        refine ⟨i, i + 1 + j, by omega, w1, w2, e1, e2, ?_, h⟩
        rw [← h1, ← h2]
  · rintro ⟨i, j, hij, w1, w2, e1, e2, rfl, h⟩
    refine ⟨⟨(ns.count w1, i), ?_, ns.count w2, ?_, rfl⟩, h⟩
    · rw [List.mem_zipIdx_iff_getElem?]
      simp only [List.getElem?_map, e1, Option.map_some]
    · refine List.mem_of_getElem? (i := j - (i + 1)) ?_
      rw [List.getElem?_drop, show i + 1 + (j - (i + 1)) = j by omega, List.getElem?_map, e2]
      rfl
theorem nums2_perm (ns : List Int) : (unheard ns :: (unheard ns + ((1 : Nat) : Int)) :: ns.eraseDups).Perm (nums ns) := by
  unfold nums
  exact (List.perm_append_comm (l₁ := [unheard ns, unheard ns + ((1 : Nat) : Int)]) (l₂ := ns.eraseDups))
/-- what the program says -/
def moreSaid (t a b : Nat) : List Int := if t < a then [0] else if t < b then [1, 0, 0] else [1, (t : Int) + 1 - (b : Int), 2 * (t : Int) - (a : Int) - (b : Int) + 1]
theorem more_is {t : Nat} {ns : List Int} {a b : Nat} (h : Least2 ns a b) : moreAns t ns = moreSaid t a b := by
  obtain ⟨u, v, huv, hu, hv, eu, ev, hab, hbn, hall⟩ := least2_nums h
  have ha : ∀ w, a ≤ offs ns w := fun w => by
    by_cases e : w = u
    · rw [e, eu]; exact Nat.le_refl _
    · have := hall w e; omega
  unfold moreSaid
  by_cases h1 : t < a
  · rw [if_pos h1]
    have : atBest t ns = none := by
      rw [atBest_eq, List.find?_eq_none]
      intro k _ hk
      obtain ⟨x, _, y, hy, _⟩ := (sureAt_iff t ns k).mp hk
      rw [offs_more] at hy
      have := ha y
      split at hy <;> omega
    unfold moreAns
    rw [this]
  rw [if_neg h1]
  by_cases h2 : t < b
  · rw [if_pos h2]
    have e0 : atBest t ns = some 0 := by
      rw [atBest_eq]
      refine List.find?_range_eq_some.mpr ⟨?_, List.mem_range.mpr (by omega), fun j hj => by omega⟩
      refine (sureAt_iff t ns 0).mpr ⟨unheard ns, List.mem_cons_self, u, ?_, fun w hw => ?_⟩
      · rw [offs_more]
        split <;> omega
      · rw [offs_more]
        have := hall w hw
        split <;> omega
    have e1 : atWorst t ns = 0 := by
      have : pairs t ns = [] := by
        rw [List.eq_nil_iff_forall_not_mem]
        intro p hp
        obtain ⟨i, j, hij, w1, w2, g1, g2, rfl, c1, c2⟩ := pairs_mem.mp hp
        have nd := (nums2_perm ns).nodup_iff.mpr (nums_nodup ns)
        have hne : w1 ≠ w2 := fun e => by
          have l1 := (List.getElem?_eq_some_iff.mp g1)
          have l2 := (List.getElem?_eq_some_iff.mp g2)
          obtain ⟨a1, b1⟩ := l1
          obtain ⟨a2, b2⟩ := l2
          have := (List.getElem_inj nd).mp (b1.trans (e.trans b2.symm))
          omega
        have hc := count_two hne ns
        have k1 : offs ns w1 ≤ t := by unfold offs; simp only at c2; omega
        have k2 : offs ns w2 ≤ t := by unfold offs; simp only at c1; omega
        by_cases e : w1 = u
        · have := hall w2 (fun z => hne (e.trans z.symm)); omega
        · have := hall w1 e; omega
      show (pairs t ns).foldl _ 0 = 0
      rw [this]
      rfl
    unfold moreAns
    rw [e0, e1]
    rfl
  rw [if_neg h2]
  -- one of the told ones, or one that nobody told, that is as near
  have hx : ∃ x ∈ unheard ns :: ns.eraseDups, offs ns x = a ∧ ∀ w, w ≠ x → b ≤ offs ns w := by
    by_cases hm : u ∈ ns
    · exact ⟨u, List.mem_cons_of_mem _ ((dups_mem ns).mpr hm), eu, hall⟩
    · have e1 : a = ns.length := by rw [← eu, offs_fresh hm]
      refine ⟨unheard ns, List.mem_cons_self, by rw [offs_fresh (unheard_zero ns), e1], fun w _ => ?_⟩
      have := ha w
      omega
  obtain ⟨x, hxm, hxa, hxb⟩ := hx
  have e0 : atBest t ns = some (t + 1 - b) := by
    rw [atBest_eq]
    refine List.find?_range_eq_some.mpr ⟨?_, List.mem_range.mpr (by omega), fun j hj => ?_⟩
    · refine (sureAt_iff t ns _).mpr ⟨x, hxm, x, ?_, fun w hw => ?_⟩
      · rw [offs_more, if_pos rfl]; omega
      · rw [offs_more, if_neg hw]
        have := hxb w hw
        omega
    · rw [Bool.not_eq_true']
      cases hs : sureAt t ns j with
      | false => rfl
      | true =>
        obtain ⟨x', _, y, hy1, hy2⟩ := (sureAt_iff t ns j).mp hs
        have k1 : offs (ns ++ List.replicate j x') u ≤ t := by rw [offs_more]; split <;> omega
        have k2 : offs (ns ++ List.replicate j x') v ≤ t := by rw [offs_more]; split <;> omega
        by_cases e : u = y
        · have := hy2 v (fun z => huv (e.trans z.symm)); omega
        · have := hy2 u e; omega
  have e1 : atWorst t ns = 2 * t - a - b + 1 := by
    show (pairs t ns).foldl (fun m p => max m (2 * t - (ns.length - p.1 - p.2) - ns.length + 1)) 0 = _
    have nd := (nums2_perm ns).nodup_iff.mpr (nums_nodup ns)
    have cu : ns.count u = ns.length - a := by have := List.count_le_length (a := u) (l := ns); unfold offs at eu; omega
    have cv : ns.count v = ns.length - b := by have := List.count_le_length (a := v) (l := ns); unfold offs at ev; omega
    have cuv := count_two huv ns
    refine fold_is (fun p hp => ?_) (.inr ?_)
    · obtain ⟨i, j, hij, w1, w2, g1, g2, rfl, c1, c2⟩ := pairs_mem.mp hp
      have hne : w1 ≠ w2 := fun e => by
        obtain ⟨a1, b1⟩ := List.getElem?_eq_some_iff.mp g1
        obtain ⟨a2, b2⟩ := List.getElem?_eq_some_iff.mp g2
        have := (List.getElem_inj nd).mp (b1.trans (e.trans b2.symm))
        omega
      have hc := count_two hne ns
      have m1 := List.count_le_length (a := w1) (l := ns)
      have m2 := List.count_le_length (a := w2) (l := ns)
      simp only
      by_cases e : w1 = u
      · have q1 := hall w2 (fun z => hne (e.trans z.symm))
        have q2 := ha w1
        unfold offs at q1 q2
        omega
      · have q1 := hall w1 e
        have q2 := ha w2
        unfold offs at q1 q2
        omega
    · have mu : u ∈ unheard ns :: (unheard ns + ((1 : Nat) : Int)) :: ns.eraseDups := (nums2_perm ns).symm.subset hu
      have mv : v ∈ unheard ns :: (unheard ns + ((1 : Nat) : Int)) :: ns.eraseDups := (nums2_perm ns).symm.subset hv
      obtain ⟨i, hi⟩ := List.getElem?_of_mem mu
      obtain ⟨j, hj⟩ := List.getElem?_of_mem mv
      have hij : i ≠ j := fun e => by
        rw [e, hj] at hi
        exact huv (Option.some.inj hi).symm
      by_cases hlt : i < j
      · refine ⟨(ns.count u, ns.count v), pairs_mem.mpr ⟨i, j, hlt, u, v, hi, hj, rfl, ?_, ?_⟩, ?_⟩ <;> (simp only; omega)
      · refine ⟨(ns.count v, ns.count u), pairs_mem.mpr ⟨j, i, by omega, v, u, hj, hi, rfl, ?_, ?_⟩, ?_⟩ <;> (simp only; omega)
  unfold moreAns
  rw [e0, e1]
  have z1 : ((t + 1 - b : Nat) : Int) = (t : Int) + 1 - (b : Int) := by omega
  have z2 : ((2 * t - a - b + 1 : Nat) : Int) = 2 * (t : Int) - (a : Int) - (b : Int) + 1 := by omega
  rw [← z1, ← z2]
end TdM
set_option Elab.async false
set_option linter.all false
/-! Two desks, plain: an order and how far it is; rows by twos; each call's answer. -/
namespace TdM
open Vbceah VbceCore

/-! ### an order -/
theorem progress_length (bs : List Book) (o : List Nat) : (progress bs o).length = bs.length := by simp [progress]
theorem progress_at {bs : List Book} {o : List Nat} {b : Nat} (h : b < bs.length) : (progress bs o)[b]? = some (o.count b) := by simp [progress, doneOf, h]
theorem progress_getD {bs : List Book} {o : List Nat} {b : Nat} (h : b < bs.length) : (progress bs o).getD b 0 = o.count b := by
  rw [List.getD_eq_getElem?_getD, progress_at h]
  rfl
theorem progress_far {bs : List Book} {o : List Nat} (f : Fit bs o) : Far bs (progress bs o) := by
  refine ⟨progress_length bs o, fun b => ?_⟩
  by_cases h : b < bs.length
  · rw [progress_getD h]
    exact f b
  · rw [List.getD_eq_getElem?_getD, List.getElem?_eq_none (by rw [progress_length]; omega)]
    exact Nat.zero_le _
theorem progress_sum (bs : List Book) : ∀ o : List Nat, (∀ b ∈ o, b < bs.length) → (progress bs o).sum = o.length := by
  intro o
  refine snoc_ind (P := fun o => (∀ b ∈ o, b < bs.length) → (progress bs o).sum = o.length) ?_ ?_ o
  · intro _
    have : progress bs [] = zeros bs.length := by
      unfold progress zeros
      apply List.ext_getElem?
      intro i
      by_cases h : i < bs.length
      · simp [h, doneOf]
      · simp [h, List.getElem?_replicate]
    rw [this, zeros_sum]
    rfl
  · intro l b ih h
    have hb : b < bs.length := h b (by simp)
    have e := counts_step (o := l) hb
    have e' : (progress bs l).set b (l.count b + 1) = progress bs (l ++ [b]) := e
    have := sum_set (l := progress bs l) (b := b) (by rw [progress_length]; exact hb) (l.count b + 1)
    rw [e', progress_getD hb, ih fun c hc => h c (by simp [hc])] at this
    rw [List.length_append, List.length_singleton]
    omega
theorem whole_len {bs : List Book} {o : List Nat} (f : Fit bs o) : isWhole bs o = decide (o.length = sheetsIn bs) := by
  have F := progress_far f
  have hs := progress_sum bs o fun b h => f.lt h
  have key : isWhole bs o = true ↔ o.length = sheetsIn bs := by
    unfold isWhole
    rw [Bool.and_eq_true, List.all_eq_true, List.all_eq_true]
    constructor
    · rintro ⟨h1, _⟩
      have : progress bs o = bs.map (·.length) := by
        apply List.ext_getElem?
        intro i
        by_cases h : i < bs.length
        · rw [progress_at h, List.getElem?_map, bookAt_some h]
          have := beq_iff_eq.mp (h1 i (List.mem_range.mpr h))
          exact congrArg some this
        · rw [List.getElem?_eq_none (by rw [progress_length]; omega), List.getElem?_eq_none (by rw [List.length_map]; omega)]
      rw [this] at hs
      exact hs.symm
    · intro h
      refine ⟨fun b hb => ?_, fun b hb => decide_eq_true (f.lt hb)⟩
      have hb := List.mem_range.mp hb
      have e := whole_all F (by omega)
      have e1 := progress_at (o := o) hb
      rw [e, List.getElem?_map, bookAt_some hb] at e1
      exact beq_iff_eq.mpr (Option.some.inj e1).symm
  by_cases h : o.length = sheetsIn bs
  · rw [decide_eq_true h, key.mpr h]
  · rw [decide_eq_false h]
    cases e : isWhole bs o with
    | false => rfl
    | true => exact absurd (key.mp e) h
theorem sheets_full {bs : List Book} {o : List Nat} (f : Fit bs o) : (sheetsOf bs o []).length = o.length := by
  have key : ∀ n i : Nat, i + n = o.length → (sheetsOf bs (o.drop i) (o.take i)).length = n := by
    intro n
    induction n with
    | zero =>
      intro i hi
      rw [List.drop_eq_nil_of_le (by omega)]
      rfl
    | succ n ih =>
      intro i hi
      obtain ⟨b, hb⟩ : ∃ b, o[i]? = some b := ⟨_, List.getElem?_eq_getElem (by omega)⟩
      obtain ⟨s, _, hst⟩ := sheets_step f hb
      rw [hst, List.length_cons, ih (i + 1) (by omega)]
  have := key o.length 0 (by omega)
  exact this
theorem fit_take {bs : List Book} {o : List Nat} (f : Fit bs o) (b : Nat) (h : o.count b < (bookAt bs b).length) : Fit bs (o ++ [b]) := by
  intro c
  rw [List.count_append]
  by_cases e : c = b
  · subst e
    simp
    omega
  · have := f c
    have : [b].count c = 0 := by simp [List.count_cons, Ne.symm e]
    omega
theorem sheets_snoc {bs : List Book} {o : List Nat} (f : Fit bs o) {b : Nat} (h : o.count b < (bookAt bs b).length) : ∃ s, (bookAt bs b)[o.count b]? = some s ∧ sheetsOf bs (o ++ [b]) [] = sheetsOf bs o [] ++ [s] := by
  have f' := fit_take f b h
  refine ⟨_, List.getElem?_eq_getElem h, ?_⟩
  have key : ∀ n i : Nat, i + n = o.length → sheetsOf bs ((o ++ [b]).drop i) ((o ++ [b]).take i) = sheetsOf bs (o.drop i) (o.take i) ++ [(bookAt bs b)[o.count b]] := by
    intro n
    induction n with
    | zero =>
      intro i hi
      have e : i = o.length := by omega
      subst e
      rw [List.drop_length, List.drop_left, List.take_left]
      rw [sheetsOf_cons]
      unfold doneOf
      rw [List.getElem?_eq_getElem h]
      rfl
    | succ n ih =>
      intro i hi
      obtain ⟨c, hc⟩ : ∃ c, o[i]? = some c := ⟨_, List.getElem?_eq_getElem (by omega)⟩
      have hc' : (o ++ [b])[i]? = some c := by rw [List.getElem?_append_left (by omega)]; exact hc
      obtain ⟨s, hs, hst⟩ := sheets_step f hc
      obtain ⟨s', hs', hst'⟩ := sheets_step f' hc'
      rw [List.take_append_of_le_length (by omega)] at hs'
      rw [hs] at hs'
      have := Option.some.inj hs'
      subst this
      rw [hst, hst', ih (i + 1) (by omega)]
      rfl
  exact key o.length 0 (by omega)
theorem nts_count (o : List Nat) (b : Nat) : (o.map fun n : Nat => (n : Int)).count (b : Int) = o.count b := by
  induction o with
  | nil => rfl
  | cons a o ih =>
    rw [List.map_cons, List.count_cons, List.count_cons, ih]
    congr 1
    by_cases h : a = b
    · simp [h]
    · have : ¬ (a : Int) = (b : Int) := by omega
      simp [h, this]
theorem clock_snoc (e1 e2 : Breaks) (l : List Sheet) (s : Sheet) : clockOf e1 e2 (l ++ [s]) = placed e1 e2 (clockOf e1 e2 l) s := by
  unfold clockOf
  rw [List.foldl_append]
  rfl

/-! ### rows by twos -/
theorem twos_some : ∀ {l : List Int} {r : List (Nat × Nat)}, twos l = some r → l.length = 2 * r.length ∧ ∀ (i : Nat) (b : Nat × Nat), r[i]? = some b → ∃ x y, l[2 * i]? = some x ∧ l[2 * i + 1]? = some y ∧ b = (x.toNat, y.toNat)
  | [], r, h => by
    have := Option.some.inj h
    subst this
    exact ⟨rfl, fun i b hb => by simp at hb⟩
  | [_], r, h => nomatch h
  | a :: b :: l, r, h => by
    unfold twos at h
    cases e : twos l with
    | none => rw [e] at h; cases h
    | some r' =>
      rw [e] at h
      have := Option.some.inj h
      subst this
      obtain ⟨h1, h2⟩ := twos_some e
      refine ⟨by simp; omega, fun i c hc => ?_⟩
      cases i with
      | zero => exact ⟨a, b, rfl, rfl, (Option.some.inj hc).symm⟩
      | succ i =>
        obtain ⟨x, y, e1, e2, e3⟩ := h2 i c (by simpa using hc)
        refine ⟨x, y, ?_, ?_, e3⟩
        · rw [show 2 * (i + 1) = 2 * i + 1 + 1 by omega, List.getElem?_cons_succ, List.getElem?_cons_succ]; exact e1
        · rw [show 2 * (i + 1) + 1 = 2 * i + 1 + 1 + 1 by omega, List.getElem?_cons_succ, List.getElem?_cons_succ]; exact e2
theorem twos_even : ∀ {l : List Int}, l.length % 2 = 0 → ∃ r, twos l = some r
  | [], _ => ⟨_, rfl⟩
  | [_], h => by simp at h
  | a :: b :: l, h => by
    obtain ⟨r, hr⟩ := twos_even (l := l) (by simp at h; omega)
    exact ⟨_, by unfold twos; rw [hr]; rfl⟩
theorem twos_odd : ∀ {l : List Int}, l.length % 2 = 1 → twos l = none
  | [], h => by simp at h
  | [_], _ => rfl
  | a :: b :: l, h => by
    unfold twos
    rw [twos_odd (l := l) (by simp at h; omega)]
    rfl
end TdM
set_option Elab.async false
set_option linter.all false
set_option maxRecDepth 100000
set_option maxHeartbeats 2000000
/-! Two desks, rules that the layer lacks: a for over a list or a tuple; an item of a list read in an augmented store; enumerate of a tuple; zip of a list and a tuple; a tuple times 0 or 1. -/
namespace Td
open PySem PySem.Spec PyProof.Rows L2

/-! ### a for over a list or a tuple -/
def iSeq (K : PySem.W.Frag) (tl : TE) : TI := fun σ H R => tl σ H fun x H1 => ∃ a, x = .ref a ∧ (((∃ xs, SqL K H1 a xs) ∧ R (Itl K a) H1) ∨ ((∃ xs, SqT K H1 a xs) ∧ R (Itt K a) H1))
theorem pi_seq {X : Cx} {tg l : Expr} {tl : TE} (hl : PE X l tl) : PI X tg l (iSeq X.K tl) := by
  refine ⟨fun pins s σ H R I h => ?_⟩
  refine thn (hl.run pins s σ H _ I h) fun v s1 ⟨x, H1, I1, r1, q1⟩ => ?_
  obtain ⟨a, e, q1⟩ := q1
  subst e
  cases r1
  have fp : ∀ b ∈ [s1.heap.objs.size], FpOk X pins H1 b := fun b hb => by
    have e : b = s1.heap.objs.size := by simpa using hb
    subst e
    exact I1.fpOk (Nat.le_refl _) (I1.hok.fresh (Nat.le_refl _))
  rcases q1 with ⟨⟨xs, hq⟩, q⟩ | ⟨⟨xs, hq⟩, q⟩
  · obtain ⟨its, rv, p, hz⟩ := I1.list hq
    refine wpAny_pyIter_list p.isList ?_
    exact ⟨s1.heap.objs.size, [s1.heap.objs.size], _, _, H1, rfl, I1.kept (t' := s1.toks) (fun b o e => Heap.get?_push_of_some _ e), turn_list a _, ⟨_, Heap.get?_push_size _ rfl, rfl, rfl⟩, fp, q⟩
  · obtain ⟨its, rv, p, hz⟩ := I1.tuple hq
    refine wpAny_pyIter_tuple (show s1.heap.IsTuple a its.toArray from p) ?_
    exact ⟨s1.heap.objs.size, [s1.heap.objs.size], _, _, H1, rfl, I1.kept (t' := s1.toks) (fun b o e => Heap.get?_push_of_some _ e), turn_tuple a _, ⟨_, Heap.get?_push_size _ rfl, rfl, rfl⟩, fp, q⟩

/-! ### xs[i] op= e, the read -/
def rGetL (K : PySem.W.Frag) : V → V → Hp → VK → Prop := fun o i H Q => ∃ p xs k j v, o = .ref p ∧ i = .int k ∧ SqL K H p xs ∧ k = ((j : Nat) : Int) ∧ xs[j]? = some v ∧ Q v H
theorem get_list {X : Cx} : PGet X (rGetL X.K) := by
  intro pins s σ H o i ov iv Q I ro ri h
  obtain ⟨p, xs, k, j, z, rfl, rfl, hq, rfl, he, q⟩ := h
  cases ro
  obtain ⟨t, rfl⟩ := ri
  obtain ⟨its, r, pl, hz⟩ := I.list hq
  obtain ⟨w, ew, rw'⟩ := r.get he
  have hn := line63
  have hj : j < xs.length := (List.getElem?_eq_some_iff.mp he).1
  exact wpAny_getItem_list pl.isList (by omega) (by omega) (by simpa using ew) ⟨z, H, I, rw', q⟩

/-! ### enumerate(t), t a tuple -/
set_option maxHeartbeats 4000000 in
theorem meets_enum1 {v : Value} {o : Obj} {H : Heap → Prop} (B : Begins v o H) :
    Meets (Builtin.«enumerate.__new__» ⟨[.type "enumerate", v], []⟩) (fun _ R s => H s.heap ∧
      R (.ok (.ret (.ref (s.heap.push o).objs.size))) { s with heap := (s.heap.push o).push { cls := .type "enumerate", data := .fields #[.none, .bool false, .ref s.heap.objs.size, rawInt 0, .none, .none] } }) :=
  .of_wp fun prog w A R s h => by
    obtain ⟨hp, g, d, tk, os⟩ := s; obtain ⟨h1, h⟩ := h
    have hsub := sub_enumerate
    have q1 : ∀ {A' : Around} {E : Value → Shared → Prop} {Q : Value → Shared → Prop}, Q (.ref hp.objs.size) ⟨hp.push o, g, d, tk, os⟩ → wpAny (model prog w) A' (pyIter v) Q E ⟨hp, g, d, tk, os⟩ :=
      fun q => B.iter prog w _ _ ⟨hp, g, d, tk, os⟩ _ h1 q
    wp_walk using q1
    refine wpAny_stack_any fun st => wpAny_pure ?_
    split
    · rename_i c _ _ _ _ _
      cases (c == Value.type "enumerate")
      · wp_walk using q1
        exact ⟨_, rfl, h⟩
      · wp_walk using q1
        exact ⟨_, rfl, h⟩
    · wp_walk using q1
      exact ⟨_, rfl, h⟩
theorem enum_begins1 {prog : Program} {w : World} {A : Around} {E : Value → Shared → Prop} {s : Shared} {v : Value} {o : Obj} {H : Heap → Prop} {Q : Value → Shared → Prop} (B : Begins v o H) (h1 : H s.heap)
    (h : ∀ h', IsEnum h' (s.heap.objs.size + 1) s.heap.objs.size 0 .none → h'.get? s.heap.objs.size = some o → h'.objs.size = s.heap.objs.size + 2 →
      (∀ b o, s.heap.get? b = some o → h'.get? b = some o) → Q (.ref (s.heap.objs.size + 1)) { s with heap := h' }) :
    wpAny (model prog w) A (call (.type "enumerate") [v]) Q E s := by
  refine callType_new F.called_enumerate (by decide) (F.typeCall_enumerate_1 _) (F.newCall_enumerate_1 _) (fun obj => F.args_object_init_2 obj _) F.entry_enumerate_new
    (meets_enum1 B) ⟨h1, ?_⟩
  have hz : (s.heap.push o).objs.size = s.heap.objs.size + 1 := Heap.size_push ..
  show _ ∧ _
  rw [hz]
  have he : IsEnum ((s.heap.push o).push { cls := .type "enumerate", data := .fields #[.none, .bool false, .ref s.heap.objs.size, rawInt 0, .none, .none] }) (s.heap.objs.size + 1) s.heap.objs.size 0 .none := by
    have := Heap.get?_push_size (s.heap.push o) (o := { cls := .type "enumerate", data := .fields #[.none, .bool false, .ref s.heap.objs.size, rawInt 0, .none, .none] }) rfl
    rw [hz] at this; exact this
  refine ⟨⟨_, he, rfl⟩, h _ he (Heap.get?_push_of_some _ (Heap.get?_push_size _ B.free)) (by rw [Heap.size_push, hz]) fun b o x => Heap.get?_push_of_some _ (Heap.get?_push_of_some _ x)⟩

/-- the tuple at a as it stands, each item in a new pair behind its number -/
def ItE (K : PySem.W.Frag) (a : Addr) : It :=
  ⟨fun i H => ∃ (xs : List V) (x : V), SqT K H a xs ∧ xs[i]? = some x,
    fun i H v H' => ∃ T x, v = .ref T ∧ H T = none ∧ H' = upd H T (.tup [.int (i : Nat), x]) ∧ ∀ xs, SqT K H a xs → xs[i]? = some x,
    fun i H => ∃ xs : List V, SqT K H a xs ∧ xs.length = i⟩
theorem turn_enumT {P : Program} {w : World} {K : PySem.W.Frag} {elts : List Expr} {kk : Nat} {tpos : Pos} {a e it : Addr} (hae : a ≠ e) (hai : a ≠ it) (hei : e ≠ it) :
    Turn P w K (.Tuple elts kk tpos) (ItE K a) [e, it] e (fun i h => (∃ old, IsEnum h e it ((i : Nat) : Int) old) ∧ h.IsTupleIter it a i) where
  mem := by simp
  obj := fun i h st b hb => by
    obtain ⟨⟨old, he⟩, ⟨o, ho, hc, hd⟩⟩ := st
    have e' : b = e ∨ b = it := by simpa using hb
    rcases e' with z | z
    · rw [z]; exact ⟨_, he, fun v q => nomatch q⟩
    · rw [z]; exact ⟨o, ho, fun v q => by rw [hd] at q; cases q⟩
  keep := fun i h h' st k => let ⟨⟨old, he⟩, hi⟩ := st; ⟨⟨old, k e (by simp) _ he⟩, hi.at fun o q => k it (by simp) o q⟩
  item := by
    intro X hP hw hK hc i pins s σ H E I hf st hg
    subst hP hw hK
    obtain ⟨⟨old, he⟩, hit⟩ := st
    obtain ⟨xs, x, hq, hx⟩ := hg
    obtain ⟨its, rv, p, hz⟩ := I.tuple hq
    obtain ⟨u, hu, ru⟩ := rv.get hx
    have hi : i < its.length := (List.getElem?_eq_some_iff.mp hu).1
    have D := Draws.tuple (prog := X.prog) (w := X.w) (A := X.A.in1) (I.ok.hd hc) it a hai its.toArray
    have W := WalksT.enumFrom 0 D e hei (by simp; exact ⟨hei, Ne.symm hae⟩) (by simp)
    have z0 : (0 : Int) + ((i : Nat) : Int) = ((i : Nat) : Int) := by omega
    refine W.item i s _ _ (by simpa using hi) ⟨⟨old, by rw [z0]; exact he⟩, hit, p⟩ fun T vals h' tk hv hT hTup hMid hk => ?_
    refine ⟨_, rfl, W.go elts kk tpos i T { s with heap := h', toks := tk } _ _ hMid fun h'' st'' hk'' => ?_⟩
    have hTw := W.apart i T h' hMid
    obtain ⟨t, y, hy, evs⟩ := hv
    have ey : y = u := by
      have : its[i]? = some y := by simpa using hy
      rw [hu] at this
      exact (Option.some.inj this).symm
    subst ey
    have hTup'' : h''.IsTuple T vals := hTup.at fun o q => hk'' T o hTw q
    have hnone : H T = none := I.hok.fresh hT
    have new : ObjOk X.prog X.w (upd H T (.tup [.int (i : Nat), x])) h'' T (.tup [.int (i : Nat), x]) := by
      refine ⟨by show 2 ≤ sizeLine; decide, [.int (0 + (i : Int)) t, y], .cons ⟨t, by rw [z0]⟩ (.cons ru .nil), ?_⟩
      rw [evs] at hTup''
      exact hTup''
    have I1 : Inv X pins σ (upd H T (.tup [.int (i : Nat), x])) { s with heap := h'', toks := tk } :=
      I.turnedNew (ch := [e, it]) (fun b ob hb q => hk'' b ob hb (hk b ob hb q)) hf hT new
    refine ⟨.ref T, _, I1, rfl, ⟨T, x, rfl, hnone, rfl, fun ys hy' => by rw [I.tuple_inj hy' hq]; exact hx⟩, ⟨?_, st''.2.1⟩, fun b hb => ?_⟩
    · obtain ⟨old', q⟩ := st''.1
      refine ⟨old', ?_⟩
      have z1 : (0 : Int) + ((i + 1 : Nat) : Int) = ((i + 1 : Nat) : Int) := by omega
      rw [z1] at q
      exact q
    · have hb' : b < s.heap.objs.size := by
        have e' : b = e ∨ b = it := by simpa using hb
        rcases e' with z | z
        · rw [z]; exact Heap.lt_size he
        · rw [z]; obtain ⟨o, ho, _⟩ := hit; exact Heap.lt_size ho
      rw [upd_ne (Nat.ne_of_lt (Nat.lt_of_lt_of_le hb' hT))]
      exact (hf b hb).1
  done := by
    intro X hP hw hK hc i pins s σ H E I hf st hg
    subst hP hw hK
    obtain ⟨⟨old, he⟩, hit⟩ := st
    obtain ⟨xs, hq, hx⟩ := hg
    obtain ⟨its, rv, p, hz⟩ := I.tuple hq
    have hl := rv.length
    have D := Draws.tuple (prog := X.prog) (w := X.w) (A := X.A.in1) (I.ok.hd hc) it a hai its.toArray
    have W := WalksT.enumFrom 0 D e hei (by simp; exact ⟨hei, Ne.symm hae⟩) (by simp)
    have en : its.toArray.size = i := by simp; omega
    have z0 : (0 : Int) + ((its.toArray.size : Nat) : Int) = ((i : Nat) : Int) := by omega
    refine W.done s _ _ ⟨⟨old, by rw [z0]; exact he⟩, by rw [en]; exact hit, p⟩ fun h' tk hk => ⟨rfl, ?_⟩
    exact I.turnedL (ch := [e, it]) (fun b o hb q => hk b o hb q) hf
  self := fun A i s Q E st h => let ⟨⟨_, he⟩, _⟩ := st; wpAny_pyIter_enum he h
def iEnT (K : PySem.W.Frag) (ta : TA) : TI := fun σ H R => ta σ H fun vs H1 => ∃ a xs, vs = [.ref a] ∧ SqT K H1 a xs ∧ R (ItE K a) H1
theorem pi_enumT {X : Cx} {e : Expr} {ta : TA} {p pos tpos : Pos} {elts : List Expr} {kk : Nat} (hg : Gl X "enumerate") (hm : X.mg "enumerate" = none) (ha : PA X [e] ta) (hs : starEach [e] X.env = [(false, eval e X.env)] := by rfl) :
    PI X (.Tuple elts kk tpos) (.Call (.Name "enumerate" p) [e] [] pos) (iEnT X.K ta) := by
  refine ⟨fun pins s σ H R I h => ?_⟩
  refine Call_ (ld_blt I hg hm boot_enumerate (PyProof.Rows.callWith_type1 (thn (ha.run pos pins s σ H _ I h) fun us s1 ⟨vs, H1, I1, r1, q1⟩ => ?_) hs rfl))
  obtain ⟨a, xs, ex, hq, q⟩ := q1
  subst ex
  cases r1 with
  | cons r rr =>
    cases rr
    cases r
    obtain ⟨its, rv, p', hz⟩ := I1.tuple hq
    have ha' : a < s1.heap.objs.size := p'.lt
    refine enum_begins1 (begins_tuple a its.toArray) p' fun h' he hit hsz hk => wpAny_pyIter_enum he ?_
    have I2 : Inv X pins σ H1 { s1 with heap := h' } := I1.kept (t' := s1.toks) hk
    refine ⟨s1.heap.objs.size + 1, [s1.heap.objs.size + 1, s1.heap.objs.size], _, _, H1, rfl, I2, turn_enumT (a := a) (Nat.ne_of_lt (Nat.lt_succ_of_lt ha')) (Nat.ne_of_lt ha') (Nat.succ_ne_self _), ⟨⟨.none, he⟩, ⟨_, hit, rfl, rfl⟩⟩, fun b hb => ?_, q⟩
    have e' : b = s1.heap.objs.size + 1 ∨ b = s1.heap.objs.size := by simpa using hb
    have hle : s1.heap.objs.size ≤ b := by
      rcases e' with z | z
      · rw [z]; exact Nat.le_add_right _ _
      · rw [z]; exact Nat.le_refl _
    exact I1.fpOk hle (I1.hok.fresh hle)
theorem walk_enumT {K : PySem.W.Frag} {a : Addr} {xs : List V} : Walk (ItE K a) xs.length (fun H => SqT K H a xs) (YPair (fun i => some (.int (i : Nat))) (fun i => xs[i]?)) := by
  refine ⟨fun i _ hi q => ⟨xs, xs[i], q, by simp [hi]⟩, fun _ q => ⟨xs, q, rfl⟩, fun i H v H' _ q y => ?_⟩
  obtain ⟨T, x, h1, h2, h3, h4⟩ := y
  exact ⟨T, .int (i : Nat), x, h1, h2, h3, rfl, h4 xs q⟩

/-! ### zip(xs, t): a list and a tuple -/
theorem mem5 {c z TI TO i1 i2 : Addr} (m : c ∈ [z, TO, i1, i2]) : c ∈ [z, TI, TO, i1, i2] := by
  simp only [List.mem_cons, List.not_mem_nil, or_false] at m ⊢
  rcases m with h | h | h | h
  · exact .inl h
  · exact .inr (.inr (.inl h))
  · exact .inr (.inr (.inr (.inl h)))
  · exact .inr (.inr (.inr (.inr h)))
def ItZ (K : PySem.W.Frag) (a b : Addr) : It :=
  ⟨fun i H => ∃ (xs ys : List V) (x y : V), SqL K H a xs ∧ SqT K H b ys ∧ xs.length = ys.length ∧ xs[i]? = some x ∧ ys[i]? = some y,
    fun i H v H' => ∃ T x y, v = .ref T ∧ H T = none ∧ H' = upd H T (.tup [x, y]) ∧ (∀ xs, SqL K H a xs → xs[i]? = some x) ∧ ∀ ys, SqT K H b ys → ys[i]? = some y,
    fun i H => ∃ xs ys : List V, SqL K H a xs ∧ SqT K H b ys ∧ xs.length = ys.length ∧ xs.length = i⟩
theorem turn_zipLT {P : Program} {w : World} {K : PySem.W.Frag} {elts : List Expr} {kk : Nat} {tpos : Pos} {a b z TI TO i1 i2 : Addr} (S : ZipSep2 z TI TO i1 i2 [i1, a] [i2, b]) (ha1 : a ≠ i1) (hb2 : b ≠ i2) :
    Turn P w K (.Tuple elts kk tpos) (ItZ K a b) [z, TI, TO, i1, i2] z (fun i h => IsZip h z TI TO .none ∧ IsTupOf2 h TI (.ref i1) (.ref i2) ∧ (∃ x y, IsTupOf2 h TO x y) ∧ h.IsListIter i1 a i ∧ h.IsTupleIter i2 b i) where
  mem := by simp
  obj := fun i h st c hc => by
    obtain ⟨hz, hTI, ⟨x, y, hTO⟩, ⟨o1, e1, _, d1⟩, ⟨o2, e2, _, d2⟩⟩ := st
    have e' : c = z ∨ c = TI ∨ c = TO ∨ c = i1 ∨ c = i2 := by simpa using hc
    rcases e' with q | q | q | q | q
    · rw [q]; exact ⟨_, hz, fun v q => nomatch q⟩
    · rw [q]; exact ⟨_, hTI, fun v q => nomatch q⟩
    · rw [q]; exact ⟨_, hTO, fun v q => nomatch q⟩
    · rw [q]; exact ⟨o1, e1, fun v q => by rw [d1] at q; cases q⟩
    · rw [q]; exact ⟨o2, e2, fun v q => by rw [d2] at q; cases q⟩
  keep := fun i h h' st k => by
    obtain ⟨hz, hTI, ⟨x, y, hTO⟩, h1, h2⟩ := st
    exact ⟨k z (by simp) _ hz, k TI (by simp) _ hTI, ⟨x, y, k TO (by simp) _ hTO⟩, h1.at fun o q => k i1 (by simp) o q, h2.at fun o q => k i2 (by simp) o q⟩
  item := by
    intro X hP hw hK hc i pins s σ H E I hf st hg
    subst hP hw hK
    obtain ⟨hz, hTI, ⟨x0, y0, hTO⟩, h1, h2⟩ := st
    obtain ⟨xs, ys, x, y, hqx, hqy, hl, hx, hy⟩ := hg
    obtain ⟨its, rv, p, _⟩ := I.list hqx
    obtain ⟨its2, rv2, p2, _⟩ := I.tuple hqy
    obtain ⟨u, hu, ru⟩ := rv.get hx
    obtain ⟨u2, hu2, ru2⟩ := rv2.get hy
    have hi1 : i < its.length := (List.getElem?_eq_some_iff.mp hu).1
    have hi2 : i < its2.length := (List.getElem?_eq_some_iff.mp hu2).1
    have D1 := Draws.list (prog := X.prog) (w := X.w) (A := X.A.in1) (I.ok.hd hc) i1 a ha1 its.toArray
    have D2 := Draws.tuple (prog := X.prog) (w := X.w) (A := X.A.in1) (I.ok.hd hc) i2 b hb2 its2.toArray
    have W := WalksT.zipD2 S D1 D2
    refine W.item i s _ _ (by simp; omega) ⟨hz, hTI, ⟨x0, y0, hTO⟩, ⟨h1, p.isList⟩, ⟨h2, p2⟩⟩ fun T vals h' tk hv hT hTup hMid hk => ?_
    refine ⟨_, rfl, W.go elts kk tpos i T { s with heap := h', toks := tk } _ _ hMid fun h'' st'' hk'' => ?_⟩
    have hTw := W.apart i T h' hMid
    obtain ⟨w1, w2, e1, e2, evs⟩ := hv
    have ew1 : w1 = u := by
      have : its[i]? = some w1 := by simpa using e1
      rw [hu] at this
      exact (Option.some.inj this).symm
    have ew2 : w2 = u2 := by
      have : its2[i]? = some w2 := by simpa using e2
      rw [hu2] at this
      exact (Option.some.inj this).symm
    subst ew1 ew2
    have hTup'' : h''.IsTuple T vals := hTup.at fun o q => hk'' T o hTw q
    have new : ObjOk X.prog X.w (upd H T (.tup [x, y])) h'' T (.tup [x, y]) := by
      refine ⟨by show 2 ≤ sizeLine; decide, [w1, w2], .cons ru (.cons ru2 .nil), ?_⟩
      rw [evs] at hTup''
      exact hTup''
    have I1 : Inv X pins σ (upd H T (.tup [x, y])) { s with heap := h'', toks := tk } :=
      I.turnedNew (ch := [z, TI, TO, i1, i2]) (fun c ob hc q => hk'' c ob (fun m => hc (mem5 m)) (hk c ob (fun m => hc (mem5 m)) q)) hf hT new
    obtain ⟨s1, s2, s3, s4, s5⟩ := st''
    refine ⟨.ref T, _, I1, rfl, ⟨T, x, y, rfl, I.hok.fresh hT, rfl, fun l hl => by rw [I.list_inj hl hqx]; exact hx, fun l hl => by rw [I.tuple_inj hl hqy]; exact hy⟩, ⟨s1, s2, s3, s4.1, s5.1⟩, fun c hcm => ?_⟩
    have hlt : c < s.heap.objs.size := by
      have e' : c = z ∨ c = TI ∨ c = TO ∨ c = i1 ∨ c = i2 := by simpa using hcm
      rcases e' with q | q | q | q | q
      · rw [q]; exact Heap.lt_size hz
      · rw [q]; exact Heap.lt_size hTI
      · rw [q]; exact Heap.lt_size hTO
      · rw [q]; obtain ⟨_, e1, _⟩ := h1; exact Heap.lt_size e1
      · rw [q]; obtain ⟨_, e2, _⟩ := h2; exact Heap.lt_size e2
    rw [upd_ne (Nat.ne_of_lt (Nat.lt_of_lt_of_le hlt hT))]
    exact (hf c hcm).1
  done := by
    intro X hP hw hK hc i pins s σ H E I hf st hg
    subst hP hw hK
    obtain ⟨hz, hTI, ⟨x0, y0, hTO⟩, h1, h2⟩ := st
    obtain ⟨xs, ys, hqx, hqy, hl, hend⟩ := hg
    obtain ⟨its, rv, p, _⟩ := I.list hqx
    obtain ⟨its2, rv2, p2, _⟩ := I.tuple hqy
    have l1 := rv.length
    have l2 := rv2.length
    have D1 := Draws.list (prog := X.prog) (w := X.w) (A := X.A.in1) (I.ok.hd hc) i1 a ha1 its.toArray
    have D2 := Draws.tuple (prog := X.prog) (w := X.w) (A := X.A.in1) (I.ok.hd hc) i2 b hb2 its2.toArray
    have W := WalksT.zipD2 S D1 D2
    have en : min its.toArray.size its2.toArray.size = i := by simp; omega
    refine W.done s _ _ ⟨hz, hTI, ⟨x0, y0, hTO⟩, ⟨by rw [en]; exact h1, p.isList⟩, ⟨by rw [en]; exact h2, p2⟩⟩ fun h' tk hk => ⟨rfl, ?_⟩
    exact I.turnedL (ch := [z, TI, TO, i1, i2]) (fun c o hc q => hk c o (fun m => hc (mem5 m)) q) hf
  self := fun A i s Q E st h => wpAny_pyIter_zip st.1 h
def iZipLT (K : PySem.W.Frag) (ta : TA) : TI := fun σ H R => ta σ H fun vs H1 => ∃ a b xs ys, vs = [.ref a, .ref b] ∧ SqL K H1 a xs ∧ SqT K H1 b ys ∧ R (ItZ K a b) H1
theorem pi_zipLT {X : Cx} {e e2 : Expr} {ta : TA} {p pos tpos : Pos} {elts : List Expr} {kk : Nat} (hg : Gl X "zip") (hm : X.mg "zip" = none) (ha : PA X [e, e2] ta)
    (hs : starEach [e, e2] X.env = (false, eval e X.env) :: starEach [e2] X.env := by rfl) (hpl : (backTo pos (starEach [e2] X.env)).any (·.1) = false := by rfl) :
    PI X (.Tuple elts kk tpos) (.Call (.Name "zip" p) [e, e2] [] pos) (iZipLT X.K ta) := by
  refine ⟨fun pins s σ H R I h => ?_⟩
  refine Call_ (ld_blt I hg hm PyProof.Rows.boot_zip (PyProof.Rows.callWith_type1 (thn (ha.run pos pins s σ H _ I h) fun us s1 ⟨vs, H1, I1, r1, q1⟩ => ?_) hs hpl))
  obtain ⟨a, b, xs, ys, ex, hqx, hqy, q⟩ := q1
  subst ex
  cases r1 with
  | cons r rr =>
    cases rr with
    | cons r' rr =>
      cases rr
      cases r
      cases r'
      obtain ⟨its, rv, p1, _⟩ := I1.list hqx
      obtain ⟨its2, rv2, p2, _⟩ := I1.tuple hqy
      have ha' : a < s1.heap.objs.size := by obtain ⟨_, q, _⟩ := p1.isList; exact Heap.lt_size q
      have hb' : b < s1.heap.objs.size := p2.lt
      refine zip_begins2 (begins_list a its.toArray) (begins_tuple b its2.toArray) p1.isList p2 fun h' hz hTI hTO h1 h2 hsz hk => wpAny_pyIter_zip hz ?_
      have I2 : Inv X pins σ H1 { s1 with heap := h' } := I1.kept (t' := s1.toks) hk
      have S := zip_sep2 (N := s1.heap.objs.size) (fp1 := [a]) (fp2 := [b]) (by intro c hc; rw [List.mem_singleton.mp hc]; exact ha') (by intro c hc; rw [List.mem_singleton.mp hc]; exact hb')
      refine ⟨s1.heap.objs.size + 4, _, _, _, H1, rfl, I2, turn_zipLT S (Nat.ne_of_lt ha') (Nat.ne_of_lt (Nat.lt_succ_of_lt hb')), ⟨hz, hTI, ⟨_, _, hTO⟩, ⟨_, h1, rfl, rfl⟩, ⟨_, h2, rfl, rfl⟩⟩, fun c hcm => ?_, q⟩
      have e' : c = s1.heap.objs.size + 4 ∨ c = s1.heap.objs.size + 2 ∨ c = s1.heap.objs.size + 3 ∨ c = s1.heap.objs.size ∨ c = s1.heap.objs.size + 1 := by simpa using hcm
      have hle : s1.heap.objs.size ≤ c := by
        rcases e' with z | z | z | z | z
        · rw [z]; exact Nat.le_add_right _ _
        · rw [z]; exact Nat.le_add_right _ _
        · rw [z]; exact Nat.le_add_right _ _
        · rw [z]; exact Nat.le_refl _
        · rw [z]; exact Nat.le_add_right _ _
      exact I1.fpOk hle (I1.hok.fresh hle)
theorem walk_zipLT {K : PySem.W.Frag} {a b : Addr} {xs ys : List V} (hl : xs.length = ys.length) : Walk (ItZ K a b) xs.length (fun H => SqL K H a xs ∧ SqT K H b ys) (YPair (fun i => xs[i]?) (fun i => ys[i]?)) := by
  refine ⟨fun i _ hi q => ?_, fun _ q => ⟨xs, ys, q.1, q.2, hl, rfl⟩, fun i H v H' _ q y => ?_⟩
  · have h2 : i < ys.length := by omega
    exact ⟨xs, ys, xs[i], ys[i], q.1, q.2, hl, by simp [hi], by simp [h2]⟩
  · obtain ⟨T, x, z, h1, h2, h3, h4, h5⟩ := y
    exact ⟨T, x, z, h1, h2, h3, h4 xs q.1, h5 ys q.2⟩
end Td
set_option Elab.async false
set_option linter.all false
set_option maxRecDepth 100000
set_option maxHeartbeats 2000000
/-! Two desks: a tuple of one thing times a number. -/
namespace Td
open PySem PySem.Spec PyProof.Rows L2
theorem tuple_mul_one (l : Addr) (items : Array Value) (n : Nat) (dd : Option Addr) (sl : Array (Option Value)) (u : Tok) :
    Meets (Builtin.«tuple.__mul__» ⟨[.ref l, .int 1 u], []⟩) (fun _ R s => s.heap.get? l = some { cls := .type "tuple", dict := dd, data := .seq items n, slots := sl } ∧
      R (.ok (.ret (Value.ref l))) s) :=
  .of_wp fun prog w A R s h => by
    obtain ⟨hp, g, d, tk, os⟩ := s
    obtain ⟨hl, h⟩ := h
    have f1 := AutoSeq1.idx_int
    have c0 : (decide ((1 : Int) < -(2 ^ 63)) || decide ((1 : Int) ≥ 2 ^ 63)) = false := by decide
    have c1 : (items.isEmpty || ((1 : Int) == 1)) = true := by simp
    wp_walk using wpAny_loadPart' hl
    repeat (first
      | (refine wpAny_ite_false (decide_eq_false (by rw [c0]; exact Bool.false_ne_true)) ?_; wp_walk using wpAny_loadPart' hl)
      | (refine wpAny_ite_true (decide_eq_true (by rw [c1])) ?_; wp_walk using wpAny_loadPart' hl))
    exact ⟨_, rfl, h⟩
theorem tuple_mul_zero (l : Addr) (items : Array Value) (n : Nat) (dd : Option Addr) (sl : Array (Option Value)) (u : Tok) (he : items.isEmpty = false) :
    Meets (Builtin.«tuple.__mul__» ⟨[.ref l, .int 0 u], []⟩) (fun _ R s => s.heap.get? l = some { cls := .type "tuple", dict := dd, data := .seq items n, slots := sl } ∧
      R (.ok (.ret (Value.ref s.heap.objs.size))) { s with heap := s.heap.push { cls := Value.type "tuple", data := Data.seq #[] }, toks := s.toks }) :=
  .of_wp fun prog w A R s h => by
    obtain ⟨hp, g, d, tk, os⟩ := s
    obtain ⟨hl, h⟩ := h
    have f1 := AutoSeq1.idx_int
    have c0 : (decide ((0 : Int) < -(2 ^ 63)) || decide ((0 : Int) ≥ 2 ^ 63)) = false := by decide
    have c1 : (items.isEmpty || ((0 : Int) == 1)) = false := by rw [he]; rfl
    have c2 : (decide ((0 : Int) ≤ 0) || items.isEmpty) = true := by simp
    wp_walk using wpAny_loadPart' hl
    repeat (first
      | (refine wpAny_ite_false (decide_eq_false (by rw [c0]; exact Bool.false_ne_true)) ?_; wp_walk using wpAny_loadPart' hl)
      | (refine wpAny_ite_false (decide_eq_false (by rw [c1]; exact Bool.false_ne_true)) ?_; wp_walk using wpAny_loadPart' hl)
      | (refine wpAny_ite_true (decide_eq_true (by rw [c2])) ?_; wp_walk using wpAny_loadPart' hl))
    exact ⟨_, rfl, h⟩
def rRep1 (K : PySem.W.Frag) : R2 := fun x y H Q => ∃ l k v, x = .ref l ∧ y = .int k ∧ SqT K H l [v] ∧ 0 ≤ k ∧ k ≤ 1000 ∧ (k = 1 → Q (.ref l) H) ∧ (k ≠ 1 → ∀ p, H p = none → Q (.ref p) (upd H p (.tup (List.replicate k.toNat v))))
theorem rep_flat {α : Type} (v : α) : ∀ n : Nat, (List.replicate n [v]).flatten = List.replicate n v
  | 0 => rfl
  | n + 1 => by rw [List.replicate_succ, List.flatten_cons, rep_flat v n]; rfl
theorem op_rep1 {X : Cx} : OpR X (binaryOp .Mult) (rRep1 X.K) := by
  intro pins s σ H x y v u Q I rx ry h
  obtain ⟨l, k, v0, rfl, rfl, hT, h0, h1, q1, q2⟩ := h
  by_cases h2 : 2 ≤ k
  · exact op_repT pins s σ H _ _ v u Q I rx ry ⟨l, k, [v0], rfl, rfl, hT, by simp, h2, h1, by simp, fun p hp => by rw [rep_flat]; exact q2 (by omega) p hp⟩
  · cases rx
    obtain ⟨t, rfl⟩ := ry
    obtain ⟨its, r, ⟨⟨cls, dd, data, sl⟩, ho, hc, n, hd⟩, hs⟩ := I.tuple hT
    simp only at hc hd
    subst hc hd
    have hle : its.length = 1 := r.length.symm
    have hi : its.toArray.isEmpty = false := by
      cases its with
      | nil => simp at hle
      | cons a b => rfl
    by_cases hk : k = 1
    · subst hk
      refine wpAny_binaryOp_repeat_ref (T := "tuple") (U := "int") (by decide) ⟨_, ho, rfl⟩ (fun s' => typeIs_int s' 1 t) noFill_tuple_mul F.fills_int_mul F.slot_int_rmul repeat_tuple F.slot_int_index.lookup
        (call_meets F.slot_int_rmul (typeIs_int s 1 t) F.entry_int_rmul (F.args_int_rmul_2 _ _) (int_rmul_tuple 1 t l its.toArray n dd sl)
          ⟨ho, rfl, ⟨_, ho, rfl⟩, call_meets F.slot_tuple_mul ⟨_, ho, rfl⟩ F.entry_tuple_mul (F.args_tuple_mul_2 _ _) (tuple_mul_one l its.toArray n dd sl t) ⟨ho, ?_⟩⟩)
      exact ⟨.ref l, H, I, rfl, q1 rfl⟩
    · have hk0 : k = 0 := by omega
      subst hk0
      refine wpAny_binaryOp_repeat_ref (T := "tuple") (U := "int") (by decide) ⟨_, ho, rfl⟩ (fun s' => typeIs_int s' 0 t) noFill_tuple_mul F.fills_int_mul F.slot_int_rmul repeat_tuple F.slot_int_index.lookup
        (call_meets F.slot_int_rmul (typeIs_int s 0 t) F.entry_int_rmul (F.args_int_rmul_2 _ _) (int_rmul_tuple 0 t l its.toArray n dd sl)
          ⟨ho, rfl, ⟨_, ho, rfl⟩, call_meets F.slot_tuple_mul ⟨_, ho, rfl⟩ F.entry_tuple_mul (F.args_tuple_mul_2 _ _) (tuple_mul_zero l its.toArray n dd sl t hi) ⟨ho, ?_⟩⟩)
      refine ⟨.ref s.heap.objs.size, _, I.laid (t' := s.toks) (o := .tup (List.replicate (0 : Int).toNat v0)) (fun b ob q => Heap.get?_push_of_some _ q) (Nat.le_refl _) ?_, rfl, q2 (by decide) _ (I.hok.fresh (Nat.le_refl _))⟩
      exact ⟨by show 0 ≤ sizeLine; exact Nat.zero_le _, [], .nil, IsTup.new _ _⟩
end Td
set_option Elab.async false
set_option linter.all false
set_option maxRecDepth 100000
set_option maxHeartbeats 2000000
/-! Two desks: the refusal, an own error with its number (skel/42 turned to this class). -/
namespace PySem
namespace RefX
open PySem.W PySem.Calls PyProof.Rows PySem.HandSPX
/-! ### the text of __init__ -/
def iA (p1 p2 : Pos) : Arguments := { posonlyargs := [], args := [{ arg := "self", annotation := none, pos := p1 }, { arg := "code", annotation := none, pos := p2 }], vararg := none, kwonlyargs := [], kw_defaults := [], kwarg := none, defaults := [] }
def iB (q1 q2 q3 q4 : Pos) : List Stmt := [.Assign [.Attribute (.Name "self" q1) "code" q2] (.Name "code" q3) q4]
def iS : Scope := { kind := .function, names := [(PySem.Str.ofString "self", .local), (PySem.Str.ofString "code", .local)], isGenerator := false, isCoroutine := false, more := [] }
/-- what the written part says of Low, at C, and of its __init__, at fI -/
structure RefTxt (K : Frag) (mg : Str → Option Value) (C fI : Addr) : Prop where
  gC : mg "Refused" = some (.ref C)
  cls : ∃ nm q N bs bm sn sub ab col dd k0 k1 k2 k3 k5, K.lookup C = some (excClassObj nm q C N bs bm true sn sub ab col dd k0 k1 k2 k3 k5 "ValueError.__new__") ∧ refsVE bm = true
  sa : findIn K (.ref C) "__setattr__" = some (some (.builtin "object.__setattr__"))
  ga : findIn K (.ref C) "__getattribute__" = some (some (.builtin "BaseException.__getattribute__"))
  gg : findIn K (.ref C) "__getattr__" = some none
  noN : findIn K (.ref C) "code" = some none
  iC : findIn K (.ref C) "__init__" = some (some (.ref fI))
  tC : typeIn K (.ref fI) = some (.type "function")
  kC : keepIn K (.ref C) = true
  exC : subIn K (.ref C) (.type "BaseException") = some true
  tyC : typeIn K (.ref C) = some (.type "type")
  hdC : hasDictIn K C = true
  te : exmOne K (.ref C) (.ref C) = some true
  fn : ∃ (oc : Value) (od : Option Addr) (doc pm : Value) (an : Option Addr) (cdv ct : Value) (osl : Array (Option Value)) (p1 p2 q1 q2 q3 q4 : Pos),
    K.lookup fI = some ⟨oc, od, .func (fnOf "__init__" "Refused.__init__" (iA p1 p2) (iB q1 q2 q3 q4) iS .none .none doc pm an cdv ct), osl⟩ ∧ codeIn K cdv "Refused.__init__" = true
theorem one_size (v : Value) : [v].length ≤ sizeLine := by
  rw [sizeLine_eq]
  exact (by decide : 1 ≤ 16777216)
theorem kept_but {K : Frag} {h h' : Heap} {x : Addr} (X : K.In h) (hx : K.lookup x = none) (k : ∀ b o, b ≠ x → h.get? b = some o → h'.get? b = some o) : K.In h' := fun a o e =>
  k a o (fun z => by rw [z, hx] at e; cases e) (X a o e)
theorem ldC {M : Model} {s : Shared} {name : Str} {scope : Scope} {L a : Addr} {cd : Value} {m : Str → Option Value} {x : Str} {pos : Pos} {v : Value} {Q : Value → Shared → Prop} {A : Around} {E : Value → Shared → Prop} (hn : s.heap.Ns L m) (hv : m x = some v) (h : Q v s)
    (hk : scope.kind = .function := by rfl) (hl : (envOfC name scope L a cd).kindOf x = some .local := by rfl) (hd : (x == ("__debug__" : Str)) = false := by decide) :
    wpAny M A (eval (.Name x pos) (envOfC name scope L a cd)) Q E s := wpAny_Name (wpAny_loadName_local hk hl hn hv h) hd
/-- what __init__ leaves of a fresh exception at x -/
structure InitEnd (h h' : Heap) (x C dx t1 : Addr) (v : Value) : Prop where
  keep : ∀ b o, b ≠ x → h.get? b = some o → h'.get? b = some o
  obj : h'.get? x = some { cls := .ref C, dict := some dx, data := .fields #[.ref t1, .none, .none, .none, .bool false, .none] }
  dbig : h.objs.size ≤ dx
  dne : dx ≠ x
  ns : h'.Ns1 dx (fun y => if y = "code" then some v else none)
/-- a made Low -/
structure OwnMade (h h' : Heap) (e C d : Addr) (v : Value) : Prop where
  keep : ∀ b o, h.get? b = some o → h'.get? b = some o
  new : h.objs.size ≤ e
  obj : ∃ oe vs, h'.get? e = some oe ∧ oe.cls = .ref C ∧ oe.dict = some d ∧ oe.data = .fields vs ∧ vs[1]? = some .none
  dbig : h.objs.size ≤ d
  dne : d ≠ e
  ns : h'.Ns1 d (fun y => if y = "code" then some v else none)
section
variable {prog : Program} {w : World} {A : Around} {E : Value → Shared → Prop} {R : Result → Shared → Prop} {s : Shared} {K : Frag} {mg : Str → Option Value} {C fI : Addr}
theorem ref_init (T : RefTxt K mg C fI) {x t0 : Addr} {v : Value} (X : K.In s.heap) (hlim : s.heap.NoLimit) (hx : s.heap.get? x = some (excO C t0)) (hnx : K.lookup x = none) (hroom : A.depth < recursionLimit)
    (hq : ∀ h' tk dx, InitEnd s.heap h' x C dx t0 v → R (.ok (.ret .none)) { s with heap := h', toks := tk }) :
    codeAny (model prog w) A (.call (.ref fI) ⟨[.ref x, v], []⟩) R s := by
  obtain ⟨oc, od, doc, pm, an, cdv, ct, osl, p1, p2, q1, q2, q3, q4, ho, hcd⟩ := T.fn
  obtain ⟨nm, q, N, bs, bm, sn, sub, ab, col, dd, k0, k1, k2, k3, k5, hC, hbm⟩ := T.cls
  have hcl : clsIn K C = some { name := nm, bases := bs, mro := .ref C :: bm, ns := N, qualname := q, hasDict := true, slotNames := sn, subclasses := sub, abstract := ab, collection := col, hasDel := false } := by unfold clsIn; rw [hC] <;> rfl
  refine Att.call_fn (binds := [("self", .ref x), ("code", v)]) X hlim ho hcd hroom (BindsTo.of_eq (by first | rfl | with_unfolding_all rfl)) (by first | rfl | decide | with_unfolding_all rfl) (fun s₁ IC => ?_) rfl rfl rfl
  obtain ⟨h₁, tk₁, rfl⟩ := IC.toInCall.same
  have k : ∀ b o, s.heap.get? b = some o → h₁.get? b = some o := IC.toInCall.keep
  have hn := IC.toInCall.ns
  have hxL : s.heap.objs.size ≠ x := Nat.ne_of_gt (Heap.lt_size hx)
  have X₁ : K.In h₁ := X.keeps k
  have hx₁ := k _ _ hx
  -- self.by = by
  show wpAny _ _ (execs _ _) _ _ _
  refine wpAny_execs_cons (plainObj_wpAny_Assign_Attribute ?_)
  refine ldC (v := v) hn (by first | rfl | with_unfolding_all rfl | kernel_rfl) (ldC (v := .ref x) hn (by first | rfl | with_unfolding_all rfl | kernel_rfl) ?_)
  refine set_plain X₁ (ox := excO C t0) (od := none) ⟨hx₁, rfl, rfl, trivial⟩ T.sa ?_
  refine exc_osa X₁ hx₁ hcl (show refsVE (.ref C :: bm) = true from hbm) rfl T.noN (fun h₃ tk₃ dx k₃ dn dne hx₃ hn₃ => ?_)
  show wpAny _ _ (execs _ _) _ _ _
  have z : s.heap.objs.size < h₁.objs.size := hn.lt
  exact wpAny_execs_nil (hq h₃ tk₃ dx ⟨fun b o hb e => k₃ b o hb (k b o e), hx₃, Nat.le_of_lt (Nat.lt_of_lt_of_le z dn), dne, hn₃⟩)
theorem ref_made (T : RefTxt K mg C fI) {v : Value} (X : K.In s.heap) (hlim : s.heap.NoLimit) (hroom : A.depth + 1 < recursionLimit)
    (hq : ∀ h' tk e d, OwnMade s.heap h' e C d v → R (.ok (.ret (.ref e))) { s with heap := h', toks := tk }) :
    codeAny (model prog w) A (.call (.ref C) ⟨[v], []⟩) R s := by
  obtain ⟨nm, q, N, bs, bm, sn, sub, ab, col, dd, k0, k1, k2, k3, k5, hC, hbm⟩ := T.cls
  obtain ⟨hp, g, dr, tk, os⟩ := s
  have k : ∀ b o, hp.get? b = some o → ((hp.push (kdv_tup [v])).push (excO C hp.objs.size)).get? b = some o := fun b o e => Heap.get?_push_of_some _ (Heap.get?_push_of_some _ e)
  have hget : ((hp.push (kdv_tup [v])).push (excO C hp.objs.size)).get? (hp.objs.size + 1) = some (excO C hp.objs.size) := by heap_get
  have hnx : K.lookup (hp.objs.size + 1) = none := by
    cases e : K.lookup (hp.objs.size + 1) with
    | none => rfl
    | some o =>
      have z : hp.get? (hp.objs.size + 1) = some o := X _ _ e
      exact absurd (Nat.lt_of_succ_lt (Heap.lt_size z)) (Nat.lt_irrefl _)
  refine call_own F.excBase_ValueError (fun X => refsVE_contains X bm hbm) (X _ _ hC) (looks_findIn X T.iC) (fun self => bind_fn X self T.tC) (one_size v) ?_
  refine ref_init (s := ⟨(hp.push (kdv_tup [v])).push (excO C hp.objs.size), g, dr, tk, os⟩) T (X.keeps k) (hlim.keeps k) hget hnx ?_ fun h' tk' dx ⟨k', hx, dn, dne, hns⟩ => ?_
  · show A.depth + 1 < recursionLimit
    exact hroom
  · have old : ∀ b o, hp.get? b = some o → h'.get? b = some o := fun b o e => k' b o (Nat.ne_of_lt (Nat.lt_succ_of_lt (Heap.lt_size e))) (k b o e)
    have z : hp.objs.size + 1 + 1 ≤ dx := by
      first
        | (simpa only [Heap.size_push] using dn)
        | exact dn
        | (have q := dn; rw [Heap.size_push, Heap.size_push] at q; exact q)
    exact ⟨rfl, hq h' tk' (hp.objs.size + 1) dx ⟨old, Nat.le_succ _, ⟨_, _, hx, rfl, rfl, rfl, rfl⟩, Nat.le_trans (Nat.le_trans (Nat.le_succ _) (Nat.le_succ _)) z, dne, hns⟩⟩
end
end RefX
end PySem
namespace L2
open PySem PySem.Spec PyProof.Rows
theorem relO_ref {v : V} {v' : Value} (r : RelV v v') (f : Str) : RelO (List.lookup f [(("code" : Str), v)]) (if f = "code" then some v' else none) := by
  by_cases hw : f = "code"
  · subst hw
    rw [if_pos rfl]
    have q : List.lookup ("code" : Str) [(("code" : Str), v)] = some v := by simp [List.lookup]
    rw [q]
    exact r
  · rw [if_neg hw]
    have qw : (f == ("code" : Str)) = false := by simpa using hw
    have q2 : List.lookup f [(("code" : Str), v)] = none := by simp [List.lookup, qw]
    rw [q2]
    trivial
section
variable {X : Cx} {C fI : Addr}
/-- Low(e) -/
def tMkRef (C : Addr) (ta : TA) : St → Hp → XK → Prop := fun σ H Q => ta σ H fun vs H1 => ∃ v, vs = [v] ∧ ∀ d, H1 d = none → Q (.ref C) (some d) (upd H1 d (.xd [(("code" : Str), v)]))
theorem pmk_ref {a : Expr} {ta : TA} {p pos : Pos} {k : Nat} (T : PySem.RefX.RefTxt X.K X.mg C fI) (hr : Room k X.A) (ha : PA X [a] ta) (hg : Gl X "Refused" := by rfl)
    (he : starEach (a :: []) X.env = (false, eval a X.env) :: starEach [] X.env := by rfl) (hpl : (backTo pos (starEach [] X.env)).any (·.1) = false := by rfl) :
    PMk X (.Call (.Name "Refused" p) [a] [] pos) (tMkRef C ta) := by
  intro pins s σ H Q I h
  refine wpAny_Call_Name_kw (ld_glob I hg T.gC ?_)
  refine PySem.W.callWith_K (h₀ := X.base) I.ok.mod.kin T.kC (thn (ha.run pos pins s σ H _ I h) fun us s1 hh => ?_) he hpl
  obtain ⟨vs, H1, I1, r1, v, ev, q1⟩ := hh
  subst ev
  refine ⟨I1.kIn, ?_⟩
  cases r1 with
  | cons rv rn =>
    rename_i v' us'
    cases rn
    show wpAny _ _ (call (.ref C) [v']) _ _ _
    have hlim := I1.nolimit
    obtain ⟨hp, g, dr, tk, os⟩ := s1
    refine wpAny_call (PySem.RefX.ref_made T I1.kIn hlim (by have := hr.dp; omega) fun h' tk' e d M => ?_)
    show MkP X pins σ Q (.ref e) ⟨h', g, dr, tk', os⟩
    obtain ⟨oe, fv, hoe, hc, hd, hdat, h1⟩ := M.obj
    have hns := M.ns
    obtain ⟨G', g1, g2⟩ := restrict h' fun b => decide (b ≠ e)
    have gk : ∀ b, b ≠ e → G'.get? b = h'.get? b := fun b hb => g1 b (decide_eq_true hb)
    have ge : G'.get? e = none := g2 e (by simp)
    have old : ∀ b o, hp.get? b = some o → G'.get? b = some o := fun b o q => (gk b (Nat.ne_of_lt (Nat.lt_of_lt_of_le (Heap.lt_size q) M.new))).trans (M.keep b o q)
    have ob : ObjOk X.prog X.w (upd H1 d (.xd [(("code" : Str), v)])) G' d (.xd [(("code" : Str), v)]) :=
      ⟨_, hns.at (fun o q => (gk d M.dne).trans q), fun f => relO_ref rv f⟩
    have J : Inv X pins σ (upd H1 d (.xd [(("code" : Str), v)])) ⟨G', g, dr, tk', os⟩ := I1.laid (t' := tk') old M.dbig ob
    refine ⟨e, oe, fv, ⟨G', g, dr, tk', os⟩, _, .ref C, some d, rfl, J, fun b o q => ?_, ge, hoe, ⟨hc, hd⟩, hdat, h1, ?_, rfl, I1.bare, raises_own T.exC T.tyC, q1 d (I1.hok.fresh M.dbig)⟩
    · by_cases hb : b = e
      · have q' : G'.get? b = some o := q
        rw [hb, ge] at q'; cases q'
      · exact (gk b hb).symm.trans q
    · rw [upd_ne (Ne.symm M.dne)]
      exact I1.hok.fresh M.new
/-- raise Low(e) -/
def tRaiseRef (C : Addr) (W : WX) (ta : TA) : TS := fun _ σ H => tMkRef C ta σ H fun cls d H' => W cls d σ H'
theorem ps_raiseRef {a : Expr} {ta : TA} {W : WX} {p pos pos2 : Pos} {k : Nat} (hc : X.calm = true) (T : PySem.RefX.RefTxt X.K X.mg C fI) (hr : Room k X.A) (tk : Takes X W) (ha : PA X [a] ta) (hg : Gl X "Refused" := by rfl)
    (he : starEach (a :: []) X.env = (false, eval a X.env) :: starEach [] X.env := by rfl) (hpl : (backTo pos (starEach [] X.env)).any (·.1) = false := by rfl) :
    PS X (.Raise (some (.Call (.Name "Refused" p) [a] [] pos)) none pos2) (tRaiseRef C W ta) := ps_raise hc tk (pmk_ref T hr ha hg he hpl)
/-- low.by, low the exception that the suite holds (at a; its class cls, its dict d) -/
def tByRef (C : Addr) (a : Addr) (cls : Value) (d : Option Addr) (te : TE) : TE := fun σ H Q => te σ H fun x H1 => x = .ref a ∧ cls = .ref C ∧ ∃ (dd : Addr) (v : V), d = some dd ∧ H1 dd = some (.xd [(("code" : Str), v)]) ∧ Q v H1
theorem pe_byRef {a : Addr} {oe : Obj} {cls : Value} {d : Option Addr} {pn : List (Addr × Obj)} {e : Expr} {te : TE} {pos : Pos} (T : PySem.RefX.RefTxt X.K X.mg C fI) (hz : Zc cls d oe) (hf : ∃ vs, oe.data = .fields vs) (he : PE (X.suite a ((a, oe) :: pn)) e te)
    (hb : attributeBase e "code" X.env (eval e X.env) = eval e X.env := by rfl) :
    PE (X.suite a ((a, oe) :: pn)) (.Attribute e "code" pos) (tByRef C a cls d te) := by
  refine ⟨fun pins s σ H Q I h => ?_⟩
  refine attr_of hb (thn (he.run pins s σ H _ I h) fun u s1 hh => ?_)
  obtain ⟨x, H1, I1, rx, ex, ec, dd, v, ed, ea, q⟩ := hh
  subst ex
  obtain rfl : u = Value.ref a := rx
  subst ec
  subst ed
  obtain ⟨ha, _⟩ := I1.pin (a, oe) (List.mem_append_left _ List.mem_cons_self)
  obtain ⟨vs, hd⟩ := hf
  have hx : ObjOk X.prog X.w H1 s1.heap dd (.xd [(("code" : Str), v)]) := I1.hok dd _ ea
  obtain ⟨mA, hns, hr⟩ := hx
  obtain ⟨od, ho, hl⟩ := lookIn_ns hns
  have l : List.lookup ("code" : Str) [(("code" : Str), v)] = some v := by simp [List.lookup]
  obtain ⟨u, hu, ru⟩ := RelO.some_of (v := v) (o := mA "code") (by rw [← l]; exact hr "code")
  have J : PySem.W.InstAt s1.heap a oe C (some od) := ⟨ha, hz.1, by unfold PySem.W.notCls; rw [hd] <;> rfl, by rw [hz.2]; exact ho⟩
  exact HandSPX.exc_get I1.kIn J T.ga T.gg T.exC (PySem.W.findObj_own T.hdC T.noN rfl (by rw [hl, hu])) (handed_of ru) ⟨v, H1, I1.tok _, ru, q⟩
end
end L2

namespace L2
open PySem PySem.Spec PyProof.Rows
/-- an if whose test is known -/
theorem if_true_of {c : Bool} {A B : Prop} (hc : c = true) (h : A) : if c = true then A else B := by
  rw [if_pos hc]
  exact h
theorem if_false_of {c : Bool} {A B : Prop} (hc : c = false) (h : B) : if c = true then A else B := by
  rw [hc, if_neg Bool.false_ne_true]
  exact h
end L2
set_option Elab.async false
set_option linter.all false
set_option maxRecDepth 100000
set_option maxHeartbeats 2000000
/-! Two desks: the program's text by places, how a def stands, how the data lie in the heap. -/
namespace Td
open PySem PySem.Spec PyProof.Rows L2
open Vbceah (Sheet Book Breaks State Clock)

/-! ### the text -/
def topS (i : Nat) : Stmt := PySem.Challenge.pw_twodesks_s01_answers.main.body.getD i (.Pass ⟨0, 0, 0, 0⟩)

/-- the def st stands behind the module's name g (its own name x) -/
structure FunAt (K : PySem.W.Frag) (mg : Str → Option Value) (g x qual : Str) (st : Stmt) (ps : List Str) : Prop where
  ex : ∃ (f : Addr) (fd : FuncData), mg g = some (.ref f) ∧ Fun K x qual st f fd ∧ Binds K fd ps []
/-- what a call of the name g may lean on -/
structure Go (P : Program) (w : World) (K : PySem.W.Frag) (mg : Str → Option Value) (base : Heap) (CX : CXT) (k : Nat) (g : Str) (ps : List Str) (sp : Sp) : Prop where
  ex : ∃ (f : Addr) (fd : FuncData), mg g = some (.ref f) ∧ PySem.W.keepIn K (.ref f) = true ∧ Binds K fd ps [] ∧ FnOk P w K mg base CX k f fd ps sp
section
variable {P : Program} {w : World} {K : PySem.W.Frag} {mg : Str → Option Value} {base : Heap} {CX : CXT} {k : Nat} {g x qual : Str} {st : Stmt} {ps : List Str} {sp : Sp}
theorem FunAt.go (F : FunAt K mg g x qual st ps) (h : ∀ f fd, Fun K x qual st f fd → FnOk P w K mg base CX k f fd ps sp) : Go P w K mg base CX k g ps sp := by
  obtain ⟨f, fd, h1, h2, h3⟩ := F.ex
  exact ⟨f, fd, h1, h2.kp, h3, h f fd h2⟩
end
section
variable {X : Cx} {CX : CXT} {k : Nat} {ps : List Str} {sp : Sp} {E : XK} {x : Str} {p pos : Pos} {e : Expr} {es : List Expr} {t : TA}
/-- f(e, ..) -/
theorem pe_go (G : Go X.prog X.w X.K X.mg X.base CX k x ps sp) (hr : Room k X.A) (hx : Passes CX X E) (ha : PA X (e :: es) t) (hg : Gl X x := by rfl) (hdb : (x == ("__debug__" : Str)) = false := by decide)
    (he : starEach (e :: es) X.env = (false, eval e X.env) :: starEach es X.env := by rfl) (hpl : (backTo pos (starEach es X.env)).any (·.1) = false := by rfl) :
    PE X (.Call (.Name x p) (e :: es) [] pos) (tCall sp [] E t) := by
  obtain ⟨f, fd, h1, h2, h3, h4⟩ := G.ex
  exact pe_call h4 hr hg h1 h2 h3 .nil hx ha hdb he hpl
/-- .. within a try -/
theorem pe_goS {E : L2.St → XK} (G : Go X.prog X.w X.K X.mg X.base CX k x ps sp) (hr : Room k X.A) (hx : ∀ σ, PassesAt CX X σ (E σ)) (ha : PA X (e :: es) t) (hg : Gl X x := by rfl) (hdb : (x == ("__debug__" : Str)) = false := by decide)
    (he : starEach (e :: es) X.env = (false, eval e X.env) :: starEach es X.env := by rfl) (hpl : (backTo pos (starEach es X.env)).any (·.1) = false := by rfl) :
    PE X (.Call (.Name x p) (e :: es) [] pos) (tCallS sp E t) := by
  obtain ⟨f, fd, h1, h2, h3, h4⟩ := G.ex
  exact pe_callS h4 hr hg h1 h2 h3 hx ha hdb he hpl
end
/-- a method m of the class at C -/
structure MethGo (P : Program) (w : World) (K : PySem.W.Frag) (mg : Str → Option Value) (base : Heap) (CX : CXT) (k : Nat) (C : Addr) (m : Str) (ps : List Str) (sp : Sp) : Prop where
  ex : ∃ (f : Addr) (fd : FuncData), Meth K C m f ∧ Binds K fd ps [] ∧ FnOk P w K mg base CX k f fd ps sp
structure MethAt (K : PySem.W.Frag) (C : Addr) (m qual : Str) (st : Stmt) (ps : List Str) : Prop where
  ex : ∃ (f : Addr) (fd : FuncData), Meth K C m f ∧ Fun K m qual st f fd ∧ Binds K fd ps []
theorem MethAt.go {P : Program} {w : World} {K : PySem.W.Frag} {mg : Str → Option Value} {base : Heap} {CX : CXT} {k : Nat} {C : Addr} {m qual : Str} {st : Stmt} {ps : List Str} {sp : Sp} (F : MethAt K C m qual st ps)
    (h : ∀ f fd, Fun K m qual st f fd → FnOk P w K mg base CX k f fd ps sp) : MethGo P w K mg base CX k C m ps sp := by
  obtain ⟨f, fd, h1, h2, h3⟩ := F.ex
  exact ⟨f, fd, h1, h3, h f fd h2⟩
section
variable {X : Cx} {CX : CXT} {k : Nat} {C : Addr} {ps : List Str} {sp : Sp} {E : XK} {m : Str} {pos apos : Pos} {e o : Expr} {es : List Expr} {ta : TE} {t : TA}
theorem pe_mgo {pl : Sem Bool} (G : MethGo X.prog X.w X.K X.mg X.base CX k C m ps sp) (c : Cls X.K C) (hr : Room k X.A) (he : PE X o ta) (hx : Passes CX X E) (ha : PA X (e :: es) t)
    (hst : starEach (e :: es) X.env = (false, eval e X.env) :: starEach es X.env := by rfl) (hpl : (backTo pos (starEach es X.env)).any (·.1) = false := by rfl)
    (ht : eval (.Call (.Attribute o m apos) (e :: es) [] pos) X.env = (do
      let ov ← eval o X.env
      standAt apos.atName
      let (f, first) ← holding [ov] (getMethod ov m pl)
      callWith pos f first (backTo pos (starEach (e :: es) X.env)) (backToKw pos (keywordEach [] X.env))) := by rfl) :
    PE X (.Call (.Attribute o m apos) (e :: es) [] pos) (tMeth C m sp [] E ta t) := by
  obtain ⟨f, fd, h1, h3, h4⟩ := G.ex
  exact pe_meth (pl := pl) he c h1 h4 hr h3 .nil hx ha hst hpl ht
theorem pe_mgo0 {pl : Sem Bool} (G : MethGo X.prog X.w X.K X.mg X.base CX k C m ps sp) (c : Cls X.K C) (hr : Room k X.A) (he : PE X o ta) (hx : Passes CX X E)
    (ht : eval (.Call (.Attribute o m apos) [] [] pos) X.env = (do
      let ov ← eval o X.env
      standAt apos.atName
      let (f, first) ← holding [ov] (getMethod ov m pl)
      callWith pos f first (backTo pos (starEach [] X.env)) (backToKw pos (keywordEach [] X.env))) := by rfl) :
    PE X (.Call (.Attribute o m apos) [] [] pos) (tMeth C m sp [] E ta tNil) := by
  obtain ⟨f, fd, h1, h3, h4⟩ := G.ex
  exact pe_meth0 (pl := pl) he c h1 h4 hr h3 .nil hx ht
end

/-! ### operators' readings by short names -/
abbrev oAdd : R2 := rI0 fun i j => .int (i + j)
abbrev oSub : R2 := rI0 fun i j => .int (i - j)
abbrev oMul : R2 := rI CMul fun i j => .int (i * j)
abbrev oMod : R2 := rI (fun _ j => 0 < j) fun i j => .int (i % j)
abbrev oDiv : R2 := rI CDiv fun i j => .int (i / j)
abbrev oLt : R2 := rI0 fun i j => .bl (decide (i < j))
abbrev oLe : R2 := rI0 fun i j => .bl (decide (i ≤ j))
abbrev oGt : R2 := rI0 fun i j => .bl (decide (j < i))
abbrev oGe : R2 := rI0 fun i j => .bl (decide (j ≤ i))
abbrev oNeg : V → Hp → VK → Prop := rU fun i => .int (-i)
abbrev ipAdd : TIp := ipI fun i j => i + j
abbrev ipSub : TIp := ipI fun i j => i - j
def rLen (K : PySem.W.Frag) : List V → Hp → VK → Prop := fun xs H Q => ∃ p ys, xs = [.ref p] ∧ (SqL K H p ys ∨ SqT K H p ys) ∧ Q (.int ys.length) H
theorem cr_len {X : Cx} : CallR X (.builtin "len") (rLen X.K) := call_len_seq
def rMax2 : List V → Hp → VK → Prop := fun xs H Q => ∃ i j, xs = [.int i, .int j] ∧ Q (.int (if j > i then j else i)) H
theorem cr_max2 {X : Cx} (hc : X.calm = true) : CallR X (.builtin "max") rMax2 := call_max2 hc
def rIntB : List V → Hp → VK → Prop := fun xs H Q => ∃ k, xs = [.bl k] ∧ Q (.int (if k then 1 else 0)) H
theorem cr_intB {X : Cx} : CallR X (.type "int") rIntB := fun pins s σ H xs us Q I r h => call_int1 pins s σ H xs us Q I r (.inr h)
def rListOf (K : PySem.W.Frag) : List V → Hp → VK → Prop := fun xs H Q => ∃ p ys, xs = [.ref p] ∧ (SqL K H p ys ∨ SqT K H p ys) ∧ ∀ l, H l = none → Q (.ref l) (upd H l (.lst ys))
theorem cr_listOf {X : Cx} : CallR X (.type "list") (rListOf X.K) := call_list_of
def rListK : List V → Hp → VK → Prop := fun xs H Q => ∃ d kvs, xs = [V.ref d] ∧ Rd H d (.dT kvs) ∧ ∀ p bs, H p = none → IsKeys H kvs bs → Q (.ref p) (upd H p (.lst (bs.map V.ref)))
theorem cr_listK {X : Cx} (hc : X.calm = true) : CallR X (.type "list") rListK := call_list_dT hc
def rTupOf (K : PySem.W.Frag) : List V → Hp → VK → Prop := fun xs H Q => ∃ p ys, xs = [.ref p] ∧ SqL K H p ys ∧ ∀ l, H l = none → Q (.ref l) (upd H l (.tup ys))
theorem cr_tupOf {X : Cx} : CallR X (.type "tuple") (rTupOf X.K) := fun pins s σ H xs us Q I r ⟨p, ys, e, h, q⟩ => call_tuple_of pins s σ H xs us Q I r ⟨p, ys, e, .inl ⟨h, q⟩⟩
theorem bb_len : bootBuiltins "len" = some (.builtin "len") := by decide +kernel
theorem bb_sum : bootBuiltins "sum" = some (.builtin "sum") := by decide +kernel
theorem bb_max : bootBuiltins "max" = some (.builtin "max") := by decide +kernel
theorem bb_sorted : bootBuiltins "sorted" = some (.builtin "sorted") := by decide +kernel
theorem bb_int : bootBuiltins "int" = some (.type "int") := by decide +kernel
theorem bb_list : bootBuiltins "list" = some (.type "list") := by decide +kernel
theorem bb_tuple : bootBuiltins "tuple" = some (.type "tuple") := by decide +kernel

/-! ### the data in the heap -/
abbrev nV (n : Nat) : V := .int (n : Int)
/-- a tuple of two numbers -/
def PrV (K : PySem.W.Frag) (H : Hp) (v : V) (a b : Nat) : Prop := ∃ p, v = .ref p ∧ SqT K H p [nV a, nV b]
abbrev ShV (K : PySem.W.Frag) (H : Hp) (v : V) (s : Sheet) : Prop := PrV K H v s.first s.second
abbrev CkV (K : PySem.W.Frag) (H : Hp) (v : V) (c : Clock) : Prop := PrV K H v c.one c.two
abbrev BrV (K : PySem.W.Frag) (H : Hp) (v : V) (b : Nat × Nat) : Prop := PrV K H v b.1 b.2
/-- a book, a tuple of sheets -/
def BkV (K : PySem.W.Frag) (H : Hp) (v : V) (l : Book) : Prop := ∃ p vs, v = .ref p ∧ SqT K H p vs ∧ Paired (ShV K H) vs l
/-- a desk's stretches -/
def StV (K : PySem.W.Frag) (H : Hp) (v : V) (e : Breaks) : Prop := ∃ p vs, v = .ref p ∧ SqT K H p vs ∧ Paired (BrV K H) vs e
/-- the books, a list -/
def BsV (K : PySem.W.Frag) (H : Hp) (v : V) (bs : List Book) : Prop := ∃ p vs, v = .ref p ∧ SqL K H p vs ∧ Paired (BkV K H) vs bs
/-- both desks' stretches -/
def EmV (K : PySem.W.Frag) (H : Hp) (v : V) (e1 e2 : Breaks) : Prop := ∃ p x y, v = .ref p ∧ (SqL K H p [x, y] ∨ SqT K H p [x, y]) ∧ StV K H x e1 ∧ StV K H y e2
/-- sheets, a list or a tuple -/
def SsV (K : PySem.W.Frag) (H : Hp) (v : V) (l : List Sheet) : Prop := ∃ p vs, v = .ref p ∧ (SqL K H p vs ∨ SqT K H p vs) ∧ Paired (ShV K H) vs l
/-- sheets, a list of one's own -/
def SlV (K : PySem.W.Frag) (H : Hp) (v : V) (l : List Sheet) : Prop := ∃ p vs, v = .ref p ∧ H p = some (.lst vs) ∧ Paired (ShV K H) vs l
/-- clocks, a list of one's own -/
def ClV (K : PySem.W.Frag) (H : Hp) (v : V) (l : List Clock) : Prop := ∃ p vs, v = .ref p ∧ H p = some (.lst vs) ∧ Paired (CkV K H) vs l
/-- whole numbers, a list; one of one's own -/
def IsL (K : PySem.W.Frag) (H : Hp) (v : V) (ns : List Int) : Prop := ∃ p, v = .ref p ∧ SqL K H p (ns.map V.int)
def NwL (H : Hp) (v : V) (ns : List Int) : Prop := ∃ p, v = .ref p ∧ H p = some (.lst (ns.map V.int))
abbrev nts (l : List Nat) : List Int := l.map fun n : Nat => (n : Int)
/-- how many sheets are taken, a tuple of one's own -/
def TkV (H : Hp) (v : V) (p : List Nat) : Prop := ∃ q, v = .ref q ∧ H q = some (.tup (p.map nV))
section
variable {K : PySem.W.Frag} {H H' : Hp} {v : V}
theorem _root_.L2.Same.tup {a : Addr} {xs : List V} (e : Same H H') (h : SqT K H a xs) : SqT K H' a xs := by
  rcases h with (h | ⟨o, h⟩) | h
  · exact .inl (.inl (e _ _ h))
  · exact .inl (.inr ⟨o, e _ _ h⟩)
  · exact .inr h
theorem _root_.L2.Same.both {a : Addr} {xs : List V} (e : Same H H') (h : SqL K H a xs ∨ SqT K H a xs) : SqL K H' a xs ∨ SqT K H' a xs := h.imp (Same.seq e) (Same.tup e)
theorem _root_.L2.Same.new {p : Addr} {o : HO} (h : H p = none) : Same H (upd H p o) := fun a u e => by
  rw [upd_ne (ne_of_none e h)]
  exact e
/-- an object that H does not know may change -/
theorem _root_.L2.Same.mut {p : Addr} {o : HO} (e : Same H H') (h : H p = none) : Same H (upd H' p o) := fun a u ha => by
  rw [upd_ne (ne_of_none ha h)]
  exact e a u ha
theorem _root_.L2.Same.keep {a : Addr} {o : HO} (e : Same H H') (h : H a = some o) : H' a = some o := e a o h
theorem PrV.mono {a b : Nat} (e : Same H H') (h : PrV K H v a b) : PrV K H' v a b := let ⟨p, h1, h2⟩ := h; ⟨p, h1, e.tup h2⟩
theorem BkV.mono {l : Book} (e : Same H H') (h : BkV K H v l) : BkV K H' v l := let ⟨p, vs, h1, h2, h3⟩ := h; ⟨p, vs, h1, e.tup h2, Paired.mapP h3 fun _ _ z => z.mono e⟩
theorem StV.mono {l : Breaks} (e : Same H H') (h : StV K H v l) : StV K H' v l := let ⟨p, vs, h1, h2, h3⟩ := h; ⟨p, vs, h1, e.tup h2, Paired.mapP h3 fun _ _ z => z.mono e⟩
theorem BsV.mono {l : List Book} (e : Same H H') (h : BsV K H v l) : BsV K H' v l := let ⟨p, vs, h1, h2, h3⟩ := h; ⟨p, vs, h1, e.seq h2, Paired.mapP h3 fun _ _ z => z.mono e⟩
theorem EmV.mono {e1 e2 : Breaks} (e : Same H H') (h : EmV K H v e1 e2) : EmV K H' v e1 e2 := let ⟨p, x, y, h1, h2, h3, h4⟩ := h; ⟨p, x, y, h1, e.both h2, h3.mono e, h4.mono e⟩
theorem SsV.mono {l : List Sheet} (e : Same H H') (h : SsV K H v l) : SsV K H' v l := let ⟨p, vs, h1, h2, h3⟩ := h; ⟨p, vs, h1, e.both h2, Paired.mapP h3 fun _ _ z => z.mono e⟩
theorem SlV.mono {l : List Sheet} (e : Same H H') (h : SlV K H v l) : SlV K H' v l := let ⟨p, vs, h1, h2, h3⟩ := h; ⟨p, vs, h1, e.keep h2, Paired.mapP h3 fun _ _ z => z.mono e⟩
theorem SlV.ss {l : List Sheet} (h : SlV K H v l) : SsV K H v l := let ⟨p, vs, h1, h2, h3⟩ := h; ⟨p, vs, h1, .inl (SqL.of h2), h3⟩
theorem BkV.ss {l : Book} (h : BkV K H v l) : SsV K H v l := let ⟨p, vs, h1, h2, h3⟩ := h; ⟨p, vs, h1, .inr h2, h3⟩
theorem ClV.mono {l : List Clock} (e : Same H H') (h : ClV K H v l) : ClV K H' v l := let ⟨p, vs, h1, h2, h3⟩ := h; ⟨p, vs, h1, e.keep h2, Paired.mapP h3 fun _ _ z => z.mono e⟩
theorem IsL.mono {l : List Int} (e : Same H H') (h : IsL K H v l) : IsL K H' v l := let ⟨p, h1, h2⟩ := h; ⟨p, h1, e.seq h2⟩
theorem NwL.mono {l : List Int} (e : Same H H') (h : NwL H v l) : NwL H' v l := let ⟨p, h1, h2⟩ := h; ⟨p, h1, e.keep h2⟩
theorem NwL.is {l : List Int} (h : NwL H v l) : IsL K H v l := let ⟨p, h1, h2⟩ := h; ⟨p, h1, SqL.of h2⟩
theorem TkV.mono {p : List Nat} (e : Same H H') (h : TkV H v p) : TkV H' v p := let ⟨q, h1, h2⟩ := h; ⟨q, h1, e.keep h2⟩
theorem pr_of {p : Addr} {a b : Nat} (h : H p = some (.tup [nV a, nV b])) : PrV K H (.ref p) a b := ⟨p, rfl, SqT.of h⟩
end

/-! a list changes: the tuples stand -/
section
variable {K : PySem.W.Frag} {H : Hp} {v : V} {pf : Addr} {xs : List V} {o : HO}
theorem tup_mut {a : Addr} {ys : List V} (hf : H pf = some (.lst xs)) (h : SqT K H a ys) : SqT K (upd H pf o) a ys := by
  rcases h with (h | ⟨ob, h⟩) | h
  · exact .inl (.inl (by rw [upd_ne (ne_of h hf fun z => by cases z)]; exact h))
  · exact .inl (.inr ⟨ob, by rw [upd_ne (ne_of h hf fun z => by cases z)]; exact h⟩)
  · exact .inr h
theorem PrV.mut {a b : Nat} (hf : H pf = some (.lst xs)) (h : PrV K H v a b) : PrV K (upd H pf o) v a b := let ⟨p, h1, h2⟩ := h; ⟨p, h1, tup_mut hf h2⟩
theorem BkV.mut {l : Book} (hf : H pf = some (.lst xs)) (h : BkV K H v l) : BkV K (upd H pf o) v l := let ⟨p, vs, h1, h2, h3⟩ := h; ⟨p, vs, h1, tup_mut hf h2, Paired.mapP h3 fun _ _ z => z.mut hf⟩
theorem StV.mut {l : Breaks} (hf : H pf = some (.lst xs)) (h : StV K H v l) : StV K (upd H pf o) v l := let ⟨p, vs, h1, h2, h3⟩ := h; ⟨p, vs, h1, tup_mut hf h2, Paired.mapP h3 fun _ _ z => z.mut hf⟩
end

/-! ### pairs of lists -/
section
variable {α β : Type} {F : α → β → Prop}
theorem pd_get {l1 : List α} {l2 : List β} (h : Paired F l1 l2) {i : Nat} {b : β} (e : l2[i]? = some b) : ∃ a, l1[i]? = some a ∧ F a b := by
  induction h generalizing i with
  | nil => simp at e
  | cons r _ ih =>
    cases i with
    | zero => simp at e; subst e; exact ⟨_, rfl, r⟩
    | succ i => simpa using ih (by simpa using e)
theorem pd_getL {l1 : List α} {l2 : List β} (h : Paired F l1 l2) {i : Nat} {a : α} (e : l1[i]? = some a) : ∃ b, l2[i]? = some b ∧ F a b := by
  induction h generalizing i with
  | nil => simp at e
  | cons r _ ih =>
    cases i with
    | zero => simp at e; subst e; exact ⟨_, rfl, r⟩
    | succ i => simpa using ih (by simpa using e)
theorem pd_app {l1 m1 : List α} {l2 m2 : List β} (h : Paired F l1 l2) (k : Paired F m1 m2) : Paired F (l1 ++ m1) (l2 ++ m2) := by
  induction h with
  | nil => exact k
  | cons r _ ih => exact .cons r ih
theorem pd_one {a : α} {b : β} (h : F a b) : Paired F [a] [b] := .cons h .nil
theorem pd_take {l1 : List α} {l2 : List β} (h : Paired F l1 l2) (n : Nat) : Paired F (l1.take n) (l2.take n) := by
  induction h generalizing n with
  | nil => simp; exact .nil
  | cons r _ ih =>
    cases n with
    | zero => exact .nil
    | succ n => exact .cons r (ih n)
theorem pd_drop {l1 : List α} {l2 : List β} (h : Paired F l1 l2) (n : Nat) : Paired F (l1.drop n) (l2.drop n) := by
  induction h generalizing n with
  | nil => simp; exact .nil
  | cons r t ih =>
    cases n with
    | zero => exact .cons r t
    | succ n => exact ih n
end

/-! ### short steps of readings -/
section
variable {K : PySem.W.Frag} {H : Hp} {Q : VK}
theorem ix_go {p : Addr} {xs : List V} {i : Nat} {v : V} (h : SqL K H p xs ∨ SqT K H p xs) (e : xs[i]? = some v) (q : Q v H) : rIx K (.ref p) (.int (i : Int)) H Q := by
  rcases h with h | h
  · exact .inl ⟨p, xs, _, v, rfl, rfl, h, atI_nat e, q⟩
  · exact .inr (.inl ⟨p, xs, _, v, rfl, rfl, h, atI_nat e, q⟩)
theorem if_t {c : Bool} {A B : Prop} (hc : c = true) (h : A) : if c = true then A else B := by
  rw [if_pos hc]
  exact h
theorem if_f {c : Bool} {A B : Prop} (hc : c = false) (h : B) : if c = true then A else B := by
  rw [hc, if_neg Bool.false_ne_true]
  exact h
theorem if_d {p : Prop} [Decidable p] {A B : Prop} (h1 : p → A) (h2 : ¬ p → B) : if decide p = true then A else B := by
  by_cases h : p
  · exact if_t (decide_eq_true h) (h1 h)
  · exact if_f (decide_eq_false h) (h2 h)
end
theorem lt_zero {α : Type} {x : α} {l : List α} : (x :: l)[0]? = some x := rfl
theorem lt_one {α : Type} {x y : α} {l : List α} : (x :: y :: l)[1]? = some y := rfl
theorem lt_two {α : Type} {x y z : α} {l : List α} : (x :: y :: z :: l)[2]? = some z := rfl
theorem drop_at {α : Type} {l : List α} {i : Nat} {x : α} (h : l[i]? = some x) : l.drop i = x :: l.drop (i + 1) := by
  have hlt := (List.getElem?_eq_some_iff.mp h).1
  have e := (List.getElem?_eq_some_iff.mp h).2
  rw [← e]
  exact List.drop_eq_getElem_cons hlt
theorem take_at {α : Type} {l : List α} {i : Nat} {x : α} (h : l[i]? = some x) : l.take (i + 1) = l.take i ++ [x] := by
  rw [List.take_add_one, h]
  rfl
theorem tyL {K : PySem.W.Frag} {H : Hp} {p : Addr} {xs : List V} (h : H p = some (.lst xs)) : tyV K "list" (.ref p) H := .inl ⟨rfl, _, SqL.of h⟩
theorem atI_neg {α : Type} {xs : List α} {v : α} (h : xs[xs.length - 1]? = some v) : atI xs (-1) = some v := by
  have hl := (List.getElem?_eq_some_iff.mp h).1
  have e : ixN xs.length (-1) = some (xs.length - 1) := by
    unfold ixN
    rw [if_neg (by omega), if_pos (by omega)]
    congr 1
    omega
  unfold atI
  rw [e]
  exact h
theorem bs_at {K : PySem.W.Frag} {H : Hp} {vs : List V} {bs : List Book} (h : Paired (BkV K H) vs bs) {b : Nat} (hb : b < bs.length) : ∃ v, vs[b]? = some v ∧ BkV K H v (Vbceah.bookAt bs b) :=
  pd_get h (TdM.bookAt_some hb)
theorem cut_both (xs : List V) (a b : Nat) : cutV xs (some (a : Int)) (some (b : Int)) = (xs.drop a).take (b - a) := by
  unfold cutV
  rw [HT.sIx_nat, HT.sIx_nat]
  apply List.ext_getElem?
  intro i
  simp only [List.getElem?_take, List.getElem?_drop]
  by_cases h1 : i < b - a
  · by_cases h2 : a ≤ xs.length
    · rw [if_pos h1]
      by_cases h3 : i < min b xs.length - min a xs.length
      · rw [if_pos h3, Nat.min_eq_left h2]
      · rw [if_neg h3, List.getElem?_eq_none (by omega)]
    · rw [if_pos h1, if_neg (by omega), List.getElem?_eq_none (by omega)]
  · rw [if_neg h1, if_neg (by omega)]
theorem cut_take (xs : List V) (b : Nat) : cutV xs none (some (b : Int)) = xs.take b := by
  have := cut_both xs 0 b
  rw [List.drop_zero, Nat.sub_zero] at this
  rw [← this]
  unfold cutV
  rw [HT.sIx_nat, HT.sIx_none, HT.sIx_nat]
  simp
theorem cut_drop (xs : List V) (a : Nat) : cutV xs (some (a : Int)) none = xs.drop a := by
  have := cut_both xs a xs.length
  unfold cutV at this ⊢
  rw [HT.sIx_nat, HT.sIx_nat] at this
  rw [HT.sIx_nat, HT.sIx_none]
  rw [Nat.min_self] at this
  rw [this, List.take_of_length_le (by simp)]
/-- range(n) -/
theorem walk_rng {n : Nat} : Walk (Itr 0 n) n (fun _ => True) (YFn fun i => nV i) :=
  walk_range.mono (fun _ _ => trivial) fun i H x H' _ _ y => ⟨y.1, by rw [y.2]; exact congrArg V.int (by omega)⟩
theorem line_lt {n : Nat} (h : n ≤ 100000) : n < sizeLine := Nat.lt_of_le_of_lt h (by decide)
theorem line_le {n : Nat} (h : n ≤ 100000) : n ≤ sizeLine := Nat.le_of_lt (line_lt h)
/-- xs.append(y) -/
theorem app_go {H : Hp} {p : Addr} {xs : List V} {y : V} {Q : VK} (h : H p = some (.lst xs)) (hl : xs.length ≤ 100000) (q : Q .non (upd H p (.lst (xs ++ [y])))) : rAppend (.ref p) [y] H Q :=
  ⟨p, xs, y, rfl, rfl, h, line_lt hl, q⟩
end Td
set_option Elab.async false
set_option linter.all false
set_option maxRecDepth 100000
set_option maxHeartbeats 2000000
/-! Two desks: what each def promises. -/
namespace Td
open PySem PySem.Spec PyProof.Rows L2
open Vbceah (Sheet Book Breaks State Clock Reach)
open TdM (Bks Fit Iv Ok Far Good)

/-- where the top has laid what -/
structure Ad where
  room : Addr
  refused : Addr
  fI : Addr
  never : Addr
  numbers : Addr
  withrow : Addr
def sp1 (R : V → Hp → VK → XK → Prop) : Sp := fun vs H Q E => ∃ x, vs = [x] ∧ R x H Q E
def sp2 (R : V → V → Hp → VK → XK → Prop) : Sp := fun vs H Q E => ∃ x y, vs = [x, y] ∧ R x y H Q E
def sp3 (R : V → V → V → Hp → VK → XK → Prop) : Sp := fun vs H Q E => ∃ x y z, vs = [x, y, z] ∧ R x y z H Q E
def sp4 (R : V → V → V → V → Hp → VK → XK → Prop) : Sp := fun vs H Q E => ∃ x y z w, vs = [x, y, z, w] ∧ R x y z w H Q E
def sp5 (R : V → V → V → V → V → Hp → VK → XK → Prop) : Sp := fun vs H Q E => ∃ x y z w u, vs = [x, y, z, w, u] ∧ R x y z w u H Q E
theorem len1 {R : V → Hp → VK → XK → Prop} (vs : List V) (H : Hp) (Q : VK) (E : XK) (h : sp1 R vs H Q E) : vs.length = 1 := by obtain ⟨x, rfl, _⟩ := h; rfl
theorem len2 {R : V → V → Hp → VK → XK → Prop} (vs : List V) (H : Hp) (Q : VK) (E : XK) (h : sp2 R vs H Q E) : vs.length = 2 := by obtain ⟨x, y, rfl, _⟩ := h; rfl
theorem len3 {R : V → V → V → Hp → VK → XK → Prop} (vs : List V) (H : Hp) (Q : VK) (E : XK) (h : sp3 R vs H Q E) : vs.length = 3 := by obtain ⟨x, y, z, rfl, _⟩ := h; rfl
theorem len4 {R : V → V → V → V → Hp → VK → XK → Prop} (vs : List V) (H : Hp) (Q : VK) (E : XK) (h : sp4 R vs H Q E) : vs.length = 4 := by obtain ⟨x, y, z, w, rfl, _⟩ := h; rfl
theorem len5 {R : V → V → V → V → V → Hp → VK → XK → Prop} (vs : List V) (H : Hp) (Q : VK) (E : XK) (h : sp5 R vs H Q E) : vs.length = 5 := by obtain ⟨x, y, z, w, u, rfl, _⟩ := h; rfl

section
variable (K : PySem.W.Frag) (A : Ad)
/-! ### desks -/
def sp_finished (K : PySem.W.Frag) (A : Ad) : Sp := sp3 fun x y z H Q _ => ∃ (e : Breaks) (t w : Nat), StV K H x e ∧ y = nV t ∧ z = nV w ∧ Q (nV (Vbceah.worked e t w)) H
def sp_step (K : PySem.W.Frag) (A : Ad) : Sp := sp3 fun x y z H Q _ => ∃ (e1 e2 : Breaks) (c : Clock) (s : Sheet), EmV K H x e1 e2 ∧ CkV K H y c ∧ ShV K H z s ∧ ∀ v H', Same H H' → CkV K H' v (Vbceah.placed e1 e2 c s) → Q v H'
def sp_sheets_of (K : PySem.W.Frag) (A : Ad) : Sp := sp2 fun x y H Q _ => ∃ (bs : List Book) (o : List Nat), BsV K H x bs ∧ Bks bs ∧ IsL K H y (nts o) ∧ Fit bs o ∧ o.length ≤ 100 ∧ ∀ v H', Same H H' → SlV K H' v (Vbceah.sheetsOf bs o []) → Q v H'
def sp_clocks_of (K : PySem.W.Frag) (A : Ad) : Sp := sp2 fun x y H Q _ => ∃ (e1 e2 : Breaks) (l : List Sheet), EmV K H x e1 e2 ∧ SsV K H y l ∧ l.length ≤ 1000 ∧ ∀ v H', Same H H' → ClV K H' v (Vbceah.clocks e1 e2 ⟨0, 0⟩ l) → (∀ p, v = .ref p → H p = none) → Q v H'
def sp_behind (K : PySem.W.Frag) (A : Ad) : Sp := sp2 fun x y H Q _ => ∃ (e1 e2 : Breaks) (l : List Sheet), EmV K H x e1 e2 ∧ SsV K H y l ∧ l.length ≤ 1000 ∧ ∀ v H', Same H H' → CkV K H' v (Vbceah.clockOf e1 e2 l) → Q v H'
def sp_waits (K : PySem.W.Frag) (A : Ad) : Sp := sp2 fun x y H Q _ => ∃ (e1 e2 : Breaks) (l : List Sheet), EmV K H x e1 e2 ∧ SsV K H y l ∧ l.length ≤ 1000 ∧ ∀ v H', Same H H' → NwL H' v (nts (TdM.waitsOf e1 e2 l)) → Q v H'
/-! ### books as a whole -/
def sp_three_numbers (K : PySem.W.Frag) (A : Ad) : Sp := sp1 fun x H Q _ => ∃ l : Book, BkV K H x l ∧ l.length ≤ 1000 ∧ ∀ p H', Same H H' → H' p = some (.tup [nV (Vbceah.blockOf l).one, nV (Vbceah.blockOf l).two, nV (Vbceah.blockOf l).both]) → Q (.ref p) H'
def sp_lead_and_tail (K : PySem.W.Frag) (A : Ad) : Sp := sp1 fun x H Q _ => ∃ l : Book, BkV K H x l ∧ l.length ≤ 1000 ∧ ∀ p H', Same H H' → H' p = some (.tup [nV (Vbceah.lead (Vbceah.blockOf l)), nV (Vbceah.tail (Vbceah.blockOf l))]) → Q (.ref p) H'
def sp_by_rule (K : PySem.W.Frag) (A : Ad) : Sp := sp1 fun x H Q _ => ∃ bs : List Book, BsV K H x bs ∧ Bks bs ∧ ∀ v H', Same H H' → NwL H' v (nts (Vbceah.ruled bs)) → Q v H'
def sp_end_of (K : PySem.W.Frag) (A : Ad) : Sp := sp2 fun x y H Q _ => ∃ (bs : List Book) (ns : List Nat), BsV K H x bs ∧ Bks bs ∧ IsL K H y (nts ns) ∧ (∀ n ∈ ns, n < bs.length) ∧ ns.length ≤ 30 ∧ ∀ H', Same H H' → Q (nV (Vbceah.endOfBlocks bs ns)) H'
def sp_critical (K : PySem.W.Frag) (A : Ad) : Sp := sp1 fun x H Q _ => ∃ (l : List Sheet) (k : Nat), SlV K H x l ∧ l.length ≤ 1000 ∧ Vbceah.critical l = some k ∧ ∀ H', Same H H' → Q (nV k) H'
/-! ### the search -/
def sp_is_whole_searching (K : PySem.W.Frag) (A : Ad) : Sp := sp2 fun x y H Q _ => ∃ (bs : List Book) (p : List Nat), BsV K H x bs ∧ Bks bs ∧ TkV H y p ∧ p.length = bs.length ∧ ∀ H', Same H H' → Q (.bl (TdM.wholeP bs p)) H'
def sp_more_of (K : PySem.W.Frag) (A : Ad) : Sp := sp2 fun x y H Q _ => ∃ (bs : List Book) (p : List Nat), BsV K H x bs ∧ Bks bs ∧ TkV H y p ∧ p.length = bs.length ∧ ∀ v H', Same H H' → NwL H' v (nts (TdM.moreOf bs p)) → Q v H'
def sp_with_one (K : PySem.W.Frag) (A : Ad) : Sp := sp2 fun x y H Q _ => ∃ (p : List Nat) (b : Nat), TkV H x p ∧ y = nV b ∧ b < p.length ∧ p.length ≤ 100 ∧ ∀ v H', Same H H' → TkV H' v (p.set b (p.getD b 0 + 1)) → Q v H'
/-- a table of a round -/
def keyOf (p : List Nat) : List Key := p.map fun n : Nat => Sum.inl (n : Int)
def TabV (H : Hp) (kvs : List (List Key × V)) (r : Reach) : Prop := Paired (fun kv x => kv.1 = keyOf x.1 ∧ CkV K H kv.2 x.2) kvs r
def sp_round_of (K : PySem.W.Frag) (A : Ad) : Sp := sp3 fun x y z H Q _ => ∃ (bs : List Book) (e1 e2 : Breaks) (d : Addr) (kvs : List (List Key × V)) (p0 : List Nat) (c0 : Clock) (n : Nat) (r : Reach), BsV K H x bs ∧ Bks bs ∧ EmV K H y e1 e2 ∧ Ok e1 ∧ z = .ref d ∧ H d = some (.dT kvs) ∧
  TabV K H kvs r ∧ Good bs e1 p0 c0 n r ∧ 4 * r.length ≤ sizeLine ∧ ∀ d' kvs' H', Same H H' → H' d' = some (.dT kvs') → TabV K H' kvs' (Vbceah.further bs e1 e2 r) → Q (.ref d') H'
def sp_least_from (K : PySem.W.Frag) (A : Ad) : Sp := sp4 fun x y z w H Q _ => ∃ (bs : List Book) (e1 e2 : Breaks) (p : List Nat) (c : Clock), BsV K H x bs ∧ Bks bs ∧ EmV K H y e1 e2 ∧ Ok e1 ∧ TkV H z p ∧ Far bs p ∧ CkV K H w c ∧ ∀ H', Same H H' → Q (nV (Vbceah.leastFrom bs e1 e2 p c)) H'
def sp_first_with (K : PySem.W.Frag) (A : Ad) : Sp := sp5 fun x y z w u H Q _ => ∃ (bs : List Book) (e1 e2 : Breaks) (p : List Nat) (c : Clock) (goal b : Nat), BsV K H x bs ∧ Bks bs ∧ EmV K H y e1 e2 ∧ Ok e1 ∧ TkV H z p ∧ Far bs p ∧ CkV K H w c ∧ u = nV goal ∧
  TdM.firstWith bs e1 e2 p c goal = some b ∧ ∀ H', Same H H' → Q (nV b) H'
def sp_best_from (K : PySem.W.Frag) (A : Ad) : Sp := sp2 fun x y H Q _ => ∃ (bs : List Book) (e1 e2 : Breaks), BsV K H x bs ∧ Bks bs ∧ EmV K H y e1 e2 ∧ Ok e1 ∧ Ok e2 ∧ ∀ v H', Same H H' → NwL H' v (nts (Vbceah.best bs e1 e2)) → Q v H'
def sp_how_many (K : PySem.W.Frag) (A : Ad) : Sp := sp1 fun x H Q _ => ∃ bs : List Book, BsV K H x bs ∧ Bks bs ∧ ∀ H', Same H H' → Q (nV (Vbceah.ordersOf bs)) H'
/-! ### workings -/
/-- a list that H does not know -/
def NwF (H H' : Hp) (v : V) (ns : List Int) : Prop := ∃ p, v = .ref p ∧ H p = none ∧ H' p = some (.lst (ns.map V.int))
theorem NwF.nw {H H' : Hp} {v : V} {ns : List Int} (h : NwF H H' v ns) : NwL H' v ns := let ⟨p, h1, _, h2⟩ := h; ⟨p, h1, h2⟩
theorem NwF.back {H H1 H' : Hp} {v : V} {ns : List Int} (h : NwF H1 H' v ns) (e : Same H H1) : NwF H H' v ns := let ⟨p, h1, h2, h3⟩ := h; ⟨p, h1, e.free h2, h3⟩
def sp_each_once (K : PySem.W.Frag) (A : Ad) : Sp := sp1 fun x H Q _ => ∃ ns : List Int, IsL K H x ns ∧ ns.length ≤ 30 ∧ ∀ v H', Same H H' → NwL H' v ns.eraseDups → Q v H'
def sp_judge (K : PySem.W.Frag) (A : Ad) : Sp := sp2 fun x y H Q _ => ∃ (t : Nat) (ns : List Int), x = nV t ∧ IsL K H y ns ∧ ns.length ≤ 30 ∧ ∀ v H', Same H H' → NwF H H' v (TdM.judgeOf t ns) → Q v H'
def sp_least_two (K : PySem.W.Frag) (A : Ad) : Sp := sp1 fun x H Q _ => ∃ ns : List Int, IsL K H x ns ∧ ns.length ≤ 30 ∧ ∀ v H' a b, Same H H' → TdM.Least2 ns a b → NwL H' v (nts [a, b]) → Q v H'
def sp_more (K : PySem.W.Frag) (A : Ad) : Sp := sp2 fun x y H Q _ => ∃ (t : Nat) (ns : List Int), x = nV t ∧ t ≤ 10 ∧ IsL K H y ns ∧ ns.length ≤ 30 ∧ ∀ v H', Same H H' → NwF H H' v (TdM.moreAns t ns) → Q v H'
/-! ### refusals -/
/-- the refusal of the number c is the way out -/
def Rz (H : Hp) (E : XK) (c : Int) : Prop := ∀ d H', Same H H' → H' d = some (.xd [(("code" : Str), .int c)]) → E (.ref A.refused) (some d) H'
theorem Rz.mono {A : Ad} {H H1 : Hp} {E : XK} {c : Int} (e : Same H H1) (h : Rz A H E c) : Rz A H1 E c := fun d H' e' hd => h d H' (e.trans e') hd
def sp_ask (K : PySem.W.Frag) (A : Ad) : Sp := sp2 fun x y H Q E => ∃ (b : Bool) (c : Int), x = .bl b ∧ y = .int c ∧ (b = true → Q .non H) ∧ (b = false → Rz A H E c)
def Within (ns : List Int) (lo hi : Int) : Prop := ∀ n ∈ ns, lo ≤ n ∧ n ≤ hi
def sp_ask_all (K : PySem.W.Frag) (A : Ad) : Sp := sp3 fun x y z H Q E => ∃ (ns : List Int) (lo hi : Int), IsL K H x ns ∧ y = .int lo ∧ z = .int hi ∧ (Within ns lo hi → Q .non H) ∧ (¬ Within ns lo hi → Rz A H E (-1))
def sp_ask_workings (K : PySem.W.Frag) (A : Ad) : Sp := sp2 fun x y H Q E => ∃ (t : Int) (ns : List Int), x = .int t ∧ IsL K H y ns ∧ ns.length ≤ 30 ∧
  (0 ≤ t ∧ t ≤ 10 → Within ns (-1000000000) 1000000000 → ∀ H', Same H H' → Q .non H') ∧ (¬ (0 ≤ t ∧ t ≤ 10 ∧ Within ns (-1000000000) 1000000000) → Rz A H E (-1))
/-! ### the object -/
def RmF (pb pe po : Addr) : List (Str × V) := [("books", .ref pb), ("empties", .ref pe), ("order", .ref po)]
/-- the object at a holds s; m: what may change of it -/
structure RoomAt (H : Hp) (a : Addr) (s : State) (m : List Addr) : Prop where
  ex : ∃ (dx pb pe po : Addr) (vb : List V) (x y : V), m = [a, pb, pe, po] ∧ pb ≠ pe ∧ pb ≠ po ∧ pe ≠ po ∧ H a = some (.ins A.room dx (RmF pb pe po)) ∧ H pb = some (.lst vb) ∧ Paired (BkV K H) vb s.books ∧
    H pe = some (.lst [x, y]) ∧ StV K H x s.empty1 ∧ StV K H y s.empty2 ∧ H po = some (.lst ((nts s.order).map V.int))
theorem RoomAt.mono {K : PySem.W.Frag} {A : Ad} {H H' : Hp} {a : Addr} {s : State} {m : List Addr} (e : Same H H') (h : RoomAt K A H a s m) : RoomAt K A H' a s m := by
  obtain ⟨dx, pb, pe, po, vb, x, y, h1, n1, n2, n3, h2, h3, h4, h5, h6, h7, h8⟩ := h.ex
  exact ⟨dx, pb, pe, po, vb, x, y, h1, n1, n2, n3, e.keep h2, e.keep h3, Paired.mapP h4 fun _ _ z => z.mono e, e.keep h5, h6.mono e, h7.mono e, e.keep h8⟩
/-- all but the object stands; what is the object's now was its own, or the row handed in, or is new -/
structure Kp (H H' : Hp) (m m' : List Addr) (row : V) : Prop where
  keep : ∀ b o, H b = some o → b ∉ m → H' b = some o
  new : ∀ x ∈ m', x ∈ m ∨ row = .ref x ∨ H x = none
  dom : ∀ b, H' b = none → H b = none
theorem Kp.of_same {H H' : Hp} {m : List Addr} {row : V} (e : Same H H') : Kp H H' m m row := ⟨fun b o h _ => e b o h, fun x h => .inl h, fun b h => e.free h⟩
/-- r is given back, or, if it is a refusal, raised -/
structure Out (H : Hp) (a : Addr) (s : State) (m : List Addr) (row : V) (r : State × List Int) (Q : VK) (E : XK) : Prop where
  back : ∀ v H' m', Kp H H' m m' row → RoomAt K A H' a r.1 m' → NwF H H' v r.2 → Q v H'
  rais : ∀ z, r = (s, [z]) → Rz A H E z
theorem Out.same {K : PySem.W.Frag} {A : Ad} {H H1 : Hp} {a : Addr} {s : State} {m : List Addr} {row : V} {r : State × List Int} {Q : VK} {E : XK} (e : Same H H1) (h : Out K A H a s m row r Q E) : Out K A H1 a s m row r Q E :=
  ⟨fun v H' m' k R n => h.back v H' m' ⟨fun b o q hb => k.keep b o (e b o q) hb, fun x hx => (k.new x hx).imp id fun z => z.imp id fun z => e.free z, fun b h => e.free (k.dom b h)⟩ R (n.back e), fun z q => (h.rais z q).mono e⟩
theorem Out.pure {K : PySem.W.Frag} {A : Ad} {H : Hp} {a : Addr} {s : State} {m : List Addr} {row : V} {l : List Int} {Q : VK} {E : XK} (h : Out K A H a s m row (s, l) Q E) (R : RoomAt K A H a s m) : ∀ v H', Same H H' → NwF H H' v l → Q v H' :=
  fun v H' e n => h.back v H' m (Kp.of_same e) (R.mono e) n
def sp_Room_init (K : PySem.W.Frag) (A : Ad) : Sp := sp1 fun x H Q _ => ∃ (p dx : Addr), x = .ref p ∧ H p = some (.ins A.room dx []) ∧ ∀ H' m', (∀ b o, H b = some o → b ≠ p → H' b = some o) → (∀ x ∈ m', x = p ∨ H x = none) → RoomAt K A H' p Vbceah.start m' → Q .non H'
def sp_Room_add_book (K : PySem.W.Frag) (A : Ad) : Sp := sp2 fun x y H Q _ => ∃ (a : Addr) (s : State) (m : List Addr) (b : Book), x = .ref a ∧ RoomAt K A H a s m ∧ BkV K H y b ∧ s.books.length ≤ 100 ∧ ∀ H', Kp H H' m m .non → RoomAt K A H' a { s with books := s.books ++ [b] } m → Q .non H'
def sp_Room_set_empty (K : PySem.W.Frag) (A : Ad) : Sp := sp3 fun x y z H Q _ => ∃ (a : Addr) (s : State) (m : List Addr) (d : Nat) (e : Breaks), x = .ref a ∧ RoomAt K A H a s m ∧ y = nV d ∧ d ≤ 1 ∧ StV K H z e ∧
  ∀ H', Kp H H' m m .non → RoomAt K A H' a (if d = 0 then { s with empty1 := e } else { s with empty2 := e }) m → Q .non H'
def sp_Room_set_order (K : PySem.W.Frag) (A : Ad) : Sp := sp2 fun x y H Q _ => ∃ (a : Addr) (s : State) (m : List Addr) (o : List Nat) (p : Addr), x = .ref a ∧ RoomAt K A H a s m ∧ y = .ref p ∧ H p = some (.lst ((nts o).map V.int)) ∧ p ∉ m ∧
  ∀ H' m', Kp H H' m m' y → RoomAt K A H' a { s with order := o } m' → Q .non H'
def sp_Room_clear (K : PySem.W.Frag) (A : Ad) : Sp := sp1 fun x H Q _ => ∃ (a : Addr) (s : State) (m : List Addr), x = .ref a ∧ RoomAt K A H a s m ∧ ∀ H' m', Kp H H' m m' .non → RoomAt K A H' a Vbceah.start m' → Q .non H'
/-! ### the calls -/
def sp_taken_by (K : PySem.W.Frag) (A : Ad) : Sp := sp2 fun x y H Q _ => ∃ (a : Addr) (s : State) (m : List Addr) (o : List Int), x = .ref a ∧ RoomAt K A H a s m ∧ Iv s ∧ IsL K H y o ∧ o.length ≤ 30 ∧ ∀ v H', Same H H' → TkV H' v ((List.range s.books.length).map fun b : Nat => o.count (b : Int)) → Q v H'
def sp_twos (K : PySem.W.Frag) (A : Ad) : Sp := sp1 fun x H Q _ => ∃ (ns : List Int) (r : List (Nat × Nat)), IsL K H x ns ∧ ns.length ≤ 30 ∧ (∀ n ∈ ns, 0 ≤ n) ∧ Vbceah.twos ns = some r ∧ ∀ v H', Same H H' → StV K H' v r → Q v H'
/-- a def that only reads the object -/
abbrev spRd (R : State → Hp → VK → Prop) : Sp := sp1 fun x H Q _ => ∃ (a : Addr) (s : State) (m : List Addr), x = .ref a ∧ RoomAt K A H a s m ∧ Iv s ∧ R s H Q
/-- a new list of its numbers -/
abbrev spLs (f : State → List Int) : Sp := spRd K A fun s H Q => ∀ v H', Same H H' → NwF H H' v (f s) → Q v H'
def sp_sheets_now (K : PySem.W.Frag) (A : Ad) : Sp := spRd K A fun s H Q => ∀ v H', Same H H' → SlV K H' v (Vbceah.sheetsOf s.books s.order []) → Q v H'
def sp_is_whole_room (K : PySem.W.Frag) (A : Ad) : Sp := spRd K A fun s H Q => ∀ H', Same H H' → Q (.bl (Vbceah.isWhole s.books s.order)) H'
def sp_told (K : PySem.W.Frag) (A : Ad) : Sp := sp1 fun x H Q _ => ∃ ns : List Int, IsL K H x ns ∧ ns.length ≤ 1000 ∧ ∀ v H', Same H H' → NwF H H' v ((ns.length : Int) :: ns) → Q v H'
def sp_ends (K : PySem.W.Frag) (A : Ad) : Sp := spLs K A fun s => (Vbceah.act s .ends).2
def sp_times (K : PySem.W.Frag) (A : Ad) : Sp := spLs K A fun s => (Vbceah.act s .times).2
def sp_least (K : PySem.W.Frag) (A : Ad) : Sp := spLs K A fun s => (Vbceah.act s .least).2
def sp_left (K : PySem.W.Frag) (A : Ad) : Sp := spLs K A fun s => (Vbceah.act s .left).2
def sp_each_next (K : PySem.W.Frag) (A : Ad) : Sp := spLs K A fun s => (Vbceah.act s .next).2
def sp_books (K : PySem.W.Frag) (A : Ad) : Sp := spLs K A fun s => (Vbceah.act s .books).2
def sp_ask_never_empty (K : PySem.W.Frag) (A : Ad) : Sp := sp1 fun x H Q E => ∃ (a : Addr) (s : State) (m : List Addr), x = .ref a ∧ RoomAt K A H a s m ∧ Iv s ∧ (s.empty1 = [] ∧ s.empty2 = [] → ∀ H', Same H H' → Q .non H') ∧ (¬ (s.empty1 = [] ∧ s.empty2 = []) → Rz A H E (-7))
/-- a call without numbers of its own -/
abbrev spO1 (f : State → State × List Int) : Sp := sp1 fun x H Q E => ∃ (a : Addr) (s : State) (m : List Addr), x = .ref a ∧ RoomAt K A H a s m ∧ Iv s ∧ Out K A H a s m .non (f s) Q E
/-- .. with a number; with a row; with both -/
abbrev spO2 (f : State → Int → State × List Int) : Sp := sp2 fun x y H Q E => ∃ (a : Addr) (s : State) (m : List Addr) (n : Int), x = .ref a ∧ RoomAt K A H a s m ∧ Iv s ∧ y = .int n ∧ Out K A H a s m .non (f s n) Q E
abbrev spOR (f : State → List Int → State × List Int) : Sp := sp2 fun x y H Q E => ∃ (a : Addr) (s : State) (m : List Addr) (l : List Int), x = .ref a ∧ RoomAt K A H a s m ∧ Iv s ∧ NwL H y l ∧ l.length ≤ 30 ∧ (∀ p, y = .ref p → p ∉ m) ∧ Out K A H a s m y (f s l) Q E
abbrev spO3 (f : State → Int → List Int → State × List Int) : Sp := sp3 fun x y z H Q E => ∃ (a : Addr) (s : State) (m : List Addr) (n : Int) (l : List Int), x = .ref a ∧ RoomAt K A H a s m ∧ Iv s ∧ y = .int n ∧ NwL H z l ∧ l.length ≤ 30 ∧ (∀ p, z = .ref p → p ∉ m) ∧ Out K A H a s m z (f s n l) Q E
/-- one call, decoded -/
def run (s : State) (c : Vbceah.Call) : State × List Int := if Vbceah.inRange s c = false then (s, [-1]) else Vbceah.act s c
def sp_book (K : PySem.W.Frag) (A : Ad) : Sp := spOR K A fun s l => run s (.book l)
def sp_empty (K : PySem.W.Frag) (A : Ad) : Sp := spO3 K A fun s d l => run s (.empty d l)
def sp_order (K : PySem.W.Frag) (A : Ad) : Sp := spOR K A fun s l => run s (.order l)
def sp_rule (K : PySem.W.Frag) (A : Ad) : Sp := spO1 K A fun s => run s .rule
def sp_block (K : PySem.W.Frag) (A : Ad) : Sp := spO2 K A fun s n => run s (.block n)
def sp_hanging (K : PySem.W.Frag) (A : Ad) : Sp := spO1 K A fun s => run s .critical
def sp_judged (K : PySem.W.Frag) (A : Ad) : Sp := sp2 fun x y H Q E => ∃ (t : Int) (l : List Int), x = .int t ∧ NwL H y l ∧ l.length ≤ 30 ∧
  (0 ≤ t ∧ t ≤ 10 ∧ Within l (-1000000000) 1000000000 → ∀ v H', Same H H' → NwF H H' v (TdM.judgeOf t.toNat l) → Q v H') ∧ (¬ (0 ≤ t ∧ t ≤ 10 ∧ Within l (-1000000000) 1000000000) → Rz A H E (-1))
def sp_more_told (K : PySem.W.Frag) (A : Ad) : Sp := sp2 fun x y H Q E => ∃ (t : Int) (l : List Int), x = .int t ∧ NwL H y l ∧ l.length ≤ 30 ∧
  (0 ≤ t ∧ t ≤ 10 ∧ Within l (-1000000000) 1000000000 → ∀ v H', Same H H' → NwF H H' v (TdM.moreAns t.toNat l) → Q v H') ∧ (¬ (0 ≤ t ∧ t ≤ 10 ∧ Within l (-1000000000) 1000000000) → Rz A H E (-1))
def sp_blocks (K : PySem.W.Frag) (A : Ad) : Sp := spOR K A fun s l => run s (.blocks l)
def sp_swap (K : PySem.W.Frag) (A : Ad) : Sp := spO2 K A fun s n => run s (.swap n)
def sp_clear (K : PySem.W.Frag) (A : Ad) : Sp := sp1 fun x H Q _ => ∃ (a : Addr) (s : State) (m : List Addr), x = .ref a ∧ RoomAt K A H a s m ∧ ∀ v H' m', Kp H H' m m' .non → RoomAt K A H' a Vbceah.start m' → NwF H H' v [0] → Q v H'
/-- the rows of a call -/
def rowsOf (k : Int) (ns l : List Int) : List (List Int) := if k ∈ ([0, 1, 2, 14, 15, 16] : List Int) then [k :: ns, l] else [k :: ns]
/-- how many numbers a call has -/
def few (k : Int) : Nat := if k ∈ ([1, 12, 14, 15, 17] : List Int) then 1 else 0
def sp_of_order (K : PySem.W.Frag) (A : Ad) : Sp := sp2 fun x y H Q _ => ∃ (a : Addr) (s : State) (m : List Addr) (k : Int), x = .ref a ∧ RoomAt K A H a s m ∧ Iv s ∧ y = .int k ∧ 3 ≤ k ∧ k ≤ 10 ∧ ∀ v H', Same H H' → NwF H H' v (Vbceah.step s [[k]]).2 → Q v H'
def sp_of_room (K : PySem.W.Frag) (A : Ad) : Sp := sp4 fun x y z w H Q E => ∃ (a : Addr) (s : State) (m : List Addr) (k : Int) (ns l : List Int), x = .ref a ∧ RoomAt K A H a s m ∧ Iv s ∧ y = .int k ∧ 0 ≤ k ∧ k ≤ 19 ∧ ¬ (3 ≤ k ∧ k ≤ 10) ∧ IsL K H z ns ∧ ns.length = few k ∧
  NwL H w l ∧ l.length ≤ 30 ∧ (∀ p, w = .ref p → p ∉ m) ∧ Out K A H a s m w (Vbceah.step s (rowsOf k ns l)) Q E
def sp_answered (K : PySem.W.Frag) (A : Ad) : Sp := sp4 fun x y z w H Q _ => ∃ (a : Addr) (s : State) (m : List Addr) (k : Int) (ns l : List Int), x = .ref a ∧ RoomAt K A H a s m ∧ Iv s ∧ y = .int k ∧ 0 ≤ k ∧ k ≤ 19 ∧ IsL K H z ns ∧ ns.length = few k ∧
  NwL H w l ∧ l.length ≤ 30 ∧ (∀ p, w = .ref p → p ∉ m) ∧ ∀ v H' m', Kp H H' m m' w → RoomAt K A H' a (Vbceah.step s (rowsOf k ns l)).1 m' → NwF H H' v (Vbceah.step s (rowsOf k ns l)).2 → Q v H'
def withRow (k : Int) : Bool := decide (k ∈ ([0, 1, 2, 14, 15, 16] : List Int))
def sp_row_at (K : PySem.W.Frag) (A : Ad) : Sp := sp3 fun x y z H Q _ => ∃ (ns : List Int) (k : Int) (i : Nat), IsL K H x ns ∧ y = .int k ∧ z = nV i ∧ (withRow k = true → ∃ n : Nat, ns[i]? = some (n : Int)) ∧
  ∀ (p q : Addr) (l : List Int) (j : Nat) (H' : Hp), Same H H' → H q = none → H' p = some (.tup [.ref q, nV j]) → H' q = some (.lst (l.map V.int)) →
    (withRow k = false → l = [] ∧ j = i) → (∀ n : Nat, withRow k = true → ns[i]? = some (n : Int) → l = (ns.drop (i + 1)).take n ∧ j = i + 1 + n) → Q (.ref p) H'
def sp_answers (K : PySem.W.Frag) (A : Ad) : Sp := sp1 fun x H Q _ => ∃ (a : Addr) (ns : List Int), x = .ref a ∧ SqL K H a (ns.map V.int) ∧ PyVbceah.answers_asked ns = true ∧ ∀ (H' : Hp) (p : Addr), H' p = some (.lst ((PyVbceah.answers ns).map V.int)) → Q (.ref p) H'
end
end Td
set_option Elab.async false
set_option linter.all false
set_option maxRecDepth 100000
set_option maxHeartbeats 4000000
/-! Two desks: the defs of the text, their slots, what the top has laid. -/
namespace Td
open PySem PySem.Spec PyProof.Rows L2
open Vbceah (Sheet Book Breaks State Clock Reach)
open TdM (Bks Fit Iv Ok Far Good)
abbrev s_finished : Stmt := topS 2
theorem sc_finished : FnScope ["empty", "begun", "work", "at", "first", "last"] ["empty", "begun", "work"] (defScope s_finished) := ⟨rfl, rfl, rfl, by decide +kernel, rfl, by decide +kernel, by decide +kernel⟩
abbrev s_sheets_of : Stmt := topS 3
theorem sc_sheets_of : FnScope ["books", "order", "taken", "found", "book"] ["books", "order"] (defScope s_sheets_of) := ⟨rfl, rfl, rfl, by decide +kernel, rfl, by decide +kernel, by decide +kernel⟩
abbrev s_step : Stmt := topS 4
theorem sc_step : FnScope ["empties", "clocks", "sheet", "computed"] ["empties", "clocks", "sheet"] (defScope s_step) := ⟨rfl, rfl, rfl, by decide +kernel, rfl, by decide +kernel, by decide +kernel⟩
abbrev s_clocks_of : Stmt := topS 5
theorem sc_clocks_of : FnScope ["empties", "sheets", "found", "clocks", "sheet"] ["empties", "sheets"] (defScope s_clocks_of) := ⟨rfl, rfl, rfl, by decide +kernel, rfl, by decide +kernel, by decide +kernel⟩
abbrev s_behind : Stmt := topS 6
theorem sc_behind : FnScope ["empties", "sheets", "found"] ["empties", "sheets"] (defScope s_behind) := ⟨rfl, rfl, rfl, by decide +kernel, rfl, by decide +kernel, by decide +kernel⟩
abbrev s_waits : Stmt := topS 7
theorem sc_waits : FnScope ["empties", "sheets", "found", "before", "clocks"] ["empties", "sheets"] (defScope s_waits) := ⟨rfl, rfl, rfl, by decide +kernel, rfl, by decide +kernel, by decide +kernel⟩
abbrev s_three_numbers : Stmt := topS 9
theorem sc_three_numbers : FnScope ["book", "one", "other"] ["book"] (defScope s_three_numbers) := ⟨rfl, rfl, rfl, by decide +kernel, rfl, by decide +kernel, by decide +kernel⟩
abbrev s_lead_and_tail : Stmt := topS 10
theorem sc_lead_and_tail : FnScope ["book", "computed", "checked", "end"] ["book"] (defScope s_lead_and_tail) := ⟨rfl, rfl, rfl, by decide +kernel, rfl, by decide +kernel, by decide +kernel⟩
abbrev s_by_rule : Stmt := topS 11
theorem sc_by_rule : FnScope ["books", "first", "then", "number", "book", "lead", "tail", "key"] ["books"] (defScope s_by_rule) := ⟨rfl, rfl, rfl, by decide +kernel, rfl, by decide +kernel, by decide +kernel⟩
abbrev s_end_of : Stmt := topS 12
theorem sc_end_of : FnScope ["books", "numbers", "sheets", "number"] ["books", "numbers"] (defScope s_end_of) := ⟨rfl, rfl, rfl, by decide +kernel, rfl, by decide +kernel, by decide +kernel⟩
abbrev s_critical : Stmt := topS 13
theorem sc_critical : FnScope ["sheets", "end", "at", "before", "one", "other"] ["sheets"] (defScope s_critical) := ⟨rfl, rfl, rfl, by decide +kernel, rfl, by decide +kernel, by decide +kernel⟩
abbrev s_is_whole_searching : Stmt := topS 15
theorem sc_is_whole_searching : FnScope ["books", "taken", "book", "many"] ["books", "taken"] (defScope s_is_whole_searching) := ⟨rfl, rfl, rfl, by decide +kernel, rfl, by decide +kernel, by decide +kernel⟩
abbrev s_more_of : Stmt := topS 17
theorem sc_more_of : FnScope ["books", "taken", "book"] ["books", "taken"] (defScope s_more_of) := ⟨rfl, rfl, rfl, by decide +kernel, rfl, by decide +kernel, by decide +kernel⟩
abbrev s_with_one : Stmt := topS 18
theorem sc_with_one : FnScope ["taken", "book"] ["taken", "book"] (defScope s_with_one) := ⟨rfl, rfl, rfl, by decide +kernel, rfl, by decide +kernel, by decide +kernel⟩
abbrev s_round_of : Stmt := topS 19
theorem sc_round_of : FnScope ["books", "empties", "known", "found", "taken", "book", "clocks", "after"] ["books", "empties", "known"] (defScope s_round_of) := ⟨rfl, rfl, rfl, by decide +kernel, rfl, by decide +kernel, by decide +kernel⟩
abbrev s_least_from : Stmt := topS 20
theorem sc_least_from : FnScope ["books", "empties", "taken", "clocks", "known"] ["books", "empties", "taken", "clocks"] (defScope s_least_from) := ⟨rfl, rfl, rfl, by decide +kernel, rfl, by decide +kernel, by decide +kernel⟩
abbrev s_best_from : Stmt := topS 21
theorem sc_best_from : FnScope ["books", "empties", "taken", "clocks", "least", "found", "book"] ["books", "empties"] (defScope s_best_from) := ⟨rfl, rfl, rfl, by decide +kernel, rfl, by decide +kernel, by decide +kernel⟩
abbrev s_first_with : Stmt := topS 22
theorem sc_first_with : FnScope ["books", "empties", "taken", "clocks", "least", "book", "after"] ["books", "empties", "taken", "clocks", "least"] (defScope s_first_with) := ⟨rfl, rfl, rfl, by decide +kernel, rfl, by decide +kernel, by decide +kernel⟩
abbrev s_how_many : Stmt := topS 23
theorem sc_how_many : FnScope ["books", "found", "done", "book", "k"] ["books"] (defScope s_how_many) := ⟨rfl, rfl, rfl, by decide +kernel, rfl, by decide +kernel, by decide +kernel⟩
abbrev s_each_once : Stmt := topS 28
theorem sc_each_once : FnScope ["some", "at", "number"] ["some"] (defScope s_each_once) := ⟨rfl, rfl, rfl, by decide +kernel, rfl, by decide +kernel, by decide +kernel⟩
abbrev s_judge : Stmt := topS 29
theorem sc_judge : FnScope ["slips", "some", "right", "untold", "state", "number"] ["slips", "some"] (defScope s_judge) := ⟨rfl, rfl, rfl, by decide +kernel, rfl, by decide +kernel, by decide +kernel⟩
abbrev s_least_two : Stmt := topS 30
theorem sc_least_two : FnScope ["some", "found", "number"] ["some"] (defScope s_least_two) := ⟨rfl, rfl, rfl, by decide +kernel, rfl, by decide +kernel, by decide +kernel⟩
abbrev s_more : Stmt := topS 31
theorem sc_more : FnScope ["slips", "some", "first", "second"] ["slips", "some"] (defScope s_more) := ⟨rfl, rfl, rfl, by decide +kernel, rfl, by decide +kernel, by decide +kernel⟩
abbrev s_ask : Stmt := topS 50
theorem sc_ask : FnScope ["good", "code"] ["good", "code"] (defScope s_ask) := ⟨rfl, rfl, rfl, by decide +kernel, rfl, by decide +kernel, by decide +kernel⟩
abbrev s_Room_init : Stmt := inClass (topS 51) 0
theorem sc_Room_init : FnScope ["self"] ["self"] (defScope s_Room_init) := ⟨rfl, rfl, rfl, by decide +kernel, rfl, by decide +kernel, by decide +kernel⟩
abbrev s_Room_add_book : Stmt := inClass (topS 51) 1
theorem sc_Room_add_book : FnScope ["self", "book"] ["self", "book"] (defScope s_Room_add_book) := ⟨rfl, rfl, rfl, by decide +kernel, rfl, by decide +kernel, by decide +kernel⟩
abbrev s_Room_set_empty : Stmt := inClass (topS 51) 2
theorem sc_Room_set_empty : FnScope ["self", "desk", "stretches"] ["self", "desk", "stretches"] (defScope s_Room_set_empty) := ⟨rfl, rfl, rfl, by decide +kernel, rfl, by decide +kernel, by decide +kernel⟩
abbrev s_Room_set_order : Stmt := inClass (topS 51) 3
theorem sc_Room_set_order : FnScope ["self", "order"] ["self", "order"] (defScope s_Room_set_order) := ⟨rfl, rfl, rfl, by decide +kernel, rfl, by decide +kernel, by decide +kernel⟩
abbrev s_Room_clear : Stmt := inClass (topS 51) 4
theorem sc_Room_clear : FnScope ["self"] ["self"] (defScope s_Room_clear) := ⟨rfl, rfl, rfl, by decide +kernel, rfl, by decide +kernel, by decide +kernel⟩
abbrev s_ask_all : Stmt := topS 52
theorem sc_ask_all : FnScope ["some", "low", "high", "number"] ["some", "low", "high"] (defScope s_ask_all) := ⟨rfl, rfl, rfl, by decide +kernel, rfl, by decide +kernel, by decide +kernel⟩
abbrev s_taken_by : Stmt := topS 53
theorem sc_taken_by : FnScope ["room", "order", "book"] ["room", "order"] (defScope s_taken_by) := ⟨rfl, rfl, rfl, by decide +kernel, rfl, by decide +kernel, by decide +kernel⟩
abbrev s_twos : Stmt := topS 54
theorem sc_twos : FnScope ["row", "at"] ["row"] (defScope s_twos) := ⟨rfl, rfl, rfl, by decide +kernel, rfl, by decide +kernel, by decide +kernel⟩
abbrev s_sheets_now : Stmt := topS 55
theorem sc_sheets_now : FnScope ["room"] ["room"] (defScope s_sheets_now) := ⟨rfl, rfl, rfl, by decide +kernel, rfl, by decide +kernel, by decide +kernel⟩
abbrev s_is_whole_room : Stmt := topS 56
theorem sc_is_whole_room : FnScope ["room", "book"] ["room"] (defScope s_is_whole_room) := ⟨rfl, rfl, rfl, by decide +kernel, rfl, by decide +kernel, by decide +kernel⟩
abbrev s_book : Stmt := topS 58
theorem sc_book : FnScope ["room", "row", "many", "one"] ["room", "row"] (defScope s_book) := ⟨rfl, rfl, rfl, by decide +kernel, rfl, by decide +kernel, by decide +kernel⟩
abbrev s_empty : Stmt := topS 59
theorem sc_empty : FnScope ["room", "desk", "row", "stretches", "last", "first", "end"] ["room", "desk", "row"] (defScope s_empty) := ⟨rfl, rfl, rfl, by decide +kernel, rfl, by decide +kernel, by decide +kernel⟩
abbrev s_order : Stmt := topS 60
theorem sc_order : FnScope ["room", "row", "number", "many"] ["room", "row"] (defScope s_order) := ⟨rfl, rfl, rfl, by decide +kernel, rfl, by decide +kernel, by decide +kernel⟩
abbrev s_ends : Stmt := topS 61
theorem sc_ends : FnScope ["room"] ["room"] (defScope s_ends) := ⟨rfl, rfl, rfl, by decide +kernel, rfl, by decide +kernel, by decide +kernel⟩
abbrev s_times : Stmt := topS 62
theorem sc_times : FnScope ["room", "found", "clocks"] ["room"] (defScope s_times) := ⟨rfl, rfl, rfl, by decide +kernel, rfl, by decide +kernel, by decide +kernel⟩
abbrev s_told : Stmt := topS 63
theorem sc_told : FnScope ["some"] ["some"] (defScope s_told) := ⟨rfl, rfl, rfl, by decide +kernel, rfl, by decide +kernel, by decide +kernel⟩
abbrev s_least : Stmt := topS 64
theorem sc_least : FnScope ["room", "start"] ["room"] (defScope s_least) := ⟨rfl, rfl, rfl, by decide +kernel, rfl, by decide +kernel, by decide +kernel⟩
abbrev s_left : Stmt := topS 65
theorem sc_left : FnScope ["room", "clocks"] ["room"] (defScope s_left) := ⟨rfl, rfl, rfl, by decide +kernel, rfl, by decide +kernel, by decide +kernel⟩
abbrev s_each_next : Stmt := topS 66
theorem sc_each_next : FnScope ["room", "taken", "found", "number", "one", "clocks"] ["room"] (defScope s_each_next) := ⟨rfl, rfl, rfl, by decide +kernel, rfl, by decide +kernel, by decide +kernel⟩
abbrev s_ask_never_empty : Stmt := topS 67
theorem sc_ask_never_empty : FnScope ["room"] ["room"] (defScope s_ask_never_empty) := ⟨rfl, rfl, rfl, by decide +kernel, rfl, by decide +kernel, by decide +kernel⟩
abbrev s_rule : Stmt := topS 68
theorem sc_rule : FnScope ["room", "numbers"] ["room"] (defScope s_rule) := ⟨rfl, rfl, rfl, by decide +kernel, rfl, by decide +kernel, by decide +kernel⟩
abbrev s_block : Stmt := topS 69
theorem sc_block : FnScope ["room", "number", "one"] ["room", "number"] (defScope s_block) := ⟨rfl, rfl, rfl, by decide +kernel, rfl, by decide +kernel, by decide +kernel⟩
abbrev s_hanging : Stmt := topS 70
theorem sc_hanging : FnScope ["room"] ["room"] (defScope s_hanging) := ⟨rfl, rfl, rfl, by decide +kernel, rfl, by decide +kernel, by decide +kernel⟩
abbrev s_ask_workings : Stmt := topS 71
theorem sc_ask_workings : FnScope ["slips", "row"] ["slips", "row"] (defScope s_ask_workings) := ⟨rfl, rfl, rfl, by decide +kernel, rfl, by decide +kernel, by decide +kernel⟩
abbrev s_judged : Stmt := topS 72
theorem sc_judged : FnScope ["slips", "row"] ["slips", "row"] (defScope s_judged) := ⟨rfl, rfl, rfl, by decide +kernel, rfl, by decide +kernel, by decide +kernel⟩
abbrev s_more_told : Stmt := topS 73
theorem sc_more_told : FnScope ["slips", "row"] ["slips", "row"] (defScope s_more_told) := ⟨rfl, rfl, rfl, by decide +kernel, rfl, by decide +kernel, by decide +kernel⟩
abbrev s_blocks : Stmt := topS 74
theorem sc_blocks : FnScope ["room", "row", "at", "number"] ["room", "row"] (defScope s_blocks) := ⟨rfl, rfl, rfl, by decide +kernel, rfl, by decide +kernel, by decide +kernel⟩
abbrev s_swap : Stmt := topS 75
theorem sc_swap : FnScope ["room", "place", "turned", "exchanged"] ["room", "place"] (defScope s_swap) := ⟨rfl, rfl, rfl, by decide +kernel, rfl, by decide +kernel, by decide +kernel⟩
abbrev s_books : Stmt := topS 76
theorem sc_books : FnScope ["room", "found", "one", "sheet"] ["room"] (defScope s_books) := ⟨rfl, rfl, rfl, by decide +kernel, rfl, by decide +kernel, by decide +kernel⟩
abbrev s_clear : Stmt := topS 77
theorem sc_clear : FnScope ["room"] ["room"] (defScope s_clear) := ⟨rfl, rfl, rfl, by decide +kernel, rfl, by decide +kernel, by decide +kernel⟩
abbrev s_of_order : Stmt := topS 78
theorem sc_of_order : FnScope ["room", "what"] ["room", "what"] (defScope s_of_order) := ⟨rfl, rfl, rfl, by decide +kernel, rfl, by decide +kernel, by decide +kernel⟩
abbrev s_of_room : Stmt := topS 79
theorem sc_of_room : FnScope ["room", "what", "some", "row"] ["room", "what", "some", "row"] (defScope s_of_room) := ⟨rfl, rfl, rfl, by decide +kernel, rfl, by decide +kernel, by decide +kernel⟩
abbrev s_answered : Stmt := topS 80
theorem sc_answered : FnScope ["room", "what", "some", "row", "e"] ["room", "what", "some", "row"] (defScope s_answered) := ⟨rfl, rfl, rfl, by decide +kernel, rfl, by decide +kernel, by decide +kernel⟩
abbrev s_row_at : Stmt := topS 81
theorem sc_row_at : FnScope ["calls", "what", "at", "end"] ["calls", "what", "at"] (defScope s_row_at) := ⟨rfl, rfl, rfl, by decide +kernel, rfl, by decide +kernel, by decide +kernel⟩
abbrev s_answers : Stmt := topS 82
theorem sc_answers : FnScope ["calls", "room", "found", "at", "what", "end", "some", "row", "answer"] ["calls"] (defScope s_answers) := ⟨rfl, rfl, rfl, by decide +kernel, rfl, by decide +kernel, by decide +kernel⟩
/-- what the top has laid -/
structure Txt (K : PySem.W.Frag) (mg : Str → Option Value) (A : Ad) : Prop where
  b_len : mg "len" = none
  b_sum : mg "sum" = none
  b_max : mg "max" = none
  b_sorted : mg "sorted" = none
  b_int : mg "int" = none
  b_list : mg "list" = none
  b_tuple : mg "tuple" = none
  b_range : mg "range" = none
  b_enumerate : mg "enumerate" = none
  b_zip : mg "zip" = none
  c_NOT_YET : ∃ t, mg "NOT_YET" = some (.int 0 t)
  c_SURE : ∃ t, mg "SURE" = some (.int 1 t)
  c_TOO_MANY : ∃ t, mg "TOO_MANY" = some (.int 2 t)
  c_RANGE : ∃ t, mg "RANGE" = some (.int (-1) t)
  c_FULL : ∃ t, mg "FULL" = some (.int (-3) t)
  c_TOO_OFTEN : ∃ t, mg "TOO_OFTEN" = some (.int (-4) t)
  c_NOTHING : ∃ t, mg "NOTHING" = some (.int (-5) t)
  c_HAS_EMPTY : ∃ t, mg "HAS_EMPTY" = some (.int (-7) t)
  c_MOST_BOOKS : ∃ t, mg "MOST_BOOKS" = some (.int 4 t)
  c_MOST_SHEETS : ∃ t, mg "MOST_SHEETS" = some (.int 12 t)
  c_MOST_TIME : ∃ t, mg "MOST_TIME" = some (.int 1000 t)
  c_MOST_MOMENT : ∃ t, mg "MOST_MOMENT" = some (.int 100000 t)
  c_MOST_STRETCHES : ∃ t, mg "MOST_STRETCHES" = some (.int 8 t)
  c_MOST_SLIPS : ∃ t, mg "MOST_SLIPS" = some (.int 10 t)
  c_MOST_WORKINGS : ∃ t, mg "MOST_WORKINGS" = some (.int 30 t)
  c_MOST_WORKED : ∃ t, mg "MOST_WORKED" = some (.int 1000000000 t)
  c_NONE_LEFT : ∃ t, mg "NONE_LEFT" = some (.int (-1) t)
  g_NEVER : mg "NEVER" = some (.ref A.never)
  g_NUMBERS : mg "NUMBERS" = some (.ref A.numbers)
  g_WITH_ROW : mg "WITH_ROW" = some (.ref A.withrow)
  k_never : ∃ p q, SqT K (fun _ => none) A.never [.ref p, .ref q] ∧ SqT K (fun _ => none) p [] ∧ SqT K (fun _ => none) q []
  k_numbers : SqT K (fun _ => none) A.numbers (([0, 1, 0, 0, 0, 0, 0, 0, 0, 0, 0, 0, 1, 0, 1, 1, 0, 1, 0, 0] : List Int).map V.int)
  k_withrow : SqT K (fun _ => none) A.withrow (([0, 1, 2, 14, 15, 16] : List Int).map V.int)
  cl : Cls K A.room
  n_books : NoAttr K A.room "books"
  n_empties : NoAttr K A.room "empties"
  n_order : NoAttr K A.room "order"
  g_Room : mg "Room" = some (.ref A.room)
  ref : PySem.RefX.RefTxt K mg A.refused A.fI
  te : PySem.W.exmOne K (.ref A.refused) (.ref A.refused) = some true
theorem pe_gint {X : Cx} {x : Str} {n : Int} {pos : Pos} (h : ∃ t, X.mg x = some (.int n t)) (hg : Gl X x := by rfl) (hd : (x == ("__debug__" : Str)) = false := by decide) : PE X (.Name x pos) (tC (.int n)) := by
  obtain ⟨t, h⟩ := h
  exact pe_glob hg h ⟨t, rfl⟩ hd
section
variable {P : Program} {w : World} {K : PySem.W.Frag} {mg : Str → Option Value} {base : Heap} {N : List Str} {qual : Str} {scope : Scope} {f : Addr} {cd : Value} {A : Around} {outer : List Env} {s : Shared} {H : Hp} {E : XK}
theorem takesX : Takes (cxOf (L2.CX P w) P w K mg base N qual scope f cd A outer s H E) (fun cls d _ H => E cls d H) := takes_of rfl rfl rfl rfl
theorem passX : Passes (L2.CX P w) (cxOf (L2.CX P w) P w K mg base N qual scope f cd A outer s H E) E := passes_call takesX (fun _ _ _ _ h => h)
theorem ownX : PassesOwn (model P w) (cxOf (L2.CX P w) P w K mg base N qual scope f cd A outer s H E).A (cxOf (L2.CX P w) P w K mg base N qual scope f cd A outer s H E).env (cxOf (L2.CX P w) P w K mg base N qual scope f cd A outer s H E).xe := passes_of rfl
end
/-- a class that is made -/
structure MkGo (P : Program) (w : World) (K : PySem.W.Frag) (mg : Str → Option Value) (base : Heap) (CX : CXT) (k : Nat) (C : Addr) (ps : List Str) (sp : Sp) : Prop where
  ex : ∃ (f : Addr) (fd : FuncData), Mk K C f ∧ Binds K fd ps [] ∧ FnOk P w K mg base CX k f fd ps sp
theorem pe_mkgo {X : Cx} {CX : CXT} {k : Nat} {C : Addr} {ps : List Str} {sp : Sp} {E : XK} {x : Str} {p pos : Pos} (G : MkGo X.prog X.w X.K X.mg X.base CX k C ps sp) (hr : Room (k + 1) X.A) (hm : X.mg x = some (.ref C)) (hx : Passes CX X E) (hg : Gl X x := by rfl) (hdb : (x == ("__debug__" : Str)) = false := by decide) :
    PE X (.Call (.Name x p) [] [] pos) (tMake C sp [] E tNil) := by
  obtain ⟨f, fd, h1, h2, h3⟩ := G.ex
  exact pe_make0 h1 h3 hr hg hm h2 .nil hx hdb
end Td
set_option Elab.async false
set_option linter.all false
set_option maxRecDepth 100000
set_option maxHeartbeats 4000000
/-! Two desks: the readings of the bodies (printed by gen.py, emit.py). -/
namespace Td
open PySem PySem.Spec PyProof.Rows L2
open Vbceah (Sheet Book Breaks State Clock Reach)
open TdM (Bks Fit Iv Ok Far Good)
def t_finished (K : PySem.W.Frag) (A : Ad) (E : XK) : TS :=
  (tSeq (tIfS (tTest (tOp rEq (tVar 2) (tC (.int 0)))) (tRet (tVar 1)) tNext)
  (tSeq (tAsg (tVar 1) (gName 3))
  (tSeq (tFor (iTup K (tVar 0)) (gTup K 2 (gCons (gName 4) (gCons (gName 5) gNil))) (tIfS (tTest (tOp oGt (tVar 5) (tVar 3))) (tSeq (tIfS (tTest (tOp oGt (tVar 4) (tVar 3))) (tSeq (tIfS (tTest (tOp oGe (tOp oSub (tVar 4) (tVar 3)) (tVar 2))) (tRet (tOp oAdd (tVar 3) (tVar 2))) tNext)
  (tAug 2 (tOp oSub (tVar 4) (tVar 3)) ipSub)) tNext)
  (tAsg (tVar 5) (gName 3))) tNext))
  (tRet (tOp oAdd (tVar 3) (tVar 2))))))
def t_sheets_of (K : PySem.W.Frag) (A : Ad) (E : XK) : TS :=
  (tSeq (tAsg (tOp rRep (tLst (tCons (tC (.int 0)) tNil)) (tCB (rLen K) (tCons (tVar 0) tNil))) (gName 2))
  (tSeq (tAsg (tLst tNil) (gName 3))
  (tSeq (tFor (iList K (tVar 1)) (gName 4) (tSeq (tDrop (tBM K "list" rAppend (tVar 3) (tCons (tOp (rIx K) (tOp (rIx K) (tVar 0) (tVar 4)) (tOp (rIx K) (tVar 2) (tVar 4))) tNil)))
  (tAugS (tVar 2) (tVar 4) (tC (.int 1)) (rGetL K) ipAdd rSetL)))
  (tRet (tVar 3)))))
def t_step (K : PySem.W.Frag) (A : Ad) (E : XK) : TS :=
  (tSeq (tAsg (tCall (sp_finished K A) [] E0 (tCons (tOp (rIx K) (tVar 0) (tC (.int 0))) (tCons (tOp (rIx K) (tVar 1) (tC (.int 0))) (tCons (tOp (rIx K) (tVar 2) (tC (.int 0))) tNil)))) (gName 3))
  (tRet (tTup (tCons (tVar 3) (tCons (tCall (sp_finished K A) [] E0 (tCons (tOp (rIx K) (tVar 0) (tC (.int 1))) (tCons (tCB rMax2 (tCons (tVar 3) (tCons (tOp (rIx K) (tVar 1) (tC (.int 1))) tNil))) (tCons (tOp (rIx K) (tVar 2) (tC (.int 1))) tNil)))) tNil)))))
def t_clocks_of (K : PySem.W.Frag) (A : Ad) (E : XK) : TS :=
  (tSeq (tAsg (tLst tNil) (gName 2))
  (tSeq (tAsg (tTup (tCons (tC (.int 0)) (tCons (tC (.int 0)) tNil))) (gName 3))
  (tSeq (tFor (iSeq K (tVar 1)) (gName 4) (tSeq (tAsg (tCall (sp_step K A) [] E0 (tCons (tVar 0) (tCons (tVar 3) (tCons (tVar 4) tNil)))) (gName 3))
  (tDrop (tBM K "list" rAppend (tVar 2) (tCons (tVar 3) tNil)))))
  (tRet (tVar 2)))))
def t_behind (K : PySem.W.Frag) (A : Ad) (E : XK) : TS :=
  (tSeq (tAsg (tOp rCat (tLst (tCons (tTup (tCons (tC (.int 0)) (tCons (tC (.int 0)) tNil))) tNil)) (tCall (sp_clocks_of K A) [] E0 (tCons (tVar 0) (tCons (tVar 1) tNil)))) (gName 2))
  (tRet (tOp (rIx K) (tVar 2) (tUn oNeg (tC (.int 1))))))
def t_waits (K : PySem.W.Frag) (A : Ad) (E : XK) : TS :=
  (tSeq (tAsg (tLst tNil) (gName 2))
  (tSeq (tAsg (tTup (tCons (tC (.int 0)) (tCons (tC (.int 0)) tNil))) (gName 3))
  (tSeq (tFor (iList K (tCall (sp_clocks_of K A) [] E0 (tCons (tVar 0) (tCons (tVar 1) tNil)))) (gName 4) (tSeq (tDrop (tBM K "list" rAppend (tVar 2) (tCons (tCB rMax2 (tCons (tC (.int 0)) (tCons (tOp oSub (tOp (rIx K) (tVar 4) (tC (.int 0))) (tOp (rIx K) (tVar 3) (tC (.int 1)))) tNil))) tNil)))
  (tAsg (tVar 4) (gName 3))))
  (tRet (tVar 2)))))
def t_three_numbers (K : PySem.W.Frag) (A : Ad) (E : XK) : TS :=
  (tRet (tTup (tCons (tCB (rSum K) (tCons (tLc (iTup K (tVar 0)) (gTup K 2 (gCons (gName 1) (gCons (gName 2) gNil))) tYes (tVar 1) [1, 2]) tNil)) (tCons (tCB (rSum K) (tCons (tLc (iTup K (tVar 0)) (gTup K 2 (gCons (gName 1) (gCons (gName 2) gNil))) tYes (tVar 2) [1, 2]) tNil)) (tCons (tOp (rIx K) (tCall (sp_behind K A) [] E0 (tCons (tC (.ref A.never)) (tCons (tVar 0) tNil))) (tC (.int 1))) tNil)))))
def t_lead_and_tail (K : PySem.W.Frag) (A : Ad) (E : XK) : TS :=
  (tSeq (tAsg (tCall (sp_three_numbers K A) [] E0 (tCons (tVar 0) tNil)) (gTup K 3 (gCons (gName 1) (gCons (gName 2) (gCons (gName 3) gNil)))))
  (tRet (tTup (tCons (tOp oSub (tVar 3) (tVar 2)) (tCons (tOp oSub (tVar 3) (tVar 1)) tNil)))))
def t_by_rule (K : PySem.W.Frag) (A : Ad) (E : XK) : TS :=
  (tSeq (tAsg (tLst tNil) (gName 1))
  (tSeq (tAsg (tLst tNil) (gName 2))
  (tSeq (tFor (iEnum K (tCons (tVar 0) tNil)) (gTup K 2 (gCons (gName 3) (gCons (gName 4) gNil))) (tSeq (tAsg (tCall (sp_lead_and_tail K A) [] E0 (tCons (tVar 4) tNil)) (gTup K 2 (gCons (gName 5) (gCons (gName 6) gNil))))
  (tIfS (tTest (tOp oLe (tVar 5) (tVar 6))) (tDrop (tBM K "list" rAppend (tVar 1) (tCons (tTup (tCons (tVar 5) (tCons (tVar 3) tNil))) tNil))) (tDrop (tBM K "list" rAppend (tVar 2) (tCons (tTup (tCons (tOp oSub (tC (.int 0)) (tVar 6)) (tCons (tVar 3) tNil))) tNil))))))
  (tRet (tLc (iList K (tOp rCat (tCB (rSortedPO K) (tCons (tVar 1) tNil)) (tCB (rSortedPO K) (tCons (tVar 2) tNil)))) (gTup K 2 (gCons (gName 7) (gCons (gName 3) gNil))) tYes (tVar 3) [7, 3])))))
def t_end_of (K : PySem.W.Frag) (A : Ad) (E : XK) : TS :=
  (tSeq (tAsg (tLst tNil) (gName 2))
  (tSeq (tFor (iList K (tVar 1)) (gName 3) (tAsg (tOp rCat (tVar 2) (tCB (rListOf K) (tCons (tOp (rIx K) (tVar 0) (tVar 3)) tNil))) (gName 2)))
  (tRet (tOp (rIx K) (tCall (sp_behind K A) [] E0 (tCons (tC (.ref A.never)) (tCons (tVar 2) tNil))) (tC (.int 1))))))
def t_critical (K : PySem.W.Frag) (A : Ad) (E : XK) : TS :=
  (tSeq (tAsg (tOp (rIx K) (tCall (sp_behind K A) [] E0 (tCons (tC (.ref A.never)) (tCons (tVar 0) tNil))) (tC (.int 1))) (gName 1))
  (tSeq (tFor (iRng1 (tCons (tCB (rLen K) (tCons (tVar 0) tNil)) tNil)) (gName 2) (tSeq (tAsg (tCB (rSum K) (tCons (tLc (iList K (tSl (rSlL K) (tVar 0) tNoPart (tPart (tOp oAdd (tVar 2) (tC (.int 1)))))) (gTup K 2 (gCons (gName 4) (gCons (gName 5) gNil))) tYes (tVar 4) [4, 5]) tNil)) (gName 3))
  (tIfS (tTest (tOp rEq (tOp oAdd (tVar 3) (tCB (rSum K) (tCons (tLc (iList K (tSl (rSlL K) (tVar 0) (tPart (tVar 2)) tNoPart)) (gTup K 2 (gCons (gName 4) (gCons (gName 5) gNil))) tYes (tVar 5) [4, 5]) tNil))) (tVar 1))) (tRet (tVar 2)) tNext)))
  (tRet (tC (.int 0)))))
def t_is_whole_searching (K : PySem.W.Frag) (A : Ad) (E : XK) : TS :=
  (tRet (tOp (rEqD K) (tLc (iZipLT K (tCons (tVar 0) (tCons (tVar 1) tNil))) (gTup K 2 (gCons (gName 2) (gCons (gName 3) gNil))) (tTest (tOp oLt (tVar 3) (tCB (rLen K) (tCons (tVar 2) tNil)))) (tC (.int 1)) [2, 3]) (tLst tNil)))
def t_more_of (K : PySem.W.Frag) (A : Ad) (E : XK) : TS :=
  (tRet (tLc (iRng1 (tCons (tCB (rLen K) (tCons (tVar 0) tNil)) tNil)) (gName 2) (tTest (tOp oLt (tOp (rIx K) (tVar 1) (tVar 2)) (tCB (rLen K) (tCons (tOp (rIx K) (tVar 0) (tVar 2)) tNil)))) (tVar 2) [2]))
def t_with_one (K : PySem.W.Frag) (A : Ad) (E : XK) : TS :=
  (tRet (tOp (rCatA K) (tOp (rCatA K) (tSl (rSlA K) (tVar 0) tNoPart (tPart (tVar 1))) (tTup (tCons (tOp oAdd (tOp (rIx K) (tVar 0) (tVar 1)) (tC (.int 1))) tNil))) (tSl (rSlA K) (tVar 0) (tPart (tOp oAdd (tVar 1) (tC (.int 1)))) tNoPart)))
def t_round_of (K : PySem.W.Frag) (A : Ad) (E : XK) : TS :=
  (tSeq (tAsg tDNewT (gName 3))
  (tSeq (tLock (tFor (iKeys (tVar 2)) (gName 4) (tFor (iList K (tCall (sp_more_of K A) [] E0 (tCons (tVar 0) (tCons (tVar 4) tNil)))) (gName 5) (tSeq (tAsg (tCall (sp_step K A) [] E0 (tCons (tVar 1) (tCons (tDGet (tVar 2) (tVar 4)) (tCons (tOp (rIx K) (tOp (rIx K) (tVar 0) (tVar 5)) (tOp (rIx K) (tVar 4) (tVar 5))) tNil)))) (gName 6))
  (tSeq (tAsg (tCall (sp_with_one K A) [] E0 (tCons (tVar 4) (tCons (tVar 5) tNil))) (gName 7))
  (tIfS (tOr (tB (tDNotIn (tVar 7) (tVar 3))) (tTest (tOp (rLtT K) (tVar 6) (tDGet (tVar 3) (tVar 7))))) (sDPut (tVar 3) (tVar 7) (tVar 6)) tNext))))))
  (tRet (tVar 3))))
def t_least_from (K : PySem.W.Frag) (A : Ad) (E : XK) : TS :=
  (tSeq (tAsg tDNewT (gName 4))
  (tSeq (sDPut (tVar 4) (tVar 2) (tVar 3))
  (tSeq (tWhile (tNot (tB (tCall (sp_is_whole_searching K A) [] E0 (tCons (tVar 0) (tCons (tOp (rIx K) (tCB rListK (tCons (tVar 4) tNil)) (tC (.int 0))) tNil))))) (tAsg (tCall (sp_round_of K A) [] E0 (tCons (tVar 0) (tCons (tVar 1) (tCons (tVar 4) tNil)))) (gName 4)))
  (tRet (tOp (rIx K) (tDGet (tVar 4) (tOp (rIx K) (tCB rListK (tCons (tVar 4) tNil)) (tC (.int 0)))) (tC (.int 1)))))))
def t_best_from (K : PySem.W.Frag) (A : Ad) (E : XK) : TS :=
  (tSeq (tAsg (tOp (rRep1 K) (tTup (tCons (tC (.int 0)) tNil)) (tCB (rLen K) (tCons (tVar 0) tNil))) (gName 2))
  (tSeq (tAsg (tTup (tCons (tC (.int 0)) (tCons (tC (.int 0)) tNil))) (gName 3))
  (tSeq (tAsg (tCall (sp_least_from K A) [] E0 (tCons (tVar 0) (tCons (tVar 1) (tCons (tVar 2) (tCons (tVar 3) tNil))))) (gName 4))
  (tSeq (tAsg (tLst tNil) (gName 5))
  (tSeq (tWhile (tNot (tB (tCall (sp_is_whole_searching K A) [] E0 (tCons (tVar 0) (tCons (tVar 2) tNil))))) (tSeq (tAsg (tCall (sp_first_with K A) [] E0 (tCons (tVar 0) (tCons (tVar 1) (tCons (tVar 2) (tCons (tVar 3) (tCons (tVar 4) tNil)))))) (gName 6))
  (tSeq (tAsg (tCall (sp_step K A) [] E0 (tCons (tVar 1) (tCons (tVar 3) (tCons (tOp (rIx K) (tOp (rIx K) (tVar 0) (tVar 6)) (tOp (rIx K) (tVar 2) (tVar 6))) tNil)))) (gName 3))
  (tSeq (tAsg (tCall (sp_with_one K A) [] E0 (tCons (tVar 2) (tCons (tVar 6) tNil))) (gName 2))
  (tDrop (tBM K "list" rAppend (tVar 5) (tCons (tVar 6) tNil)))))))
  (tRet (tVar 5)))))))
def t_first_with (K : PySem.W.Frag) (A : Ad) (E : XK) : TS :=
  (tSeq (tFor (iList K (tCall (sp_more_of K A) [] E0 (tCons (tVar 0) (tCons (tVar 2) tNil)))) (gName 5) (tSeq (tAsg (tCall (sp_step K A) [] E0 (tCons (tVar 1) (tCons (tVar 3) (tCons (tOp (rIx K) (tOp (rIx K) (tVar 0) (tVar 5)) (tOp (rIx K) (tVar 2) (tVar 5))) tNil)))) (gName 6))
  (tIfS (tTest (tOp rEq (tCall (sp_least_from K A) [] E0 (tCons (tVar 0) (tCons (tVar 1) (tCons (tCall (sp_with_one K A) [] E0 (tCons (tVar 2) (tCons (tVar 5) tNil))) (tCons (tVar 6) tNil))))) (tVar 4))) (tRet (tVar 5)) tNext)))
  (tRet (tC (.int 0))))
def t_how_many (K : PySem.W.Frag) (A : Ad) (E : XK) : TS :=
  (tSeq (tAsg (tC (.int 1)) (gName 1))
  (tSeq (tAsg (tC (.int 0)) (gName 2))
  (tSeq (tFor (iList K (tVar 0)) (gName 3) (tFor (iRng1 (tCons (tCB (rLen K) (tCons (tVar 3) tNil)) tNil)) (gName 4) (tSeq (tAug 2 (tC (.int 1)) ipAdd)
  (tAsg (tOp oDiv (tOp oMul (tVar 1) (tVar 2)) (tOp oAdd (tVar 4) (tC (.int 1)))) (gName 1)))))
  (tRet (tVar 1)))))
def t_each_once (K : PySem.W.Frag) (A : Ad) (E : XK) : TS :=
  (tRet (tLc (iEnum K (tCons (tVar 0) tNil)) (gTup K 2 (gCons (gName 1) (gCons (gName 2) gNil))) (tTest (tOp (rIn K true) (tVar 2) (tSl (rSlL K) (tVar 0) tNoPart (tPart (tVar 1))))) (tVar 2) [1, 2]))
def t_judge (K : PySem.W.Frag) (A : Ad) (E : XK) : TS :=
  (tSeq (tAsg (tLc (iList K (tCall (sp_each_once K A) [] E0 (tCons (tVar 1) tNil))) (gName 5) (tTest (tOp oLe (tOp oSub (tCB (rLen K) (tCons (tVar 1) tNil)) (tBM K "list" (rCntI K) (tVar 1) (tCons (tVar 5) tNil))) (tVar 0))) (tVar 5) [5]) (gName 2))
  (tSeq (tAsg (tOp oLe (tCB (rLen K) (tCons (tVar 1) tNil)) (tVar 0)) (gName 3))
  (tSeq (tAsg (tC (.int 0)) (gName 4))
  (tSeq (tIfS (tB (tVar 3)) (tRet (tOp rCat (tLst (tCons (tVar 4) (tCons (tC (.int 1)) (tCons (tCB (rLen K) (tCons (tVar 2) tNil)) tNil)))) (tVar 2))) tNext)
  (tSeq (tIfS (tTest (tOp rEq (tCB (rLen K) (tCons (tVar 2) tNil)) (tC (.int 1)))) (tAsg (tC (.int 1)) (gName 4)) tNext)
  (tSeq (tIfS (tTest (tOp (rEqD K) (tVar 2) (tLst tNil))) (tAsg (tC (.int 2)) (gName 4)) tNext)
  (tRet (tOp rCat (tLst (tCons (tVar 4) (tCons (tC (.int 0)) (tCons (tCB (rLen K) (tCons (tVar 2) tNil)) tNil)))) (tVar 2)))))))))
def t_least_two (K : PySem.W.Frag) (A : Ad) (E : XK) : TS :=
  (tSeq (tAsg (tOp rCat (tLc (iList K (tCall (sp_each_once K A) [] E0 (tCons (tVar 0) tNil))) (gName 2) tYes (tOp oSub (tCB (rLen K) (tCons (tVar 0) tNil)) (tBM K "list" (rCntI K) (tVar 0) (tCons (tVar 2) tNil))) [2]) (tLst (tCons (tCB (rLen K) (tCons (tVar 0) tNil)) (tCons (tCB (rLen K) (tCons (tVar 0) tNil)) tNil)))) (gName 1))
  (tRet (tSl (rSlL K) (tCB (rSortedI K) (tCons (tVar 1) tNil)) tNoPart (tPart (tC (.int 2))))))
def t_more (K : PySem.W.Frag) (A : Ad) (E : XK) : TS :=
  (tSeq (tAsg (tCall (sp_least_two K A) [] E0 (tCons (tVar 1) tNil)) (gUnl K 2 (gCons (gName 2) (gCons (gName 3) gNil))))
  (tSeq (tIfS (tTest (tOp oGt (tVar 2) (tVar 0))) (tRet (tLst (tCons (tC (.int 0)) tNil))) tNext)
  (tSeq (tIfS (tTest (tOp oGt (tVar 3) (tVar 0))) (tRet (tLst (tCons (tC (.int 1)) (tCons (tC (.int 0)) (tCons (tC (.int 0)) tNil))))) tNext)
  (tRet (tLst (tCons (tC (.int 1)) (tCons (tOp oSub (tOp oAdd (tVar 0) (tC (.int 1))) (tVar 3)) (tCons (tOp oAdd (tOp oSub (tOp oSub (tOp oMul (tC (.int 2)) (tVar 0)) (tVar 2)) (tVar 3)) (tC (.int 1))) tNil))))))))
def t_ask (K : PySem.W.Frag) (A : Ad) (E : XK) : TS :=
  (tIfS (tNot (tB (tVar 0))) (tRaiseRef A.refused (fun cls d _ H => E cls d H) (tCons (tVar 1) tNil)) tNext)
def t_Room_init (K : PySem.W.Frag) (A : Ad) (E : XK) : TS :=
  (tSeq (sFld K (tVar 0) (tLst tNil) "books")
  (tSeq (sFld K (tVar 0) (tLst (tCons (tTup tNil) (tCons (tTup tNil) tNil))) "empties")
  (sFld K (tVar 0) (tLst tNil) "order")))
def t_Room_add_book (K : PySem.W.Frag) (A : Ad) (E : XK) : TS :=
  (tDrop (tBM K "list" rAppend (tFld K (tVar 0) "books") (tCons (tVar 1) tNil)))
def t_Room_set_empty (K : PySem.W.Frag) (A : Ad) (E : XK) : TS :=
  (tAsg (tVar 2) (gSub (tFld K (tVar 0) "empties") (tVar 1) rSetL))
def t_Room_set_order (K : PySem.W.Frag) (A : Ad) (E : XK) : TS :=
  (sFld K (tVar 0) (tVar 1) "order")
def t_Room_clear (K : PySem.W.Frag) (A : Ad) (E : XK) : TS :=
  (tSeq (sFld K (tVar 0) (tLst tNil) "books")
  (tSeq (sFld K (tVar 0) (tLst (tCons (tTup tNil) (tCons (tTup tNil) tNil))) "empties")
  (sFld K (tVar 0) (tLst tNil) "order")))
def t_ask_all (K : PySem.W.Frag) (A : Ad) (E : XK) : TS :=
  (tFor (iList K (tVar 0)) (gName 3) (tDrop (tCall (sp_ask K A) [] E (tCons (tChain oLe oLe (tVar 1) (tVar 3) (tVar 2)) (tCons (tC (.int (-1))) tNil)))))
def t_taken_by (K : PySem.W.Frag) (A : Ad) (E : XK) : TS :=
  (tRet (tCB (rTupOf K) (tCons (tLc (iRng1 (tCons (tCB (rLen K) (tCons (tFld K (tVar 0) "books") tNil)) tNil)) (gName 2) tYes (tBM K "list" (rCntI K) (tVar 1) (tCons (tVar 2) tNil)) [2]) tNil)))
def t_twos (K : PySem.W.Frag) (A : Ad) (E : XK) : TS :=
  (tRet (tCB (rTupOf K) (tCons (tLc (iRng3 (tCons (tC (.int 0)) (tCons (tCB (rLen K) (tCons (tVar 0) tNil)) (tCons (tC (.int 2)) tNil)))) (gName 1) tYes (tTup (tCons (tOp (rIx K) (tVar 0) (tVar 1)) (tCons (tOp (rIx K) (tVar 0) (tOp oAdd (tVar 1) (tC (.int 1)))) tNil))) [1]) tNil)))
def t_sheets_now (K : PySem.W.Frag) (A : Ad) (E : XK) : TS :=
  (tRet (tCall (sp_sheets_of K A) [] E0 (tCons (tFld K (tVar 0) "books") (tCons (tFld K (tVar 0) "order") tNil))))
def t_is_whole_room (K : PySem.W.Frag) (A : Ad) (E : XK) : TS :=
  (tRet (tOp rEq (tCB (rLen K) (tCons (tFld K (tVar 0) "order") tNil)) (tCB (rSum K) (tCons (tLc (iList K (tFld K (tVar 0) "books")) (gName 1) tYes (tCB (rLen K) (tCons (tVar 1) tNil)) [1]) tNil))))
def t_book (K : PySem.W.Frag) (A : Ad) (E : XK) : TS :=
  (tSeq (tDrop (tCall (sp_ask K A) [] E (tCons (tAndV (tChain oLe oLe (tC (.int 2)) (tCB (rLen K) (tCons (tVar 1) tNil)) (tOp oMul (tC (.int 2)) (tC (.int 6)))) (tOp rEq (tOp oMod (tCB (rLen K) (tCons (tVar 1) tNil)) (tC (.int 2))) (tC (.int 0)))) (tCons (tC (.int (-1))) tNil))))
  (tSeq (tDrop (tCall (sp_ask_all K A) [] E (tCons (tVar 1) (tCons (tC (.int 0)) (tCons (tC (.int 1000)) tNil)))))
  (tSeq (tAsg (tCB (rSum K) (tCons (tLc (iList K (tFld K (tVar 0) "books")) (gName 3) tYes (tCB (rLen K) (tCons (tVar 3) tNil)) [3]) tNil)) (gName 2))
  (tSeq (tDrop (tCall (sp_ask K A) [] E (tCons (tAndV (tOp oLt (tCB (rLen K) (tCons (tFld K (tVar 0) "books") tNil)) (tC (.int 4))) (tOp oLe (tOp oAdd (tVar 2) (tOp oDiv (tCB (rLen K) (tCons (tVar 1) tNil)) (tC (.int 2)))) (tC (.int 12)))) (tCons (tC (.int (-3))) tNil))))
  (tSeq (tDrop (tMeth A.room "add_book" (sp_Room_add_book K A) [] E0 (tVar 0) (tCons (tCall (sp_twos K A) [] E0 (tCons (tVar 1) tNil)) tNil)))
  (tRet (tLst (tCons (tOp oSub (tCB (rLen K) (tCons (tFld K (tVar 0) "books") tNil)) (tC (.int 1))) tNil))))))))
def t_empty (K : PySem.W.Frag) (A : Ad) (E : XK) : TS :=
  (tSeq (tDrop (tCall (sp_ask_all K A) [] E (tCons (tLst (tCons (tVar 1) tNil)) (tCons (tC (.int 1)) (tCons (tC (.int 2)) tNil)))))
  (tSeq (tDrop (tCall (sp_ask K A) [] E (tCons (tAndV (tOp oLe (tCB (rLen K) (tCons (tVar 2) tNil)) (tC (.int 8))) (tOp rEq (tOp oMod (tCB (rLen K) (tCons (tVar 2) tNil)) (tC (.int 2))) (tC (.int 0)))) (tCons (tC (.int (-1))) tNil))))
  (tSeq (tDrop (tCall (sp_ask_all K A) [] E (tCons (tVar 2) (tCons (tC (.int 0)) (tCons (tC (.int 100000)) tNil)))))
  (tSeq (tAsg (tCall (sp_twos K A) [] E0 (tCons (tVar 2) tNil)) (gName 3))
  (tSeq (tAsg (tC (.int 0)) (gName 4))
  (tSeq (tFor (iTup K (tVar 3)) (gTup K 2 (gCons (gName 5) (gCons (gName 6) gNil))) (tSeq (tDrop (tCall (sp_ask K A) [] E (tCons (tChain oLe oLt (tVar 4) (tVar 5) (tVar 6)) (tCons (tC (.int (-1))) tNil))))
  (tAsg (tVar 6) (gName 4))))
  (tSeq (tDrop (tMeth A.room "set_empty" (sp_Room_set_empty K A) [] E0 (tVar 0) (tCons (tOp oSub (tVar 1) (tC (.int 1))) (tCons (tVar 3) tNil))))
  (tRet (tLst (tCons (tCB (rLen K) (tCons (tVar 3) tNil)) tNil))))))))))
def t_order (K : PySem.W.Frag) (A : Ad) (E : XK) : TS :=
  (tSeq (tDrop (tCall (sp_ask K A) [] E (tCons (tOp oLe (tCB (rLen K) (tCons (tVar 1) tNil)) (tC (.int 12))) (tCons (tC (.int (-1))) tNil))))
  (tSeq (tDrop (tCall (sp_ask_all K A) [] E (tCons (tVar 1) (tCons (tC (.int 0)) (tCons (tOp oSub (tCB (rLen K) (tCons (tFld K (tVar 0) "books") tNil)) (tC (.int 1))) tNil)))))
  (tSeq (tFor (iEnT K (tCons (tCall (sp_taken_by K A) [] E0 (tCons (tVar 0) (tCons (tVar 1) tNil))) tNil)) (gTup K 2 (gCons (gName 2) (gCons (gName 3) gNil))) (tDrop (tCall (sp_ask K A) [] E (tCons (tOp oLe (tVar 3) (tCB (rLen K) (tCons (tOp (rIx K) (tFld K (tVar 0) "books") (tVar 2)) tNil))) (tCons (tC (.int (-4))) tNil)))))
  (tSeq (tDrop (tMeth A.room "set_order" (sp_Room_set_order K A) [] E0 (tVar 0) (tCons (tVar 1) tNil)))
  (tRet (tLst (tCons (tCB rIntB (tCons (tCall (sp_is_whole_room K A) [] E0 (tCons (tVar 0) tNil)) tNil)) tNil)))))))
def t_ends (K : PySem.W.Frag) (A : Ad) (E : XK) : TS :=
  (tRet (tOp rCat (tCB (rListOf K) (tCons (tCall (sp_behind K A) [] E0 (tCons (tFld K (tVar 0) "empties") (tCons (tCall (sp_sheets_now K A) [] E0 (tCons (tVar 0) tNil)) tNil))) tNil)) (tLst (tCons (tCB rIntB (tCons (tCall (sp_is_whole_room K A) [] E0 (tCons (tVar 0) tNil)) tNil)) tNil))))
def t_times (K : PySem.W.Frag) (A : Ad) (E : XK) : TS :=
  (tSeq (tAsg (tLst (tCons (tCB (rLen K) (tCons (tFld K (tVar 0) "order") tNil)) tNil)) (gName 1))
  (tSeq (tFor (iList K (tCall (sp_clocks_of K A) [] E0 (tCons (tFld K (tVar 0) "empties") (tCons (tCall (sp_sheets_now K A) [] E0 (tCons (tVar 0) tNil)) tNil)))) (gName 2) (tAsg (tOp rCat (tVar 1) (tCB (rListOf K) (tCons (tVar 2) tNil))) (gName 1)))
  (tRet (tVar 1))))
def t_told (K : PySem.W.Frag) (A : Ad) (E : XK) : TS :=
  (tRet (tOp rCat (tLst (tCons (tCB (rLen K) (tCons (tVar 0) tNil)) tNil)) (tCB (rListOf K) (tCons (tVar 0) tNil))))
def t_least (K : PySem.W.Frag) (A : Ad) (E : XK) : TS :=
  (tSeq (tAsg (tOp (rRep1 K) (tTup (tCons (tC (.int 0)) tNil)) (tCB (rLen K) (tCons (tFld K (tVar 0) "books") tNil))) (gName 1))
  (tRet (tLst (tCons (tCall (sp_least_from K A) [] E0 (tCons (tFld K (tVar 0) "books") (tCons (tFld K (tVar 0) "empties") (tCons (tVar 1) (tCons (tTup (tCons (tC (.int 0)) (tCons (tC (.int 0)) tNil))) tNil))))) (tCons (tCall (sp_how_many K A) [] E0 (tCons (tFld K (tVar 0) "books") tNil)) tNil)))))
def t_left (K : PySem.W.Frag) (A : Ad) (E : XK) : TS :=
  (tSeq (tAsg (tCall (sp_behind K A) [] E0 (tCons (tFld K (tVar 0) "empties") (tCons (tCall (sp_sheets_now K A) [] E0 (tCons (tVar 0) tNil)) tNil))) (gName 1))
  (tRet (tLst (tCons (tCall (sp_least_from K A) [] E0 (tCons (tFld K (tVar 0) "books") (tCons (tFld K (tVar 0) "empties") (tCons (tCall (sp_taken_by K A) [] E0 (tCons (tVar 0) (tCons (tFld K (tVar 0) "order") tNil))) (tCons (tVar 1) tNil))))) tNil))))
def t_each_next (K : PySem.W.Frag) (A : Ad) (E : XK) : TS :=
  (tSeq (tAsg (tCall (sp_taken_by K A) [] E0 (tCons (tVar 0) (tCons (tFld K (tVar 0) "order") tNil))) (gName 1))
  (tSeq (tAsg (tLst (tCons (tCB (rLen K) (tCons (tFld K (tVar 0) "books") tNil)) tNil)) (gName 2))
  (tSeq (tFor (iEnum K (tCons (tFld K (tVar 0) "books") tNil)) (gTup K 2 (gCons (gName 3) (gCons (gName 4) gNil))) (tIfS (tTest (tOp rEq (tOp (rIx K) (tVar 1) (tVar 3)) (tCB (rLen K) (tCons (tVar 4) tNil)))) (tDrop (tBM K "list" rAppend (tVar 2) (tCons (tC (.int (-1))) tNil))) (tSeq (tAsg (tCall (sp_behind K A) [] E0 (tCons (tFld K (tVar 0) "empties") (tCons (tCall (sp_sheets_of K A) [] E0 (tCons (tFld K (tVar 0) "books") (tCons (tOp rCat (tFld K (tVar 0) "order") (tLst (tCons (tVar 3) tNil))) tNil))) tNil))) (gName 5))
  (tDrop (tBM K "list" rAppend (tVar 2) (tCons (tCall (sp_least_from K A) [] E0 (tCons (tFld K (tVar 0) "books") (tCons (tFld K (tVar 0) "empties") (tCons (tCall (sp_with_one K A) [] E0 (tCons (tVar 1) (tCons (tVar 3) tNil))) (tCons (tVar 5) tNil))))) tNil))))))
  (tRet (tVar 2)))))
def t_ask_never_empty (K : PySem.W.Frag) (A : Ad) (E : XK) : TS :=
  (tDrop (tCall (sp_ask K A) [] E (tCons (tOp (rEqD K) (tFld K (tVar 0) "empties") (tLst (tCons (tTup tNil) (tCons (tTup tNil) tNil)))) (tCons (tC (.int (-7))) tNil))))
def t_rule (K : PySem.W.Frag) (A : Ad) (E : XK) : TS :=
  (tSeq (tDrop (tCall (sp_ask_never_empty K A) [] E (tCons (tVar 0) tNil)))
  (tSeq (tAsg (tCall (sp_by_rule K A) [] E0 (tCons (tFld K (tVar 0) "books") tNil)) (gName 1))
  (tRet (tOp rCat (tCall (sp_told K A) [] E0 (tCons (tVar 1) tNil)) (tLst (tCons (tCall (sp_end_of K A) [] E0 (tCons (tFld K (tVar 0) "books") (tCons (tVar 1) tNil))) tNil))))))
def t_block (K : PySem.W.Frag) (A : Ad) (E : XK) : TS :=
  (tSeq (tDrop (tCall (sp_ask_all K A) [] E (tCons (tLst (tCons (tVar 1) tNil)) (tCons (tC (.int 0)) (tCons (tOp oSub (tCB (rLen K) (tCons (tFld K (tVar 0) "books") tNil)) (tC (.int 1))) tNil)))))
  (tSeq (tAsg (tOp (rIx K) (tFld K (tVar 0) "books") (tVar 1)) (gName 2))
  (tRet (tOp rCat (tCB (rListOf K) (tCons (tCall (sp_three_numbers K A) [] E0 (tCons (tVar 2) tNil)) tNil)) (tCB (rListOf K) (tCons (tCall (sp_lead_and_tail K A) [] E0 (tCons (tVar 2) tNil)) tNil))))))
def t_hanging (K : PySem.W.Frag) (A : Ad) (E : XK) : TS :=
  (tSeq (tDrop (tCall (sp_ask_never_empty K A) [] E (tCons (tVar 0) tNil)))
  (tSeq (tDrop (tCall (sp_ask K A) [] E (tCons (tOp (rNeD K) (tFld K (tVar 0) "order") (tLst tNil)) (tCons (tC (.int (-5))) tNil))))
  (tRet (tLst (tCons (tCall (sp_critical K A) [] E0 (tCons (tCall (sp_sheets_now K A) [] E0 (tCons (tVar 0) tNil)) tNil)) tNil)))))
def t_ask_workings (K : PySem.W.Frag) (A : Ad) (E : XK) : TS :=
  (tSeq (tDrop (tCall (sp_ask_all K A) [] E (tCons (tLst (tCons (tVar 0) tNil)) (tCons (tC (.int 0)) (tCons (tC (.int 10)) tNil)))))
  (tSeq (tDrop (tCall (sp_ask K A) [] E (tCons (tOp oLe (tCB (rLen K) (tCons (tVar 1) tNil)) (tC (.int 30))) (tCons (tC (.int (-1))) tNil))))
  (tDrop (tCall (sp_ask_all K A) [] E (tCons (tVar 1) (tCons (tOp oSub (tC (.int 0)) (tC (.int 1000000000))) (tCons (tC (.int 1000000000)) tNil)))))))
def t_judged (K : PySem.W.Frag) (A : Ad) (E : XK) : TS :=
  (tSeq (tDrop (tCall (sp_ask_workings K A) [] E (tCons (tVar 0) (tCons (tVar 1) tNil))))
  (tRet (tCall (sp_judge K A) [] E0 (tCons (tVar 0) (tCons (tVar 1) tNil)))))
def t_more_told (K : PySem.W.Frag) (A : Ad) (E : XK) : TS :=
  (tSeq (tDrop (tCall (sp_ask_workings K A) [] E (tCons (tVar 0) (tCons (tVar 1) tNil))))
  (tRet (tCall (sp_more K A) [] E0 (tCons (tVar 0) (tCons (tVar 1) tNil)))))
def t_blocks (K : PySem.W.Frag) (A : Ad) (E : XK) : TS :=
  (tSeq (tDrop (tCall (sp_ask_all K A) [] E (tCons (tVar 1) (tCons (tC (.int 0)) (tCons (tOp oSub (tCB (rLen K) (tCons (tFld K (tVar 0) "books") tNil)) (tC (.int 1))) tNil)))))
  (tSeq (tDrop (tCall (sp_ask K A) [] E (tCons (tOp (rEqD K) (tLc (iEnum K (tCons (tVar 1) tNil)) (gTup K 2 (gCons (gName 2) (gCons (gName 3) gNil))) (tTest (tOp (rIn K false) (tVar 3) (tSl (rSlL K) (tVar 1) tNoPart (tPart (tVar 2))))) (tVar 3) [2, 3]) (tLst tNil)) (tCons (tC (.int (-1))) tNil))))
  (tSeq (tDrop (tCall (sp_ask_never_empty K A) [] E (tCons (tVar 0) tNil)))
  (tRet (tLst (tCons (tCall (sp_end_of K A) [] E0 (tCons (tFld K (tVar 0) "books") (tCons (tVar 1) tNil))) tNil))))))
def t_swap (K : PySem.W.Frag) (A : Ad) (E : XK) : TS :=
  (tSeq (tDrop (tCall (sp_ask_all K A) [] E (tCons (tLst (tCons (tVar 1) tNil)) (tCons (tC (.int 0)) (tCons (tOp oSub (tCB (rLen K) (tCons (tFld K (tVar 0) "order") tNil)) (tC (.int 2))) tNil)))))
  (tSeq (tAsg (tRevL K (tSl (rSlL K) (tFld K (tVar 0) "order") (tPart (tVar 1)) (tPart (tOp oAdd (tVar 1) (tC (.int 2)))))) (gName 2))
  (tSeq (tAsg (tOp rCat (tOp rCat (tSl (rSlL K) (tFld K (tVar 0) "order") tNoPart (tPart (tVar 1))) (tVar 2)) (tSl (rSlL K) (tFld K (tVar 0) "order") (tPart (tOp oAdd (tVar 1) (tC (.int 2)))) tNoPart)) (gName 3))
  (tRet (tCB (rListOf K) (tCons (tCall (sp_behind K A) [] E0 (tCons (tFld K (tVar 0) "empties") (tCons (tCall (sp_sheets_of K A) [] E0 (tCons (tFld K (tVar 0) "books") (tCons (tVar 3) tNil))) tNil))) tNil))))))
def t_books (K : PySem.W.Frag) (A : Ad) (E : XK) : TS :=
  (tSeq (tAsg (tLst (tCons (tCB (rLen K) (tCons (tFld K (tVar 0) "books") tNil)) tNil)) (gName 1))
  (tSeq (tFor (iList K (tFld K (tVar 0) "books")) (gName 2) (tSeq (tDrop (tBM K "list" rAppend (tVar 1) (tCons (tCB (rLen K) (tCons (tVar 2) tNil)) tNil)))
  (tFor (iTup K (tVar 2)) (gName 3) (tAsg (tOp rCat (tVar 1) (tCB (rListOf K) (tCons (tVar 3) tNil))) (gName 1)))))
  (tRet (tVar 1))))
def t_clear (K : PySem.W.Frag) (A : Ad) (E : XK) : TS :=
  (tSeq (tDrop (tMeth A.room "clear" (sp_Room_clear K A) [] E0 (tVar 0) tNil))
  (tRet (tLst (tCons (tC (.int 0)) tNil))))
def t_of_order (K : PySem.W.Frag) (A : Ad) (E : XK) : TS :=
  (tSeq (tIfS (tTest (tOp rEq (tVar 1) (tC (.int 3)))) (tRet (tCall (sp_told K A) [] E0 (tCons (tFld K (tVar 0) "order") tNil))) tNext)
  (tSeq (tIfS (tTest (tOp rEq (tVar 1) (tC (.int 4)))) (tRet (tCall (sp_ends K A) [] E0 (tCons (tVar 0) tNil))) tNext)
  (tSeq (tIfS (tTest (tOp rEq (tVar 1) (tC (.int 5)))) (tRet (tCall (sp_times K A) [] E0 (tCons (tVar 0) tNil))) tNext)
  (tSeq (tIfS (tTest (tOp rEq (tVar 1) (tC (.int 6)))) (tRet (tCall (sp_told K A) [] E0 (tCons (tCall (sp_waits K A) [] E0 (tCons (tFld K (tVar 0) "empties") (tCons (tCall (sp_sheets_now K A) [] E0 (tCons (tVar 0) tNil)) tNil))) tNil))) tNext)
  (tSeq (tIfS (tTest (tOp rEq (tVar 1) (tC (.int 7)))) (tRet (tCall (sp_least K A) [] E0 (tCons (tVar 0) tNil))) tNext)
  (tSeq (tIfS (tTest (tOp rEq (tVar 1) (tC (.int 8)))) (tRet (tCall (sp_told K A) [] E0 (tCons (tCall (sp_best_from K A) [] E0 (tCons (tFld K (tVar 0) "books") (tCons (tFld K (tVar 0) "empties") tNil))) tNil))) tNext)
  (tSeq (tIfS (tTest (tOp rEq (tVar 1) (tC (.int 9)))) (tRet (tCall (sp_left K A) [] E0 (tCons (tVar 0) tNil))) tNext)
  (tRet (tCall (sp_each_next K A) [] E0 (tCons (tVar 0) tNil))))))))))
def t_of_room (K : PySem.W.Frag) (A : Ad) (E : XK) : TS :=
  (tSeq (tIfS (tTest (tOp rEq (tVar 1) (tC (.int 0)))) (tRet (tCall (sp_book K A) [] E (tCons (tVar 0) (tCons (tVar 3) tNil)))) tNext)
  (tSeq (tIfS (tTest (tOp rEq (tVar 1) (tC (.int 1)))) (tRet (tCall (sp_empty K A) [] E (tCons (tVar 0) (tCons (tOp (rIx K) (tVar 2) (tC (.int 0))) (tCons (tVar 3) tNil))))) tNext)
  (tSeq (tIfS (tTest (tOp rEq (tVar 1) (tC (.int 2)))) (tRet (tCall (sp_order K A) [] E (tCons (tVar 0) (tCons (tVar 3) tNil)))) tNext)
  (tSeq (tIfS (tTest (tOp rEq (tVar 1) (tC (.int 11)))) (tRet (tCall (sp_rule K A) [] E (tCons (tVar 0) tNil))) tNext)
  (tSeq (tIfS (tTest (tOp rEq (tVar 1) (tC (.int 12)))) (tRet (tCall (sp_block K A) [] E (tCons (tVar 0) (tCons (tOp (rIx K) (tVar 2) (tC (.int 0))) tNil)))) tNext)
  (tSeq (tIfS (tTest (tOp rEq (tVar 1) (tC (.int 13)))) (tRet (tCall (sp_hanging K A) [] E (tCons (tVar 0) tNil))) tNext)
  (tSeq (tIfS (tTest (tOp rEq (tVar 1) (tC (.int 14)))) (tRet (tCall (sp_judged K A) [] E (tCons (tOp (rIx K) (tVar 2) (tC (.int 0))) (tCons (tVar 3) tNil)))) tNext)
  (tSeq (tIfS (tTest (tOp rEq (tVar 1) (tC (.int 15)))) (tRet (tCall (sp_more_told K A) [] E (tCons (tOp (rIx K) (tVar 2) (tC (.int 0))) (tCons (tVar 3) tNil)))) tNext)
  (tSeq (tIfS (tTest (tOp rEq (tVar 1) (tC (.int 16)))) (tRet (tCall (sp_blocks K A) [] E (tCons (tVar 0) (tCons (tVar 3) tNil)))) tNext)
  (tSeq (tIfS (tTest (tOp rEq (tVar 1) (tC (.int 17)))) (tRet (tCall (sp_swap K A) [] E (tCons (tVar 0) (tCons (tOp (rIx K) (tVar 2) (tC (.int 0))) tNil)))) tNext)
  (tSeq (tIfS (tTest (tOp rEq (tVar 1) (tC (.int 18)))) (tRet (tCall (sp_books K A) [] E0 (tCons (tVar 0) tNil))) tNext)
  (tRet (tCall (sp_clear K A) [] E0 (tCons (tVar 0) tNil))))))))))))))
def t_answered (K : PySem.W.Frag) (A : Ad) (E : XK) : TS :=
  (fun D σ H => (fun W => (tSeq (tIfS (tTest (tChain oLe oLe (tC (.int 3)) (tVar 1) (tC (.int 10)))) (tRet (tCall (sp_of_order K A) [] E0 (tCons (tVar 0) (tCons (tVar 1) tNil)))) tNext)
  (tRet (tCallS (sp_of_room K A) (WE W) (tCons (tVar 0) (tCons (tVar 1) (tCons (tVar 2) (tCons (tVar 3) tNil)))))))) (wAs K (.ref A.refused) 4 (fun a cls d => (tRet (tLst (tCons (tByRef A.refused a cls d (tVar 4)) tNil)))) (fun _ _ _ _ => False) D) D σ H)
def t_row_at (K : PySem.W.Frag) (A : Ad) (E : XK) : TS :=
  (tSeq (tIfS (tTest (tOp (rIn K true) (tVar 1) (tC (.ref A.withrow)))) (tRet (tTup (tCons (tLst tNil) (tCons (tVar 2) tNil)))) tNext)
  (tSeq (tAsg (tOp oAdd (tOp oAdd (tVar 2) (tC (.int 1))) (tOp (rIx K) (tVar 0) (tVar 2))) (gName 3))
  (tRet (tTup (tCons (tSl (rSlL K) (tVar 0) (tPart (tOp oAdd (tVar 2) (tC (.int 1)))) (tPart (tVar 3))) (tCons (tVar 3) tNil))))))
def t_answers (K : PySem.W.Frag) (A : Ad) (E : XK) : TS :=
  (tSeq (tAsg (tMake A.room (sp_Room_init K A) [] E0 tNil) (gName 1))
  (tSeq (tAsg (tLst tNil) (gName 2))
  (tSeq (tAsg (tC (.int 0)) (gName 3))
  (tSeq (tWhile (tTest (tOp oLt (tVar 3) (tCB (rLen K) (tCons (tVar 0) tNil)))) (tSeq (tAsg (tOp (rIx K) (tVar 0) (tVar 3)) (gName 4))
  (tSeq (tAsg (tOp oAdd (tOp oAdd (tVar 3) (tC (.int 1))) (tOp (rIx K) (tC (.ref A.numbers)) (tVar 4))) (gName 5))
  (tSeq (tAsg (tSl (rSlL K) (tVar 0) (tPart (tOp oAdd (tVar 3) (tC (.int 1)))) (tPart (tVar 5))) (gName 6))
  (tSeq (tAsg (tCall (sp_row_at K A) [] E0 (tCons (tVar 0) (tCons (tVar 4) (tCons (tVar 5) tNil)))) (gTup K 2 (gCons (gName 7) (gCons (gName 3) gNil))))
  (tSeq (tAsg (tCall (sp_answered K A) [] E0 (tCons (tVar 1) (tCons (tVar 4) (tCons (tVar 6) (tCons (tVar 7) tNil))))) (gName 8))
  (tSeq (tDrop (tBM K "list" rAppend (tVar 2) (tCons (tCB (rLen K) (tCons (tVar 8) tNil)) tNil)))
  (tDrop (tBM K "list" rExtend (tVar 2) (tCons (tVar 8) tNil))))))))))
  (tRet (tVar 2))))))
end Td
set_option Elab.async false
set_option linter.all false
set_option maxRecDepth 100000
set_option maxHeartbeats 4000000
/-! Two desks, from promise to reading: desks. -/
namespace Td
open PySem PySem.Spec PyProof.Rows L2
open Vbceah (Sheet Book Breaks State Clock Reach)
open TdM (Bks Fit Iv Ok Far Good)
section
variable {K : PySem.W.Frag} {mg : Str → Option Value} {A : Ad}
theorem pure_finished (vs : List V) (H : Hp) (Q : VK) (E : XK) (h : sp_finished K A vs H Q E) : t_finished K A E { nx := fun _ H' => Q .non H', rt := Q } (start ["empty", "begun", "work", "at", "first", "last"] vs) H := by
  obtain ⟨x, y, z, rfl, e, t, w, ⟨p, us, rfl, hT, hP⟩, rfl, rfl, q⟩ := h
  refine ⟨_, rfl, rfl, _, rfl, if_d (fun hz => ?_) (fun hz => ?_)⟩
  · have hw : w = 0 := by have := V.int.inj hz; omega
    subst hw
    rw [TdM.worked_zero] at q
    exact ⟨_, rfl, q⟩
  have hw : w ≠ 0 := fun z => hz (by rw [z] <;> rfl)
  refine ⟨_, rfl, ?_⟩
  refine ⟨_, rfl, p, rfl, ⟨_, hT⟩, for_it walk_tup (fun i σ H' => H' = H ∧ ∃ (a w' : Nat) (f l : Option V), σ = [some (.ref p), some (nV t), some (nV w'), some (nV a), f, l] ∧ w' ≠ 0 ∧ Vbceah.worked (e.drop i) a w' = Vbceah.worked e t w)
    ⟨rfl, t, w, none, none, rfl, hw, rfl⟩ (fun i σ H' _ h => by rw [h.1]; exact hT) ?_ ?_⟩
  · rintro i x σ H' H'' hi ⟨rfl, a, w', f, l, rfl, hw', inv⟩ ⟨rfl, hx⟩
    obtain ⟨b, hb, ⟨pb, rfl, hpb⟩⟩ := pd_getL hP hx
    have hd : e.drop i = b :: e.drop (i + 1) := by
      have hlt := (List.getElem?_eq_some_iff.mp hb).1
      have e1 := (List.getElem?_eq_some_iff.mp hb).2
      rw [← e1]
      exact List.drop_eq_getElem_cons hlt
    rw [hd] at inv
    refine ⟨pb, _, rfl, hpb, rfl, _, _, rfl, _, _, rfl, rfl, ?_⟩
    -- if last > at
    refine ⟨_, rfl, _, rfl, _, _, rfl, rfl, _, rfl, if_d (fun h1 => ?_) (fun h1 => ?_)⟩
    · have h1' : ¬ b.2 ≤ a := by omega
      rw [TdM.worked_cons, if_neg hw', if_neg h1'] at inv
      -- if first > at
      refine ⟨_, rfl, _, rfl, _, _, rfl, rfl, _, rfl, if_d (fun h2 => ?_) (fun h2 => ?_)⟩
      · refine ⟨_, rfl, _, rfl, _, _, rfl, rfl, _, rfl, _, _, rfl, rfl, _, rfl, if_d (fun h3 => ?_) (fun h3 => ?_)⟩
        · refine ⟨_, rfl, _, rfl, _, _, rfl, rfl, ?_⟩
          rw [if_pos (by omega)] at inv
          have e2 : ((a : Int) + (w' : Int)) = ((Vbceah.worked e t w : Nat) : Int) := by rw [← inv]; omega
          show Q (.int ((a : Int) + (w' : Int))) _
          rw [e2]
          exact q
        · rw [if_neg (by omega)] at inv
          refine ⟨_, rfl, _, rfl, _, rfl, _, _, rfl, rfl, _, _, rfl, rfl, ?_⟩
          have e2 : ((w' : Int) - ((b.1 : Int) - (a : Int))) = ((w' - (b.1 - a) : Nat) : Int) := by omega
          refine ⟨_, rfl, rfl, b.2, w' - (b.1 - a), some (nV b.1), some (nV b.2), ?_, by omega, inv⟩
          show [some (.ref p), some (nV t), some (V.int ((w' : Int) - ((b.1 : Int) - (a : Int)))), some (nV b.2), some (nV b.1), some (nV b.2)] = _
          rw [e2]
      · rw [if_neg (by omega)] at inv
        refine ⟨_, rfl, rfl, b.2, w', _, _, rfl, hw', ?_⟩
        rw [show b.1 - a = 0 by omega, Nat.sub_zero] at inv
        exact inv
    · have h1' : b.2 ≤ a := by omega
      rw [TdM.worked_cons, if_neg hw', if_pos h1'] at inv
      exact ⟨rfl, a, w', _, _, rfl, hw', inv⟩
  · rintro σ H' ⟨rfl, a, w', f, l, rfl, hw', inv⟩
    have hl := hP.length
    rw [hl, List.drop_length] at inv
    refine ⟨_, rfl, _, rfl, _, _, rfl, rfl, ?_⟩
    have e2 : ((a : Int) + (w' : Int)) = ((Vbceah.worked e t w : Nat) : Int) := by rw [← inv]; simp only [Vbceah.worked]; omega
    show Q (.int ((a : Int) + (w' : Int))) _
    rw [e2]
    exact q
theorem max_n (a b : Nat) : (if (b : Int) > (a : Int) then (b : Int) else (a : Int)) = ((max b a : Nat) : Int) := by
  split <;> omega
theorem pure_step (vs : List V) (H : Hp) (Q : VK) (E : XK) (h : sp_step K A vs H Q E) : t_step K A E { nx := fun _ H' => Q .non H', rt := Q } (start ["empties", "clocks", "sheet", "computed"] vs) H := by
  obtain ⟨x, y, z, rfl, e1, e2, c, s, ⟨p, u1, u2, rfl, hE, hS1, hS2⟩, ⟨pc, rfl, hc⟩, ⟨ps, rfl, hs⟩, q⟩ := h
  refine ⟨_, rfl, ix_go (i := 0) hE lt_zero ⟨_, rfl, ix_go (i := 0) (.inr hc) lt_zero ⟨_, rfl, ix_go (i := 0) (.inr hs) lt_zero ?_⟩⟩⟩
  refine ⟨_, _, _, rfl, e1, c.one, s.first, hS1, rfl, rfl, ?_⟩
  refine ⟨_, rfl, _, rfl, ix_go (i := 1) hE lt_one ⟨_, rfl, _, rfl, ix_go (i := 1) (.inr hc) lt_one ⟨_, _, rfl, ?_⟩⟩⟩
  refine ⟨_, rfl, ix_go (i := 1) (.inr hs) lt_one ?_⟩
  refine ⟨_, _, _, rfl, e2, max c.two (Vbceah.worked e1 c.one s.first), s.second, hS2, congrArg V.int (max_n _ _), rfl, ?_⟩
  refine ⟨(by show 2 ≤ sizeLine; decide), fun p' hp' => q _ _ (Same.new hp') (pr_of upd_same)⟩
/-! ### lists that grow -/
theorem pure_clocks_of (vs : List V) (H : Hp) (Q : VK) (E : XK) (h : sp_clocks_of K A vs H Q E) : t_clocks_of K A E { nx := fun _ H' => Q .non H', rt := Q } (start ["empties", "sheets", "found", "clocks", "sheet"] vs) H := by
  obtain ⟨x, y, rfl, e1, e2, l, hE, ⟨ps, us, rfl, hS, hP⟩, hlen, q⟩ := h
  refine ⟨(by show 0 ≤ sizeLine; decide), fun pf hpf => ?_⟩
  refine ⟨(by show 2 ≤ sizeLine; decide), fun pc hpc => ?_⟩
  have s0 : Same H (upd (upd H pf (.lst [])) pc (.tup [nV 0, nV 0])) := (Same.new hpf).trans (Same.new hpc)
  have hpfc : pf ≠ pc := fun z => by rw [← z, upd_same] at hpc; cases hpc
  -- for sheet in sheets
  have hlu := hP.length
  let Pv : Nat → L2.St → Hp → Prop := fun i σ H' => ∃ (c : Clock) (vc : V) (f : Option V) (fs : List V), σ = [some x, some (.ref ps), some (.ref pf), some vc, f] ∧ Same H H' ∧ CkV K H' vc c ∧ H' pf = some (.lst fs) ∧
    ∃ done : List Clock, Paired (CkV K H') fs done ∧ fs.length = i ∧ Vbceah.clocks e1 e2 ⟨0, 0⟩ l = done ++ Vbceah.clocks e1 e2 c (l.drop i)
  have h0 : Pv 0 [some x, some (.ref ps), some (.ref pf), some (.ref pc), none] (upd (upd H pf (.lst [])) pc (.tup [nV 0, nV 0])) :=
    ⟨⟨0, 0⟩, _, none, [], rfl, s0, pr_of upd_same, by rw [upd_ne hpfc, upd_same], [], .nil, rfl, rfl⟩
  have turn : ∀ (i : Nat) (v : V) (σ : L2.St) (H1 : Hp) (D : Ends), i < us.length → Pv i σ H1 → us[i]? = some v → (∀ σ2 H2, Pv (i + 1) σ2 H2 → D.nx σ2 H2) →
      (tSeq (tAsg (tCall (sp_step K A) [] E0 (tCons (tVar 0) (tCons (tVar 3) (tCons (tVar 4) tNil)))) (gName 3)) (tDrop (tBM K "list" rAppend (tVar 2) (tCons (tVar 3) tNil)))) D (σ.set 4 (some v)) H1 := by
    rintro i v σ H1 D hi ⟨c, vc, f, fs, rfl, s1, hc, hf, done, hd, hfl, inv⟩ hv hD
    obtain ⟨s, hs, hsv⟩ := pd_getL hP hv
    have hdr := drop_at hs
    rw [hdr] at inv
    refine ⟨_, rfl, _, rfl, _, rfl, _, _, _, rfl, e1, e2, c, s, hE.mono s1, hc, hsv.mono s1, fun v2 H2 s2 hc2 => ?_⟩
    refine ⟨_, rfl, tyL (s2.keep hf), _, rfl, _, _, _, rfl, rfl, s2.keep hf, line_lt (by omega), ?_⟩
    have s3 : Same H (upd H2 pf (.lst (fs ++ [v2]))) := (s1.trans s2).mut hpf
    refine hD _ _ ⟨Vbceah.placed e1 e2 c s, v2, some v, fs ++ [v2], rfl, s3, hc2.mut (s2.keep hf), upd_same, done ++ [Vbceah.placed e1 e2 c s], ?_, by simp [hfl], ?_⟩
    · exact pd_app (Paired.mapP hd fun _ _ z => (z.mono s2).mut (s2.keep hf)) (pd_one (hc2.mut (s2.keep hf)))
    · rw [inv, List.append_assoc]
      rfl
  have fin : ∀ σ H1, Pv us.length σ H1 → tRet (tVar 2) { nx := fun _ H' => Q .non H', rt := Q } σ H1 := by
    rintro σ H1 ⟨c, vc, f, fs, rfl, s1, hc, hf, done, hd, hfl, inv⟩
    rw [hlu, List.drop_length, show Vbceah.clocks e1 e2 c [] = [] from rfl, List.append_nil] at inv
    exact ⟨_, rfl, q _ _ s1 ⟨pf, fs, rfl, hf, by rw [inv]; exact hd⟩ fun p e => by cases e; exact hpf⟩
  refine ⟨_, rfl, ps, rfl, ?_⟩
  rcases hS with hS | hS
  · refine .inl ⟨⟨_, s0.seq hS⟩, for_it walk_list Pv h0 (fun i σ H1 _ h => ?_) ?_ fin⟩
    · obtain ⟨_, _, _, _, _, s1, _⟩ := h
      exact s1.seq hS
    · rintro i v σ H1 H2 hi hp ⟨rfl, hv⟩
      refine turn i v σ _ _ hi hp hv ?_
      exact fun _ _ z => z
  · refine .inr ⟨⟨_, s0.tup hS⟩, for_it walk_tup Pv h0 (fun i σ H1 _ h => ?_) ?_ fin⟩
    · obtain ⟨_, _, _, _, _, s1, _⟩ := h
      exact s1.tup hS
    · rintro i v σ H1 H2 hi hp ⟨rfl, hv⟩
      refine turn i v σ _ _ hi hp hv ?_
      exact fun _ _ z => z
theorem pure_behind (vs : List V) (H : Hp) (Q : VK) (E : XK) (h : sp_behind K A vs H Q E) : t_behind K A E { nx := fun _ H' => Q .non H', rt := Q } (start ["empties", "sheets", "found"] vs) H := by
  obtain ⟨x, y, rfl, e1, e2, l, hE, hS, hlen, q⟩ := h
  refine ⟨(by show 2 ≤ sizeLine; decide), fun pt hpt => ⟨(by show 1 ≤ sizeLine; decide), fun pl hpl => ?_⟩⟩
  have s0 : Same H (upd (upd H pt (.tup [nV 0, nV 0])) pl (.lst [.ref pt])) := (Same.new hpt).trans (Same.new hpl)
  have hne : pt ≠ pl := fun z => by rw [← z, upd_same] at hpl; cases hpl
  refine ⟨_, rfl, _, rfl, _, _, rfl, e1, e2, l, hE.mono s0, hS.mono s0, hlen, fun v H2 s2 hcl _ => ?_⟩
  obtain ⟨pc, cs, rfl, hc, hP⟩ := hcl
  have hl := hP.length
  rw [TdM.clocks_length] at hl
  refine ⟨pl, pc, [.ref pt], cs, rfl, rfl, s2.keep upd_same, hc, line_le (by show 1 + cs.length ≤ 100000; omega), fun p hp => ?_⟩
  have s3 := Same.new (o := .lst ([.ref pt] ++ cs)) hp
  have ht : H2 pt = some (.tup [nV 0, nV 0]) := s2.keep (by rw [upd_ne hne, upd_same] <;> rfl)
  obtain ⟨v, hv, hvc⟩ := pd_get (pd_app (pd_one (F := CkV K H2) (a := .ref pt) (b := ⟨0, 0⟩) (pr_of ht)) hP) (show ([(⟨0, 0⟩ : Clock)] ++ Vbceah.clocks e1 e2 ⟨0, 0⟩ l)[l.length]? = some (l.foldl (Vbceah.placed e1 e2) ⟨0, 0⟩) from TdM.clocks_last e1 e2 l ⟨0, 0⟩)
  refine ⟨_, rfl, 1, rfl, .inl ⟨p, [.ref pt] ++ cs, -1, v, rfl, rfl, SqL.of upd_same, atI_neg ?_, q _ _ ((s0.trans s2).trans s3) (hvc.mono s3)⟩⟩
  rw [List.length_append, List.length_singleton, hl, Nat.add_sub_cancel_left]
  exact hv
theorem nts_snoc {W : List Nat} {i k : Nat} (h : W[i]? = some k) : (nts (W.take i)).map V.int ++ [nV k] = (nts (W.take (i + 1))).map V.int := by
  rw [take_at h]
  simp
theorem max_z (a b : Nat) : (if (a : Int) - (b : Int) > (0 : Int) then (a : Int) - (b : Int) else (0 : Int)) = ((a - b : Nat) : Int) := by
  split <;> omega
theorem pure_waits (vs : List V) (H : Hp) (Q : VK) (E : XK) (h : sp_waits K A vs H Q E) : t_waits K A E { nx := fun _ H' => Q .non H', rt := Q } (start ["empties", "sheets", "found", "before", "clocks"] vs) H := by
  obtain ⟨x, y, rfl, e1, e2, l, hE, hS, hlen, q⟩ := h
  refine ⟨(by show 0 ≤ sizeLine; decide), fun pf hpf => ⟨(by show 2 ≤ sizeLine; decide), fun pb hpb => ?_⟩⟩
  have s0 : Same H (upd (upd H pf (.lst [])) pb (.tup [nV 0, nV 0])) := (Same.new hpf).trans (Same.new hpb)
  have hne : pf ≠ pb := fun z => by rw [← z, upd_same] at hpb; cases hpb
  refine ⟨_, rfl, _, rfl, _, _, rfl, e1, e2, l, hE.mono s0, hS.mono s0, hlen, fun v H1 s1 hcl hnew => ?_⟩
  obtain ⟨pc, cs, rfl, hc, hP⟩ := hcl
  have hl := hP.length
  rw [TdM.clocks_length] at hl
  have hf0 : upd (upd H pf (.lst [])) pb (.tup [nV 0, nV 0]) pf = some (.lst []) := by rw [upd_ne hne, upd_same]
  have hpc : pc ≠ pf := fun z => by
    have := hnew pc rfl
    rw [z] at this
    exact absurd (this.symm.trans hf0) (fun z => by cases z)
  have hb0 : H1 pb = some (.tup [nV 0, nV 0]) := s1.keep upd_same
  have sa : Same H H1 := s0.trans s1
  have hPz : Paired (CkV K H1) (.ref pb :: cs) (⟨0, 0⟩ :: Vbceah.clocks e1 e2 ⟨0, 0⟩ l) := .cons (pr_of hb0) hP
  refine ⟨pc, rfl, ⟨_, SqL.of hc⟩, for_it walk_list (fun i σ H' => ∃ (vb : V) (f : Option V), σ = [some x, some y, some (.ref pf), some vb, f] ∧ (.ref pb :: cs)[i]? = some vb ∧ Same H H' ∧ (∀ b o, H1 b = some o → b ≠ pf → H' b = some o) ∧ H' pf = some (.lst ((nts ((TdM.waitsOf e1 e2 l).take i)).map V.int)))
    ⟨.ref pb, none, rfl, rfl, sa, fun b o h _ => h, by rw [s1.keep hf0]; rfl⟩ (fun i σ H' _ ⟨_, _, _, _, _, hk, _⟩ => SqL.of (hk _ _ hc hpc)) ?_ ?_⟩
  · rintro i v σ H0 H' hi ⟨vb, f, rfl, hvb, sH, hk, hf⟩ ⟨rfl, hv⟩
    obtain ⟨c, hci, pv, rfl, hpv⟩ := pd_getL hP hv
    obtain ⟨d, hdi, pd, rfl, hpd⟩ := pd_getL hPz hvb
    -- the tuples stand
    have stand : ∀ (p : Addr) (xs : List V), SqT K H1 p xs → SqT K H' p xs := by
      intro p xs h
      rcases h with (h | ⟨o, h⟩) | h
      · exact .inl (.inl (hk _ _ h (ne_of h (s1.keep hf0) fun z => by cases z)))
      · exact .inl (.inr ⟨o, hk _ _ h (ne_of h (s1.keep hf0) fun z => by cases z)⟩)
      · exact .inr h
    refine ⟨_, rfl, tyL hf, ?_⟩
    refine ⟨_, rfl, ix_go (i := 0) (.inr (stand _ _ hpv)) lt_zero ⟨_, rfl, ix_go (i := 1) (.inr (stand _ _ hpd)) lt_one ⟨_, _, rfl, rfl, 0, _, rfl, ?_⟩⟩⟩
    have hw := TdM.waits_at hci hdi
    have hwl : (nts ((TdM.waitsOf e1 e2 l).take i)).map V.int = (nts ((TdM.waitsOf e1 e2 l).take i)).map V.int := rfl
    refine ⟨_, _, _, rfl, rfl, hf, line_lt ?_, ?_⟩
    · rw [List.length_map, List.length_map, List.length_take]
      omega
    refine ⟨_, rfl, .ref pv, _, rfl, ?_, sH.mut hpf, fun b o h hb => ?_, ?_⟩
    · show cs[i]? = _
      exact hv
    · rw [upd_ne hb]
      exact hk b o h hb
    · rw [upd_same]
      show some (HO.lst (_ ++ [V.int _])) = _
      rw [max_z, ← nts_snoc hw]
  · rintro σ H' ⟨vb, f, rfl, hvb, sH, hk, hf⟩
    refine ⟨_, rfl, q _ _ sH ⟨pf, rfl, ?_⟩⟩
    rw [hf, hl, ← TdM.waits_length e1 e2 l, List.take_length]
theorem zeros_v (n : Nat) : List.replicate n (V.int 0) = ((List.range n).map fun c => ([] : List Nat).count c).map nV := by
  apply List.ext_getElem?
  intro i
  by_cases h : i < n
  · simp [h]
  · simp [h, List.getElem?_replicate]
theorem pure_sheets_of (vs : List V) (H : Hp) (Q : VK) (E : XK) (h : sp_sheets_of K A vs H Q E) : t_sheets_of K A E { nx := fun _ H' => Q .non H', rt := Q } (start ["books", "order", "taken", "found", "book"] vs) H := by
  obtain ⟨x, y, rfl, bs, o, ⟨pb, vb, rfl, hB, hP⟩, hbk, ⟨po, rfl, hO⟩, fit, hol, q⟩ := h
  have hl := hP.length
  have h4 := hbk.few
  refine ⟨(by show 1 ≤ sizeLine; decide), fun p0 hp0 => ⟨_, rfl, pb, vb, rfl, .inl ((Same.new hp0).seq hB), ?_⟩⟩
  refine ⟨p0, _, [.int 0], rfl, rfl, upd_same, by omega, by omega, ?_, fun pt hpt => ?_⟩
  · show 1 * ((vb.length : Nat) : Int).toNat ≤ sizeLine
    exact line_le (by omega)
  refine ⟨(by show 0 ≤ sizeLine; decide), fun pf hpf => ?_⟩
  obtain ⟨G, hG⟩ : ∃ G, G = upd (upd (upd H p0 (.lst [.int 0])) pt (.lst (List.replicate ((vb.length : Nat) : Int).toNat [V.int 0]).flatten)) pf (.lst []) := ⟨_, rfl⟩
  have sG : Same H G := by rw [hG]; exact ((Same.new hp0).trans (Same.new hpt)).trans (Same.new hpf)
  have hne : pt ≠ pf := fun z => by rw [← z, upd_same] at hpf; cases hpf
  have hnt : H pt = none := (Same.new hp0).free hpt
  have hnf : H pf = none := ((Same.new hp0).trans (Same.new hpt)).free hpf
  have g1 : G pf = some (.lst []) := by rw [hG, upd_same]
  have g2 : G pt = some (.lst (((List.range bs.length).map fun c => ([] : List Nat).count c).map nV)) := by
    rw [hG, upd_ne hne, upd_same, rep_flat, ← zeros_v, ← hl]
    rfl
  rw [← hG]
  have hol2 : ((nts o).map V.int).length = o.length := by simp
  refine ⟨_, rfl, po, rfl, ⟨_, sG.seq hO⟩, for_it walk_list (fun i σ H' => ∃ (f : Option V) (fs : List V) (done : List Sheet), σ = [some (.ref pb), some (.ref po), some (.ref pt), some (.ref pf), f] ∧ Same H H' ∧
      H' pt = some (.lst (((List.range bs.length).map fun c => (o.take i).count c).map nV)) ∧ H' pf = some (.lst fs) ∧ Paired (ShV K H') fs done ∧ fs.length ≤ i ∧ Vbceah.sheetsOf bs o [] = done ++ Vbceah.sheetsOf bs (o.drop i) (o.take i))
    ⟨none, [], [], rfl, sG, g2, g1, .nil, Nat.le_refl _, rfl⟩ (fun i σ H' _ ⟨_, _, _, _, s1, _⟩ => s1.seq hO) ?_ ?_⟩
  · rintro i v σ H0 H' hi ⟨f, fs, done, rfl, s1, h1, h2, hd, hfl, inv⟩ ⟨rfl, hv⟩
    obtain ⟨b, hb, rfl⟩ : ∃ b, o[i]? = some b ∧ v = nV b := by
      rw [List.getElem?_map, List.getElem?_map] at hv
      cases e : o[i]? with
      | none => rw [e] at hv; cases hv
      | some b => rw [e] at hv; exact ⟨b, rfl, (Option.some.inj hv).symm⟩
    have hbl := fit.lt (List.mem_of_getElem? hb)
    obtain ⟨s, hs, hst⟩ := TdM.sheets_step fit hb
    obtain ⟨w, hw, hwb⟩ := bs_at hP hbl
    obtain ⟨pk, us, rfl, hT, hU⟩ := hwb.mono s1
    obtain ⟨u, hu, hus⟩ := pd_get hU hs
    have ht : (((List.range bs.length).map fun c => (o.take i).count c).map nV)[b]? = some (nV ((o.take i).count b)) := by simp [hbl]
    refine ⟨_, rfl, tyL h2, ?_⟩
    refine ⟨_, rfl, _, rfl, ix_go (.inl (s1.seq hB)) hw ⟨_, rfl, _, rfl, ix_go (.inl (SqL.of h1)) ht (ix_go (.inr hT) hu ?_)⟩⟩
    refine ⟨_, _, _, rfl, rfl, h2, line_lt (by omega), ?_⟩
    have h1' : (upd H' pf (.lst (fs ++ [u]))) pt = some (.lst (((List.range bs.length).map fun c => (o.take i).count c).map nV)) := by rw [upd_ne hne]; exact h1
    refine ⟨_, rfl, _, rfl, pt, _, _, b, _, rfl, rfl, SqL.of h1', rfl, ht, _, _, rfl, rfl, pt, _, _, b, rfl, rfl, h1', ?_, ?_⟩
    · unfold ixN
      rw [if_pos (by omega), if_pos (by simp; omega)]
      simp
    have m1 : ∀ {v : V} {a b : Nat}, PrV K H' v a b → PrV K (upd (upd H' pf (.lst (fs ++ [u]))) pt (.lst ((((List.range bs.length).map fun c => (o.take i).count c).map nV).set b (V.int (((o.take i).count b : Nat) + 1))))) v a b := fun z => (z.mut h2).mut h1'
    refine ⟨_, fs ++ [u], done ++ [s], rfl, (s1.mut hnf).mut hnt, ?_, ?_, ?_, by simp; omega, ?_⟩
    · rw [upd_same, take_at hb, ← TdM.counts_step hbl, List.map_set]
      rfl
    · rw [upd_ne (Ne.symm hne), upd_same]
    · exact pd_app (Paired.mapP hd fun _ _ z => (z.mut h2).mut h1') (pd_one ((hus.mut h2).mut h1'))
    · rw [inv, hst, List.append_assoc]
      rfl
  · rintro σ H' ⟨f, fs, done, rfl, s1, h1, h2, hd, hfl, inv⟩
    rw [hol2, List.drop_length, show Vbceah.sheetsOf bs [] (o.take o.length) = [] from rfl, List.append_nil] at inv
    exact ⟨_, rfl, q _ _ s1 ⟨pf, fs, rfl, h2, by rw [inv]; exact hd⟩⟩
end
end Td
set_option Elab.async false
set_option linter.all false
set_option maxRecDepth 100000
set_option maxHeartbeats 4000000
/-! Two desks, from promise to reading: whole books. -/
namespace Td
open PySem PySem.Spec PyProof.Rows L2
open Vbceah (Sheet Book Breaks State Clock Reach)
open TdM (Bks Fit Iv Ok Far Good)
section
variable {K : PySem.W.Frag} {mg : Str → Option Value} {A : Ad}
theorem Same.none (H : Hp) : Same (fun _ => Option.none) H := fun _ _ h => nomatch h
theorem em_never (T : Txt K mg A) (H : Hp) : EmV K H (.ref A.never) [] [] := by
  obtain ⟨p, q, h1, h2, h3⟩ := T.k_never
  exact ⟨_, _, _, rfl, .inr ((Same.none H).tup h1), ⟨p, [], rfl, (Same.none H).tup h2, .nil⟩, ⟨q, [], rfl, (Same.none H).tup h3, .nil⟩⟩
theorem nts_sum : ∀ l : List Nat, (nts l).sum = ((l.sum : Nat) : Int)
  | [] => rfl
  | a :: l => by
    show (a : Int) + (nts l).sum = _
    rw [nts_sum l, List.sum_cons]
    omega
/-- a comprehension over sheets that takes a number of each -/
theorem lc_sh {J : It} {G : Hp → Prop} {us : List V} {l : List Sheet} {f : Sheet → Nat} {g : TG} {te : TE} {vs : List Nat} {σ : L2.St} {H1 : Hp} {D : Addr} {Qd : Hp → Prop} (w : Walk J us.length G (YAt us)) (hP : Paired (ShV K H1) us l) (hl : l.length ≤ 1000) (hD : H1 D = none)
    (hG : ∀ H', Same H1 H' → G H')
    (step : ∀ (s : Sheet) (p : Addr) (H' : Hp) (R : V → Hp → Prop) (S : Hp → Prop), SqT K H' p [nV s.first, nV s.second] → R (nV (f s)) H' → g (.ref p) (wipe σ vs) H' fun σ2 H2 => wipe σ2 vs = wipe σ vs ∧ tYes σ2 H2 fun b H3 => if b = true then te σ2 H3 R else S H3)
    (hd : ∀ H', Same H1 H' → H' D = some (.lst ((nts (l.map f)).map V.int)) → Qd H') :
    ∃ W : Nat → Nat → Hp → Prop, (∃ m, W 0 m (upd H1 D (.lst []))) ∧ ∀ i m H, W i m H →
      (J.stop i H ∧ Qd H) ∨ (J.go i H ∧ ∃ Nx : Hp → Prop, (∀ H', Nx H' → ∃ m', m' < m ∧ W (i + 1) m' H') ∧ ∀ x H', J.yld i H x H' → g x (wipe σ vs) H' fun σ2 H2 => wipe σ2 vs = wipe σ vs ∧ tYes σ2 H2 fun b H3 =>
        if b = true then te σ2 H3 fun y H4 => ∃ acc, H4 D = some (.lst acc) ∧ acc.length < sizeLine ∧ Nx (upd H4 D (.lst (acc ++ [y]))) else Nx H3) := by
  have hlu := hP.length
  refine lc_it w (fun i H' => Same H1 H' ∧ H' D = some (.lst ((nts ((l.take i).map f)).map V.int))) ⟨Same.new hD, by rw [upd_same]; rfl⟩ (fun i H' _ h => hG H' h.1) ?_ ?_
  · rintro i x H' H'' hi ⟨s1, h1⟩ ⟨rfl, hx⟩
    obtain ⟨s, hs, p, rfl, hp⟩ := pd_getL hP hx
    refine step s p _ _ _ (s1.tup hp) ⟨_, h1, line_lt (by simp; omega), s1.mut hD, ?_⟩
    rw [upd_same, take_at hs]
    simp
  · rintro H' ⟨s1, h1⟩
    refine hd H' s1 ?_
    rw [h1, hlu, List.take_length]
theorem pure_three_numbers (T : Txt K mg A) (vs : List V) (H : Hp) (Q : VK) (E : XK) (h : sp_three_numbers K A vs H Q E) : t_three_numbers K A E { nx := fun _ H' => Q .non H', rt := Q } (start ["book", "one", "other"] vs) H := by
  obtain ⟨x, rfl, l, ⟨p, us, rfl, hT, hP⟩, hl, q⟩ := h
  refine ⟨_, rfl, p, rfl, ⟨_, hT⟩, fun D hD => lc_sh (f := fun s => s.first) walk_tup hP hl hD (fun H' s => s.tup hT) (fun s p H' R S hp r => ⟨p, _, rfl, hp, rfl, _, _, rfl, _, _, rfl, rfl, rfl, _, rfl, r⟩) fun H1 s1 h1 => ?_⟩
  refine ⟨D, _, rfl, SqL.of h1, ?_⟩
  refine ⟨_, rfl, p, rfl, ⟨_, s1.tup hT⟩, fun D2 hD2 => lc_sh (f := fun s => s.second) walk_tup (Paired.mapP hP fun _ _ z => z.mono s1) hl hD2 (fun H' s => (s1.trans s).tup hT) (fun s p H' R S hp r => ⟨p, _, rfl, hp, rfl, _, _, rfl, _, _, rfl, rfl, rfl, _, rfl, r⟩) fun H2 s2 h2 => ?_⟩
  refine ⟨D2, _, rfl, SqL.of h2, ?_⟩
  have sa := s1.trans s2
  refine ⟨_, rfl, _, _, rfl, [], [], l, em_never T H2, (BkV.ss ⟨p, us, rfl, hT, hP⟩).mono sa, hl, fun v H3 s3 hc => ?_⟩
  obtain ⟨pc, rfl, hpc⟩ := hc
  refine ix_go (i := 1) (.inr hpc) lt_one ⟨(by show 3 ≤ sizeLine; decide), fun p' hp' => q _ _ ((sa.trans s3).trans (Same.new hp')) ?_⟩
  rw [upd_same, nts_sum, nts_sum]
  rfl
theorem pure_lead_and_tail (vs : List V) (H : Hp) (Q : VK) (E : XK) (h : sp_lead_and_tail K A vs H Q E) : t_lead_and_tail K A E { nx := fun _ H' => Q .non H', rt := Q } (start ["book", "computed", "checked", "end"] vs) H := by
  obtain ⟨x, rfl, l, hB, hl, q⟩ := h
  refine ⟨_, rfl, _, rfl, l, hB, hl, fun p H1 s1 h1 => ?_⟩
  refine ⟨p, _, rfl, SqT.of h1, rfl, _, _, rfl, _, _, rfl, _, _, rfl, rfl, ?_⟩
  refine ⟨_, rfl, _, rfl, _, _, rfl, rfl, _, rfl, _, rfl, _, _, rfl, rfl, ?_⟩
  refine ⟨(by show 2 ≤ sizeLine; decide), fun p' hp' => q _ _ (s1.trans (Same.new hp')) ?_⟩
  have g := TdM.go_ge l
  have e1 : (((Vbceah.blockOf l).both : Nat) : Int) - (((Vbceah.blockOf l).two : Nat) : Int) = ((Vbceah.lead (Vbceah.blockOf l) : Nat) : Int) := by
    rw [TdM.blockOf_eq]
    show _ = ((_ - _ : Nat) : Int)
    simp only
    omega
  have e2 : (((Vbceah.blockOf l).both : Nat) : Int) - (((Vbceah.blockOf l).one : Nat) : Int) = ((Vbceah.tail (Vbceah.blockOf l) : Nat) : Int) := by
    rw [TdM.blockOf_eq]
    show _ = ((_ - _ : Nat) : Int)
    simp only
    omega
  rw [upd_same]
  show some (HO.tup [V.int (_ - _), V.int (_ - _)]) = _
  rw [e1, e2]
theorem pure_end_of (T : Txt K mg A) (vs : List V) (H : Hp) (Q : VK) (E : XK) (h : sp_end_of K A vs H Q E) : t_end_of K A E { nx := fun _ H' => Q .non H', rt := Q } (start ["books", "numbers", "sheets", "number"] vs) H := by
  obtain ⟨x, y, rfl, bs, ns, ⟨pb, vb, rfl, hB, hP⟩, hbk, ⟨pn, rfl, hN⟩, hlt, hnl, q⟩ := h
  refine ⟨(by show 0 ≤ sizeLine; decide), fun p0 hp0 => ?_⟩
  have s0 := Same.new (o := .lst []) hp0
  have hsix : ∀ b, (Vbceah.bookAt bs b).length ≤ 6 := fun b => by
    by_cases hb : b < bs.length
    · have := TdM.bookAt_some hb
      exact (hbk.six _ (List.mem_of_getElem? this)).2
    · rw [TdM.bookAt_ge (Nat.le_of_not_lt hb)]; simp
  refine ⟨_, rfl, pn, rfl, ⟨_, s0.seq hN⟩, for_it walk_list (fun i σ H' => ∃ (ps : Addr) (us : List V) (f : Option V), σ = [some (.ref pb), some (.ref pn), some (.ref ps), f] ∧ Same H H' ∧ H' ps = some (.lst us) ∧ Paired (ShV K H') us ((ns.take i).flatMap (Vbceah.bookAt bs)) ∧ us.length ≤ 6 * i)
    ⟨p0, [], none, rfl, s0, upd_same, .nil, Nat.le_refl _⟩ (fun i σ H' _ ⟨_, _, _, _, s1, _⟩ => s1.seq hN) ?_ ?_⟩
  · rintro i v σ H0 H' hi ⟨ps, us, f, rfl, s1, h1, hU, hul⟩ ⟨rfl, hv⟩
    obtain ⟨n, hn, rfl⟩ : ∃ n, ns[i]? = some n ∧ v = nV n := by
      rw [List.getElem?_map, List.getElem?_map] at hv
      cases e : ns[i]? with
      | none => rw [e] at hv; cases hv
      | some b => rw [e] at hv; exact ⟨b, rfl, (Option.some.inj hv).symm⟩
    have hi' : i < ns.length := (List.getElem?_eq_some_iff.mp hn).1
    obtain ⟨w, hw, hwb⟩ := bs_at hP (hlt n (List.mem_of_getElem? hn))
    obtain ⟨pk, ks, rfl, hT, hK⟩ := hwb.mono s1
    have h6 := hsix n
    have hkl := hK.length
    refine ⟨_, rfl, _, rfl, _, rfl, ix_go (.inl (s1.seq hB)) hw ⟨pk, ks, rfl, .inr hT, fun pl hpl => ?_⟩⟩
    have s2 := Same.new (o := .lst ks) hpl
    refine ⟨ps, pl, us, ks, rfl, rfl, s2.keep h1, upd_same, line_le (by omega), fun p hp => ?_⟩
    have s3 := Same.new (o := .lst (us ++ ks)) hp
    refine ⟨p, us ++ ks, _, rfl, (s1.trans s2).trans s3, upd_same, ?_, by simp; omega⟩
    rw [take_at hn, List.flatMap_append, List.flatMap_singleton]
    exact pd_app (Paired.mapP hU fun _ _ z => z.mono (s2.trans s3)) (Paired.mapP hK fun _ _ z => z.mono (s2.trans s3))
  · rintro σ H' ⟨ps, us, f, rfl, s1, h1, hU, hul⟩
    have hl2 : ((nts ns).map V.int).length = ns.length := by simp
    rw [hl2] at hU hul
    rw [List.take_length] at hU
    have hul2 := hU.length
    refine ⟨_, rfl, _, _, rfl, [], [], _, em_never T H', ⟨ps, us, rfl, .inl (SqL.of h1), hU⟩, by omega, fun v H2 s2 hc => ?_⟩
    obtain ⟨pc, rfl, hpc⟩ := hc
    refine ix_go (i := 1) (.inr hpc) lt_one ?_
    rw [← TdM.end_is]
    exact q _ (s1.trans s2)
theorem pure_critical (T : Txt K mg A) (vs : List V) (H : Hp) (Q : VK) (E : XK) (h : sp_critical K A vs H Q E) : t_critical K A E { nx := fun _ H' => Q .non H', rt := Q } (start ["sheets", "end", "at", "before", "one", "other"] vs) H := by
  obtain ⟨x, rfl, l, k, ⟨p, us, rfl, hL, hP⟩, hl, hk, q⟩ := h
  obtain ⟨k1, k2, k3⟩ := TdM.critical_at hk
  have hul := hP.length
  refine ⟨_, rfl, _, _, rfl, [], [], l, em_never T H, ⟨p, us, rfl, .inl (SqL.of hL), hP⟩, hl, fun v H1 s1 hc => ?_⟩
  obtain ⟨pc, rfl, hpc⟩ := hc
  refine ix_go (i := 1) (.inr hpc) lt_one ?_
  refine ⟨_, rfl, p, us, rfl, .inl (SqL.of (s1.keep hL)), _, rfl, by omega, by omega, ?_⟩
  refine for_it walk_range (fun i σ H' => ∃ a b : Option V, σ = [some (.ref p), some (nV (Vbceah.clockOf [] [] l).two), a, b, none, none] ∧ Same H H' ∧ i ≤ k) ⟨none, none, rfl, s1, Nat.zero_le _⟩ (fun _ _ _ _ _ => trivial) ?_ ?_
  · rintro i v σ H0 H' hi ⟨a, b, rfl, sH, hik⟩ ⟨rfl, rfl⟩
    have e0 : (0 : Int) + (i : Int) = (i : Int) := by omega
    -- before = sum([.. sheets[:at + 1]])
    refine ⟨_, rfl, _, rfl, _, _, rfl, rfl, _, rfl, p, us, rfl, SqL.of (sH.keep hL), fun p1 hp1 => ?_⟩
    have ec : cutV us none (some ((0 : Int) + (i : Int) + 1)) = us.take (i + 1) := by
      rw [show (0 : Int) + (i : Int) + 1 = ((i + 1 : Nat) : Int) by omega]
      exact cut_take us (i + 1)
    have s2 := Same.new (o := .lst (cutV us none (some ((0 : Int) + (i : Int) + 1)))) hp1
    have hP1 : Paired (ShV K (upd H' p1 (.lst (cutV us none (some ((0 : Int) + (i : Int) + 1)))))) (cutV us none (some ((0 : Int) + (i : Int) + 1))) (l.take (i + 1)) := by
      have := pd_take (Paired.mapP hP fun _ _ z => z.mono (sH.trans s2)) (i + 1)
      rw [← ec] at this
      exact this
    refine ⟨p1, rfl, ⟨_, SqL.of upd_same⟩, fun D hD => lc_sh (f := fun s => s.first) walk_list hP1 (by simp; omega) hD (fun H2 s2 => SqL.of (s2.keep upd_same))
      (fun s p H2 R S hp r => ⟨p, _, rfl, hp, rfl, _, _, rfl, _, _, rfl, rfl, rfl, _, rfl, r⟩) fun H2 s3 h2 => ?_⟩
    refine ⟨D, _, rfl, SqL.of h2, ?_⟩
    have s4 := (sH.trans s2).trans s3
    refine ⟨_, rfl, _, rfl, _, rfl, _, rfl, p, us, rfl, SqL.of (s4.keep hL), fun p2 hp2 => ?_⟩
    have s5 := Same.new (o := .lst (cutV us (some ((0 : Int) + (i : Int))) none)) hp2
    have ed : cutV us (some ((0 : Int) + (i : Int))) none = us.drop i := by
      rw [e0]
      exact cut_drop us i
    have hP2 : Paired (ShV K (upd H2 p2 (.lst (cutV us (some ((0 : Int) + (i : Int))) none)))) (cutV us (some ((0 : Int) + (i : Int))) none) (l.drop i) := by
      have := pd_drop (Paired.mapP hP fun _ _ z => z.mono (s4.trans s5)) i
      rw [← ed] at this
      exact this
    refine ⟨p2, rfl, ⟨_, SqL.of upd_same⟩, fun D2 hD2 => lc_sh (f := fun s => s.second) walk_list hP2 (by simp; omega) hD2 (fun H3 s => SqL.of (s.keep upd_same))
      (fun s p H2 R S hp r => ⟨p, _, rfl, hp, rfl, _, _, rfl, _, _, rfl, rfl, rfl, _, rfl, r⟩) fun H3 s6 h3 => ?_⟩
    refine ⟨D2, _, rfl, SqL.of h3, _, _, rfl, rfl, _, rfl, rfl, _, rfl, ?_⟩
    have s7 := (s4.trans s5).trans s6
    have ehang : (V.int ((nts ((l.take (i + 1)).map fun s => s.first)).sum + (nts ((l.drop i).map fun s => s.second)).sum) = nV (Vbceah.clockOf [] [] l).two) ↔ TdM.hangs l i = true := by
      unfold TdM.hangs
      rw [nts_sum, nts_sum, beq_iff_eq]
      constructor
      · intro h
        have := V.int.inj h
        omega
      · intro h
        rw [← h]
        congr 1
    refine if_d (fun he => ?_) (fun he => ?_)
    · have hh := ehang.mp he
      have eik : i = k := by
        by_cases hlt : i < k
        · rw [k3 i hlt] at hh; cases hh
        · omega
      refine ⟨_, rfl, ?_⟩
      show Q (.int (0 + (i : Int))) H3
      rw [e0, eik]
      exact q _ s7
    · refine ⟨_, _, rfl, s7, ?_⟩
      by_cases hlt : i < k
      · omega
      · have : i = k := by omega
        subst this
        exact absurd (ehang.mpr k1) he
  · rintro σ H' ⟨a, b, rfl, sH, hik⟩
    exfalso
    simp at hik
    omega
/-- the two numbers of a pair -/
def kP (H : Hp) : V → Int × Int
  | .ref t => match H t with
    | some (.tup [.int a, .int b]) => (a, b)
    | _ => (0, 0)
  | _ => (0, 0)
def PiV (H : Hp) (v : V) (x : Int × Int) : Prop := ∃ t, v = .ref t ∧ H t = some (.tup [.int x.1, .int x.2])
theorem PiV.mono {H H' : Hp} {v : V} {x : Int × Int} (e : Same H H') (h : PiV H v x) : PiV H' v x := let ⟨t, h1, h2⟩ := h; ⟨t, h1, e.keep h2⟩
theorem PiV.mut {H : Hp} {v : V} {x : Int × Int} {pf : Addr} {xs : List V} {o : HO} (hf : H pf = some (.lst xs)) (h : PiV H v x) : PiV (upd H pf o) v x := let ⟨t, h1, h2⟩ := h; ⟨t, h1, by rw [upd_ne (ne_of h2 hf fun z => by cases z)]; exact h2⟩
theorem kP_of {H : Hp} {v : V} {x : Int × Int} (h : PiV H v x) : kP H v = x := by
  obtain ⟨t, rfl, h⟩ := h
  simp only [kP, h]
theorem kP_map {H : Hp} : ∀ {us : List V} {l : List (Int × Int)}, Paired (PiV H) us l → us.map (kP H) = l
  | _, _, .nil => rfl
  | _, _, .cons r t => by rw [List.map_cons, kP_of r, kP_map t]
theorem kP_at {H : Hp} {us : List V} {l : List (Int × Int)} (h : Paired (PiV H) us l) {v : V} (hv : v ∈ us) : PiV H v (kP H v) := by
  obtain ⟨i, hi⟩ := List.getElem?_of_mem hv
  obtain ⟨x, _, hx⟩ := pd_getL h hi
  rw [kP_of hx]
  exact hx
theorem pure_by_rule (vs : List V) (H : Hp) (Q : VK) (E : XK) (h : sp_by_rule K A vs H Q E) : t_by_rule K A E { nx := fun _ H' => Q .non H', rt := Q } (start ["books", "first", "then", "number", "book", "lead", "tail", "key"] vs) H := by
  obtain ⟨x, rfl, bs, ⟨pb, vb, rfl, hB, hP⟩, hbk, q⟩ := h
  have hl := hP.length
  have h4 := hbk.few
  refine ⟨(by show 0 ≤ sizeLine; decide), fun p1 hp1 => ⟨(by show 0 ≤ sizeLine; decide), fun p2 hp2 => ?_⟩⟩
  have s0 : Same H (upd (upd H p1 (.lst [])) p2 (.lst [])) := (Same.new hp1).trans (Same.new hp2)
  have hne : p1 ≠ p2 := fun z => by rw [← z, upd_same] at hp2; cases hp2
  have hn2 : H p2 = none := (Same.new hp1).free hp2
  refine ⟨_, rfl, pb, vb, rfl, s0.seq hB, for_it (walk_enum (xs := vb)) (fun i σ H' => ∃ (a b c d : Option V) (f1 f2 : List V), σ = [some (.ref pb), some (.ref p1), some (.ref p2), a, b, c, d, none] ∧ Same H H' ∧ H' p1 = some (.lst f1) ∧ H' p2 = some (.lst f2) ∧
      Paired (PiV H') f1 (TdM.part1 bs (List.range i)) ∧ Paired (PiV H') f2 (TdM.part2 bs (List.range i)) ∧ f1.length ≤ i ∧ f2.length ≤ i)
    ⟨none, none, none, none, [], [], rfl, s0, by rw [upd_ne hne, upd_same], upd_same, .nil, .nil, Nat.le_refl _, Nat.le_refl _⟩ (fun i σ H' _ h => ?_) ?_ ?_⟩
  · obtain ⟨_, _, _, _, _, _, _, s1, _⟩ := h
    exact s1.seq hB
  · rintro i v σ H0 H' hi ⟨a, b, c, d, f1, f2, rfl, s1, h1, h2, d1, d2, l1, l2⟩ ⟨Tt, xn, xb, rfl, hT, rfl, en, eb⟩
    obtain ⟨bk, hbk', hbv⟩ := pd_getL hP eb
    have hib : i < bs.length := (List.getElem?_eq_some_iff.mp hbk').1
    have ebk : bk = Vbceah.bookAt bs i := by
      have := TdM.bookAt_some hib
      rw [hbk'] at this
      exact Option.some.inj this
    subst ebk
    obtain rfl : V.int (i : Nat) = xn := Option.some.inj en
    have s2 := Same.new (o := .tup [.int (i : Nat), xb]) hT
    have h6 := (hbk.six _ (List.mem_of_getElem? hbk')).2
    refine ⟨Tt, _, rfl, SqT.of upd_same, rfl, _, _, rfl, _, _, rfl, rfl, ?_⟩
    refine ⟨_, rfl, _, rfl, _, (hbv.mono s1).mono s2, by omega, fun p H3 s3 h3 => ?_⟩
    refine ⟨p, _, rfl, SqT.of h3, rfl, _, _, rfl, _, _, rfl, rfl, ?_⟩
    have sa := s2.trans s3
    have part1e := TdM.part1_snoc bs i
    have part2e := TdM.part2_snoc bs i
    refine ⟨_, rfl, _, rfl, _, _, rfl, rfl, _, rfl, if_d (fun hle => ?_) (fun hle => ?_)⟩
    · have hle' : Vbceah.lead (Vbceah.blockOf (Vbceah.bookAt bs i)) ≤ Vbceah.tail (Vbceah.blockOf (Vbceah.bookAt bs i)) := by omega
      rw [if_pos hle'] at part1e part2e
      refine ⟨_, rfl, tyL (sa.keep h1), _, rfl, _, rfl, (by show 2 ≤ sizeLine; decide), fun pt hpt => ?_⟩
      have s4 := sa.trans (Same.new (o := .tup [nV (Vbceah.lead (Vbceah.blockOf (Vbceah.bookAt bs i))), .int (i : Nat)]) hpt)
      refine ⟨p1, f1, _, rfl, rfl, s4.keep h1, line_lt (by omega), ?_⟩
      refine ⟨_, _, _, _, f1 ++ [.ref pt], f2, rfl, (s1.trans s4).mut hp1, upd_same, ?_, ?_, ?_, by simp; omega, by omega⟩
      · rw [upd_ne (Ne.symm hne)]
        exact s4.keep h2
      · rw [part1e]
        exact pd_app (Paired.mapP d1 fun _ _ z => (z.mono s4).mut (s4.keep h1)) (pd_one (PiV.mut (s4.keep h1) ⟨pt, rfl, upd_same⟩))
      · rw [part2e]
        exact Paired.mapP d2 fun _ _ z => (z.mono s4).mut (s4.keep h1)
    · have hle' : ¬ Vbceah.lead (Vbceah.blockOf (Vbceah.bookAt bs i)) ≤ Vbceah.tail (Vbceah.blockOf (Vbceah.bookAt bs i)) := by omega
      rw [if_neg hle'] at part1e part2e
      refine ⟨_, rfl, tyL (sa.keep h2), _, rfl, _, _, rfl, rfl, _, rfl, (by show 2 ≤ sizeLine; decide), fun pt hpt => ?_⟩
      have s4 := sa.trans (Same.new (o := .tup [V.int (0 - (Vbceah.tail (Vbceah.blockOf (Vbceah.bookAt bs i)) : Int)), .int (i : Nat)]) hpt)
      refine ⟨p2, f2, _, rfl, rfl, s4.keep h2, line_lt (by omega), ?_⟩
      refine ⟨_, _, _, _, f1, f2 ++ [.ref pt], rfl, (s1.trans s4).mut hn2, ?_, upd_same, ?_, ?_, by omega, by simp; omega⟩
      · rw [upd_ne hne]
        exact s4.keep h1
      · rw [part1e]
        exact Paired.mapP d1 fun _ _ z => (z.mono s4).mut (s4.keep h2)
      · rw [part2e]
        refine pd_app (Paired.mapP d2 fun _ _ z => (z.mono s4).mut (s4.keep h2)) (pd_one (PiV.mut (s4.keep h2) ⟨pt, rfl, ?_⟩))
        rw [upd_same, ← Int.zero_sub]
  · rintro σ H' ⟨a, b, c, d, f1, f2, rfl, s1, h1, h2, d1, d2, l1, l2⟩
    rw [hl] at d1 d2
    refine ⟨_, rfl, p1, f1, kP H', rfl, SqL.of h1, fun x hx => kP_at d1 hx, fun y1 q1 st1 sb1 hq1 => ?_⟩
    have sA := Same.new (o := .lst y1) hq1
    refine ⟨_, rfl, p2, f2, kP H', rfl, SqL.of (sA.keep h2), fun x hx => (kP_at d2 hx).mono sA, fun y2 q2 st2 sb2 hq2 => ?_⟩
    have sB := sA.trans (Same.new (o := .lst y2) hq2)
    have ly1 := sb1.perm.length_eq
    have ly2 := sb2.perm.length_eq
    refine ⟨q1, q2, y1, y2, rfl, rfl, (Same.new (o := .lst y2) hq2).keep upd_same, upd_same, line_le (by omega), fun q3 hq3 => ?_⟩
    have sC := sB.trans (Same.new (o := .lst (y1 ++ y2)) hq3)
    have hz : ∀ v ∈ y1 ++ y2, PiV H' v (kP H' v) := fun v hv => by
      rcases List.mem_append.mp hv with hv | hv
      · exact kP_at d1 (sb1.perm.subset hv)
      · exact kP_at d2 (sb2.perm.subset hv)
    have srt : ∀ {ys : List V}, SrtO.Srtd (ltP (kP H')) ys → (ys.map (kP H')).Pairwise fun a b => ¬ TdM.lex2 b a := fun {ys} st => List.pairwise_map.mpr (List.Pairwise.imp (fun {a b} h => by
      have := SrtO.lexB_no.mp h
      unfold TdM.lex2
      exact this) st)
    have fin := TdM.ruled_eq (bs := bs) (s1 := y1.map (kP H')) (s2 := y2.map (kP H')) (by rw [← kP_map d1]; exact sb1.perm.map _) (by rw [← kP_map d2]; exact sb2.perm.map _) (srt st1) (srt st2)
    rw [← List.map_append, ← List.map_append, List.map_map] at fin
    refine ⟨q3, rfl, ⟨_, SqL.of upd_same⟩, fun D hD => lc_it walk_list (fun i H2 => Same (upd (upd (upd H' q1 (.lst y1)) q2 (.lst y2)) q3 (.lst (y1 ++ y2))) H2 ∧ H2 D = some (.lst (((y1 ++ y2).take i).map fun v => V.int (kP H' v).2)))
      ⟨Same.new hD, by rw [upd_same]; rfl⟩ (fun i H2 _ h => SqL.of (h.1.keep upd_same)) ?_ ?_⟩
    · rintro i v H2 H3 hi ⟨s5, h5⟩ ⟨rfl, hv⟩
      obtain ⟨t, rfl, ht⟩ := hz v (List.mem_of_getElem? hv)
      refine ⟨t, _, rfl, SqT.of (s5.keep (sC.keep ht)), rfl, _, _, rfl, _, _, rfl, rfl, rfl, _, rfl, _, h5, line_lt (by simp; omega), s5.mut hD, ?_⟩
      rw [upd_same, take_at hv, List.map_append]
      rfl
    · rintro H2 ⟨s5, h5⟩
      refine q _ _ ((s1.trans sC).trans s5) ⟨D, rfl, ?_⟩
      rw [h5, List.take_length]
      show some (HO.lst _) = some (HO.lst (((Vbceah.ruled bs).map fun n : Nat => (n : Int)).map V.int))
      rw [← fin, List.map_map]
      rfl
end
end Td
set_option Elab.async false
set_option linter.all false
set_option maxRecDepth 100000
set_option maxHeartbeats 4000000
/-! Two desks, from promise to reading: the search. -/
namespace Td
open PySem PySem.Spec PyProof.Rows L2
open Vbceah (Sheet Book Breaks State Clock Reach)
open TdM (Bks Fit Iv Ok Far Good)
section
variable {K : PySem.W.Frag} {mg : Str → Option Value} {A : Ad}
/-! ### lists compared with the empty one -/
theorem dp_ints {H : Hp} : ∀ ns : List Int, DpAll K H (ns.map V.int) (ns.map PyData.int)
  | [] => .nil
  | n :: r => .cons (.int n) (dp_ints r)
theorem shaped_ints (ns : List Int) : SeqAt.shaped (.list (ns.map PyData.int)) = true := by
  have h1 : ∀ ns : List Int, PyData.canLayAll0 (ns.map PyData.int) = true := by
    intro ns
    induction ns with
    | nil => rfl
    | cons n r ih => simp [PyData.canLayAll0, PyData.canLay0, ih]
  have h2 : ∀ ns : List Int, PyData.depthAll (ns.map PyData.int) = 0 := by
    intro ns
    induction ns with
    | nil => rfl
    | cons n r ih => simp [PyData.depthAll, PyData.depth, ih]
  unfold SeqAt.shaped
  simp [PyData.canLay0, PyData.depth, h1, h2]
theorem eqv_ints_nil (ns : List Int) : PyData.eqv (.list (ns.map PyData.int)) (.list []) = ns.isEmpty := by
  cases ns with
  | nil => simp [PyData.eqv, PyData.eqvAll]
  | cons n r => simp [PyData.eqv, PyData.eqvAll]
theorem shaped_nil : SeqAt.shaped (.list []) = true := shaped_ints []
theorem eq_nil_go {H : Hp} {a b : Addr} {ns : List Int} {Q : VK} (h1 : SqL K H a (ns.map V.int)) (h2 : SqL K H b []) (q : Q (.bl ns.isEmpty) H) : rEqD K (.ref a) (.ref b) H Q :=
  ⟨_, _, .lst h1 (dp_ints ns), .lst h2 .nil, shaped_ints ns, shaped_nil, by rw [eqv_ints_nil]; exact q⟩
theorem ne_nil_go {H : Hp} {a b : Addr} {ns : List Int} {Q : VK} (h1 : SqL K H a (ns.map V.int)) (h2 : SqL K H b []) (q : Q (.bl (!ns.isEmpty)) H) : rNeD K (.ref a) (.ref b) H Q :=
  ⟨_, _, .lst h1 (dp_ints ns), .lst h2 .nil, shaped_ints ns, shaped_nil, by rw [eqv_ints_nil]; exact q⟩
theorem rep_ints (k : Nat) : List.replicate k (V.int 1) = (List.replicate k (1 : Int)).map V.int := by simp
theorem pure_is_whole_searching (vs : List V) (H : Hp) (Q : VK) (E : XK) (h : sp_is_whole_searching K A vs H Q E) : t_is_whole_searching K A E { nx := fun _ H' => Q .non H', rt := Q } (start ["books", "taken", "book", "many"] vs) H := by
  obtain ⟨x, y, rfl, bs, p, ⟨pb, vb, rfl, hB, hP⟩, hbk, ⟨pq, rfl, hq⟩, hpl, q⟩ := h
  have hl := hP.length
  have h4 := hbk.few
  have hlen : vb.length = (p.map nV).length := by rw [List.length_map]; omega
  refine ⟨_, rfl, _, rfl, pb, pq, vb, p.map nV, rfl, hB, SqT.of hq, fun D hD => lc_it (walk_zipLT hlen) (fun i H' => Same H H' ∧ ∃ k : Nat, H' D = some (.lst (List.replicate k (V.int 1))) ∧ k ≤ i ∧ (k = 0 ↔ ((bs.zip p).take i).all (fun x => !decide (x.2 < x.1.length)) = true))
    ⟨Same.new hD, 0, by rw [upd_same]; rfl, Nat.le_refl _, by simp⟩ (fun i H' _ h => ⟨h.1.seq hB, h.1.tup (SqT.of hq)⟩) ?_ ?_⟩
  · rintro i v H0 H' hi ⟨s1, k, h1, hk, hiff⟩ ⟨Tt, xb, xp, rfl, hT, rfl, eb, ep⟩
    obtain ⟨b, hb, pk, us, rfl, hu, hU⟩ := pd_getL hP eb
    obtain ⟨n, hn, rfl⟩ : ∃ n, p[i]? = some n ∧ xp = nV n := by
      have ep : (p.map nV)[i]? = some xp := ep
      rw [List.getElem?_map] at ep
      cases e : p[i]? with
      | none => rw [e] at ep; cases ep
      | some n => rw [e] at ep; exact ⟨n, rfl, (Option.some.inj ep).symm⟩
    have hz : (bs.zip p)[i]? = some (b, n) := List.getElem?_zip_eq_some.mpr ⟨hb, hn⟩
    have s2 := Same.new (o := .tup [.ref pk, nV n]) hT
    have hul := hU.length
    have h1' := s2.keep h1
    refine ⟨Tt, _, rfl, SqT.of upd_same, rfl, _, _, rfl, _, _, rfl, rfl, rfl, ?_⟩
    refine ⟨_, rfl, _, rfl, pk, us, rfl, .inr ((s1.trans s2).tup hu), _, _, rfl, rfl, _, rfl, if_d (fun hlt => ?_) (fun hlt => ?_)⟩
    · have hlt' : n < b.length := by omega
      refine ⟨_, h1', line_lt (by simp; omega), (s1.trans s2).mut hD, k + 1, ?_, by omega, ?_⟩
      · rw [upd_same, List.replicate_succ']
      · rw [take_at hz, List.all_append]
        simp [hlt']
    · have hlt' : ¬ n < b.length := by omega
      refine ⟨s1.trans s2, k, h1', by omega, ?_⟩
      rw [hiff, take_at hz, List.all_append]
      simp [hlt']
  · rintro H' ⟨s1, k, h1, hk, hiff⟩
    refine ⟨(by show 0 ≤ sizeLine; decide), fun p0 hp0 => ?_⟩
    have s2 := Same.new (o := .lst []) hp0
    have h1' : SqL K (upd H' p0 (.lst [])) D ((List.replicate k (1 : Int)).map V.int) := by rw [← rep_ints]; exact SqL.of (s2.keep h1)
    refine eq_nil_go h1' (SqL.of upd_same) ?_
    have e : (List.replicate k (1 : Int)).isEmpty = TdM.wholeP bs p := by
      have e2 : ((bs.zip p).take vb.length) = bs.zip p := List.take_of_length_le (by rw [List.length_zip]; omega)
      rw [e2] at hiff
      unfold TdM.wholeP
      cases hw : (bs.zip p).all fun x => !decide (x.2 < x.1.length) with
      | true => rw [hiff.mpr hw]; rfl
      | false =>
        have : k ≠ 0 := fun z => by rw [hiff.mp z] at hw; cases hw
        cases k with
        | zero => exact absurd rfl this
        | succ k => rfl
    rw [e]
    exact q _ (s1.trans s2)
theorem pure_more_of (vs : List V) (H : Hp) (Q : VK) (E : XK) (h : sp_more_of K A vs H Q E) : t_more_of K A E { nx := fun _ H' => Q .non H', rt := Q } (start ["books", "taken", "book"] vs) H := by
  obtain ⟨x, y, rfl, bs, p, ⟨pb, vb, rfl, hB, hP⟩, hbk, ⟨pq, rfl, hq⟩, hpl, q⟩ := h
  have hl := hP.length
  have h4 := hbk.few
  refine ⟨_, rfl, pb, vb, rfl, .inl hB, _, rfl, by omega, by omega, ?_⟩
  intro D hD
  refine lc_it walk_rng (fun i H' => Same H H' ∧ H' D = some (.lst ((nts ((List.range i).filter fun b => decide (p.getD b 0 < (Vbceah.bookAt bs b).length))).map V.int)))
    ⟨Same.new hD, by rw [upd_same]; rfl⟩ (fun _ _ _ _ => trivial) ?_ ?_
  · rintro i v H0 H' hi ⟨s1, h1⟩ ⟨rfl, rfl⟩
    have hib : i < bs.length := by omega
    obtain ⟨w, hw, pk, us, rfl, hT, hU⟩ := bs_at hP hib
    have hul := hU.length
    have ep : (p.map nV)[i]? = some (nV (p.getD i 0)) := by
      rw [List.getElem?_map, List.getElem?_eq_getElem (by omega), List.getD_eq_getElem?_getD, List.getElem?_eq_getElem (by omega)]
      rfl
    have er : List.range (i + 1) = List.range i ++ [i] := List.range_succ
    refine ⟨rfl, _, rfl, _, rfl, ix_go (.inr (SqT.of (s1.keep hq))) ep ?_⟩
    refine ⟨_, rfl, _, rfl, ix_go (.inl (s1.seq hB)) hw ⟨pk, us, rfl, .inr (s1.tup hT), _, _, rfl, rfl, _, rfl, if_d (fun hlt => ?_) (fun hlt => ?_)⟩⟩
    · have hlt' : p.getD i 0 < (Vbceah.bookAt bs i).length := by omega
      refine ⟨_, rfl, _, h1, line_lt ?_, s1.mut hD, ?_⟩
      · rw [List.length_map, List.length_map]
        have := List.length_filter_le (fun b => decide (p.getD b 0 < (Vbceah.bookAt bs b).length)) (List.range i)
        rw [List.length_range] at this
        omega
      · rw [upd_same, er, List.filter_append, List.filter_cons_of_pos (by simpa using hlt')]
        simp
    · have hlt' : ¬ p.getD i 0 < (Vbceah.bookAt bs i).length := by omega
      refine ⟨s1, ?_⟩
      rw [h1, er, List.filter_append, List.filter_cons_of_neg (by simpa using hlt')]
      simp
  · rintro H' ⟨s1, h1⟩
    refine q _ _ s1 ⟨D, rfl, ?_⟩
    rw [h1]
    have e : ((vb.length : Nat) : Int).toNat = bs.length := by omega
    rw [e]
    rfl
theorem slA_go {H : Hp} {q : Addr} {xs : List V} {lo hi : Option Int} {Q : VK} (h : H q = some (.tup xs)) (k : ∀ r H', Same H H' → H' r = some (.tup (cutV xs lo hi)) → Q (.ref r) H') : rSlA K (.ref q) lo hi H Q := by
  refine ⟨q, xs, rfl, SqT.of h, fun hw => k q H (Same.refl H) ?_, fun _ p hp => k p _ (Same.new hp) upd_same⟩
  have e : cutV xs lo hi = xs := by
    unfold cutV
    rw [hw.1, hw.2, List.drop_zero, Nat.sub_zero, List.take_length]
  rw [e]
  exact h
theorem catA_go {H : Hp} {a b : Addr} {xs ys : List V} {Q : VK} (h1 : H a = some (.tup xs)) (h2 : H b = some (.tup ys)) (hl : xs.length + ys.length ≤ 100000) (k : ∀ r H', Same H H' → H' r = some (.tup (xs ++ ys)) → Q (.ref r) H') : rCatA K (.ref a) (.ref b) H Q := by
  refine ⟨a, b, xs, ys, rfl, rfl, SqT.of h1, SqT.of h2, line_le hl, fun e => k b H (Same.refl H) ?_, fun _ e => k a H (Same.refl H) ?_, fun _ _ p hp => k p _ (Same.new hp) upd_same⟩
  · rw [e]; exact h2
  · rw [e, List.append_nil]; exact h1
theorem set_cut {α : Type} {l : List α} {b : Nat} (h : b < l.length) (v : α) : l.take b ++ [v] ++ l.drop (b + 1) = l.set b v := by
  rw [List.set_eq_take_append_cons_drop, if_pos h]
  simp
theorem pure_with_one (vs : List V) (H : Hp) (Q : VK) (E : XK) (h : sp_with_one K A vs H Q E) : t_with_one K A E { nx := fun _ H' => Q .non H', rt := Q } (start ["taken", "book"] vs) H := by
  obtain ⟨x, y, rfl, p, b, ⟨pq, rfl, hq⟩, rfl, hb, hpl, q⟩ := h
  have ep : (p.map nV)[b]? = some (nV (p.getD b 0)) := by
    rw [List.getElem?_map, List.getElem?_eq_getElem hb, List.getD_eq_getElem?_getD, List.getElem?_eq_getElem hb]
    rfl
  refine ⟨_, rfl, _, rfl, _, rfl, slA_go hq fun r1 H1 s1 h1 => ?_⟩
  refine ⟨_, rfl, _, rfl, ix_go (.inr (SqT.of (s1.keep hq))) ep ⟨_, _, rfl, rfl, (by show 1 ≤ sizeLine; decide), fun p2 hp2 => ?_⟩⟩
  have s2 := Same.new (o := .tup [V.int ((p.getD b 0 : Nat) + 1)]) hp2
  rw [cut_take] at h1
  refine catA_go (s2.keep h1) upd_same (by simp; omega) fun r3 H3 s3 h3 => ?_
  have s4 := s2.trans s3
  refine ⟨_, rfl, _, rfl, _, _, rfl, rfl, _, rfl, ?_⟩
  show rSlA K (V.ref pq) (some ((b : Int) + 1)) none H3 (fun y H2 => rCatA K (V.ref r3) y H2 Q)
  refine slA_go ((s1.trans s4).keep hq) fun r5 H5 s5 h5 => ?_
  have e1 : cutV (p.map nV) (some ((b : Int) + 1)) none = (p.map nV).drop (b + 1) := by
    rw [show (b : Int) + 1 = ((b + 1 : Nat) : Int) by omega]
    exact cut_drop _ _
  rw [e1] at h5
  refine catA_go (s5.keep h3) h5 (by simp; omega) fun r6 H6 s6 h6 => ?_
  refine q _ _ (((s1.trans s4).trans s5).trans s6) ⟨r6, rfl, ?_⟩
  rw [h6, set_cut (by simpa using hb), List.map_set]
  rfl
theorem pure_how_many (vs : List V) (H : Hp) (Q : VK) (E : XK) (h : sp_how_many K A vs H Q E) : t_how_many K A E { nx := fun _ H' => Q .non H', rt := Q } (start ["books", "found", "done", "book", "k"] vs) H := by
  obtain ⟨x, rfl, bs, ⟨pb, vb, rfl, hB, hP⟩, hbk, q⟩ := h
  have hl := hP.length
  refine ⟨_, rfl, pb, rfl, ⟨_, hB⟩, for_it walk_list (fun i σ H' => H' = H ∧ ∃ (f : Nat) (a b : Option V), σ = [some (.ref pb), some (nV f), some (nV (Vbceah.sheetsIn (bs.take i))), a, b] ∧ f * TdM.prodF (bs.take i) = Vbceah.factorial (Vbceah.sheetsIn (bs.take i)))
    ⟨rfl, 1, none, none, rfl, rfl⟩ (fun i σ H' _ h => by rw [h.1]; exact hB) ?_ ?_⟩
  · rintro i v σ H0 H' hi ⟨rfl, f, a, b, rfl, hf⟩ ⟨rfl, hv⟩
    obtain ⟨bk, hbk', pk, us, rfl, hT, hU⟩ := pd_getL hP hv
    have hul := hU.length
    have h6 := (hbk.six _ (List.mem_of_getElem? hbk')).2
    have h12 : Vbceah.sheetsIn (bs.take i) + bk.length ≤ 12 := by
      have e1 := TdM.sheetsIn_snoc (bs.take i) bk
      rw [← take_at hbk'] at e1
      have : Vbceah.sheetsIn (bs.take (i + 1)) ≤ Vbceah.sheetsIn bs := by
        have := congrArg Vbceah.sheetsIn (List.take_append_drop (i + 1) bs)
        unfold Vbceah.sheetsIn at this ⊢
        rw [List.map_append, List.sum_append] at this
        omega
      have := hbk.all
      omega
    refine ⟨_, rfl, pk, us, rfl, .inr hT, _, rfl, by omega, by omega, ?_⟩
    refine for_it walk_rng (fun k σ H2 => H2 = H' ∧ ∃ b : Option V, σ = [some (.ref pb), some (nV (f * TdM.ch (Vbceah.sheetsIn (bs.take i) + k) k)), some (nV (Vbceah.sheetsIn (bs.take i) + k)), some (.ref pk), b])
      ⟨rfl, b, by rw [TdM.ch_zero, Nat.mul_one]; rfl⟩ (fun _ _ _ _ _ => trivial) ?_ ?_
    · rintro k v σ H0 H2 hk ⟨rfl, b, rfl⟩ ⟨rfl, rfl⟩
      have hk' : k < bk.length := by omega
      refine ⟨_, rfl, _, _, rfl, rfl, ?_⟩
      refine ⟨_, rfl, _, rfl, _, _, rfl, rfl, .inr (show -(2 ^ 64) < ((Vbceah.sheetsIn (bs.take i) + k : Nat) : Int) + 1 ∧ ((Vbceah.sheetsIn (bs.take i) + k : Nat) : Int) + 1 < 2 ^ 64 by omega), _, rfl, _, _, rfl, rfl, _, _, rfl, rfl, (show 0 < (k : Int) + 1 ∧ (k : Int) + 1 < 1073741824 by omega), ?_⟩
      refine ⟨rfl, some (nV k), ?_⟩
      have e1 : ((Vbceah.sheetsIn (bs.take i) + k : Nat) : Int) + 1 = ((Vbceah.sheetsIn (bs.take i) + (k + 1) : Nat) : Int) := by omega
      have e2 : ((f * TdM.ch (Vbceah.sheetsIn (bs.take i) + k) k : Nat) : Int) * (((Vbceah.sheetsIn (bs.take i) + k : Nat) : Int) + 1) / ((k : Int) + 1) = ((f * TdM.ch (Vbceah.sheetsIn (bs.take i) + (k + 1)) (k + 1) : Nat) : Int) := by
        rw [← TdM.many_step, Int.natCast_ediv, Int.natCast_mul]
        congr 1
      show [some (V.ref pb), some (V.int (((f * TdM.ch (Vbceah.sheetsIn (bs.take i) + k) k : Nat) : Int) * (((Vbceah.sheetsIn (bs.take i) + k : Nat) : Int) + 1) / ((k : Int) + 1))), some (V.int (((Vbceah.sheetsIn (bs.take i) + k : Nat) : Int) + 1)), some (V.ref pk), some (nV k)] = _
      rw [e2, e1]
    · rintro σ H2 ⟨rfl, b, rfl⟩
      have e : (((us.length : Nat) : Int)).toNat = bk.length := by omega
      rw [e]
      refine ⟨rfl, f * TdM.ch (Vbceah.sheetsIn (bs.take i) + bk.length) bk.length, some (.ref pk), b, ?_, ?_⟩
      · rw [take_at hbk', TdM.sheetsIn_snoc]
      · rw [take_at hbk']
        exact TdM.many_book hf bk
  · rintro σ H' ⟨rfl, f, a, b, rfl, hf⟩
    rw [hl, List.take_length] at hf
    refine ⟨_, rfl, ?_⟩
    have := q H' (Same.refl _)
    rw [TdM.many_end hf] at this
    exact this
end
end Td
set_option Elab.async false
set_option linter.all false
set_option maxRecDepth 100000
set_option maxHeartbeats 4000000
/-! Two desks, from promise to reading: the rounds of the search. -/
namespace Td
open PySem PySem.Spec PyProof.Rows L2
open Vbceah (Sheet Book Breaks State Clock Reach)
open TdM (Bks Fit Iv Ok Far Good)
section
variable {K : PySem.W.Frag} {mg : Str → Option Value} {A : Ad}
/-! ### a heap without one address -/
def Off (H : Hp) (d : Addr) : Hp := fun b => if b = d then none else H b
theorem off_ne {H : Hp} {d b : Addr} (h : b ≠ d) : Off H d b = H b := if_neg h
theorem off_same {H : Hp} {d : Addr} : Off H d d = none := if_pos rfl
theorem Same.off (H : Hp) (d : Addr) : Same (Off H d) H := fun b o h => by
  by_cases e : b = d
  · rw [e, off_same] at h; cases h
  · rwa [off_ne e] at h
theorem _root_.L2.Same.offR {H H' : Hp} {d : Addr} (e : Same H H') (h : H d = none) : Same H (Off H' d) := fun b o q => by
  rw [off_ne (ne_of_none q h)]
  exact e b o q
section
variable {H : Hp} {v : V} {d : Addr} {kvs : List (List Key × V)}
theorem off_tup {a : Addr} {ys : List V} (hd : H d = some (.dT kvs)) (h : SqT K H a ys) : SqT K (Off H d) a ys := by
  rcases h with (h | ⟨ob, h⟩) | h
  · exact .inl (.inl (by rw [off_ne (ne_of h hd fun z => by cases z)]; exact h))
  · exact .inl (.inr ⟨ob, by rw [off_ne (ne_of h hd fun z => by cases z)]; exact h⟩)
  · exact .inr h
theorem off_lst {a : Addr} {ys : List V} (hd : H d = some (.dT kvs)) (h : SqL K H a ys) : SqL K (Off H d) a ys := by
  rcases h with (h | ⟨ob, h⟩) | h
  · exact .inl (.inl (by rw [off_ne (ne_of h hd fun z => by cases z)]; exact h))
  · exact .inl (.inr ⟨ob, by rw [off_ne (ne_of h hd fun z => by cases z)]; exact h⟩)
  · exact .inr h
theorem PrV.offD {a b : Nat} (hd : H d = some (.dT kvs)) (h : PrV K H v a b) : PrV K (Off H d) v a b := let ⟨p, h1, h2⟩ := h; ⟨p, h1, off_tup hd h2⟩
theorem BkV.offD {l : Book} (hd : H d = some (.dT kvs)) (h : BkV K H v l) : BkV K (Off H d) v l := let ⟨p, vs, h1, h2, h3⟩ := h; ⟨p, vs, h1, off_tup hd h2, Paired.mapP h3 fun _ _ z => z.offD hd⟩
theorem StV.offD {l : Breaks} (hd : H d = some (.dT kvs)) (h : StV K H v l) : StV K (Off H d) v l := let ⟨p, vs, h1, h2, h3⟩ := h; ⟨p, vs, h1, off_tup hd h2, Paired.mapP h3 fun _ _ z => z.offD hd⟩
theorem BsV.offD {l : List Book} (hd : H d = some (.dT kvs)) (h : BsV K H v l) : BsV K (Off H d) v l := let ⟨p, vs, h1, h2, h3⟩ := h; ⟨p, vs, h1, off_lst hd h2, Paired.mapP h3 fun _ _ z => z.offD hd⟩
theorem EmV.offD {e1 e2 : Breaks} (hd : H d = some (.dT kvs)) (h : EmV K H v e1 e2) : EmV K (Off H d) v e1 e2 := let ⟨p, x, y, h1, h2, h3, h4⟩ := h; ⟨p, x, y, h1, h2.imp (off_lst hd) (off_tup hd), h3.offD hd, h4.offD hd⟩
theorem TabV.offD {kvs' : List (List Key × V)} {r : Reach} (hd : H d = some (.dT kvs)) (h : TabV K H kvs' r) : TabV K (Off H d) kvs' r := Paired.mapP h fun _ _ z => ⟨z.1, z.2.offD hd⟩
theorem TkV.offD {p : List Nat} (hd : H d = some (.dT kvs)) (h : TkV H v p) : TkV (Off H d) v p := let ⟨q, h1, h2⟩ := h; ⟨q, h1, by rw [off_ne (ne_of h2 hd fun z => by cases z)]; exact h2⟩
theorem NwL.offD {l : List Int} (hd : H d = some (.dT kvs)) (h : NwL H v l) : NwL (Off H d) v l := let ⟨q, h1, h2⟩ := h; ⟨q, h1, by rw [off_ne (ne_of h2 hd fun z => by cases z)]; exact h2⟩
end
theorem TabV.mono {H H' : Hp} {kvs : List (List Key × V)} {r : Reach} (e : Same H H') (h : TabV K H kvs r) : TabV K H' kvs r := Paired.mapP h fun _ _ z => ⟨z.1, z.2.mono e⟩
/-! ### keys -/
theorem keyOf_map (p : List Nat) : (keyOf p).map kV = p.map nV := by
  unfold keyOf
  rw [List.map_map]
  rfl
theorem keyOf_inj {p q : List Nat} (h : keyOf p = keyOf q) : p = q := by
  have e : p.map nV = q.map nV := by rw [← keyOf_map, ← keyOf_map, h]
  have key : ∀ p q : List Nat, p.map nV = q.map nV → p = q := by
    intro p
    induction p with
    | nil => intro q h; cases q with
      | nil => rfl
      | cons _ _ => cases h
    | cons a p ih => intro q h; cases q with
      | nil => cases h
      | cons b q =>
        rw [List.map_cons, List.map_cons] at h
        have h1 := V.int.inj (List.cons.inj h).1
        rw [ih q (List.cons.inj h).2]
        congr 1
        omega
  exact key p q e
theorem tab_val {H : Hp} {p : List Nat} : ∀ {kvs : List (List Key × V)} {r : Reach}, TabV K H kvs r → (TdM.look r p = none → valV kvs (keyOf p) = none) ∧ ∀ c, TdM.look r p = some c → ∃ v, valV kvs (keyOf p) = some v ∧ CkV K H v c
  | _, _, .nil => ⟨fun _ => rfl, fun c h => by cases h⟩
  | kv :: kvs, x :: r, .cons h t => by
    obtain ⟨i1, i2⟩ := tab_val (p := p) t
    unfold TdM.look
    by_cases e : x.1 = p
    · rw [if_pos e]
      have ek : kv.1 = keyOf p := by rw [h.1, e]
      rw [valV_pos ek]
      exact ⟨fun z => (by cases z), fun c hc => ⟨kv.2, rfl, by rw [← Option.some.inj hc]; exact h.2⟩⟩
    · rw [if_neg e]
      have ek : ¬ kv.1 = keyOf p := fun z => e (keyOf_inj (h.1.symm.trans z))
      rw [valV_neg ek]
      exact ⟨i1, i2⟩
theorem putK_pos {κ : Type} [DecidableEq κ] {kv : κ × V} {kvs : List (κ × V)} {k : κ} {v : V} (e : kv.1 = k) (hn : valV kvs k = none) : putK (kv :: kvs) k v = (k, v) :: kvs := by
  unfold putK
  rw [if_pos (by rw [List.any_cons, decide_eq_true e, Bool.true_or]), List.map_cons, if_pos e, e]
  congr 1
  have : ∀ l : List (κ × V), valV l k = none → l.map (fun kv => if kv.1 = k then (kv.1, v) else kv) = l := by
    intro l
    induction l with
    | nil => intro _; rfl
    | cons x l ih =>
      intro h
      by_cases ex : x.1 = k
      · rw [valV_pos ex] at h; cases h
      · rw [valV_neg ex] at h
        rw [List.map_cons, if_neg ex, ih h]
  exact this kvs hn
theorem putK_neg {κ : Type} [DecidableEq κ] {kv : κ × V} {kvs : List (κ × V)} {k : κ} {v : V} (e : ¬ kv.1 = k) : putK (kv :: kvs) k v = kv :: putK kvs k v := by
  unfold putK
  rw [List.any_cons, decide_eq_false e, Bool.false_or]
  split
  · rw [List.map_cons, if_neg e]
  · rfl
theorem tab_put {H : Hp} {p : List Nat} {c : Clock} {v : V} (hv : CkV K H v c) : ∀ {kvs : List (List Key × V)} {r : Reach}, TabV K H kvs r → (r.map (·.1)).Nodup → TabV K H (putK kvs (keyOf p) v) (TdM.put r p c)
  | _, _, .nil, _ => .cons ⟨rfl, hv⟩ .nil
  | kv :: kvs, x :: r, .cons h t, nd => by
    rw [List.map_cons, List.nodup_cons] at nd
    unfold TdM.put
    by_cases e : x.1 = p
    · rw [if_pos e]
      have ek : kv.1 = keyOf p := by rw [h.1, e]
      have hn : valV kvs (keyOf p) = none := (tab_val t).1 (TdM.look_none.mpr (by rw [← e]; exact nd.1))
      rw [putK_pos ek hn]
      exact .cons ⟨rfl, hv⟩ t
    · rw [if_neg e]
      have ek : ¬ kv.1 = keyOf p := fun z => e (keyOf_inj (h.1.symm.trans z))
      rw [putK_neg ek]
      exact .cons h (tab_put hv t nd.2)
theorem lex_ck {c d : Clock} (h : c.one = d.one) : HT.lexLt [(c.one : Int), (c.two : Int)] [(d.one : Int), (d.two : Int)] = decide (c.two < d.two) := by
  rw [HT.lexLt_cons, if_pos (by rw [h]), HT.lexLt_cons]
  by_cases e : (c.two : Int) = (d.two : Int)
  · rw [if_pos e, HT.lexLt_nil_nil]
    symm
    rw [decide_eq_false_iff_not]
    omega
  · rw [if_neg e]
    by_cases h2 : c.two < d.two
    · rw [decide_eq_true h2, decide_eq_true (by omega)]
    · rw [decide_eq_false h2, decide_eq_false (by omega)]
theorem pure_round_of (vs : List V) (H : Hp) (Q : VK) (E : XK) (h : sp_round_of K A vs H Q E) : t_round_of K A E { nx := fun _ H' => Q .non H', rt := Q } (start ["books", "empties", "known", "found", "taken", "book", "clocks", "after"] vs) H := by
  obtain ⟨x, y, z, rfl, bs, e1, e2, d, kvs, p0, c0, n, r, hB0, hbk, hE0, ok1, rfl, hd, hR0, good, hsz, q⟩ := h
  have h4 := hbk.few
  intro pd hpd
  have hne : pd ≠ d := fun z => by rw [z, hd] at hpd; cases hpd
  have hd1 : upd H pd (.dT []) d = some (.dT kvs) := by rw [upd_ne (Ne.symm hne)]; exact hd
  refine ⟨d, .dT kvs, hd1, trivial, fun od => ?_⟩
  -- the ground: all that stood, the table locked
  obtain ⟨B, hBdef⟩ : ∃ B, B = upd (Off H d) d (.frz od (.dT kvs)) := ⟨_, rfl⟩
  have sOB : Same (Off H d) B := by rw [hBdef]; exact Same.new off_same
  have hB := (hB0.offD hd).mono sOB
  have hE := (hE0.offD hd).mono sOB
  have hR := (hR0.offD hd).mono sOB
  have hBd : B d = some (.frz od (.dT kvs)) := by rw [hBdef, upd_same]
  have hBpd : B pd = none := by rw [hBdef, upd_ne hne, off_ne hne]; exact hpd
  obtain ⟨G, hG⟩ : ∃ G, G = upd (upd H pd (.dT [])) d (.frz od (.dT kvs)) := ⟨_, rfl⟩
  have sBG : Same B G := fun b o h => by
    by_cases eb : b = d
    · rw [eb, hBd] at h; rw [eb, hG, upd_same]; exact h
    · have : Off H d b = some o := by rw [hBdef, upd_ne eb] at h; exact h
      rw [off_ne eb] at this
      rw [hG, upd_ne eb, upd_ne (ne_of_none this hpd)]
      exact this
  have hGpd : G pd = some (.dT []) := by rw [hG, upd_ne hne, upd_same]
  rw [← hG]
  have hlr := hR.length
  obtain ⟨pb, vb, rfl, hBL, hBP⟩ := hB
  refine ⟨_, rfl, d, od, rfl, .inr ⟨kvs, by rw [hG, upd_same], for_it walk_keysT (fun i σ H' => ∃ (a b c e : Option V) (kvs' : List (List Key × V)), σ = [some (.ref pb), some y, some (.ref d), some (.ref pd), a, b, c, e] ∧ Same B H' ∧ H' pd = some (.dT kvs') ∧
      TabV K H' kvs' (TdM.roundTo bs e1 e2 (r.take i)) ∧ (TdM.roundTo bs e1 e2 (r.take i)).length ≤ 4 * i)
    ⟨none, none, none, none, [], rfl, sBG, hGpd, .nil, Nat.le_refl _⟩ (fun i σ H' _ h => ?_) ?_ ?_⟩⟩
  · obtain ⟨_, _, _, _, _, _, s1, _⟩ := h
    exact s1.keep hBd
  · rintro i v σ H0 H' hi ⟨a, b, c, e, kvs', rfl, s1, hpd', hT', hlen'⟩ ⟨rfl, k, v, kq, hk, rfl, hkq⟩
    obtain ⟨⟨p, ck⟩, hx, hkey, hck⟩ := pd_getL hR hk
    simp only at hkey hck
    subst hkey
    rw [keyOf_map] at hkq
    have hmem : (p, ck) ∈ r := List.mem_of_getElem? hx
    have F := good.far p ck hmem
    have htk : TkV H' (.ref kq) p := ⟨kq, rfl, hkq⟩
    have hi' : i < r.length := by omega
    -- for book in more_of(books, taken)
    refine ⟨_, rfl, _, rfl, _, _, rfl, bs, p, ⟨pb, vb, rfl, s1.seq hBL, Paired.mapP hBP fun _ _ z => z.mono s1⟩, hbk, htk, F.len, fun vm H1 s2 hm => ?_⟩
    obtain ⟨pm, rfl, hpm⟩ := hm
    have hpd1 := s2.keep hpd'
    obtain ⟨O, hO⟩ : ∃ O, O = Off H1 pd := ⟨_, rfl⟩
    have sBO : Same B O := by rw [hO]; exact (s1.trans s2).offR hBpd
    have hkqO : O kq = some (.tup (p.map nV)) := by rw [hO, off_ne (ne_of (s2.keep hkq) hpd1 fun z => by cases z)]; exact s2.keep hkq
    have hpmO : O pm = some (.lst ((nts (TdM.moreOf bs p)).map V.int)) := by rw [hO, off_ne (ne_of hpm hpd1 fun z => by cases z)]; exact hpm
    have hOpd : O pd = none := by rw [hO, off_same]
    have sOH1 : Same O H1 := by rw [hO]; exact Same.off H1 pd
    have hgr := TdM.good_roundTo (e2 := e2) ok1 good i
    have fits := good.fits hmem
    have hml : (TdM.moreOf bs p).length ≤ 4 := Nat.le_trans (TdM.moreOf_length bs p) h4
    have hsnoc : TdM.roundTo bs e1 e2 (r.take (i + 1)) = TdM.fromOne bs e1 e2 p ck (TdM.moreOf bs p) (TdM.roundTo bs e1 e2 (r.take i)) := by
      rw [take_at hx, TdM.roundTo_snoc]
    refine ⟨pm, rfl, ⟨_, SqL.of hpm⟩, for_it walk_list (fun j σ H' => ∃ (b c e : Option V) (kvs2 : List (List Key × V)), σ = [some (.ref pb), some y, some (.ref d), some (.ref pd), some (.ref kq), b, c, e] ∧ Same O H' ∧ H' pd = some (.dT kvs2) ∧
        TabV K H' kvs2 (TdM.fromOne bs e1 e2 p ck ((TdM.moreOf bs p).take j) (TdM.roundTo bs e1 e2 (r.take i))))
      ⟨b, c, e, kvs', rfl, sOH1, hpd1, hT'.mono s2⟩ (fun j σ H' _ ⟨_, _, _, _, _, s, _⟩ => SqL.of (s.keep hpmO)) ?_ ?_⟩
    · rintro j v2 σ H0 H2 hj ⟨b, c, e, kvs2, rfl, s3, hpd2, hT2⟩ ⟨rfl, hv2⟩
      obtain ⟨bk, hbkj, rfl⟩ : ∃ bk, (TdM.moreOf bs p)[j]? = some bk ∧ v2 = nV bk := by
        rw [List.getElem?_map, List.getElem?_map] at hv2
        cases e : (TdM.moreOf bs p)[j]? with
        | none => rw [e] at hv2; cases hv2
        | some n => rw [e] at hv2; exact ⟨n, rfl, (Option.some.inj hv2).symm⟩
      have hlt := TdM.moreOf_mem.mp (List.mem_of_getElem? hbkj)
      have hj' : j < (TdM.moreOf bs p).length := (List.getElem?_eq_some_iff.mp hbkj).1
      have hbl : bk < bs.length := TdM.lt_of_sheet (List.getElem?_eq_getElem hlt)
      obtain ⟨s, hs⟩ : ∃ s, (Vbceah.bookAt bs bk)[p.getD bk 0]? = some s := ⟨_, List.getElem?_eq_getElem hlt⟩
      have sB2 : Same B H2 := sBO.trans s3
      obtain ⟨w, hw, hwb⟩ := bs_at hBP hbl
      obtain ⟨pk, us, rfl, hTk, hU⟩ := hwb.mono sB2
      obtain ⟨u, hu, hus⟩ := pd_get hU hs
      have ep : (p.map nV)[bk]? = some (nV (p.getD bk 0)) := by
        have : bk < p.length := by rw [F.len]; exact hbl
        rw [List.getElem?_map, List.getElem?_eq_getElem this, List.getD_eq_getElem?_getD, List.getElem?_eq_getElem this]
        rfl
      -- known[taken]
      have hval : valV kvs (keyOf p) = some v := by
        obtain ⟨v', h1, _⟩ := (tab_val (p := p) hR).2 ck (TdM.look_of_mem good.nd hmem)
        have nk : (kvs.map (·.1)).Nodup := by
          have e1 : kvs.map (·.1) = r.map fun x => keyOf x.1 := by
            have key : ∀ {kvs : List (List Key × V)} {r : Reach}, TabV K B kvs r → kvs.map (·.1) = r.map fun x => keyOf x.1 := by
              intro kvs r h
              induction h with
              | nil => rfl
              | cons h _ ih => rw [List.map_cons, List.map_cons, h.1, ih]
            exact key hR
          rw [e1]
          have := good.nd
          rw [show (r.map fun x => keyOf x.1) = (r.map (·.1)).map keyOf by rw [List.map_map]; rfl]
          exact List.pairwise_map.mpr (this.imp fun h e => h (keyOf_inj e))
        have key : ∀ (kvs : List (List Key × V)), (kvs.map (·.1)).Nodup → (keyOf p, v) ∈ kvs → valV kvs (keyOf p) = some v := by
          intro kvs
          induction kvs with
          | nil => intro _ h; cases h
          | cons x l ih =>
            intro nd h
            rw [List.map_cons, List.nodup_cons] at nd
            rcases List.mem_cons.mp h with h | h
            · rw [← h]; exact valV_pos rfl
            · have : ¬ x.1 = keyOf p := fun e => nd.1 (List.mem_map.mpr ⟨(keyOf p, v), h, e.symm⟩)
              rw [valV_neg this]
              exact ih nd.2 h
        exact key kvs nk (List.mem_of_getElem? hk)
      refine ⟨_, rfl, _, rfl, _, rfl, d, v, rfl, .inr ⟨kvs, keyOf p, kq, .inr ⟨od, sB2.keep hBd⟩, rfl, by rw [keyOf_map]; exact s3.keep hkqO, hval.symm⟩, ?_⟩
      refine ⟨_, rfl, _, rfl, ix_go (.inl (sB2.seq hBL)) hw ⟨_, rfl, _, rfl, ix_go (.inr (SqT.of (s3.keep hkqO))) ep (ix_go (.inr hTk) hu ?_)⟩⟩
      refine ⟨_, _, _, rfl, e1, e2, ck, s, hE.mono sB2, hck.mono sB2, hus, fun v3 H3 s4 hc3 => ?_⟩
      have s5 := s3.trans s4
      refine ⟨_, rfl, _, rfl, _, _, rfl, p, bk, ⟨kq, rfl, s5.keep hkqO⟩, rfl, by rw [F.len]; exact hbl, by rw [F.len]; omega, fun v4 H4 s6 ht4 => ?_⟩
      have s7 := s5.trans s6
      obtain ⟨pa, rfl, hpa⟩ := ht4
      have hpd4 : H4 pd = some (.dT kvs2) := (s4.trans s6).keep hpd2
      have hT4 := hT2.mono (s4.trans s6)
      have hc4 := hc3.mono s6
      have hmg : Good bs e1 p0 c0 (n + 1) (TdM.fromOne bs e1 e2 p ck ((TdM.moreOf bs p).take j) (TdM.roundTo bs e1 e2 (r.take i))) := TdM.good_fromOne ok1 fits _ _ hgr
      have hf4 := fits.step (e2 := e2) ok1 hs
      have hnext : TdM.fromOne bs e1 e2 p ck ((TdM.moreOf bs p).take (j + 1)) (TdM.roundTo bs e1 e2 (r.take i)) = Vbceah.lesserIn (TdM.fromOne bs e1 e2 p ck ((TdM.moreOf bs p).take j) (TdM.roundTo bs e1 e2 (r.take i))) (p.set bk (p.getD bk 0 + 1)) (Vbceah.placed e1 e2 ck s) := by
        rw [take_at hbkj, TdM.fromOne_app, TdM.fromOne_cons, hs]
        rfl
      have hl2 := hT4.length
      have hlm := TdM.fromOne_length (bs := bs) (e1 := e1) (e2 := e2) (p := p) (c := ck) ((TdM.moreOf bs p).take j) (TdM.roundTo bs e1 e2 (r.take i))
      rw [List.length_take] at hlm
      have hline : kvs2.length < sizeLine := by omega
      generalize hmdef : TdM.fromOne bs e1 e2 p ck ((TdM.moreOf bs p).take j) (TdM.roundTo bs e1 e2 (r.take i)) = m at hT4 hmg hnext hl2 hlm
      have hkey4 : H4 pa = some (.tup ((keyOf (p.set bk (p.getD bk 0 + 1))).map kV)) := by rw [keyOf_map]; exact hpa
      rw [TdM.lesserIn_eq] at hnext
      -- the way that stores
      have store : ∀ D : Ends, (∀ σ' H', (∃ (b c e : Option V) (kvs2 : List (List Key × V)), σ' = [some (.ref pb), some y, some (.ref d), some (.ref pd), some (.ref kq), b, c, e] ∧ Same O H' ∧ H' pd = some (.dT kvs2) ∧ TabV K H' kvs2 (TdM.put m (p.set bk (p.getD bk 0 + 1)) (Vbceah.placed e1 e2 ck s))) → D.nx σ' H') →
          sDPut (tVar 3) (tVar 7) (tVar 6) D [some (.ref pb), some y, some (.ref d), some (.ref pd), some (.ref kq), some (nV bk), some v3, some (.ref pa)] H4 := by
        intro D hD
        refine ⟨_, rfl, _, rfl, _, rfl, pd, _, rfl, .inr ⟨kvs2, _, pa, hpd4, rfl, hkey4, hline, rfl⟩, ?_⟩
        have hmut : ∀ {v : V} {a b : Nat}, PrV K H4 v a b → PrV K (upd H4 pd (.dT (putK kvs2 (keyOf (p.set bk (p.getD bk 0 + 1))) v3))) v a b := fun z => by
          have z1 := z.offD hpd4
          exact z1.mono (Same.mut (Same.off H4 pd) off_same)
        exact hD _ _ ⟨_, _, _, _, rfl, s7.mut hOpd, upd_same, tab_put (hmut hc4) (Paired.mapP hT4 fun _ _ z => ⟨z.1, hmut z.2⟩) hmg.nd⟩
      obtain ⟨tv1, tv2⟩ := tab_val (p := p.set bk (p.getD bk 0 + 1)) hT4
      cases hlk : TdM.look m (p.set bk (p.getD bk 0 + 1)) with
      | none =>
        rw [hlk] at hnext
        have hvn := tv1 hlk
        refine ⟨_, rfl, _, rfl, pd, none, rfl, .inr ⟨kvs2, _, pa, .inl hpd4, rfl, hkey4, hvn.symm⟩, _, rfl, ?_⟩
        refine if_t rfl (if_t rfl (store _ ?_))
        rintro σ' H' ⟨b, c, e, kvs3, rfl, g1, g2, g3⟩
        exact ⟨b, c, e, kvs3, rfl, g1, g2, by rw [hnext]; exact g3⟩
      | some c4 =>
        rw [hlk] at hnext
        obtain ⟨v5, hv5, hc5⟩ := tv2 c4 hlk
        have hone : (Vbceah.placed e1 e2 ck s).one = c4.one := hmg.ones (TdM.look_mem hlk) hf4.one
        obtain ⟨pc3, rfl, hpc3⟩ := hc4
        obtain ⟨pc5, rfl, hpc5⟩ := hc5
        refine ⟨_, rfl, _, rfl, pd, some (.ref pc5), rfl, .inr ⟨kvs2, _, pa, .inl hpd4, rfl, hkey4, hv5.symm⟩, _, rfl, ?_⟩
        refine if_f rfl ?_
        refine ⟨_, rfl, _, rfl, _, rfl, pd, .ref pc5, rfl, .inr ⟨kvs2, _, pa, .inl hpd4, rfl, hkey4, hv5.symm⟩, ?_⟩
        refine ⟨pc3, pc5, [((Vbceah.placed e1 e2 ck s).one : Int), ((Vbceah.placed e1 e2 ck s).two : Int)], [(c4.one : Int), (c4.two : Int)], rfl, rfl, hpc3, hpc5, _, rfl, ?_⟩
        rw [lex_ck hone]
        refine if_d (fun hl => ?_) (fun hl => ?_)
        · refine store _ ?_
          rintro σ' H' ⟨b, c, e, kvs3, rfl, g1, g2, g3⟩
          exact ⟨b, c, e, kvs3, rfl, g1, g2, by rw [hnext]; simp only [hl, if_true]; exact g3⟩
        · exact ⟨_, _, _, kvs2, rfl, s7, hpd4, by rw [hnext]; simp only [hl, if_false]; exact hT4⟩
    · rintro σ H2 ⟨b, c, e, kvs2, rfl, s3, hpd2, hT2⟩
      have e1' : ((nts (TdM.moreOf bs p)).map V.int).length = (TdM.moreOf bs p).length := by simp
      rw [e1', List.take_length] at hT2
      refine ⟨_, b, c, e, kvs2, rfl, sBO.trans s3, hpd2, by rw [hsnoc]; exact hT2, ?_⟩
      rw [hsnoc]
      have := TdM.fromOne_length (bs := bs) (e1 := e1) (e2 := e2) (p := p) (c := ck) (TdM.moreOf bs p) (TdM.roundTo bs e1 e2 (r.take i))
      omega
  · rintro σ H' ⟨a, b, c, e, kvs', rfl, s1, hpd', hT', hlen'⟩
    rw [hlr, List.take_length, ← TdM.further_to] at hT'
    refine ⟨s1.keep hBd, _, rfl, ?_⟩
    have sF : Same H (upd H' d (.dT kvs)) := fun b o h => by
      by_cases eb : b = d
      · rw [eb, hd] at h; rw [eb, upd_same]; exact h
      · rw [upd_ne eb]
        refine s1.keep ?_
        rw [hBdef, upd_ne eb, off_ne eb]
        exact h
    refine q pd kvs' _ sF (by rw [upd_ne hne]; exact hpd') ?_
    have hoff : Same (Off H' d) (upd H' d (.dT kvs)) := Same.mut (Same.off H' d) off_same
    refine Paired.mapP hT' fun kv x z => ⟨z.1, ?_⟩
    obtain ⟨pp, ez, hz⟩ := z.2
    refine ⟨pp, ez, ?_⟩
    have hdfrz := s1.keep hBd
    rcases hz with (hz | ⟨ob, hz⟩) | hz
    · exact .inl (.inl (by rw [upd_ne (ne_of hz hdfrz fun z => by cases z)]; exact hz))
    · exact .inl (.inr ⟨ob, by rw [upd_ne (ne_of hz hdfrz fun z => by cases z)]; exact hz⟩)
    · exact .inr hz
end
end Td
set_option Elab.async false
set_option linter.all false
set_option maxRecDepth 100000
set_option maxHeartbeats 4000000
/-! Two desks, from promise to reading: the least end and the way to it. -/
namespace Td
open PySem PySem.Spec PyProof.Rows L2
open Vbceah (Sheet Book Breaks State Clock Reach)
open TdM (Bks Fit Iv Ok Far Good)
section
variable {K : PySem.W.Frag} {mg : Str → Option Value} {A : Ad}
theorem keys_at {H : Hp} : ∀ {kvs : List (List Key × V)} {bs : List Addr} {i : Nat} {x : List Key × V}, IsKeys H kvs bs → kvs[i]? = some x → ∃ b, bs[i]? = some b ∧ H b = some (.tup (x.1.map kV)) :=
  fun h e => pd_getL h e
theorem pow_few {k : Nat} (h : k ≤ 11) : 4 ^ k * 4 ≤ sizeLine := by
  have : 4 ^ k ≤ 4 ^ 11 := Nat.pow_le_pow_right (by decide) h
  have e : 4 ^ 11 * 4 = sizeLine := by decide
  omega
theorem pow_few12 {k : Nat} (h : k ≤ 12) : 4 ^ k ≤ sizeLine := by
  have : 4 ^ k ≤ 4 ^ 12 := Nat.pow_le_pow_right (by decide) h
  have e : 4 ^ 12 = sizeLine := by decide
  omega
theorem pure_least_from (vs : List V) (H : Hp) (Q : VK) (E : XK) (h : sp_least_from K A vs H Q E) : t_least_from K A E { nx := fun _ H' => Q .non H', rt := Q } (start ["books", "empties", "taken", "clocks", "known"] vs) H := by
  obtain ⟨x, y, z, w, rfl, bs, e1, e2, p, c, hB0, hbk, hE0, ok1, ⟨pq, rfl, hq⟩, F, hc0, q⟩ := h
  have h4 := hbk.few
  intro d hd
  have hq1 : upd H d (.dT []) pq = some (.tup ((keyOf p).map kV)) := by rw [keyOf_map]; exact (Same.new hd).keep hq
  refine ⟨_, rfl, _, rfl, _, rfl, d, _, rfl, .inr ⟨[], keyOf p, pq, upd_same, rfl, hq1, line_lt (by simp), rfl⟩, ?_⟩
  have s0 : Same H (upd (upd H d (.dT [])) d (.dT (putK [] (keyOf p) w))) := (Same.new hd).mut hd
  have ep : putK [] (keyOf p) w = [(keyOf p, w)] := rfl
  obtain ⟨xr, hxr, Fx, ex⟩ := TdM.reach_one (e2 := e2) ok1 (c := c) F
  have hsum := (TdM.far_zip F).2
  have h12 := hbk.all
  refine ⟨fun m σ H' => ∃ (k : Nat) (r : Reach) (kvs : List (List Key × V)) (d' : Addr), σ = [some x, some y, some (.ref pq), some w, some (.ref d')] ∧ Same H H' ∧ m + k = Vbceah.leftOf bs p ∧ Good bs e1 p c k r ∧ r ≠ [] ∧ r.length ≤ 4 ^ k ∧
      Vbceah.reachFrom bs e1 e2 m r = [xr] ∧ H' d' = some (.dT kvs) ∧ TabV K H' kvs r,
    ⟨Vbceah.leftOf bs p, 0, [(p, c)], putK [] (keyOf p) w, d, rfl, s0, rfl, Good.start F, by simp, by simp, hxr, upd_same, by rw [ep]; exact .cons ⟨rfl, hc0.mono (by rw [← ep]; exact s0)⟩ .nil⟩, ?_⟩
  rintro m σ H' ⟨k, r, kvs, d', rfl, s1, hmk, good, hne, hlen, hr, hd', hT⟩
  -- list(known)[0]
  obtain ⟨x0, l0, rfl⟩ := List.exists_cons_of_ne_nil hne
  have first : ∀ {H2 : Hp} {R : VK}, Same H' H2 → (∀ b H3, Same H2 H3 → H3 b = some (.tup (x0.1.map nV)) → R (.ref b) H3) → rListK [V.ref d'] H2 fun x H3 => rIx K x (.int 0) H3 R := by
    intro H2 R s2 hR
    refine ⟨d', kvs, rfl, .inl (s2.keep hd'), fun p0 bs0 hp0 hk => ?_⟩
    obtain ⟨kv0, hkv0, hkey0, _⟩ := pd_get hT (i := 0) (b := x0) rfl
    obtain ⟨b, hb, hb2⟩ := keys_at hk hkv0
    rw [hkey0, keyOf_map] at hb2
    have s3 := Same.new (o := .lst (bs0.map V.ref)) hp0
    refine ix_go (i := 0) (.inl (SqL.of upd_same)) (v := .ref b) ?_ (hR b _ s3 (s3.keep hb2))
    rw [List.getElem?_map, hb]
    rfl
  have F0 := good.far x0.1 x0.2 List.mem_cons_self
  have sum0 := good.sum x0.1 x0.2 List.mem_cons_self
  refine ⟨_, rfl, _, rfl, first (Same.refl _) fun b H1 s2 hb => ?_⟩
  refine ⟨x, .ref b, rfl, bs, x0.1, hB0.mono (s1.trans s2), hbk, ⟨b, rfl, hb⟩, F0.len, fun H2 s3 => ?_⟩
  refine ⟨_, rfl, ?_⟩
  cases hw : TdM.wholeP bs x0.1 with
  | false =>
    refine ⟨fun σ' H' => ∃ m', m' < m ∧ _, fun _ _ h => h, ?_⟩
    have hlt : x0.1.sum < Vbceah.sheetsIn bs := by
      have h1 := (TdM.far_zip F0).2
      have h2 := mt (TdM.far_zip F0).1.mpr (by rw [hw]; exact Bool.false_ne_true)
      omega
    have hm : m ≠ 0 := by
      intro z
      subst z
      have e0 : (x0 :: l0) = [xr] := hr
      have := (List.cons.inj e0).1
      rw [this] at hlt
      omega
    obtain ⟨m, rfl⟩ := Nat.exists_eq_succ_of_ne_zero hm
    have hk11 : k ≤ 11 := by unfold Vbceah.leftOf at hmk; omega
    have s4 := (s1.trans s2).trans s3
    refine ⟨_, rfl, _, rfl, _, rfl, x, y, .ref d', rfl, bs, e1, e2, d', kvs, p, c, k, x0 :: l0, hB0.mono s4, hbk, hE0.mono s4, ok1, rfl, (s2.trans s3).keep hd', hT.mono (s2.trans s3), good, ?_, fun d2 kvs2 H3 s5 hd2 hT2 => ?_⟩
    · have := pow_few hk11
      omega
    · refine ⟨m, Nat.lt_succ_self m, k + 1, _, kvs2, d2, rfl, s4.trans s5, by omega, TdM.good_further ok1 good, ?_, ?_, hr, hd2, hT2⟩
      · have hm0 := hr
        intro z
        obtain ⟨b', y', hy⟩ := TdM.not_whole_next (e1 := e1) (e2 := e2) (c := x0.2) hw
        obtain ⟨dd, hdd, _⟩ := TdM.has_further ok1 good (p := x0.1) (c := x0.2) List.mem_cons_self (q := y'.1) (d := y'.2) hy
        rw [z] at hdd
        cases hdd
      · have := TdM.further_length (e1 := e1) (e2 := e2) h4 (x0 :: l0)
        rw [Nat.pow_succ]
        omega
  | true =>
    have hfull := (TdM.far_zip F0).1.mp hw
    have hm : m = 0 := by unfold Vbceah.leftOf at hmk; omega
    subst hm
    have e0 : (x0 :: l0) = [xr] := hr
    obtain ⟨e01, e02⟩ := List.cons.inj e0
    subst e01 e02
    have s4 := s2.trans s3
    refine ⟨_, rfl, _, rfl, first s4 fun b2 H3 s5 hb2 => ?_⟩
    obtain ⟨v, hv, hvc⟩ := (tab_val (p := x0.1) hT).2 x0.2 (TdM.look_of_mem good.nd List.mem_cons_self)
    have s6 := s4.trans s5
    obtain ⟨pc, rfl, hpc⟩ := hvc.mono s6
    refine ⟨d', .ref pc, rfl, .inr ⟨kvs, keyOf x0.1, b2, .inl (s6.keep hd'), rfl, by rw [keyOf_map]; exact hb2, hv.symm⟩, ?_⟩
    refine ix_go (i := 1) (.inr hpc) lt_one ?_
    show Q (nV x0.2.two) H3
    rw [← TdM.least_is hxr]
    exact q _ (s1.trans s6)
theorem getD_tk {p : List Nat} {b : Nat} (h : b < p.length) : (p.map nV)[b]? = some (nV (p.getD b 0)) := by
  rw [List.getElem?_map, List.getElem?_eq_getElem h, List.getD_eq_getElem?_getD, List.getElem?_eq_getElem h]
  rfl
theorem next_some {bs : List Book} {e1 e2 : Breaks} {p : List Nat} {c : Clock} {b : Nat} {x : List Nat × Clock} (h : TdM.next bs e1 e2 p c b = some x) : ∃ s, (Vbceah.bookAt bs b)[p.getD b 0]? = some s ∧ x = (p.set b (p.getD b 0 + 1), Vbceah.placed e1 e2 c s) := by
  unfold TdM.next at h
  cases e : (Vbceah.bookAt bs b)[p.getD b 0]? with
  | none => rw [e] at h; cases h
  | some s => rw [e] at h; exact ⟨s, rfl, (Option.some.inj h).symm⟩
theorem fits_placed {bs : List Book} {e1 e2 : Breaks} {p : List Nat} {c : Clock} : True := trivial
theorem pure_first_with (vs : List V) (H : Hp) (Q : VK) (E : XK) (h : sp_first_with K A vs H Q E) : t_first_with K A E { nx := fun _ H' => Q .non H', rt := Q } (start ["books", "empties", "taken", "clocks", "least", "book", "after"] vs) H := by
  obtain ⟨x, y, z, w, u, rfl, bs, e1, e2, p, c, goal, b0, hB0, hbk, hE0, ok1, ⟨pq, rfl, hq⟩, F, hc0, rfl, hf, q⟩ := h
  have h4 := hbk.few
  obtain ⟨i0, hi0, hbefore⟩ := TdM.first_more hf
  refine ⟨_, rfl, _, rfl, _, _, rfl, bs, p, hB0, hbk, ⟨pq, rfl, hq⟩, F.len, fun vm H1 s1 ⟨pm, em, hpm⟩ => ?_⟩
  subst em
  refine ⟨pm, rfl, ⟨_, SqL.of hpm⟩, for_it walk_list (fun j σ H' => ∃ (a b : Option V), σ = [some x, some y, some (.ref pq), some w, some (nV goal), a, b] ∧ Same H1 H' ∧ j ≤ i0)
    ⟨none, none, rfl, Same.refl _, Nat.zero_le _⟩ (fun j σ H' _ ⟨_, _, _, s, _⟩ => SqL.of (s.keep hpm)) ?_ ?_⟩
  · rintro j v σ H0 H2 hj ⟨a, b, rfl, s2, hji⟩ ⟨rfl, hv⟩
    obtain ⟨bk, hbkj, rfl⟩ : ∃ bk, (TdM.moreOf bs p)[j]? = some bk ∧ v = nV bk := by
      rw [List.getElem?_map, List.getElem?_map] at hv
      cases e : (TdM.moreOf bs p)[j]? with
      | none => rw [e] at hv; cases hv
      | some n => rw [e] at hv; exact ⟨n, rfl, (Option.some.inj hv).symm⟩
    have hlt := TdM.moreOf_mem.mp (List.mem_of_getElem? hbkj)
    obtain ⟨s, hs⟩ : ∃ s, (Vbceah.bookAt bs bk)[p.getD bk 0]? = some s := ⟨_, List.getElem?_eq_getElem hlt⟩
    have hbl : bk < bs.length := TdM.lt_of_sheet hs
    have hbp : bk < p.length := by rw [F.len]; exact hbl
    have sA := s1.trans s2
    obtain ⟨pb, vb, rfl, hBL, hBP⟩ := hB0.mono sA
    obtain ⟨wk, hw, pk, us, rfl, hTk, hU⟩ := bs_at hBP hbl
    obtain ⟨us0, hu, hus⟩ := pd_get hU hs
    refine ⟨_, rfl, _, rfl, _, rfl, _, rfl, ix_go (.inl hBL) hw ⟨_, rfl, _, rfl, ix_go (.inr (SqT.of (sA.keep hq))) (getD_tk hbp) (ix_go (.inr hTk) hu ?_)⟩⟩
    refine ⟨_, _, _, rfl, e1, e2, c, s, hE0.mono sA, hc0.mono sA, hus, fun v3 H3 s3 hc3 => ?_⟩
    have sB := sA.trans s3
    refine ⟨_, rfl, _, rfl, _, rfl, _, rfl, _, _, rfl, p, bk, ⟨pq, rfl, sB.keep hq⟩, rfl, hbp, by rw [F.len]; omega, fun v4 H4 s4 ht4 => ?_⟩
    have sC := sB.trans s4
    refine ⟨_, rfl, _, _, _, _, rfl, bs, e1, e2, p.set bk (p.getD bk 0 + 1), Vbceah.placed e1 e2 c s, hB0.mono sC, hbk, hE0.mono sC, ok1, ht4, F.step hs, hc3.mono s4, fun H5 s5 => ?_⟩
    have sD := sC.trans s5
    refine ⟨_, rfl, rfl, _, rfl, ?_⟩
    have hx : TdM.next bs e1 e2 p c bk = some (p.set bk (p.getD bk 0 + 1), Vbceah.placed e1 e2 c s) := by
      unfold TdM.next
      rw [hs]
      rfl
    refine if_d (fun he => ?_) (fun he => ?_)
    · have he' : Vbceah.leastFrom bs e1 e2 (p.set bk (p.getD bk 0 + 1)) (Vbceah.placed e1 e2 c s) = goal := by
        have := V.int.inj he
        omega
      have hij : j = i0 := by
        by_cases hlt : j < i0
        · exact absurd he' (hbefore j bk hlt hbkj _ hx)
        · omega
      subst hij
      rw [hbkj] at hi0
      have := Option.some.inj hi0
      subst this
      exact ⟨_, rfl, q _ sD⟩
    · refine ⟨_, _, rfl, ((s2.trans s3).trans s4).trans s5, ?_⟩
      by_cases hlt : j < i0
      · exact hlt
      · have : j = i0 := by omega
        subst this
        rw [hbkj] at hi0
        have e := Option.some.inj hi0
        subst e
        have hff := hf
        unfold TdM.firstWith at hff
        have h3 := List.find?_some hff
        rw [hx] at h3
        exact absurd (by rw [beq_iff_eq.mp h3]) he
  · rintro σ H' ⟨a, b, rfl, s2, hji⟩
    exfalso
    have := (List.getElem?_eq_some_iff.mp hi0).1
    simp at hji
    omega
theorem best_none {bs : List Book} {e1 e2 : Breaks} {goal : Nat} {p : List Nat} {c : Clock} : Vbceah.bestFrom bs e1 e2 goal 0 p c = [] := rfl
theorem rep0_go {H : Hp} {n : Nat} {pt : Addr} {Q : VK} (hpt : H pt = some (.tup [nV 0])) (hn : n ≤ 4) (q : ∀ r H', Same H H' → TkV H' (.ref r) (Vbceah.zeros n) → Q (.ref r) H') : rRep1 K (.ref pt) (.int (n : Int)) H Q := by
  have e : (Vbceah.zeros n).map nV = List.replicate n (nV 0) := by
    unfold Vbceah.zeros
    rw [List.map_replicate]
  refine ⟨pt, _, nV 0, rfl, rfl, SqT.of hpt, by omega, by omega, fun h1 => ?_, fun _ p hp => q p _ (Same.new hp) ⟨p, rfl, by rw [upd_same, e]; rfl⟩⟩
  have : n = 1 := by omega
  subst this
  exact q pt H (Same.refl _) ⟨pt, rfl, hpt⟩
theorem pure_best_from (vs : List V) (H : Hp) (Q : VK) (E : XK) (h : sp_best_from K A vs H Q E) : t_best_from K A E { nx := fun _ H' => Q .non H', rt := Q } (start ["books", "empties", "taken", "clocks", "least", "found", "book"] vs) H := by
  obtain ⟨x, y, rfl, bs, e1, e2, hB0, hbk, hE0, ok1, ok2, q⟩ := h
  have h4 := hbk.few
  obtain ⟨pb, vb, rfl, hBL, hBP⟩ := id hB0
  have hlb := hBP.length
  refine ⟨(by show 1 ≤ sizeLine; decide), fun pt hpt => ?_⟩
  have s0 := Same.new (o := .tup [V.int 0]) hpt
  refine ⟨_, rfl, pb, vb, rfl, .inl (s0.seq hBL), ?_⟩
  rw [hlb]
  refine rep0_go upd_same h4 fun pz H1 s1 htk => ?_
  refine ⟨(by show 2 ≤ sizeLine; decide), fun pc hpc => ?_⟩
  have s2 := Same.new (o := .tup [V.int 0, V.int 0]) hpc
  have sA := (s0.trans s1).trans s2
  have hck : CkV K (upd H1 pc (.tup [V.int 0, V.int 0])) (.ref pc) ⟨0, 0⟩ := pr_of upd_same
  have Fz := TdM.zeros_far bs
  refine ⟨_, rfl, _, rfl, _, rfl, _, rfl, _, _, _, _, rfl, bs, e1, e2, Vbceah.zeros bs.length, ⟨0, 0⟩, hB0.mono sA, hbk, hE0.mono sA, ok1, htk.mono s2, Fz, hck, fun H2 s3 => ?_⟩
  refine ⟨(by show 0 ≤ sizeLine; decide), fun pf hpf => ?_⟩
  have sB := sA.trans s3
  have s4 := Same.new (o := .lst []) hpf
  have hz := TdM.zeros_sum bs.length
  have el0 : Vbceah.leftOf bs (Vbceah.zeros bs.length) = Vbceah.sheetsIn bs := by unfold Vbceah.leftOf; rw [hz]; rfl
  refine ⟨fun m σ H' => ∃ (p : List Nat) (c : Clock) (vt vc : V) (b : Option V) (acc : List Nat), σ = [some (.ref pb), some y, some vt, some vc, some (nV (Vbceah.least bs e1 e2)), some (.ref pf), b] ∧ Same H2 H' ∧ Far bs p ∧ TkV H' vt p ∧ CkV K H' vc c ∧
      m = Vbceah.leftOf bs p ∧ Vbceah.leastFrom bs e1 e2 p c = Vbceah.least bs e1 e2 ∧ H' pf = some (.lst ((nts acc).map V.int)) ∧ acc ++ Vbceah.bestFrom bs e1 e2 (Vbceah.least bs e1 e2) m p c = Vbceah.best bs e1 e2 ∧ acc.length + m = Vbceah.sheetsIn bs,
    ⟨_, Vbceah.zeros bs.length, ⟨0, 0⟩, .ref pz, .ref pc, none, [], rfl, s4, Fz, (htk.mono (s2.trans s3)).mono s4, (hck.mono s3).mono s4, rfl, rfl, upd_same, by rw [el0]; rfl, by rw [el0]; simp⟩, ?_⟩
  rintro m σ H' ⟨p, c, vt, vc, b, acc, rfl, s5, F, ht, hc, rfl, hgoal, hpf', hbest, haccl⟩
  have sC := sB.trans s5
  have h12 := hbk.all
  refine ⟨_, rfl, _, rfl, _, _, rfl, bs, p, hB0.mono sC, hbk, ht, F.len, fun H3 s6 => ⟨_, rfl, ?_⟩⟩
  have sD := sC.trans s6
  cases hw : TdM.wholeP bs p with
  | true =>
    have hfull := (TdM.far_zip F).1.mp hw
    have hm : Vbceah.leftOf bs p = 0 := by unfold Vbceah.leftOf; omega
    rw [hm, best_none, List.append_nil] at hbest
    refine ⟨_, rfl, q _ _ sD ⟨pf, rfl, ?_⟩⟩
    rw [s6.keep hpf', hbest]
  | false =>
    refine ⟨fun σ' H' => ∃ m', m' < _ ∧ _, fun _ _ h => h, ?_⟩
    have hlt : p.sum < Vbceah.sheetsIn bs := by
      have h1 := (TdM.far_zip F).2
      have h2 := mt (TdM.far_zip F).1.mpr (by rw [hw]; exact Bool.false_ne_true)
      omega
    obtain ⟨bk, xx, hf, hnx, hgx⟩ := TdM.first_some ok1 ok2 F hw hgoal
    obtain ⟨s, hs, rfl⟩ := next_some hnx
    obtain ⟨F', hsum', hbl⟩ := TdM.next_far F hnx
    have hbp : bk < p.length := by rw [F.len]; exact hbl
    refine ⟨_, rfl, _, rfl, _, rfl, _, rfl, _, rfl, _, _, _, _, _, rfl, bs, e1, e2, p, c, Vbceah.least bs e1 e2, bk, hB0.mono sD, hbk, hE0.mono sD, ok1, ht.mono s6, F, hc.mono s6, rfl, hf, fun H4 s7 => ?_⟩
    have sE := sD.trans s7
    obtain ⟨pq, rfl, hq⟩ := ht.mono (s6.trans s7)
    obtain ⟨wk, hwk, pk, us, rfl, hTk, hU⟩ := bs_at (Paired.mapP hBP fun _ _ z => z.mono sE) hbl
    obtain ⟨us0, hu, hus⟩ := pd_get hU hs
    refine ⟨_, rfl, _, rfl, _, rfl, _, rfl, ix_go (.inl (sE.seq hBL)) hwk ⟨_, rfl, _, rfl, ix_go (.inr (SqT.of hq)) (getD_tk hbp) (ix_go (.inr hTk) hu ?_)⟩⟩
    refine ⟨_, _, _, rfl, e1, e2, c, s, hE0.mono sE, hc.mono (s6.trans s7), hus, fun v5 H5 s8 hc5 => ?_⟩
    refine ⟨_, rfl, _, rfl, _, _, rfl, p, bk, ⟨pq, rfl, s8.keep hq⟩, rfl, hbp, by rw [F.len]; omega, fun v6 H6 s9 ht6 => ?_⟩
    have sF := (s6.trans s7).trans (s8.trans s9)
    have hpf6 := sF.keep hpf'
    refine ⟨_, rfl, tyL hpf6, _, rfl, _, _, _, rfl, rfl, hpf6, line_lt (by simp; omega), ?_⟩
    have hleft : Vbceah.leftOf bs (p.set bk (p.getD bk 0 + 1)) + 1 = Vbceah.leftOf bs p := by
      unfold Vbceah.leftOf
      simp only at hsum'
      omega
    have hb2 : Vbceah.bestFrom bs e1 e2 (Vbceah.least bs e1 e2) (Vbceah.leftOf bs p) p c = bk :: Vbceah.bestFrom bs e1 e2 (Vbceah.least bs e1 e2) (Vbceah.leftOf bs (p.set bk (p.getD bk 0 + 1))) (p.set bk (p.getD bk 0 + 1)) (Vbceah.placed e1 e2 c s) := by
      rw [← hleft]
      exact TdM.bestFrom_succ hf hnx
    obtain ⟨q6, rfl, hq6⟩ := ht6
    refine ⟨Vbceah.leftOf bs (p.set bk (p.getD bk 0 + 1)), by omega, p.set bk (p.getD bk 0 + 1), Vbceah.placed e1 e2 c s, .ref q6, v5, some (nV bk), acc ++ [bk], rfl, (s5.trans sF).mut hpf, F', ⟨q6, rfl, ?_⟩, (hc5.mono s9).mut hpf6, rfl, hgx, ?_, ?_, ?_⟩
    · rw [upd_ne (ne_of hq6 hpf6 fun z => by cases z)]
      exact hq6
    · rw [upd_same]
      simp [nts]
    · rw [← hbest, hb2, List.append_assoc]
      rfl
    · rw [List.length_append, List.length_singleton]
      omega
end
end Td
set_option Elab.async false
set_option linter.all false
set_option maxRecDepth 100000
set_option maxHeartbeats 4000000
/-! Two desks, from promise to reading: workings, refusals. -/
namespace Td
open PySem PySem.Spec PyProof.Rows L2
open Vbceah (Sheet Book Breaks State Clock Reach)
open TdM (Bks Fit Iv Ok Far Good)
section
variable {K : PySem.W.Frag} {mg : Str → Option Value} {A : Ad}
theorem eqV_int (a b : Int) : eqV (.int a) (.int b) = decide (a = b) := rfl
theorem inV_ints (n : Int) : ∀ ns : List Int, inV (.int n) (ns.map V.int) = decide (n ∈ ns)
  | [] => rfl
  | m :: r => by
    have ih := inV_ints n r
    unfold inV at ih ⊢
    rw [List.map_cons, List.any_cons, ih, eqV_int]
    by_cases h1 : m = n
    · simp [h1]
    · have h2 : ¬ n = m := fun z => h1 z.symm
      simp [h1, h2]
theorem flat_ints (ns : List Int) : (ns.map V.int).all flatV = true := by
  induction ns with
  | nil => rfl
  | cons n r ih => rw [List.map_cons, List.all_cons, ih]; rfl
theorem int_at {ns : List Int} {i : Nat} {v : V} (h : (ns.map V.int)[i]? = some v) : ∃ n, ns[i]? = some n ∧ v = .int n := by
  rw [List.getElem?_map] at h
  cases e : ns[i]? with
  | none => rw [e] at h; cases h
  | some n => rw [e] at h; exact ⟨n, rfl, (Option.some.inj h).symm⟩
theorem pure_each_once (vs : List V) (H : Hp) (Q : VK) (E : XK) (h : sp_each_once K A vs H Q E) : t_each_once K A E { nx := fun _ H' => Q .non H', rt := Q } (start ["some", "at", "number"] vs) H := by
  obtain ⟨x, rfl, ns, ⟨p, rfl, hp⟩, hl, q⟩ := h
  refine ⟨_, rfl, p, ns.map V.int, rfl, hp, fun D hD => lc_it (walk_enum (xs := ns.map V.int)) (fun i H' => Same H H' ∧ H' D = some (.lst (((ns.take i).eraseDups).map V.int)))
    ⟨Same.new hD, upd_same⟩ (fun i H' _ h => h.1.seq hp) ?_ ?_⟩
  · rintro i v H0 H' hi ⟨s1, h1⟩ ⟨Tt, xn, xb, rfl, hT, rfl, en, eb⟩
    obtain rfl : V.int (i : Nat) = xn := Option.some.inj en
    obtain ⟨n, hn, rfl⟩ := int_at eb
    have s2 := Same.new (o := .tup [.int (i : Nat), .int n]) hT
    refine ⟨Tt, _, rfl, SqT.of upd_same, rfl, _, _, rfl, _, _, rfl, rfl, rfl, ?_⟩
    have s12 := s1.trans s2
    refine ⟨_, rfl, _, rfl, _, rfl, _, rfl, p, _, rfl, s12.seq hp, fun p1 hp1 => ?_⟩
    have s3 := Same.new (o := .lst (cutV (ns.map V.int) none (some ((i : Nat) : Int)))) hp1
    have ec : cutV (ns.map V.int) none (some ((i : Nat) : Int)) = (ns.take i).map V.int := by rw [cut_take, List.map_take]
    have h1' := (s2.trans s3).keep h1
    have hlen : ((ns.take i).eraseDups.map V.int).length ≤ 100000 := by
      have := TdM.dups_length (ns.take i)
      rw [List.length_map]
      rw [List.length_take] at this
      omega
    refine ⟨p1, _, rfl, .inl (SqL.of upd_same), rfl, by rw [ec]; exact flat_ints _, _, rfl, ?_⟩
    rw [ec, inV_ints]
    have et : ns.take (i + 1) = ns.take i ++ [n] := take_at hn
    by_cases hm : n ∈ ns.take i
    · rw [decide_eq_true hm]
      refine ⟨(s1.trans s2).trans ?_, ?_⟩
      · rw [← ec]; exact s3
      · rw [et, TdM.eraseDups_snoc, if_pos hm]
        rw [ec] at h1'
        exact h1'
    · rw [decide_eq_false hm]
      rw [ec] at h1' s3
      refine ⟨_, rfl, _, h1', line_lt hlen, ((s1.trans s2).trans s3).mut hD, ?_⟩
      rw [upd_same, et, TdM.eraseDups_snoc, if_neg hm, List.map_append]
      rfl
  · rintro H' ⟨s1, h1⟩
    refine q _ _ s1 ⟨D, rfl, ?_⟩
    rw [h1, List.length_map, List.take_length]
theorem cnt_le (n : Int) (ns : List Int) : ns.count n ≤ ns.length := List.count_le_length
theorem pure_judge (vs : List V) (H : Hp) (Q : VK) (E : XK) (h : sp_judge K A vs H Q E) : t_judge K A E { nx := fun _ H' => Q .non H', rt := Q } (start ["slips", "some", "right", "untold", "state", "number"] vs) H := by
  obtain ⟨x, y, rfl, t, ns, rfl, ⟨p, rfl, hp⟩, hl, q⟩ := h
  refine ⟨_, rfl, _, rfl, ns, ⟨p, rfl, hp⟩, hl, fun v H1 s1 ⟨pm, em, hpm⟩ => ?_⟩
  subst em
  refine ⟨pm, rfl, ⟨_, SqL.of hpm⟩, fun D hD => lc_it walk_list (fun i H' => Same H1 H' ∧ H' D = some (.lst (((ns.eraseDups.take i).filter (Vbceah.possible t ns)).map V.int)))
    ⟨Same.new hD, upd_same⟩ (fun i H' _ h => SqL.of (h.1.keep hpm)) ?_ ?_⟩
  · rintro i v H0 H' hi ⟨s2, h1⟩ ⟨rfl, hv⟩
    obtain ⟨n, hn, rfl⟩ := int_at hv
    have sA := s1.trans s2
    have hcl := cnt_le n ns
    refine ⟨rfl, _, rfl, p, _, rfl, .inl (sA.seq hp), _, rfl, .inl ⟨rfl, _, sA.seq hp⟩, _, rfl, p, ns, n, rfl, rfl, sA.seq hp, _, _, rfl, rfl, _, rfl, _, _, rfl, rfl, _, rfl, ?_⟩
    have et : ns.eraseDups.take (i + 1) = ns.eraseDups.take i ++ [n] := take_at hn
    have hlen : (((ns.eraseDups.take i).filter (Vbceah.possible t ns)).map V.int).length ≤ 100000 := by
      have h1 := TdM.dups_length ns
      have h2 := List.length_filter_le (Vbceah.possible t ns) (ns.eraseDups.take i)
      rw [List.length_map]
      rw [List.length_take] at h2
      omega
    refine if_d (fun hc => ?_) (fun hc => ?_)
    · rw [List.length_map] at hc
      have hpos : Vbceah.possible t ns n = true := by unfold Vbceah.possible; exact decide_eq_true (by omega)
      refine ⟨_, rfl, _, h1, line_lt hlen, s2.mut hD, ?_⟩
      rw [upd_same, et, List.filter_append, List.filter_cons_of_pos hpos, List.map_append]
      rfl
    · rw [List.length_map] at hc
      have hpos : ¬ Vbceah.possible t ns n = true := by unfold Vbceah.possible; rw [decide_eq_true_eq]; omega
      refine ⟨s2, ?_⟩
      rw [h1, et, List.filter_append, List.filter_cons_of_neg hpos]
      simp
  · rintro H' ⟨s2, h1⟩
    rw [List.length_map, List.take_length] at h1
    have h1 : H' D = some (.lst ((Vbceah.candidates t ns).map V.int)) := h1
    have sA := s1.trans s2
    have hcl : (Vbceah.candidates t ns).length ≤ 30 := by
      have h1 := TdM.dups_length ns
      have h2 := List.length_filter_le (Vbceah.possible t ns) ns.eraseDups
      unfold Vbceah.candidates Vbceah.kinds
      omega
    have fin : ∀ (k u : Int) (H2 : Hp), Same H' H2 → TdM.judgeOf t ns = [k, u, ((Vbceah.candidates t ns).length : Int)] ++ Vbceah.candidates t ns → 
        ∀ (p1 : Addr), H2 p1 = none → ∀ R : VK, (∀ v H3, Same H H3 → NwF H H3 v (TdM.judgeOf t ns) → R v H3) →
        rCat (.ref p1) (.ref D) (upd H2 p1 (.lst [.int k, .int u, .int (((Vbceah.candidates t ns).map V.int).length : Nat)])) R := by
      intro k u H2 s3 e p1 hp1 R hR
      have s4 := Same.new (o := .lst [.int k, .int u, .int (((Vbceah.candidates t ns).map V.int).length : Nat)]) hp1
      refine ⟨p1, D, _, _, rfl, rfl, upd_same, (s3.trans s4).keep h1, line_le (by simp; omega), fun p2 hp2 => hR _ _ (((sA.trans s3).trans s4).trans (Same.new hp2)) ⟨p2, rfl, ((sA.trans s3).trans s4).free hp2, ?_⟩⟩
      rw [upd_same, e]
      simp
    refine ⟨_, rfl, p, _, rfl, .inl (sA.seq hp), _, rfl, _, _, rfl, rfl, ?_⟩
    refine ⟨_, rfl, _, rfl, ?_⟩
    have eu : Vbceah.unseen t ns = decide (ns.length ≤ t) := rfl
    have el : ((ns.map V.int).length : Int) = (ns.length : Int) := by rw [List.length_map]
    refine if_d (fun hu => ?_) (fun hu => ?_)
    · have hu' : Vbceah.unseen t ns = true := by rw [eu]; exact decide_eq_true (by omega)
      refine ⟨_, rfl, _, rfl, D, _, rfl, .inl (SqL.of h1), (by show 3 ≤ sizeLine; decide), fun p1 hp1 => ⟨_, rfl, fin 0 1 H' (Same.refl _) ?_ p1 hp1 _ q⟩⟩
      unfold TdM.judgeOf Vbceah.verdict
      rw [hu']
      rfl
    · have hu' : Vbceah.unseen t ns = false := by rw [eu]; exact decide_eq_false (by omega)
      have last : ∀ (k : Int) (b : Option V), ∀ H2, Same H' H2 → TdM.judgeOf t ns = [k, 0, ((Vbceah.candidates t ns).length : Int)] ++ Vbceah.candidates t ns →
          tRet (tOp rCat (tLst (tCons (tVar 4) (tCons (tC (.int 0)) (tCons (tCB (rLen K) (tCons (tVar 2) tNil)) tNil)))) (tVar 2)) { nx := fun _ H' => Q .non H', rt := Q } [some (nV t), some (.ref p), some (.ref D), b, some (.int k), none] H2 := by
        intro k b H2 s3 e
        exact ⟨_, rfl, _, rfl, D, _, rfl, .inl (SqL.of (s3.keep h1)), (by show 3 ≤ sizeLine; decide), fun p1 hp1 => ⟨_, rfl, fin k 0 H2 s3 e p1 hp1 _ q⟩⟩
      refine ⟨_, rfl, D, _, rfl, .inl (SqL.of h1), rfl, _, rfl, ?_⟩
      have ej : ∀ k : Nat, (match Vbceah.candidates t ns with
          | [] => 2
          | [_] => 1
          | _ => 0) = k → TdM.judgeOf t ns = [(k : Int), 0, ((Vbceah.candidates t ns).length : Int)] ++ Vbceah.candidates t ns := by
        intro k hk
        unfold TdM.judgeOf Vbceah.verdict
        rw [hu', if_neg Bool.false_ne_true, if_neg Bool.false_ne_true]
        subst hk
        rfl
      have eH1 : ∀ {p0 : Addr}, H' p0 = none → SqL K (upd H' p0 (.lst [])) D ((Vbceah.candidates t ns).map V.int) := fun h => SqL.of ((Same.new h).keep h1)
      refine if_d (fun h1c => ?_) (fun h1c => ?_)
      · have hlc : (Vbceah.candidates t ns).length = 1 := by
          have := V.int.inj h1c
          rw [List.length_map] at this
          omega
        obtain ⟨c0, hc0⟩ := List.length_eq_one_iff.mp hlc
        refine ⟨_, rfl, (by show 0 ≤ sizeLine; decide), fun p0 hp0 => eq_nil_go (eH1 hp0) (SqL.of upd_same) ⟨_, rfl, ?_⟩⟩
        rw [hc0]
        exact last 1 _ _ (Same.new hp0) (ej 1 (by rw [hc0]))
      · have hlc : (Vbceah.candidates t ns).length ≠ 1 := fun z => h1c (by rw [List.length_map, z]; rfl)
        refine ⟨_, rfl, (by show 0 ≤ sizeLine; decide), fun p0 hp0 => eq_nil_go (eH1 hp0) (SqL.of upd_same) ⟨_, rfl, ?_⟩⟩
        cases hc : Vbceah.candidates t ns with
        | nil => exact last 2 _ _ (Same.new hp0) (ej 2 (by rw [hc]))
        | cons c0 r =>
          cases r with
          | nil => rw [hc] at hlc; exact absurd rfl hlc
          | cons c1 r => exact last 0 _ _ (Same.new hp0) (ej 0 (by rw [hc]))
theorem pure_least_two (vs : List V) (H : Hp) (Q : VK) (E : XK) (h : sp_least_two K A vs H Q E) : t_least_two K A E { nx := fun _ H' => Q .non H', rt := Q } (start ["some", "found", "number"] vs) H := by
  obtain ⟨x, rfl, ns, ⟨p, rfl, hp⟩, hl, q⟩ := h
  refine ⟨_, rfl, _, rfl, ns, ⟨p, rfl, hp⟩, hl, fun v H1 s1 ⟨pm, em, hpm⟩ => ?_⟩
  subst em
  have hdl := TdM.dups_length ns
  refine ⟨pm, rfl, ⟨_, SqL.of hpm⟩, fun D hD => lc_it walk_list (fun i H' => Same H1 H' ∧ H' D = some (.lst ((nts ((ns.eraseDups.take i).map fun v => ns.length - ns.count v)).map V.int)))
    ⟨Same.new hD, upd_same⟩ (fun i H' _ h => SqL.of (h.1.keep hpm)) ?_ ?_⟩
  · rintro i v H0 H' hi ⟨s2, h1⟩ ⟨rfl, hv⟩
    obtain ⟨n, hn, rfl⟩ := int_at hv
    have sA := s1.trans s2
    have hcl := cnt_le n ns
    have et : ns.eraseDups.take (i + 1) = ns.eraseDups.take i ++ [n] := take_at hn
    refine ⟨rfl, ?_⟩
    refine ⟨_, rfl, p, _, rfl, .inl (sA.seq hp), _, rfl, .inl ⟨rfl, _, sA.seq hp⟩, _, rfl, p, ns, n, rfl, rfl, sA.seq hp, _, _, rfl, rfl, _, h1, line_lt ?_, s2.mut hD, ?_⟩
    · simp
      omega
    · rw [upd_same, et, List.map_append]
      have e : V.int (((ns.map V.int).length : Int) - (ns.count n : Int)) = nV (ns.length - ns.count n) := by
        rw [List.length_map]
        congr 1
        omega
      show some (HO.lst (_ ++ [V.int (((ns.map V.int).length : Int) - (ns.count n : Int))])) = _
      rw [e]
      simp [nts]
  · rintro H' ⟨s2, h1⟩
    rw [List.length_map, List.take_length] at h1
    have sA := s1.trans s2
    have hl2 : (((nts (ns.eraseDups.map fun v => ns.length - ns.count v)).map V.int)).length + 2 ≤ 100000 := by simp; omega
    refine ⟨_, rfl, p, _, rfl, .inl (sA.seq hp), _, rfl, p, _, rfl, .inl (sA.seq hp), (by show 2 ≤ sizeLine; decide), fun p1 hp1 => ?_⟩
    have s3 := Same.new (o := .lst [.int ((ns.map V.int).length : Nat), .int ((ns.map V.int).length : Nat)]) hp1
    refine ⟨D, p1, _, _, rfl, rfl, s3.keep h1, upd_same, line_le hl2, fun p2 hp2 => ?_⟩
    have eall : (nts (ns.eraseDups.map fun v => ns.length - ns.count v)).map V.int ++ [V.int ((ns.map V.int).length : Nat), .int ((ns.map V.int).length : Nat)] = (nts (ns.eraseDups.map (fun v => ns.length - ns.count v) ++ [ns.length, ns.length])).map V.int := by
      rw [List.length_map]
      simp
    refine ⟨_, rfl, p2, nts (ns.eraseDups.map (fun v => ns.length - ns.count v) ++ [ns.length, ns.length]), rfl, SqL.of (by rw [upd_same, eall]), fun ns' p3 hperm hsort hp3 => ?_⟩
    obtain ⟨L, hL, rfl⟩ := TdM.perm_map_inv hperm
    have hlen := hL.length_eq
    rw [List.length_append] at hlen
    match L, hL, hlen with
    | [], _, hlen => simp at hlen
    | [_], _, hlen => simp at hlen
    | a :: b :: rest, hL, _ =>
      refine ⟨_, rfl, p3, _, rfl, SqL.of upd_same, fun p4 hp4 => ?_⟩
      refine q _ _ a b ((((sA.trans s3).trans (Same.new hp2)).trans (Same.new hp3)).trans (Same.new hp4)) ⟨rest, hL, ?_⟩ ⟨p4, rfl, ?_⟩
      · have := List.pairwise_map.mp hsort
        exact this.imp fun h => by omega
      · rw [upd_same]
        have e : cutV (((a :: b :: rest).map fun n : Nat => (n : Int)).map V.int) none (some 2) = _ := cut_take _ 2
        rw [e]
        rfl
theorem pure_more (vs : List V) (H : Hp) (Q : VK) (E : XK) (h : sp_more K A vs H Q E) : t_more K A E { nx := fun _ H' => Q .non H', rt := Q } (start ["slips", "some", "first", "second"] vs) H := by
  obtain ⟨x, y, rfl, t, ns, rfl, ht, hp, hl, q⟩ := h
  refine ⟨_, rfl, _, rfl, ns, hp, hl, fun v H1 a b s1 h2 ⟨pm, em, hpm⟩ => ?_⟩
  subst em
  have e := TdM.more_is (t := t) h2
  rw [e] at q
  unfold TdM.moreSaid at q
  refine ⟨pm, _, rfl, SqL.of hpm, rfl, _, _, rfl, _, _, rfl, rfl, ?_⟩
  refine ⟨_, rfl, _, rfl, _, _, rfl, rfl, _, rfl, if_d (fun h1 => ?_) (fun h1 => ?_)⟩
  · have h1 : (t : Int) < (a : Int) := h1
    rw [if_pos (by omega)] at q
    exact ⟨(by show 1 ≤ sizeLine; decide), fun p1 hp1 => q _ _ (s1.trans (Same.new hp1)) ⟨p1, rfl, s1.free hp1, upd_same⟩⟩
  · have h1 : ¬ (t : Int) < (a : Int) := h1
    rw [if_neg (by omega)] at q
    refine ⟨_, rfl, _, rfl, _, _, rfl, rfl, _, rfl, if_d (fun h1 => ?_) (fun h1 => ?_)⟩
    · have h1 : (t : Int) < (b : Int) := h1
      rw [if_pos (by omega)] at q
      exact ⟨(by show 3 ≤ sizeLine; decide), fun p1 hp1 => q _ _ (s1.trans (Same.new hp1)) ⟨p1, rfl, s1.free hp1, upd_same⟩⟩
    · have h1 : ¬ (t : Int) < (b : Int) := h1
      rw [if_neg (by omega)] at q
      refine ⟨_, rfl, _, _, rfl, rfl, _, rfl, _, _, rfl, rfl, _, rfl, _, _, rfl, rfl, .inl ⟨by decide, by decide⟩, _, rfl, _, _, rfl, rfl, _, rfl, _, _, rfl, rfl, _, _, rfl, rfl, (by show 3 ≤ sizeLine; decide), fun p1 hp1 => q _ _ (s1.trans (Same.new hp1)) ⟨p1, rfl, s1.free hp1, upd_same⟩⟩
theorem pure_ask (vs : List V) (H : Hp) (Q : VK) (E : XK) (h : sp_ask K A vs H Q E) : t_ask K A E { nx := fun _ H' => Q .non H', rt := Q } (start ["good", "code"] vs) H := by
  obtain ⟨x, y, rfl, b, c, rfl, rfl, q1, q2⟩ := h
  refine ⟨_, rfl, _, rfl, ?_⟩
  cases b with
  | true => exact q1 rfl
  | false => exact ⟨_, rfl, _, rfl, fun d hd => q2 rfl d _ (Same.new hd) upd_same⟩
theorem pure_ask_all (vs : List V) (H : Hp) (Q : VK) (E : XK) (h : sp_ask_all K A vs H Q E) : t_ask_all K A E { nx := fun _ H' => Q .non H', rt := Q } (start ["some", "low", "high", "number"] vs) H := by
  obtain ⟨x, y, z, rfl, ns, lo, hi, ⟨p, rfl, hp⟩, rfl, rfl, q1, q2⟩ := h
  refine ⟨_, rfl, p, rfl, ⟨_, hp⟩, for_it walk_list (fun i σ H' => H' = H ∧ (∃ a : Option V, σ = [some (.ref p), some (.int lo), some (.int hi), a]) ∧ Within (ns.take i) lo hi)
    ⟨rfl, ⟨none, rfl⟩, fun n hn => by cases hn⟩ (fun i σ H' _ h => by rw [h.1]; exact hp) ?_ ?_⟩
  · rintro i v σ H0 H' hi' ⟨rfl, ⟨a, rfl⟩, hw⟩ ⟨rfl, hv⟩
    obtain ⟨n, hn, rfl⟩ := int_at hv
    have bad : ¬ (lo ≤ n ∧ n ≤ hi) → Rz A H' E (-1) := fun hb => q2 fun hall => hb (hall n (List.mem_of_getElem? hn))
    have good : lo ≤ n → n ≤ hi → Within (ns.take (i + 1)) lo hi := fun h1 h2 m hm => by
      rw [take_at hn] at hm
      rcases List.mem_append.mp hm with hm | hm
      · exact hw m hm
      · rw [List.mem_singleton.mp hm]; exact ⟨h1, h2⟩
    refine ⟨_, rfl, _, rfl, _, _, rfl, rfl, _, rfl, if_d (fun h1 => ?_) (fun h1 => ?_)⟩
    · refine ⟨_, rfl, _, _, rfl, rfl, _, _, rfl, _, _, rfl, rfl, fun h2 => ?_, fun h2 => ?_⟩
      · exact ⟨rfl, ⟨_, rfl⟩, good h1 (of_decide_eq_true h2)⟩
      · exact bad fun z => of_decide_eq_false h2 z.2
    · exact ⟨_, _, rfl, _, _, rfl, rfl, fun h2 => (by cases h2), fun _ => bad fun z => h1 z.1⟩
  · rintro σ H' ⟨rfl, _, hw⟩
    refine q1 ?_
    rw [List.length_map, List.take_length] at hw
    exact hw
theorem within_one {n lo hi : Int} : Within [n] lo hi ↔ lo ≤ n ∧ n ≤ hi := ⟨fun h => h n List.mem_cons_self, fun h m hm => by rw [List.mem_singleton.mp hm]; exact h⟩
theorem pure_ask_workings (vs : List V) (H : Hp) (Q : VK) (E : XK) (h : sp_ask_workings K A vs H Q E) : t_ask_workings K A E { nx := fun _ H' => Q .non H', rt := Q } (start ["slips", "row"] vs) H := by
  obtain ⟨x, y, rfl, t, ns, rfl, ⟨p, rfl, hp⟩, hl, q1, q2⟩ := h
  refine ⟨_, rfl, (by show 1 ≤ sizeLine; decide), fun p1 hp1 => ?_⟩
  have s1 := Same.new (o := .lst [V.int t]) hp1
  refine ⟨_, _, _, rfl, [t], 0, 10, ⟨p1, rfl, SqL.of upd_same⟩, rfl, rfl, fun h1 => ?_, fun h1 => (q2 fun z => h1 (within_one.mpr ⟨z.1, z.2.1⟩)).mono s1⟩
  have h1 := within_one.mp h1
  refine ⟨_, rfl, p, _, rfl, .inl (s1.seq hp), _, _, rfl, rfl, _, _, rfl, _, _, rfl, rfl, fun h2 => ?_, fun h2 => ?_⟩
  · refine ⟨_, rfl, _, _, rfl, rfl, _, _, _, rfl, ns, -1000000000, 1000000000, ⟨p, rfl, s1.seq hp⟩, rfl, rfl, fun h3 => q1 h1 h3 _ s1, fun h3 => (q2 fun z => h3 z.2.2).mono s1⟩
  · have := of_decide_eq_false h2
    rw [List.length_map] at this
    omega
theorem pure_judged (vs : List V) (H : Hp) (Q : VK) (E : XK) (h : sp_judged K A vs H Q E) : t_judged K A E { nx := fun _ H' => Q .non H', rt := Q } (start ["slips", "row"] vs) H := by
  obtain ⟨x, y, rfl, t, ns, rfl, hp, hl, q1, q2⟩ := h
  refine ⟨_, rfl, _, rfl, _, _, rfl, t, ns, rfl, hp.is, hl, fun h1 h2 H1 s1 => ?_, q2⟩
  obtain ⟨k, rfl⟩ : ∃ k : Nat, t = k := ⟨t.toNat, by omega⟩
  exact ⟨_, rfl, _, rfl, _, _, rfl, k, ns, rfl, (hp.mono s1).is, hl, fun v H2 s2 h => q1 ⟨h1.1, h1.2, h2⟩ v H2 (s1.trans s2) (h.back s1)⟩
theorem pure_more_told (vs : List V) (H : Hp) (Q : VK) (E : XK) (h : sp_more_told K A vs H Q E) : t_more_told K A E { nx := fun _ H' => Q .non H', rt := Q } (start ["slips", "row"] vs) H := by
  obtain ⟨x, y, rfl, t, ns, rfl, hp, hl, q1, q2⟩ := h
  refine ⟨_, rfl, _, rfl, _, _, rfl, t, ns, rfl, hp.is, hl, fun h1 h2 H1 s1 => ?_, q2⟩
  obtain ⟨k, rfl⟩ : ∃ k : Nat, t = k := ⟨t.toNat, by omega⟩
  exact ⟨_, rfl, _, rfl, _, _, rfl, k, ns, rfl, by omega, (hp.mono s1).is, hl, fun v H2 s2 h => q1 ⟨h1.1, h1.2, h2⟩ v H2 (s1.trans s2) (h.back s1)⟩
end
end Td
set_option Elab.async false
set_option linter.all false
set_option maxRecDepth 100000
set_option maxHeartbeats 4000000
/-! Two desks, from promise to reading: the object. -/
namespace Td
open PySem PySem.Spec PyProof.Rows L2
open Vbceah (Sheet Book Breaks State Clock Reach)
open TdM (Bks Fit Iv Ok Far Good)
section
variable {K : PySem.W.Frag} {mg : Str → Option Value} {A : Ad}
section
variable {H : Hp} {v : V} {pf C dx : Addr} {fs : List (Str × V)} {o : HO}
theorem tup_mutI {a : Addr} {ys : List V} (hf : H pf = some (.ins C dx fs)) (h : SqT K H a ys) : SqT K (upd H pf o) a ys := by
  rcases h with (h | ⟨ob, h⟩) | h
  · exact .inl (.inl (by rw [upd_ne (ne_of h hf fun z => by cases z)]; exact h))
  · exact .inl (.inr ⟨ob, by rw [upd_ne (ne_of h hf fun z => by cases z)]; exact h⟩)
  · exact .inr h
theorem PrV.mutI {a b : Nat} (hf : H pf = some (.ins C dx fs)) (h : PrV K H v a b) : PrV K (upd H pf o) v a b := let ⟨p, h1, h2⟩ := h; ⟨p, h1, tup_mutI hf h2⟩
theorem BkV.mutI {l : Book} (hf : H pf = some (.ins C dx fs)) (h : BkV K H v l) : BkV K (upd H pf o) v l := let ⟨p, vs, h1, h2, h3⟩ := h; ⟨p, vs, h1, tup_mutI hf h2, Paired.mapP h3 fun _ _ z => z.mutI hf⟩
theorem StV.mutI {l : Breaks} (hf : H pf = some (.ins C dx fs)) (h : StV K H v l) : StV K (upd H pf o) v l := let ⟨p, vs, h1, h2, h3⟩ := h; ⟨p, vs, h1, tup_mutI hf h2, Paired.mapP h3 fun _ _ z => z.mutI hf⟩
end
theorem putF_len (f : Str) (v : V) : ∀ fs : List (Str × V), (putF f v fs).length ≤ fs.length + 1
  | [] => Nat.le_refl _
  | (g, x) :: r => by
    unfold putF
    split
    · simp
    · have := putF_len f v r
      simp
      omega
abbrev Rm3 (x y z : V) : List (Str × V) := [(("books" : Str), x), (("empties" : Str), y), (("order" : Str), z)]
theorem put3 {fs : List (Str × V)} (h : fs = [] ∨ ∃ x y z, fs = Rm3 x y z) (x y z : V) : putF "order" z (putF "empties" y (putF "books" x fs)) = Rm3 x y z := by
  rcases h with rfl | ⟨x', y', z', rfl⟩
  · rfl
  · rfl
theorem st_new {H : Hp} {b q : Addr} {o o' : HO} (h : H b = some o) (hq : H q = none) : upd H q o' b = some o := (Same.new hq).keep h
theorem st_off {H : Hp} {b p : Addr} {o o' : HO} (h : H b = some o) (hne : b ≠ p) : upd H p o' b = some o := by rw [upd_ne hne]; exact h
theorem some_new {H : Hp} {b q : Addr} {o' : HO} (h : ∃ o, H b = some o) : ∃ o, upd H q o' b = some o := by
  by_cases e : b = q
  · exact ⟨_, by rw [e]; exact upd_same⟩
  · obtain ⟨o, h⟩ := h; exact ⟨o, st_off h e⟩
theorem none_of {H H' : Hp} {x : Addr} (h : ∀ b, (∃ o, H b = some o) → ∃ o, H' b = some o) (hx : H' x = none) : H x = none := by
  cases e : H x with
  | none => rfl
  | some o => obtain ⟨o', h'⟩ := h x ⟨o, e⟩; rw [hx] at h'; cases h'
theorem reset_go (T : Txt K mg A) {H : Hp} {p dx : Addr} {fs : List (Str × V)} {E : XK} {D : Ends} (hp : H p = some (.ins A.room dx fs)) (hfs : fs = [] ∨ ∃ x y z, fs = Rm3 x y z)
    (q : ∀ (H' : Hp) (pb pe po : Addr), (∀ b o, H b = some o → b ≠ p → H' b = some o) → (∀ b, H' b = none → H b = none) → H pb = none → H pe = none → H po = none → RoomAt K A H' p Vbceah.start [p, pb, pe, po] → D.nx [some (.ref p)] H') : t_Room_init K A E D [some (.ref p)] H := by
  have hl : fs.length ≤ 3 := by rcases hfs with rfl | ⟨_, _, _, rfl⟩ <;> simp
  have hl1 : ∀ v, (putF "books" v fs).length ≤ 4 := fun v => Nat.le_trans (putF_len _ _ _) (by omega)
  have hl2 : ∀ v w, (putF "empties" w (putF "books" v fs)).length ≤ 5 := fun v w => Nat.le_trans (putF_len _ _ _) (by have := hl1 v; omega)
  refine ⟨(by show 0 ≤ sizeLine; decide), fun pb hpb => ⟨_, rfl, p, A.room, dx, fs, rfl, st_new hp hpb, T.cl, T.n_books, by omega, ?_⟩⟩
  have npb : pb ≠ p := fun e => by rw [e, hp] at hpb; cases hpb
  obtain ⟨H2, e2⟩ : ∃ H2, H2 = upd (upd H pb (.lst [])) p (.ins A.room dx (putF "books" (.ref pb) fs)) := ⟨_, rfl⟩
  have p2 : H2 p = some (.ins A.room dx (putF "books" (.ref pb) fs)) := by rw [e2]; exact upd_same
  have b2 : H2 pb = some (.lst []) := by rw [e2]; exact st_off upd_same npb
  have k2 : ∀ b o, H b = some o → b ≠ p → H2 b = some o := fun b o h n => by rw [e2]; exact st_off (st_new h hpb) n
  have f2 : ∀ b, (∃ o, H b = some o) → ∃ o, H2 b = some o := fun b h => by rw [e2]; exact some_new (some_new h)
  rw [← e2]
  refine ⟨(by show 0 ≤ sizeLine; decide), fun t1 ht1 => ⟨(by show 0 ≤ sizeLine; decide), fun t2 ht2 => ⟨(by show 2 ≤ sizeLine; decide), fun pe hpe => ?_⟩⟩⟩
  obtain ⟨H5, e5⟩ : ∃ H5, H5 = upd (upd (upd H2 t1 (.tup [])) t2 (.tup [])) pe (.lst [.ref t1, .ref t2]) := ⟨_, rfl⟩
  have s25 : Same H2 H5 := by rw [e5]; exact ((Same.new ht1).trans (Same.new ht2)).trans (Same.new hpe)
  have p5 := s25.keep p2
  have b5 := s25.keep b2
  have x5 : H5 pe = some (.lst [.ref t1, .ref t2]) := by rw [e5]; exact upd_same
  have t15 : H5 t1 = some (.tup []) := by rw [e5]; exact st_new (st_new upd_same ht2) hpe
  have t25 : H5 t2 = some (.tup []) := by rw [e5]; exact st_new upd_same hpe
  have fpe : H pe = none := none_of (fun b h => some_new (some_new (f2 b h))) hpe
  rw [← e5]
  refine ⟨_, rfl, p, A.room, dx, _, rfl, p5, T.cl, T.n_empties, by have := hl1 (.ref pb); omega, ?_⟩
  have npe : pe ≠ p := fun e => by rw [e, hp] at fpe; cases fpe
  have nt1 : t1 ≠ p := ne_of t15 p5 fun z => by cases z
  have nt2 : t2 ≠ p := ne_of t25 p5 fun z => by cases z
  refine ⟨(by show 0 ≤ sizeLine; decide), fun po hpo => ⟨_, rfl, p, A.room, dx, _, rfl, st_new upd_same hpo, T.cl, T.n_order, by have := hl2 (.ref pb) (.ref pe); omega, ?_⟩⟩
  have fpo : H po = none := none_of (fun b h => some_new ((f2 b h).elim fun o h => ⟨o, s25.keep h⟩)) hpo
  have npo : po ≠ p := fun e => by rw [e, hp] at fpo; cases fpo
  rw [put3 hfs]
  have go : ∀ {b : Addr} {o : HO}, H5 b = some o → b ≠ p → ∀ u', upd (upd (upd H5 p (.ins A.room dx (putF "empties" (.ref pe) (putF "books" (.ref pb) fs)))) po (.lst [])) p u' b = some o := fun h n u' => st_off (st_new (st_off h n) hpo) n
  have nbe : pb ≠ pe := fun e => by rw [e, x5] at b5; cases b5
  have nbo : pb ≠ po := fun e => by rw [← e, st_off b5 npb] at hpo; cases hpo
  have neo : pe ≠ po := fun e => by rw [← e, st_off x5 npe] at hpo; cases hpo
  refine q _ pb pe po (fun b o h n => go (s25.keep (k2 b o h n)) n _) (fun b hb => none_of (fun b h => some_new (some_new (some_new ((f2 b h).elim fun o h => ⟨o, s25.keep h⟩)))) hb) hpb fpe fpo ⟨dx, pb, pe, po, [], .ref t1, .ref t2, rfl, nbe, nbo, neo, upd_same, go b5 npb _, .nil, go x5 npe _, ?_, ?_, st_off upd_same npo⟩
  · exact ⟨t1, [], rfl, SqT.of (go t15 nt1 _), .nil⟩
  · exact ⟨t2, [], rfl, SqT.of (go t25 nt2 _), .nil⟩
theorem pure_Room_init (T : Txt K mg A) (vs : List V) (H : Hp) (Q : VK) (E : XK) (h : sp_Room_init K A vs H Q E) : t_Room_init K A E { nx := fun _ H' => Q .non H', rt := Q } (start ["self"] vs) H := by
  obtain ⟨x, rfl, p, dx, rfl, hp, q⟩ := h
  refine reset_go (E := E) T hp (.inl rfl) fun H' pb pe po h1 _ h2 h3 h4 R => q H' [p, pb, pe, po] h1 (fun x hx => ?_) R
  simp only [List.mem_cons, List.not_mem_nil, or_false] at hx
  rcases hx with rfl | rfl | rfl | rfl
  · exact .inl rfl
  · exact .inr h2
  · exact .inr h3
  · exact .inr h4
theorem pure_Room_clear (T : Txt K mg A) (vs : List V) (H : Hp) (Q : VK) (E : XK) (h : sp_Room_clear K A vs H Q E) : t_Room_clear K A E { nx := fun _ H' => Q .non H', rt := Q } (start ["self"] vs) H := by
  obtain ⟨x, rfl, a, s, m, rfl, R, q⟩ := h
  obtain ⟨dx, pb, pe, po, vb, x, y, rfl, n1, n2, n3, h2, h3, h4, h5, h6, h7, h8⟩ := R.ex
  refine reset_go (E := E) T h2 (.inr ⟨_, _, _, rfl⟩) fun H' pb' pe' po' k1 kd f1 f2 f3 R' => q H' [a, pb', pe', po'] ⟨fun b o hb hn => k1 b o hb fun z => hn (by rw [z]; exact List.mem_cons_self), fun x hx => ?_, kd⟩ R'
  simp only [List.mem_cons, List.not_mem_nil, or_false] at hx
  rcases hx with rfl | rfl | rfl | rfl
  · exact .inl List.mem_cons_self
  · exact .inr (.inr f1)
  · exact .inr (.inr f2)
  · exact .inr (.inr f3)
theorem pure_Room_add_book (T : Txt K mg A) (vs : List V) (H : Hp) (Q : VK) (E : XK) (h : sp_Room_add_book K A vs H Q E) : t_Room_add_book K A E { nx := fun _ H' => Q .non H', rt := Q } (start ["self", "book"] vs) H := by
  obtain ⟨x, yb, rfl, a, s, m, b, rfl, R, hb, hl, q⟩ := h
  obtain ⟨dx, pb, pe, po, vb, x, y, rfl, n1, n2, n3, h2, h3, h4, h5, h6, h7, h8⟩ := R.ex
  have hvl := h4.length
  refine ⟨_, rfl, a, A.room, dx, _, .ref pb, rfl, h2, T.cl, T.n_books, rfl, tyL h3, _, rfl, _, _, _, rfl, rfl, h3, line_lt (by omega), ?_⟩
  refine q _ ⟨fun c o hc hn => st_off hc fun z => hn (by simp [z]), fun x hx => .inl hx, fun b hb => none_of (fun b h => some_new h) hb⟩ ⟨dx, pb, pe, po, _, x, y, rfl, n1, n2, n3, st_off h2 (ne_of h2 h3 fun z => by cases z), upd_same, ?_, st_off h5 (Ne.symm n1), h6.mut h3, h7.mut h3, st_off h8 (Ne.symm n2)⟩
  exact pd_app (Paired.mapP h4 fun _ _ z => z.mut h3) (pd_one (hb.mut h3))
theorem pure_Room_set_empty (T : Txt K mg A) (vs : List V) (H : Hp) (Q : VK) (E : XK) (h : sp_Room_set_empty K A vs H Q E) : t_Room_set_empty K A E { nx := fun _ H' => Q .non H', rt := Q } (start ["self", "desk", "stretches"] vs) H := by
  obtain ⟨x, yb, z, rfl, a, s, m, d, e, rfl, R, rfl, hd, hz, q⟩ := h
  obtain ⟨dx, pb, pe, po, vb, x, y, rfl, n1, n2, n3, h2, h3, h4, h5, h6, h7, h8⟩ := R.ex
  refine ⟨_, rfl, _, rfl, a, A.room, dx, _, .ref pe, rfl, h2, T.cl, T.n_empties, rfl, _, rfl, pe, _, _, d, rfl, rfl, h5, (by have hd2 : d = 0 ∨ d = 1 := (by omega); rcases hd2 with rfl | rfl <;> rfl), ?_⟩
  refine q _ ⟨fun c o hc hn => st_off hc fun z => hn (by simp [z]), fun x hx => .inl hx, fun b hb => none_of (fun b h => some_new h) hb⟩ ?_
  have hd2 : d = 0 ∨ d = 1 := by omega
  rcases hd2 with rfl | rfl
  · exact ⟨dx, pb, pe, po, vb, z, y, rfl, n1, n2, n3, st_off h2 (ne_of h2 h5 fun z => by cases z), st_off h3 n1, Paired.mapP h4 fun _ _ z => z.mut h5, upd_same, hz.mut h5, h7.mut h5, st_off h8 (Ne.symm n3)⟩
  · exact ⟨dx, pb, pe, po, vb, x, z, rfl, n1, n2, n3, st_off h2 (ne_of h2 h5 fun z => by cases z), st_off h3 n1, Paired.mapP h4 fun _ _ z => z.mut h5, upd_same, h6.mut h5, hz.mut h5, st_off h8 (Ne.symm n3)⟩
theorem pure_Room_set_order (T : Txt K mg A) (vs : List V) (H : Hp) (Q : VK) (E : XK) (h : sp_Room_set_order K A vs H Q E) : t_Room_set_order K A E { nx := fun _ H' => Q .non H', rt := Q } (start ["self", "order"] vs) H := by
  obtain ⟨x, yb, rfl, a, s, m, o, p, rfl, R, rfl, hp, hpm, q⟩ := h
  obtain ⟨dx, pb, pe, po, vb, x, y, rfl, n1, n2, n3, h2, h3, h4, h5, h6, h7, h8⟩ := R.ex
  simp only [List.mem_cons, List.not_mem_nil, or_false, not_or] at hpm
  obtain ⟨m1, m2, m3, m4⟩ := hpm
  refine ⟨_, rfl, _, rfl, a, A.room, dx, _, rfl, h2, T.cl, T.n_order, (by show 3 < 1000; decide), ?_⟩
  have ea : ∀ {b : Addr} {ys : List V}, H b = some (.lst ys) → b ≠ a := fun h => ne_of h h2 fun z => by cases z
  refine q _ [a, pb, pe, p] ⟨fun c o hc hn => st_off hc fun z => hn (by simp [z]), fun x hx => ?_, fun b hb => none_of (fun b h => some_new h) hb⟩ ⟨dx, pb, pe, p, vb, x, y, rfl, n1, Ne.symm m2, Ne.symm m3, upd_same, st_off h3 (ea h3), Paired.mapP h4 fun _ _ z => z.mutI h2, st_off h5 (ea h5), h6.mutI h2, h7.mutI h2, st_off hp (ea hp)⟩
  simp only [List.mem_cons, List.not_mem_nil, or_false] at hx
  rcases hx with rfl | rfl | rfl | rfl
  · exact .inl (by simp)
  · exact .inl (by simp)
  · exact .inl (by simp)
  · exact .inr (.inl rfl)
end
end Td
set_option Elab.async false
set_option linter.all false
set_option maxRecDepth 100000
set_option maxHeartbeats 4000000
/-! Two desks, from promise to reading: what only reads the object. -/
namespace Td
open PySem PySem.Spec PyProof.Rows L2
open Vbceah (Sheet Book Breaks State Clock Reach)
open TdM (Bks Fit Iv Ok Far Good)
section
variable {K : PySem.W.Frag} {mg : Str → Option Value} {A : Ad}
theorem RoomAt.flds {H : Hp} {a : Addr} {s : State} {m : List Addr} (R : RoomAt K A H a s m) : ∃ (dx : Addr) (fs : List (Str × V)) (pb pe po : Addr) (ws : List V), H a = some (.ins A.room dx fs) ∧ fs.lookup ("books" : Str) = some (.ref pb) ∧ fs.lookup ("empties" : Str) = some (.ref pe) ∧ fs.lookup ("order" : Str) = some (.ref po) ∧
    H pb = some (.lst ws) ∧ Paired (BkV K H) ws s.books ∧ EmV K H (.ref pe) s.empty1 s.empty2 ∧ H po = some (.lst ((nts s.order).map V.int)) ∧ (∀ f : Str, f ∉ ([("books" : Str), ("empties" : Str), ("order" : Str)] : List Str) → fs.lookup f = none) := by
  obtain ⟨dx, pb, pe, po, vb, x, y, rfl, n1, n2, n3, h2, h3, h4, h5, h6, h7, h8⟩ := R.ex
  refine ⟨dx, _, pb, pe, po, vb, h2, rfl, rfl, rfl, h3, h4, ⟨pe, x, y, rfl, .inl (SqL.of h5), h6, h7⟩, h8, fun f hf => ?_⟩
  simp only [List.mem_cons, List.not_mem_nil, or_false, not_or] at hf
  obtain ⟨g1, g2, g3⟩ := hf
  have b1 : (f == ("books" : Str)) = false := by simpa using g1
  have b2 : (f == ("empties" : Str)) = false := by simpa using g2
  have b3 : (f == ("order" : Str)) = false := by simpa using g3
  unfold RmF
  simp [List.lookup, b1, b2, b3]
theorem nts_v (l : List Nat) : (nts l).map V.int = l.map nV := by simp [nts]
theorem pure_taken_by (T : Txt K mg A) (vs : List V) (H : Hp) (Q : VK) (E : XK) (h : sp_taken_by K A vs H Q E) : t_taken_by K A E { nx := fun _ H' => Q .non H', rt := Q } (start ["room", "order", "book"] vs) H := by
  obtain ⟨x, y, rfl, a, s, m, o, rfl, R, iv, ⟨p, rfl, hp⟩, ho, q⟩ := h
  obtain ⟨dx, fs, pb, pe, po, ws, hR, lb, le, lo, hB, hBP, hE, hO, _⟩ := R.flds
  have hl := hBP.length
  have h4 := iv.bks.few
  refine ⟨_, rfl, a, A.room, dx, fs, (.ref pb), rfl, hR, T.cl, T.n_books, lb, pb, ws, rfl, .inl (SqL.of hB), _, rfl, by omega, by omega, fun D hD => lc_it walk_rng (fun i H' => Same H H' ∧ H' D = some (.lst ((nts ((List.range i).map fun b : Nat => o.count (b : Int))).map V.int)))
    ⟨Same.new hD, by rw [upd_same]; rfl⟩ (fun _ _ _ _ => trivial) ?_ ?_⟩
  · rintro i v H0 H' hi ⟨s1, h1⟩ ⟨rfl, rfl⟩
    refine ⟨rfl, ?_⟩
    refine ⟨_, rfl, .inl ⟨rfl, _, s1.seq hp⟩, _, rfl, p, o, _, rfl, rfl, s1.seq hp, _, h1, line_lt ?_, s1.mut hD, ?_⟩
    · simp
      omega
    · rw [upd_same, List.range_succ]
      simp [nts]
  · rintro H' ⟨s1, h1⟩
    refine ⟨D, _, rfl, SqL.of h1, fun l hl' => q _ _ (s1.trans (Same.new hl')) ⟨l, rfl, ?_⟩⟩
    rw [upd_same, nts_v]
    have e : ((ws.length : Nat) : Int).toNat = s.books.length := by omega
    rw [e]
theorem rgc_two {n : Nat} (h : n ≤ 1000) : RgC 0 ((2 * n : Nat) : Int) 2 n := by
  have e : ((2 * n : Nat) : Int) = 2 * (n : Int) := by omega
  have er : Builtin.Range.rangeSize 0 ((2 * n : Nat) : Int) 2 = n := by
    unfold Builtin.Range.rangeSize
    rw [e]
    split
    · split <;> omega
    · omega
  refine ⟨by decide, by decide, ?_, er⟩
  unfold Builtin.Range.small
  rw [er]
  rw [if_pos (show (2 : Int) > 0 by decide)]
  unfold Builtin.Range.rangeFitsLong
  rw [e]
  simp only [Bool.and_eq_true, Bool.or_eq_true, decide_eq_true_eq, beq_iff_eq]
  omega
theorem pure_twos (vs : List V) (H : Hp) (Q : VK) (E : XK) (h : sp_twos K A vs H Q E) : t_twos K A E { nx := fun _ H' => Q .non H', rt := Q } (start ["row", "at"] vs) H := by
  obtain ⟨x, rfl, ns, r, ⟨p, rfl, hp⟩, hl, hpos, hr, q⟩ := h
  obtain ⟨h1, h2⟩ := TdM.twos_some hr
  have el : (((ns.map V.int).length : Nat) : Int) = ((2 * r.length : Nat) : Int) := by rw [List.length_map, h1]
  refine ⟨_, rfl, p, _, rfl, .inl hp, 0, _, 2, r.length, rfl, by rw [el]; exact rgc_two (by omega), fun D hD => lc_it walk_rangeC (fun i H' => Same H H' ∧ ∃ acc : List V, H' D = some (.lst acc) ∧ Paired (BrV K H') acc (r.take i))
    ⟨Same.new hD, [], upd_same, .nil⟩ (fun _ _ _ _ => trivial) ?_ ?_⟩
  · rintro i v H0 H' hi ⟨s1, acc, hacc, hP⟩ ⟨rfl, rfl⟩
    obtain ⟨b, hb⟩ : ∃ b, r[i]? = some b := ⟨_, List.getElem?_eq_getElem hi⟩
    obtain ⟨u, w, hu, hw, rfl⟩ := h2 i b hb
    have ai : (0 : Int) + ((i : Nat) : Int) * 2 = ((2 * i : Nat) : Int) := by omega
    have al := hP.length
    rw [List.length_take] at al
    have vu : (ns.map V.int)[2 * i]? = some (nV u.toNat) := by
      rw [List.getElem?_map, hu]
      have := hpos u (List.mem_of_getElem? hu)
      show some (V.int u) = some (V.int (u.toNat : Int))
      rw [Int.toNat_of_nonneg this]
    have vw : (ns.map V.int)[2 * i + 1]? = some (nV w.toNat) := by
      rw [List.getElem?_map, hw]
      have := hpos w (List.mem_of_getElem? hw)
      show some (V.int w) = some (V.int (w.toNat : Int))
      rw [Int.toNat_of_nonneg this]
    have iu : ∀ {R : VK}, R (nV u.toNat) H' → rIx K (.ref p) (.int (0 + ((i : Nat) : Int) * 2)) H' R := fun r => by
      rw [ai]
      exact ix_go (.inl (s1.seq hp)) vu r
    have iw : ∀ {R : VK}, R (nV w.toNat) H' → rIx K (.ref p) (.int (0 + ((i : Nat) : Int) * 2 + 1)) H' R := fun r => by
      rw [ai, show ((2 * i : Nat) : Int) + 1 = ((2 * i + 1 : Nat) : Int) by omega]
      exact ix_go (.inl (s1.seq hp)) vw r
    refine ⟨rfl, ?_⟩
    refine ⟨_, rfl, _, rfl, iu ⟨_, rfl, _, rfl, _, _, rfl, rfl, iw ⟨(by show 2 ≤ sizeLine; decide), fun t ht => ?_⟩⟩⟩
    have s2 := Same.new (o := .tup [nV u.toNat, nV w.toNat]) ht
    refine ⟨acc, s2.keep hacc, line_lt (by omega), (s1.trans s2).mut hD, _, upd_same, ?_⟩
    rw [take_at hb]
    exact pd_app (Paired.mapP hP fun _ _ z => (z.mono s2).mut (s2.keep hacc)) (pd_one ((pr_of upd_same : PrV K _ (.ref t) u.toNat w.toNat).mut (s2.keep hacc)))
  · rintro H' ⟨s1, acc, hacc, hP⟩
    rw [List.take_length] at hP
    refine ⟨D, _, rfl, SqL.of hacc, fun l hl' => q _ _ (s1.trans (Same.new hl')) ⟨l, acc, rfl, SqT.of upd_same, Paired.mapP hP fun _ _ z => z.mono (Same.new hl')⟩⟩
theorem pure_sheets_now (T : Txt K mg A) (vs : List V) (H : Hp) (Q : VK) (E : XK) (h : sp_sheets_now K A vs H Q E) : t_sheets_now K A E { nx := fun _ H' => Q .non H', rt := Q } (start ["room"] vs) H := by
  obtain ⟨x, rfl, a, s, m, rfl, R, iv, q⟩ := h
  obtain ⟨dx, fs, pb, pe, po, ws, hR, lb, le, lo, hB, hBP, hE, hO, _⟩ := R.flds
  have h12 := iv.few
  exact ⟨_, rfl, a, A.room, dx, fs, (.ref pb), rfl, hR, T.cl, T.n_books, lb, _, rfl, a, A.room, dx, fs, (.ref po), rfl, hR, T.cl, T.n_order, lo, _, _, rfl, s.books, s.order, ⟨pb, ws, rfl, SqL.of hB, hBP⟩, iv.bks, ⟨po, rfl, SqL.of hO⟩, iv.fit, by omega, q⟩
theorem lens_sum (bs : List Book) : (nts (bs.map fun b => b.length)).sum = ((Vbceah.sheetsIn bs : Nat) : Int) := nts_sum _
/-- the lengths of the books, taken in a comprehension -/
theorem lc_lens {J : It} {G : Hp → Prop} {ws : List V} {bs : List Book} {g : TG} {te : TE} {vs : List Nat} {σ : L2.St} {H1 : Hp} {D : Addr} {Qd : Hp → Prop} (w : Walk J ws.length G (YAt ws)) (hP : Paired (BkV K H1) ws bs) (hl : bs.length ≤ 1000) (hD : H1 D = none)
    (hG : ∀ H', Same H1 H' → G H')
    (step : ∀ (b : Book) (p : Addr) (us : List V) (H' : Hp) (R : V → Hp → Prop) (S : Hp → Prop), SqT K H' p us → us.length = b.length → R (nV b.length) H' → g (.ref p) (wipe σ vs) H' fun σ2 H2 => wipe σ2 vs = wipe σ vs ∧ tYes σ2 H2 fun b H3 => if b = true then te σ2 H3 R else S H3)
    (hd : ∀ H', Same H1 H' → H' D = some (.lst ((nts (bs.map fun b => b.length)).map V.int)) → Qd H') :
    ∃ W : Nat → Nat → Hp → Prop, (∃ m, W 0 m (upd H1 D (.lst []))) ∧ ∀ i m H, W i m H →
      (J.stop i H ∧ Qd H) ∨ (J.go i H ∧ ∃ Nx : Hp → Prop, (∀ H', Nx H' → ∃ m', m' < m ∧ W (i + 1) m' H') ∧ ∀ x H', J.yld i H x H' → g x (wipe σ vs) H' fun σ2 H2 => wipe σ2 vs = wipe σ vs ∧ tYes σ2 H2 fun b H3 =>
        if b = true then te σ2 H3 fun y H4 => ∃ acc, H4 D = some (.lst acc) ∧ acc.length < sizeLine ∧ Nx (upd H4 D (.lst (acc ++ [y]))) else Nx H3) := by
  have hlu := hP.length
  refine lc_it w (fun i H' => Same H1 H' ∧ H' D = some (.lst ((nts ((bs.take i).map fun b => b.length)).map V.int))) ⟨Same.new hD, by rw [upd_same]; rfl⟩ (fun i H' _ h => hG H' h.1) ?_ ?_
  · rintro i x H' H'' hi ⟨s1, h1⟩ ⟨rfl, hx⟩
    obtain ⟨s, hs, p, us, rfl, hp, hU⟩ := pd_getL hP hx
    refine step s p us _ _ _ (s1.tup hp) hU.length ⟨_, h1, line_lt (by simp; omega), s1.mut hD, ?_⟩
    rw [upd_same, take_at hs]
    simp
  · rintro H' ⟨s1, h1⟩
    refine hd H' s1 ?_
    rw [h1, hlu, List.take_length]
theorem pure_is_whole_room (T : Txt K mg A) (vs : List V) (H : Hp) (Q : VK) (E : XK) (h : sp_is_whole_room K A vs H Q E) : t_is_whole_room K A E { nx := fun _ H' => Q .non H', rt := Q } (start ["room", "book"] vs) H := by
  obtain ⟨x, rfl, a, s, m, rfl, R, iv, q⟩ := h
  obtain ⟨dx, fs, pb, pe, po, ws, hR, lb, le, lo, hB, hBP, hE, hO, _⟩ := R.flds
  have h4 := iv.bks.few
  refine ⟨_, rfl, a, A.room, dx, fs, (.ref po), rfl, hR, T.cl, T.n_order, lo, po, _, rfl, .inl (SqL.of hO), _, rfl, a, A.room, dx, fs, (.ref pb), rfl, hR, T.cl, T.n_books, lb, pb, rfl, ⟨_, SqL.of hB⟩, fun D hD =>
    lc_lens walk_list hBP (by omega) hD (fun H' s => SqL.of (s.keep hB)) (fun b p us H' R S hT hu r => ?_) fun H1 s1 h1 => ?_⟩
  · refine ⟨rfl, _, rfl, p, us, rfl, .inr hT, ?_⟩
    rw [hu]
    exact r
  · refine ⟨D, _, rfl, SqL.of h1, ?_⟩
    refine ⟨rfl, ?_⟩
    rw [lens_sum]
    have e : decide (V.int ((((nts s.order).map V.int).length : Nat) : Int) = V.int ((Vbceah.sheetsIn s.books : Nat) : Int)) = Vbceah.isWhole s.books s.order := by
      rw [TdM.whole_len iv.fit]
      have e1 : ((nts s.order).map V.int).length = s.order.length := by simp
      rw [e1]
      by_cases h : s.order.length = Vbceah.sheetsIn s.books
      · rw [decide_eq_true h, decide_eq_true (by rw [h])]
      · rw [decide_eq_false h, decide_eq_false fun z => h (by have := V.int.inj z; omega)]
    show Q (.bl (decide _)) H1
    rw [e]
    exact q _ s1
theorem pure_told (vs : List V) (H : Hp) (Q : VK) (E : XK) (h : sp_told K A vs H Q E) : t_told K A E { nx := fun _ H' => Q .non H', rt := Q } (start ["some"] vs) H := by
  obtain ⟨x, rfl, ns, ⟨p, rfl, hp⟩, hl, q⟩ := h
  refine ⟨_, rfl, p, _, rfl, .inl hp, (by show 1 ≤ sizeLine; decide), fun p1 hp1 => ?_⟩
  have s1 := Same.new (o := .lst [.int (((ns.map V.int).length : Nat) : Int)]) hp1
  refine ⟨_, rfl, p, _, rfl, .inl (s1.seq hp), fun p2 hp2 => ?_⟩
  have s2 := Same.new (o := .lst (ns.map V.int)) hp2
  refine ⟨p1, p2, _, _, rfl, rfl, s2.keep upd_same, upd_same, line_le (by simp; omega), fun p3 hp3 => q _ _ ((s1.trans s2).trans (Same.new hp3)) ⟨p3, rfl, (s1.trans s2).free hp3, ?_⟩⟩
  rw [upd_same, List.length_map]
  rfl
theorem pure_ends (T : Txt K mg A) (vs : List V) (H : Hp) (Q : VK) (E : XK) (h : sp_ends K A vs H Q E) : t_ends K A E { nx := fun _ H' => Q .non H', rt := Q } (start ["room"] vs) H := by
  obtain ⟨x, rfl, a, s, m, rfl, R, iv, q⟩ := h
  obtain ⟨dx, fs, pb, pe, po, ws, hR, lb, le, lo, hB, hBP, hE, hO, _⟩ := R.flds
  have h12 := iv.few
  have hsl := TdM.sheets_full iv.fit
  refine ⟨_, rfl, a, A.room, dx, fs, (.ref pe), rfl, hR, T.cl, T.n_empties, le, _, rfl, _, rfl, a, s, m, rfl, R, iv, fun v H1 s1 hs => ?_⟩
  refine ⟨_, _, rfl, _, _, _, hE.mono s1, hs.ss, by omega, fun v2 H2 s2 ⟨pc, ec, hpc⟩ => ?_⟩
  subst ec
  refine ⟨pc, _, rfl, .inr hpc, fun p1 hp1 => ?_⟩
  have s3 := Same.new (o := .lst [nV (Vbceah.clockOf s.empty1 s.empty2 (Vbceah.sheetsOf s.books s.order [])).one, nV (Vbceah.clockOf s.empty1 s.empty2 (Vbceah.sheetsOf s.books s.order [])).two]) hp1
  have sA := (s1.trans s2).trans s3
  refine ⟨_, rfl, _, rfl, a, s, m, rfl, R.mono sA, iv, fun H3 s4 => ⟨_, rfl, (by show 1 ≤ sizeLine; decide), fun p2 hp2 => ?_⟩⟩
  have s5 := Same.new (o := .lst [.int (if Vbceah.isWhole s.books s.order then 1 else 0)]) hp2
  refine ⟨p1, p2, _, _, rfl, rfl, (s4.trans s5).keep upd_same, upd_same, line_le (by simp), fun p3 hp3 => q _ _ (((sA.trans s4).trans s5).trans (Same.new hp3)) ⟨p3, rfl, ((sA.trans s4).trans s5).free hp3, ?_⟩⟩
  rw [upd_same]
  show _ = some (HO.lst ((VbceCore.ints [_, _, _]).map V.int))
  cases Vbceah.isWhole s.books s.order <;> rfl
theorem ints_app (l k : List Nat) : VbceCore.ints (l ++ k) = VbceCore.ints l ++ VbceCore.ints k := List.map_append
theorem pure_times (T : Txt K mg A) (vs : List V) (H : Hp) (Q : VK) (E : XK) (h : sp_times K A vs H Q E) : t_times K A E { nx := fun _ H' => Q .non H', rt := Q } (start ["room", "found", "clocks"] vs) H := by
  obtain ⟨x, rfl, a, s, m, rfl, R, iv, q⟩ := h
  obtain ⟨dx, fs, pb, pe, po, ws, hR, lb, le, lo, hB, hBP, hE, hO, _⟩ := R.flds
  have h12 := iv.few
  have hsl := TdM.sheets_full iv.fit
  refine ⟨_, rfl, a, A.room, dx, fs, (.ref po), rfl, hR, T.cl, T.n_order, lo, po, _, rfl, .inl (SqL.of hO), (by show 1 ≤ sizeLine; decide), fun p0 hp0 => ?_⟩
  have s0 := Same.new (o := .lst [.int ((((nts s.order).map V.int).length : Nat) : Int)]) hp0
  refine ⟨_, rfl, a, A.room, dx, fs, (.ref pe), rfl, s0.keep hR, T.cl, T.n_empties, le, _, rfl, _, rfl, a, s, m, rfl, R.mono s0, iv, fun v H1 s1 hs => ?_⟩
  have sA := s0.trans s1
  refine ⟨_, _, rfl, _, _, _, hE.mono sA, hs.ss, by omega, fun v2 H2 s2 ⟨pc, cs, ec, hpc, hP⟩ _ => ?_⟩
  subst ec
  have hcl := hP.length
  have hlc := TdM.clocks_length s.empty1 s.empty2 (Vbceah.sheetsOf s.books s.order []) ⟨0, 0⟩
  have sB := sA.trans s2
  generalize hL : Vbceah.clocks s.empty1 s.empty2 ⟨0, 0⟩ (Vbceah.sheetsOf s.books s.order []) = L at hP hcl hlc
  refine ⟨pc, rfl, ⟨_, SqL.of hpc⟩, for_it walk_list (fun i σ H' => ∃ (pf : Addr) (b : Option V), σ = [some (.ref a), some (.ref pf), b] ∧ Same H2 H' ∧ H pf = none ∧ H' pf = some (.lst (((L.length : Int) :: VbceCore.ints ((L.take i).flatMap fun c => [c.one, c.two])).map V.int)))
    ⟨p0, none, rfl, Same.refl _, hp0, ?_⟩ (fun i σ H' _ ⟨_, _, _, s, _⟩ => SqL.of (s.keep hpc)) ?_ ?_⟩
  · rw [(s1.trans s2).keep upd_same]
    have e : ((nts s.order).map V.int).length = L.length := by rw [hlc, hsl]; simp
    rw [e]
    rfl
  · rintro i v σ H0 H' hi ⟨pf, b, rfl, s3, hpf0, hf⟩ ⟨rfl, hv⟩
    obtain ⟨c, hc, pv, rfl, hpv⟩ := pd_getL hP hv
    have hi' : i < L.length := (List.getElem?_eq_some_iff.mp hc).1
    have hfl : ((L.take i).flatMap fun c => [c.one, c.two]).length = 2 * (L.take i).length := by
      generalize L.take i = X
      induction X with
      | nil => rfl
      | cons x X ih => rw [List.flatMap_cons, List.length_append, ih, List.length_cons]; simp; omega
    rw [List.length_take] at hfl
    refine ⟨_, rfl, _, rfl, pv, _, rfl, .inr (s3.tup hpv), fun p1 hp1 => ?_⟩
    have s4 := Same.new (o := .lst [nV c.one, nV c.two]) hp1
    refine ⟨pf, p1, _, _, rfl, rfl, s4.keep hf, upd_same, line_le ?_, fun p2 hp2 => ?_⟩
    · simp [VbceCore.ints, hfl]
      omega
    · refine ⟨p2, _, rfl, (s3.trans s4).trans (Same.new hp2), (sB.trans (s3.trans s4)).free hp2, ?_⟩
      rw [upd_same, take_at hc, List.flatMap_append, ints_app]
      simp [VbceCore.ints]
  · rintro σ H' ⟨pf, b, rfl, s3, hpf0, hf⟩
    refine ⟨_, rfl, q _ _ (sB.trans s3) ⟨pf, rfl, hpf0, ?_⟩⟩
    rw [hf, hcl, List.take_length, ← hL]
    rfl
theorem pure_least (T : Txt K mg A) (vs : List V) (H : Hp) (Q : VK) (E : XK) (h : sp_least K A vs H Q E) : t_least K A E { nx := fun _ H' => Q .non H', rt := Q } (start ["room", "start"] vs) H := by
  obtain ⟨x, rfl, a, s, m, rfl, R, iv, q⟩ := h
  obtain ⟨dx, fs, pb, pe, po, ws, hR, lb, le, lo, hB, hBP, hE, hO, _⟩ := R.flds
  have h4 := iv.bks.few
  have hlb := hBP.length
  have hBV : BsV K H (.ref pb) s.books := ⟨pb, ws, rfl, SqL.of hB, hBP⟩
  refine ⟨(by show 1 ≤ sizeLine; decide), fun pt hpt => ?_⟩
  have s0 := Same.new (o := .tup [V.int 0]) hpt
  refine ⟨_, rfl, a, A.room, dx, fs, (.ref pb), rfl, s0.keep hR, T.cl, T.n_books, lb, pb, ws, rfl, .inl (SqL.of (s0.keep hB)), ?_⟩
  rw [hlb]
  refine rep0_go upd_same h4 fun pz H1 s1 htk => ?_
  have sA := s0.trans s1
  refine ⟨_, rfl, a, A.room, dx, fs, (.ref pb), rfl, sA.keep hR, T.cl, T.n_books, lb, _, rfl, a, A.room, dx, fs, (.ref pe), rfl, sA.keep hR, T.cl, T.n_empties, le, _, rfl, (by show 2 ≤ sizeLine; decide), fun pc hpc => ?_⟩
  have s2 := Same.new (o := .tup [V.int 0, V.int 0]) hpc
  have sB := sA.trans s2
  refine ⟨_, _, _, _, rfl, s.books, s.empty1, s.empty2, Vbceah.zeros s.books.length, ⟨0, 0⟩, hBV.mono sB, iv.bks, hE.mono sB, iv.ok1, htk.mono s2, TdM.zeros_far _, (pr_of upd_same : CkV K _ (.ref pc) ⟨0, 0⟩), fun H3 s3 => ?_⟩
  have sC := sB.trans s3
  refine ⟨_, rfl, a, A.room, dx, fs, (.ref pb), rfl, sC.keep hR, T.cl, T.n_books, lb, _, rfl, s.books, hBV.mono sC, iv.bks, fun H4 s4 => ⟨(by show 2 ≤ sizeLine; decide), fun p hp => q _ _ ((sC.trans s4).trans (Same.new hp)) ⟨p, rfl, (sC.trans s4).free hp, ?_⟩⟩⟩
  rw [upd_same]
  rfl
theorem pure_left (T : Txt K mg A) (vs : List V) (H : Hp) (Q : VK) (E : XK) (h : sp_left K A vs H Q E) : t_left K A E { nx := fun _ H' => Q .non H', rt := Q } (start ["room", "clocks"] vs) H := by
  obtain ⟨x, rfl, a, s, m, rfl, R, iv, q⟩ := h
  obtain ⟨dx, fs, pb, pe, po, ws, hR, lb, le, lo, hB, hBP, hE, hO, _⟩ := R.flds
  have h12 := iv.few
  have hsl := TdM.sheets_full iv.fit
  have hBV : BsV K H (.ref pb) s.books := ⟨pb, ws, rfl, SqL.of hB, hBP⟩
  refine ⟨_, rfl, a, A.room, dx, fs, (.ref pe), rfl, hR, T.cl, T.n_empties, le, _, rfl, _, rfl, a, s, m, rfl, R, iv, fun v H1 s1 hs => ?_⟩
  refine ⟨_, _, rfl, _, _, _, hE.mono s1, hs.ss, by omega, fun v2 H2 s2 hc => ?_⟩
  have sA := s1.trans s2
  refine ⟨_, rfl, a, A.room, dx, fs, (.ref pb), rfl, sA.keep hR, T.cl, T.n_books, lb, _, rfl, a, A.room, dx, fs, (.ref pe), rfl, sA.keep hR, T.cl, T.n_empties, le, _, rfl, _, rfl, a, A.room, dx, fs, (.ref po), rfl, sA.keep hR, T.cl, T.n_order, lo, _, _, rfl, a, s, m, nts s.order, rfl, R.mono sA, iv, ⟨po, rfl, SqL.of (sA.keep hO)⟩, by simp; omega, fun v3 H3 s3 ht => ?_⟩
  have sB := sA.trans s3
  have et : ((List.range s.books.length).map fun b : Nat => (nts s.order).count (b : Int)) = Vbceah.progress s.books s.order := by
    unfold Vbceah.progress Vbceah.doneOf
    exact List.map_congr_left fun b _ => TdM.nts_count s.order b
  rw [et] at ht
  refine ⟨_, rfl, _, _, _, _, rfl, s.books, s.empty1, s.empty2, Vbceah.progress s.books s.order, _, hBV.mono sB, iv.bks, hE.mono sB, iv.ok1, ht, TdM.progress_far iv.fit, hc.mono s3, fun H4 s4 => ⟨(by show 1 ≤ sizeLine; decide), fun p hp => q _ _ ((sB.trans s4).trans (Same.new hp)) ⟨p, rfl, (sB.trans s4).free hp, ?_⟩⟩⟩
  rw [upd_same]
  rfl
end
end Td
set_option Elab.async false
set_option linter.all false
set_option maxRecDepth 100000
set_option maxHeartbeats 4000000
/-! Two desks, from promise to reading: each next book, the books told, desks that are never empty. -/
namespace Td
open PySem PySem.Spec PyProof.Rows L2
open Vbceah (Sheet Book Breaks State Clock Reach)
open TdM (Bks Fit Iv Ok Far Good)
section
variable {K : PySem.W.Frag} {mg : Str → Option Value} {A : Ad}
theorem progress_nts (s : State) : ((List.range s.books.length).map fun b : Nat => (nts s.order).count (b : Int)) = Vbceah.progress s.books s.order := by
  unfold Vbceah.progress Vbceah.doneOf
  exact List.map_congr_left fun b _ => TdM.nts_count s.order b
/-- what each book comes to, if it's the next -/
def nextOf (s : State) (b : Nat) : Int := match (Vbceah.bookAt s.books b)[(Vbceah.progress s.books s.order).getD b 0]? with
  | none => (-1 : Int)
  | some x => (Vbceah.leastFrom s.books s.empty1 s.empty2 ((Vbceah.progress s.books s.order).set b ((Vbceah.progress s.books s.order).getD b 0 + 1)) (Vbceah.placed s.empty1 s.empty2 (Vbceah.clockNow s s.order) x) : Int)
theorem pure_each_next (T : Txt K mg A) (vs : List V) (H : Hp) (Q : VK) (E : XK) (h : sp_each_next K A vs H Q E) : t_each_next K A E { nx := fun _ H' => Q .non H', rt := Q } (start ["room", "taken", "found", "number", "one", "clocks"] vs) H := by
  obtain ⟨x, rfl, a, s, m, rfl, R, iv, q⟩ := h
  obtain ⟨dx, fs, pb, pe, po, ws, hR, lb, le, lo, hB, hBP, hE, hO, _⟩ := R.flds
  have h12 := iv.few
  have h4 := iv.bks.few
  have hlb := hBP.length
  have hBV : BsV K H (.ref pb) s.books := ⟨pb, ws, rfl, SqL.of hB, hBP⟩
  have hOl : ((nts s.order).map V.int).length = s.order.length := by simp
  refine ⟨_, rfl, _, rfl, a, A.room, dx, fs, (.ref po), rfl, hR, T.cl, T.n_order, lo, _, _, rfl, a, s, m, nts s.order, rfl, R, iv, ⟨po, rfl, SqL.of hO⟩, by simp; omega, fun v1 H1 s1 ht => ?_⟩
  rw [progress_nts] at ht
  obtain ⟨pt, rfl, hpt⟩ := ht
  refine ⟨_, rfl, a, A.room, dx, fs, (.ref pb), rfl, s1.keep hR, T.cl, T.n_books, lb, pb, ws, rfl, .inl (SqL.of (s1.keep hB)), (by show 1 ≤ sizeLine; decide), fun pf hpf => ?_⟩
  have s2 := Same.new (o := .lst [.int ((ws.length : Nat) : Int)]) hpf
  refine ⟨_, rfl, a, A.room, dx, fs, (.ref pb), rfl, (s1.trans s2).keep hR, T.cl, T.n_books, lb, pb, ws, rfl, SqL.of ((s1.trans s2).keep hB), for_it (walk_enum (xs := ws)) (fun i σ H' => ∃ (c d e : Option V), σ = [some (.ref a), some (.ref pt), some (.ref pf), c, d, e] ∧ Same H1 H' ∧
      H' pf = some (.lst (((s.books.length : Int) :: (List.range i).map (nextOf s)).map V.int)))
    ⟨none, none, none, rfl, s2, by rw [upd_same, hlb]; rfl⟩ (fun i σ H' _ ⟨_, _, _, _, s3, _⟩ => SqL.of ((s1.trans s3).keep hB)) ?_ ?_⟩
  · rintro i v σ H0 H' hi ⟨c, d, e, rfl, s3, hf⟩ ⟨Tt, xn, xb, rfl, hT, rfl, en, eb⟩
    obtain rfl : V.int (i : Nat) = xn := Option.some.inj en
    obtain ⟨bk, hbk, hbv⟩ := pd_getL hBP eb
    have hib : i < s.books.length := (List.getElem?_eq_some_iff.mp hbk).1
    have ebk : bk = Vbceah.bookAt s.books i := by
      have := TdM.bookAt_some hib
      rw [hbk] at this
      exact Option.some.inj this
    subst ebk
    have s4 := Same.new (o := .tup [.int (i : Nat), xb]) hT
    have s34 := s3.trans s4
    obtain ⟨pk, us, rfl, hTk, hU⟩ := (hbv.mono s1).mono s34
    have hul := hU.length
    have hlp := TdM.progress_length s.books s.order
    have hfl : (((s.books.length : Int) :: (List.range i).map (nextOf s)).map V.int).length = i + 1 := by simp
    have er : ((s.books.length : Int) :: (List.range i).map (nextOf s)).map V.int ++ [V.int (nextOf s i)] = ((s.books.length : Int) :: (List.range (i + 1)).map (nextOf s)).map V.int := by
      rw [List.range_succ]
      simp
    have hpg := TdM.progress_getD (o := s.order) hib
    refine ⟨Tt, _, rfl, SqT.of upd_same, rfl, _, _, rfl, _, _, rfl, rfl, ?_⟩
    refine ⟨_, rfl, _, rfl, ix_go (.inr (SqT.of (s34.keep hpt))) (getD_tk (by rw [hlp]; exact hib)) ⟨_, rfl, pk, us, rfl, .inr hTk, rfl, _, rfl, if_d (fun he => ?_) (fun he => ?_)⟩⟩
    · have he' : (Vbceah.bookAt s.books i).length = (Vbceah.progress s.books s.order).getD i 0 := by
        have := V.int.inj he
        omega
      have ef : nextOf s i = -1 := by
        unfold nextOf
        rw [List.getElem?_eq_none (by omega)]
      refine ⟨_, rfl, tyL (s4.keep hf), _, _, _, rfl, rfl, s4.keep hf, line_lt (by omega), _, _, _, rfl, s34.mut hpf, ?_⟩
      rw [upd_same, ← er, ef]
    · have hlt : s.order.count i < (Vbceah.bookAt s.books i).length := by
        have h1 := iv.fit i
        have h2 : s.order.count i ≠ (Vbceah.bookAt s.books i).length := fun z => he (by rw [hpg, z, hul])
        omega
      obtain ⟨sh, hsh, happ⟩ := TdM.sheets_snoc iv.fit hlt
      have fit' := TdM.fit_take iv.fit i hlt
      have full' := TdM.sheets_full fit'
      have sA := s1.trans s34
      refine ⟨_, rfl, a, A.room, dx, fs, (.ref pe), rfl, sA.keep hR, T.cl, T.n_empties, le, _, rfl, a, A.room, dx, fs, (.ref pb), rfl, sA.keep hR, T.cl, T.n_books, lb, _, rfl, a, A.room, dx, fs, (.ref po), rfl, sA.keep hR, T.cl, T.n_order, lo, _, rfl, (by show 1 ≤ sizeLine; decide), fun p1 hp1 => ?_⟩
      have s5 := Same.new (o := .lst [.int ((i : Nat) : Int)]) hp1
      refine ⟨po, p1, _, _, rfl, rfl, (sA.trans s5).keep hO, upd_same, line_le (by rw [hOl]; simp; omega), fun p2 hp2 => ?_⟩
      have s6 := Same.new (o := .lst ((nts s.order).map V.int ++ [.int ((i : Nat) : Int)])) hp2
      have sB := (sA.trans s5).trans s6
      refine ⟨_, _, rfl, s.books, s.order ++ [i], hBV.mono sB, iv.bks, ⟨p2, rfl, SqL.of (by rw [upd_same]; simp [nts])⟩, fit', by rw [List.length_append]; simp; omega, fun v7 H7 s7 hs7 => ?_⟩
      have sC := sB.trans s7
      refine ⟨_, _, rfl, s.empty1, s.empty2, _, hE.mono sC, hs7.ss, by rw [full', List.length_append]; simp; omega, fun v8 H8 s8 hc8 => ?_⟩
      have sD := sC.trans s8
      have sF : Same H0 H8 := (((s4.trans s5).trans s6).trans s7).trans s8
      rw [happ, TdM.clock_snoc] at hc8
      have hbp : i < (Vbceah.progress s.books s.order).length := by rw [hlp]; exact hib
      refine ⟨_, rfl, tyL (sF.keep hf), ?_⟩
      refine ⟨_, rfl, a, A.room, dx, fs, (.ref pb), rfl, sD.keep hR, T.cl, T.n_books, lb, _, rfl, a, A.room, dx, fs, (.ref pe), rfl, sD.keep hR, T.cl, T.n_empties, le, _, rfl, _, rfl, _, _, rfl, Vbceah.progress s.books s.order, i, ⟨pt, rfl, (s3.trans sF).keep hpt⟩, rfl, hbp, by omega, fun v9 H9 s9 ht9 => ?_⟩
      have sE := sD.trans s9
      have hsh' : (Vbceah.bookAt s.books i)[(Vbceah.progress s.books s.order).getD i 0]? = some sh := by rw [hpg]; exact hsh
      refine ⟨_, rfl, _, _, _, _, rfl, s.books, s.empty1, s.empty2, _, _, hBV.mono sE, iv.bks, hE.mono sE, iv.ok1, ht9, (TdM.progress_far iv.fit).step hsh', hc8.mono s9, fun H10 s10 => ?_⟩
      have hf10 := (sF.trans (s9.trans s10)).keep hf
      refine ⟨_, _, _, rfl, rfl, hf10, line_lt (by omega), _, _, _, rfl, (s3.trans (sF.trans (s9.trans s10))).mut hpf, ?_⟩
      have ef : nextOf s i = (Vbceah.leastFrom s.books s.empty1 s.empty2 ((Vbceah.progress s.books s.order).set i ((Vbceah.progress s.books s.order).getD i 0 + 1)) (Vbceah.placed s.empty1 s.empty2 (Vbceah.clockOf s.empty1 s.empty2 (Vbceah.sheetsOf s.books s.order [])) sh) : Int) := by
        unfold nextOf
        rw [hsh']
        rfl
      rw [upd_same, ← er, ef]
  · rintro σ H' ⟨c, d, e, rfl, s3, hf⟩
    refine ⟨_, rfl, q _ _ (s1.trans s3) ⟨pf, rfl, s1.free hpf, ?_⟩⟩
    rw [hf, hlb]
    rfl
def told1 (b : Book) : List Int := (b.length : Int) :: VbceCore.ints (b.flatMap fun x => [x.first, x.second])
theorem two_len (X : List Sheet) : (X.flatMap fun x => [x.first, x.second]).length = 2 * X.length := by
  induction X with
  | nil => rfl
  | cons x X ih => rw [List.flatMap_cons, List.length_append, ih, List.length_cons]; simp; omega
theorem told1_len (b : Book) : (told1 b).length = 2 * b.length + 1 := by
  unfold told1 VbceCore.ints
  rw [List.length_cons, List.length_map, two_len]
theorem tolds_len : ∀ X : List Book, (∀ b ∈ X, b.length ≤ 6) → (X.flatMap told1).length ≤ 13 * X.length
  | [], _ => Nat.le_refl _
  | b :: X, h => by
    have h1 := tolds_len X fun c hc => h c (List.mem_cons_of_mem _ hc)
    have h2 := h b List.mem_cons_self
    rw [List.flatMap_cons, List.length_append, told1_len, List.length_cons]
    omega
theorem pure_books (T : Txt K mg A) (vs : List V) (H : Hp) (Q : VK) (E : XK) (h : sp_books K A vs H Q E) : t_books K A E { nx := fun _ H' => Q .non H', rt := Q } (start ["room", "found", "one", "sheet"] vs) H := by
  obtain ⟨x, rfl, a, s, m, rfl, R, iv, q⟩ := h
  obtain ⟨dx, fs, pb, pe, po, ws, hR, lb, le, lo, hB, hBP, hE, hO, _⟩ := R.flds
  have h4 := iv.bks.few
  have hlb := hBP.length
  refine ⟨_, rfl, a, A.room, dx, fs, (.ref pb), rfl, hR, T.cl, T.n_books, lb, pb, ws, rfl, .inl (SqL.of hB), (by show 1 ≤ sizeLine; decide), fun p0 hp0 => ?_⟩
  have s0 := Same.new (o := .lst [.int ((ws.length : Nat) : Int)]) hp0
  refine ⟨_, rfl, a, A.room, dx, fs, (.ref pb), rfl, s0.keep hR, T.cl, T.n_books, lb, pb, rfl, ⟨_, SqL.of (s0.keep hB)⟩, for_it walk_list (fun i σ H' => ∃ (pf : Addr) (b c : Option V), σ = [some (.ref a), some (.ref pf), b, c] ∧ Same H H' ∧ H pf = none ∧ H' pf = some (.lst (((s.books.length : Int) :: (s.books.take i).flatMap told1).map V.int)))
    ⟨p0, none, none, rfl, s0, hp0, by rw [upd_same, hlb]; rfl⟩ (fun i σ H' _ ⟨_, _, _, _, s1, _⟩ => SqL.of (s1.keep hB)) ?_ ?_⟩
  · rintro i v σ H0 H' hi ⟨pf, b, c, rfl, s1, hpf, hf⟩ ⟨rfl, hv⟩
    obtain ⟨bk, hbk, hbv⟩ := pd_getL hBP hv
    obtain ⟨pk, us, rfl, hTk, hU⟩ := id hbv
    have hul := hU.length
    have hib : i < s.books.length := (List.getElem?_eq_some_iff.mp hbk).1
    have hb6 := (iv.bks.six _ (List.mem_of_getElem? hbk)).2
    have hln := tolds_len (s.books.take i) fun c hc => (iv.bks.six c (List.mem_of_mem_take hc)).2
    rw [List.length_take] at hln
    have hll : ((((s.books.length : Int) :: (s.books.take i).flatMap told1)).map V.int).length ≤ 60 := by
      rw [List.length_map, List.length_cons]
      omega
    refine ⟨_, rfl, tyL hf, ?_⟩
    refine ⟨_, rfl, pk, us, rfl, .inr (s1.tup hTk), _, _, _, rfl, rfl, hf, line_lt (by omega), ?_⟩
    have s2 := s1.mut (o := .lst (((s.books.length : Int) :: (s.books.take i).flatMap told1).map V.int ++ [.int ((us.length : Nat) : Int)])) hpf
    refine ⟨_, rfl, pk, rfl, ⟨_, s2.tup hTk⟩, for_it walk_tup (fun j σ H' => ∃ (pf : Addr) (c : Option V), σ = [some (.ref a), some (.ref pf), some (.ref pk), c] ∧ Same H H' ∧ H pf = none ∧ H' pf = some (.lst (((s.books.length : Int) :: (s.books.take i).flatMap told1 ++ (bk.length : Int) :: VbceCore.ints ((bk.take j).flatMap fun x => [x.first, x.second])).map V.int)))
      ⟨pf, c, rfl, s2, hpf, ?_⟩ (fun i σ H' _ ⟨_, _, _, s1, _⟩ => s1.tup hTk) ?_ ?_⟩
    · rw [upd_same, hul, List.map_append]
      rfl
    · rintro j v σ H0 H2 hj ⟨pf, c, rfl, s3, hpf, hf⟩ ⟨rfl, hv⟩
      obtain ⟨sh, hsh, pv, rfl, hpv⟩ := pd_getL hU hv
      have hjl : j < bk.length := (List.getElem?_eq_some_iff.mp hsh).1
      refine ⟨_, rfl, _, rfl, pv, _, rfl, .inr (s3.tup hpv), fun p1 hp1 => ?_⟩
      have s4 := Same.new (o := .lst [nV sh.first, nV sh.second]) hp1
      refine ⟨pf, p1, _, _, rfl, rfl, s4.keep hf, upd_same, line_le ?_, fun p2 hp2 => ?_⟩
      · have h2 := two_len (bk.take j)
        rw [List.length_take] at h2
        rw [List.length_map] at hll
        unfold VbceCore.ints
        simp only [List.length_map, List.length_append, List.length_cons, List.length_nil, h2] at hll ⊢
        omega
      · refine ⟨p2, _, rfl, (s3.trans s4).trans (Same.new hp2), (s3.trans s4).free hp2, ?_⟩
        rw [upd_same, take_at hsh, List.flatMap_append, ints_app]
        simp [VbceCore.ints]
    · rintro σ H2 ⟨pf, c, rfl, s3, hpf, hf⟩
      rw [hul, List.take_length] at hf
      refine ⟨pf, _, _, rfl, s3, hpf, ?_⟩
      rw [hf, take_at hbk, List.flatMap_append, List.flatMap_singleton]
      rfl
  · rintro σ H' ⟨pf, b, c, rfl, s1, hpf, hf⟩
    refine ⟨_, rfl, q _ _ s1 ⟨pf, rfl, hpf, ?_⟩⟩
    rw [hf, hlb, List.take_length]
    rfl
/-! ### stretches compared with none -/
def brD (b : Nat × Nat) : PyData := .tuple [.int (b.1 : Int), .int (b.2 : Int)]
theorem dp_st {H : Hp} {v : V} {e : Breaks} (h : StV K H v e) : Dp K H v (.tuple (e.map brD)) := by
  obtain ⟨p, vs, rfl, hT, hP⟩ := h
  refine .tup hT ?_
  clear hT
  induction hP with
  | nil => exact .nil
  | cons r _ ih =>
    obtain ⟨q, rfl, hq⟩ := r
    exact .cons (.tup hq (.cons (.int _) (.cons (.int _) .nil))) ih
theorem br_lay (e : Breaks) : PyData.canLayAll0 (e.map brD) = true := by
  induction e with
  | nil => rfl
  | cons b e ih => simp [PyData.canLayAll0, PyData.canLay0, brD, ih] <;> exact ih
theorem br_deep (e : Breaks) : PyData.depthAll (e.map brD) ≤ 2 := by
  induction e with
  | nil => simp [PyData.depthAll]
  | cons b e ih =>
    rw [List.map_cons]
    simp only [PyData.depthAll, PyData.depth, brD]
    omega
theorem pure_ask_never_empty (T : Txt K mg A) (vs : List V) (H : Hp) (Q : VK) (E : XK) (h : sp_ask_never_empty K A vs H Q E) : t_ask_never_empty K A E { nx := fun _ H' => Q .non H', rt := Q } (start ["room"] vs) H := by
  obtain ⟨x, rfl, a, s, m, rfl, R, iv, q1, q2⟩ := h
  obtain ⟨dx, pb, pe, po, vb, x, y, rfl, n1, n2, n3, h2, h3, h4, h5, h6, h7, h8⟩ := R.ex
  refine ⟨_, rfl, a, A.room, dx, _, (.ref pe), rfl, h2, T.cl, T.n_empties, rfl, (by show 0 ≤ sizeLine; decide), fun t1 ht1 => ⟨(by show 0 ≤ sizeLine; decide), fun t2 ht2 => ⟨(by show 2 ≤ sizeLine; decide), fun pl hpl => ?_⟩⟩⟩
  have s1 := ((Same.new (o := .tup []) ht1).trans (Same.new (o := .tup []) ht2)).trans (Same.new (o := .lst [.ref t1, .ref t2]) hpl)
  have g1 : upd (upd (upd H t1 (.tup [])) t2 (.tup [])) pl (.lst [.ref t1, .ref t2]) t1 = some (.tup []) := st_new (st_new upd_same ht2) hpl
  have g2 : upd (upd (upd H t1 (.tup [])) t2 (.tup [])) pl (.lst [.ref t1, .ref t2]) t2 = some (.tup []) := st_new upd_same hpl
  have ee : PyData.eqv (.list [.tuple (s.empty1.map brD), .tuple (s.empty2.map brD)]) (.list [.tuple [], .tuple []]) = (s.empty1.isEmpty && s.empty2.isEmpty) := by
    cases s.empty1 <;> cases s.empty2 <;> simp [PyData.eqv, PyData.eqvAll]
  have sh : ∀ e1 e2 : Breaks, SeqAt.shaped (.list [.tuple (e1.map brD), .tuple (e2.map brD)]) = true := by
    intro e1 e2
    have l1 := br_lay e1
    have l2 := br_lay e2
    have d1 := br_deep e1
    have d2 := br_deep e2
    unfold SeqAt.shaped
    simp [PyData.canLay0, PyData.canLayAll0, PyData.depth, PyData.depthAll, l1, l2]
    omega
  refine ⟨.list [.tuple (s.empty1.map brD), .tuple (s.empty2.map brD)], .list [.tuple [], .tuple []], .lst (SqL.of (s1.keep h5)) (.cons (dp_st (h6.mono s1)) (.cons (dp_st (h7.mono s1)) .nil)), .lst (SqL.of upd_same) (.cons (.tup (SqT.of g1) .nil) (.cons (.tup (SqT.of g2) .nil) .nil)), sh _ _, sh [] [], ?_⟩
  rw [ee]
  refine ⟨_, _, rfl, _, _, rfl, rfl, fun h => q1 ?_ _ s1, fun h => (q2 fun z => ?_).mono s1⟩
  · rw [Bool.and_eq_true] at h
    exact ⟨List.isEmpty_iff.mp h.1, List.isEmpty_iff.mp h.2⟩
  · rw [z.1, z.2] at h
    cases h
end
end Td
set_option Elab.async false
set_option linter.all false
set_option maxRecDepth 100000
set_option maxHeartbeats 2000000
/-! Two desks, plain: what each call answers, and what stays true of the object. -/
namespace Td
open Vbceah (Sheet Book Breaks State Clock Reach)
open VbceCore (isBetween)
open TdM (Bks Fit Iv Ok Far Good)

theorem between_iff {n lo hi : Int} : isBetween n lo hi = true ↔ lo ≤ n ∧ n ≤ hi := by
  unfold isBetween
  rw [Bool.and_eq_true, decide_eq_true_eq, decide_eq_true_eq]
theorem all_within {l : List Int} {lo hi : Int} : (l.all fun n => isBetween n lo hi) = true ↔ Within l lo hi := by
  rw [List.all_eq_true]
  exact ⟨fun h n hn => between_iff.mp (h n hn), fun h n hn => between_iff.mpr (h n hn)⟩
theorem run_no {s : State} {c : Vbceah.Call} (h : Vbceah.inRange s c = false) : run s c = (s, [-1]) := by unfold run; rw [if_pos h]
theorem run_in {s : State} {c : Vbceah.Call} (h : Vbceah.inRange s c = true) : run s c = Vbceah.act s c := by unfold run; rw [if_neg (by rw [h]; exact Bool.noConfusion)]
theorem not_true {b : Bool} (h : ¬ b = true) : b = false := by cases b <;> simp_all

/-! ### book -/
abbrev shOf (r : List (Nat × Nat)) : Book := r.map fun x => ⟨x.1, x.2⟩
def Short (l : List Int) : Prop := 2 ≤ l.length ∧ l.length ≤ 12 ∧ l.length % 2 = 0
theorem told_some {l : List Int} : (Vbceah.sheetsTold l).isSome = true ↔ Short l ∧ Within l 0 1000 := by
  unfold Vbceah.sheetsTold Short
  constructor
  · intro h
    split at h
    · rename_i hc
      refine ⟨⟨hc.2.1, hc.2.2, ?_⟩, all_within.mp hc.1⟩
      by_cases h2 : l.length % 2 = 0
      · exact h2
      · rw [TdM.twos_odd (by omega)] at h
        cases h
    · cases h
  · rintro ⟨⟨h1, h2, h3⟩, h4⟩
    rw [if_pos ⟨all_within.mpr h4, h1, h2⟩]
    obtain ⟨r, hr⟩ := TdM.twos_even h3
    rw [hr]
    rfl
theorem run_book_no {s : State} {l : List Int} (h : ¬ (Short l ∧ Within l 0 1000)) : run s (.book l) = (s, [-1]) :=
  run_no (not_true fun z => h (told_some.mp z))
theorem run_book {s : State} {l : List Int} (h : Short l) (h2 : Within l 0 1000) {r : List (Nat × Nat)} (hr : Vbceah.twos l = some r) :
    run s (.book l) = if 4 ≤ s.books.length ∨ 12 < Vbceah.sheetsIn s.books + r.length then (s, [-3]) else ({ s with books := s.books ++ [shOf r] }, [(s.books.length : Int)]) := by
  rw [run_in (show Vbceah.inRange s (.book l) = true from told_some.mpr ⟨h, h2⟩)]
  have e : (Vbceah.sheetsTold l).getD [] = shOf r := by
    unfold Vbceah.sheetsTold
    rw [if_pos ⟨all_within.mpr h2, h.1, h.2.1⟩, hr]
    rfl
  show (if _ then _ else _) = _
  rw [e, List.length_map]
  rfl
/-! ### when a desk is empty -/
def lastOf (l : Breaks) : Nat := (l.getLast?.map fun x => x.2).getD 0
theorem lastOf_snoc (l : Breaks) (x : Nat × Nat) : lastOf (l ++ [x]) = x.2 := by simp [lastOf]
theorem behind_snoc (x : Nat × Nat) : ∀ l : Breaks, Vbceah.behindOther (l ++ [x]) = (Vbceah.behindOther l && decide (lastOf l ≤ x.1 ∧ x.1 < x.2))
  | [] => by simp [Vbceah.behindOther, lastOf]
  | [y] => by
    show (decide (y.1 < y.2 ∧ y.2 ≤ x.1) && decide (x.1 < x.2)) = (decide (y.1 < y.2) && decide (y.2 ≤ x.1 ∧ x.1 < x.2))
    by_cases h1 : y.1 < y.2 <;> by_cases h2 : y.2 ≤ x.1 <;> by_cases h3 : x.1 < x.2 <;> simp [h1, h2, h3]
  | y :: z :: l => by
    have ih := behind_snoc x (z :: l)
    have el : lastOf (y :: z :: l) = lastOf (z :: l) := by simp [lastOf]
    show (decide (y.1 < y.2 ∧ y.2 ≤ z.1) && Vbceah.behindOther (z :: l ++ [x])) = ((decide (y.1 < y.2 ∧ y.2 ≤ z.1) && Vbceah.behindOther (z :: l)) && _)
    rw [ih, el, Bool.and_assoc]
theorem behind_pre {l : Breaks} : ∀ k : Breaks, Vbceah.behindOther (l ++ k) = true → Vbceah.behindOther l = true := by
  intro k
  refine TdM.snoc_ind (P := fun k => Vbceah.behindOther (l ++ k) = true → Vbceah.behindOther l = true) ?_ ?_ k
  · intro h; rwa [List.append_nil] at h
  · intro k x ih h
    rw [← List.append_assoc, behind_snoc, Bool.and_eq_true] at h
    exact ih h.1
theorem breaks_some {l : List Int} {r : List (Nat × Nat)} (hr : Vbceah.twos l = some r) : (Vbceah.breaksTold l).isSome = true ↔ Within l 0 100000 ∧ l.length ≤ 8 ∧ Vbceah.behindOther r = true := by
  unfold Vbceah.breaksTold
  constructor
  · intro h
    split at h
    · rename_i hc
      rw [hr] at h
      refine ⟨all_within.mp hc.1, hc.2, ?_⟩
      cases hb : Vbceah.behindOther r with
      | true => rfl
      | false => simp [hb] at h
    · cases h
  · rintro ⟨h1, h2, h3⟩
    rw [if_pos ⟨all_within.mpr h1, h2⟩, hr]
    simp [h3]
theorem run_empty_desk {s : State} {d : Int} {l : List Int} (h : ¬ (1 ≤ d ∧ d ≤ 2)) : run s (.empty d l) = (s, [-1]) := by
  refine run_no ?_
  show (isBetween d 1 2 && _) = false
  rw [not_true fun z => h (between_iff.mp z)]
  rfl
theorem run_empty_no {s : State} {d : Int} {l : List Int} (h : (Vbceah.breaksTold l).isSome = false) : run s (.empty d l) = (s, [-1]) := by
  refine run_no ?_
  show (isBetween d 1 2 && _) = false
  rw [h, Bool.and_false]
theorem breaks_odd {l : List Int} (h : l.length % 2 = 1) : (Vbceah.breaksTold l).isSome = false := by
  unfold Vbceah.breaksTold
  split
  · rw [TdM.twos_odd h]; rfl
  · rfl
theorem breaks_long {l : List Int} (h : ¬ l.length ≤ 8) : (Vbceah.breaksTold l).isSome = false := by
  unfold Vbceah.breaksTold
  rw [if_neg fun z => h z.2]
  rfl
theorem breaks_out {l : List Int} (h : ¬ Within l 0 100000) : (Vbceah.breaksTold l).isSome = false := by
  unfold Vbceah.breaksTold
  rw [if_neg fun z => h (all_within.mp z.1)]
  rfl
theorem run_empty {s : State} {d : Int} {l : List Int} {r : List (Nat × Nat)} (hr : Vbceah.twos l = some r) (h1 : 1 ≤ d ∧ d ≤ 2) (h2 : Within l 0 100000) (h3 : l.length ≤ 8) (h4 : Vbceah.behindOther r = true) :
    run s (.empty d l) = ((if d = 1 then { s with empty1 := r } else { s with empty2 := r }), [(r.length : Int)]) := by
  have hin : Vbceah.inRange s (.empty d l) = true := by
    show (isBetween d 1 2 && _) = true
    rw [between_iff.mpr h1, (breaks_some hr).mpr ⟨h2, h3, h4⟩]
    rfl
  rw [run_in hin]
  have e : (Vbceah.breaksTold l).getD [] = r := by
    unfold Vbceah.breaksTold
    rw [if_pos ⟨all_within.mpr h2, h3⟩, hr]
    simp [h4]
  show (_, _) = _
  rw [e]
/-! ### an order -/
theorem books_within {s : State} {l : List Int} : l.all (Vbceah.isBook s) = true ↔ Within l 0 ((s.books.length : Int) - 1) := all_within
theorem nts_of {l : List Int} {hi : Int} (h : Within l 0 hi) : nts (l.map Int.toNat) = l := by
  unfold nts
  rw [List.map_map]
  conv => rhs; rw [← List.map_id l]
  refine List.map_congr_left fun n hn => ?_
  have := (h n hn).1
  show ((n.toNat : Nat) : Int) = n
  omega
theorem run_order_no {s : State} {l : List Int} (h : ¬ (l.length ≤ 12 ∧ Within l 0 ((s.books.length : Int) - 1))) : run s (.order l) = (s, [-1]) := by
  refine run_no (not_true fun z => h ?_)
  have z : (decide (l.length ≤ 12) && l.all (Vbceah.isBook s)) = true := z
  rw [Bool.and_eq_true, decide_eq_true_eq] at z
  exact ⟨z.1, books_within.mp z.2⟩
theorem run_order {s : State} {l : List Int} (h : l.length ≤ 12) (h2 : Within l 0 ((s.books.length : Int) - 1)) :
    run s (.order l) = if Vbceah.fits s.books (l.map Int.toNat) = false then (s, [-4]) else ({ s with order := l.map Int.toNat }, [if Vbceah.isWhole s.books (l.map Int.toNat) = true then 1 else 0]) := by
  have hin : Vbceah.inRange s (.order l) = true := by
    show (decide (l.length ≤ 12) && l.all (Vbceah.isBook s)) = true
    rw [decide_eq_true h, books_within.mpr h2]
    rfl
  rw [run_in hin]
  rfl
theorem fits_iff {bs : List Book} {o : List Nat} : Vbceah.fits bs o = true ↔ ∀ b, b < bs.length → o.count b ≤ (Vbceah.bookAt bs b).length := by
  unfold Vbceah.fits Vbceah.doneOf
  rw [List.all_eq_true]
  exact ⟨fun h b hb => of_decide_eq_true (h b (List.mem_range.mpr hb)), fun h b hb => decide_eq_true (h b (List.mem_range.mp hb))⟩
theorem fit_of {bs : List Book} {o : List Nat} (h1 : ∀ b ∈ o, b < bs.length) (h2 : Vbceah.fits bs o = true) : Fit bs o := fun b => by
  by_cases hb : b < bs.length
  · exact fits_iff.mp h2 b hb
  · have : o.count b = 0 := List.count_eq_zero.mpr fun z => hb (h1 b z)
    omega
theorem toNat_lt {l : List Int} {n : Nat} (h : Within l 0 ((n : Int) - 1)) : ∀ b ∈ l.map Int.toNat, b < n := fun b hb => by
  obtain ⟨x, hx, rfl⟩ := List.mem_map.mp hb
  have := h x hx
  omega
/-! ### what is asked of desks that are never empty -/
theorem full_iff {s : State} : (s.empty1.isEmpty = true ∧ s.empty2.isEmpty = true) ↔ (s.empty1 = [] ∧ s.empty2 = []) := by rw [List.isEmpty_iff, List.isEmpty_iff]
theorem onFull_no {s : State} {f : State × List Int} (h : ¬ (s.empty1 = [] ∧ s.empty2 = [])) : Vbceah.onFull s f = (s, [-7]) := by
  unfold Vbceah.onFull
  rw [if_neg fun z => h (full_iff.mp z)]
  rfl
theorem onFull_yes {s : State} {f : State × List Int} (h : s.empty1 = [] ∧ s.empty2 = []) : Vbceah.onFull s f = f := by
  unfold Vbceah.onFull
  rw [if_pos (full_iff.mpr h)]
theorem run_rule (s : State) : run s .rule = Vbceah.onFull s (s, Vbceah.listRow (Vbceah.ruled s.books) ++ [(Vbceah.endOfBlocks s.books (Vbceah.ruled s.books) : Int)]) := rfl
theorem run_block_no {s : State} {n : Int} (h : ¬ (0 ≤ n ∧ n ≤ (s.books.length : Int) - 1)) : run s (.block n) = (s, [-1]) := run_no (not_true fun z => h (between_iff.mp z))
theorem run_block {s : State} {n : Int} (h : 0 ≤ n ∧ n ≤ (s.books.length : Int) - 1) : run s (.block n) = (s, let x := Vbceah.blockOf (Vbceah.bookAt s.books n.toNat); VbceCore.ints [x.one, x.two, x.both, Vbceah.lead x, Vbceah.tail x]) := run_in (between_iff.mpr h)
theorem run_hang (s : State) : run s .critical = Vbceah.onFull s (match Vbceah.critical (Vbceah.sheetsOf s.books s.order []) with
      | none => (s, [-5])
      | some k => (s, [(k : Int)])) := rfl
theorem run_blocks_no {s : State} {l : List Int} (h : ¬ (Vbceah.unlike l = true ∧ Within l 0 ((s.books.length : Int) - 1))) : run s (.blocks l) = (s, [-1]) := by
  refine run_no (not_true fun z => h ?_)
  have z : (Vbceah.unlike l && l.all (Vbceah.isBook s)) = true := z
  rw [Bool.and_eq_true] at z
  exact ⟨z.1, books_within.mp z.2⟩
theorem run_blocks {s : State} {l : List Int} (h1 : Vbceah.unlike l = true) (h2 : Within l 0 ((s.books.length : Int) - 1)) : run s (.blocks l) = Vbceah.onFull s (s, [(Vbceah.endOfBlocks s.books (l.map Int.toNat) : Int)]) := by
  have hin : Vbceah.inRange s (.blocks l) = true := by
    show (Vbceah.unlike l && l.all (Vbceah.isBook s)) = true
    rw [h1, books_within.mpr h2]
    rfl
  exact run_in hin
theorem run_swap_no {s : State} {n : Int} (h : ¬ (0 ≤ n ∧ n ≤ (s.order.length : Int) - 2)) : run s (.swap n) = (s, [-1]) := run_no (not_true fun z => h (between_iff.mp z))
def swapped (o : List Nat) (k : Nat) : List Nat := o.take k ++ ([o.getD (k + 1) 0, o.getD k 0] ++ o.drop (k + 2))
theorem run_swap {s : State} {n : Int} (h : 0 ≤ n ∧ n ≤ (s.order.length : Int) - 2) : run s (.swap n) = (s, VbceCore.ints [(Vbceah.clockNow s (swapped s.order n.toNat)).one, (Vbceah.clockNow s (swapped s.order n.toNat)).two]) := run_in (between_iff.mpr h)
theorem pair_at {o : List Nat} {k : Nat} (h : k + 2 ≤ o.length) : (o.drop k).take 2 = [o.getD k 0, o.getD (k + 1) 0] := by
  have h1 : k < o.length := by omega
  have h2 : k + 1 < o.length := by omega
  rw [List.drop_eq_getElem_cons h1, List.drop_eq_getElem_cons h2, List.getD_eq_getElem?_getD, List.getD_eq_getElem?_getD, List.getElem?_eq_getElem h1, List.getElem?_eq_getElem h2]
  rfl
theorem swapped_perm {o : List Nat} {k : Nat} (h : k + 2 ≤ o.length) : (swapped o k).Perm o := by
  have h1 : k < o.length := by omega
  have h2 : k + 1 < o.length := by omega
  have e : o = o.take k ++ ([o.getD k 0, o.getD (k + 1) 0] ++ o.drop (k + 2)) := by
    rw [← pair_at h]
    conv => lhs; rw [← List.take_append_drop k o, ← List.take_append_drop 2 (o.drop k), List.drop_drop]
  conv => rhs; rw [e]
  unfold swapped
  exact List.Perm.append_left _ (List.Perm.append_right _ (List.Perm.swap _ _ _))
theorem swapped_fit {bs : List Book} {o : List Nat} {k : Nat} (f : Fit bs o) (h : k + 2 ≤ o.length) : Fit bs (swapped o k) := fun b => by
  rw [(swapped_perm h).count_eq]
  exact f b
theorem swapped_len {o : List Nat} {k : Nat} (h : k + 2 ≤ o.length) : (swapped o k).length = o.length := (swapped_perm h).length_eq
theorem votes_iff {t : Int} {l : List Int} (hl : l.length ≤ 30) : (isBetween t 0 10 && Vbceah.isVotes l) = true ↔ (0 ≤ t ∧ t ≤ 10 ∧ Within l (-1000000000) 1000000000) := by
  unfold Vbceah.isVotes
  rw [Bool.and_eq_true, Bool.and_eq_true, between_iff, decide_eq_true_eq, all_within]
  constructor
  · rintro ⟨⟨h1, h2⟩, _, h3⟩; exact ⟨h1, h2, h3⟩
  · rintro ⟨h1, h2, h3⟩; exact ⟨⟨h1, h2⟩, hl, h3⟩
theorem run_judge {s : State} {t : Int} {l : List Int} (hl : l.length ≤ 30) (h : 0 ≤ t ∧ t ≤ 10 ∧ Within l (-1000000000) 1000000000) : run s (.judge t l) = (s, TdM.judgeOf t.toNat l) := run_in ((votes_iff hl).mpr h)
theorem run_judge_no {s : State} {t : Int} {l : List Int} (hl : l.length ≤ 30) (h : ¬ (0 ≤ t ∧ t ≤ 10 ∧ Within l (-1000000000) 1000000000)) : run s (.judge t l) = (s, [-1]) := run_no (not_true fun z => h ((votes_iff hl).mp z))
theorem run_more {s : State} {t : Int} {l : List Int} (hl : l.length ≤ 30) (h : 0 ≤ t ∧ t ≤ 10 ∧ Within l (-1000000000) 1000000000) : run s (.more t l) = (s, TdM.moreAns t.toNat l) := run_in ((votes_iff hl).mpr h)
theorem run_more_no {s : State} {t : Int} {l : List Int} (hl : l.length ≤ 30) (h : ¬ (0 ≤ t ∧ t ≤ 10 ∧ Within l (-1000000000) 1000000000)) : run s (.more t l) = (s, [-1]) := run_no (not_true fun z => h ((votes_iff hl).mp z))

/-! ### what stays true -/
theorem iv_start : Iv Vbceah.start := ⟨⟨(by decide), (fun b h => by cases h), (by decide)⟩, TdM.Ok.nil, TdM.Ok.nil, by decide, by decide, fun b => Nat.zero_le _, by decide⟩
theorem bookAt_app {bs : List Book} {b : Book} {i : Nat} (h : i < bs.length) : Vbceah.bookAt (bs ++ [b]) i = Vbceah.bookAt bs i := by
  unfold Vbceah.bookAt
  rw [List.getD_eq_getElem?_getD, List.getD_eq_getElem?_getD, List.getElem?_append_left h]
theorem iv_book {s : State} (iv : Iv s) {r : List (Nat × Nat)} (h1 : 1 ≤ r.length) (h2 : r.length ≤ 6) (h3 : ¬ (4 ≤ s.books.length ∨ 12 < Vbceah.sheetsIn s.books + r.length)) : Iv { s with books := s.books ++ [shOf r] } := by
  have hr : (shOf r).length = r.length := List.length_map _
  refine ⟨⟨?_, fun b hb => ?_, ?_⟩, iv.ok1, iv.ok2, iv.l1, iv.l2, fun b => ?_, iv.few⟩
  · show (s.books ++ [shOf r]).length ≤ 4
    rw [List.length_append, List.length_singleton]
    omega
  · rcases List.mem_append.mp hb with hb | hb
    · exact iv.bks.six b hb
    · rw [List.mem_singleton.mp hb, hr]
      exact ⟨h1, h2⟩
  · show Vbceah.sheetsIn (s.books ++ [shOf r]) ≤ 12
    rw [TdM.sheetsIn_snoc, hr]
    omega
  · show s.order.count b ≤ _
    by_cases hb : b < s.books.length
    · rw [bookAt_app hb]
      exact iv.fit b
    · have : s.order.count b = 0 := List.count_eq_zero.mpr fun z => hb (iv.fit.lt z)
      omega
theorem iv_order {s : State} (iv : Iv s) {l : List Int} (h : l.length ≤ 12) (h2 : Within l 0 ((s.books.length : Int) - 1)) (h3 : Vbceah.fits s.books (l.map Int.toNat) = true) : Iv { s with order := l.map Int.toNat } :=
  ⟨iv.bks, iv.ok1, iv.ok2, iv.l1, iv.l2, fit_of (toNat_lt h2) h3, by show (l.map Int.toNat).length ≤ 12; rw [List.length_map]; exact h⟩
theorem iv_run {s : State} (iv : Iv s) : ∀ c : Vbceah.Call, Iv (run s c).1 := by
  intro c
  refine (Classical.em (Vbceah.inRange s c = true)).elim (fun hin => ?_) (fun hin => by rw [run_no (not_true hin)]; exact iv)
  have full : ∀ f : State × List Int, f.1 = s → Iv (Vbceah.onFull s f).1 := fun f hf => by
    by_cases h : s.empty1 = [] ∧ s.empty2 = []
    · rw [onFull_yes h, hf]; exact iv
    · rw [onFull_no h]; exact iv
  cases c with
  | book l =>
    obtain ⟨h1, h2⟩ := told_some.mp hin
    obtain ⟨r, hr⟩ := TdM.twos_even h1.2.2
    have hl := (TdM.twos_some hr).1
    rw [run_book h1 h2 hr]
    split
    · exact iv
    · rename_i h3
      have h11 := h1.1
      have h12 := h1.2.1
      exact iv_book iv (by omega) (by omega) h3
  | empty d l =>
    have hin' : (isBetween d 1 2 && (Vbceah.breaksTold l).isSome) = true := hin
    rw [Bool.and_eq_true] at hin'
    by_cases h2 : l.length % 2 = 0
    · obtain ⟨r, hr⟩ := TdM.twos_even h2
      have hl := (TdM.twos_some hr).1
      obtain ⟨g1, g2, g3⟩ := (breaks_some hr).mp hin'.2
      rw [run_empty hr (between_iff.mp hin'.1) g1 g2 g3]
      have ok : Ok r := TdM.ok_of_behind g3
      by_cases hd : d = 1
      · simp only [if_pos hd]
        exact ⟨iv.bks, ok, iv.ok2, by show r.length ≤ 4; omega, iv.l2, iv.fit, iv.few⟩
      · simp only [if_neg hd]
        exact ⟨iv.bks, iv.ok1, ok, iv.l1, by show r.length ≤ 4; omega, iv.fit, iv.few⟩
    · rw [breaks_odd (by omega)] at hin'
      cases hin'.2
  | order l =>
    have hin' : (decide (l.length ≤ 12) && l.all (Vbceah.isBook s)) = true := hin
    rw [Bool.and_eq_true, decide_eq_true_eq] at hin'
    have h2 := books_within.mp hin'.2
    rw [run_order hin'.1 h2]
    split
    · exact iv
    · rename_i h3
      exact iv_order iv hin'.1 h2 (by cases hf : Vbceah.fits s.books (l.map Int.toNat) with
        | true => rfl
        | false => exact absurd hf h3)
  | rule => rw [run_in hin]; exact full _ rfl
  | critical =>
    rw [run_in hin]
    refine full _ ?_
    split <;> rfl
  | blocks l => rw [run_in hin]; exact full _ rfl
  | clear => rw [run_in hin]; exact iv_start
  | now => rw [run_in hin]; exact iv
  | ends => rw [run_in hin]; exact iv
  | times => rw [run_in hin]; exact iv
  | waits => rw [run_in hin]; exact iv
  | least => rw [run_in hin]; exact iv
  | best => rw [run_in hin]; exact iv
  | left => rw [run_in hin]; exact iv
  | next => rw [run_in hin]; exact iv
  | block b => rw [run_in hin]; exact iv
  | judge t l => rw [run_in hin]; exact iv
  | more t l => rw [run_in hin]; exact iv
  | swap i => rw [run_in hin]; exact iv
  | books => rw [run_in hin]; exact iv
/-! ### answers are short -/
theorem ints_len (l : List Nat) : (VbceCore.ints l).length = l.length := List.length_map _
theorem row_len (l : List Nat) : (Vbceah.listRow l).length = l.length + 1 := by
  unfold Vbceah.listRow
  rw [List.length_cons, ints_len]
theorem bestFrom_len (bs : List Book) (e1 e2 : Breaks) (goal : Nat) : ∀ (n : Nat) (p : List Nat) (c : Clock), (Vbceah.bestFrom bs e1 e2 goal n p c).length ≤ n
  | 0, p, c => Nat.le_refl _
  | n + 1, p, c => by
    unfold Vbceah.bestFrom
    dsimp only
    split
    · exact Nat.zero_le _
    · split
      · exact Nat.zero_le _
      · rename_i x _
        have := bestFrom_len bs e1 e2 goal n x.1 x.2
        rw [List.length_cons]
        omega
theorem two_lenC (X : List Clock) : (X.flatMap fun x => [x.one, x.two]).length = 2 * X.length := by
  induction X with
  | nil => rfl
  | cons x X ih => rw [List.flatMap_cons, List.length_append, ih, List.length_cons]; simp; omega
theorem two_lenS (X : List Sheet) : (X.flatMap fun x => [x.first, x.second]).length = 2 * X.length := by
  induction X with
  | nil => rfl
  | cons x X ih => rw [List.flatMap_cons, List.length_append, ih, List.length_cons]; simp; omega
theorem tolds_lenS : ∀ X : List Book, (∀ b ∈ X, b.length ≤ 6) → (X.flatMap fun b => (b.length : Int) :: VbceCore.ints (b.flatMap fun x => [x.first, x.second])).length ≤ 13 * X.length
  | [], _ => Nat.le_refl _
  | b :: X, h => by
    have h1 := tolds_lenS X fun c hc => h c (List.mem_cons_of_mem _ hc)
    have h2 := h b List.mem_cons_self
    rw [List.flatMap_cons, List.length_append, List.length_cons, ints_len, two_lenS, List.length_cons]
    omega
theorem run_few {s : State} (iv : Iv s) (c : Vbceah.Call) : (run s c).2.length ≤ 100 := by
  refine (Classical.em (Vbceah.inRange s c = true)).elim (fun hin => ?_) (fun hin => by rw [run_no (not_true hin)]; exact Nat.le_of_ble_eq_true rfl)
  have h12 := iv.few
  have h4 := iv.bks.few
  have hsl := TdM.sheets_full iv.fit
  have full : ∀ f : State × List Int, f.2.length ≤ 100 → (Vbceah.onFull s f).2.length ≤ 100 := fun f hf => by
    by_cases h : s.empty1 = [] ∧ s.empty2 = []
    · rw [onFull_yes h]; exact hf
    · rw [onFull_no h]; exact Nat.le_of_ble_eq_true rfl
  have one : ∀ z : Int, ([z] : List Int).length ≤ 100 := fun z => Nat.le_of_ble_eq_true rfl
  rw [run_in hin]
  cases c with
  | book l =>
    show (if _ then _ else _ : State × List Int).2.length ≤ 100
    split
    · exact one _
    · exact one _
  | empty d l => exact one _
  | order l =>
    show (if _ then _ else _ : State × List Int).2.length ≤ 100
    split
    · exact one _
    · exact one _
  | rule =>
    refine full _ ?_
    show (Vbceah.listRow (Vbceah.ruled s.books) ++ [_]).length ≤ 100
    rw [List.length_append, row_len, TdM.ruled_length, List.length_singleton]
    omega
  | critical =>
    refine full _ ?_
    split
    · exact one _
    · exact one _
  | blocks l => exact full _ (one _)
  | clear => exact one _
  | now =>
    show (Vbceah.listRow s.order).length ≤ 100
    rw [row_len]
    omega
  | ends => exact Nat.le_of_ble_eq_true rfl
  | times =>
    show ((_ : Int) :: VbceCore.ints _).length ≤ 100
    rw [List.length_cons, ints_len, two_lenC, TdM.clocks_length, hsl]
    omega
  | waits =>
    show (Vbceah.listRow (TdM.waitsOf s.empty1 s.empty2 (Vbceah.sheetsOf s.books s.order []))).length ≤ 100
    rw [row_len, TdM.waits_length, hsl]
    omega
  | least => exact Nat.le_of_ble_eq_true rfl
  | best =>
    show (Vbceah.listRow (Vbceah.best s.books s.empty1 s.empty2)).length ≤ 100
    rw [row_len]
    have := bestFrom_len s.books s.empty1 s.empty2 (Vbceah.least s.books s.empty1 s.empty2) (Vbceah.sheetsIn s.books) (Vbceah.zeros s.books.length) ⟨0, 0⟩
    have h := iv.bks.all
    unfold Vbceah.best
    omega
  | left => exact one _
  | next =>
    show ((_ : Int) :: List.map _ _).length ≤ 100
    rw [List.length_cons, List.length_map, List.length_range]
    omega
  | block b => exact Nat.le_of_ble_eq_true rfl
  | judge t l =>
    have hv : (isBetween t 0 10 && Vbceah.isVotes l) = true := hin
    unfold Vbceah.isVotes at hv
    rw [Bool.and_eq_true, Bool.and_eq_true, decide_eq_true_eq] at hv
    have hl := hv.2.1
    show ([_, _, _] ++ Vbceah.candidates t.toNat l).length ≤ 100
    have h1 := TdM.dups_length l
    have h2 := List.length_filter_le (Vbceah.possible t.toNat l) l.eraseDups
    rw [List.length_append]
    unfold Vbceah.candidates Vbceah.kinds
    simp only [List.length_cons, List.length_nil]
    omega
  | more t l =>
    show (TdM.moreAns t.toNat l).length ≤ 100
    unfold TdM.moreAns
    split <;> exact Nat.le_of_ble_eq_true rfl
  | swap i => exact Nat.le_of_ble_eq_true rfl
  | books =>
    show ((_ : Int) :: s.books.flatMap _).length ≤ 100
    have := tolds_lenS s.books fun b hb => (iv.bks.six b hb).2
    rw [List.length_cons]
    omega
end Td
set_option Elab.async false
set_option linter.all false
set_option maxRecDepth 100000
set_option maxHeartbeats 4000000
/-! Two desks, from promise to reading: the calls that may be refused. -/
namespace Td
open PySem PySem.Spec PyProof.Rows L2
open Vbceah (Sheet Book Breaks State Clock Reach)
open TdM (Bks Fit Iv Ok Far Good)
section
variable {K : PySem.W.Frag} {mg : Str → Option Value} {A : Ad}
theorem Kp.comp {H H1 H2 H3 : Hp} {m m' : List Addr} {row : V} (e1 : Same H H1) (k : Kp H1 H2 m m' row) (e2 : Same H2 H3) : Kp H H3 m m' row :=
  ⟨fun b o h hb => e2 b o (k.keep b o (e1 b o h) hb), fun x hx => (k.new x hx).imp id fun z => z.imp id fun z => e1.free z, fun b h => e1.free (k.dom b (e2.free h))⟩
theorem Kp.any {H H' : Hp} {m m' : List Addr} {row : V} (k : Kp H H' m m' .non) : Kp H H' m m' row :=
  ⟨k.keep, fun x hx => (k.new x hx).imp id fun z => .inr (z.elim (fun h => nomatch h) id), k.dom⟩
theorem Out.non {H : Hp} {a : Addr} {s : State} {m : List Addr} {row : V} {r : State × List Int} {Q : VK} {E : XK} (h : Out K A H a s m row r Q E) : Out K A H a s m .non r Q E :=
  ⟨fun v H' m' k R n => h.back v H' m' k.any R n, h.rais⟩
theorem RoomAt.kind {H : Hp} {a : Addr} {s : State} {m : List Addr} (R : RoomAt K A H a s m) {x : Addr} (hx : x ∈ m) : ∃ o, H x = some o ∧ (∀ ys, o ≠ .tup ys) ∧ ∀ ob ys, o ≠ .frz ob (.tup ys) := by
  obtain ⟨dx, pb, pe, po, vb, x, y, rfl, n1, n2, n3, h2, h3, h4, h5, h6, h7, h8⟩ := R.ex
  simp only [List.mem_cons, List.not_mem_nil, or_false] at hx
  rcases hx with rfl | rfl | rfl | rfl
  · exact ⟨_, h2, (by intro ys z; cases z), (by intro ob ys z; cases z)⟩
  · exact ⟨_, h3, (by intro ys z; cases z), (by intro ob ys z; cases z)⟩
  · exact ⟨_, h5, (by intro ys z; cases z), (by intro ob ys z; cases z)⟩
  · exact ⟨_, h8, (by intro ys z; cases z), (by intro ob ys z; cases z)⟩
theorem Kp.tup {H H' : Hp} {a : Addr} {s : State} {m m' : List Addr} {row : V} (k : Kp H H' m m' row) (R : RoomAt K A H a s m) {p : Addr} {xs : List V} (h : SqT K H p xs) : SqT K H' p xs := by
  rcases h with (h | ⟨o, h⟩) | h
  · refine .inl (.inl (k.keep _ _ h fun hm => ?_))
    obtain ⟨o, h1, h2, h3⟩ := R.kind hm
    rw [h] at h1
    exact h2 _ (Option.some.inj h1).symm
  · refine .inl (.inr ⟨o, k.keep _ _ h fun hm => ?_⟩)
    obtain ⟨o, h1, h2, h3⟩ := R.kind hm
    rw [h] at h1
    exact h3 _ _ (Option.some.inj h1).symm
  · exact .inr h
theorem Kp.fresh {H H1 H2 : Hp} {m m' : List Addr} {row : V} (e1 : Same H H1) (k : Kp H1 H2 m m' row) {p : Addr} (h : H2 p = none) : H p = none := e1.free (k.dom p h)
theorem RoomAt.known {H : Hp} {a : Addr} {s : State} {m : List Addr} (R : RoomAt K A H a s m) {x : Addr} (hx : x ∈ m) (h : H x = none) : False := by
  obtain ⟨o, h1, _⟩ := R.kind hx
  rw [h] at h1
  cases h1
theorem bk_of_st {H : Hp} {v : V} {r : List (Nat × Nat)} (h : StV K H v r) : BkV K H v (shOf r) := by
  obtain ⟨p, vs, rfl, hT, hP⟩ := h
  refine ⟨p, vs, rfl, hT, ?_⟩
  clear hT
  induction hP with
  | nil => exact .nil
  | cons r _ ih => exact .cons r ih
theorem pure_book (T : Txt K mg A) (vs : List V) (H : Hp) (Q : VK) (E : XK) (h : sp_book K A vs H Q E) : t_book K A E { nx := fun _ H' => Q .non H', rt := Q } (start ["room", "row", "many", "one"] vs) H := by
  obtain ⟨x, y, rfl, a, s, m, l, rfl, R, iv, hrow, hl, hym, out⟩ := h
  have out : Out K A H a s m y (run s (.book l)) Q E := out
  obtain ⟨dx, fs, pb, pe, po, ws, hR, lb, le, lo, hB, hBP, hE, hO, hno⟩ := R.flds
  obtain ⟨p, rfl, hp⟩ := hrow
  have h4 := iv.bks.few
  have hlb := hBP.length
  have hlm : (l.map V.int).length = l.length := List.length_map _
  have bad : ¬ (Short l ∧ Within l 0 1000) → Rz A H E (-1) := fun h => out.rais _ (run_book_no h)
  refine ⟨_, rfl, p, _, rfl, .inl (SqL.of hp), _, _, rfl, rfl, _, rfl, if_d (fun h1 => ?_) (fun h1 => ⟨_, rfl, _, _, rfl, _, _, rfl, rfl, fun h2 => (by cases h2), fun _ => bad fun z => h1 ?_⟩)⟩
  rotate_left
  · have := z.1.1
    show (2 : Int) ≤ _
    omega
  refine ⟨_, _, rfl, rfl, .inl ⟨by decide, by decide⟩, _, _, rfl, rfl, _, rfl, if_d (fun h2 => ?_) (fun h2 => ⟨_, _, rfl, _, _, rfl, rfl, fun h2 => (by cases h2), fun _ => bad fun z => h2 ?_⟩)⟩
  rotate_left
  · have := z.1.2.1
    show ((l.map V.int).length : Int) ≤ 2 * 6
    omega
  refine ⟨_, rfl, p, _, rfl, .inl (SqL.of hp), _, _, rfl, rfl, (show (0 : Int) < 2 by decide), rfl, _, _, rfl, _, _, rfl, rfl, fun h3 => ?_, fun h3 => bad fun z => ?_⟩
  rotate_left
  · have h4 := z.1.2.2
    refine absurd ?_ (of_decide_eq_false h3)
    show V.int (((l.map V.int).length : Int) % 2) = V.int 0
    congr 1
    omega
  have hs : Short l := by
    have h3 := V.int.inj (of_decide_eq_true h3)
    have h3 : ((l.map V.int).length : Int) % 2 = 0 := h3
    have h2 : ((l.map V.int).length : Int) ≤ 2 * 6 := h2
    have h1 : (2 : Int) ≤ ((l.map V.int).length : Int) := h1
    refine ⟨by omega, by omega, by omega⟩
  refine ⟨_, rfl, _, _, _, rfl, l, 0, 1000, ⟨p, rfl, SqL.of hp⟩, rfl, rfl, fun hw => ?_, fun hw => bad fun z => hw z.2⟩
  obtain ⟨r, hr⟩ := TdM.twos_even hs.2.2
  obtain ⟨hrl, _⟩ := TdM.twos_some hr
  rw [run_book hs hw hr] at out
  refine ⟨_, rfl, a, A.room, dx, fs, (.ref pb), rfl, hR, T.cl, T.n_books, lb, pb, rfl, ⟨_, SqL.of hB⟩, fun D hD => lc_lens walk_list hBP (by omega) hD (fun H' s => SqL.of (s.keep hB)) (fun b p us H' R S hT hu r => ?_) fun H1 s1 h1 => ?_⟩
  · refine ⟨rfl, _, rfl, p, us, rfl, .inr hT, ?_⟩
    rw [hu]
    exact r
  refine ⟨D, _, rfl, SqL.of h1, ?_⟩
  rw [lens_sum]
  have full : (4 ≤ s.books.length ∨ 12 < Vbceah.sheetsIn s.books + r.length) → Rz A H1 E (-3) := fun h => (out.rais _ (by rw [if_pos h])).mono s1
  refine ⟨_, rfl, a, A.room, dx, fs, (.ref pb), rfl, s1.keep hR, T.cl, T.n_books, lb, pb, ws, rfl, .inl (SqL.of (s1.keep hB)), _, _, rfl, rfl, _, rfl, if_d (fun h5 => ?_) (fun h5 => ⟨_, _, rfl, _, _, rfl, rfl, fun h2 => (by cases h2), fun _ => full (.inl ?_)⟩)⟩
  rotate_left
  · have h5 : ¬ ((ws.length : Nat) : Int) < 4 := h5
    omega
  have h5 : ((ws.length : Nat) : Int) < 4 := h5
  refine ⟨_, rfl, _, rfl, p, _, rfl, .inl (SqL.of (s1.keep hp)), _, _, rfl, rfl, (show (0 : Int) < 2 ∧ (2 : Int) < 1073741824 by decide), _, _, rfl, rfl, _, _, rfl, rfl, _, _, rfl, _, _, rfl, rfl, fun h6 => ?_, fun h6 => full (.inr ?_)⟩
  rotate_left
  · have h6 : ¬ ((Vbceah.sheetsIn s.books : Nat) : Int) + ((l.map V.int).length : Int) / 2 ≤ 12 := of_decide_eq_false h6
    omega
  have h6 : ((Vbceah.sheetsIn s.books : Nat) : Int) + ((l.map V.int).length : Int) / 2 ≤ 12 := of_decide_eq_true h6
  have hgo : ¬ (4 ≤ s.books.length ∨ 12 < Vbceah.sheetsIn s.books + r.length) := by omega
  rw [if_neg hgo] at out
  refine ⟨_, rfl, a, dx, fs, rfl, s1.keep hR, hno _ (by decide), _, rfl, _, rfl, l, r, ⟨p, rfl, SqL.of (s1.keep hp)⟩, hl, fun n hn => (hw n hn).1, hr, fun v H2 s2 hst => ?_⟩
  refine ⟨_, _, rfl, a, s, m, shOf r, rfl, R.mono (s1.trans s2), bk_of_st hst, by omega, fun H3 kp R3 => ?_⟩
  obtain ⟨dx3, fs3, pb3, pe3, po3, ws3, hR3, lb3, le3, lo3, hB3, hBP3, hE3, hO3, hno3⟩ := R3.flds
  have hl3 := hBP3.length
  have hl3 : ws3.length = s.books.length + 1 := by
    rw [hl3]
    show (s.books ++ [shOf r]).length = _
    rw [List.length_append, List.length_singleton]
  refine ⟨_, rfl, a, A.room, dx3, fs3, (.ref pb3), rfl, hR3, T.cl, T.n_books, lb3, pb3, ws3, rfl, .inl (SqL.of hB3), _, _, rfl, rfl, (by show 1 ≤ sizeLine; decide), fun p4 hp4 => out.back _ _ m (Kp.comp (s1.trans s2) kp (Same.new hp4)).any (R3.mono (Same.new hp4)) ⟨p4, rfl, Kp.fresh (s1.trans s2) kp hp4, ?_⟩⟩
  rw [upd_same]
  show some (HO.lst [V.int (((ws3.length : Nat) : Int) - 1)]) = some (HO.lst [V.int (s.books.length : Int)])
  rw [show ((ws3.length : Nat) : Int) - 1 = (s.books.length : Int) by omega]
theorem pure_empty (T : Txt K mg A) (vs : List V) (H : Hp) (Q : VK) (E : XK) (h : sp_empty K A vs H Q E) : t_empty K A E { nx := fun _ H' => Q .non H', rt := Q } (start ["room", "desk", "row", "stretches", "last", "first", "end"] vs) H := by
  obtain ⟨x, y, z, rfl, a, s, m, d, l, rfl, R, iv, rfl, hrow, hl, hym, out⟩ := h
  have out : Out K A H a s m z (run s (.empty d l)) Q E := out
  obtain ⟨dx, fs, pb, pe, po, ws, hR, lb, le, lo, hB, hBP, hE, hO, hno⟩ := R.flds
  obtain ⟨p, rfl, hp⟩ := hrow
  have hlm : (l.map V.int).length = l.length := List.length_map _
  refine ⟨_, rfl, (by show 1 ≤ sizeLine; decide), fun p1 hp1 => ?_⟩
  have s1 := Same.new (o := .lst [V.int d]) hp1
  refine ⟨_, _, _, rfl, [d], 1, 2, ⟨p1, rfl, SqL.of upd_same⟩, rfl, rfl, fun h1 => ?_, fun h1 => (out.rais _ (run_empty_desk fun z => h1 (within_one.mpr z))).mono s1⟩
  have hd := within_one.mp h1
  have bad : (Vbceah.breaksTold l).isSome = false → Rz A (upd H p1 (.lst [V.int d])) E (-1) := fun h => (out.rais _ (run_empty_no h)).mono s1
  refine ⟨_, rfl, p, _, rfl, .inl (SqL.of (s1.keep hp)), _, _, rfl, rfl, _, rfl, if_d (fun h2 => ?_) (fun h2 => ⟨_, _, rfl, _, _, rfl, rfl, fun h2 => (by cases h2), fun _ => bad (breaks_long fun z => h2 ?_)⟩)⟩
  rotate_left
  · show ((l.map V.int).length : Int) ≤ 8
    omega
  have h2 : ((l.map V.int).length : Int) ≤ 8 := h2
  refine ⟨_, rfl, p, _, rfl, .inl (SqL.of (s1.keep hp)), _, _, rfl, rfl, (show (0 : Int) < 2 by decide), rfl, _, _, rfl, _, _, rfl, rfl, fun h3 => ?_, fun h3 => bad (breaks_odd ?_)⟩
  rotate_left
  · have h3 := of_decide_eq_false h3
    have : ¬ l.length % 2 = 0 := fun z => h3 (by
      show V.int (((l.map V.int).length : Int) % 2) = V.int 0
      congr 1
      omega)
    omega
  have h3 : ((l.map V.int).length : Int) % 2 = 0 := V.int.inj (of_decide_eq_true h3)
  refine ⟨_, rfl, _, _, _, rfl, l, 0, 100000, ⟨p, rfl, SqL.of (s1.keep hp)⟩, rfl, rfl, fun hw => ?_, fun hw => bad (breaks_out hw)⟩
  obtain ⟨r, hr⟩ := TdM.twos_even (l := l) (by omega)
  obtain ⟨hrl, _⟩ := TdM.twos_some hr
  refine ⟨_, rfl, _, rfl, l, r, ⟨p, rfl, SqL.of (s1.keep hp)⟩, hl, fun n hn => (hw n hn).1, hr, fun v H2 s2 hst => ?_⟩
  obtain ⟨pt, us, rfl, hT, hP⟩ := id hst
  have hul := hP.length
  have s12 := s1.trans s2
  have bad2 : Vbceah.behindOther r = false → Rz A H2 E (-1) := fun h => (bad (not_true fun z => by
    have := ((breaks_some hr).mp z).2.2
    rw [h] at this
    cases this)).mono s2
  refine ⟨_, rfl, pt, rfl, ⟨_, hT⟩, for_it walk_tup (fun i σ H' => ∃ (b c : Option V), σ = [some (.ref a), some (.int d), some (.ref p), some (.ref pt), some (nV (lastOf (r.take i))), b, c] ∧ H' = H2 ∧ Vbceah.behindOther (r.take i) = true)
    ⟨none, none, rfl, rfl, rfl⟩ (fun i σ H' _ ⟨_, _, _, e, _⟩ => by rw [e]; exact hT) ?_ ?_⟩
  · rintro i v σ H0 H' hi ⟨b, c, rfl, rfl, hbh⟩ ⟨rfl, hv⟩
    obtain ⟨br, hbr, pv, rfl, hpv⟩ := pd_getL hP hv
    have et : r.take (i + 1) = r.take i ++ [br] := take_at hbr
    have ebh : Vbceah.behindOther (r.take (i + 1)) = decide (lastOf (r.take i) ≤ br.1 ∧ br.1 < br.2) := by rw [et, behind_snoc, hbh, Bool.true_and]
    have worse : ¬ (lastOf (r.take i) ≤ br.1 ∧ br.1 < br.2) → Rz A H' E (-1) := fun h => bad2 (not_true fun z => by
      have h2 := behind_pre (l := r.take (i + 1)) (r.drop (i + 1)) (by rw [List.take_append_drop]; exact z)
      rw [ebh] at h2
      exact h (of_decide_eq_true h2))
    refine ⟨pv, _, rfl, hpv, rfl, _, _, rfl, _, _, rfl, rfl, ?_⟩
    refine ⟨_, rfl, _, rfl, _, _, rfl, rfl, _, rfl, if_d (fun h1 => ?_) (fun h1 => ?_)⟩
    · have h1 : ((lastOf (r.take i) : Nat) : Int) ≤ ((br.1 : Nat) : Int) := h1
      refine ⟨_, rfl, _, _, rfl, rfl, _, _, rfl, _, _, rfl, rfl, fun h2 => ?_, fun h2 => worse fun z => ?_⟩
      · have h2 : ((br.1 : Nat) : Int) < ((br.2 : Nat) : Int) := of_decide_eq_true h2
        refine ⟨_, rfl, some (nV br.1), some (nV br.2), ?_, rfl, ?_⟩
        · rw [et, lastOf_snoc]
          rfl
        · rw [ebh]
          exact decide_eq_true (by omega)
      · have h2 : ¬ ((br.1 : Nat) : Int) < ((br.2 : Nat) : Int) := of_decide_eq_false h2
        omega
    · have h1 : ¬ ((lastOf (r.take i) : Nat) : Int) ≤ ((br.1 : Nat) : Int) := h1
      exact ⟨_, _, rfl, _, _, rfl, rfl, fun h2 => (by cases h2), fun _ => worse fun z => by omega⟩
  · rintro σ H' ⟨b, c, rfl, rfl, hbh⟩
    rw [hul, List.take_length] at hbh
    rw [run_empty hr hd hw (by omega) hbh] at out
    obtain ⟨k, hk, rfl⟩ : ∃ k : Nat, k ≤ 1 ∧ d = (k : Int) + 1 := ⟨(d - 1).toNat, by omega, by omega⟩
    refine ⟨_, rfl, a, dx, fs, rfl, s12.keep hR, hno _ (by decide), _, rfl, _, _, rfl, rfl, _, rfl, ?_⟩
    refine ⟨_, _, _, rfl, a, s, m, k, r, rfl, R.mono s12, (by show V.int ((k : Int) + 1 - 1) = V.int (k : Int); congr 1; omega), hk, hst, fun H3 kp R3 => ?_⟩
    have e1 : (if k = 0 then { s with empty1 := r } else { s with empty2 := r }) = (if (k : Int) + 1 = 1 then { s with empty1 := r } else { s with empty2 := r }) := by
      by_cases hk0 : k = 0
      · rw [if_pos hk0, if_pos (by omega)]
      · rw [if_neg hk0, if_neg (by omega)]
    rw [e1] at R3
    refine ⟨_, rfl, pt, us, rfl, .inr (kp.tup (R.mono s12) hT), (by show 1 ≤ sizeLine; decide), fun p4 hp4 => out.back _ _ m (Kp.comp s12 kp (Same.new hp4)).any (R3.mono (Same.new hp4)) ⟨p4, rfl, Kp.fresh s12 kp hp4, ?_⟩⟩
    rw [upd_same, hul]
    rfl
theorem pure_order (T : Txt K mg A) (vs : List V) (H : Hp) (Q : VK) (E : XK) (h : sp_order K A vs H Q E) : t_order K A E { nx := fun _ H' => Q .non H', rt := Q } (start ["room", "row", "number", "many"] vs) H := by
  obtain ⟨x, y, rfl, a, s, m, l, rfl, R, iv, hrow, hl, hym, out⟩ := h
  have out : Out K A H a s m y (run s (.order l)) Q E := out
  obtain ⟨dx, fs, pb, pe, po, ws, hR, lb, le, lo, hB, hBP, hE, hO, hno⟩ := R.flds
  obtain ⟨p, rfl, hp⟩ := hrow
  have h4 := iv.bks.few
  have hlb := hBP.length
  have hlm : (l.map V.int).length = l.length := List.length_map _
  have bad : ¬ (l.length ≤ 12 ∧ Within l 0 ((s.books.length : Int) - 1)) → Rz A H E (-1) := fun h => out.rais _ (run_order_no h)
  refine ⟨_, rfl, p, _, rfl, .inl (SqL.of hp), _, _, rfl, rfl, _, _, rfl, _, _, rfl, rfl, fun h1 => ?_, fun h1 => bad fun z => ?_⟩
  rotate_left
  · have h1 : ¬ ((l.map V.int).length : Int) ≤ 12 := of_decide_eq_false h1
    omega
  have h1 : ((l.map V.int).length : Int) ≤ 12 := of_decide_eq_true h1
  refine ⟨_, rfl, _, rfl, a, A.room, dx, fs, (.ref pb), rfl, hR, T.cl, T.n_books, lb, pb, ws, rfl, .inl (SqL.of hB), _, _, rfl, rfl, ?_⟩
  refine ⟨_, _, _, rfl, l, 0, ((ws.length : Nat) : Int) - 1, ⟨p, rfl, SqL.of hp⟩, rfl, rfl, fun hw => ?_, fun hw => bad fun z => hw (by rw [hlb]; exact z.2)⟩
  rw [hlb] at hw
  rw [run_order (by omega) hw] at out
  have hnt := nts_of hw
  have hlt := toNat_lt hw
  refine ⟨_, rfl, _, rfl, _, _, rfl, a, s, m, l, rfl, R, iv, ⟨p, rfl, SqL.of hp⟩, hl, fun v H1 s1 ⟨pt, ev, hpt⟩ => ?_⟩
  subst ev
  have ecount : ∀ b : Nat, l.count (b : Int) = (l.map Int.toNat).count b := fun b => by
    conv => lhs; rw [← hnt]
    exact TdM.nts_count _ b
  refine ⟨pt, _, rfl, SqT.of hpt, for_it walk_enumT (fun i σ H' => ∃ (b c : Option V), σ = [some (.ref a), some (.ref p), b, c] ∧ Same H1 H' ∧ ∀ b, b < i → (l.map Int.toNat).count b ≤ (Vbceah.bookAt s.books b).length)
    ⟨none, none, rfl, Same.refl _, fun b hb => by omega⟩ (fun i σ H' _ ⟨_, _, _, s2, _⟩ => SqT.of (s2.keep hpt)) ?_ ?_⟩
  · rintro i v σ H0 H' hi ⟨b, c, rfl, s2, hall⟩ ⟨Tt, xn, xb, rfl, hT, rfl, en, eb⟩
    obtain rfl : V.int (i : Nat) = xn := Option.some.inj en
    have hib : i < s.books.length := by simpa using hi
    obtain rfl : nV (l.count (i : Int)) = xb := by
      have eb : (((List.range s.books.length).map fun b : Nat => l.count (b : Int)).map nV)[i]? = some xb := eb
      rw [List.getElem?_map, List.getElem?_map, List.getElem?_range hib] at eb
      exact Option.some.inj eb
    have s3 := Same.new (o := .tup [.int (i : Nat), nV (l.count (i : Int))]) hT
    have sA := (s1.trans s2).trans s3
    obtain ⟨w, hwk, pk, us, rfl, hTk, hU⟩ := bs_at (Paired.mapP hBP fun _ _ z => z.mono sA) hib
    have hul := hU.length
    refine ⟨Tt, _, rfl, SqT.of upd_same, rfl, _, _, rfl, _, _, rfl, rfl, ?_⟩
    refine ⟨_, rfl, _, rfl, a, A.room, dx, fs, (.ref pb), rfl, sA.keep hR, T.cl, T.n_books, lb, _, rfl, ix_go (.inl (SqL.of (sA.keep hB))) hwk ⟨pk, us, rfl, .inr hTk, _, _, rfl, rfl, ?_⟩⟩
    refine ⟨_, _, rfl, _, _, rfl, rfl, fun h2 => ?_, fun h2 => ?_⟩
    · have h2 : ((l.count (i : Int) : Nat) : Int) ≤ ((us.length : Nat) : Int) := of_decide_eq_true h2
      refine ⟨_, _, rfl, s2.trans s3, fun b hb => ?_⟩
      by_cases e : b = i
      · subst e
        rw [← ecount]
        omega
      · exact hall b (by omega)
    · have h2 : ¬ ((l.count (i : Int) : Nat) : Int) ≤ ((us.length : Nat) : Int) := of_decide_eq_false h2
      have hf : Vbceah.fits s.books (l.map Int.toNat) = false := not_true fun z => by
        have := fits_iff.mp z i hib
        rw [← ecount] at this
        omega
      exact (out.rais (-4) (by rw [if_pos hf])).mono sA
  · rintro σ H' ⟨b, c, rfl, s2, hall⟩
    have hf : Vbceah.fits s.books (l.map Int.toNat) = true := fits_iff.mpr fun b hb => hall b (by simpa using hb)
    rw [if_neg (by rw [hf]; exact Bool.noConfusion)] at out
    have sA := s1.trans s2
    have iv' := iv_order iv (by omega) hw hf
    have hpm := hym p rfl
    refine ⟨_, rfl, a, dx, fs, rfl, sA.keep hR, hno _ (by decide), _, rfl, ?_⟩
    refine ⟨_, _, rfl, a, s, m, l.map Int.toNat, p, rfl, R.mono sA, rfl, by rw [hnt]; exact sA.keep hp, hpm, fun H3 m3 kp R3 => ?_⟩
    refine ⟨_, rfl, _, rfl, a, _, m3, rfl, R3, iv', fun H4 s4 => ⟨_, rfl, (by show 1 ≤ sizeLine; decide), fun p5 hp5 => out.back _ _ m3 (Kp.comp sA kp (s4.trans (Same.new hp5))) (R3.mono (s4.trans (Same.new hp5))) ⟨p5, rfl, Kp.fresh sA kp (s4.free hp5), upd_same⟩⟩⟩
theorem pure_rule (T : Txt K mg A) (vs : List V) (H : Hp) (Q : VK) (E : XK) (h : sp_rule K A vs H Q E) : t_rule K A E { nx := fun _ H' => Q .non H', rt := Q } (start ["room", "numbers"] vs) H := by
  obtain ⟨x, rfl, a, s, m, rfl, R, iv, out⟩ := h
  have out : Out K A H a s m .non (run s .rule) Q E := out
  obtain ⟨dx, fs, pb, pe, po, ws, hR, lb, le, lo, hB, hBP, hE, hO, hno⟩ := R.flds
  have h4 := iv.bks.few
  have hBV : BsV K H (.ref pb) s.books := ⟨pb, ws, rfl, SqL.of hB, hBP⟩
  rw [run_rule] at out
  refine ⟨_, rfl, _, rfl, a, s, m, rfl, R, iv, fun h0 H1 s1 => ?_, fun h0 => out.rais _ (onFull_no h0)⟩
  rw [onFull_yes h0] at out
  have q := out.pure R
  refine ⟨_, rfl, a, A.room, dx, fs, (.ref pb), rfl, s1.keep hR, T.cl, T.n_books, lb, _, rfl, s.books, hBV.mono s1, iv.bks, fun v H2 s2 hn => ?_⟩
  have hrl := TdM.ruled_length s.books
  refine ⟨_, rfl, _, rfl, nts (Vbceah.ruled s.books), hn.is, by simp; omega, fun v3 H3 s3 ⟨p3, e3, _, hp3⟩ => ?_⟩
  subst e3
  have sA := (s1.trans s2).trans s3
  refine ⟨_, rfl, a, A.room, dx, fs, (.ref pb), rfl, sA.keep hR, T.cl, T.n_books, lb, _, rfl, _, _, rfl, s.books, Vbceah.ruled s.books, hBV.mono sA, iv.bks, (hn.mono s3).is, fun n hn => TdM.ruled_mem hn, by omega, fun H4 s4 => ⟨(by show 1 ≤ sizeLine; decide), fun p5 hp5 => ?_⟩⟩
  have s5 := Same.new (o := .lst [nV (Vbceah.endOfBlocks s.books (Vbceah.ruled s.books))]) hp5
  refine ⟨p3, p5, _, _, rfl, rfl, (s4.trans s5).keep hp3, upd_same, line_le (by simp; omega), fun p6 hp6 => q _ _ (((sA.trans s4).trans s5).trans (Same.new hp6)) ⟨p6, rfl, ((sA.trans s4).trans s5).free hp6, ?_⟩⟩
  rw [upd_same]
  unfold Vbceah.listRow VbceCore.ints
  simp [nts]
theorem pure_block (T : Txt K mg A) (vs : List V) (H : Hp) (Q : VK) (E : XK) (h : sp_block K A vs H Q E) : t_block K A E { nx := fun _ H' => Q .non H', rt := Q } (start ["room", "number", "one"] vs) H := by
  obtain ⟨x, y, rfl, a, s, m, n, rfl, R, iv, rfl, out⟩ := h
  have out : Out K A H a s m .non (run s (.block n)) Q E := out
  obtain ⟨dx, fs, pb, pe, po, ws, hR, lb, le, lo, hB, hBP, hE, hO, hno⟩ := R.flds
  have hlb := hBP.length
  refine ⟨_, rfl, (by show 1 ≤ sizeLine; decide), fun p1 hp1 => ?_⟩
  have s1 := Same.new (o := .lst [V.int n]) hp1
  refine ⟨_, rfl, a, A.room, dx, fs, (.ref pb), rfl, s1.keep hR, T.cl, T.n_books, lb, pb, ws, rfl, .inl (SqL.of (s1.keep hB)), _, _, rfl, rfl, ?_⟩
  refine ⟨_, _, _, rfl, [n], 0, ((ws.length : Nat) : Int) - 1, ⟨p1, rfl, SqL.of upd_same⟩, rfl, rfl, fun h1 => ?_, fun h1 => (out.rais _ (run_block_no fun z => h1 (within_one.mpr (by rw [hlb]; exact z)))).mono s1⟩
  have h1 := within_one.mp h1
  rw [hlb] at h1
  rw [run_block h1] at out
  obtain ⟨k, rfl⟩ : ∃ k : Nat, n = k := ⟨n.toNat, by omega⟩
  have q := out.pure R
  have hk : k < s.books.length := by omega
  obtain ⟨w, hw, hbw⟩ := bs_at (Paired.mapP hBP fun _ _ z => z.mono s1) hk
  have h6 := (iv.bks.six _ (List.mem_of_getElem? (TdM.bookAt_some hk))).2
  refine ⟨_, rfl, a, A.room, dx, fs, (.ref pb), rfl, s1.keep hR, T.cl, T.n_books, lb, _, rfl, ix_go (.inl (SqL.of (s1.keep hB))) hw ?_⟩
  refine ⟨_, rfl, _, rfl, Vbceah.bookAt s.books k, hbw, by omega, fun p2 H2 s2 h2 => ⟨p2, _, rfl, .inr (SqT.of h2), fun p3 hp3 => ?_⟩⟩
  have s3 := Same.new (o := .lst [nV (Vbceah.blockOf (Vbceah.bookAt s.books k)).one, nV (Vbceah.blockOf (Vbceah.bookAt s.books k)).two, nV (Vbceah.blockOf (Vbceah.bookAt s.books k)).both]) hp3
  refine ⟨_, rfl, _, rfl, Vbceah.bookAt s.books k, hbw.mono (s2.trans s3), by omega, fun p4 H4 s4 h4 => ⟨p4, _, rfl, .inr (SqT.of h4), fun p5 hp5 => ?_⟩⟩
  have s5 := Same.new (o := .lst [nV (Vbceah.lead (Vbceah.blockOf (Vbceah.bookAt s.books k))), nV (Vbceah.tail (Vbceah.blockOf (Vbceah.bookAt s.books k)))]) hp5
  refine ⟨p3, p5, _, _, rfl, rfl, (s4.trans s5).keep upd_same, upd_same, line_le (by simp), fun p6 hp6 => q _ _ (((((s1.trans s2).trans s3).trans s4).trans s5).trans (Same.new hp6)) ⟨p6, rfl, ((((s1.trans s2).trans s3).trans s4).trans s5).free hp6, ?_⟩⟩
  rw [upd_same]
  rfl
theorem pure_hanging (T : Txt K mg A) (vs : List V) (H : Hp) (Q : VK) (E : XK) (h : sp_hanging K A vs H Q E) : t_hanging K A E { nx := fun _ H' => Q .non H', rt := Q } (start ["room"] vs) H := by
  obtain ⟨x, rfl, a, s, m, rfl, R, iv, out⟩ := h
  have out : Out K A H a s m .non (run s .critical) Q E := out
  obtain ⟨dx, fs, pb, pe, po, ws, hR, lb, le, lo, hB, hBP, hE, hO, hno⟩ := R.flds
  have h12 := iv.few
  have hsl := TdM.sheets_full iv.fit
  rw [run_hang] at out
  refine ⟨_, rfl, _, rfl, a, s, m, rfl, R, iv, fun h0 H1 s1 => ?_, fun h0 => out.rais _ (onFull_no h0)⟩
  rw [onFull_yes h0] at out
  refine ⟨_, rfl, a, A.room, dx, fs, (.ref po), rfl, s1.keep hR, T.cl, T.n_order, lo, (by show 0 ≤ sizeLine; decide), fun p0 hp0 => ?_⟩
  have s2 := Same.new (o := .lst []) hp0
  have sA := s1.trans s2
  refine ne_nil_go (SqL.of (sA.keep hO)) (SqL.of upd_same) ⟨_, _, rfl, _, _, rfl, rfl, fun h3 => ?_, fun h3 => ?_⟩
  · have hne : Vbceah.sheetsOf s.books s.order [] ≠ [] := fun z => by
      rw [z] at hsl
      have : s.order = [] := List.length_eq_zero_iff.mp hsl.symm
      rw [this] at h3
      cases h3
    obtain ⟨k, hk⟩ := TdM.critical_some hne
    rw [hk] at out
    have q := out.pure R
    refine ⟨_, rfl, _, rfl, a, s, m, rfl, R.mono sA, iv, fun v H3 s3 hs => ?_⟩
    refine ⟨_, rfl, _, k, hs, by omega, hk, fun H4 s4 => ⟨(by show 1 ≤ sizeLine; decide), fun p5 hp5 => q _ _ (((sA.trans s3).trans s4).trans (Same.new hp5)) ⟨p5, rfl, ((sA.trans s3).trans s4).free hp5, upd_same⟩⟩⟩
  · have hnil : s.order = [] := by
      cases ho : s.order with
      | nil => rfl
      | cons b r => rw [ho] at h3; cases h3
    have hsn : Vbceah.sheetsOf s.books s.order [] = [] := by rw [hnil]; rfl
    rw [hsn] at out
    exact (out.rais (-5) rfl).mono sA
theorem pure_blocks (T : Txt K mg A) (vs : List V) (H : Hp) (Q : VK) (E : XK) (h : sp_blocks K A vs H Q E) : t_blocks K A E { nx := fun _ H' => Q .non H', rt := Q } (start ["room", "row", "at", "number"] vs) H := by
  obtain ⟨x, y, rfl, a, s, m, l, rfl, R, iv, hrow, hl, hym, out⟩ := h
  have out : Out K A H a s m y (run s (.blocks l)) Q E := out
  obtain ⟨dx, fs, pb, pe, po, ws, hR, lb, le, lo, hB, hBP, hE, hO, hno⟩ := R.flds
  obtain ⟨p, rfl, hp⟩ := hrow
  have hlb := hBP.length
  have hBV : BsV K H (.ref pb) s.books := ⟨pb, ws, rfl, SqL.of hB, hBP⟩
  have hlm : (l.map V.int).length = l.length := List.length_map _
  have bad : ¬ (Vbceah.unlike l = true ∧ Within l 0 ((s.books.length : Int) - 1)) → Rz A H E (-1) := fun h => out.rais _ (run_blocks_no h)
  refine ⟨_, rfl, _, rfl, a, A.room, dx, fs, (.ref pb), rfl, hR, T.cl, T.n_books, lb, pb, ws, rfl, .inl (SqL.of hB), _, _, rfl, rfl, ?_⟩
  refine ⟨_, _, _, rfl, l, 0, ((ws.length : Nat) : Int) - 1, ⟨p, rfl, SqL.of hp⟩, rfl, rfl, fun hw => ?_, fun hw => bad fun z => hw (by rw [hlb]; exact z.2)⟩
  rw [hlb] at hw
  refine ⟨_, rfl, p, l.map V.int, rfl, SqL.of hp, fun D hD => lc_it (walk_enum (xs := l.map V.int)) (fun i H' => Same H H' ∧ ∃ acc : List Int, H' D = some (.lst (acc.map V.int)) ∧ acc.length + (l.take i).eraseDups.length = i)
    ⟨Same.new hD, [], upd_same, rfl⟩ (fun i H' _ h => SqL.of (h.1.keep hp)) ?_ ?_⟩
  · rintro i v H0 H' hi ⟨s1, acc, h1, hacc⟩ ⟨Tt, xn, xb, rfl, hT, rfl, en, eb⟩
    obtain rfl : V.int (i : Nat) = xn := Option.some.inj en
    obtain ⟨n, hn, rfl⟩ := int_at eb
    have s2 := Same.new (o := .tup [.int (i : Nat), .int n]) hT
    have s12 := s1.trans s2
    refine ⟨Tt, _, rfl, SqT.of upd_same, rfl, _, _, rfl, _, _, rfl, rfl, rfl, ?_⟩
    refine ⟨_, rfl, _, rfl, _, rfl, _, rfl, p, _, rfl, SqL.of (s12.keep hp), fun p1 hp1 => ?_⟩
    have s3 := Same.new (o := .lst (cutV (l.map V.int) none (some ((i : Nat) : Int)))) hp1
    have ec : cutV (l.map V.int) none (some ((i : Nat) : Int)) = (l.take i).map V.int := by rw [cut_take, List.map_take]
    have h1' := (s2.trans s3).keep h1
    refine ⟨p1, _, rfl, .inl (SqL.of upd_same), rfl, by rw [ec]; exact flat_ints _, _, rfl, ?_⟩
    rw [ec, inV_ints]
    rw [ec] at s3 h1'
    have et : l.take (i + 1) = l.take i ++ [n] := take_at hn
    by_cases hm : n ∈ l.take i
    · rw [decide_eq_true hm]
      refine ⟨_, rfl, _, h1', line_lt (by rw [List.length_map]; rw [hlm] at hi; omega), (s12.trans s3).mut hD, acc ++ [n], ?_, ?_⟩
      · rw [upd_same, List.map_append]
        rfl
      · rw [et, TdM.eraseDups_snoc, if_pos hm, List.length_append, List.length_singleton]
        omega
    · rw [decide_eq_false hm]
      refine ⟨s12.trans s3, acc, h1', ?_⟩
      rw [et, TdM.eraseDups_snoc, if_neg hm, List.length_append, List.length_singleton]
      omega
  · rintro H1 ⟨s1, acc, h1, hacc⟩
    rw [hlm, List.take_length] at hacc
    have eun : acc.isEmpty = Vbceah.unlike l := by
      unfold Vbceah.unlike
      cases acc with
      | nil =>
        have : l.eraseDups.length = l.length := by simpa using hacc
        rw [this]
        simp
      | cons z r =>
        have : ¬ l.eraseDups.length = l.length := by simp at hacc; omega
        show false = _
        rw [eq_comm, beq_eq_false_iff_ne]
        exact this
    refine ⟨(by show 0 ≤ sizeLine; decide), fun p0 hp0 => ?_⟩
    have s2 := Same.new (o := .lst []) hp0
    have sA := s1.trans s2
    refine eq_nil_go (SqL.of (s2.keep h1)) (SqL.of upd_same) ⟨_, _, rfl, _, _, rfl, rfl, fun h3 => ?_, fun h3 => (bad fun z => ?_).mono sA⟩
    · rw [eun] at h3
      rw [run_blocks h3 hw] at out
      have hnt := nts_of hw
      have hlt := toNat_lt hw
      refine ⟨_, rfl, _, rfl, a, s, m, rfl, R.mono sA, iv, fun h0 H3 s3 => ?_, fun h0 => (out.rais _ (onFull_no h0)).mono sA⟩
      rw [onFull_yes h0] at out
      have q := out.pure R
      have sB := sA.trans s3
      refine ⟨_, rfl, a, A.room, dx, fs, (.ref pb), rfl, sB.keep hR, T.cl, T.n_books, lb, _, rfl, _, _, rfl, s.books, l.map Int.toNat, hBV.mono sB, iv.bks, ⟨p, rfl, by rw [hnt]; exact SqL.of (sB.keep hp)⟩, hlt, by rw [List.length_map]; exact hl, fun H4 s4 => ⟨(by show 1 ≤ sizeLine; decide), fun p5 hp5 => q _ _ ((sB.trans s4).trans (Same.new hp5)) ⟨p5, rfl, (sB.trans s4).free hp5, upd_same⟩⟩⟩
    · rw [eun, z.1] at h3
      cases h3
theorem pure_swap (T : Txt K mg A) (vs : List V) (H : Hp) (Q : VK) (E : XK) (h : sp_swap K A vs H Q E) : t_swap K A E { nx := fun _ H' => Q .non H', rt := Q } (start ["room", "place", "turned", "exchanged"] vs) H := by
  obtain ⟨x, y, rfl, a, s, m, n, rfl, R, iv, rfl, out⟩ := h
  have out : Out K A H a s m .non (run s (.swap n)) Q E := out
  obtain ⟨dx, fs, pb, pe, po, ws, hR, lb, le, lo, hB, hBP, hE, hO, hno⟩ := R.flds
  have h12 := iv.few
  have hBV : BsV K H (.ref pb) s.books := ⟨pb, ws, rfl, SqL.of hB, hBP⟩
  have hol : ((nts s.order).map V.int).length = s.order.length := by simp
  refine ⟨_, rfl, (by show 1 ≤ sizeLine; decide), fun p1 hp1 => ?_⟩
  have s1 := Same.new (o := .lst [V.int n]) hp1
  refine ⟨_, rfl, a, A.room, dx, fs, (.ref po), rfl, s1.keep hR, T.cl, T.n_order, lo, po, _, rfl, .inl (SqL.of (s1.keep hO)), _, _, rfl, rfl, ?_⟩
  refine ⟨_, _, _, rfl, [n], 0, (((nts s.order).map V.int).length : Int) - 2, ⟨p1, rfl, SqL.of upd_same⟩, rfl, rfl, fun h1 => ?_, fun h1 => (out.rais _ (run_swap_no fun z => h1 (within_one.mpr (by rw [hol]; exact z)))).mono s1⟩
  have h1 := within_one.mp h1
  rw [hol] at h1
  rw [run_swap h1] at out
  obtain ⟨k, rfl⟩ : ∃ k : Nat, n = k := ⟨n.toNat, by omega⟩
  have q := out.pure R
  have hk : k + 2 ≤ s.order.length := by omega
  have e2 : (k : Int) + 2 = ((k + 2 : Nat) : Int) := by omega
  have cb : cutV ((nts s.order).map V.int) (some (k : Int)) (some ((k : Int) + 2)) = (nts ((s.order.drop k).take 2)).map V.int := by
    rw [e2, cut_both, show k + 2 - k = 2 by omega]
    simp [nts]
  have ct : cutV ((nts s.order).map V.int) none (some (k : Int)) = (nts (s.order.take k)).map V.int := by
    rw [cut_take]
    simp [nts]
  have cd : cutV ((nts s.order).map V.int) (some ((k : Int) + 2)) none = (nts (s.order.drop (k + 2))).map V.int := by
    rw [e2, cut_drop]
    simp [nts]
  refine ⟨_, rfl, a, A.room, dx, fs, (.ref po), rfl, s1.keep hR, T.cl, T.n_order, lo, _, rfl, _, rfl, _, rfl, _, _, rfl, rfl, _, rfl, po, _, rfl, SqL.of (s1.keep hO), fun p2 hp2 => ?_⟩
  rw [cb]
  have s2 := Same.new (o := .lst ((nts ((s.order.drop k).take 2)).map V.int)) hp2
  refine ⟨p2, _, rfl, SqL.of upd_same, fun p3 hp3 => ?_⟩
  have er : ((nts ((s.order.drop k).take 2)).map V.int).reverse = (nts [s.order.getD (k + 1) 0, s.order.getD k 0]).map V.int := by
    rw [pair_at hk]
    rfl
  rw [er]
  have s3 := Same.new (o := .lst ((nts [s.order.getD (k + 1) 0, s.order.getD k 0]).map V.int)) hp3
  have sA := (s1.trans s2).trans s3
  refine ⟨_, rfl, a, A.room, dx, fs, (.ref po), rfl, sA.keep hR, T.cl, T.n_order, lo, _, rfl, _, rfl, po, _, rfl, SqL.of (sA.keep hO), fun p4 hp4 => ?_⟩
  rw [ct]
  have s4 := Same.new (o := .lst ((nts (s.order.take k)).map V.int)) hp4
  refine ⟨_, rfl, p4, p3, _, _, rfl, rfl, upd_same, s4.keep upd_same, line_le (by simp; omega), fun p5 hp5 => ?_⟩
  have s5 := Same.new (o := .lst ((nts (s.order.take k)).map V.int ++ (nts [s.order.getD (k + 1) 0, s.order.getD k 0]).map V.int)) hp5
  have sB := (sA.trans s4).trans s5
  refine ⟨_, rfl, a, A.room, dx, fs, (.ref po), rfl, sB.keep hR, T.cl, T.n_order, lo, _, rfl, _, _, rfl, rfl, _, rfl, po, _, rfl, SqL.of (sB.keep hO), fun p6 hp6 => ?_⟩
  rw [cd]
  have s6 := Same.new (o := .lst ((nts (s.order.drop (k + 2))).map V.int)) hp6
  refine ⟨p5, p6, _, _, rfl, rfl, s6.keep upd_same, upd_same, line_le (by simp; omega), fun p7 hp7 => ?_⟩
  have eall : (nts (s.order.take k)).map V.int ++ (nts [s.order.getD (k + 1) 0, s.order.getD k 0]).map V.int ++ (nts (s.order.drop (k + 2))).map V.int = (nts (swapped s.order k)).map V.int := by
    unfold swapped
    simp [nts]
  rw [eall]
  have s7 := Same.new (o := .lst ((nts (swapped s.order k)).map V.int)) hp7
  have sC := (sB.trans s6).trans s7
  have fit' := swapped_fit iv.fit hk
  have full' := TdM.sheets_full fit'
  have len' := swapped_len hk
  refine ⟨_, rfl, a, A.room, dx, fs, (.ref pe), rfl, sC.keep hR, T.cl, T.n_empties, le, _, rfl, a, A.room, dx, fs, (.ref pb), rfl, sC.keep hR, T.cl, T.n_books, lb, _, rfl, _, _, rfl, s.books, swapped s.order k, hBV.mono sC, iv.bks, ⟨p7, rfl, SqL.of upd_same⟩, fit', by omega, fun v8 H8 s8 hs8 => ?_⟩
  have sD := sC.trans s8
  refine ⟨_, _, rfl, s.empty1, s.empty2, _, hE.mono sD, hs8.ss, by omega, fun v9 H9 s9 ⟨pc, ec, hpc⟩ => ?_⟩
  subst ec
  refine ⟨pc, _, rfl, .inr hpc, fun p10 hp10 => q _ _ ((sD.trans s9).trans (Same.new hp10)) ⟨p10, rfl, (sD.trans s9).free hp10, ?_⟩⟩
  rw [upd_same]
  rfl
theorem pure_clear (T : Txt K mg A) (vs : List V) (H : Hp) (Q : VK) (E : XK) (h : sp_clear K A vs H Q E) : t_clear K A E { nx := fun _ H' => Q .non H', rt := Q } (start ["room"] vs) H := by
  obtain ⟨x, rfl, a, s, m, rfl, R, back⟩ := h
  obtain ⟨dx, fs, pb, pe, po, ws, hR, lb, le, lo, hB, hBP, hE, hO, hno⟩ := R.flds
  refine ⟨_, rfl, a, dx, fs, rfl, hR, hno _ (by decide), ?_⟩
  refine ⟨_, rfl, a, s, m, rfl, R, fun H1 m1 kp R1 => ⟨(by show 1 ≤ sizeLine; decide), fun p hp => back _ _ m1 (Kp.comp (Same.refl H) kp (Same.new hp)) (R1.mono (Same.new hp)) ⟨p, rfl, kp.dom p hp, upd_same⟩⟩⟩
end
end Td
set_option Elab.async false
set_option linter.all false
set_option maxRecDepth 100000
set_option maxHeartbeats 2000000
/-! Two desks, plain: the calls in the one list of numbers. -/
namespace Td
open Vbceah (Sheet Book Breaks State Clock Reach)
theorem whole_id (c : List (List Int)) : PyVbceah.whole c = c := by
  unfold PyVbceah.whole
  split <;> rfl
theorem whole_map (cs : List (List (List Int))) : cs.map PyVbceah.whole = cs := by
  conv => rhs; rw [← List.map_id cs]
  exact List.map_congr_left fun c _ => whole_id c
def rowsN (k : Int) : Nat := if withRow k = true then 1 else 0
theorem shape_ok : ∀ k : Fin 20, PyVbceah.shape (k.val : Int) = some (few (k.val : Int), rowsN (k.val : Int)) := by decide
theorem shape_some {p : Int} {a b : Nat} (h : PyVbceah.shape p = some (a, b)) : (0 ≤ p ∧ p ≤ 19) ∧ a = few p ∧ b = rowsN p := by
  by_cases hp : 0 ≤ p ∧ p ≤ 19
  · obtain ⟨k, hk, rfl⟩ : ∃ k : Nat, k < 20 ∧ p = (k : Int) := ⟨p.toNat, by omega, by omega⟩
    have e := shape_ok ⟨k, hk⟩
    have e : PyVbceah.shape (k : Int) = some (few (k : Int), rowsN (k : Int)) := e
    rw [e] at h
    have := Prod.mk.inj (Option.some.inj h)
    exact ⟨hp, this.1.symm, this.2.symm⟩
  · have e : PyVbceah.shape p = none := by
      unfold PyVbceah.shape
      repeat rw [if_neg (by omega)]
    rw [e] at h
    cases h
theorem drop_cons {ns : List Int} {i : Nat} {p : Int} {r : List Int} (h : ns.drop i = p :: r) : ns[i]? = some p ∧ r = ns.drop (i + 1) ∧ i < ns.length := by
  have hl : i < ns.length := by
    refine Nat.lt_of_not_le fun hle => ?_
    rw [List.drop_eq_nil_of_le hle] at h
    cases h
  rw [List.drop_eq_getElem_cons hl] at h
  have := List.cons.inj h
  exact ⟨by rw [List.getElem?_eq_getElem hl, this.1], this.2.symm, hl⟩
theorem call_at {ns : List Int} {i : Nat} {c : List (List Int)} {t : List Int} (h : PyFlat.call PyVbceah.shape (ns.drop i) = some (c, t)) :
    ∃ k : Int, ns[i]? = some k ∧ 0 ≤ k ∧ k ≤ 19 ∧ ((ns.drop (i + 1)).take (few k)).length = few k ∧ ∃ (l : List Int) (j : Nat), c = rowsOf k ((ns.drop (i + 1)).take (few k)) l ∧ t = ns.drop j ∧ i < j ∧ j ≤ ns.length ∧
      (withRow k = false → l = [] ∧ j = i + 1 + few k) ∧ (withRow k = true → ∃ n : Nat, ns[i + 1 + few k]? = some (n : Int) ∧ l = (ns.drop (i + 1 + few k + 1)).take n ∧ j = i + 1 + few k + 1 + n) := by
  cases hd : ns.drop i with
  | nil => rw [hd] at h; cases h
  | cons p r =>
    rw [hd] at h
    obtain ⟨hp, rfl, hi⟩ := drop_cons hd
    unfold PyFlat.call at h
    cases hs : PyVbceah.shape p with
    | none => simp only [hs] at h; cases h
    | some ab =>
      obtain ⟨a, b⟩ := ab
      obtain ⟨⟨h0, h19⟩, rfl, rfl⟩ := shape_some hs
      simp only [hs] at h
      by_cases hlen : (ns.drop (i + 1)).length < few p
      · rw [if_pos hlen] at h; cases h
      · rw [if_neg hlen] at h
        have hfl : ((ns.drop (i + 1)).take (few p)).length = few p := by rw [List.length_take]; omega
        rw [List.length_drop] at hlen
        have hdd : (ns.drop (i + 1)).drop (few p) = ns.drop (i + 1 + few p) := by rw [List.drop_drop]
        rw [hdd] at h
        refine ⟨p, hp, h0, h19, hfl, ?_⟩
        cases hw : withRow p with
        | false =>
          have hr : rowsN p = 0 := by unfold rowsN; rw [if_neg (by rw [hw]; exact Bool.noConfusion)]
          rw [hr] at h
          simp only [PyFlat.rows] at h
          have e := Prod.mk.inj (Option.some.inj h)
          refine ⟨[], i + 1 + few p, ?_, e.2.symm, by omega, by omega, fun _ => ⟨rfl, rfl⟩, fun z => by cases z⟩
          rw [← e.1]
          unfold rowsOf
          rw [if_neg (of_decide_eq_false hw)]
        | true =>
          have hr : rowsN p = 1 := by unfold rowsN; rw [if_pos hw]
          rw [hr] at h
          simp only [PyFlat.rows] at h
          cases hd2 : ns.drop (i + 1 + few p) with
          | nil => rw [hd2] at h; simp only [PyFlat.row] at h; cases h
          | cons m r2 =>
            obtain ⟨hm, rfl, hi2⟩ := drop_cons hd2
            rw [hd2] at h
            simp only [PyFlat.row] at h
            by_cases hc : 0 ≤ m ∧ m.toNat ≤ (ns.drop (i + 1 + few p + 1)).length
            · rw [if_pos hc] at h
              simp only at h
              have e := Prod.mk.inj (Option.some.inj h)
              have hl2 := hc.2
              rw [List.length_drop] at hl2
              refine ⟨(ns.drop (i + 1 + few p + 1)).take m.toNat, i + 1 + few p + 1 + m.toNat, ?_, ?_, by omega, by omega, fun z => (by cases z), fun _ => ⟨m.toNat, ?_, rfl, rfl⟩⟩
              · rw [← e.1]
                unfold rowsOf
                rw [if_pos (of_decide_eq_true hw)]
              · rw [← e.2, List.drop_drop]
              · rw [hm]
                exact congrArg some (by omega)
            · rw [if_neg hc] at h
              cases h
theorem calls_at {ns : List Int} {i f : Nat} {cs : List (List (List Int))} (h : PyFlat.calls PyVbceah.shape f (ns.drop i) = some cs) :
    (ns.length ≤ i ∧ cs = []) ∨ (i < ns.length ∧ ∃ c t cs' f', PyFlat.call PyVbceah.shape (ns.drop i) = some (c, t) ∧ PyFlat.calls PyVbceah.shape f' t = some cs' ∧ cs = c :: cs') := by
  cases hd : ns.drop i with
  | nil =>
    left
    rw [hd] at h
    have e : PyFlat.calls PyVbceah.shape f [] = some [] := by cases f <;> rfl
    rw [e] at h
    exact ⟨List.drop_eq_nil_iff.mp hd, (Option.some.inj h).symm⟩
  | cons p r =>
    right
    obtain ⟨hp, hr, hi⟩ := drop_cons hd
    rw [hd] at h
    cases f with
    | zero => cases h
    | succ f =>
      simp only [PyFlat.calls] at h
      cases hc : PyFlat.call PyVbceah.shape (p :: r) with
      | none => rw [hc] at h; cases h
      | some ct =>
        obtain ⟨c, t⟩ := ct
        rw [hc] at h
        simp only at h
        cases hcs : PyFlat.calls PyVbceah.shape f t with
        | none => rw [hcs] at h; cases h
        | some cs' =>
          rw [hcs] at h
          exact ⟨hi, c, t, cs', f, rfl, hcs, (Option.some.inj h).symm⟩
theorem asked_row {k : Int} {ns l : List Int} (hn : ns.length = few k) (hw : withRow k = true) (h : VbceahNeutral.asked1 (rowsOf k ns l) = true) : l.length ≤ 30 := by
  have hm := of_decide_eq_true hw
  simp only [List.mem_cons, List.not_mem_nil, or_false] at hm
  have two : ∀ {a b : Bool}, (a && b) = true → b = true := fun h => (Bool.and_eq_true _ _ ▸ h : _ ∧ _).2
  rcases hm with rfl | rfl | rfl | rfl | rfl | rfl
  · have e : ns = [] := List.length_eq_zero_iff.mp hn
    subst e
    have h : (l.all VbceahNeutral.whole64 && decide (l.length ≤ 30)) = true := h
    exact of_decide_eq_true (two h)
  · obtain ⟨d, rfl⟩ := List.length_eq_one_iff.mp hn
    have h : (VbceahNeutral.whole64 d && (l.all VbceahNeutral.whole64 && decide (l.length ≤ 30))) = true := h
    exact of_decide_eq_true (two (two h))
  · have e : ns = [] := List.length_eq_zero_iff.mp hn
    subst e
    have h : (l.all VbceahNeutral.whole64 && decide (l.length ≤ 30)) = true := h
    exact of_decide_eq_true (two h)
  · obtain ⟨d, rfl⟩ := List.length_eq_one_iff.mp hn
    have h : (VbceahNeutral.whole64 d && (l.all VbceahNeutral.whole64 && decide (l.length ≤ 30))) = true := h
    exact of_decide_eq_true (two (two h))
  · obtain ⟨d, rfl⟩ := List.length_eq_one_iff.mp hn
    have h : (VbceahNeutral.whole64 d && (l.all VbceahNeutral.whole64 && decide (l.length ≤ 30))) = true := h
    exact of_decide_eq_true (two (two h))
  · have e : ns = [] := List.length_eq_zero_iff.mp hn
    subst e
    have h : (l.all VbceahNeutral.whole64 && decide (l.length ≤ 30)) = true := h
    exact of_decide_eq_true (two h)
/-- what is asked of a list -/
theorem asked_is {ns : List Int} (h : PyVbceah.answers_asked ns = true) : ∃ cs, PyFlat.calls PyVbceah.shape ns.length ns = some cs ∧ cs.length ≤ 400 ∧ (∀ c ∈ cs, VbceahNeutral.asked1 c = true) ∧ PyVbceah.answers ns = PyFlat.told (PyFlat.played Vbceah.step Vbceah.start cs) := by
  unfold PyVbceah.answers_asked at h
  cases hc : PyFlat.calls PyVbceah.shape ns.length ns with
  | none => rw [hc] at h; cases h
  | some cs =>
    rw [hc] at h
    simp only [Bool.and_eq_true] at h
    obtain ⟨⟨h1, _⟩, h3⟩ := h
    rw [whole_map] at h3
    unfold VbceahNeutral.asked at h3
    rw [Bool.and_eq_true] at h3
    refine ⟨cs, rfl, of_decide_eq_true h1, fun c hcm => List.all_eq_true.mp h3.1 c hcm, ?_⟩
    unfold PyVbceah.answers PyVbceah.calls
    rw [hc]
    simp only [whole_map]
    rfl
theorem told_cons (a : List Int) (l : List (List Int)) : PyFlat.told (a :: l) = ((a.length : Int) :: a) ++ PyFlat.told l := List.flatMap_cons
/-- a call and its rows -/
theorem step_iv {s : State} (iv : TdM.Iv s) (c : List (List Int)) : TdM.Iv (Vbceah.step s c).1 := by
  unfold Vbceah.step
  split
  · exact iv
  · rename_i d _
    exact iv_run iv d
theorem step_few {s : State} (iv : TdM.Iv s) (c : List (List Int)) : (Vbceah.step s c).2.length ≤ 100 := by
  unfold Vbceah.step
  split
  · exact Nat.le_of_ble_eq_true rfl
  · rename_i d _
    exact run_few iv d
end Td
set_option Elab.async false
set_option linter.all false
set_option maxRecDepth 100000
set_option maxHeartbeats 4000000
/-! Two desks, from promise to reading: which call, its answer or refusal, all calls. -/
namespace Td
open PySem PySem.Spec PyProof.Rows L2
open Vbceah (Sheet Book Breaks State Clock Reach)
open TdM (Bks Fit Iv Ok Far Good)
section
variable {K : PySem.W.Frag} {mg : Str → Option Value} {A : Ad}
theorem row_told (l : List Nat) : (((nts l).length : Int) :: nts l) = Vbceah.listRow l := by
  unfold Vbceah.listRow VbceCore.ints nts
  rw [List.length_map]
theorem pure_of_order (T : Txt K mg A) (vs : List V) (H : Hp) (Q : VK) (E : XK) (h : sp_of_order K A vs H Q E) : t_of_order K A E { nx := fun _ H' => Q .non H', rt := Q } (start ["room", "what"] vs) H := by
  obtain ⟨x, y, rfl, a, s, m, k, rfl, R, iv, rfl, hk3, hk10, q⟩ := h
  obtain ⟨dx, fs, pb, pe, po, ws, hR, lb, le, lo, hB, hBP, hE, hO, hno⟩ := R.flds
  have h12 := iv.few
  have hsl := TdM.sheets_full iv.fit
  have hBV : BsV K H (.ref pb) s.books := ⟨pb, ws, rfl, SqL.of hB, hBP⟩
  refine ⟨_, rfl, rfl, _, rfl, if_d (fun hk => ?_) (fun n3 => ?_)⟩
  · have hk := V.int.inj hk
    subst hk
    refine ⟨_, rfl, a, A.room, dx, fs, (.ref po), rfl, hR, T.cl, T.n_order, lo, _, rfl, nts s.order, ⟨po, rfl, SqL.of hO⟩, by simp; omega, fun v H1 s1 hn => q v H1 s1 ?_⟩
    rw [row_told] at hn
    exact hn
  refine ⟨_, rfl, rfl, _, rfl, if_d (fun hk => ?_) (fun n4 => ?_)⟩
  · have hk := V.int.inj hk
    subst hk
    exact ⟨_, rfl, _, rfl, a, s, m, rfl, R, iv, q⟩
  refine ⟨_, rfl, rfl, _, rfl, if_d (fun hk => ?_) (fun n5 => ?_)⟩
  · have hk := V.int.inj hk
    subst hk
    exact ⟨_, rfl, _, rfl, a, s, m, rfl, R, iv, q⟩
  refine ⟨_, rfl, rfl, _, rfl, if_d (fun hk => ?_) (fun n6 => ?_)⟩
  · have hk := V.int.inj hk
    subst hk
    refine ⟨_, rfl, a, A.room, dx, fs, (.ref pe), rfl, hR, T.cl, T.n_empties, le, _, rfl, _, rfl, a, s, m, rfl, R, iv, fun v H1 s1 hs => ?_⟩
    refine ⟨_, _, rfl, s.empty1, s.empty2, _, hE.mono s1, hs.ss, by omega, fun v2 H2 s2 hw => ?_⟩
    have hwl := TdM.waits_length s.empty1 s.empty2 (Vbceah.sheetsOf s.books s.order [])
    refine ⟨_, rfl, _, hw.is, by rw [List.length_map]; omega, fun v3 H3 s3 hn => q v3 H3 ((s1.trans s2).trans s3) ?_⟩
    rw [row_told] at hn
    exact hn.back (s1.trans s2)
  refine ⟨_, rfl, rfl, _, rfl, if_d (fun hk => ?_) (fun n7 => ?_)⟩
  · have hk := V.int.inj hk
    subst hk
    exact ⟨_, rfl, _, rfl, a, s, m, rfl, R, iv, q⟩
  refine ⟨_, rfl, rfl, _, rfl, if_d (fun hk => ?_) (fun n8 => ?_)⟩
  · have hk := V.int.inj hk
    subst hk
    refine ⟨_, rfl, a, A.room, dx, fs, (.ref pb), rfl, hR, T.cl, T.n_books, lb, _, rfl, a, A.room, dx, fs, (.ref pe), rfl, hR, T.cl, T.n_empties, le, _, _, rfl, s.books, s.empty1, s.empty2, hBV, iv.bks, hE, iv.ok1, iv.ok2, fun v2 H2 s2 hw => ?_⟩
    have hbl := bestFrom_len s.books s.empty1 s.empty2 (Vbceah.least s.books s.empty1 s.empty2) (Vbceah.sheetsIn s.books) (Vbceah.zeros s.books.length) ⟨0, 0⟩
    have hall := iv.bks.all
    refine ⟨_, rfl, _, hw.is, by rw [List.length_map]; unfold Vbceah.best; omega, fun v3 H3 s3 hn => q v3 H3 (s2.trans s3) ?_⟩
    rw [row_told] at hn
    exact hn.back s2
  refine ⟨_, rfl, rfl, _, rfl, if_d (fun hk => ?_) (fun n9 => ?_)⟩
  · have hk := V.int.inj hk
    subst hk
    exact ⟨_, rfl, _, rfl, a, s, m, rfl, R, iv, q⟩
  have ek : k = 10 := by
    have m3 : k ≠ 3 := fun z => n3 (by rw [z])
    have m4 : k ≠ 4 := fun z => n4 (by rw [z])
    have m5 : k ≠ 5 := fun z => n5 (by rw [z])
    have m6 : k ≠ 6 := fun z => n6 (by rw [z])
    have m7 : k ≠ 7 := fun z => n7 (by rw [z])
    have m8 : k ≠ 8 := fun z => n8 (by rw [z])
    have m9 : k ≠ 9 := fun z => n9 (by rw [z])
    omega
  subst ek
  exact ⟨_, rfl, _, rfl, a, s, m, rfl, R, iv, q⟩
theorem pure_of_room (T : Txt K mg A) (vs : List V) (H : Hp) (Q : VK) (E : XK) (h : sp_of_room K A vs H Q E) : t_of_room K A E { nx := fun _ H' => Q .non H', rt := Q } (start ["room", "what", "some", "row"] vs) H := by
  obtain ⟨x, y, z, w, rfl, a, s, m, k, ns, l, rfl, R, iv, rfl, hk0, hk19, hknot, ⟨pz, rfl, hz⟩, hnl, hw, hl, hwm, out⟩ := h
  have none : few k = 0 → ns = [] := fun h => List.length_eq_zero_iff.mp (hnl.trans h)
  have one : few k = 1 → ∃ d, ns = [d] := fun h => List.length_eq_one_iff.mp (hnl.trans h)
  refine ⟨_, rfl, rfl, _, rfl, if_d (fun hk => ?_) (fun n0 => ?_)⟩
  · have hk := V.int.inj hk
    subst hk
    have e := none rfl
    subst e
    exact ⟨_, rfl, _, rfl, _, _, rfl, a, s, m, l, rfl, R, iv, hw, hl, hwm, out⟩
  refine ⟨_, rfl, rfl, _, rfl, if_d (fun hk => ?_) (fun n1 => ?_)⟩
  · have hk := V.int.inj hk
    subst hk
    obtain ⟨d, rfl⟩ := one rfl
    exact ⟨_, rfl, _, rfl, ix_go (i := 0) (.inl hz) lt_zero ⟨_, rfl, _, _, _, rfl, a, s, m, d, l, rfl, R, iv, rfl, hw, hl, hwm, out⟩⟩
  refine ⟨_, rfl, rfl, _, rfl, if_d (fun hk => ?_) (fun n2 => ?_)⟩
  · have hk := V.int.inj hk
    subst hk
    have e := none rfl
    subst e
    exact ⟨_, rfl, _, rfl, _, _, rfl, a, s, m, l, rfl, R, iv, hw, hl, hwm, out⟩
  refine ⟨_, rfl, rfl, _, rfl, if_d (fun hk => ?_) (fun n11 => ?_)⟩
  · have hk := V.int.inj hk
    subst hk
    have e := none rfl
    subst e
    exact ⟨_, rfl, _, rfl, a, s, m, rfl, R, iv, out.non⟩
  refine ⟨_, rfl, rfl, _, rfl, if_d (fun hk => ?_) (fun n12 => ?_)⟩
  · have hk := V.int.inj hk
    subst hk
    obtain ⟨d, rfl⟩ := one rfl
    exact ⟨_, rfl, _, rfl, ix_go (i := 0) (.inl hz) lt_zero ⟨_, _, rfl, a, s, m, d, rfl, R, iv, rfl, out.non⟩⟩
  refine ⟨_, rfl, rfl, _, rfl, if_d (fun hk => ?_) (fun n13 => ?_)⟩
  · have hk := V.int.inj hk
    subst hk
    have e := none rfl
    subst e
    exact ⟨_, rfl, _, rfl, a, s, m, rfl, R, iv, out.non⟩
  refine ⟨_, rfl, rfl, _, rfl, if_d (fun hk => ?_) (fun n14 => ?_)⟩
  · have hk := V.int.inj hk
    subst hk
    obtain ⟨d, rfl⟩ := one rfl
    have out : Out K A H a s m w (run s (.judge d l)) Q E := out
    refine ⟨_, rfl, ix_go (i := 0) (.inl hz) lt_zero ⟨_, rfl, _, _, rfl, d, l, rfl, hw, hl, fun h => ?_, fun h => out.rais _ (run_judge_no hl h)⟩⟩
    rw [run_judge hl h] at out
    exact out.pure R
  refine ⟨_, rfl, rfl, _, rfl, if_d (fun hk => ?_) (fun n15 => ?_)⟩
  · have hk := V.int.inj hk
    subst hk
    obtain ⟨d, rfl⟩ := one rfl
    have out : Out K A H a s m w (run s (.more d l)) Q E := out
    refine ⟨_, rfl, ix_go (i := 0) (.inl hz) lt_zero ⟨_, rfl, _, _, rfl, d, l, rfl, hw, hl, fun h => ?_, fun h => out.rais _ (run_more_no hl h)⟩⟩
    rw [run_more hl h] at out
    exact out.pure R
  refine ⟨_, rfl, rfl, _, rfl, if_d (fun hk => ?_) (fun n16 => ?_)⟩
  · have hk := V.int.inj hk
    subst hk
    have e := none rfl
    subst e
    exact ⟨_, rfl, _, rfl, _, _, rfl, a, s, m, l, rfl, R, iv, hw, hl, hwm, out⟩
  refine ⟨_, rfl, rfl, _, rfl, if_d (fun hk => ?_) (fun n17 => ?_)⟩
  · have hk := V.int.inj hk
    subst hk
    obtain ⟨d, rfl⟩ := one rfl
    exact ⟨_, rfl, _, rfl, ix_go (i := 0) (.inl hz) lt_zero ⟨_, _, rfl, a, s, m, d, rfl, R, iv, rfl, out.non⟩⟩
  refine ⟨_, rfl, rfl, _, rfl, if_d (fun hk => ?_) (fun n18 => ?_)⟩
  · have hk := V.int.inj hk
    subst hk
    have e := none rfl
    subst e
    have out : Out K A H a s m w (s, (Vbceah.act s .books).2) Q E := out
    exact ⟨_, rfl, _, rfl, a, s, m, rfl, R, iv, out.pure R⟩
  have ek : k = 19 := by
    have m0 : k ≠ 0 := fun z => n0 (by rw [z])
    have m1 : k ≠ 1 := fun z => n1 (by rw [z])
    have m2 : k ≠ 2 := fun z => n2 (by rw [z])
    have m11 : k ≠ 11 := fun z => n11 (by rw [z])
    have m12 : k ≠ 12 := fun z => n12 (by rw [z])
    have m13 : k ≠ 13 := fun z => n13 (by rw [z])
    have m14 : k ≠ 14 := fun z => n14 (by rw [z])
    have m15 : k ≠ 15 := fun z => n15 (by rw [z])
    have m16 : k ≠ 16 := fun z => n16 (by rw [z])
    have m17 : k ≠ 17 := fun z => n17 (by rw [z])
    have m18 : k ≠ 18 := fun z => n18 (by rw [z])
    omega
  subst ek
  have e := none rfl
  subst e
  have out : Out K A H a s m w (run s .clear) Q E := out
  exact ⟨_, rfl, _, rfl, a, s, m, rfl, R, out.non.back⟩
theorem order_same {s : State} {k : Int} {ns l : List Int} (h3 : 3 ≤ k) (h10 : k ≤ 10) (hn : ns.length = few k) : Vbceah.step s (rowsOf k ns l) = (s, (Vbceah.step s [[k]]).2) := by
  have hk : k = 3 ∨ k = 4 ∨ k = 5 ∨ k = 6 ∨ k = 7 ∨ k = 8 ∨ k = 9 ∨ k = 10 := by omega
  rcases hk with rfl | rfl | rfl | rfl | rfl | rfl | rfl | rfl <;> (have e : ns = [] := List.length_eq_zero_iff.mp hn; subst e; rfl)
theorem pure_answered (T : Txt K mg A) (vs : List V) (H : Hp) (Q : VK) (E : XK) (h : sp_answered K A vs H Q E) : t_answered K A E { nx := fun _ H' => Q .non H', rt := Q } (start ["room", "what", "some", "row", "e"] vs) H := by
  obtain ⟨x, y, z, w, rfl, a, s, m, k, ns, l, rfl, R, iv, rfl, hk0, hk19, ⟨pz, rfl, hz⟩, hnl, hw, hl, hwm, q⟩ := h
  have other : ¬ (3 ≤ k ∧ k ≤ 10) → Out K A H a s m w (Vbceah.step s (rowsOf k ns l)) Q (WE (wAs K (.ref A.refused) 4 (fun a cls d => (tRet (tLst (tCons (tByRef A.refused a cls d (tVar 4)) tNil)))) (fun _ _ _ _ => False) { nx := fun _ H' => Q .non H', rt := Q }) [some (.ref a), some (.int k), some (.ref pz), some w, none]) := by
    intro _
    refine ⟨q, fun z hz d H' s1 hd => ⟨true, T.te, fun _ b hb => ?_, fun h => by cases h⟩⟩
    refine ⟨_, rfl, rfl, rfl, d, .int z, rfl, hd, (by show 1 ≤ sizeLine; decide), fun p hp => q _ _ m (Kp.of_same (s1.trans (Same.new hp))) ?_ ⟨p, rfl, s1.free hp, ?_⟩⟩
    · rw [hz]
      exact (R.mono s1).mono (Same.new hp)
    · rw [hz, upd_same]
      rfl
  have room : ¬ (3 ≤ k ∧ k ≤ 10) → sp_of_room K A [.ref a, .int k, .ref pz, w] H Q (WE (wAs K (.ref A.refused) 4 (fun a cls d => (tRet (tLst (tCons (tByRef A.refused a cls d (tVar 4)) tNil)))) (fun _ _ _ _ => False) { nx := fun _ H' => Q .non H', rt := Q }) [some (.ref a), some (.int k), some (.ref pz), some w, none]) :=
    fun hn => ⟨_, _, _, _, rfl, a, s, m, k, ns, l, rfl, R, iv, rfl, hk0, hk19, hn, ⟨pz, rfl, hz⟩, hnl, hw, hl, hwm, other hn⟩
  refine ⟨_, rfl, _, _, rfl, rfl, _, rfl, if_d (fun h3 => ?_) (fun h3 => ?_)⟩
  · refine ⟨_, _, rfl, rfl, _, rfl, if_d (fun h10 => ?_) (fun h10 => ?_)⟩
    · have e := order_same (s := s) (l := l) h3 h10 hnl
      refine ⟨_, rfl, _, rfl, _, _, rfl, a, s, m, k, rfl, R, iv, rfl, h3, h10, fun v H1 s1 hn => q v H1 m (Kp.of_same s1) ?_ ?_⟩
      · rw [e]; exact R.mono s1
      · rw [e]; exact hn
    · exact ⟨_, rfl, _, rfl, _, rfl, _, rfl, room fun z => h10 z.2⟩
  · exact ⟨_, rfl, _, rfl, _, rfl, _, rfl, _, rfl, room fun z => h3 z.1⟩
theorem pure_row_at (T : Txt K mg A) (vs : List V) (H : Hp) (Q : VK) (E : XK) (h : sp_row_at K A vs H Q E) : t_row_at K A E { nx := fun _ H' => Q .non H', rt := Q } (start ["calls", "what", "at", "end"] vs) H := by
  obtain ⟨x, y, z, rfl, ns, k, i, ⟨p, rfl, hp⟩, rfl, rfl, hat, q⟩ := h
  refine ⟨_, rfl, A.withrow, _, rfl, .inr ((Same.none H).tup T.k_withrow), rfl, flat_ints _, _, rfl, ?_⟩
  rw [inV_ints]
  have ew : decide (k ∈ ([0, 1, 2, 14, 15, 16] : List Int)) = withRow k := rfl
  rw [ew]
  cases hw : withRow k with
  | false =>
    refine ⟨(by show 0 ≤ sizeLine; decide), fun r hr => ⟨_, rfl, (by show 2 ≤ sizeLine; decide), fun t ht => ?_⟩⟩
    have s1 := Same.new (o := .lst []) hr
    have s2 := Same.new (o := .tup [.ref r, nV i]) ht
    exact q t r [] i _ (s1.trans s2) hr upd_same (s2.keep upd_same) (fun _ => ⟨rfl, rfl⟩) fun n h => by rw [hw] at h; cases h
  | true =>
    obtain ⟨n, hn⟩ := hat hw
    have hv : (ns.map V.int)[i]? = some (nV n) := by rw [List.getElem?_map, hn]; rfl
    have e1 : (i : Int) + 1 = ((i + 1 : Nat) : Int) := by omega
    have e2 : (i : Int) + 1 + (n : Int) = ((i + 1 + n : Nat) : Int) := by omega
    have ec : cutV (ns.map V.int) (some ((i : Int) + 1)) (some ((i : Int) + 1 + (n : Int))) = ((ns.drop (i + 1)).take n).map V.int := by
      rw [e1, show ((i + 1 : Nat) : Int) + (n : Int) = ((i + 1 + n : Nat) : Int) by omega, cut_both, show i + 1 + n - (i + 1) = n by omega, List.map_take, List.map_drop]
    refine ⟨_, rfl, _, _, rfl, rfl, _, rfl, _, rfl, ix_go (.inl hp) hv ⟨_, _, rfl, rfl, ?_⟩⟩
    refine ⟨_, rfl, _, rfl, _, _, rfl, rfl, _, rfl, _, rfl, _, rfl, p, _, rfl, hp, fun r hr => ?_⟩
    refine ⟨_, rfl, (by show 2 ≤ sizeLine; decide), fun t ht => ?_⟩
    have s1 := Same.new (o := .lst (cutV (ns.map V.int) (some ((i : Int) + 1)) (some ((i : Int) + 1 + (n : Int))))) hr
    have s2 := Same.new (o := .tup [.ref r, .int ((i : Int) + 1 + (n : Int))]) ht
    refine q t r ((ns.drop (i + 1)).take n) (i + 1 + n) _ (s1.trans s2) hr ?_ ?_ (fun h => by rw [hw] at h; cases h) fun n' _ hn' => ?_
    · show upd _ t (.tup [.ref r, .int ((i : Int) + 1 + (n : Int))]) t = _
      rw [upd_same, e2]
    · rw [← ec]
      exact s2.keep upd_same
    · rw [hn] at hn'
      have : n = n' := by
        have := Option.some.inj hn'
        omega
      rw [this]
      exact ⟨rfl, rfl⟩
theorem numbers_at {k : Int} (h0 : 0 ≤ k) (h19 : k ≤ 19) : (([0, 1, 0, 0, 0, 0, 0, 0, 0, 0, 0, 0, 1, 0, 1, 1, 0, 1, 0, 0] : List Int).map V.int)[k.toNat]? = some (nV (few k)) := by
  have key : ∀ j : Fin 20, (([0, 1, 0, 0, 0, 0, 0, 0, 0, 0, 0, 0, 1, 0, 1, 1, 0, 1, 0, 0] : List Int))[j.val]? = some ((few (j.val : Int) : Nat) : Int) := by decide
  have := key ⟨k.toNat, by omega⟩
  rw [List.getElem?_map]
  have this : (([0, 1, 0, 0, 0, 0, 0, 0, 0, 0, 0, 0, 1, 0, 1, 1, 0, 1, 0, 0] : List Int))[k.toNat]? = some ((few ((k.toNat : Nat) : Int) : Nat) : Int) := this
  rw [this, show ((k.toNat : Nat) : Int) = k by omega]
  rfl
theorem RoomAt.off {H : Hp} {a pf : Addr} {s : State} {m : List Addr} {xs : List V} {o : HO} (R : RoomAt K A H a s m) (hn : pf ∉ m) (hf : H pf = some (.lst xs)) : RoomAt K A (upd H pf o) a s m := by
  obtain ⟨dx, pb, pe, po, vb, x, y, rfl, n1, n2, n3, h2, h3, h4, h5, h6, h7, h8⟩ := R.ex
  simp only [List.mem_cons, List.not_mem_nil, or_false, not_or] at hn
  obtain ⟨m1, m2, m3, m4⟩ := hn
  exact ⟨dx, pb, pe, po, vb, x, y, rfl, n1, n2, n3, st_off h2 (Ne.symm m1), st_off h3 (Ne.symm m2), Paired.mapP h4 fun _ _ z => z.mut hf, st_off h5 (Ne.symm m3), h6.mut hf, h7.mut hf, st_off h8 (Ne.symm m4)⟩
theorem pure_answers (T : Txt K mg A) (vs : List V) (H : Hp) (Q : VK) (E : XK) (h : sp_answers K A vs H Q E) : t_answers K A E { nx := fun _ H' => Q .non H', rt := Q } (start ["calls", "room", "found", "at", "what", "end", "some", "row", "answer"] vs) H := by
  obtain ⟨x, rfl, pa, ns, rfl, hpa, hask, q⟩ := h
  obtain ⟨cs0, hcs0, h400, hasked, hans⟩ := asked_is hask
  rw [hans] at q
  intro room dx hroom hdx hne
  have s0 : Same H (upd (upd H dx (.own room)) room (.ins A.room dx [])) := (Same.new hdx).mut hroom
  refine ⟨_, rfl, room, dx, rfl, upd_same, fun H1 m1 k1 f1 R1 => ⟨rfl, ?_⟩⟩
  have sH1 : Same H H1 := fun b o hb => k1 b o (s0.keep hb) fun z => by rw [z, hroom] at hb; cases hb
  have m1free : ∀ x ∈ m1, H x = none := fun x hx => (f1 x hx).elim (fun z => by rw [z]; exact hroom) fun z => s0.free z
  refine ⟨(by show 0 ≤ sizeLine; decide), fun pf hpf => ?_⟩
  have s1 := Same.new (o := .lst []) hpf
  refine ⟨fun n σ H' => ∃ (i : Nat) (cs : List (List (List Int))) (s : State) (m : List Addr) (fnd : List Int) (f : Nat) (b c d e g : Option V), n = cs.length ∧ σ = [some (.ref pa), some (.ref room), some (.ref pf), some (nV i), b, c, d, e, g] ∧ Same H H' ∧ (∀ x ∈ m, H x = none) ∧ pf ∉ m ∧ H pf = none ∧
      RoomAt K A H' room s m ∧ Iv s ∧ H' pf = some (.lst (fnd.map V.int)) ∧ PyFlat.calls PyVbceah.shape f (ns.drop i) = some cs ∧ cs.length ≤ 400 ∧ fnd.length ≤ 101 * (400 - cs.length) ∧ (∀ c ∈ cs, VbceahNeutral.asked1 c = true) ∧
      fnd ++ PyFlat.told (PyFlat.played Vbceah.step s cs) = PyFlat.told (PyFlat.played Vbceah.step Vbceah.start cs0),
    ⟨_, 0, cs0, Vbceah.start, m1, [], ns.length, none, none, none, none, none, rfl, rfl, sH1.trans s1, m1free, fun h => R1.known h hpf, sH1.free hpf, R1.mono s1, iv_start, upd_same, hcs0, h400, Nat.zero_le _, hasked, rfl⟩, ?_⟩
  rintro n σ H2 ⟨i, cs, s, m, fnd, f, b, c, d, e, g, rfl, rfl, s2, mfree, hpfm, hpf0, R, iv, hf, hcs, hc400, hfl, hasked, hplay⟩
  refine ⟨_, rfl, _, rfl, pa, _, rfl, .inl (s2.seq hpa), _, _, rfl, rfl, _, rfl, ?_⟩
  rcases calls_at hcs with ⟨hend, rfl⟩ | ⟨hi, c0, t, cs', f', hcall, hcs', rfl⟩
  · refine if_f (decide_eq_false ?_) ?_
    · show ¬ (i : Int) < ((ns.map V.int).length : Int)
      rw [List.length_map]
      omega
    · have hplay : fnd ++ [] = _ := hplay
      rw [List.append_nil] at hplay
      refine ⟨_, rfl, q H2 pf ?_⟩
      rw [hf, hplay]
  · refine if_t (decide_eq_true ?_) ⟨fun σ' H' => ∃ m', m' < _ ∧ _, fun _ _ h => h, ?_⟩
    · show (i : Int) < ((ns.map V.int).length : Int)
      rw [List.length_map]
      omega
    obtain ⟨k, hk, hk0, hk19, hfew, l, j, rfl, rfl, hij, hjl, hno, hyes⟩ := call_at hcall
    have vk : (ns.map V.int)[i]? = some (.int k) := by rw [List.getElem?_map, hk]; rfl
    have ek : (k.toNat : Int) = k := by omega
    have a1 : VbceahNeutral.asked1 (rowsOf k ((ns.drop (i + 1)).take (few k)) l) = true := hasked _ List.mem_cons_self
    have hl30 : l.length ≤ 30 := by
      cases hw : withRow k with
      | false => rw [(hno hw).1]; exact Nat.zero_le _
      | true => exact asked_row hfew hw a1
    -- what = calls[at]
    refine ⟨_, rfl, _, rfl, ix_go (.inl (s2.seq hpa)) vk ?_⟩
    -- end = at + 1 + NUMBERS[what]
    have hnum : ∀ {R : VK}, R (nV (few k)) H2 → rIx K (.ref A.numbers) (.int k) H2 R := fun r => by
      rw [← ek]
      exact ix_go (.inr ((Same.none H2).tup T.k_numbers)) (numbers_at hk0 hk19) r
    refine ⟨_, rfl, _, _, rfl, rfl, _, rfl, hnum ⟨_, _, rfl, rfl, ?_⟩⟩
    -- some = calls[at + 1:end]
    have e1 : (i : Int) + 1 = ((i + 1 : Nat) : Int) := by omega
    have e2 : (i : Int) + 1 + ((few k : Nat) : Int) = ((i + 1 + few k : Nat) : Int) := by omega
    have ec : cutV (ns.map V.int) (some ((i : Int) + 1)) (some ((i : Int) + 1 + ((few k : Nat) : Int))) = ((ns.drop (i + 1)).take (few k)).map V.int := by
      rw [e1, show ((i + 1 : Nat) : Int) + ((few k : Nat) : Int) = ((i + 1 + few k : Nat) : Int) by omega, cut_both, show i + 1 + few k - (i + 1) = few k by omega, List.map_take, List.map_drop]
    refine ⟨_, rfl, _, rfl, _, _, rfl, rfl, _, rfl, _, rfl, _, rfl, pa, _, rfl, s2.seq hpa, fun ps hps => ?_⟩
    have s3 := Same.new (o := .lst (cutV (ns.map V.int) (some ((i : Int) + 1)) (some ((i : Int) + 1 + ((few k : Nat) : Int))))) hps
    have hsome : upd H2 ps (.lst (cutV (ns.map V.int) (some ((i : Int) + 1)) (some ((i : Int) + 1 + ((few k : Nat) : Int))))) ps = some (.lst (((ns.drop (i + 1)).take (few k)).map V.int)) := by rw [← ec]; exact upd_same
    -- row, at = row_at(calls, what, end)
    refine ⟨_, rfl, _, rfl, _, rfl, _, _, _, rfl, ns, k, i + 1 + few k, ⟨pa, rfl, (s2.trans s3).seq hpa⟩, rfl, (by show V.int ((i : Int) + 1 + ((few k : Nat) : Int)) = V.int _; rw [e2]), fun hw => (hyes hw).elim fun n h => ⟨n, h.1⟩, fun pt pr l' j' H4 s4 hfr ht hr ha hb => ?_⟩
    obtain ⟨el, ej⟩ : l' = l ∧ j' = j := by
      cases hw : withRow k with
      | false =>
        obtain ⟨h1, h2⟩ := ha hw
        obtain ⟨h3, h4⟩ := hno hw
        exact ⟨h1.trans h3.symm, h2.trans h4.symm⟩
      | true =>
        obtain ⟨n, h1, h2, h3⟩ := hyes hw
        obtain ⟨h4, h5⟩ := hb n hw h1
        exact ⟨h4.trans h2.symm, h5.trans h3.symm⟩
    subst el ej
    refine ⟨pt, _, rfl, SqT.of ht, rfl, _, _, rfl, _, _, rfl, rfl, ?_⟩
    have sA := (s2.trans s3).trans s4
    have R4 := R.mono (s3.trans s4)
    have prm : pr ∉ m := fun h => (R.mono s3).known h hfr
    have hf4 : H4 pf = some (.lst (fnd.map V.int)) := (s3.trans s4).keep hf
    have prf : pr ≠ pf := fun z => by
      have : upd H2 ps (.lst (cutV (ns.map V.int) (some ((i : Int) + 1)) (some ((i : Int) + 1 + ((few k : Nat) : Int))))) pr = some (.lst (fnd.map V.int)) := by rw [z]; exact s3.keep hf
      rw [hfr] at this
      cases this
    have prH : H pr = none := (s2.trans s3).free hfr
    -- answer = answered(room, what, some, row)
    refine ⟨_, rfl, _, rfl, _, rfl, _, rfl, _, _, _, _, rfl, room, s, m, k, (ns.drop (i + 1)).take (few k), l', rfl, R4, iv, rfl, hk0, hk19, ⟨ps, rfl, SqL.of (s4.keep hsome)⟩, hfew, ⟨pr, rfl, hr⟩, hl30, fun p ep => by cases ep; exact prm, fun v H5 m5 kp R5 hv => ?_⟩
    obtain ⟨pv, rfl, hpv4, hpv⟩ := hv
    have sB : Same H H5 := fun b o hb => kp.keep b o (sA.keep hb) fun z => by rw [mfree b z] at hb; cases hb
    have m5free : ∀ x ∈ m5, H x = none := fun x hx => by
      rcases kp.new x hx with h | h | h
      · exact mfree x h
      · cases h; exact prH
      · exact sA.free h
    have pfm5 : pf ∉ m5 := fun hx => by
      rcases kp.new pf hx with h | h | h
      · exact hpfm h
      · cases h; exact prf rfl
      · rw [hf4] at h; cases h
    have hf5 : H5 pf = some (.lst (fnd.map V.int)) := kp.keep _ _ hf4 hpfm
    have few100 := step_few iv (rowsOf k ((ns.drop (i + 1)).take (few k)) l')
    have iv5 := step_iv iv (rowsOf k ((ns.drop (i + 1)).take (few k)) l')
    have hcl : (rowsOf k ((ns.drop (i + 1)).take (few k)) l' :: cs').length = cs'.length + 1 := rfl
    rw [hcl] at hc400 hfl
    generalize hans5 : (Vbceah.step s (rowsOf k ((ns.drop (i + 1)).take (few k)) l')).2 = ans at hpv few100
    have hplay5 : (fnd ++ (ans.length : Int) :: ans) ++ PyFlat.told (PyFlat.played Vbceah.step (Vbceah.step s (rowsOf k ((ns.drop (i + 1)).take (few k)) l')).1 cs') = PyFlat.told (PyFlat.played Vbceah.step Vbceah.start cs0) := by
      rw [← hplay, List.append_assoc]
      congr 1
      show _ = PyFlat.told ((Vbceah.step s (rowsOf k ((ns.drop (i + 1)).take (few k)) l')).2 :: _)
      rw [told_cons, hans5]
    -- found.append(len(answer)); found.extend(answer)
    have hpvf : pv ≠ pf := fun z => by rw [z, hf4] at hpv4; cases hpv4
    refine ⟨_, rfl, tyL hf5, _, rfl, pv, _, rfl, .inl (SqL.of hpv), _, _, _, rfl, rfl, hf5, line_lt (by rw [List.length_map]; omega), ?_⟩
    refine ⟨_, rfl, tyL upd_same, _, rfl, pf, pv, _, _, rfl, rfl, upd_same, st_off hpv hpvf, line_le ?_, ?_⟩
    · simp only [List.length_append, List.length_map, List.length_cons, List.length_nil]
      omega
    refine ⟨cs'.length, Nat.lt_succ_self _, j', cs', (Vbceah.step s (rowsOf k ((ns.drop (i + 1)).take (few k)) l')).1, m5, fnd ++ (ans.length : Int) :: ans, f', some (.int k), some (.int ((i : Int) + 1 + ((few k : Nat) : Int))), some (.ref ps), some (.ref pr), some (.ref pv), rfl, rfl, (sB.mut hpf0).mut hpf0, m5free, pfm5, hpf0, ?_, iv5, ?_, hcs', by omega, ?_, fun c hc => hasked c (List.mem_cons_of_mem _ hc), hplay5⟩
    · exact (R5.off pfm5 hf5).off pfm5 upd_same
    · rw [upd_same, List.map_append, List.append_assoc, List.map_cons, List.length_map]
      rfl
    · rw [List.length_append, List.length_cons]
      omega
end
end Td
set_option Elab.async false
set_option linter.all false
set_option maxRecDepth 100000
set_option maxHeartbeats 4000000
namespace Td
open PySem PySem.Spec PyProof.Rows L2
open Vbceah (Sheet Book Breaks State Clock Reach)
open TdM (Bks Fit Iv Ok Far Good)
theorem go_finished {P : Program} {w : World} {K : PySem.W.Frag} {mg : Str → Option Value} {base : Heap} {A : Ad} (T : Txt K mg A) (F : FunAt K mg "finished" "finished" "finished" s_finished ["empty", "begun", "work"])
    
    (pure : ∀ (vs : List V) (H : Hp) (Q : VK) (E : XK), sp_finished K A vs H Q E → t_finished K A E { nx := fun _ H' => Q .non H', rt := Q } (start ["empty", "begun", "work", "at", "first", "last"] vs) H) : Go P w K mg base CX0 1 "finished" ["empty", "begun", "work"] (sp_finished K A) := by
  refine F.go fun f fd F => ?_
  refine F.ok sc_finished (fun vs H Q E h => by (unfold sp_finished at h; exact len3 vs H Q E h)) (fun cdv Ar outer s H vs Q E hr h => ⟨t_finished K A E, ?_, pure vs H Q E h⟩)
  have hu := hu_of hr
  exact (pss_cons (ps_if (pt_cmpR op_eq (pv 2) pe_int (nomark _)) (pss_one (ps_ret (pv 1))) pss_nil)
      (pss_cons (ps_set (i := 3) sc_finished.nd rfl (Or.inl rfl) (pv 1))
      (pss_cons (ps_for PassesOwn.never rfl (pi_tup (pv 0)) (pg_tup rfl (pgs_cons (pg_name (i := 4) sc_finished.nd rfl (Or.inl rfl)) (pgs_cons (pg_name (i := 5) sc_finished.nd rfl (Or.inl rfl)) pgs_nil))) (pss_one (ps_if (pt_cmpR op_gt (pv 5) (pv 3) (nomark _)) (pss_cons (ps_if (pt_cmpR op_gt (pv 4) (pv 3) (nomark _)) (pss_cons (ps_if (pt_cmpR op_ge (pe_op op_sub (pv 4) (pv 3)) (pv 2) (nomark _)) (pss_one (ps_ret (pe_op op_add (pv 3) (pv 2)))) pss_nil)
      (pss_one (ps_aug (i := 2) sc_finished.nd rfl (Or.inl rfl) (pe_op op_sub (pv 4) (pv 3)) ip_sub))) pss_nil)
      (pss_one (ps_set (i := 3) sc_finished.nd rfl (Or.inl rfl) (pv 5)))) pss_nil)))
      (pss_one (ps_ret (pe_op op_add (pv 3) (pv 2)))))))

theorem go_sheets_of {P : Program} {w : World} {K : PySem.W.Frag} {mg : Str → Option Value} {base : Heap} {A : Ad} (T : Txt K mg A) (F : FunAt K mg "sheets_of" "sheets_of" "sheets_of" s_sheets_of ["books", "order"])
    
    (pure : ∀ (vs : List V) (H : Hp) (Q : VK) (E : XK), sp_sheets_of K A vs H Q E → t_sheets_of K A E { nx := fun _ H' => Q .non H', rt := Q } (start ["books", "order", "taken", "found", "book"] vs) H) : Go P w K mg base CX0 1 "sheets_of" ["books", "order"] (sp_sheets_of K A) := by
  refine F.go fun f fd F => ?_
  refine F.ok sc_sheets_of (fun vs H Q E h => by (unfold sp_sheets_of at h; exact len2 vs H Q E h)) (fun cdv Ar outer s H vs Q E hr h => ⟨t_sheets_of K A E, ?_, pure vs H Q E h⟩)
  have hu := hu_of hr
  exact (pss_cons (ps_set (i := 2) sc_sheets_of.nd rfl (Or.inl rfl) (pe_op op_rep (pe_lst (pa_cons pe_int pa_nil)) (pe_callB cr_len (by rfl) T.b_len bb_len (pa_cons (pv 0) pa_nil))))
      (pss_cons (ps_set (i := 3) sc_sheets_of.nd rfl (Or.inl rfl) (pe_lst pa_nil))
      (pss_cons (ps_for PassesOwn.never rfl (pi_list (pv 1)) (pg_name (i := 4) sc_sheets_of.nd rfl (Or.inl rfl)) (pss_cons (ps_expr (pe_bm PySem.F.plainAttrs_list PySem.F.slot_list_append PySem.F.type_list_append mt_append (pv 3) (pa_cons (pe_ix ix_seq (pe_ix ix_seq (pv 0) (pv 4) (fun _ _ => rfl)) (pe_ix ix_seq (pv 2) (pv 4) (fun _ _ => rfl)) (fun _ _ => rfl)) pa_nil)))
      (pss_one (ps_augS (pv 2) (pv 4) get_list pe_int ip_add set_list))))
      (pss_one (ps_ret (pv 3))))))

theorem go_step {P : Program} {w : World} {K : PySem.W.Frag} {mg : Str → Option Value} {base : Heap} {A : Ad} (T : Txt K mg A) (F : FunAt K mg "step" "step" "step" s_step ["empties", "clocks", "sheet"])
    (G_finished : Go P w K mg base CX0 1 "finished" ["empty", "begun", "work"] (sp_finished K A))
    (pure : ∀ (vs : List V) (H : Hp) (Q : VK) (E : XK), sp_step K A vs H Q E → t_step K A E { nx := fun _ H' => Q .non H', rt := Q } (start ["empties", "clocks", "sheet", "computed"] vs) H) : Go P w K mg base CX0 2 "step" ["empties", "clocks", "sheet"] (sp_step K A) := by
  refine F.go fun f fd F => ?_
  refine F.ok sc_step (fun vs H Q E h => by (unfold sp_step at h; exact len3 vs H Q E h)) (fun cdv Ar outer s H vs Q E hr h => ⟨t_step K A E, ?_, pure vs H Q E h⟩)
  have hu := hu_of hr
  exact (pss_cons (ps_set (i := 3) sc_step.nd rfl (Or.inl rfl) (pe_go G_finished (hr.mono (by decide)) pass0 (pa_cons (pe_ix ix_seq (pv 0) pe_int (fun _ _ => rfl)) (pa_cons (pe_ix ix_seq (pv 1) pe_int (fun _ _ => rfl)) (pa_cons (pe_ix ix_seq (pv 2) pe_int (fun _ _ => rfl)) pa_nil)))))
      (pss_one (ps_ret (pe_tup (pa_cons (pv 3) (pa_cons (pe_go G_finished (hr.mono (by decide)) pass0 (pa_cons (pe_ix ix_seq (pv 0) pe_int (fun _ _ => rfl)) (pa_cons (pe_callB (cr_max2 rfl) (by rfl) T.b_max bb_max (pa_cons (pv 3) (pa_cons (pe_ix ix_seq (pv 1) pe_int (fun _ _ => rfl)) pa_nil))) (pa_cons (pe_ix ix_seq (pv 2) pe_int (fun _ _ => rfl)) pa_nil)))) pa_nil))))))

theorem go_clocks_of {P : Program} {w : World} {K : PySem.W.Frag} {mg : Str → Option Value} {base : Heap} {A : Ad} (T : Txt K mg A) (F : FunAt K mg "clocks_of" "clocks_of" "clocks_of" s_clocks_of ["empties", "sheets"])
    (G_step : Go P w K mg base CX0 2 "step" ["empties", "clocks", "sheet"] (sp_step K A))
    (pure : ∀ (vs : List V) (H : Hp) (Q : VK) (E : XK), sp_clocks_of K A vs H Q E → t_clocks_of K A E { nx := fun _ H' => Q .non H', rt := Q } (start ["empties", "sheets", "found", "clocks", "sheet"] vs) H) : Go P w K mg base CX0 3 "clocks_of" ["empties", "sheets"] (sp_clocks_of K A) := by
  refine F.go fun f fd F => ?_
  refine F.ok sc_clocks_of (fun vs H Q E h => by (unfold sp_clocks_of at h; exact len2 vs H Q E h)) (fun cdv Ar outer s H vs Q E hr h => ⟨t_clocks_of K A E, ?_, pure vs H Q E h⟩)
  have hu := hu_of hr
  exact (pss_cons (ps_set (i := 2) sc_clocks_of.nd rfl (Or.inl rfl) (pe_lst pa_nil))
      (pss_cons (ps_set (i := 3) sc_clocks_of.nd rfl (Or.inl rfl) (pe_tup (pa_cons pe_int (pa_cons pe_int pa_nil))))
      (pss_cons (ps_for PassesOwn.never rfl (pi_seq (pv 1)) (pg_name (i := 4) sc_clocks_of.nd rfl (Or.inl rfl)) (pss_cons (ps_set (i := 3) sc_clocks_of.nd rfl (Or.inl rfl) (pe_go G_step (hr.mono (by decide)) pass0 (pa_cons (pv 0) (pa_cons (pv 3) (pa_cons (pv 4) pa_nil)))))
      (pss_one (ps_expr (pe_bm PySem.F.plainAttrs_list PySem.F.slot_list_append PySem.F.type_list_append mt_append (pv 2) (pa_cons (pv 3) pa_nil))))))
      (pss_one (ps_ret (pv 2))))))

theorem go_behind {P : Program} {w : World} {K : PySem.W.Frag} {mg : Str → Option Value} {base : Heap} {A : Ad} (T : Txt K mg A) (F : FunAt K mg "behind" "behind" "behind" s_behind ["empties", "sheets"])
    (G_clocks_of : Go P w K mg base CX0 3 "clocks_of" ["empties", "sheets"] (sp_clocks_of K A))
    (pure : ∀ (vs : List V) (H : Hp) (Q : VK) (E : XK), sp_behind K A vs H Q E → t_behind K A E { nx := fun _ H' => Q .non H', rt := Q } (start ["empties", "sheets", "found"] vs) H) : Go P w K mg base CX0 4 "behind" ["empties", "sheets"] (sp_behind K A) := by
  refine F.go fun f fd F => ?_
  refine F.ok sc_behind (fun vs H Q E h => by (unfold sp_behind at h; exact len2 vs H Q E h)) (fun cdv Ar outer s H vs Q E hr h => ⟨t_behind K A E, ?_, pure vs H Q E h⟩)
  have hu := hu_of hr
  exact (pss_cons (ps_set (i := 2) sc_behind.nd rfl (Or.inl rfl) (pe_op op_cat (pe_lst (pa_cons (pe_tup (pa_cons pe_int (pa_cons pe_int pa_nil))) pa_nil)) (pe_go G_clocks_of (hr.mono (by decide)) pass0 (pa_cons (pv 0) (pa_cons (pv 1) pa_nil)))))
      (pss_one (ps_ret (pe_ix ix_seq (pv 2) (pe_un un_neg pe_int) (fun _ _ => rfl)))))

theorem go_waits {P : Program} {w : World} {K : PySem.W.Frag} {mg : Str → Option Value} {base : Heap} {A : Ad} (T : Txt K mg A) (F : FunAt K mg "waits" "waits" "waits" s_waits ["empties", "sheets"])
    (G_clocks_of : Go P w K mg base CX0 3 "clocks_of" ["empties", "sheets"] (sp_clocks_of K A))
    (pure : ∀ (vs : List V) (H : Hp) (Q : VK) (E : XK), sp_waits K A vs H Q E → t_waits K A E { nx := fun _ H' => Q .non H', rt := Q } (start ["empties", "sheets", "found", "before", "clocks"] vs) H) : Go P w K mg base CX0 4 "waits" ["empties", "sheets"] (sp_waits K A) := by
  refine F.go fun f fd F => ?_
  refine F.ok sc_waits (fun vs H Q E h => by (unfold sp_waits at h; exact len2 vs H Q E h)) (fun cdv Ar outer s H vs Q E hr h => ⟨t_waits K A E, ?_, pure vs H Q E h⟩)
  have hu := hu_of hr
  exact (pss_cons (ps_set (i := 2) sc_waits.nd rfl (Or.inl rfl) (pe_lst pa_nil))
      (pss_cons (ps_set (i := 3) sc_waits.nd rfl (Or.inl rfl) (pe_tup (pa_cons pe_int (pa_cons pe_int pa_nil))))
      (pss_cons (ps_for PassesOwn.never rfl (pi_list (pe_go G_clocks_of (hr.mono (by decide)) pass0 (pa_cons (pv 0) (pa_cons (pv 1) pa_nil)))) (pg_name (i := 4) sc_waits.nd rfl (Or.inl rfl)) (pss_cons (ps_expr (pe_bm PySem.F.plainAttrs_list PySem.F.slot_list_append PySem.F.type_list_append mt_append (pv 2) (pa_cons (pe_callB (cr_max2 rfl) (by rfl) T.b_max bb_max (pa_cons pe_int (pa_cons (pe_op op_sub (pe_ix ix_seq (pv 4) pe_int (fun _ _ => rfl)) (pe_ix ix_seq (pv 3) pe_int (fun _ _ => rfl))) pa_nil))) pa_nil)))
      (pss_one (ps_set (i := 3) sc_waits.nd rfl (Or.inl rfl) (pv 4)))))
      (pss_one (ps_ret (pv 2))))))

theorem go_three_numbers {P : Program} {w : World} {K : PySem.W.Frag} {mg : Str → Option Value} {base : Heap} {A : Ad} (T : Txt K mg A) (F : FunAt K mg "three_numbers" "three_numbers" "three_numbers" s_three_numbers ["book"])
    (G_behind : Go P w K mg base CX0 4 "behind" ["empties", "sheets"] (sp_behind K A))
    (pure : ∀ (vs : List V) (H : Hp) (Q : VK) (E : XK), sp_three_numbers K A vs H Q E → t_three_numbers K A E { nx := fun _ H' => Q .non H', rt := Q } (start ["book", "one", "other"] vs) H) : Go P w K mg base CX0 5 "three_numbers" ["book"] (sp_three_numbers K A) := by
  refine F.go fun f fd F => ?_
  refine F.ok sc_three_numbers (fun vs H Q E h => by (unfold sp_three_numbers at h; exact len1 vs H Q E h)) (fun cdv Ar outer s H vs Q E hr h => ⟨t_three_numbers K A E, ?_, pure vs H Q E h⟩)
  have hu := hu_of hr
  exact (pss_one (ps_ret (pe_tup (pa_cons (pe_callB (cr_sum rfl) (by rfl) T.b_sum bb_sum (pa_cons (pe_lc (own := [("one", 1), ("other", 2)]) rfl sc_three_numbers.nd (pi_tup (pv 0)) (blkOk_by (N := ["book", "one", "other"]) (sc := defScope s_three_numbers) (by decide +kernel)) (fun _ _ _ _ _ => (pg_tup rfl (pgs_cons (pg_name (i := 1) sc_three_numbers.nd rfl (Or.inl rfl)) (pgs_cons (pg_name (i := 2) sc_three_numbers.nd rfl (Or.inl rfl)) pgs_nil)))) (fun _ _ _ _ _ => pts_nil) (fun _ _ _ _ _ => (pv 1))) pa_nil)) (pa_cons (pe_callB (cr_sum rfl) (by rfl) T.b_sum bb_sum (pa_cons (pe_lc (own := [("one", 1), ("other", 2)]) rfl sc_three_numbers.nd (pi_tup (pv 0)) (blkOk_by (N := ["book", "one", "other"]) (sc := defScope s_three_numbers) (by decide +kernel)) (fun _ _ _ _ _ => (pg_tup rfl (pgs_cons (pg_name (i := 1) sc_three_numbers.nd rfl (Or.inl rfl)) (pgs_cons (pg_name (i := 2) sc_three_numbers.nd rfl (Or.inl rfl)) pgs_nil)))) (fun _ _ _ _ _ => pts_nil) (fun _ _ _ _ _ => (pv 2))) pa_nil)) (pa_cons (pe_ix ix_seq (pe_go G_behind (hr.mono (by decide)) pass0 (pa_cons (pe_glob rfl T.g_NEVER rfl) (pa_cons (pv 0) pa_nil))) pe_int (fun _ _ => rfl)) pa_nil))))))

theorem go_lead_and_tail {P : Program} {w : World} {K : PySem.W.Frag} {mg : Str → Option Value} {base : Heap} {A : Ad} (T : Txt K mg A) (F : FunAt K mg "lead_and_tail" "lead_and_tail" "lead_and_tail" s_lead_and_tail ["book"])
    (G_three_numbers : Go P w K mg base CX0 5 "three_numbers" ["book"] (sp_three_numbers K A))
    (pure : ∀ (vs : List V) (H : Hp) (Q : VK) (E : XK), sp_lead_and_tail K A vs H Q E → t_lead_and_tail K A E { nx := fun _ H' => Q .non H', rt := Q } (start ["book", "computed", "checked", "end"] vs) H) : Go P w K mg base CX0 6 "lead_and_tail" ["book"] (sp_lead_and_tail K A) := by
  refine F.go fun f fd F => ?_
  refine F.ok sc_lead_and_tail (fun vs H Q E h => by (unfold sp_lead_and_tail at h; exact len1 vs H Q E h)) (fun cdv Ar outer s H vs Q E hr h => ⟨t_lead_and_tail K A E, ?_, pure vs H Q E h⟩)
  have hu := hu_of hr
  exact (pss_cons (ps_asg (pe_go G_three_numbers (hr.mono (by decide)) pass0 (pa_cons (pv 0) pa_nil)) (pg_tup rfl (pgs_cons (pg_name (i := 1) sc_lead_and_tail.nd rfl (Or.inl rfl)) (pgs_cons (pg_name (i := 2) sc_lead_and_tail.nd rfl (Or.inl rfl)) (pgs_cons (pg_name (i := 3) sc_lead_and_tail.nd rfl (Or.inl rfl)) pgs_nil)))))
      (pss_one (ps_ret (pe_tup (pa_cons (pe_op op_sub (pv 3) (pv 2)) (pa_cons (pe_op op_sub (pv 3) (pv 1)) pa_nil))))))

theorem go_by_rule {P : Program} {w : World} {K : PySem.W.Frag} {mg : Str → Option Value} {base : Heap} {A : Ad} (T : Txt K mg A) (F : FunAt K mg "by_rule" "by_rule" "by_rule" s_by_rule ["books"])
    (G_lead_and_tail : Go P w K mg base CX0 6 "lead_and_tail" ["book"] (sp_lead_and_tail K A))
    (pure : ∀ (vs : List V) (H : Hp) (Q : VK) (E : XK), sp_by_rule K A vs H Q E → t_by_rule K A E { nx := fun _ H' => Q .non H', rt := Q } (start ["books", "first", "then", "number", "book", "lead", "tail", "key"] vs) H) : Go P w K mg base CX0 7 "by_rule" ["books"] (sp_by_rule K A) := by
  refine F.go fun f fd F => ?_
  refine F.ok sc_by_rule (fun vs H Q E h => by (unfold sp_by_rule at h; exact len1 vs H Q E h)) (fun cdv Ar outer s H vs Q E hr h => ⟨t_by_rule K A E, ?_, pure vs H Q E h⟩)
  have hu := hu_of hr
  exact (pss_cons (ps_set (i := 1) sc_by_rule.nd rfl (Or.inl rfl) (pe_lst pa_nil))
      (pss_cons (ps_set (i := 2) sc_by_rule.nd rfl (Or.inl rfl) (pe_lst pa_nil))
      (pss_cons (ps_for PassesOwn.never rfl (pi_enum (by rfl) T.b_enumerate (pa_cons (pv 0) pa_nil)) (pg_tup rfl (pgs_cons (pg_name (i := 3) sc_by_rule.nd rfl (Or.inl rfl)) (pgs_cons (pg_name (i := 4) sc_by_rule.nd rfl (Or.inl rfl)) pgs_nil))) (pss_cons (ps_asg (pe_go G_lead_and_tail (hr.mono (by decide)) pass0 (pa_cons (pv 4) pa_nil)) (pg_tup rfl (pgs_cons (pg_name (i := 5) sc_by_rule.nd rfl (Or.inl rfl)) (pgs_cons (pg_name (i := 6) sc_by_rule.nd rfl (Or.inl rfl)) pgs_nil))))
      (pss_one (ps_if (pt_cmpR op_le (pv 5) (pv 6) (nomark _)) (pss_one (ps_expr (pe_bm PySem.F.plainAttrs_list PySem.F.slot_list_append PySem.F.type_list_append mt_append (pv 1) (pa_cons (pe_tup (pa_cons (pv 5) (pa_cons (pv 3) pa_nil))) pa_nil)))) (pss_one (ps_expr (pe_bm PySem.F.plainAttrs_list PySem.F.slot_list_append PySem.F.type_list_append mt_append (pv 2) (pa_cons (pe_tup (pa_cons (pe_op op_sub pe_int (pv 6)) (pa_cons (pv 3) pa_nil))) pa_nil))))))))
      (pss_one (ps_ret (pe_lc (own := [("key", 7), ("number", 3)]) rfl sc_by_rule.nd (pi_list (pe_op op_cat (pe_callB cr_sortedPO (by rfl) T.b_sorted bb_sorted (pa_cons (pv 1) pa_nil)) (pe_callB cr_sortedPO (by rfl) T.b_sorted bb_sorted (pa_cons (pv 2) pa_nil)))) (blkOk_by (N := ["books", "first", "then", "number", "book", "lead", "tail", "key"]) (sc := defScope s_by_rule) (by decide +kernel)) (fun _ _ _ _ _ => (pg_tup rfl (pgs_cons (pg_name (i := 7) sc_by_rule.nd rfl (Or.inl rfl)) (pgs_cons (pg_name (i := 3) sc_by_rule.nd rfl (Or.inl rfl)) pgs_nil)))) (fun _ _ _ _ _ => pts_nil) (fun _ _ _ _ _ => (pv 3))))))))

theorem go_end_of {P : Program} {w : World} {K : PySem.W.Frag} {mg : Str → Option Value} {base : Heap} {A : Ad} (T : Txt K mg A) (F : FunAt K mg "end_of" "end_of" "end_of" s_end_of ["books", "numbers"])
    (G_behind : Go P w K mg base CX0 4 "behind" ["empties", "sheets"] (sp_behind K A))
    (pure : ∀ (vs : List V) (H : Hp) (Q : VK) (E : XK), sp_end_of K A vs H Q E → t_end_of K A E { nx := fun _ H' => Q .non H', rt := Q } (start ["books", "numbers", "sheets", "number"] vs) H) : Go P w K mg base CX0 5 "end_of" ["books", "numbers"] (sp_end_of K A) := by
  refine F.go fun f fd F => ?_
  refine F.ok sc_end_of (fun vs H Q E h => by (unfold sp_end_of at h; exact len2 vs H Q E h)) (fun cdv Ar outer s H vs Q E hr h => ⟨t_end_of K A E, ?_, pure vs H Q E h⟩)
  have hu := hu_of hr
  exact (pss_cons (ps_set (i := 2) sc_end_of.nd rfl (Or.inl rfl) (pe_lst pa_nil))
      (pss_cons (ps_for PassesOwn.never rfl (pi_list (pv 1)) (pg_name (i := 3) sc_end_of.nd rfl (Or.inl rfl)) (pss_one (ps_set (i := 2) sc_end_of.nd rfl (Or.inl rfl) (pe_op op_cat (pv 2) (pe_callTy cr_listOf (by rfl) T.b_list bb_list (pa_cons (pe_ix ix_seq (pv 0) (pv 3) (fun _ _ => rfl)) pa_nil))))))
      (pss_one (ps_ret (pe_ix ix_seq (pe_go G_behind (hr.mono (by decide)) pass0 (pa_cons (pe_glob rfl T.g_NEVER rfl) (pa_cons (pv 2) pa_nil))) pe_int (fun _ _ => rfl))))))

theorem go_critical {P : Program} {w : World} {K : PySem.W.Frag} {mg : Str → Option Value} {base : Heap} {A : Ad} (T : Txt K mg A) (F : FunAt K mg "critical" "critical" "critical" s_critical ["sheets"])
    (G_behind : Go P w K mg base CX0 4 "behind" ["empties", "sheets"] (sp_behind K A))
    (pure : ∀ (vs : List V) (H : Hp) (Q : VK) (E : XK), sp_critical K A vs H Q E → t_critical K A E { nx := fun _ H' => Q .non H', rt := Q } (start ["sheets", "end", "at", "before", "one", "other"] vs) H) : Go P w K mg base CX0 5 "critical" ["sheets"] (sp_critical K A) := by
  refine F.go fun f fd F => ?_
  refine F.ok sc_critical (fun vs H Q E h => by (unfold sp_critical at h; exact len1 vs H Q E h)) (fun cdv Ar outer s H vs Q E hr h => ⟨t_critical K A E, ?_, pure vs H Q E h⟩)
  have hu := hu_of hr
  exact (pss_cons (ps_set (i := 1) sc_critical.nd rfl (Or.inl rfl) (pe_ix ix_seq (pe_go G_behind (hr.mono (by decide)) pass0 (pa_cons (pe_glob rfl T.g_NEVER rfl) (pa_cons (pv 0) pa_nil))) pe_int (fun _ _ => rfl)))
      (pss_cons (ps_for PassesOwn.never rfl (pi_range1 rfl T.b_range (pa_cons (pe_callB cr_len (by rfl) T.b_len bb_len (pa_cons (pv 0) pa_nil)) pa_nil)) (pg_name (i := 2) sc_critical.nd rfl (Or.inl rfl)) (pss_cons (ps_set (i := 3) sc_critical.nd rfl (Or.inl rfl) (pe_callB (cr_sum rfl) (by rfl) T.b_sum bb_sum (pa_cons (pe_lc (own := [("one", 4), ("other", 5)]) rfl sc_critical.nd (pi_list (pe_slice sl_list (pv 0) po_none (po_some (pe_op op_add (pv 2) pe_int)))) (blkOk_by (N := ["sheets", "end", "at", "before", "one", "other"]) (sc := defScope s_critical) (by decide +kernel)) (fun _ _ _ _ _ => (pg_tup rfl (pgs_cons (pg_name (i := 4) sc_critical.nd rfl (Or.inl rfl)) (pgs_cons (pg_name (i := 5) sc_critical.nd rfl (Or.inl rfl)) pgs_nil)))) (fun _ _ _ _ _ => pts_nil) (fun _ _ _ _ _ => (pv 4))) pa_nil)))
      (pss_one (ps_if (pt_cmpR op_eq (pe_op op_add (pv 3) (pe_callB (cr_sum rfl) (by rfl) T.b_sum bb_sum (pa_cons (pe_lc (own := [("one", 4), ("other", 5)]) rfl sc_critical.nd (pi_list (pe_slice sl_list (pv 0) (po_some (pv 2)) po_none)) (blkOk_by (N := ["sheets", "end", "at", "before", "one", "other"]) (sc := defScope s_critical) (by decide +kernel)) (fun _ _ _ _ _ => (pg_tup rfl (pgs_cons (pg_name (i := 4) sc_critical.nd rfl (Or.inl rfl)) (pgs_cons (pg_name (i := 5) sc_critical.nd rfl (Or.inl rfl)) pgs_nil)))) (fun _ _ _ _ _ => pts_nil) (fun _ _ _ _ _ => (pv 5))) pa_nil))) (pv 1) (nomark _)) (pss_one (ps_ret (pv 2))) pss_nil))))
      (pss_one (ps_ret pe_int))))

theorem go_is_whole_searching {P : Program} {w : World} {K : PySem.W.Frag} {mg : Str → Option Value} {base : Heap} {A : Ad} (T : Txt K mg A) (F : FunAt K mg "is_whole_searching" "is_whole" "is_whole" s_is_whole_searching ["books", "taken"])
    
    (pure : ∀ (vs : List V) (H : Hp) (Q : VK) (E : XK), sp_is_whole_searching K A vs H Q E → t_is_whole_searching K A E { nx := fun _ H' => Q .non H', rt := Q } (start ["books", "taken", "book", "many"] vs) H) : Go P w K mg base CX0 1 "is_whole_searching" ["books", "taken"] (sp_is_whole_searching K A) := by
  refine F.go fun f fd F => ?_
  refine F.ok sc_is_whole_searching (fun vs H Q E h => by (unfold sp_is_whole_searching at h; exact len2 vs H Q E h)) (fun cdv Ar outer s H vs Q E hr h => ⟨t_is_whole_searching K A E, ?_, pure vs H Q E h⟩)
  have hu := hu_of hr
  exact (pss_one (ps_ret (pe_cmpR (op_eqD hr.units) (pe_lc (own := [("book", 2), ("many", 3)]) rfl sc_is_whole_searching.nd (pi_zipLT (by rfl) T.b_zip (pa_cons (pv 0) (pa_cons (pv 1) pa_nil))) (blkOk_by (N := ["books", "taken", "book", "many"]) (sc := defScope s_is_whole_searching) (by decide +kernel)) (fun _ _ _ _ _ => (pg_tup rfl (pgs_cons (pg_name (i := 2) sc_is_whole_searching.nd rfl (Or.inl rfl)) (pgs_cons (pg_name (i := 3) sc_is_whole_searching.nd rfl (Or.inl rfl)) pgs_nil)))) (fun _ _ _ _ _ => (pts_one (pt_cmpR op_lt (pv 3) (pe_callB cr_len (by rfl) T.b_len bb_len (pa_cons (pv 2) pa_nil)) (nomark _)))) (fun _ _ _ _ _ => pe_int)) (pe_lst pa_nil) (nomark _))))

theorem go_more_of {P : Program} {w : World} {K : PySem.W.Frag} {mg : Str → Option Value} {base : Heap} {A : Ad} (T : Txt K mg A) (F : FunAt K mg "more_of" "more_of" "more_of" s_more_of ["books", "taken"])
    
    (pure : ∀ (vs : List V) (H : Hp) (Q : VK) (E : XK), sp_more_of K A vs H Q E → t_more_of K A E { nx := fun _ H' => Q .non H', rt := Q } (start ["books", "taken", "book"] vs) H) : Go P w K mg base CX0 1 "more_of" ["books", "taken"] (sp_more_of K A) := by
  refine F.go fun f fd F => ?_
  refine F.ok sc_more_of (fun vs H Q E h => by (unfold sp_more_of at h; exact len2 vs H Q E h)) (fun cdv Ar outer s H vs Q E hr h => ⟨t_more_of K A E, ?_, pure vs H Q E h⟩)
  have hu := hu_of hr
  exact (pss_one (ps_ret (pe_lc (own := [("book", 2)]) rfl sc_more_of.nd (pi_range1 rfl T.b_range (pa_cons (pe_callB cr_len (by rfl) T.b_len bb_len (pa_cons (pv 0) pa_nil)) pa_nil)) (blkOk_by (N := ["books", "taken", "book"]) (sc := defScope s_more_of) (by decide +kernel)) (fun _ _ _ _ _ => (pg_name (i := 2) sc_more_of.nd rfl (Or.inl rfl))) (fun _ _ _ _ _ => (pts_one (pt_cmpR op_lt (pe_ix ix_seq (pv 1) (pv 2) (fun _ _ => rfl)) (pe_callB cr_len (by rfl) T.b_len bb_len (pa_cons (pe_ix ix_seq (pv 0) (pv 2) (fun _ _ => rfl)) pa_nil)) (nomark _)))) (fun _ _ _ _ _ => (pv 2)))))

theorem go_with_one {P : Program} {w : World} {K : PySem.W.Frag} {mg : Str → Option Value} {base : Heap} {A : Ad} (T : Txt K mg A) (F : FunAt K mg "with_one" "with_one" "with_one" s_with_one ["taken", "book"])
    
    (pure : ∀ (vs : List V) (H : Hp) (Q : VK) (E : XK), sp_with_one K A vs H Q E → t_with_one K A E { nx := fun _ H' => Q .non H', rt := Q } (start ["taken", "book"] vs) H) : Go P w K mg base CX0 1 "with_one" ["taken", "book"] (sp_with_one K A) := by
  refine F.go fun f fd F => ?_
  refine F.ok sc_with_one (fun vs H Q E h => by (unfold sp_with_one at h; exact len2 vs H Q E h)) (fun cdv Ar outer s H vs Q E hr h => ⟨t_with_one K A E, ?_, pure vs H Q E h⟩)
  have hu := hu_of hr
  exact (pss_one (ps_ret (pe_op op_catA (pe_op op_catA (pe_slice sl_tupA (pv 0) po_none (po_some (pv 1))) (pe_tup (pa_cons (pe_op op_add (pe_ix ix_seq (pv 0) (pv 1) (fun _ _ => rfl)) pe_int) pa_nil))) (pe_slice sl_tupA (pv 0) (po_some (pe_op op_add (pv 1) pe_int)) po_none))))

theorem go_round_of {P : Program} {w : World} {K : PySem.W.Frag} {mg : Str → Option Value} {base : Heap} {A : Ad} (T : Txt K mg A) (F : FunAt K mg "round_of" "round_of" "round_of" s_round_of ["books", "empties", "known"])
    (G_more_of : Go P w K mg base CX0 1 "more_of" ["books", "taken"] (sp_more_of K A)) (G_step : Go P w K mg base CX0 2 "step" ["empties", "clocks", "sheet"] (sp_step K A)) (G_with_one : Go P w K mg base CX0 1 "with_one" ["taken", "book"] (sp_with_one K A))
    (pure : ∀ (vs : List V) (H : Hp) (Q : VK) (E : XK), sp_round_of K A vs H Q E → t_round_of K A E { nx := fun _ H' => Q .non H', rt := Q } (start ["books", "empties", "known", "found", "taken", "book", "clocks", "after"] vs) H) : Go P w K mg base CX0 3 "round_of" ["books", "empties", "known"] (sp_round_of K A) := by
  refine F.go fun f fd F => ?_
  refine F.ok sc_round_of (fun vs H Q E h => by (unfold sp_round_of at h; exact len3 vs H Q E h)) (fun cdv Ar outer s H vs Q E hr h => ⟨t_round_of K A E, ?_, pure vs H Q E h⟩)
  have hu := hu_of hr
  exact (pss_cons (ps_set (i := 3) sc_round_of.nd rfl (Or.inl rfl) pe_dnewT)
      (pss_cons (ps_lock (ps_for PassesOwn.never rfl (pi_keys (pv 2)) (pg_name (i := 4) sc_round_of.nd rfl (Or.inl rfl)) (pss_one (ps_for PassesOwn.never rfl (pi_list (pe_go G_more_of (hr.mono (by decide)) pass0 (pa_cons (pv 0) (pa_cons (pv 4) pa_nil)))) (pg_name (i := 5) sc_round_of.nd rfl (Or.inl rfl)) (pss_cons (ps_set (i := 6) sc_round_of.nd rfl (Or.inl rfl) (pe_go G_step (hr.mono (by decide)) pass0 (pa_cons (pv 1) (pa_cons (pe_dget hu (pv 2) (pv 4) (fun _ _ => rfl)) (pa_cons (pe_ix ix_seq (pe_ix ix_seq (pv 0) (pv 5) (fun _ _ => rfl)) (pe_ix ix_seq (pv 4) (pv 5) (fun _ _ => rfl)) (fun _ _ => rfl)) pa_nil)))))
      (pss_cons (ps_set (i := 7) sc_round_of.nd rfl (Or.inl rfl) (pe_go G_with_one (hr.mono (by decide)) pass0 (pa_cons (pv 4) (pa_cons (pv 5) pa_nil))))
      (pss_one (ps_if (PW.pt (pw_or (pt_cmp (pc_dnotin hu (pv 7) (pv 3))) (pw_or1 (pt_cmpR (op_ltT hr.units0) (pv 6) (pe_dget hu (pv 3) (pv 7) (fun _ _ => rfl)) (nomark _))))) (pss_one (ps_dput hu (pv 3) (pv 7) (pv 6) rfl)) pss_nil))))))))
      (pss_one (ps_ret (pv 3)))))

theorem go_least_from {P : Program} {w : World} {K : PySem.W.Frag} {mg : Str → Option Value} {base : Heap} {A : Ad} (T : Txt K mg A) (F : FunAt K mg "least_from" "least_from" "least_from" s_least_from ["books", "empties", "taken", "clocks"])
    (G_is_whole_searching : Go P w K mg base CX0 1 "is_whole_searching" ["books", "taken"] (sp_is_whole_searching K A)) (G_round_of : Go P w K mg base CX0 3 "round_of" ["books", "empties", "known"] (sp_round_of K A))
    (pure : ∀ (vs : List V) (H : Hp) (Q : VK) (E : XK), sp_least_from K A vs H Q E → t_least_from K A E { nx := fun _ H' => Q .non H', rt := Q } (start ["books", "empties", "taken", "clocks", "known"] vs) H) : Go P w K mg base CX0 4 "least_from" ["books", "empties", "taken", "clocks"] (sp_least_from K A) := by
  refine F.go fun f fd F => ?_
  refine F.ok sc_least_from (fun vs H Q E h => by (unfold sp_least_from at h; exact len4 vs H Q E h)) (fun cdv Ar outer s H vs Q E hr h => ⟨t_least_from K A E, ?_, pure vs H Q E h⟩)
  have hu := hu_of hr
  exact (pss_cons (ps_set (i := 4) sc_least_from.nd rfl (Or.inl rfl) pe_dnewT)
      (pss_cons (ps_dput hu (pv 4) (pv 2) (pv 3) rfl)
      (pss_cons (ps_while PassesOwn.never (pt_not (pt_val (pe_go G_is_whole_searching (hr.mono (by decide)) pass0 (pa_cons (pv 0) (pa_cons (pe_ix ix_seq (pe_callTy (cr_listK rfl) (by rfl) T.b_list bb_list (pa_cons (pv 4) pa_nil)) pe_int (fun _ _ => rfl)) pa_nil))))) (pss_one (ps_set (i := 4) sc_least_from.nd rfl (Or.inl rfl) (pe_go G_round_of (hr.mono (by decide)) pass0 (pa_cons (pv 0) (pa_cons (pv 1) (pa_cons (pv 4) pa_nil)))))))
      (pss_one (ps_ret (pe_ix ix_seq (pe_dget hu (pv 4) (pe_ix ix_seq (pe_callTy (cr_listK rfl) (by rfl) T.b_list bb_list (pa_cons (pv 4) pa_nil)) pe_int (fun _ _ => rfl)) (fun _ _ => rfl)) pe_int (fun _ _ => rfl)))))))

theorem go_best_from {P : Program} {w : World} {K : PySem.W.Frag} {mg : Str → Option Value} {base : Heap} {A : Ad} (T : Txt K mg A) (F : FunAt K mg "best_from" "best_from" "best_from" s_best_from ["books", "empties"])
    (G_least_from : Go P w K mg base CX0 4 "least_from" ["books", "empties", "taken", "clocks"] (sp_least_from K A)) (G_is_whole_searching : Go P w K mg base CX0 1 "is_whole_searching" ["books", "taken"] (sp_is_whole_searching K A)) (G_first_with : Go P w K mg base CX0 5 "first_with" ["books", "empties", "taken", "clocks", "least"] (sp_first_with K A)) (G_step : Go P w K mg base CX0 2 "step" ["empties", "clocks", "sheet"] (sp_step K A)) (G_with_one : Go P w K mg base CX0 1 "with_one" ["taken", "book"] (sp_with_one K A))
    (pure : ∀ (vs : List V) (H : Hp) (Q : VK) (E : XK), sp_best_from K A vs H Q E → t_best_from K A E { nx := fun _ H' => Q .non H', rt := Q } (start ["books", "empties", "taken", "clocks", "least", "found", "book"] vs) H) : Go P w K mg base CX0 6 "best_from" ["books", "empties"] (sp_best_from K A) := by
  refine F.go fun f fd F => ?_
  refine F.ok sc_best_from (fun vs H Q E h => by (unfold sp_best_from at h; exact len2 vs H Q E h)) (fun cdv Ar outer s H vs Q E hr h => ⟨t_best_from K A E, ?_, pure vs H Q E h⟩)
  have hu := hu_of hr
  exact (pss_cons (ps_set (i := 2) sc_best_from.nd rfl (Or.inl rfl) (pe_op op_rep1 (pe_tup (pa_cons pe_int pa_nil)) (pe_callB cr_len (by rfl) T.b_len bb_len (pa_cons (pv 0) pa_nil))))
      (pss_cons (ps_set (i := 3) sc_best_from.nd rfl (Or.inl rfl) (pe_tup (pa_cons pe_int (pa_cons pe_int pa_nil))))
      (pss_cons (ps_set (i := 4) sc_best_from.nd rfl (Or.inl rfl) (pe_go G_least_from (hr.mono (by decide)) pass0 (pa_cons (pv 0) (pa_cons (pv 1) (pa_cons (pv 2) (pa_cons (pv 3) pa_nil))))))
      (pss_cons (ps_set (i := 5) sc_best_from.nd rfl (Or.inl rfl) (pe_lst pa_nil))
      (pss_cons (ps_while PassesOwn.never (pt_not (pt_val (pe_go G_is_whole_searching (hr.mono (by decide)) pass0 (pa_cons (pv 0) (pa_cons (pv 2) pa_nil))))) (pss_cons (ps_set (i := 6) sc_best_from.nd rfl (Or.inl rfl) (pe_go G_first_with (hr.mono (by decide)) pass0 (pa_cons (pv 0) (pa_cons (pv 1) (pa_cons (pv 2) (pa_cons (pv 3) (pa_cons (pv 4) pa_nil)))))))
      (pss_cons (ps_set (i := 3) sc_best_from.nd rfl (Or.inl rfl) (pe_go G_step (hr.mono (by decide)) pass0 (pa_cons (pv 1) (pa_cons (pv 3) (pa_cons (pe_ix ix_seq (pe_ix ix_seq (pv 0) (pv 6) (fun _ _ => rfl)) (pe_ix ix_seq (pv 2) (pv 6) (fun _ _ => rfl)) (fun _ _ => rfl)) pa_nil)))))
      (pss_cons (ps_set (i := 2) sc_best_from.nd rfl (Or.inl rfl) (pe_go G_with_one (hr.mono (by decide)) pass0 (pa_cons (pv 2) (pa_cons (pv 6) pa_nil))))
      (pss_one (ps_expr (pe_bm PySem.F.plainAttrs_list PySem.F.slot_list_append PySem.F.type_list_append mt_append (pv 5) (pa_cons (pv 6) pa_nil))))))))
      (pss_one (ps_ret (pv 5))))))))

theorem go_first_with {P : Program} {w : World} {K : PySem.W.Frag} {mg : Str → Option Value} {base : Heap} {A : Ad} (T : Txt K mg A) (F : FunAt K mg "first_with" "first_with" "first_with" s_first_with ["books", "empties", "taken", "clocks", "least"])
    (G_more_of : Go P w K mg base CX0 1 "more_of" ["books", "taken"] (sp_more_of K A)) (G_step : Go P w K mg base CX0 2 "step" ["empties", "clocks", "sheet"] (sp_step K A)) (G_with_one : Go P w K mg base CX0 1 "with_one" ["taken", "book"] (sp_with_one K A)) (G_least_from : Go P w K mg base CX0 4 "least_from" ["books", "empties", "taken", "clocks"] (sp_least_from K A))
    (pure : ∀ (vs : List V) (H : Hp) (Q : VK) (E : XK), sp_first_with K A vs H Q E → t_first_with K A E { nx := fun _ H' => Q .non H', rt := Q } (start ["books", "empties", "taken", "clocks", "least", "book", "after"] vs) H) : Go P w K mg base CX0 5 "first_with" ["books", "empties", "taken", "clocks", "least"] (sp_first_with K A) := by
  refine F.go fun f fd F => ?_
  refine F.ok sc_first_with (fun vs H Q E h => by (unfold sp_first_with at h; exact len5 vs H Q E h)) (fun cdv Ar outer s H vs Q E hr h => ⟨t_first_with K A E, ?_, pure vs H Q E h⟩)
  have hu := hu_of hr
  exact (pss_cons (ps_for PassesOwn.never rfl (pi_list (pe_go G_more_of (hr.mono (by decide)) pass0 (pa_cons (pv 0) (pa_cons (pv 2) pa_nil)))) (pg_name (i := 5) sc_first_with.nd rfl (Or.inl rfl)) (pss_cons (ps_set (i := 6) sc_first_with.nd rfl (Or.inl rfl) (pe_go G_step (hr.mono (by decide)) pass0 (pa_cons (pv 1) (pa_cons (pv 3) (pa_cons (pe_ix ix_seq (pe_ix ix_seq (pv 0) (pv 5) (fun _ _ => rfl)) (pe_ix ix_seq (pv 2) (pv 5) (fun _ _ => rfl)) (fun _ _ => rfl)) pa_nil)))))
      (pss_one (ps_if (pt_cmpR op_eq (pe_go G_least_from (hr.mono (by decide)) pass0 (pa_cons (pv 0) (pa_cons (pv 1) (pa_cons (pe_go G_with_one (hr.mono (by decide)) pass0 (pa_cons (pv 2) (pa_cons (pv 5) pa_nil))) (pa_cons (pv 6) pa_nil))))) (pv 4) (nomark _)) (pss_one (ps_ret (pv 5))) pss_nil))))
      (pss_one (ps_ret pe_int)))

theorem go_how_many {P : Program} {w : World} {K : PySem.W.Frag} {mg : Str → Option Value} {base : Heap} {A : Ad} (T : Txt K mg A) (F : FunAt K mg "how_many" "how_many" "how_many" s_how_many ["books"])
    
    (pure : ∀ (vs : List V) (H : Hp) (Q : VK) (E : XK), sp_how_many K A vs H Q E → t_how_many K A E { nx := fun _ H' => Q .non H', rt := Q } (start ["books", "found", "done", "book", "k"] vs) H) : Go P w K mg base CX0 1 "how_many" ["books"] (sp_how_many K A) := by
  refine F.go fun f fd F => ?_
  refine F.ok sc_how_many (fun vs H Q E h => by (unfold sp_how_many at h; exact len1 vs H Q E h)) (fun cdv Ar outer s H vs Q E hr h => ⟨t_how_many K A E, ?_, pure vs H Q E h⟩)
  have hu := hu_of hr
  exact (pss_cons (ps_set (i := 1) sc_how_many.nd rfl (Or.inl rfl) pe_int)
      (pss_cons (ps_set (i := 2) sc_how_many.nd rfl (Or.inl rfl) pe_int)
      (pss_cons (ps_for PassesOwn.never rfl (pi_list (pv 0)) (pg_name (i := 3) sc_how_many.nd rfl (Or.inl rfl)) (pss_one (ps_for PassesOwn.never rfl (pi_range1 rfl T.b_range (pa_cons (pe_callB cr_len (by rfl) T.b_len bb_len (pa_cons (pv 3) pa_nil)) pa_nil)) (pg_name (i := 4) sc_how_many.nd rfl (Or.inl rfl)) (pss_cons (ps_aug (i := 2) sc_how_many.nd rfl (Or.inl rfl) pe_int ip_add)
      (pss_one (ps_set (i := 1) sc_how_many.nd rfl (Or.inl rfl) (pe_op op_fdiv (pe_op op_mul (pv 1) (pv 2)) (pe_op op_add (pv 4) pe_int))))))))
      (pss_one (ps_ret (pv 1))))))

theorem go_each_once {P : Program} {w : World} {K : PySem.W.Frag} {mg : Str → Option Value} {base : Heap} {A : Ad} (T : Txt K mg A) (F : FunAt K mg "each_once" "each_once" "each_once" s_each_once ["some"])
    
    (pure : ∀ (vs : List V) (H : Hp) (Q : VK) (E : XK), sp_each_once K A vs H Q E → t_each_once K A E { nx := fun _ H' => Q .non H', rt := Q } (start ["some", "at", "number"] vs) H) : Go P w K mg base CX0 1 "each_once" ["some"] (sp_each_once K A) := by
  refine F.go fun f fd F => ?_
  refine F.ok sc_each_once (fun vs H Q E h => by (unfold sp_each_once at h; exact len1 vs H Q E h)) (fun cdv Ar outer s H vs Q E hr h => ⟨t_each_once K A E, ?_, pure vs H Q E h⟩)
  have hu := hu_of hr
  exact (pss_one (ps_ret (pe_lc (own := [("at", 1), ("number", 2)]) rfl sc_each_once.nd (pi_enum (by rfl) T.b_enumerate (pa_cons (pv 0) pa_nil)) (blkOk_by (N := ["some", "at", "number"]) (sc := defScope s_each_once) (by decide +kernel)) (fun _ _ _ _ _ => (pg_tup rfl (pgs_cons (pg_name (i := 1) sc_each_once.nd rfl (Or.inl rfl)) (pgs_cons (pg_name (i := 2) sc_each_once.nd rfl (Or.inl rfl)) pgs_nil)))) (fun _ _ _ _ _ => (pts_one (pt_cmpR op_notIn_seq (pv 2) (pe_slice sl_list (pv 0) po_none (po_some (pv 1))) (by rfl)))) (fun _ _ _ _ _ => (pv 2)))))

theorem go_judge {P : Program} {w : World} {K : PySem.W.Frag} {mg : Str → Option Value} {base : Heap} {A : Ad} (T : Txt K mg A) (F : FunAt K mg "judge" "judge" "judge" s_judge ["slips", "some"])
    (G_each_once : Go P w K mg base CX0 1 "each_once" ["some"] (sp_each_once K A))
    (pure : ∀ (vs : List V) (H : Hp) (Q : VK) (E : XK), sp_judge K A vs H Q E → t_judge K A E { nx := fun _ H' => Q .non H', rt := Q } (start ["slips", "some", "right", "untold", "state", "number"] vs) H) : Go P w K mg base CX0 2 "judge" ["slips", "some"] (sp_judge K A) := by
  refine F.go fun f fd F => ?_
  refine F.ok sc_judge (fun vs H Q E h => by (unfold sp_judge at h; exact len2 vs H Q E h)) (fun cdv Ar outer s H vs Q E hr h => ⟨t_judge K A E, ?_, pure vs H Q E h⟩)
  have hu := hu_of hr
  exact (pss_cons (ps_setLc (i := 2) (own := [("number", 5)]) rfl sc_judge.nd rfl rfl (sw_true rfl rfl rfl (by decide +kernel)) (pi_list (pe_go G_each_once (hr.mono (by decide)) pass0 (pa_cons (pv 1) pa_nil))) (blkOk_by (N := ["slips", "some", "right", "untold", "state", "number"]) (sc := defScope s_judge) (by decide +kernel)) (fun _ _ _ _ _ => (pg_name (i := 5) sc_judge.nd rfl (Or.inl rfl))) (fun _ _ _ _ _ => (pts_one (pt_cmpR op_le (pe_op op_sub (pe_callB cr_len (by rfl) T.b_len bb_len (pa_cons (pv 1) pa_nil)) (pe_bm PySem.F.plainAttrs_list PySem.F.slot_list_count PySem.F.type_list_count mt_lcount (pv 1) (pa_cons (pv 5) pa_nil))) (pv 0) (nomark _)))) (fun _ _ _ _ _ => (pv 5)))
      (pss_cons (ps_set (i := 3) sc_judge.nd rfl (Or.inl rfl) (pe_cmpR op_le (pe_callB cr_len (by rfl) T.b_len bb_len (pa_cons (pv 1) pa_nil)) (pv 0) (nomark _)))
      (pss_cons (ps_set (i := 4) sc_judge.nd rfl (Or.inl rfl) (pe_gint T.c_NOT_YET))
      (pss_cons (ps_if (pt_val (pv 3)) (pss_one (ps_ret (pe_op op_cat (pe_lst (pa_cons (pv 4) (pa_cons pe_int (pa_cons (pe_callB cr_len (by rfl) T.b_len bb_len (pa_cons (pv 2) pa_nil)) pa_nil)))) (pv 2)))) pss_nil)
      (pss_cons (ps_if (pt_cmpR op_eq (pe_callB cr_len (by rfl) T.b_len bb_len (pa_cons (pv 2) pa_nil)) pe_int (nomark _)) (pss_one (ps_set (i := 4) sc_judge.nd rfl (Or.inl rfl) (pe_gint T.c_SURE))) pss_nil)
      (pss_cons (ps_if (pt_cmpR (op_eqD hr.units) (pv 2) (pe_lst pa_nil) (nomark _)) (pss_one (ps_set (i := 4) sc_judge.nd rfl (Or.inl rfl) (pe_gint T.c_TOO_MANY))) pss_nil)
      (pss_one (ps_ret (pe_op op_cat (pe_lst (pa_cons (pv 4) (pa_cons pe_int (pa_cons (pe_callB cr_len (by rfl) T.b_len bb_len (pa_cons (pv 2) pa_nil)) pa_nil)))) (pv 2))))))))))

theorem go_least_two {P : Program} {w : World} {K : PySem.W.Frag} {mg : Str → Option Value} {base : Heap} {A : Ad} (T : Txt K mg A) (F : FunAt K mg "least_two" "least_two" "least_two" s_least_two ["some"])
    (G_each_once : Go P w K mg base CX0 1 "each_once" ["some"] (sp_each_once K A))
    (pure : ∀ (vs : List V) (H : Hp) (Q : VK) (E : XK), sp_least_two K A vs H Q E → t_least_two K A E { nx := fun _ H' => Q .non H', rt := Q } (start ["some", "found", "number"] vs) H) : Go P w K mg base CX0 2 "least_two" ["some"] (sp_least_two K A) := by
  refine F.go fun f fd F => ?_
  refine F.ok sc_least_two (fun vs H Q E h => by (unfold sp_least_two at h; exact len1 vs H Q E h)) (fun cdv Ar outer s H vs Q E hr h => ⟨t_least_two K A E, ?_, pure vs H Q E h⟩)
  have hu := hu_of hr
  exact (pss_cons (ps_set (i := 1) sc_least_two.nd rfl (Or.inl rfl) (pe_op op_cat (pe_lc (own := [("number", 2)]) rfl sc_least_two.nd (pi_list (pe_go G_each_once (hr.mono (by decide)) pass0 (pa_cons (pv 0) pa_nil))) (blkOk_by (N := ["some", "found", "number"]) (sc := defScope s_least_two) (by decide +kernel)) (fun _ _ _ _ _ => (pg_name (i := 2) sc_least_two.nd rfl (Or.inl rfl))) (fun _ _ _ _ _ => pts_nil) (fun _ _ _ _ _ => (pe_op op_sub (pe_callB cr_len (by rfl) T.b_len bb_len (pa_cons (pv 0) pa_nil)) (pe_bm PySem.F.plainAttrs_list PySem.F.slot_list_count PySem.F.type_list_count mt_lcount (pv 0) (pa_cons (pv 2) pa_nil))))) (pe_lst (pa_cons (pe_callB cr_len (by rfl) T.b_len bb_len (pa_cons (pv 0) pa_nil)) (pa_cons (pe_callB cr_len (by rfl) T.b_len bb_len (pa_cons (pv 0) pa_nil)) pa_nil)))))
      (pss_one (ps_ret (pe_slice sl_list (pe_callB cr_sortedI (by rfl) T.b_sorted bb_sorted (pa_cons (pv 1) pa_nil)) po_none (po_some pe_int)))))

theorem go_more {P : Program} {w : World} {K : PySem.W.Frag} {mg : Str → Option Value} {base : Heap} {A : Ad} (T : Txt K mg A) (F : FunAt K mg "more" "more" "more" s_more ["slips", "some"])
    (G_least_two : Go P w K mg base CX0 2 "least_two" ["some"] (sp_least_two K A))
    (pure : ∀ (vs : List V) (H : Hp) (Q : VK) (E : XK), sp_more K A vs H Q E → t_more K A E { nx := fun _ H' => Q .non H', rt := Q } (start ["slips", "some", "first", "second"] vs) H) : Go P w K mg base CX0 3 "more" ["slips", "some"] (sp_more K A) := by
  refine F.go fun f fd F => ?_
  refine F.ok sc_more (fun vs H Q E h => by (unfold sp_more at h; exact len2 vs H Q E h)) (fun cdv Ar outer s H vs Q E hr h => ⟨t_more K A E, ?_, pure vs H Q E h⟩)
  have hu := hu_of hr
  exact (pss_cons (ps_asg (pe_go G_least_two (hr.mono (by decide)) pass0 (pa_cons (pv 1) pa_nil)) (pg_unl rfl (pgs_cons (pg_name (i := 2) sc_more.nd rfl (Or.inl rfl)) (pgs_cons (pg_name (i := 3) sc_more.nd rfl (Or.inl rfl)) pgs_nil))))
      (pss_cons (ps_if (pt_cmpR op_gt (pv 2) (pv 0) (nomark _)) (pss_one (ps_ret (pe_lst (pa_cons pe_int pa_nil)))) pss_nil)
      (pss_cons (ps_if (pt_cmpR op_gt (pv 3) (pv 0) (nomark _)) (pss_one (ps_ret (pe_lst (pa_cons pe_int (pa_cons pe_int (pa_cons pe_int pa_nil)))))) pss_nil)
      (pss_one (ps_ret (pe_lst (pa_cons pe_int (pa_cons (pe_op op_sub (pe_op op_add (pv 0) pe_int) (pv 3)) (pa_cons (pe_op op_add (pe_op op_sub (pe_op op_sub (pe_op op_mul pe_int (pv 0)) (pv 2)) (pv 3)) pe_int) pa_nil)))))))))

theorem go_ask {P : Program} {w : World} {K : PySem.W.Frag} {mg : Str → Option Value} {base : Heap} {A : Ad} (T : Txt K mg A) (F : FunAt K mg "ask" "ask" "ask" s_ask ["good", "code"])
    
    (pure : ∀ (vs : List V) (H : Hp) (Q : VK) (E : XK), sp_ask K A vs H Q E → t_ask K A E { nx := fun _ H' => Q .non H', rt := Q } (start ["good", "code"] vs) H) : Go P w K mg base (L2.CX P w) 3 "ask" ["good", "code"] (sp_ask K A) := by
  refine F.go fun f fd F => ?_
  refine F.okX sc_ask (fun vs H Q E h => by (unfold sp_ask at h; exact len2 vs H Q E h)) (fun cdv Ar outer s H vs Q E hr h => ⟨t_ask K A E, ?_, pure vs H Q E h⟩)
  have hu := hu_of hr
  exact (pss_one (ps_if (pt_not (pt_val (pv 0))) (pss_one (ps_raiseRef rfl T.ref hr takesX (by exact (pa_cons (pv 1) pa_nil)))) pss_nil))

theorem go_Room_init {P : Program} {w : World} {K : PySem.W.Frag} {mg : Str → Option Value} {base : Heap} {A : Ad} (T : Txt K mg A) {f : Addr} {fd : FuncData} (F : Fun K "__init__" "Room.__init__" s_Room_init f fd)
    
    (pure : ∀ (vs : List V) (H : Hp) (Q : VK) (E : XK), sp_Room_init K A vs H Q E → t_Room_init K A E { nx := fun _ H' => Q .non H', rt := Q } (start ["self"] vs) H) : FnOk P w K mg base CX0 1 f fd ["self"] (sp_Room_init K A) := by
  refine F.ok sc_Room_init (fun vs H Q E h => by (unfold sp_Room_init at h; exact len1 vs H Q E h)) (fun cdv Ar outer s H vs Q E hr h => ⟨t_Room_init K A E, ?_, pure vs H Q E h⟩)
  have hu := hu_of hr
  exact (pss_cons (ps_fld (pv 0) (pe_lst pa_nil) rfl)
      (pss_cons (ps_fld (pv 0) (pe_lst (pa_cons (pe_tup pa_nil) (pa_cons (pe_tup pa_nil) pa_nil))) rfl)
      (pss_one (ps_fld (pv 0) (pe_lst pa_nil) rfl))))

theorem go_Room_add_book {P : Program} {w : World} {K : PySem.W.Frag} {mg : Str → Option Value} {base : Heap} {A : Ad} (T : Txt K mg A) (F : MethAt K A.room "add_book" "Room.add_book" s_Room_add_book ["self", "book"])
    
    (pure : ∀ (vs : List V) (H : Hp) (Q : VK) (E : XK), sp_Room_add_book K A vs H Q E → t_Room_add_book K A E { nx := fun _ H' => Q .non H', rt := Q } (start ["self", "book"] vs) H) : MethGo P w K mg base CX0 1 A.room "add_book" ["self", "book"] (sp_Room_add_book K A) := by
  refine F.go fun f fd F => ?_
  refine F.ok sc_Room_add_book (fun vs H Q E h => by (unfold sp_Room_add_book at h; exact len2 vs H Q E h)) (fun cdv Ar outer s H vs Q E hr h => ⟨t_Room_add_book K A E, ?_, pure vs H Q E h⟩)
  have hu := hu_of hr
  exact (pss_one (ps_expr (pe_bm PySem.F.plainAttrs_list PySem.F.slot_list_append PySem.F.type_list_append mt_append (pe_fld (pv 0) rfl) (pa_cons (pv 1) pa_nil))))

theorem go_Room_set_empty {P : Program} {w : World} {K : PySem.W.Frag} {mg : Str → Option Value} {base : Heap} {A : Ad} (T : Txt K mg A) (F : MethAt K A.room "set_empty" "Room.set_empty" s_Room_set_empty ["self", "desk", "stretches"])
    
    (pure : ∀ (vs : List V) (H : Hp) (Q : VK) (E : XK), sp_Room_set_empty K A vs H Q E → t_Room_set_empty K A E { nx := fun _ H' => Q .non H', rt := Q } (start ["self", "desk", "stretches"] vs) H) : MethGo P w K mg base CX0 1 A.room "set_empty" ["self", "desk", "stretches"] (sp_Room_set_empty K A) := by
  refine F.go fun f fd F => ?_
  refine F.ok sc_Room_set_empty (fun vs H Q E h => by (unfold sp_Room_set_empty at h; exact len3 vs H Q E h)) (fun cdv Ar outer s H vs Q E hr h => ⟨t_Room_set_empty K A E, ?_, pure vs H Q E h⟩)
  have hu := hu_of hr
  exact (pss_one (ps_asg (pv 2) (pg_sub (pe_fld (pv 0) rfl) (pv 1) set_list)))

theorem go_Room_set_order {P : Program} {w : World} {K : PySem.W.Frag} {mg : Str → Option Value} {base : Heap} {A : Ad} (T : Txt K mg A) (F : MethAt K A.room "set_order" "Room.set_order" s_Room_set_order ["self", "order"])
    
    (pure : ∀ (vs : List V) (H : Hp) (Q : VK) (E : XK), sp_Room_set_order K A vs H Q E → t_Room_set_order K A E { nx := fun _ H' => Q .non H', rt := Q } (start ["self", "order"] vs) H) : MethGo P w K mg base CX0 1 A.room "set_order" ["self", "order"] (sp_Room_set_order K A) := by
  refine F.go fun f fd F => ?_
  refine F.ok sc_Room_set_order (fun vs H Q E h => by (unfold sp_Room_set_order at h; exact len2 vs H Q E h)) (fun cdv Ar outer s H vs Q E hr h => ⟨t_Room_set_order K A E, ?_, pure vs H Q E h⟩)
  have hu := hu_of hr
  exact (pss_one (ps_fld (pv 0) (pv 1) rfl))

theorem go_Room_clear {P : Program} {w : World} {K : PySem.W.Frag} {mg : Str → Option Value} {base : Heap} {A : Ad} (T : Txt K mg A) (F : MethAt K A.room "clear" "Room.clear" s_Room_clear ["self"])
    
    (pure : ∀ (vs : List V) (H : Hp) (Q : VK) (E : XK), sp_Room_clear K A vs H Q E → t_Room_clear K A E { nx := fun _ H' => Q .non H', rt := Q } (start ["self"] vs) H) : MethGo P w K mg base CX0 1 A.room "clear" ["self"] (sp_Room_clear K A) := by
  refine F.go fun f fd F => ?_
  refine F.ok sc_Room_clear (fun vs H Q E h => by (unfold sp_Room_clear at h; exact len1 vs H Q E h)) (fun cdv Ar outer s H vs Q E hr h => ⟨t_Room_clear K A E, ?_, pure vs H Q E h⟩)
  have hu := hu_of hr
  exact (pss_cons (ps_fld (pv 0) (pe_lst pa_nil) rfl)
      (pss_cons (ps_fld (pv 0) (pe_lst (pa_cons (pe_tup pa_nil) (pa_cons (pe_tup pa_nil) pa_nil))) rfl)
      (pss_one (ps_fld (pv 0) (pe_lst pa_nil) rfl))))

theorem go_ask_all {P : Program} {w : World} {K : PySem.W.Frag} {mg : Str → Option Value} {base : Heap} {A : Ad} (T : Txt K mg A) (F : FunAt K mg "ask_all" "ask_all" "ask_all" s_ask_all ["some", "low", "high"])
    (G_ask : Go P w K mg base (L2.CX P w) 3 "ask" ["good", "code"] (sp_ask K A))
    (pure : ∀ (vs : List V) (H : Hp) (Q : VK) (E : XK), sp_ask_all K A vs H Q E → t_ask_all K A E { nx := fun _ H' => Q .non H', rt := Q } (start ["some", "low", "high", "number"] vs) H) : Go P w K mg base (L2.CX P w) 4 "ask_all" ["some", "low", "high"] (sp_ask_all K A) := by
  refine F.go fun f fd F => ?_
  refine F.okX sc_ask_all (fun vs H Q E h => by (unfold sp_ask_all at h; exact len3 vs H Q E h)) (fun cdv Ar outer s H vs Q E hr h => ⟨t_ask_all K A E, ?_, pure vs H Q E h⟩)
  have hu := hu_of hr
  exact (pss_one (ps_for (ownX) rfl (pi_list (pv 0)) (pg_name (i := 3) sc_ask_all.nd rfl (Or.inl rfl)) (pss_one (ps_expr (pe_go G_ask (hr.mono (by decide)) passX (pa_cons (pe_chain op_le op_le (pv 1) (pv 3) (pv 2)) (pa_cons (pe_gint T.c_RANGE) pa_nil)))))))

theorem go_taken_by {P : Program} {w : World} {K : PySem.W.Frag} {mg : Str → Option Value} {base : Heap} {A : Ad} (T : Txt K mg A) (F : FunAt K mg "taken_by" "taken_by" "taken_by" s_taken_by ["room", "order"])
    
    (pure : ∀ (vs : List V) (H : Hp) (Q : VK) (E : XK), sp_taken_by K A vs H Q E → t_taken_by K A E { nx := fun _ H' => Q .non H', rt := Q } (start ["room", "order", "book"] vs) H) : Go P w K mg base CX0 1 "taken_by" ["room", "order"] (sp_taken_by K A) := by
  refine F.go fun f fd F => ?_
  refine F.ok sc_taken_by (fun vs H Q E h => by (unfold sp_taken_by at h; exact len2 vs H Q E h)) (fun cdv Ar outer s H vs Q E hr h => ⟨t_taken_by K A E, ?_, pure vs H Q E h⟩)
  have hu := hu_of hr
  exact (pss_one (ps_ret (pe_callTy cr_tupOf (by rfl) T.b_tuple bb_tuple (pa_cons (pe_lc (own := [("book", 2)]) rfl sc_taken_by.nd (pi_range1 rfl T.b_range (pa_cons (pe_callB cr_len (by rfl) T.b_len bb_len (pa_cons (pe_fld (pv 0) rfl) pa_nil)) pa_nil)) (blkOk_by (N := ["room", "order", "book"]) (sc := defScope s_taken_by) (by decide +kernel)) (fun _ _ _ _ _ => (pg_name (i := 2) sc_taken_by.nd rfl (Or.inl rfl))) (fun _ _ _ _ _ => pts_nil) (fun _ _ _ _ _ => (pe_bm PySem.F.plainAttrs_list PySem.F.slot_list_count PySem.F.type_list_count mt_lcount (pv 1) (pa_cons (pv 2) pa_nil)))) pa_nil))))

theorem go_twos {P : Program} {w : World} {K : PySem.W.Frag} {mg : Str → Option Value} {base : Heap} {A : Ad} (T : Txt K mg A) (F : FunAt K mg "twos" "twos" "twos" s_twos ["row"])
    
    (pure : ∀ (vs : List V) (H : Hp) (Q : VK) (E : XK), sp_twos K A vs H Q E → t_twos K A E { nx := fun _ H' => Q .non H', rt := Q } (start ["row", "at"] vs) H) : Go P w K mg base CX0 1 "twos" ["row"] (sp_twos K A) := by
  refine F.go fun f fd F => ?_
  refine F.ok sc_twos (fun vs H Q E h => by (unfold sp_twos at h; exact len1 vs H Q E h)) (fun cdv Ar outer s H vs Q E hr h => ⟨t_twos K A E, ?_, pure vs H Q E h⟩)
  have hu := hu_of hr
  exact (pss_one (ps_ret (pe_callTy cr_tupOf (by rfl) T.b_tuple bb_tuple (pa_cons (pe_lc (own := [("at", 1)]) rfl sc_twos.nd (pi_range3 rfl T.b_range (pa_cons pe_int (pa_cons (pe_callB cr_len (by rfl) T.b_len bb_len (pa_cons (pv 0) pa_nil)) (pa_cons pe_int pa_nil)))) (blkOk_by (N := ["row", "at"]) (sc := defScope s_twos) (by decide +kernel)) (fun _ _ _ _ _ => (pg_name (i := 1) sc_twos.nd rfl (Or.inl rfl))) (fun _ _ _ _ _ => pts_nil) (fun _ _ _ _ _ => (pe_tup (pa_cons (pe_ix ix_seq (pv 0) (pv 1) (fun _ _ => rfl)) (pa_cons (pe_ix ix_seq (pv 0) (pe_op op_add (pv 1) pe_int) (fun _ _ => rfl)) pa_nil))))) pa_nil))))

theorem go_sheets_now {P : Program} {w : World} {K : PySem.W.Frag} {mg : Str → Option Value} {base : Heap} {A : Ad} (T : Txt K mg A) (F : FunAt K mg "sheets_now" "sheets_now" "sheets_now" s_sheets_now ["room"])
    (G_sheets_of : Go P w K mg base CX0 1 "sheets_of" ["books", "order"] (sp_sheets_of K A))
    (pure : ∀ (vs : List V) (H : Hp) (Q : VK) (E : XK), sp_sheets_now K A vs H Q E → t_sheets_now K A E { nx := fun _ H' => Q .non H', rt := Q } (start ["room"] vs) H) : Go P w K mg base CX0 2 "sheets_now" ["room"] (sp_sheets_now K A) := by
  refine F.go fun f fd F => ?_
  refine F.ok sc_sheets_now (fun vs H Q E h => by (unfold sp_sheets_now at h; exact len1 vs H Q E h)) (fun cdv Ar outer s H vs Q E hr h => ⟨t_sheets_now K A E, ?_, pure vs H Q E h⟩)
  have hu := hu_of hr
  exact (pss_one (ps_ret (pe_go G_sheets_of (hr.mono (by decide)) pass0 (pa_cons (pe_fld (pv 0) rfl) (pa_cons (pe_fld (pv 0) rfl) pa_nil)))))

theorem go_is_whole_room {P : Program} {w : World} {K : PySem.W.Frag} {mg : Str → Option Value} {base : Heap} {A : Ad} (T : Txt K mg A) (F : FunAt K mg "is_whole_room" "is_whole" "is_whole" s_is_whole_room ["room"])
    
    (pure : ∀ (vs : List V) (H : Hp) (Q : VK) (E : XK), sp_is_whole_room K A vs H Q E → t_is_whole_room K A E { nx := fun _ H' => Q .non H', rt := Q } (start ["room", "book"] vs) H) : Go P w K mg base CX0 1 "is_whole_room" ["room"] (sp_is_whole_room K A) := by
  refine F.go fun f fd F => ?_
  refine F.ok sc_is_whole_room (fun vs H Q E h => by (unfold sp_is_whole_room at h; exact len1 vs H Q E h)) (fun cdv Ar outer s H vs Q E hr h => ⟨t_is_whole_room K A E, ?_, pure vs H Q E h⟩)
  have hu := hu_of hr
  exact (pss_one (ps_ret (pe_cmpR op_eq (pe_callB cr_len (by rfl) T.b_len bb_len (pa_cons (pe_fld (pv 0) rfl) pa_nil)) (pe_callB (cr_sum rfl) (by rfl) T.b_sum bb_sum (pa_cons (pe_lc (own := [("book", 1)]) rfl sc_is_whole_room.nd (pi_list (pe_fld (pv 0) rfl)) (blkOk_by (N := ["room", "book"]) (sc := defScope s_is_whole_room) (by decide +kernel)) (fun _ _ _ _ _ => (pg_name (i := 1) sc_is_whole_room.nd rfl (Or.inl rfl))) (fun _ _ _ _ _ => pts_nil) (fun _ _ _ _ _ => (pe_callB cr_len (by rfl) T.b_len bb_len (pa_cons (pv 1) pa_nil)))) pa_nil)) (nomark _))))

theorem go_book {P : Program} {w : World} {K : PySem.W.Frag} {mg : Str → Option Value} {base : Heap} {A : Ad} (T : Txt K mg A) (F : FunAt K mg "book" "book" "book" s_book ["room", "row"])
    (G_ask : Go P w K mg base (L2.CX P w) 3 "ask" ["good", "code"] (sp_ask K A)) (G_ask_all : Go P w K mg base (L2.CX P w) 4 "ask_all" ["some", "low", "high"] (sp_ask_all K A)) (G_twos : Go P w K mg base CX0 1 "twos" ["row"] (sp_twos K A)) (G_Room_add_book : MethGo P w K mg base CX0 1 A.room "add_book" ["self", "book"] (sp_Room_add_book K A))
    (pure : ∀ (vs : List V) (H : Hp) (Q : VK) (E : XK), sp_book K A vs H Q E → t_book K A E { nx := fun _ H' => Q .non H', rt := Q } (start ["room", "row", "many", "one"] vs) H) : Go P w K mg base (L2.CX P w) 5 "book" ["room", "row"] (sp_book K A) := by
  refine F.go fun f fd F => ?_
  refine F.okX sc_book (fun vs H Q E h => by (unfold sp_book at h; exact len2 vs H Q E h)) (fun cdv Ar outer s H vs Q E hr h => ⟨t_book K A E, ?_, pure vs H Q E h⟩)
  have hu := hu_of hr
  exact (pss_cons (ps_expr (pe_go G_ask (hr.mono (by decide)) passX (pa_cons (pe_and (pe_chain op_le op_le pe_int (pe_callB cr_len (by rfl) T.b_len bb_len (pa_cons (pv 1) pa_nil)) (pe_op op_mul pe_int pe_int)) (pe_one (pe_cmpR op_eq (pe_op op_mod (pe_callB cr_len (by rfl) T.b_len bb_len (pa_cons (pv 1) pa_nil)) pe_int) pe_int (nomark _)))) (pa_cons (pe_gint T.c_RANGE) pa_nil))))
      (pss_cons (ps_expr (pe_go G_ask_all (hr.mono (by decide)) passX (pa_cons (pv 1) (pa_cons pe_int (pa_cons (pe_gint T.c_MOST_TIME) pa_nil)))))
      (pss_cons (ps_set (i := 2) sc_book.nd rfl (Or.inl rfl) (pe_callB (cr_sum rfl) (by rfl) T.b_sum bb_sum (pa_cons (pe_lc (own := [("one", 3)]) rfl sc_book.nd (pi_list (pe_fld (pv 0) rfl)) (blkOk_by (N := ["room", "row", "many", "one"]) (sc := defScope s_book) (by decide +kernel)) (fun _ _ _ _ _ => (pg_name (i := 3) sc_book.nd rfl (Or.inl rfl))) (fun _ _ _ _ _ => pts_nil) (fun _ _ _ _ _ => (pe_callB cr_len (by rfl) T.b_len bb_len (pa_cons (pv 3) pa_nil)))) pa_nil)))
      (pss_cons (ps_expr (pe_go G_ask (hr.mono (by decide)) passX (pa_cons (pe_and (pe_cmpR op_lt (pe_callB cr_len (by rfl) T.b_len bb_len (pa_cons (pe_fld (pv 0) rfl) pa_nil)) (pe_gint T.c_MOST_BOOKS) (nomark _)) (pe_one (pe_cmpR op_le (pe_op op_add (pv 2) (pe_op op_fdiv (pe_callB cr_len (by rfl) T.b_len bb_len (pa_cons (pv 1) pa_nil)) pe_int)) (pe_gint T.c_MOST_SHEETS) (nomark _)))) (pa_cons (pe_gint T.c_FULL) pa_nil))))
      (pss_cons (ps_expr (pe_mgo G_Room_add_book T.cl (hr.mono (by decide)) (pv 0) pass0 (pa_cons (pe_go G_twos (hr.mono (by decide)) pass0 (pa_cons (pv 1) pa_nil)) pa_nil)))
      (pss_one (ps_ret (pe_lst (pa_cons (pe_op op_sub (pe_callB cr_len (by rfl) T.b_len bb_len (pa_cons (pe_fld (pv 0) rfl) pa_nil)) pe_int) pa_nil)))))))))

theorem go_empty {P : Program} {w : World} {K : PySem.W.Frag} {mg : Str → Option Value} {base : Heap} {A : Ad} (T : Txt K mg A) (F : FunAt K mg "empty" "empty" "empty" s_empty ["room", "desk", "row"])
    (G_ask_all : Go P w K mg base (L2.CX P w) 4 "ask_all" ["some", "low", "high"] (sp_ask_all K A)) (G_ask : Go P w K mg base (L2.CX P w) 3 "ask" ["good", "code"] (sp_ask K A)) (G_twos : Go P w K mg base CX0 1 "twos" ["row"] (sp_twos K A)) (G_Room_set_empty : MethGo P w K mg base CX0 1 A.room "set_empty" ["self", "desk", "stretches"] (sp_Room_set_empty K A))
    (pure : ∀ (vs : List V) (H : Hp) (Q : VK) (E : XK), sp_empty K A vs H Q E → t_empty K A E { nx := fun _ H' => Q .non H', rt := Q } (start ["room", "desk", "row", "stretches", "last", "first", "end"] vs) H) : Go P w K mg base (L2.CX P w) 5 "empty" ["room", "desk", "row"] (sp_empty K A) := by
  refine F.go fun f fd F => ?_
  refine F.okX sc_empty (fun vs H Q E h => by (unfold sp_empty at h; exact len3 vs H Q E h)) (fun cdv Ar outer s H vs Q E hr h => ⟨t_empty K A E, ?_, pure vs H Q E h⟩)
  have hu := hu_of hr
  exact (pss_cons (ps_expr (pe_go G_ask_all (hr.mono (by decide)) passX (pa_cons (pe_lst (pa_cons (pv 1) pa_nil)) (pa_cons pe_int (pa_cons pe_int pa_nil)))))
      (pss_cons (ps_expr (pe_go G_ask (hr.mono (by decide)) passX (pa_cons (pe_and (pe_cmpR op_le (pe_callB cr_len (by rfl) T.b_len bb_len (pa_cons (pv 2) pa_nil)) (pe_gint T.c_MOST_STRETCHES) (nomark _)) (pe_one (pe_cmpR op_eq (pe_op op_mod (pe_callB cr_len (by rfl) T.b_len bb_len (pa_cons (pv 2) pa_nil)) pe_int) pe_int (nomark _)))) (pa_cons (pe_gint T.c_RANGE) pa_nil))))
      (pss_cons (ps_expr (pe_go G_ask_all (hr.mono (by decide)) passX (pa_cons (pv 2) (pa_cons pe_int (pa_cons (pe_gint T.c_MOST_MOMENT) pa_nil)))))
      (pss_cons (ps_set (i := 3) sc_empty.nd rfl (Or.inl rfl) (pe_go G_twos (hr.mono (by decide)) pass0 (pa_cons (pv 2) pa_nil)))
      (pss_cons (ps_set (i := 4) sc_empty.nd rfl (Or.inl rfl) pe_int)
      (pss_cons (ps_for (ownX) rfl (pi_tup (pv 3)) (pg_tup rfl (pgs_cons (pg_name (i := 5) sc_empty.nd rfl (Or.inl rfl)) (pgs_cons (pg_name (i := 6) sc_empty.nd rfl (Or.inl rfl)) pgs_nil))) (pss_cons (ps_expr (pe_go G_ask (hr.mono (by decide)) passX (pa_cons (pe_chain op_le op_lt (pv 4) (pv 5) (pv 6)) (pa_cons (pe_gint T.c_RANGE) pa_nil))))
      (pss_one (ps_set (i := 4) sc_empty.nd rfl (Or.inl rfl) (pv 6)))))
      (pss_cons (ps_expr (pe_mgo G_Room_set_empty T.cl (hr.mono (by decide)) (pv 0) pass0 (pa_cons (pe_op op_sub (pv 1) pe_int) (pa_cons (pv 3) pa_nil))))
      (pss_one (ps_ret (pe_lst (pa_cons (pe_callB cr_len (by rfl) T.b_len bb_len (pa_cons (pv 3) pa_nil)) pa_nil)))))))))))

theorem go_order {P : Program} {w : World} {K : PySem.W.Frag} {mg : Str → Option Value} {base : Heap} {A : Ad} (T : Txt K mg A) (F : FunAt K mg "order" "order" "order" s_order ["room", "row"])
    (G_ask : Go P w K mg base (L2.CX P w) 3 "ask" ["good", "code"] (sp_ask K A)) (G_ask_all : Go P w K mg base (L2.CX P w) 4 "ask_all" ["some", "low", "high"] (sp_ask_all K A)) (G_taken_by : Go P w K mg base CX0 1 "taken_by" ["room", "order"] (sp_taken_by K A)) (G_Room_set_order : MethGo P w K mg base CX0 1 A.room "set_order" ["self", "order"] (sp_Room_set_order K A)) (G_is_whole_room : Go P w K mg base CX0 1 "is_whole_room" ["room"] (sp_is_whole_room K A))
    (pure : ∀ (vs : List V) (H : Hp) (Q : VK) (E : XK), sp_order K A vs H Q E → t_order K A E { nx := fun _ H' => Q .non H', rt := Q } (start ["room", "row", "number", "many"] vs) H) : Go P w K mg base (L2.CX P w) 5 "order" ["room", "row"] (sp_order K A) := by
  refine F.go fun f fd F => ?_
  refine F.okX sc_order (fun vs H Q E h => by (unfold sp_order at h; exact len2 vs H Q E h)) (fun cdv Ar outer s H vs Q E hr h => ⟨t_order K A E, ?_, pure vs H Q E h⟩)
  have hu := hu_of hr
  exact (pss_cons (ps_expr (pe_go G_ask (hr.mono (by decide)) passX (pa_cons (pe_cmpR op_le (pe_callB cr_len (by rfl) T.b_len bb_len (pa_cons (pv 1) pa_nil)) (pe_gint T.c_MOST_SHEETS) (nomark _)) (pa_cons (pe_gint T.c_RANGE) pa_nil))))
      (pss_cons (ps_expr (pe_go G_ask_all (hr.mono (by decide)) passX (pa_cons (pv 1) (pa_cons pe_int (pa_cons (pe_op op_sub (pe_callB cr_len (by rfl) T.b_len bb_len (pa_cons (pe_fld (pv 0) rfl) pa_nil)) pe_int) pa_nil)))))
      (pss_cons (ps_for (ownX) rfl (pi_enumT (by rfl) T.b_enumerate (pa_cons (pe_go G_taken_by (hr.mono (by decide)) pass0 (pa_cons (pv 0) (pa_cons (pv 1) pa_nil))) pa_nil)) (pg_tup rfl (pgs_cons (pg_name (i := 2) sc_order.nd rfl (Or.inl rfl)) (pgs_cons (pg_name (i := 3) sc_order.nd rfl (Or.inl rfl)) pgs_nil))) (pss_one (ps_expr (pe_go G_ask (hr.mono (by decide)) passX (pa_cons (pe_cmpR op_le (pv 3) (pe_callB cr_len (by rfl) T.b_len bb_len (pa_cons (pe_ix ix_seq (pe_fld (pv 0) rfl) (pv 2) (fun _ _ => rfl)) pa_nil)) (nomark _)) (pa_cons (pe_gint T.c_TOO_OFTEN) pa_nil))))))
      (pss_cons (ps_expr (pe_mgo G_Room_set_order T.cl (hr.mono (by decide)) (pv 0) pass0 (pa_cons (pv 1) pa_nil)))
      (pss_one (ps_ret (pe_lst (pa_cons (pe_callTy cr_intB (by rfl) T.b_int bb_int (pa_cons (pe_go G_is_whole_room (hr.mono (by decide)) pass0 (pa_cons (pv 0) pa_nil)) pa_nil)) pa_nil))))))))

theorem go_ends {P : Program} {w : World} {K : PySem.W.Frag} {mg : Str → Option Value} {base : Heap} {A : Ad} (T : Txt K mg A) (F : FunAt K mg "ends" "ends" "ends" s_ends ["room"])
    (G_sheets_now : Go P w K mg base CX0 2 "sheets_now" ["room"] (sp_sheets_now K A)) (G_behind : Go P w K mg base CX0 4 "behind" ["empties", "sheets"] (sp_behind K A)) (G_is_whole_room : Go P w K mg base CX0 1 "is_whole_room" ["room"] (sp_is_whole_room K A))
    (pure : ∀ (vs : List V) (H : Hp) (Q : VK) (E : XK), sp_ends K A vs H Q E → t_ends K A E { nx := fun _ H' => Q .non H', rt := Q } (start ["room"] vs) H) : Go P w K mg base CX0 5 "ends" ["room"] (sp_ends K A) := by
  refine F.go fun f fd F => ?_
  refine F.ok sc_ends (fun vs H Q E h => by (unfold sp_ends at h; exact len1 vs H Q E h)) (fun cdv Ar outer s H vs Q E hr h => ⟨t_ends K A E, ?_, pure vs H Q E h⟩)
  have hu := hu_of hr
  exact (pss_one (ps_ret (pe_op op_cat (pe_callTy cr_listOf (by rfl) T.b_list bb_list (pa_cons (pe_go G_behind (hr.mono (by decide)) pass0 (pa_cons (pe_fld (pv 0) rfl) (pa_cons (pe_go G_sheets_now (hr.mono (by decide)) pass0 (pa_cons (pv 0) pa_nil)) pa_nil))) pa_nil)) (pe_lst (pa_cons (pe_callTy cr_intB (by rfl) T.b_int bb_int (pa_cons (pe_go G_is_whole_room (hr.mono (by decide)) pass0 (pa_cons (pv 0) pa_nil)) pa_nil)) pa_nil)))))

theorem go_times {P : Program} {w : World} {K : PySem.W.Frag} {mg : Str → Option Value} {base : Heap} {A : Ad} (T : Txt K mg A) (F : FunAt K mg "times" "times" "times" s_times ["room"])
    (G_sheets_now : Go P w K mg base CX0 2 "sheets_now" ["room"] (sp_sheets_now K A)) (G_clocks_of : Go P w K mg base CX0 3 "clocks_of" ["empties", "sheets"] (sp_clocks_of K A))
    (pure : ∀ (vs : List V) (H : Hp) (Q : VK) (E : XK), sp_times K A vs H Q E → t_times K A E { nx := fun _ H' => Q .non H', rt := Q } (start ["room", "found", "clocks"] vs) H) : Go P w K mg base CX0 4 "times" ["room"] (sp_times K A) := by
  refine F.go fun f fd F => ?_
  refine F.ok sc_times (fun vs H Q E h => by (unfold sp_times at h; exact len1 vs H Q E h)) (fun cdv Ar outer s H vs Q E hr h => ⟨t_times K A E, ?_, pure vs H Q E h⟩)
  have hu := hu_of hr
  exact (pss_cons (ps_set (i := 1) sc_times.nd rfl (Or.inl rfl) (pe_lst (pa_cons (pe_callB cr_len (by rfl) T.b_len bb_len (pa_cons (pe_fld (pv 0) rfl) pa_nil)) pa_nil)))
      (pss_cons (ps_for PassesOwn.never rfl (pi_list (pe_go G_clocks_of (hr.mono (by decide)) pass0 (pa_cons (pe_fld (pv 0) rfl) (pa_cons (pe_go G_sheets_now (hr.mono (by decide)) pass0 (pa_cons (pv 0) pa_nil)) pa_nil)))) (pg_name (i := 2) sc_times.nd rfl (Or.inl rfl)) (pss_one (ps_set (i := 1) sc_times.nd rfl (Or.inl rfl) (pe_op op_cat (pv 1) (pe_callTy cr_listOf (by rfl) T.b_list bb_list (pa_cons (pv 2) pa_nil))))))
      (pss_one (ps_ret (pv 1)))))

theorem go_told {P : Program} {w : World} {K : PySem.W.Frag} {mg : Str → Option Value} {base : Heap} {A : Ad} (T : Txt K mg A) (F : FunAt K mg "told" "told" "told" s_told ["some"])
    
    (pure : ∀ (vs : List V) (H : Hp) (Q : VK) (E : XK), sp_told K A vs H Q E → t_told K A E { nx := fun _ H' => Q .non H', rt := Q } (start ["some"] vs) H) : Go P w K mg base CX0 1 "told" ["some"] (sp_told K A) := by
  refine F.go fun f fd F => ?_
  refine F.ok sc_told (fun vs H Q E h => by (unfold sp_told at h; exact len1 vs H Q E h)) (fun cdv Ar outer s H vs Q E hr h => ⟨t_told K A E, ?_, pure vs H Q E h⟩)
  have hu := hu_of hr
  exact (pss_one (ps_ret (pe_op op_cat (pe_lst (pa_cons (pe_callB cr_len (by rfl) T.b_len bb_len (pa_cons (pv 0) pa_nil)) pa_nil)) (pe_callTy cr_listOf (by rfl) T.b_list bb_list (pa_cons (pv 0) pa_nil)))))

theorem go_least {P : Program} {w : World} {K : PySem.W.Frag} {mg : Str → Option Value} {base : Heap} {A : Ad} (T : Txt K mg A) (F : FunAt K mg "least" "least" "least" s_least ["room"])
    (G_how_many : Go P w K mg base CX0 1 "how_many" ["books"] (sp_how_many K A)) (G_least_from : Go P w K mg base CX0 4 "least_from" ["books", "empties", "taken", "clocks"] (sp_least_from K A))
    (pure : ∀ (vs : List V) (H : Hp) (Q : VK) (E : XK), sp_least K A vs H Q E → t_least K A E { nx := fun _ H' => Q .non H', rt := Q } (start ["room", "start"] vs) H) : Go P w K mg base CX0 5 "least" ["room"] (sp_least K A) := by
  refine F.go fun f fd F => ?_
  refine F.ok sc_least (fun vs H Q E h => by (unfold sp_least at h; exact len1 vs H Q E h)) (fun cdv Ar outer s H vs Q E hr h => ⟨t_least K A E, ?_, pure vs H Q E h⟩)
  have hu := hu_of hr
  exact (pss_cons (ps_set (i := 1) sc_least.nd rfl (Or.inl rfl) (pe_op op_rep1 (pe_tup (pa_cons pe_int pa_nil)) (pe_callB cr_len (by rfl) T.b_len bb_len (pa_cons (pe_fld (pv 0) rfl) pa_nil))))
      (pss_one (ps_ret (pe_lst (pa_cons (pe_go G_least_from (hr.mono (by decide)) pass0 (pa_cons (pe_fld (pv 0) rfl) (pa_cons (pe_fld (pv 0) rfl) (pa_cons (pv 1) (pa_cons (pe_tup (pa_cons pe_int (pa_cons pe_int pa_nil))) pa_nil))))) (pa_cons (pe_go G_how_many (hr.mono (by decide)) pass0 (pa_cons (pe_fld (pv 0) rfl) pa_nil)) pa_nil))))))

theorem go_left {P : Program} {w : World} {K : PySem.W.Frag} {mg : Str → Option Value} {base : Heap} {A : Ad} (T : Txt K mg A) (F : FunAt K mg "left" "left" "left" s_left ["room"])
    (G_sheets_now : Go P w K mg base CX0 2 "sheets_now" ["room"] (sp_sheets_now K A)) (G_behind : Go P w K mg base CX0 4 "behind" ["empties", "sheets"] (sp_behind K A)) (G_taken_by : Go P w K mg base CX0 1 "taken_by" ["room", "order"] (sp_taken_by K A)) (G_least_from : Go P w K mg base CX0 4 "least_from" ["books", "empties", "taken", "clocks"] (sp_least_from K A))
    (pure : ∀ (vs : List V) (H : Hp) (Q : VK) (E : XK), sp_left K A vs H Q E → t_left K A E { nx := fun _ H' => Q .non H', rt := Q } (start ["room", "clocks"] vs) H) : Go P w K mg base CX0 5 "left" ["room"] (sp_left K A) := by
  refine F.go fun f fd F => ?_
  refine F.ok sc_left (fun vs H Q E h => by (unfold sp_left at h; exact len1 vs H Q E h)) (fun cdv Ar outer s H vs Q E hr h => ⟨t_left K A E, ?_, pure vs H Q E h⟩)
  have hu := hu_of hr
  exact (pss_cons (ps_set (i := 1) sc_left.nd rfl (Or.inl rfl) (pe_go G_behind (hr.mono (by decide)) pass0 (pa_cons (pe_fld (pv 0) rfl) (pa_cons (pe_go G_sheets_now (hr.mono (by decide)) pass0 (pa_cons (pv 0) pa_nil)) pa_nil))))
      (pss_one (ps_ret (pe_lst (pa_cons (pe_go G_least_from (hr.mono (by decide)) pass0 (pa_cons (pe_fld (pv 0) rfl) (pa_cons (pe_fld (pv 0) rfl) (pa_cons (pe_go G_taken_by (hr.mono (by decide)) pass0 (pa_cons (pv 0) (pa_cons (pe_fld (pv 0) rfl) pa_nil))) (pa_cons (pv 1) pa_nil))))) pa_nil)))))

theorem go_each_next {P : Program} {w : World} {K : PySem.W.Frag} {mg : Str → Option Value} {base : Heap} {A : Ad} (T : Txt K mg A) (F : FunAt K mg "each_next" "each_next" "each_next" s_each_next ["room"])
    (G_taken_by : Go P w K mg base CX0 1 "taken_by" ["room", "order"] (sp_taken_by K A)) (G_sheets_of : Go P w K mg base CX0 1 "sheets_of" ["books", "order"] (sp_sheets_of K A)) (G_behind : Go P w K mg base CX0 4 "behind" ["empties", "sheets"] (sp_behind K A)) (G_with_one : Go P w K mg base CX0 1 "with_one" ["taken", "book"] (sp_with_one K A)) (G_least_from : Go P w K mg base CX0 4 "least_from" ["books", "empties", "taken", "clocks"] (sp_least_from K A))
    (pure : ∀ (vs : List V) (H : Hp) (Q : VK) (E : XK), sp_each_next K A vs H Q E → t_each_next K A E { nx := fun _ H' => Q .non H', rt := Q } (start ["room", "taken", "found", "number", "one", "clocks"] vs) H) : Go P w K mg base CX0 5 "each_next" ["room"] (sp_each_next K A) := by
  refine F.go fun f fd F => ?_
  refine F.ok sc_each_next (fun vs H Q E h => by (unfold sp_each_next at h; exact len1 vs H Q E h)) (fun cdv Ar outer s H vs Q E hr h => ⟨t_each_next K A E, ?_, pure vs H Q E h⟩)
  have hu := hu_of hr
  exact (pss_cons (ps_set (i := 1) sc_each_next.nd rfl (Or.inl rfl) (pe_go G_taken_by (hr.mono (by decide)) pass0 (pa_cons (pv 0) (pa_cons (pe_fld (pv 0) rfl) pa_nil))))
      (pss_cons (ps_set (i := 2) sc_each_next.nd rfl (Or.inl rfl) (pe_lst (pa_cons (pe_callB cr_len (by rfl) T.b_len bb_len (pa_cons (pe_fld (pv 0) rfl) pa_nil)) pa_nil)))
      (pss_cons (ps_for PassesOwn.never rfl (pi_enum (by rfl) T.b_enumerate (pa_cons (pe_fld (pv 0) rfl) pa_nil)) (pg_tup rfl (pgs_cons (pg_name (i := 3) sc_each_next.nd rfl (Or.inl rfl)) (pgs_cons (pg_name (i := 4) sc_each_next.nd rfl (Or.inl rfl)) pgs_nil))) (pss_one (ps_if (pt_cmpR op_eq (pe_ix ix_seq (pv 1) (pv 3) (fun _ _ => rfl)) (pe_callB cr_len (by rfl) T.b_len bb_len (pa_cons (pv 4) pa_nil)) (nomark _)) (pss_one (ps_expr (pe_bm PySem.F.plainAttrs_list PySem.F.slot_list_append PySem.F.type_list_append mt_append (pv 2) (pa_cons (pe_gint T.c_NONE_LEFT) pa_nil)))) (pss_cons (ps_set (i := 5) sc_each_next.nd rfl (Or.inl rfl) (pe_go G_behind (hr.mono (by decide)) pass0 (pa_cons (pe_fld (pv 0) rfl) (pa_cons (pe_go G_sheets_of (hr.mono (by decide)) pass0 (pa_cons (pe_fld (pv 0) rfl) (pa_cons (pe_op op_cat (pe_fld (pv 0) rfl) (pe_lst (pa_cons (pv 3) pa_nil))) pa_nil))) pa_nil))))
      (pss_one (ps_expr (pe_bm PySem.F.plainAttrs_list PySem.F.slot_list_append PySem.F.type_list_append mt_append (pv 2) (pa_cons (pe_go G_least_from (hr.mono (by decide)) pass0 (pa_cons (pe_fld (pv 0) rfl) (pa_cons (pe_fld (pv 0) rfl) (pa_cons (pe_go G_with_one (hr.mono (by decide)) pass0 (pa_cons (pv 1) (pa_cons (pv 3) pa_nil))) (pa_cons (pv 5) pa_nil))))) pa_nil))))))))
      (pss_one (ps_ret (pv 2))))))

theorem go_ask_never_empty {P : Program} {w : World} {K : PySem.W.Frag} {mg : Str → Option Value} {base : Heap} {A : Ad} (T : Txt K mg A) (F : FunAt K mg "ask_never_empty" "ask_never_empty" "ask_never_empty" s_ask_never_empty ["room"])
    (G_ask : Go P w K mg base (L2.CX P w) 3 "ask" ["good", "code"] (sp_ask K A))
    (pure : ∀ (vs : List V) (H : Hp) (Q : VK) (E : XK), sp_ask_never_empty K A vs H Q E → t_ask_never_empty K A E { nx := fun _ H' => Q .non H', rt := Q } (start ["room"] vs) H) : Go P w K mg base (L2.CX P w) 4 "ask_never_empty" ["room"] (sp_ask_never_empty K A) := by
  refine F.go fun f fd F => ?_
  refine F.okX sc_ask_never_empty (fun vs H Q E h => by (unfold sp_ask_never_empty at h; exact len1 vs H Q E h)) (fun cdv Ar outer s H vs Q E hr h => ⟨t_ask_never_empty K A E, ?_, pure vs H Q E h⟩)
  have hu := hu_of hr
  exact (pss_one (ps_expr (pe_go G_ask (hr.mono (by decide)) passX (pa_cons (pe_cmpR (op_eqD hr.units) (pe_fld (pv 0) rfl) (pe_lst (pa_cons (pe_tup pa_nil) (pa_cons (pe_tup pa_nil) pa_nil))) (nomark _)) (pa_cons (pe_gint T.c_HAS_EMPTY) pa_nil)))))

theorem go_rule {P : Program} {w : World} {K : PySem.W.Frag} {mg : Str → Option Value} {base : Heap} {A : Ad} (T : Txt K mg A) (F : FunAt K mg "rule" "rule" "rule" s_rule ["room"])
    (G_ask_never_empty : Go P w K mg base (L2.CX P w) 4 "ask_never_empty" ["room"] (sp_ask_never_empty K A)) (G_by_rule : Go P w K mg base CX0 7 "by_rule" ["books"] (sp_by_rule K A)) (G_told : Go P w K mg base CX0 1 "told" ["some"] (sp_told K A)) (G_end_of : Go P w K mg base CX0 5 "end_of" ["books", "numbers"] (sp_end_of K A))
    (pure : ∀ (vs : List V) (H : Hp) (Q : VK) (E : XK), sp_rule K A vs H Q E → t_rule K A E { nx := fun _ H' => Q .non H', rt := Q } (start ["room", "numbers"] vs) H) : Go P w K mg base (L2.CX P w) 8 "rule" ["room"] (sp_rule K A) := by
  refine F.go fun f fd F => ?_
  refine F.okX sc_rule (fun vs H Q E h => by (unfold sp_rule at h; exact len1 vs H Q E h)) (fun cdv Ar outer s H vs Q E hr h => ⟨t_rule K A E, ?_, pure vs H Q E h⟩)
  have hu := hu_of hr
  exact (pss_cons (ps_expr (pe_go G_ask_never_empty (hr.mono (by decide)) passX (pa_cons (pv 0) pa_nil)))
      (pss_cons (ps_set (i := 1) sc_rule.nd rfl (Or.inl rfl) (pe_go G_by_rule (hr.mono (by decide)) pass0 (pa_cons (pe_fld (pv 0) rfl) pa_nil)))
      (pss_one (ps_ret (pe_op op_cat (pe_go G_told (hr.mono (by decide)) pass0 (pa_cons (pv 1) pa_nil)) (pe_lst (pa_cons (pe_go G_end_of (hr.mono (by decide)) pass0 (pa_cons (pe_fld (pv 0) rfl) (pa_cons (pv 1) pa_nil))) pa_nil)))))))

theorem go_block {P : Program} {w : World} {K : PySem.W.Frag} {mg : Str → Option Value} {base : Heap} {A : Ad} (T : Txt K mg A) (F : FunAt K mg "block" "block" "block" s_block ["room", "number"])
    (G_ask_all : Go P w K mg base (L2.CX P w) 4 "ask_all" ["some", "low", "high"] (sp_ask_all K A)) (G_three_numbers : Go P w K mg base CX0 5 "three_numbers" ["book"] (sp_three_numbers K A)) (G_lead_and_tail : Go P w K mg base CX0 6 "lead_and_tail" ["book"] (sp_lead_and_tail K A))
    (pure : ∀ (vs : List V) (H : Hp) (Q : VK) (E : XK), sp_block K A vs H Q E → t_block K A E { nx := fun _ H' => Q .non H', rt := Q } (start ["room", "number", "one"] vs) H) : Go P w K mg base (L2.CX P w) 7 "block" ["room", "number"] (sp_block K A) := by
  refine F.go fun f fd F => ?_
  refine F.okX sc_block (fun vs H Q E h => by (unfold sp_block at h; exact len2 vs H Q E h)) (fun cdv Ar outer s H vs Q E hr h => ⟨t_block K A E, ?_, pure vs H Q E h⟩)
  have hu := hu_of hr
  exact (pss_cons (ps_expr (pe_go G_ask_all (hr.mono (by decide)) passX (pa_cons (pe_lst (pa_cons (pv 1) pa_nil)) (pa_cons pe_int (pa_cons (pe_op op_sub (pe_callB cr_len (by rfl) T.b_len bb_len (pa_cons (pe_fld (pv 0) rfl) pa_nil)) pe_int) pa_nil)))))
      (pss_cons (ps_set (i := 2) sc_block.nd rfl (Or.inl rfl) (pe_ix ix_seq (pe_fld (pv 0) rfl) (pv 1) (fun _ _ => rfl)))
      (pss_one (ps_ret (pe_op op_cat (pe_callTy cr_listOf (by rfl) T.b_list bb_list (pa_cons (pe_go G_three_numbers (hr.mono (by decide)) pass0 (pa_cons (pv 2) pa_nil)) pa_nil)) (pe_callTy cr_listOf (by rfl) T.b_list bb_list (pa_cons (pe_go G_lead_and_tail (hr.mono (by decide)) pass0 (pa_cons (pv 2) pa_nil)) pa_nil)))))))

theorem go_hanging {P : Program} {w : World} {K : PySem.W.Frag} {mg : Str → Option Value} {base : Heap} {A : Ad} (T : Txt K mg A) (F : FunAt K mg "hanging" "hanging" "hanging" s_hanging ["room"])
    (G_ask_never_empty : Go P w K mg base (L2.CX P w) 4 "ask_never_empty" ["room"] (sp_ask_never_empty K A)) (G_ask : Go P w K mg base (L2.CX P w) 3 "ask" ["good", "code"] (sp_ask K A)) (G_sheets_now : Go P w K mg base CX0 2 "sheets_now" ["room"] (sp_sheets_now K A)) (G_critical : Go P w K mg base CX0 5 "critical" ["sheets"] (sp_critical K A))
    (pure : ∀ (vs : List V) (H : Hp) (Q : VK) (E : XK), sp_hanging K A vs H Q E → t_hanging K A E { nx := fun _ H' => Q .non H', rt := Q } (start ["room"] vs) H) : Go P w K mg base (L2.CX P w) 6 "hanging" ["room"] (sp_hanging K A) := by
  refine F.go fun f fd F => ?_
  refine F.okX sc_hanging (fun vs H Q E h => by (unfold sp_hanging at h; exact len1 vs H Q E h)) (fun cdv Ar outer s H vs Q E hr h => ⟨t_hanging K A E, ?_, pure vs H Q E h⟩)
  have hu := hu_of hr
  exact (pss_cons (ps_expr (pe_go G_ask_never_empty (hr.mono (by decide)) passX (pa_cons (pv 0) pa_nil)))
      (pss_cons (ps_expr (pe_go G_ask (hr.mono (by decide)) passX (pa_cons (pe_cmpR (op_neD hr.units) (pe_fld (pv 0) rfl) (pe_lst pa_nil) (nomark _)) (pa_cons (pe_gint T.c_NOTHING) pa_nil))))
      (pss_one (ps_ret (pe_lst (pa_cons (pe_go G_critical (hr.mono (by decide)) pass0 (pa_cons (pe_go G_sheets_now (hr.mono (by decide)) pass0 (pa_cons (pv 0) pa_nil)) pa_nil)) pa_nil))))))

theorem go_ask_workings {P : Program} {w : World} {K : PySem.W.Frag} {mg : Str → Option Value} {base : Heap} {A : Ad} (T : Txt K mg A) (F : FunAt K mg "ask_workings" "ask_workings" "ask_workings" s_ask_workings ["slips", "row"])
    (G_ask_all : Go P w K mg base (L2.CX P w) 4 "ask_all" ["some", "low", "high"] (sp_ask_all K A)) (G_ask : Go P w K mg base (L2.CX P w) 3 "ask" ["good", "code"] (sp_ask K A))
    (pure : ∀ (vs : List V) (H : Hp) (Q : VK) (E : XK), sp_ask_workings K A vs H Q E → t_ask_workings K A E { nx := fun _ H' => Q .non H', rt := Q } (start ["slips", "row"] vs) H) : Go P w K mg base (L2.CX P w) 5 "ask_workings" ["slips", "row"] (sp_ask_workings K A) := by
  refine F.go fun f fd F => ?_
  refine F.okX sc_ask_workings (fun vs H Q E h => by (unfold sp_ask_workings at h; exact len2 vs H Q E h)) (fun cdv Ar outer s H vs Q E hr h => ⟨t_ask_workings K A E, ?_, pure vs H Q E h⟩)
  have hu := hu_of hr
  exact (pss_cons (ps_expr (pe_go G_ask_all (hr.mono (by decide)) passX (pa_cons (pe_lst (pa_cons (pv 0) pa_nil)) (pa_cons pe_int (pa_cons (pe_gint T.c_MOST_SLIPS) pa_nil)))))
      (pss_cons (ps_expr (pe_go G_ask (hr.mono (by decide)) passX (pa_cons (pe_cmpR op_le (pe_callB cr_len (by rfl) T.b_len bb_len (pa_cons (pv 1) pa_nil)) (pe_gint T.c_MOST_WORKINGS) (nomark _)) (pa_cons (pe_gint T.c_RANGE) pa_nil))))
      (pss_one (ps_expr (pe_go G_ask_all (hr.mono (by decide)) passX (pa_cons (pv 1) (pa_cons (pe_op op_sub pe_int (pe_gint T.c_MOST_WORKED)) (pa_cons (pe_gint T.c_MOST_WORKED) pa_nil))))))))

theorem go_judged {P : Program} {w : World} {K : PySem.W.Frag} {mg : Str → Option Value} {base : Heap} {A : Ad} (T : Txt K mg A) (F : FunAt K mg "judged" "judged" "judged" s_judged ["slips", "row"])
    (G_ask_workings : Go P w K mg base (L2.CX P w) 5 "ask_workings" ["slips", "row"] (sp_ask_workings K A)) (G_judge : Go P w K mg base CX0 2 "judge" ["slips", "some"] (sp_judge K A))
    (pure : ∀ (vs : List V) (H : Hp) (Q : VK) (E : XK), sp_judged K A vs H Q E → t_judged K A E { nx := fun _ H' => Q .non H', rt := Q } (start ["slips", "row"] vs) H) : Go P w K mg base (L2.CX P w) 6 "judged" ["slips", "row"] (sp_judged K A) := by
  refine F.go fun f fd F => ?_
  refine F.okX sc_judged (fun vs H Q E h => by (unfold sp_judged at h; exact len2 vs H Q E h)) (fun cdv Ar outer s H vs Q E hr h => ⟨t_judged K A E, ?_, pure vs H Q E h⟩)
  have hu := hu_of hr
  exact (pss_cons (ps_expr (pe_go G_ask_workings (hr.mono (by decide)) passX (pa_cons (pv 0) (pa_cons (pv 1) pa_nil))))
      (pss_one (ps_ret (pe_go G_judge (hr.mono (by decide)) pass0 (pa_cons (pv 0) (pa_cons (pv 1) pa_nil))))))

theorem go_more_told {P : Program} {w : World} {K : PySem.W.Frag} {mg : Str → Option Value} {base : Heap} {A : Ad} (T : Txt K mg A) (F : FunAt K mg "more_told" "more_told" "more_told" s_more_told ["slips", "row"])
    (G_ask_workings : Go P w K mg base (L2.CX P w) 5 "ask_workings" ["slips", "row"] (sp_ask_workings K A)) (G_more : Go P w K mg base CX0 3 "more" ["slips", "some"] (sp_more K A))
    (pure : ∀ (vs : List V) (H : Hp) (Q : VK) (E : XK), sp_more_told K A vs H Q E → t_more_told K A E { nx := fun _ H' => Q .non H', rt := Q } (start ["slips", "row"] vs) H) : Go P w K mg base (L2.CX P w) 6 "more_told" ["slips", "row"] (sp_more_told K A) := by
  refine F.go fun f fd F => ?_
  refine F.okX sc_more_told (fun vs H Q E h => by (unfold sp_more_told at h; exact len2 vs H Q E h)) (fun cdv Ar outer s H vs Q E hr h => ⟨t_more_told K A E, ?_, pure vs H Q E h⟩)
  have hu := hu_of hr
  exact (pss_cons (ps_expr (pe_go G_ask_workings (hr.mono (by decide)) passX (pa_cons (pv 0) (pa_cons (pv 1) pa_nil))))
      (pss_one (ps_ret (pe_go G_more (hr.mono (by decide)) pass0 (pa_cons (pv 0) (pa_cons (pv 1) pa_nil))))))

theorem go_blocks {P : Program} {w : World} {K : PySem.W.Frag} {mg : Str → Option Value} {base : Heap} {A : Ad} (T : Txt K mg A) (F : FunAt K mg "blocks" "blocks" "blocks" s_blocks ["room", "row"])
    (G_ask_all : Go P w K mg base (L2.CX P w) 4 "ask_all" ["some", "low", "high"] (sp_ask_all K A)) (G_ask : Go P w K mg base (L2.CX P w) 3 "ask" ["good", "code"] (sp_ask K A)) (G_ask_never_empty : Go P w K mg base (L2.CX P w) 4 "ask_never_empty" ["room"] (sp_ask_never_empty K A)) (G_end_of : Go P w K mg base CX0 5 "end_of" ["books", "numbers"] (sp_end_of K A))
    (pure : ∀ (vs : List V) (H : Hp) (Q : VK) (E : XK), sp_blocks K A vs H Q E → t_blocks K A E { nx := fun _ H' => Q .non H', rt := Q } (start ["room", "row", "at", "number"] vs) H) : Go P w K mg base (L2.CX P w) 6 "blocks" ["room", "row"] (sp_blocks K A) := by
  refine F.go fun f fd F => ?_
  refine F.okX sc_blocks (fun vs H Q E h => by (unfold sp_blocks at h; exact len2 vs H Q E h)) (fun cdv Ar outer s H vs Q E hr h => ⟨t_blocks K A E, ?_, pure vs H Q E h⟩)
  have hu := hu_of hr
  exact (pss_cons (ps_expr (pe_go G_ask_all (hr.mono (by decide)) passX (pa_cons (pv 1) (pa_cons pe_int (pa_cons (pe_op op_sub (pe_callB cr_len (by rfl) T.b_len bb_len (pa_cons (pe_fld (pv 0) rfl) pa_nil)) pe_int) pa_nil)))))
      (pss_cons (ps_expr (pe_go G_ask (hr.mono (by decide)) passX (pa_cons (pe_cmpR (op_eqD hr.units) (pe_lc (own := [("at", 2), ("number", 3)]) rfl sc_blocks.nd (pi_enum (by rfl) T.b_enumerate (pa_cons (pv 1) pa_nil)) (blkOk_by (N := ["room", "row", "at", "number"]) (sc := defScope s_blocks) (by decide +kernel)) (fun _ _ _ _ _ => (pg_tup rfl (pgs_cons (pg_name (i := 2) sc_blocks.nd rfl (Or.inl rfl)) (pgs_cons (pg_name (i := 3) sc_blocks.nd rfl (Or.inl rfl)) pgs_nil)))) (fun _ _ _ _ _ => (pts_one (pt_cmpR op_in_seq (pv 3) (pe_slice sl_list (pv 1) po_none (po_some (pv 2))) (by rfl)))) (fun _ _ _ _ _ => (pv 3))) (pe_lst pa_nil) (nomark _)) (pa_cons (pe_gint T.c_RANGE) pa_nil))))
      (pss_cons (ps_expr (pe_go G_ask_never_empty (hr.mono (by decide)) passX (pa_cons (pv 0) pa_nil)))
      (pss_one (ps_ret (pe_lst (pa_cons (pe_go G_end_of (hr.mono (by decide)) pass0 (pa_cons (pe_fld (pv 0) rfl) (pa_cons (pv 1) pa_nil))) pa_nil)))))))

theorem go_swap {P : Program} {w : World} {K : PySem.W.Frag} {mg : Str → Option Value} {base : Heap} {A : Ad} (T : Txt K mg A) (F : FunAt K mg "swap" "swap" "swap" s_swap ["room", "place"])
    (G_ask_all : Go P w K mg base (L2.CX P w) 4 "ask_all" ["some", "low", "high"] (sp_ask_all K A)) (G_sheets_of : Go P w K mg base CX0 1 "sheets_of" ["books", "order"] (sp_sheets_of K A)) (G_behind : Go P w K mg base CX0 4 "behind" ["empties", "sheets"] (sp_behind K A))
    (pure : ∀ (vs : List V) (H : Hp) (Q : VK) (E : XK), sp_swap K A vs H Q E → t_swap K A E { nx := fun _ H' => Q .non H', rt := Q } (start ["room", "place", "turned", "exchanged"] vs) H) : Go P w K mg base (L2.CX P w) 5 "swap" ["room", "place"] (sp_swap K A) := by
  refine F.go fun f fd F => ?_
  refine F.okX sc_swap (fun vs H Q E h => by (unfold sp_swap at h; exact len2 vs H Q E h)) (fun cdv Ar outer s H vs Q E hr h => ⟨t_swap K A E, ?_, pure vs H Q E h⟩)
  have hu := hu_of hr
  exact (pss_cons (ps_expr (pe_go G_ask_all (hr.mono (by decide)) passX (pa_cons (pe_lst (pa_cons (pv 1) pa_nil)) (pa_cons pe_int (pa_cons (pe_op op_sub (pe_callB cr_len (by rfl) T.b_len bb_len (pa_cons (pe_fld (pv 0) rfl) pa_nil)) pe_int) pa_nil)))))
      (pss_cons (ps_set (i := 2) sc_swap.nd rfl (Or.inl rfl) (pe_revL (pe_slice sl_list (pe_fld (pv 0) rfl) (po_some (pv 1)) (po_some (pe_op op_add (pv 1) pe_int)))))
      (pss_cons (ps_set (i := 3) sc_swap.nd rfl (Or.inl rfl) (pe_op op_cat (pe_op op_cat (pe_slice sl_list (pe_fld (pv 0) rfl) po_none (po_some (pv 1))) (pv 2)) (pe_slice sl_list (pe_fld (pv 0) rfl) (po_some (pe_op op_add (pv 1) pe_int)) po_none)))
      (pss_one (ps_ret (pe_callTy cr_listOf (by rfl) T.b_list bb_list (pa_cons (pe_go G_behind (hr.mono (by decide)) pass0 (pa_cons (pe_fld (pv 0) rfl) (pa_cons (pe_go G_sheets_of (hr.mono (by decide)) pass0 (pa_cons (pe_fld (pv 0) rfl) (pa_cons (pv 3) pa_nil))) pa_nil))) pa_nil)))))))

theorem go_books {P : Program} {w : World} {K : PySem.W.Frag} {mg : Str → Option Value} {base : Heap} {A : Ad} (T : Txt K mg A) (F : FunAt K mg "books" "books" "books" s_books ["room"])
    
    (pure : ∀ (vs : List V) (H : Hp) (Q : VK) (E : XK), sp_books K A vs H Q E → t_books K A E { nx := fun _ H' => Q .non H', rt := Q } (start ["room", "found", "one", "sheet"] vs) H) : Go P w K mg base CX0 1 "books" ["room"] (sp_books K A) := by
  refine F.go fun f fd F => ?_
  refine F.ok sc_books (fun vs H Q E h => by (unfold sp_books at h; exact len1 vs H Q E h)) (fun cdv Ar outer s H vs Q E hr h => ⟨t_books K A E, ?_, pure vs H Q E h⟩)
  have hu := hu_of hr
  exact (pss_cons (ps_set (i := 1) sc_books.nd rfl (Or.inl rfl) (pe_lst (pa_cons (pe_callB cr_len (by rfl) T.b_len bb_len (pa_cons (pe_fld (pv 0) rfl) pa_nil)) pa_nil)))
      (pss_cons (ps_for PassesOwn.never rfl (pi_list (pe_fld (pv 0) rfl)) (pg_name (i := 2) sc_books.nd rfl (Or.inl rfl)) (pss_cons (ps_expr (pe_bm PySem.F.plainAttrs_list PySem.F.slot_list_append PySem.F.type_list_append mt_append (pv 1) (pa_cons (pe_callB cr_len (by rfl) T.b_len bb_len (pa_cons (pv 2) pa_nil)) pa_nil)))
      (pss_one (ps_for PassesOwn.never rfl (pi_tup (pv 2)) (pg_name (i := 3) sc_books.nd rfl (Or.inl rfl)) (pss_one (ps_set (i := 1) sc_books.nd rfl (Or.inl rfl) (pe_op op_cat (pv 1) (pe_callTy cr_listOf (by rfl) T.b_list bb_list (pa_cons (pv 3) pa_nil)))))))))
      (pss_one (ps_ret (pv 1)))))

theorem go_clear {P : Program} {w : World} {K : PySem.W.Frag} {mg : Str → Option Value} {base : Heap} {A : Ad} (T : Txt K mg A) (F : FunAt K mg "clear" "clear" "clear" s_clear ["room"])
    (G_Room_clear : MethGo P w K mg base CX0 1 A.room "clear" ["self"] (sp_Room_clear K A))
    (pure : ∀ (vs : List V) (H : Hp) (Q : VK) (E : XK), sp_clear K A vs H Q E → t_clear K A E { nx := fun _ H' => Q .non H', rt := Q } (start ["room"] vs) H) : Go P w K mg base CX0 2 "clear" ["room"] (sp_clear K A) := by
  refine F.go fun f fd F => ?_
  refine F.ok sc_clear (fun vs H Q E h => by (unfold sp_clear at h; exact len1 vs H Q E h)) (fun cdv Ar outer s H vs Q E hr h => ⟨t_clear K A E, ?_, pure vs H Q E h⟩)
  have hu := hu_of hr
  exact (pss_cons (ps_expr (pe_mgo0 G_Room_clear T.cl (hr.mono (by decide)) (pv 0) pass0))
      (pss_one (ps_ret (pe_lst (pa_cons pe_int pa_nil)))))

theorem go_of_order {P : Program} {w : World} {K : PySem.W.Frag} {mg : Str → Option Value} {base : Heap} {A : Ad} (T : Txt K mg A) (F : FunAt K mg "of_order" "of_order" "of_order" s_of_order ["room", "what"])
    (G_told : Go P w K mg base CX0 1 "told" ["some"] (sp_told K A)) (G_ends : Go P w K mg base CX0 5 "ends" ["room"] (sp_ends K A)) (G_times : Go P w K mg base CX0 4 "times" ["room"] (sp_times K A)) (G_sheets_now : Go P w K mg base CX0 2 "sheets_now" ["room"] (sp_sheets_now K A)) (G_waits : Go P w K mg base CX0 4 "waits" ["empties", "sheets"] (sp_waits K A)) (G_least : Go P w K mg base CX0 5 "least" ["room"] (sp_least K A)) (G_best_from : Go P w K mg base CX0 6 "best_from" ["books", "empties"] (sp_best_from K A)) (G_left : Go P w K mg base CX0 5 "left" ["room"] (sp_left K A)) (G_each_next : Go P w K mg base CX0 5 "each_next" ["room"] (sp_each_next K A))
    (pure : ∀ (vs : List V) (H : Hp) (Q : VK) (E : XK), sp_of_order K A vs H Q E → t_of_order K A E { nx := fun _ H' => Q .non H', rt := Q } (start ["room", "what"] vs) H) : Go P w K mg base CX0 7 "of_order" ["room", "what"] (sp_of_order K A) := by
  refine F.go fun f fd F => ?_
  refine F.ok sc_of_order (fun vs H Q E h => by (unfold sp_of_order at h; exact len2 vs H Q E h)) (fun cdv Ar outer s H vs Q E hr h => ⟨t_of_order K A E, ?_, pure vs H Q E h⟩)
  have hu := hu_of hr
  exact (pss_cons (ps_if (pt_cmpR op_eq (pv 1) pe_int (nomark _)) (pss_one (ps_ret (pe_go G_told (hr.mono (by decide)) pass0 (pa_cons (pe_fld (pv 0) rfl) pa_nil)))) pss_nil)
      (pss_cons (ps_if (pt_cmpR op_eq (pv 1) pe_int (nomark _)) (pss_one (ps_ret (pe_go G_ends (hr.mono (by decide)) pass0 (pa_cons (pv 0) pa_nil)))) pss_nil)
      (pss_cons (ps_if (pt_cmpR op_eq (pv 1) pe_int (nomark _)) (pss_one (ps_ret (pe_go G_times (hr.mono (by decide)) pass0 (pa_cons (pv 0) pa_nil)))) pss_nil)
      (pss_cons (ps_if (pt_cmpR op_eq (pv 1) pe_int (nomark _)) (pss_one (ps_ret (pe_go G_told (hr.mono (by decide)) pass0 (pa_cons (pe_go G_waits (hr.mono (by decide)) pass0 (pa_cons (pe_fld (pv 0) rfl) (pa_cons (pe_go G_sheets_now (hr.mono (by decide)) pass0 (pa_cons (pv 0) pa_nil)) pa_nil))) pa_nil)))) pss_nil)
      (pss_cons (ps_if (pt_cmpR op_eq (pv 1) pe_int (nomark _)) (pss_one (ps_ret (pe_go G_least (hr.mono (by decide)) pass0 (pa_cons (pv 0) pa_nil)))) pss_nil)
      (pss_cons (ps_if (pt_cmpR op_eq (pv 1) pe_int (nomark _)) (pss_one (ps_ret (pe_go G_told (hr.mono (by decide)) pass0 (pa_cons (pe_go G_best_from (hr.mono (by decide)) pass0 (pa_cons (pe_fld (pv 0) rfl) (pa_cons (pe_fld (pv 0) rfl) pa_nil))) pa_nil)))) pss_nil)
      (pss_cons (ps_if (pt_cmpR op_eq (pv 1) pe_int (nomark _)) (pss_one (ps_ret (pe_go G_left (hr.mono (by decide)) pass0 (pa_cons (pv 0) pa_nil)))) pss_nil)
      (pss_one (ps_ret (pe_go G_each_next (hr.mono (by decide)) pass0 (pa_cons (pv 0) pa_nil)))))))))))

theorem go_of_room {P : Program} {w : World} {K : PySem.W.Frag} {mg : Str → Option Value} {base : Heap} {A : Ad} (T : Txt K mg A) (F : FunAt K mg "of_room" "of_room" "of_room" s_of_room ["room", "what", "some", "row"])
    (G_book : Go P w K mg base (L2.CX P w) 5 "book" ["room", "row"] (sp_book K A)) (G_empty : Go P w K mg base (L2.CX P w) 5 "empty" ["room", "desk", "row"] (sp_empty K A)) (G_order : Go P w K mg base (L2.CX P w) 5 "order" ["room", "row"] (sp_order K A)) (G_rule : Go P w K mg base (L2.CX P w) 8 "rule" ["room"] (sp_rule K A)) (G_block : Go P w K mg base (L2.CX P w) 7 "block" ["room", "number"] (sp_block K A)) (G_hanging : Go P w K mg base (L2.CX P w) 6 "hanging" ["room"] (sp_hanging K A)) (G_judged : Go P w K mg base (L2.CX P w) 6 "judged" ["slips", "row"] (sp_judged K A)) (G_more_told : Go P w K mg base (L2.CX P w) 6 "more_told" ["slips", "row"] (sp_more_told K A)) (G_blocks : Go P w K mg base (L2.CX P w) 6 "blocks" ["room", "row"] (sp_blocks K A)) (G_swap : Go P w K mg base (L2.CX P w) 5 "swap" ["room", "place"] (sp_swap K A)) (G_books : Go P w K mg base CX0 1 "books" ["room"] (sp_books K A)) (G_clear : Go P w K mg base CX0 2 "clear" ["room"] (sp_clear K A))
    (pure : ∀ (vs : List V) (H : Hp) (Q : VK) (E : XK), sp_of_room K A vs H Q E → t_of_room K A E { nx := fun _ H' => Q .non H', rt := Q } (start ["room", "what", "some", "row"] vs) H) : Go P w K mg base (L2.CX P w) 9 "of_room" ["room", "what", "some", "row"] (sp_of_room K A) := by
  refine F.go fun f fd F => ?_
  refine F.okX sc_of_room (fun vs H Q E h => by (unfold sp_of_room at h; exact len4 vs H Q E h)) (fun cdv Ar outer s H vs Q E hr h => ⟨t_of_room K A E, ?_, pure vs H Q E h⟩)
  have hu := hu_of hr
  exact (pss_cons (ps_if (pt_cmpR op_eq (pv 1) pe_int (nomark _)) (pss_one (ps_ret (pe_go G_book (hr.mono (by decide)) passX (pa_cons (pv 0) (pa_cons (pv 3) pa_nil))))) pss_nil)
      (pss_cons (ps_if (pt_cmpR op_eq (pv 1) pe_int (nomark _)) (pss_one (ps_ret (pe_go G_empty (hr.mono (by decide)) passX (pa_cons (pv 0) (pa_cons (pe_ix ix_seq (pv 2) pe_int (fun _ _ => rfl)) (pa_cons (pv 3) pa_nil)))))) pss_nil)
      (pss_cons (ps_if (pt_cmpR op_eq (pv 1) pe_int (nomark _)) (pss_one (ps_ret (pe_go G_order (hr.mono (by decide)) passX (pa_cons (pv 0) (pa_cons (pv 3) pa_nil))))) pss_nil)
      (pss_cons (ps_if (pt_cmpR op_eq (pv 1) pe_int (nomark _)) (pss_one (ps_ret (pe_go G_rule (hr.mono (by decide)) passX (pa_cons (pv 0) pa_nil)))) pss_nil)
      (pss_cons (ps_if (pt_cmpR op_eq (pv 1) pe_int (nomark _)) (pss_one (ps_ret (pe_go G_block (hr.mono (by decide)) passX (pa_cons (pv 0) (pa_cons (pe_ix ix_seq (pv 2) pe_int (fun _ _ => rfl)) pa_nil))))) pss_nil)
      (pss_cons (ps_if (pt_cmpR op_eq (pv 1) pe_int (nomark _)) (pss_one (ps_ret (pe_go G_hanging (hr.mono (by decide)) passX (pa_cons (pv 0) pa_nil)))) pss_nil)
      (pss_cons (ps_if (pt_cmpR op_eq (pv 1) pe_int (nomark _)) (pss_one (ps_ret (pe_go G_judged (hr.mono (by decide)) passX (pa_cons (pe_ix ix_seq (pv 2) pe_int (fun _ _ => rfl)) (pa_cons (pv 3) pa_nil))))) pss_nil)
      (pss_cons (ps_if (pt_cmpR op_eq (pv 1) pe_int (nomark _)) (pss_one (ps_ret (pe_go G_more_told (hr.mono (by decide)) passX (pa_cons (pe_ix ix_seq (pv 2) pe_int (fun _ _ => rfl)) (pa_cons (pv 3) pa_nil))))) pss_nil)
      (pss_cons (ps_if (pt_cmpR op_eq (pv 1) pe_int (nomark _)) (pss_one (ps_ret (pe_go G_blocks (hr.mono (by decide)) passX (pa_cons (pv 0) (pa_cons (pv 3) pa_nil))))) pss_nil)
      (pss_cons (ps_if (pt_cmpR op_eq (pv 1) pe_int (nomark _)) (pss_one (ps_ret (pe_go G_swap (hr.mono (by decide)) passX (pa_cons (pv 0) (pa_cons (pe_ix ix_seq (pv 2) pe_int (fun _ _ => rfl)) pa_nil))))) pss_nil)
      (pss_cons (ps_if (pt_cmpR op_eq (pv 1) pe_int (nomark _)) (pss_one (ps_ret (pe_go G_books (hr.mono (by decide)) pass0 (pa_cons (pv 0) pa_nil)))) pss_nil)
      (pss_one (ps_ret (pe_go G_clear (hr.mono (by decide)) pass0 (pa_cons (pv 0) pa_nil)))))))))))))))

theorem go_answered {P : Program} {w : World} {K : PySem.W.Frag} {mg : Str → Option Value} {base : Heap} {A : Ad} (T : Txt K mg A) (F : FunAt K mg "answered" "answered" "answered" s_answered ["room", "what", "some", "row"])
    (G_of_order : Go P w K mg base CX0 7 "of_order" ["room", "what"] (sp_of_order K A)) (G_of_room : Go P w K mg base (L2.CX P w) 9 "of_room" ["room", "what", "some", "row"] (sp_of_room K A))
    (pure : ∀ (vs : List V) (H : Hp) (Q : VK) (E : XK), sp_answered K A vs H Q E → t_answered K A E { nx := fun _ H' => Q .non H', rt := Q } (start ["room", "what", "some", "row", "e"] vs) H) : Go P w K mg base CX0 10 "answered" ["room", "what", "some", "row"] (sp_answered K A) := by
  refine F.go fun f fd F => ?_
  refine F.ok sc_answered (fun vs H Q E h => by (unfold sp_answered at h; exact len4 vs H Q E h)) (fun cdv Ar outer s H vs Q E hr h => ⟨t_answered K A E, ?_, pure vs H Q E h⟩)
  have hu := hu_of hr
  exact (pss_one (ps_try_as (i := 4) (tb := (fun W => (tSeq (tIfS (tTest (tChain oLe oLe (tC (.int 3)) (tVar 1) (tC (.int 10)))) (tRet (tCall (sp_of_order K A) [] E0 (tCons (tVar 0) (tCons (tVar 1) tNil)))) tNext)
  (tRet (tCallS (sp_of_room K A) (WE W) (tCons (tVar 0) (tCons (tVar 1) (tCons (tVar 2) (tCons (tVar 3) tNil))))))))) (ts := (fun a cls d => (tRet (tLst (tCons (tByRef A.refused a cls d (tVar 4)) tNil))))) (Wout := fun _ _ _ _ => False) rfl rfl sc_answered.nd rfl rfl ⟨rfl, by decide, Or.inl T.ref.gC⟩ takes0 (fun W pn xe tk _ => (pss_cons (ps_if (pt_chain op_le op_le pe_int (pv 1) pe_int) (pss_one (ps_ret (pe_go G_of_order (hr.mono (by decide)) pass0 (pa_cons (pv 0) (pa_cons (pv 1) pa_nil))))) pss_nil)
      (pss_one (ps_ret (pe_goS G_of_room (hr.mono (by decide)) (fun σ => passAt tk σ) (pa_cons (pv 0) (pa_cons (pv 1) (pa_cons (pv 2) (pa_cons (pv 3) pa_nil))))))))) (fun a oe cls d pn hz hf => (pss_one (ps_ret (pe_lst (pa_cons (pe_byRef T.ref hz hf (pv 4)) pa_nil)))))))

theorem go_row_at {P : Program} {w : World} {K : PySem.W.Frag} {mg : Str → Option Value} {base : Heap} {A : Ad} (T : Txt K mg A) (F : FunAt K mg "row_at" "row_at" "row_at" s_row_at ["calls", "what", "at"])
    
    (pure : ∀ (vs : List V) (H : Hp) (Q : VK) (E : XK), sp_row_at K A vs H Q E → t_row_at K A E { nx := fun _ H' => Q .non H', rt := Q } (start ["calls", "what", "at", "end"] vs) H) : Go P w K mg base CX0 1 "row_at" ["calls", "what", "at"] (sp_row_at K A) := by
  refine F.go fun f fd F => ?_
  refine F.ok sc_row_at (fun vs H Q E h => by (unfold sp_row_at at h; exact len3 vs H Q E h)) (fun cdv Ar outer s H vs Q E hr h => ⟨t_row_at K A E, ?_, pure vs H Q E h⟩)
  have hu := hu_of hr
  exact (pss_cons (ps_if (pt_cmpR op_notIn_seq (pv 1) (pe_glob rfl T.g_WITH_ROW rfl) (by rfl)) (pss_one (ps_ret (pe_tup (pa_cons (pe_lst pa_nil) (pa_cons (pv 2) pa_nil))))) pss_nil)
      (pss_cons (ps_set (i := 3) sc_row_at.nd rfl (Or.inl rfl) (pe_op op_add (pe_op op_add (pv 2) pe_int) (pe_ix ix_seq (pv 0) (pv 2) (fun _ _ => rfl))))
      (pss_one (ps_ret (pe_tup (pa_cons (pe_slice sl_list (pv 0) (po_some (pe_op op_add (pv 2) pe_int)) (po_some (pv 3))) (pa_cons (pv 3) pa_nil)))))))

theorem go_answers {P : Program} {w : World} {K : PySem.W.Frag} {mg : Str → Option Value} {base : Heap} {A : Ad} (T : Txt K mg A) {f : Addr} {fd : FuncData} (F : Fun K "answers" "answers" s_answers f fd)
    (G_Room_init : MkGo P w K mg base CX0 1 A.room ["self"] (sp_Room_init K A)) (G_row_at : Go P w K mg base CX0 1 "row_at" ["calls", "what", "at"] (sp_row_at K A)) (G_answered : Go P w K mg base CX0 10 "answered" ["room", "what", "some", "row"] (sp_answered K A))
    (pure : ∀ (vs : List V) (H : Hp) (Q : VK) (E : XK), sp_answers K A vs H Q E → t_answers K A E { nx := fun _ H' => Q .non H', rt := Q } (start ["calls", "room", "found", "at", "what", "end", "some", "row", "answer"] vs) H) : FnOk P w K mg base CX0 11 f fd ["calls"] (sp_answers K A) := by
  refine F.ok sc_answers (fun vs H Q E h => by (unfold sp_answers at h; exact len1 vs H Q E h)) (fun cdv Ar outer s H vs Q E hr h => ⟨t_answers K A E, ?_, pure vs H Q E h⟩)
  have hu := hu_of hr
  exact (pss_cons (ps_set (i := 1) sc_answers.nd rfl (Or.inl rfl) (pe_mkgo G_Room_init (hr.mono (by decide)) T.g_Room pass0))
      (pss_cons (ps_set (i := 2) sc_answers.nd rfl (Or.inl rfl) (pe_lst pa_nil))
      (pss_cons (ps_set (i := 3) sc_answers.nd rfl (Or.inl rfl) pe_int)
      (pss_cons (ps_while PassesOwn.never (pt_cmpR op_lt (pv 3) (pe_callB cr_len (by rfl) T.b_len bb_len (pa_cons (pv 0) pa_nil)) (nomark _)) (pss_cons (ps_set (i := 4) sc_answers.nd rfl (Or.inl rfl) (pe_ix ix_seq (pv 0) (pv 3) (fun _ _ => rfl)))
      (pss_cons (ps_set (i := 5) sc_answers.nd rfl (Or.inl rfl) (pe_op op_add (pe_op op_add (pv 3) pe_int) (pe_ix ix_seq (pe_glob rfl T.g_NUMBERS rfl) (pv 4) (fun _ _ => rfl))))
      (pss_cons (ps_set (i := 6) sc_answers.nd rfl (Or.inl rfl) (pe_slice sl_list (pv 0) (po_some (pe_op op_add (pv 3) pe_int)) (po_some (pv 5))))
      (pss_cons (ps_asg (pe_go G_row_at (hr.mono (by decide)) pass0 (pa_cons (pv 0) (pa_cons (pv 4) (pa_cons (pv 5) pa_nil)))) (pg_tup rfl (pgs_cons (pg_name (i := 7) sc_answers.nd rfl (Or.inl rfl)) (pgs_cons (pg_name (i := 3) sc_answers.nd rfl (Or.inl rfl)) pgs_nil))))
      (pss_cons (ps_set (i := 8) sc_answers.nd rfl (Or.inl rfl) (pe_go G_answered (hr.mono (by decide)) pass0 (pa_cons (pv 1) (pa_cons (pv 4) (pa_cons (pv 6) (pa_cons (pv 7) pa_nil))))))
      (pss_cons (ps_expr (pe_bm PySem.F.plainAttrs_list PySem.F.slot_list_append PySem.F.type_list_append mt_append (pv 2) (pa_cons (pe_callB cr_len (by rfl) T.b_len bb_len (pa_cons (pv 8) pa_nil)) pa_nil)))
      (pss_one (ps_expr (pe_bm PySem.F.plainAttrs_list PySem.F.slot_list_extend PySem.F.type_list_extend mt_extend (pv 2) (pa_cons (pv 8) pa_nil)))))))))))
      (pss_one (ps_ret (pv 2)))))))
end Td
set_option Elab.async false
set_option linter.all false
set_option maxRecDepth 100000
set_option maxHeartbeats 4000000
/-! Two desks: every def holds its promise (printed by gen_end.py). -/
namespace Td
open PySem PySem.Spec PyProof.Rows L2
open Vbceah (Sheet Book Breaks State Clock Reach)
open TdM (Bks Fit Iv Ok Far Good)
theorem b_finished {K : PySem.W.Frag} (f : Addr) (fd : FuncData) (F : Fun K "finished" "finished" s_finished f fd) : Binds K fd ["empty", "begun", "work"] [] := F.binds (ps := ["empty", "begun", "work"]) fun _ _ _ _ _ _ us hl => match us, hl with | [_, _, _], _ => rfl
theorem b_sheets_of {K : PySem.W.Frag} (f : Addr) (fd : FuncData) (F : Fun K "sheets_of" "sheets_of" s_sheets_of f fd) : Binds K fd ["books", "order"] [] := F.binds (ps := ["books", "order"]) fun _ _ _ _ _ _ us hl => match us, hl with | [_, _], _ => rfl
theorem b_step {K : PySem.W.Frag} (f : Addr) (fd : FuncData) (F : Fun K "step" "step" s_step f fd) : Binds K fd ["empties", "clocks", "sheet"] [] := F.binds (ps := ["empties", "clocks", "sheet"]) fun _ _ _ _ _ _ us hl => match us, hl with | [_, _, _], _ => rfl
theorem b_clocks_of {K : PySem.W.Frag} (f : Addr) (fd : FuncData) (F : Fun K "clocks_of" "clocks_of" s_clocks_of f fd) : Binds K fd ["empties", "sheets"] [] := F.binds (ps := ["empties", "sheets"]) fun _ _ _ _ _ _ us hl => match us, hl with | [_, _], _ => rfl
theorem b_behind {K : PySem.W.Frag} (f : Addr) (fd : FuncData) (F : Fun K "behind" "behind" s_behind f fd) : Binds K fd ["empties", "sheets"] [] := F.binds (ps := ["empties", "sheets"]) fun _ _ _ _ _ _ us hl => match us, hl with | [_, _], _ => rfl
theorem b_waits {K : PySem.W.Frag} (f : Addr) (fd : FuncData) (F : Fun K "waits" "waits" s_waits f fd) : Binds K fd ["empties", "sheets"] [] := F.binds (ps := ["empties", "sheets"]) fun _ _ _ _ _ _ us hl => match us, hl with | [_, _], _ => rfl
theorem b_three_numbers {K : PySem.W.Frag} (f : Addr) (fd : FuncData) (F : Fun K "three_numbers" "three_numbers" s_three_numbers f fd) : Binds K fd ["book"] [] := F.binds (ps := ["book"]) fun _ _ _ _ _ _ us hl => match us, hl with | [_], _ => rfl
theorem b_lead_and_tail {K : PySem.W.Frag} (f : Addr) (fd : FuncData) (F : Fun K "lead_and_tail" "lead_and_tail" s_lead_and_tail f fd) : Binds K fd ["book"] [] := F.binds (ps := ["book"]) fun _ _ _ _ _ _ us hl => match us, hl with | [_], _ => rfl
theorem b_by_rule {K : PySem.W.Frag} (f : Addr) (fd : FuncData) (F : Fun K "by_rule" "by_rule" s_by_rule f fd) : Binds K fd ["books"] [] := F.binds (ps := ["books"]) fun _ _ _ _ _ _ us hl => match us, hl with | [_], _ => rfl
theorem b_end_of {K : PySem.W.Frag} (f : Addr) (fd : FuncData) (F : Fun K "end_of" "end_of" s_end_of f fd) : Binds K fd ["books", "numbers"] [] := F.binds (ps := ["books", "numbers"]) fun _ _ _ _ _ _ us hl => match us, hl with | [_, _], _ => rfl
theorem b_critical {K : PySem.W.Frag} (f : Addr) (fd : FuncData) (F : Fun K "critical" "critical" s_critical f fd) : Binds K fd ["sheets"] [] := F.binds (ps := ["sheets"]) fun _ _ _ _ _ _ us hl => match us, hl with | [_], _ => rfl
theorem b_is_whole_searching {K : PySem.W.Frag} (f : Addr) (fd : FuncData) (F : Fun K "is_whole" "is_whole" s_is_whole_searching f fd) : Binds K fd ["books", "taken"] [] := F.binds (ps := ["books", "taken"]) fun _ _ _ _ _ _ us hl => match us, hl with | [_, _], _ => rfl
theorem b_more_of {K : PySem.W.Frag} (f : Addr) (fd : FuncData) (F : Fun K "more_of" "more_of" s_more_of f fd) : Binds K fd ["books", "taken"] [] := F.binds (ps := ["books", "taken"]) fun _ _ _ _ _ _ us hl => match us, hl with | [_, _], _ => rfl
theorem b_with_one {K : PySem.W.Frag} (f : Addr) (fd : FuncData) (F : Fun K "with_one" "with_one" s_with_one f fd) : Binds K fd ["taken", "book"] [] := F.binds (ps := ["taken", "book"]) fun _ _ _ _ _ _ us hl => match us, hl with | [_, _], _ => rfl
theorem b_round_of {K : PySem.W.Frag} (f : Addr) (fd : FuncData) (F : Fun K "round_of" "round_of" s_round_of f fd) : Binds K fd ["books", "empties", "known"] [] := F.binds (ps := ["books", "empties", "known"]) fun _ _ _ _ _ _ us hl => match us, hl with | [_, _, _], _ => rfl
theorem b_least_from {K : PySem.W.Frag} (f : Addr) (fd : FuncData) (F : Fun K "least_from" "least_from" s_least_from f fd) : Binds K fd ["books", "empties", "taken", "clocks"] [] := F.binds (ps := ["books", "empties", "taken", "clocks"]) fun _ _ _ _ _ _ us hl => match us, hl with | [_, _, _, _], _ => rfl
theorem b_best_from {K : PySem.W.Frag} (f : Addr) (fd : FuncData) (F : Fun K "best_from" "best_from" s_best_from f fd) : Binds K fd ["books", "empties"] [] := F.binds (ps := ["books", "empties"]) fun _ _ _ _ _ _ us hl => match us, hl with | [_, _], _ => rfl
theorem b_first_with {K : PySem.W.Frag} (f : Addr) (fd : FuncData) (F : Fun K "first_with" "first_with" s_first_with f fd) : Binds K fd ["books", "empties", "taken", "clocks", "least"] [] := F.binds (ps := ["books", "empties", "taken", "clocks", "least"]) fun _ _ _ _ _ _ us hl => match us, hl with | [_, _, _, _, _], _ => rfl
theorem b_how_many {K : PySem.W.Frag} (f : Addr) (fd : FuncData) (F : Fun K "how_many" "how_many" s_how_many f fd) : Binds K fd ["books"] [] := F.binds (ps := ["books"]) fun _ _ _ _ _ _ us hl => match us, hl with | [_], _ => rfl
theorem b_each_once {K : PySem.W.Frag} (f : Addr) (fd : FuncData) (F : Fun K "each_once" "each_once" s_each_once f fd) : Binds K fd ["some"] [] := F.binds (ps := ["some"]) fun _ _ _ _ _ _ us hl => match us, hl with | [_], _ => rfl
theorem b_judge {K : PySem.W.Frag} (f : Addr) (fd : FuncData) (F : Fun K "judge" "judge" s_judge f fd) : Binds K fd ["slips", "some"] [] := F.binds (ps := ["slips", "some"]) fun _ _ _ _ _ _ us hl => match us, hl with | [_, _], _ => rfl
theorem b_least_two {K : PySem.W.Frag} (f : Addr) (fd : FuncData) (F : Fun K "least_two" "least_two" s_least_two f fd) : Binds K fd ["some"] [] := F.binds (ps := ["some"]) fun _ _ _ _ _ _ us hl => match us, hl with | [_], _ => rfl
theorem b_more {K : PySem.W.Frag} (f : Addr) (fd : FuncData) (F : Fun K "more" "more" s_more f fd) : Binds K fd ["slips", "some"] [] := F.binds (ps := ["slips", "some"]) fun _ _ _ _ _ _ us hl => match us, hl with | [_, _], _ => rfl
theorem b_ask {K : PySem.W.Frag} (f : Addr) (fd : FuncData) (F : Fun K "ask" "ask" s_ask f fd) : Binds K fd ["good", "code"] [] := F.binds (ps := ["good", "code"]) fun _ _ _ _ _ _ us hl => match us, hl with | [_, _], _ => rfl
theorem b_Room_init {K : PySem.W.Frag} (f : Addr) (fd : FuncData) (F : Fun K "__init__" "Room.__init__" s_Room_init f fd) : Binds K fd ["self"] [] := F.binds (ps := ["self"]) fun _ _ _ _ _ _ us hl => match us, hl with | [_], _ => rfl
theorem b_Room_add_book {K : PySem.W.Frag} (f : Addr) (fd : FuncData) (F : Fun K "add_book" "Room.add_book" s_Room_add_book f fd) : Binds K fd ["self", "book"] [] := F.binds (ps := ["self", "book"]) fun _ _ _ _ _ _ us hl => match us, hl with | [_, _], _ => rfl
theorem b_Room_set_empty {K : PySem.W.Frag} (f : Addr) (fd : FuncData) (F : Fun K "set_empty" "Room.set_empty" s_Room_set_empty f fd) : Binds K fd ["self", "desk", "stretches"] [] := F.binds (ps := ["self", "desk", "stretches"]) fun _ _ _ _ _ _ us hl => match us, hl with | [_, _, _], _ => rfl
theorem b_Room_set_order {K : PySem.W.Frag} (f : Addr) (fd : FuncData) (F : Fun K "set_order" "Room.set_order" s_Room_set_order f fd) : Binds K fd ["self", "order"] [] := F.binds (ps := ["self", "order"]) fun _ _ _ _ _ _ us hl => match us, hl with | [_, _], _ => rfl
theorem b_Room_clear {K : PySem.W.Frag} (f : Addr) (fd : FuncData) (F : Fun K "clear" "Room.clear" s_Room_clear f fd) : Binds K fd ["self"] [] := F.binds (ps := ["self"]) fun _ _ _ _ _ _ us hl => match us, hl with | [_], _ => rfl
theorem b_ask_all {K : PySem.W.Frag} (f : Addr) (fd : FuncData) (F : Fun K "ask_all" "ask_all" s_ask_all f fd) : Binds K fd ["some", "low", "high"] [] := F.binds (ps := ["some", "low", "high"]) fun _ _ _ _ _ _ us hl => match us, hl with | [_, _, _], _ => rfl
theorem b_taken_by {K : PySem.W.Frag} (f : Addr) (fd : FuncData) (F : Fun K "taken_by" "taken_by" s_taken_by f fd) : Binds K fd ["room", "order"] [] := F.binds (ps := ["room", "order"]) fun _ _ _ _ _ _ us hl => match us, hl with | [_, _], _ => rfl
theorem b_twos {K : PySem.W.Frag} (f : Addr) (fd : FuncData) (F : Fun K "twos" "twos" s_twos f fd) : Binds K fd ["row"] [] := F.binds (ps := ["row"]) fun _ _ _ _ _ _ us hl => match us, hl with | [_], _ => rfl
theorem b_sheets_now {K : PySem.W.Frag} (f : Addr) (fd : FuncData) (F : Fun K "sheets_now" "sheets_now" s_sheets_now f fd) : Binds K fd ["room"] [] := F.binds (ps := ["room"]) fun _ _ _ _ _ _ us hl => match us, hl with | [_], _ => rfl
theorem b_is_whole_room {K : PySem.W.Frag} (f : Addr) (fd : FuncData) (F : Fun K "is_whole" "is_whole" s_is_whole_room f fd) : Binds K fd ["room"] [] := F.binds (ps := ["room"]) fun _ _ _ _ _ _ us hl => match us, hl with | [_], _ => rfl
theorem b_book {K : PySem.W.Frag} (f : Addr) (fd : FuncData) (F : Fun K "book" "book" s_book f fd) : Binds K fd ["room", "row"] [] := F.binds (ps := ["room", "row"]) fun _ _ _ _ _ _ us hl => match us, hl with | [_, _], _ => rfl
theorem b_empty {K : PySem.W.Frag} (f : Addr) (fd : FuncData) (F : Fun K "empty" "empty" s_empty f fd) : Binds K fd ["room", "desk", "row"] [] := F.binds (ps := ["room", "desk", "row"]) fun _ _ _ _ _ _ us hl => match us, hl with | [_, _, _], _ => rfl
theorem b_order {K : PySem.W.Frag} (f : Addr) (fd : FuncData) (F : Fun K "order" "order" s_order f fd) : Binds K fd ["room", "row"] [] := F.binds (ps := ["room", "row"]) fun _ _ _ _ _ _ us hl => match us, hl with | [_, _], _ => rfl
theorem b_ends {K : PySem.W.Frag} (f : Addr) (fd : FuncData) (F : Fun K "ends" "ends" s_ends f fd) : Binds K fd ["room"] [] := F.binds (ps := ["room"]) fun _ _ _ _ _ _ us hl => match us, hl with | [_], _ => rfl
theorem b_times {K : PySem.W.Frag} (f : Addr) (fd : FuncData) (F : Fun K "times" "times" s_times f fd) : Binds K fd ["room"] [] := F.binds (ps := ["room"]) fun _ _ _ _ _ _ us hl => match us, hl with | [_], _ => rfl
theorem b_told {K : PySem.W.Frag} (f : Addr) (fd : FuncData) (F : Fun K "told" "told" s_told f fd) : Binds K fd ["some"] [] := F.binds (ps := ["some"]) fun _ _ _ _ _ _ us hl => match us, hl with | [_], _ => rfl
theorem b_least {K : PySem.W.Frag} (f : Addr) (fd : FuncData) (F : Fun K "least" "least" s_least f fd) : Binds K fd ["room"] [] := F.binds (ps := ["room"]) fun _ _ _ _ _ _ us hl => match us, hl with | [_], _ => rfl
theorem b_left {K : PySem.W.Frag} (f : Addr) (fd : FuncData) (F : Fun K "left" "left" s_left f fd) : Binds K fd ["room"] [] := F.binds (ps := ["room"]) fun _ _ _ _ _ _ us hl => match us, hl with | [_], _ => rfl
theorem b_each_next {K : PySem.W.Frag} (f : Addr) (fd : FuncData) (F : Fun K "each_next" "each_next" s_each_next f fd) : Binds K fd ["room"] [] := F.binds (ps := ["room"]) fun _ _ _ _ _ _ us hl => match us, hl with | [_], _ => rfl
theorem b_ask_never_empty {K : PySem.W.Frag} (f : Addr) (fd : FuncData) (F : Fun K "ask_never_empty" "ask_never_empty" s_ask_never_empty f fd) : Binds K fd ["room"] [] := F.binds (ps := ["room"]) fun _ _ _ _ _ _ us hl => match us, hl with | [_], _ => rfl
theorem b_rule {K : PySem.W.Frag} (f : Addr) (fd : FuncData) (F : Fun K "rule" "rule" s_rule f fd) : Binds K fd ["room"] [] := F.binds (ps := ["room"]) fun _ _ _ _ _ _ us hl => match us, hl with | [_], _ => rfl
theorem b_block {K : PySem.W.Frag} (f : Addr) (fd : FuncData) (F : Fun K "block" "block" s_block f fd) : Binds K fd ["room", "number"] [] := F.binds (ps := ["room", "number"]) fun _ _ _ _ _ _ us hl => match us, hl with | [_, _], _ => rfl
theorem b_hanging {K : PySem.W.Frag} (f : Addr) (fd : FuncData) (F : Fun K "hanging" "hanging" s_hanging f fd) : Binds K fd ["room"] [] := F.binds (ps := ["room"]) fun _ _ _ _ _ _ us hl => match us, hl with | [_], _ => rfl
theorem b_ask_workings {K : PySem.W.Frag} (f : Addr) (fd : FuncData) (F : Fun K "ask_workings" "ask_workings" s_ask_workings f fd) : Binds K fd ["slips", "row"] [] := F.binds (ps := ["slips", "row"]) fun _ _ _ _ _ _ us hl => match us, hl with | [_, _], _ => rfl
theorem b_judged {K : PySem.W.Frag} (f : Addr) (fd : FuncData) (F : Fun K "judged" "judged" s_judged f fd) : Binds K fd ["slips", "row"] [] := F.binds (ps := ["slips", "row"]) fun _ _ _ _ _ _ us hl => match us, hl with | [_, _], _ => rfl
theorem b_more_told {K : PySem.W.Frag} (f : Addr) (fd : FuncData) (F : Fun K "more_told" "more_told" s_more_told f fd) : Binds K fd ["slips", "row"] [] := F.binds (ps := ["slips", "row"]) fun _ _ _ _ _ _ us hl => match us, hl with | [_, _], _ => rfl
theorem b_blocks {K : PySem.W.Frag} (f : Addr) (fd : FuncData) (F : Fun K "blocks" "blocks" s_blocks f fd) : Binds K fd ["room", "row"] [] := F.binds (ps := ["room", "row"]) fun _ _ _ _ _ _ us hl => match us, hl with | [_, _], _ => rfl
theorem b_swap {K : PySem.W.Frag} (f : Addr) (fd : FuncData) (F : Fun K "swap" "swap" s_swap f fd) : Binds K fd ["room", "place"] [] := F.binds (ps := ["room", "place"]) fun _ _ _ _ _ _ us hl => match us, hl with | [_, _], _ => rfl
theorem b_books {K : PySem.W.Frag} (f : Addr) (fd : FuncData) (F : Fun K "books" "books" s_books f fd) : Binds K fd ["room"] [] := F.binds (ps := ["room"]) fun _ _ _ _ _ _ us hl => match us, hl with | [_], _ => rfl
theorem b_clear {K : PySem.W.Frag} (f : Addr) (fd : FuncData) (F : Fun K "clear" "clear" s_clear f fd) : Binds K fd ["room"] [] := F.binds (ps := ["room"]) fun _ _ _ _ _ _ us hl => match us, hl with | [_], _ => rfl
theorem b_of_order {K : PySem.W.Frag} (f : Addr) (fd : FuncData) (F : Fun K "of_order" "of_order" s_of_order f fd) : Binds K fd ["room", "what"] [] := F.binds (ps := ["room", "what"]) fun _ _ _ _ _ _ us hl => match us, hl with | [_, _], _ => rfl
theorem b_of_room {K : PySem.W.Frag} (f : Addr) (fd : FuncData) (F : Fun K "of_room" "of_room" s_of_room f fd) : Binds K fd ["room", "what", "some", "row"] [] := F.binds (ps := ["room", "what", "some", "row"]) fun _ _ _ _ _ _ us hl => match us, hl with | [_, _, _, _], _ => rfl
theorem b_answered {K : PySem.W.Frag} (f : Addr) (fd : FuncData) (F : Fun K "answered" "answered" s_answered f fd) : Binds K fd ["room", "what", "some", "row"] [] := F.binds (ps := ["room", "what", "some", "row"]) fun _ _ _ _ _ _ us hl => match us, hl with | [_, _, _, _], _ => rfl
theorem b_row_at {K : PySem.W.Frag} (f : Addr) (fd : FuncData) (F : Fun K "row_at" "row_at" s_row_at f fd) : Binds K fd ["calls", "what", "at"] [] := F.binds (ps := ["calls", "what", "at"]) fun _ _ _ _ _ _ us hl => match us, hl with | [_, _, _], _ => rfl
theorem b_answers {K : PySem.W.Frag} (f : Addr) (fd : FuncData) (F : Fun K "answers" "answers" s_answers f fd) : Binds K fd ["calls"] [] := F.binds (ps := ["calls"]) fun _ _ _ _ _ _ us hl => match us, hl with | [_], _ => rfl
section
variable {K : PySem.W.Frag} {h : Heap} {mg : Str → Option Value}
theorem fun_at (X : K.In h) (G : h.Ns mainGlobals mg) {g x qual : Str} {st : Stmt} {ps : List Str} {f : Addr} {oc kV dc pm cd ct : Value} {od an : Option Addr} {sl : Array (Option Value)}
    (a : PySem.W.nsIn K mainGlobals g = some (some (.ref f))) (l : K.lookup f = some ⟨oc, od, .func (PySem.W.fnOf x qual (defArgs st) (defBody st) (defScope st) .none kV dc pm an cd ct), sl⟩) (c : PySem.W.codeIn K cd qual = true) (k : PySem.W.keepIn K (.ref f) = true)
    (b : ∀ (f : Addr) (fd : FuncData), Fun K x qual st f fd → Binds K fd ps []) : FunAt K mg g x qual st ps := ⟨f, _, PySem.W.mg_of X G a, fun_mk l c k, b _ _ (fun_mk l c k)⟩
theorem meth_at {C : Addr} {m qual : Str} {st : Stmt} {ps : List Str} {f : Addr} {oc kV dc pm cd ct : Value} {od an : Option Addr} {sl : Array (Option Value)}
    (a : PySem.W.findIn K (.ref C) m = some (some (.ref f))) (i : PySem.W.isFn K (.ref f) = true) (l : K.lookup f = some ⟨oc, od, .func (PySem.W.fnOf m qual (defArgs st) (defBody st) (defScope st) .none kV dc pm an cd ct), sl⟩) (c : PySem.W.codeIn K cd qual = true) (k : PySem.W.keepIn K (.ref f) = true)
    (b : ∀ (f : Addr) (fd : FuncData), Fun K m qual st f fd → Binds K fd ps []) : MethAt K C m qual st ps := ⟨f, _, ⟨a, i, k⟩, fun_mk l c k, b _ _ (fun_mk l c k)⟩
/-- how a class makes its objects -/
structure InitAt (K : PySem.W.Frag) (C : Addr) (qual : Str) (st : Stmt) (ps : List Str) : Prop where
  ex : ∃ (f : Addr) (fd : FuncData), Mk K C f ∧ Fun K "__init__" qual st f fd ∧ Binds K fd ps []
theorem init_at {C : Addr} {qual : Str} {st : Stmt} {ps : List Str} {f : Addr} {oc kV dc pm cd ct : Value} {od an : Option Addr} {sl : Array (Option Value)} (mk : PySem.W.makesIn K C = true) (kc : PySem.W.keepIn K (.ref C) = true)
    (a : PySem.W.findIn K (.ref C) "__init__" = some (some (.ref f))) (i : PySem.W.isFn K (.ref f) = true) (l : K.lookup f = some ⟨oc, od, .func (PySem.W.fnOf "__init__" qual (defArgs st) (defBody st) (defScope st) .none kV dc pm an cd ct), sl⟩) (c : PySem.W.codeIn K cd qual = true) (k : PySem.W.keepIn K (.ref f) = true)
    (b : ∀ (f : Addr) (fd : FuncData), Fun K "__init__" qual st f fd → Binds K fd ps []) : InitAt K C qual st ps := ⟨f, _, ⟨mk, a, i, kc⟩, fun_mk l c k, b _ _ (fun_mk l c k)⟩
/-- an error of the class at S is what «except S» names -/
theorem exm_self {S : Addr} (h1 : PySem.W.subIn K (.ref S) (.type "BaseException") = some true) (h2 : PySem.W.isClsIn K S = true) (h3 : PySem.W.typeIn K (.ref S) = some (.type "type")) (h4 : PySem.W.subIn K (.ref S) (.ref S) = some true) :
    PySem.W.exmOne K (.ref S) (.ref S) = some true := by
  have e1 : (PySem.W.subIn K (.ref S) (.type "BaseException") == some true) = true := by rw [h1] <;> rfl
  have e2 : ((PySem.W.clsIn K S).isSome && PySem.W.typeIn K (.ref S) == some (.type "type")) = true := by
    have h2' : (PySem.W.clsIn K S).isSome = true := h2
    rw [h2', h3] <;> rfl
  show (if (PySem.W.subIn K (.ref S) (.type "BaseException") == some true) = true then (if ((PySem.W.clsIn K S).isSome && PySem.W.typeIn K (.ref S) == some (.type "type")) = true then PySem.W.subIn K (.ref S) (.ref S) else none) else none) = some true
  rw [if_pos e1, if_pos e2]
  exact h4
/-! ### tuples that the top has laid -/
def intsOk : List Int → List Value → Bool
  | [], [] => true
  | n :: l, .int m _ :: r => decide (n = m) && intsOk l r
  | _, _ => false
theorem ints_vals : ∀ {l : List Int} {r : List Value}, intsOk l r = true → Vals (l.map V.int) r
  | [], [], _ => .nil
  | n :: l, .int m t :: r, h => by
    unfold intsOk at h
    rw [Bool.and_eq_true, decide_eq_true_eq] at h
    obtain ⟨rfl, h⟩ := h
    exact .cons ⟨t, rfl⟩ (ints_vals h)
theorem tup_ints {a : Addr} {o : Obj} {its : Array Value} {n : Nat} {l : List Int} (h1 : K.lookup a = some o) (h2 : o.cls = .type "tuple") (h3 : o.data = .seq its n) (h4 : its.size ≤ 1000) (h5 : intsOk l its.toList = true) : SqT K (fun _ => none) a (l.map V.int) :=
  .inr ⟨o, its, n, h1, h2, h3, line_le (by omega), ints_vals h5⟩
theorem tup_none {a : Addr} {o : Obj} {its : Array Value} {n : Nat} (h1 : K.lookup a = some o) (h2 : o.cls = .type "tuple") (h3 : o.data = .seq its n) (h4 : its.toList = []) : SqT K (fun _ => none) a [] :=
  .inr ⟨o, its, n, h1, h2, h3, line_le (by have : its.size = 0 := by rw [← Array.length_toList, h4]; rfl
                                           omega), by rw [h4]; exact .nil⟩
theorem tup_two {a p q : Addr} {o : Obj} {its : Array Value} {n : Nat} (h1 : K.lookup a = some o) (h2 : o.cls = .type "tuple") (h3 : o.data = .seq its n) (h4 : its.toList = [.ref p, .ref q]) : SqT K (fun _ => none) a [.ref p, .ref q] :=
  .inr ⟨o, its, n, h1, h2, h3, line_le (by have : its.size = 2 := by rw [← Array.length_toList, h4]; rfl
                                           omega), by rw [h4]; exact .cons rfl (.cons rfl .nil)⟩
end
/-- what the top has laid, by its single facts -/
theorem txt_mk {K : PySem.W.Frag} {h : Heap} {mg : Str → Option Value} {C Cr fI ne nu wr : Addr} (X : K.In h) (G : h.Ns mainGlobals mg)
    {nm q : Str} {N : Addr} {bs : List Value} {sn : List Str} {sub : List Value} {ab : Bool} {col : Option Bool} {dd : Option Addr} {m0 m1 m2 m3 m5 : Option Value} {od1 an1 : Option Addr} {sl1 : Array (Option Value)} {oc1 dc1 pm1 cd1 ct1 : Value}
    {t_NOT_YET t_SURE t_TOO_MANY t_RANGE t_FULL t_TOO_OFTEN t_NOTHING t_HAS_EMPTY t_MOST_BOOKS t_MOST_SHEETS t_MOST_TIME t_MOST_MOMENT t_MOST_STRETCHES t_MOST_SLIPS t_MOST_WORKINGS t_MOST_WORKED t_NONE_LEFT : Tok}
    (z0 : PySem.W.nsIn K mainGlobals "len" = some none)
    (z1 : PySem.W.nsIn K mainGlobals "sum" = some none)
    (z2 : PySem.W.nsIn K mainGlobals "max" = some none)
    (z3 : PySem.W.nsIn K mainGlobals "sorted" = some none)
    (z4 : PySem.W.nsIn K mainGlobals "int" = some none)
    (z5 : PySem.W.nsIn K mainGlobals "list" = some none)
    (z6 : PySem.W.nsIn K mainGlobals "tuple" = some none)
    (z7 : PySem.W.nsIn K mainGlobals "range" = some none)
    (z8 : PySem.W.nsIn K mainGlobals "enumerate" = some none)
    (z9 : PySem.W.nsIn K mainGlobals "zip" = some none)
    (n_NOT_YET : PySem.W.nsIn K mainGlobals "NOT_YET" = some (some (.int 0 t_NOT_YET)))
    (n_SURE : PySem.W.nsIn K mainGlobals "SURE" = some (some (.int 1 t_SURE)))
    (n_TOO_MANY : PySem.W.nsIn K mainGlobals "TOO_MANY" = some (some (.int 2 t_TOO_MANY)))
    (n_RANGE : PySem.W.nsIn K mainGlobals "RANGE" = some (some (.int (-1) t_RANGE)))
    (n_FULL : PySem.W.nsIn K mainGlobals "FULL" = some (some (.int (-3) t_FULL)))
    (n_TOO_OFTEN : PySem.W.nsIn K mainGlobals "TOO_OFTEN" = some (some (.int (-4) t_TOO_OFTEN)))
    (n_NOTHING : PySem.W.nsIn K mainGlobals "NOTHING" = some (some (.int (-5) t_NOTHING)))
    (n_HAS_EMPTY : PySem.W.nsIn K mainGlobals "HAS_EMPTY" = some (some (.int (-7) t_HAS_EMPTY)))
    (n_MOST_BOOKS : PySem.W.nsIn K mainGlobals "MOST_BOOKS" = some (some (.int 4 t_MOST_BOOKS)))
    (n_MOST_SHEETS : PySem.W.nsIn K mainGlobals "MOST_SHEETS" = some (some (.int 12 t_MOST_SHEETS)))
    (n_MOST_TIME : PySem.W.nsIn K mainGlobals "MOST_TIME" = some (some (.int 1000 t_MOST_TIME)))
    (n_MOST_MOMENT : PySem.W.nsIn K mainGlobals "MOST_MOMENT" = some (some (.int 100000 t_MOST_MOMENT)))
    (n_MOST_STRETCHES : PySem.W.nsIn K mainGlobals "MOST_STRETCHES" = some (some (.int 8 t_MOST_STRETCHES)))
    (n_MOST_SLIPS : PySem.W.nsIn K mainGlobals "MOST_SLIPS" = some (some (.int 10 t_MOST_SLIPS)))
    (n_MOST_WORKINGS : PySem.W.nsIn K mainGlobals "MOST_WORKINGS" = some (some (.int 30 t_MOST_WORKINGS)))
    (n_MOST_WORKED : PySem.W.nsIn K mainGlobals "MOST_WORKED" = some (some (.int 1000000000 t_MOST_WORKED)))
    (n_NONE_LEFT : PySem.W.nsIn K mainGlobals "NONE_LEFT" = some (some (.int (-1) t_NONE_LEFT)))
    (g1 : PySem.W.nsIn K mainGlobals "NEVER" = some (some (.ref ne))) (g2 : PySem.W.nsIn K mainGlobals "NUMBERS" = some (some (.ref nu))) (g3 : PySem.W.nsIn K mainGlobals "WITH_ROW" = some (some (.ref wr)))
    (kn : ∃ p q, SqT K (fun _ => none) ne [.ref p, .ref q] ∧ SqT K (fun _ => none) p [] ∧ SqT K (fun _ => none) q [])
    (kb : SqT K (fun _ => none) nu (([0, 1, 0, 0, 0, 0, 0, 0, 0, 0, 0, 0, 1, 0, 1, 1, 0, 1, 0, 0] : List Int).map V.int))
    (kw : SqT K (fun _ => none) wr (([0, 1, 2, 14, 15, 16] : List Int).map V.int))
    (gR : PySem.W.nsIn K mainGlobals "Room" = some (some (.ref C)))
    (pg : PySem.W.plainGet K C Str.empty = true) (hd : PySem.W.hasDictIn K C = true) (po : PySem.W.plainOver K C = true) (rsa : PySem.W.findIn K (.ref C) "__setattr__" = some (some (.builtin "object.__setattr__")))
    (nb1 : PySem.W.findIn K (.ref C) "books" = some none) (nb2 : PySem.W.findIn K (.ref C) "empties" = some none) (nb3 : PySem.W.findIn K (.ref C) "order" = some none)
    (aC : PySem.W.nsIn K mainGlobals "Refused" = some (some (.ref Cr)))
    (xL : K.lookup Cr = some (excClassObj nm q Cr N bs [.type "ValueError", .type "Exception", .type "BaseException", .type "object"] true sn sub ab col dd m0 m1 m2 m3 m5 "ValueError.__new__"))
    (sa : PySem.W.findIn K (.ref Cr) "__setattr__" = some (some (.builtin "object.__setattr__"))) (ga : PySem.W.findIn K (.ref Cr) "__getattribute__" = some (some (.builtin "BaseException.__getattribute__"))) (gg : PySem.W.findIn K (.ref Cr) "__getattr__" = some none) (nb : PySem.W.findIn K (.ref Cr) "code" = some none)
    (a1 : PySem.W.findIn K (.ref Cr) "__init__" = some (some (.ref fI))) (t1 : PySem.W.typeIn K (.ref fI) = some (.type "function"))
    (l1 : K.lookup fI = some ⟨oc1, od1, .func (PySem.W.fnOf "__init__" "Refused.__init__" (PySem.RefX.iA ⟨164, 17, 164, 21⟩ ⟨164, 23, 164, 27⟩) (PySem.RefX.iB ⟨165, 8, 165, 12⟩ ⟨165, 8, 165, 17⟩ ⟨165, 20, 165, 24⟩ ⟨165, 8, 165, 24⟩) PySem.RefX.iS .none .none dc1 pm1 an1 cd1 ct1), sl1⟩) (c1 : PySem.W.codeIn K cd1 "Refused.__init__" = true)
    (kC : PySem.W.keepIn K (.ref Cr) = true) (eC : PySem.W.subIn K (.ref Cr) (.type "BaseException") = some true) (tC : PySem.W.typeIn K (.ref Cr) = some (.type "type")) (hC : PySem.W.hasDictIn K Cr = true) (iC : PySem.W.isClsIn K Cr = true) (sC : PySem.W.subIn K (.ref Cr) (.ref Cr) = some true) :
    Txt K mg ⟨C, Cr, fI, ne, nu, wr⟩ :=
  have low : PySem.RefX.RefTxt K mg Cr fI :=
    { gC := PySem.W.mg_of X G aC, cls := ⟨nm, q, N, bs, _, sn, sub, ab, col, dd, m0, m1, m2, m3, m5, xL, by decide +kernel⟩, sa := sa, ga := ga, gg := gg, noN := nb, iC := a1, tC := t1, kC := kC, exC := eC, tyC := tC, hdC := hC, te := exm_self eC iC tC sC,
      fn := ⟨_, _, _, _, _, _, _, _, _, _, _, _, _, _, l1, c1⟩ }
  {
    b_len := PySem.W.mg_none_of X G z0
    b_sum := PySem.W.mg_none_of X G z1
    b_max := PySem.W.mg_none_of X G z2
    b_sorted := PySem.W.mg_none_of X G z3
    b_int := PySem.W.mg_none_of X G z4
    b_list := PySem.W.mg_none_of X G z5
    b_tuple := PySem.W.mg_none_of X G z6
    b_range := PySem.W.mg_none_of X G z7
    b_enumerate := PySem.W.mg_none_of X G z8
    b_zip := PySem.W.mg_none_of X G z9
    c_NOT_YET := ⟨_, PySem.W.mg_of X G n_NOT_YET⟩
    c_SURE := ⟨_, PySem.W.mg_of X G n_SURE⟩
    c_TOO_MANY := ⟨_, PySem.W.mg_of X G n_TOO_MANY⟩
    c_RANGE := ⟨_, PySem.W.mg_of X G n_RANGE⟩
    c_FULL := ⟨_, PySem.W.mg_of X G n_FULL⟩
    c_TOO_OFTEN := ⟨_, PySem.W.mg_of X G n_TOO_OFTEN⟩
    c_NOTHING := ⟨_, PySem.W.mg_of X G n_NOTHING⟩
    c_HAS_EMPTY := ⟨_, PySem.W.mg_of X G n_HAS_EMPTY⟩
    c_MOST_BOOKS := ⟨_, PySem.W.mg_of X G n_MOST_BOOKS⟩
    c_MOST_SHEETS := ⟨_, PySem.W.mg_of X G n_MOST_SHEETS⟩
    c_MOST_TIME := ⟨_, PySem.W.mg_of X G n_MOST_TIME⟩
    c_MOST_MOMENT := ⟨_, PySem.W.mg_of X G n_MOST_MOMENT⟩
    c_MOST_STRETCHES := ⟨_, PySem.W.mg_of X G n_MOST_STRETCHES⟩
    c_MOST_SLIPS := ⟨_, PySem.W.mg_of X G n_MOST_SLIPS⟩
    c_MOST_WORKINGS := ⟨_, PySem.W.mg_of X G n_MOST_WORKINGS⟩
    c_MOST_WORKED := ⟨_, PySem.W.mg_of X G n_MOST_WORKED⟩
    c_NONE_LEFT := ⟨_, PySem.W.mg_of X G n_NONE_LEFT⟩
    g_NEVER := PySem.W.mg_of X G g1
    g_NUMBERS := PySem.W.mg_of X G g2
    g_WITH_ROW := PySem.W.mg_of X G g3
    k_never := kn
    k_numbers := kb
    k_withrow := kw
    cl := ⟨pg, hd, po, rsa⟩
    n_books := nb1
    n_empties := nb2
    n_order := nb3
    g_Room := PySem.W.mg_of X G gR
    ref := low
    te := low.te }
/-- what the handed def promises -/
def spAll (K : PySem.W.Frag) : Sp := sp_answers K ⟨0, 0, 0, 0, 0, 0⟩
theorem all_mk {P : Program} {w : World} {K : PySem.W.Frag} {h : Heap} {mg : Str → Option Value} {fa f1 C Cr fI ne nu wr : Addr} {od1 an1 : Option Addr} {sl1 : Array (Option Value)} {oc1 kV1 dc1 pm1 cd1 ct1 : Value} (X : K.In h) (G : h.Ns mainGlobals mg) (hfa : mg "answers" = some (.ref fa)) (T : Txt K mg ⟨C, Cr, fI, ne, nu, wr⟩)
    (F_finished : FunAt K mg "finished" "finished" "finished" s_finished ["empty", "begun", "work"])
    (F_sheets_of : FunAt K mg "sheets_of" "sheets_of" "sheets_of" s_sheets_of ["books", "order"])
    (F_step : FunAt K mg "step" "step" "step" s_step ["empties", "clocks", "sheet"])
    (F_clocks_of : FunAt K mg "clocks_of" "clocks_of" "clocks_of" s_clocks_of ["empties", "sheets"])
    (F_behind : FunAt K mg "behind" "behind" "behind" s_behind ["empties", "sheets"])
    (F_waits : FunAt K mg "waits" "waits" "waits" s_waits ["empties", "sheets"])
    (F_three_numbers : FunAt K mg "three_numbers" "three_numbers" "three_numbers" s_three_numbers ["book"])
    (F_lead_and_tail : FunAt K mg "lead_and_tail" "lead_and_tail" "lead_and_tail" s_lead_and_tail ["book"])
    (F_by_rule : FunAt K mg "by_rule" "by_rule" "by_rule" s_by_rule ["books"])
    (F_end_of : FunAt K mg "end_of" "end_of" "end_of" s_end_of ["books", "numbers"])
    (F_critical : FunAt K mg "critical" "critical" "critical" s_critical ["sheets"])
    (F_is_whole_searching : FunAt K mg "is_whole_searching" "is_whole" "is_whole" s_is_whole_searching ["books", "taken"])
    (F_more_of : FunAt K mg "more_of" "more_of" "more_of" s_more_of ["books", "taken"])
    (F_with_one : FunAt K mg "with_one" "with_one" "with_one" s_with_one ["taken", "book"])
    (F_round_of : FunAt K mg "round_of" "round_of" "round_of" s_round_of ["books", "empties", "known"])
    (F_least_from : FunAt K mg "least_from" "least_from" "least_from" s_least_from ["books", "empties", "taken", "clocks"])
    (F_best_from : FunAt K mg "best_from" "best_from" "best_from" s_best_from ["books", "empties"])
    (F_first_with : FunAt K mg "first_with" "first_with" "first_with" s_first_with ["books", "empties", "taken", "clocks", "least"])
    (F_how_many : FunAt K mg "how_many" "how_many" "how_many" s_how_many ["books"])
    (F_each_once : FunAt K mg "each_once" "each_once" "each_once" s_each_once ["some"])
    (F_judge : FunAt K mg "judge" "judge" "judge" s_judge ["slips", "some"])
    (F_least_two : FunAt K mg "least_two" "least_two" "least_two" s_least_two ["some"])
    (F_more : FunAt K mg "more" "more" "more" s_more ["slips", "some"])
    (F_ask : FunAt K mg "ask" "ask" "ask" s_ask ["good", "code"])
    (F_ask_all : FunAt K mg "ask_all" "ask_all" "ask_all" s_ask_all ["some", "low", "high"])
    (F_taken_by : FunAt K mg "taken_by" "taken_by" "taken_by" s_taken_by ["room", "order"])
    (F_twos : FunAt K mg "twos" "twos" "twos" s_twos ["row"])
    (F_sheets_now : FunAt K mg "sheets_now" "sheets_now" "sheets_now" s_sheets_now ["room"])
    (F_is_whole_room : FunAt K mg "is_whole_room" "is_whole" "is_whole" s_is_whole_room ["room"])
    (F_book : FunAt K mg "book" "book" "book" s_book ["room", "row"])
    (F_empty : FunAt K mg "empty" "empty" "empty" s_empty ["room", "desk", "row"])
    (F_order : FunAt K mg "order" "order" "order" s_order ["room", "row"])
    (F_ends : FunAt K mg "ends" "ends" "ends" s_ends ["room"])
    (F_times : FunAt K mg "times" "times" "times" s_times ["room"])
    (F_told : FunAt K mg "told" "told" "told" s_told ["some"])
    (F_least : FunAt K mg "least" "least" "least" s_least ["room"])
    (F_left : FunAt K mg "left" "left" "left" s_left ["room"])
    (F_each_next : FunAt K mg "each_next" "each_next" "each_next" s_each_next ["room"])
    (F_ask_never_empty : FunAt K mg "ask_never_empty" "ask_never_empty" "ask_never_empty" s_ask_never_empty ["room"])
    (F_rule : FunAt K mg "rule" "rule" "rule" s_rule ["room"])
    (F_block : FunAt K mg "block" "block" "block" s_block ["room", "number"])
    (F_hanging : FunAt K mg "hanging" "hanging" "hanging" s_hanging ["room"])
    (F_ask_workings : FunAt K mg "ask_workings" "ask_workings" "ask_workings" s_ask_workings ["slips", "row"])
    (F_judged : FunAt K mg "judged" "judged" "judged" s_judged ["slips", "row"])
    (F_more_told : FunAt K mg "more_told" "more_told" "more_told" s_more_told ["slips", "row"])
    (F_blocks : FunAt K mg "blocks" "blocks" "blocks" s_blocks ["room", "row"])
    (F_swap : FunAt K mg "swap" "swap" "swap" s_swap ["room", "place"])
    (F_books : FunAt K mg "books" "books" "books" s_books ["room"])
    (F_clear : FunAt K mg "clear" "clear" "clear" s_clear ["room"])
    (F_of_order : FunAt K mg "of_order" "of_order" "of_order" s_of_order ["room", "what"])
    (F_of_room : FunAt K mg "of_room" "of_room" "of_room" s_of_room ["room", "what", "some", "row"])
    (F_answered : FunAt K mg "answered" "answered" "answered" s_answered ["room", "what", "some", "row"])
    (F_row_at : FunAt K mg "row_at" "row_at" "row_at" s_row_at ["calls", "what", "at"])
    (I_Room_init : InitAt K C "Room.__init__" s_Room_init ["self"])
    (F_Room_add_book : MethAt K C "add_book" "Room.add_book" s_Room_add_book ["self", "book"])
    (F_Room_set_empty : MethAt K C "set_empty" "Room.set_empty" s_Room_set_empty ["self", "desk", "stretches"])
    (F_Room_set_order : MethAt K C "set_order" "Room.set_order" s_Room_set_order ["self", "order"])
    (F_Room_clear : MethAt K C "clear" "Room.clear" s_Room_clear ["self"])
    (a1 : PySem.W.nsIn K mainGlobals "answers" = some (some (.ref f1))) (l1 : K.lookup f1 = some ⟨oc1, od1, .func (PySem.W.fnOf "answers" "answers" (defArgs s_answers) (defBody s_answers) (defScope s_answers) .none kV1 dc1 pm1 an1 cd1 ct1), sl1⟩) (c1 : PySem.W.codeIn K cd1 "answers" = true) (k1 : PySem.W.keepIn K (.ref f1) = true) :
    ∃ fd : FuncData, (∀ (s : Shared) (us : List Value), us.length = (["calls"] : List Str).length → BindsTo s fd ⟨us, []⟩ ((["calls"] : List Str).zip us)) ∧ ∀ base : Heap, K.In base → base.Ns mainGlobals mg → FnOk P w K mg base CX0 11 fa fd ["calls"] (spAll K) := by
  have e := hfa.symm.trans (PySem.W.mg_of X G a1)
  cases e
  refine ⟨PySem.W.fnOf "answers" "answers" (defArgs s_answers) (defBody s_answers) (defScope s_answers) .none kV1 dc1 pm1 an1 cd1 ct1, fun s us hu => match us, hu with | [_], _ => .of_eq rfl, fun base _ _ => ?_⟩
  have G_finished : Go P w K mg base CX0 1 "finished" ["empty", "begun", "work"] (sp_finished K ⟨C, Cr, fI, ne, nu, wr⟩) := go_finished T F_finished  (pure_finished)
  have G_sheets_of : Go P w K mg base CX0 1 "sheets_of" ["books", "order"] (sp_sheets_of K ⟨C, Cr, fI, ne, nu, wr⟩) := go_sheets_of T F_sheets_of  (pure_sheets_of)
  have G_step : Go P w K mg base CX0 2 "step" ["empties", "clocks", "sheet"] (sp_step K ⟨C, Cr, fI, ne, nu, wr⟩) := go_step T F_step G_finished (pure_step)
  have G_clocks_of : Go P w K mg base CX0 3 "clocks_of" ["empties", "sheets"] (sp_clocks_of K ⟨C, Cr, fI, ne, nu, wr⟩) := go_clocks_of T F_clocks_of G_step (pure_clocks_of)
  have G_behind : Go P w K mg base CX0 4 "behind" ["empties", "sheets"] (sp_behind K ⟨C, Cr, fI, ne, nu, wr⟩) := go_behind T F_behind G_clocks_of (pure_behind)
  have G_waits : Go P w K mg base CX0 4 "waits" ["empties", "sheets"] (sp_waits K ⟨C, Cr, fI, ne, nu, wr⟩) := go_waits T F_waits G_clocks_of (pure_waits)
  have G_three_numbers : Go P w K mg base CX0 5 "three_numbers" ["book"] (sp_three_numbers K ⟨C, Cr, fI, ne, nu, wr⟩) := go_three_numbers T F_three_numbers G_behind (pure_three_numbers T)
  have G_lead_and_tail : Go P w K mg base CX0 6 "lead_and_tail" ["book"] (sp_lead_and_tail K ⟨C, Cr, fI, ne, nu, wr⟩) := go_lead_and_tail T F_lead_and_tail G_three_numbers (pure_lead_and_tail)
  have G_by_rule : Go P w K mg base CX0 7 "by_rule" ["books"] (sp_by_rule K ⟨C, Cr, fI, ne, nu, wr⟩) := go_by_rule T F_by_rule G_lead_and_tail (pure_by_rule)
  have G_end_of : Go P w K mg base CX0 5 "end_of" ["books", "numbers"] (sp_end_of K ⟨C, Cr, fI, ne, nu, wr⟩) := go_end_of T F_end_of G_behind (pure_end_of T)
  have G_critical : Go P w K mg base CX0 5 "critical" ["sheets"] (sp_critical K ⟨C, Cr, fI, ne, nu, wr⟩) := go_critical T F_critical G_behind (pure_critical T)
  have G_is_whole_searching : Go P w K mg base CX0 1 "is_whole_searching" ["books", "taken"] (sp_is_whole_searching K ⟨C, Cr, fI, ne, nu, wr⟩) := go_is_whole_searching T F_is_whole_searching  (pure_is_whole_searching)
  have G_more_of : Go P w K mg base CX0 1 "more_of" ["books", "taken"] (sp_more_of K ⟨C, Cr, fI, ne, nu, wr⟩) := go_more_of T F_more_of  (pure_more_of)
  have G_with_one : Go P w K mg base CX0 1 "with_one" ["taken", "book"] (sp_with_one K ⟨C, Cr, fI, ne, nu, wr⟩) := go_with_one T F_with_one  (pure_with_one)
  have G_round_of : Go P w K mg base CX0 3 "round_of" ["books", "empties", "known"] (sp_round_of K ⟨C, Cr, fI, ne, nu, wr⟩) := go_round_of T F_round_of G_more_of G_step G_with_one (pure_round_of)
  have G_least_from : Go P w K mg base CX0 4 "least_from" ["books", "empties", "taken", "clocks"] (sp_least_from K ⟨C, Cr, fI, ne, nu, wr⟩) := go_least_from T F_least_from G_is_whole_searching G_round_of (pure_least_from)
  have G_first_with : Go P w K mg base CX0 5 "first_with" ["books", "empties", "taken", "clocks", "least"] (sp_first_with K ⟨C, Cr, fI, ne, nu, wr⟩) := go_first_with T F_first_with G_more_of G_step G_with_one G_least_from (pure_first_with)
  have G_how_many : Go P w K mg base CX0 1 "how_many" ["books"] (sp_how_many K ⟨C, Cr, fI, ne, nu, wr⟩) := go_how_many T F_how_many  (pure_how_many)
  have G_each_once : Go P w K mg base CX0 1 "each_once" ["some"] (sp_each_once K ⟨C, Cr, fI, ne, nu, wr⟩) := go_each_once T F_each_once  (pure_each_once)
  have G_judge : Go P w K mg base CX0 2 "judge" ["slips", "some"] (sp_judge K ⟨C, Cr, fI, ne, nu, wr⟩) := go_judge T F_judge G_each_once (pure_judge)
  have G_least_two : Go P w K mg base CX0 2 "least_two" ["some"] (sp_least_two K ⟨C, Cr, fI, ne, nu, wr⟩) := go_least_two T F_least_two G_each_once (pure_least_two)
  have G_more : Go P w K mg base CX0 3 "more" ["slips", "some"] (sp_more K ⟨C, Cr, fI, ne, nu, wr⟩) := go_more T F_more G_least_two (pure_more)
  have G_ask : Go P w K mg base (L2.CX P w) 3 "ask" ["good", "code"] (sp_ask K ⟨C, Cr, fI, ne, nu, wr⟩) := go_ask T F_ask  (pure_ask)
  obtain ⟨fi, fdi, mk, Fi, bi⟩ := I_Room_init.ex
  have G_Room_init : MkGo P w K mg base CX0 1 C ["self"] (sp_Room_init K ⟨C, Cr, fI, ne, nu, wr⟩) := ⟨fi, fdi, mk, bi, go_Room_init T Fi (pure_Room_init T)⟩
  have G_Room_add_book : MethGo P w K mg base CX0 1 C "add_book" ["self", "book"] (sp_Room_add_book K ⟨C, Cr, fI, ne, nu, wr⟩) := go_Room_add_book T F_Room_add_book  (pure_Room_add_book T)
  have G_Room_set_empty : MethGo P w K mg base CX0 1 C "set_empty" ["self", "desk", "stretches"] (sp_Room_set_empty K ⟨C, Cr, fI, ne, nu, wr⟩) := go_Room_set_empty T F_Room_set_empty  (pure_Room_set_empty T)
  have G_Room_set_order : MethGo P w K mg base CX0 1 C "set_order" ["self", "order"] (sp_Room_set_order K ⟨C, Cr, fI, ne, nu, wr⟩) := go_Room_set_order T F_Room_set_order  (pure_Room_set_order T)
  have G_Room_clear : MethGo P w K mg base CX0 1 C "clear" ["self"] (sp_Room_clear K ⟨C, Cr, fI, ne, nu, wr⟩) := go_Room_clear T F_Room_clear  (pure_Room_clear T)
  have G_ask_all : Go P w K mg base (L2.CX P w) 4 "ask_all" ["some", "low", "high"] (sp_ask_all K ⟨C, Cr, fI, ne, nu, wr⟩) := go_ask_all T F_ask_all G_ask (pure_ask_all)
  have G_taken_by : Go P w K mg base CX0 1 "taken_by" ["room", "order"] (sp_taken_by K ⟨C, Cr, fI, ne, nu, wr⟩) := go_taken_by T F_taken_by  (pure_taken_by T)
  have G_twos : Go P w K mg base CX0 1 "twos" ["row"] (sp_twos K ⟨C, Cr, fI, ne, nu, wr⟩) := go_twos T F_twos  (pure_twos)
  have G_sheets_now : Go P w K mg base CX0 2 "sheets_now" ["room"] (sp_sheets_now K ⟨C, Cr, fI, ne, nu, wr⟩) := go_sheets_now T F_sheets_now G_sheets_of (pure_sheets_now T)
  have G_is_whole_room : Go P w K mg base CX0 1 "is_whole_room" ["room"] (sp_is_whole_room K ⟨C, Cr, fI, ne, nu, wr⟩) := go_is_whole_room T F_is_whole_room  (pure_is_whole_room T)
  have G_book : Go P w K mg base (L2.CX P w) 5 "book" ["room", "row"] (sp_book K ⟨C, Cr, fI, ne, nu, wr⟩) := go_book T F_book G_ask G_ask_all G_twos G_Room_add_book (pure_book T)
  have G_empty : Go P w K mg base (L2.CX P w) 5 "empty" ["room", "desk", "row"] (sp_empty K ⟨C, Cr, fI, ne, nu, wr⟩) := go_empty T F_empty G_ask_all G_ask G_twos G_Room_set_empty (pure_empty T)
  have G_order : Go P w K mg base (L2.CX P w) 5 "order" ["room", "row"] (sp_order K ⟨C, Cr, fI, ne, nu, wr⟩) := go_order T F_order G_ask G_ask_all G_taken_by G_Room_set_order G_is_whole_room (pure_order T)
  have G_ends : Go P w K mg base CX0 5 "ends" ["room"] (sp_ends K ⟨C, Cr, fI, ne, nu, wr⟩) := go_ends T F_ends G_sheets_now G_behind G_is_whole_room (pure_ends T)
  have G_times : Go P w K mg base CX0 4 "times" ["room"] (sp_times K ⟨C, Cr, fI, ne, nu, wr⟩) := go_times T F_times G_sheets_now G_clocks_of (pure_times T)
  have G_told : Go P w K mg base CX0 1 "told" ["some"] (sp_told K ⟨C, Cr, fI, ne, nu, wr⟩) := go_told T F_told  (pure_told)
  have G_least : Go P w K mg base CX0 5 "least" ["room"] (sp_least K ⟨C, Cr, fI, ne, nu, wr⟩) := go_least T F_least G_how_many G_least_from (pure_least T)
  have G_left : Go P w K mg base CX0 5 "left" ["room"] (sp_left K ⟨C, Cr, fI, ne, nu, wr⟩) := go_left T F_left G_sheets_now G_behind G_taken_by G_least_from (pure_left T)
  have G_each_next : Go P w K mg base CX0 5 "each_next" ["room"] (sp_each_next K ⟨C, Cr, fI, ne, nu, wr⟩) := go_each_next T F_each_next G_taken_by G_sheets_of G_behind G_with_one G_least_from (pure_each_next T)
  have G_ask_never_empty : Go P w K mg base (L2.CX P w) 4 "ask_never_empty" ["room"] (sp_ask_never_empty K ⟨C, Cr, fI, ne, nu, wr⟩) := go_ask_never_empty T F_ask_never_empty G_ask (pure_ask_never_empty T)
  have G_rule : Go P w K mg base (L2.CX P w) 8 "rule" ["room"] (sp_rule K ⟨C, Cr, fI, ne, nu, wr⟩) := go_rule T F_rule G_ask_never_empty G_by_rule G_told G_end_of (pure_rule T)
  have G_block : Go P w K mg base (L2.CX P w) 7 "block" ["room", "number"] (sp_block K ⟨C, Cr, fI, ne, nu, wr⟩) := go_block T F_block G_ask_all G_three_numbers G_lead_and_tail (pure_block T)
  have G_hanging : Go P w K mg base (L2.CX P w) 6 "hanging" ["room"] (sp_hanging K ⟨C, Cr, fI, ne, nu, wr⟩) := go_hanging T F_hanging G_ask_never_empty G_ask G_sheets_now G_critical (pure_hanging T)
  have G_ask_workings : Go P w K mg base (L2.CX P w) 5 "ask_workings" ["slips", "row"] (sp_ask_workings K ⟨C, Cr, fI, ne, nu, wr⟩) := go_ask_workings T F_ask_workings G_ask_all G_ask (pure_ask_workings)
  have G_judged : Go P w K mg base (L2.CX P w) 6 "judged" ["slips", "row"] (sp_judged K ⟨C, Cr, fI, ne, nu, wr⟩) := go_judged T F_judged G_ask_workings G_judge (pure_judged)
  have G_more_told : Go P w K mg base (L2.CX P w) 6 "more_told" ["slips", "row"] (sp_more_told K ⟨C, Cr, fI, ne, nu, wr⟩) := go_more_told T F_more_told G_ask_workings G_more (pure_more_told)
  have G_blocks : Go P w K mg base (L2.CX P w) 6 "blocks" ["room", "row"] (sp_blocks K ⟨C, Cr, fI, ne, nu, wr⟩) := go_blocks T F_blocks G_ask_all G_ask G_ask_never_empty G_end_of (pure_blocks T)
  have G_swap : Go P w K mg base (L2.CX P w) 5 "swap" ["room", "place"] (sp_swap K ⟨C, Cr, fI, ne, nu, wr⟩) := go_swap T F_swap G_ask_all G_sheets_of G_behind (pure_swap T)
  have G_books : Go P w K mg base CX0 1 "books" ["room"] (sp_books K ⟨C, Cr, fI, ne, nu, wr⟩) := go_books T F_books  (pure_books T)
  have G_clear : Go P w K mg base CX0 2 "clear" ["room"] (sp_clear K ⟨C, Cr, fI, ne, nu, wr⟩) := go_clear T F_clear G_Room_clear (pure_clear T)
  have G_of_room : Go P w K mg base (L2.CX P w) 9 "of_room" ["room", "what", "some", "row"] (sp_of_room K ⟨C, Cr, fI, ne, nu, wr⟩) := go_of_room T F_of_room G_book G_empty G_order G_rule G_block G_hanging G_judged G_more_told G_blocks G_swap G_books G_clear (pure_of_room T)
  have G_row_at : Go P w K mg base CX0 1 "row_at" ["calls", "what", "at"] (sp_row_at K ⟨C, Cr, fI, ne, nu, wr⟩) := go_row_at T F_row_at  (pure_row_at T)
  have G_best_from : Go P w K mg base CX0 6 "best_from" ["books", "empties"] (sp_best_from K ⟨C, Cr, fI, ne, nu, wr⟩) := go_best_from T F_best_from G_least_from G_is_whole_searching G_first_with G_step G_with_one (pure_best_from)
  have G_of_order : Go P w K mg base CX0 7 "of_order" ["room", "what"] (sp_of_order K ⟨C, Cr, fI, ne, nu, wr⟩) := go_of_order T F_of_order G_told G_ends G_times G_sheets_now G_waits G_least G_best_from G_left G_each_next (pure_of_order T)
  have G_answered : Go P w K mg base CX0 10 "answered" ["room", "what", "some", "row"] (sp_answered K ⟨C, Cr, fI, ne, nu, wr⟩) := go_answered T F_answered G_of_order G_of_room (pure_answered T)
  exact go_answers T (fun_mk l1 c1 k1) G_Room_init G_row_at G_answered (pure_answers T)
end Td
set_option Elab.async false
set_option linter.all false
set_option pp.maxSteps 300
set_option pp.deepTerms false
/-! Two desks: the head, the facts, the end (printed by gen_end.py). -/
open PySem PySem.W PyProof.Rows
set_option maxRecDepth 100000 in
set_option maxHeartbeats 8000000 in
theorem PySem.Challenge.cw_twodesks_s01_answers_holds : PySem.Challenge.rw_twodesks_s01_answers.Holds := by
  w_on; k_headS; (case hw => exact ⟨[.list [.int 3]], by decide +kernel, by decide +kernel⟩)
  k_fillS
  refine L2.walk_specK (r := PySem.Challenge.rw_twodesks_s01_answers) (k := 11) (CX := L2.CX0) (ps := ["calls"]) (sp := Td.spAll) (by decide +kernel) rfl rfl ⟨rfl, by decide, by decide⟩ (fun w h Y => PySem.W.kIn_of Y) ?F ?S (fun _ _ _ _ z => z)
  case F =>
    intro w mg fa h Y KX G hmg
    refine' Td.all_mk KX G hmg (Td.txt_mk KX G ?z0 ?z1 ?z2 ?z3 ?z4 ?z5 ?z6 ?z7 ?z8 ?z9 ?nNOT_YET ?nSURE ?nTOO_MANY ?nRANGE ?nFULL ?nTOO_OFTEN ?nNOTHING ?nHAS_EMPTY ?nMOST_BOOKS ?nMOST_SHEETS ?nMOST_TIME ?nMOST_MOMENT ?nMOST_STRETCHES ?nMOST_SLIPS ?nMOST_WORKINGS ?nMOST_WORKED ?nNONE_LEFT ?gne ?gnu ?gwr ⟨_, _, Td.tup_two ?kna ?knb ?knc ?knd, Td.tup_none ?kpa ?kpb ?kpc ?kpd, Td.tup_none ?kqa ?kqb ?kqc ?kqd⟩ (Td.tup_ints ?kba ?kbb ?kbc ?kbd ?kbe) (Td.tup_ints ?kwa ?kwb ?kwc ?kwd ?kwe) ?gR ?pg ?hd ?po ?rsa ?nb1 ?nb2 ?nb3 ?aC ?xL ?sa ?ga ?gg ?nb ?ra1 ?rt1 ?rl1 ?rc1 ?kC ?eC ?tC ?hC ?iC ?sC)
      (Td.fun_at KX G ?a_finished ?l_finished ?c_finished ?k_finished Td.b_finished)
      (Td.fun_at KX G ?a_sheets_of ?l_sheets_of ?c_sheets_of ?k_sheets_of Td.b_sheets_of)
      (Td.fun_at KX G ?a_step ?l_step ?c_step ?k_step Td.b_step)
      (Td.fun_at KX G ?a_clocks_of ?l_clocks_of ?c_clocks_of ?k_clocks_of Td.b_clocks_of)
      (Td.fun_at KX G ?a_behind ?l_behind ?c_behind ?k_behind Td.b_behind)
      (Td.fun_at KX G ?a_waits ?l_waits ?c_waits ?k_waits Td.b_waits)
      (Td.fun_at KX G ?a_three_numbers ?l_three_numbers ?c_three_numbers ?k_three_numbers Td.b_three_numbers)
      (Td.fun_at KX G ?a_lead_and_tail ?l_lead_and_tail ?c_lead_and_tail ?k_lead_and_tail Td.b_lead_and_tail)
      (Td.fun_at KX G ?a_by_rule ?l_by_rule ?c_by_rule ?k_by_rule Td.b_by_rule)
      (Td.fun_at KX G ?a_end_of ?l_end_of ?c_end_of ?k_end_of Td.b_end_of)
      (Td.fun_at KX G ?a_critical ?l_critical ?c_critical ?k_critical Td.b_critical)
      (Td.fun_at KX G ?a_is_whole_searching ?l_is_whole_searching ?c_is_whole_searching ?k_is_whole_searching Td.b_is_whole_searching)
      (Td.fun_at KX G ?a_more_of ?l_more_of ?c_more_of ?k_more_of Td.b_more_of)
      (Td.fun_at KX G ?a_with_one ?l_with_one ?c_with_one ?k_with_one Td.b_with_one)
      (Td.fun_at KX G ?a_round_of ?l_round_of ?c_round_of ?k_round_of Td.b_round_of)
      (Td.fun_at KX G ?a_least_from ?l_least_from ?c_least_from ?k_least_from Td.b_least_from)
      (Td.fun_at KX G ?a_best_from ?l_best_from ?c_best_from ?k_best_from Td.b_best_from)
      (Td.fun_at KX G ?a_first_with ?l_first_with ?c_first_with ?k_first_with Td.b_first_with)
      (Td.fun_at KX G ?a_how_many ?l_how_many ?c_how_many ?k_how_many Td.b_how_many)
      (Td.fun_at KX G ?a_each_once ?l_each_once ?c_each_once ?k_each_once Td.b_each_once)
      (Td.fun_at KX G ?a_judge ?l_judge ?c_judge ?k_judge Td.b_judge)
      (Td.fun_at KX G ?a_least_two ?l_least_two ?c_least_two ?k_least_two Td.b_least_two)
      (Td.fun_at KX G ?a_more ?l_more ?c_more ?k_more Td.b_more)
      (Td.fun_at KX G ?a_ask ?l_ask ?c_ask ?k_ask Td.b_ask)
      (Td.fun_at KX G ?a_ask_all ?l_ask_all ?c_ask_all ?k_ask_all Td.b_ask_all)
      (Td.fun_at KX G ?a_taken_by ?l_taken_by ?c_taken_by ?k_taken_by Td.b_taken_by)
      (Td.fun_at KX G ?a_twos ?l_twos ?c_twos ?k_twos Td.b_twos)
      (Td.fun_at KX G ?a_sheets_now ?l_sheets_now ?c_sheets_now ?k_sheets_now Td.b_sheets_now)
      (Td.fun_at KX G ?a_is_whole_room ?l_is_whole_room ?c_is_whole_room ?k_is_whole_room Td.b_is_whole_room)
      (Td.fun_at KX G ?a_book ?l_book ?c_book ?k_book Td.b_book)
      (Td.fun_at KX G ?a_empty ?l_empty ?c_empty ?k_empty Td.b_empty)
      (Td.fun_at KX G ?a_order ?l_order ?c_order ?k_order Td.b_order)
      (Td.fun_at KX G ?a_ends ?l_ends ?c_ends ?k_ends Td.b_ends)
      (Td.fun_at KX G ?a_times ?l_times ?c_times ?k_times Td.b_times)
      (Td.fun_at KX G ?a_told ?l_told ?c_told ?k_told Td.b_told)
      (Td.fun_at KX G ?a_least ?l_least ?c_least ?k_least Td.b_least)
      (Td.fun_at KX G ?a_left ?l_left ?c_left ?k_left Td.b_left)
      (Td.fun_at KX G ?a_each_next ?l_each_next ?c_each_next ?k_each_next Td.b_each_next)
      (Td.fun_at KX G ?a_ask_never_empty ?l_ask_never_empty ?c_ask_never_empty ?k_ask_never_empty Td.b_ask_never_empty)
      (Td.fun_at KX G ?a_rule ?l_rule ?c_rule ?k_rule Td.b_rule)
      (Td.fun_at KX G ?a_block ?l_block ?c_block ?k_block Td.b_block)
      (Td.fun_at KX G ?a_hanging ?l_hanging ?c_hanging ?k_hanging Td.b_hanging)
      (Td.fun_at KX G ?a_ask_workings ?l_ask_workings ?c_ask_workings ?k_ask_workings Td.b_ask_workings)
      (Td.fun_at KX G ?a_judged ?l_judged ?c_judged ?k_judged Td.b_judged)
      (Td.fun_at KX G ?a_more_told ?l_more_told ?c_more_told ?k_more_told Td.b_more_told)
      (Td.fun_at KX G ?a_blocks ?l_blocks ?c_blocks ?k_blocks Td.b_blocks)
      (Td.fun_at KX G ?a_swap ?l_swap ?c_swap ?k_swap Td.b_swap)
      (Td.fun_at KX G ?a_books ?l_books ?c_books ?k_books Td.b_books)
      (Td.fun_at KX G ?a_clear ?l_clear ?c_clear ?k_clear Td.b_clear)
      (Td.fun_at KX G ?a_of_order ?l_of_order ?c_of_order ?k_of_order Td.b_of_order)
      (Td.fun_at KX G ?a_of_room ?l_of_room ?c_of_room ?k_of_room Td.b_of_room)
      (Td.fun_at KX G ?a_answered ?l_answered ?c_answered ?k_answered Td.b_answered)
      (Td.fun_at KX G ?a_row_at ?l_row_at ?c_row_at ?k_row_at Td.b_row_at)
      (Td.init_at ?imk ?ikc ?ia ?ii ?il ?ic ?ik Td.b_Room_init)
      (Td.meth_at ?a_Room_add_book ?i_Room_add_book ?l_Room_add_book ?c_Room_add_book ?k_Room_add_book Td.b_Room_add_book)
      (Td.meth_at ?a_Room_set_empty ?i_Room_set_empty ?l_Room_set_empty ?c_Room_set_empty ?k_Room_set_empty Td.b_Room_set_empty)
      (Td.meth_at ?a_Room_set_order ?i_Room_set_order ?l_Room_set_order ?c_Room_set_order ?k_Room_set_order Td.b_Room_set_order)
      (Td.meth_at ?a_Room_clear ?i_Room_clear ?l_Room_clear ?c_Room_clear ?k_Room_clear Td.b_Room_clear)
      ?a_answers ?l_answers ?c_answers ?k_answers
    (case z0 => k_is); (case z1 => k_is); (case z2 => k_is); (case z3 => k_is); (case z4 => k_is)
    (case z5 => k_is); (case z6 => k_is); (case z7 => k_is); (case z8 => k_is); (case z9 => k_is)
    (case nNOT_YET => k_is); (case nSURE => k_is); (case nTOO_MANY => k_is); (case nRANGE => k_is); (case nFULL => k_is)
    (case nTOO_OFTEN => k_is); (case nNOTHING => k_is); (case nHAS_EMPTY => k_is); (case nMOST_BOOKS => k_is); (case nMOST_SHEETS => k_is)
    (case nMOST_TIME => k_is); (case nMOST_MOMENT => k_is); (case nMOST_STRETCHES => k_is); (case nMOST_SLIPS => k_is); (case nMOST_WORKINGS => k_is)
    (case nMOST_WORKED => k_is); (case nNONE_LEFT => k_is); (case gne => k_is); (case gnu => k_is); (case gwr => k_is)
    (case kna => k_is); (case knb => rfl); (case knc => rfl); (case knd => rfl); (case kpa => k_is)
    (case kpb => rfl); (case kpc => rfl); (case kpd => rfl); (case kqa => k_is); (case kqb => rfl)
    (case kqc => rfl); (case kqd => rfl); (case kba => k_is); (case kbb => rfl); (case kbc => rfl)
    (case kbd => decide); (case kbe => rfl); (case kwa => k_is); (case kwb => rfl); (case kwc => rfl)
    (case kwd => decide); (case kwe => rfl); (case gR => k_is); (case pg => k_is); (case hd => k_is)
    (case po => k_is); (case rsa => k_is); (case nb1 => k_is); (case nb2 => k_is); (case nb3 => k_is)
    (case aC => k_is); (case xL => k_is); (case sa => k_is); (case ga => k_is); (case gg => k_is)
    (case nb => k_is); (case ra1 => k_is); (case rt1 => k_is); (case rl1 => k_is); (case rc1 => k_is)
    (case kC => k_is); (case eC => k_is); (case tC => k_is); (case hC => k_is); (case iC => k_is)
    (case sC => first | rfl | k_is); (case a_finished => k_is); (case l_finished => k_is); (case c_finished => k_is); (case k_finished => k_is)
    (case a_sheets_of => k_is); (case l_sheets_of => k_is); (case c_sheets_of => k_is); (case k_sheets_of => k_is); (case a_step => k_is)
    (case l_step => k_is); (case c_step => k_is); (case k_step => k_is); (case a_clocks_of => k_is); (case l_clocks_of => k_is)
    (case c_clocks_of => k_is); (case k_clocks_of => k_is); (case a_behind => k_is); (case l_behind => k_is); (case c_behind => k_is)
    (case k_behind => k_is); (case a_waits => k_is); (case l_waits => k_is); (case c_waits => k_is); (case k_waits => k_is)
    (case a_three_numbers => k_is); (case l_three_numbers => k_is); (case c_three_numbers => k_is); (case k_three_numbers => k_is); (case a_lead_and_tail => k_is)
    (case l_lead_and_tail => k_is); (case c_lead_and_tail => k_is); (case k_lead_and_tail => k_is); (case a_by_rule => k_is); (case l_by_rule => k_is)
    (case c_by_rule => k_is); (case k_by_rule => k_is); (case a_end_of => k_is); (case l_end_of => k_is); (case c_end_of => k_is)
    (case k_end_of => k_is); (case a_critical => k_is); (case l_critical => k_is); (case c_critical => k_is); (case k_critical => k_is)
    (case a_is_whole_searching => k_is); (case l_is_whole_searching => k_is); (case c_is_whole_searching => k_is); (case k_is_whole_searching => k_is); (case a_more_of => k_is)
    (case l_more_of => k_is); (case c_more_of => k_is); (case k_more_of => k_is); (case a_with_one => k_is); (case l_with_one => k_is)
    (case c_with_one => k_is); (case k_with_one => k_is); (case a_round_of => k_is); (case l_round_of => k_is); (case c_round_of => k_is)
    (case k_round_of => k_is); (case a_least_from => k_is); (case l_least_from => k_is); (case c_least_from => k_is); (case k_least_from => k_is)
    (case a_best_from => k_is); (case l_best_from => k_is); (case c_best_from => k_is); (case k_best_from => k_is); (case a_first_with => k_is)
    (case l_first_with => k_is); (case c_first_with => k_is); (case k_first_with => k_is); (case a_how_many => k_is); (case l_how_many => k_is)
    (case c_how_many => k_is); (case k_how_many => k_is); (case a_each_once => k_is); (case l_each_once => k_is); (case c_each_once => k_is)
    (case k_each_once => k_is); (case a_judge => k_is); (case l_judge => k_is); (case c_judge => k_is); (case k_judge => k_is)
    (case a_least_two => k_is); (case l_least_two => k_is); (case c_least_two => k_is); (case k_least_two => k_is); (case a_more => k_is)
    (case l_more => k_is); (case c_more => k_is); (case k_more => k_is); (case a_ask => k_is); (case l_ask => k_is)
    (case c_ask => k_is); (case k_ask => k_is); (case a_ask_all => k_is); (case l_ask_all => k_is); (case c_ask_all => k_is)
    (case k_ask_all => k_is); (case a_taken_by => k_is); (case l_taken_by => k_is); (case c_taken_by => k_is); (case k_taken_by => k_is)
    (case a_twos => k_is); (case l_twos => k_is); (case c_twos => k_is); (case k_twos => k_is); (case a_sheets_now => k_is)
    (case l_sheets_now => k_is); (case c_sheets_now => k_is); (case k_sheets_now => k_is); (case a_is_whole_room => k_is); (case l_is_whole_room => k_is)
    (case c_is_whole_room => k_is); (case k_is_whole_room => k_is); (case a_book => k_is); (case l_book => k_is); (case c_book => k_is)
    (case k_book => k_is); (case a_empty => k_is); (case l_empty => k_is); (case c_empty => k_is); (case k_empty => k_is)
    (case a_order => k_is); (case l_order => k_is); (case c_order => k_is); (case k_order => k_is); (case a_ends => k_is)
    (case l_ends => k_is); (case c_ends => k_is); (case k_ends => k_is); (case a_times => k_is); (case l_times => k_is)
    (case c_times => k_is); (case k_times => k_is); (case a_told => k_is); (case l_told => k_is); (case c_told => k_is)
    (case k_told => k_is); (case a_least => k_is); (case l_least => k_is); (case c_least => k_is); (case k_least => k_is)
    (case a_left => k_is); (case l_left => k_is); (case c_left => k_is); (case k_left => k_is); (case a_each_next => k_is)
    (case l_each_next => k_is); (case c_each_next => k_is); (case k_each_next => k_is); (case a_ask_never_empty => k_is); (case l_ask_never_empty => k_is)
    (case c_ask_never_empty => k_is); (case k_ask_never_empty => k_is); (case a_rule => k_is); (case l_rule => k_is); (case c_rule => k_is)
    (case k_rule => k_is); (case a_block => k_is); (case l_block => k_is); (case c_block => k_is); (case k_block => k_is)
    (case a_hanging => k_is); (case l_hanging => k_is); (case c_hanging => k_is); (case k_hanging => k_is); (case a_ask_workings => k_is)
    (case l_ask_workings => k_is); (case c_ask_workings => k_is); (case k_ask_workings => k_is); (case a_judged => k_is); (case l_judged => k_is)
    (case c_judged => k_is); (case k_judged => k_is); (case a_more_told => k_is); (case l_more_told => k_is); (case c_more_told => k_is)
    (case k_more_told => k_is); (case a_blocks => k_is); (case l_blocks => k_is); (case c_blocks => k_is); (case k_blocks => k_is)
    (case a_swap => k_is); (case l_swap => k_is); (case c_swap => k_is); (case k_swap => k_is); (case a_books => k_is)
    (case l_books => k_is); (case c_books => k_is); (case k_books => k_is); (case a_clear => k_is); (case l_clear => k_is)
    (case c_clear => k_is); (case k_clear => k_is); (case a_of_order => k_is); (case l_of_order => k_is); (case c_of_order => k_is)
    (case k_of_order => k_is); (case a_of_room => k_is); (case l_of_room => k_is); (case c_of_room => k_is); (case k_of_room => k_is)
    (case a_answered => k_is); (case l_answered => k_is); (case c_answered => k_is); (case k_answered => k_is); (case a_row_at => k_is)
    (case l_row_at => k_is); (case c_row_at => k_is); (case k_row_at => k_is); (case imk => k_is); (case ikc => k_is)
    (case ia => k_is); (case ii => k_is); (case il => k_is); (case ic => k_is); (case ik => k_is)
    (case a_Room_add_book => k_is); (case i_Room_add_book => k_is); (case l_Room_add_book => k_is); (case c_Room_add_book => k_is); (case k_Room_add_book => k_is)
    (case a_Room_set_empty => k_is); (case i_Room_set_empty => k_is); (case l_Room_set_empty => k_is); (case c_Room_set_empty => k_is); (case k_Room_set_empty => k_is)
    (case a_Room_set_order => k_is); (case i_Room_set_order => k_is); (case l_Room_set_order => k_is); (case c_Room_set_order => k_is); (case k_Room_set_order => k_is)
    (case a_Room_clear => k_is); (case i_Room_clear => k_is); (case l_Room_clear => k_is); (case c_Room_clear => k_is); (case k_Room_clear => k_is)
    (case a_answers => k_is); (case l_answers => k_is); (case c_answers => k_is); (case k_answers => k_is)
  case S =>
    intro K H xs a hO hwi hask hx
    cases hx with
    | cons h1 h2 =>
      cases h2
      cases h1 with
      | lst hs ha =>
        have e := L2.ints_dw a.1 _ ha
        subst e
        exact ⟨_, rfl, _, a.1, rfl, hs, hask, fun H' p hp => .lst (L2.SqL.of hp) (L2.dw_ints _)⟩
