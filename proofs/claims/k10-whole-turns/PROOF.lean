import PyProof.Rows.All
import Wide.All
import OpenK.AllK
import Wide.FinOn
import PyProof.EqAt
import PyProof.EqKinds
import PyProof.TupleCall
import PySem.Challenge.RW_bentstretch_k10_whole_turns
import HandS.ForMost
import HandS.ForExc
import HandS.Wide
import HandS.Zip
import HandS.More
import HandS.Style
import HandS.ExcInit
import HandS.Deep
import HandS.Flow
import HandS.Text
import KE.IntTextLaws
import HandS.ForDict
import HandS.ExcField
import HandS.ExcOwn
import HandS.ClsMeth
set_option Elab.async false
set_option linter.all false
set_option maxRecDepth 100000
set_option maxHeartbeats 4000000
/-! Maps of straight pieces over the rationals: values, least knots, uniqueness. -/
namespace BM
abbrev Kn := Rat × Rat
abbrev Mp := List Kn
def slope (a b : Kn) : Rat := (b.2 - a.2) / (b.1 - a.1)
/-- the straight line through a and b, at x -/
def line (a b : Kn) (x : Rat) : Rat := a.2 + slope a b * (x - a.1)
def evl : Mp → Rat → Rat
  | a :: b :: r, x => if x ≤ b.1 then line a b x else evl (b :: r) x
  | [a], _ => a.2
  | [], _ => 0
def Inc : Mp → Prop
  | a :: b :: r => a.1 < b.1 ∧ Inc (b :: r)
  | _ => True
def Adj (a b : Kn) (M : Mp) : Prop := ∃ l r, M = l ++ a :: b :: r
def lst (a : Kn) : Mp → Mp
  | b :: c :: r => if slope a b = slope b c then lst a (c :: r) else b :: lst b (c :: r)
  | [b] => [b]
  | [] => []
def least : Mp → Mp
  | a :: r => a :: lst a r
  | [] => []
def Canon (M : Mp) : Prop := ∀ l a b c r, M = l ++ a :: b :: c :: r → slope a b ≠ slope b c
theorem line_left (a b : Kn) : line a b a.1 = a.2 := by unfold line; grind
theorem line_right {a b : Kn} (h : a.1 < b.1) : line a b b.1 = b.2 := by unfold line slope; grind
theorem line_slope {a b : Kn} (h : a.1 < b.1) {x y : Rat} : line a b y - line a b x = slope a b * (y - x) := by unfold line; grind
theorem line_merge {a b c : Kn} (h1 : a.1 < b.1) (h2 : b.1 < c.1) (e : slope a b = slope b c) : slope a c = slope a b := by
  unfold slope at *; grind
theorem Inc.tail {a : Kn} {r : Mp} (h : Inc (a :: r)) : Inc r := by
  cases r with
  | nil => trivial
  | cons b r => exact h.2
theorem Adj.cons {a b c : Kn} {M : Mp} (h : Adj a b M) : Adj a b (c :: M) := by
  obtain ⟨l, r, rfl⟩ := h
  exact ⟨c :: l, r, rfl⟩
theorem Adj.head (a b : Kn) (r : Mp) : Adj a b (a :: b :: r) := ⟨[], r, rfl⟩
theorem Adj.cases {a b c d : Kn} {r : Mp} (h : Adj a b (c :: d :: r)) : (a = c ∧ b = d) ∨ Adj a b (d :: r) := by
  obtain ⟨l, s, e⟩ := h
  cases l with
  | nil =>
    simp only [List.nil_append, List.cons.injEq] at e
    exact .inl ⟨e.1.symm, e.2.1.symm⟩
  | cons z l =>
    simp only [List.cons_append, List.cons.injEq] at e
    exact .inr ⟨l, s, e.2⟩
theorem Adj.not_one {a b c : Kn} (h : Adj a b [c]) : False := by
  obtain ⟨l, s, e⟩ := h
  have := congrArg List.length e
  simp at this
  omega
theorem Adj.not_nil {a b : Kn} (h : Adj a b []) : False := by
  obtain ⟨l, s, e⟩ := h
  have := congrArg List.length e
  simp at this
theorem Adj.lt : ∀ {M : Mp} {a b : Kn}, Inc M → Adj a b M → a.1 < b.1
  | [], _, _, _, h => h.not_nil.elim
  | [_], _, _, _, h => h.not_one.elim
  | c :: d :: r, a, b, hi, h => by
    rcases h.cases with ⟨rfl, rfl⟩ | h
    · exact hi.1
    · exact Adj.lt (M := d :: r) hi.2 h
/-- every later knot is further right -/
theorem Inc.head_lt : ∀ {r : Mp} {a k : Kn}, Inc (a :: r) → k ∈ r → a.1 < k.1
  | [], _, _, _, h => by cases h
  | b :: r, a, k, hi, h => by
    rcases List.mem_cons.mp h with rfl | h
    · exact hi.1
    · have := Inc.head_lt (r := r) hi.2 h
      have := hi.1
      grind
theorem Adj.mem_left {a b : Kn} {M : Mp} (h : Adj a b M) : a ∈ M := by
  obtain ⟨l, r, rfl⟩ := h; simp
theorem Adj.mem_right {a b : Kn} {M : Mp} (h : Adj a b M) : b ∈ M := by
  obtain ⟨l, r, rfl⟩ := h; simp
/-- the value, on any piece in which the point lies -/
theorem evl_adj : ∀ {M : Mp} {a b : Kn} {x : Rat}, Inc M → Adj a b M → a.1 ≤ x → x ≤ b.1 → evl M x = line a b x
  | [], _, _, _, _, h, _, _ => h.not_nil.elim
  | [_], _, _, _, _, h, _, _ => h.not_one.elim
  | c :: d :: r, a, b, x, hi, h, h1, h2 => by
    rcases h.cases with ⟨rfl, rfl⟩ | h
    · unfold evl; rw [if_pos h2]
    · unfold evl
      have ih := evl_adj (M := d :: r) hi.2 h h1 h2
      split
      · rename_i hx
        -- x ≤ d.1 ≤ a.1 ≤ x
        have hda : d.1 ≤ a.1 := by
          rcases List.mem_cons.mp h.mem_left with rfl | hm
          · exact Rat.le_refl
          · have := Inc.head_lt hi.2 hm; grind
        have e1 : x = d.1 := by grind
        have e2 : a.1 = d.1 := by grind
        have e3 : a = d := by
          rcases List.mem_cons.mp h.mem_left with e | hm
          · exact e
          · have := Inc.head_lt hi.2 hm; grind
        subst e3
        subst e1
        rw [line_right hi.1, line_left]
      · exact ih
theorem evl_knot {M : Mp} {k : Kn} (hi : Inc M) (hk : k ∈ M) (h2 : 2 ≤ M.length) : evl M k.1 = k.2 := by
  obtain ⟨l, r, rfl⟩ := List.append_of_mem hk
  cases r with
  | cons b r =>
    have ad : Adj k b (l ++ k :: b :: r) := ⟨l, r, rfl⟩
    rw [evl_adj hi ad Rat.le_refl (Rat.le_of_lt (ad.lt hi)), line_left]
  | nil =>
    rcases List.eq_nil_or_concat l with rfl | ⟨l', a, rfl⟩
    · simp at h2
    · have ad : Adj a k (l' ++ [a] ++ [k]) := ⟨l', [], by simp⟩
      simp only [List.concat_eq_append] at *
      rw [evl_adj hi ad (Rat.le_of_lt (ad.lt hi)) Rat.le_refl, line_right (ad.lt hi)]
/-- where the point lies -/
theorem find_adj : ∀ {M : Mp} {a : Kn} {x : Rat}, a.1 ≤ x → (∃ k ∈ M, x ≤ k.1) → ∃ u v, Adj u v (a :: M) ∧ u.1 ≤ x ∧ x ≤ v.1
  | [], _, _, _, ⟨k, hk, _⟩ => by cases hk
  | b :: r, a, x, h1, ⟨k, hk, hx⟩ => by
    by_cases h : x ≤ b.1
    · exact ⟨a, b, Adj.head a b r, h1, h⟩
    · have hb : b.1 ≤ x := by grind
      rcases List.mem_cons.mp hk with rfl | hk
      · exact absurd hx h
      · obtain ⟨u, v, ad, q⟩ := find_adj (M := r) hb ⟨k, hk, hx⟩
        exact ⟨u, v, ad.cons, q⟩
end BM
/-! least knots: the value stays; canonical; uniqueness -/
namespace BM
theorem lst_ne : ∀ {r : Mp} {a b : Kn}, lst a (b :: r) ≠ []
  | [], _, _ => by simp [lst]
  | c :: r, a, b => by
    unfold lst
    split
    · exact lst_ne
    · simp
theorem lst_last : ∀ {r : Mp} {a b : Kn}, (lst a (b :: r)).getLast? = (b :: r).getLast?
  | [], _, _ => by simp [lst]
  | c :: r, a, b => by
    unfold lst
    split
    · rw [lst_last]; simp
    · have ih := lst_last (r := r) (a := b) (b := c)
      have n := lst_ne (r := r) (a := b) (b := c)
      obtain ⟨y, ys, e⟩ := List.exists_cons_of_ne_nil n
      rw [e] at ih ⊢
      rw [List.getLast?_cons_cons, ih]
      simp
theorem lst_sub : ∀ {r : Mp} {a : Kn}, (lst a r).Sublist r
  | [], _ => by simp [lst]
  | [b], _ => by simp [lst]
  | b :: c :: r, a => by
    unfold lst
    split
    · exact (lst_sub (r := c :: r)).cons b
    · exact (lst_sub (r := c :: r)).cons_cons b
theorem least_sub {M : Mp} : (least M).Sublist M := by
  cases M with
  | nil => simp [least]
  | cons a r => exact lst_sub.cons_cons a
theorem lst_len {r : Mp} {a b : Kn} : 1 ≤ (lst a (b :: r)).length := List.length_pos_iff.mpr lst_ne
theorem least_len {M : Mp} (h : 2 ≤ M.length) : 2 ≤ (least M).length := by
  match M, h with
  | a :: b :: r, _ => have := lst_len (r := r) (a := a) (b := b); simp [least]; omega
theorem Inc.pair : ∀ {M : Mp}, Inc M → M.Pairwise (fun a b => a.1 < b.1)
  | [], _ => .nil
  | a :: r, h => .cons (fun _ hk => h.head_lt hk) h.tail.pair
theorem Inc.of_pair : ∀ {M : Mp}, M.Pairwise (fun a b => a.1 < b.1) → Inc M
  | [], _ => trivial
  | [_], _ => trivial
  | a :: b :: r, .cons h t => ⟨h b (by simp), Inc.of_pair t⟩
theorem Inc.sub {M N : Mp} (h : Inc M) (s : N.Sublist M) : Inc N := Inc.of_pair (h.pair.sublist s)
theorem least_inc {M : Mp} (h : Inc M) : Inc (least M) := h.sub least_sub
/-- dropping a knot that goes straight on -/
theorem evl_drop {a b c : Kn} {r : Mp} (h : Inc (a :: b :: c :: r)) (e : slope a b = slope b c) (x : Rat) : evl (a :: c :: r) x = evl (a :: b :: c :: r) x := by
  have h1 := h.1
  have h2 := h.2.1
  have m := line_merge h1 h2 e
  by_cases hx : x ≤ b.1
  · have hx2 : x ≤ c.1 := by grind
    unfold evl
    rw [if_pos hx, if_pos hx2]
    unfold line; rw [m]
  · by_cases hc : x ≤ c.1
    · unfold evl
      rw [if_neg hx, if_pos hc]
      unfold evl
      rw [if_pos hc]
      have e1 := line_right h1
      unfold line at *
      rw [m, ← e]
      grind
    · show (if x ≤ c.1 then _ else _) = (if x ≤ b.1 then _ else if x ≤ c.1 then _ else _)
      rw [if_neg hx, if_neg hc, if_neg hc]
theorem Inc.drop2 {a b c : Kn} {r : Mp} (h : Inc (a :: b :: c :: r)) : Inc (a :: c :: r) := ⟨by have := h.1; have := h.2.1; grind, h.2.2⟩
theorem lst_evl : ∀ {r : Mp} {a : Kn} (x : Rat), Inc (a :: r) → evl (a :: lst a r) x = evl (a :: r) x
  | [], _, _, _ => by simp [lst]
  | [b], _, _, _ => by simp [lst]
  | b :: c :: r, a, x, h => by
    unfold lst
    split
    · rename_i e
      rw [lst_evl x h.drop2, evl_drop h e]
    · have ih := lst_evl (r := c :: r) (a := b) x h.2
      show (if x ≤ b.1 then _ else _) = (if x ≤ b.1 then _ else _)
      rw [ih]
theorem least_evl {M : Mp} (h : Inc M) (x : Rat) : evl (least M) x = evl M x := by
  cases M with
  | nil => rfl
  | cons a r => exact lst_evl x h
/-- the next knot that is kept lies straight on -/
theorem lst_head : ∀ {r : Mp} {a b : Kn}, Inc (a :: b :: r) → ∃ c s, lst a (b :: r) = c :: s ∧ slope a c = slope a b
  | [], a, b, _ => ⟨b, [], by simp [lst], rfl⟩
  | c :: r, a, b, h => by
    unfold lst
    split
    · rename_i e
      obtain ⟨d, s, e1, e2⟩ := lst_head h.drop2
      exact ⟨d, s, e1, e2.trans (line_merge h.1 h.2.1 e)⟩
    · exact ⟨b, _, rfl, rfl⟩
/-- canonical, from the front -/
def Can : Mp → Prop
  | a :: b :: c :: r => slope a b ≠ slope b c ∧ Can (b :: c :: r)
  | _ => True
theorem lst_can : ∀ {r : Mp} {a : Kn}, Inc (a :: r) → Can (a :: lst a r)
  | [], _, _ => by simp [lst, Can]
  | [b], _, _ => by simp [lst, Can]
  | b :: c :: r, a, h => by
    unfold lst
    split
    · exact lst_can h.drop2
    · rename_i n
      have ih := lst_can (r := c :: r) (a := b) h.2
      obtain ⟨d, s, e1, e2⟩ := lst_head h.2
      rw [e1] at ih ⊢
      exact ⟨by rw [e2]; exact n, ih⟩
theorem least_can {M : Mp} (h : Inc M) : Can (least M) := by
  cases M with
  | nil => trivial
  | cons a r => exact lst_can h
theorem Can.tail {a : Kn} {r : Mp} (h : Can (a :: r)) : Can r := by
  match r, h with
  | [], _ => trivial
  | [_], _ => trivial
  | _ :: _ :: _, h => exact h.2
theorem Can.of : ∀ {M : Mp}, (∀ l a b c r, M = l ++ a :: b :: c :: r → slope a b ≠ slope b c) → Can M
  | [], _ => trivial
  | [_], _ => trivial
  | [_, _], _ => trivial
  | a :: b :: c :: r, h => ⟨h [] a b c r rfl, Can.of fun l x y z s e => h (a :: l) x y z s (by rw [e]; rfl)⟩
theorem Can.to : ∀ {M : Mp}, Can M → ∀ l a b c r, M = l ++ a :: b :: c :: r → slope a b ≠ slope b c
  | _, h, [], a, b, c, r, e => by subst e; exact h.1
  | _, h, x :: l, a, b, c, r, e => by
    subst e
    exact Can.to (Can.tail h) l a b c r rfl
theorem last_ge : ∀ {r : Mp} {a z : Kn}, Inc (a :: r) → (a :: r).getLast? = some z → ∀ k ∈ a :: r, k.1 ≤ z.1
  | [], a, z, _, e, k, hk => by
    simp at e hk; subst e; subst hk; exact Rat.le_refl
  | b :: r, a, z, h, e, k, hk => by
    rw [List.getLast?_cons_cons] at e
    have ih := last_ge h.2 e
    rcases List.mem_cons.mp hk with rfl | hk
    · have := ih b (by simp); have := h.1; grind
    · exact ih k hk
theorem line_two {a b : Kn} {s : Rat} (h : a.1 < b.1) {x : Rat} (hx : a.1 < x) (e : line a b x = a.2 + s * (x - a.1)) : slope a b = s := by
  unfold line at e
  have : (slope a b - s) * (x - a.1) = 0 := by grind
  rcases Rat.mul_eq_zero.mp this with q | q <;> grind
/-- two canonical maps of one stretch with the same values are one -/
theorem can_uniq : ∀ {r s : Mp} {a b z w : Kn}, Inc (a :: r) → Inc (b :: s) → Can (a :: r) → Can (b :: s) → a = b → (a :: r).getLast? = some z → (b :: s).getLast? = some w → z.1 = w.1 →
    (∀ x, a.1 ≤ x → x ≤ z.1 → evl (a :: r) x = evl (b :: s) x) → a :: r = b :: s
  | [], [], a, b, _, _, _, _, _, _, e, _, _, _, _ => by rw [e]
  | [], d :: s, a, b, z, w, h1, h2, _, _, e, l1, l2, ez, _ => by
    exfalso
    have q := last_ge h2 l2 d (by simp)
    have := h2.1
    simp at l1
    subst l1
    grind
  | c :: r, [], a, b, z, w, h1, h2, _, _, e, l1, l2, ez, _ => by
    exfalso
    have q := last_ge h1 l1 c (by simp)
    have := h1.1
    simp at l2
    subst l2
    grind
  | c :: r, d :: s, a, b, z, w, h1, h2, c1, c2, e, l1, l2, ez, hv => by
    subst e
    have ac := h1.1
    have ad := h2.1
    have cz := last_ge h1 l1 c (by simp)
    have dw := last_ge h2 l2 d (by simp)
    have e1 : ∀ x, a.1 ≤ x → x ≤ c.1 → evl (a :: c :: r) x = line a c x := fun x p q => evl_adj h1 (Adj.head a c r) p q
    have e2 : ∀ x, a.1 ≤ x → x ≤ d.1 → evl (a :: d :: s) x = line a d x := fun x p q => evl_adj h2 (Adj.head a d s) p q
    have key : ∀ {c d : Kn} {r s : Mp} {z w : Kn}, Inc (a :: c :: r) → Inc (a :: d :: s) → Can (a :: c :: r) → (a :: c :: r).getLast? = some z → (a :: d :: s).getLast? = some w → z.1 = w.1 →
        (∀ x, a.1 ≤ x → x ≤ z.1 → evl (a :: c :: r) x = evl (a :: d :: s) x) → ¬ c.1 < d.1 := by
      intro c d r s z w h1 h2 c1 l1 l2 ez hv lt
      have ac := h1.1
      have ad := h2.1
      have cz := last_ge h1 l1 c (by simp)
      have dw := last_ge h2 l2 d (by simp)
      have s1 : slope a c = slope a d := by
        refine line_two ac ac ?_
        have := hv c.1 (Rat.le_of_lt ac) cz
        rw [evl_adj h1 (Adj.head a c r) (Rat.le_of_lt ac) Rat.le_refl, evl_adj h2 (Adj.head a d s) (Rat.le_of_lt ac) (Rat.le_of_lt lt)] at this
        exact this
      cases r with
      | nil =>
        simp at l1
        subst l1
        grind
      | cons f r =>
        have cf := h1.2.1
        have fz := last_ge h1 l1 f (by simp)
        -- a point behind c, in both pieces
        obtain ⟨x, x1, x2, x3⟩ : ∃ x : Rat, c.1 < x ∧ x ≤ f.1 ∧ x ≤ d.1 := by
          by_cases q : f.1 ≤ d.1
          · exact ⟨f.1, cf, Rat.le_refl, q⟩
          · exact ⟨d.1, lt, by grind, Rat.le_refl⟩
        have v := hv x (by grind) (by grind)
        have v1 : evl (a :: c :: f :: r) x = line c f x := evl_adj h1 ((Adj.head c f r).cons) (Rat.le_of_lt x1) x2
        rw [v1, evl_adj h2 (Adj.head a d s) (by grind) x3] at v
        have q1 := line_right ac
        have : slope c f = slope a d := by
          refine line_two cf x1 ?_
          rw [v, ← q1]
          unfold line
          rw [s1]
          grind
        exact c1.1 (s1.trans this.symm)
    have n1 := key h1 h2 c1 l1 l2 ez hv
    have n2 := key h2 h1 c2 l2 l1 ez.symm (fun x p q => (hv x p (by rw [ez]; exact q)).symm)
    have ec : c.1 = d.1 := by grind
    have ecd : c = d := by
      refine Prod.ext ec ?_
      have q := hv c.1 (Rat.le_of_lt ac) cz
      rw [e1 _ (Rat.le_of_lt ac) Rat.le_refl, e2 _ (Rat.le_of_lt ac) (by grind), line_right ac, ec, line_right ad] at q
      exact q
    have ih := can_uniq (r := r) (s := s) h1.tail h2.tail c1.tail c2.tail ecd (by rw [List.getLast?_cons_cons] at l1; exact l1) (by rw [List.getLast?_cons_cons] at l2; exact l2) ez (fun x p q => by
      by_cases hx : x = c.1
      · subst hx
        have t1 : ∀ {c : Kn} {r : Mp}, evl (c :: r) c.1 = c.2 ∨ ∃ f r', r = f :: r' := fun {c r} => by
          cases r with
          | nil => exact .inl rfl
          | cons f r => exact .inr ⟨f, r, rfl⟩
        have t2 : ∀ {c : Kn} {r : Mp}, Inc (c :: r) → evl (c :: r) c.1 = c.2 := fun {c r} hi => by
          rcases t1 (c := c) (r := r) with q | ⟨f, r', rfl⟩
          · exact q
          · exact evl_knot hi (by simp) (by simp)
        rw [t2 h1.tail, ec, t2 h2.tail, ecd]
      · have x1 : ¬ x ≤ c.1 := by grind
        have v := hv x (by grind) q
        have x2 : ¬ x ≤ d.1 := by grind
        unfold evl at v
        rw [if_neg x1, if_neg x2] at v
        exact v)
    rw [ih]
end BM
/-! one map behind another -/
namespace BM
def amidUp (a b : Kn) (o : Mp) : Mp := (o.filter fun k => decide ((a.2 < k.1 ∧ k.1 < b.2) ∨ (b.2 < k.1 ∧ k.1 < a.2))).map fun k => (a.1 + (k.1 - a.2) / slope a b, k.2)
/-- the knots that o brings between a and b -/
def amid (a b : Kn) (o : Mp) : Mp := if b.2 < a.2 then (amidUp a b o).reverse else amidUp a b o
def raws (o : Mp) : Mp → Mp
  | a :: b :: r => amid a b o ++ (b.1, evl o b.2) :: raws o (b :: r)
  | _ => []
def raw (o : Mp) : Mp → Mp
  | a :: r => (a.1, evl o a.2) :: raws o (a :: r)
  | [] => []
def put (M o : Mp) : Mp := least (raw o M)
/-- a map of the stretch from lo to hi -/
structure Good (lo hi : Rat) (M : Mp) : Prop where
  inc : Inc M
  two : 2 ≤ M.length
  hd : M.head?.map (·.1) = some lo
  lt : M.getLast?.map (·.1) = some hi
  to : ∀ k ∈ M, lo ≤ k.2 ∧ k.2 ≤ hi
theorem pair_adj {α : Type} {R : α → α → Prop} {l1 l2 : List α} {u v w : α} (h : (l1 ++ u :: v :: l2).Pairwise R) (hw : w ∈ l1 ++ u :: v :: l2) : w = u ∨ w = v ∨ R w u ∨ R v w := by
  rw [List.pairwise_append] at h
  obtain ⟨_, h2, h3⟩ := h
  cases h2 with
  | cons hu h2 =>
    cases h2 with
    | cons hv h2 =>
      simp only [List.mem_append, List.mem_cons] at hw
      rcases hw with hw | rfl | rfl | hw
      · exact .inr (.inr (.inl (h3 w hw u (by simp))))
      · exact .inl rfl
      · exact .inr (.inl rfl)
      · exact .inr (.inr (.inr (hv w hw)))
theorem pair_uv {α : Type} {R : α → α → Prop} {l1 l2 : List α} {u v : α} (h : (l1 ++ u :: v :: l2).Pairwise R) : R u v := by
  rw [List.pairwise_append] at h
  obtain ⟨_, h2, _⟩ := h
  cases h2 with
  | cons hu h2 => exact hu v (by simp)
/-- no knot within: one piece -/
theorem gap : ∀ {r : Mp} {a : Kn} {u v : Rat}, Inc (a :: r) → a.1 ≤ u → u < v → (∃ k ∈ r, v ≤ k.1) → (∀ k ∈ a :: r, ¬ (u < k.1 ∧ k.1 < v)) → ∃ p q, Adj p q (a :: r) ∧ p.1 ≤ u ∧ v ≤ q.1
  | [], a, u, v, _, _, _, ⟨k, hk, _⟩, _ => by cases hk
  | b :: r, a, u, v, hi, h1, h2, ⟨k, hk, hv⟩, hn => by
    by_cases hb : b.1 ≤ u
    · have : ∃ k ∈ r, v ≤ k.1 := by
        rcases List.mem_cons.mp hk with rfl | hk
        · exfalso; grind
        · exact ⟨k, hk, hv⟩
      obtain ⟨p, q, ad, z⟩ := gap hi.2 hb h2 this (fun k hk => hn k (List.mem_cons_of_mem _ hk))
      exact ⟨p, q, ad.cons, z⟩
    · have := hn b (by simp)
      exact ⟨a, b, Adj.head a b r, h1, by grind⟩
theorem Good.ends {lo hi : Rat} {M : Mp} (g : Good lo hi M) : ∃ a b r z, M = a :: b :: r ∧ a.1 = lo ∧ (a :: b :: r).getLast? = some z ∧ z.1 = hi ∧ z ∈ b :: r := by
  obtain ⟨h1, h2, h3, h4, h5⟩ := g
  match M, h1, h2, h3, h4, h5 with
  | a :: b :: r, h1, h2, h3, h4, h5 =>
    obtain ⟨z, hz⟩ : ∃ z, (a :: b :: r).getLast? = some z := ⟨_, List.getLast?_eq_some_getLast (by simp)⟩
    refine ⟨a, b, r, z, rfl, by simpa using h3, hz, ?_, ?_⟩
    · rw [hz] at h4; simpa using h4
    · rw [List.getLast?_cons_cons] at hz
      exact List.mem_of_getLast? hz
/-- a gap in the stretch lies in one piece -/
theorem Good.gap {lo hi : Rat} {o : Mp} (g : Good lo hi o) {u v : Rat} (h1 : lo ≤ u) (h2 : u < v) (h3 : v ≤ hi) (hn : ∀ k ∈ o, ¬ (u < k.1 ∧ k.1 < v)) : ∃ p q, Adj p q o ∧ p.1 ≤ u ∧ v ≤ q.1 := by
  obtain ⟨a, b, r, z, rfl, ea, ez, e2, zm⟩ := g.ends
  exact BM.gap g.inc (by rw [ea]; exact h1) h2 ⟨z, zm, by rw [e2]; exact h3⟩ hn
theorem Good.piece {lo hi : Rat} {o : Mp} (g : Good lo hi o) {x : Rat} (h1 : lo ≤ x) (h3 : x ≤ hi) : ∃ p q, Adj p q o ∧ p.1 ≤ x ∧ x ≤ q.1 := by
  obtain ⟨a, b, r, z, rfl, ea, ez, e2, zm⟩ := g.ends
  exact find_adj (by rw [ea]; exact h1) ⟨z, zm, by rw [e2]; exact h3⟩
theorem Good.knot {lo hi : Rat} {o : Mp} (g : Good lo hi o) {k : Kn} (h : k ∈ o) : evl o k.1 = k.2 := evl_knot g.inc h g.two
theorem Good.at {lo hi : Rat} {o : Mp} (g : Good lo hi o) {k : Kn} (h : k ∈ o) : lo ≤ k.1 ∧ k.1 ≤ hi := by
  obtain ⟨a, b, r, z, rfl, ea, ez, e2, zm⟩ := g.ends
  refine ⟨?_, ?_⟩
  · rcases List.mem_cons.mp h with rfl | h
    · grind
    · have := g.inc.head_lt h; grind
  · have := last_ge g.inc ez k h; grind
theorem line_between {a b : Kn} (h : a.1 < b.1) {x lo hi : Rat} (h1 : a.1 ≤ x) (h2 : x ≤ b.1) (ha : lo ≤ a.2 ∧ a.2 ≤ hi) (hb : lo ≤ b.2 ∧ b.2 ≤ hi) : lo ≤ line a b x ∧ line a b x ≤ hi := by
  have e : line a b x * (b.1 - a.1) = a.2 * (b.1 - x) + b.2 * (x - a.1) := by unfold line slope; grind
  have p : (0 : Rat) < b.1 - a.1 := by grind
  have p1 : (0 : Rat) ≤ b.1 - x := by grind
  have p2 : (0 : Rat) ≤ x - a.1 := by grind
  have q1 := Rat.mul_le_mul_of_nonneg_right ha.1 p1
  have q2 := Rat.mul_le_mul_of_nonneg_right hb.1 p2
  have q3 := Rat.mul_le_mul_of_nonneg_right ha.2 p1
  have q4 := Rat.mul_le_mul_of_nonneg_right hb.2 p2
  refine ⟨Rat.le_of_mul_le_mul_right ?_ p, Rat.le_of_mul_le_mul_right ?_ p⟩ <;> grind
theorem Good.evl_in {lo hi : Rat} {o : Mp} (g : Good lo hi o) {x : Rat} (h1 : lo ≤ x) (h2 : x ≤ hi) : lo ≤ evl o x ∧ evl o x ≤ hi := by
  obtain ⟨p, q, ad, q1, q2⟩ := g.piece h1 h2
  rw [evl_adj g.inc ad q1 q2]
  exact line_between (ad.lt g.inc) q1 q2 (g.to _ ad.mem_left) (g.to _ ad.mem_right)
/-- where u, v of a section lie -/
structure Sec (M o : Mp) (u v : Kn) : Prop where
  ex : ∃ a b p q, Adj a b M ∧ Adj p q o ∧ a.1 ≤ u.1 ∧ v.1 ≤ b.1 ∧ u.2 = line p q (line a b u.1) ∧ v.2 = line p q (line a b v.1) ∧ p.1 ≤ line a b u.1 ∧ line a b u.1 ≤ q.1 ∧ p.1 ≤ line a b v.1 ∧ line a b v.1 ≤ q.1
  lt : u.1 < v.1
theorem slope_pos {a b : Kn} (h : a.1 < b.1) (h2 : a.2 < b.2) : 0 < slope a b := by
  unfold slope
  rw [Rat.div_def]
  exact Rat.mul_pos (by grind) (Rat.inv_pos.mpr (by grind))
theorem slope_neg {a b : Kn} (h : a.1 < b.1) (h2 : b.2 < a.2) : slope a b < 0 := by
  have : 0 < slope (a.1, b.2) (b.1, a.2) := slope_pos h h2
  unfold slope at *
  simp only at this
  have e : (a.2 - b.2) / (b.1 - a.1) = -((b.2 - a.2) / (b.1 - a.1)) := by grind
  grind
theorem slope_inv_mono {s y z : Rat} (h : 0 < s) (h2 : y < z) : y / s < z / s := by
  rw [Rat.div_def, Rat.div_def]
  exact Rat.mul_lt_mul_of_pos_right h2 (Rat.inv_pos.mpr h)
theorem slope_inv_anti {s y z : Rat} (h : s < 0) (h2 : y < z) : z / s < y / s := by
  have := slope_inv_mono (s := -s) (y := y) (z := z) (by grind) h2
  have e1 : y / -s = -(y / s) := by grind
  have e2 : z / -s = -(z / s) := by grind
  grind
/-- a value's point on the piece a b -/
def bk (a b : Kn) (y : Rat) : Rat := a.1 + (y - a.2) / slope a b
theorem line_bk {a b : Kn} {y : Rat} (h : slope a b ≠ 0) : line a b (bk a b y) = y := by unfold line bk; grind
theorem bk_left {a b : Kn} : bk a b a.2 = a.1 := by unfold bk; grind
theorem bk_right {a b : Kn} (h : a.1 < b.1) (hs : slope a b ≠ 0) : bk a b b.2 = b.1 := by
  have := line_right h
  unfold line at this
  unfold bk
  have e : b.2 - a.2 = slope a b * (b.1 - a.1) := by grind
  rw [e]
  grind
/-- a section: the values from a to b at which o has knots, and both ends -/
theorem sec_up {lo hi : Rat} {M o : Mp} (go : Good lo hi o) {a b : Kn} (ad : Adj a b M) (h1 : a.1 < b.1) (h2 : a.2 < b.2) (ha : lo ≤ a.2 ∧ a.2 ≤ hi) (hb : lo ≤ b.2 ∧ b.2 ≤ hi) {u v : Kn}
    (hs : Adj u v ((a.1, evl o a.2) :: (amidUp a b o ++ [(b.1, evl o b.2)]))) : Sec M o u v := by
  have sp := slope_pos h1 h2
  have s0 : slope a b ≠ 0 := by grind
  -- the values
  let F := o.filter fun k => decide ((a.2 < k.1 ∧ k.1 < b.2) ∨ (b.2 < k.1 ∧ k.1 < a.2))
  let Y : List Rat := a.2 :: (F.map (·.1) ++ [b.2])
  have memF : ∀ k ∈ F, k ∈ o ∧ a.2 < k.1 ∧ k.1 < b.2 := by
    intro k hk
    have := List.mem_filter.mp hk
    refine ⟨this.1, ?_⟩
    have q := of_decide_eq_true this.2
    grind
  have eY : (a.1, evl o a.2) :: (amidUp a b o ++ [(b.1, evl o b.2)]) = Y.map fun y => (bk a b y, evl o y) := by
    show _ = (a.2 :: (F.map (·.1) ++ [b.2])).map _
    rw [List.map_cons, List.map_append, List.map_map, List.map_singleton, bk_left, bk_right h1 s0]
    congr 2
    unfold amidUp
    refine List.map_congr_left fun k hk => ?_
    show _ = (bk a b k.1, evl o k.1)
    rw [go.knot (memF k hk).1]
    rfl
  have sY : Y.Pairwise (· < ·) := by
    refine .cons ?_ ?_
    · intro y hy
      rcases List.mem_append.mp hy with hy | hy
      · obtain ⟨k, hk, rfl⟩ := List.mem_map.mp hy
        exact (memF k hk).2.1
      · rw [List.mem_singleton.mp hy]; exact h2
    · rw [List.pairwise_append]
      refine ⟨?_, by simp, ?_⟩
      · rw [List.pairwise_map]
        exact go.inc.pair.filter _
      · intro y hy z hz
        obtain ⟨k, hk, rfl⟩ := List.mem_map.mp hy
        rw [List.mem_singleton.mp hz]
        exact (memF k hk).2.2
  rw [eY] at hs
  obtain ⟨l, r, e⟩ := hs
  obtain ⟨l1, l2', e1, e2, e3⟩ := List.map_eq_append_iff.mp e
  obtain ⟨y, l3, e4, e5, e6⟩ := List.map_eq_cons_iff.mp e3
  obtain ⟨z, l4, e7, e8, e9⟩ := List.map_eq_cons_iff.mp e6
  subst e4
  subst e7
  have sY' := sY
  rw [e1] at sY'
  have yz : y < z := pair_uv sY'
  have mY : ∀ t ∈ Y, a.2 ≤ t ∧ t ≤ b.2 := by
    intro t ht
    rcases List.mem_cons.mp ht with rfl | ht
    · exact ⟨Rat.le_refl, Rat.le_of_lt h2⟩
    · rcases List.mem_append.mp ht with ht | ht
      · obtain ⟨k, hk, rfl⟩ := List.mem_map.mp ht
        exact ⟨Rat.le_of_lt (memF k hk).2.1, Rat.le_of_lt (memF k hk).2.2⟩
      · rw [List.mem_singleton.mp ht]; exact ⟨Rat.le_of_lt h2, Rat.le_refl⟩
  have hy := mY y (by rw [e1]; simp)
  have hz := mY z (by rw [e1]; simp)
  obtain ⟨p, q, adp, pu, vq⟩ := go.gap (u := y) (v := z) (by grind) yz (by grind) (fun k hk ⟨k1, k2⟩ => by
    have kF : k ∈ F := List.mem_filter.mpr ⟨hk, decide_eq_true (.inl ⟨by grind, by grind⟩)⟩
    have kY : k.1 ∈ Y := List.mem_cons_of_mem _ (List.mem_append_left _ (List.mem_map.mpr ⟨k, kF, rfl⟩))
    rw [e1] at kY
    rcases pair_adj sY' kY with w | w | w | w <;> grind)
  rw [← e5, ← e8]
  have lt : bk a b y < bk a b z := by
    unfold bk
    have := slope_inv_mono (y := y - a.2) (z := z - a.2) sp (by grind)
    grind
  refine ⟨⟨a, b, p, q, ad, adp, ?_, ?_, ?_, ?_, ?_, ?_, ?_, ?_⟩, lt⟩
  · show a.1 ≤ bk a b y
    by_cases e : y = a.2
    · rw [e, bk_left]; exact Rat.le_refl
    · have := slope_inv_mono (y := a.2 - a.2) (z := y - a.2) sp (by grind)
      have e0 : (a.2 - a.2) / slope a b = 0 := by grind
      unfold bk; grind
  · show bk a b z ≤ b.1
    by_cases e : z = b.2
    · rw [e, bk_right h1 s0]; exact Rat.le_refl
    · have := slope_inv_mono (y := z - a.2) (z := b.2 - a.2) sp (by grind)
      have e0 := bk_right h1 s0
      unfold bk at *; grind
  all_goals simp only [line_bk s0]
  · exact evl_adj go.inc adp pu (by grind)
  · exact evl_adj go.inc adp (by grind) vq
  · exact pu
  · grind
  · grind
  · exact vq
end BM
namespace BM
theorem Adj.reverse {a b : Kn} {M : Mp} (h : Adj a b M.reverse) : Adj b a M := by
  obtain ⟨l, r, e⟩ := h
  have := congrArg List.reverse e
  simp at this
  exact ⟨r.reverse, l.reverse, this⟩
theorem sec_down {lo hi : Rat} {M o : Mp} (go : Good lo hi o) {a b : Kn} (ad : Adj a b M) (h1 : a.1 < b.1) (h2 : b.2 < a.2) (ha : lo ≤ a.2 ∧ a.2 ≤ hi) (hb : lo ≤ b.2 ∧ b.2 ≤ hi) {u v : Kn}
    (hs : Adj u v ((a.1, evl o a.2) :: ((amidUp a b o).reverse ++ [(b.1, evl o b.2)]))) : Sec M o u v := by
  have sp := slope_neg h1 h2
  have s0 : slope a b ≠ 0 := by grind
  let F := o.filter fun k => decide ((a.2 < k.1 ∧ k.1 < b.2) ∨ (b.2 < k.1 ∧ k.1 < a.2))
  let Y : List Rat := b.2 :: (F.map (·.1) ++ [a.2])
  have memF : ∀ k ∈ F, k ∈ o ∧ b.2 < k.1 ∧ k.1 < a.2 := by
    intro k hk
    have := List.mem_filter.mp hk
    refine ⟨this.1, ?_⟩
    have q := of_decide_eq_true this.2
    grind
  have eY : ((b.1, evl o b.2) :: (amidUp a b o ++ [(a.1, evl o a.2)])) = Y.map fun y => (bk a b y, evl o y) := by
    show _ = (b.2 :: (F.map (·.1) ++ [a.2])).map _
    rw [List.map_cons, List.map_append, List.map_map, List.map_singleton, bk_left, bk_right h1 s0]
    congr 2
    unfold amidUp
    refine List.map_congr_left fun k hk => ?_
    show _ = (bk a b k.1, evl o k.1)
    rw [go.knot (memF k hk).1]
    rfl
  have sY : Y.Pairwise (· < ·) := by
    refine .cons ?_ ?_
    · intro y hy
      rcases List.mem_append.mp hy with hy | hy
      · obtain ⟨k, hk, rfl⟩ := List.mem_map.mp hy
        exact (memF k hk).2.1
      · rw [List.mem_singleton.mp hy]; exact h2
    · rw [List.pairwise_append]
      refine ⟨?_, by simp, ?_⟩
      · rw [List.pairwise_map]
        exact go.inc.pair.filter _
      · intro y hy z hz
        obtain ⟨k, hk, rfl⟩ := List.mem_map.mp hy
        rw [List.mem_singleton.mp hz]
        exact (memF k hk).2.2
  have hs' : Adj v u ((b.1, evl o b.2) :: (amidUp a b o ++ [(a.1, evl o a.2)])) := by
    refine Adj.reverse ?_
    have : ((b.1, evl o b.2) :: (amidUp a b o ++ [(a.1, evl o a.2)])).reverse = ((a.1, evl o a.2) :: ((amidUp a b o).reverse ++ [(b.1, evl o b.2)])) := by simp
    rw [this]
    exact hs
  rw [eY] at hs'
  obtain ⟨l, r, e⟩ := hs'
  obtain ⟨l1, l2', e1, e2, e3⟩ := List.map_eq_append_iff.mp e
  obtain ⟨y, l3, e4, e5, e6⟩ := List.map_eq_cons_iff.mp e3
  obtain ⟨z, l4, e7, e8, e9⟩ := List.map_eq_cons_iff.mp e6
  subst e4
  subst e7
  have sY' := sY
  rw [e1] at sY'
  have yz : y < z := pair_uv sY'
  have mY : ∀ t ∈ Y, b.2 ≤ t ∧ t ≤ a.2 := by
    intro t ht
    rcases List.mem_cons.mp ht with rfl | ht
    · exact ⟨Rat.le_refl, Rat.le_of_lt h2⟩
    · rcases List.mem_append.mp ht with ht | ht
      · obtain ⟨k, hk, rfl⟩ := List.mem_map.mp ht
        exact ⟨Rat.le_of_lt (memF k hk).2.1, Rat.le_of_lt (memF k hk).2.2⟩
      · rw [List.mem_singleton.mp ht]; exact ⟨Rat.le_of_lt h2, Rat.le_refl⟩
  have hy := mY y (by rw [e1]; simp)
  have hz := mY z (by rw [e1]; simp)
  obtain ⟨p, q, adp, pu, vq⟩ := go.gap (u := y) (v := z) (by grind) yz (by grind) (fun k hk ⟨k1, k2⟩ => by
    have kF : k ∈ F := List.mem_filter.mpr ⟨hk, decide_eq_true (.inr ⟨by grind, by grind⟩)⟩
    have kY : k.1 ∈ Y := List.mem_cons_of_mem _ (List.mem_append_left _ (List.mem_map.mpr ⟨k, kF, rfl⟩))
    rw [e1] at kY
    rcases pair_adj sY' kY with w | w | w | w <;> grind)
  rw [← e5, ← e8]
  have lt : bk a b z < bk a b y := by
    unfold bk
    have := slope_inv_anti (y := y - a.2) (z := z - a.2) sp (by grind)
    grind
  refine ⟨⟨a, b, p, q, ad, adp, ?_, ?_, ?_, ?_, ?_, ?_, ?_, ?_⟩, lt⟩
  · show a.1 ≤ bk a b z
    by_cases e : z = a.2
    · rw [e, bk_left]; exact Rat.le_refl
    · have := slope_inv_anti (y := z - a.2) (z := a.2 - a.2) sp (by grind)
      have e0 : (a.2 - a.2) / slope a b = 0 := by grind
      unfold bk; grind
  · show bk a b y ≤ b.1
    by_cases e : y = b.2
    · rw [e, bk_right h1 s0]; exact Rat.le_refl
    · have := slope_inv_anti (y := b.2 - a.2) (z := y - a.2) sp (by grind)
      have e0 := bk_right h1 s0
      unfold bk at *; grind
  all_goals simp only [line_bk s0]
  · exact evl_adj go.inc adp (by grind) vq
  · exact evl_adj go.inc adp pu (by grind)
  · grind
  · exact vq
  · exact pu
  · grind
theorem sec_flat {lo hi : Rat} {M o : Mp} (go : Good lo hi o) {a b : Kn} (ad : Adj a b M) (h1 : a.1 < b.1) (h2 : b.2 = a.2) (ha : lo ≤ a.2 ∧ a.2 ≤ hi) {u v : Kn}
    (hs : Adj u v [(a.1, evl o a.2), (b.1, evl o b.2)]) : Sec M o u v := by
  rcases hs.cases with ⟨rfl, rfl⟩ | h
  · obtain ⟨p, q, adp, p1, p2⟩ := go.piece ha.1 ha.2
    have s0 : slope a b = 0 := by unfold slope; grind
    have l : ∀ x, line a b x = a.2 := fun x => by unfold line; rw [s0]; grind
    refine ⟨⟨a, b, p, q, ad, adp, Rat.le_refl, Rat.le_refl, ?_, ?_, ?_⟩, h1⟩
    · rw [l]; exact evl_adj go.inc adp p1 p2
    · rw [l, h2]; exact evl_adj go.inc adp p1 p2
    · simp only [l]; exact ⟨p1, p2, p1, p2⟩
  · exact h.not_one.elim
theorem amid_flat {a b : Kn} (o : Mp) (h : b.2 = a.2) : amid a b o = [] := by
  unfold amid amidUp
  rw [if_neg (by grind)]
  rw [List.map_eq_nil_iff, List.filter_eq_nil_iff]
  intro k _
  simp only [decide_eq_true_eq]
  grind
theorem sec_any {lo hi : Rat} {M o : Mp} (go : Good lo hi o) {a b : Kn} (ad : Adj a b M) (h1 : a.1 < b.1) (ha : lo ≤ a.2 ∧ a.2 ≤ hi) (hb : lo ≤ b.2 ∧ b.2 ≤ hi) {u v : Kn}
    (hs : Adj u v ((a.1, evl o a.2) :: (amid a b o ++ [(b.1, evl o b.2)]))) : Sec M o u v := by
  by_cases e : b.2 = a.2
  · rw [amid_flat o e] at hs
    exact sec_flat go ad h1 e ha hs
  · unfold amid at hs
    split at hs
    · rename_i h
      exact sec_down go ad h1 h ha hb hs
    · exact sec_up go ad h1 (by grind) ha hb hs
theorem Adj.split {u v z : Kn} {r : Mp} : ∀ {l : Mp}, Adj u v (l ++ z :: r) → Adj u v (l ++ [z]) ∨ Adj u v (z :: r)
  | [], h => .inr h
  | [c], h => by
    rcases Adj.cases (c := c) (d := z) (r := r) h with ⟨rfl, rfl⟩ | h
    · exact .inl (Adj.head _ _ [])
    · exact .inr h
  | c :: d :: l, h => by
    rcases Adj.cases (c := c) (d := d) (r := l ++ z :: r) h with ⟨rfl, rfl⟩ | h
    · exact .inl (Adj.head _ _ _)
    · rcases Adj.split (l := d :: l) h with h | h
      · exact .inl h.cons
      · exact .inr h
theorem Sec.mono {M N o : Mp} {u v : Kn} (h : Sec M o u v) (k : ∀ a b, Adj a b M → Adj a b N) : Sec N o u v := by
  obtain ⟨⟨a, b, p, q, ad, z⟩, l⟩ := h
  exact ⟨⟨a, b, p, q, k _ _ ad, z⟩, l⟩
theorem raw_sec {lo hi : Rat} {o : Mp} (go : Good lo hi o) : ∀ {M : Mp}, Inc M → (∀ k ∈ M, lo ≤ k.2 ∧ k.2 ≤ hi) → ∀ {u v : Kn}, Adj u v (raw o M) → Sec M o u v
  | [], _, _, u, v, h => h.not_nil.elim
  | [a], _, _, u, v, h => h.not_one.elim
  | a :: b :: r, hi', ht, u, v, h => by
    have e : raw o (a :: b :: r) = ((a.1, evl o a.2) :: amid a b o) ++ (b.1, evl o b.2) :: raws o (b :: r) := rfl
    rw [e] at h
    rcases h.split with h | h
    · exact sec_any go (Adj.head a b r) hi'.1 (ht a (by simp)) (ht b (by simp)) h
    · exact (raw_sec go (M := b :: r) hi'.2 (fun k hk => ht k (List.mem_cons_of_mem _ hk)) h).mono fun _ _ q => q.cons
theorem Inc.of_adj : ∀ {M : Mp}, (∀ a b, Adj a b M → a.1 < b.1) → Inc M
  | [], _ => trivial
  | [_], _ => trivial
  | a :: b :: r, h => ⟨h a b (Adj.head a b r), Inc.of_adj fun c d q => h c d q.cons⟩
theorem raws_last {o : Mp} : ∀ {r : Mp} {a b z : Kn}, (a :: b :: r).getLast? = some z → (raws o (a :: b :: r)).getLast? = some (z.1, evl o z.2)
  | [], a, b, z, h => by
    simp at h; subst h
    show (amid a b o ++ [(b.1, evl o b.2)]).getLast? = _
    simp
  | c :: r, a, b, z, h => by
    have ih := raws_last (o := o) (r := r) (a := b) (b := c) (z := z) (by rw [List.getLast?_cons_cons] at h; exact h)
    show (amid a b o ++ (b.1, evl o b.2) :: raws o (b :: c :: r)).getLast? = _
    rw [List.getLast?_append, List.getLast?_cons, ih]
    rfl
theorem raw_two {o : Mp} {a b : Kn} {r : Mp} : 2 ≤ (raw o (a :: b :: r)).length := by
  show 2 ≤ ((a.1, evl o a.2) :: (amid a b o ++ (b.1, evl o b.2) :: raws o (b :: r))).length
  simp
  omega
theorem line_line {a b p q u v : Kn} (h : u.1 < v.1) (eu : u.2 = line p q (line a b u.1)) (ev : v.2 = line p q (line a b v.1)) : slope u v = slope p q * slope a b ∧ ∀ x, line u v x = line p q (line a b x) := by
  have s : slope u v = slope p q * slope a b := by
    have d : (v.2 - u.2) = slope p q * slope a b * (v.1 - u.1) := by
      rw [eu, ev]; unfold line; grind
    unfold slope at *
    rw [d]
    grind
  refine ⟨s, fun x => ?_⟩
  show u.2 + slope u v * (x - u.1) = _
  rw [s, eu]
  unfold line
  grind
theorem raw_good {lo hi : Rat} {M o : Mp} (g : Good lo hi M) (go : Good lo hi o) : Good lo hi (raw o M) ∧ ∀ x, lo ≤ x → x ≤ hi → evl (raw o M) x = evl o (evl M x) := by
  obtain ⟨a, b, r, z, rfl, ea, ez, e2, zm⟩ := g.ends
  have hs : ∀ {u v : Kn}, Adj u v (raw o (a :: b :: r)) → Sec (a :: b :: r) o u v := raw_sec go g.inc g.to
  have hi' : Inc (raw o (a :: b :: r)) := Inc.of_adj fun u v h => (hs h).lt
  have gd : Good lo hi (raw o (a :: b :: r)) := by
    refine ⟨hi', raw_two, ?_, ?_, ?_⟩
    · show some a.1 = some lo
      rw [ea]
    · have := raws_last (o := o) ez
      have e3 : (raw o (a :: b :: r)).getLast? = some (z.1, evl o z.2) := by
        show ((a.1, evl o a.2) :: raws o (a :: b :: r)).getLast? = _
        rw [List.getLast?_cons, this]; rfl
      rw [e3]
      show some z.1 = some hi
      rw [e2]
    · intro k hk
      -- each knot is an end of a pair
      have : ∃ u v, Adj u v (raw o (a :: b :: r)) ∧ (k = u ∨ k = v) := by
        obtain ⟨l, s, e⟩ := List.append_of_mem hk
        cases s with
        | cons d s => exact ⟨k, d, ⟨l, s, e⟩, .inl rfl⟩
        | nil =>
          rcases List.eq_nil_or_concat l with rfl | ⟨l', d, rfl⟩
          · have := raw_two (o := o) (a := a) (b := b) (r := r)
            rw [e] at this
            simp at this
          · exact ⟨d, k, ⟨l', [], by rw [e]; simp⟩, .inr rfl⟩
      obtain ⟨u, v, ad, hk⟩ := this
      obtain ⟨⟨c, d, p, q, ad1, ad2, z1, z2, z3, z4, z5, z6, z7, z8⟩, _⟩ := hs ad
      have r1 := line_between (ad2.lt go.inc) z5 z6 (go.to _ ad2.mem_left) (go.to _ ad2.mem_right)
      have r2 := line_between (ad2.lt go.inc) z7 z8 (go.to _ ad2.mem_left) (go.to _ ad2.mem_right)
      rcases hk with rfl | rfl
      · rw [z3]; exact r1
      · rw [z4]; exact r2
  refine ⟨gd, fun x h1 h2 => ?_⟩
  obtain ⟨u, v, ad, x1, x2⟩ := gd.piece h1 h2
  obtain ⟨⟨c, d, p, q, ad1, ad2, z1, z2, z3, z4, z5, z6, z7, z8⟩, lt⟩ := hs ad
  have L := line_line lt z3 z4
  rw [evl_adj hi' ad x1 x2, L.2, evl_adj g.inc ad1 (by grind) (by grind)]
  -- the value between lies in the piece p q
  have w1 : (u.1, line c d u.1).1 < (v.1, line c d v.1).1 := lt
  have w : p.1 ≤ line c d x ∧ line c d x ≤ q.1 := by
    have b := line_between (lo := p.1) (hi := q.1) w1 x1 x2 ⟨z5, z6⟩ ⟨z7, z8⟩
    have e : line (u.1, line c d u.1) (v.1, line c d v.1) x = line c d x := by
      have s : slope (u.1, line c d u.1) (v.1, line c d v.1) = slope c d := by
        have d2 : line c d v.1 - line c d u.1 = slope c d * (v.1 - u.1) := by unfold line; grind
        show (line c d v.1 - line c d u.1) / (v.1 - u.1) = _
        rw [d2]; grind
      show line c d u.1 + slope _ _ * (x - u.1) = _
      rw [s]; unfold line; grind
    rw [e] at b
    exact b
  rw [evl_adj go.inc ad2 w.1 w.2]
theorem least_good {lo hi : Rat} {M : Mp} (g : Good lo hi M) : Good lo hi (least M) := by
  obtain ⟨a, b, r, z, rfl, ea, ez, e2, zm⟩ := g.ends
  refine ⟨least_inc g.inc, least_len g.two, ?_, ?_, fun k hk => g.to k (least_sub.subset hk)⟩
  · show some a.1 = some lo; rw [ea]
  · have := lst_last (r := r) (a := a) (b := b)
    rw [List.getLast?_cons_cons] at ez
    rw [ez] at this
    show ((a :: lst a (b :: r)).getLast?).map _ = _
    rw [List.getLast?_cons, this]
    show some z.1 = _
    rw [e2]
theorem put_good {lo hi : Rat} {M o : Mp} (g : Good lo hi M) (go : Good lo hi o) : Good lo hi (put M o) := least_good (raw_good g go).1
theorem put_evl {lo hi : Rat} {M o : Mp} (g : Good lo hi M) (go : Good lo hi o) {x : Rat} (h1 : lo ≤ x) (h2 : x ≤ hi) : evl (put M o) x = evl o (evl M x) := by
  unfold put
  rw [least_evl (raw_good g go).1.inc]
  exact (raw_good g go).2 x h1 h2
theorem put_can {lo hi : Rat} {M o : Mp} (g : Good lo hi M) (go : Good lo hi o) : Can (put M o) := least_can (raw_good g go).1.inc
/-- two maps with as few knots as they need, of the same values, are one -/
theorem uniq {lo hi : Rat} {M N : Mp} (g : Good lo hi M) (g2 : Good lo hi N) (c1 : Can M) (c2 : Can N) (h : ∀ x, lo ≤ x → x ≤ hi → evl M x = evl N x) : M = N := by
  obtain ⟨a, b, r, z, rfl, ea, ez, e2, zm⟩ := g.ends
  obtain ⟨a', b', r', z', rfl, ea', ez', e2', zm'⟩ := g2.ends
  have ea1 : a.1 = a'.1 := ea.trans ea'.symm
  refine can_uniq g.inc g2.inc c1 c2 ?_ ez ez' (e2.trans e2'.symm) (fun x h1 h2 => h x (by grind) (by grind))
  refine Prod.ext ea1 ?_
  have k1 := g.knot (k := a) (by simp)
  have k2 := g2.knot (k := a') (by simp)
  have lh : lo ≤ hi := (g.at (k := a) (by simp)).2 |> fun q => by grind
  have := h a.1 (by grind) (by grind)
  rw [k1, ea1, k2] at this
  exact this
end BM
namespace BM
/-- the map at which each point stays -/
def idm (lo hi : Rat) : Mp := [(lo, lo), (hi, hi)]
def turned (lo hi : Rat) (M : Mp) : Nat → Mp
  | 0 => idm lo hi
  | n + 1 => put (turned lo hi M n) M
def itv (M : Mp) : Nat → Rat → Rat
  | 0, x => x
  | n + 1, x => evl M (itv M n x)
theorem Good.lohi {lo hi : Rat} {M : Mp} (g : Good lo hi M) : lo < hi := by
  obtain ⟨a, b, r, z, rfl, ea, ez, e2, zm⟩ := g.ends
  have := g.inc.head_lt zm
  grind
theorem idm_good {lo hi : Rat} (h : lo < hi) : Good lo hi (idm lo hi) := by
  refine ⟨⟨h, trivial⟩, by simp [idm], rfl, rfl, fun k hk => ?_⟩
  rcases List.mem_cons.mp hk with rfl | hk
  · exact ⟨Rat.le_refl, Rat.le_of_lt h⟩
  · rw [List.mem_singleton.mp hk]
    exact ⟨Rat.le_of_lt h, Rat.le_refl⟩
theorem idm_evl {lo hi : Rat} (h : lo < hi) {x : Rat} (h2 : x ≤ hi) : evl (idm lo hi) x = x := by
  show (if x ≤ hi then line (lo, lo) (hi, hi) x else _) = _
  rw [if_pos h2]
  unfold line slope
  simp only
  grind
theorem turned_good {lo hi : Rat} {M : Mp} (g : Good lo hi M) : ∀ n, Good lo hi (turned lo hi M n)
  | 0 => idm_good g.lohi
  | n + 1 => put_good (turned_good g n) g
theorem turned_can {lo hi : Rat} {M : Mp} (g : Good lo hi M) : ∀ n, Can (turned lo hi M n)
  | 0 => trivial
  | n + 1 => put_can (turned_good g n) g
theorem turned_evl {lo hi : Rat} {M : Mp} (g : Good lo hi M) : ∀ n {x : Rat}, lo ≤ x → x ≤ hi → evl (turned lo hi M n) x = itv M n x
  | 0, x, _, h2 => idm_evl g.lohi h2
  | n + 1, x, h1, h2 => by
    show evl (put (turned lo hi M n) M) x = _
    rw [put_evl (turned_good g n) g h1 h2, turned_evl g n h1 h2]
    rfl
theorem itv_add {M : Mp} (m : Nat) (x : Rat) : ∀ n, itv M n (itv M m x) = itv M (m + n) x
  | 0 => rfl
  | n + 1 => by
    show evl M (itv M n (itv M m x)) = evl M (itv M (m + n) x)
    rw [itv_add m x n]
theorem itv_in {lo hi : Rat} {M : Mp} (g : Good lo hi M) {x : Rat} (h1 : lo ≤ x) (h2 : x ≤ hi) : ∀ n, lo ≤ itv M n x ∧ itv M n x ≤ hi
  | 0 => ⟨h1, h2⟩
  | n + 1 => g.evl_in (itv_in g h1 h2 n).1 (itv_in g h1 h2 n).2
/-- turned so many and so many times -/
theorem law_turns {lo hi : Rat} {M : Mp} (g : Good lo hi M) (m n : Nat) : put (turned lo hi M m) (turned lo hi M n) = turned lo hi M (m + n) := by
  refine uniq (put_good (turned_good g m) (turned_good g n)) (turned_good g _) (put_can (turned_good g m) (turned_good g n)) (turned_can g _) fun x h1 h2 => ?_
  have i := itv_in g h1 h2 m
  rw [put_evl (turned_good g m) (turned_good g n) h1 h2, turned_evl g m h1 h2, turned_evl g n i.1 i.2, itv_add, turned_evl g _ h1 h2]
theorem law_stays1 {lo hi : Rat} {M : Mp} (g : Good lo hi M) : put (idm lo hi) M = least M := by
  refine uniq (put_good (idm_good g.lohi) g) (least_good g) (put_can (idm_good g.lohi) g) (least_can g.inc) fun x h1 h2 => ?_
  rw [put_evl (idm_good g.lohi) g h1 h2, idm_evl g.lohi h2, least_evl g.inc]
theorem law_stays2 {lo hi : Rat} {M : Mp} (g : Good lo hi M) : put M (idm lo hi) = least M := by
  refine uniq (put_good g (idm_good g.lohi)) (least_good g) (put_can g (idm_good g.lohi)) (least_can g.inc) fun x h1 h2 => ?_
  have := g.evl_in h1 h2
  rw [put_evl g (idm_good g.lohi) h1 h2, idm_evl g.lohi this.2, least_evl g.inc]
/-! ### turned over -/
def ngk (k : Kn) : Kn := (-k.1, -k.2)
def ng (M : Mp) : Mp := (M.reverse).map ngk
theorem ngk_ngk (k : Kn) : ngk (ngk k) = k := by
  unfold ngk; simp [Rat.neg_neg]
theorem ng_ng (M : Mp) : ng (ng M) = M := by
  unfold ng
  rw [← List.map_reverse, List.reverse_reverse, List.map_map]
  have : (ngk ∘ ngk) = id := funext ngk_ngk
  rw [this, List.map_id]
theorem ng_adj {M : Mp} {a b : Kn} (h : Adj a b M) : Adj (ngk b) (ngk a) (ng M) := by
  obtain ⟨l, r, rfl⟩ := h
  exact ⟨(r.reverse).map ngk, (l.reverse).map ngk, by simp [ng]⟩
theorem ng_adj' {M : Mp} {a b : Kn} (h : Adj a b (ng M)) : ∃ c d, Adj c d M ∧ a = ngk d ∧ b = ngk c := by
  have := ng_adj h
  rw [ng_ng] at this
  exact ⟨_, _, this, (ngk_ngk _).symm, (ngk_ngk _).symm⟩
theorem ng_slope (a b : Kn) : slope (ngk b) (ngk a) = slope a b := by
  unfold slope ngk
  simp only
  have e1 : -a.2 - -b.2 = b.2 - a.2 := by grind
  have e2 : -a.1 - -b.1 = b.1 - a.1 := by grind
  rw [e1, e2]
theorem ng_line {a b : Kn} (h : a.1 < b.1) (x : Rat) : line (ngk b) (ngk a) (-x) = - line a b x := by
  unfold line
  rw [ng_slope]
  have e := line_right h
  unfold line at e
  show -b.2 + slope a b * (-x - -b.1) = _
  grind
theorem ng_inc {M : Mp} (h : Inc M) : Inc (ng M) := Inc.of_adj fun a b q => by
  obtain ⟨c, d, ad, rfl, rfl⟩ := ng_adj' q
  have := ad.lt h
  show -d.1 < -c.1
  grind
theorem ng_good {lo hi : Rat} {M : Mp} (g : Good lo hi M) : Good (-hi) (-lo) (ng M) := by
  obtain ⟨g1, g2, g3, g4, g5⟩ := g
  refine ⟨ng_inc g1, by simpa [ng] using g2, ?_, ?_, fun k hk => ?_⟩
  · unfold ng
    rw [List.head?_map, List.head?_reverse]
    cases e : M.getLast? with
    | none => rw [e] at g4; cases g4
    | some z => rw [e] at g4; simp at g4 ⊢; rw [← g4]; rfl
  · unfold ng
    rw [List.getLast?_map, List.getLast?_reverse]
    cases e : M.head? with
    | none => rw [e] at g3; cases g3
    | some z => rw [e] at g3; simp at g3 ⊢; rw [← g3]; rfl
  · obtain ⟨j, hj, rfl⟩ := List.mem_map.mp hk
    have := g5 j (List.mem_reverse.mp hj)
    show -hi ≤ -j.2 ∧ -j.2 ≤ -lo
    grind
theorem ng_evl {lo hi : Rat} {M : Mp} (g : Good lo hi M) {x : Rat} (h1 : -hi ≤ x) (h2 : x ≤ -lo) : evl (ng M) x = - evl M (-x) := by
  obtain ⟨a, b, ad, x1, x2⟩ := g.piece (x := -x) (by grind) (by grind)
  have := ad.lt g.inc
  rw [evl_adj g.inc ad x1 x2, evl_adj (ng_inc g.inc) (ng_adj ad) (x := x) (by show -b.1 ≤ x; grind) (by show x ≤ -a.1; grind), ← ng_line this, Rat.neg_neg]
theorem ng_can {M : Mp} (h : Can M) : Can (ng M) := Can.of fun l a b c r e => by
  have e2 := congrArg ng e
  rw [ng_ng] at e2
  have e3 : M = ng r ++ ngk c :: ngk b :: ngk a :: ng l := by
    rw [e2]; simp [ng]
  have := Can.to h _ _ _ _ _ e3
  have s1 := ng_slope (ngk c) (ngk b)
  have s2 := ng_slope (ngk b) (ngk a)
  rw [ngk_ngk, ngk_ngk] at s1 s2
  intro q
  exact this (s1.symm.trans (q.symm.trans s2))
theorem law_over {lo hi : Rat} {M o : Mp} (g : Good lo hi M) (go : Good lo hi o) : put (ng M) (ng o) = ng (put M o) := by
  have gp := put_good g go
  refine uniq (put_good (ng_good g) (ng_good go)) (ng_good gp) (put_can (ng_good g) (ng_good go)) (ng_can (put_can g go)) fun x h1 h2 => ?_
  have i := g.evl_in (x := -x) (by grind) (by grind)
  rw [put_evl (ng_good g) (ng_good go) h1 h2, ng_evl gp h1 h2, put_evl g go (by grind) (by grind), ng_evl g h1 h2, ng_evl go (by grind) (by grind), Rat.neg_neg]
/-! ### how many knots -/
theorem amid_len {a b : Kn} {p q : Kn} {r : Mp} {lo hi : Rat} (ep : p.1 = lo) (eq : ∃ z, (p :: q :: r).getLast? = some z ∧ z.1 = hi) (ha : lo ≤ a.2 ∧ a.2 ≤ hi) (hb : lo ≤ b.2 ∧ b.2 ≤ hi) : (amid a b (p :: q :: r)).length ≤ r.length := by
  have l1 : (amid a b (p :: q :: r)).length = (amidUp a b (p :: q :: r)).length := by
    unfold amid; split <;> simp
  rw [l1]
  unfold amidUp
  rw [List.length_map]
  obtain ⟨z, ez, ez2⟩ := eq
  rw [List.getLast?_cons_cons] at ez
  have e1 : (q :: r) = (q :: r).dropLast ++ [z] := by
    have n : (q :: r) ≠ [] := by simp
    have h2 := List.dropLast_concat_getLast n
    have h3 := List.getLast?_eq_some_getLast n
    rw [h3] at ez
    rw [← Option.some.inj ez]
    exact h2.symm
  rw [e1, List.filter_cons, if_neg, List.filter_append]
  · have : [z].filter (fun k => decide ((a.2 < k.1 ∧ k.1 < b.2) ∨ (b.2 < k.1 ∧ k.1 < a.2))) = [] := by
      rw [List.filter_eq_nil_iff]
      intro k hk
      rw [List.mem_singleton.mp hk]
      simp only [decide_eq_true_eq]
      grind
    rw [this, List.append_nil]
    refine Nat.le_trans (List.length_filter_le _ _) ?_
    simp
  · simp only [decide_eq_true_eq]
    grind
theorem raws_len {lo hi : Rat} {o : Mp} (go : Good lo hi o) : ∀ {r : Mp} {a : Kn}, (∀ k ∈ a :: r, lo ≤ k.2 ∧ k.2 ≤ hi) → (raws o (a :: r)).length ≤ r.length * (o.length - 1)
  | [], _, _ => by simp [raws]
  | b :: r, a, h => by
    have ih := raws_len go (r := r) (a := b) fun k hk => h k (List.mem_cons_of_mem _ hk)
    obtain ⟨p, q, s, z, rfl, ea, ez, e2, zm⟩ := go.ends
    have := amid_len (a := a) (b := b) ea ⟨z, ez, e2⟩ (h a (by simp)) (h b (by simp))
    show (amid a b (p :: q :: s) ++ (b.1, _) :: raws _ (b :: r)).length ≤ _
    simp only [List.length_append, List.length_cons] at *
    have e : (s.length + 1 + 1 - 1) = s.length + 1 := by omega
    rw [e] at ih ⊢
    rw [Nat.succ_mul]
    omega
theorem raw_len {lo hi : Rat} {M o : Mp} (g : Good lo hi M) (go : Good lo hi o) : (raw o M).length ≤ (M.length - 1) * (o.length - 1) + 1 := by
  obtain ⟨a, b, r, z, rfl, _⟩ := g.ends
  have := raws_len go (r := b :: r) (a := a) g.to
  show (raws o (a :: b :: r)).length + 1 ≤ _
  simp only [List.length_cons] at *
  have e : r.length + 1 + 1 - 1 = r.length + 1 := by omega
  rw [e]
  omega
theorem put_len {lo hi : Rat} {M o : Mp} (g : Good lo hi M) (go : Good lo hi o) : (put M o).length ≤ (M.length - 1) * (o.length - 1) + 1 := Nat.le_trans least_sub.length_le (raw_len g go)
theorem turned_len {lo hi : Rat} {M : Mp} (g : Good lo hi M) : ∀ n, (turned lo hi M n).length ≤ (M.length - 1) ^ n + 1
  | 0 => by simp [turned, idm]
  | n + 1 => by
    have ih := turned_len g n
    refine Nat.le_trans (put_len (turned_good g n) g) ?_
    rw [Nat.pow_succ]
    have := Nat.mul_le_mul_right (M.length - 1) (Nat.sub_le_sub_right ih 1)
    rw [Nat.add_sub_cancel] at this
    omega
end BM
/-! laps -/
namespace BM
def sg (x : Rat) : Int := if 0 < x then 1 else if x < 0 then -1 else 0
/-- the way behind a rise of sign s -/
def wy (w s : Int) : Int := if s = 0 then w else s
def tn (w s : Int) : Nat := if s * w < 0 then 1 else 0
def lapv (w : Int) : List Rat → Nat
  | a :: b :: r => tn w (sg (b - a)) + lapv (wy w (sg (b - a))) (b :: r)
  | _ => 0
def stv (w : Int) : List Rat → Int
  | a :: b :: r => stv (wy w (sg (b - a))) (b :: r)
  | _ => w
def laps (M : Mp) : Nat := 1 + lapv 0 (M.map (·.2))
def Sgn (w : Int) : Prop := w = 0 ∨ w = 1 ∨ w = -1
theorem sg_sgn (x : Rat) : Sgn (sg x) := by unfold sg Sgn; split <;> (try split) <;> simp
theorem wy_sgn {w s : Int} (h : Sgn w) (h2 : Sgn s) : Sgn (wy w s) := by unfold wy; split <;> assumption
theorem sg_pos {x : Rat} (h : 0 < x) : sg x = 1 := by unfold sg; rw [if_pos h]
theorem sg_neg {x : Rat} (h : x < 0) : sg x = -1 := by unfold sg; rw [if_neg (by grind), if_pos h]
theorem sg_zero {x : Rat} (h : x = 0) : sg x = 0 := by unfold sg; rw [if_neg (by grind), if_neg (by grind)]
theorem sg_cases (x : Rat) : (0 < x ∧ sg x = 1) ∨ (x < 0 ∧ sg x = -1) ∨ (x = 0 ∧ sg x = 0) := by
  by_cases h : 0 < x
  · exact .inl ⟨h, sg_pos h⟩
  · by_cases h2 : x < 0
    · exact .inr (.inl ⟨h2, sg_neg h2⟩)
    · exact .inr (.inr ⟨by grind, sg_zero (by grind)⟩)
/-- the first way -/
def fst : List Rat → Int
  | a :: b :: r => if sg (b - a) = 0 then fst (b :: r) else sg (b - a)
  | _ => 0
theorem fst_sgn : ∀ l, Sgn (fst l)
  | [] => .inl rfl
  | [_] => .inl rfl
  | a :: b :: r => by
    unfold fst
    split
    · exact fst_sgn (b :: r)
    · exact sg_sgn _
theorem tn_mul (w s : Int) : tn w s = tn s w := by unfold tn; rw [Int.mul_comm]
/-- what the way ahead adds -/
theorem lapv_way : ∀ (l : List Rat) (w : Int), lapv w l = tn w (fst l) + lapv 0 l
  | [], w => by simp [lapv, fst, tn]
  | [_], w => by simp [lapv, fst, tn]
  | a :: b :: r, w => by
    unfold lapv fst
    by_cases h : sg (b - a) = 0
    · rw [if_pos h, h]
      have ih := lapv_way (b :: r) w
      simp [wy, tn] at *
      exact ih
    · rw [if_neg h]
      simp [wy, h, tn]
theorem tn_le (w s : Int) : tn w s ≤ 1 := by unfold tn; split <;> omega
theorem lapv_le (l : List Rat) (w : Int) : lapv w l ≤ 1 + lapv 0 l := by
  rw [lapv_way]; have := tn_le w (fst l); omega
theorem lapv_ge (l : List Rat) (w : Int) : lapv 0 l ≤ lapv w l := by
  rw [lapv_way l w]; omega
theorem lapv_app : ∀ (l : List Rat) (w : Int) (m : Rat) (r : List Rat), lapv w (l ++ m :: r) = lapv w (l ++ [m]) + lapv (stv w (l ++ [m])) (m :: r)
  | [], w, m, r => by simp [lapv, stv]
  | [a], w, m, r => by simp [lapv, stv]
  | a :: b :: l, w, m, r => by
    have ih := lapv_app (b :: l) (wy w (sg (b - a))) m r
    show tn w _ + lapv _ (b :: l ++ m :: r) = tn w _ + lapv _ (b :: l ++ [m]) + lapv (stv _ (b :: l ++ [m])) (m :: r)
    rw [ih]; omega
theorem stv_app : ∀ (l : List Rat) (w : Int) (m : Rat) (r : List Rat), stv w (l ++ m :: r) = stv (stv w (l ++ [m])) (m :: r)
  | [], w, m, r => by simp [stv]
  | [a], w, m, r => by simp [stv]
  | a :: b :: l, w, m, r => by
    have ih := stv_app (b :: l) (wy w (sg (b - a))) m r
    exact ih
theorem stv_sgn : ∀ (l : List Rat) (w : Int), Sgn w → Sgn (stv w l)
  | [], w, h => h
  | [_], w, h => h
  | a :: b :: r, w, h => stv_sgn (b :: r) _ (wy_sgn h (sg_sgn _))
theorem stv_wy : ∀ (l : List Rat) (w : Int), stv w l = wy w (stv 0 l)
  | [], w => by simp [stv, wy]
  | [_], w => by simp [stv, wy]
  | a :: b :: r, w => by
    have h1 := stv_wy (b :: r) (wy w (sg (b - a)))
    have h2 := stv_wy (b :: r) (wy 0 (sg (b - a)))
    show stv (wy w (sg (b - a))) (b :: r) = wy w (stv (wy 0 (sg (b - a))) (b :: r))
    rw [h1, h2]
    unfold wy
    grind
theorem fst_rev : ∀ (l : List Rat), fst l.reverse = - stv 0 l
  | [] => rfl
  | [_] => rfl
  | a :: b :: r => by
    have ih := fst_rev (b :: r)
    have app : ∀ (l : List Rat) (x y : Rat), fst (l ++ [x, y]) = if fst (l ++ [x]) = 0 then sg (y - x) else fst (l ++ [x]) := by
      intro l
      induction l with
      | nil => intro x y; simp [fst]; grind
      | cons c l ihl =>
        intro x y
        cases l with
        | nil =>
          have := ihl x y
          simp [fst] at *
          grind
        | cons d l =>
          have := ihl x y
          show (if sg (d - c) = 0 then fst (d :: l ++ [x, y]) else sg (d - c)) = if (if sg (d - c) = 0 then fst (d :: l ++ [x]) else sg (d - c)) = 0 then sg (y - x) else (if sg (d - c) = 0 then fst (d :: l ++ [x]) else sg (d - c))
          rw [this]
          grind
    have e : (a :: b :: r).reverse = r.reverse ++ [b, a] := by simp
    have e2 : r.reverse ++ [b] = (b :: r).reverse := by simp
    rw [e, app, e2, ih]
    show _ = - stv (wy 0 (sg (b - a))) (b :: r)
    rw [stv_wy (b :: r) (wy 0 (sg (b - a)))]
    have n : sg (a - b) = - sg (b - a) := by
      rcases sg_cases (a - b) with ⟨p, q⟩ | ⟨p, q⟩ | ⟨p, q⟩
      · rw [q, sg_neg (by grind)]; rfl
      · rw [q, sg_pos (by grind)]
      · rw [q, sg_zero (by grind)]; rfl
    rw [n]
    unfold wy
    grind
theorem lapv_rev : ∀ (l : List Rat), lapv 0 l.reverse = lapv 0 l
  | [] => rfl
  | [_] => rfl
  | a :: b :: r => by
    have ih := lapv_rev (b :: r)
    have e : (a :: b :: r).reverse = r.reverse ++ b :: [a] := by simp
    have e2 : r.reverse ++ [b] = (b :: r).reverse := by simp
    rw [e, lapv_app, e2, ih]
    show lapv 0 (b :: r) + (tn (stv 0 (b :: r).reverse) (sg (a - b)) + 0) = tn 0 (sg (b - a)) + lapv (wy 0 (sg (b - a))) (b :: r)
    rw [lapv_way (b :: r) (wy 0 (sg (b - a)))]
    have f := fst_rev (b :: r).reverse
    rw [List.reverse_reverse] at f
    have n : sg (a - b) = - sg (b - a) := by
      rcases sg_cases (a - b) with ⟨p, q⟩ | ⟨p, q⟩ | ⟨p, q⟩
      · rw [q, sg_neg (by grind)]; rfl
      · rw [q, sg_pos (by grind)]
      · rw [q, sg_zero (by grind)]; rfl
    have g : stv 0 (b :: r).reverse = - fst (b :: r) := by omega
    rw [g, n]
    have t0 : tn 0 (sg (b - a)) = 0 := by simp [tn]
    rw [t0]
    have t1 : tn (-fst (b :: r)) (-sg (b - a)) = tn (wy 0 (sg (b - a))) (fst (b :: r)) := by
      have tt : ∀ x y : Int, tn (-x) (-y) = tn (wy 0 y) x := by
        intro x y
        unfold tn wy
        rw [Int.neg_mul_neg]
        by_cases hy : y = 0
        · rw [if_pos hy, hy, Int.zero_mul, Int.mul_zero]
        · rw [if_neg hy, Int.mul_comm]
      exact tt _ _
    rw [t1]
    omega
/-- a value between -/
theorem lapv_ins {w : Int} {a m c : Rat} {r : List Rat} (hw : Sgn w) (h : (a ≤ m ∧ m ≤ c) ∨ (c ≤ m ∧ m ≤ a)) : lapv w (a :: m :: c :: r) = lapv w (a :: c :: r) := by
  show tn w (sg (m - a)) + (tn (wy w (sg (m - a))) (sg (c - m)) + lapv (wy (wy w (sg (m - a))) (sg (c - m))) (c :: r)) = tn w (sg (c - a)) + lapv (wy w (sg (c - a))) (c :: r)
  have k : tn w (sg (m - a)) + tn (wy w (sg (m - a))) (sg (c - m)) = tn w (sg (c - a)) ∧ wy (wy w (sg (m - a))) (sg (c - m)) = wy w (sg (c - a)) := by
    rcases sg_cases (m - a) with ⟨p, q⟩ | ⟨p, q⟩ | ⟨p, q⟩ <;> rcases sg_cases (c - m) with ⟨p2, q2⟩ | ⟨p2, q2⟩ | ⟨p2, q2⟩ <;> rcases sg_cases (c - a) with ⟨p3, q3⟩ | ⟨p3, q3⟩ | ⟨p3, q3⟩ <;>
      first
        | (exfalso; grind)
        | (rw [q, q2, q3]; rcases hw with rfl | rfl | rfl <;> decide)
  rw [k.2]; omega
theorem lapv_dup {w : Int} {a : Rat} {r : List Rat} : lapv w (a :: a :: r) = lapv w (a :: r) := by
  show tn w (sg (a - a)) + lapv (wy w (sg (a - a))) (a :: r) = _
  rw [sg_zero (by grind)]
  simp [tn, wy]
/-- the state behind a value between -/
theorem lapv_ins_app {w : Int} (hw : Sgn w) (l : List Rat) {a m c : Rat} {r : List Rat} (h : (a ≤ m ∧ m ≤ c) ∨ (c ≤ m ∧ m ≤ a)) : lapv w (l ++ a :: m :: c :: r) = lapv w (l ++ a :: c :: r) := by
  rw [lapv_app l w a (m :: c :: r), lapv_app l w a (c :: r), lapv_ins (stv_sgn _ _ hw) h]
end BM
/-! laps of a map behind another one -/
namespace BM
/-- laps of least knots, at most as many as pieces -/
theorem lst_lapv : ∀ {r : Mp} {a : Kn} {w : Int}, Inc (a :: r) → Sgn w → lapv w ((a :: lst a r).map (·.2)) = lapv w ((a :: r).map (·.2))
  | [], _, _, _, _ => by simp [lst]
  | [b], _, _, _, _ => by simp [lst]
  | b :: c :: r, a, w, h, hw => by
    unfold lst
    split
    · rename_i e
      rw [lst_lapv h.drop2 hw]
      show lapv w (a.2 :: c.2 :: r.map (·.2)) = lapv w (a.2 :: b.2 :: c.2 :: r.map (·.2))
      refine (lapv_ins hw ?_).symm
      have h1 := h.1
      have h2 := h.2.1
      rcases sg_cases (slope a b) with ⟨p, _⟩ | ⟨p, _⟩ | ⟨p, _⟩
      · have := line_right h1; have := line_right h2
        have e1 := Rat.mul_pos p (show 0 < b.1 - a.1 by grind)
        have e2 := Rat.mul_pos (show 0 < slope b c by grind) (show 0 < c.1 - b.1 by grind)
        unfold line at *
        left; grind
      · have := line_right h1; have := line_right h2
        have e1 := Rat.mul_pos (show 0 < - slope a b by grind) (show 0 < b.1 - a.1 by grind)
        have e2 := Rat.mul_pos (show 0 < - slope b c by grind) (show 0 < c.1 - b.1 by grind)
        unfold line at *
        right; grind
      · have := line_right h1; have := line_right h2
        unfold line at *
        left; grind
    · have ih := lst_lapv (r := c :: r) (a := b) (w := wy w (sg (b.2 - a.2))) h.2 (wy_sgn hw (sg_sgn _))
      show tn w _ + lapv _ ((b :: lst b (c :: r)).map (·.2)) = tn w _ + lapv _ ((b :: c :: r).map (·.2))
      rw [ih]
theorem least_laps {M : Mp} (h : Inc M) : laps (least M) = laps M := by
  unfold laps
  cases M with
  | nil => rfl
  | cons a r =>
    show 1 + lapv 0 ((a :: lst a r).map (·.2)) = _
    rw [lst_lapv h (.inl rfl)]
theorem lapv_len : ∀ (l : List Rat) (w : Int), lapv w l ≤ l.length - 1
  | [], _ => by simp [lapv]
  | [_], _ => by simp [lapv]
  | a :: b :: r, w => by
    have ih := lapv_len (b :: r) (wy w (sg (b - a)))
    have := tn_le w (sg (b - a))
    show tn w _ + lapv _ (b :: r) ≤ _
    simp only [List.length_cons] at *
    omega
theorem lapv0_len (l : List Rat) (h : 2 ≤ l.length) : lapv 0 l ≤ l.length - 2 := by
  match l, h with
  | a :: b :: r, _ =>
    have := lapv_len (b :: r) (wy 0 (sg (b - a)))
    show tn 0 _ + lapv _ (b :: r) ≤ _
    have t0 : tn 0 (sg (b - a)) = 0 := by simp [tn]
    simp only [List.length_cons] at *
    omega
theorem law_laps_pieces {M : Mp} (h : Inc M) (h2 : 2 ≤ M.length) : laps M ≤ (least M).length - 1 := by
  have l2 := least_len h2
  rw [← least_laps h]
  unfold laps
  have := lapv0_len ((least M).map (·.2)) (by simpa using l2)
  rw [List.length_map] at this
  omega
/-! the ways up and down from a value -/
def upl (o : Mp) (y : Rat) : List Rat := evl o y :: (o.filter fun k => decide (y < k.1)).map (·.2)
def dnl (o : Mp) (y : Rat) : List Rat := evl o y :: ((o.filter fun k => decide (k.1 < y)).reverse).map (·.2)
theorem filter_split {o : Mp} (h : o.Pairwise (fun a b => a.1 < b.1)) {y z : Rat} (yz : y < z) : (o.filter fun k => decide (y < k.1)) = (o.filter fun k => decide (y < k.1 ∧ k.1 < z)) ++ ((o.filter fun k => decide (k.1 = z)) ++ (o.filter fun k => decide (z < k.1))) := by
  induction o with
  | nil => rfl
  | cons a o ih =>
    cases h with
    | cons h1 h2 =>
      have ih := ih h2
      simp only [List.filter_cons]
      by_cases c1 : y < a.1
      · rw [if_pos (decide_eq_true c1)]
        by_cases c2 : a.1 < z
        · rw [if_pos (decide_eq_true ⟨c1, c2⟩), if_neg (by simp; grind), if_neg (by simp; grind), ih]
          rfl
        · -- nothing behind lies below z
          have e1 : (o.filter fun k => decide (y < k.1 ∧ k.1 < z)) = [] := by
            rw [List.filter_eq_nil_iff]
            intro k hk
            have := h1 k hk
            simp only [decide_eq_true_eq]; grind
          have e2 : (o.filter fun k => decide (k.1 = z)) = [] := by
            rw [List.filter_eq_nil_iff]
            intro k hk
            have := h1 k hk
            simp only [decide_eq_true_eq]; grind
          rw [e1, e2] at ih
          rw [if_neg (by simp; grind), ih, e1, e2]
          by_cases c3 : a.1 = z
          · rw [if_pos (by simpa using c3), if_neg (by simp; grind)]
            rfl
          · rw [if_neg (by simpa using c3), if_pos (by simp; grind)]
            rfl
      · rw [if_neg (by simpa using c1), if_neg (by simp; grind), if_neg (by simp; grind), if_neg (by simp; grind), ih]
theorem filter_eq_one {o : Mp} (h : o.Pairwise (fun a b => a.1 < b.1)) {z : Rat} : (o.filter fun k => decide (k.1 = z)) = [] ∨ ∃ k ∈ o, k.1 = z ∧ (o.filter fun k => decide (k.1 = z)) = [k] := by
  induction o with
  | nil => exact .inl rfl
  | cons a o ih =>
    cases h with
    | cons h1 h2 =>
      simp only [List.filter_cons]
      by_cases c : a.1 = z
      · rw [if_pos (by simpa using c)]
        refine .inr ⟨a, by simp, c, ?_⟩
        have e2 : (o.filter fun k => decide (k.1 = z)) = [] := by
          rw [List.filter_eq_nil_iff]
          intro k hk
          have := h1 k hk
          simp only [decide_eq_true_eq]; grind
        rw [e2]
      · rw [if_neg (by simpa using c)]
        rcases ih h2 with e | ⟨k, hk, e1, e2⟩
        · exact .inl e
        · exact .inr ⟨k, List.mem_cons_of_mem _ hk, e1, e2⟩
/-- a value on a piece lies between the piece's ends -/
theorem line_mid {a b : Kn} (h : a.1 < b.1) {x : Rat} (h1 : a.1 ≤ x) (h2 : x ≤ b.1) : (a.2 ≤ line a b x ∧ line a b x ≤ b.2) ∨ (b.2 ≤ line a b x ∧ line a b x ≤ a.2) := by
  by_cases c : a.2 ≤ b.2
  · exact .inl (line_between h h1 h2 ⟨Rat.le_refl, c⟩ ⟨c, Rat.le_refl⟩)
  · have c' : b.2 ≤ a.2 := by grind
    exact .inr (line_between h h1 h2 ⟨c', Rat.le_refl⟩ ⟨Rat.le_refl, c'⟩)
/-- three points of one piece -/
theorem line_mid3 {a b : Kn} (h : a.1 < b.1) {x y z : Rat} (h1 : x ≤ y) (h2 : y ≤ z) : (line a b x ≤ line a b y ∧ line a b y ≤ line a b z) ∨ (line a b z ≤ line a b y ∧ line a b y ≤ line a b x) := by
  have e1 : line a b y - line a b x = slope a b * (y - x) := by unfold line; grind
  have e2 : line a b z - line a b y = slope a b * (z - y) := by unfold line; grind
  by_cases c : 0 ≤ slope a b
  · have p1 := Rat.mul_nonneg c (show 0 ≤ y - x by grind)
    have p2 := Rat.mul_nonneg c (show 0 ≤ z - y by grind)
    left; grind
  · have p1 := Rat.mul_nonneg (show 0 ≤ -slope a b by grind) (show 0 ≤ y - x by grind)
    have p2 := Rat.mul_nonneg (show 0 ≤ -slope a b by grind) (show 0 ≤ z - y by grind)
    right; grind
end BM
namespace BM
def btw (t t' : Rat) (o : Mp) : List Rat := (o.filter fun k => decide (t < k.1 ∧ k.1 < t')).map (·.2)
theorem up_move {lo hi : Rat} {o : Mp} (g : Good lo hi o) {t t' : Rat} (h1 : lo ≤ t) (h2 : t < t') (h3 : t' ≤ hi) {w : Int} (hw : Sgn w) :
    lapv w (upl o t) = lapv w (evl o t :: btw t t' o ++ [evl o t']) + lapv (stv w (evl o t :: btw t t' o ++ [evl o t'])) (upl o t') := by
  have P := g.inc.pair
  have fs := filter_split P (y := t) (z := t') h2
  have e0 : upl o t = evl o t :: ((o.filter fun k => decide (t < k.1 ∧ k.1 < t')) ++ ((o.filter fun k => decide (k.1 = t')) ++ (o.filter fun k => decide (t' < k.1)))).map (·.2) := by
    unfold upl; rw [fs]
  rcases filter_eq_one P (z := t') with eE | ⟨k, hk, k1, eE⟩
  · -- t' is no knot
    rw [eE, List.nil_append] at e0
    obtain ⟨a0, b0, r0, z, rfl, ea, ez, e2, zm⟩ := g.ends
    have nk : ∀ k ∈ a0 :: b0 :: r0, k.1 ≠ t' := fun k hk e => by
      have : k ∈ (a0 :: b0 :: r0).filter fun k => decide (k.1 = t') := List.mem_filter.mpr ⟨hk, by simpa using e⟩
      rw [eE] at this; cases this
    generalize ho : a0 :: b0 :: r0 = o at *
    have zo : z ∈ o := by rw [← ho]; exact List.mem_cons_of_mem _ zm
    have zG : z ∈ o.filter fun k => decide (t' < k.1) := List.mem_filter.mpr ⟨zo, by have := nk z zo; simp; grind⟩
    cases eG : o.filter (fun k => decide (t' < k.1)) with
    | nil => rw [eG] at zG; cases zG
    | cons gk G =>
      rw [eG] at e0
      have gm : gk ∈ o ∧ t' < gk.1 := by
        have : gk ∈ o.filter fun k => decide (t' < k.1) := by rw [eG]; simp
        have := List.mem_filter.mp this
        exact ⟨this.1, of_decide_eq_true this.2⟩
      have gmin : ∀ k ∈ o, t' < k.1 → gk.1 ≤ k.1 := fun k hk hk2 => by
        have m : k ∈ o.filter fun k => decide (t' < k.1) := List.mem_filter.mpr ⟨hk, by simpa using hk2⟩
        rw [eG] at m
        have S := P.filter fun k => decide (t' < k.1)
        rw [eG] at S
        rcases List.mem_cons.mp m with rfl | m
        · exact Rat.le_refl
        · cases S with
          | cons s1 s2 => exact Rat.le_of_lt (s1 k m)
      -- the last point ahead of t'
      have key : ∀ (l : List Rat) (y0 : Rat), lo ≤ y0 → y0 < t' → (∀ k ∈ o, y0 < k.1 → k.1 < t' → False) → evl o t :: btw t t' o = l ++ [evl o y0] →
          lapv w (upl o t) = lapv w (evl o t :: btw t t' o ++ [evl o t']) + lapv (stv w (evl o t :: btw t t' o ++ [evl o t'])) (upl o t') := by
        intro l y0 c1 c2 c3 c4
        obtain ⟨p, q, adp, pu, vq⟩ := g.gap (u := y0) (v := gk.1) c1 (by grind) (g.at gm.1).2 (fun k hk ⟨k1, k2⟩ => by
          by_cases c : k.1 < t'
          · exact c3 k hk k1 c
          · have := nk k hk
            have := gmin k hk (by grind)
            grind)
        have lp := adp.lt g.inc
        have v1 := evl_adj g.inc adp (x := y0) pu (by grind)
        have v2 := evl_adj g.inc adp (x := t') (by grind) (by grind)
        have v3 : gk.2 = line p q gk.1 := by
          rw [← g.knot gm.1]
          exact evl_adj g.inc adp (by grind) vq
        have mid := line_mid3 (a := p) (b := q) lp (x := y0) (y := t') (z := gk.1) (Rat.le_of_lt c2) (Rat.le_of_lt gm.2)
        have U : upl o t = l ++ evl o y0 :: gk.2 :: G.map (·.2) := by
          rw [e0, List.map_append, ← List.cons_append]
          show (evl o t :: btw t t' o) ++ _ = _
          rw [c4]
          simp
        have U' : upl o t' = evl o t' :: gk.2 :: G.map (·.2) := by
          unfold upl; rw [eG]; rfl
        rw [U, ← lapv_ins_app hw l (m := evl o t') (by rw [v1, v2, v3]; exact mid), U', c4]
        have := lapv_app (l ++ [evl o y0]) w (evl o t') (gk.2 :: G.map (·.2))
        rw [List.append_assoc] at this
        exact this
      rcases List.eq_nil_or_concat (o.filter fun k => decide (t < k.1 ∧ k.1 < t')) with eF | ⟨F, f, eF⟩
      · refine key [] t h1 h2 (fun k hk k1 k2 => ?_) ?_
        · have : k ∈ o.filter fun k => decide (t < k.1 ∧ k.1 < t') := List.mem_filter.mpr ⟨hk, by simpa using ⟨k1, k2⟩⟩
          rw [eF] at this; cases this
        · unfold btw; rw [eF]; rfl
      · rw [List.concat_eq_append] at eF
        have fm : f ∈ o ∧ t < f.1 ∧ f.1 < t' := by
          have : f ∈ o.filter fun k => decide (t < k.1 ∧ k.1 < t') := by rw [eF]; simp
          have := List.mem_filter.mp this
          exact ⟨this.1, of_decide_eq_true this.2⟩
        refine key (evl o t :: F.map (·.2)) f.1 (g.at fm.1).1 fm.2.2 (fun k hk k1 k2 => ?_) ?_
        · have m : k ∈ o.filter fun k => decide (t < k.1 ∧ k.1 < t') := List.mem_filter.mpr ⟨hk, decide_eq_true ⟨by grind, k2⟩⟩
          have S := P.filter fun k => decide (t < k.1 ∧ k.1 < t')
          rw [eF] at m S
          rcases List.mem_append.mp m with m | m
          · have := (List.pairwise_append.mp S).2.2 k m f (by simp)
            grind
          · rw [List.mem_singleton.mp m] at k1; grind
        · unfold btw; rw [eF]; simp [g.knot fm.1]
  · rw [eE] at e0
    have ek : k.2 = evl o t' := by rw [← k1, g.knot hk]
    have U : upl o t = (evl o t :: btw t t' o) ++ evl o t' :: (o.filter fun k => decide (t' < k.1)).map (·.2) := by
      rw [e0]; unfold btw; simp [ek]
    rw [U]
    exact lapv_app _ _ _ _
theorem up_lo {lo hi : Rat} {o : Mp} (g : Good lo hi o) : upl o lo = o.map (·.2) := by
  obtain ⟨a, b, r, z, rfl, ea, ez, e2, zm⟩ := g.ends
  have k := g.knot (k := a) (by simp)
  unfold upl
  rw [← ea, k, List.filter_cons, if_neg (by simp)]
  have : (b :: r).filter (fun k => decide (a.1 < k.1)) = b :: r := by
    rw [List.filter_eq_self]
    intro k hk
    exact decide_eq_true (g.inc.head_lt hk)
  rw [this]; rfl
theorem up_bound {lo hi : Rat} {o : Mp} (g : Good lo hi o) {y : Rat} (h1 : lo ≤ y) (h2 : y ≤ hi) : lapv 0 (upl o y) ≤ lapv 0 (o.map (·.2)) := by
  rw [← up_lo g]
  by_cases e : lo = y
  · rw [e]; exact Nat.le_refl _
  · rw [up_move g (t := lo) (t' := y) Rat.le_refl (by grind) h2 (.inl rfl)]
    have := lapv_ge (upl o y) (stv 0 (evl o lo :: btw lo y o ++ [evl o y]))
    omega
theorem sg_ng (x y : Rat) : sg (-y - -x) = - sg (y - x) := by
  rcases sg_cases (y - x) with ⟨p, q⟩ | ⟨p, q⟩ | ⟨p, q⟩
  · rw [q, sg_neg (by grind)]
  · rw [q, sg_pos (by grind)]; rfl
  · rw [q, sg_zero (by grind)]; rfl
theorem tn_ng (w s : Int) : tn w (-s) = tn (-w) s := by
  unfold tn; rw [Int.neg_mul, Int.mul_neg]
theorem wy_ng (w s : Int) : wy w (-s) = - wy (-w) s := by
  unfold wy; grind
theorem lapv_ng : ∀ (l : List Rat) (w : Int), lapv w (l.map fun x => -x) = lapv (-w) l
  | [], _ => rfl
  | [_], _ => rfl
  | a :: b :: r, w => by
    have ih := lapv_ng (b :: r) (wy w (sg (-b - -a)))
    show tn w (sg (-b - -a)) + lapv (wy w (sg (-b - -a))) ((b :: r).map fun x => -x) = tn (-w) (sg (b - a)) + lapv (wy (-w) (sg (b - a))) (b :: r)
    rw [ih, sg_ng, tn_ng, wy_ng, Int.neg_neg]
theorem stv_ng : ∀ (l : List Rat) (w : Int), stv w (l.map fun x => -x) = - stv (-w) l
  | [], w => (Int.neg_neg w).symm
  | [_], w => (Int.neg_neg w).symm
  | a :: b :: r, w => by
    have ih := stv_ng (b :: r) (wy w (sg (-b - -a)))
    show stv (wy w (sg (-b - -a))) ((b :: r).map fun x => -x) = - stv (wy (-w) (sg (b - a))) (b :: r)
    rw [ih, sg_ng, wy_ng, Int.neg_neg]
theorem ng_filter (p : Kn → Bool) (q : Kn → Bool) (h : ∀ k, p (ngk k) = q k) (o : Mp) : (ng o).filter p = ((o.filter q).reverse).map ngk := by
  unfold ng
  rw [List.filter_map, List.filter_reverse]
  have : (p ∘ ngk) = q := funext h
  rw [this]
theorem dn_ng {lo hi : Rat} {o : Mp} (g : Good lo hi o) {y : Rat} (h1 : lo ≤ y) (h2 : y ≤ hi) : upl (ng o) (-y) = (dnl o y).map fun x => -x := by
  unfold upl dnl
  rw [ng_evl g (by grind) (by grind), Rat.neg_neg, ng_filter _ (fun k => decide (k.1 < y)) (fun k => by
    show decide (-y < -k.1) = decide (k.1 < y)
    exact decide_eq_decide.mpr (by grind))]
  rw [List.map_map, List.map_cons, List.map_map]
  rfl
theorem btw_ng {o : Mp} (t t' : Rat) : btw (-t) (-t') (ng o) = (((o.filter fun k => decide (t' < k.1 ∧ k.1 < t)).reverse).map (·.2)).map fun x => -x := by
  unfold btw
  rw [ng_filter _ (fun k => decide (t' < k.1 ∧ k.1 < t)) (fun k => by
    show decide (-t < -k.1 ∧ -k.1 < -t') = decide (t' < k.1 ∧ k.1 < t)
    exact decide_eq_decide.mpr (by grind)), List.map_map, List.map_map]
  rfl
theorem dn_move {lo hi : Rat} {o : Mp} (g : Good lo hi o) {t t' : Rat} (h1 : lo ≤ t') (h2 : t' < t) (h3 : t ≤ hi) {w : Int} (hw : Sgn w) :
    lapv w (dnl o t) = lapv w (evl o t :: ((o.filter fun k => decide (t' < k.1 ∧ k.1 < t)).reverse).map (·.2) ++ [evl o t']) +
      lapv (stv w (evl o t :: ((o.filter fun k => decide (t' < k.1 ∧ k.1 < t)).reverse).map (·.2) ++ [evl o t'])) (dnl o t') := by
  have hw' : Sgn (-w) := by rcases hw with rfl | rfl | rfl <;> simp [Sgn]
  have m := up_move (ng_good g) (t := -t) (t' := -t') (by grind) (by grind) (by grind) hw'
  rw [dn_ng g (by grind) h3, dn_ng g h1 (by grind), btw_ng, ng_evl g (x := -t) (by grind) (by grind), ng_evl g (x := -t') (by grind) (by grind), Rat.neg_neg, Rat.neg_neg] at m
  have e : (-evl o t :: List.map (fun x => -x) (((o.filter fun k => decide (t' < k.1 ∧ k.1 < t)).reverse).map (·.2)) ++ [-evl o t']) =
      (evl o t :: ((o.filter fun k => decide (t' < k.1 ∧ k.1 < t)).reverse).map (·.2) ++ [evl o t']).map fun x => -x := by simp
  rw [e, lapv_ng, lapv_ng, lapv_ng, stv_ng, Int.neg_neg, Int.neg_neg] at m
  exact m
theorem dn_bound {lo hi : Rat} {o : Mp} (g : Good lo hi o) {y : Rat} (h1 : lo ≤ y) (h2 : y ≤ hi) : lapv 0 (dnl o y) ≤ lapv 0 (o.map (·.2)) := by
  have := up_bound (ng_good g) (y := -y) (by grind) (by grind)
  rw [dn_ng g h1 h2, lapv_ng] at this
  have e : (ng o).map (·.2) = ((o.map (·.2)).reverse).map fun x => -x := by
    unfold ng
    rw [List.map_map, ← List.map_reverse, List.map_map]; rfl
  rw [e, lapv_ng] at this
  have z : (-(0:Int)) = 0 := rfl
  rw [z, lapv_rev] at this
  exact this
/-- what may still come -/
def pot (o : Mp) (v w : Int) (y : Rat) : Nat := if v = 1 then lapv w (upl o y) else if v = -1 then lapv w (dnl o y) else lapv 0 (o.map (·.2))
theorem laps_main {lo hi : Rat} {o : Mp} (g : Good lo hi o) : ∀ {r : Mp} {a : Kn} {v w : Int}, Sgn v → Sgn w → (v = 0 → w = 0) → (∀ k ∈ a :: r, lo ≤ k.2 ∧ k.2 ≤ hi) →
    lapv w (((a.1, evl o a.2) :: raws o (a :: r)).map (·.2)) ≤ lapv v ((a :: r).map (·.2)) * (1 + lapv 0 (o.map (·.2))) + pot o v w a.2
  | [], a, v, w, _, _, _, _ => by simp [raws, lapv]
  | b :: r, a, v, w, hv, hw, h0, ht => by
    have ta := ht a (by simp)
    have tb := ht b (by simp)
    -- the section and what follows
    have e1 : ((a.1, evl o a.2) :: raws o (a :: b :: r)).map (·.2) = (evl o a.2 :: (amid a b o).map (·.2)) ++ evl o b.2 :: (raws o (b :: r)).map (·.2) := by
      show ((a.1, evl o a.2) :: (amid a b o ++ (b.1, evl o b.2) :: raws o (b :: r))).map (·.2) = _
      simp
    rw [e1, lapv_app]
    generalize hA : evl o a.2 :: (amid a b o).map (·.2) ++ [evl o b.2] = A
    have hw' : Sgn (stv w A) := stv_sgn _ _ hw
    have hv' : Sgn (wy v (sg (b.2 - a.2))) := wy_sgn hv (sg_sgn _)
    have goal2 : lapv w A + pot o (wy v (sg (b.2 - a.2))) (stv w A) b.2 ≤ tn v (sg (b.2 - a.2)) * (1 + lapv 0 (o.map (·.2))) + pot o v w a.2 → (wy v (sg (b.2 - a.2)) = 0 → stv w A = 0) →
        lapv w A + lapv (stv w A) (evl o b.2 :: (raws o (b :: r)).map (·.2)) ≤ lapv v ((a :: b :: r).map (·.2)) * (1 + lapv 0 (o.map (·.2))) + pot o v w a.2 := by
      intro q q0
      have ih := laps_main g (r := r) (a := b) (v := wy v (sg (b.2 - a.2))) (w := stv w A) hv' hw' q0 (fun k hk => ht k (List.mem_cons_of_mem _ hk))
      have ih' : lapv (stv w A) (evl o b.2 :: (raws o (b :: r)).map (·.2)) ≤ lapv (wy v (sg (b.2 - a.2))) ((b :: r).map (·.2)) * (1 + lapv 0 (o.map (·.2))) + pot o (wy v (sg (b.2 - a.2))) (stv w A) b.2 := ih
      show _ ≤ (tn v (sg (b.2 - a.2)) + lapv (wy v (sg (b.2 - a.2))) ((b :: r).map (·.2))) * (1 + lapv 0 (o.map (·.2))) + pot o v w a.2
      rw [Nat.add_mul]
      omega
    rcases sg_cases (b.2 - a.2) with ⟨p, q⟩ | ⟨p, q⟩ | ⟨p, q⟩
    · -- up
      have eA : amid a b o = amidUp a b o := by unfold amid; rw [if_neg (by grind)]
      have eV : (amid a b o).map (·.2) = btw a.2 b.2 o := by
        rw [eA]; unfold amidUp btw
        rw [List.map_map]
        have : (fun k : Kn => decide ((a.2 < k.1 ∧ k.1 < b.2) ∨ (b.2 < k.1 ∧ k.1 < a.2))) = fun k => decide (a.2 < k.1 ∧ k.1 < b.2) := funext fun k => decide_eq_decide.mpr (by grind)
        rw [this]; rfl
      rw [eV] at hA
      have mv := up_move g (t := a.2) (t' := b.2) ta.1 (by grind) tb.2 hw
      rw [hA] at mv
      have bd := up_bound g ta.1 ta.2
      have le := lapv_le (upl o a.2) w
      rw [q] at goal2 hv'
      have w1 : wy v 1 = 1 := by simp [wy]
      rw [w1] at goal2
      have p1 : ∀ y w, pot o 1 w y = lapv w (upl o y) := fun y w => by simp [pot]
      rw [p1] at goal2
      refine goal2 ?_ (fun z => by cases z)
      rw [← mv]
      rcases hv with rfl | rfl | rfl
      · rw [h0 rfl]
        have : pot o 0 0 a.2 = lapv 0 (o.map (·.2)) := by simp [pot]
        rw [this]; omega
      · rw [p1]; omega
      · have : tn (-1) 1 = 1 := by decide
        rw [this]; omega
    · -- down
      have eA : amid a b o = (amidUp a b o).reverse := by unfold amid; rw [if_pos (by grind)]
      have eV : (amid a b o).map (·.2) = ((o.filter fun k => decide (b.2 < k.1 ∧ k.1 < a.2)).reverse).map (·.2) := by
        rw [eA]; unfold amidUp
        rw [← List.map_reverse, List.map_map]
        have : (fun k : Kn => decide ((a.2 < k.1 ∧ k.1 < b.2) ∨ (b.2 < k.1 ∧ k.1 < a.2))) = fun k => decide (b.2 < k.1 ∧ k.1 < a.2) := funext fun k => decide_eq_decide.mpr (by grind)
        rw [this]; rfl
      rw [eV] at hA
      have mv := dn_move g (t := a.2) (t' := b.2) tb.1 (by grind) ta.2 hw
      rw [hA] at mv
      have bd := dn_bound g ta.1 ta.2
      have le := lapv_le (dnl o a.2) w
      rw [q] at goal2 hv'
      have w1 : wy v (-1) = -1 := by simp [wy]
      rw [w1] at goal2
      have p1 : ∀ y w, pot o (-1) w y = lapv w (dnl o y) := fun y w => by simp [pot]
      rw [p1] at goal2
      refine goal2 ?_ (fun z => by cases z)
      rw [← mv]
      rcases hv with rfl | rfl | rfl
      · rw [h0 rfl]
        have : pot o 0 0 a.2 = lapv 0 (o.map (·.2)) := by simp [pot]
        rw [this]; omega
      · have : tn 1 (-1) = 1 := by decide
        rw [this]; omega
      · rw [p1]; omega
    · -- level
      have ee : b.2 = a.2 := by grind
      have eA : amid a b o = [] := amid_flat o ee
      rw [eA] at hA
      have hA' : A = [evl o a.2, evl o a.2] := by rw [← hA, ee]; rfl
      have s0 : stv w A = w := by
        rw [hA']
        show wy w (sg (evl o a.2 - evl o a.2)) = w
        rw [sg_zero (by grind)]; simp [wy]
      have l0 : lapv w A = 0 := by
        rw [hA', lapv_dup]; rfl
      rw [q] at goal2
      have w1 : wy v 0 = v := by simp [wy]
      rw [w1, s0, l0, ee] at goal2
      rw [s0, l0, ee]
      refine goal2 ?_ h0
      omega
theorem laps_raw {lo hi : Rat} {M o : Mp} (g : Good lo hi M) (go : Good lo hi o) : laps (raw o M) ≤ laps M * laps o := by
  obtain ⟨a, b, r, z, rfl, _⟩ := g.ends
  have m := laps_main go (r := b :: r) (a := a) (v := 0) (w := 0) (.inl rfl) (.inl rfl) (fun _ => rfl) g.to
  have p0 : pot o 0 0 a.2 = lapv 0 (o.map (·.2)) := by simp [pot]
  rw [p0] at m
  unfold laps
  show 1 + lapv 0 (((a.1, evl o a.2) :: raws o (a :: b :: r)).map (·.2)) ≤ _
  rw [Nat.add_mul]
  omega
theorem law_laps {lo hi : Rat} {M o : Mp} (g : Good lo hi M) (go : Good lo hi o) : laps (put M o) ≤ laps M * laps o := by
  unfold put
  rw [least_laps (raw_good g go).1.inc]
  exact laps_raw g go
end BM
/-! numbers above and below; their sizes -/
namespace BM
theorem dv_add (r s : Rat) : Rat.divInt (r.num * s.den + s.num * r.den) (r.den * s.den) = r + s := by
  have h := Rat.divInt_add_divInt r.num s.num (d₁ := r.den) (d₂ := s.den) (by have := r.den_nz; omega) (by have := s.den_nz; omega)
  rw [Rat.num_divInt_den, Rat.num_divInt_den] at h
  exact h.symm
theorem dv_sub (r s : Rat) : Rat.divInt (r.num * s.den - s.num * r.den) (r.den * s.den) = r - s := by
  have h := Rat.divInt_sub_divInt r.num s.num (d₁ := r.den) (d₂ := s.den) (by have := r.den_nz; omega) (by have := s.den_nz; omega)
  rw [Rat.num_divInt_den, Rat.num_divInt_den] at h
  exact h.symm
theorem dv_mul (r s : Rat) : Rat.divInt (r.num * s.num) (r.den * s.den) = r * s := by
  have h := Rat.divInt_mul_divInt r.num s.num (d₁ := r.den) (d₂ := s.den)
  rw [Rat.num_divInt_den, Rat.num_divInt_den] at h
  exact h.symm
theorem dv_div (r s : Rat) : Rat.divInt (r.num * s.den) (r.den * s.num) = r / s := by
  have h := Rat.divInt_mul_divInt r.num s.den (d₁ := r.den) (d₂ := s.num)
  rw [Rat.num_divInt_den] at h
  rw [← h, Rat.div_def]
  congr 1
  rw [← Rat.inv_divInt, Rat.num_divInt_den]
theorem num_ne {s : Rat} (h : s ≠ 0) : s.num ≠ 0 := fun e => h (Rat.num_eq_zero.mp e)
theorem den_pos (s : Rat) : (0 : Int) < s.den := by have := s.den_pos; omega
/-- the sign of what is left -/
theorem far_sg (r s : Rat) : (if 0 < r.num * s.den - s.num * r.den then (1 : Int) else 0) - (if r.num * s.den - s.num * r.den < 0 then (1 : Int) else 0) = sg (r - s) := by
  have l1 := Rat.lt_iff r s
  have l2 := Rat.lt_iff s r
  rcases sg_cases (r - s) with ⟨p, q⟩ | ⟨p, q⟩ | ⟨p, q⟩
  · have h : s < r := by grind
    have := l2.mp h
    rw [q, if_pos (by omega), if_neg (by omega)]; rfl
  · have h : r < s := by grind
    have := l1.mp h
    rw [q, if_neg (by omega), if_pos (by omega)]; rfl
  · have h1 : ¬ s < r := by grind
    have h2 : ¬ r < s := by grind
    rw [l2] at h1
    rw [l1] at h2
    rw [q, if_neg (by omega), if_neg (by omega)]; rfl
/-! ### sizes -/
/-- both numbers are below 2 ^ n -/
structure Hb (n : Nat) (r : Rat) : Prop where
  num : r.num.natAbs < 2 ^ n
  den : r.den < 2 ^ n
theorem Hb.one {n : Nat} {r : Rat} (h : Hb n r) : 0 < n := by
  have := h.den
  have := r.den_pos
  cases n with
  | zero => simp at *; omega
  | succ n => omega
theorem Hb.mono {n m : Nat} {r : Rat} (h : Hb n r) (le : n ≤ m) : Hb m r :=
  ⟨Nat.lt_of_lt_of_le h.num (Nat.pow_le_pow_right (by decide) le), Nat.lt_of_lt_of_le h.den (Nat.pow_le_pow_right (by decide) le)⟩
theorem dv_le {a b : Int} (h : b ≠ 0) : (Rat.divInt a b).num.natAbs ≤ a.natAbs ∧ (Rat.divInt a b).den ≤ b.natAbs := by
  rw [Rat.num_divInt, Rat.den_divInt, if_neg h]
  refine ⟨?_, Nat.div_le_self _ _⟩
  have hs : (b.sign * a).natAbs = a.natAbs := by
    rw [Int.natAbs_mul]
    have : b.sign.natAbs = 1 := Int.natAbs_sign_of_ne_zero h
    rw [this, Nat.one_mul]
  rw [← hs]
  exact Int.natAbs_ediv_le_natAbs _ _
theorem hb_dv {a b : Int} {n : Nat} (h : b ≠ 0) (ha : a.natAbs < 2 ^ n) (hb : b.natAbs < 2 ^ n) : Hb n (Rat.divInt a b) := by
  have := dv_le (a := a) h
  exact ⟨by omega, by omega⟩
theorem mul_lt2 {a b n m : Nat} (h1 : a < 2 ^ n) (h2 : b < 2 ^ m) : a * b < 2 ^ (n + m) := by
  rw [Nat.pow_add]
  exact Nat.mul_lt_mul'' h1 h2
theorem imul_lt2 {a b : Int} {n m : Nat} (h1 : a.natAbs < 2 ^ n) (h2 : b.natAbs < 2 ^ m) : (a * b).natAbs < 2 ^ (n + m) := by
  rw [Int.natAbs_mul]; exact mul_lt2 h1 h2
theorem Hb.num' {n : Nat} {r : Rat} (h : Hb n r) : r.num.natAbs < 2 ^ n := h.num
theorem Hb.den' {n : Nat} {r : Rat} (h : Hb n r) : (r.den : Int).natAbs < 2 ^ n := by rw [Int.natAbs_natCast]; exact h.den
theorem Hb.denden {n m : Nat} {r s : Rat} (h : Hb n r) (k : Hb m s) : ((r.den : Int) * s.den).natAbs < 2 ^ (n + m) := imul_lt2 h.den' k.den'
theorem den_ne (r s : Rat) : (r.den : Int) * s.den ≠ 0 := by
  have := r.den_nz
  have := s.den_nz
  exact Int.mul_ne_zero (by omega) (by omega)
theorem two_pow_succ (n : Nat) : 2 ^ (n + 1) = 2 ^ n + 2 ^ n := by rw [Nat.pow_succ]; omega
theorem Hb.add {n m : Nat} {r s : Rat} (h : Hb n r) (k : Hb m s) : Hb (n + m + 1) (r + s) := by
  rw [← dv_add]
  have p := imul_lt2 h.num' k.den'
  have q := imul_lt2 k.num' h.den'
  have d := h.denden k
  have e := two_pow_succ (n + m)
  rw [Nat.add_comm m n] at q
  exact hb_dv (den_ne r s) (by omega) (by omega)
theorem Hb.sub {n m : Nat} {r s : Rat} (h : Hb n r) (k : Hb m s) : Hb (n + m + 1) (r - s) := by
  rw [← dv_sub]
  have p := imul_lt2 h.num' k.den'
  have q := imul_lt2 k.num' h.den'
  have d := h.denden k
  have e := two_pow_succ (n + m)
  rw [Nat.add_comm m n] at q
  exact hb_dv (den_ne r s) (by omega) (by omega)
theorem Hb.mul {n m : Nat} {r s : Rat} (h : Hb n r) (k : Hb m s) : Hb (n + m) (r * s) := by
  rw [← dv_mul]
  exact hb_dv (den_ne r s) (imul_lt2 h.num' k.num') (h.denden k)
theorem Hb.div {n m : Nat} {r s : Rat} (h : Hb n r) (k : Hb m s) (z : s ≠ 0) : Hb (n + m) (r / s) := by
  rw [← dv_div]
  have := r.den_nz
  exact hb_dv (Int.mul_ne_zero (by omega) (num_ne z)) (imul_lt2 h.num' k.den') (imul_lt2 h.den' k.num')
theorem Hb.neg {n : Nat} {r : Rat} (h : Hb n r) : Hb n (-r) := ⟨by rw [Rat.neg_num, Int.natAbs_neg]; exact h.num, h.den⟩
theorem hb_int {n : Nat} {a : Int} (h : a.natAbs < 2 ^ n) (h1 : 0 < n) : Hb n (a : Rat) := ⟨h, by
  rw [Rat.den_intCast]
  exact Nat.one_lt_two_pow (by omega)⟩
/-- an integer over an integer -/
theorem hb_over {n : Nat} {r : Rat} {a b : Int} (e : r * b = a) (h : b ≠ 0) (ha : a.natAbs < 2 ^ n) (hb : b.natAbs < 2 ^ n) : Hb n r := by
  have : r = Rat.divInt a b := by
    rw [Rat.divInt_eq_div, ← e]
    have : (b : Rat) ≠ 0 := fun z => h (by exact_mod_cast z)
    grind
  rw [this]
  exact hb_dv h ha hb
end BM
namespace BM
theorem raws_app {o : Mp} : ∀ {l : Mp} {a : Kn} {r : Mp}, raws o (l ++ a :: r) = raws o (l ++ [a]) ++ raws o (a :: r)
  | [], a, r => by simp [raws]
  | [c], a, r => by simp [raws]
  | c :: d :: l, a, r => by
    have ih := raws_app (o := o) (l := d :: l) (a := a) (r := r)
    show amid c d o ++ (d.1, evl o d.2) :: raws o (d :: l ++ a :: r) = (amid c d o ++ (d.1, evl o d.2) :: raws o (d :: l ++ [a])) ++ raws o (a :: r)
    rw [ih]; simp
theorem raw_app {o : Mp} {l : Mp} {a : Kn} {r : Mp} : raw o (l ++ a :: r) = raw o (l ++ [a]) ++ raws o (a :: r) := by
  cases l with
  | nil => simp [raw, raws]
  | cons c l =>
    show (c.1, evl o c.2) :: raws o (c :: l ++ a :: r) = ((c.1, evl o c.2) :: raws o (c :: l ++ [a])) ++ _
    rw [raws_app]; rfl
theorem raw_snoc {o : Mp} {l : Mp} {a b : Kn} : raw o (l ++ [a, b]) = raw o (l ++ [a]) ++ (amid a b o ++ [(b.1, evl o b.2)]) := by
  rw [raw_app]; simp [raws]
theorem take_two {M : Mp} {i : Nat} {a b : Kn} (ha : M[i]? = some a) (hb : M[i + 1]? = some b) : M.take (i + 1) = M.take i ++ [a] ∧ M.take (i + 2) = M.take i ++ [a, b] := by
  have h1 : M.take (i + 1) = M.take i ++ [a] := by rw [List.take_add_one, ha]; rfl
  refine ⟨h1, ?_⟩
  rw [List.take_add_one, hb, h1]; simp
theorem raw_take {o M : Mp} {i : Nat} {a b : Kn} (ha : M[i]? = some a) (hb : M[i + 1]? = some b) : raw o (M.take (i + 2)) = raw o (M.take (i + 1)) ++ (amid a b o ++ [(b.1, evl o b.2)]) := by
  obtain ⟨h1, h2⟩ := take_two ha hb
  rw [h1, h2, raw_snoc]
theorem raw_take_len {o M : Mp} (i : Nat) : (raw o (M.take i)).length ≤ (raw o M).length := by
  cases i with
  | zero => simp [raw]
  | succ i =>
    by_cases h : i < M.length
    · have e : M = M.take i ++ M[i] :: M.drop (i + 1) := by
        rw [← List.drop_eq_getElem_cons h, List.take_append_drop]
      have e2 : M.take (i + 1) = M.take i ++ [M[i]] := by rw [List.take_add_one, List.getElem?_eq_getElem h]; rfl
      rw [e2]
      have := raw_app (o := o) (l := M.take i) (a := M[i]) (r := M.drop (i + 1))
      rw [← e] at this
      rw [this]; simp
    · rw [List.take_of_length_le (by omega)]; exact Nat.le_refl _
theorem drop_two {α : Type} {M : List α} {i : Nat} (h : i + 1 < M.length) : ∃ a b r, M.drop i = a :: b :: r ∧ M[i]? = some a ∧ M[i + 1]? = some b ∧ M.drop (i + 1) = b :: r := by
  have h1 : M.drop i = M[i] :: M.drop (i + 1) := List.drop_eq_getElem_cons (by omega)
  have h2 : M.drop (i + 1) = M[i + 1] :: M.drop (i + 2) := List.drop_eq_getElem_cons (by omega)
  exact ⟨_, _, _, by rw [h1, h2], List.getElem?_eq_getElem _, List.getElem?_eq_getElem _, h2⟩
theorem Inc.at {M : Mp} (h : Inc M) {i : Nat} {a b : Kn} (ha : M[i]? = some a) (hb : M[i + 1]? = some b) : a.1 < b.1 := by
  have : Adj a b M := by
    obtain ⟨l1, e1⟩ := List.getElem?_eq_some_iff.mp ha
    obtain ⟨l2, e2⟩ := List.getElem?_eq_some_iff.mp hb
    refine ⟨M.take i, M.drop (i + 2), ?_⟩
    rw [← e1, ← e2, ← List.drop_eq_getElem_cons l2, ← List.drop_eq_getElem_cons l1, List.take_append_drop]
  exact this.lt h
theorem mem_at {M : Mp} {i : Nat} {a : Kn} (ha : M[i]? = some a) : a ∈ M := List.mem_of_getElem? ha
end BM
/-! how great the numbers of maps behind maps are -/
namespace BM
/-- the line through a and b, in whole numbers below 2 ^ h -/
def LB (h : Nat) (a b : Kn) : Prop := ∃ al ga de : Int, de ≠ 0 ∧ al.natAbs < 2 ^ h ∧ ga.natAbs < 2 ^ h ∧ de.natAbs < 2 ^ h ∧ slope a b * de = al ∧ (a.2 - slope a b * a.1) * de = ga
structure Bd (n h : Nat) (M : Mp) : Prop where
  kn : ∀ k ∈ M, Hb n k.1 ∧ Hb n k.2
  ln : ∀ a b, Adj a b M → LB h a b
theorem LB.mono {h k : Nat} {a b : Kn} (x : LB h a b) (le : h ≤ k) : LB k a b := by
  obtain ⟨al, ga, de, d0, h1, h2, h3, e1, e2⟩ := x
  have p : 2 ^ h ≤ 2 ^ k := Nat.pow_le_pow_right (by decide) le
  exact ⟨al, ga, de, d0, by omega, by omega, by omega, e1, e2⟩
theorem Bd.mono {n m h k : Nat} {M : Mp} (x : Bd n h M) (le : n ≤ m) (le2 : h ≤ k) : Bd m k M :=
  ⟨fun j hj => ⟨(x.kn j hj).1.mono le, (x.kn j hj).2.mono le⟩, fun a b q => (x.ln a b q).mono le2⟩
theorem lst_adj : ∀ {r : Mp} {a u v : Kn}, Inc (a :: r) → Adj u v (a :: lst a r) → ∃ w, Adj u w (a :: r) ∧ slope u v = slope u w
  | [], a, u, v, _, h => by simp [lst] at h; exact h.not_one.elim
  | [b], a, u, v, _, h => by simp [lst] at h; exact ⟨v, h, rfl⟩
  | b :: c :: r, a, u, v, hi, h => by
    unfold lst at h
    split at h
    · rename_i e
      obtain ⟨w, ad, s⟩ := lst_adj hi.drop2 h
      rcases ad.cases with ⟨rfl, rfl⟩ | ad
      · exact ⟨b, Adj.head _ _ _, s.trans (line_merge hi.1 hi.2.1 e)⟩
      · exact ⟨w, (ad.cons).cons, s⟩
    · rcases h.cases with ⟨rfl, rfl⟩ | h
      · exact ⟨_, Adj.head _ _ _, rfl⟩
      · obtain ⟨w, ad, s⟩ := lst_adj (r := c :: r) (a := b) hi.2 h
        exact ⟨w, ad.cons, s⟩
theorem least_adj {M : Mp} {u v : Kn} (hi : Inc M) (h : Adj u v (least M)) : ∃ w, Adj u w M ∧ slope u v = slope u w := by
  cases M with
  | nil => exact h.not_nil.elim
  | cons a r => exact lst_adj hi h
theorem least_bd {n h : Nat} {M : Mp} (hi : Inc M) (x : Bd n h M) : Bd n h (least M) := by
  refine ⟨fun k hk => x.kn k (least_sub.subset hk), fun u v ad => ?_⟩
  obtain ⟨w, adw, s⟩ := least_adj hi ad
  obtain ⟨al, ga, de, d0, h1, h2, h3, e1, e2⟩ := x.ln u w adw
  exact ⟨al, ga, de, d0, h1, h2, h3, by rw [s]; exact e1, by rw [s]; exact e2⟩
/-- a value on a line -/
theorem line_hb {h n : Nat} {a b : Kn} {x : Rat} (l : LB h a b) (hx : Hb n x) : Hb (h + n + 1) (line a b x) := by
  obtain ⟨al, ga, de, d0, h1, h2, h3, e1, e2⟩ := l
  have xd := x.den_nz
  have ex : x * (x.den : Int) = x.num := by
    have := Rat.num_divInt_den x
    have d : ((x.den : Int) : Rat) ≠ 0 := by
      intro z
      have : (x.den : Int) = 0 := by exact_mod_cast z
      omega
    rw [Rat.divInt_eq_div] at this
    grind
  have e : line a b x * ((de * x.den : Int) : Rat) = ((al * x.num + ga * x.den : Int) : Rat) := by
    unfold line
    rw [Rat.intCast_mul, Rat.intCast_add, Rat.intCast_mul, Rat.intCast_mul, ← e1, ← e2, ← ex]
    grind
  have p1 := imul_lt2 h1 hx.num'
  have p2 := imul_lt2 h2 hx.den'
  have p3 := imul_lt2 h3 hx.den'
  have t := two_pow_succ (h + n)
  exact hb_over e (Int.mul_ne_zero d0 (by omega)) (by omega) (by omega)
/-- a point of a value on a line -/
theorem bk_hb {h n : Nat} {a b : Kn} {x y : Rat} (l : LB h a b) (s0 : slope a b ≠ 0) (hy : Hb n y) (e : line a b x = y) : Hb (h + n + 1) x := by
  obtain ⟨al, ga, de, d0, h1, h2, h3, e1, e2⟩ := l
  have yd := y.den_nz
  have ey : y * (y.den : Int) = y.num := by
    have := Rat.num_divInt_den y
    have d : ((y.den : Int) : Rat) ≠ 0 := by
      intro z
      have : (y.den : Int) = 0 := by exact_mod_cast z
      omega
    rw [Rat.divInt_eq_div] at this
    grind
  have al0 : al ≠ 0 := by
    intro z
    rw [z] at e1
    have d1 : (de : Rat) ≠ 0 := by
      intro z
      exact d0 (by exact_mod_cast z)
    have : slope a b * (de : Rat) = 0 := e1
    rcases Rat.mul_eq_zero.mp this with q | q
    · exact s0 q
    · exact d1 q
  have e' : x * ((al * y.den : Int) : Rat) = ((de * y.num - ga * y.den : Int) : Rat) := by
    unfold line at e
    rw [Rat.intCast_sub, Rat.intCast_mul, Rat.intCast_mul, Rat.intCast_mul, ← e1, ← e2, ← ey, ← e]
    grind
  have p1 := imul_lt2 h3 hy.num'
  have p2 := imul_lt2 h2 hy.den'
  have p3 := imul_lt2 h1 hy.den'
  have t := two_pow_succ (h + n)
  exact hb_over e' (Int.mul_ne_zero al0 (by omega)) (by omega) (by omega)
theorem amid_mem {a b k : Kn} {o : Mp} (h : k ∈ amid a b o) : ∃ j ∈ o, k = (a.1 + (j.1 - a.2) / slope a b, j.2) ∧ ((a.2 < j.1 ∧ j.1 < b.2) ∨ (b.2 < j.1 ∧ j.1 < a.2)) := by
  have h' : k ∈ amidUp a b o := by
    unfold amid at h
    split at h
    · exact List.mem_reverse.mp h
    · exact h
  obtain ⟨j, hj, rfl⟩ := List.mem_map.mp h'
  have := List.mem_filter.mp hj
  exact ⟨j, this.1, rfl, of_decide_eq_true this.2⟩
/-- a knot of the second behind the first -/
theorem raw_mem {o : Mp} : ∀ {M : Mp} {k : Kn}, k ∈ raw o M → (∃ j ∈ M, k = (j.1, evl o j.2)) ∨ ∃ a b, Adj a b M ∧ k ∈ amid a b o
  | [], k, h => by cases h
  | [a], k, h => by
    rcases List.mem_cons.mp h with rfl | h
    · exact .inl ⟨a, by simp, rfl⟩
    · cases h
  | a :: b :: r, k, h => by
    have e : raw o (a :: b :: r) = ((a.1, evl o a.2) :: amid a b o) ++ raw o (b :: r) := rfl
    rw [e] at h
    rcases List.mem_append.mp h with h | h
    · rcases List.mem_cons.mp h with rfl | h
      · exact .inl ⟨a, by simp, rfl⟩
      · exact .inr ⟨a, b, Adj.head a b r, h⟩
    · rcases raw_mem h with ⟨j, hj, e⟩ | ⟨c, d, ad, h⟩
      · exact .inl ⟨j, List.mem_cons_of_mem _ hj, e⟩
      · exact .inr ⟨c, d, ad.cons, h⟩
theorem LB.line {h k : Nat} {a b p q u v : Kn} (l1 : LB h a b) (l2 : LB k p q) (s : slope u v = slope p q * slope a b) (eu : u.2 = line p q (line a b u.1)) : LB (h + k + 1) u v := by
  obtain ⟨al, ga, de, d0, h1, h2, h3, e1, e2⟩ := l1
  obtain ⟨al', ga', de', d0', h1', h2', h3', e1', e2'⟩ := l2
  have p1 := imul_lt2 h1' h1
  have p2 := imul_lt2 h1' h2
  have p3 := imul_lt2 h2' h3
  have p4 := imul_lt2 h3' h3
  have t := two_pow_succ (h + k)
  rw [Nat.add_comm k h] at p1 p2 p3 p4
  refine ⟨al' * al, al' * ga + ga' * de, de' * de, Int.mul_ne_zero d0' d0, by omega, by omega, by omega, ?_, ?_⟩
  · rw [s, Rat.intCast_mul, Rat.intCast_mul, ← e1, ← e1']
    grind
  · rw [eu, s, Rat.intCast_mul, Rat.intCast_add, Rat.intCast_mul, Rat.intCast_mul, ← e1', ← e2, ← e2']
    unfold BM.line
    grind
theorem raw_bd {lo hi : Rat} {M o : Mp} {n1 h1 n2 h2 : Nat} (g : Good lo hi M) (go : Good lo hi o) (x : Bd n1 h1 M) (y : Bd n2 h2 o) {n : Nat} (l1 : h1 + n2 + 1 ≤ n) (l2 : h2 + n1 + 1 ≤ n) : Bd n (h1 + h2 + 1) (raw o M) := by
  refine ⟨fun k hk => ?_, fun u v ad => ?_⟩
  · rcases raw_mem hk with ⟨j, hj, rfl⟩ | ⟨a, b, ad, hk⟩
    · have t := g.to j hj
      obtain ⟨p, q, adp, p1, p2⟩ := go.piece t.1 t.2
      refine ⟨(x.kn j hj).1.mono (by omega), ?_⟩
      show Hb n (evl o j.2)
      rw [evl_adj go.inc adp p1 p2]
      exact (line_hb (y.ln p q adp) (x.kn j hj).2).mono (by omega)
    · obtain ⟨j, hj, rfl, c⟩ := amid_mem hk
      have lt := ad.lt g.inc
      have s0 : slope a b ≠ 0 := by
        intro z
        have e := line_right lt
        unfold line at e
        rw [z] at e
        grind
      refine ⟨(bk_hb (x.ln a b ad) s0 (y.kn j hj).1 (line_bk s0)).mono (by omega), (y.kn j hj).2.mono (by omega)⟩
  · obtain ⟨⟨a, b, p, q, ad1, ad2, z1, z2, z3, z4, _⟩, lt⟩ := raw_sec go g.inc g.to ad
    exact (x.ln a b ad1).line (y.ln p q ad2) (line_line lt z3 z4).1 z3
theorem put_bd {lo hi : Rat} {M o : Mp} {n1 h1 n2 h2 : Nat} (g : Good lo hi M) (go : Good lo hi o) (x : Bd n1 h1 M) (y : Bd n2 h2 o) {n : Nat} (l1 : h1 + n2 + 1 ≤ n) (l2 : h2 + n1 + 1 ≤ n) : Bd n (h1 + h2 + 1) (put M o) :=
  least_bd (raw_good g go).1.inc (raw_bd g go x y l1 l2)
/-- knots of small numbers -/
theorem kn_bd {n : Nat} {M : Mp} (hi : Inc M) (h : ∀ k ∈ M, Hb n k.1 ∧ Hb n k.2) : Bd n (10 * n + 5) M := by
  refine ⟨h, fun a b ad => ?_⟩
  have ka := h a ad.mem_left
  have kb := h b ad.mem_right
  have lt := ad.lt hi
  have s : Hb (4 * n + 2) (slope a b) := ((kb.2.sub ka.2).div (kb.1.sub ka.1) (by grind)).mono (by omega)
  have c : Hb (6 * n + 3) (a.2 - slope a b * a.1) := (ka.2.sub (s.mul ka.1)).mono (by omega)
  generalize hs : slope a b = s0 at s c
  generalize hc : a.2 - s0 * a.1 = c0 at c
  have nd : ∀ r : Rat, r * (r.den : Int) = r.num := fun r => by
    have := Rat.num_divInt_den r
    have d : ((r.den : Int) : Rat) ≠ 0 := by
      intro z
      have := r.den_nz
      have : (r.den : Int) = 0 := by exact_mod_cast z
      omega
    rw [Rat.divInt_eq_div] at this
    grind
  have e : 4 * n + 2 + (6 * n + 3) = 10 * n + 5 := by omega
  have p1 := imul_lt2 s.num' c.den'
  have p2 := imul_lt2 s.den' c.num'
  have p3 := imul_lt2 s.den' c.den'
  rw [e] at p1 p2 p3
  refine ⟨s0.num * c0.den, s0.den * c0.num, s0.den * c0.den, den_ne s0 c0, p1, p2, p3, ?_, ?_⟩
  · rw [hs, Rat.intCast_mul, Rat.intCast_mul, ← nd s0]; grind
  · rw [hs, hc, Rat.intCast_mul, Rat.intCast_mul, ← nd c0]; grind
theorem hb_zero {n : Nat} (h : 0 < n) : Hb n 0 := ⟨by simpa using Nat.two_pow_pos n, by
  show 1 < 2 ^ n
  exact Nat.one_lt_two_pow (by omega)⟩
theorem idm_bd {lo hi : Rat} {n : Nat} (h : lo < hi) (h1 : Hb n lo) (h2 : Hb n hi) : Bd n 1 (idm lo hi) := by
  refine ⟨fun k hk => ?_, fun a b ad => ?_⟩
  · rcases List.mem_cons.mp hk with rfl | hk
    · exact ⟨h1, h1⟩
    · rw [List.mem_singleton.mp hk]; exact ⟨h2, h2⟩
  · rcases ad.cases with ⟨rfl, rfl⟩ | ad
    · have s : slope (lo, lo) (hi, hi) = 1 := by
        show (hi - lo) / (hi - lo) = 1
        grind
      refine ⟨1, 0, 1, by decide, by decide, by decide, by decide, ?_, ?_⟩
      · rw [s, Rat.one_mul]
      · rw [s]
        show (lo - 1 * lo) * ((1 : Int) : Rat) = ((0 : Int) : Rat)
        have : (lo - 1 * lo) = 0 := by grind
        rw [this, Rat.zero_mul]; rfl
    · exact ad.not_one.elim
theorem Good.lo_hb {lo hi : Rat} {M : Mp} {n : Nat} (g : Good lo hi M) (h : ∀ k ∈ M, Hb n k.1 ∧ Hb n k.2) : Hb n lo ∧ Hb n hi := by
  obtain ⟨a, b, r, z, rfl, ea, ez, e2, zm⟩ := g.ends
  exact ⟨by rw [← ea]; exact (h a (by simp)).1, by rw [← e2]; exact (h z (List.mem_cons_of_mem _ zm)).1⟩
/-- turned so many times -/
theorem turned_bd {lo hi : Rat} {M : Mp} (g : Good lo hi M) (h : ∀ k ∈ M, Hb 14 k.1 ∧ Hb 14 k.2) : ∀ m, Bd (150 * m + 20) (150 * m + 1) (turned lo hi M m)
  | 0 => (idm_bd g.lohi (g.lo_hb h).1 (g.lo_hb h).2).mono (by decide) (by decide)
  | m + 1 => by
    have ih := turned_bd g h m
    have k := kn_bd g.inc h
    exact (put_bd (turned_good g m) g ih k (n := 150 * (m + 1) + 20) (by omega) (by omega)).mono (by omega) (by omega)
end BM
namespace BM
/-- a knot of two whole numbers over one -/
def kOf (b : Int) (p : Int × Int) : Kn := (Rat.divInt p.1 b, Rat.divInt p.2 b)
theorem dv_lt {a c b : Int} (hb : 0 < b) : Rat.divInt a b < Rat.divInt c b ↔ a < c := by
  have p : (0 : Rat) < (b : Rat) := by exact_mod_cast hb
  rw [Rat.divInt_eq_div, Rat.divInt_eq_div]
  constructor
  · intro h
    have h1 := Rat.mul_lt_mul_of_pos_right h p
    rw [Rat.div_mul_cancel (by grind), Rat.div_mul_cancel (by grind)] at h1
    exact_mod_cast h1
  · intro h
    have h1 : (a : Rat) < (c : Rat) := by exact_mod_cast h
    rw [Rat.div_def, Rat.div_def]
    exact Rat.mul_lt_mul_of_pos_right h1 (Rat.inv_pos.mpr p)
theorem dv_le' {a c b : Int} (hb : 0 < b) (h : a ≤ c) : Rat.divInt a b ≤ Rat.divInt c b := by
  rcases Int.lt_or_eq_of_le h with h | rfl
  · exact Rat.le_of_lt ((dv_lt hb).mpr h)
  · exact Rat.le_refl
theorem law_good {ns : List Int} {prs : List (Int × Int)} {b n0 nz : Int} (hb : 0 < b) (e : prs.map (·.1) = ns) (pw : ns.Pairwise (· < ·)) (two : 2 ≤ ns.length) (hd : ns.head? = some n0) (ls : ns.getLast? = some nz) (to : ∀ p ∈ prs, n0 ≤ p.2 ∧ p.2 ≤ nz) :
    Good (Rat.divInt n0 b) (Rat.divInt nz b) (prs.map (kOf b)) := by
  subst e
  refine ⟨Inc.of_pair ?_, by simpa using two, ?_, ?_, ?_⟩
  · rw [List.pairwise_map] at pw ⊢
    exact pw.imp fun h => (dv_lt hb).mpr h
  · rw [List.head?_map] at hd ⊢
    cases ep : prs.head? with
    | none => rw [ep] at hd; cases hd
    | some p =>
      rw [ep] at hd
      have : p.1 = n0 := Option.some.inj hd
      show some (Rat.divInt p.1 b) = _
      rw [this]
  · rw [List.getLast?_map] at ls ⊢
    cases ep : prs.getLast? with
    | none => rw [ep] at ls; cases ls
    | some p =>
      rw [ep] at ls
      have : p.1 = nz := Option.some.inj ls
      show some (Rat.divInt p.1 b) = _
      rw [this]
  · intro k hk
    obtain ⟨p, hp, rfl⟩ := List.mem_map.mp hk
    have := to p hp
    exact ⟨dv_le' hb this.1, dv_le' hb this.2⟩
theorem law_mb {a b : Int} (h1 : -9999 ≤ a) (h2 : a ≤ 9999) (h3 : 1 ≤ b) (h4 : b ≤ 9999) : Hb 14 (Rat.divInt a b) := hb_dv (by omega) (by show _ < 16384; omega) (by show _ < 16384; omega)
end BM
namespace BW
open PySem PySem.Spec PyProof.Rows L2
def topS (i : Nat) : Stmt := PySem.Challenge.pw_bentstretch_k10_whole_turns.main.body.getD i (.Pass ⟨0, 0, 0, 0⟩)
/-! ### heaps: tuples stay -/
structure Keep (H H' : Hp) : Prop where
  tup : ∀ b xs, H b = some (.tup xs) → H' b = some (.tup xs)
  frz : ∀ b o u, H b = some (.frz o u) → H' b = some (.frz o u)
theorem Keep.refl (H : Hp) : Keep H H := ⟨fun _ _ h => h, fun _ _ _ h => h⟩
theorem Keep.trans {H H1 H2 : Hp} (a : Keep H H1) (b : Keep H1 H2) : Keep H H2 := ⟨fun c o h => b.tup c o (a.tup c o h), fun c o u h => b.frz c o u (a.frz c o u h)⟩
theorem Keep.of {H H' : Hp} (s : Same H H') : Keep H H' := ⟨fun b _ h => s b _ h, fun b _ _ h => s b _ h⟩
theorem same_upd {H : Hp} {p : Addr} {o : HO} (h : H p = none) : Same H (upd H p o) := fun b x e => by
  rw [upd_ne (ne_of_none e h)]
  exact e
theorem Keep.new {H : Hp} {p : Addr} {o : HO} (h : H p = none) : Keep H (upd H p o) := .of (same_upd h)
theorem Keep.lst {H : Hp} {p : Addr} {xs : List V} {o : HO} (h : H p = some (.lst xs)) : Keep H (upd H p o) :=
  ⟨fun b ys e => by rw [upd_ne (ne_of e h (by intro z; cases z))]; exact e, fun b ob u e => by rw [upd_ne (ne_of e h (by intro z; cases z))]; exact e⟩
theorem Keep.sqT {K : PySem.W.Frag} {H H' : Hp} {a : Addr} {xs : List V} (e : Keep H H') (h : SqT K H a xs) : SqT K H' a xs := by
  rcases h with (h | ⟨o, h⟩) | h
  · exact .inl (.inl (e.tup _ _ h))
  · exact .inl (.inr ⟨o, e.frz _ _ _ h⟩)
  · exact .inr h
/-- a write to what came later -/
theorem Same.upd_new {H H1 : Hp} {p : Addr} {o : HO} (s : Same H H1) (h : H p = none) : Same H (upd H1 p o) := fun b x e => by
  rw [upd_ne (ne_of_none e h)]
  exact s b x e
/-! ### fractions, knots, maps as they stand -/
def dR (r : Rat) : PyData := .tuple [.int r.num, .int (r.den : Int)]
def dK (k : BM.Kn) : PyData := .tuple [dR k.1, dR k.2]
/-- a fraction: its two numbers in least terms -/
def Fr (K : PySem.W.Frag) (H : Hp) (v : V) (r : Rat) : Prop := ∃ p, v = .ref p ∧ SqT K H p [.int r.num, .int (r.den : Int)]
theorem Fr.keep {K : PySem.W.Frag} {H H' : Hp} {v : V} {r : Rat} (h : Fr K H v r) (k : Keep H H') : Fr K H' v r := by
  obtain ⟨p, e, h⟩ := h
  exact ⟨p, e, k.sqT h⟩
theorem hd_of {A : Around} {k : Nat} (hr : Room k A) : A.units + 64 < cLine := by have := hr.un; omega
/-- a def of the text -/
structure DefAt (K : PySem.W.Frag) (mg : Str → Option Value) (x : Str) (st : Stmt) (ps : List Str) : Prop where
  ex : ∃ f fd, Fun K x x st f fd ∧ mg x = some (.ref f) ∧ Binds K fd ps []
/-- names that are built in -/
structure Tx (mg : Str → Option Value) : Prop where
  abs : mg "abs" = none
  len : mg "len" = none
  range : mg "range" = none
  zip : mg "zip" = none
  enumerate : mg "enumerate" = none
  int : mg "int" = none
  str : mg "str" = none
  list : mg "list" = none
  tuple : mg "tuple" = none
  min : mg "min" = none
  max : mg "max" = none
  sum : mg "sum" = none
  all : mg "all" = none
/-- a def that may be called by its name; no exception leaves it -/
structure Cal (P : Program) (w : World) (K : PySem.W.Frag) (mg : Str → Option Value) (base : Heap) (k : Nat) (x : Str) (sp : Sp) : Prop where
  ex : ∃ (f : Addr) (fd : FuncData) (ps : List Str), FnOk P w K mg base CX0 k f fd ps sp ∧ mg x = some (.ref f) ∧ PySem.W.keepIn K (.ref f) = true ∧ Binds K fd ps []
theorem pe_c {X : Cx} {x : Str} {sp : Sp} {j k : Nat} {e : Expr} {es : List Expr} {t : TA} {p pos : Pos} (c : Cal X.prog X.w X.K X.mg X.base k x sp) (hr : Room j X.A) (hk : k ≤ j) (hg : Gl X x) (ha : PA X (e :: es) t)
    (hdb : (x == ("__debug__" : Str)) = false := by decide) (he : starEach (e :: es) X.env = (false, eval e X.env) :: starEach es X.env := by rfl) (hpl : (backTo pos (starEach es X.env)).any (·.1) = false := by rfl) :
    PE X (.Call (.Name x p) (e :: es) [] pos) (tCall sp [] E0 t) := by
  obtain ⟨f, fd, ps, F, hm, kp, b⟩ := c.ex
  exact pe_call F (hr.mono hk) hg hm kp b .nil pass0 ha hdb he hpl
section
variable {P : Program} {w : World} {K : PySem.W.Frag} {mg : Str → Option Value} {base : Heap}
theorem cal_of {x : Str} {st : Stmt} {N ps : List Str} {k : Nat} {sp : Sp} (D : DefAt K mg x st ps) (S : FnScope N ps (defScope st)) (len : ∀ vs H Q E, sp vs H Q E → vs.length = ps.length)
    (hbody : ∀ (f : Addr) (cdv : Value) (A : Around) (outer : List Env) (s : Shared) (H : Hp) (vs : List V) (Q : VK) (E : XK), Room k (A.deeper (envOfC x (defScope st) s.heap.objs.size f cdv)) → sp vs H Q E →
      ∃ t, PSs (cxOf CX0 P w K mg base N x (defScope st) f cdv A outer s H E).nox (defBody st) t ∧ t { nx := fun _ H' => Q .non H', rt := Q } (start N vs) H) : Cal P w K mg base (k + 1) x sp := by
  obtain ⟨f, fd, F, hm, b⟩ := D.ex
  exact ⟨f, fd, ps, F.ok S len (hbody f), hm, F.kp, b⟩
end
/-- a statement whose ways meet behind it -/
def tCut (t u : TS) : TS := fun D σ H => ∃ M : L2.St → Hp → Prop, t { D with nx := M } σ H ∧ ∀ σ' H', M σ' H' → u D σ' H'
theorem pss_cut {X : Cx} {st : Stmt} {rest : List Stmt} {t u : TS} (h1 : PS X st t) (h2 : PSs X rest u) : PSs X (st :: rest) (tCut t u) := by
  refine ⟨fun pins s σ H D I h => ?_⟩
  obtain ⟨M, h, k⟩ := h
  refine wpAny_execs_cons (thn (h1.run pins s σ H { D with nx := M } I h) fun f s1 q => ?_)
  cases f with
  | next =>
    obtain ⟨σ', H', I', q⟩ := q
    exact h2.run pins s1 σ' H' D I' (k _ _ q)
  | ret v => exact q
  | brk => exact q
  | cont => exact q
end BW
namespace BW
open PySem PySem.Spec PyProof.Rows L2
theorem frac_num {a b : Int} (h : 0 < b) : a / (Nat.gcd a.natAbs b.natAbs : Int) = (Rat.divInt a b).num ∧ b / (Nat.gcd a.natAbs b.natAbs : Int) = ((Rat.divInt a b).den : Int) := by
  rw [Rat.num_divInt, Rat.den_divInt, if_neg (by omega), Int.sign_eq_one_of_pos h, Int.one_mul]
  have e : Int.gcd b a = Nat.gcd a.natAbs b.natAbs := by rw [Int.gcd_comm]; rfl
  rw [e]
  refine ⟨rfl, ?_⟩
  rw [Int.natCast_ediv]
  congr 1
  omega
theorem gcd_step {i j : Int} (hi : 0 ≤ i) (hj : 0 < j) : Nat.gcd j.natAbs (i.fmod j).natAbs = Nat.gcd i.natAbs j.natAbs ∧ 0 ≤ i.fmod j ∧ (i.fmod j).toNat < j.toNat := by
  have e : i.fmod j = ((i.natAbs % j.natAbs : Nat) : Int) := by
    rw [Int.fmod_eq_emod_of_nonneg _ (Int.le_of_lt hj)]
    rw [Int.natCast_emod]
    congr 1 <;> omega
  have hlt : i.natAbs % j.natAbs < j.natAbs := Nat.mod_lt _ (by omega)
  refine ⟨?_, by omega, by omega⟩
  rw [e, Int.natAbs_natCast, Nat.gcd_comm j.natAbs, ← Nat.gcd_rec, Nat.gcd_comm]
abbrev s_frac : Stmt := topS 5
theorem sc_frac : FnScope ["above", "below", "one", "other"] ["above", "below"] (defScope s_frac) := ⟨rfl, rfl, rfl, by decide +kernel, rfl, by decide +kernel, by decide +kernel⟩
def spFrac (K : PySem.W.Frag) : Sp := fun vs H Q _ => ∃ a b : Int, vs = [.int a, .int b] ∧ b ≠ 0 ∧ b.natAbs < 2 ^ 9000 ∧ ∀ H' v, Same H H' → Fr K H' v (Rat.divInt a b) → Q v H'
section
variable {P : Program} {w : World} {K : PySem.W.Frag} {mg : Str → Option Value} {base : Heap}
theorem ok_frac (T : Tx mg) (D : DefAt K mg "frac" s_frac ["above", "below"]) : Cal P w K mg base 1 "frac" (spFrac K) := by
  refine cal_of D sc_frac (fun vs H Q E h => ?_) (fun f cdv A outer s H vs Q E hr h => ?_)
  · obtain ⟨a, b, rfl, _⟩ := h
    rfl
  · obtain ⟨a, b, rfl, hb, hz, q⟩ := h
    refine ⟨_, (pss_cut (ps_if (pt_cmpR op_lt (pv 1) pe_int (nomark _))
      (pss_one (ps_par (i := 0) (j := 1) (by rfl) sc_frac.nd rfl rfl (by decide) rfl rfl (pa_cons (pe_un un_neg (pv 0)) (pa_cons (pe_un un_neg (pv 1)) pa_nil)) (by rfl)))
      pss_nil)
      (pss_cons (ps_par (i := 2) (j := 3) (by rfl) sc_frac.nd rfl rfl (by decide) rfl rfl (pa_cons (pe_callB call_abs (by rfl) T.abs (by decide +kernel) (pa_cons (pv 0) pa_nil)) (pa_cons (pv 1) pa_nil)) (by rfl))
      (pss_cons (ps_while PassesOwn.never (pt_cmpR op_gt (pv 3) pe_int (nomark _))
      (pss_one (ps_par (i := 2) (j := 3) (by rfl) sc_frac.nd rfl rfl (by decide) rfl rfl (pa_cons (pv 3) (pa_cons (pe_op op_modN (pv 2) (pv 3)) pa_nil)) (by rfl))))
      (pss_one (ps_ret (pe_tup (pa_cons (pe_op op_fdivW (pv 0) (pv 2)) (pa_cons (pe_op op_fdivW (pv 1) (pv 2)) pa_nil)))))))), ?_⟩
    refine ⟨fun σ' H' => H' = H ∧ ∃ a' b' : Int, σ' = [some (.int a'), some (.int b'), none, none] ∧ 0 < b' ∧ b'.natAbs < 2 ^ 9000 ∧ Rat.divInt a' b' = Rat.divInt a b, ?_, ?_⟩
    · refine ⟨_, rfl, _, _, rfl, rfl, _, rfl, ite2 (fun c => ?_) (fun c => ?_)⟩
      · have c' := of_decide_eq_true c
        refine ⟨_, rfl, _, rfl, _, rfl, _, rfl, _, _, rfl, rfl, -a, -b, rfl, by omega, by omega, ?_⟩
        exact Rat.neg_divInt_neg a b
      · have c' : ¬ b < 0 := fun z => c (decide_eq_true z)
        exact ⟨rfl, a, b, rfl, by omega, hz, rfl⟩
    · rintro σ' H' ⟨rfl, a', b', rfl, hb', hz', e⟩
      refine ⟨_, rfl, _, rfl, _, rfl, _, _, rfl, ?_⟩
      refine while_by (fun σ H1 => H1 = H' ∧ ∃ i j : Int, σ = [some (.int a'), some (.int b'), some (.int i), some (.int j)] ∧ 0 ≤ i ∧ 0 ≤ j ∧ Nat.gcd i.natAbs j.natAbs = Nat.gcd a'.natAbs b'.natAbs)
        (fun σ _ => match σ with | [_, _, _, some (.int j)] => j.toNat | _ => 0) ?_ ?_ ?_
      · refine ⟨rfl, _, _, rfl, by split <;> omega, by omega, ?_⟩
        congr 1
        split <;> omega
      · rintro σ H1 ⟨rfl, i, j, rfl, hi, hj, hg⟩
        refine ⟨_, rfl, _, _, rfl, rfl, _, rfl, ite2 (fun c => ?_) (fun c => ?_)⟩
        · have c' : 0 < j := of_decide_eq_true c
          obtain ⟨g1, g2, g3⟩ := gcd_step hi c'
          refine ⟨_, rfl, _, rfl, _, rfl, _, _, rfl, rfl, by omega, _, _, rfl, ⟨rfl, _, _, rfl, hj, g2, g1.trans hg⟩, g3⟩
        · have c' : ¬ 0 < j := fun z => c (decide_eq_true z)
          have j0 : j = 0 := by omega
          subst j0
          have ei : i = (Nat.gcd a'.natAbs b'.natAbs : Int) := by
            rw [← hg]
            have : Nat.gcd i.natAbs (0 : Int).natAbs = i.natAbs := Nat.gcd_zero_right _
            omega
          have gp : 0 < Nat.gcd a'.natAbs b'.natAbs := Nat.gcd_pos_of_pos_right _ (by omega)
          have gl : Nat.gcd a'.natAbs b'.natAbs ≤ b'.natAbs := Nat.gcd_le_right _ (by omega)
          have cd : CDivW a' i := wide_div (by omega) (b := 9000) (by omega) (by decide) (Nat.le_refl _)
          have cd2 : CDivW b' i := cd
          obtain ⟨f1, f2⟩ := frac_num (a := a') hb'
          refine ⟨_, rfl, _, rfl, _, _, rfl, rfl, cd, _, rfl, _, rfl, _, _, rfl, rfl, cd2, (by show 2 ≤ sizeLine; decide), fun p hp => q _ _ (same_upd hp) ⟨p, rfl, ?_⟩⟩
          rw [← e, ← f1, ← f2, ← ei]
          exact .inl (.inl upd_same)
      · rintro σ H1 Q1 Q2 hQ ⟨v, e1, i, j, e2, e3, k, e4, h⟩
        exact ⟨v, e1, i, j, e2, e3, k, e4, hQ _ _ h⟩
end
end BW
namespace BW
open PySem PySem.Spec PyProof.Rows L2
open BM (Hb)
local macro_rules | `(tactic| walk_at "rd") => `(tactic| repeat (first
  | (refine ⟨_, _, _, _, rfl, rfl, by assumption, by rfl, ?_⟩)
  | (refine ⟨_, rfl, ?_⟩)
  | (refine ⟨_, _, rfl, rfl, (by assumption : CMulW _ _), ?_⟩)
  | (refine ⟨_, _, rfl, rfl, ?_⟩)))
/-- two fractions in, one out -/
def spOp (K : PySem.W.Frag) (g : Rat → Rat → Rat) (ok : Rat → Rat → Prop) : Sp := fun vs H Q _ => ∃ (v1 v2 : V) (r1 r2 : Rat) (n1 n2 : Nat), vs = [v1, v2] ∧ Fr K H v1 r1 ∧ Fr K H v2 r2 ∧ Hb n1 r1 ∧ Hb n2 r2 ∧ n1 + n2 ≤ 9000 ∧ ok r1 r2 ∧ ∀ H' v, Same H H' → Fr K H' v (g r1 r2) → Q v H'
theorem spOp_len {K : PySem.W.Frag} {g : Rat → Rat → Rat} {ok : Rat → Rat → Prop} (vs : List V) (H : Hp) (Q : VK) (E : XK) (h : spOp K g ok vs H Q E) : vs.length = 2 := by
  obtain ⟨v1, v2, r1, r2, n1, n2, rfl, _⟩ := h
  rfl
theorem wm {a b : Int} {n m : Nat} (ha : a.natAbs < 2 ^ n) (hb : b.natAbs < 2 ^ m) (h : n + m ≤ 9000) (h1 : 0 < n) (h2 : 0 < m) : CMulW a b := wide_mul ha hb h1 h2 (by omega)
theorem lt9000 {a n : Nat} (h : a < 2 ^ n) (k : n ≤ 9000) : a < 2 ^ 9000 := Nat.lt_of_lt_of_le h (Nat.pow_le_pow_right (by decide) k)
abbrev s_frac_plus : Stmt := topS 6
theorem sc_frac_plus : FnScope ["one", "other"] ["one", "other"] (defScope s_frac_plus) := ⟨rfl, rfl, rfl, by decide +kernel, rfl, by decide +kernel, by decide +kernel⟩
abbrev s_frac_less : Stmt := topS 7
theorem sc_frac_less : FnScope ["one", "other"] ["one", "other"] (defScope s_frac_less) := ⟨rfl, rfl, rfl, by decide +kernel, rfl, by decide +kernel, by decide +kernel⟩
abbrev s_frac_times : Stmt := topS 8
theorem sc_frac_times : FnScope ["one", "other"] ["one", "other"] (defScope s_frac_times) := ⟨rfl, rfl, rfl, by decide +kernel, rfl, by decide +kernel, by decide +kernel⟩
abbrev s_frac_over : Stmt := topS 9
theorem sc_frac_over : FnScope ["one", "other"] ["one", "other"] (defScope s_frac_over) := ⟨rfl, rfl, rfl, by decide +kernel, rfl, by decide +kernel, by decide +kernel⟩
abbrev s_frac_side : Stmt := topS 10
theorem sc_frac_side : FnScope ["one", "other", "far"] ["one", "other"] (defScope s_frac_side) := ⟨rfl, rfl, rfl, by decide +kernel, rfl, by decide +kernel, by decide +kernel⟩
/-- the side on which a fraction lies -/
def spSide (K : PySem.W.Frag) : Sp := fun vs H Q _ => ∃ (v1 v2 : V) (r1 r2 : Rat) (n1 n2 : Nat), vs = [v1, v2] ∧ Fr K H v1 r1 ∧ Fr K H v2 r2 ∧ Hb n1 r1 ∧ Hb n2 r2 ∧ n1 + n2 ≤ 9000 ∧ Q (.int (BM.sg (r1 - r2))) H
section
variable {P : Program} {w : World} {K : PySem.W.Frag} {mg : Str → Option Value} {base : Heap}
theorem ok_frac_plus (D : DefAt K mg "frac_plus" s_frac_plus ["one", "other"]) (cfrac : Cal P w K mg base 1 "frac" (spFrac K)) : Cal P w K mg base 2 "frac_plus" (spOp K (· + ·) fun _ _ => True) := by
  refine cal_of D sc_frac_plus spOp_len (fun f cdv A outer s H vs Q E hr h => ?_)
  · obtain ⟨v1, v2, r1, r2, n1, n2, rfl, ⟨p1, rfl, h1⟩, ⟨p2, rfl, h2⟩, b1, b2, hn, _, q⟩ := h
    refine ⟨_, (pss_one (ps_ret (pe_c cfrac hr (by decide) (by rfl) (pa_cons (pe_op op_add (pe_op op_mulW (pe_ix ix_tup (pv 0) pe_int (fun _ _ => rfl)) (pe_ix ix_tup (pv 1) pe_int (fun _ _ => rfl))) (pe_op op_mulW (pe_ix ix_tup (pv 1) pe_int (fun _ _ => rfl)) (pe_ix ix_tup (pv 0) pe_int (fun _ _ => rfl)))) (pa_cons (pe_op op_mulW (pe_ix ix_tup (pv 0) pe_int (fun _ _ => rfl)) (pe_ix ix_tup (pv 1) pe_int (fun _ _ => rfl))) pa_nil))))), ?_⟩
    have e1 := b1.one
    have e2 := b2.one
    have c1 := wm b1.num' b2.den' hn e1 e2
    have c2 := wm b2.num' b1.den' (by omega) e2 e1
    have c3 := wm b1.den' b2.den' hn e1 e2
    walk_at "rd"
    exact ⟨_, _, rfl, BM.den_ne r1 r2, lt9000 (b1.denden b2) hn, fun H' v sm fr => q H' v sm (by show Fr K H' v (r1 + r2); rw [← BM.dv_add]; exact fr)⟩
theorem ok_frac_less (D : DefAt K mg "frac_less" s_frac_less ["one", "other"]) (cfrac : Cal P w K mg base 1 "frac" (spFrac K)) : Cal P w K mg base 2 "frac_less" (spOp K (· - ·) fun _ _ => True) := by
  refine cal_of D sc_frac_less spOp_len (fun f cdv A outer s H vs Q E hr h => ?_)
  · obtain ⟨v1, v2, r1, r2, n1, n2, rfl, ⟨p1, rfl, h1⟩, ⟨p2, rfl, h2⟩, b1, b2, hn, _, q⟩ := h
    refine ⟨_, (pss_one (ps_ret (pe_c cfrac hr (by decide) (by rfl) (pa_cons (pe_op op_sub (pe_op op_mulW (pe_ix ix_tup (pv 0) pe_int (fun _ _ => rfl)) (pe_ix ix_tup (pv 1) pe_int (fun _ _ => rfl))) (pe_op op_mulW (pe_ix ix_tup (pv 1) pe_int (fun _ _ => rfl)) (pe_ix ix_tup (pv 0) pe_int (fun _ _ => rfl)))) (pa_cons (pe_op op_mulW (pe_ix ix_tup (pv 0) pe_int (fun _ _ => rfl)) (pe_ix ix_tup (pv 1) pe_int (fun _ _ => rfl))) pa_nil))))), ?_⟩
    have e1 := b1.one
    have e2 := b2.one
    have c1 := wm b1.num' b2.den' hn e1 e2
    have c2 := wm b2.num' b1.den' (by omega) e2 e1
    have c3 := wm b1.den' b2.den' hn e1 e2
    walk_at "rd"
    exact ⟨_, _, rfl, BM.den_ne r1 r2, lt9000 (b1.denden b2) hn, fun H' v sm fr => q H' v sm (by show Fr K H' v (r1 - r2); rw [← BM.dv_sub]; exact fr)⟩
theorem ok_frac_times (D : DefAt K mg "frac_times" s_frac_times ["one", "other"]) (cfrac : Cal P w K mg base 1 "frac" (spFrac K)) : Cal P w K mg base 2 "frac_times" (spOp K (· * ·) fun _ _ => True) := by
  refine cal_of D sc_frac_times spOp_len (fun f cdv A outer s H vs Q E hr h => ?_)
  · obtain ⟨v1, v2, r1, r2, n1, n2, rfl, ⟨p1, rfl, h1⟩, ⟨p2, rfl, h2⟩, b1, b2, hn, _, q⟩ := h
    refine ⟨_, (pss_one (ps_ret (pe_c cfrac hr (by decide) (by rfl) (pa_cons (pe_op op_mulW (pe_ix ix_tup (pv 0) pe_int (fun _ _ => rfl)) (pe_ix ix_tup (pv 1) pe_int (fun _ _ => rfl))) (pa_cons (pe_op op_mulW (pe_ix ix_tup (pv 0) pe_int (fun _ _ => rfl)) (pe_ix ix_tup (pv 1) pe_int (fun _ _ => rfl))) pa_nil))))), ?_⟩
    have e1 := b1.one
    have e2 := b2.one
    have c1 := wm b1.num' b2.num' hn e1 e2
    have c3 := wm b1.den' b2.den' hn e1 e2
    walk_at "rd"
    exact ⟨_, _, rfl, BM.den_ne r1 r2, lt9000 (b1.denden b2) hn, fun H' v sm fr => q H' v sm (by show Fr K H' v (r1 * r2); rw [← BM.dv_mul]; exact fr)⟩
theorem ok_frac_over (D : DefAt K mg "frac_over" s_frac_over ["one", "other"]) (cfrac : Cal P w K mg base 1 "frac" (spFrac K)) : Cal P w K mg base 2 "frac_over" (spOp K (· / ·) fun _ s => s ≠ 0) := by
  refine cal_of D sc_frac_over spOp_len (fun f cdv A outer s H vs Q E hr h => ?_)
  · obtain ⟨v1, v2, r1, r2, n1, n2, rfl, ⟨p1, rfl, h1⟩, ⟨p2, rfl, h2⟩, b1, b2, hn, z, q⟩ := h
    refine ⟨_, (pss_one (ps_ret (pe_c cfrac hr (by decide) (by rfl) (pa_cons (pe_op op_mulW (pe_ix ix_tup (pv 0) pe_int (fun _ _ => rfl)) (pe_ix ix_tup (pv 1) pe_int (fun _ _ => rfl))) (pa_cons (pe_op op_mulW (pe_ix ix_tup (pv 0) pe_int (fun _ _ => rfl)) (pe_ix ix_tup (pv 1) pe_int (fun _ _ => rfl))) pa_nil))))), ?_⟩
    have e1 := b1.one
    have e2 := b2.one
    have c1 := wm b1.num' b2.den' hn e1 e2
    have c3 := wm b1.den' b2.num' hn e1 e2
    have dn := BM.den_pos r1
    walk_at "rd"
    exact ⟨_, _, rfl, Int.mul_ne_zero (by omega) (BM.num_ne z), lt9000 (BM.imul_lt2 b1.den' b2.num') hn, fun H' v sm fr => q H' v sm (by show Fr K H' v (r1 / r2); rw [← BM.dv_div]; exact fr)⟩
theorem ok_frac_side (T : Tx mg) (D : DefAt K mg "frac_side" s_frac_side ["one", "other"]) : Cal P w K mg base 1 "frac_side" (spSide K) := by
  refine cal_of D sc_frac_side (fun vs H Q E h => ?_) (fun f cdv A outer s H vs Q E hr h => ?_)
  · obtain ⟨v1, v2, r1, r2, n1, n2, rfl, _⟩ := h
    rfl
  · obtain ⟨v1, v2, r1, r2, n1, n2, rfl, ⟨p1, rfl, h1⟩, ⟨p2, rfl, h2⟩, b1, b2, hn, q⟩ := h
    refine ⟨_, (pss_cons (ps_set (i := 2) sc_frac_side.nd rfl (.inl rfl) (pe_op op_sub (pe_op op_mulW (pe_ix ix_tup (pv 0) pe_int (fun _ _ => rfl)) (pe_ix ix_tup (pv 1) pe_int (fun _ _ => rfl))) (pe_op op_mulW (pe_ix ix_tup (pv 1) pe_int (fun _ _ => rfl)) (pe_ix ix_tup (pv 0) pe_int (fun _ _ => rfl)))))
      (pss_one (ps_ret (pe_op op_sub (pe_callTy call_int1 (by rfl) T.int (by decide +kernel) (pa_cons (pe_cmpR op_gt (pv 2) pe_int (nomark _)) pa_nil)) (pe_callTy call_int1 (by rfl) T.int (by decide +kernel) (pa_cons (pe_cmpR op_lt (pv 2) pe_int (nomark _)) pa_nil)))))), ?_⟩
    have e1 := b1.one
    have e2 := b2.one
    have c1 := wm b1.num' b2.den' hn e1 e2
    have c2 := wm b2.num' b1.den' (by omega) e2 e1
    walk_at "rd"
    refine .inr ⟨_, rfl, ?_⟩
    walk_at "rd"
    refine .inr ⟨_, rfl, ?_⟩
    walk_at "rd"
    have e := BM.far_sg r1 r2
    have e' : (if decide (0 < r1.num * ↑r2.den - r2.num * ↑r1.den) = true then (1 : Int) else 0) - (if decide (r1.num * ↑r2.den - r2.num * ↑r1.den < 0) = true then (1 : Int) else 0) = BM.sg (r1 - r2) := by
      rw [← e]
      simp only [decide_eq_true_eq]
    show Q (.int _) H
    rw [e']
    exact q
end
end BW
namespace BW
open PySem PySem.Spec PyProof.Rows L2
open BM (Hb Kn Mp)
local macro_rules | `(tactic| walk_at "rd") => `(tactic| repeat (first
  | (refine ⟨_, _, _, _, rfl, rfl, by assumption, by first | rfl | assumption, ?_⟩)
  | (refine ⟨_, rfl, ?_⟩)
  | (refine ⟨_, _, rfl, rfl, (by assumption : CMulW _ _), ?_⟩)
  | (refine ⟨_, _, rfl, rfl, ?_⟩)))
/-- a knot as it stands -/
def Kt (K : PySem.W.Frag) (H : Hp) (v : V) (k : Kn) : Prop := ∃ p u1 u2, v = .ref p ∧ SqT K H p [u1, u2] ∧ Fr K H u1 k.1 ∧ Fr K H u2 k.2
theorem Kt.keep {K : PySem.W.Frag} {H H' : Hp} {v : V} {k : Kn} (h : Kt K H v k) (e : Keep H H') : Kt K H' v k := by
  obtain ⟨p, u1, u2, rfl, hs, h1, h2⟩ := h
  exact ⟨p, u1, u2, rfl, e.sqT hs, h1.keep e, h2.keep e⟩
abbrev Kts (K : PySem.W.Frag) (H : Hp) : List V → Mp → Prop := Paired (Kt K H)
theorem Kts.keep {K : PySem.W.Frag} {H H' : Hp} {vs : List V} {M : Mp} (h : Kts K H vs M) (e : Keep H H') : Kts K H' vs M := Paired.mapP h fun _ _ q => q.keep e
theorem Kts.get {K : PySem.W.Frag} {H : Hp} : ∀ {vs : List V} {M : Mp} {i : Nat} {k : Kn}, Kts K H vs M → M[i]? = some k → ∃ v, vs[i]? = some v ∧ Kt K H v k
  | _, _, _, _, .nil, e => by simp at e
  | _, _, 0, _, .cons r _, e => by simp at e; subst e; exact ⟨_, rfl, r⟩
  | _, _, i + 1, x, .cons _ t, e => by
    obtain ⟨u, h1, h2⟩ := Kts.get (i := i) (k := x) t (by simpa using e)
    exact ⟨u, by simpa using h1, h2⟩
theorem Kts.append {K : PySem.W.Frag} {H : Hp} : ∀ {vs ws : List V} {M N : Mp}, Kts K H vs M → Kts K H ws N → Kts K H (vs ++ ws) (M ++ N)
  | _, _, _, _, .nil, h => h
  | _, _, _, _, .cons r t, h => .cons r (Kts.append t h)
theorem Kts.reverse {K : PySem.W.Frag} {H : Hp} : ∀ {vs : List V} {M : Mp}, Kts K H vs M → Kts K H vs.reverse M.reverse
  | _, _, .nil => .nil
  | _, _, .cons r t => by
    rw [List.reverse_cons, List.reverse_cons]
    exact Kts.append (Kts.reverse t) (.cons r .nil)
theorem Kts.length {K : PySem.W.Frag} {H : Hp} {vs : List V} {M : Mp} (h : Kts K H vs M) : vs.length = M.length := Paired.length h
/-- a map as it stands: a tuple -/
def MpT (K : PySem.W.Frag) (H : Hp) (v : V) (M : Mp) : Prop := ∃ p vs, v = .ref p ∧ SqT K H p vs ∧ Kts K H vs M
theorem MpT.keep {K : PySem.W.Frag} {H H' : Hp} {v : V} {M : Mp} (h : MpT K H v M) (e : Keep H H') : MpT K H' v M := by
  obtain ⟨p, vs, rfl, hs, h1⟩ := h
  exact ⟨p, vs, rfl, e.sqT hs, h1.keep e⟩
/-- both numbers of a knot are small -/
def KB (n : Nat) (k : Kn) : Prop := Hb n k.1 ∧ Hb n k.2
def MB (n : Nat) (M : Mp) : Prop := ∀ k ∈ M, KB n k
theorem KB.mono {n m : Nat} {k : Kn} (h : KB n k) (le : n ≤ m) : KB m k := ⟨h.1.mono le, h.2.mono le⟩
theorem MB.mono {n m : Nat} {M : Mp} (h : MB n M) (le : n ≤ m) : MB m M := fun k hk => (h k hk).mono le
abbrev s_slope_between : Stmt := topS 12
theorem sc_slope_between : FnScope ["one", "other"] ["one", "other"] (defScope s_slope_between) := ⟨rfl, rfl, rfl, by decide +kernel, rfl, by decide +kernel, by decide +kernel⟩
def spSlope (K : PySem.W.Frag) : Sp := fun vs H Q _ => ∃ (v1 v2 : V) (a b : Kn) (n : Nat), vs = [v1, v2] ∧ Kt K H v1 a ∧ Kt K H v2 b ∧ KB n a ∧ KB n b ∧ 4 * n + 2 ≤ 9000 ∧ a.1 < b.1 ∧ ∀ H' v, Same H H' → Fr K H' v (BM.slope a b) → Q v H'
abbrev s_value_of : Stmt := topS 13
theorem sc_value_of : FnScope ["knots", "point", "place", "ahead", "rise"] ["knots", "point"] (defScope s_value_of) := ⟨rfl, rfl, rfl, by decide +kernel, rfl, by decide +kernel, by decide +kernel⟩
def spValue (K : PySem.W.Frag) : Sp := fun vs H Q _ => ∃ (v1 v2 : V) (M : Mp) (x lo hi : Rat) (n m : Nat), vs = [v1, v2] ∧ MpT K H v1 M ∧ Fr K H v2 x ∧ BM.Good lo hi M ∧ MB n M ∧ Hb m x ∧ 6 * n + m + 4 ≤ 9000 ∧ lo ≤ x ∧ x ≤ hi ∧ ∀ H' v, Same H H' → Fr K H' v (BM.evl M x) → Q v H'
theorem atI_neg1 {xs : List V} {v : V} (h : xs.getLast? = some v) : atI xs (-1) = some v := by
  obtain ⟨ys, rfl⟩ := List.getLast?_eq_some_iff.mp h
  exact atI_last _ _
theorem Kts.last {K : PySem.W.Frag} {H : Hp} {vs : List V} {M : Mp} {k : Kn} (h : Kts K H vs M) (e : M.getLast? = some k) : ∃ v, vs.getLast? = some v ∧ Kt K H v k := by
  rw [List.getLast?_eq_getElem?] at e
  obtain ⟨v, h1, h2⟩ := h.get e
  exact ⟨v, by rw [List.getLast?_eq_getElem?, h.length]; exact h1, h2⟩
theorem sg_lt {x y : Rat} : BM.sg (x - y) < 0 ↔ x < y := by
  rcases BM.sg_cases (x - y) with ⟨p, q⟩ | ⟨p, q⟩ | ⟨p, q⟩ <;> rw [q] <;> constructor <;> intro h <;> first | grind | omega
theorem sg_gt {x y : Rat} : 0 < BM.sg (x - y) ↔ y < x := by
  rcases BM.sg_cases (x - y) with ⟨p, q⟩ | ⟨p, q⟩ | ⟨p, q⟩ <;> rw [q] <;> constructor <;> intro h <;> first | grind | omega
section
variable {P : Program} {w : World} {K : PySem.W.Frag} {mg : Str → Option Value} {base : Heap}
theorem ok_slope_between (D : DefAt K mg "slope_between" s_slope_between ["one", "other"]) (cfrac_less : Cal P w K mg base 2 "frac_less" (spOp K (· - ·) fun _ _ => True)) (cfrac_over : Cal P w K mg base 2 "frac_over" (spOp K (· / ·) fun _ s => s ≠ 0)) :
    Cal P w K mg base 3 "slope_between" (spSlope K) := by
  refine cal_of D sc_slope_between (fun vs H Q E h => ?_) (fun f cdv A outer s H vs Q E hr h => ?_)
  · obtain ⟨v1, v2, a, b, n, rfl, _⟩ := h
    rfl
  · obtain ⟨v1, v2, a, b, n, rfl, ⟨p1, a1, a2, rfl, hp1, fa1, fa2⟩, ⟨p2, b1, b2, rfl, hp2, fb1, fb2⟩, ka, kb, hn, lt, q⟩ := h
    refine ⟨_, (pss_one (ps_ret (pe_c cfrac_over hr (by decide) (by rfl) (pa_cons (pe_c cfrac_less hr (by decide) (by rfl) (pa_cons (pe_ix ix_tup (pv 1) pe_int (fun _ _ => rfl)) (pa_cons (pe_ix ix_tup (pv 0) pe_int (fun _ _ => rfl)) pa_nil))) (pa_cons (pe_c cfrac_less hr (by decide) (by rfl) (pa_cons (pe_ix ix_tup (pv 1) pe_int (fun _ _ => rfl)) (pa_cons (pe_ix ix_tup (pv 0) pe_int (fun _ _ => rfl)) pa_nil))) pa_nil))))), ?_⟩
    walk_at "rd"
    refine ⟨_, _, b.2, a.2, n, n, rfl, fb2, fa2, kb.2, ka.2, by omega, trivial, fun H1 u1 s1 f1 => ?_⟩
    have k1 := Keep.of s1
    have hp1' := k1.sqT hp1
    have hp2' := k1.sqT hp2
    walk_at "rd"
    refine ⟨_, _, b.1, a.1, n, n, rfl, fb1.keep k1, fa1.keep k1, kb.1, ka.1, by omega, trivial, fun H2 u2 s2 f2 => ?_⟩
    refine ⟨_, _, b.2 - a.2, b.1 - a.1, n + n + 1, n + n + 1, rfl, f1.keep (Keep.of s2), f2, kb.2.sub ka.2, kb.1.sub ka.1, by omega, by grind, fun H3 u3 s3 f3 => q H3 u3 (s1.trans (s2.trans s3)) f3⟩
theorem ok_value_of (D : DefAt K mg "value_of" s_value_of ["knots", "point"]) (cfrac_side : Cal P w K mg base 1 "frac_side" (spSide K)) (cfrac_less : Cal P w K mg base 2 "frac_less" (spOp K (· - ·) fun _ _ => True))
    (cfrac_times : Cal P w K mg base 2 "frac_times" (spOp K (· * ·) fun _ _ => True)) (cfrac_plus : Cal P w K mg base 2 "frac_plus" (spOp K (· + ·) fun _ _ => True)) (cslope_between : Cal P w K mg base 3 "slope_between" (spSlope K)) :
    Cal P w K mg base 4 "value_of" (spValue K) := by
  refine cal_of D sc_value_of (fun vs H Q E h => ?_) (fun f cdv A outer s H vs Q E hr h => ?_)
  · obtain ⟨v1, v2, M, x, lo, hi, n, m, rfl, _⟩ := h
    rfl
  · obtain ⟨v1, v2, M, x, lo, hi, n, m, rfl, ⟨pM, vs, rfl, hM, hk⟩, hx, g, mb, hb, hn, x1, x2, q⟩ := h
    obtain ⟨a0, b0, r0, z0, eM, ea, ez, e2, zm⟩ := g.ends
    refine ⟨_, (pss_cons (ps_if (PW.pt (pw_or (pt_cmpR op_lt (pe_c cfrac_side hr (by decide) (by rfl) (pa_cons (pv 1) (pa_cons (pe_ix ix_tup (pe_ix ix_tup (pv 0) pe_int (fun _ _ => rfl)) pe_int (fun _ _ => rfl)) pa_nil))) pe_int (nomark _)) (pw_or1 (pt_cmpR op_gt (pe_c cfrac_side hr (by decide) (by rfl) (pa_cons (pv 1) (pa_cons (pe_ix ix_tup (pe_ix ix_tup (pv 0) (pe_un un_neg pe_int) (fun _ _ => rfl)) pe_int (fun _ _ => rfl)) pa_nil))) pe_int (nomark _)))))
      (pss_one ps_never)
      pss_nil)
      (pss_cons (ps_set (i := 2) sc_value_of.nd rfl (.inl rfl) pe_int)
      (pss_cons (ps_while PassesOwn.never (pt_cmpR op_lt (pe_c cfrac_side hr (by decide) (by rfl) (pa_cons (pe_ix ix_tup (pe_ix ix_tup (pv 0) (pv 2) (fun _ _ => rfl)) pe_int (fun _ _ => rfl)) (pa_cons (pv 1) pa_nil))) pe_int (nomark _))
      (pss_one (ps_aug (i := 2) sc_value_of.nd rfl (.inl rfl) pe_int ip_add)))
      (pss_cons (ps_set (i := 3) sc_value_of.nd rfl (.inl rfl) (pe_ix ix_tup (pv 0) (pe_op op_sub (pv 2) pe_int) (fun _ _ => rfl)))
      (pss_cons (ps_set (i := 4) sc_value_of.nd rfl (.inl rfl) (pe_c cfrac_times hr (by decide) (by rfl) (pa_cons (pe_c cslope_between hr (by decide) (by rfl) (pa_cons (pv 3) (pa_cons (pe_ix ix_tup (pv 0) (pv 2) (fun _ _ => rfl)) pa_nil))) (pa_cons (pe_c cfrac_less hr (by decide) (by rfl) (pa_cons (pv 1) (pa_cons (pe_ix ix_tup (pv 3) pe_int (fun _ _ => rfl)) pa_nil))) pa_nil))))
      (pss_one (ps_ret (pe_c cfrac_plus hr (by decide) (by rfl) (pa_cons (pe_ix ix_tup (pv 3) pe_int (fun _ _ => rfl)) (pa_cons (pv 4) pa_nil)))))))))), ?_⟩
    have m0 : M[0]? = some a0 := by rw [eM]; rfl
    obtain ⟨w0, g0, p0, u01, u02, rfl, h0, f01, f02⟩ := hk.get m0
    have mz : M.getLast? = some z0 := by rw [eM]; exact ez
    obtain ⟨wz, gz, pz, uz1, uz2, rfl, hz, fz1, fz2⟩ := hk.last mz
    have bx := mb a0 (by rw [eM]; simp)
    have bz := mb z0 (by rw [eM]; exact List.mem_cons_of_mem _ zm)
    -- the point is of the stretch
    have at0 : atI vs 0 = some (.ref p0) := atI_nat (j := 0) g0
    have atz : atI vs (-1) = some (.ref pz) := atI_neg1 gz
    walk_at "rd"
    refine ⟨_, _, x, a0.1, m, n, rfl, hx, f01, hb, bx.1, by omega, ?_⟩
    walk_at "rd"
    have c1 : decide (BM.sg (x - a0.1) < 0) = false := decide_eq_false fun z => by rw [sg_lt] at z; grind
    rw [c1]
    refine iteF ?_
    walk_at "rd"
    refine ⟨_, _, x, z0.1, m, n, rfl, hx, fz1, hb, bz.1, by omega, ?_⟩
    walk_at "rd"
    have c2 : decide (0 < BM.sg (x - z0.1)) = false := decide_eq_false fun z => by rw [sg_gt] at z; grind
    rw [c2]
    refine iteF ?_
    -- the place
    refine ⟨fun k σ H1 => H1 = H ∧ ∃ (i : Nat) (a b : Kn) (r : Mp), σ = [some (.ref pM), some v2, some (.int ((i + 1 : Nat) : Int)), none, none] ∧ M.drop i = a :: b :: r ∧ k = r.length ∧ a.1 ≤ x ∧ BM.evl (a :: b :: r) x = BM.evl M x,
      ⟨r0.length, rfl, 0, a0, b0, r0, rfl, by rw [eM]; rfl, rfl, by grind, by rw [eM]⟩, ?_⟩
    rintro k σ H1 ⟨rfl, i, a, b, r, rfl, ed, rfl, ax, ev⟩
    have ma : M[i]? = some a := by rw [← List.head?_drop, ed]; rfl
    have mb' : M[i + 1]? = some b := by
      have e : (M.drop i)[1]? = some b := by rw [ed]; rfl
      rw [List.getElem?_drop] at e
      exact e
    have inM : ∀ k ∈ a :: b :: r, k ∈ M := fun k hk => List.mem_of_mem_drop (i := i) (by rw [ed]; exact hk)
    have ba := mb a (inM a (by simp))
    have bb := mb b (inM b (by simp))
    have incD : BM.Inc (a :: b :: r) := by
      have := g.inc.sub (List.drop_sublist i M)
      rw [ed] at this
      exact this
    obtain ⟨wa, ga, ta⟩ := hk.get ma
    obtain ⟨wb, gb, tb⟩ := hk.get mb'
    obtain ⟨pb, ub1, ub2, rfl, hb', fb1, fb2⟩ := id tb
    have atb : atI vs (((i + 1 : Nat) : Nat) : Int) = some (.ref pb) := atI_nat gb
    walk_at "rd"
    refine ⟨_, _, b.1, x, n, m, rfl, fb1, hx, bb.1, hb, by omega, ?_⟩
    walk_at "rd"
    refine ite2 (fun c => ?_) (fun c => ?_)
    · have c' : b.1 < x := sg_lt.mp (of_decide_eq_true c)
      refine ⟨_, fun _ _ h => h, ?_⟩
      walk_at "rd"
      have ne : r ≠ [] := by
        rintro rfl
        have e1 : M.drop (i + 1) = [b] := by
          rw [← List.drop_drop, ed]; rfl
        have e3 : M.getLast? = some b := by
          have l : (M.drop (i + 1)).getLast? = M.getLast? := by
            rw [List.getLast?_drop, if_neg]
            intro z
            rw [List.drop_eq_nil_of_le z] at e1
            cases e1
          rw [← l, e1]; rfl
        rw [mz] at e3
        have := Option.some.inj e3
        subst this
        grind
      obtain ⟨c0, r', rfl⟩ := List.exists_cons_of_ne_nil ne
      refine ⟨r'.length, by simp, rfl, i + 1, b, c0, r', rfl, by rw [← List.drop_drop, ed]; rfl, rfl, Rat.le_of_lt c', ?_⟩
      rw [← ev]
      show _ = if x ≤ b.1 then _ else _
      rw [if_neg (by grind)]
    · have c' : x ≤ b.1 := by
        have : ¬ b.1 < x := fun z => c (decide_eq_true (sg_lt.mpr z))
        grind
      have el : BM.evl M x = BM.line a b x := by
        rw [← ev]
        exact BM.evl_adj incD (BM.Adj.head a b r) ax c'
      obtain ⟨pa, ua1, ua2, rfl, ha', fa1, fa2⟩ := id ta
      have ata : atI vs ((((i + 1 : Nat) : Nat) : Int) - 1) = some (.ref pa) := at_of (j := i) (by omega) ga
      walk_at "rd"
      refine ⟨_, _, a, b, n, rfl, ta, tb, ba, bb, by omega, incD.1, fun H1 u1 s1 f1 => ?_⟩
      have k1 := Keep.of s1
      have ha1 := k1.sqT ha'
      walk_at "rd"
      refine ⟨_, _, x, a.1, m, n, rfl, hx.keep k1, fa1.keep k1, hb, ba.1, by omega, trivial, fun H2 u2 s2 f2 => ?_⟩
      have k2 := Keep.of s2
      have sb : Hb (4 * n + 2) (BM.slope a b) := ((bb.2.sub ba.2).div (bb.1.sub ba.1) (by have := incD.1; grind)).mono (by omega)
      refine ⟨_, _, BM.slope a b, x - a.1, 4 * n + 2, m + n + 1, rfl, f1.keep k2, f2, sb, hb.sub ba.1, by omega, trivial, fun H3 u3 s3 f3 => ?_⟩
      have k3 := Keep.of s3
      have ha3 := (k1.trans (k2.trans k3)).sqT ha'
      walk_at "rd"
      refine ⟨_, _, a.2, BM.slope a b * (x - a.1), n, 5 * n + m + 3, rfl, fa2.keep (k1.trans (k2.trans k3)), f3, ba.2, (sb.mul (hb.sub ba.1)).mono (by omega), by omega, trivial, fun H4 u4 s4 f4 => ?_⟩
      refine q H4 u4 (s1.trans (s2.trans (s3.trans s4))) ?_
      rw [el]
      exact f4
end
end BW
namespace BW
open PySem PySem.Spec PyProof.Rows L2
open BM (Hb Kn Mp)
local macro_rules | `(tactic| walk_at "rd") => `(tactic| repeat (first
  | (refine ⟨_, _, _, _, rfl, rfl, by assumption, by first | rfl | assumption, ?_⟩)
  | (refine ⟨_, rfl, ?_⟩)
  | (refine ⟨_, _, rfl, rfl, (by assumption : CMulW _ _), ?_⟩)
  | (refine ⟨_, _, rfl, rfl, ?_⟩)))
/-- a list or a tuple -/
def SqA (K : PySem.W.Frag) (H : Hp) (p : Addr) (xs : List V) : Prop := SqL K H p xs ∨ SqT K H p xs
theorem Same.sqA {K : PySem.W.Frag} {H H' : Hp} {p : Addr} {xs : List V} (e : Same H H') (h : SqA K H p xs) : SqA K H' p xs := h.elim (fun h => .inl (e.seq h)) fun h => .inr ((Keep.of e).sqT h)
def rIxA (K : PySem.W.Frag) : R2 := fun x y H Q => ∃ p xs i v, x = .ref p ∧ y = .int i ∧ SqA K H p xs ∧ atI xs i = some v ∧ Q v H
theorem ix_any {X : Cx} : IxR X (rIxA X.K) := by
  have h := (ix_list (X := X)).or (ix_tup (X := X))
  intro pins s σ H x y v u Q sl e I r1 r2 q
  refine h pins s σ H x y v u Q sl e I r1 r2 ?_
  obtain ⟨p, xs, i, z, e1, e2, hs, e3, q⟩ := q
  rcases hs with hs | hs
  · exact .inl ⟨p, xs, i, z, e1, e2, hs, e3, q⟩
  · exact .inr ⟨p, xs, i, z, e1, e2, hs, e3, q⟩
abbrev s_least_knots : Stmt := topS 14
theorem sc_least_knots : FnScope ["knots", "found", "place"] ["knots"] (defScope s_least_knots) := ⟨rfl, rfl, rfl, by decide +kernel, rfl, by decide +kernel, by decide +kernel⟩
def spLeast (K : PySem.W.Frag) : Sp := fun vs H Q _ => ∃ (p : Addr) (us : List V) (M : Mp) (n : Nat), vs = [.ref p] ∧ SqA K H p us ∧ Kts K H us M ∧ BM.Inc M ∧ 2 ≤ M.length ∧ M.length ≤ 10000000 ∧ MB n M ∧ 4 * n + 2 ≤ 9000 ∧ ∀ H' v, Same H H' → MpT K H' v (BM.least M) → Q v H'
theorem Fr.dp {K : PySem.W.Frag} {H : Hp} {v : V} {r : Rat} (h : Fr K H v r) : Dp K H v (dR r) := by
  obtain ⟨p, rfl, hs⟩ := h
  exact .tup hs (.cons (.int _) (.cons (.int _) .nil))
theorem dR_shaped (r : Rat) : SeqAt.shaped (dR r) = true := rfl
theorem dR_eqv (r s : Rat) : PyData.eqv (dR r) (dR s) = decide (r = s) := by
  show (r.num == s.num && (((r.den : Int) == (s.den : Int)) && true)) = _
  by_cases e : r = s
  · subst e; simp
  · rw [decide_eq_false e]
    by_cases e1 : r.num = s.num
    · have e2 : ¬ (r.den : Int) = (s.den : Int) := fun z => e (Rat.ext e1 (by omega))
      simp [e2]
    · simp [e1]
theorem lst_drop {M F0 : Mp} {a b c : Kn} {r : Mp} (h : F0 ++ a :: BM.lst a (b :: c :: r) = BM.least M) : (BM.slope a b = BM.slope b c → F0 ++ a :: BM.lst a (c :: r) = BM.least M) ∧ (BM.slope a b ≠ BM.slope b c → (F0 ++ [a]) ++ b :: BM.lst b (c :: r) = BM.least M) := by
  rw [BM.lst] at h
  refine ⟨fun e => ?_, fun e => ?_⟩
  · rw [if_pos e] at h; exact h
  · rw [if_neg e] at h; rw [← h]; simp
theorem small7 {n : Nat} (h : n ≤ 10000000) : n < sizeLine := Nat.lt_of_le_of_lt h (by decide)
section
variable {P : Program} {w : World} {K : PySem.W.Frag} {mg : Str → Option Value} {base : Heap}
theorem ok_least_knots (T : Tx mg) (D : DefAt K mg "least_knots" s_least_knots ["knots"]) (cslope_between : Cal P w K mg base 3 "slope_between" (spSlope K)) : Cal P w K mg base 4 "least_knots" (spLeast K) := by
  refine cal_of D sc_least_knots (fun vs H Q E h => ?_) (fun f cdv A outer s H vs Q E hr h => ?_)
  · obtain ⟨p, us, M, n, rfl, _⟩ := h
    rfl
  · obtain ⟨pM, us, M, n, rfl, hM, hk, inc, two, big, mb, hn, q⟩ := h
    refine ⟨_, (pss_cons (ps_set (i := 1) sc_least_knots.nd rfl (.inl rfl) (pe_lst (pa_cons (pe_ix ix_any (pv 0) pe_int (fun _ _ => rfl)) pa_nil)))
      (pss_cons (ps_for PassesOwn.never rfl (pi_range2 (by rfl) T.range (pa_cons pe_int (pa_cons (pe_op op_sub (pe_callB call_len_seq (by rfl) T.len (by decide +kernel) (pa_cons (pv 0) pa_nil)) pe_int) pa_nil))) (pg_name (i := 2) sc_least_knots.nd rfl (.inl rfl))
      (pss_one (ps_if (pt_cmpR (op_neD (hd_of hr)) (pe_c cslope_between hr (by decide) (by rfl) (pa_cons (pe_ix ix_list (pv 1) (pe_un un_neg pe_int) (fun _ _ => rfl)) (pa_cons (pe_ix ix_any (pv 0) (pv 2) (fun _ _ => rfl)) pa_nil))) (pe_c cslope_between hr (by decide) (by rfl) (pa_cons (pe_ix ix_any (pv 0) (pv 2) (fun _ _ => rfl)) (pa_cons (pe_ix ix_any (pv 0) (pe_op op_add (pv 2) pe_int) (fun _ _ => rfl)) pa_nil))) (nomark _))
        (pss_one (ps_expr (pe_bm PySem.F.plainAttrs_list PySem.F.slot_list_append PySem.F.type_list_append mt_append (pv 1) (pa_cons (pe_ix ix_any (pv 0) (pv 2) (fun _ _ => rfl)) pa_nil))))
        pss_nil)))
      (pss_one (ps_ret (pe_callTy call_tuple_of (by rfl) T.tuple (by decide +kernel) (pa_cons (pe_op op_cat (pv 1) (pe_lst (pa_cons (pe_ix ix_any (pv 0) (pe_un un_neg pe_int) (fun _ _ => rfl)) pa_nil))) pa_nil)))))), ?_⟩
    obtain ⟨a0, b0, r0, eM⟩ : ∃ a b r, M = a :: b :: r := by
      match M, two with
      | a :: b :: r, _ => exact ⟨a, b, r, rfl⟩
    have m0 : M[0]? = some a0 := by rw [eM]; rfl
    obtain ⟨w0, g0, t0⟩ := hk.get m0
    have at0 : atI us 0 = some w0 := atI_nat (j := 0) g0
    walk_at "rd"
    -- found = [knots[0]]
    refine ⟨by show 1 ≤ sizeLine; decide, fun l hl => ?_⟩
    have s1 : Same H (upd H l (.lst [w0])) := same_upd hl
    have hM1 := Same.sqA s1 hM
    walk_at "rd"
    refine ⟨_, _, rfl, hM1, ?_⟩
    walk_at "rd"
    have ul := hk.length
    refine ⟨_, _, rfl, ⟨by decide, by decide, by omega, by omega⟩, ?_⟩
    refine for_range (lo := 1) (n := ((us.length : Int) - 1 - 1).toNat) (fun i σ H1 => ∃ (fs : List V) (F0 : Mp) (a : Kn) (y2 : Option V), σ = [some (.ref pM), some (.ref l), y2] ∧ Same H H1 ∧ H1 l = some (.lst fs) ∧ Kts K H1 fs (F0 ++ [a]) ∧ F0 ++ a :: BM.lst a (M.drop (i + 1)) = BM.least M ∧ a ∈ M ∧ BM.Inc (a :: M.drop (i + 1)) ∧ fs.length ≤ i + 1)
      ⟨[w0], [], a0, none, rfl, s1, upd_same, .cons (t0.keep (Keep.of s1)) .nil, by rw [eM]; rfl, by rw [eM]; simp, by rw [eM]; rw [eM] at inc; exact inc, by simp⟩ ?_ ?_
    · rintro i σ H1 hi ⟨fs, F0, a, y2, rfl, sm, eo, ks, ef, am, ai, fl⟩
      have hM2 := Same.sqA sm hM
      have hk2 := hk.keep (Keep.of sm)
      have hi2 : i + 2 < M.length := by omega
      obtain ⟨b, c, r, ed⟩ : ∃ b c r, M.drop (i + 1) = b :: c :: r := by
        have h1 : M.drop (i + 1) = M[i + 1] :: M.drop (i + 2) := List.drop_eq_getElem_cons (by omega)
        have h2 : M.drop (i + 2) = M[i + 2] :: M.drop (i + 3) := List.drop_eq_getElem_cons (by omega)
        exact ⟨_, _, _, by rw [h1, h2]⟩
      have mbb : M[i + 1]? = some b := by rw [← List.head?_drop, ed]; rfl
      have mcc : M[i + 2]? = some c := by
        have e : (M.drop (i + 1))[1]? = some c := by rw [ed]; rfl
        rw [List.getElem?_drop] at e
        exact e
      obtain ⟨wb, gb, tb⟩ := hk2.get mbb
      obtain ⟨wc, gc, tc⟩ := hk2.get mcc
      obtain ⟨wa, ga, ta⟩ := ks.last (k := a) (by simp)
      have ata : atI fs (-1) = some wa := atI_neg1 ga
      have eint : (1 : Int) + i = ((i + 1 : Nat) : Int) := by omega
      have atb : atI us (1 + (i : Int)) = some wb := at_of eint gb
      have atc : atI us (1 + (i : Int) + 1) = some wc := at_of (j := i + 2) (by omega) gc
      have hfs : SqL K H1 l fs := SqL.of eo
      rw [ed] at ef ai
      have inM : ∀ k ∈ b :: c :: r, k ∈ M := fun k hk => List.mem_of_mem_drop (i := i + 1) (by rw [ed]; exact hk)
      have ba := mb a am
      have bb := mb b (inM b (by simp))
      have bc := mb c (inM c (by simp))
      walk_at "rd"
      refine ⟨_, _, a, b, n, rfl, ta, tb, ba, bb, hn, ai.1, fun H2 u1 s2 f1 => ?_⟩
      have hM3 := Same.sqA s2 hM2
      have k2 := Keep.of s2
      walk_at "rd"
      refine ⟨_, _, b, c, n, rfl, tb.keep k2, tc.keep k2, bb, bc, hn, ai.2.1, fun H3 u2 s3 f2 => ?_⟩
      have k3 := Keep.of s3
      have sm3 : Same H H3 := sm.trans (s2.trans s3)
      have eo3 : H3 l = some (.lst fs) := s3 _ _ (s2 _ _ eo)
      have hM4 := Same.sqA sm3 hM
      have ks3 := (ks.keep k2).keep k3
      refine ⟨_, _, (f1.keep k3).dp, f2.dp, dR_shaped _, dR_shaped _, ?_⟩
      rw [dR_eqv]
      walk_at "rd"
      have nx := lst_drop ef
      by_cases e : BM.slope a b = BM.slope b c
      · rw [decide_eq_true e]
        refine iteF ?_
        exact ⟨fs, F0, a, _, rfl, sm3, eo3, ks3, by rw [show M.drop (i + 1 + 1) = c :: r by rw [← List.drop_drop, ed]; rfl]; exact nx.1 e, am, by rw [show M.drop (i + 1 + 1) = c :: r by rw [← List.drop_drop, ed]; rfl]; exact ai.drop2, by omega⟩
      · rw [decide_eq_false e]
        refine iteT ?_
        have ed2 : M.drop (i + 1 + 1) = c :: r := by rw [← List.drop_drop, ed]; rfl
        walk_at "rd"
        refine ⟨.inl ⟨rfl, _, SqL.of eo3⟩, ?_⟩
        walk_at "rd"
        refine ⟨l, fs, wb, rfl, rfl, eo3, small7 (by omega), ?_⟩
        have kl := Keep.lst (o := .lst (fs ++ [wb])) eo3
        refine ⟨fs ++ [wb], F0 ++ [a], b, _, rfl, Same.upd_new sm3 hl, upd_same, ?_, by rw [ed2]; exact nx.2 e, inM b (by simp), by rw [ed2]; exact ai.2, by rw [List.length_append, List.length_singleton]; omega⟩
        exact Kts.append (ks3.keep kl) (.cons (((tb.keep k2).keep k3).keep kl) .nil)
    · rintro σ H1 ⟨fs, F0, a, y2, rfl, sm, eo, ks, ef, am, ai, fl⟩
      have hM2 := Same.sqA sm hM
      have hk2 := hk.keep (Keep.of sm)
      have eN : ((us.length : Int) - 1 - 1).toNat = M.length - 2 := by omega
      rw [eN] at ef ai fl
      have el : M.length - 2 + 1 = M.length - 1 := by omega
      rw [el] at ef ai
      obtain ⟨z, hz⟩ : ∃ z, M.getLast? = some z := ⟨_, List.getLast?_eq_some_getLast (by rw [eM]; simp)⟩
      have ez : M.drop (M.length - 1) = [z] := by
        rw [List.getLast?_eq_getElem?] at hz
        rw [List.drop_eq_getElem_cons (by omega), List.drop_eq_nil_of_le (by omega)]
        rw [List.getElem?_eq_getElem (by omega)] at hz
        rw [Option.some.inj hz]
      rw [ez] at ef
      obtain ⟨wz, gz, tz⟩ := hk2.last hz
      have atz : atI us (-1) = some wz := atI_neg1 gz
      walk_at "rd"
      refine ⟨by show 1 ≤ sizeLine; decide, fun l2 hl2 => ?_⟩
      have nl : l ≠ l2 := ne_of_none eo hl2
      walk_at "rd"
      refine ⟨l, l2, fs, [wz], rfl, rfl, by rw [upd_ne nl]; exact eo, upd_same, Nat.le_of_lt (small7 (by rw [List.length_singleton]; omega)), fun l3 hl3 => ?_⟩
      refine ⟨l3, _, rfl, .inl ⟨SqL.of upd_same, fun l4 hl4 => ?_⟩⟩
      have s2 : Same H1 (upd H1 l2 (.lst [wz])) := same_upd hl2
      have s3 := s2.trans (same_upd (o := .lst (fs ++ [wz])) hl3)
      have s4 := s3.trans (same_upd (o := .tup (fs ++ [wz])) hl4)
      refine q _ _ (sm.trans s4) ⟨l4, _, rfl, .inl (.inl upd_same), ?_⟩
      have e : BM.least M = (F0 ++ [a]) ++ [z] := by rw [← ef]; simp [BM.lst]
      rw [e]
      exact (Kts.append ks (.cons tz .nil)).keep (Keep.of s4)
end
end BW
namespace BW
open PySem PySem.Spec PyProof.Rows L2
open BM (Hb Kn Mp)
local macro_rules | `(tactic| walk_at "rd") => `(tactic| repeat (first
  | (refine ⟨_, _, _, _, rfl, rfl, by first | (show SqT _ _ _ _; assumption) | (show SqL _ _ _ _; assumption) | (show SqA _ _ _ _; assumption), by first | rfl | assumption, ?_⟩)
  | (refine ⟨_, rfl, ?_⟩)
  | (refine ⟨_, _, rfl, rfl, (by assumption : CMulW _ _), ?_⟩)
  | (refine ⟨_, _, rfl, rfl, ?_⟩)))
abbrev s_is_amid : Stmt := topS 16
theorem sc_is_amid : FnScope ["point", "one", "other"] ["point", "one", "other"] (defScope s_is_amid) := ⟨rfl, rfl, rfl, by decide +kernel, rfl, by decide +kernel, by decide +kernel⟩
abbrev s_knots_amid : Stmt := topS 17
theorem sc_knots_amid : FnScope ["ahead", "behind", "other", "found", "at", "to", "far"] ["ahead", "behind", "other"] (defScope s_knots_amid) := ⟨rfl, rfl, rfl, by decide +kernel, rfl, by decide +kernel, by decide +kernel⟩
def spIsAmid (K : PySem.W.Frag) : Sp := fun vs H Q _ => ∃ (v1 v2 v3 : V) (x y z : Rat) (n m : Nat), vs = [v1, v2, v3] ∧ Fr K H v1 x ∧ Fr K H v2 y ∧ Fr K H v3 z ∧ Hb m x ∧ Hb n y ∧ Hb n z ∧ n + m ≤ 9000 ∧ Q (.bl (decide ((y < x ∧ x < z) ∨ (z < x ∧ x < y)))) H
def spKnotsAmid (K : PySem.W.Frag) : Sp := fun vs H Q _ => ∃ (v1 v2 v3 : V) (a b : Kn) (o : Mp) (n m : Nat), vs = [v1, v2, v3] ∧ Kt K H v1 a ∧ Kt K H v2 b ∧ MpT K H v3 o ∧ KB n a ∧ KB n b ∧ MB m o ∧ 6 * n + m + 4 ≤ 9000 ∧ a.1 < b.1 ∧ o.length ≤ 10000000 ∧
  ∀ H' p xs, Same H H' → H p = none → H' p = some (.lst xs) → Kts K H' xs (BM.amid a b o) → Q (.ref p) H'
theorem sg_amid (x y z : Rat) : decide (V.int (BM.sg (y - x) * BM.sg (x - z)) = V.int 1) = decide ((y < x ∧ x < z) ∨ (z < x ∧ x < y)) := by
  refine decide_eq_decide.mpr ⟨fun h => ?_, fun h => ?_⟩
  · have e := V.int.inj h
    rcases BM.sg_cases (y - x) with ⟨p, q⟩ | ⟨p, q⟩ | ⟨p, q⟩ <;> rcases BM.sg_cases (x - z) with ⟨p2, q2⟩ | ⟨p2, q2⟩ | ⟨p2, q2⟩ <;> rw [q, q2] at e <;> first | (exfalso; revert e; decide) | grind
  · rcases h with ⟨h1, h2⟩ | ⟨h1, h2⟩
    · rw [BM.sg_neg (show y - x < 0 by grind), BM.sg_neg (show x - z < 0 by grind)]; rfl
    · rw [BM.sg_pos (show 0 < y - x by grind), BM.sg_pos (show 0 < x - z by grind)]; rfl
theorem sg_le (x : Rat) : (BM.sg x).natAbs < 2 ^ 1 := by
  rcases BM.sg_cases x with ⟨p, q⟩ | ⟨p, q⟩ | ⟨p, q⟩ <;> rw [q] <;> decide
theorem amidUp_take (a b : Kn) (o : Mp) {i : Nat} {k : Kn} (h : o[i]? = some k) : BM.amidUp a b (o.take (i + 1)) = BM.amidUp a b (o.take i) ++ (if (a.2 < k.1 ∧ k.1 < b.2) ∨ (b.2 < k.1 ∧ k.1 < a.2) then [(a.1 + (k.1 - a.2) / BM.slope a b, k.2)] else []) := by
  unfold BM.amidUp
  rw [List.take_add_one, h, List.filter_append, List.map_append]
  congr 1
  show ([k].filter _).map _ = _
  rw [List.filter_cons]
  by_cases c : (a.2 < k.1 ∧ k.1 < b.2) ∨ (b.2 < k.1 ∧ k.1 < a.2)
  · rw [if_pos (decide_eq_true c), if_pos c]; rfl
  · rw [if_neg (by rw [decide_eq_false c]; decide), if_neg c]; rfl
section
variable {P : Program} {w : World} {K : PySem.W.Frag} {mg : Str → Option Value} {base : Heap}
theorem ok_is_amid (D : DefAt K mg "is_amid" s_is_amid ["point", "one", "other"]) (cfrac_side : Cal P w K mg base 1 "frac_side" (spSide K)) : Cal P w K mg base 2 "is_amid" (spIsAmid K) := by
  refine cal_of D sc_is_amid (fun vs H Q E h => ?_) (fun f cdv A outer s H vs Q E hr h => ?_)
  · obtain ⟨v1, v2, v3, x, y, z, n, m, rfl, _⟩ := h
    rfl
  · obtain ⟨v1, v2, v3, x, y, z, n, m, rfl, f1, f2, f3, b1, b2, b3, hn, q⟩ := h
    refine ⟨_, (pss_one (ps_ret (pe_cmpR op_eq (pe_op op_mulW (pe_c cfrac_side hr (by decide) (by rfl) (pa_cons (pv 1) (pa_cons (pv 0) pa_nil))) (pe_c cfrac_side hr (by decide) (by rfl) (pa_cons (pv 0) (pa_cons (pv 2) pa_nil)))) pe_int (nomark _)))), ?_⟩
    walk_at "rd"
    refine ⟨_, _, y, x, n, m, rfl, f2, f1, b2, b1, hn, ?_⟩
    walk_at "rd"
    refine ⟨_, _, x, z, m, n, rfl, f1, f3, b1, b3, by omega, ?_⟩
    have cm : CMulW (BM.sg (y - x)) (BM.sg (x - z)) := wm (sg_le _) (sg_le _) (by decide) (by decide) (by decide)
    walk_at "rd"
    refine ⟨rfl, ?_⟩
    show Q (.bl (decide (V.int (BM.sg (y - x) * BM.sg (x - z)) = V.int 1))) H
    rw [sg_amid]
    exact q
theorem ok_knots_amid (D : DefAt K mg "knots_amid" s_knots_amid ["ahead", "behind", "other"]) (cfrac_side : Cal P w K mg base 1 "frac_side" (spSide K)) (cfrac_less : Cal P w K mg base 2 "frac_less" (spOp K (· - ·) fun _ _ => True))
    (cfrac_over : Cal P w K mg base 2 "frac_over" (spOp K (· / ·) fun _ s => s ≠ 0)) (cfrac_plus : Cal P w K mg base 2 "frac_plus" (spOp K (· + ·) fun _ _ => True)) (cslope_between : Cal P w K mg base 3 "slope_between" (spSlope K)) (cis_amid : Cal P w K mg base 2 "is_amid" (spIsAmid K)) :
    Cal P w K mg base 4 "knots_amid" (spKnotsAmid K) := by
  refine cal_of D sc_knots_amid (fun vs H Q E h => ?_) (fun f cdv A outer s H vs Q E hr h => ?_)
  · obtain ⟨v1, v2, v3, a, b, o, n, m, rfl, _⟩ := h
    rfl
  · obtain ⟨v1, v2, v3, a, b, o, n, m, rfl, ta, tb, ⟨po, us, rfl, ho, hk⟩, ka, kb, mb, hn, lt, big, q⟩ := h
    obtain ⟨pa, ua1, ua2, rfl, ha, fa1, fa2⟩ := id ta
    obtain ⟨pb, ub1, ub2, rfl, hb, fb1, fb2⟩ := id tb
    refine ⟨_, (pss_cons (ps_set (i := 3) sc_knots_amid.nd rfl (.inl rfl) (pe_lst pa_nil))
      (pss_cons (ps_for PassesOwn.never rfl (pi_tup (pv 2)) (pg_tup rfl (pgs_cons (pg_name (i := 4) sc_knots_amid.nd rfl (.inl rfl)) (pgs_cons (pg_name (i := 5) sc_knots_amid.nd rfl (.inl rfl)) pgs_nil)))
      (pss_one (ps_if (pt_val (pe_c cis_amid hr (by decide) (by rfl) (pa_cons (pv 4) (pa_cons (pe_ix ix_tup (pv 0) pe_int (fun _ _ => rfl)) (pa_cons (pe_ix ix_tup (pv 1) pe_int (fun _ _ => rfl)) pa_nil)))))
        (pss_cons (ps_set (i := 6) sc_knots_amid.nd rfl (.inl rfl) (pe_c cfrac_over hr (by decide) (by rfl) (pa_cons (pe_c cfrac_less hr (by decide) (by rfl) (pa_cons (pv 4) (pa_cons (pe_ix ix_tup (pv 0) pe_int (fun _ _ => rfl)) pa_nil))) (pa_cons (pe_c cslope_between hr (by decide) (by rfl) (pa_cons (pv 0) (pa_cons (pv 1) pa_nil))) pa_nil))))
          (pss_one (ps_expr (pe_bm PySem.F.plainAttrs_list PySem.F.slot_list_append PySem.F.type_list_append mt_append (pv 3) (pa_cons (pe_tup (pa_cons (pe_c cfrac_plus hr (by decide) (by rfl) (pa_cons (pe_ix ix_tup (pv 0) pe_int (fun _ _ => rfl)) (pa_cons (pv 6) pa_nil))) (pa_cons (pv 5) pa_nil))) pa_nil)))))
        pss_nil)))
      (pss_cons (ps_if (pt_cmpR op_gt (pe_c cfrac_side hr (by decide) (by rfl) (pa_cons (pe_ix ix_tup (pv 0) pe_int (fun _ _ => rfl)) (pa_cons (pe_ix ix_tup (pv 1) pe_int (fun _ _ => rfl)) pa_nil))) pe_int (nomark _))
      (pss_one (ps_ret (pe_revL (pv 3))))
      pss_nil)
      (pss_one (ps_ret (pv 3)))))), ?_⟩
    -- found = []
    refine ⟨Nat.zero_le _, fun l hl => ?_⟩
    have s1 : Same H (upd H l (.lst [])) := same_upd hl
    have ho1 := (Keep.of s1).sqT ho
    have ul := hk.length
    refine ⟨_, rfl, po, rfl, ⟨_, ho1⟩, for_tup (K := K) (a := po) (xs := us) (fun i σ H1 => ∃ (fs : List V) (y4 y5 y6 : Option V), σ = [some (.ref pa), some (.ref pb), some (.ref po), some (.ref l), y4, y5, y6] ∧ Same H H1 ∧ H1 l = some (.lst fs) ∧ Kts K H1 fs (BM.amidUp a b (o.take i)) ∧ fs.length ≤ i)
      ⟨[], none, none, none, rfl, s1, upd_same, .nil, Nat.le_refl _⟩ (fun i σ H1 _ ⟨_, _, _, _, _, sm, _⟩ => (Keep.of sm).sqT ho) ?_ ?_⟩
    · rintro i x σ H1 hx ⟨fs, y4, y5, y6, rfl, sm, eo, ks, fl⟩
      have hil : i < us.length := (List.getElem?_eq_some_iff.mp hx).1
      have hio : i < o.length := by omega
      have go : o[i]? = some o[i] := List.getElem?_eq_getElem hio
      have hk1 := hk.keep (Keep.of sm)
      obtain ⟨x', gx, px, u1, u2, rfl, hp, f1, f2⟩ := hk1.get go
      have ex : x = .ref px := Option.some.inj (hx.symm.trans gx)
      subst ex
      have km := mb _ (List.getElem_mem hio)
      generalize o[i] = k at go f1 f2 km
      have k1 := Keep.of sm
      have ha1 := k1.sqT ha
      have hb1 := k1.sqT hb
      -- at, to = the knot
      refine ⟨px, _, rfl, hp, rfl, _, _, rfl, _, _, rfl, rfl, ?_⟩
      walk_at "rd"
      refine ⟨_, _, _, k.1, a.2, b.2, n, m, rfl, f1, fa2.keep k1, fb2.keep k1, km.1, ka.2, kb.2, by omega, ?_⟩
      walk_at "rd"
      have tk := amidUp_take a b o go
      refine ite2 (fun c => ?_) (fun c => ?_)
      · have c' := of_decide_eq_true c
        rw [if_pos c'] at tk
        have s0 : BM.slope a b ≠ 0 := by
          intro z
          have e := BM.line_right lt
          unfold BM.line at e
          rw [z] at e
          grind
        walk_at "rd"
        refine ⟨_, _, k.1, a.2, m, n, rfl, f1, fa2.keep k1, km.1, ka.2, by omega, trivial, fun H2 w1 s2 g1 => ?_⟩
        have k2 := Keep.of s2
        walk_at "rd"
        refine ⟨_, _, a, b, n, rfl, (ta.keep k1).keep k2, (tb.keep k1).keep k2, ka, kb, by omega, lt, fun H3 w2 s3 g2 => ?_⟩
        have k3 := Keep.of s3
        have sb : Hb (4 * n + 2) (BM.slope a b) := ((kb.2.sub ka.2).div (kb.1.sub ka.1) (by grind)).mono (by omega)
        refine ⟨_, _, k.1 - a.2, BM.slope a b, m + n + 1, 4 * n + 2, rfl, g1.keep k3, g2, km.1.sub ka.2, sb, by omega, s0, fun H4 w3 s4 g3 => ?_⟩
        have k4 := Keep.of s4
        have sm4 := sm.trans (s2.trans (s3.trans s4))
        have e4 : H4 l = some (.lst fs) := s4 _ _ (s3 _ _ (s2 _ _ eo))
        have k14 := k2.trans (k3.trans k4)
        have ha4 := k14.sqT ha1
        walk_at "rd"
        refine ⟨.inl ⟨rfl, _, SqL.of e4⟩, ?_⟩
        walk_at "rd"
        refine ⟨_, _, a.1, (k.1 - a.2) / BM.slope a b, n, m + n + 1 + (4 * n + 2), rfl, (fa1.keep k1).keep k14, g3, ka.1, (km.1.sub ka.2).div sb s0, by omega, trivial, fun H5 w4 s5 g4 => ?_⟩
        have k5 := Keep.of s5
        have e5 := s5 _ _ e4
        walk_at "rd"
        refine ⟨by show 2 ≤ sizeLine; decide, fun p5 hp5 => ?_⟩
        have np : l ≠ p5 := ne_of_none e5 hp5
        have s6 : Same H5 (upd H5 p5 (.tup [w4, u2])) := same_upd hp5
        have e6 : (upd H5 p5 (.tup [w4, u2])) l = some (.lst fs) := s6 _ _ e5
        refine ⟨l, fs, .ref p5, rfl, rfl, e6, small7 (by omega), ?_⟩
        have k6 := Keep.of s6
        have kl := Keep.lst (o := .lst (fs ++ [.ref p5])) e6
        refine ⟨fs ++ [.ref p5], _, _, _, rfl, Same.upd_new (sm4.trans (s5.trans s6)) hl, upd_same, ?_, by rw [List.length_append, List.length_singleton]; omega⟩
        rw [tk]
        refine Kts.append ((ks.keep k14).keep (k5.trans (k6.trans kl))) (.cons ?_ .nil)
        exact Kt.keep ⟨p5, w4, u2, rfl, .inl (.inl upd_same), g4.keep k6, ((f2.keep k14).keep k5).keep k6⟩ kl
      · have c' : ¬ _ := fun z => c (decide_eq_true z)
        rw [if_neg c', List.append_nil] at tk
        exact ⟨fs, _, _, _, rfl, sm, eo, by rw [tk]; exact ks, by omega⟩
    · rintro σ H1 ⟨fs, y4, y5, y6, rfl, sm, eo, ks, fl⟩
      have k1 := Keep.of sm
      have ha1 := k1.sqT ha
      have hb1 := k1.sqT hb
      rw [ul, List.take_length] at ks
      walk_at "rd"
      refine ⟨_, _, a.2, b.2, n, n, rfl, fa2.keep k1, fb2.keep k1, ka.2, kb.2, by omega, ?_⟩
      walk_at "rd"
      refine ite2 (fun c => ?_) (fun c => ?_)
      · have c' : b.2 < a.2 := sg_gt.mp (of_decide_eq_true c)
        refine ⟨_, rfl, l, fs, rfl, SqL.of eo, fun p hp => ?_⟩
        have s2 : Same H1 (upd H1 p (.lst fs.reverse)) := same_upd hp
        refine q _ p _ (sm.trans s2) (Same.free sm hp) upd_same ?_
        unfold BM.amid
        rw [if_pos c']
        exact ks.reverse.keep (Keep.of s2)
      · have c' : ¬ b.2 < a.2 := fun z => c (decide_eq_true (sg_gt.mpr z))
        refine ⟨_, rfl, ?_⟩
        refine q _ l _ sm hl eo ?_
        unfold BM.amid
        rw [if_neg c']
        exact ks
end
end BW
namespace BW
open PySem PySem.Spec PyProof.Rows L2
open BM (Hb Kn Mp)
local macro_rules | `(tactic| walk_at "rd") => `(tactic| repeat (first
  | (refine ⟨_, _, _, _, rfl, rfl, by first | (show SqT _ _ _ _; assumption) | (show SqL _ _ _ _; assumption) | (show SqA _ _ _ _; assumption), by first | rfl | assumption, ?_⟩)
  | (refine ⟨_, rfl, ?_⟩)
  | (refine ⟨_, _, rfl, rfl, (by assumption : CMulW _ _), ?_⟩)
  | (refine ⟨_, _, rfl, rfl, ?_⟩)))
abbrev s_put_behind : Stmt := topS 18
theorem sc_put_behind : FnScope ["one", "other", "found", "ahead", "behind"] ["one", "other"] (defScope s_put_behind) := ⟨rfl, rfl, rfl, by decide +kernel, rfl, by decide +kernel, by decide +kernel⟩
abbrev s_turned : Stmt := topS 19
theorem sc_turned : FnScope ["knots", "many", "first", "last", "found", "turn"] ["knots", "many"] (defScope s_turned) := ⟨rfl, rfl, rfl, by decide +kernel, rfl, by decide +kernel, by decide +kernel⟩
abbrev s_laps_of : Stmt := topS 21
theorem sc_laps_of : FnScope ["knots", "laps", "way", "ahead", "behind", "rising"] ["knots"] (defScope s_laps_of) := ⟨rfl, rfl, rfl, by decide +kernel, rfl, by decide +kernel, by decide +kernel⟩
abbrev s_pieces_of : Stmt := topS 20
theorem sc_pieces_of : FnScope ["knots", "found", "ahead", "behind"] ["knots"] (defScope s_pieces_of) := ⟨rfl, rfl, rfl, by decide +kernel, rfl, by decide +kernel, by decide +kernel⟩
theorem cut1 {xs : List V} : cutV xs (some 1) none = xs.drop 1 := by
  unfold cutV
  rw [show HT.sIx xs.length 0 (some 1) = min 1 xs.length from HT.sIx_nat xs.length 0 1, HT.sIx_none]
  cases xs with
  | nil => rfl
  | cons x r =>
    rw [show min 1 (x :: r).length = 1 by
      rw [List.length_cons]
      omega]
    show (List.take ((x :: r).length - 1) r) = r
    rw [List.length_cons, Nat.add_sub_cancel]
    exact List.take_length
theorem not_whole {xs : List V} (h : 1 ≤ xs.length) : ¬ (HT.sIx xs.length 0 (some 1) = 0 ∧ HT.sIx xs.length xs.length none = xs.length) := by
  rw [show HT.sIx xs.length 0 (some 1) = min 1 xs.length from HT.sIx_nat xs.length 0 1]
  omega
/-- a loop over zip(t, t[1:]) of a tuple -/
theorem for_pairs {K : PySem.W.Frag} {a b : Addr} {xs : List V} {g : TG} {tb : TS} {D : Ends} {σ : L2.St} {H : Hp} (Pv : Nat → L2.St → Hp → Prop) (h0 : Pv 0 σ H) (hq : ∀ i σ H, Pv i σ H → SqT K H a xs ∧ SqT K H b (xs.drop 1))
    (hs : ∀ (i : Nat) (x y : V) (T : Addr) (σ : L2.St) (H : Hp), xs[i]? = some x → xs[i + 1]? = some y → Pv i σ H → H T = none → g (.ref T) σ (upd H T (.tup [x, y])) fun σ2 H2 => tb { D with nx := Pv (i + 1), ct := Pv (i + 1), bk := D.nx } σ2 H2) (hd : ∀ σ H, Pv (xs.length - 1) σ H → D.nx σ H) :
    ∃ W : Nat → Nat → L2.St → Hp → Prop, (∃ m, W 0 m σ H) ∧ ∀ i m σ H, W i m σ H →
      ((RZ.ItzT K a b).stop i H ∧ D.nx σ H) ∨ ((RZ.ItzT K a b).go i H ∧ ∃ N : L2.St → Hp → Prop, (∀ σ' H', N σ' H' → ∃ m', m' < m ∧ W (i + 1) m' σ' H') ∧ ∀ v H', (RZ.ItzT K a b).yld i H v H' → g v σ H' fun σ2 H2 => tb { D with nx := N, ct := N, bk := D.nx } σ2 H2) := by
  refine ⟨fun i m σ H => m = xs.length - 1 - i ∧ i ≤ xs.length - 1 ∧ Pv i σ H, ⟨xs.length - 1, rfl, Nat.zero_le _, h0⟩, ?_⟩
  rintro i m σ H ⟨rfl, hi, p⟩
  obtain ⟨qx, qy⟩ := hq i σ H p
  by_cases hlt : i < xs.length - 1
  · have hx : xs[i]? = some xs[i] := List.getElem?_eq_getElem (by omega)
    have hy1 : xs[i + 1]? = some xs[i + 1] := List.getElem?_eq_getElem (by omega)
    have hy : (xs.drop 1)[i]? = some xs[i + 1] := by rw [List.getElem?_drop, Nat.add_comm 1 i]; exact hy1
    refine .inr ⟨⟨xs, xs.drop 1, _, _, qx, qy, hx, hy⟩, Pv (i + 1), fun σ' H' p' => ⟨xs.length - 1 - (i + 1), by omega, rfl, hlt, p'⟩, fun v H' y => ?_⟩
    obtain ⟨T, x', y', rfl, hT, rfl, f1, f2⟩ := y
    have e2 := f2 _ qy
    rw [List.getElem?_drop, Nat.add_comm 1 i] at e2
    exact hs i x' y' T σ H (f1 xs qx) e2 p hT
  · have e : i = xs.length - 1 := by omega
    subst e
    exact .inl ⟨⟨xs, xs.drop 1, qx, qy, Or.inr (by rw [List.length_drop]; exact Nat.le_refl _)⟩, hd σ H p⟩
/-- both may be put one behind the other -/
structure PutOk (M o : Mp) : Prop where
  b1 : MB 1250 M
  b2 : MB 1250 o
  b3 : MB 1250 (BM.raw o M)
  l1 : M.length ≤ 1000000
  l2 : o.length ≤ 1000000
  l3 : (BM.raw o M).length ≤ 1000000
def spPut (K : PySem.W.Frag) : Sp := fun vs H Q _ => ∃ (v1 v2 : V) (M o : Mp) (lo hi : Rat), vs = [v1, v2] ∧ MpT K H v1 M ∧ MpT K H v2 o ∧ BM.Good lo hi M ∧ BM.Good lo hi o ∧ PutOk M o ∧ ∀ H' v, Same H H' → MpT K H' v (BM.put M o) → Q v H'
def spTurned (K : PySem.W.Frag) : Sp := fun vs H Q _ => ∃ (v : V) (M : Mp) (lo hi : Rat) (m : Nat), vs = [v, .int (m : Int)] ∧ MpT K H v M ∧ BM.Good lo hi M ∧ m ≤ 1000 ∧ (∀ k, k < m → PutOk (BM.turned lo hi M k) M) ∧ ∀ H' v, Same H H' → MpT K H' v (BM.turned lo hi M m) → Q v H'
def spLaps (K : PySem.W.Frag) : Sp := fun vs H Q _ => ∃ (v : V) (M : Mp), vs = [v] ∧ MpT K H v M ∧ 1 ≤ M.length ∧ MB 4500 M ∧ ∀ H', Same H H' → Q (.int (BM.laps M : Int)) H'
theorem fr_ne {K : PySem.W.Frag} {H : Hp} {v u : V} {r : Rat} (h : Fr K H v r) (k : Fr K H u r) : ∃ d e, Dp K H v d ∧ Dp K H u e ∧ SeqAt.shaped d = true ∧ SeqAt.shaped e = true ∧ PyData.eqv d e = true :=
  ⟨_, _, h.dp, k.dp, dR_shaped _, dR_shaped _, by rw [dR_eqv]; exact decide_eq_true rfl⟩
section
variable {P : Program} {w : World} {K : PySem.W.Frag} {mg : Str → Option Value} {base : Heap}
theorem ok_put_behind (T : Tx mg) (D : DefAt K mg "put_behind" s_put_behind ["one", "other"]) (cvalue_of : Cal P w K mg base 4 "value_of" (spValue K)) (cknots_amid : Cal P w K mg base 4 "knots_amid" (spKnotsAmid K))
    (cleast_knots : Cal P w K mg base 4 "least_knots" (spLeast K)) : Cal P w K mg base 5 "put_behind" (spPut K) := by
  refine cal_of D sc_put_behind (fun vs H Q E h => ?_) (fun f cdv A outer s H vs Q E hr h => ?_)
  · obtain ⟨v1, v2, M, o, lo, hi, rfl, _⟩ := h
    rfl
  · obtain ⟨v1, v2, M, o, lo, hi, rfl, tM, tO, g, go, ok, q⟩ := h
    obtain ⟨pM, us, rfl, hM, hk⟩ := id tM
    obtain ⟨pO, ws, rfl, hO, hko⟩ := id tO
    refine ⟨_, (pss_cons (ps_if (PW.pt (pw_or (pt_cmpR (op_neD (hd_of hr)) (pe_ix ix_tup (pe_ix ix_tup (pv 0) pe_int (fun _ _ => rfl)) pe_int (fun _ _ => rfl)) (pe_ix ix_tup (pe_ix ix_tup (pv 1) pe_int (fun _ _ => rfl)) pe_int (fun _ _ => rfl)) (nomark _)) (pw_or1 (pt_cmpR (op_neD (hd_of hr)) (pe_ix ix_tup (pe_ix ix_tup (pv 0) (pe_un un_neg pe_int) (fun _ _ => rfl)) pe_int (fun _ _ => rfl)) (pe_ix ix_tup (pe_ix ix_tup (pv 1) (pe_un un_neg pe_int) (fun _ _ => rfl)) pe_int (fun _ _ => rfl)) (nomark _)))))
      (pss_one ps_never)
      pss_nil)
      (pss_cons (ps_set (i := 2) sc_put_behind.nd rfl (.inl rfl) (pe_lst (pa_cons (pe_tup (pa_cons (pe_ix ix_tup (pe_ix ix_tup (pv 0) pe_int (fun _ _ => rfl)) pe_int (fun _ _ => rfl)) (pa_cons (pe_c cvalue_of hr (by decide) (by rfl) (pa_cons (pv 1) (pa_cons (pe_ix ix_tup (pe_ix ix_tup (pv 0) pe_int (fun _ _ => rfl)) pe_int (fun _ _ => rfl)) pa_nil))) pa_nil))) pa_nil)))
      (pss_cons (ps_for PassesOwn.never rfl (RZ.pi_zipA (by rfl) T.zip (pa_cons (pv 0) (pa_cons (pe_slice sl_tup (pv 0) (po_some pe_int) po_none) pa_nil))) (pg_tup rfl (pgs_cons (pg_name (i := 3) sc_put_behind.nd rfl (.inl rfl)) (pgs_cons (pg_name (i := 4) sc_put_behind.nd rfl (.inl rfl)) pgs_nil)))
      (pss_cons (ps_expr (pe_bm PySem.F.plainAttrs_list PySem.F.slot_list_extend PySem.F.type_list_extend mt_extend (pv 2) (pa_cons (pe_c cknots_amid hr (by decide) (by rfl) (pa_cons (pv 3) (pa_cons (pv 4) (pa_cons (pv 1) pa_nil)))) pa_nil)))
        (pss_one (ps_expr (pe_bm PySem.F.plainAttrs_list PySem.F.slot_list_append PySem.F.type_list_append mt_append (pv 2) (pa_cons (pe_tup (pa_cons (pe_ix ix_tup (pv 4) pe_int (fun _ _ => rfl)) (pa_cons (pe_c cvalue_of hr (by decide) (by rfl) (pa_cons (pv 1) (pa_cons (pe_ix ix_tup (pv 4) pe_int (fun _ _ => rfl)) pa_nil))) pa_nil))) pa_nil))))))
      (pss_one (ps_ret (pe_c cleast_knots hr (by decide) (by rfl) (pa_cons (pv 2) pa_nil))))))), ?_⟩
    obtain ⟨a0, b0, r0, z0, eM, ea, ez, e2, zm⟩ := g.ends
    obtain ⟨a1, b1, r1, z1, eO, ea1, ez1, e21, zm1⟩ := go.ends
    have m0 : M[0]? = some a0 := by rw [eM]; rfl
    have o0 : o[0]? = some a1 := by rw [eO]; rfl
    have mz : M.getLast? = some z0 := by rw [eM]; exact ez
    have oz : o.getLast? = some z1 := by rw [eO]; exact ez1
    obtain ⟨x0, g0, p0, u01, u02, rfl, h0, f01, f02⟩ := hk.get m0
    obtain ⟨x1, g1, p1, u11, u12, rfl, h1, f11, f12⟩ := hko.get o0
    obtain ⟨xz, gz, pz, uz1, uz2, rfl, hz, fz1, fz2⟩ := hk.last mz
    obtain ⟨xw, gw, pw, uw1, uw2, rfl, hw, fw1, fw2⟩ := hko.last oz
    have at0 : atI us 0 = some (.ref p0) := atI_nat (j := 0) g0
    have at1 : atI ws 0 = some (.ref p1) := atI_nat (j := 0) g1
    have atz : atI us (-1) = some (.ref pz) := atI_neg1 gz
    have atw : atI ws (-1) = some (.ref pw) := atI_neg1 gw
    have a0M : a0 ∈ M := BM.mem_at m0
    walk_at "rd"
    obtain ⟨d, e, d1, d2, d3, d4, d5⟩ := fr_ne (r := lo) (by rw [← ea]; exact f01) (by rw [← ea1]; exact f11)
    refine ⟨d, e, d1, d2, d3, d4, ?_⟩
    walk_at "rd"
    rw [d5, Bool.not_true]
    refine iteF ?_
    walk_at "rd"
    obtain ⟨d, e, d1, d2, d3, d4, d5⟩ := fr_ne (r := hi) (by rw [← e2]; exact fz1) (by rw [← e21]; exact fw1)
    refine ⟨d, e, d1, d2, d3, d4, ?_⟩
    walk_at "rd"
    rw [d5, Bool.not_true]
    refine iteF ?_
    -- found = [(one[0][0], value_of(other, one[0][1]))]
    walk_at "rd"
    have t0 := g.to a0 a0M
    refine ⟨_, _, o, a0.2, lo, hi, 1250, 1250, rfl, tO, f02, go, ok.b2, (ok.b1 a0 a0M).2, by decide, t0.1, t0.2, fun H1 v1 s1 q1 => ?_⟩
    have k1 := Keep.of s1
    refine ⟨by show 2 ≤ sizeLine; decide, fun pk hpk => ?_⟩
    have s2 : Same H1 (upd H1 pk (.tup [u01, v1])) := same_upd hpk
    have k2 := Keep.of s2
    refine ⟨by show 1 ≤ sizeLine; decide, fun l hl => ?_⟩
    have s3 : Same (upd H1 pk (.tup [u01, v1])) (upd (upd H1 pk (.tup [u01, v1])) l (.lst [.ref pk])) := same_upd hl
    have k3 := Keep.of s3
    have sm0 := s1.trans (s2.trans s3)
    have hl0 : H l = none := Same.free (s1.trans s2) hl
    have tk : Kt K (upd (upd H1 pk (.tup [u01, v1])) l (.lst [.ref pk])) (.ref pk) (a0.1, BM.evl o a0.2) :=
      Kt.keep ⟨pk, u01, v1, rfl, .inl (.inl upd_same), (f01.keep k1).keep k2, q1.keep k2⟩ k3
    have k123 := k1.trans (k2.trans k3)
    have hM3 := k123.sqT hM
    -- zip(one, one[1:])
    have ul := hk.length
    have ul2 : 2 ≤ us.length := by rw [ul]; exact g.two
    refine ⟨_, rfl, _, rfl, 1, rfl, pM, us, rfl, hM3, not_whole (by omega), fun pc hpc => ?_⟩
    have s4 : Same (upd (upd H1 pk (.tup [u01, v1])) l (.lst [.ref pk])) (upd (upd (upd H1 pk (.tup [u01, v1])) l (.lst [.ref pk])) pc (.tup (cutV us (some 1) none))) := same_upd hpc
    have k4 := Keep.of s4
    have hC : SqT K (upd (upd (upd H1 pk (.tup [u01, v1])) l (.lst [.ref pk])) pc (.tup (cutV us (some 1) none))) pc (us.drop 1) := by
      rw [← cut1]; exact .inl (.inl upd_same)
    generalize hHs : upd (upd (upd H1 pk (.tup [u01, v1])) l (.lst [.ref pk])) pc (.tup (cutV us (some 1) none)) = Hs at *
    have smS : Same H Hs := sm0.trans s4
    have eoS : Hs l = some (.lst [.ref pk]) := s4 _ _ upd_same
    refine ⟨pM, pc, us, us.drop 1, rfl, .inr ⟨k4.sqT hM3, hC, for_pairs (xs := us) (fun i σ H3 => ∃ (fs : List V) (y3 y4 : Option V), σ = [some (.ref pM), some (.ref pO), some (.ref l), y3, y4] ∧ Same H H3 ∧ SqT K H3 pc (us.drop 1) ∧ H3 l = some (.lst fs) ∧ Kts K H3 fs (BM.raw o (M.take (i + 1))))
      ⟨[.ref pk], none, none, rfl, smS, hC, eoS, by rw [eM]; exact .cons (tk.keep k4) .nil⟩ (fun i σ H3 ⟨_, _, _, _, sm, hc, _⟩ => ⟨(Keep.of sm).sqT hM, hc⟩) ?_ ?_⟩⟩
    · rintro i x y T' σ H3 hx hy ⟨fs, y3, y4, rfl, sm, hc, eo, ks⟩ hT
      have hil : i + 1 < us.length := (List.getElem?_eq_some_iff.mp hy).1
      obtain ⟨a, b, r, ed, ga, gb, ed2⟩ := BM.drop_two (M := M) (i := i) (by omega)
      have sT : Same H3 (upd H3 T' (.tup [x, y])) := same_upd hT
      have kT := Keep.of sT
      have smT := sm.trans sT
      have k3' := Keep.of smT
      have hkT := hk.keep k3'
      obtain ⟨xa, gxa, ta⟩ := hkT.get ga
      obtain ⟨xb, gxb, tb⟩ := hkT.get gb
      have exa : x = xa := Option.some.inj (hx.symm.trans gxa)
      have exb : y = xb := Option.some.inj (hy.symm.trans gxb)
      subst exa
      subst exb
      have aM := BM.mem_at ga
      have bM := BM.mem_at gb
      have inc := g.inc.at ga gb
      have eoT : (upd H3 T' (.tup [x, y])) l = some (.lst fs) := sT _ _ eo
      have hcT := kT.sqT hc
      generalize hHT : upd H3 T' (.tup [x, y]) = HT at *
      refine ⟨T', _, rfl, (by rw [← hHT]; exact .inl (.inl upd_same)), rfl, _, _, rfl, _, _, rfl, rfl, ?_⟩
      -- found.extend(knots_amid(ahead, behind, other))
      walk_at "rd"
      refine ⟨.inl ⟨rfl, _, SqL.of eoT⟩, ?_⟩
      walk_at "rd"
      refine ⟨_, _, _, a, b, o, 1250, 1250, rfl, ta, tb, tO.keep k3', ok.b1 a aM, ok.b1 b bM, ok.b2, by decide, inc, by have := ok.l2; omega, fun H4 p4 xs s4 n4 e4 ks4 => ?_⟩
      have k4' := Keep.of s4
      have eo4 : H4 l = some (.lst fs) := s4 _ _ eoT
      have rt := BM.raw_take (o := o) ga gb
      have rl : (BM.raw o (M.take (i + 2))).length ≤ 1000000 := Nat.le_trans (BM.raw_take_len _) ok.l3
      have fl := ks.length
      have xl := ks4.length
      rw [rt, List.length_append, List.length_append, List.length_singleton] at rl
      refine ⟨l, p4, fs, xs, rfl, rfl, eo4, e4, Nat.le_of_lt (small7 (by omega)), ?_⟩
      have kl := Keep.lst (o := .lst (fs ++ xs)) eo4
      have ks5 : Kts K (upd H4 l (.lst (fs ++ xs))) (fs ++ xs) (BM.raw o (M.take (i + 1)) ++ BM.amid a b o) := Kts.append (((ks.keep kT).keep k4').keep kl) (ks4.keep kl)
      have sm5 : Same H (upd H4 l (.lst (fs ++ xs))) := Same.upd_new (smT.trans s4) hl0
      have k5 := Keep.of sm5
      have eo5 : (upd H4 l (.lst (fs ++ xs))) l = some (.lst (fs ++ xs)) := upd_same
      have tb5 := (tb.keep k4').keep kl
      have hc5 := kl.sqT (k4'.sqT hcT)
      generalize hH5 : upd H4 l (.lst (fs ++ xs)) = H5 at *
      -- found.append((behind[0], value_of(other, behind[1])))
      obtain ⟨pb, ub1, ub2, rfl, hb, fb1, fb2⟩ := id tb5
      walk_at "rd"
      refine ⟨.inl ⟨rfl, _, SqL.of eo5⟩, ?_⟩
      walk_at "rd"
      have tob := g.to b bM
      refine ⟨_, _, o, b.2, lo, hi, 1250, 1250, rfl, tO.keep k5, fb2, go, ok.b2, (ok.b1 b bM).2, by decide, tob.1, tob.2, fun H6 v6 s6 q6 => ?_⟩
      have k6 := Keep.of s6
      have eo6 : H6 l = some (.lst (fs ++ xs)) := s6 _ _ eo5
      refine ⟨by show 2 ≤ sizeLine; decide, fun p7 hp7 => ?_⟩
      have s7 : Same H6 (upd H6 p7 (.tup [ub1, v6])) := same_upd hp7
      have k7 := Keep.of s7
      have eo7 : (upd H6 p7 (.tup [ub1, v6])) l = some (.lst (fs ++ xs)) := s7 _ _ eo6
      have t7 : Kt K (upd H6 p7 (.tup [ub1, v6])) (.ref p7) (b.1, BM.evl o b.2) := ⟨p7, ub1, v6, rfl, .inl (.inl upd_same), (fb1.keep k6).keep k7, q6.keep k7⟩
      refine ⟨l, fs ++ xs, .ref p7, rfl, rfl, eo7, small7 (by rw [List.length_append]; omega), ?_⟩
      have kl7 := Keep.lst (o := .lst (fs ++ xs ++ [.ref p7])) eo7
      refine ⟨_, _, _, rfl, Same.upd_new (sm5.trans (s6.trans s7)) hl0, kl7.sqT (k7.sqT (k6.sqT hc5)), upd_same, ?_⟩
      rw [rt, ← List.append_assoc]
      exact Kts.append (((ks5.keep k6).keep k7).keep kl7) (.cons (t7.keep kl7) .nil)
    · rintro σ H3 ⟨fs, y3, y4, rfl, sm, hc, eo, ks⟩
      rw [show us.length - 1 + 1 = M.length by omega, List.take_length] at ks
      walk_at "rd"
      refine ⟨l, fs, BM.raw o M, 1250, rfl, .inl (SqL.of eo), ks, (BM.raw_good g go).1.inc, (BM.raw_good g go).1.two, by have := ok.l3; omega, ok.b3, by decide, fun H4 v4 s4 t4 => q H4 v4 (sm.trans s4) t4⟩
end
end BW
namespace BW
open PySem PySem.Spec PyProof.Rows L2
open BM (Hb Kn Mp)
local macro_rules | `(tactic| walk_at "rd") => `(tactic| repeat (first
  | (refine ⟨_, _, _, _, rfl, rfl, by first | (show SqT _ _ _ _; assumption) | (show SqL _ _ _ _; assumption) | (show SqA _ _ _ _; assumption), by first | rfl | assumption, ?_⟩)
  | (refine ⟨_, rfl, ?_⟩)
  | (refine ⟨_, _, rfl, rfl, (by assumption : CMulW _ _), ?_⟩)
  | (refine ⟨_, _, rfl, rfl, ?_⟩)))
section
variable {P : Program} {w : World} {K : PySem.W.Frag} {mg : Str → Option Value} {base : Heap}
theorem ok_turned (T : Tx mg) (D : DefAt K mg "turned" s_turned ["knots", "many"]) (cput_behind : Cal P w K mg base 5 "put_behind" (spPut K)) : Cal P w K mg base 6 "turned" (spTurned K) := by
  refine cal_of D sc_turned (fun vs H Q E h => ?_) (fun f cdv A outer s H vs Q E hr h => ?_)
  · obtain ⟨v, M, lo, hi, m, rfl, _⟩ := h
    rfl
  · obtain ⟨v, M, lo, hi, m, rfl, tM, g, hm, ok, q⟩ := h
    obtain ⟨pM, us, rfl, hM, hk⟩ := id tM
    refine ⟨_, (pss_cons (ps_set (i := 2) sc_turned.nd rfl (.inl rfl) (pe_ix ix_tup (pe_ix ix_tup (pv 0) pe_int (fun _ _ => rfl)) pe_int (fun _ _ => rfl)))
      (pss_cons (ps_set (i := 3) sc_turned.nd rfl (.inl rfl) (pe_ix ix_tup (pe_ix ix_tup (pv 0) (pe_un un_neg pe_int) (fun _ _ => rfl)) pe_int (fun _ _ => rfl)))
      (pss_cons (ps_set (i := 4) sc_turned.nd rfl (.inl rfl) (pe_tup (pa_cons (pe_tup (pa_cons (pv 2) (pa_cons (pv 2) pa_nil))) (pa_cons (pe_tup (pa_cons (pv 3) (pa_cons (pv 3) pa_nil))) pa_nil))))
      (pss_cons (ps_for PassesOwn.never rfl (pi_range1 (by rfl) T.range (pa_cons (pv 1) pa_nil)) (pg_name (i := 5) sc_turned.nd rfl (.inl rfl))
      (pss_one (ps_set (i := 4) sc_turned.nd rfl (.inl rfl) (pe_c cput_behind hr (by decide) (by rfl) (pa_cons (pv 4) (pa_cons (pv 0) pa_nil))))))
      (pss_one (ps_ret (pv 4))))))), ?_⟩
    obtain ⟨a0, b0, r0, z0, eM, ea, ez, e2, zm⟩ := g.ends
    have m0 : M[0]? = some a0 := by rw [eM]; rfl
    have mz : M.getLast? = some z0 := by rw [eM]; exact ez
    obtain ⟨x0, g0, p0, u01, u02, rfl, h0, f01, f02⟩ := hk.get m0
    obtain ⟨xz, gz, pz, uz1, uz2, rfl, hz, fz1, fz2⟩ := hk.last mz
    have at0 : atI us 0 = some (.ref p0) := atI_nat (j := 0) g0
    have atz : atI us (-1) = some (.ref pz) := atI_neg1 gz
    walk_at "rd"
    refine ⟨by show 2 ≤ sizeLine; decide, fun p1 hp1 => ?_⟩
    have s1 : Same H (upd H p1 (.tup [u01, u01])) := same_upd hp1
    walk_at "rd"
    refine ⟨by show 2 ≤ sizeLine; decide, fun p2 hp2 => ?_⟩
    have s2 := same_upd (o := .tup [uz1, uz1]) hp2
    refine ⟨by show 2 ≤ sizeLine; decide, fun p3 hp3 => ?_⟩
    have s3 := same_upd (o := .tup [.ref p1, .ref p2]) hp3
    have k1 := Keep.of s1
    have k2 := Keep.of s2
    have k3 := Keep.of s3
    have sm := s1.trans (s2.trans s3)
    have t0 : MpT K (upd (upd (upd H p1 (.tup [u01, u01])) p2 (.tup [uz1, uz1])) p3 (.tup [.ref p1, .ref p2])) (.ref p3) (BM.turned lo hi M 0) := by
      refine ⟨p3, _, rfl, .inl (.inl upd_same), .cons (Kt.keep (H := upd (upd H p1 (.tup [u01, u01])) p2 (.tup [uz1, uz1])) (Kt.keep (H := upd H p1 (.tup [u01, u01])) ⟨p1, u01, u01, rfl, .inl (.inl upd_same), ?_, ?_⟩ k2) k3) (.cons (Kt.keep (H := upd (upd H p1 (.tup [u01, u01])) p2 (.tup [uz1, uz1])) ⟨p2, uz1, uz1, rfl, .inl (.inl upd_same), ?_, ?_⟩ k3) .nil)⟩
      · show Fr K _ u01 lo
        rw [← ea]; exact f01.keep k1
      · show Fr K _ u01 lo
        rw [← ea]; exact f01.keep k1
      · show Fr K _ uz1 hi
        rw [← e2]; exact fz1.keep (k1.trans k2)
      · show Fr K _ uz1 hi
        rw [← e2]; exact fz1.keep (k1.trans k2)
    generalize hHs : upd (upd (upd H p1 (.tup [u01, u01])) p2 (.tup [uz1, uz1])) p3 (.tup [.ref p1, .ref p2]) = Hs at *
    refine ⟨_, rfl, m, rfl, by omega, by omega, for_range (lo := 0) (n := (m : Int).toNat) (fun i σ H1 => ∃ (v4 : V) (y5 : Option V), σ = [some (.ref pM), some (.int (m : Int)), some u01, some uz1, some v4, y5] ∧ Same H H1 ∧ MpT K H1 v4 (BM.turned lo hi M i))
      ⟨.ref p3, none, rfl, sm, t0⟩ ?_ ?_⟩
    · rintro i σ H1 hi1 ⟨v4, y5, rfl, sm1, t1⟩
      have hi2 : i < m := by omega
      walk_at "rd"
      refine ⟨_, _, BM.turned lo hi M i, M, lo, hi, rfl, t1, tM.keep (Keep.of sm1), BM.turned_good g i, g, ok i hi2, fun H2 v2 s2 t2 => ?_⟩
      exact ⟨v2, _, rfl, sm1.trans s2, t2⟩
    · rintro σ H1 ⟨v4, y5, rfl, sm1, t1⟩
      rw [Int.toNat_natCast] at t1
      exact ⟨_, rfl, q H1 v4 sm1 t1⟩
theorem sgn_lt {w : Int} (h : BM.Sgn w) : w.natAbs < 2 ^ 1 := by rcases h with rfl | rfl | rfl <;> decide
theorem ok_laps_of (T : Tx mg) (D : DefAt K mg "laps_of" s_laps_of ["knots"]) (cfrac_side : Cal P w K mg base 1 "frac_side" (spSide K)) : Cal P w K mg base 2 "laps_of" (spLaps K) := by
  refine cal_of D sc_laps_of (fun vs H Q E h => ?_) (fun f cdv A outer s H vs Q E hr h => ?_)
  · obtain ⟨v, M, rfl, _⟩ := h
    rfl
  · obtain ⟨v, M, rfl, tM, l1, mb, q⟩ := h
    obtain ⟨pM, us, rfl, hM, hk⟩ := id tM
    refine ⟨_, (pss_cons (ps_set (i := 1) sc_laps_of.nd rfl (.inl rfl) pe_int)
      (pss_cons (ps_set (i := 2) sc_laps_of.nd rfl (.inl rfl) pe_int)
      (pss_cons (ps_for PassesOwn.never rfl (RZ.pi_zipA (by rfl) T.zip (pa_cons (pv 0) (pa_cons (pe_slice sl_tup (pv 0) (po_some pe_int) po_none) pa_nil))) (pg_tup rfl (pgs_cons (pg_name (i := 3) sc_laps_of.nd rfl (.inl rfl)) (pgs_cons (pg_name (i := 4) sc_laps_of.nd rfl (.inl rfl)) pgs_nil)))
      (pss_cons (ps_set (i := 5) sc_laps_of.nd rfl (.inl rfl) (pe_c cfrac_side hr (by decide) (by rfl) (pa_cons (pe_ix ix_tup (pv 4) pe_int (fun _ _ => rfl)) (pa_cons (pe_ix ix_tup (pv 3) pe_int (fun _ _ => rfl)) pa_nil))))
        (pss_cut (ps_if (pt_cmpR op_lt (pe_op op_mulW (pv 5) (pv 2)) pe_int (nomark _))
        (pss_one (ps_aug (i := 1) sc_laps_of.nd rfl (.inl rfl) pe_int ip_add))
        pss_nil)
        (pss_one (ps_if (pt_cmpR op_ne (pv 5) pe_int (nomark _))
        (pss_one (ps_set (i := 2) sc_laps_of.nd rfl (.inl rfl) (pv 5)))
        pss_nil)))))
      (pss_one (ps_ret (pv 1)))))), ?_⟩
    have ul := hk.length
    refine ⟨_, rfl, _, rfl, 1, rfl, pM, us, rfl, hM, not_whole (by omega), fun pc hpc => ?_⟩
    have s4 := same_upd (o := .tup (cutV us (some 1) none)) hpc
    have hC : SqT K (upd H pc (.tup (cutV us (some 1) none))) pc (us.drop 1) := by
      rw [← cut1]; exact .inl (.inl upd_same)
    generalize hHs : upd H pc (.tup (cutV us (some 1) none)) = Hs at *
    refine ⟨pM, pc, us, us.drop 1, rfl, .inr ⟨(Keep.of s4).sqT hM, hC, for_pairs (xs := us) (fun i σ H3 => ∃ (c w : Int) (y3 y4 y5 : Option V), σ = [some (.ref pM), some (.int c), some (.int w), y3, y4, y5] ∧ Same H H3 ∧ SqT K H3 pc (us.drop 1) ∧ BM.Sgn w ∧ c + (BM.lapv w ((M.drop i).map (·.2)) : Int) = BM.laps M)
      ⟨1, 0, none, none, none, rfl, s4, hC, .inl rfl, by unfold BM.laps; simp⟩ (fun i σ H3 ⟨_, _, _, _, _, _, sm, hc, _⟩ => ⟨(Keep.of sm).sqT hM, hc⟩) ?_ ?_⟩⟩
    · rintro i x y T' σ H3 hx hy ⟨c, w, y3, y4, y5, rfl, sm, hc, hw, ec⟩ hT
      have hil : i + 1 < us.length := (List.getElem?_eq_some_iff.mp hy).1
      obtain ⟨a, b, r, ed, ga, gb, ed2⟩ := BM.drop_two (M := M) (i := i) (by omega)
      have sT : Same H3 (upd H3 T' (.tup [x, y])) := same_upd hT
      have smT := sm.trans sT
      have hkT := hk.keep (Keep.of smT)
      obtain ⟨xa, gxa, pa, ua1, ua2, rfl, ha, fa1, fa2⟩ := hkT.get ga
      obtain ⟨xb, gxb, pb, ub1, ub2, rfl, hb, fb1, fb2⟩ := hkT.get gb
      have exa : x = .ref pa := Option.some.inj (hx.symm.trans gxa)
      have exb : y = .ref pb := Option.some.inj (hy.symm.trans gxb)
      subst exa
      subst exb
      have hcT := (Keep.of sT).sqT hc
      rw [ed] at ec
      have ec' : c + ((BM.tn w (BM.sg (b.2 - a.2)) + BM.lapv (BM.wy w (BM.sg (b.2 - a.2))) ((M.drop (i + 1)).map (·.2)) : Nat) : Int) = BM.laps M := by rw [ed2]; exact ec
      generalize hHT : upd H3 T' (.tup [.ref pa, .ref pb]) = HT at *
      refine ⟨T', _, rfl, (by rw [← hHT]; exact .inl (.inl upd_same)), rfl, _, _, rfl, _, _, rfl, rfl, ?_⟩
      walk_at "rd"
      refine ⟨_, _, b.2, a.2, 4500, 4500, rfl, fb2, fa2, (mb b (BM.mem_at gb)).2, (mb a (BM.mem_at ga)).2, by decide, ?_⟩
      have ss := BM.sg_sgn (b.2 - a.2)
      generalize BM.sg (b.2 - a.2) = sgv at *
      have cm : CMulW sgv w := wm (sgn_lt ss) (sgn_lt hw) (by decide) (by decide) (by decide)
      refine ⟨fun σ' H' => H' = HT ∧ σ' = [some (.ref pM), some (.int (c + (BM.tn w sgv : Int))), some (.int w), some (.ref pa), some (.ref pb), some (.int sgv)], ?_, ?_⟩
      · walk_at "rd"
        refine ite2 (fun h => ?_) (fun h => ?_)
        · have h' := of_decide_eq_true h
          walk_at "rd"
          have e : BM.tn w sgv = 1 := by unfold BM.tn; rw [if_pos h']
          rw [e]
          exact ⟨rfl, rfl⟩
        · have h' : ¬ sgv * w < 0 := fun z => h (decide_eq_true z)
          have e : BM.tn w sgv = 0 := by unfold BM.tn; rw [if_neg h']
          rw [e, show c + ((0 : Nat) : Int) = c by omega]
          exact ⟨rfl, rfl⟩
      · rintro σ' H' ⟨rfl, rfl⟩
        walk_at "rd"
        refine ⟨rfl, ?_⟩
        walk_at "rd"
        refine ite2 (fun h => ?_) (fun h => ?_)
        · have h' : sgv ≠ 0 := fun z => by subst z; revert h; decide
          walk_at "rd"
          have e : BM.wy w sgv = sgv := by unfold BM.wy; rw [if_neg h']
          rw [e] at ec'
          refine ⟨_, _, _, _, _, rfl, smT, hcT, ss, ?_⟩
          rw [← ec']; omega
        · have h' : sgv = 0 := by
            by_cases z : sgv = 0
            · exact z
            · exfalso
              apply h
              have : decide (V.int sgv = V.int 0) = false := decide_eq_false fun q => z (V.int.inj q)
              rw [this]; rfl
          have e : BM.wy w sgv = w := by unfold BM.wy; rw [if_pos h']
          rw [e] at ec'
          refine ⟨_, _, _, _, _, rfl, smT, hcT, hw, ?_⟩
          rw [← ec']; omega
    · rintro σ H3 ⟨c, w, y3, y4, y5, rfl, sm, hc, hw, ec⟩
      have e : (BM.lapv w ((M.drop (us.length - 1)).map (·.2))) = 0 := by
        have l : (M.drop (us.length - 1)).length ≤ 1 := by rw [List.length_drop]; omega
        match M.drop (us.length - 1), l with
        | [], _ => rfl
        | [_], _ => rfl
      rw [e] at ec
      refine ⟨_, rfl, ?_⟩
      have e2 : c = (BM.laps M : Int) := by omega
      rw [e2]
      exact q H3 sm
end
end BW
namespace BW
open PySem PySem.Spec PyProof.Rows L2
open BM (Hb Kn Mp)
local macro_rules | `(tactic| walk_at "rd") => `(tactic| repeat (first
  | (refine ⟨_, _, _, _, rfl, rfl, by first | (show SqT _ _ _ _; assumption) | (show SqL _ _ _ _; assumption) | (show SqA _ _ _ _; assumption), by first | rfl | assumption, ?_⟩)
  | (refine ⟨_, rfl, ?_⟩)
  | (refine ⟨_, _, rfl, rfl, (by assumption : CMulW _ _), ?_⟩)
  | (refine ⟨_, _, rfl, rfl, ?_⟩)))
/-- a map's pieces -/
def pcs : Mp → List (Rat × Rat × Rat)
  | a :: b :: r => (a.1, b.1, BM.slope a b) :: pcs (b :: r)
  | _ => []
theorem pcs_len : ∀ N : Mp, (pcs N).length = N.length - 1
  | [] => rfl
  | [_] => rfl
  | a :: b :: r => by
    have ih := pcs_len (b :: r)
    show (pcs (b :: r)).length + 1 = (b :: r).length + 1 - 1
    rw [ih]
    simp
theorem pcs_get : ∀ {N : Mp} {i : Nat} {a b : Kn}, N[i]? = some a → N[i + 1]? = some b → (pcs N)[i]? = some (a.1, b.1, BM.slope a b)
  | [], _, _, _, h, _ => by simp at h
  | [_], _, _, _, _, h => by simp at h
  | x :: y :: r, 0, a, b, h1, h2 => by
    have e1 : x = a := Option.some.inj h1
    have e2 : y = b := Option.some.inj h2
    rw [← e1, ← e2]; rfl
  | x :: y :: r, i + 1, a, b, h1, h2 => pcs_get (N := y :: r) (i := i) h1 h2
/-- a piece as it stands -/
def Pc (K : PySem.W.Frag) (H : Hp) (v : V) (t : Rat × Rat × Rat) : Prop := ∃ p u1 u2 u3, v = .ref p ∧ SqT K H p [u1, u2, u3] ∧ Fr K H u1 t.1 ∧ Fr K H u2 t.2.1 ∧ Fr K H u3 t.2.2
theorem Pc.keep {K : PySem.W.Frag} {H H' : Hp} {v : V} {t : Rat × Rat × Rat} (h : Pc K H v t) (e : Keep H H') : Pc K H' v t := by
  obtain ⟨p, u1, u2, u3, rfl, hs, h1, h2, h3⟩ := h
  exact ⟨p, u1, u2, u3, rfl, e.sqT hs, h1.keep e, h2.keep e, h3.keep e⟩
theorem paired_app {α β : Type} {F : α → β → Prop} : ∀ {a c : List α} {b d : List β}, Paired F a b → Paired F c d → Paired F (a ++ c) (b ++ d)
  | _, _, _, _, .nil, h => h
  | _, _, _, _, .cons r t, h => .cons r (paired_app t h)
theorem paired_get {α β : Type} {F : α → β → Prop} : ∀ {a : List α} {b : List β} {i : Nat} {y : β}, Paired F a b → b[i]? = some y → ∃ x, a[i]? = some x ∧ F x y
  | _, _, _, _, .nil, e => by simp at e
  | _, _, 0, _, .cons r _, e => by simp at e; subst e; exact ⟨_, rfl, r⟩
  | _, _, i + 1, x, .cons _ t, e => by
    obtain ⟨u, h1, h2⟩ := paired_get (i := i) (y := x) t (by simpa using e)
    exact ⟨u, by simpa using h1, h2⟩
def spPieces (K : PySem.W.Frag) : Sp := fun vs H Q _ => ∃ (v : V) (M : Mp) (lo hi : Rat), vs = [v] ∧ MpT K H v M ∧ BM.Good lo hi M ∧ MB 1250 M ∧ M.length ≤ 1000000 ∧ ∀ H' p us, Same H H' → SqT K H' p us → Paired (Pc K H') us (pcs (BM.least M)) → Q (.ref p) H'
section
variable {P : Program} {w : World} {K : PySem.W.Frag} {mg : Str → Option Value} {base : Heap}
theorem ok_pieces_of (T : Tx mg) (D : DefAt K mg "pieces_of" s_pieces_of ["knots"]) (cleast_knots : Cal P w K mg base 4 "least_knots" (spLeast K)) (cslope_between : Cal P w K mg base 3 "slope_between" (spSlope K)) : Cal P w K mg base 5 "pieces_of" (spPieces K) := by
  refine cal_of D sc_pieces_of (fun vs H Q E h => ?_) (fun f cdv A outer s H vs Q E hr h => ?_)
  · obtain ⟨v, M, lo, hi, rfl, _⟩ := h
    rfl
  · obtain ⟨v, M, lo, hi, rfl, tM, g, mb, ml, q⟩ := h
    obtain ⟨pM, us0, rfl, hM, hk0⟩ := id tM
    refine ⟨_, (pss_cons (ps_set (i := 0) sc_pieces_of.nd rfl (.inl rfl) (pe_c cleast_knots hr (by decide) (by rfl) (pa_cons (pv 0) pa_nil)))
      (pss_cons (ps_set (i := 1) sc_pieces_of.nd rfl (.inl rfl) (pe_lst pa_nil))
      (pss_cons (ps_for PassesOwn.never rfl (RZ.pi_zipA (by rfl) T.zip (pa_cons (pv 0) (pa_cons (pe_slice sl_tup (pv 0) (po_some pe_int) po_none) pa_nil))) (pg_tup rfl (pgs_cons (pg_name (i := 2) sc_pieces_of.nd rfl (.inl rfl)) (pgs_cons (pg_name (i := 3) sc_pieces_of.nd rfl (.inl rfl)) pgs_nil)))
      (pss_one (ps_expr (pe_bm PySem.F.plainAttrs_list PySem.F.slot_list_append PySem.F.type_list_append mt_append (pv 1) (pa_cons (pe_tup (pa_cons (pe_ix ix_tup (pv 2) pe_int (fun _ _ => rfl)) (pa_cons (pe_ix ix_tup (pv 3) pe_int (fun _ _ => rfl)) (pa_cons (pe_c cslope_between hr (by decide) (by rfl) (pa_cons (pv 2) (pa_cons (pv 3) pa_nil))) pa_nil)))) pa_nil)))))
      (pss_one (ps_ret (pe_callTy call_tuple_of (by rfl) T.tuple (by decide +kernel) (pa_cons (pv 1) pa_nil))))))), ?_⟩
    walk_at "rd"
    refine ⟨pM, us0, M, 1250, rfl, .inr hM, hk0, g.inc, g.two, by omega, mb, by decide, fun H1 v1 s1 t1 => ?_⟩
    obtain ⟨p1, us, rfl, hN, hk⟩ := id t1
    have gN := BM.least_good g
    have mbN : MB 1250 (BM.least M) := fun k hk => mb k (BM.least_sub.subset hk)
    have lN : (BM.least M).length ≤ 1000000 := Nat.le_trans BM.least_sub.length_le ml
    generalize BM.least M = N at *
    refine ⟨Nat.zero_le _, fun l hl => ?_⟩
    have s2 : Same H1 (upd H1 l (.lst [])) := same_upd hl
    have hl0 : H l = none := Same.free s1 hl
    have ul := hk.length
    have ul2 : 2 ≤ us.length := by rw [ul]; exact gN.two
    refine ⟨_, rfl, _, rfl, 1, rfl, p1, us, rfl, (Keep.of s2).sqT hN, not_whole (by omega), fun pc hpc => ?_⟩
    have s3 := same_upd (o := .tup (cutV us (some 1) none)) hpc
    have hC : SqT K (upd (upd H1 l (.lst [])) pc (.tup (cutV us (some 1) none))) pc (us.drop 1) := by
      rw [← cut1]; exact .inl (.inl upd_same)
    have e3 : (upd (upd H1 l (.lst [])) pc (.tup (cutV us (some 1) none))) l = some (.lst []) := s3 _ _ upd_same
    have s13 := s2.trans s3
    generalize hHs : upd (upd H1 l (.lst [])) pc (.tup (cutV us (some 1) none)) = Hs at *
    refine ⟨p1, pc, us, us.drop 1, rfl, .inr ⟨(Keep.of s13).sqT hN, hC, for_pairs (xs := us) (fun i σ H3 => ∃ (fs : List V) (y2 y3 : Option V), σ = [some (.ref p1), some (.ref l), y2, y3] ∧ Same H1 H3 ∧ SqT K H3 pc (us.drop 1) ∧ H3 l = some (.lst fs) ∧ Paired (Pc K H3) fs ((pcs N).take i) ∧ fs.length ≤ i)
      ⟨[], none, none, rfl, s13, hC, e3, .nil, Nat.le_refl _⟩ (fun i σ H3 ⟨_, _, _, _, sm, hc, _⟩ => ⟨(Keep.of sm).sqT hN, hc⟩) ?_ ?_⟩⟩
    · rintro i x y T' σ H3 hx hy ⟨fs, y2, y3, rfl, sm, hc, eo, ks, fl⟩ hT
      have hil : i + 1 < us.length := (List.getElem?_eq_some_iff.mp hy).1
      obtain ⟨a, b, r, ed, ga, gb, ed2⟩ := BM.drop_two (M := N) (i := i) (by omega)
      have sT : Same H3 (upd H3 T' (.tup [x, y])) := same_upd hT
      have smT := sm.trans sT
      have hkT := hk.keep (Keep.of smT)
      obtain ⟨xa, gxa, ta⟩ := hkT.get ga
      obtain ⟨xb, gxb, tb⟩ := hkT.get gb
      have exa : x = xa := Option.some.inj (hx.symm.trans gxa)
      have exb : y = xb := Option.some.inj (hy.symm.trans gxb)
      subst exa
      subst exb
      obtain ⟨pa, ua1, ua2, rfl, ha, fa1, fa2⟩ := id ta
      obtain ⟨pb, ub1, ub2, rfl, hb, fb1, fb2⟩ := id tb
      have hcT := (Keep.of sT).sqT hc
      have eoT : (upd H3 T' (.tup [.ref pa, .ref pb])) l = some (.lst fs) := sT _ _ eo
      have kT := Keep.of sT
      generalize hHT : upd H3 T' (.tup [.ref pa, .ref pb]) = HT at *
      refine ⟨T', _, rfl, (by rw [← hHT]; exact .inl (.inl upd_same)), rfl, _, _, rfl, _, _, rfl, rfl, ?_⟩
      walk_at "rd"
      refine ⟨.inl ⟨rfl, _, SqL.of eoT⟩, ?_⟩
      walk_at "rd"
      refine ⟨_, _, a, b, 1250, rfl, ta, tb, mbN a (BM.mem_at ga), mbN b (BM.mem_at gb), by decide, gN.inc.at ga gb, fun H4 v4 s4 f4 => ?_⟩
      have k4 := Keep.of s4
      refine ⟨by show 3 ≤ sizeLine; decide, fun p5 hp5 => ?_⟩
      have s5 : Same H4 (upd H4 p5 (.tup [ua1, ub1, v4])) := same_upd hp5
      have k5 := Keep.of s5
      have e5 : (upd H4 p5 (.tup [ua1, ub1, v4])) l = some (.lst fs) := s5 _ _ (s4 _ _ eoT)
      refine ⟨l, fs, .ref p5, rfl, rfl, e5, small7 (by omega), ?_⟩
      have kl := Keep.lst (o := .lst (fs ++ [.ref p5])) e5
      have t5 : Pc K (upd H4 p5 (.tup [ua1, ub1, v4])) (.ref p5) (a.1, b.1, BM.slope a b) := ⟨p5, ua1, ub1, v4, rfl, .inl (.inl upd_same), (fa1.keep k4).keep k5, (fb1.keep k4).keep k5, f4.keep k5⟩
      refine ⟨fs ++ [.ref p5], _, _, rfl, Same.upd_new (smT.trans (s4.trans s5)) hl, kl.sqT (k5.sqT (k4.sqT hcT)), upd_same, ?_, by rw [List.length_append, List.length_singleton]; omega⟩
      rw [List.take_add_one, pcs_get ga gb]
      exact paired_app (Paired.mapP ks fun _ _ q => (((q.keep kT).keep k4).keep k5).keep kl) (.cons (t5.keep kl) .nil)
    · rintro σ H3 ⟨fs, y2, y3, rfl, sm, hc, eo, ks, fl⟩
      rw [List.take_of_length_le (by rw [pcs_len]; omega)] at ks
      walk_at "rd"
      refine ⟨l, fs, rfl, .inl ⟨SqL.of eo, fun p4 hp4 => ?_⟩⟩
      have s4 := same_upd (o := .tup fs) hp4
      exact q _ p4 fs (s1.trans (sm.trans s4)) (.inl (.inl upd_same)) (Paired.mapP ks fun _ _ q => q.keep (Keep.of s4))
end
end BW
namespace BW
open PySem PySem.Spec PyProof.Rows L2
open BM (Hb Kn Mp)
local macro_rules | `(tactic| walk_at "rd") => `(tactic| repeat (first
  | (refine ⟨_, _, _, _, rfl, rfl, by first | (show SqT _ _ _ _; assumption) | (show SqL _ _ _ _; assumption) | (show SqA _ _ _ _; assumption), by first | rfl | assumption, ?_⟩)
  | (refine ⟨_, rfl, ?_⟩)
  | (refine ⟨_, _, rfl, rfl, (by assumption : CMulW _ _), ?_⟩)
  | (refine ⟨_, _, rfl, rfl, ?_⟩)))
abbrev s__law_reduced : Stmt := topS 34
theorem sc__law_reduced : FnScope ["above", "below", "one", "other"] ["above", "below"] (defScope s__law_reduced) := ⟨rfl, rfl, rfl, by decide +kernel, rfl, by decide +kernel, by decide +kernel⟩
abbrev s__law_plus : Stmt := topS 37
theorem sc__law_plus : FnScope ["one", "other"] ["one", "other"] (defScope s__law_plus) := ⟨rfl, rfl, rfl, by decide +kernel, rfl, by decide +kernel, by decide +kernel⟩
abbrev s__law_times : Stmt := topS 38
theorem sc__law_times : FnScope ["one", "other"] ["one", "other"] (defScope s__law_times) := ⟨rfl, rfl, rfl, by decide +kernel, rfl, by decide +kernel, by decide +kernel⟩
abbrev s__law_less : Stmt := topS 39
theorem sc__law_less : FnScope ["one", "other"] ["one", "other"] (defScope s__law_less) := ⟨rfl, rfl, rfl, by decide +kernel, rfl, by decide +kernel, by decide +kernel⟩
abbrev s__law_over : Stmt := topS 40
theorem sc__law_over : FnScope ["one", "other", "sign"] ["one", "other"] (defScope s__law_over) := ⟨rfl, rfl, rfl, by decide +kernel, rfl, by decide +kernel, by decide +kernel⟩
abbrev s__law_below : Stmt := topS 41
theorem sc__law_below : FnScope ["one", "other"] ["one", "other"] (defScope s__law_below) := ⟨rfl, rfl, rfl, by decide +kernel, rfl, by decide +kernel, by decide +kernel⟩
abbrev s__law_value : Stmt := topS 42
theorem sc__law_value : FnScope ["knots", "point", "one", "other", "wide", "left", "right"] ["knots", "point"] (defScope s__law_value) := ⟨rfl, rfl, rfl, by decide +kernel, rfl, by decide +kernel, by decide +kernel⟩
def spRed (K : PySem.W.Frag) : Sp := fun vs H Q _ => ∃ a b : Int, vs = [.int a, .int b] ∧ 0 < b ∧ b.natAbs < 2 ^ 9000 ∧ ∀ H' v, Same H H' → Fr K H' v (Rat.divInt a b) → Q v H'
def spBelow (K : PySem.W.Frag) : Sp := fun vs H Q _ => ∃ (v1 v2 : V) (r1 r2 : Rat) (n1 n2 : Nat), vs = [v1, v2] ∧ Fr K H v1 r1 ∧ Fr K H v2 r2 ∧ Hb n1 r1 ∧ Hb n2 r2 ∧ n1 + n2 ≤ 9000 ∧ Q (.bl (decide (r1 < r2))) H
/-- some fraction or other -/
def spLawValue (K : PySem.W.Frag) : Sp := fun vs H Q _ => ∃ (v1 v2 : V) (M : Mp) (x : Rat), vs = [v1, v2] ∧ MpT K H v1 M ∧ Fr K H v2 x ∧ BM.Inc M ∧ 2 ≤ M.length ∧ MB 20 M ∧ Hb 20 x ∧ ∀ H' v r, Same H H' → Fr K H' v r → Q v H'
theorem den_mul_pos (r s : Rat) : (0 : Int) < r.den * s.den := Int.mul_pos (BM.den_pos r) (BM.den_pos s)
section
variable {P : Program} {w : World} {K : PySem.W.Frag} {mg : Str → Option Value} {base : Heap}
theorem ok_law_reduced (T : Tx mg) (D : DefAt K mg "_law_reduced" s__law_reduced ["above", "below"]) : Cal P w K mg base 1 "_law_reduced" (spRed K) := by
  refine cal_of D sc__law_reduced (fun vs H Q E h => ?_) (fun f cdv A outer s H vs Q E hr h => ?_)
  · obtain ⟨a, b, rfl, _⟩ := h
    rfl
  · obtain ⟨a', b', rfl, hb', hz', q⟩ := h
    refine ⟨_, (pss_cons (ps_set (i := 2) sc__law_reduced.nd rfl (.inl rfl) (pe_callB call_abs (by rfl) T.abs (by decide +kernel) (pa_cons (pv 0) pa_nil)))
      (pss_cons (ps_set (i := 3) sc__law_reduced.nd rfl (.inl rfl) (pv 1))
      (pss_cons (ps_while PassesOwn.never (pt_cmpR op_gt (pv 3) pe_int (nomark _))
      (pss_one (ps_par (i := 2) (j := 3) (by rfl) sc__law_reduced.nd rfl rfl (by decide) rfl rfl (pa_cons (pv 3) (pa_cons (pe_op op_modN (pv 2) (pv 3)) pa_nil)) (by rfl))))
      (pss_one (ps_ret (pe_tup (pa_cons (pe_op op_fdivW (pv 0) (pv 2)) (pa_cons (pe_op op_fdivW (pv 1) (pv 2)) pa_nil)))))))), ?_⟩
    refine ⟨_, rfl, _, rfl, _, rfl, ?_⟩
    refine while_by (fun σ H1 => H1 = H ∧ ∃ i j : Int, σ = [some (.int a'), some (.int b'), some (.int i), some (.int j)] ∧ 0 ≤ i ∧ 0 ≤ j ∧ Nat.gcd i.natAbs j.natAbs = Nat.gcd a'.natAbs b'.natAbs)
      (fun σ _ => match σ with | [_, _, _, some (.int j)] => j.toNat | _ => 0) ?_ ?_ ?_
    · refine ⟨rfl, _, _, rfl, by split <;> omega, by omega, ?_⟩
      congr 1
      split <;> omega
    · rintro σ H1 ⟨rfl, i, j, rfl, hi, hj, hg⟩
      refine ⟨_, rfl, _, _, rfl, rfl, _, rfl, ite2 (fun c => ?_) (fun c => ?_)⟩
      · have c' : 0 < j := of_decide_eq_true c
        obtain ⟨g1, g2, g3⟩ := gcd_step hi c'
        refine ⟨_, rfl, _, rfl, _, rfl, _, _, rfl, rfl, by omega, _, _, rfl, ⟨rfl, _, _, rfl, hj, g2, g1.trans hg⟩, g3⟩
      · have c' : ¬ 0 < j := fun z => c (decide_eq_true z)
        have j0 : j = 0 := by omega
        subst j0
        have ei : i = (Nat.gcd a'.natAbs b'.natAbs : Int) := by
          rw [← hg]
          have : Nat.gcd i.natAbs (0 : Int).natAbs = i.natAbs := Nat.gcd_zero_right _
          omega
        have gp : 0 < Nat.gcd a'.natAbs b'.natAbs := Nat.gcd_pos_of_pos_right _ (by omega)
        have gl : Nat.gcd a'.natAbs b'.natAbs ≤ b'.natAbs := Nat.gcd_le_right _ (by omega)
        have cd : CDivW a' i := wide_div (by omega) (b := 9000) (by omega) (by decide) (Nat.le_refl _)
        have cd2 : CDivW b' i := cd
        obtain ⟨f1, f2⟩ := frac_num (a := a') hb'
        refine ⟨_, rfl, _, rfl, _, _, rfl, rfl, cd, _, rfl, _, rfl, _, _, rfl, rfl, cd2, (by show 2 ≤ sizeLine; decide), fun p hp => q _ _ (same_upd hp) ⟨p, rfl, ?_⟩⟩
        rw [← f1, ← f2, ← ei]
        exact .inl (.inl upd_same)
    · rintro σ H1 Q1 Q2 hQ ⟨v, e1, i, j, e2, e3, k, e4, h⟩
      exact ⟨v, e1, i, j, e2, e3, k, e4, hQ _ _ h⟩
theorem ok_law_plus (D : DefAt K mg "_law_plus" s__law_plus ["one", "other"]) (c_law_reduced : Cal P w K mg base 1 "_law_reduced" (spRed K)) : Cal P w K mg base 2 "_law_plus" (spOp K (· + ·) fun _ _ => True) := by
  refine cal_of D sc__law_plus spOp_len (fun f cdv A outer s H vs Q E hr h => ?_)
  · obtain ⟨v1, v2, r1, r2, n1, n2, rfl, ⟨p1, rfl, h1⟩, ⟨p2, rfl, h2⟩, b1, b2, hn, _, q⟩ := h
    refine ⟨_, (pss_one (ps_ret (pe_c c_law_reduced hr (by decide) (by rfl) (pa_cons (pe_op op_add (pe_op op_mulW (pe_ix ix_tup (pv 0) pe_int (fun _ _ => rfl)) (pe_ix ix_tup (pv 1) pe_int (fun _ _ => rfl))) (pe_op op_mulW (pe_ix ix_tup (pv 1) pe_int (fun _ _ => rfl)) (pe_ix ix_tup (pv 0) pe_int (fun _ _ => rfl)))) (pa_cons (pe_op op_mulW (pe_ix ix_tup (pv 0) pe_int (fun _ _ => rfl)) (pe_ix ix_tup (pv 1) pe_int (fun _ _ => rfl))) pa_nil))))), ?_⟩
    have e1 := b1.one
    have e2 := b2.one
    have c1 := wm b1.num' b2.den' hn e1 e2
    have c2 := wm b2.num' b1.den' (by omega) e2 e1
    have c3 := wm b1.den' b2.den' hn e1 e2
    walk_at "rd"
    exact ⟨_, _, rfl, den_mul_pos r1 r2, lt9000 (b1.denden b2) hn, fun H' v sm fr => q H' v sm (by show Fr K H' v (r1 + r2); rw [← BM.dv_add]; exact fr)⟩
theorem ok_law_times (D : DefAt K mg "_law_times" s__law_times ["one", "other"]) (c_law_reduced : Cal P w K mg base 1 "_law_reduced" (spRed K)) : Cal P w K mg base 2 "_law_times" (spOp K (· * ·) fun _ _ => True) := by
  refine cal_of D sc__law_times spOp_len (fun f cdv A outer s H vs Q E hr h => ?_)
  · obtain ⟨v1, v2, r1, r2, n1, n2, rfl, ⟨p1, rfl, h1⟩, ⟨p2, rfl, h2⟩, b1, b2, hn, _, q⟩ := h
    refine ⟨_, (pss_one (ps_ret (pe_c c_law_reduced hr (by decide) (by rfl) (pa_cons (pe_op op_mulW (pe_ix ix_tup (pv 0) pe_int (fun _ _ => rfl)) (pe_ix ix_tup (pv 1) pe_int (fun _ _ => rfl))) (pa_cons (pe_op op_mulW (pe_ix ix_tup (pv 0) pe_int (fun _ _ => rfl)) (pe_ix ix_tup (pv 1) pe_int (fun _ _ => rfl))) pa_nil))))), ?_⟩
    have e1 := b1.one
    have e2 := b2.one
    have c1 := wm b1.num' b2.num' hn e1 e2
    have c3 := wm b1.den' b2.den' hn e1 e2
    walk_at "rd"
    exact ⟨_, _, rfl, den_mul_pos r1 r2, lt9000 (b1.denden b2) hn, fun H' v sm fr => q H' v sm (by show Fr K H' v (r1 * r2); rw [← BM.dv_mul]; exact fr)⟩
theorem ok_law_less (D : DefAt K mg "_law_less" s__law_less ["one", "other"]) (c_law_plus : Cal P w K mg base 2 "_law_plus" (spOp K (· + ·) fun _ _ => True)) : Cal P w K mg base 3 "_law_less" (spOp K (· - ·) fun _ _ => True) := by
  refine cal_of D sc__law_less spOp_len (fun f cdv A outer s H vs Q E hr h => ?_)
  · obtain ⟨v1, v2, r1, r2, n1, n2, rfl, f1, ⟨p2, rfl, h2⟩, b1, b2, hn, _, q⟩ := h
    refine ⟨_, (pss_one (ps_ret (pe_c c_law_plus hr (by decide) (by rfl) (pa_cons (pv 0) (pa_cons (pe_tup (pa_cons (pe_op op_sub pe_int (pe_ix ix_tup (pv 1) pe_int (fun _ _ => rfl))) (pa_cons (pe_ix ix_tup (pv 1) pe_int (fun _ _ => rfl)) pa_nil))) pa_nil))))), ?_⟩
    walk_at "rd"
    refine ⟨by show 2 ≤ sizeLine; decide, fun p hp => ?_⟩
    have s1 := same_upd (o := .tup [.int (0 - r2.num), .int (r2.den : Int)]) hp
    refine ⟨_, _, r1, -r2, n1, n2, rfl, f1.keep (Keep.of s1), ⟨p, rfl, ?_⟩, b1, b2.neg, hn, trivial, fun H' v sm fr => q H' v (s1.trans sm) (by show Fr K H' v (r1 - r2); rw [Rat.sub_eq_add_neg]; exact fr)⟩
    rw [Rat.neg_num, Rat.neg_den, show -r2.num = 0 - r2.num by omega]
    exact .inl (.inl upd_same)
theorem ok_law_over (T : Tx mg) (D : DefAt K mg "_law_over" s__law_over ["one", "other"]) (c_law_reduced : Cal P w K mg base 1 "_law_reduced" (spRed K)) : Cal P w K mg base 2 "_law_over" (spOp K (· / ·) fun _ s => s ≠ 0) := by
  refine cal_of D sc__law_over spOp_len (fun f cdv A outer s H vs Q E hr h => ?_)
  · obtain ⟨v1, v2, r1, r2, n1, n2, rfl, ⟨p1, rfl, h1⟩, ⟨p2, rfl, h2⟩, b1, b2, hn, z, q⟩ := h
    refine ⟨_, (pss_cons (ps_set (i := 2) sc__law_over.nd rfl (.inl rfl) (pe_ix ix_list (pe_lst (pa_cons pe_int (pa_cons (pe_un un_neg pe_int) pa_nil))) (pe_callTy call_int1 (by rfl) T.int (by decide +kernel) (pa_cons (pe_cmpR op_lt (pe_ix ix_tup (pv 1) pe_int (fun _ _ => rfl)) pe_int (nomark _)) pa_nil)) (fun _ _ => rfl)))
      (pss_one (ps_ret (pe_c c_law_reduced hr (by decide) (by rfl) (pa_cons (pe_op op_mulW (pe_op op_mulW (pe_ix ix_tup (pv 0) pe_int (fun _ _ => rfl)) (pe_ix ix_tup (pv 1) pe_int (fun _ _ => rfl))) (pv 2)) (pa_cons (pe_op op_mulW (pe_op op_mulW (pe_ix ix_tup (pv 0) pe_int (fun _ _ => rfl)) (pe_ix ix_tup (pv 1) pe_int (fun _ _ => rfl))) (pv 2)) pa_nil)))))), ?_⟩
    have e1 := b1.one
    have e2 := b2.one
    walk_at "rd"
    refine ⟨by show 2 ≤ sizeLine; decide, fun p hp => ?_⟩
    have s1 := same_upd (o := .lst [.int 1, .int (-1)]) hp
    have h1' := (Keep.of s1).sqT h1
    have h2' := (Keep.of s1).sqT h2
    have hl : SqL K (upd H p (.lst [.int 1, .int (-1)])) p [.int 1, .int (-1)] := SqL.of upd_same
    walk_at "rd"
    refine .inr ⟨_, rfl, ?_⟩
    have nz := BM.num_ne z
    have dn := BM.den_pos r1
    have at1 : atI [V.int 1, V.int (-1)] (if decide (r2.num < 0) = true then 1 else 0) = some (.int r2.num.sign) := by
      by_cases c : r2.num < 0
      · rw [if_pos (decide_eq_true c), Int.sign_eq_neg_one_of_neg c]; rfl
      · rw [if_neg (by rw [decide_eq_false c]; decide), Int.sign_eq_one_of_pos (by omega)]; rfl
    have m1 := BM.imul_lt2 b1.num' b2.den'
    have m2 := BM.imul_lt2 b1.den' b2.num'
    have sl : r2.num.sign.natAbs < 2 ^ 1 := by rw [Int.natAbs_sign_of_ne_zero nz]; decide
    have c1 := wm b1.num' b2.den' hn e1 e2
    have c2 := wm b1.den' b2.num' hn e1 e2
    have c3 : CMulW (r1.num * (r2.den : Int)) r2.num.sign := wide_mul m1 sl (by omega) (by decide) (by omega)
    have c4 : CMulW ((r1.den : Int) * r2.num) r2.num.sign := wide_mul m2 sl (by omega) (by decide) (by omega)
    walk_at "rd"
    have e : (r1.den : Int) * r2.num * r2.num.sign = r1.den * r2.num.natAbs := by rw [Int.mul_assoc, Int.mul_sign_self]
    refine ⟨_, _, rfl, ?_, ?_, fun H' v sm fr => q H' v (s1.trans sm) ?_⟩
    · show 0 < (r1.den : Int) * r2.num * r2.num.sign
      rw [e]
      exact Int.mul_pos dn (by omega)
    · show ((r1.den : Int) * r2.num * r2.num.sign).natAbs < _
      rw [e, Int.natAbs_mul, Int.natAbs_natCast]
      rw [Int.natAbs_mul] at m2
      exact lt9000 m2 hn
    · show Fr K H' v (r1 / r2)
      rw [← BM.dv_div]
      have q1 : Rat.divInt (r1.num * r2.den * r2.num.sign) (r1.den * r2.num * r2.num.sign) = Rat.divInt (r1.num * r2.den) (r1.den * r2.num) := Rat.divInt_mul_right (by intro y; have := Int.natAbs_sign_of_ne_zero nz; rw [y] at this; cases this)
      rw [← q1]
      exact fr
theorem ok_law_below (D : DefAt K mg "_law_below" s__law_below ["one", "other"]) : Cal P w K mg base 1 "_law_below" (spBelow K) := by
  refine cal_of D sc__law_below (fun vs H Q E h => ?_) (fun f cdv A outer s H vs Q E hr h => ?_)
  · obtain ⟨v1, v2, r1, r2, n1, n2, rfl, _⟩ := h
    rfl
  · obtain ⟨v1, v2, r1, r2, n1, n2, rfl, ⟨p1, rfl, h1⟩, ⟨p2, rfl, h2⟩, b1, b2, hn, q⟩ := h
    refine ⟨_, (pss_one (ps_ret (pe_cmpR op_lt (pe_op op_mulW (pe_ix ix_tup (pv 0) pe_int (fun _ _ => rfl)) (pe_ix ix_tup (pv 1) pe_int (fun _ _ => rfl))) (pe_op op_mulW (pe_ix ix_tup (pv 1) pe_int (fun _ _ => rfl)) (pe_ix ix_tup (pv 0) pe_int (fun _ _ => rfl))) (nomark _)))), ?_⟩
    have e1 := b1.one
    have e2 := b2.one
    have c1 := wm b1.num' b2.den' hn e1 e2
    have c2 := wm b2.num' b1.den' (by omega) e2 e1
    walk_at "rd"
    have e : decide (r1.num * (r2.den : Int) < r2.num * (r1.den : Int)) = decide (r1 < r2) := decide_eq_decide.mpr (Rat.lt_iff r1 r2).symm
    show Q (.bl (decide (r1.num * (r2.den : Int) < r2.num * (r1.den : Int)))) H
    rw [e]
    exact q
theorem ok_law_value (T : Tx mg) (D : DefAt K mg "_law_value" s__law_value ["knots", "point"]) (c_law_below : Cal P w K mg base 1 "_law_below" (spBelow K)) (c_law_less : Cal P w K mg base 3 "_law_less" (spOp K (· - ·) fun _ _ => True))
    (c_law_times : Cal P w K mg base 2 "_law_times" (spOp K (· * ·) fun _ _ => True)) (c_law_plus : Cal P w K mg base 2 "_law_plus" (spOp K (· + ·) fun _ _ => True)) (c_law_over : Cal P w K mg base 2 "_law_over" (spOp K (· / ·) fun _ s => s ≠ 0)) :
    Cal P w K mg base 4 "_law_value" (spLawValue K) := by
  refine cal_of D sc__law_value (fun vs H Q E h => ?_) (fun f cdv A outer s H vs Q E hr h => ?_)
  · obtain ⟨v1, v2, M, x, rfl, _⟩ := h
    rfl
  · obtain ⟨v1, v2, M, x, rfl, tM, fx, inc, two, mb, hx, q⟩ := h
    obtain ⟨pM, us, rfl, hM, hk⟩ := id tM
    refine ⟨_, (pss_cons (ps_for PassesOwn.never rfl (RZ.pi_zipA (by rfl) T.zip (pa_cons (pv 0) (pa_cons (pe_slice sl_tup (pv 0) (po_some pe_int) po_none) pa_nil))) (pg_tup rfl (pgs_cons (pg_name (i := 2) sc__law_value.nd rfl (.inl rfl)) (pgs_cons (pg_name (i := 3) sc__law_value.nd rfl (.inl rfl)) pgs_nil)))
      (pss_one (ps_if (pt_not (pt_val (pe_c c_law_below hr (by decide) (by rfl) (pa_cons (pe_ix ix_tup (pv 3) pe_int (fun _ _ => rfl)) (pa_cons (pv 1) pa_nil)))))
        (pss_cons (ps_set (i := 4) sc__law_value.nd rfl (.inl rfl) (pe_c c_law_less hr (by decide) (by rfl) (pa_cons (pe_ix ix_tup (pv 3) pe_int (fun _ _ => rfl)) (pa_cons (pe_ix ix_tup (pv 2) pe_int (fun _ _ => rfl)) pa_nil))))
          (pss_cons (ps_set (i := 5) sc__law_value.nd rfl (.inl rfl) (pe_c c_law_times hr (by decide) (by rfl) (pa_cons (pe_ix ix_tup (pv 2) pe_int (fun _ _ => rfl)) (pa_cons (pe_c c_law_less hr (by decide) (by rfl) (pa_cons (pe_ix ix_tup (pv 3) pe_int (fun _ _ => rfl)) (pa_cons (pv 1) pa_nil))) pa_nil))))
          (pss_cons (ps_set (i := 6) sc__law_value.nd rfl (.inl rfl) (pe_c c_law_times hr (by decide) (by rfl) (pa_cons (pe_ix ix_tup (pv 3) pe_int (fun _ _ => rfl)) (pa_cons (pe_c c_law_less hr (by decide) (by rfl) (pa_cons (pv 1) (pa_cons (pe_ix ix_tup (pv 2) pe_int (fun _ _ => rfl)) pa_nil))) pa_nil))))
          (pss_one (ps_ret (pe_c c_law_over hr (by decide) (by rfl) (pa_cons (pe_c c_law_plus hr (by decide) (by rfl) (pa_cons (pv 5) (pa_cons (pv 6) pa_nil))) (pa_cons (pv 4) pa_nil))))))))
        pss_nil)))
      (pss_one (ps_ret (pe_ix ix_tup (pe_ix ix_tup (pv 0) (pe_un un_neg pe_int) (fun _ _ => rfl)) pe_int (fun _ _ => rfl))))), ?_⟩
    have ul := hk.length
    refine ⟨_, rfl, _, rfl, 1, rfl, pM, us, rfl, hM, not_whole (by omega), fun pc hpc => ?_⟩
    have s4 := same_upd (o := .tup (cutV us (some 1) none)) hpc
    have hC : SqT K (upd H pc (.tup (cutV us (some 1) none))) pc (us.drop 1) := by
      rw [← cut1]; exact .inl (.inl upd_same)
    generalize hHs : upd H pc (.tup (cutV us (some 1) none)) = Hs at *
    refine ⟨pM, pc, us, us.drop 1, rfl, .inr ⟨(Keep.of s4).sqT hM, hC, for_pairs (xs := us) (fun i σ H3 => ∃ (y2 y3 y4 y5 y6 : Option V), σ = [some (.ref pM), some v2, y2, y3, y4, y5, y6] ∧ Same H H3 ∧ SqT K H3 pc (us.drop 1))
      ⟨none, none, none, none, none, rfl, s4, hC⟩ (fun i σ H3 ⟨_, _, _, _, _, _, sm, hc⟩ => ⟨(Keep.of sm).sqT hM, hc⟩) ?_ ?_⟩⟩
    · rintro i x' y' T' σ H3 hx' hy' ⟨y2, y3, y4, y5, y6, rfl, sm, hc⟩ hT
      have hil : i + 1 < us.length := (List.getElem?_eq_some_iff.mp hy').1
      obtain ⟨a, b, r, ed, ga, gb, ed2⟩ := BM.drop_two (M := M) (i := i) (by omega)
      have sT : Same H3 (upd H3 T' (.tup [x', y'])) := same_upd hT
      have smT := sm.trans sT
      have hkT := hk.keep (Keep.of smT)
      obtain ⟨xa, gxa, pa, ua1, ua2, rfl, ha, fa1, fa2⟩ := hkT.get ga
      obtain ⟨xb, gxb, pb, ub1, ub2, rfl, hb, fb1, fb2⟩ := hkT.get gb
      have exa : x' = .ref pa := Option.some.inj (hx'.symm.trans gxa)
      have exb : y' = .ref pb := Option.some.inj (hy'.symm.trans gxb)
      subst exa
      subst exb
      have hcT := (Keep.of sT).sqT hc
      have ka := mb a (BM.mem_at ga)
      have kb := mb b (BM.mem_at gb)
      have lt := inc.at ga gb
      have fxT := fx.keep (Keep.of smT)
      generalize hHT : upd H3 T' (.tup [.ref pa, .ref pb]) = HT at *
      refine ⟨T', _, rfl, (by rw [← hHT]; exact .inl (.inl upd_same)), rfl, _, _, rfl, _, _, rfl, rfl, ?_⟩
      walk_at "rd"
      refine ⟨_, _, b.1, x, 20, 20, rfl, fb1, fxT, kb.1, hx, by decide, ?_⟩
      walk_at "rd"
      refine ite2 (fun c => ?_) (fun c => ?_)
      · walk_at "rd"
        refine ⟨_, _, b.1, a.1, 20, 20, rfl, fb1, fa1, kb.1, ka.1, by decide, trivial, fun H4 w4 s4 f4 => ?_⟩
        have k4 := Keep.of s4
        have ha4 := k4.sqT ha
        have hb4 := k4.sqT hb
        walk_at "rd"
        refine ⟨_, _, b.1, x, 20, 20, rfl, fb1.keep k4, fxT.keep k4, kb.1, hx, by decide, trivial, fun H5 w5 s5 f5 => ?_⟩
        have k5 := Keep.of s5
        refine ⟨_, _, a.2, b.1 - x, 20, 41, rfl, (fa2.keep k4).keep k5, f5, ka.2, kb.1.sub hx, by decide, trivial, fun H6 w6 s6 f6 => ?_⟩
        have k6 := Keep.of s6
        have k46 := k4.trans (k5.trans k6)
        have ha6 := k46.sqT ha
        have hb6 := k46.sqT hb
        walk_at "rd"
        refine ⟨_, _, x, a.1, 20, 20, rfl, fxT.keep k46, fa1.keep k46, hx, ka.1, by decide, trivial, fun H7 w7 s7 f7 => ?_⟩
        have k7 := Keep.of s7
        refine ⟨_, _, b.2, x - a.1, 20, 41, rfl, (fb2.keep k46).keep k7, f7, kb.2, hx.sub ka.1, by decide, trivial, fun H8 w8 s8 f8 => ?_⟩
        have k8 := Keep.of s8
        walk_at "rd"
        refine ⟨_, _, a.2 * (b.1 - x), b.2 * (x - a.1), 61, 61, rfl, (f6.keep k7).keep k8, f8, ka.2.mul (kb.1.sub hx), kb.2.mul (hx.sub ka.1), by decide, trivial, fun H9 w9 s9 f9 => ?_⟩
        have k9 := Keep.of s9
        walk_at "rd"
        refine ⟨_, _, a.2 * (b.1 - x) + b.2 * (x - a.1), b.1 - a.1, 123, 41, rfl, f9, (((f4.keep k5).keep k6).keep (k7.trans k8)).keep k9, (ka.2.mul (kb.1.sub hx)).add (kb.2.mul (hx.sub ka.1)), kb.1.sub ka.1, by decide, by grind, fun H10 w10 s10 f10 => ?_⟩
        exact q H10 w10 _ (smT.trans (s4.trans (s5.trans (s6.trans (s7.trans (s8.trans (s9.trans s10))))))) f10
      · exact ⟨_, _, _, _, _, rfl, smT, hcT⟩
    · rintro σ H3 ⟨y2, y3, y4, y5, y6, rfl, sm, hc⟩
      have hk3 := hk.keep (Keep.of sm)
      obtain ⟨z, hz⟩ : ∃ z, M.getLast? = some z := ⟨_, List.getLast?_eq_some_getLast (by intro e; rw [e] at two; cases two)⟩
      obtain ⟨xz, gz, pz, uz1, uz2, rfl, hz', fz1, fz2⟩ := hk3.last hz
      have atz : atI us (-1) = some (.ref pz) := atI_neg1 gz
      have hM3 := (Keep.of sm).sqT hM
      walk_at "rd"
      exact q H3 uz2 _ sm fz2
end
end BW
namespace BW
open PySem PySem.Spec PyProof.Rows L2
open BM (Hb Kn Mp)
local macro_rules | `(tactic| walk_at "rd") => `(tactic| repeat (first
  | (refine ⟨_, _, _, _, rfl, rfl, by first | (show SqT _ _ _ _; assumption) | (show SqL _ _ _ _; assumption) | (show SqA _ _ _ _; assumption), by first | rfl | assumption, ?_⟩)
  | (refine ⟨_, rfl, ?_⟩)
  | (refine ⟨_, _, rfl, rfl, (by assumption : CMulW _ _), ?_⟩)
  | (refine ⟨_, _, rfl, rfl, ?_⟩)))
abbrev s__law_mix : Stmt := topS 31
theorem sc__law_mix : FnScope ["cell", "k", "number"] ["cell", "k"] (defScope s__law_mix) := ⟨rfl, rfl, rfl, by decide +kernel, rfl, by decide +kernel, by decide +kernel⟩
abbrev s__law_deck : Stmt := topS 32
theorem sc__law_deck : FnScope ["script"] ["script"] (defScope s__law_deck) := ⟨rfl, rfl, rfl, by decide +kernel, rfl, by decide +kernel, by decide +kernel⟩
abbrev s__law_next : Stmt := topS 33
theorem sc__law_next : FnScope ["deck", "many", "cell", "found"] ["deck", "many"] (defScope s__law_next) := ⟨rfl, rfl, rfl, by decide +kernel, rfl, by decide +kernel, by decide +kernel⟩
def spMix : Sp := fun vs H Q _ => ∃ c k : Int, vs = [.int c, .int k] ∧ 0 ≤ k ∧ k < 2 ^ 40 ∧ ∀ r : Int, Q (.int r) H
/-- the deck at d, from which so many may still be drawn -/
def DeckAt (H : Hp) (d s : Addr) (n : Nat) : Prop := ∃ (ns : List Int) (i : Nat) (left mixed total : Int), H d = some (.lst [.ref s, .int (i : Int), .int left, .int mixed, .int total]) ∧ H s = some (.lst (ns.map V.int)) ∧ s ≠ d ∧ ns.length ≤ 63 ∧ i ≤ 63 ∧ 0 ≤ left ∧ 0 ≤ mixed ∧ mixed + n ≤ 1000000
theorem DeckAt.mono {H : Hp} {d s : Addr} {n m : Nat} (h : DeckAt H d s n) (le : m ≤ n) : DeckAt H d s m := by
  obtain ⟨ns, i, l, mx, t, h1, h2, h3, h4, h5, h6, h7, h8⟩ := h
  exact ⟨ns, i, l, mx, t, h1, h2, h3, h4, h5, h6, h7, by omega⟩
theorem DeckAt.lst {H : Hp} {d s : Addr} {n : Nat} (h : DeckAt H d s n) : ∃ xs, H d = some (.lst xs) := by
  obtain ⟨ns, i, l, mx, t, h1, _⟩ := h
  exact ⟨_, h1⟩
theorem DeckAt.lst2 {H : Hp} {d s : Addr} {n : Nat} (h : DeckAt H d s n) : ∃ xs, H s = some (.lst xs) := by
  obtain ⟨ns, i, l, mx, t, _, h1, _⟩ := h
  exact ⟨_, h1⟩
/-- a list of one's own is written -/
theorem DeckAt.upd {H : Hp} {d s l : Addr} {n : Nat} {o : HO} (h : DeckAt H d s n) (nd : l ≠ d) (ns' : l ≠ s) : DeckAt (upd H l o) d s n := by
  obtain ⟨ns, i, lf, mx, t, h1, h2, h3⟩ := h
  exact ⟨ns, i, lf, mx, t, by rw [upd_ne (Ne.symm nd)]; exact h1, by rw [upd_ne (Ne.symm ns')]; exact h2, h3⟩
/-- all but what stands at d stands as it stood -/
def SameD (d : Addr) (H H' : Hp) : Prop := ∀ b o, b ≠ d → H b = some o → H' b = some o
theorem SameD.refl (d : Addr) (H : Hp) : SameD d H H := fun _ _ _ h => h
theorem SameD.trans {d : Addr} {H H1 H2 : Hp} (a : SameD d H H1) (b : SameD d H1 H2) : SameD d H H2 := fun c o n h => b c o n (a c o n h)
theorem SameD.of {d : Addr} {H H' : Hp} (s : Same H H') : SameD d H H' := fun b o _ h => s b o h
theorem SameD.upd {d : Addr} {H : Hp} {o : HO} : SameD d H (upd H d o) := fun b x n h => by rw [upd_ne n]; exact h
theorem SameD.keep {d : Addr} {H H' : Hp} {xs : List V} (s : SameD d H H') (h : H d = some (.lst xs)) : Keep H H' :=
  ⟨fun b ys e => s b _ (ne_of e h (by intro z; cases z)) e, fun b o u e => s b _ (ne_of e h (by intro z; cases z)) e⟩
theorem SameD.seq {K : PySem.W.Frag} {d p : Addr} {H H' : Hp} {xs : List V} (s : SameD d H H') (n : p ≠ d) (h : SqL K H p xs) : SqL K H' p xs := by
  rcases h with (h | ⟨o, h⟩) | h
  · exact .inl (.inl (s _ _ n h))
  · exact .inl (.inr ⟨o, s _ _ n h⟩)
  · exact .inr h
theorem SameD.upd_new {d l : Addr} {H H1 : Hp} {o : HO} (s : SameD d H H1) (h : H l = none) : SameD d H (L2.upd H1 l o) := fun b x n e => by
  rw [upd_ne (ne_of_none e h)]
  exact s b x n e
theorem SameD.at {d l : Addr} {H H1 : Hp} {o : HO} (s : SameD d H H1) (n : l ≠ d) (h : H l = some o) : H1 l = some o := s _ _ n h
theorem DeckAt.same {H H' : Hp} {d s : Addr} {n : Nat} (h : DeckAt H d s n) (e : Same H H') : DeckAt H' d s n := by
  obtain ⟨ns, i, l, mx, t, h1, h2, h3⟩ := h
  exact ⟨ns, i, l, mx, t, e _ _ h1, e _ _ h2, h3⟩
def spDeck (K : PySem.W.Frag) : Sp := fun vs H Q _ => ∃ (a : Addr) (ns : List Int), vs = [.ref a] ∧ SqL K H a (ns.map V.int) ∧ ns.length ≤ 63 ∧ ∀ H' d s, Same H H' → H d = none → H s = none → DeckAt H' d s 1000000 → Q (.ref d) H'
def spNext (K : PySem.W.Frag) : Sp := fun vs H Q _ => ∃ (d s : Addr) (m : Int) (n : Nat), vs = [.ref d, .int m] ∧ DeckAt H d s (n + 1) ∧ 1 ≤ m ∧ m ≤ 1000000 ∧ ∀ H' r, SameD d H H' → DeckAt H' d s n → 0 ≤ r → r < m → Q (.int r) H'
theorem fmod_in {a m : Int} (h : 1 ≤ m) : 0 ≤ a.fmod m ∧ a.fmod m < m := by
  rw [Int.fmod_eq_emod_of_nonneg _ (by omega)]
  exact ⟨Int.emod_nonneg _ (by omega), Int.emod_lt_of_pos _ (by omega)⟩
theorem wmi {a b : Int} {n m : Nat} (ha : a.natAbs < 2 ^ n) (hb : b.natAbs < 2 ^ m) (h : n + m ≤ 1000000) (h1 : 0 < n) (h2 : 0 < m) : CMulW a b := wide_mul ha hb h1 h2 h
theorem set_step {H : Hp} {d : Addr} {xs : List V} {k : Int} {j : Nat} {v : V} {Q : Hp → Prop} (e : H d = some (.lst xs)) (hk : ixN xs.length k = some j) (h : ∀ H2, H2 d = some (.lst (xs.set j v)) → SameD d H H2 → Q H2) : rSetL (.ref d) (.int k) v H Q :=
  ⟨d, xs, k, j, rfl, rfl, e, hk, h _ upd_same SameD.upd⟩
section
variable {P : Program} {w : World} {K : PySem.W.Frag} {mg : Str → Option Value} {base : Heap}
theorem ok_law_mix (D : DefAt K mg "_law_mix" s__law_mix ["cell", "k"]) : Cal P w K mg base 1 "_law_mix" spMix := by
  refine cal_of D sc__law_mix (fun vs H Q E h => ?_) (fun f cdv A outer s H vs Q E hr h => ?_)
  · obtain ⟨c, k, rfl, _⟩ := h
    rfl
  · obtain ⟨c, k, rfl, k0, k1, q⟩ := h
    refine ⟨_, (pss_cons (ps_set (i := 2) sc__law_mix.nd rfl (.inl rfl) (pe_op op_add (pe_op op_modN (pv 0) pe_int) (pe_op op_mulW (pe_op op_mulW pe_int (pv 1)) (pv 1))))
      (pss_cons (ps_set (i := 2) sc__law_mix.nd rfl (.inl rfl) (pe_op op_modN (pe_op op_add (pv 2) (pe_op op_mulW pe_int (pv 1))) pe_int))
      (pss_cons (ps_set (i := 2) sc__law_mix.nd rfl (.inl rfl) (pe_op op_modN (pe_op op_mulW (pv 2) (pv 2)) pe_int))
      (pss_one (ps_ret (pe_op op_fdivW (pe_op op_modN (pe_op op_mulW (pv 2) (pe_op op_add (pv 2) pe_int)) pe_int) pe_int)))))), ?_⟩
    have kb : k.natAbs < 2 ^ 40 := by omega
    have m1 : (1000003 : Int).natAbs < 2 ^ 20 := by decide
    have c1 : CMulW 1000003 k := wmi m1 kb (by decide) (by decide) (by decide)
    have c2 : CMulW (1000003 * k) k := wmi (BM.imul_lt2 m1 kb) kb (by decide) (by decide) (by decide)
    have m2 : (7919 : Int).natAbs < 2 ^ 20 := by decide
    have c3 : CMulW 7919 k := wmi m2 kb (by decide) (by decide) (by decide)
    refine ⟨_, rfl, _, _, rfl, rfl, (by decide : (2147483629 : Int) ≠ 0), _, rfl, ?_⟩
    refine ⟨_, _, rfl, rfl, c1, _, rfl, _, _, rfl, rfl, c2, ?_⟩
    refine ⟨_, _, rfl, rfl, ?_⟩
    refine ⟨_, rfl, _, rfl, _, _, rfl, rfl, c3, _, _, rfl, rfl, _, _, rfl, rfl, (by decide : (2147483629 : Int) ≠ 0), ?_⟩
    have b1 := fmod_in (a := (c.fmod 2147483629 + 1000003 * k * k) + 7919 * k) (m := 2147483629) (by decide)
    have zb : (((c.fmod 2147483629 + 1000003 * k * k) + 7919 * k).fmod 2147483629).natAbs < 2 ^ 32 := by omega
    refine ⟨_, rfl, _, rfl, _, _, rfl, rfl, wmi zb zb (by decide) (by decide) (by decide), _, _, rfl, rfl, (by decide : (2147483587 : Int) ≠ 0), ?_⟩
    have b2 := fmod_in (a := ((c.fmod 2147483629 + 1000003 * k * k) + 7919 * k).fmod 2147483629 * ((c.fmod 2147483629 + 1000003 * k * k) + 7919 * k).fmod 2147483629) (m := 2147483587) (by decide)
    have yb : ((((c.fmod 2147483629 + 1000003 * k * k) + 7919 * k).fmod 2147483629 * ((c.fmod 2147483629 + 1000003 * k * k) + 7919 * k).fmod 2147483629).fmod 2147483587).natAbs < 2 ^ 32 := by omega
    have yb2 : ((((c.fmod 2147483629 + 1000003 * k * k) + 7919 * k).fmod 2147483629 * ((c.fmod 2147483629 + 1000003 * k * k) + 7919 * k).fmod 2147483629).fmod 2147483587 + 40961).natAbs < 2 ^ 33 := by omega
    refine ⟨_, rfl, _, rfl, _, _, rfl, rfl, _, _, rfl, rfl, wmi yb yb2 (by decide) (by decide) (by decide), _, _, rfl, rfl, (by decide : (2147483563 : Int) ≠ 0), _, _, rfl, rfl, (wide_div (b := 3) (by decide) (by decide) (by decide) (by decide) : CDivW _ 4), ?_⟩
    exact q _
theorem ok_law_deck (T : Tx mg) (D : DefAt K mg "_law_deck" s__law_deck ["script"]) : Cal P w K mg base 1 "_law_deck" (spDeck K) := by
  refine cal_of D sc__law_deck (fun vs H Q E h => ?_) (fun f cdv A outer s H vs Q E hr h => ?_)
  · obtain ⟨a, ns, rfl, _⟩ := h
    rfl
  · obtain ⟨a, ns, rfl, hS, hl, q⟩ := h
    refine ⟨_, (pss_one (ps_ret (pe_lst (pa_cons (pe_slice sl_list (pv 0) po_none (po_some pe_int)) (pa_cons pe_int (pa_cons pe_int (pa_cons pe_int (pa_cons (pe_callB (cr_sum rfl) (by rfl) T.sum (by decide +kernel) (pa_cons (pe_slice sl_list (pv 0) po_none (po_some pe_int)) pa_nil)) pa_nil)))))))), ?_⟩
    obtain ⟨ns', cutm, hl'⟩ : ∃ ns' : List Int, cutV (ns.map V.int) none (some 63) = ns'.map V.int ∧ ns'.length ≤ 63 := by
      refine ⟨(ns.drop (HT.sIx ns.length 0 none)).take (HT.sIx ns.length ns.length (some 63) - HT.sIx ns.length 0 none), ?_, ?_⟩
      · unfold cutV
        rw [List.length_map, List.map_take, List.map_drop]
      · rw [List.length_take, List.length_drop]
        omega
    refine ⟨_, rfl, 63, rfl, a, _, rfl, hS, ?_⟩
    rw [cutm]
    intro p hp
    have s1 := same_upd (o := .lst (ns'.map V.int)) hp
    refine ⟨_, rfl, 63, rfl, a, _, rfl, s1.seq hS, ?_⟩
    rw [cutm]
    intro p2 hp2
    have s2 := same_upd (o := .lst (ns'.map V.int)) hp2
    refine ⟨p2, ns', rfl, SqL.of upd_same, ?_⟩
    refine ⟨by show 5 ≤ sizeLine; decide, fun d hd => ?_⟩
    have s3 := fun o => same_upd (o := o) hd
    have e1 : (upd (upd H p (.lst (ns'.map V.int))) p2 (.lst (ns'.map V.int))) p = some (.lst (ns'.map V.int)) := s2 _ _ upd_same
    exact q _ d p (s1.trans (s2.trans (s3 _))) (Same.free (s1.trans s2) hd) hp ⟨ns', 0, 0, 0, _, upd_same, s3 _ _ _ e1, ne_of_none e1 hd, hl', by decide, by decide, by decide, by decide⟩
theorem ok_law_next (T : Tx mg) (D : DefAt K mg "_law_next" s__law_next ["deck", "many"]) (c_law_mix : Cal P w K mg base 1 "_law_mix" spMix) : Cal P w K mg base 2 "_law_next" (spNext K) := by
  refine cal_of D sc__law_next (fun vs H Q E h => ?_) (fun f cdv A outer s' H vs Q E hr h => ?_)
  · obtain ⟨d, s0, m, n, rfl, _⟩ := h
    rfl
  · obtain ⟨d, s, m, n, rfl, hD, m1, m2, q⟩ := h
    have mz : m ≠ 0 := by omega
    have fin : ∀ (H' : Hp) (a : Int), SameD d H H' → DeckAt H' d s n → Q (.int (a.fmod m)) H' := fun H' a s1 h1 => q H' _ s1 h1 (fmod_in m1).1 (fmod_in m1).2
    refine ⟨_, (pss_cut (ps_if (PW.pt (pw_and (pt_cmpR op_eq (pe_ix ix_list (pv 0) pe_int (fun _ _ => rfl)) pe_int (nomark _)) (pw_and1 (pt_cmpR op_lt (pe_ix ix_list (pv 0) pe_int (fun _ _ => rfl)) (pe_callB call_len_seq (by rfl) T.len (by decide +kernel) (pa_cons (pe_ix ix_list (pv 0) pe_int (fun _ _ => rfl)) pa_nil)) (nomark _)))))
      (pss_cons (ps_set (i := 2) sc__law_next.nd rfl (.inl rfl) (pe_ix ix_list (pe_ix ix_list (pv 0) pe_int (fun _ _ => rfl)) (pe_ix ix_list (pv 0) pe_int (fun _ _ => rfl)) (fun _ _ => rfl)))
        (pss_cons (ps_asg (pe_op op_add (pe_ix ix_list (pv 0) pe_int (fun _ _ => rfl)) pe_int) (pg_sub (pv 0) pe_int set_list))
        (pss_cons (ps_if (pt_cmpR op_lt (pv 2) (pe_op op_pow pe_int pe_int) (nomark _))
        (pss_one (ps_ret (pe_op op_modN (pe_c c_law_mix hr (by decide) (by rfl) (pa_cons (pv 2) (pa_cons (pe_ix ix_list (pv 0) pe_int (fun _ _ => rfl)) pa_nil))) (pv 1))))
        pss_nil)
        (pss_one (ps_asg (pv 2) (pg_sub (pv 0) pe_int set_list))))))
      pss_nil)
      (pss_cons (ps_if (pt_cmpR op_gt (pe_ix ix_list (pv 0) pe_int (fun _ _ => rfl)) pe_int (nomark _))
      (pss_cons (ps_set (i := 3) sc__law_next.nd rfl (.inl rfl) (pe_op op_modN (pe_ix ix_list (pv 0) pe_int (fun _ _ => rfl)) (pv 1)))
        (pss_cons (ps_asg (pe_op op_fdivW (pe_ix ix_list (pv 0) pe_int (fun _ _ => rfl)) (pv 1)) (pg_sub (pv 0) pe_int set_list))
        (pss_one (ps_ret (pv 3)))))
      pss_nil)
      (pss_cons (ps_asg (pe_op op_add (pe_ix ix_list (pv 0) pe_int (fun _ _ => rfl)) pe_int) (pg_sub (pv 0) pe_int set_list))
      (pss_one (ps_ret (pe_op op_modN (pe_c c_law_mix hr (by decide) (by rfl) (pa_cons (pe_ix ix_list (pv 0) pe_int (fun _ _ => rfl)) (pa_cons (pe_op op_add (pe_ix ix_list (pv 0) pe_int (fun _ _ => rfl)) pe_int) pa_nil))) (pv 1))))))), ?_⟩
    refine ⟨fun σ' H' => SameD d H H' ∧ ∃ c2, σ' = [some (.ref d), some (.int m), c2, none] ∧ DeckAt H' d s (n + 1), ?_, ?_⟩
    · obtain ⟨ns, i, left, mixed, total, e, hs, nsd, hl, hi, h0, h1, h2⟩ := id hD
      have sd := SqL.of (K := K) e
      walk_at "rd"
      refine ⟨rfl, ?_⟩
      walk_at "rd"
      refine ite2 (fun c => ?_) (fun c => ?_)
      · walk_at "rd"
        refine ⟨s, _, rfl, .inl (SqL.of hs), ?_⟩
        walk_at "rd"
        rw [List.length_map]
        refine ite2 (fun c => ?_) (fun c => ?_)
        · have c' : (i : Int) < ns.length := of_decide_eq_true c
          have hin : i < ns.length := by omega
          have gi : (ns.map V.int)[i]? = some (.int ns[i]) := by rw [List.getElem?_map, List.getElem?_eq_getElem hin]; rfl
          have ati : atI (ns.map V.int) (i : Int) = some (.int ns[i]) := atI_nat gi
          have hsl := SqL.of (K := K) hs
          generalize ns[i] = cell at ati gi
          walk_at "rd"
          refine set_step (j := 1) e rfl (fun H2 e2 sm2 => ?_)
          replace e2 : H2 d = some (.lst [.ref s, .int ((i + 1 : Nat) : Int), .int left, .int mixed, .int total]) := e2
          have hs2 := sm2 _ _ nsd hs
          have sd2 := SqL.of (K := K) e2
          walk_at "rd"
          refine ⟨⟨by decide, by decide, by decide⟩, ?_⟩
          walk_at "rd"
          refine ite2 (fun c => ?_) (fun c => ?_)
          · walk_at "rd"
            refine ⟨_, _, rfl, by omega, by omega, fun r => ?_⟩
            refine ⟨_, rfl, _, _, rfl, rfl, mz, ?_⟩
            exact fin H2 r sm2 ⟨ns, i + 1, left, mixed, total, e2, hs2, nsd, hl, by omega, h0, h1, by omega⟩
          · have c3 : ¬ cell < 10 ^ (18 : Int).toNat := fun z => c (decide_eq_true z)
            have c4 : 0 ≤ cell := by
              have : (10 : Int) ^ (18 : Int).toNat = 1000000000000000000 := by decide
              omega
            walk_at "rd"
            refine set_step (j := 2) e2 rfl (fun H3 e3 sm3 => ?_)
            exact ⟨sm2.trans sm3, _, rfl, ns, i + 1, cell, mixed, total, e3, sm3 _ _ nsd hs2, nsd, hl, by omega, c4, h1, by omega⟩
        · exact ⟨SameD.refl _ _, _, rfl, hD⟩
      · refine ite2 (fun c2 => ?_) (fun c2 => ?_)
        · exact absurd c2 (by decide)
        · exact ⟨SameD.refl _ _, _, rfl, hD⟩
    · rintro σ' H' ⟨sm, c2, rfl, hD'⟩
      obtain ⟨ns, i, left, mixed, total, e, hs, nsd, hl, hi, h0, h1, h2⟩ := id hD'
      have sd := SqL.of (K := K) e
      walk_at "rd"
      refine ite2 (fun c => ?_) (fun c => ?_)
      · have c' : 0 < left := of_decide_eq_true c
        walk_at "rd"
        refine ⟨mz, ?_⟩
        walk_at "rd"
        refine ⟨wide_div (by omega) (b := 20) (by omega) (by decide) (by decide), ?_⟩
        walk_at "rd"
        refine set_step (j := 2) e rfl (fun H3 e3 sm3 => ?_)
        refine ⟨_, rfl, ?_⟩
        exact fin _ _ (sm.trans sm3) ⟨ns, i, left / m, mixed, total, e3, sm3 _ _ nsd hs, nsd, hl, hi, Int.ediv_nonneg h0 (by omega), h1, by omega⟩
      · walk_at "rd"
        refine set_step (j := 3) e rfl (fun H2 e2 sm2 => ?_)
        replace e2 : H2 d = some (.lst [.ref s, .int (i : Int), .int left, .int (mixed + 1), .int total]) := e2
        have hs2 := sm2 _ _ nsd hs
        have sd2 := SqL.of (K := K) e2
        walk_at "rd"
        refine ⟨_, _, rfl, by omega, by omega, fun r => ?_⟩
        refine ⟨_, rfl, _, _, rfl, rfl, mz, ?_⟩
        exact fin H2 r (sm.trans sm2) ⟨ns, i, left, mixed + 1, total, e2, hs2, nsd, hl, hi, h0, by omega, by omega⟩
end
end BW
namespace BW
open PySem PySem.Spec PyProof.Rows L2
open BM (Hb Kn Mp)
local macro_rules | `(tactic| walk_at "rd") => `(tactic| repeat (first
  | (refine ⟨_, _, _, _, rfl, rfl, by first | (show SqT _ _ _ _; assumption) | (show SqL _ _ _ _; assumption) | (show SqA _ _ _ _; assumption), by first | rfl | assumption, ?_⟩)
  | (refine ⟨_, rfl, ?_⟩)
  | (refine ⟨_, _, rfl, rfl, (by assumption : CMulW _ _), ?_⟩)
  | (refine ⟨_, _, rfl, rfl, ?_⟩)))
abbrev s__law_least : Stmt := topS 43
theorem sc__law_least : FnScope ["knots", "found", "k"] ["knots"] (defScope s__law_least) := ⟨rfl, rfl, rfl, by decide +kernel, rfl, by decide +kernel, by decide +kernel⟩
abbrev s__law_turns : Stmt := topS 44
theorem sc__law_turns : FnScope ["deck", "knots", "top", "pieces", "most", "total"] ["deck", "knots", "top"] (defScope s__law_turns) := ⟨rfl, rfl, rfl, by decide +kernel, rfl, by decide +kernel, by decide +kernel⟩
abbrev s__law_spots : Stmt := topS 35
theorem sc__law_spots : FnScope ["deck", "many", "span", "low", "gaps", "left", "k", "more", "found", "gap"] ["deck", "many"] (defScope s__law_spots) := ⟨rfl, rfl, rfl, by decide +kernel, rfl, by decide +kernel, by decide +kernel⟩
def spLawLeast (K : PySem.W.Frag) : Sp := fun vs H Q _ => ∃ (v : V) (M : Mp), vs = [v] ∧ MpT K H v M ∧ BM.Inc M ∧ 2 ≤ M.length ∧ M.length ≤ 1000 ∧ MB 20 M ∧ ∀ H' p us, Same H H' → SqT K H' p us → us.length ≤ 2 * M.length → Q (.ref p) H'
def spLawTurns (K : PySem.W.Frag) : Sp := fun vs H Q _ => ∃ (d s : Addr) (v : V) (M : Mp) (n : Nat), vs = [.ref d, v, .int 40] ∧ DeckAt H d s (n + 1) ∧ MpT K H v M ∧ BM.Inc M ∧ 2 ≤ M.length ∧ M.length ≤ 8 ∧ MB 20 M ∧ ∀ H' (m : Nat), SameD d H H' → DeckAt H' d s n → m ≤ 7 → Q (.int (m : Int)) H'
theorem not_whole1 {xs : List V} (h : 2 ≤ xs.length) : ¬ (HT.sIx xs.length 0 none = 0 ∧ HT.sIx xs.length xs.length (some 1) = xs.length) := by
  rw [show HT.sIx xs.length xs.length (some 1) = min 1 xs.length from HT.sIx_nat xs.length xs.length 1]
  omega
theorem cut_1 {xs : List V} (h : 1 ≤ xs.length) : cutV xs none (some 1) = xs.take 1 := by
  unfold cutV
  rw [show HT.sIx xs.length xs.length (some 1) = min 1 xs.length from HT.sIx_nat xs.length xs.length 1, HT.sIx_none]
  rw [show min 1 xs.length - 0 = 1 by omega]
  rfl
theorem not_wholeN {xs : List V} (h : 2 ≤ xs.length) : ¬ (HT.sIx xs.length 0 (some (-1)) = 0 ∧ HT.sIx xs.length xs.length none = xs.length) := by
  rintro ⟨z, _⟩
  have e : HT.sIx xs.length 0 (some (-1)) = (-1 + (xs.length : Int)).toNat := by
    simp [HT.sIx]
  omega
theorem two_of {M : Mp} (h : 2 ≤ M.length) : ∃ a b r, M = a :: b :: r := by
  match M, h with
  | a :: b :: r, _ => exact ⟨a, b, r, rfl⟩
section
variable {P : Program} {w : World} {K : PySem.W.Frag} {mg : Str → Option Value} {base : Heap}
theorem ok_law_least (T : Tx mg) (D : DefAt K mg "_law_least" s__law_least ["knots"]) (c_law_value : Cal P w K mg base 4 "_law_value" (spLawValue K)) : Cal P w K mg base 5 "_law_least" (spLawLeast K) := by
  refine cal_of D sc__law_least (fun vs H Q E h => ?_) (fun f cdv A outer s H vs Q E hr h => ?_)
  · obtain ⟨v, M, rfl, _⟩ := h
    rfl
  · obtain ⟨v, M, rfl, tM, inc, two, big, mb, q⟩ := h
    obtain ⟨pM, us, rfl, hM, hk⟩ := id tM
    refine ⟨_, (pss_cons (ps_set (i := 1) sc__law_least.nd rfl (.inl rfl) (pe_callTy call_list_of (by rfl) T.list (by decide +kernel) (pa_cons (pe_slice sl_tup (pv 0) po_none (po_some pe_int)) pa_nil)))
      (pss_cons (ps_for PassesOwn.never rfl (pi_range2 (by rfl) T.range (pa_cons pe_int (pa_cons (pe_op op_sub (pe_callB call_len_seq (by rfl) T.len (by decide +kernel) (pa_cons (pv 0) pa_nil)) pe_int) pa_nil))) (pg_name (i := 2) sc__law_least.nd rfl (.inl rfl))
      (pss_one (ps_if (pt_cmpR (op_neD (hd_of hr)) (pe_c c_law_value hr (by decide) (by rfl) (pa_cons (pe_tup (pa_cons (pe_ix ix_list (pv 1) (pe_un un_neg pe_int) (fun _ _ => rfl)) (pa_cons (pe_ix ix_tup (pv 0) (pe_op op_add (pv 2) pe_int) (fun _ _ => rfl)) pa_nil))) (pa_cons (pe_ix ix_tup (pe_ix ix_tup (pv 0) (pv 2) (fun _ _ => rfl)) pe_int (fun _ _ => rfl)) pa_nil))) (pe_ix ix_tup (pe_ix ix_tup (pv 0) (pv 2) (fun _ _ => rfl)) pe_int (fun _ _ => rfl)) (nomark _))
        (pss_one (ps_expr (pe_bm PySem.F.plainAttrs_list PySem.F.slot_list_append PySem.F.type_list_append mt_append (pv 1) (pa_cons (pe_ix ix_tup (pv 0) (pv 2) (fun _ _ => rfl)) pa_nil))))
        pss_nil)))
      (pss_one (ps_ret (pe_callTy call_tuple_of (by rfl) T.tuple (by decide +kernel) (pa_cons (pe_op op_cat (pv 1) (pe_callTy call_list_of (by rfl) T.list (by decide +kernel) (pa_cons (pe_slice sl_tup (pv 0) (po_some (pe_un un_neg pe_int)) po_none) pa_nil))) pa_nil)))))), ?_⟩
    have ul := hk.length
    obtain ⟨a0, b0, r0, eM⟩ := two_of two
    have m0 : M[0]? = some a0 := by rw [eM]; rfl
    obtain ⟨w0, g0, t0⟩ := hk.get m0
    have et : us.take 1 = [w0] := by
      have h := List.take_add_one (l := us) (i := 0)
      rw [g0] at h
      exact h
    refine ⟨_, rfl, 1, rfl, pM, us, rfl, hM, not_whole1 (by omega), ?_⟩
    rw [cut_1 (by omega), et]
    intro pc hpc
    have s0 := same_upd (o := .tup [w0]) hpc
    refine ⟨pc, [w0], rfl, .inr (.inl (.inl upd_same)), fun l hl => ?_⟩
    have s1 := s0.trans (same_upd (o := .lst [w0]) hl)
    have hl0 : H l = none := Same.free s0 hl
    have e1 : (upd (upd H pc (.tup [w0])) l (.lst [w0])) l = some (.lst [w0]) := upd_same
    generalize hHs : upd (upd H pc (.tup [w0])) l (.lst [w0]) = Hs at *
    have hM1 := (Keep.of s1).sqT hM
    walk_at "rd"
    refine ⟨_, _, rfl, .inr hM1, ?_⟩
    walk_at "rd"
    refine ⟨_, _, rfl, ⟨by decide, by decide, by omega, by omega⟩, ?_⟩
    refine for_range (lo := 1) (n := ((us.length : Int) - 1 - 1).toNat) (fun i σ H1 => ∃ (fs : List V) (F0 : Mp) (a : Kn) (y2 : Option V), σ = [some (.ref pM), some (.ref l), y2] ∧ Same H H1 ∧ H1 l = some (.lst fs) ∧ Kts K H1 fs (F0 ++ [a]) ∧ a ∈ M ∧ BM.Inc (a :: M.drop (i + 1)) ∧ fs.length ≤ i + 1)
      ⟨[w0], [], a0, none, rfl, s1, e1, .cons (t0.keep (Keep.of s1)) .nil, by rw [eM]; simp, by rw [eM]; rw [eM] at inc; exact inc, by simp⟩ ?_ ?_
    · rintro i σ H1 hi ⟨fs, F0, a, y2, rfl, sm, eo, ks, am, ai, fl⟩
      have hM2 := (Keep.of sm).sqT hM
      have hk2 := hk.keep (Keep.of sm)
      obtain ⟨b, c, r, ed, mbb, mcc, ed2⟩ := BM.drop_two (M := M) (i := i + 1) (by omega)
      obtain ⟨wb, gb, tb⟩ := hk2.get mbb
      obtain ⟨wc, gc, tc⟩ := hk2.get mcc
      obtain ⟨wa, ga, ta⟩ := ks.last (k := a) (by simp)
      have ata : atI fs (-1) = some wa := atI_neg1 ga
      have atb : atI us (1 + (i : Int)) = some wb := at_of (j := i + 1) (by omega) gb
      have atc : atI us (1 + (i : Int) + 1) = some wc := at_of (j := i + 2) (by omega) gc
      have hfs : SqL K H1 l fs := SqL.of eo
      rw [ed] at ai
      have ba := mb a am
      have bb := mb b (BM.mem_at mbb)
      have bc := mb c (BM.mem_at mcc)
      obtain ⟨pb, ub1, ub2, rfl, hb, fb1, fb2⟩ := id tb
      walk_at "rd"
      refine ⟨by show 2 ≤ sizeLine; decide, fun pt hpt => ?_⟩
      have s2 := same_upd (o := .tup [wa, wc]) hpt
      have k2 := Keep.of s2
      have hM3 := k2.sqT hM2
      have hb3 := k2.sqT hb
      have tt : MpT K (upd H1 pt (.tup [wa, wc])) (.ref pt) [a, c] := ⟨pt, _, rfl, .inl (.inl upd_same), .cons (ta.keep k2) (.cons (tc.keep k2) .nil)⟩
      walk_at "rd"
      refine ⟨_, _, [a, c], b.1, rfl, tt, fb1.keep k2, ⟨by have := ai.1; have := ai.2.1; grind, trivial⟩, Nat.le_refl 2, ?_, bb.1, fun H2 v2 r2 s3 f2 => ?_⟩
      · intro k hk
        rcases List.mem_cons.mp hk with rfl | hk
        · exact ba
        · rw [List.mem_singleton.mp hk]; exact bc
      have k3 := Keep.of s3
      have k23 := k2.trans k3
      have hM4 := k23.sqT hM2
      have hb4 := k23.sqT hb
      have sm3 := sm.trans (s2.trans s3)
      have eo3 : H2 l = some (.lst fs) := s3 _ _ (s2 _ _ eo)
      walk_at "rd"
      refine ⟨_, _, f2.dp, (fb2.keep k23).dp, dR_shaped _, dR_shaped _, ?_⟩
      rw [dR_eqv]
      walk_at "rd"
      by_cases e : r2 = b.2
      · rw [decide_eq_true e]
        refine iteF ?_
        exact ⟨fs, F0, a, _, rfl, sm3, eo3, ks.keep k23, am, by rw [ed2]; exact ai.drop2, by omega⟩
      · rw [decide_eq_false e]
        refine iteT ?_
        walk_at "rd"
        refine ⟨.inl ⟨rfl, _, SqL.of eo3⟩, ?_⟩
        walk_at "rd"
        refine ⟨l, fs, .ref pb, rfl, rfl, eo3, small7 (by omega), ?_⟩
        have kl := Keep.lst (o := .lst (fs ++ [.ref pb])) eo3
        exact ⟨fs ++ [.ref pb], F0 ++ [a], b, _, rfl, Same.upd_new sm3 hl0, upd_same, Kts.append ((ks.keep k23).keep kl) (.cons ((tb.keep k23).keep kl) .nil), BM.mem_at mbb, by rw [ed2]; exact ai.2, by rw [List.length_append, List.length_singleton]; omega⟩
    · rintro σ H1 ⟨fs, F0, a, y2, rfl, sm, eo, ks, am, ai, fl⟩
      have hM2 := (Keep.of sm).sqT hM
      have sizeb : (1000 : Nat) * 2 < sizeLine := by decide
      walk_at "rd"
      refine ⟨pM, us, rfl, hM2, not_wholeN (by omega), fun pc hpc => ?_⟩
      have s2 := same_upd (o := .tup (cutV us (some (-1)) none)) hpc
      have cl := cutV_length us (some (-1)) none
      refine ⟨pc, _, rfl, .inr (.inl (.inl upd_same)), fun l2 hl2 => ?_⟩
      have s3 := s2.trans (same_upd (o := .lst (cutV us (some (-1)) none)) hl2)
      have eo3 := s3 _ _ eo
      refine ⟨l, l2, fs, _, rfl, rfl, eo3, upd_same, by omega, fun l3 hl3 => ?_⟩
      refine ⟨l3, _, rfl, .inl ⟨SqL.of upd_same, fun l4 hl4 => ?_⟩⟩
      have s4 := s3.trans (same_upd (o := .lst (fs ++ cutV us (some (-1)) none)) hl3)
      have s5 := s4.trans (same_upd (o := .tup (fs ++ cutV us (some (-1)) none)) hl4)
      exact q _ l4 _ (sm.trans s5) (.inl (.inl upd_same)) (by rw [List.length_append]; omega)
theorem ok_law_turns (T : Tx mg) (D : DefAt K mg "_law_turns" s__law_turns ["deck", "knots", "top"]) (c_law_least : Cal P w K mg base 5 "_law_least" (spLawLeast K)) (c_law_next : Cal P w K mg base 2 "_law_next" (spNext K)) : Cal P w K mg base 6 "_law_turns" (spLawTurns K) := by
  refine cal_of D sc__law_turns (fun vs H Q E h => ?_) (fun f cdv A outer s' H vs Q E hr h => ?_)
  · obtain ⟨d, s, v, M, n, rfl, _⟩ := h
    rfl
  · obtain ⟨d, s, v, M, n, rfl, hD, tM, inc, two, big, mb, q⟩ := h
    refine ⟨_, (pss_cons (ps_set (i := 3) sc__law_turns.nd rfl (.inl rfl) (pe_op op_sub (pe_callB call_len_seq (by rfl) T.len (by decide +kernel) (pa_cons (pe_c c_law_least hr (by decide) (by rfl) (pa_cons (pv 1) pa_nil)) pa_nil)) pe_int))
      (pss_cons (ps_set (i := 4) sc__law_turns.nd rfl (.inl rfl) pe_int)
      (pss_cons (ps_set (i := 5) sc__law_turns.nd rfl (.inl rfl) (pv 3))
      (pss_cons (ps_while PassesOwn.never (PW.pt (pw_and (pt_cmpR op_le (pv 5) (pv 2) (nomark _)) (pw_and1 (pt_cmpR op_lt (pv 4) pe_int (nomark _)))))
      (pss_cons (ps_set (i := 4) sc__law_turns.nd rfl (.inl rfl) (pe_op op_add (pv 4) pe_int))
        (pss_one (ps_set (i := 5) sc__law_turns.nd rfl (.inl rfl) (pe_op op_mulW (pv 5) (pv 3))))))
      (pss_one (ps_ret (pe_c c_law_next hr (by decide) (by rfl) (pa_cons (pv 0) (pa_cons (pe_op op_add (pv 4) pe_int) pa_nil))))))))), ?_⟩
    walk_at "rd"
    refine ⟨_, M, rfl, tM, inc, two, by omega, mb, fun H1 p us s1 hp ul => ?_⟩
    refine ⟨p, us, rfl, .inr hp, ?_⟩
    walk_at "rd"
    refine ⟨fun k σ H2 => H2 = H1 ∧ ∃ (m : Nat) (t : Int), σ = [some (.ref d), some v, some (.int 40), some (.int ((us.length : Int) - 1)), some (.int (m : Int)), some (.int t)] ∧ m ≤ 7 ∧ k = 7 - m ∧ t.natAbs < 2 ^ (5 * m + 5),
      ⟨7, rfl, 0, _, rfl, by decide, rfl, by show ((us.length : Int) - 1).natAbs < 32; omega⟩, ?_⟩
    rintro k σ H2 ⟨rfl, m, t, rfl, hm, rfl, ht⟩
    walk_at "rd"
    refine ite2 (fun c => ?_) (fun c => ?_)
    · walk_at "rd"
      refine ite2 (fun c2 => ?_) (fun c2 => ?_)
      · have c2' : (m : Int) < 7 := of_decide_eq_true c2
        refine ⟨_, fun _ _ h => h, ?_⟩
        have ub : ((us.length : Int) - 1).natAbs < 2 ^ 5 := by show _ < 32; omega
        have cm : CMulW t ((us.length : Int) - 1) := wmi ht ub (by omega) (by omega) (by decide)
        walk_at "rd"
        exact ⟨7 - (m + 1), by omega, rfl, m + 1, _, rfl, by omega, rfl, by
          have := BM.imul_lt2 ht ub
          rw [show 5 * (m + 1) + 5 = 5 * m + 5 + 5 by omega]
          exact this⟩
      · walk_at "rd"
        refine ⟨d, s, _, n, rfl, hD.same s1, by omega, by omega, fun H3 r s3 hD3 r0 r1 => ?_⟩
        have e : r = ((r.toNat : Nat) : Int) := by omega
        rw [e]
        exact q H3 r.toNat ((SameD.of s1).trans s3) hD3 (by omega)
    · walk_at "rd"
      refine ⟨d, s, _, n, rfl, hD.same s1, by omega, by omega, fun H3 r s3 hD3 r0 r1 => ?_⟩
      have e : r = ((r.toNat : Nat) : Int) := by omega
      rw [e]
      exact q H3 r.toNat ((SameD.of s1).trans s3) hD3 (by omega)
end
end BW
namespace BW
open PySem PySem.Spec PyProof.Rows L2
open BM (Hb Kn Mp)
local macro_rules | `(tactic| walk_at "rd") => `(tactic| repeat (first
  | (refine ⟨_, _, _, _, rfl, rfl, by first | (show SqT _ _ _ _; assumption) | (show SqL _ _ _ _; assumption) | (show SqA _ _ _ _; assumption), by first | rfl | assumption, ?_⟩)
  | (refine ⟨_, rfl, ?_⟩)
  | (refine ⟨_, _, rfl, rfl, (by assumption : CMulW _ _), ?_⟩)
  | (refine ⟨_, _, rfl, rfl, ?_⟩)))
theorem DeckAt.new {H : Hp} {d s l : Addr} {n : Nat} (h : DeckAt H d s n) (hl : H l = none) : l ≠ d ∧ l ≠ s := by
  obtain ⟨xs, h1⟩ := h.lst
  obtain ⟨ys, h2⟩ := h.lst2
  exact ⟨(ne_of_none h1 hl).symm, (ne_of_none h2 hl).symm⟩
theorem SameD.free {d l : Addr} {H H1 : Hp} (s : SameD d H H1) (n : l ≠ d) (h : H1 l = none) : H l = none := by
  cases e : H l with
  | none => rfl
  | some o =>
    have := s _ _ n e
    rw [h] at this; cases this
theorem set_stepN {H : Hp} {d : Addr} {xs : List V} {k : Int} {j : Nat} {v : V} {Q : Hp → Prop} (e : H d = some (.lst xs)) (hk : ixN xs.length k = some j) (h : ∀ H2, H2 d = some (.lst (xs.set j v)) → H2 = upd H d (.lst (xs.set j v)) → Q H2) : rSetL (.ref d) (.int k) v H Q :=
  ⟨d, xs, k, j, rfl, rfl, e, hk, h _ upd_same rfl⟩
def spSpots : Sp := fun vs H Q _ => ∃ (d s : Addr) (m n : Nat), vs = [.ref d, .int (m : Int)] ∧ DeckAt H d s (n + 20) ∧ 2 ≤ m ∧ m ≤ 8 ∧
  ∀ H' p (ns : List Int), SameD d H H' → DeckAt H' d s n → H p = none → H' p = some (.lst (ns.map V.int)) → p ≠ d → p ≠ s → ns.length = m → ns.Pairwise (· < ·) → (∀ x ∈ ns, -9999 ≤ x ∧ x ≤ 9999) → Q (.ref p) H'
theorem at4 {a b c e : Int} {z : Int} (h0 : 0 ≤ z) (h1 : z < 4) : ∃ y, atI [V.int a, V.int b, V.int c, V.int e] z = some (.int y) ∧ (y = a ∨ y = b ∨ y = c ∨ y = e) := by
  have : z = 0 ∨ z = 1 ∨ z = 2 ∨ z = 3 := by omega
  rcases this with rfl | rfl | rfl | rfl
  · exact ⟨a, rfl, .inl rfl⟩
  · exact ⟨b, rfl, .inr (.inl rfl)⟩
  · exact ⟨c, rfl, .inr (.inr (.inl rfl))⟩
  · exact ⟨e, rfl, .inr (.inr (.inr rfl))⟩
theorem at3 {a b c : Int} {z : Int} (h0 : 0 ≤ z) (h1 : z < 3) : ∃ y, atI [V.int a, V.int b, V.int c] z = some (.int y) ∧ (y = a ∨ y = b ∨ y = c) := by
  have : z = 0 ∨ z = 1 ∨ z = 2 := by omega
  rcases this with rfl | rfl | rfl
  · exact ⟨a, rfl, .inl rfl⟩
  · exact ⟨b, rfl, .inr (.inl rfl)⟩
  · exact ⟨c, rfl, .inr (.inr rfl)⟩
theorem sum_ge : ∀ {gs : List Int}, (∀ g ∈ gs, 1 ≤ g) → 0 ≤ gs.sum
  | [], _ => by simp
  | g :: gs, h => by
    rw [List.sum_cons]
    have := h g (by simp)
    have := sum_ge (gs := gs) fun x hx => h x (List.mem_cons_of_mem _ hx)
    omega
theorem sum_take_le {gs : List Int} (h : ∀ g ∈ gs, 1 ≤ g) (i : Nat) : (gs.take i).sum ≤ gs.sum := by
  have e : gs.sum = (gs.take i).sum + (gs.drop i).sum := by rw [← List.sum_append, List.take_append_drop]
  have := sum_ge (gs := gs.drop i) fun x hx => h x (List.mem_of_mem_drop hx)
  omega
theorem rep_sum (k : Nat) : (List.replicate k (1 : Int)).sum = k := by
  induction k with
  | zero => rfl
  | succ k ih => rw [List.replicate_succ, List.sum_cons, ih]; omega
theorem rep_flat (k : Nat) : (List.replicate k [V.int 1]).flatten = (List.replicate k (1 : Int)).map V.int := by
  induction k with
  | zero => rfl
  | succ k ih => rw [List.replicate_succ, List.flatten_cons, ih]; rfl
section
variable {P : Program} {w : World} {K : PySem.W.Frag} {mg : Str → Option Value} {base : Heap}
theorem ok_law_spots (T : Tx mg) (D : DefAt K mg "_law_spots" s__law_spots ["deck", "many"]) (c_law_next : Cal P w K mg base 2 "_law_next" (spNext K)) : Cal P w K mg base 3 "_law_spots" spSpots := by
  refine cal_of D sc__law_spots (fun vs H Q E h => ?_) (fun f cdv A outer s' H vs Q E hr h => ?_)
  · obtain ⟨d, s, m, n, rfl, _⟩ := h
    rfl
  · obtain ⟨d, s, m, n, rfl, hD, m2, m8, q⟩ := h
    refine ⟨_, (pss_cut (ps_set (i := 2) sc__law_spots.nd rfl (.inl rfl) (pe_op op_add (pe_op op_sub (pv 1) pe_int) (pe_c c_law_next hr (by decide) (by rfl) (pa_cons (pv 0) (pa_cons (pe_ix ix_list (pe_lst (pa_cons pe_int (pa_cons pe_int (pa_cons pe_int (pa_cons pe_int pa_nil))))) (pe_c c_law_next hr (by decide) (by rfl) (pa_cons (pv 0) (pa_cons pe_int pa_nil))) (fun _ _ => rfl)) pa_nil)))))
      (pss_cut (ps_set (i := 3) sc__law_spots.nd rfl (.inl rfl) (pe_ix ix_list (pe_lst (pa_cons pe_int (pa_cons pe_int (pa_cons (pe_op op_sub (pe_c c_law_next hr (by decide) (by rfl) (pa_cons (pv 0) (pa_cons pe_int pa_nil))) pe_int) (pa_cons (pe_op op_sub (pe_c c_law_next hr (by decide) (by rfl) (pa_cons (pv 0) (pa_cons (pe_op op_sub pe_int (pv 2)) pa_nil))) pe_int) pa_nil))))) (pe_c c_law_next hr (by decide) (by rfl) (pa_cons (pv 0) (pa_cons pe_int pa_nil))) (fun _ _ => rfl)))
      (pss_cons (ps_set (i := 4) sc__law_spots.nd rfl (.inl rfl) (pe_op op_rep (pe_lst (pa_cons pe_int pa_nil)) (pe_op op_sub (pv 1) pe_int)))
      (pss_cut (ps_set (i := 5) sc__law_spots.nd rfl (.inl rfl) (pe_op op_sub (pv 2) (pe_op op_sub (pv 1) pe_int)))
      (pss_cut (ps_for PassesOwn.never rfl (pi_range1 (by rfl) T.range (pa_cons (pe_op op_sub (pv 1) pe_int) pa_nil)) (pg_name (i := 6) sc__law_spots.nd rfl (.inl rfl))
      (pss_cut (ps_set (i := 7) sc__law_spots.nd rfl (.inl rfl) (pe_ix ix_list (pe_lst (pa_cons (pv 5) (pa_cons (pe_c c_law_next hr (by decide) (by rfl) (pa_cons (pv 0) (pa_cons (pe_op op_add (pv 5) pe_int) pa_nil))) (pa_cons pe_int pa_nil)))) (pe_callB (call_min2 rfl) (by rfl) T.min (by decide +kernel) (pa_cons (pe_c c_law_next hr (by decide) (by rfl) (pa_cons (pv 0) (pa_cons pe_int pa_nil))) (pa_cons (pe_op op_sub (pe_op op_sub (pv 1) pe_int) (pv 6)) pa_nil))) (fun _ _ => rfl)))
        (pss_cons (ps_asg (pe_op op_add (pe_ix ix_list (pv 4) (pv 6) (fun _ _ => rfl)) (pv 7)) (pg_sub (pv 4) (pv 6) set_list))
        (pss_one (ps_set (i := 5) sc__law_spots.nd rfl (.inl rfl) (pe_op op_sub (pv 5) (pv 7)))))))
      (pss_cut (ps_set (i := 8) sc__law_spots.nd rfl (.inl rfl) (pe_lst (pa_cons (pv 3) pa_nil)))
      (pss_cons (ps_for PassesOwn.never rfl (pi_list (pv 4)) (pg_name (i := 9) sc__law_spots.nd rfl (.inl rfl))
      (pss_one (ps_expr (pe_bm PySem.F.plainAttrs_list PySem.F.slot_list_append PySem.F.type_list_append mt_append (pv 8) (pa_cons (pe_op op_add (pe_ix ix_list (pv 8) (pe_un un_neg pe_int) (fun _ _ => rfl)) (pv 9)) pa_nil)))))
      (pss_one (ps_ret (pv 8)))))))))), ?_⟩
    -- span
    refine ⟨fun σ1 H1 => ∃ span : Int, σ1 = [some (.ref d), some (.int (m : Int)), some (.int span), none, none, none, none, none, none, none] ∧ SameD d H H1 ∧ DeckAt H1 d s (n + 18) ∧ (m : Int) - 1 ≤ span ∧ span ≤ 8906, ?_, ?_⟩
    · walk_at "rd"
      refine ⟨by show 4 ≤ sizeLine; decide, fun p1 hp1 => ?_⟩
      have n1 := hD.new hp1
      have sd1 : SameD d H (upd H p1 (.lst [.int 3, .int 40, .int 2000, .int 8900])) := .of (same_upd hp1)
      have hD1 := hD.upd (o := .lst [.int 3, .int 40, .int 2000, .int 8900]) n1.1 n1.2
      have e1 : (upd H p1 (.lst [.int 3, .int 40, .int 2000, .int 8900])) p1 = some (.lst [.int 3, .int 40, .int 2000, .int 8900]) := upd_same
      walk_at "rd"
      refine ⟨d, s, 4, n + 19, rfl, hD1, by decide, by decide, fun H2 z sd2 hD2 z0 z1 => ?_⟩
      have l2 := SqL.of (K := K) (sd2 _ _ n1.1 e1)
      obtain ⟨y, ay, hy⟩ := at4 (a := 3) (b := 40) (c := 2000) (e := 8900) z0 z1
      walk_at "rd"
      refine ⟨d, s, y, n + 18, rfl, hD2, by omega, by omega, fun H3 z3 sd3 hD3 z30 z31 => ?_⟩
      walk_at "rd"
      exact ⟨sd1.trans (sd2.trans sd3), hD3, by omega, by omega⟩
    rintro σ1 H3 ⟨span, rfl, sd03, hD3, sp0, sp1⟩
    -- low
    refine ⟨fun σ1 H1 => ∃ low : Int, σ1 = [some (.ref d), some (.int (m : Int)), some (.int span), some (.int low), none, none, none, none, none, none] ∧ SameD d H H1 ∧ DeckAt H1 d s (n + 15) ∧ -9999 ≤ low ∧ low + span ≤ 9999, ?_, ?_⟩
    · walk_at "rd"
      refine ⟨d, s, 2001, n + 17, rfl, hD3, by decide, by decide, fun H4 z4 sd4 hD4 z40 z41 => ?_⟩
      walk_at "rd"
      refine ⟨d, s, 19999 - span, n + 16, rfl, hD4, by omega, by omega, fun H5 z5 sd5 hD5 z50 z51 => ?_⟩
      walk_at "rd"
      refine ⟨by show 4 ≤ sizeLine; decide, fun p2 hp2 => ?_⟩
      have n2 := hD5.new hp2
      have sd6 : SameD d H5 (upd H5 p2 (.lst [.int 0, .int 0, .int (z4 - 1000), .int (z5 - 9999)])) := .of (same_upd hp2)
      have hD6 := hD5.upd (o := .lst [.int 0, .int 0, .int (z4 - 1000), .int (z5 - 9999)]) n2.1 n2.2
      have e2 : (upd H5 p2 (.lst [.int 0, .int 0, .int (z4 - 1000), .int (z5 - 9999)])) p2 = some (.lst [.int 0, .int 0, .int (z4 - 1000), .int (z5 - 9999)]) := upd_same
      walk_at "rd"
      refine ⟨d, s, 4, n + 15, rfl, hD6, by decide, by decide, fun H7 z7 sd7 hD7 z70 z71 => ?_⟩
      have l7 := SqL.of (K := K) (sd7 _ _ n2.1 e2)
      obtain ⟨low, al, hl⟩ := at4 (a := 0) (b := 0) (c := z4 - 1000) (e := z5 - 9999) z70 z71
      walk_at "rd"
      exact ⟨sd03.trans (sd4.trans (sd5.trans (sd6.trans sd7))), hD7, by omega, by omega⟩
    rintro σ1 H7 ⟨low, rfl, sd07, hD7, lo0, lo1⟩
    -- gaps, left
    walk_at "rd"
    refine ⟨by show 1 ≤ sizeLine; decide, fun p3 hp3 => ?_⟩
    have n3 := hD7.new hp3
    have sd8 : SameD d H7 (upd H7 p3 (.lst [.int 1])) := .of (same_upd hp3)
    have hD8 := hD7.upd (o := .lst [.int 1]) n3.1 n3.2
    walk_at "rd"
    refine ⟨p3, _, [.int 1], rfl, rfl, upd_same, by omega, by omega, ?_, ?_⟩
    · have : (8 : Nat) < sizeLine := by decide
      show 1 * ((m : Int) - 1).toNat ≤ sizeLine
      omega
    rw [rep_flat]
    intro pg hpg
    have ng := hD8.new hpg
    have sd9 := sd8.trans (.of (same_upd (o := .lst ((List.replicate ((m : Int) - 1).toNat (1 : Int)).map V.int)) hpg))
    have hD9 := hD8.upd (o := .lst ((List.replicate ((m : Int) - 1).toNat (1 : Int)).map V.int)) ng.1 ng.2
    have e9 : (upd (upd H7 p3 (.lst [.int 1])) pg (.lst ((List.replicate ((m : Int) - 1).toNat (1 : Int)).map V.int))) pg = some (.lst ((List.replicate ((m : Int) - 1).toNat (1 : Int)).map V.int)) := upd_same
    have hg0 : H pg = none := SameD.free (sd07.trans sd8) ng.1 hpg
    refine ⟨fun σ1 H1 => σ1 = [some (.ref d), some (.int (m : Int)), some (.int span), some (.int low), some (.ref pg), some (.int (span - ((m : Int) - 1))), none, none, none, none] ∧ SameD d H H1 ∧ DeckAt H1 d s (n + 15) ∧ H1 pg = some (.lst ((List.replicate ((m : Int) - 1).toNat (1 : Int)).map V.int)), ?_, ?_⟩
    · walk_at "rd"
      exact ⟨rfl, sd07.trans sd9, hD9, e9⟩
    rintro σ1 H9 ⟨rfl, sd09, hD9', e9'⟩
    clear e9 hD9 sd9 hpg hD8 sd8 n3 hp3 hD7 sd07 hD3 sd03
    -- the gaps are filled
    refine ⟨fun σ1 H1 => ∃ (gs : List Int) (y5 y6 y7 : Option V), σ1 = [some (.ref d), some (.int (m : Int)), some (.int span), some (.int low), some (.ref pg), y5, y6, y7, none, none] ∧ SameD d H H1 ∧ DeckAt H1 d s n ∧ H1 pg = some (.lst (gs.map V.int)) ∧ gs.length = m - 1 ∧ (∀ g ∈ gs, 1 ≤ g) ∧ gs.sum ≤ span, ?_, ?_⟩
    · walk_at "rd"
      refine ⟨by omega, by omega, ?_⟩
      refine for_range (lo := 0) (n := ((m : Int) - 1).toNat) (fun i σ H1 => ∃ (gs : List Int) (left : Int) (y6 y7 : Option V), σ = [some (.ref d), some (.int (m : Int)), some (.int span), some (.int low), some (.ref pg), some (.int left), y6, y7, none, none] ∧ SameD d H H1 ∧ DeckAt H1 d s (n + 2 * (m - 1 - i)) ∧ H1 pg = some (.lst (gs.map V.int)) ∧ gs.length = m - 1 ∧ (∀ g ∈ gs, 1 ≤ g) ∧ gs.sum + left = span ∧ 0 ≤ left)
        ⟨List.replicate ((m : Int) - 1).toNat 1, span - ((m : Int) - 1), none, none, rfl, sd09, hD9'.mono (by omega), e9', by rw [List.length_replicate]; omega, fun g hg => by rw [List.eq_of_mem_replicate hg]; omega, by rw [rep_sum]; omega, by omega⟩ ?_ ?_
      · rintro i σ H1 hi ⟨gs, left, y6, y7, rfl, sd, hDi, eg, gl, g1, gsum, l0⟩
        have gs0 := sum_ge g1
        refine ⟨fun σ1 H2 => ∃ more : Int, σ1 = [some (.ref d), some (.int (m : Int)), some (.int span), some (.int low), some (.ref pg), some (.int left), some (.int (0 + (i : Int))), some (.int more), none, none] ∧ SameD d H1 H2 ∧ DeckAt H2 d s (n + 2 * (m - 1 - i) - 2) ∧ 0 ≤ more ∧ more ≤ left, ?_, ?_⟩
        · walk_at "rd"
          refine ⟨d, s, left + 1, n + 2 * (m - 1 - i) - 1, rfl, hDi.mono (by omega), by omega, by omega, fun H2 z2 sd2 hD2 z20 z21 => ?_⟩
          walk_at "rd"
          refine ⟨by show 3 ≤ sizeLine; decide, fun p4 hp4 => ?_⟩
          have n4 := hD2.new hp4
          have sd3 : SameD d H2 (upd H2 p4 (.lst [.int left, .int z2, .int 0])) := .of (same_upd hp4)
          have hD3 := hD2.upd (o := .lst [.int left, .int z2, .int 0]) n4.1 n4.2
          have e4 : (upd H2 p4 (.lst [.int left, .int z2, .int 0])) p4 = some (.lst [.int left, .int z2, .int 0]) := upd_same
          walk_at "rd"
          refine ⟨d, s, 3, n + 2 * (m - 1 - i) - 2, rfl, hD3.mono (by omega), by decide, by decide, fun H5 z5 sd5 hD5 z50 z51 => ?_⟩
          have l5 := SqL.of (K := K) (sd5 _ _ n4.1 e4)
          walk_at "rd"
          obtain ⟨more, am, hm⟩ := at3 (a := left) (b := z2) (c := 0) (z := if (m : Int) - 2 - (0 + (i : Int)) < z5 then (m : Int) - 2 - (0 + (i : Int)) else z5) (by split <;> omega) (by split <;> omega)
          refine ⟨_, _, rfl, ?_⟩
          walk_at "rd"
          exact ⟨sd2.trans (sd3.trans sd5), hD5, by omega, by omega⟩
        rintro σ1 H5 ⟨more, rfl, sd15, hD5, mo0, mo1⟩
        have eg5 : H5 pg = some (.lst (gs.map V.int)) := sd15 _ _ ng.1 eg
        have lg5 := SqL.of (K := K) eg5
        have hig : i < gs.length := by omega
        have gi : (gs.map V.int)[i]? = some (.int gs[i]) := by rw [List.getElem?_map, List.getElem?_eq_getElem hig]; rfl
        have ati : atI (gs.map V.int) (0 + (i : Int)) = some (.int gs[i]) := at_of (j := i) (by omega) gi
        have gv := g1 _ (List.getElem_mem hig)
        have gss := sum_set (l := gs) (j := i) (z := gs[i]) (y := gs[i] + more) (List.getElem?_eq_getElem hig)
        generalize gs[i] = g at ati gi gv gss
        walk_at "rd"
        refine set_stepN (j := i) eg5 ?_ (fun H6 e6 sd6 => ?_)
        · unfold ixN
          rw [List.length_map, if_pos (by omega), if_pos (by omega)]
          congr 1; omega
        walk_at "rd"
        have e6' : H6 pg = some (.lst ((gs.set i (g + more)).map V.int)) := by
          rw [sd6]
          show upd H5 pg _ pg = _
          rw [upd_same, List.map_set]
        refine ⟨gs.set i (g + more), left - more, _, _, rfl, ?_, ?_, e6', by rw [List.length_set]; exact gl, ?_, by omega, by omega⟩
        · rw [sd6]
          exact SameD.upd_new (sd.trans sd15) hg0
        · rw [sd6]
          exact (hD5.upd ng.1 ng.2).mono (by omega)
        · intro x hx
          rcases List.mem_or_eq_of_mem_set hx with hx | rfl
          · exact g1 x hx
          · omega
      · rintro σ H1 ⟨gs, left, y6, y7, rfl, sd, hDi, eg, gl, g1, gsum, l0⟩
        exact ⟨gs, _, _, _, rfl, sd, hDi.mono (by omega), eg, gl, g1, by omega⟩
    rintro σ1 Ha ⟨gs, y5, y6, y7, rfl, sda, hDa, ega, gl, g1, gsum⟩
    clear e9' hD9' sd09
    -- found
    refine ⟨fun σ1 H1 => ∃ pf, σ1 = [some (.ref d), some (.int (m : Int)), some (.int span), some (.int low), some (.ref pg), y5, y6, y7, some (.ref pf), none] ∧ SameD d H H1 ∧ DeckAt H1 d s n ∧ H1 pg = some (.lst (gs.map V.int)) ∧ H1 pf = some (.lst [.int low]) ∧ pf ≠ d ∧ pf ≠ s ∧ pf ≠ pg ∧ H pf = none, ?_, ?_⟩
    · walk_at "rd"
      refine ⟨by show 1 ≤ sizeLine; decide, fun pf hpf => ?_⟩
      have nf := hDa.new hpf
      have nfg : pf ≠ pg := (ne_of_none ega hpf).symm
      have hf0 : H pf = none := SameD.free sda nf.1 hpf
      exact ⟨pf, rfl, sda.upd_new hf0, hDa.upd nf.1 nf.2, by rw [upd_ne nfg.symm]; exact ega, upd_same, nf.1, nf.2, nfg, hf0⟩
    rintro σ1 Hb ⟨pf, rfl, sdb, hDb, egb, efb, nf1, nf2, nfg, hf0⟩
    have nf : pf ≠ d ∧ pf ≠ s := ⟨nf1, nf2⟩
    refine ⟨_, rfl, pg, rfl, ⟨_, SqL.of egb⟩, for_list (K := K) (a := pg) (xs := gs.map V.int) (fun i σ H1 => ∃ (ns : List Int) (last : Int) (y9 : Option V), σ = [some (.ref d), some (.int (m : Int)), some (.int span), some (.int low), some (.ref pg), y5, y6, y7, some (.ref pf), y9] ∧ SameD d H H1 ∧ DeckAt H1 d s n ∧ H1 pg = some (.lst (gs.map V.int)) ∧ H1 pf = some (.lst ((ns ++ [last]).map V.int)) ∧ ns.length = i ∧ (ns ++ [last]).Pairwise (· < ·) ∧ (∀ x ∈ ns ++ [last], low ≤ x ∧ x ≤ last) ∧ last = low + (gs.take i).sum)
      ⟨[], low, none, rfl, sdb, hDb, egb, efb, rfl, by simp, by simp, by simp⟩ (fun i σ H1 _ ⟨_, _, _, _, _, _, h, _⟩ => SqL.of h) ?_ ?_⟩
    · rintro i x σ H1 hx ⟨ns, last, y9, rfl, sd, hDi, eg, ef, nl, pw, bd, el⟩
      have hig : i < gs.length := by
        have := (List.getElem?_eq_some_iff.mp hx).1
        rw [List.length_map] at this
        exact this
      have ggi : gs[i]? = some gs[i] := List.getElem?_eq_getElem hig
      have exi : x = .int gs[i] := by
        rw [List.getElem?_map, ggi] at hx
        exact (Option.some.inj hx).symm
      subst exi
      have gv := g1 _ (List.getElem_mem hig)
      have st := sum_take ggi
      generalize gs[i] = g at gv st hx ggi
      have lf := SqL.of (K := K) ef
      have atl : atI ((ns ++ [last]).map V.int) (-1) = some (.int last) := by
        rw [List.map_append]
        exact atI_last _ _
      refine ⟨_, rfl, .inl ⟨rfl, _, lf⟩, ?_⟩
      walk_at "rd"
      refine ⟨pf, _, .int (last + g), rfl, rfl, ef, small7 (by rw [List.length_map, List.length_append, List.length_singleton]; omega), ?_⟩
      refine ⟨ns ++ [last], last + g, _, rfl, sd.upd_new hf0, hDi.upd nf.1 nf.2, by rw [upd_ne nfg.symm]; exact eg, by rw [upd_same, List.map_append (l₁ := ns ++ [last])]; rfl, by rw [List.length_append, List.length_singleton]; omega, ?_, ?_, by omega⟩
      · rw [List.pairwise_append]
        refine ⟨pw, by simp, fun a ha b hb => ?_⟩
        rw [List.mem_singleton.mp hb]
        have := (bd a ha).2
        omega
      · intro a ha
        rcases List.mem_append.mp ha with ha | ha
        · have := bd a ha
          omega
        · rw [List.mem_singleton.mp ha]
          have := (bd last (by simp)).1
          omega
    · rintro σ H1 ⟨ns, last, y9, rfl, sd, hDi, eg, ef, nl, pw, bd, el⟩
      rw [List.length_map] at nl el
      rw [List.take_length] at el
      walk_at "rd"
      refine q H1 pf (ns ++ [last]) sd hDi hf0 ef nf.1 nf.2 (by rw [List.length_append, List.length_singleton]; omega) pw (fun x hx => ?_)
      have := bd x hx
      omega
end
end BW
namespace BW
open PySem PySem.Spec PyProof.Rows L2
open BM (Hb Kn Mp)
local macro_rules | `(tactic| walk_at "rd") => `(tactic| repeat (first
  | (refine ⟨_, _, _, _, rfl, rfl, by first | (show SqT _ _ _ _; assumption) | (show SqL _ _ _ _; assumption) | (show SqA _ _ _ _; assumption), by first | rfl | assumption, ?_⟩)
  | (refine ⟨_, rfl, ?_⟩)
  | (refine ⟨_, _, rfl, rfl, (by assumption : CMulW _ _), ?_⟩)
  | (refine ⟨_, _, rfl, rfl, ?_⟩)))
abbrev s__law_map : Stmt := topS 36
theorem sc__law_map : FnScope ["deck", "most", "many", "spots", "below", "knots", "tos", "k", "way", "to"] ["deck", "most"] (defScope s__law_map) := ⟨rfl, rfl, rfl, by decide +kernel, rfl, by decide +kernel, by decide +kernel⟩
/-- the state of the map's making: so many draws left; the places, the knots made so far, the last value -/
structure LmS (K : PySem.W.Frag) (H H1 : Hp) (d s psp pk pt : Addr) (ns : List Int) (b : Int) (n : Nat) (prs : List (Int × Int)) (tl : Int) : Prop where
  sd : SameD d H H1
  dk : DeckAt H1 d s n
  sp : H1 psp = some (.lst (ns.map V.int))
  kn : ∃ fk, H1 pk = some (.lst fk) ∧ Kts K H1 fk (prs.map (BM.kOf b))
  ts : ∃ ts : List Int, H1 pt = some (.lst ((ts ++ [tl]).map V.int)) ∧ ts.length = prs.length
theorem LmS.mono {K : PySem.W.Frag} {H H1 : Hp} {d s psp pk pt : Addr} {ns : List Int} {b : Int} {n m : Nat} {prs : List (Int × Int)} {tl : Int} (h : LmS K H H1 d s psp pk pt ns b n prs tl) (le : m ≤ n) : LmS K H H1 d s psp pk pt ns b m prs tl :=
  ⟨h.sd, h.dk.mono le, h.sp, h.kn, h.ts⟩
theorem LmS.step {K : PySem.W.Frag} {H H1 H2 : Hp} {d s psp pk pt : Addr} {ns : List Int} {b : Int} {n m : Nat} {prs : List (Int × Int)} {tl : Int} (h : LmS K H H1 d s psp pk pt ns b n prs tl) (n1 : psp ≠ d) (n2 : pk ≠ d) (n3 : pt ≠ d) (e : SameD d H1 H2) (dk : DeckAt H2 d s m) : LmS K H H2 d s psp pk pt ns b m prs tl := by
  obtain ⟨fk, k1, k2⟩ := h.kn
  obtain ⟨ts, t1, t2⟩ := h.ts
  obtain ⟨xs, hx⟩ := h.dk.lst
  exact ⟨h.sd.trans e, dk, e _ _ n1 h.sp, ⟨fk, e _ _ n2 k1, k2.keep (e.keep hx)⟩, ts, e _ _ n3 t1, t2⟩
def spLawMap (K : PySem.W.Frag) : Sp := fun vs H Q _ => ∃ (d s : Addr) (m n : Nat), vs = [.ref d, .int (m : Int)] ∧ DeckAt H d s (n + 100) ∧ 3 ≤ m ∧ m ≤ 8 ∧
  ∀ H' v (M : Mp) (lo hi : Rat), SameD d H H' → DeckAt H' d s n → MpT K H' v M → BM.Good lo hi M → M.length ≤ 8 → MB 14 M → Q v H'
theorem at2 {a b : Int} {z : Int} (h0 : 0 ≤ z) (h1 : z < 2) : ∃ y, atI [V.int a, V.int b] z = some (.int y) ∧ (y = a ∨ y = b) := by
  have : z = 0 ∨ z = 1 := by omega
  rcases this with rfl | rfl
  · exact ⟨a, rfl, .inl rfl⟩
  · exact ⟨b, rfl, .inr rfl⟩
theorem pw_bounds {ns : List Int} {n0 nz : Int} (pw : ns.Pairwise (· < ·)) (hd : ns.head? = some n0) (ls : ns.getLast? = some nz) : ∀ x ∈ ns, n0 ≤ x ∧ x ≤ nz := by
  intro x hx
  constructor
  · cases ns with
    | nil => cases hx
    | cons a r =>
      have e : a = n0 := Option.some.inj hd
      subst e
      rcases List.mem_cons.mp hx with rfl | hx
      · exact Int.le_refl _
      · cases pw with
        | cons h1 h2 => exact Int.le_of_lt (h1 x hx)
  · obtain ⟨ys, rfl⟩ := List.getLast?_eq_some_iff.mp ls
    rcases List.mem_append.mp hx with hx | hx
    · exact Int.le_of_lt ((List.pairwise_append.mp pw).2.2 x hx nz (by simp))
    · rw [List.mem_singleton.mp hx]; exact Int.le_refl _
section
variable {P : Program} {w : World} {K : PySem.W.Frag} {mg : Str → Option Value} {base : Heap}
theorem ok_law_map (T : Tx mg) (D : DefAt K mg "_law_map" s__law_map ["deck", "most"]) (c_law_next : Cal P w K mg base 2 "_law_next" (spNext K)) (c_law_spots : Cal P w K mg base 3 "_law_spots" spSpots) (c_law_reduced : Cal P w K mg base 1 "_law_reduced" (spRed K)) : Cal P w K mg base 4 "_law_map" (spLawMap K) := by
  refine cal_of D sc__law_map (fun vs H Q E h => ?_) (fun f cdv A outer s' H vs Q E hr h => ?_)
  · obtain ⟨d, s, m, n, rfl, _⟩ := h
    rfl
  · obtain ⟨d, s, mst, n, rfl, hD, m3, m8, q⟩ := h
    refine ⟨_, (pss_cut (ps_set (i := 2) sc__law_map.nd rfl (.inl rfl) (pe_op op_add pe_int (pe_c c_law_next hr (by decide) (by rfl) (pa_cons (pv 0) (pa_cons (pe_op op_sub (pv 1) pe_int) pa_nil)))))
      (pss_cut (ps_set (i := 3) sc__law_map.nd rfl (.inl rfl) (pe_c c_law_spots hr (by decide) (by rfl) (pa_cons (pv 0) (pa_cons (pv 2) pa_nil))))
      (pss_cut (ps_set (i := 4) sc__law_map.nd rfl (.inl rfl) (pe_ix ix_list (pe_lst (pa_cons pe_int (pa_cons pe_int (pa_cons (pe_op op_add pe_int (pe_c c_law_next hr (by decide) (by rfl) (pa_cons (pv 0) (pa_cons pe_int pa_nil)))) (pa_cons (pe_op op_add pe_int (pe_c c_law_next hr (by decide) (by rfl) (pa_cons (pv 0) (pa_cons pe_int pa_nil)))) pa_nil))))) (pe_c c_law_next hr (by decide) (by rfl) (pa_cons (pv 0) (pa_cons pe_int pa_nil))) (fun _ _ => rfl)))
      (pss_cons (ps_set (i := 5) sc__law_map.nd rfl (.inl rfl) (pe_lst pa_nil))
      (pss_cut (ps_set (i := 6) sc__law_map.nd rfl (.inl rfl) (pe_lst (pa_cons (pe_op op_add (pe_ix ix_list (pv 3) pe_int (fun _ _ => rfl)) (pe_c c_law_next hr (by decide) (by rfl) (pa_cons (pv 0) (pa_cons (pe_op op_add (pe_op op_sub (pe_ix ix_list (pv 3) (pe_un un_neg pe_int) (fun _ _ => rfl)) (pe_ix ix_list (pv 3) pe_int (fun _ _ => rfl))) pe_int) pa_nil)))) pa_nil)))
      (pss_cons (ps_for PassesOwn.never rfl (pi_range1 (by rfl) T.range (pa_cons (pv 2) pa_nil)) (pg_name (i := 7) sc__law_map.nd rfl (.inl rfl))
      (pss_cut (ps_set (i := 8) sc__law_map.nd rfl (.inl rfl) (pe_c c_law_next hr (by decide) (by rfl) (pa_cons (pv 0) (pa_cons pe_int pa_nil))))
        (pss_cut (ps_set (i := 9) sc__law_map.nd rfl (.inl rfl) (pe_ix ix_list (pv 3) (pe_c c_law_next hr (by decide) (by rfl) (pa_cons (pv 0) (pa_cons (pv 2) pa_nil))) (fun _ _ => rfl)))
        (pss_cut (ps_if (pt_cmpR op_eq (pv 8) pe_int (nomark _))
        (pss_one (ps_set (i := 9) sc__law_map.nd rfl (.inl rfl) (pe_op op_add (pe_ix ix_list (pv 3) pe_int (fun _ _ => rfl)) (pe_c c_law_next hr (by decide) (by rfl) (pa_cons (pv 0) (pa_cons (pe_op op_add (pe_op op_sub (pe_ix ix_list (pv 3) (pe_un un_neg pe_int) (fun _ _ => rfl)) (pe_ix ix_list (pv 3) pe_int (fun _ _ => rfl))) pe_int) pa_nil))))))
        pss_nil)
        (pss_cut (ps_if (pt_cmpR op_eq (pv 8) pe_int (nomark _))
        (pss_one (ps_set (i := 9) sc__law_map.nd rfl (.inl rfl) (pe_ix ix_list (pe_lst (pa_cons (pe_ix ix_list (pv 3) pe_int (fun _ _ => rfl)) (pa_cons (pe_ix ix_list (pv 3) (pe_un un_neg pe_int) (fun _ _ => rfl)) pa_nil))) (pe_c c_law_next hr (by decide) (by rfl) (pa_cons (pv 0) (pa_cons pe_int pa_nil))) (fun _ _ => rfl))))
        pss_nil)
        (pss_cut (ps_if (pt_cmpR op_eq (pv 8) pe_int (nomark _))
        (pss_one (ps_set (i := 9) sc__law_map.nd rfl (.inl rfl) (pe_ix ix_list (pv 6) (pe_un un_neg pe_int) (fun _ _ => rfl))))
        pss_nil)
        (pss_cut (ps_if (PW.pt (pw_and (pt_cmpR op_gt (pv 8) pe_int (nomark _)) (pw_and1 (pt_cmpR op_gt (pv 7) pe_int (nomark _)))))
        (pss_one (ps_set (i := 9) sc__law_map.nd rfl (.inl rfl) (pe_op op_add (pe_ix ix_list (pv 6) (pe_un un_neg pe_int) (fun _ _ => rfl)) (pe_op op_mulW (pe_op op_sub (pe_ix ix_list (pv 3) (pv 7) (fun _ _ => rfl)) (pe_ix ix_list (pv 3) (pe_op op_sub (pv 7) pe_int) (fun _ _ => rfl))) (pe_ix ix_list (pe_lst (pa_cons pe_int (pa_cons (pe_un un_neg pe_int) pa_nil))) (pe_op op_modN (pv 8) pe_int) (fun _ _ => rfl))))))
        pss_nil)
        (pss_cut (ps_if (pt_not (pt_chain op_le op_le (pe_ix ix_list (pv 3) pe_int (fun _ _ => rfl)) (pv 9) (pe_ix ix_list (pv 3) (pe_un un_neg pe_int) (fun _ _ => rfl))))
        (pss_one (ps_set (i := 9) sc__law_map.nd rfl (.inl rfl) (pe_ix ix_list (pv 6) (pe_un un_neg pe_int) (fun _ _ => rfl))))
        pss_nil)
        (pss_cons (ps_expr (pe_bm PySem.F.plainAttrs_list PySem.F.slot_list_append PySem.F.type_list_append mt_append (pv 6) (pa_cons (pv 9) pa_nil)))
        (pss_one (ps_expr (pe_bm PySem.F.plainAttrs_list PySem.F.slot_list_append PySem.F.type_list_append mt_append (pv 5) (pa_cons (pe_tup (pa_cons (pe_c c_law_reduced hr (by decide) (by rfl) (pa_cons (pe_ix ix_list (pv 3) (pv 7) (fun _ _ => rfl)) (pa_cons (pv 4) pa_nil))) (pa_cons (pe_c c_law_reduced hr (by decide) (by rfl) (pa_cons (pv 9) (pa_cons (pv 4) pa_nil))) pa_nil))) pa_nil)))))))))))))
      (pss_one (ps_ret (pe_callTy call_tuple_of (by rfl) T.tuple (by decide +kernel) (pa_cons (pv 5) pa_nil)))))))))), ?_⟩
    -- many
    refine ⟨fun σ1 H1 => ∃ m : Nat, σ1 = [some (.ref d), some (.int (mst : Int)), some (.int (m : Int)), none, none, none, none, none, none, none] ∧ SameD d H H1 ∧ DeckAt H1 d s (n + 99) ∧ 2 ≤ m ∧ m ≤ 8, ?_, ?_⟩
    · walk_at "rd"
      refine ⟨d, s, _, n + 99, rfl, hD, by omega, by omega, fun H1 z sd1 hD1 z0 z1 => ?_⟩
      walk_at "rd"
      exact ⟨(2 + z).toNat, by rw [show (((2 + z).toNat : Nat) : Int) = 2 + z by omega]; rfl, sd1, hD1, by omega, by omega⟩
    rintro σ1 H1 ⟨m, rfl, sd1, hD1, m2, mm8⟩
    -- spots
    refine ⟨fun σ1 H2 => ∃ (psp : Addr) (ns : List Int), σ1 = [some (.ref d), some (.int (mst : Int)), some (.int (m : Int)), some (.ref psp), none, none, none, none, none, none] ∧ SameD d H H2 ∧ DeckAt H2 d s (n + 79) ∧ H2 psp = some (.lst (ns.map V.int)) ∧ psp ≠ d ∧ psp ≠ s ∧ H psp = none ∧ ns.length = m ∧ ns.Pairwise (· < ·) ∧ (∀ x ∈ ns, -9999 ≤ x ∧ x ≤ 9999), ?_, ?_⟩
    · walk_at "rd"
      refine ⟨d, s, m, n + 79, rfl, hD1, m2, mm8, fun H2 psp ns sd2 hD2 e0 e2 n1 n2 nl pw bd => ?_⟩
      exact ⟨psp, ns, rfl, sd1.trans sd2, hD2, e2, n1, n2, sd1.free n1 e0, nl, pw, bd⟩
    rintro σ1 H2 ⟨psp, ns, rfl, sd2, hD2, esp, nsp1, nsp2, hsp0, nl, pw, bd⟩
    clear sd1 hD1
    obtain ⟨n0, hn0⟩ : ∃ n0, ns.head? = some n0 := by
      cases ns with
      | nil => simp at nl; omega
      | cons a r => exact ⟨a, rfl⟩
    obtain ⟨nz, hnz⟩ : ∃ nz, ns.getLast? = some nz := ⟨_, List.getLast?_eq_some_getLast (by intro z; rw [z] at nl; simp at nl; omega)⟩
    have nb := pw_bounds pw hn0 hnz
    have at0 : atI (ns.map V.int) 0 = some (.int n0) := atI_nat (j := 0) (by rw [List.getElem?_map, ← List.head?_eq_getElem?, hn0]; rfl)
    have atz : atI (ns.map V.int) (-1) = some (.int nz) := atI_neg1 (by rw [List.getLast?_map, hnz]; rfl)
    have b0 := bd n0 (List.mem_of_head? hn0)
    have bz := bd nz (List.mem_of_getLast? hnz)
    have n0z := (nb n0 (List.mem_of_head? hn0)).2
    -- below
    refine ⟨fun σ1 H3 => ∃ b : Int, σ1 = [some (.ref d), some (.int (mst : Int)), some (.int (m : Int)), some (.ref psp), some (.int b), none, none, none, none, none] ∧ SameD d H H3 ∧ DeckAt H3 d s (n + 76) ∧ H3 psp = some (.lst (ns.map V.int)) ∧ 1 ≤ b ∧ b ≤ 9999, ?_, ?_⟩
    · walk_at "rd"
      refine ⟨d, s, 12, n + 78, rfl, hD2, by decide, by decide, fun H3 z3 sd3 hD3 z30 z31 => ?_⟩
      walk_at "rd"
      refine ⟨d, s, 9999, n + 77, rfl, hD3, by decide, by decide, fun H4 z4 sd4 hD4 z40 z41 => ?_⟩
      walk_at "rd"
      refine ⟨by show 4 ≤ sizeLine; decide, fun p2 hp2 => ?_⟩
      have np := hD4.new hp2
      have sd6 : SameD d H4 (upd H4 p2 (.lst [.int 1, .int 1, .int (1 + z3), .int (1 + z4)])) := .of (same_upd hp2)
      have hD6 := hD4.upd (o := .lst [.int 1, .int 1, .int (1 + z3), .int (1 + z4)]) np.1 np.2
      have e2 : (upd H4 p2 (.lst [.int 1, .int 1, .int (1 + z3), .int (1 + z4)])) p2 = some (.lst [.int 1, .int 1, .int (1 + z3), .int (1 + z4)]) := upd_same
      walk_at "rd"
      refine ⟨d, s, 4, n + 76, rfl, hD6, by decide, by decide, fun H7 z7 sd7 hD7 z70 z71 => ?_⟩
      have l7 := SqL.of (K := K) (sd7 _ _ np.1 e2)
      obtain ⟨b, ab, hb⟩ := at4 (a := 1) (b := 1) (c := 1 + z3) (e := 1 + z4) z70 z71
      walk_at "rd"
      have sd27 := sd3.trans (sd4.trans (sd6.trans sd7))
      exact ⟨sd2.trans sd27, hD7, sd27 _ _ nsp1 esp, by omega, by omega⟩
    rintro σ1 H3 ⟨b, rfl, sd3, hD3, esp3, b1, b2⟩
    clear sd2 hD2 esp
    have lsp3 := SqL.of (K := K) esp3
    -- knots, tos
    refine ⟨Nat.zero_le _, fun pk hpk => ?_⟩
    have nk := hD3.new hpk
    have nksp : pk ≠ psp := (ne_of_none esp3 hpk).symm
    have hk0 : H pk = none := sd3.free nk.1 hpk
    refine ⟨fun σ1 H4 => ∃ (pt : Addr) (t0 : Int), σ1 = [some (.ref d), some (.int (mst : Int)), some (.int (m : Int)), some (.ref psp), some (.int b), some (.ref pk), some (.ref pt), none, none, none] ∧ LmS K H H4 d s psp pk pt ns b (n + 75) [] t0 ∧ pt ≠ d ∧ pt ≠ s ∧ pt ≠ psp ∧ pt ≠ pk ∧ H pt = none ∧ n0 ≤ t0 ∧ t0 ≤ nz, ?_, ?_⟩
    · have sd4 : SameD d H3 (upd H3 pk (.lst [])) := .of (same_upd hpk)
      have hD4 := hD3.upd (o := .lst []) nk.1 nk.2
      have esp4 := sd4 _ _ nsp1 esp3
      have lsp4 := SqL.of (K := K) esp4
      have ek4 : (upd H3 pk (.lst [])) pk = some (.lst []) := upd_same
      walk_at "rd"
      refine ⟨d, s, nz - n0 + 1, n + 75, rfl, hD4, by omega, by omega, fun H5 z5 sd5 hD5 z50 z51 => ?_⟩
      walk_at "rd"
      refine ⟨by show 1 ≤ sizeLine; decide, fun pt hpt => ?_⟩
      have nt := hD5.new hpt
      have esp5 := sd5 _ _ nsp1 esp4
      have ek5 := sd5 _ _ nk.1 ek4
      have ntsp : pt ≠ psp := (ne_of_none esp5 hpt).symm
      have ntk : pt ≠ pk := (ne_of_none ek5 hpt).symm
      have ht0 : H pt = none := (sd3.trans (sd4.trans sd5)).free nt.1 hpt
      have sd6 : SameD d H5 (upd H5 pt (.lst [.int (n0 + z5)])) := .of (same_upd hpt)
      exact ⟨pt, n0 + z5, rfl, ⟨sd3.trans (sd4.trans (sd5.trans sd6)), hD5.upd nt.1 nt.2, sd6 _ _ nsp1 esp5, ⟨[], sd6 _ _ nk.1 ek5, .nil⟩, [], upd_same, rfl⟩, nt.1, nt.2, ntsp, ntk, ht0, by omega, by omega⟩
    rintro σ1 H4 ⟨pt, t0, rfl, L0, nt1, nt2, ntsp, ntk, ht0, t00, t01⟩
    clear sd3 hD3 esp3 lsp3 hpk
    refine ⟨_, rfl, _, rfl, by omega, by omega, ?_⟩
    refine for_range (lo := 0) (n := (m : Int).toNat) (fun i σ H1 => ∃ (prs : List (Int × Int)) (tl : Int) (y7 y8 y9 : Option V), σ = [some (.ref d), some (.int (mst : Int)), some (.int (m : Int)), some (.ref psp), some (.int b), some (.ref pk), some (.ref pt), y7, y8, y9] ∧ LmS K H H1 d s psp pk pt ns b (n + 4 * (m - i)) prs tl ∧ prs.map (·.1) = ns.take i ∧ (∀ p ∈ prs, n0 ≤ p.2 ∧ p.2 ≤ nz) ∧ n0 ≤ tl ∧ tl ≤ nz)
      ⟨[], t0, none, none, none, rfl, L0.mono (by omega), rfl, by simp, t00, t01⟩ ?_ ?_
    · rintro i σ H5 hi ⟨prs, tl, y7, y8, y9, rfl, L, pr1, pr2, tl0, tl1⟩
      have him : i < m := by omega
      have pl : prs.length = i := by
        have := congrArg List.length pr1
        rw [List.length_map, List.length_take] at this
        omega
      have hin : i < ns.length := by omega
      have gi : ns[i]? = some ns[i] := List.getElem?_eq_getElem hin
      have ati : atI (ns.map V.int) (0 + (i : Int)) = some (.int ns[i]) := at_of (j := i) (by omega) (by rw [List.getElem?_map, gi]; rfl)
      have bi := bd _ (List.getElem_mem hin)
      have tki : ns.take (i + 1) = ns.take i ++ [ns[i]] := by rw [List.take_add_one, gi]; rfl
      generalize ns[i] = x at gi ati bi tki
      -- way
      refine ⟨fun σ1 H6 => ∃ way : Int, σ1 = [some (.ref d), some (.int (mst : Int)), some (.int (m : Int)), some (.ref psp), some (.int b), some (.ref pk), some (.ref pt), some (.int (0 + (i : Int))), some (.int way), y9] ∧ LmS K H H6 d s psp pk pt ns b (n + 4 * (m - i) - 1) prs tl, ?_, ?_⟩
      · walk_at "rd"
        refine ⟨d, s, 8, n + 4 * (m - i) - 1, rfl, L.dk.mono (by omega), by decide, by decide, fun H6 z sd6 hD6 z0 z1 => ?_⟩
        exact ⟨z, rfl, L.step nsp1 nk.1 nt1 sd6 hD6⟩
      rintro σ1 H6 ⟨way, rfl, L1⟩
      clear L
      -- to
      refine ⟨fun σ1 H6 => ∃ to : Int, σ1 = [some (.ref d), some (.int (mst : Int)), some (.int (m : Int)), some (.ref psp), some (.int b), some (.ref pk), some (.ref pt), some (.int (0 + (i : Int))), some (.int way), some (.int to)] ∧ LmS K H H6 d s psp pk pt ns b (n + 4 * (m - i) - 2) prs tl ∧ n0 ≤ to ∧ to ≤ nz, ?_, ?_⟩
      · walk_at "rd"
        refine ⟨d, s, m, n + 4 * (m - i) - 2, rfl, L1.dk.mono (by omega), by omega, by omega, fun H7 z sd7 hD7 z0 z1 => ?_⟩
        have L2 := L1.step nsp1 nk.1 nt1 sd7 hD7
        have lsp := SqL.of (K := K) L2.sp
        have zl : z.toNat < ns.length := by omega
        have atzz : atI (ns.map V.int) z = some (.int ns[z.toNat]) := at_of (j := z.toNat) (by omega) (by rw [List.getElem?_map, List.getElem?_eq_getElem zl]; rfl)
        have bb := nb _ (List.getElem_mem zl)
        generalize ns[z.toNat] = to at atzz bb
        walk_at "rd"
        exact ⟨L2, bb.1, bb.2⟩
      rintro σ1 H6' ⟨to1, rfl, L2, to10, to11⟩
      clear L1
      -- if way == 0
      refine ⟨fun σ1 H6 => ∃ to : Int, σ1 = [some (.ref d), some (.int (mst : Int)), some (.int (m : Int)), some (.ref psp), some (.int b), some (.ref pk), some (.ref pt), some (.int (0 + (i : Int))), some (.int way), some (.int to)] ∧ LmS K H H6 d s psp pk pt ns b (n + 4 * (m - i) - 3) prs tl ∧ n0 ≤ to ∧ to ≤ nz, ?_, ?_⟩
      · walk_at "rd"
        refine ⟨rfl, ?_⟩
        walk_at "rd"
        refine ite2 (fun _ => ?_) (fun _ => ?_)
        · have lsp := SqL.of (K := K) L2.sp
          walk_at "rd"
          refine ⟨d, s, nz - n0 + 1, n + 4 * (m - i) - 3, rfl, L2.dk.mono (by omega), by omega, by omega, fun H7 z sd7 hD7 z0 z1 => ?_⟩
          walk_at "rd"
          exact ⟨L2.step nsp1 nk.1 nt1 sd7 hD7, by omega, by omega⟩
        · exact ⟨to1, rfl, L2.mono (by omega), to10, to11⟩
      rintro σ1 H7 ⟨to2, rfl, L3, to20, to21⟩
      clear L2
      -- if way == 1
      refine ⟨fun σ1 H6 => ∃ to : Int, σ1 = [some (.ref d), some (.int (mst : Int)), some (.int (m : Int)), some (.ref psp), some (.int b), some (.ref pk), some (.ref pt), some (.int (0 + (i : Int))), some (.int way), some (.int to)] ∧ LmS K H H6 d s psp pk pt ns b (n + 4 * (m - i) - 4) prs tl ∧ n0 ≤ to ∧ to ≤ nz, ?_, ?_⟩
      · walk_at "rd"
        refine ⟨rfl, ?_⟩
        walk_at "rd"
        refine ite2 (fun _ => ?_) (fun _ => ?_)
        · have lsp := SqL.of (K := K) L3.sp
          walk_at "rd"
          refine ⟨by show 2 ≤ sizeLine; decide, fun p8 hp8 => ?_⟩
          have np := L3.dk.new hp8
          have sd8 : SameD d H7 (upd H7 p8 (.lst [.int n0, .int nz])) := .of (same_upd hp8)
          have L4 := L3.step nsp1 nk.1 nt1 sd8 (L3.dk.upd np.1 np.2)
          have e8 : (upd H7 p8 (.lst [.int n0, .int nz])) p8 = some (.lst [.int n0, .int nz]) := upd_same
          walk_at "rd"
          refine ⟨d, s, 2, n + 4 * (m - i) - 4, rfl, L4.dk.mono (by omega), by decide, by decide, fun H9 z sd9 hD9 z0 z1 => ?_⟩
          have l9 := SqL.of (K := K) (sd9 _ _ np.1 e8)
          obtain ⟨y, ay, hy⟩ := at2 (a := n0) (b := nz) z0 z1
          walk_at "rd"
          exact ⟨L4.step nsp1 nk.1 nt1 sd9 hD9, by omega, by omega⟩
        · exact ⟨to2, rfl, L3.mono (by omega), to20, to21⟩
      rintro σ1 H8 ⟨to3, rfl, L4, to30, to31⟩
      clear L3
      obtain ⟨ts, ets, tsl⟩ := id L4.ts
      have atl : atI ((ts ++ [tl]).map V.int) (-1) = some (.int tl) := by
        rw [List.map_append]
        exact atI_last _ _
      have lts := SqL.of (K := K) ets
      have lsp := SqL.of (K := K) L4.sp
      -- if way == 2
      refine ⟨fun σ1 H6 => H6 = H8 ∧ ∃ to : Int, σ1 = [some (.ref d), some (.int (mst : Int)), some (.int (m : Int)), some (.ref psp), some (.int b), some (.ref pk), some (.ref pt), some (.int (0 + (i : Int))), some (.int way), some (.int to)] ∧ n0 ≤ to ∧ to ≤ nz, ?_, ?_⟩
      · walk_at "rd"
        refine ⟨rfl, ?_⟩
        walk_at "rd"
        refine ite2 (fun _ => ?_) (fun _ => ?_)
        · walk_at "rd"
          exact ⟨rfl, tl, rfl, tl0, tl1⟩
        · exact ⟨rfl, to3, rfl, to30, to31⟩
      rintro σ1 H8' ⟨rfl, to4, rfl, to40, to41⟩
      -- if way > 4 and k > 0
      refine ⟨fun σ1 H6 => ∃ to : Int, σ1 = [some (.ref d), some (.int (mst : Int)), some (.int (m : Int)), some (.ref psp), some (.int b), some (.ref pk), some (.ref pt), some (.int (0 + (i : Int))), some (.int way), some (.int to)] ∧ LmS K H H6 d s psp pk pt ns b (n + 4 * (m - i) - 4) prs tl, ?_, ?_⟩
      · walk_at "rd"
        refine ite2 (fun _ => ?_) (fun _ => ?_)
        · walk_at "rd"
          refine ite2 (fun c => ?_) (fun _ => ?_)
          · have c' : (0 : Int) < 0 + (i : Int) := of_decide_eq_true c
            have hi1 : i - 1 < ns.length := by omega
            have ati1 : atI (ns.map V.int) (0 + (i : Int) - 1) = some (.int ns[i - 1]) := at_of (j := i - 1) (by omega) (by rw [List.getElem?_map, List.getElem?_eq_getElem hi1]; rfl)
            have bi1 := bd _ (List.getElem_mem hi1)
            generalize ns[i - 1] = x1 at ati1 bi1
            walk_at "rd"
            refine ⟨by show 2 ≤ sizeLine; decide, fun p9 hp9 => ?_⟩
            have np := L4.dk.new hp9
            have sd9 : SameD d H8' (upd H8' p9 (.lst [.int 1, .int (-1)])) := .of (same_upd hp9)
            have L5 := L4.step nsp1 nk.1 nt1 sd9 (L4.dk.upd np.1 np.2)
            have l9 : SqL K (upd H8' p9 (.lst [.int 1, .int (-1)])) p9 [.int 1, .int (-1)] := SqL.of upd_same
            walk_at "rd"
            have fm := fmod_in (a := way) (m := 2) (by decide)
            obtain ⟨y, ay, hy⟩ := at2 (a := 1) (b := -1) fm.1 fm.2
            refine ⟨(by decide : (2 : Int) ≠ 0), ?_⟩
            have xb : (x - x1).natAbs < 2 ^ 15 := by show _ < 32768; omega
            have yb : y.natAbs < 2 ^ 1 := by show _ < 2; omega
            have cm : CMulW (x - x1) y := wmi xb yb (by decide) (by decide) (by decide)
            walk_at "rd"
            exact L5
          · exact ⟨to4, rfl, L4⟩
        · exact ⟨to4, rfl, L4⟩
      rintro σ1 H9 ⟨to5, rfl, L5⟩
      clear L4 lsp lts ets tsl atl
      obtain ⟨ts, ets, tsl⟩ := id L5.ts
      have atl : atI ((ts ++ [tl]).map V.int) (-1) = some (.int tl) := by
        rw [List.map_append]
        exact atI_last _ _
      have lts := SqL.of (K := K) ets
      have lsp := SqL.of (K := K) L5.sp
      -- if not spots[0] <= to <= spots[-1]
      refine ⟨fun σ1 H6 => H6 = H9 ∧ ∃ to : Int, σ1 = [some (.ref d), some (.int (mst : Int)), some (.int (m : Int)), some (.ref psp), some (.int b), some (.ref pk), some (.ref pt), some (.int (0 + (i : Int))), some (.int way), some (.int to)] ∧ n0 ≤ to ∧ to ≤ nz, ?_, ?_⟩
      · walk_at "rd"
        refine ite2 (fun c1 => ?_) (fun c1 => ?_)
        · walk_at "rd"
          refine ite2 (fun c2 => ?_) (fun c2 => ?_)
          · walk_at "rd"
            exact ⟨rfl, tl, rfl, tl0, tl1⟩
          · have c1' := of_decide_eq_true c1
            have c2' : to5 ≤ nz := by
              by_cases z : to5 ≤ nz
              · exact z
              · exfalso; apply c2; rw [decide_eq_false z]; rfl
            exact ⟨rfl, to5, rfl, c1', c2'⟩
        · walk_at "rd"
          exact ⟨rfl, tl, rfl, tl0, tl1⟩
      rintro σ1 H9' ⟨rfl, to6, rfl, to60, to61⟩
      -- tos.append(to)
      obtain ⟨fk, ek, kk⟩ := id L5.kn
      have fkl := kk.length
      rw [List.length_map] at fkl
      refine ⟨_, rfl, .inl ⟨rfl, _, lts⟩, ?_⟩
      walk_at "rd"
      refine ⟨pt, _, .int to6, rfl, rfl, ets, small7 (by rw [List.length_map, List.length_append, List.length_singleton]; omega), ?_⟩
      have kA := Keep.lst (o := .lst ((ts ++ [tl]).map V.int ++ [.int to6])) ets
      have sdA : SameD d H (upd H9' pt (.lst ((ts ++ [tl]).map V.int ++ [.int to6]))) := L5.sd.upd_new ht0
      have dkA : DeckAt (upd H9' pt (.lst ((ts ++ [tl]).map V.int ++ [.int to6]))) d s (n + 4 * (m - i) - 4) := L5.dk.upd nt1 nt2
      have spA : (upd H9' pt (.lst ((ts ++ [tl]).map V.int ++ [.int to6]))) psp = some (.lst (ns.map V.int)) := by rw [upd_ne ntsp.symm]; exact L5.sp
      have ekA : (upd H9' pt (.lst ((ts ++ [tl]).map V.int ++ [.int to6]))) pk = some (.lst fk) := by rw [upd_ne ntk.symm]; exact ek
      have etA : (upd H9' pt (.lst ((ts ++ [tl]).map V.int ++ [.int to6]))) pt = some (.lst ((ts ++ [tl] ++ [to6]).map V.int)) := by rw [upd_same, List.map_append (l₁ := ts ++ [tl])]; rfl
      have kkA := kk.keep kA
      generalize upd H9' pt (.lst ((ts ++ [tl]).map V.int ++ [.int to6])) = HA at *
      have lspA := SqL.of (K := K) spA
      -- knots.append(..)
      walk_at "rd"
      refine ⟨.inl ⟨rfl, _, SqL.of ekA⟩, ?_⟩
      walk_at "rd"
      have b9 : b.natAbs < 2 ^ 9000 := lt9000 (n := 14) (by show _ < 16384; omega) (by decide)
      refine ⟨x, b, rfl, by omega, b9, fun HB v1 sB f1 => ?_⟩
      walk_at "rd"
      refine ⟨to6, b, rfl, by omega, b9, fun HC v2 sC f2 => ?_⟩
      refine ⟨by show 2 ≤ sizeLine; decide, fun p hp => ?_⟩
      have sP := same_upd (o := .tup [v1, v2]) hp
      have sAP := sB.trans (sC.trans sP)
      have kt : Kt K (upd HC p (.tup [v1, v2])) (.ref p) (BM.kOf b (x, to6)) := ⟨p, v1, v2, rfl, .inl (.inl upd_same), (f1.keep (Keep.of sC)).keep (Keep.of sP), f2.keep (Keep.of sP)⟩
      have ekP := sAP _ _ ekA
      have etP := sAP _ _ etA
      have spP := sAP _ _ spA
      have dkP := dkA.same sAP
      have kkP := kkA.keep (Keep.of sAP)
      have sdP := sdA.trans (SameD.of sAP)
      generalize upd HC p (.tup [v1, v2]) = HP at *
      refine ⟨pk, fk, .ref p, rfl, rfl, ekP, small7 (by omega), ?_⟩
      have kl := Keep.lst (o := .lst (fk ++ [.ref p])) ekP
      refine ⟨prs ++ [(x, to6)], to6, _, _, _, rfl, ⟨sdP.upd_new hk0, (dkP.upd nk.1 nk.2).mono (by omega), by rw [upd_ne nksp.symm]; exact spP, ⟨fk ++ [.ref p], upd_same, ?_⟩, ts ++ [tl], by rw [upd_ne ntk]; exact etP, by rw [List.length_append, List.length_append, List.length_singleton, List.length_singleton]; omega⟩, ?_, ?_, to60, to61⟩
      · rw [List.map_append]
        exact Kts.append (kkP.keep kl) (.cons (kt.keep kl) .nil)
      · rw [List.map_append, pr1, tki]; rfl
      · intro pr hpr
        rcases List.mem_append.mp hpr with hpr | hpr
        · exact pr2 pr hpr
        · rw [List.mem_singleton.mp hpr]; exact ⟨to60, to61⟩
    · rintro σ H5 ⟨prs, tl, y7, y8, y9, rfl, L, pr1, pr2, tl0, tl1⟩
      rw [List.take_of_length_le (by omega)] at pr1
      obtain ⟨fk, ek, kk⟩ := id L.kn
      refine ⟨_, rfl, pk, fk, rfl, .inl ⟨SqL.of ek, fun p hp => ?_⟩⟩
      have sP := same_upd (o := .tup fk) hp
      have g := BM.law_good (b := b) (by omega) pr1 pw (by omega) hn0 hnz pr2
      have pl : prs.length = m := by
        have := congrArg List.length pr1
        rw [List.length_map] at this
        omega
      refine q _ _ (prs.map (BM.kOf b)) _ _ (L.sd.trans (SameD.of sP)) ((L.dk.same sP).mono (by omega)) ⟨p, fk, rfl, .inl (.inl upd_same), kk.keep (Keep.of sP)⟩ g (by rw [List.length_map]; omega) ?_
      intro k hk
      obtain ⟨pr, hpr, rfl⟩ := List.mem_map.mp hk
      have h1 := pr2 pr hpr
      have h2 := bd pr.1 (by rw [← pr1]; exact List.mem_map.mpr ⟨pr, hpr, rfl⟩)
      exact ⟨BM.law_mb h2.1 h2.2 b1 b2, BM.law_mb (by omega) (by omega) b1 b2⟩
end
end BW
namespace BW
open PySem PySem.Spec PyProof.Rows L2
open BM (Hb Kn Mp)
local macro_rules | `(tactic| walk_at "rd") => `(tactic| repeat (first
  | (refine ⟨_, _, _, _, rfl, rfl, by first | (show SqT _ _ _ _; assumption) | (show SqL _ _ _ _; assumption) | (show SqA _ _ _ _; assumption), by first | rfl | assumption, ?_⟩)
  | (refine ⟨_, rfl, ?_⟩)
  | (refine ⟨_, _, rfl, rfl, (by assumption : CMulW _ _), ?_⟩)
  | (refine ⟨_, _, rfl, rfl, ?_⟩)))
abbrev s__law_second : Stmt := topS 45
theorem sc__law_second : FnScope ["deck", "knots", "low", "high", "tos", "some", "amid", "at", "to", "k"] ["deck", "knots"] (defScope s__law_second) := ⟨rfl, rfl, rfl, by decide +kernel, rfl, by decide +kernel, by decide +kernel⟩
/-- fractions of a list -/
abbrev Frs (K : PySem.W.Frag) (H : Hp) : List V → List Rat → Prop := Paired (Fr K H)
theorem Frs.keep {K : PySem.W.Frag} {H H' : Hp} {vs : List V} {M : List Rat} (h : Frs K H vs M) (e : Keep H H') : Frs K H' vs M := Paired.mapP h fun _ _ q => q.keep e
def spSecond (K : PySem.W.Frag) : Sp := fun vs H Q _ => ∃ (d s : Addr) (v : V) (M : Mp) (lo hi : Rat) (n : Nat), vs = [.ref d, v] ∧ DeckAt H d s (n + 10) ∧ MpT K H v M ∧ BM.Good lo hi M ∧ M.length ≤ 8 ∧ MB 14 M ∧
  ∀ H' v (N : Mp), SameD d H H' → DeckAt H' d s n → MpT K H' v N → BM.Good lo hi N → N.length ≤ 8 → MB 14 N → Q v H'
theorem good_mid {lo hi : Rat} {M : Mp} (g : BM.Good lo hi M) {j : Nat} {k : Kn} (h : M[j]? = some k) (h1 : 1 ≤ j) (h2 : j + 1 < M.length) : lo < k.1 ∧ k.1 < hi := by
  have pw := g.inc.pair
  rw [List.pairwise_iff_getElem] at pw
  obtain ⟨hj, e⟩ := List.getElem?_eq_some_iff.mp h
  have p1 := pw 0 j (by omega) hj (by omega)
  have p2 := pw j (M.length - 1) hj (by omega) (by omega)
  have e0 := g.hd
  have e1 := g.lt
  rw [List.head?_eq_getElem?, List.getElem?_eq_getElem (by omega)] at e0
  rw [List.getLast?_eq_getElem?, List.getElem?_eq_getElem (by omega)] at e1
  have q0 : M[0].1 = lo := Option.some.inj e0
  have q1 : M[M.length - 1].1 = hi := Option.some.inj e1
  rw [e] at p1 p2
  rw [q0] at p1
  rw [q1] at p2
  exact ⟨p1, p2⟩
theorem good_two {lo hi r t : Rat} (l : lo < hi) (hr : lo ≤ r ∧ r ≤ hi) (ht : lo ≤ t ∧ t ≤ hi) : BM.Good lo hi [(lo, r), (hi, t)] := by
  refine ⟨⟨l, trivial⟩, Nat.le_refl 2, rfl, rfl, fun k hk => ?_⟩
  rcases List.mem_cons.mp hk with rfl | hk
  · exact hr
  · rw [List.mem_singleton.mp hk]; exact ht
theorem good_three {lo hi r t x y : Rat} (l1 : lo < x) (l2 : x < hi) (hr : lo ≤ r ∧ r ≤ hi) (hy : lo ≤ y ∧ y ≤ hi) (ht : lo ≤ t ∧ t ≤ hi) : BM.Good lo hi [(lo, r), (x, y), (hi, t)] := by
  refine ⟨⟨l1, l2, trivial⟩, by simp, rfl, rfl, fun k hk => ?_⟩
  rcases List.mem_cons.mp hk with rfl | hk
  · exact hr
  · rcases List.mem_cons.mp hk with rfl | hk
    · exact hy
    · rw [List.mem_singleton.mp hk]; exact ht
theorem rlist3 {rs : List Rat} (h : rs.length = 3) : ∃ a b c, rs = [a, b, c] := by
  match rs, h with
  | [a, b, c], _ => exact ⟨a, b, c, rfl⟩
theorem frs3 {K : PySem.W.Frag} {H : Hp} {fs : List V} {a b c : Rat} (h : Frs K H fs [a, b, c]) : ∃ v1 v2 v3, fs = [v1, v2, v3] ∧ Fr K H v1 a ∧ Fr K H v2 b ∧ Fr K H v3 c := by
  cases h with
  | cons h1 t =>
    cases t with
    | cons h2 t =>
      cases t with
      | cons h3 t =>
        cases t
        exact ⟨_, _, _, rfl, h1, h2, h3⟩
def rLenA (K : PySem.W.Frag) : List V → Hp → VK → Prop := fun xs H Q => ∃ p ys, xs = [.ref p] ∧ SqA K H p ys ∧ Q (.int ys.length) H
theorem call_len_at {X : Cx} (K : PySem.W.Frag) (h : X.K = K := by rfl) : CallR X (.builtin "len") (rLenA K) := by
  subst h
  exact call_len_seq
theorem ix_list_at {X : Cx} (K : PySem.W.Frag) (h : X.K = K := by rfl) : IxR X (rIxL K) := by
  subst h
  exact ix_list
theorem ix_tup_at {X : Cx} (K : PySem.W.Frag) (h : X.K = K := by rfl) : IxR X (rIxT K) := by
  subst h
  exact ix_tup
section
variable {P : Program} {w : World} {K : PySem.W.Frag} {mg : Str → Option Value} {base : Heap}
theorem ok_law_second (T : Tx mg) (D : DefAt K mg "_law_second" s__law_second ["deck", "knots"]) (c_law_next : Cal P w K mg base 2 "_law_next" (spNext K)) : Cal P w K mg base 3 "_law_second" (spSecond K) := by
  refine cal_of D sc__law_second (fun vs H Q E h => ?_) (fun f cdv A outer s' H vs Q E hr h => ?_)
  · obtain ⟨d, s, v, M, lo, hi, n, rfl, _⟩ := h
    rfl
  · obtain ⟨d, s, v, M, lo, hi, n, rfl, hD, tM, g, big, mb, q⟩ := h
    obtain ⟨pM, us, rfl, hM, hk⟩ := id tM
    refine ⟨_, (pss_cons (ps_set (i := 2) sc__law_second.nd rfl (.inl rfl) (pe_ix ix_tup (pe_ix ix_tup (pv 1) pe_int (fun _ _ => rfl)) pe_int (fun _ _ => rfl)))
      (pss_cons (ps_set (i := 3) sc__law_second.nd rfl (.inl rfl) (pe_ix ix_tup (pe_ix ix_tup (pv 1) (pe_un un_neg pe_int) (fun _ _ => rfl)) pe_int (fun _ _ => rfl)))
      (pss_cut (ps_set (i := 4) sc__law_second.nd rfl (.inr rfl) (pe_lc (own := [("at", 7), ("to", 8)]) (g := gTup K 2 (gCons (gName 7) (gCons (gName 8) gNil))) (tt := tYes) rfl sc__law_second.nd (pi_tup (pv 1)) (blkOk_by (N := ["deck", "knots", "low", "high", "tos", "some", "amid", "at", "to", "k"]) (sc := defScope s__law_second) (by decide +kernel)) (fun _ _ _ _ _ => (pg_tup rfl (pgs_cons (pg_name (i := 7) sc__law_second.nd rfl (.inl rfl)) (pgs_cons (pg_name (i := 8) sc__law_second.nd rfl (.inl rfl)) pgs_nil)))) (fun _ _ _ _ _ => pts_nil) (fun _ _ _ _ _ => (pv 8))))
      (pss_cut (ps_setLc (i := 5) (own := [("k", 9)]) (g := gName 9) (tt := tYes) rfl sc__law_second.nd rfl rfl (sw_true rfl rfl rfl (by decide +kernel)) (pi_range1 (by rfl) T.range (pa_cons pe_int pa_nil)) (blkOk_by (N := ["deck", "knots", "low", "high", "tos", "some", "amid", "at", "to", "k"]) (sc := defScope s__law_second) (by decide +kernel)) (fun _ _ _ _ _ => (pg_name (i := 9) sc__law_second.nd rfl (.inl rfl))) (fun _ _ _ _ _ => pts_nil) (fun _ _ _ _ _ => (pe_ix (ix_list_at K) (pv 4) (pe_c c_law_next hr (by decide) (by rfl) (pa_cons (pv 0) (pa_cons (pe_callB (call_len_at K) (by rfl) T.len PySem.boot_len (pa_cons (pv 4) pa_nil)) pa_nil))) (fun _ _ => rfl))))
      (pss_cons (ps_if (PW.pt (pw_and (pt_cmpR op_gt (pe_callB call_len_seq (by rfl) T.len PySem.boot_len (pa_cons (pv 1) pa_nil)) pe_int (nomark _)) (pw_and1 (pt_cmpR op_eq (pe_c c_law_next hr (by decide) (by rfl) (pa_cons (pv 0) (pa_cons pe_int pa_nil))) pe_int (nomark _)))))
      (pss_cons (ps_set (i := 6) sc__law_second.nd rfl (.inl rfl) (pe_ix ix_tup (pe_ix ix_tup (pv 1) (pe_op op_add pe_int (pe_c c_law_next hr (by decide) (by rfl) (pa_cons (pv 0) (pa_cons (pe_op op_sub (pe_callB call_len_seq (by rfl) T.len PySem.boot_len (pa_cons (pv 1) pa_nil)) pe_int) pa_nil)))) (fun _ _ => rfl)) pe_int (fun _ _ => rfl)))
        (pss_one (ps_ret (pe_tup (pa_cons (pe_tup (pa_cons (pv 2) (pa_cons (pe_ix ix_list (pv 5) pe_int (fun _ _ => rfl)) pa_nil))) (pa_cons (pe_tup (pa_cons (pv 6) (pa_cons (pe_ix ix_list (pv 5) pe_int (fun _ _ => rfl)) pa_nil))) (pa_cons (pe_tup (pa_cons (pv 3) (pa_cons (pe_ix ix_list (pv 5) pe_int (fun _ _ => rfl)) pa_nil))) pa_nil)))))))
      pss_nil)
      (pss_one (ps_ret (pe_tup (pa_cons (pe_tup (pa_cons (pv 2) (pa_cons (pe_ix ix_list (pv 5) pe_int (fun _ _ => rfl)) pa_nil))) (pa_cons (pe_tup (pa_cons (pv 3) (pa_cons (pe_ix ix_list (pv 5) pe_int (fun _ _ => rfl)) pa_nil))) pa_nil)))))))))), ?_⟩
    have ul := hk.length
    have two := g.two
    obtain ⟨a0, b0, r0, z0, eM, ea, ez, e2, zm⟩ := g.ends
    have m0 : M[0]? = some a0 := by rw [eM]; rfl
    have mz : M.getLast? = some z0 := by rw [eM]; exact ez
    obtain ⟨x0, g0, p0, u01, u02, rfl, h0, f01, f02⟩ := hk.get m0
    obtain ⟨xz, gz, pz, uz1, uz2, rfl, hz, fz1, fz2⟩ := hk.last mz
    have at0 : atI us 0 = some (.ref p0) := atI_nat (j := 0) g0
    have atz : atI us (-1) = some (.ref pz) := atI_neg1 gz
    rw [ea] at f01
    rw [e2] at fz1
    have lb := (mb a0 (BM.mem_at m0)).1
    have hb := (mb z0 (List.mem_of_getLast? mz)).1
    rw [ea] at lb
    rw [e2] at hb
    walk_at "rd"
    -- tos
    refine ⟨fun σ1 H1 => ∃ (pt : Addr) (fts : List V), σ1 = [some (.ref d), some (.ref pM), some u01, some uz1, some (.ref pt), none, none, none, none, none] ∧ Same H H1 ∧ H1 pt = some (.lst fts) ∧ Frs K H1 fts (M.map (·.2)) ∧ pt ≠ d ∧ pt ≠ s, ?_, ?_⟩
    · refine ⟨_, rfl, pM, rfl, ⟨_, hM⟩, fun D hD' => ?_⟩
      have nd := hD.new hD'
      refine lc_tup (K := K) (a := pM) (xs := us) (fun i H1 => Same H H1 ∧ ∃ fts, H1 D = some (.lst fts) ∧ Frs K H1 fts ((M.take i).map (·.2)) ∧ fts.length ≤ i) ⟨same_upd hD', [], upd_same, .nil, Nat.le_refl _⟩ (fun i H1 _ ⟨sm, _⟩ => (Keep.of sm).sqT hM) ?_ ?_
      · rintro i x H1 hx ⟨sm, fts, eD, ff, fl⟩
        have hil : i < us.length := (List.getElem?_eq_some_iff.mp hx).1
        have gi : M[i]? = some M[i] := List.getElem?_eq_getElem (by omega)
        obtain ⟨x', gx, px, w1, w2, rfl, hp, f1, f2⟩ := (hk.keep (Keep.of sm)).get gi
        have ex : x = .ref px := Option.some.inj (hx.symm.trans gx)
        subst ex
        have tk : (M.take (i + 1)).map (·.2) = (M.take i).map (·.2) ++ [M[i].2] := by rw [List.take_add_one, gi, List.map_append]; rfl
        refine ⟨px, _, rfl, hp, rfl, _, _, rfl, _, _, rfl, rfl, rfl, ?_⟩
        refine ⟨_, rfl, fts, eD, small7 (by omega), Same.upd_new sm hD', fts ++ [w2], upd_same, ?_, by rw [List.length_append, List.length_singleton]; omega⟩
        have kl := Keep.lst (o := .lst (fts ++ [w2])) eD
        rw [tk]
        exact paired_app (Frs.keep ff kl) (.cons (f2.keep kl) .nil)
      · rintro H1 ⟨sm, fts, eD, ff, fl⟩
        rw [ul, List.take_length] at ff
        exact ⟨D, fts, rfl, sm, eD, ff, nd.1, nd.2⟩
    rintro σ1 H1 ⟨pt, fts, rfl, sm1, et, ft, ntd, nts⟩
    have hD1 := hD.same sm1
    have ftl := Paired.length ft
    rw [List.length_map] at ftl
    -- some
    refine ⟨fun σ1 H2 => ∃ (ps : Addr) (w1 w2 w3 : V) (r1 r2 r3 : Rat), σ1 = [some (.ref d), some (.ref pM), some u01, some uz1, some (.ref pt), some (.ref ps), none, none, none, none] ∧ SameD d H H2 ∧ DeckAt H2 d s (n + 7) ∧ H2 ps = some (.lst [w1, w2, w3]) ∧ ps ≠ d ∧ Fr K H2 w1 r1 ∧ Fr K H2 w2 r2 ∧ Fr K H2 w3 r3 ∧ (∀ r ∈ [r1, r2, r3], (lo ≤ r ∧ r ≤ hi) ∧ Hb 14 r), ?_, ?_⟩
    · refine ⟨3, rfl, by decide, by decide, fun D hD' => ?_⟩
      have nd := hD1.new hD'
      have nDt : D ≠ pt := (ne_of_none et hD').symm
      have hD0 : H D = none := Same.free sm1 hD'
      refine lc_range (lo := 0) (n := (3 : Int).toNat) (fun i H2 => SameD d H H2 ∧ DeckAt H2 d s (n + 10 - i) ∧ H2 pt = some (.lst fts) ∧ Frs K H2 fts (M.map (·.2)) ∧ ∃ (fss : List V) (rs : List Rat), H2 D = some (.lst fss) ∧ Frs K H2 fss rs ∧ rs.length = i ∧ ∀ r ∈ rs, (lo ≤ r ∧ r ≤ hi) ∧ Hb 14 r)
        ⟨(SameD.of sm1).upd_new hD0, hD1.upd nd.1 nd.2, by rw [upd_ne nDt.symm]; exact et, ft.keep (Keep.new hD'), [], [], upd_same, .nil, rfl, fun _ h => by cases h⟩ ?_ ?_
      · rintro i H2 hi ⟨sd2, hD2, et2, ft2, fss, rs, eD, fr, rl, rok⟩
        have hi3 : i < 3 := hi
        have lt2 := SqL.of (K := K) et2
        refine ⟨rfl, ?_⟩
        walk_at "rd"
        refine ⟨pt, fts, rfl, .inl lt2, ?_⟩
        refine ⟨d, s, (fts.length : Int), n + 10 - (i + 1), rfl, hD2.mono (by omega), by omega, by omega, fun H3 z sd3 hD3 z0 z1 => ?_⟩
        obtain ⟨xs2, hx2⟩ := hD2.lst
        have k3 := sd3.keep hx2
        have et3 := sd3 _ _ ntd et2
        have lt3 := SqL.of (K := K) et3
        have zl : z.toNat < M.length := by omega
        have gz' : (M.map (·.2))[z.toNat]? = some M[z.toNat].2 := by rw [List.getElem?_map, List.getElem?_eq_getElem zl]; rfl
        obtain ⟨wv, gw, fw⟩ := paired_get ft2 gz'
        have az : atI fts z = some wv := at_of (j := z.toNat) (by omega) gw
        have eD3 := sd3 _ _ nd.1 eD
        have frl := Paired.length fr
        refine ⟨pt, fts, z, wv, rfl, rfl, lt3, az, fss, eD3, small7 (by omega), ?_⟩
        have kl := Keep.lst (o := .lst (fss ++ [wv])) eD3
        have mz := List.getElem_mem zl
        refine ⟨(sd2.trans sd3).upd_new hD0, hD3.upd nd.1 nd.2, by rw [upd_ne nDt.symm]; exact et3, (ft2.keep k3).keep kl, fss ++ [wv], rs ++ [M[z.toNat].2], upd_same, paired_app ((fr.keep k3).keep kl) (.cons ((fw.keep k3).keep kl) .nil), by rw [List.length_append, List.length_singleton]; omega, ?_⟩
        intro r hr
        rcases List.mem_append.mp hr with hr | hr
        · exact rok r hr
        · rw [List.mem_singleton.mp hr]
          exact ⟨g.to _ mz, (mb _ mz).2⟩
      · rintro H2 ⟨sd2, hD2, et2, ft2, fss, rs, eD, fr, rl, rok⟩
        obtain ⟨r1, r2, r3, rfl⟩ := rlist3 rl
        obtain ⟨w1, w2, w3, rfl, f1, f2, f3⟩ := frs3 fr
        exact ⟨D, w1, w2, w3, r1, r2, r3, rfl, sd2, hD2, eD, nd.1, f1, f2, f3, rok⟩
    rintro σ1 H2 ⟨ps, w1, w2, w3, r1, r2, r3, rfl, sd2, hD2, es, nps, fr1, fr2, fr3, rok⟩
    clear hD1 sm1 et ft
    obtain ⟨xs0, hx0⟩ := hD.lst
    have k2 := sd2.keep hx0
    have hM2 := k2.sqT hM
    have q1 := rok r1 (by simp)
    have q2 := rok r2 (by simp)
    have q3 := rok r3 (by simp)
    -- the map of two knots
    have fin2 : ∀ (H3 : Hp) (c : Nat), n ≤ c → SameD d H H3 → DeckAt H3 d s c → H3 ps = some (.lst [w1, w2, w3]) → Fr K H3 w1 r1 → Fr K H3 w3 r3 → Fr K H3 u01 lo → Fr K H3 uz1 hi → ∀ (H4 : Hp) (a b : Addr), Same H3 H4 → SqT K H4 a [u01, w1] → SqT K H4 b [uz1, w3] → ∀ (p : Addr), H4 p = none → Q (.ref p) (upd H4 p (.tup [.ref a, .ref b])) := by
      intro H3 c hc sd hD3 es3 a1 a3 l1 l3 H4 a b s4 ha hb' p hp
      have s5 := s4.trans (same_upd (o := .tup [.ref a, .ref b]) hp)
      have k4 := Keep.of s4
      have k5 := Keep.of (same_upd (o := .tup [.ref a, .ref b]) hp)
      refine q _ (.ref p) [(lo, r1), (hi, r3)] (sd.trans (SameD.of s5)) ((hD3.same s5).mono hc) ⟨p, _, rfl, .inl (.inl upd_same), .cons (Kt.keep (H := H4) ⟨a, _, _, rfl, ha, l1.keep k4, a1.keep k4⟩ k5) (.cons (Kt.keep (H := H4) ⟨b, _, _, rfl, hb', l3.keep k4, a3.keep k4⟩ k5) .nil)⟩ (good_two g.lohi q1.1 q3.1) (by simp) ?_
      intro k hk
      rcases List.mem_cons.mp hk with rfl | hk
      · exact ⟨lb, q1.2⟩
      · rw [List.mem_singleton.mp hk]; exact ⟨hb, q3.2⟩
    have ret2 : ∀ (H3 : Hp) (c : Nat) (Q' : VK), n ≤ c → SameD d H2 H3 → DeckAt H3 d s c → Q' = Q → tRet (tTup (tCons (tTup (tCons (tVar 2) (tCons (tOp (rIxL K) (tVar 5) (tC (.int 0))) tNil))) (tCons (tTup (tCons (tVar 3) (tCons (tOp (rIxL K) (tVar 5) (tC (.int 2))) tNil))) tNil))) { nx := fun _ H' => Q .non H', rt := Q' } [some (.ref d), some (.ref pM), some u01, some uz1, some (.ref pt), some (.ref ps), none, none, none, none] H3 := by
      intro H3 c Q' hc sd3 hD3 eQ
      subst eQ
      obtain ⟨ys, hy⟩ := hD2.lst
      have k3 := sd3.keep hy
      have es3 := sd3 _ _ nps es
      have ls3 := SqL.of (K := K) es3
      walk_at "rd"
      refine ⟨by show 2 ≤ sizeLine; decide, fun a ha => ?_⟩
      have sa := same_upd (o := .tup [u01, w1]) ha
      have lsa := SqL.of (K := K) (sa _ _ es3)
      walk_at "rd"
      refine ⟨by show 2 ≤ sizeLine; decide, fun b hb => ?_⟩
      have sb := same_upd (o := .tup [uz1, w3]) hb
      refine ⟨by show 2 ≤ sizeLine; decide, fun p hp => ?_⟩
      exact fin2 H3 c hc (sd2.trans sd3) hD3 es3 (fr1.keep k3) (fr3.keep k3) ((f01.keep k2).keep k3) ((fz1.keep k2).keep k3) _ a b (sa.trans sb) ((Keep.of sb).sqT (.inl (.inl upd_same))) (.inl (.inl upd_same)) p hp
    walk_at "rd"
    refine ⟨pM, us, rfl, .inr hM2, ?_⟩
    walk_at "rd"
    refine ite2 (fun c => ?_) (fun c => ?_)
    · have c' : (2 : Int) < us.length := of_decide_eq_true c
      walk_at "rd"
      refine ⟨d, s, 2, n + 6, rfl, hD2, by decide, by decide, fun H3 z sd3 hD3 z0 z1 => ?_⟩
      walk_at "rd"
      refine ⟨rfl, ?_⟩
      walk_at "rd"
      refine ite2 (fun c2 => ?_) (fun c2 => ?_)
      · obtain ⟨ys, hy⟩ := hD2.lst
        have k3 := sd3.keep hy
        have hM3 := k3.sqT hM2
        walk_at "rd"
        refine ⟨pM, us, rfl, .inr hM3, ?_⟩
        walk_at "rd"
        refine ⟨d, s, _, n + 5, rfl, hD3, by omega, by omega, fun H4 j sd4 hD4 j0 j1 => ?_⟩
        obtain ⟨ys4, hy4⟩ := hD3.lst
        have k4 := sd4.keep hy4
        have k24 := k2.trans (k3.trans k4)
        have hM4 := k24.sqT hM
        have gj : M[(1 + j).toNat]? = some M[(1 + j).toNat] := List.getElem?_eq_getElem (by omega)
        obtain ⟨xj, gxj, pj, uj1, uj2, rfl, hj, fj1, fj2⟩ := (hk.keep k24).get gj
        have aj : atI us (1 + j) = some (.ref pj) := at_of (j := (1 + j).toNat) (by omega) gxj
        have mid := good_mid g gj (by omega) (by omega)
        have bj := mb _ (BM.mem_at gj)
        generalize M[(1 + j).toNat] = kj at gj fj1 fj2 mid bj
        have es4 := sd4 _ _ nps (sd3 _ _ nps es)
        have ls4 := SqL.of (K := K) es4
        walk_at "rd"
        refine ⟨by show 2 ≤ sizeLine; decide, fun a ha => ?_⟩
        have sa := same_upd (o := .tup [u01, w1]) ha
        have lsa := SqL.of (K := K) (sa _ _ es4)
        walk_at "rd"
        refine ⟨by show 2 ≤ sizeLine; decide, fun b hb => ?_⟩
        have sb := same_upd (o := .tup [uj1, w2]) hb
        have lsb := SqL.of (K := K) (sb _ _ (sa _ _ es4))
        walk_at "rd"
        refine ⟨by show 2 ≤ sizeLine; decide, fun e he => ?_⟩
        have se := same_upd (o := .tup [uz1, w3]) he
        refine ⟨by show 3 ≤ sizeLine; decide, fun p hp => ?_⟩
        have sp := same_upd (o := .tup [.ref a, .ref b, .ref e]) hp
        have s4p := sa.trans (sb.trans (se.trans sp))
        have kb := Keep.of sb
        have ke := Keep.of se
        have kp := Keep.of sp
        have ka := Keep.of sa
        have k34 := k3.trans k4
        have kbe := kb.trans (ke.trans kp)
        have kep := ke.trans kp
        refine q _ (.ref p) [(lo, r1), (kj.1, r2), (hi, r3)] (sd2.trans (sd3.trans (sd4.trans (SameD.of s4p)))) ((hD4.same s4p).mono (by omega)) ⟨p, _, rfl, .inl (.inl upd_same), .cons (Kt.keep (H := upd H4 a (.tup [u01, w1])) ⟨a, _, _, rfl, .inl (.inl upd_same), (f01.keep k24).keep ka, (fr1.keep k34).keep ka⟩ kbe) (.cons (Kt.keep (H := upd (upd H4 a (.tup [u01, w1])) b (.tup [uj1, w2])) ⟨b, _, _, rfl, .inl (.inl upd_same), (fj1.keep ka).keep kb, ((fr2.keep k34).keep ka).keep kb⟩ kep) (.cons (Kt.keep (H := upd (upd (upd H4 a (.tup [u01, w1])) b (.tup [uj1, w2])) e (.tup [uz1, w3])) ⟨e, _, _, rfl, .inl (.inl upd_same), (((fz1.keep k24).keep ka).keep kb).keep ke, (((fr3.keep k34).keep ka).keep kb).keep ke⟩ kp) .nil))⟩ (good_three mid.1 mid.2 q1.1 q2.1 q3.1) (by simp) ?_
        intro k hk
        rcases List.mem_cons.mp hk with rfl | hk
        · exact ⟨lb, q1.2⟩
        · rcases List.mem_cons.mp hk with rfl | hk
          · exact ⟨bj.1, q2.2⟩
          · rw [List.mem_singleton.mp hk]; exact ⟨by assumption, q3.2⟩
      · exact ret2 H3 (n + 6) _ (by omega) sd3 hD3 rfl
    · exact ret2 H2 (n + 7) _ (by omega) (SameD.refl _ _) hD2 rfl
end
end BW
/-! t[::-1] of a tuple -/
namespace BWR
open PySem PySem.Spec PyProof.Rows L2 HT
theorem places_rev (n : Nat) : Builtin.Slice.slicePlaces ((n : Int) - 1) (-1) (-1) = n := by
  unfold Builtin.Slice.slicePlaces
  rw [if_neg (by decide)]
  by_cases h : (n : Int) - 1 > -1
  · rw [if_pos h, show (- -1 : Int) = 1 by decide, Int.ediv_one]
    omega
  · rw [if_neg h]
    omega
section
variable {prog : Program} {w : World} {A : Around} {E : Value → Shared → Prop} {s : Shared}
theorem sliceApplied_rev {sl : Addr} {vl vu vs : Value} {n : Nat} {Q : Int × Int × Nat → Shared → Prop} (hs : s.heap.IsSliceOf sl vl vu vs) (pl : IsPart vl none) (pu : IsPart vu none) (ps : IsPart vs (some (-1)))
    (h : Q ((n : Int) - 1, -1, n) s) : wpAny (model prog w) A (Builtin.Slice.sliceApplied (.ref sl) (pure (n : Int))) Q E s := by
  obtain ⟨os, hos, hcs, hds⟩ := id hs
  unfold Builtin.Slice.sliceApplied Builtin.Slice.sliceFields
  refine wpAny_bind (wpAny_bind (wpAny_field hos hds (x := vl) rfl (wpAny_bind (wpAny_field hos hds (x := vu) rfl (wpAny_bind (wpAny_field hos hds (x := vs) rfl (wpAny_pure ?_)))))))
  refine wpAny_bind (slicePart_ ps ?_)
  show wpAny _ _ (if ((-1 : Int) == 0) = true then _ else _) _ _ s
  rw [if_neg (by decide)]
  refine wpAny_bind (slicePart_ pl (wpAny_bind (slicePart_ pu (wpAny_bind (wpAny_pure ?_)))))
  show wpAny _ _ (pure ((n : Int) - 1, (-1 : Int), Builtin.Slice.slicePlaces ((n : Int) - 1) (-1) (-1))) _ _ s
  rw [places_rev]
  exact wpAny_pure h
theorem filterMap_same {α β : Type} {f g : α → Option β} : ∀ {l : List α}, (∀ m ∈ l, f m = g m) → l.filterMap f = l.filterMap g
  | [], _ => rfl
  | a :: l, h => by
    rw [List.filterMap_cons, List.filterMap_cons, h a (by simp), filterMap_same fun m hm => h m (List.mem_cons_of_mem _ hm)]
theorem pick_rev (xs : Array Value) : ((List.range xs.size).filterMap fun (m : Nat) => xs[(((xs.size : Int) - 1) + (m : Int) * -1).toNat]?).toArray = xs.toList.reverse.toArray := by
  have e : (List.range xs.size).filterMap (fun (m : Nat) => xs[(((xs.size : Int) - 1) + (m : Int) * -1).toNat]?) = ((List.range xs.size).map fun k => xs.size - 1 - k).filterMap (xs[·]?) := by
    rw [List.filterMap_map]
    refine filterMap_same fun m hm => ?_
    have := List.mem_range.mp hm
    show _ = xs[xs.size - 1 - m]?
    congr 1
    omega
  rw [e, PySem.W.krv_range, List.filterMap_reverse, PySem.W.krv_all]
theorem getItem_tuple_rev {t sl : Addr} {items : Array Value} {vl vu vs : Value} {Q : Value → Shared → Prop} (ht : IsTup s.heap t items) (hs : s.heap.IsSliceOf sl vl vu vs) (pl : IsPart vl none) (pu : IsPart vu none) (ps : IsPart vs (some (-1)))
    (h : Q (.ref s.heap.objs.size) { s with heap := s.heap.push { cls := .type "tuple", data := .seq items.toList.reverse.toArray } })
    (hsz : items.size ≤ sizeLine) : wpAny (model prog w) A (getItem (.ref t) (.ref sl)) Q E s := by
  have htake : sizeOk (.seq items.toList.reverse.toArray) := by
    show items.toList.reverse.toArray.size ≤ sizeLine
    rw [List.size_toArray, List.length_reverse, Array.length_toList]
    omega
  obtain ⟨os, hos, hcs, hds⟩ := id hs
  have hTs : s.TypeIs (.ref sl) "slice" := ⟨os, hos, hcs⟩
  unfold getItem
  try with_reducible refine wpAny_holding ?_
  first | refine wpAny_bind (wpAny_pure ?_) | skip
  refine wpAny_bind (wpAny_sequenceKey ht.typeIs (by decide) ?_)
  refine wpAny_bind (wpAny_callSpecial?_slot (name := Str.ofString "__getitem__") ht.typeIs PyProof.Rows.slot_tuple_getitem
    (wpAny_call_entry PyProof.Rows.slot_tuple_getitem ht.typeIs entry_tuple_getitem ?_ (args_tuple_getitem _ _)))
  show wpAny _ _ (Builtin.Tuple.tupleItemsOf (.ref t) >>= _) _ _ s
  refine wpAny_bind (tupleItemsOf_ ht ?_)
  refine wpAny_bind (wpAny_typeOf hTs ?_)
  rw [if_pos (by decide)]
  refine wpAny_bind (sliceApplied_rev hs pl pu ps ?_)
  have hno : ¬ ((((items.size : Int) - 1) == 0 && (-1 : Int) == 1 && items.size == items.size) = true) := by
    intro q
    rw [Bool.and_eq_true, Bool.and_eq_true] at q
    have q1 := q.1.2
    revert q1
    decide
  show wpAny _ _ (if (((items.size : Int) - 1) == 0 && (-1 : Int) == 1 && items.size == items.size) = true then _ else _) _ _ s
  rw [if_neg hno, pick_rev]
  first
    | exact wpAny_bind (m := Builtin.Tuple.tupleExact _) (wpAny_newObj_type (wpAny_pure ⟨_, rfl, wpAny_pure h⟩) htake)
    | exact wpAny_bind (m := Builtin.Tuple.tupleExact _) (wpAny_newObj_type (wpAny_bind (wpAny_pure (wpAny_pure ⟨_, rfl, wpAny_pure h⟩))) htake)
    | exact wpAny_bind (wpAny_bind (m := Builtin.Tuple.tupleExact _) (wpAny_newObj_type (wpAny_pure (wpAny_pure ⟨_, rfl, wpAny_pure h⟩)) htake))
    | exact wpAny_bind (wpAny_bind (m := Builtin.Tuple.tupleExact _) (wpAny_newObj_type (wpAny_pure ⟨_, rfl, wpAny_pure h⟩) htake))
end
section
variable {X : Cx}
def tRevT (K : PySem.W.Frag) (te : TE) : TE := fun σ H Q => te σ H fun x H1 => ∃ a xs, x = .ref a ∧ SqT K H1 a xs ∧ ∀ p, H1 p = none → Q (.ref p) (upd H1 p (.tup xs.reverse))
theorem pe_revT {e : Expr} {te : TE} {k : Nat} {p1 p2 p3 pos : Pos} (he : PE X e te) : PE X (.Subscript e (.Slice none none (some (.UnaryOp .USub (.Constant (.int 1) k p1) p2)) p3) pos) (tRevT X.K te) := by
  refine ⟨fun pins s σ H Q I h => ?_⟩
  refine Subscript_ (thn (he.run pins s σ H _ I h) fun v s1 ⟨x, H1, I1, r1, q1⟩ => ?_)
  obtain ⟨a, xs, ex, hx, q⟩ := q1
  subst ex
  cases r1
  have hst : PO X (some (.UnaryOp .USub (.Constant (.int 1) k p1) p2)) (tPart (tUn (rU fun i => .int (-i)) (tC (.int 1)))) := po_some (pe_un un_neg pe_int)
  refine wpAny_Slice (thn (po_none.run pins s1 σ H1 (fun o H2 => o = none ∧ H2 = H1) I1 ⟨rfl, rfl⟩) fun vl s2 ⟨l, H2, I2, pl, el, e2⟩ => ?_)
  subst el e2
  refine thn (po_none.run pins s2 σ H2 (fun o H3 => o = none ∧ H3 = H2) I2 ⟨rfl, rfl⟩) fun vu s3 ⟨u, H3, I3, pu, eu, e3⟩ => ?_
  subst eu e3
  refine thn (hst.run pins s3 σ H3 (fun o H4 => o = some (-1) ∧ H4 = H3) I3 ⟨1, rfl, -1, rfl, rfl, rfl⟩) fun vs s4 ⟨o, H4, I4, ps, eo, e4⟩ => ?_
  subst eo e4
  have I5 : Inv X pins σ H4 { s4 with heap := s4.heap.push { cls := .type "slice", data := .fields #[vl, vu, vs] } } := I4.kept (t' := s4.toks) fun b ob q => Heap.get?_push_of_some _ q
  obtain ⟨its, r, ht, hz⟩ := I5.tuple hx
  have hlen := r.length
  show wpAny (model X.prog X.w) X.A (subscriptTail e (.Slice none none (some (.UnaryOp .USub (.Constant (.int 1) k p1) p2)) p3) (.ref a) (.ref s4.heap.objs.size)) (EP X pins σ Q) X.xe { s4 with heap := s4.heap.push { cls := .type "slice", data := .fields #[vl, vu, vs] } }
  refine tail_any (ops := [.ref a, .ref s4.heap.objs.size]) ht.typeIs (PyProof.Rows.slot_tuple_getitem.lookup) ?_ (by with_unfolding_all rfl)
  refine getItem_tuple_rev ht (Heap.IsSliceOf.new _ vl vu vs) pl pu ps ?_ (by rw [List.size_toArray]; omega)
  refine ⟨.ref _, _, I5.laid (t' := s4.toks) (o := .tup xs.reverse) (fun b ob q => Heap.get?_push_of_some _ q) (Nat.le_refl _) ?_, rfl, q _ (I5.hok.fresh (Nat.le_refl _))⟩
  exact ⟨by rw [List.length_reverse]; exact hz, _, r.reverse, IsTup.new _ _⟩
end
end BWR
namespace BW
open PySem PySem.Spec PyProof.Rows L2
open BM (Hb Kn Mp)
local macro_rules | `(tactic| walk_at "rd") => `(tactic| repeat (first
  | (refine ⟨_, _, _, _, rfl, rfl, by first | (show SqT _ _ _ _; assumption) | (show SqL _ _ _ _; assumption) | (show SqA _ _ _ _; assumption), by first | rfl | assumption, ?_⟩)
  | (refine ⟨_, rfl, ?_⟩)
  | (refine ⟨_, _, rfl, rfl, (by assumption : CMulW _ _), ?_⟩)
  | (refine ⟨_, _, rfl, rfl, ?_⟩)))
abbrev s__law_over_turned : Stmt := topS 46
theorem sc__law_over_turned : FnScope ["knots", "found", "at", "to"] ["knots"] (defScope s__law_over_turned) := ⟨rfl, rfl, rfl, by decide +kernel, rfl, by decide +kernel, by decide +kernel⟩
abbrev s__law_pieces_right : Stmt := topS 47
theorem sc__law_pieces_right : FnScope ["knots", "pieces", "at", "low", "high", "slope", "rise"] ["knots"] (defScope s__law_pieces_right) := ⟨rfl, rfl, rfl, by decide +kernel, rfl, by decide +kernel, by decide +kernel⟩
abbrev s__law_two_right : Stmt := topS 48
theorem sc__law_two_right : FnScope ["one", "other", "both", "over", "at", "to"] ["one", "other"] (defScope s__law_two_right) := ⟨rfl, rfl, rfl, by decide +kernel, rfl, by decide +kernel, by decide +kernel⟩
def dM (M : Mp) : PyData := .tuple (M.map dK)
theorem Kt.dp {K : PySem.W.Frag} {H : Hp} {v : V} {k : Kn} (h : Kt K H v k) : Dp K H v (dK k) := by
  obtain ⟨p, u1, u2, rfl, hs, h1, h2⟩ := h
  exact .tup hs (.cons h1.dp (.cons h2.dp .nil))
theorem Kts.dp {K : PySem.W.Frag} {H : Hp} : ∀ {vs : List V} {M : Mp}, Kts K H vs M → DpAll K H vs (M.map dK)
  | _, _, .nil => .nil
  | _, _, .cons r t => .cons r.dp (Kts.dp t)
theorem MpT.dp {K : PySem.W.Frag} {H : Hp} {v : V} {M : Mp} (h : MpT K H v M) : Dp K H v (dM M) := by
  obtain ⟨p, vs, rfl, hs, h1⟩ := h
  exact .tup hs h1.dp
theorem lay_all (M : Mp) : PyData.canLayAll0 (M.map dK) = true := by
  induction M with
  | nil => rfl
  | cons k M ih =>
    show (PyData.canLay0 (dK k) && PyData.canLayAll0 (M.map dK)) = true
    rw [ih]; rfl
theorem depth_all (M : Mp) : PyData.depthAll (M.map dK) ≤ 10 := by
  induction M with
  | nil => exact Nat.zero_le _
  | cons k M ih =>
    show max (PyData.depth (dK k)) (PyData.depthAll (M.map dK)) ≤ 10
    have : PyData.depth (dK k) ≤ 10 := by
      show max (PyData.depth (dR k.1)) (max (PyData.depth (dR k.2)) 0) + 1 ≤ 10
      have h : ∀ r : Rat, PyData.depth (dR r) ≤ 3 := fun r => by
        show max 0 (max 0 0) + 1 ≤ 3
        decide
      have := h k.1
      have := h k.2
      omega
    omega
theorem dM_lay (M : Mp) : PyData.canLay0 (dM M) = true := lay_all M
theorem dM_shaped (M : Mp) : SeqAt.shaped (dM M) = true := by
  unfold SeqAt.shaped
  rw [dM_lay, Bool.true_and]
  refine decide_eq_true ?_
  show PyData.depthAll (M.map dK) + 1 ≤ 64
  have := depth_all M
  omega
theorem dM_refl (M : Mp) : PyData.eqv (dM M) (dM M) = true := SeqAt.eqv_refl _ (dM_lay M)
theorem law_len {lo hi : Rat} {M : Mp} (g : BM.Good lo hi M) : (BM.least M).length ≤ M.length := BM.least_sub.length_le
def spOver (K : PySem.W.Frag) : Sp := fun vs H Q _ => ∃ (v : V) (M : Mp), vs = [v] ∧ MpT K H v M ∧ M.length ≤ 1000000 ∧ ∀ H' v, Same H H' → MpT K H' v (BM.ng M) → Q v H'
def spPiecesRight (K : PySem.W.Frag) : Sp := fun vs H Q _ => ∃ (v : V) (M : Mp) (lo hi : Rat), vs = [v] ∧ MpT K H v M ∧ BM.Good lo hi M ∧ MB 14 M ∧ M.length ≤ 8 ∧ ∀ H', Same H H' → Q (.bl true) H'
def spTwoRight (K : PySem.W.Frag) : Sp := fun vs H Q _ => ∃ (v1 v2 : V) (M o : Mp) (lo hi : Rat), vs = [v1, v2] ∧ MpT K H v1 M ∧ MpT K H v2 o ∧ BM.Good lo hi M ∧ BM.Good lo hi o ∧ PutOk M o ∧ PutOk (BM.ng M) (BM.ng o) ∧ ∀ H', Same H H' → Q (.bl true) H'
theorem laps_lt {M : Mp} (h : M.length ≤ 1000000) : (BM.laps M : Int).natAbs < 2 ^ 30 := by
  have := BM.lapv_len (M.map (·.2)) 0
  rw [List.length_map] at this
  unfold BM.laps
  show _ < 1073741824
  omega
section
variable {P : Program} {w : World} {K : PySem.W.Frag} {mg : Str → Option Value} {base : Heap}
theorem ok_law_over_turned (T : Tx mg) (D : DefAt K mg "_law_over_turned" s__law_over_turned ["knots"]) : Cal P w K mg base 1 "_law_over_turned" (spOver K) := by
  refine cal_of D sc__law_over_turned (fun vs H Q E h => ?_) (fun f cdv A outer s H vs Q E hr h => ?_)
  · obtain ⟨v, M, rfl, _⟩ := h
    rfl
  · obtain ⟨v, M, rfl, tM, big, q⟩ := h
    obtain ⟨pM, us, rfl, hM, hk⟩ := id tM
    refine ⟨_, (pss_cons (ps_set (i := 1) sc__law_over_turned.nd rfl (.inl rfl) (pe_lst pa_nil))
      (pss_cons (ps_for PassesOwn.never rfl (pi_tup (BWR.pe_revT (pv 0))) (pg_tup rfl (pgs_cons (pg_name (i := 2) sc__law_over_turned.nd rfl (.inl rfl)) (pgs_cons (pg_name (i := 3) sc__law_over_turned.nd rfl (.inl rfl)) pgs_nil)))
      (pss_one (ps_expr (pe_bm PySem.F.plainAttrs_list PySem.F.slot_list_append PySem.F.type_list_append mt_append (pv 1) (pa_cons (pe_tup (pa_cons (pe_tup (pa_cons (pe_op op_sub pe_int (pe_ix ix_tup (pv 2) pe_int (fun _ _ => rfl))) (pa_cons (pe_ix ix_tup (pv 2) pe_int (fun _ _ => rfl)) pa_nil))) (pa_cons (pe_tup (pa_cons (pe_op op_sub pe_int (pe_ix ix_tup (pv 3) pe_int (fun _ _ => rfl))) (pa_cons (pe_ix ix_tup (pv 3) pe_int (fun _ _ => rfl)) pa_nil))) pa_nil))) pa_nil)))))
      (pss_one (ps_ret (pe_callTy call_tuple_of (by rfl) T.tuple (by decide +kernel) (pa_cons (pv 1) pa_nil)))))), ?_⟩
    have ul := hk.length
    refine ⟨Nat.zero_le _, fun l hl => ?_⟩
    have s1 : Same H (upd H l (.lst [])) := same_upd hl
    refine ⟨_, rfl, pM, us, rfl, (Keep.of s1).sqT hM, fun pr hpr => ?_⟩
    have s2 := same_upd (o := .tup us.reverse) hpr
    have s12 := s1.trans s2
    have hR : SqT K (upd (upd H l (.lst [])) pr (.tup us.reverse)) pr us.reverse := .inl (.inl upd_same)
    have e2 : (upd (upd H l (.lst [])) pr (.tup us.reverse)) l = some (.lst []) := s2 _ _ upd_same
    generalize upd (upd H l (.lst [])) pr (.tup us.reverse) = H2 at *
    refine ⟨pr, rfl, ⟨_, hR⟩, for_tup (K := K) (a := pr) (xs := us.reverse) (fun i σ H1 => ∃ (fs : List V) (y2 y3 : Option V), σ = [some (.ref pM), some (.ref l), y2, y3] ∧ Same H H1 ∧ SqT K H1 pr us.reverse ∧ H1 l = some (.lst fs) ∧ Kts K H1 fs ((M.reverse.take i).map BM.ngk))
      ⟨[], none, none, rfl, s12, hR, e2, .nil⟩ (fun i σ H1 _ ⟨_, _, _, _, _, h, _⟩ => h) ?_ ?_⟩
    · rintro i x σ H1 hx ⟨fs, y2, y3, rfl, sm, hr1, eo, ks⟩
      have hil : i < us.reverse.length := (List.getElem?_eq_some_iff.mp hx).1
      rw [List.length_reverse] at hil
      have hil2 : i < M.reverse.length := by rw [List.length_reverse]; omega
      have go : M.reverse[i]? = some M.reverse[i] := List.getElem?_eq_getElem hil2
      obtain ⟨x', gx, px, u1, u2, rfl, hp, ⟨p1, rfl, h1⟩, ⟨p2, rfl, h2⟩⟩ := (hk.keep (Keep.of sm)).reverse.get go
      have ex : x = .ref px := Option.some.inj (hx.symm.trans gx)
      subst ex
      have tk : (M.reverse.take (i + 1)).map BM.ngk = (M.reverse.take i).map BM.ngk ++ [BM.ngk M.reverse[i]] := by rw [List.take_add_one, go, List.map_append]; rfl
      generalize M.reverse[i] = k at *
      refine ⟨px, _, rfl, hp, rfl, _, _, rfl, _, _, rfl, rfl, ?_⟩
      have fl := ks.length
      rw [List.length_map, List.length_take] at fl
      walk_at "rd"
      refine ⟨.inl ⟨rfl, _, SqL.of eo⟩, ?_⟩
      walk_at "rd"
      refine ⟨by show 2 ≤ sizeLine; decide, fun a ha => ?_⟩
      have sa := same_upd (o := .tup [.int (0 - k.1.num), .int (k.1.den : Int)]) ha
      have h2' := (Keep.of sa).sqT h2
      walk_at "rd"
      refine ⟨by show 2 ≤ sizeLine; decide, fun b hb => ?_⟩
      have sb := same_upd (o := .tup [.int (0 - k.2.num), .int (k.2.den : Int)]) hb
      refine ⟨by show 2 ≤ sizeLine; decide, fun c hc => ?_⟩
      have sc := same_upd (o := .tup [.ref a, .ref b]) hc
      have sabc := sa.trans (sb.trans sc)
      have ksc := ks.keep (Keep.of sabc)
      have eoc := sabc _ _ eo
      have hrc := (Keep.of sabc).sqT hr1
      have smc := sm.trans sabc
      have negf : ∀ r : Rat, [V.int (0 - r.num), V.int (r.den : Int)] = [V.int (-r).num, V.int ((-r).den : Int)] := fun r => by
        rw [Rat.neg_num, Rat.neg_den, show -r.num = 0 - r.num by omega]
      have t : Kt K (upd (upd (upd H1 a (.tup [.int (0 - k.1.num), .int (k.1.den : Int)])) b (.tup [.int (0 - k.2.num), .int (k.2.den : Int)])) c (.tup [.ref a, .ref b])) (.ref c) (BM.ngk k) :=
        ⟨c, _, _, rfl, .inl (.inl upd_same), ⟨a, rfl, by
          have : SqT K (upd H1 a (.tup [.int (0 - k.1.num), .int (k.1.den : Int)])) a [.int (0 - k.1.num), .int (k.1.den : Int)] := .inl (.inl upd_same)
          have := ((Keep.of sb).trans (Keep.of sc)).sqT this
          show SqT K _ a [V.int (-k.1).num, V.int ((-k.1).den : Int)]
          rw [← negf]
          exact this⟩, ⟨b, rfl, by
          have : SqT K (upd (upd H1 a (.tup [.int (0 - k.1.num), .int (k.1.den : Int)])) b (.tup [.int (0 - k.2.num), .int (k.2.den : Int)])) b [.int (0 - k.2.num), .int (k.2.den : Int)] := .inl (.inl upd_same)
          have := (Keep.of sc).sqT this
          show SqT K _ b [V.int (-k.2).num, V.int ((-k.2).den : Int)]
          rw [← negf]
          exact this⟩⟩
      refine ⟨l, fs, .ref c, rfl, rfl, eoc, small7 (by omega), ?_⟩
      have kl := Keep.lst (o := .lst (fs ++ [.ref c])) eoc
      refine ⟨fs ++ [.ref c], _, _, rfl, Same.upd_new smc hl, kl.sqT hrc, upd_same, ?_⟩
      rw [tk]
      exact Kts.append (ksc.keep kl) (.cons (t.keep kl) .nil)
    · rintro σ H1 ⟨fs, y2, y3, rfl, sm, hr1, eo, ks⟩
      rw [List.length_reverse, List.take_of_length_le (by rw [List.length_reverse]; omega)] at ks
      refine ⟨_, rfl, l, fs, rfl, .inl ⟨SqL.of eo, fun p hp => ?_⟩⟩
      have s4 := same_upd (o := .tup fs) hp
      exact q _ (.ref p) (sm.trans s4) ⟨p, fs, rfl, .inl (.inl upd_same), ks.keep (Keep.of s4)⟩
theorem ok_law_pieces_right (T : Tx mg) (D : DefAt K mg "_law_pieces_right" s__law_pieces_right ["knots"]) (cpieces_of : Cal P w K mg base 5 "pieces_of" (spPieces K)) (cleast_knots : Cal P w K mg base 4 "least_knots" (spLeast K)) (claps_of : Cal P w K mg base 2 "laps_of" (spLaps K))
    (cvalue_of : Cal P w K mg base 4 "value_of" (spValue K)) (c_law_less : Cal P w K mg base 3 "_law_less" (spOp K (· - ·) fun _ _ => True)) (c_law_times : Cal P w K mg base 2 "_law_times" (spOp K (· * ·) fun _ _ => True)) : Cal P w K mg base 6 "_law_pieces_right" (spPiecesRight K) := by
  refine cal_of D sc__law_pieces_right (fun vs H Q E h => ?_) (fun f cdv A outer s H vs Q E hr h => ?_)
  · obtain ⟨v, M, lo, hi, rfl, _⟩ := h
    rfl
  · obtain ⟨v, M, lo, hi, rfl, tM, g, mb, big, q⟩ := h
    obtain ⟨pM, us, rfl, hM, hk⟩ := id tM
    refine ⟨_, (pss_cons (ps_set (i := 1) sc__law_pieces_right.nd rfl (.inl rfl) (pe_c cpieces_of hr (by decide) (by rfl) (pa_cons (pv 0) pa_nil)))
      (pss_cons (ps_if (PW.pt (pw_or (pt_cmpR op_ne (pe_callB call_len_seq (by rfl) T.len PySem.boot_len (pa_cons (pv 1) pa_nil)) (pe_op op_sub (pe_callB call_len_seq (by rfl) T.len PySem.boot_len (pa_cons (pe_c cleast_knots hr (by decide) (by rfl) (pa_cons (pv 0) pa_nil)) pa_nil)) pe_int) (nomark _)) (pw_or1 (pt_cmpR op_gt (pe_c claps_of hr (by decide) (by rfl) (pa_cons (pv 0) pa_nil)) (pe_callB call_len_seq (by rfl) T.len PySem.boot_len (pa_cons (pv 1) pa_nil)) (nomark _)))))
      (pss_one (ps_ret pe_bl))
      pss_nil)
      (pss_cons (ps_set (i := 2) sc__law_pieces_right.nd rfl (.inl rfl) (pe_ix ix_tup (pe_ix ix_tup (pv 0) pe_int (fun _ _ => rfl)) pe_int (fun _ _ => rfl)))
      (pss_cons (ps_for PassesOwn.never rfl (pi_tup (pv 1)) (pg_tup rfl (pgs_cons (pg_name (i := 3) sc__law_pieces_right.nd rfl (.inl rfl)) (pgs_cons (pg_name (i := 4) sc__law_pieces_right.nd rfl (.inl rfl)) (pgs_cons (pg_name (i := 5) sc__law_pieces_right.nd rfl (.inl rfl)) pgs_nil))))
      (pss_cons (ps_set (i := 6) sc__law_pieces_right.nd rfl (.inl rfl) (pe_c c_law_less hr (by decide) (by rfl) (pa_cons (pe_c cvalue_of hr (by decide) (by rfl) (pa_cons (pv 0) (pa_cons (pv 4) pa_nil))) (pa_cons (pe_c cvalue_of hr (by decide) (by rfl) (pa_cons (pv 0) (pa_cons (pv 3) pa_nil))) pa_nil))))
        (pss_cons (ps_if (PW.pt (pw_or (pt_cmpR (op_neD (hd_of hr)) (pv 3) (pv 2) (nomark _)) (pw_or1 (pt_cmpR (op_neD (hd_of hr)) (pe_c c_law_times hr (by decide) (by rfl) (pa_cons (pv 5) (pa_cons (pe_c c_law_less hr (by decide) (by rfl) (pa_cons (pv 4) (pa_cons (pv 3) pa_nil))) pa_nil))) (pv 6) (nomark _)))))
        (pss_one (ps_ret pe_bl))
        pss_nil)
        (pss_one (ps_set (i := 2) sc__law_pieces_right.nd rfl (.inl rfl) (pv 4))))))
      (pss_one (ps_ret (pe_cmpR (op_eqD (hd_of hr)) (pv 2) (pe_ix ix_tup (pe_ix ix_tup (pv 0) (pe_un un_neg pe_int) (fun _ _ => rfl)) pe_int (fun _ _ => rfl)) (nomark _)))))))), ?_⟩
    have ul := hk.length
    have mbb : MB 1250 M := mb.mono (by decide)
    walk_at "rd"
    refine ⟨_, M, lo, hi, rfl, tM, g, mbb, by omega, fun H1 pp ps s1 hpp kp => ?_⟩
    have k1 := Keep.of s1
    have gN := BM.least_good g
    have lN := law_len g
    have psl := Paired.length kp
    rw [pcs_len] at psl
    have nl2 := gN.two
    walk_at "rd"
    refine ⟨pp, ps, rfl, .inr hpp, ?_⟩
    walk_at "rd"
    refine ⟨pM, us, M, 14, rfl, .inr (k1.sqT hM), hk.keep k1, g.inc, g.two, by omega, mb, by decide, fun H2 v2 s2 t2 => ?_⟩
    obtain ⟨pl, ls, rfl, hpl, kl⟩ := t2
    have ll := kl.length
    have k2 := Keep.of s2
    refine ⟨pl, ls, rfl, .inr hpl, ?_⟩
    walk_at "rd"
    refine ⟨rfl, ?_⟩
    walk_at "rd"
    have e1 : decide (V.int (ps.length : Int) = V.int ((ls.length : Int) - 1)) = true := decide_eq_true (by rw [psl, ll]; congr 1; omega)
    rw [e1, Bool.not_true]
    refine iteF ?_
    walk_at "rd"
    refine ⟨_, M, rfl, (tM.keep k1).keep k2, by have := g.two; omega, mb.mono (by decide), fun H3 s3 => ?_⟩
    have k3 := Keep.of s3
    have k13 := k1.trans (k2.trans k3)
    have hpp3 := (k2.trans k3).sqT hpp
    walk_at "rd"
    refine ⟨pp, ps, rfl, .inr hpp3, ?_⟩
    walk_at "rd"
    have lp := BM.law_laps_pieces g.inc g.two
    have e2 : decide ((ps.length : Int) < (BM.laps M : Int)) = false := decide_eq_false (by rw [psl]; omega)
    rw [e2]
    refine iteF ?_
    have sm3 := s1.trans (s2.trans s3)
    -- at = knots[0][0]
    obtain ⟨a0, b0, r0, z0, eM, ea, ez, ez2, zm⟩ := g.ends
    have m0 : M[0]? = some a0 := by rw [eM]; rfl
    have mz : M.getLast? = some z0 := by rw [eM]; exact ez
    obtain ⟨x0, g0, p0, u01, u02, rfl, h0, f01, f02⟩ := hk.get m0
    obtain ⟨xz, gz, pz, uz1, uz2, rfl, hz, fz1, fz2⟩ := hk.last mz
    rw [ea] at f01
    rw [ez2] at fz1
    have at0 : atI us 0 = some (.ref p0) := atI_nat (j := 0) g0
    have atz : atI us (-1) = some (.ref pz) := atI_neg1 gz
    have hM3 := k13.sqT hM
    have h03 := k13.sqT h0
    walk_at "rd"
    refine ⟨⟨_, hpp3⟩, for_tup (K := K) (a := pp) (xs := ps) (fun i σ H4 => ∃ (va : V) (y3 y4 y5 y6 : Option V) (r : Rat), σ = [some (.ref pM), some (.ref pp), some va, y3, y4, y5, y6] ∧ Same H3 H4 ∧ Fr K H4 va r ∧ (BM.least M)[i]?.map (·.1) = some r)
      ⟨u01, none, none, none, none, lo, rfl, Same.refl _, f01.keep k13, by have := gN.hd; rw [List.head?_eq_getElem?] at this; exact this⟩ (fun i σ H4 _ ⟨_, _, _, _, _, _, _, sm, _⟩ => (Keep.of sm).sqT hpp3) ?_ ?_⟩
    · rintro i x σ H4 hx ⟨va, y3, y4, y5, y6, r, rfl, sm, fa, er⟩
      have hil : i < ps.length := (List.getElem?_eq_some_iff.mp hx).1
      obtain ⟨a, b, rr, ed, ga, gb, ed2⟩ := BM.drop_two (M := BM.least M) (i := i) (by omega)
      have k4 := Keep.of sm
      have gp := pcs_get ga gb
      obtain ⟨x', gx, px, w1, w2, w3, rfl, hp, f1, f2, f3⟩ := paired_get kp gp
      have ex : x = .ref px := Option.some.inj (hx.symm.trans gx)
      subst ex
      have k34 := k2.trans (k3.trans k4)
      have hp4 := k34.sqT hp
      have f1' := f1.keep k34
      have f2' := f2.keep k34
      have f3' := f3.keep k34
      have aN := BM.mem_at ga
      have bN := BM.mem_at gb
      have aM := BM.least_sub.subset aN
      have bM := BM.least_sub.subset bN
      have ka := mb a aM
      have kb := mb b bM
      have lt := gN.inc.at ga gb
      have ta := g.at aM
      have tb := g.at bM
      have tM4 := (tM.keep k13).keep k4
      rw [ga] at er
      have er' : a.1 = r := Option.some.inj er
      subst er'
      refine ⟨px, _, rfl, hp4, rfl, _, _, rfl, _, _, rfl, _, _, rfl, rfl, ?_⟩
      walk_at "rd"
      refine ⟨_, _, M, b.1, lo, hi, 14, 14, rfl, tM4, f2', g, mb, kb.1, by decide, tb.1, tb.2, fun H5 v5 s5 q5 => ?_⟩
      have k5 := Keep.of s5
      rw [g.knot bM] at q5
      walk_at "rd"
      refine ⟨_, _, M, a.1, lo, hi, 14, 14, rfl, tM4.keep k5, f1'.keep k5, g, mb, ka.1, by decide, ta.1, ta.2, fun H6 v6 s6 q6 => ?_⟩
      have k6 := Keep.of s6
      rw [g.knot aM] at q6
      refine ⟨_, _, b.2, a.2, 14, 14, rfl, q5.keep k6, q6, kb.2, ka.2, by decide, trivial, fun H7 v7 s7 f7 => ?_⟩
      have k7 := Keep.of s7
      have k57 := k5.trans (k6.trans k7)
      walk_at "rd"
      refine ⟨_, _, (f1'.keep k57).dp, (fa.keep k57).dp, dR_shaped _, dR_shaped _, ?_⟩
      rw [dR_eqv, decide_eq_true rfl, Bool.not_true]
      walk_at "rd"
      refine ⟨_, _, b.1, a.1, 14, 14, rfl, f2'.keep k57, f1'.keep k57, kb.1, ka.1, by decide, trivial, fun H8 v8 s8 f8 => ?_⟩
      have k8 := Keep.of s8
      have sb : Hb 58 (BM.slope a b) := ((kb.2.sub ka.2).div (kb.1.sub ka.1) (by grind)).mono (by decide)
      refine ⟨_, _, BM.slope a b, b.1 - a.1, 58, 29, rfl, (f3'.keep k57).keep k8, f8, sb, kb.1.sub ka.1, by decide, trivial, fun H9 v9 s9 f9 => ?_⟩
      have k9 := Keep.of s9
      have eq : BM.slope a b * (b.1 - a.1) = b.2 - a.2 := by
        have := BM.line_right lt
        unfold BM.line at this
        grind
      replace f9 : Fr K H9 v9 (b.2 - a.2) := by rw [← eq]; exact f9
      replace f7 : Fr K H7 v7 (b.2 - a.2) := f7
      walk_at "rd"
      refine ⟨_, _, f9.dp, ((f7.keep k8).keep k9).dp, dR_shaped _, dR_shaped _, ?_⟩
      rw [dR_eqv, decide_eq_true rfl, Bool.not_true]
      walk_at "rd"
      exact ⟨w2, _, _, _, _, b.1, rfl, sm.trans (s5.trans (s6.trans (s7.trans (s8.trans s9)))), ((f2'.keep k57).keep k8).keep k9, by rw [gb]; rfl⟩
    · rintro σ H4 ⟨va, y3, y4, y5, y6, r, rfl, sm, fa, er⟩
      have k4 := Keep.of sm
      have hM4 := k4.sqT hM3
      have hz4 := (k13.trans k4).sqT hz
      have er' : r = hi := by
        have h := gN.lt
        rw [List.getLast?_eq_getElem?, ← show ps.length = (BM.least M).length - 1 by omega] at h
        rw [er] at h
        exact Option.some.inj h
      subst er'
      walk_at "rd"
      refine ⟨_, _, fa.dp, ((fz1.keep k13).keep k4).dp, dR_shaped _, dR_shaped _, ?_⟩
      rw [dR_eqv, decide_eq_true rfl]
      exact q H4 (sm3.trans sm)
theorem ok_law_two_right (T : Tx mg) (D : DefAt K mg "_law_two_right" s__law_two_right ["one", "other"]) (cput_behind : Cal P w K mg base 5 "put_behind" (spPut K)) (claps_of : Cal P w K mg base 2 "laps_of" (spLaps K)) (c_law_over_turned : Cal P w K mg base 1 "_law_over_turned" (spOver K))
    (cvalue_of : Cal P w K mg base 4 "value_of" (spValue K)) : Cal P w K mg base 6 "_law_two_right" (spTwoRight K) := by
  refine cal_of D sc__law_two_right (fun vs H Q E h => ?_) (fun f cdv A outer s H vs Q E hr h => ?_)
  · obtain ⟨v1, v2, M, o, lo, hi, rfl, _⟩ := h
    rfl
  · obtain ⟨v1, v2, M, o, lo, hi, rfl, tM, tO, g, go, ok, ok2, q⟩ := h
    obtain ⟨pM, us, rfl, hM, hk⟩ := id tM
    refine ⟨_, (pss_cons (ps_set (i := 2) sc__law_two_right.nd rfl (.inl rfl) (pe_c cput_behind hr (by decide) (by rfl) (pa_cons (pv 0) (pa_cons (pv 1) pa_nil))))
      (pss_cons (ps_if (pt_cmpR op_gt (pe_c claps_of hr (by decide) (by rfl) (pa_cons (pv 2) pa_nil)) (pe_op op_mulW (pe_c claps_of hr (by decide) (by rfl) (pa_cons (pv 0) pa_nil)) (pe_c claps_of hr (by decide) (by rfl) (pa_cons (pv 1) pa_nil))) (nomark _))
      (pss_one (ps_ret pe_bl))
      pss_nil)
      (pss_cons (ps_set (i := 3) sc__law_two_right.nd rfl (.inl rfl) (pe_c cput_behind hr (by decide) (by rfl) (pa_cons (pe_c c_law_over_turned hr (by decide) (by rfl) (pa_cons (pv 0) pa_nil)) (pa_cons (pe_c c_law_over_turned hr (by decide) (by rfl) (pa_cons (pv 1) pa_nil)) pa_nil))))
      (pss_cons (ps_if (pt_cmpR (op_neD (hd_of hr)) (pv 3) (pe_c c_law_over_turned hr (by decide) (by rfl) (pa_cons (pv 2) pa_nil)) (nomark _))
      (pss_one (ps_ret pe_bl))
      pss_nil)
      (pss_cons (ps_for PassesOwn.never rfl (pi_tup (pv 0)) (pg_tup rfl (pgs_cons (pg_name (i := 4) sc__law_two_right.nd rfl (.inl rfl)) (pgs_cons (pg_name (i := 5) sc__law_two_right.nd rfl (.inl rfl)) pgs_nil)))
      (pss_one (ps_if (pt_cmpR (op_neD (hd_of hr)) (pe_c cvalue_of hr (by decide) (by rfl) (pa_cons (pv 2) (pa_cons (pv 4) pa_nil))) (pe_c cvalue_of hr (by decide) (by rfl) (pa_cons (pv 1) (pa_cons (pv 5) pa_nil))) (nomark _))
        (pss_one (ps_ret pe_bl))
        pss_nil)))
      (pss_one (ps_ret pe_bl))))))), ?_⟩
    have gp := BM.put_good g go
    have bp : MB 1250 (BM.put M o) := fun k hk => ok.b3 k (BM.least_sub.subset hk)
    have lp : (BM.put M o).length ≤ 1000000 := Nat.le_trans BM.least_sub.length_le ok.l3
    walk_at "rd"
    refine ⟨_, _, M, o, lo, hi, rfl, tM, tO, g, go, ok, fun H1 v1 s1 t1 => ?_⟩
    have k1 := Keep.of s1
    walk_at "rd"
    refine ⟨_, BM.put M o, rfl, t1, by have := gp.two; omega, bp.mono (by decide), fun H2 s2 => ?_⟩
    have k2 := Keep.of s2
    have k12 := k1.trans k2
    walk_at "rd"
    refine ⟨_, M, rfl, tM.keep k12, by have := g.two; omega, ok.b1.mono (by decide), fun H3 s3 => ?_⟩
    have k3 := Keep.of s3
    have k13 := k12.trans k3
    walk_at "rd"
    refine ⟨_, o, rfl, tO.keep k13, by have := go.two; omega, ok.b2.mono (by decide), fun H4 s4 => ?_⟩
    have k4 := Keep.of s4
    have k14 := k13.trans k4
    have cm : CMulW (BM.laps M : Int) (BM.laps o : Int) := wmi (laps_lt ok.l1) (laps_lt ok.l2) (by decide) (by decide) (by decide)
    walk_at "rd"
    have ll := BM.law_laps g go
    have e1 : decide ((BM.laps M : Int) * (BM.laps o : Int) < (BM.laps (BM.put M o) : Int)) = false := decide_eq_false (by
      rw [← Int.natCast_mul]; omega)
    rw [e1]
    refine iteF ?_
    walk_at "rd"
    refine ⟨_, M, rfl, tM.keep k14, ok.l1, fun H5 v5 s5 t5 => ?_⟩
    have k5 := Keep.of s5
    walk_at "rd"
    refine ⟨_, o, rfl, (tO.keep k14).keep k5, ok.l2, fun H6 v6 s6 t6 => ?_⟩
    have k6 := Keep.of s6
    refine ⟨_, _, BM.ng M, BM.ng o, -hi, -lo, rfl, t5.keep k6, t6, BM.ng_good g, BM.ng_good go, ok2, fun H7 v7 s7 t7 => ?_⟩
    have k7 := Keep.of s7
    rw [BM.law_over g go] at t7
    have t17 := (((t1.keep k2).keep k3).keep k4).keep (k5.trans (k6.trans k7))
    walk_at "rd"
    refine ⟨_, BM.put M o, rfl, t17, lp, fun H8 v8 s8 t8 => ?_⟩
    have k8 := Keep.of s8
    refine ⟨_, _, (t7.keep k8).dp, t8.dp, dM_shaped _, dM_shaped _, ?_⟩
    rw [dM_refl, Bool.not_true]
    walk_at "rd"
    have k18 := k14.trans (k5.trans (k6.trans (k7.trans k8)))
    have s18 := s1.trans (s2.trans (s3.trans (s4.trans (s5.trans (s6.trans (s7.trans s8))))))
    have t18 := t17.keep k8
    refine ⟨⟨_, k18.sqT hM⟩, for_tup (K := K) (a := pM) (xs := us) (fun i σ H9 => ∃ (y4 y5 : Option V), σ = [some (.ref pM), some v2, some v1, some v7, y4, y5] ∧ Same H8 H9)
      ⟨none, none, rfl, Same.refl _⟩ (fun i σ H9 _ ⟨_, _, _, sm⟩ => (Keep.of sm).sqT (k18.sqT hM)) ?_ ?_⟩
    · rintro i x σ H9 hx ⟨y4, y5, rfl, sm⟩
      have hil : i < us.length := (List.getElem?_eq_some_iff.mp hx).1
      have ul := hk.length
      have gi : M[i]? = some M[i] := List.getElem?_eq_getElem (by omega)
      have k9 := Keep.of sm
      obtain ⟨x', gx, px, u1, u2, rfl, hp, f1, f2⟩ := ((hk.keep k18).keep k9).get gi
      have ex : x = .ref px := Option.some.inj (hx.symm.trans gx)
      subst ex
      have kM := BM.mem_at gi
      generalize M[i] = k at *
      have ta := g.at kM
      have tt := g.to k kM
      have bk := ok.b1 k kM
      refine ⟨px, _, rfl, hp, rfl, _, _, rfl, _, _, rfl, rfl, ?_⟩
      walk_at "rd"
      refine ⟨_, _, BM.put M o, k.1, lo, hi, 1250, 1250, rfl, t18.keep k9, f1, gp, bp, bk.1, by decide, ta.1, ta.2, fun Ha va sa qa => ?_⟩
      have ka := Keep.of sa
      rw [BM.put_evl g go ta.1 ta.2, g.knot kM] at qa
      walk_at "rd"
      refine ⟨_, _, o, k.2, lo, hi, 1250, 1250, rfl, ((tO.keep k18).keep k9).keep ka, f2.keep ka, go, ok.b2, bk.2, by decide, tt.1, tt.2, fun Hb' vb sb qb => ?_⟩
      have kb := Keep.of sb
      refine ⟨_, _, (qa.keep kb).dp, qb.dp, dR_shaped _, dR_shaped _, ?_⟩
      rw [dR_eqv, decide_eq_true rfl, Bool.not_true]
      walk_at "rd"
      exact ⟨_, _, rfl, sm.trans (sa.trans sb)⟩
    · rintro σ H9 ⟨y4, y5, rfl, sm⟩
      exact q H9 (s18.trans sm)
end
end BW
namespace BW
open PySem PySem.Spec PyProof.Rows L2
open TL
open BM (Mp)
/-! ### numbers as signs -/
def intL (i : Int) : List Nat := if i < 0 then 45 :: numL i.natAbs else numL i.natAbs
theorem tl_int (i : Int) : tl (Str.ofString (toString i)) = intL i := by
  unfold intL
  by_cases h : i < 0
  · rw [if_pos h, PyProof.Rows.toString_neg h, show (0 - i) = ((i.natAbs : Nat) : Int) by omega]
    rw [tl_ofString, String.toList_append, List.map_append, ← tl_ofString (toString ((i.natAbs : Nat) : Int)), tl_num]
    rfl
  · rw [if_neg h]
    have e : i = ((i.natAbs : Nat) : Int) := by omega
    rw [← tl_num i.natAbs, ← e]
theorem numL_first : ∀ (n : Nat), n ≠ 0 → ∃ c r, numL n = c :: r ∧ c ≠ 48 := by
  intro n
  induction n using Nat.strongRecOn with
  | _ n ih =>
    intro h0
    by_cases h : n < 10
    · exact ⟨48 + n, [], numL_lt h, by omega⟩
    · obtain ⟨c, r, e, hc⟩ := ih (n / 10) (by omega) (by omega)
      exact ⟨c, r ++ [48 + n % 10], by rw [numL_step (by omega), e]; rfl, hc⟩
theorem numL_size {n : Nat} (h : n < 2 ^ 1250) : (numL n).length ≤ 377 := numL_len (by decide) (Nat.lt_of_lt_of_le h (by decide +kernel))
theorem intL_size {i : Int} (h : i.natAbs < 2 ^ 1250) : (intL i).length ≤ 378 := by
  have := numL_size h
  unfold intL
  by_cases c : i < 0
  · rw [if_pos c, List.length_cons]; omega
  · rw [if_neg c]; omega
theorem log_ok {i : Int} (h : i.natAbs < 2 ^ 1250) : i.natAbs.log2 < 1920 := by
  by_cases z : i.natAbs = 0
  · rw [z]; decide
  · exact (Nat.log2_lt z).mpr (Nat.lt_of_lt_of_le h (Nat.pow_le_pow_right (by decide) (by decide)))
theorem intL_free {i : Int} {s : Nat} (h : s < 45 ∨ 57 < s ∨ (45 < s ∧ s < 48)) : s ∉ intL i := by
  unfold intL
  by_cases c : i < 0
  · rw [if_pos c]
    intro hm
    rcases List.mem_cons.mp hm with e | hm
    · omega
    · exact numL_free (by omega) hm
  · rw [if_neg c]
    exact numL_free (by omega)
/-- int(str(i)) -/
theorem int_back {a : Str} {i : Int} (e : tl a = intL i) (h : (intL i).length ≤ 640) : PySem.intText? a = some i := by
  have hl : a.length ≤ 4300 := by rw [len_tl, e]; omega
  unfold intL at e
  by_cases c : i < 0
  · rw [if_pos c] at e
    rw [intText_neg e (numL_digits _) (numL_ne _) hl, numL_val]
    congr 1; omega
  · rw [if_neg c] at e
    have e' : a.cps.toList = numL i.natAbs := e
    rw [intText_digits (by rw [e']; exact numL_digits _) (by rw [e']; exact numL_ne _) hl, e', numL_val]
    congr 1; omega
/-! ### fractions, knots, maps as texts -/
def shF (r : Rat) : Str := if (r.den : Int) = 1 then Str.ofString (toString r.num) else Str.ofString (toString r.num) ++ "/" ++ Str.ofString (toString (r.den : Int))
def shK (k : BM.Kn) : Str := shF k.1 ++ " " ++ shF k.2
def shM (M : Mp) : Str := Txt.join "\n" (M.map shK)
theorem tl_shF (r : Rat) : tl (shF r) = if r.den = 1 then intL r.num else intL r.num ++ 47 :: numL r.den := by
  unfold shF
  by_cases h : r.den = 1
  · rw [if_pos h, if_pos (by omega), tl_int]
  · rw [if_neg h, if_neg (by omega), tl_append, tl_append, tl_int, tl_num, List.append_assoc]
    rfl
theorem shF_free {r : Rat} {s : Nat} (h : s = 32 ∨ s = 10) : s ∉ tl (shF r) := by
  rw [tl_shF]
  by_cases c : r.den = 1
  · rw [if_pos c]; exact intL_free (by omega)
  · rw [if_neg c]
    intro hm
    rcases List.mem_append.mp hm with hm | hm
    · exact intL_free (by omega) hm
    · rcases List.mem_cons.mp hm with e | hm
      · omega
      · exact numL_free (by omega) hm
theorem shF_size {r : Rat} (h : BM.Hb 1250 r) : (shF r).length ≤ 756 := by
  have a := intL_size h.1
  rw [len_tl, tl_shF]
  by_cases c : r.den = 1
  · rw [if_pos c]; omega
  · rw [if_neg c, List.length_append, List.length_cons]
    have b := numL_size h.2
    omega
theorem tl_shK (k : BM.Kn) : tl (shK k) = tl (shF k.1) ++ 32 :: tl (shF k.2) := by
  unfold shK
  rw [tl_append, tl_append, List.append_assoc]
  rfl
theorem shK_free {k : BM.Kn} : 10 ∉ tl (shK k) := by
  rw [tl_shK]
  intro hm
  rcases List.mem_append.mp hm with hm | hm
  · exact shF_free (.inr rfl) hm
  · rcases List.mem_cons.mp hm with e | hm
    · omega
    · exact shF_free (.inr rfl) hm
theorem shK_size {k : BM.Kn} (h : BM.Hb 1250 k.1 ∧ BM.Hb 1250 k.2) : (shK k).length ≤ 1513 := by
  have a := shF_size h.1
  have b := shF_size h.2
  rw [len_tl] at a b ⊢
  rw [tl_shK, List.length_append, List.length_cons]
  omega
/-- a knot's line, cut at its gap -/
theorem split_shK (k : BM.Kn) : Txt.split (shK k) " " = [shF k.1, shF k.2] := by
  have e : shK k = Txt.join " " [shF k.1, shF k.2] := by
    rw [join_eq]
    refine ext_tl ?_
    rw [tl_join, tl_shK]
    rfl
  rw [e]
  exact split_join (s := 32) (S := []) rfl (by decide +kernel) (by simp) fun p hp => by
    rcases List.mem_cons.mp hp with e | hp
    · rw [e]; exact shF_free (.inl rfl)
    · rcases List.mem_cons.mp hp with e | hp
      · rw [e]; exact shF_free (.inl rfl)
      · cases hp
theorem split_shM {M : Mp} (h : M ≠ []) : Txt.split (shM M) "\n" = M.map shK :=
  split_join (s := 10) (S := []) rfl (by decide +kernel) (by simpa using h) fun p hp => by
    obtain ⟨k, _, rfl⟩ := List.mem_map.mp hp
    exact shK_free
theorem joinL_snoc (S x : List Nat) : ∀ {ps : List (List Nat)}, ps ≠ [] → joinL S ps ++ (S ++ x) = joinL S (ps ++ [x])
  | [], h => absurd rfl h
  | [p], _ => by
    show p ++ (S ++ x) = p ++ (S ++ x)
    rfl
  | p :: q :: r, _ => by
    have ih := joinL_snoc S x (ps := q :: r) (by simp)
    show (p ++ (S ++ joinL S (q :: r))) ++ (S ++ x) = p ++ (S ++ joinL S ((q :: r) ++ [x]))
    rw [← ih]
    simp only [List.append_assoc]
theorem split_shMx {M : Mp} (h : M ≠ []) : Txt.split (shM M ++ "\nx") "\n" = M.map shK ++ [("x" : Str)] := by
  have e : shM M ++ "\nx" = Txt.join "\n" (M.map shK ++ [("x" : Str)]) := by
    unfold shM
    rw [join_eq, join_eq]
    refine ext_tl ?_
    rw [tl_append, tl_join, tl_join, List.map_append]
    exact joinL_snoc [10] [120] (by simpa using h)
  rw [e]
  exact split_join (s := 10) (S := []) rfl (by decide +kernel) (by simp) fun p hp => by
    rcases List.mem_append.mp hp with hp | hp
    · obtain ⟨k, _, rfl⟩ := List.mem_map.mp hp
      exact shK_free
    · rw [List.mem_singleton.mp hp]
      decide +kernel
theorem sum_le {M : Mp} (h : ∀ k ∈ M, BM.Hb 1250 k.1 ∧ BM.Hb 1250 k.2) : ((M.map shK).map (·.length)).sum ≤ 1513 * M.length := by
  induction M with
  | nil => simp
  | cons k M ih =>
    have a := shK_size (h k (List.mem_cons_self ..))
    have b := ih fun z hz => h z (List.mem_cons_of_mem _ hz)
    simp only [List.map_cons, List.sum_cons, List.length_cons] at *
    omega
theorem join_size (y : Str) : ∀ (ps : List Str), (Txt.join y ps).length ≤ (ps.map (·.length)).sum + ps.length * y.length := by
  intro ps
  rw [join_eq, len_tl, tl_join]
  induction ps with
  | nil => exact Nat.zero_le _
  | cons p ps ih =>
    cases ps with
    | nil =>
      show (tl p).length ≤ _
      simp only [List.map_cons, List.sum_cons, List.length_cons, len_tl]
      omega
    | cons q r =>
      show (tl p ++ (tl y ++ joinL (tl y) ((q :: r).map tl))).length ≤ _
      rw [List.length_append, List.length_append]
      simp only [List.map_cons, List.sum_cons, List.length_cons, len_tl, Nat.add_mul, Nat.one_mul] at *
      omega
theorem shM_size {M : Mp} (h : ∀ k ∈ M, BM.Hb 1250 k.1 ∧ BM.Hb 1250 k.2) : (shM M).length ≤ 1514 * M.length := by
  have a := join_size "\n" (M.map shK)
  have b := sum_le h
  rw [List.length_map] at a
  have : ("\n" : Str).length = 1 := rfl
  rw [this] at a
  show (Txt.join "\n" (M.map shK)).length ≤ _
  omega
end BW
namespace BW
open PySem PySem.Spec PyProof.Rows L2
open BM (Hb Kn Mp)
local macro_rules | `(tactic| walk_at "rd") => `(tactic| repeat (first
  | (refine ⟨_, _, _, _, rfl, rfl, by first | (show SqT _ _ _ _; assumption) | (show SqL _ _ _ _; assumption) | (show SqA _ _ _ _; assumption), by first | rfl | assumption, ?_⟩)
  | (refine ⟨_, rfl, ?_⟩)
  | (refine ⟨_, _, rfl, rfl, (by assumption : CMulW _ _), ?_⟩)
  | (refine ⟨_, _, rfl, rfl, ?_⟩)))
open TL
abbrev s_fraction_shown : Stmt := topS 28
theorem sc_fraction_shown : FnScope ["fraction", "above", "below"] ["fraction"] (defScope s_fraction_shown) := ⟨rfl, rfl, rfl, by decide +kernel, rfl, by decide +kernel, by decide +kernel⟩
abbrev s_map_shown : Stmt := topS 29
theorem sc_map_shown : FnScope ["knots", "at", "to"] ["knots"] (defScope s_map_shown) := ⟨rfl, rfl, rfl, by decide +kernel, rfl, by decide +kernel, by decide +kernel⟩
abbrev s_is_figures : Stmt := topS 24
theorem sc_is_figures : FnScope ["word", "sign"] ["word"] (defScope s_is_figures) := ⟨rfl, rfl, rfl, by decide +kernel, rfl, by decide +kernel, by decide +kernel⟩
def spShownF (K : PySem.W.Frag) : Sp := fun vs H Q _ => ∃ (v : V) (r : Rat), vs = [v] ∧ Fr K H v r ∧ Hb 1250 r ∧ Q (.str (shF r)) H
def spShownM (K : PySem.W.Frag) : Sp := fun vs H Q _ => ∃ (v : V) (M : Mp), vs = [v] ∧ MpT K H v M ∧ MB 1250 M ∧ M.length ≤ 40 ∧ ∀ H', Same H H' → Q (.str (shM M)) H'
def spFig : Sp := fun vs H Q _ => ∃ (a : Str) (n : Nat), vs = [.str a] ∧ tl a = numL n ∧ n < 2 ^ 1250 ∧ ∀ H', Same H H' → Q (.bl true) H'
/-- over a text's signs -/
theorem lc_str {x : Str} {g : TG} {tt : TT} {te : TE} {vs : List Nat} {σ : L2.St} {H1 : Hp} {D : Addr} {Qd : Hp → Prop} (Pv : Nat → Hp → Prop) (h0 : Pv 0 (upd H1 D (.lst [])))
    (hs : ∀ i c H, (tl x)[i]? = some c → Pv i H → g (.str ⟨#[c]⟩) (wipe σ vs) H fun σ2 H2 => wipe σ2 vs = wipe σ vs ∧ tt σ2 H2 fun b H3 =>
      if b = true then te σ2 H3 fun y H4 => ∃ acc, H4 D = some (.lst acc) ∧ acc.length < sizeLine ∧ Pv (i + 1) (upd H4 D (.lst (acc ++ [y]))) else Pv (i + 1) H3) (hd : ∀ H, Pv (tl x).length H → Qd H) :
    ∃ W : Nat → Nat → Hp → Prop, (∃ m, W 0 m (upd H1 D (.lst []))) ∧ ∀ i m H, W i m H →
      ((Its x).stop i H ∧ Qd H) ∨ ((Its x).go i H ∧ ∃ Nx : Hp → Prop, (∀ H', Nx H' → ∃ m', m' < m ∧ W (i + 1) m' H') ∧ ∀ v H', (Its x).yld i H v H' → g v (wipe σ vs) H' fun σ2 H2 => wipe σ2 vs = wipe σ vs ∧ tt σ2 H2 fun b H3 =>
        if b = true then te σ2 H3 fun y H4 => ∃ acc, H4 D = some (.lst acc) ∧ acc.length < sizeLine ∧ Nx (upd H4 D (.lst (acc ++ [y]))) else Nx H3) := by
  have ln : (tl x).length = x.cps.size := by simp
  refine ⟨fun i m H => m = x.cps.size - i ∧ i ≤ x.cps.size ∧ Pv i H, ⟨x.cps.size, by simp, Nat.zero_le _, h0⟩, ?_⟩
  rintro i m H ⟨rfl, hi, p⟩
  by_cases hlt : i < x.cps.size
  · refine .inr ⟨hlt, Pv (i + 1), fun H' p' => ⟨x.cps.size - (i + 1), by omega, rfl, hlt, p'⟩, fun v H' y => ?_⟩
    obtain ⟨rfl, c, ec, rfl⟩ := y
    exact hs i c _ (by simpa using ec) p
  · have e : i = x.cps.size := by omega
    subst e
    exact .inl ⟨Nat.le_refl _, hd H (by rw [ln]; exact p)⟩
theorem fig_one {c n : Nat} (h : c ∈ numL n) : c ∈ (("0123456789" : Str)).cps.toList := by
  have r := numL_digits n c h
  have e : (("0123456789" : Str)).cps.toList = [48, 49, 50, 51, 52, 53, 54, 55, 56, 57] := by decide +kernel
  rw [e]
  simp only [List.mem_cons, List.not_mem_nil, or_false]
  omega
theorem all_rep (n : Nat) : (List.replicate n true).all id = true := by simp
section
variable {P : Program} {w : World} {K : PySem.W.Frag} {mg : Str → Option Value} {base : Heap}
theorem ok_fraction_shown (T : Tx mg) (D : DefAt K mg "fraction_shown" s_fraction_shown ["fraction"]) : Cal P w K mg base 1 "fraction_shown" (spShownF K) := by
  refine cal_of D sc_fraction_shown (fun vs H Q E h => ?_) (fun f cdv A outer s H vs Q E hr h => ?_)
  · obtain ⟨v, r, rfl, _⟩ := h
    rfl
  · obtain ⟨v, r, rfl, f, hb, q⟩ := h
    obtain ⟨p, rfl, hp⟩ := f
    refine ⟨_, (pss_cons (ps_asg (pv 0) (pg_tup rfl (pgs_cons (pg_name (i := 1) sc_fraction_shown.nd rfl (.inl rfl)) (pgs_cons (pg_name (i := 2) sc_fraction_shown.nd rfl (.inl rfl)) pgs_nil))))
      (pss_cons (ps_if (pt_cmpR op_eq (pv 2) pe_int (nomark _))
      (pss_one (ps_ret (pe_callTy call_str_int (by rfl) T.str (by decide +kernel) (pa_cons (pv 1) pa_nil))))
      pss_nil)
      (pss_one (ps_ret (pe_op op_add_str (pe_op op_add_str (pe_callTy call_str_int (by rfl) T.str (by decide +kernel) (pa_cons (pv 1) pa_nil)) pe_str) (pe_callTy call_str_int (by rfl) T.str (by decide +kernel) (pa_cons (pv 2) pa_nil))))))), ?_⟩
    have l1 := shF_size hb
    refine ⟨_, rfl, p, _, rfl, hp, rfl, _, _, rfl, _, _, rfl, rfl, ?_⟩
    refine ⟨_, rfl, rfl, _, rfl, ite2 (fun c => ?_) (fun c => ?_)⟩
    · have c' : (r.den : Int) = 1 := by simpa using c
      have e : shF r = Str.ofString (toString r.num) := by unfold shF; rw [if_pos c']
      rw [e] at q
      exact ⟨_, rfl, _, rfl, log_ok hb.1, q⟩
    · have c' : ¬ (r.den : Int) = 1 := fun z => c (by rw [z]; rfl)
      have e : shF r = Str.ofString (toString r.num) ++ "/" ++ Str.ofString (toString (r.den : Int)) := by unfold shF; rw [if_neg c']
      rw [e] at q l1
      have s1 : sizeLine = 16777216 := sizeLine_eq
      have l2 : (Str.ofString (toString r.num) ++ "/" : Str).length + (Str.ofString (toString (r.den : Int))).length = (Str.ofString (toString r.num) ++ "/" ++ Str.ofString (toString (r.den : Int)) : Str).length := by
        rw [len_tl, len_tl, len_tl, tl_append _ (Str.ofString (toString (r.den : Int))), List.length_append]
      have l3 : (Str.ofString (toString r.num)).length + ("/" : Str).length = (Str.ofString (toString r.num) ++ "/" : Str).length := by
        rw [len_tl, len_tl, len_tl, tl_append, List.length_append]
      refine ⟨_, rfl, _, rfl, log_ok hb.1, ?_⟩
      refine ⟨_, _, rfl, rfl, by show (Str.ofString (toString r.num)).length + ("/" : Str).length ≤ sizeLine; omega, ?_⟩
      refine ⟨_, rfl, _, rfl, log_ok (show ((r.den : Int)).natAbs < 2 ^ 1250 from hb.2), ?_⟩
      exact ⟨_, _, rfl, rfl, by show (Str.ofString (toString r.num) ++ "/" : Str).length + (Str.ofString (toString (r.den : Int))).length ≤ sizeLine; omega, q⟩
theorem ok_map_shown (T : Tx mg) (D : DefAt K mg "map_shown" s_map_shown ["knots"]) (cfraction_shown : Cal P w K mg base 1 "fraction_shown" (spShownF K)) : Cal P w K mg base 2 "map_shown" (spShownM K) := by
  refine cal_of D sc_map_shown (fun vs H Q E h => ?_) (fun f cdv A outer s H vs Q E hr h => ?_)
  · obtain ⟨v, M, rfl, _⟩ := h
    rfl
  · obtain ⟨v, M, rfl, tM, mb, big, q⟩ := h
    obtain ⟨pM, us, rfl, hM, hk⟩ := id tM
    refine ⟨_, (pss_one (ps_ret (pe_join pe_str (pe_lc (own := [("at", 1), ("to", 2)]) (g := gTup K 2 (gCons (gName 1) (gCons (gName 2) gNil))) (tt := tYes) rfl sc_map_shown.nd (pi_tup (pv 0)) (blkOk_by (N := ["knots", "at", "to"]) (sc := defScope s_map_shown) (by decide +kernel)) (fun _ _ _ _ _ => (pg_tup rfl (pgs_cons (pg_name (i := 1) sc_map_shown.nd rfl (.inl rfl)) (pgs_cons (pg_name (i := 2) sc_map_shown.nd rfl (.inl rfl)) pgs_nil)))) (fun _ _ _ _ _ => pts_nil) (fun _ _ _ _ _ => (pe_op op_add_str (pe_op op_add_str (pe_c cfraction_shown hr (by decide) (by rfl) (pa_cons (pv 1) pa_nil)) pe_str) (pe_c cfraction_shown hr (by decide) (by rfl) (pa_cons (pv 2) pa_nil)))))))), ?_⟩
    have ul := hk.length
    have s1 : sizeLine = 16777216 := sizeLine_eq
    refine ⟨⟨_, rfl⟩, _, rfl, pM, rfl, ⟨_, hM⟩, fun D hD => ?_⟩
    refine lc_tup (K := K) (a := pM) (xs := us) (fun i H1 => Same H H1 ∧ H1 D = some (.lst (((M.take i).map shK).map V.str))) ⟨same_upd hD, upd_same⟩ (fun i H1 _ ⟨sm, _⟩ => (Keep.of sm).sqT hM) ?_ ?_
    · rintro i x H1 hx ⟨sm, eD⟩
      have hil : i < us.length := (List.getElem?_eq_some_iff.mp hx).1
      have gi : M[i]? = some M[i] := List.getElem?_eq_getElem (by omega)
      obtain ⟨x', gx, px, w1, w2, rfl, hp, f1, f2⟩ := (hk.keep (Keep.of sm)).get gi
      have ex : x = .ref px := Option.some.inj (hx.symm.trans gx)
      subst ex
      have tk : (M.take (i + 1)).map shK = (M.take i).map shK ++ [shK M[i]] := by rw [List.take_add_one, gi, List.map_append]; rfl
      have kb := mb M[i] (BM.mem_at gi)
      generalize M[i] = k at *
      have z1 := shF_size kb.1
      have z2 := shF_size kb.2
      have l3 : (shF k.1).length + (" " : Str).length = (shF k.1 ++ " " : Str).length := by
        rw [len_tl, len_tl, len_tl, tl_append, List.length_append]
      have l4 : (" " : Str).length = 1 := rfl
      refine ⟨px, _, rfl, hp, rfl, _, _, rfl, _, _, rfl, rfl, rfl, ?_⟩
      refine ⟨_, rfl, _, _, rfl, f1, kb.1, ?_⟩
      refine ⟨_, _, rfl, rfl, by show (shF k.1).length + (" " : Str).length ≤ sizeLine; omega, ?_⟩
      refine ⟨_, rfl, _, _, rfl, f2, kb.2, ?_⟩
      refine ⟨_, _, rfl, rfl, by show (shF k.1 ++ " " : Str).length + (shF k.2).length ≤ sizeLine; omega, ?_⟩
      refine ⟨_, eD, small7 (by rw [List.length_map, List.length_map, List.length_take]; omega), Same.upd_new sm hD, ?_⟩
      rw [upd_same, tk, List.map_append]
      rfl
    · rintro H1 ⟨sm, eD⟩
      rw [List.take_of_length_le (by omega)] at eD
      have sz := sum_le mb
      refine ⟨_, D, M.map shK, rfl, rfl, .inl (SqL.of eD), ?_, q _ sm⟩
      rw [List.length_map, show ("\n" : Str).length = 1 from rfl]
      omega
theorem ok_is_figures (T : Tx mg) (gF : ∃ t, mg "FIGURES" = some (.str "0123456789" t)) (D : DefAt K mg "is_figures" s_is_figures ["word"]) : Cal P w K mg base 1 "is_figures" spFig := by
  refine cal_of D sc_is_figures (fun vs H Q E h => ?_) (fun f cdv A outer s H vs Q E hr h => ?_)
  · obtain ⟨a, n, rfl, _⟩ := h
    rfl
  · obtain ⟨a, n, rfl, ea, hn, q⟩ := h
    obtain ⟨tF, gF⟩ := gF
    refine ⟨_, (pss_cons (ps_if (PW.pt (pw_or (pt_cmpR op_eq (pv 0) pe_str (nomark _)) (pw_or1 (pt_not (pt_val (pe_callB (cr_all rfl) (by rfl) T.all (by decide +kernel) (pa_cons (pe_lc (own := [("sign", 1)]) (g := gName 1) (tt := tYes) rfl sc_is_figures.nd (pi_str (pv 0)) (blkOk_by (N := ["word", "sign"]) (sc := defScope s_is_figures) (by decide +kernel)) (fun _ _ _ _ _ => (pg_name (i := 1) sc_is_figures.nd rfl (.inl rfl))) (fun _ _ _ _ _ => pts_nil) (fun _ _ _ _ _ => (pe_cmpR op_in_sign (pv 1) (pe_glob (v := .str "0123456789") (by rfl) gF ⟨_, rfl⟩) rfl))) pa_nil)))))))
      (pss_one (ps_ret pe_bl))
      pss_nil)
      (pss_one (ps_ret (pe_or (pe_cmpR op_eq (pv 0) pe_str (nomark _)) (pe_one (pe_cmpR op_ne (pe_ix ix_str (pv 0) pe_int (fun _ _ => rfl)) pe_str (nomark _))))))), ?_⟩
    have l1 := numL_size hn
    have ln := numL_ne n
    have la : a.length = (numL n).length := by rw [len_tl, ea]
    have s0 : sizeLine = 16777216 := sizeLine_eq
    have ne : ¬ (a = "") := fun z => ln (by rw [← ea, z]; rfl)
    refine ⟨_, rfl, rfl, _, rfl, ?_⟩
    rw [decide_eq_false (fun z : V.str a = V.str "" => ne (by injection z))]
    refine iteF ?_
    refine ⟨_, rfl, a, rfl, fun D hD => ?_⟩
    refine lc_str (x := a) (fun i H1 => Same H H1 ∧ H1 D = some (.lst ((List.replicate i true).map V.bl)) ∧ i ≤ (tl a).length) ⟨same_upd hD, upd_same, Nat.zero_le _⟩ ?_ ?_
    · rintro i c H1 hc ⟨sm, eD, _⟩
      have hil : i < (tl a).length := (List.getElem?_eq_some_iff.mp hc).1
      rw [ea] at hc hil
      have hm := fig_one (List.mem_of_getElem? hc)
      refine ⟨rfl, _, rfl, c, _, rfl, rfl, ?_⟩
      rw [decide_eq_true hm]
      refine ⟨_, eD, small7 (by rw [List.length_map, List.length_replicate]; omega), Same.upd_new sm hD, ?_, by rw [ea]; exact hil⟩
      rw [upd_same, List.replicate_succ', List.map_append]
      rfl
    · rintro H1 ⟨sm, eD, _⟩
      refine ⟨D, _, rfl, SqL.of eD, ?_⟩
      rw [all_rep]
      refine ⟨true, rfl, iteF ?_⟩
      refine ⟨_, rfl, rfl, ?_⟩
      refine ⟨_, rfl, ite2 (fun c => q _ sm) (fun c => ?_)⟩
      have n0 : n ≠ 0 := fun z => c (decide_eq_true (by
        have e : a = "0" := ext_tl (by rw [ea, z]; decide +kernel)
        rw [e]))
      obtain ⟨d, r, ed, hd⟩ := numL_first n n0
      have at0 : atI a.cps.toList 0 = some d := atI_nat (j := 0) (by
        have : a.cps.toList = d :: r := ea.trans ed
        rw [this]
        rfl)
      refine ⟨_, rfl, a, 0, d, rfl, rfl, by omega, at0, rfl, ?_⟩
      rw [decide_eq_false (fun z : V.str ⟨#[d]⟩ = V.str "0" => hd (by
        have z1 : (⟨#[d]⟩ : Str) = "0" := by injection z
        have z2 : tl (⟨#[d]⟩ : Str) = [48] := by rw [z1]; decide +kernel
        injection z2))]
      exact q _ sm
end
end BW
namespace BW
open PySem PySem.Spec PyProof.Rows L2
open BM (Hb Kn Mp)
local macro_rules | `(tactic| walk_at "rd") => `(tactic| repeat (first
  | (refine ⟨_, _, _, _, rfl, rfl, by first | (show SqT _ _ _ _; assumption) | (show SqL _ _ _ _; assumption) | (show SqA _ _ _ _; assumption), by first | rfl | assumption, ?_⟩)
  | (refine ⟨_, rfl, ?_⟩)
  | (refine ⟨_, _, rfl, rfl, (by assumption : CMulW _ _), ?_⟩)
  | (refine ⟨_, _, rfl, rfl, ?_⟩)))
open TL
abbrev s_read_fraction : Stmt := topS 25
theorem sc_read_fraction : FnScope ["word", "above", "mark", "below", "figures"] ["word"] (defScope s_read_fraction) := ⟨rfl, rfl, rfl, by decide +kernel, rfl, by decide +kernel, by decide +kernel⟩
abbrev s_read_knot : Stmt := topS 26
theorem sc_read_knot : FnScope ["line", "words", "knot"] ["line"] (defScope s_read_knot) := ⟨rfl, rfl, rfl, by decide +kernel, rfl, by decide +kernel, by decide +kernel⟩
def spReadF (K : PySem.W.Frag) : Sp := fun vs H Q _ => ∃ r : Rat, vs = [.str (shF r)] ∧ Hb 1250 r ∧ ∀ H' v, Same H H' → Fr K H' v r → Q v H'
/-- a knot's line, or the line x -/
def spReadK (K : PySem.W.Frag) : Sp := fun vs H Q _ => (∃ k : Kn, vs = [.str (shK k)] ∧ KB 1250 k ∧ ∀ H' v, Same H H' → Kt K H' v k → Q v H') ∨ (vs = [.str "x"] ∧ ∀ H', Same H H' → Q .non H')
/-- None in a tuple of tuples -/
def rNoneInT (K : PySem.W.Frag) : R2 := fun x y H Q => ∃ p xs, x = .non ∧ y = .ref p ∧ SqT K H p xs ∧ (∀ z ∈ xs, ∃ a ys, z = .ref a ∧ SqT K H a ys) ∧ Q (.bl false) H
section
variable {X : Cx}
theorem tups_none {A : Around} {pins : List (Addr × Obj)} {σ : L2.St} {H : Hp} {s : Shared} (I : Inv X pins σ H s) (hu : A.units < cLine) : ∀ {xs : List V} {us : List Value}, Vals xs us → (∀ z ∈ xs, ∃ a ys, z = .ref a ∧ SqT X.K H a ys) → ∀ u ∈ us, SeqAt.EqAt A s u .none false
  | _, _, .nil, _ => fun u h => nomatch h
  | y :: xs, u :: us, .cons r t, f => fun u' h => by
    rcases List.mem_cons.mp h with e | h
    · subst e
      obtain ⟨a, ys, rfl, hy⟩ := f y (List.mem_cons_self ..)
      obtain ⟨its, _, ht, _⟩ := I.tuple hy
      cases r
      exact SeqAt.EqAt.tuple_none ⟨_, ht.choose_spec.1, ht.choose_spec.2.1, _, ht.choose_spec.2.2.choose_spec⟩ hu
    · exact tups_none I hu t (fun z hz => f z (List.mem_cons_of_mem _ hz)) u' h
theorem op_noneInT (hu : X.A.units + 64 < cLine) : OpR X (compareOp .In) (rNoneInT X.K) := by
  intro pins s σ H x y v u Q I rx ry h
  obtain ⟨p, xs, rfl, rfl, hq, f, q⟩ := h
  cases rx
  cases ry
  obtain ⟨its, rv, hl, _⟩ := I.tuple hq
  have hu1 : X.A.in1.units < cLine := by show X.A.units + 1 < cLine; omega
  refine SeqAt.in_tupleAt (fun _ => false) (items := its.toArray) hl (fun z hz => tups_none I hu1 rv f z (by simpa using hz)) ⟨.bl _, H, I, rfl, ?_⟩
  rw [show (its.toArray.any fun _ => false) = false by simp]
  exact q
end
theorem cut_s1 (z : Str) : tl (cutS z none (some 1)) = (tl z).take 1 := by
  unfold cutS
  rw [show HT.sIx z.length z.length (some 1) = min 1 z.length from HT.sIx_nat z.length z.length 1, HT.sIx_none, tl_mk, List.drop_zero, Nat.sub_zero]
  rw [len_tl]
  cases h : tl z with
  | nil => rw [show z.cps.toList = tl z from rfl, h]; rfl
  | cons c r =>
    rw [show z.cps.toList = tl z from rfl, h, List.length_cons, show min 1 (r.length + 1) = 1 by omega]
theorem cut_s2 (z : Str) : tl (cutS z (some 1) none) = (tl z).drop 1 := by
  unfold cutS
  rw [show HT.sIx z.length 0 (some 1) = min 1 z.length from HT.sIx_nat z.length 0 1, HT.sIx_none, tl_mk, len_tl, show z.cps.toList = tl z from rfl]
  cases h : tl z with
  | nil => rfl
  | cons c r =>
    rw [List.length_cons, show min 1 (r.length + 1) = 1 by omega]
    exact List.take_of_length_le (by simp)
theorem str_ne {x y : Str} (h : tl x ≠ tl y) : ¬ V.str x = V.str y := fun z => h (by
  have z1 : x = y := by injection z
  rw [z1])
theorem tl_minus : tl ("-" : Str) = [45] := by decide +kernel
theorem tl_minus0 : tl ("-0" : Str) = [45, 48] := by decide +kernel
theorem tl_zero : tl ("0" : Str) = [48] := by decide +kernel
theorem intL_not0 {i : Int} : intL i ≠ [45, 48] := by
  unfold intL
  by_cases c : i < 0
  · rw [if_pos c]
    intro h
    have h2 : numL i.natAbs = [48] := by injection h
    have := numL_inj (h2.trans (show [48] = numL 0 by decide +kernel))
    omega
  · rw [if_neg c]
    intro h
    have := numL_free (n := i.natAbs) (s := 45) (by omega)
    rw [h] at this
    exact this (by simp)
theorem intL_first {i : Int} : (intL i).take 1 = [45] ↔ i < 0 := by
  unfold intL
  by_cases c : i < 0
  · rw [if_pos c]; simp [c]
  · rw [if_neg c]
    refine ⟨fun h => ?_, fun h => absurd h c⟩
    have := numL_free (n := i.natAbs) (s := 45) (by omega)
    exact absurd (List.mem_of_mem_take (h ▸ List.mem_singleton.mpr rfl)) this
/-- what word.partition('/') gives -/
theorem part_shF (r : Rat) : Txt.partition (shF r) "/" = (Str.ofString (toString r.num), if r.den = 1 then Str.empty else "/", if r.den = 1 then Str.empty else Str.ofString (toString (r.den : Int))) := by
  unfold shF
  by_cases c : r.den = 1
  · rw [if_pos (by omega), if_pos c, if_pos c]
    exact partition_none (s := 47) (S := []) (by decide +kernel) (by rw [tl_int]; exact intL_free (by omega))
  · rw [if_neg (by omega), if_neg c, if_neg c]
    exact partition_app (s := 47) (S := []) (by decide +kernel) (by rw [tl_int]; exact intL_free (by omega))
section
variable {P : Program} {w : World} {K : PySem.W.Frag} {mg : Str → Option Value} {base : Heap}
theorem ok_read_fraction (T : Tx mg) (D : DefAt K mg "read_fraction" s_read_fraction ["word"]) (cis_figures : Cal P w K mg base 1 "is_figures" spFig) (cfrac : Cal P w K mg base 1 "frac" (spFrac K)) : Cal P w K mg base 2 "read_fraction" (spReadF K) := by
  refine cal_of D sc_read_fraction (fun vs H Q E h => ?_) (fun f cdv A outer s H vs Q E hr h => ?_)
  · obtain ⟨r, rfl, _⟩ := h
    rfl
  · obtain ⟨r, rfl, hb, q⟩ := h
    refine ⟨_, (pss_cons (ps_asg (pe_partition (pv 0) pe_str) (pg_tup rfl (pgs_cons (pg_name (i := 1) sc_read_fraction.nd rfl (.inl rfl)) (pgs_cons (pg_name (i := 2) sc_read_fraction.nd rfl (.inl rfl)) (pgs_cons (pg_name (i := 3) sc_read_fraction.nd rfl (.inl rfl)) pgs_nil)))))
      (pss_cons (ps_set (i := 4) sc_read_fraction.nd rfl (.inl rfl) (pv 1))
      (pss_cut (ps_if (pt_cmpR op_eq (pe_slice sl_str (pv 1) po_none (po_some pe_int)) pe_str (nomark _))
      (pss_one (ps_set (i := 4) sc_read_fraction.nd rfl (.inl rfl) (pe_slice sl_str (pv 1) (po_some pe_int) po_none)))
      pss_nil)
      (pss_cons (ps_if (PW.pt (pw_or (pt_not (pt_val (pe_c cis_figures hr (by decide) (by rfl) (pa_cons (pv 4) pa_nil)))) (pw_or1 (pt_cmpR op_eq (pv 1) pe_str (nomark _)))))
      (pss_one (ps_ret pe_non))
      pss_nil)
      (pss_cons (ps_if (pt_cmpR op_eq (pv 2) pe_str (nomark _))
      (pss_one (ps_ret (pe_tup (pa_cons (pe_callTy call_int_str (by rfl) T.int (by decide +kernel) (pa_cons (pv 1) pa_nil)) (pa_cons pe_int pa_nil)))))
      pss_nil)
      (pss_cons (ps_if (PW.pt (pw_or (pt_not (pt_val (pe_c cis_figures hr (by decide) (by rfl) (pa_cons (pv 3) pa_nil)))) (pw_or1 (pt_cmpR op_eq (pv 3) pe_str (nomark _)))))
      (pss_one (ps_ret pe_non))
      pss_nil)
      (pss_one (ps_ret (pe_c cfrac hr (by decide) (by rfl) (pa_cons (pe_callTy call_int_str (by rfl) T.int (by decide +kernel) (pa_cons (pv 1) pa_nil)) (pa_cons (pe_callTy call_int_str (by rfl) T.int (by decide +kernel) (pa_cons (pv 3) pa_nil)) pa_nil))))))))))), ?_⟩
    have l1 := shF_size hb
    have s0 : sizeLine = 16777216 := sizeLine_eq
    refine ⟨_, rfl, ⟨_, rfl⟩, _, _, rfl, rfl, by decide +kernel, by omega, fun pt hpt => ?_⟩
    rw [part_shF]
    have hl := intL_size hb.1
    have ta := tl_int r.num
    generalize Str.ofString (toString r.num) = ab at *
    have lab : ab.length ≤ 378 := by rw [len_tl, ta]; exact hl
    have sm := same_upd (o := .tup [.str ab, .str (if r.den = 1 then Str.empty else "/"), .str (if r.den = 1 then Str.empty else Str.ofString (toString (r.den : Int)))]) hpt
    refine ⟨pt, _, rfl, .inl (.inl upd_same), rfl, _, _, rfl, _, _, rfl, _, _, rfl, rfl, ?_⟩
    generalize upd H pt (.tup [.str ab, .str (if r.den = 1 then Str.empty else "/"), .str (if r.den = 1 then Str.empty else Str.ofString (toString (r.den : Int)))]) = H1 at *
    refine ⟨_, rfl, fun σ H2 => H2 = H1 ∧ ∃ fg : Str, σ = [some (.str (shF r)), some (.str ab), some (.str (if r.den = 1 then Str.empty else "/")), some (.str (if r.den = 1 then Str.empty else Str.ofString (toString (r.den : Int)))), some (.str fg)] ∧ tl fg = numL r.num.natAbs, ?_, ?_⟩
    · refine ⟨_, rfl, _, rfl, ab, rfl, by omega, rfl, _, rfl, ite2 (fun c => ?_) (fun c => ?_)⟩
      · have c1 : tl (cutS ab none (some 1)) = tl ("-" : Str) := by
          have z := of_decide_eq_true c
          have z1 : cutS ab none (some 1) = "-" := by injection z
          rw [z1]
        rw [cut_s1, tl_minus, ta] at c1
        have lt := intL_first.mp c1
        refine ⟨_, rfl, _, rfl, ab, rfl, by omega, rfl, _, rfl, ?_⟩
        rw [cut_s2, ta]
        unfold intL
        rw [if_pos lt]
        rfl
      · refine ⟨rfl, ab, rfl, ?_⟩
        have ge : ¬ r.num < 0 := fun lt => c (decide_eq_true (by
          have e : cutS ab none (some 1) = "-" := ext_tl (by rw [cut_s1, ta, tl_minus]; exact intL_first.mpr lt)
          rw [e]))
        rw [ta]
        unfold intL
        rw [if_neg ge]
    · rintro σ H2 ⟨rfl, fg, rfl, efg⟩
      refine ⟨_, rfl, fg, _, rfl, efg, hb.1, fun H3 s3 => ?_⟩
      refine ⟨true, rfl, iteF ?_⟩
      refine ⟨_, rfl, rfl, _, rfl, ?_⟩
      rw [decide_eq_false (str_ne (x := ab) (y := "-0") (by rw [ta, tl_minus0]; exact intL_not0))]
      refine iteF ?_
      have sm3 := sm.trans s3
      have ib := int_back ta (by omega)
      by_cases c : r.den = 1
      · simp only [if_pos c]
        refine ⟨_, rfl, rfl, _, rfl, ?_⟩
        rw [decide_eq_true (show V.str Str.empty = V.str "" by congr 1)]
        refine iteT ?_
        refine ⟨_, rfl, ab, r.num, rfl, ib, by omega, by show 2 ≤ sizeLine; decide, fun p hp => ?_⟩
        have s4 := same_upd (o := .tup [.int r.num, .int 1]) hp
        exact q _ _ (sm3.trans s4) ⟨p, rfl, by rw [c]; exact .inl (.inl upd_same)⟩
      · simp only [if_neg c]
        have d0 := r.den_pos
        have tb := tl_num r.den
        generalize Str.ofString (toString (r.den : Int)) = bl at *
        have lb : bl.length ≤ 377 := by rw [len_tl, tb]; exact numL_size hb.2
        refine ⟨_, rfl, rfl, _, rfl, ?_⟩
        rw [decide_eq_false (str_ne (x := "/") (y := "") (by decide +kernel))]
        refine iteF ?_
        refine ⟨_, rfl, bl, _, rfl, tb, hb.2, fun H4 s4 => ?_⟩
        refine ⟨true, rfl, iteF ?_⟩
        refine ⟨_, rfl, rfl, _, rfl, ?_⟩
        rw [decide_eq_false (str_ne (x := bl) (y := "0") (by
          rw [tb, tl_zero]
          intro z
          have := numL_inj (z.trans (show [48] = numL 0 by decide +kernel))
          omega))]
        refine iteF ?_
        have ib2 : PySem.intText? bl = some (r.den : Int) := int_back (i := (r.den : Int)) (by rw [tb]; unfold intL; rw [if_neg (by omega)]; rfl) (by
          unfold intL
          rw [if_neg (by omega)]
          have := numL_size hb.2
          show (numL r.den).length ≤ 640
          omega)
        refine ⟨_, rfl, ab, r.num, rfl, ib, by omega, _, rfl, bl, (r.den : Int), rfl, ib2, by omega, ?_⟩
        refine ⟨_, _, rfl, by omega, Nat.lt_of_lt_of_le hb.2 (Nat.pow_le_pow_right (by decide) (by decide)), fun H5 v s5 f5 => ?_⟩
        rw [Rat.num_divInt_den] at f5
        exact q _ _ (sm3.trans (s4.trans s5)) f5
theorem ok_read_knot (T : Tx mg) (D : DefAt K mg "read_knot" s_read_knot ["line"]) (cread_fraction : Cal P w K mg base 2 "read_fraction" (spReadF K)) : Cal P w K mg base 3 "read_knot" (spReadK K) := by
  refine cal_of D sc_read_knot (fun vs H Q E h => ?_) (fun f cdv A outer s H vs Q E hr h => ?_)
  · rcases h with ⟨k, rfl, _⟩ | ⟨rfl, _⟩
    · rfl
    · rfl
  · have s0 : sizeLine = 16777216 := sizeLine_eq
    refine ⟨_, (pss_cons (ps_set (i := 1) sc_read_knot.nd rfl (.inl rfl) (pe_split (pv 0) pe_str))
      (pss_cons (ps_if (pt_cmpR op_ne (pe_callB call_len_seq (by rfl) T.len (by decide +kernel) (pa_cons (pv 1) pa_nil)) pe_int (nomark _))
      (pss_one (ps_ret pe_non))
      pss_nil)
      (pss_cons (ps_set (i := 2) sc_read_knot.nd rfl (.inl rfl) (pe_tup (pa_cons (pe_c cread_fraction hr (by decide) (by rfl) (pa_cons (pe_ix ix_list (pv 1) pe_int (fun _ _ => rfl)) pa_nil)) (pa_cons (pe_c cread_fraction hr (by decide) (by rfl) (pa_cons (pe_ix ix_list (pv 1) pe_int (fun _ _ => rfl)) pa_nil)) pa_nil))))
      (pss_cons (ps_if (pt_cmpR (op_noneInT (hd_of hr)) pe_non (pv 2) rfl)
      (pss_one (ps_ret pe_non))
      pss_nil)
      (pss_one (ps_ret (pv 2))))))), ?_⟩
    rcases h with ⟨k, rfl, kb, q⟩ | ⟨rfl, q⟩
    · have lk := shK_size kb
      refine ⟨_, rfl, ⟨_, rfl⟩, _, _, rfl, rfl, by decide +kernel, by omega, fun l hl => ?_⟩
      rw [split_shK]
      have s1 := same_upd (o := .lst ([shF k.1, shF k.2].map V.str)) hl
      have e1 : (upd H l (.lst ([shF k.1, shF k.2].map V.str))) l = some (.lst [.str (shF k.1), .str (shF k.2)]) := upd_same
      generalize upd H l (.lst ([shF k.1, shF k.2].map V.str)) = H1 at *
      refine ⟨_, rfl, l, _, rfl, .inl (SqL.of e1), rfl, _, rfl, ?_⟩
      rw [decide_eq_true (show V.int (([V.str (shF k.1), V.str (shF k.2)].length : Nat) : Int) = V.int 2 from rfl), Bool.not_true]
      refine iteF ?_
      refine ⟨_, rfl, l, _, 0, _, rfl, rfl, SqL.of e1, atI_nat (j := 0) rfl, ?_⟩
      refine ⟨k.1, rfl, kb.1, fun H2 v1 s2 f1 => ?_⟩
      refine ⟨_, rfl, l, _, 1, _, rfl, rfl, SqL.of (s2 _ _ e1), atI_nat (j := 1) rfl, ?_⟩
      refine ⟨k.2, rfl, kb.2, fun H3 v2 s3 f2 => ?_⟩
      refine ⟨by show 2 ≤ sizeLine; decide, fun p hp => ?_⟩
      have s4 := same_upd (o := .tup [v1, v2]) hp
      have k4 := Keep.of s4
      have f1' := (f1.keep (Keep.of s3)).keep k4
      have f2' := f2.keep k4
      have t : Kt K (upd H3 p (.tup [v1, v2])) (.ref p) k := by
        obtain ⟨p1, rfl, h1⟩ := f1'
        obtain ⟨p2, rfl, h2⟩ := f2'
        exact ⟨p, _, _, rfl, .inl (.inl upd_same), ⟨p1, rfl, h1⟩, ⟨p2, rfl, h2⟩⟩
      have hp4 : SqT K (upd H3 p (.tup [v1, v2])) p [v1, v2] := .inl (.inl upd_same)
      generalize upd H3 p (.tup [v1, v2]) = H4 at *
      refine ⟨_, rfl, p, _, rfl, rfl, hp4, fun z hz => ?_, _, rfl, iteF ?_⟩
      · obtain ⟨p1, ev1, h1⟩ := f1'
        obtain ⟨p2, ev2, h2⟩ := f2'
        rcases List.mem_cons.mp hz with e | hz
        · exact ⟨p1, _, e.trans ev1, h1⟩
        · exact ⟨p2, _, (List.mem_singleton.mp hz).trans ev2, h2⟩
      · exact ⟨_, rfl, q _ _ (s1.trans (s2.trans (s3.trans s4))) t⟩
    · refine ⟨_, rfl, ⟨_, rfl⟩, _, _, rfl, rfl, by decide +kernel, by decide +kernel, fun l hl => ?_⟩
      have es : Txt.split ("x" : Str) " " = [("x" : Str)] := by
        have e : ("x" : Str) = Txt.join " " [("x" : Str)] := by rw [join_eq]; exact ext_tl (by rw [tl_join]; rfl)
        rw [e]
        exact split_join (s := 32) (S := []) (by decide +kernel) (by decide +kernel) (by simp) fun p hp => by
          rw [List.mem_singleton.mp hp]
          decide +kernel
      rw [es]
      have s1 := same_upd (o := .lst ([("x" : Str)].map V.str)) hl
      have e1 : (upd H l (.lst ([("x" : Str)].map V.str))) l = some (.lst [.str "x"]) := upd_same
      generalize upd H l (.lst ([("x" : Str)].map V.str)) = H1 at *
      refine ⟨_, rfl, l, _, rfl, .inl (SqL.of e1), rfl, _, rfl, ?_⟩
      rw [decide_eq_false (show ¬ V.int (([V.str "x"].length : Nat) : Int) = V.int 2 from fun z => by
        have z1 : ((1 : Nat) : Int) = 2 := by injection z
        omega), Bool.not_false]
      exact iteT (q _ s1)
end
end BW
namespace BW
open PySem PySem.Spec PyProof.Rows L2
open BM (Hb Kn Mp)
local macro_rules | `(tactic| walk_at "rd") => `(tactic| repeat (first
  | (refine ⟨_, _, _, _, rfl, rfl, by first | (show SqT _ _ _ _; assumption) | (show SqL _ _ _ _; assumption) | (show SqA _ _ _ _; assumption), by first | rfl | assumption, ?_⟩)
  | (refine ⟨_, rfl, ?_⟩)
  | (refine ⟨_, _, rfl, rfl, (by assumption : CMulW _ _), ?_⟩)
  | (refine ⟨_, _, rfl, rfl, ?_⟩)))
open TL
abbrev s_read_map : Stmt := topS 27
theorem sc_read_map : FnScope ["text", "knots", "row", "line", "knot", "at", "to"] ["text"] (defScope s_read_map) := ⟨rfl, rfl, rfl, by decide +kernel, rfl, by decide +kernel, by decide +kernel⟩
def spReadM (K : PySem.W.Frag) : Sp := fun vs H Q _ => ∃ (M : Mp) (lo hi : Rat), vs = [.str (shM M)] ∧ BM.Good lo hi M ∧ MB 1250 M ∧ M.length ≤ 40 ∧ ∀ H' v, Same H H' → MpT K H' v M → Q v H'
/-- over enumerate(a list that the body leaves as it is) -/
theorem for_enum {K : PySem.W.Frag} {a : Addr} {xs : List V} {g : TG} {tb : TS} {D : Ends} {σ : L2.St} {H : Hp} (Pv : Nat → L2.St → Hp → Prop) (h0 : Pv 0 σ H) (hq : ∀ i σ H, Pv i σ H → SqL K H a xs)
    (hs : ∀ (i : Nat) (x : V) (T : Addr) (σ : L2.St) (H : Hp), xs[i]? = some x → Pv i σ H → H T = none → g (.ref T) σ (upd H T (.tup [.int (i : Nat), x])) fun σ2 H2 => tb { D with nx := Pv (i + 1), ct := Pv (i + 1), bk := D.nx } σ2 H2) (hd : ∀ σ H, Pv xs.length σ H → D.nx σ H) :
    ∃ W : Nat → Nat → L2.St → Hp → Prop, (∃ m, W 0 m σ H) ∧ ∀ i m σ H, W i m σ H →
      ((Ite K a).stop i H ∧ D.nx σ H) ∨ ((Ite K a).go i H ∧ ∃ N : L2.St → Hp → Prop, (∀ σ' H', N σ' H' → ∃ m', m' < m ∧ W (i + 1) m' σ' H') ∧ ∀ v H', (Ite K a).yld i H v H' → g v σ H' fun σ2 H2 => tb { D with nx := N, ct := N, bk := D.nx } σ2 H2) := by
  refine ⟨fun i m σ H => m = xs.length - i ∧ i ≤ xs.length ∧ Pv i σ H, ⟨xs.length, by simp, Nat.zero_le _, h0⟩, ?_⟩
  rintro i m σ H ⟨rfl, hi, p⟩
  have q := hq i σ H p
  by_cases hlt : i < xs.length
  · have hx : xs[i]? = some xs[i] := List.getElem?_eq_getElem hlt
    refine .inr ⟨⟨xs, _, q, hx⟩, Pv (i + 1), fun σ' H' p' => ⟨xs.length - (i + 1), by omega, rfl, hlt, p'⟩, fun v H' y => ?_⟩
    obtain ⟨T, x', rfl, hT, rfl, f1⟩ := y
    exact hs i x' T σ H (f1 xs q) p hT
  · have e : i = xs.length := by omega
    subst e
    exact .inl ⟨⟨xs, q, Nat.le_refl _⟩, hd σ H p⟩
theorem lM_shaped (M : Mp) : SeqAt.shaped (.list (M.map dK)) = true := by
  unfold SeqAt.shaped
  rw [show PyData.canLay0 (.list (M.map dK)) = true from lay_all M, Bool.true_and]
  refine decide_eq_true ?_
  show PyData.depthAll (M.map dK) + 1 ≤ 64
  have := depth_all M
  omega
theorem eqv_some (k : Kn) (M : Mp) : PyData.eqv (.list ((k :: M).map dK)) (.list []) = false := rfl
section
variable {P : Program} {w : World} {K : PySem.W.Frag} {mg : Str → Option Value} {base : Heap}
theorem ok_read_map (T : Tx mg) (D : DefAt K mg "read_map" s_read_map ["text"]) (cread_knot : Cal P w K mg base 3 "read_knot" (spReadK K)) (cfrac_side : Cal P w K mg base 1 "frac_side" (spSide K)) : Cal P w K mg base 4 "read_map" (spReadM K) := by
  refine cal_of D sc_read_map (fun vs H Q E h => ?_) (fun f cdv A outer s H vs Q E hr h => ?_)
  · obtain ⟨M, lo, hi, rfl, _⟩ := h
    rfl
  · obtain ⟨M, lo, hi, rfl, g, mb, big, q⟩ := h
    refine ⟨_, (pss_cons (ps_set (i := 1) sc_read_map.nd rfl (.inl rfl) (pe_lst pa_nil))
      (pss_cons (ps_for PassesOwn.never rfl (pi_enum (by rfl) T.enumerate (pa_cons (pe_split (pv 0) pe_str) pa_nil)) (pg_tup rfl (pgs_cons (pg_name (i := 2) sc_read_map.nd rfl (.inl rfl)) (pgs_cons (pg_name (i := 3) sc_read_map.nd rfl (.inl rfl)) pgs_nil)))
      (pss_cons (ps_set (i := 4) sc_read_map.nd rfl (.inl rfl) (pe_c cread_knot hr (by decide) (by rfl) (pa_cons (pv 3) pa_nil)))
        (pss_cons (ps_if (PW.pt (pw_or (pt_cmpR op_isN (pv 4) pe_non (nomark _)) (pw_or1 (PW.pt (pw_and (pt_cmpR (op_neD (hd_of hr)) (pv 1) (pe_lst pa_nil) (nomark _)) (pw_and1 (pt_cmpR op_ge (pe_c cfrac_side hr (by decide) (by rfl) (pa_cons (pe_ix ix_tup (pe_ix ix_list (pv 1) (pe_un un_neg pe_int) (fun _ _ => rfl)) pe_int (fun _ _ => rfl)) (pa_cons (pe_ix ix_tup (pv 4) pe_int (fun _ _ => rfl)) pa_nil))) pe_int (nomark _))))))))
        (pss_one ps_never)
        pss_nil)
        (pss_one (ps_expr (pe_bm PySem.F.plainAttrs_list PySem.F.slot_list_append PySem.F.type_list_append mt_append (pv 1) (pa_cons (pv 4) pa_nil)))))))
      (pss_cons (ps_if (pt_cmpR op_eq (pe_callB call_len_seq (by rfl) T.len (by decide +kernel) (pa_cons (pv 1) pa_nil)) pe_int (nomark _))
      (pss_one ps_never)
      pss_nil)
      (pss_cons (ps_for PassesOwn.never rfl (pi_enum (by rfl) T.enumerate (pa_cons (pv 1) pa_nil)) (pg_tup rfl (pgs_cons (pg_name (i := 2) sc_read_map.nd rfl (.inl rfl)) (pgs_cons (pg_tup rfl (pgs_cons (pg_name (i := 5) sc_read_map.nd rfl (.inl rfl)) (pgs_cons (pg_name (i := 6) sc_read_map.nd rfl (.inl rfl)) pgs_nil))) pgs_nil)))
      (pss_one (ps_if (PW.pt (pw_or (pt_cmpR op_lt (pe_c cfrac_side hr (by decide) (by rfl) (pa_cons (pv 6) (pa_cons (pe_ix ix_tup (pe_ix ix_list (pv 1) pe_int (fun _ _ => rfl)) pe_int (fun _ _ => rfl)) pa_nil))) pe_int (nomark _)) (pw_or1 (pt_cmpR op_gt (pe_c cfrac_side hr (by decide) (by rfl) (pa_cons (pv 6) (pa_cons (pe_ix ix_tup (pe_ix ix_list (pv 1) (pe_un un_neg pe_int) (fun _ _ => rfl)) pe_int (fun _ _ => rfl)) pa_nil))) pe_int (nomark _)))))
        (pss_one ps_never)
        pss_nil)))
      (pss_one (ps_ret (pe_callTy call_tuple_of (by rfl) T.tuple (by decide +kernel) (pa_cons (pv 1) pa_nil)))))))), ?_⟩
    have s0 : sizeLine = 16777216 := sizeLine_eq
    have two := g.two
    have lm := shM_size mb
    have Mne : M ≠ [] := fun z => by rw [z] at two; exact absurd two (by decide)
    refine ⟨Nat.zero_le _, fun l hl => ⟨_, rfl, ?_⟩⟩
    have s1 := same_upd (o := .lst []) hl
    have e1 : (upd H l (.lst [])) l = some (.lst []) := upd_same
    generalize upd H l (.lst []) = H1 at *
    refine ⟨⟨_, rfl⟩, _, _, rfl, rfl, by decide +kernel, by omega, fun pt hpt => ?_⟩
    rw [split_shM Mne]
    have s2 := s1.trans (same_upd (o := .lst ((M.map shK).map V.str)) hpt)
    have e2 : (upd H1 pt (.lst ((M.map shK).map V.str))) l = some (.lst []) := same_upd hpt _ _ e1
    have et : (upd H1 pt (.lst ((M.map shK).map V.str))) pt = some (.lst ((M.map shK).map V.str)) := upd_same
    have npl : l ≠ pt := ne_of_none e1 hpt
    have hpt0 : H pt = none := Same.free s1 hpt
    generalize upd H1 pt (.lst ((M.map shK).map V.str)) = H2 at *
    refine ⟨pt, _, rfl, SqL.of et, ?_⟩
    refine for_enum (xs := (M.map shK).map V.str) (fun i σ H3 => ∃ (fs : List V) (y2 y3 y4 : Option V), σ = [some (.str (shM M)), some (.ref l), y2, y3, y4, none, none] ∧ Same H H3 ∧ H3 pt = some (.lst ((M.map shK).map V.str)) ∧ H3 l = some (.lst fs) ∧ Kts K H3 fs (M.take i))
      ⟨[], none, none, none, rfl, s2, et, e2, .nil⟩ (fun i σ H3 ⟨_, _, _, _, _, _, h, _⟩ => SqL.of h) ?_ ?_
    · rintro i x pe σ H3 hx ⟨fs, y2, y3, y4, rfl, sm, et3, eo, ks⟩ hpe
      have hil : i < ((M.map shK).map V.str).length := (List.getElem?_eq_some_iff.mp hx).1
      rw [List.length_map, List.length_map] at hil
      have gi : M[i]? = some M[i] := List.getElem?_eq_getElem hil
      have tk : M.take (i + 1) = M.take i ++ [M[i]] := by rw [List.take_add_one, gi]; rfl
      have ex : x = .str (shK M[i]) := by
        rw [List.getElem?_map, List.getElem?_map, gi] at hx
        exact (Option.some.inj hx).symm
      have kM := BM.mem_at gi
      have kb := mb M[i] kM
      generalize hk : M[i] = k at *
      subst ex
      have s3 := same_upd (o := .tup [.int (i : Nat), .str (shK k)]) hpe
      have sm3 := sm.trans s3
      have et4 := s3 _ _ et3
      have eo4 := s3 _ _ eo
      have ks4 := ks.keep (Keep.of s3)
      have hpe4 : SqT K (upd H3 pe (.tup [.int (i : Nat), .str (shK k)])) pe [.int (i : Nat), .str (shK k)] := .inl (.inl upd_same)
      generalize upd H3 pe (.tup [.int (i : Nat), .str (shK k)]) = H4 at *
      refine ⟨pe, _, rfl, hpe4, rfl, _, _, rfl, _, _, rfl, rfl, ?_⟩
      refine ⟨_, rfl, .inl ⟨k, rfl, kb, fun H5 v s5 tv => ?_⟩⟩
      have sm5 := sm3.trans s5
      have et5 := s5 _ _ et4
      have eo5 := s5 _ _ eo4
      have ks5 := ks4.keep (Keep.of s5)
      obtain ⟨pv', u1, u2, rfl, hpv, fv1, fv2⟩ := id tv
      refine ⟨_, rfl, rfl, _, rfl, ?_⟩
      rw [decide_eq_false (show ¬ V.ref pv' = V.non from fun z => nomatch z)]
      refine iteF ?_
      refine ⟨_, rfl, Nat.zero_le _, fun l2 hl2 => ?_⟩
      have s6 := same_upd (o := .lst []) hl2
      have e6 : (upd H5 l2 (.lst [])) l2 = some (.lst []) := upd_same
      generalize upd H5 l2 (.lst []) = H6 at *
      have k6 := Keep.of s6
      have sm6 := sm5.trans s6
      have et6 := s6 _ _ et5
      have eo6 := s6 _ _ eo5
      have ks6 := ks5.keep k6
      have hpv6 := k6.sqT hpv
      have fv6 := fv1.keep k6
      have tv6 := tv.keep k6
      refine ⟨_, _, .lst (SqL.of eo6) ks6.dp, .lst (SqL.of e6) .nil, lM_shaped _, lM_shaped [], _, rfl, ?_⟩
      have fin : ∀ H7 : Hp, Same H6 H7 → ∃ a xs y, V.ref l = V.ref a ∧ [V.ref pv'] = [y] ∧ H7 a = some (.lst xs) ∧ xs.length < sizeLine ∧ ∃ (fs : List V) (y2 y3 y4 : Option V), [some (V.str (shM M)), some (V.ref l), some (.int (i : Nat)), some (.str (shK k)), some (.ref pv'), none, none] = [some (.str (shM M)), some (.ref l), y2, y3, y4, none, none] ∧ Same H (upd H7 a (.lst (xs ++ [y]))) ∧ (upd H7 a (.lst (xs ++ [y]))) pt = some (.lst ((M.map shK).map V.str)) ∧ (upd H7 a (.lst (xs ++ [y]))) l = some (.lst fs) ∧ Kts K (upd H7 a (.lst (xs ++ [y]))) fs (M.take (i + 1)) := fun H7 s7 => by
        have eo7 := s7 _ _ eo6
        have kl := Keep.lst (o := .lst (fs ++ [.ref pv'])) eo7
        have fl := ks.length
        rw [List.length_take] at fl
        refine ⟨l, fs, .ref pv', rfl, rfl, eo7, small7 (by omega), fs ++ [.ref pv'], _, _, _, rfl, Same.upd_new (sm6.trans s7) hl, ?_, upd_same, ?_⟩
        · rw [upd_ne npl.symm]
          exact s7 _ _ et6
        · rw [tk]
          exact Kts.append ((ks6.keep (Keep.of s7)).keep kl) (.cons ((tv6.keep (Keep.of s7)).keep kl) .nil)
      by_cases i0 : i = 0
      · subst i0
        refine iteF ?_
        refine iteF ?_
        exact ⟨_, rfl, .inl ⟨rfl, _, SqL.of eo6⟩, _, rfl, fin H6 (Same.refl _)⟩
      · have ga : M[i - 1]? = some M[i - 1] := List.getElem?_eq_getElem (by omega)
        have lt := g.inc.at ga (b := k) (by rw [show i - 1 + 1 = i by omega, gi])
        have aM := BM.mem_at ga
        have ka := mb _ aM
        have e7 : PyData.eqv (.list ((M.take i).map dK)) (.list []) = false := by
          have : (M.take i).length = i := by rw [List.length_take]; omega
          cases hh : M.take i with
          | nil => rw [hh] at this; exact absurd this.symm i0
          | cons z r => rfl
        rw [e7, Bool.not_false]
        refine iteT ?_
        have gl : (M.take i).getLast? = some M[i - 1] := by
          rw [List.getLast?_eq_getElem?, List.length_take, show min i M.length = i by omega, List.getElem?_take, if_pos (by omega)]
          exact ga
        obtain ⟨xa, gx, pa, a1, a2, rfl, hpa, fa1, fa2⟩ := ks6.last gl
        have eL := SqL.of (K := K) eo6
        have atl : atI fs (-1) = some (.ref pa) := atI_neg1 gx
        have at1 : atI [a1, a2] 0 = some a1 := rfl
        have at2 : atI [u1, u2] 0 = some u1 := rfl
        walk_at "rd"
        refine ⟨_, _, _, _, 1250, 1250, rfl, fa1, fv6, ka.1, kb.1, by decide, ?_⟩
        rw [BM.sg_neg (by grind)]
        refine ⟨_, _, rfl, rfl, _, rfl, ?_⟩
        rw [show decide ((0 : Int) ≤ -1) = false from rfl]
        refine iteF ?_
        exact ⟨_, rfl, .inl ⟨rfl, _, SqL.of eo6⟩, _, rfl, fin H6 (Same.refl _)⟩
    · rintro σ H3 ⟨fs, y2, y3, y4, rfl, sm, et3, eo, ks⟩
      rw [List.length_map, List.length_map, List.take_length] at ks
      have fl := ks.length
      have eL := SqL.of (K := K) eo
      refine ⟨_, rfl, l, fs, rfl, .inl eL, rfl, _, rfl, ?_⟩
      rw [decide_eq_false (show ¬ V.int (fs.length : Int) = V.int 1 from fun z => by
        have z1 : (fs.length : Int) = 1 := by injection z
        omega)]
      refine iteF ?_
      refine ⟨_, rfl, l, fs, rfl, eL, ?_⟩
      obtain ⟨a0, b0, r0, z0, eM, ea, ez, ez2, zm⟩ := g.ends
      have m0 : M[0]? = some a0 := by rw [eM]; rfl
      have mz : M.getLast? = some z0 := by rw [eM]; exact ez
      obtain ⟨x0, g0, p0, u01, u02, rfl, h0, f01, f02⟩ := ks.get m0
      obtain ⟨xz, gz, pz, uz1, uz2, rfl, hz, fz1, fz2⟩ := ks.last mz
      have ka := mb a0 (BM.mem_at m0)
      have kz := mb z0 (List.mem_of_getLast? mz)
      refine for_enum (xs := fs) (fun i σ H4 => ∃ (y2 y3 y4 y5 y6 : Option V), σ = [some (.str (shM M)), some (.ref l), y2, y3, y4, y5, y6] ∧ Same H3 H4)
        ⟨_, _, _, _, _, rfl, Same.refl _⟩ (fun i σ H4 ⟨_, _, _, _, _, _, sm4⟩ => SqL.of (sm4 _ _ eo)) ?_ ?_
      · rintro i x pe σ H4 hx ⟨y2, y3, y4, y5, y6, rfl, sm4⟩ hpe
        have hil : i < fs.length := (List.getElem?_eq_some_iff.mp hx).1
        have gi : M[i]? = some M[i] := List.getElem?_eq_getElem (by omega)
        have kM := BM.mem_at gi
        have s3 := same_upd (o := .tup [.int (i : Nat), x]) hpe
        have sm5 := sm4.trans s3
        have hpe4 : SqT K (upd H4 pe (.tup [.int (i : Nat), x])) pe [.int (i : Nat), x] := .inl (.inl upd_same)
        generalize upd H4 pe (.tup [.int (i : Nat), x]) = H5 at *
        have k5 := Keep.of sm5
        obtain ⟨x', gx, px, w1, w2, rfl, hp, f1, f2⟩ := (ks.keep k5).get gi
        have ex : x = .ref px := Option.some.inj (hx.symm.trans gx)
        subst ex
        have tt := g.to _ kM
        have kb := mb _ kM
        generalize M[i] = k at *
        have eL5 := SqL.of (K := K) (sm5 _ _ eo)
        have h05 := k5.sqT h0
        have hz5 := k5.sqT hz
        have atl : atI fs (-1) = some (.ref pz) := atI_neg1 gz
        have at0 : atI fs 0 = some (.ref p0) := atI_nat (j := 0) g0
        have at1 : atI [u01, u02] 0 = some u01 := rfl
        have at2 : atI [uz1, uz2] 0 = some uz1 := rfl
        refine ⟨pe, _, rfl, hpe4, rfl, _, _, rfl, _, _, rfl, px, _, rfl, hp, rfl, _, _, rfl, _, _, rfl, rfl, rfl, ?_⟩
        walk_at "rd"
        refine ⟨_, _, _, _, 1250, 1250, rfl, f2, f01.keep k5, kb.2, ka.1, by decide, ?_⟩
        refine ⟨_, _, rfl, rfl, _, rfl, ?_⟩
        rw [decide_eq_false (show ¬ BM.sg (k.2 - a0.1) < 0 by
          rcases BM.sg_cases (k.2 - a0.1) with ⟨_, e⟩ | ⟨h, _⟩ | ⟨_, e⟩
          · rw [e]; decide
          · exact absurd h (by rw [ea]; have := tt.1; grind)
          · rw [e]; decide)]
        refine iteF ?_
        walk_at "rd"
        refine ⟨_, _, _, _, 1250, 1250, rfl, f2, fz1.keep k5, kb.2, kz.1, by decide, ?_⟩
        refine ⟨_, _, rfl, rfl, _, rfl, ?_⟩
        rw [decide_eq_false (show ¬ 0 < BM.sg (k.2 - z0.1) by
          rcases BM.sg_cases (k.2 - z0.1) with ⟨h, _⟩ | ⟨_, e⟩ | ⟨_, e⟩
          · exact absurd h (by rw [ez2]; have := tt.2; grind)
          · rw [e]; decide
          · rw [e]; decide)]
        refine iteF ?_
        exact ⟨_, _, _, _, _, rfl, sm5⟩
      · rintro σ H4 ⟨y2, y3, y4, y5, y6, rfl, sm4⟩
        refine ⟨_, rfl, l, fs, rfl, .inl ⟨SqL.of (sm4 _ _ eo), fun p hp => ?_⟩⟩
        have s5 := same_upd (o := .tup fs) hp
        exact q _ (.ref p) (sm.trans (sm4.trans s5)) ⟨p, fs, rfl, .inl (.inl upd_same), (ks.keep (Keep.of sm4)).keep (Keep.of s5)⟩
end
end BW
namespace BW
open PySem PySem.Spec PyProof.Rows L2
open BM (Hb Kn Mp)
local macro_rules | `(tactic| walk_at "rd") => `(tactic| repeat (first
  | (refine ⟨_, _, _, _, rfl, rfl, by first | (show SqT _ _ _ _; assumption) | (show SqL _ _ _ _; assumption) | (show SqA _ _ _ _; assumption), by first | rfl | assumption, ?_⟩)
  | (refine ⟨_, rfl, ?_⟩)
  | (refine ⟨_, _, rfl, rfl, (by assumption : CMulW _ _), ?_⟩)
  | (refine ⟨_, _, rfl, rfl, ?_⟩)))
open TL
abbrev s__law_refused_row : Stmt := topS 49
theorem sc__law_refused_row : FnScope ["text", "row", "e"] ["text"] (defScope s__law_refused_row) := ⟨rfl, rfl, rfl, by decide +kernel, rfl, by decide +kernel, by decide +kernel⟩
abbrev s_nomap : Stmt := inClass (topS 2) 0
theorem sc_nomap : FnScope ["self", "row"] ["self", "row"] (defScope s_nomap) := ⟨rfl, rfl, rfl, by decide +kernel, rfl, by decide +kernel, by decide +kernel⟩
/-- what is written of NoMap (at C), of StretchError (at S), of NoMap's own start (at g) -/
structure NmAt (K : PySem.W.Frag) (mg : Str → Option Value) (C S g : Addr) (mc : Value) (fd : FuncData) : Prop where
  gC : mg "NoMap" = some (.ref C)
  gS : mg "StretchError" = some (.ref S)
  ox : OexC K C
  xf : XfC K C
  noR : PySem.W.findIn K (.ref C) "row" = some none
  iC : PySem.W.findIn K (.ref C) "__init__" = some (some (.ref g))
  tg : PySem.W.typeIn K (.ref g) = some (.type "function")
  me : PySem.W.exmOne K (.ref C) (.ref C) = some true
  rS : ClX.CRead K S mc
  iS : PySem.W.findCls K (.ref S) mc "__init__" = some (.val (.builtin "ValueError.__init__"))
  fn : Fun K "__init__" "NoMap.__init__" s_nomap g fd
  bd : Binds K fd ["self", "row"] []
section
variable {X : Cx} {a : Expr} {as : List Expr} {ta : TA} {x : Str} {pn pa pc : Pos} {S : Addr} {mc : Value}
/-- S.__init__(self, ..) of an own class that has ValueError's -/
theorem pe_base {pl : Sem Bool} (hg : Gl X x) (hm : X.mg x = some (.ref S)) (r : ClX.CRead X.K S mc) (i : PySem.W.findCls X.K (.ref S) mc "__init__" = some (.val (.builtin "ValueError.__init__"))) (ht : PA X (a :: as) ta) (hd : (x == ("__debug__" : Str)) = false := by decide)
    (hc : eval (.Call (.Attribute (.Name x pn) "__init__" pa) (a :: as) [] pc) X.env = (do let u ← eval (.Name x pn) X.env; standAt pa.atName; let (g, l) ← holding [u] (getMethod u "__init__" pl); callWith pc g l (backTo pc (starEach (a :: as) X.env)) (backToKw pc (keywordEach [] X.env))) := by rfl)
    (he : starEach (a :: as) X.env = (false, eval a X.env) :: starEach as X.env := by rfl) (hs : (backTo pc (starEach as X.env)).any (·.1) = false := by rfl) : PE X (.Call (.Attribute (.Name x pn) "__init__" pa) (a :: as) [] pc) (tVeI X.K ta) := by
  constructor
  intro pins s σ H Q I h
  refine PySem.W.methodCall_KW (ld_glob I hg hm ?_ hd) hc
  refine PySem.W.method_cls I.kIn r.ga (PySem.W.cls_value I.kIn r.rd i rfl ?_)
  show wpAny _ _ (callWith pc (Value.builtin "ValueError.__init__") [] (backTo pc (starEach (a :: as) X.env)) []) _ _ _
  refine PyProof.Rows.callWith_method1 (thn (ht.run pc pins _ σ H _ (I.tok _) h) fun us s1 z => ?_) he hs
  obtain ⟨vs, H1, J, rv, e, C, ws, ev, hl, ox, ea, q⟩ := z
  subst ev
  obtain _ | ⟨rh, rt⟩ := rv
  cases rh
  refine oinit_ok ox J ea ?_ fun s2 J2 => ⟨.non, H1, J2, rfl, q⟩
  rw [← rt.length]
  exact Nat.le_of_lt (small1000 hl)
end
def spNm (K : PySem.W.Frag) : Sp := fun vs H Q _ => ∃ (a C : Addr) (i : Nat), vs = [.ref a, .int (i : Int)] ∧ H a = some (exo a C none) ∧ OexC K C ∧ PySem.W.findIn K (.ref C) "row" = some none ∧ i ≤ 1000 ∧
  ∀ d, H d = none → d ≠ a → Q .non (upd (upd H d (exd d [("row", .int (i : Int))])) a (exo a C (some d)))
theorem int_len {i : Nat} (h : i ≤ 1000) : (Str.ofString (toString (i : Int))).length ≤ 4 := by
  rw [len_tl, tl_num]
  exact numL_len (by decide) (by omega)
section
variable {P : Program} {w : World} {K : PySem.W.Frag} {mg : Str → Option Value} {base : Heap}
theorem ok_nomap {C S g : Addr} {mc : Value} {fd : FuncData} (T : Tx mg) (N : NmAt K mg C S g mc fd) : FnOk P w K mg base CX0 1 g fd ["self", "row"] (spNm K) := by
  refine N.fn.ok sc_nomap (fun vs H Q E h => ?_) (fun cdv A outer s H vs Q E hr h => ?_)
  · obtain ⟨a, C, i, rfl, _⟩ := h
    rfl
  · obtain ⟨a, C, i, rfl, ea, ox, no, hi, q⟩ := h
    have s0 : sizeLine = 16777216 := sizeLine_eq
    have li := int_len hi
    have l0 : ("no map by row " : Str).length = 14 := by decide +kernel
    refine ⟨_, pss_cons (ps_expr (pe_base (by rfl) N.gS N.rS N.iS (pa_cons (pv 0) (pa_cons (pe_op op_add_str pe_str (pe_callTy call_str_int (by rfl) T.str (by decide +kernel) (pa_cons (pv 1) pa_nil))) pa_nil))))
      (pss_one (ps_ost (pv 0) (pv 1))), ?_⟩
    refine ⟨_, rfl, _, rfl, _, rfl, log_ok (Nat.lt_of_le_of_lt (show (i : Int).natAbs ≤ 1000 from hi) (by decide +kernel)), _, _, rfl, rfl, by omega, a, C, _, rfl, Nat.le_of_ble_eq_true rfl, ox, ea, ?_⟩
    exact ⟨_, rfl, _, rfl, a, C, rfl, ox, no, .inl ⟨ea, fun d hd hne => q d hd hne⟩⟩
/-- read_map where the last line is no knot's -/
def spReadX (K : PySem.W.Frag) (C : Addr) : Sp := fun vs H _ E => ∃ (M : Mp) (lo hi : Rat), vs = [.str (shM M ++ "\nx")] ∧ BM.Good lo hi M ∧ MB 1250 M ∧ M.length ≤ 40 ∧
  ∀ H' d, Same H H' → H' d = some (.xd [("row", .int (M.length : Int))]) → E (.ref C) (some d) H'
/-- a def that may be called by its name; an exception may leave it -/
structure CalX (P : Program) (w : World) (K : PySem.W.Frag) (mg : Str → Option Value) (base : Heap) (k : Nat) (x : Str) (sp : Sp) : Prop where
  ex : ∃ (f : Addr) (fd : FuncData) (ps : List Str), FnOk P w K mg base (L2.CX P w) k f fd ps sp ∧ mg x = some (.ref f) ∧ PySem.W.keepIn K (.ref f) = true ∧ Binds K fd ps []
theorem ok_read_map_x {C S g : Addr} {mc : Value} {fd : FuncData} (T : Tx mg) (N : NmAt K mg C S g mc fd) (F1 : FnOk P w K mg base CX0 1 g fd ["self", "row"] (spNm K)) (D : DefAt K mg "read_map" s_read_map ["text"]) (cread_knot : Cal P w K mg base 3 "read_knot" (spReadK K)) (cfrac_side : Cal P w K mg base 1 "frac_side" (spSide K)) :
    CalX P w K mg base 4 "read_map" (spReadX K C) := by
  obtain ⟨f, fr, F, hm, b⟩ := D.ex
  refine ⟨f, fr, ["text"], F.okX sc_read_map (fun vs H Q E h => ?_) (fun cdv A outer s H vs Q E hr h => ?_), hm, F.kp, b⟩
  · obtain ⟨M, lo, hi, rfl, _⟩ := h
    rfl
  · obtain ⟨M, lo, hi, rfl, gd, mb, big, q⟩ := h
    refine ⟨_, (pss_cons (ps_set (i := 1) sc_read_map.nd rfl (.inl rfl) (pe_lst pa_nil))
      (pss_cons (ps_for (passes_of rfl) rfl (pi_enum (by rfl) T.enumerate (pa_cons (pe_split (pv 0) pe_str) pa_nil)) (pg_tup rfl (pgs_cons (pg_name (i := 2) sc_read_map.nd rfl (.inl rfl)) (pgs_cons (pg_name (i := 3) sc_read_map.nd rfl (.inl rfl)) pgs_nil)))
      (pss_cons (ps_set (i := 4) sc_read_map.nd rfl (.inl rfl) (pe_c cread_knot hr (by decide) (by rfl) (pa_cons (pv 3) pa_nil)))
        (pss_cons (ps_if (PW.pt (pw_or (pt_cmpR op_isN (pv 4) pe_non (nomark _)) (pw_or1 (PW.pt (pw_and (pt_cmpR (op_neD (hd_of hr)) (pv 1) (pe_lst pa_nil) (nomark _)) (pw_and1 (pt_cmpR op_ge (pe_c cfrac_side hr (by decide) (by rfl) (pa_cons (pe_ix ix_tup (pe_ix ix_list (pv 1) (pe_un un_neg pe_int) (fun _ _ => rfl)) pe_int (fun _ _ => rfl)) (pa_cons (pe_ix ix_tup (pv 4) pe_int (fun _ _ => rfl)) pa_nil))) pe_int (nomark _))))))))
        (pss_one (ps_raise rfl (takes_of rfl rfl rfl rfl) (pmk_oex N.ox N.iC N.tg F1 (hr.mono (by decide)) N.bd .nil pass0 (by rfl) N.gC (pa_cons (pv 2) pa_nil))))
        pss_nil)
        (pss_one (ps_expr (pe_bm PySem.F.plainAttrs_list PySem.F.slot_list_append PySem.F.type_list_append mt_append (pv 1) (pa_cons (pv 4) pa_nil)))))))
      (pss_cons (ps_if (pt_cmpR op_eq (pe_callB call_len_seq (by rfl) T.len (by decide +kernel) (pa_cons (pv 1) pa_nil)) pe_int (nomark _))
      (pss_one ps_never)
      pss_nil)
      (pss_cons (ps_for (passes_of rfl) rfl (pi_enum (by rfl) T.enumerate (pa_cons (pv 1) pa_nil)) (pg_tup rfl (pgs_cons (pg_name (i := 2) sc_read_map.nd rfl (.inl rfl)) (pgs_cons (pg_tup rfl (pgs_cons (pg_name (i := 5) sc_read_map.nd rfl (.inl rfl)) (pgs_cons (pg_name (i := 6) sc_read_map.nd rfl (.inl rfl)) pgs_nil))) pgs_nil)))
      (pss_one (ps_if (PW.pt (pw_or (pt_cmpR op_lt (pe_c cfrac_side hr (by decide) (by rfl) (pa_cons (pv 6) (pa_cons (pe_ix ix_tup (pe_ix ix_list (pv 1) pe_int (fun _ _ => rfl)) pe_int (fun _ _ => rfl)) pa_nil))) pe_int (nomark _)) (pw_or1 (pt_cmpR op_gt (pe_c cfrac_side hr (by decide) (by rfl) (pa_cons (pv 6) (pa_cons (pe_ix ix_tup (pe_ix ix_list (pv 1) (pe_un un_neg pe_int) (fun _ _ => rfl)) pe_int (fun _ _ => rfl)) pa_nil))) pe_int (nomark _)))))
        (pss_one ps_never)
        pss_nil)))
      (pss_one (ps_ret (pe_callTy call_tuple_of (by rfl) T.tuple (by decide +kernel) (pa_cons (pv 1) pa_nil)))))))), ?_⟩
    have s0 : sizeLine = 16777216 := sizeLine_eq
    have two := gd.two
    have lm := shM_size mb
    have lx : (shM M ++ "\nx").length + 2 ≤ sizeLine := by
      have : (shM M ++ "\nx").length = (shM M).length + 2 := by rw [len_tl, tl_append, List.length_append, ← len_tl]; rfl
      omega
    have Mne : M ≠ [] := fun z => by rw [z] at two; exact absurd two (by decide)
    refine ⟨Nat.zero_le _, fun l hl => ⟨_, rfl, ?_⟩⟩
    have s1 := same_upd (o := .lst []) hl
    have e1 : (upd H l (.lst [])) l = some (.lst []) := upd_same
    generalize upd H l (.lst []) = H1 at *
    refine ⟨⟨_, rfl⟩, _, _, rfl, rfl, by decide +kernel, lx, fun pt hpt => ?_⟩
    rw [split_shMx Mne]
    have s2 := s1.trans (same_upd (o := .lst ((M.map shK ++ [("x" : Str)]).map V.str)) hpt)
    have e2 : (upd H1 pt (.lst ((M.map shK ++ [("x" : Str)]).map V.str))) l = some (.lst []) := same_upd hpt _ _ e1
    have et : (upd H1 pt (.lst ((M.map shK ++ [("x" : Str)]).map V.str))) pt = some (.lst ((M.map shK ++ [("x" : Str)]).map V.str)) := upd_same
    have npl : l ≠ pt := ne_of_none e1 hpt
    have hpt0 : H pt = none := Same.free s1 hpt
    generalize upd H1 pt (.lst ((M.map shK ++ [("x" : Str)]).map V.str)) = H2 at *
    refine ⟨pt, _, rfl, SqL.of et, ?_⟩
    refine for_enum (xs := (M.map shK ++ [("x" : Str)]).map V.str) (fun i σ H3 => i ≤ M.length ∧ ∃ (fs : List V) (y2 y3 y4 : Option V), σ = [some (.str (shM M ++ "\nx")), some (.ref l), y2, y3, y4, none, none] ∧ Same H H3 ∧ H3 pt = some (.lst ((M.map shK ++ [("x" : Str)]).map V.str)) ∧ H3 l = some (.lst fs) ∧ Kts K H3 fs (M.take i))
      ⟨Nat.zero_le _, [], none, none, none, rfl, s2, et, e2, .nil⟩ (fun i σ H3 ⟨_, _, _, _, _, _, _, h, _⟩ => SqL.of h) ?_ ?_
    · rintro i x pe σ H3 hx ⟨iM, fs, y2, y3, y4, rfl, sm, et3, eo, ks⟩ hpe
      by_cases ilt : i < M.length
      · have gi : M[i]? = some M[i] := List.getElem?_eq_getElem ilt
        have tk : M.take (i + 1) = M.take i ++ [M[i]] := by rw [List.take_add_one, gi]; rfl
        have ex : x = .str (shK M[i]) := by
          rw [List.getElem?_map, List.getElem?_append_left (by rw [List.length_map]; exact ilt), List.getElem?_map, gi] at hx
          exact (Option.some.inj hx).symm
        have kM := BM.mem_at gi
        have kb := mb M[i] kM
        generalize hk : M[i] = k at *
        subst ex
        have s3 := same_upd (o := .tup [.int (i : Nat), .str (shK k)]) hpe
        have sm3 := sm.trans s3
        have et4 := s3 _ _ et3
        have eo4 := s3 _ _ eo
        have ks4 := ks.keep (Keep.of s3)
        have hpe4 : SqT K (upd H3 pe (.tup [.int (i : Nat), .str (shK k)])) pe [.int (i : Nat), .str (shK k)] := .inl (.inl upd_same)
        generalize upd H3 pe (.tup [.int (i : Nat), .str (shK k)]) = H4 at *
        refine ⟨pe, _, rfl, hpe4, rfl, _, _, rfl, _, _, rfl, rfl, ?_⟩
        refine ⟨_, rfl, .inl ⟨k, rfl, kb, fun H5 v s5 tv => ?_⟩⟩
        have sm5 := sm3.trans s5
        have et5 := s5 _ _ et4
        have eo5 := s5 _ _ eo4
        have ks5 := ks4.keep (Keep.of s5)
        obtain ⟨pv', u1, u2, rfl, hpv, fv1, fv2⟩ := id tv
        refine ⟨_, rfl, rfl, _, rfl, ?_⟩
        rw [decide_eq_false (show ¬ V.ref pv' = V.non from fun z => nomatch z)]
        refine iteF ?_
        refine ⟨_, rfl, Nat.zero_le _, fun l2 hl2 => ?_⟩
        have s6 := same_upd (o := .lst []) hl2
        have e6 : (upd H5 l2 (.lst [])) l2 = some (.lst []) := upd_same
        generalize upd H5 l2 (.lst []) = H6 at *
        have k6 := Keep.of s6
        have sm6 := sm5.trans s6
        have et6 := s6 _ _ et5
        have eo6 := s6 _ _ eo5
        have ks6 := ks5.keep k6
        have hpv6 := k6.sqT hpv
        have fv6 := fv1.keep k6
        have tv6 := tv.keep k6
        refine ⟨_, _, .lst (SqL.of eo6) ks6.dp, .lst (SqL.of e6) .nil, lM_shaped _, lM_shaped [], _, rfl, ?_⟩
        have fin : ∀ H7 : Hp, Same H6 H7 → ∃ a xs y, V.ref l = V.ref a ∧ [V.ref pv'] = [y] ∧ H7 a = some (.lst xs) ∧ xs.length < sizeLine ∧ i + 1 ≤ M.length ∧ ∃ (fs : List V) (y2 y3 y4 : Option V), [some (V.str (shM M ++ "\nx")), some (V.ref l), some (.int (i : Nat)), some (.str (shK k)), some (.ref pv'), none, none] = [some (.str (shM M ++ "\nx")), some (.ref l), y2, y3, y4, none, none] ∧ Same H (upd H7 a (.lst (xs ++ [y]))) ∧ (upd H7 a (.lst (xs ++ [y]))) pt = some (.lst ((M.map shK ++ [("x" : Str)]).map V.str)) ∧ (upd H7 a (.lst (xs ++ [y]))) l = some (.lst fs) ∧ Kts K (upd H7 a (.lst (xs ++ [y]))) fs (M.take (i + 1)) := fun H7 s7 => by
          have eo7 := s7 _ _ eo6
          have kl := Keep.lst (o := .lst (fs ++ [.ref pv'])) eo7
          have fl := ks.length
          rw [List.length_take] at fl
          refine ⟨l, fs, .ref pv', rfl, rfl, eo7, small7 (by omega), ilt, fs ++ [.ref pv'], _, _, _, rfl, Same.upd_new (sm6.trans s7) hl, ?_, upd_same, ?_⟩
          · rw [upd_ne npl.symm]
            exact s7 _ _ et6
          · rw [tk]
            exact Kts.append ((ks6.keep (Keep.of s7)).keep kl) (.cons ((tv6.keep (Keep.of s7)).keep kl) .nil)
        by_cases i0 : i = 0
        · subst i0
          refine iteF ?_
          refine iteF ?_
          exact ⟨_, rfl, .inl ⟨rfl, _, SqL.of eo6⟩, _, rfl, fin H6 (Same.refl _)⟩
        · have ga : M[i - 1]? = some M[i - 1] := List.getElem?_eq_getElem (by omega)
          have lt := gd.inc.at ga (b := k) (by rw [show i - 1 + 1 = i by omega, gi])
          have aM := BM.mem_at ga
          have ka := mb _ aM
          have e7 : PyData.eqv (.list ((M.take i).map dK)) (.list []) = false := by
            have : (M.take i).length = i := by rw [List.length_take]; omega
            cases hh : M.take i with
            | nil => rw [hh] at this; exact absurd this.symm i0
            | cons z r => rfl
          rw [e7, Bool.not_false]
          refine iteT ?_
          have gl : (M.take i).getLast? = some M[i - 1] := by
            rw [List.getLast?_eq_getElem?, List.length_take, show min i M.length = i by omega, List.getElem?_take, if_pos (by omega)]
            exact ga
          obtain ⟨xa, gx, pa, a1, a2, rfl, hpa, fa1, fa2⟩ := ks6.last gl
          have eL := SqL.of (K := K) eo6
          have atl : atI fs (-1) = some (.ref pa) := atI_neg1 gx
          have at1 : atI [a1, a2] 0 = some a1 := rfl
          have at2 : atI [u1, u2] 0 = some u1 := rfl
          walk_at "rd"
          refine ⟨_, _, _, _, 1250, 1250, rfl, fa1, fv6, ka.1, kb.1, by decide, ?_⟩
          rw [BM.sg_neg (by grind)]
          refine ⟨_, _, rfl, rfl, _, rfl, ?_⟩
          rw [show decide ((0 : Int) ≤ -1) = false from rfl]
          refine iteF ?_
          exact ⟨_, rfl, .inl ⟨rfl, _, SqL.of eo6⟩, _, rfl, fin H6 (Same.refl _)⟩
      · have il := (List.getElem?_eq_some_iff.mp hx).1
        rw [List.length_map, List.length_append, List.length_map, List.length_singleton] at il
        have ie : i = M.length := by omega
        subst ie
        have ex : x = .str "x" := by
          rw [List.getElem?_map, List.getElem?_append_right (by rw [List.length_map]; exact Nat.le_refl _), List.length_map, Nat.sub_self] at hx
          exact (Option.some.inj hx).symm
        subst ex
        have s3 := same_upd (o := .tup [.int (M.length : Nat), .str "x"]) hpe
        have sm3 := sm.trans s3
        have hpe4 : SqT K (upd H3 pe (.tup [.int (M.length : Nat), .str "x"])) pe [.int (M.length : Nat), .str "x"] := .inl (.inl upd_same)
        generalize upd H3 pe (.tup [.int (M.length : Nat), .str "x"]) = H4 at *
        refine ⟨pe, _, rfl, hpe4, rfl, _, _, rfl, _, _, rfl, rfl, ?_⟩
        refine ⟨_, rfl, .inr ⟨rfl, fun H5 s5 => ?_⟩⟩
        have sm5 := sm3.trans s5
        refine ⟨_, rfl, rfl, _, rfl, ?_⟩
        rw [decide_eq_true (show V.non = V.non from rfl)]
        refine iteT ?_
        refine iteT ?_
        refine ⟨_, rfl, Nat.le_of_ble_eq_true rfl, fun a ha => ⟨a, C, M.length, rfl, upd_same, N.ox, N.noR, by omega, fun d hd hne => ?_⟩⟩
        rw [upd_ne hne] at hd
        refine ⟨rfl, d, _, upd_same, by rw [upd_ne hne, upd_same], hd, ?_⟩
        refine q _ d (sm5.trans fun b o e => ?_) upd_same
        have nd : b ≠ d := ne_of_none e hd
        have na : b ≠ a := ne_of_none e ha
        rw [upd_ne nd, del_ne na, upd_ne na, upd_ne nd, upd_ne na]
        exact e
    · rintro σ H3 ⟨iM, _⟩
      rw [List.length_map, List.length_append, List.length_map, List.length_singleton] at iM
      exact absurd iM (by omega)
def spRefused (K : PySem.W.Frag) : Sp := fun vs H Q _ => ∃ (M : Mp) (lo hi : Rat), vs = [.str (shM M ++ "\nx")] ∧ BM.Good lo hi M ∧ MB 1250 M ∧ M.length ≤ 40 ∧ ∀ H', Same H H' → Q (.int (M.length : Int)) H'
theorem ok_law_refused_row {C S g : Addr} {mc : Value} {fd : FuncData} (T : Tx mg) (N : NmAt K mg C S g mc fd) (D : DefAt K mg "_law_refused_row" s__law_refused_row ["text"]) (xread_map : CalX P w K mg base 4 "read_map" (spReadX K C)) : Cal P w K mg base 5 "_law_refused_row" (spRefused K) := by
  refine cal_of D sc__law_refused_row (fun vs H Q E h => ?_) (fun f cdv A outer s H vs Q E hr h => ?_)
  · obtain ⟨M, lo, hi, rfl, _⟩ := h
    rfl
  · obtain ⟨M, lo, hi, rfl, gd, mb, big, q⟩ := h
    obtain ⟨fr, frd, pr, FR, hmr, kpr, br⟩ := xread_map.ex
    refine ⟨_, pss_cons (ps_set (i := 1) sc__law_refused_row.nd rfl (.inl rfl) pe_non)
      (pss_cons (ps_try_as (i := 2) rfl rfl sc__law_refused_row.nd rfl rfl ⟨rfl, by decide, .inl N.gC⟩ takes0 (fun W pn xe tk _ => pss_one (ps_expr (pe_callS FR hr (by rfl) hmr kpr br (fun σ => passAt tk σ) (pa_cons (pv 0) pa_nil)))) (fun a oe cls d pn hz hf => pss_one (ps_set (i := 1) sc__law_refused_row.nd rfl (.inl rfl) (pe_xf N.xf N.noR hz hf (pv 2)))))
      (pss_one (ps_ret (pv 1)))), ?_⟩
    refine ⟨_, rfl, M, lo, hi, rfl, gd, mb, big, fun H1 d sm ed => ⟨true, N.me, fun _ a ha => ?_, fun z => Bool.noConfusion z⟩⟩
    refine ⟨_, rfl, rfl, rfl, d, _, .int (M.length : Int), rfl, ed, rfl, ?_⟩
    exact ⟨_, rfl, q _ sm⟩
end
end BW
namespace BW
open PySem PySem.Spec PyProof.Rows L2
open BM (Hb Kn Mp)
local macro_rules | `(tactic| walk_at "rd") => `(tactic| repeat (first
  | (refine ⟨_, _, _, _, rfl, rfl, by first | (show SqT _ _ _ _; assumption) | (show SqL _ _ _ _; assumption) | (show SqA _ _ _ _; assumption), by first | rfl | assumption, ?_⟩)
  | (refine ⟨_, rfl, ?_⟩)
  | (refine ⟨_, _, rfl, rfl, (by assumption : CMulW _ _), ?_⟩)
  | (refine ⟨_, _, rfl, rfl, ?_⟩)))
open TL
abbrev s__law_read_again : Stmt := topS 50
theorem sc__law_read_again : FnScope ["knots", "text"] ["knots"] (defScope s__law_read_again) := ⟨rfl, rfl, rfl, by decide +kernel, rfl, by decide +kernel, by decide +kernel⟩
def spAgain (K : PySem.W.Frag) : Sp := fun vs H Q _ => ∃ (v : V) (M : Mp) (lo hi : Rat), vs = [v] ∧ MpT K H v M ∧ BM.Good lo hi M ∧ MB 1250 M ∧ ∀ H', Same H H' → Q (.bl true) H'
section
variable {P : Program} {w : World} {K : PySem.W.Frag} {mg : Str → Option Value} {base : Heap}
theorem ok_law_read_again (T : Tx mg) (D : DefAt K mg "_law_read_again" s__law_read_again ["knots"]) (cmap_shown : Cal P w K mg base 2 "map_shown" (spShownM K)) (c_law_refused_row : Cal P w K mg base 5 "_law_refused_row" (spRefused K)) (cread_map : Cal P w K mg base 4 "read_map" (spReadM K)) : Cal P w K mg base 6 "_law_read_again" (spAgain K) := by
  refine cal_of D sc__law_read_again (fun vs H Q E h => ?_) (fun f cdv A outer s H vs Q E hr h => ?_)
  · obtain ⟨v, M, lo, hi, rfl, _⟩ := h
    rfl
  · obtain ⟨v, M, lo, hi, rfl, tM, g, mb, q⟩ := h
    obtain ⟨pM, us, rfl, hM, hk⟩ := id tM
    refine ⟨_, (pss_cons (ps_if (pt_cmpR op_gt (pe_callB call_len_seq (by rfl) T.len (by decide +kernel) (pa_cons (pv 0) pa_nil)) pe_int (nomark _))
      (pss_one (ps_ret pe_bl))
      pss_nil)
      (pss_cons (ps_set (i := 1) sc__law_read_again.nd rfl (.inl rfl) (pe_c cmap_shown hr (by decide) (by rfl) (pa_cons (pv 0) pa_nil)))
      (pss_cons (ps_if (pt_cmpR op_gt (pe_callB call_len_str (by rfl) T.len (by decide +kernel) (pa_cons (pv 1) pa_nil)) pe_int (nomark _))
      (pss_one (ps_ret pe_bl))
      pss_nil)
      (pss_cut (ps_if (PW.pt (pw_and (pt_cmpR op_lt (pe_callB call_len_str (by rfl) T.len (by decide +kernel) (pa_cons (pv 1) pa_nil)) pe_int (nomark _)) (pw_and1 (pt_cmpR (op_neD (hd_of hr)) (pe_c c_law_refused_row hr (by decide) (by rfl) (pa_cons (pe_op op_add_str (pv 1) pe_str) pa_nil)) (pe_callB call_len_seq (by rfl) T.len (by decide +kernel) (pa_cons (pv 0) pa_nil)) (nomark _)))))
      (pss_one (ps_ret pe_bl))
      pss_nil)
      (pss_one (ps_ret (pe_and (pe_cmpR op_eq (pe_callB call_len_seq (by rfl) T.len (by decide +kernel) (pa_cons (pe_split (pv 1) pe_str) pa_nil)) (pe_callB call_len_seq (by rfl) T.len (by decide +kernel) (pa_cons (pv 0) pa_nil)) (nomark _)) (pe_one (pe_cmpR (op_eqD (hd_of hr)) (pe_c cread_map hr (by decide) (by rfl) (pa_cons (pv 1) pa_nil)) (pv 0) (nomark _)))))))))), ?_⟩
    have ul := hk.length
    have s0 : sizeLine = 16777216 := sizeLine_eq
    have two := g.two
    have Mne : M ≠ [] := fun z => by rw [z] at two; exact absurd two (by decide)
    refine ⟨_, rfl, pM, us, rfl, .inr hM, _, _, rfl, rfl, _, rfl, ite2 (fun c => q H (Same.refl _)) (fun c => ?_)⟩
    have le : M.length ≤ 40 := by
      have : ¬ (40 : Int) < (us.length : Int) := fun z => c (decide_eq_true z)
      omega
    have lm := shM_size mb
    refine ⟨_, rfl, _, M, rfl, tM, mb, le, fun H1 s1 => ?_⟩
    have k1 := Keep.of s1
    refine ⟨_, rfl, shM M, rfl, by omega, _, _, rfl, rfl, _, rfl, ite2 (fun c => q H1 s1) (fun c => ?_)⟩
    refine ⟨fun σ H2 => σ = [some (.ref pM), some (.str (shM M))] ∧ Same H1 H2, ?_, ?_⟩
    · refine ⟨_, rfl, shM M, rfl, by omega, _, _, rfl, rfl, _, rfl, ite2 (fun c => ?_) (fun c => ?_)⟩
      · refine ⟨_, rfl, _, _, rfl, rfl, ?_, M, lo, hi, rfl, g, mb, le, fun H2 s2 => ?_⟩
        · show (shM M).length + ("\nx" : Str).length ≤ sizeLine
          have : ("\nx" : Str).length = 2 := by decide +kernel
          omega
        refine ⟨_, rfl, pM, us, rfl, .inr ((Keep.of (s1.trans s2)).sqT hM), _, _, .int _, .int _, rfl, rfl, _, rfl, ?_⟩
        rw [ul, show PyData.eqv (.int (M.length : Int)) (.int (M.length : Int)) = true from by simp [PyData.eqv]]
        exact iteF ⟨rfl, s2⟩
      · exact iteF ⟨rfl, Same.refl _⟩
    · rintro σ H2 ⟨rfl, s2⟩
      refine ⟨_, rfl, ⟨_, rfl⟩, _, _, rfl, rfl, by decide +kernel, by omega, fun pt hpt => ?_⟩
      rw [split_shM Mne]
      have s3 := same_upd (o := .lst ((M.map shK).map V.str)) hpt
      have et : (upd H2 pt (.lst ((M.map shK).map V.str))) pt = some (.lst ((M.map shK).map V.str)) := upd_same
      generalize upd H2 pt (.lst ((M.map shK).map V.str)) = H3 at *
      have s13 := s1.trans (s2.trans s3)
      have tM3 := tM.keep (Keep.of s13)
      refine ⟨pt, _, rfl, .inl (SqL.of et), _, rfl, pM, us, rfl, .inr ((Keep.of s13).sqT hM), rfl, _, rfl, ?_⟩
      rw [List.length_map, List.length_map, ul, decide_eq_true rfl]
      refine iteT ?_
      refine ⟨_, rfl, M, lo, hi, rfl, g, mb, le, fun H4 v s4 t4 => ?_⟩
      refine ⟨_, rfl, _, _, t4.dp, (tM3.keep (Keep.of s4)).dp, dM_shaped _, dM_shaped _, ?_⟩
      rw [dM_refl]
      exact q _ (s13.trans s4)
end
end BW
namespace BW
open PySem PySem.Spec PyProof.Rows L2
open BM (Hb Kn Mp)
local macro_rules | `(tactic| walk_at "rd") => `(tactic| repeat (first
  | (refine ⟨_, _, _, _, rfl, rfl, by first | (show SqT _ _ _ _; assumption) | (show SqL _ _ _ _; assumption) | (show SqA _ _ _ _; assumption), by first | rfl | assumption, ?_⟩)
  | (refine ⟨_, rfl, ?_⟩)
  | (refine ⟨_, _, rfl, rfl, (by assumption : CMulW _ _), ?_⟩)
  | (refine ⟨_, _, rfl, rfl, ?_⟩)))
open BM (turned idm put least raw)
theorem hb_neg {n : Nat} {r : Rat} (h : Hb n r) : Hb n (-r) := ⟨by rw [Rat.neg_num, Int.natAbs_neg]; exact h.1, by rw [Rat.neg_den]; exact h.2⟩
theorem ng_mb {n : Nat} {M : Mp} (h : MB n M) : MB n (BM.ng M) := fun k hk => by
  unfold BM.ng at hk
  simp only [List.mem_map, List.mem_reverse] at hk
  obtain ⟨j, hj, rfl⟩ := hk
  exact ⟨hb_neg (h j hj).1, hb_neg (h j hj).2⟩
theorem ng_len (M : Mp) : (BM.ng M).length = M.length := by
  unfold BM.ng
  simp
theorem bd_mb {n h : Nat} {M : Mp} (x : BM.Bd n h M) (le : n ≤ 1250) : MB 1250 M := fun k hk => ⟨(x.kn k hk).1.mono le, (x.kn k hk).2.mono le⟩
/-- two maps of small numbers -/
theorem ok_small {lo hi : Rat} {M o : Mp} (g : BM.Good lo hi M) (go : BM.Good lo hi o) (x : MB 14 M) (y : MB 14 o) (l1 : M.length ≤ 8) (l2 : o.length ≤ 8) : PutOk M o := by
  have lr := BM.raw_len g go
  have bl : (M.length - 1) * (o.length - 1) ≤ 7 * 7 := Nat.mul_le_mul (by omega) (by omega)
  exact ⟨x.mono (by decide), y.mono (by decide), bd_mb (BM.raw_bd g go (BM.kn_bd g.inc x) (BM.kn_bd go.inc y) (n := 160) (by decide) (by decide)) (by decide), by omega, by omega, by omega⟩
theorem ok_ng {lo hi : Rat} {M o : Mp} (g : BM.Good lo hi M) (go : BM.Good lo hi o) (x : MB 14 M) (y : MB 14 o) (l1 : M.length ≤ 8) (l2 : o.length ≤ 8) : PutOk (BM.ng M) (BM.ng o) :=
  ok_small (BM.ng_good g) (BM.ng_good go) (ng_mb x) (ng_mb y) (by rw [ng_len]; exact l1) (by rw [ng_len]; exact l2)
theorem put_mb {lo hi : Rat} {M o : Mp} (g : BM.Good lo hi M) (go : BM.Good lo hi o) (x : MB 14 M) (y : MB 14 o) : MB 1250 (put M o) :=
  bd_mb (BM.put_bd g go (BM.kn_bd g.inc x) (BM.kn_bd go.inc y) (n := 160) (by decide) (by decide)) (by decide)
theorem turned_mb {lo hi : Rat} {M : Mp} (g : BM.Good lo hi M) (x : MB 14 M) {m : Nat} (h : m ≤ 7) : MB 1250 (turned lo hi M m) := bd_mb (BM.turned_bd g x m) (by omega)
theorem seven {a m : Nat} (h : a ≤ 7) (hm : m ≤ 7) : a ^ m ≤ 823543 := by
  have e1 : a ^ m ≤ 7 ^ m := Nat.pow_le_pow_left h m
  have e2 : 7 ^ m ≤ 7 ^ 7 := Nat.pow_le_pow_right (by decide) hm
  have e3 : 7 ^ 7 = 823543 := by decide
  omega
theorem turned_big {lo hi : Rat} {M : Mp} (g : BM.Good lo hi M) (l : M.length ≤ 8) {m : Nat} (h : m ≤ 7) : (turned lo hi M m).length ≤ 1000000 := by
  have := BM.turned_len g m
  have := seven (a := M.length - 1) (by omega) h
  omega
/-- f turns, then r turns -/
theorem ok_turns2 {lo hi : Rat} {M : Mp} (g : BM.Good lo hi M) (x : MB 14 M) (l : M.length ≤ 8) {f r : Nat} (h : f + r ≤ 7) : PutOk (turned lo hi M f) (turned lo hi M r) := by
  have g1 := BM.turned_good g f
  have g2 := BM.turned_good g r
  have lr := BM.raw_len g1 g2
  have lf := BM.turned_len g f
  have lr2 := BM.turned_len g r
  have bl : ((turned lo hi M f).length - 1) * ((turned lo hi M r).length - 1) ≤ (M.length - 1) ^ f * (M.length - 1) ^ r := Nat.mul_le_mul (by omega) (by omega)
  rw [← Nat.pow_add] at bl
  have b7 := seven (a := M.length - 1) (by omega) h
  exact ⟨turned_mb g x (by omega), turned_mb g x (by omega), bd_mb (BM.raw_bd g1 g2 (BM.turned_bd g x f) (BM.turned_bd g x r) (n := 1250) (by omega) (by omega)) (by decide), turned_big g l (by omega), turned_big g l (by omega), by omega⟩
/-- some turns, then one more -/
theorem ok_next {lo hi : Rat} {M : Mp} (g : BM.Good lo hi M) (x : MB 14 M) (l : M.length ≤ 8) {k : Nat} (h : k < 7) : PutOk (turned lo hi M k) M := by
  have g1 := BM.turned_good g k
  have lr := BM.raw_len g1 g
  have lf := BM.turned_len g k
  have b7 := seven (a := M.length - 1) (m := k + 1) (by omega) h
  have bl : ((turned lo hi M k).length - 1) * (M.length - 1) ≤ (M.length - 1) ^ k * (M.length - 1) := Nat.mul_le_mul (by omega) (Nat.le_refl _)
  rw [show (M.length - 1) ^ k * (M.length - 1) = (M.length - 1) ^ (k + 1) from rfl] at bl
  exact ⟨turned_mb g x (by omega), x.mono (by decide), bd_mb (BM.raw_bd g1 g (BM.turned_bd g x k) (BM.kn_bd g.inc x) (n := 1250) (by omega) (by omega)) (by decide), turned_big g l (by omega), by omega, by omega⟩
theorem ok_id1 {lo hi : Rat} {M : Mp} (g : BM.Good lo hi M) (x : MB 14 M) (l : M.length ≤ 8) : PutOk (turned lo hi M 0) M := ok_next g x l (by decide)
theorem ok_id2 {lo hi : Rat} {M : Mp} (g : BM.Good lo hi M) (x : MB 14 M) (l : M.length ≤ 8) : PutOk M (turned lo hi M 0) :=
  ok_small g (BM.turned_good g 0) x (fun k hk => (BM.idm_bd g.lohi (g.lo_hb x).1 (g.lo_hb x).2).kn k hk) l (by show 2 ≤ 8; decide)
end BW
namespace BW
open PySem PySem.Spec PyProof.Rows L2
open BM (Hb Kn Mp)
local macro_rules | `(tactic| walk_at "rd") => `(tactic| repeat (first
  | (refine ⟨_, _, _, _, rfl, rfl, by first | (show SqT _ _ _ _; assumption) | (show SqL _ _ _ _; assumption) | (show SqA _ _ _ _; assumption), by first | rfl | assumption, ?_⟩)
  | (refine ⟨_, rfl, ?_⟩)
  | (refine ⟨_, _, rfl, rfl, (by assumption : CMulW _ _), ?_⟩)
  | (refine ⟨_, _, rfl, rfl, ?_⟩)))
open BM (turned idm put least raw)
abbrev s_law : Stmt := topS 51
theorem sc_law : FnScope ["script", "deck", "turn", "knots", "other", "stays", "least", "many", "first", "parts", "one", "part"] ["script"] (defScope s_law) := ⟨rfl, rfl, rfl, by decide +kernel, rfl, by decide +kernel, by decide +kernel⟩
def spLaw (K : PySem.W.Frag) : Sp := fun vs H Q _ => ∃ (a : Addr) (ns : List Int), vs = [.ref a] ∧ SqL K H a (ns.map V.int) ∧ ns.length ≤ 63 ∧ ∀ H', Q (.bl true) H'
theorem pick3 {i : Nat} (h : i < 3) : ∃ m : Nat, atI [V.int 8, V.int 3, V.int 5] (0 + (i : Int)) = some (.int (m : Int)) ∧ 3 ≤ m ∧ m ≤ 8 := by
  have : i = 0 ∨ i = 1 ∨ i = 2 := by omega
  rcases this with rfl | rfl | rfl
  · exact ⟨8, rfl, by decide, by decide⟩
  · exact ⟨3, rfl, by decide, by decide⟩
  · exact ⟨5, rfl, by decide, by decide⟩
section
variable {P : Program} {w : World} {K : PySem.W.Frag} {mg : Str → Option Value} {base : Heap}
theorem ok_law {f : Addr} {fd : FuncData} (T : Tx mg) (F : Fun K "law" "law" s_law f fd) (c_law_deck : Cal P w K mg base 1 "_law_deck" (spDeck K)) (c_law_map : Cal P w K mg base 4 "_law_map" (spLawMap K)) (c_law_second : Cal P w K mg base 3 "_law_second" (spSecond K)) (cturned : Cal P w K mg base 6 "turned" (spTurned K))
    (cleast_knots : Cal P w K mg base 4 "least_knots" (spLeast K)) (cput_behind : Cal P w K mg base 5 "put_behind" (spPut K)) (c_law_pieces_right : Cal P w K mg base 6 "_law_pieces_right" (spPiecesRight K)) (c_law_two_right : Cal P w K mg base 6 "_law_two_right" (spTwoRight K))
    (c_law_turns : Cal P w K mg base 6 "_law_turns" (spLawTurns K)) (c_law_next : Cal P w K mg base 2 "_law_next" (spNext K)) (c_law_read_again : Cal P w K mg base 6 "_law_read_again" (spAgain K)) : FnOk P w K mg base CX0 7 f fd ["script"] (spLaw K) := by
  refine F.ok sc_law (fun vs H Q E h => ?_) (fun cdv A outer s H vs Q E hr h => ?_)
  · obtain ⟨a, ns, rfl, _⟩ := h
    rfl
  · obtain ⟨a, ns, rfl, hS, hl, q⟩ := h
    refine ⟨_, (pss_cons (ps_set (i := 1) sc_law.nd rfl (.inl rfl) (pe_c c_law_deck hr (by decide) (by rfl) (pa_cons (pv 0) pa_nil)))
      (pss_cons (ps_for PassesOwn.never rfl (pi_range1 (by rfl) T.range (pa_cons pe_int pa_nil)) (pg_name (i := 2) sc_law.nd rfl (.inl rfl))
      (pss_cons (ps_set (i := 3) sc_law.nd rfl (.inl rfl) (pe_c c_law_map hr (by decide) (by rfl) (pa_cons (pv 1) (pa_cons (pe_ix ix_list (pe_lst (pa_cons pe_int (pa_cons pe_int (pa_cons pe_int pa_nil)))) (pv 2) (fun _ _ => rfl)) pa_nil))))
        (pss_cons (ps_set (i := 4) sc_law.nd rfl (.inl rfl) (pe_c c_law_second hr (by decide) (by rfl) (pa_cons (pv 1) (pa_cons (pv 3) pa_nil))))
        (pss_cons (ps_set (i := 5) sc_law.nd rfl (.inl rfl) (pe_c cturned hr (by decide) (by rfl) (pa_cons (pv 3) (pa_cons pe_int pa_nil))))
        (pss_cons (ps_set (i := 6) sc_law.nd rfl (.inl rfl) (pe_c cleast_knots hr (by decide) (by rfl) (pa_cons (pv 3) pa_nil)))
        (pss_cut (ps_if (PW.pt (pw_or (pt_cmpR (op_neD (hd_of hr)) (pe_c cput_behind hr (by decide) (by rfl) (pa_cons (pv 5) (pa_cons (pv 3) pa_nil))) (pv 6) (nomark _)) (pw_or (pt_cmpR (op_neD (hd_of hr)) (pe_c cput_behind hr (by decide) (by rfl) (pa_cons (pv 3) (pa_cons (pv 5) pa_nil))) (pv 6) (nomark _)) (pw_or1 (pt_not (pt_val (pe_c c_law_pieces_right hr (by decide) (by rfl) (pa_cons (pv 3) pa_nil))))))))
        (pss_one (ps_ret pe_bl))
        pss_nil)
        (pss_cut (ps_if (PW.pt (pw_or (pt_not (pt_val (pe_c c_law_two_right hr (by decide) (by rfl) (pa_cons (pv 3) (pa_cons (pv 4) pa_nil))))) (pw_or1 (pt_not (pt_val (pe_c c_law_two_right hr (by decide) (by rfl) (pa_cons (pv 4) (pa_cons (pv 3) pa_nil))))))))
        (pss_one (ps_ret pe_bl))
        pss_nil)
        (pss_cons (ps_set (i := 7) sc_law.nd rfl (.inl rfl) (pe_c c_law_turns hr (by decide) (by rfl) (pa_cons (pv 1) (pa_cons (pv 3) (pa_cons pe_int pa_nil)))))
        (pss_cons (ps_set (i := 8) sc_law.nd rfl (.inl rfl) (pe_c c_law_next hr (by decide) (by rfl) (pa_cons (pv 1) (pa_cons (pe_op op_add (pv 7) pe_int) pa_nil))))
        (pss_cons (ps_set (i := 9) sc_law.nd rfl (.inl rfl) (pe_lst (pa_cons (pe_c cturned hr (by decide) (by rfl) (pa_cons (pv 3) (pa_cons (pv 8) pa_nil))) (pa_cons (pe_c cturned hr (by decide) (by rfl) (pa_cons (pv 3) (pa_cons (pe_op op_sub (pv 7) (pv 8)) pa_nil))) pa_nil))))
        (pss_cons (ps_for PassesOwn.never rfl (pi_list (pe_op op_cat (pv 9) (pe_lst (pa_cons (pe_c cput_behind hr (by decide) (by rfl) (pa_cons (pv 3) (pa_cons (pv 4) pa_nil))) (pa_cons (pe_c cturned hr (by decide) (by rfl) (pa_cons (pv 3) (pa_cons (pv 7) pa_nil))) pa_nil))))) (pg_name (i := 10) sc_law.nd rfl (.inl rfl))
        (pss_one (ps_if (pt_not (pt_val (pe_c c_law_read_again hr (by decide) (by rfl) (pa_cons (pv 10) pa_nil))))
          (pss_one (ps_ret pe_bl))
          pss_nil)))
        (pss_one (ps_if (PW.pt (pw_and (pt_cmpR op_le (pe_callB (cr_max rfl) (by rfl) T.max (by decide +kernel) (pa_cons (pe_lc (own := [("part", 11)]) (g := gName 11) (tt := tYes) rfl sc_law.nd (pi_list (pv 9)) (blkOk_by (N := ["script", "deck", "turn", "knots", "other", "stays", "least", "many", "first", "parts", "one", "part"]) (sc := defScope s_law) (by decide +kernel)) (fun _ _ _ _ _ => (pg_name (i := 11) sc_law.nd rfl (.inl rfl))) (fun _ _ _ _ _ => pts_nil) (fun _ _ _ _ _ => (pe_callB (call_len_at K) (by rfl) T.len (by decide +kernel) (pa_cons (pv 11) pa_nil)))) pa_nil)) pe_int (nomark _)) (pw_and1 (pt_cmpR (op_neD (hd_of hr)) (pe_c cput_behind hr (by decide) (by rfl) (pa_cons (pe_ix ix_list (pv 9) pe_int (fun _ _ => rfl)) (pa_cons (pe_ix ix_list (pv 9) pe_int (fun _ _ => rfl)) pa_nil))) (pe_c cturned hr (by decide) (by rfl) (pa_cons (pv 3) (pa_cons (pv 7) pa_nil))) (nomark _)))))
        (pss_one (ps_ret pe_bl))
        pss_nil)))))))))))))
      (pss_one (ps_ret pe_bl)))), ?_⟩
    refine ⟨_, rfl, a, ns, rfl, hS, hl, fun H0 d s s0 hd hs D0 => ?_⟩
    refine ⟨3, rfl, by decide, by decide, for_range (n := 3) (fun i σ H1 => ∃ y2 y3 y4 y5 y6 y7 y8 y9 y10 y11 : Option V, σ = [some (.ref a), some (.ref d), y2, y3, y4, y5, y6, y7, y8, y9, y10, y11] ∧ DeckAt H1 d s (1000 - 200 * i)) ?_ ?_ ?_⟩
    · exact ⟨_, _, _, _, _, _, _, _, _, _, rfl, D0.mono (by decide)⟩
    · rintro i σ H1 hi ⟨y2, y3, y4, y5, y6, y7, y8, y9, y10, y11, rfl, D1⟩
      obtain ⟨m, em, m3, m8⟩ := pick3 hi
      obtain ⟨xd, hd1⟩ := D1.lst
      obtain ⟨xs1, hs1⟩ := D1.lst2
      refine ⟨_, rfl, by show 3 ≤ sizeLine; decide, fun l hl => ?_⟩
      have D2 : DeckAt (upd H1 l (.lst [.int 8, .int 3, .int 5])) d s (900 - 200 * i + 100) := (D1.upd (ne_of_none hd1 hl).symm (ne_of_none hs1 hl).symm).mono (by have hi3 : i < 3 := hi; omega)
      have hL : SqL K (upd H1 l (.lst [.int 8, .int 3, .int 5])) l [.int 8, .int 3, .int 5] := SqL.of upd_same
      generalize upd H1 l (.lst [.int 8, .int 3, .int 5]) = H2 at *
      refine ⟨_, rfl, l, _, _, _, rfl, rfl, hL, em, d, s, m, 900 - 200 * i, rfl, D2, m3, m8, fun H3 vM M lo hh sd3 D3 tM g l8 mb => ?_⟩
      obtain ⟨x3, hd3⟩ := D3.lst
      refine ⟨_, rfl, _, rfl, d, s, vM, M, lo, hh, 890 - 200 * i, rfl, D3.mono (by have hi3 : i < 3 := hi; omega), tM, g, l8, mb, fun H4 vN N sd4 D4 tN gN n8 nb => ?_⟩
      replace tM := tM.keep (sd4.keep hd3)
      refine ⟨_, rfl, vM, M, lo, hh, 0, rfl, tM, g, by decide, fun k hk => absurd hk (Nat.not_lt_zero _), fun H5 vS s5 tS => ?_⟩
      replace tM := tM.keep (Keep.of s5)
      replace tN := tN.keep (Keep.of s5)
      have D5 := D4.same s5
      obtain ⟨pM, us, eM, hM, hk⟩ := id tM
      refine ⟨_, rfl, pM, us, M, 14, by rw [eM]; rfl, .inr hM, hk, g.inc, g.two, by omega, mb, by decide, fun H6 vL s6 tL => ?_⟩
      clear hM hk
      replace tM := tM.keep (Keep.of s6)
      replace tN := tN.keep (Keep.of s6)
      replace tS := tS.keep (Keep.of s6)
      have D6 := D5.same s6
      refine ⟨fun σ H7 => σ = [some (.ref a), some (.ref d), some (.int (0 + (i : Int))), some vM, some vN, some vS, some vL, y7, y8, y9, y10, y11] ∧ Same H6 H7, ?_, ?_⟩
      · refine ⟨_, rfl, _, rfl, vS, vM, turned lo hh M 0, M, lo, hh, rfl, tS, tM, BM.turned_good g 0, g, ok_id1 g mb l8, fun H7 v7 s7 t7 => ?_⟩
        rw [show put (turned lo hh M 0) M = least M from BM.law_stays1 g] at t7
        have tL7 := tL.keep (Keep.of s7)
        have tM7 := tM.keep (Keep.of s7)
        have tS7 := tS.keep (Keep.of s7)
        refine ⟨_, rfl, _, _, t7.dp, tL7.dp, dM_shaped _, dM_shaped _, ?_⟩
        rw [dM_refl]
        refine ⟨_, rfl, iteF ?_⟩
        refine ⟨_, rfl, _, rfl, vM, vS, M, turned lo hh M 0, lo, hh, rfl, tM7, tS7, g, BM.turned_good g 0, ok_id2 g mb l8, fun H8 v8 s8 t8 => ?_⟩
        rw [show put M (turned lo hh M 0) = least M from BM.law_stays2 g] at t8
        refine ⟨_, rfl, _, _, t8.dp, (tL7.keep (Keep.of s8)).dp, dM_shaped _, dM_shaped _, ?_⟩
        rw [dM_refl]
        refine ⟨_, rfl, iteF ?_⟩
        refine ⟨_, rfl, vM, M, lo, hh, rfl, tM7.keep (Keep.of s8), g, mb, l8, fun H9 s9 => ⟨true, rfl, iteF ⟨rfl, s7.trans (s8.trans s9)⟩⟩⟩
      · rintro σ H7 ⟨rfl, s7⟩
        replace tM := tM.keep (Keep.of s7)
        replace tN := tN.keep (Keep.of s7)
        have D7 := D6.same s7
        clear tS tL
        refine ⟨fun σ H8 => σ = [some (.ref a), some (.ref d), some (.int (0 + (i : Int))), some vM, some vN, some vS, some vL, y7, y8, y9, y10, y11] ∧ Same H7 H8, ?_, ?_⟩
        · refine ⟨_, rfl, _, rfl, vM, vN, M, N, lo, hh, rfl, tM, tN, g, gN, ok_small g gN mb nb l8 n8, ok_ng g gN mb nb l8 n8, fun H8 s8 => ?_⟩
          refine ⟨true, rfl, iteF ?_⟩
          refine ⟨_, rfl, _, rfl, vN, vM, N, M, lo, hh, rfl, tN.keep (Keep.of s8), tM.keep (Keep.of s8), gN, g, ok_small gN g nb mb n8 l8, ok_ng gN g nb mb n8 l8, fun H9 s9 => ?_⟩
          exact ⟨true, rfl, iteF ⟨rfl, s8.trans s9⟩⟩
        · rintro σ H8 ⟨rfl, s8⟩
          replace tM := tM.keep (Keep.of s8)
          replace tN := tN.keep (Keep.of s8)
          have D8 := D7.same s8
          obtain ⟨x8, hd8⟩ := D8.lst
          refine ⟨_, rfl, _, rfl, d, s, vM, M, 889 - 200 * i, rfl, D8.mono (by have hi3 : i < 3 := hi; omega), tM, g.inc, g.two, l8, mb.mono (by decide), fun H9 mm sd9 D9 m7 => ?_⟩
          replace tM := tM.keep (sd9.keep hd8)
          replace tN := tN.keep (sd9.keep hd8)
          obtain ⟨x9, hd9⟩ := D9.lst
          refine ⟨_, rfl, _, rfl, _, _, rfl, rfl, d, s, _, 888 - 200 * i, rfl, D9.mono (by have hi3 : i < 3 := hi; omega), by omega, by omega, fun H10 r sd10 D10 r0 r1 => ?_⟩
          replace tM := tM.keep (sd10.keep hd9)
          replace tN := tN.keep (sd10.keep hd9)
          obtain ⟨fi, rfl⟩ := Int.eq_ofNat_of_zero_le r0
          obtain ⟨c, rfl⟩ : ∃ c : Nat, mm = fi + c := ⟨mm - fi, by omega⟩
          refine ⟨_, rfl, _, rfl, vM, M, lo, hh, fi, rfl, tM, g, by omega, fun k hk => ok_next g mb l8 (by omega), fun H11 vA s11 tA => ?_⟩
          replace tM := tM.keep (Keep.of s11)
          replace tN := tN.keep (Keep.of s11)
          refine ⟨_, rfl, _, rfl, _, rfl, _, _, rfl, rfl, vM, M, lo, hh, c, by show [vM, V.int (((fi + c : Nat) : Int) - (fi : Int))] = [vM, V.int (c : Int)]; rw [show ((fi + c : Nat) : Int) - (fi : Int) = (c : Int) by omega], tM, g, by omega, fun k hk => ok_next g mb l8 (by omega), fun H12 vB s12 tB => ?_⟩
          replace tM := tM.keep (Keep.of s12)
          replace tN := tN.keep (Keep.of s12)
          replace tA := tA.keep (Keep.of s12)
          have D12 := (D10.same s11).same s12
          refine ⟨by show 2 ≤ sizeLine; decide, fun lp hlp => ?_⟩
          have s13 := same_upd (o := .lst [vA, vB]) hlp
          have e13 : (upd H12 lp (.lst [vA, vB])) lp = some (.lst [vA, vB]) := upd_same
          generalize upd H12 lp (.lst [vA, vB]) = H13 at *
          replace tM := tM.keep (Keep.of s13)
          replace tN := tN.keep (Keep.of s13)
          replace tA := tA.keep (Keep.of s13)
          replace tB := tB.keep (Keep.of s13)
          have D13 := D12.same s13
          refine ⟨_, rfl, _, rfl, _, rfl, vM, vN, M, N, lo, hh, rfl, tM, tN, g, gN, ok_small g gN mb nb l8 n8, fun H14 vC s14 tC' => ?_⟩
          refine ⟨_, rfl, _, rfl, vM, M, lo, hh, fi + c, rfl, tM.keep (Keep.of s14), g, by omega, fun k hk => ok_next g mb l8 (by omega), fun H15 vD s15 tD' => ?_⟩
          have s135 := s14.trans s15
          replace tM := tM.keep (Keep.of s135)
          replace tA := tA.keep (Keep.of s135)
          replace tB := tB.keep (Keep.of s135)
          replace tC' := tC'.keep (Keep.of s15)
          have D15 := D13.same s135
          have e15 := s135 _ _ e13
          refine ⟨by show 2 ≤ sizeLine; decide, fun l2 hl2 => ?_⟩
          have s16 := same_upd (o := .lst [vC, vD]) hl2
          have e2 : (upd H15 l2 (.lst [vC, vD])) l2 = some (.lst [vC, vD]) := upd_same
          generalize upd H15 l2 (.lst [vC, vD]) = H16 at *
          refine ⟨lp, l2, _, _, rfl, rfl, s16 _ _ e15, e2, by show 4 ≤ sizeLine; decide, fun l3 hl3 => ?_⟩
          have s17 := s16.trans (same_upd (o := .lst ([vA, vB] ++ [vC, vD])) hl3)
          have e3 : (upd H16 l3 (.lst ([vA, vB] ++ [vC, vD]))) l3 = some (.lst [vA, vB, vC, vD]) := upd_same
          generalize upd H16 l3 (.lst ([vA, vB] ++ [vC, vD])) = H17 at *
          have k17 := Keep.of s17
          replace tM := tM.keep k17
          replace tA := tA.keep k17
          replace tB := tB.keep k17
          replace tC' := tC'.keep k17
          replace tD' := tD'.keep k17
          have D17 := D15.same s17
          have e17 := s17 _ _ e15
          have all4 : ∀ x ∈ [vA, vB, vC, vD], ∃ o : Mp, MpT K H17 x o ∧ BM.Good lo hh o ∧ MB 1250 o := by
            intro x hx
            simp only [List.mem_cons, List.not_mem_nil, or_false] at hx
            rcases hx with rfl | rfl | rfl | rfl
            · exact ⟨_, tA, BM.turned_good g _, turned_mb g mb (by omega)⟩
            · exact ⟨_, tB, BM.turned_good g _, turned_mb g mb (by omega)⟩
            · exact ⟨_, tC', BM.put_good g gN, put_mb g gN mb nb⟩
            · exact ⟨_, tD', BM.turned_good g _, turned_mb g mb (by omega)⟩
          refine ⟨l3, rfl, ⟨_, SqL.of e3⟩, for_list (K := K) (a := l3) (xs := [vA, vB, vC, vD]) (fun j σ H18 => ∃ y10 : Option V, σ = [some (.ref a), some (.ref d), some (.int (0 + (i : Int))), some vM, some vN, some vS, some vL, some (.int ((fi + c : Nat) : Int)), some (.int (fi : Int)), some (.ref lp), y10, y11] ∧ Same H17 H18)
            ⟨_, rfl, Same.refl _⟩ (fun j σ H18 _ ⟨_, _, sm⟩ => SqL.of (sm _ _ e3)) ?_ ?_⟩
          · rintro j x σ H18 hx ⟨y10, rfl, sm⟩
            obtain ⟨o, to, go, bo⟩ := all4 x (List.mem_of_getElem? hx)
            refine ⟨_, rfl, x, o, lo, hh, rfl, to.keep (Keep.of sm), go, bo, fun H19 s19 => ⟨true, rfl, iteF ?_⟩⟩
            exact ⟨_, rfl, sm.trans s19⟩
          · rintro σ H18 ⟨y10, rfl, sm⟩
            have k18 := Keep.of sm
            replace tM := tM.keep k18
            replace tA := tA.keep k18
            replace tB := tB.keep k18
            have D18 := D17.same sm
            have e18 := sm _ _ e17
            refine ⟨_, rfl, lp, rfl, ⟨_, SqL.of e18⟩, fun Dx hDx => ?_⟩
            refine lc_list (K := K) (a := lp) (xs := [vA, vB]) (fun j H19 => Same H18 H19 ∧ ∃ ns : List Int, H19 Dx = some (.lst (ns.map V.int)) ∧ ns.length = j) ⟨same_upd hDx, [], upd_same, rfl⟩ (fun j H19 _ ⟨sm9, _⟩ => SqL.of (sm9 _ _ e18)) ?_ ?_
            · rintro j x H19 hx ⟨sm9, ns9, e9, l9⟩
              have hj : j < 2 := (List.getElem?_eq_some_iff.mp hx).1
              have hxm : ∃ p us, x = .ref p ∧ SqT K H19 p us := by
                have hm := List.mem_of_getElem? hx
                simp only [List.mem_cons, List.not_mem_nil, or_false] at hm
                rcases hm with rfl | rfl
                · obtain ⟨p, us, e, hp, _⟩ := tA.keep (Keep.of sm9)
                  exact ⟨p, us, e, hp⟩
                · obtain ⟨p, us, e, hp, _⟩ := tB.keep (Keep.of sm9)
                  exact ⟨p, us, e, hp⟩
              obtain ⟨p, us, rfl, hp⟩ := hxm
              refine ⟨rfl, _, rfl, p, us, rfl, .inr hp, _, e9, small7 (by rw [List.length_map]; omega), Same.upd_new sm9 hDx, ns9 ++ [(us.length : Int)], ?_, by rw [List.length_append, l9]; rfl⟩
              rw [upd_same, List.map_append]
              rfl
            · rintro H19 ⟨sm9, ns9, e9, l9⟩
              have k19 := Keep.of sm9
              replace tM := tM.keep k19
              replace tA := tA.keep k19
              replace tB := tB.keep k19
              have D19 := D18.same sm9
              have e19 := SqL.of (K := K) (sm9 _ _ e18)
              refine ⟨Dx, ns9, rfl, SqL.of e9, by rw [l9]; exact Nat.zero_lt_succ _, fun mx _ _ => ?_⟩
              refine ⟨_, _, rfl, rfl, _, rfl, ite2 (fun cc => ?_) (fun cc => iteF ?_)⟩
              · refine ⟨_, rfl, lp, _, 0, _, rfl, rfl, e19, atI_nat (j := 0) rfl, _, rfl, lp, _, 1, _, rfl, rfl, e19, atI_nat (j := 1) rfl, ?_⟩
                refine ⟨vA, vB, turned lo hh M fi, turned lo hh M c, lo, hh, rfl, tA, tB, BM.turned_good g fi, BM.turned_good g c, ok_turns2 g mb l8 m7, fun H20 v20 s20 t20 => ?_⟩
                rw [BM.law_turns g fi c] at t20
                refine ⟨_, rfl, _, rfl, vM, M, lo, hh, fi + c, rfl, tM.keep (Keep.of s20), g, by omega, fun k hk => ok_next g mb l8 (by omega), fun H21 v21 s21 t21 => ?_⟩
                refine ⟨_, _, (t20.keep (Keep.of s21)).dp, t21.dp, dM_shaped _, dM_shaped _, _, rfl, ?_⟩
                rw [dM_refl]
                refine iteF ?_
                exact ⟨_, _, _, _, _, _, _, _, _, _, rfl, ((D19.same s20).same s21).mono (by have hi3 : i < 3 := hi; omega)⟩
              · exact ⟨_, _, _, _, _, _, _, _, _, _, rfl, D19.mono (by have hi3 : i < 3 := hi; omega)⟩
    · rintro σ H1 _
      exact q H1
end
end BW
namespace BW
open PySem PySem.Spec PyProof.Rows L2
/-- a def of the text, from what the top has written -/
theorem def_at {K : PySem.W.Frag} {h : Heap} {mg : Str → Option Value} (X : K.In h) (G : h.Ns mainGlobals mg) {x : Str} {st : Stmt} {ps : List Str} {f : Addr} {oc kV dc pm cd ct : Value} {od an : Option Addr} {sl : Array (Option Value)}
    (b : ∀ (kV dc pm : Value) (an : Option Addr) (cd ct : Value) (us : List Value), us.length = ps.length → bindArgs (PySem.W.fnOf x x (defArgs st) (defBody st) (defScope st) .none kV dc pm an cd ct) ⟨us, []⟩ = pure (ps.zip us))
    (na : PySem.W.nsIn K mainGlobals x = some (some (.ref f))) (nl : K.lookup f = some ⟨oc, od, .func (PySem.W.fnOf x x (defArgs st) (defBody st) (defScope st) .none kV dc pm an cd ct), sl⟩)
    (nc : PySem.W.codeIn K cd x = true) (nk : PySem.W.keepIn K (.ref f) = true) : DefAt K mg x st ps := by
  have F := fun_mk nl nc nk
  exact ⟨f, _, F, PySem.W.mg_of X G na, F.binds b⟩
theorem def_cut {Goal : Prop} {K : PySem.W.Frag} {h : Heap} {mg : Str → Option Value} (X : K.In h) (G : h.Ns mainGlobals mg) {x : Str} {st : Stmt} {ps : List Str} {f : Addr} {oc kV dc pm cd ct : Value} {od an : Option Addr} {sl : Array (Option Value)}
    (b : ∀ (kV dc pm : Value) (an : Option Addr) (cd ct : Value) (us : List Value), us.length = ps.length → bindArgs (PySem.W.fnOf x x (defArgs st) (defBody st) (defScope st) .none kV dc pm an cd ct) ⟨us, []⟩ = pure (ps.zip us))
    (na : PySem.W.nsIn K mainGlobals x = some (some (.ref f))) (nl : K.lookup f = some ⟨oc, od, .func (PySem.W.fnOf x x (defArgs st) (defBody st) (defScope st) .none kV dc pm an cd ct), sl⟩)
    (nc : PySem.W.codeIn K cd x = true) (nk : PySem.W.keepIn K (.ref f) = true) (z : DefAt K mg x st ps → Goal) : Goal := z (def_at X G b na nl nc nk)
theorem fig_cut {Goal : Prop} {K : PySem.W.Frag} {h : Heap} {mg : Str → Option Value} (X : K.In h) (G : h.Ns mainGlobals mg) {t : Tok} (na : PySem.W.nsIn K mainGlobals "FIGURES" = some (some (.str "0123456789" t))) (z : (∃ t, mg "FIGURES" = some (.str "0123456789" t)) → Goal) : Goal :=
  z ⟨t, PySem.W.mg_of X G na⟩
theorem bd_frac {kV dc pm : Value} {an : Option Addr} {cd ct : Value} {us : List Value} (hl : us.length = (["above", "below"] : List Str).length) : bindArgs (PySem.W.fnOf "frac" "frac" (defArgs s_frac) (defBody s_frac) (defScope s_frac) .none kV dc pm an cd ct) ⟨us, []⟩ = pure ((["above", "below"] : List Str).zip us) := match us, hl with | [_, _], _ => rfl
theorem bd_frac_plus {kV dc pm : Value} {an : Option Addr} {cd ct : Value} {us : List Value} (hl : us.length = (["one", "other"] : List Str).length) : bindArgs (PySem.W.fnOf "frac_plus" "frac_plus" (defArgs s_frac_plus) (defBody s_frac_plus) (defScope s_frac_plus) .none kV dc pm an cd ct) ⟨us, []⟩ = pure ((["one", "other"] : List Str).zip us) := match us, hl with | [_, _], _ => rfl
theorem bd_frac_less {kV dc pm : Value} {an : Option Addr} {cd ct : Value} {us : List Value} (hl : us.length = (["one", "other"] : List Str).length) : bindArgs (PySem.W.fnOf "frac_less" "frac_less" (defArgs s_frac_less) (defBody s_frac_less) (defScope s_frac_less) .none kV dc pm an cd ct) ⟨us, []⟩ = pure ((["one", "other"] : List Str).zip us) := match us, hl with | [_, _], _ => rfl
theorem bd_frac_times {kV dc pm : Value} {an : Option Addr} {cd ct : Value} {us : List Value} (hl : us.length = (["one", "other"] : List Str).length) : bindArgs (PySem.W.fnOf "frac_times" "frac_times" (defArgs s_frac_times) (defBody s_frac_times) (defScope s_frac_times) .none kV dc pm an cd ct) ⟨us, []⟩ = pure ((["one", "other"] : List Str).zip us) := match us, hl with | [_, _], _ => rfl
theorem bd_frac_over {kV dc pm : Value} {an : Option Addr} {cd ct : Value} {us : List Value} (hl : us.length = (["one", "other"] : List Str).length) : bindArgs (PySem.W.fnOf "frac_over" "frac_over" (defArgs s_frac_over) (defBody s_frac_over) (defScope s_frac_over) .none kV dc pm an cd ct) ⟨us, []⟩ = pure ((["one", "other"] : List Str).zip us) := match us, hl with | [_, _], _ => rfl
theorem bd_frac_side {kV dc pm : Value} {an : Option Addr} {cd ct : Value} {us : List Value} (hl : us.length = (["one", "other"] : List Str).length) : bindArgs (PySem.W.fnOf "frac_side" "frac_side" (defArgs s_frac_side) (defBody s_frac_side) (defScope s_frac_side) .none kV dc pm an cd ct) ⟨us, []⟩ = pure ((["one", "other"] : List Str).zip us) := match us, hl with | [_, _], _ => rfl
theorem bd_slope_between {kV dc pm : Value} {an : Option Addr} {cd ct : Value} {us : List Value} (hl : us.length = (["one", "other"] : List Str).length) : bindArgs (PySem.W.fnOf "slope_between" "slope_between" (defArgs s_slope_between) (defBody s_slope_between) (defScope s_slope_between) .none kV dc pm an cd ct) ⟨us, []⟩ = pure ((["one", "other"] : List Str).zip us) := match us, hl with | [_, _], _ => rfl
theorem bd_value_of {kV dc pm : Value} {an : Option Addr} {cd ct : Value} {us : List Value} (hl : us.length = (["knots", "point"] : List Str).length) : bindArgs (PySem.W.fnOf "value_of" "value_of" (defArgs s_value_of) (defBody s_value_of) (defScope s_value_of) .none kV dc pm an cd ct) ⟨us, []⟩ = pure ((["knots", "point"] : List Str).zip us) := match us, hl with | [_, _], _ => rfl
theorem bd_least_knots {kV dc pm : Value} {an : Option Addr} {cd ct : Value} {us : List Value} (hl : us.length = (["knots"] : List Str).length) : bindArgs (PySem.W.fnOf "least_knots" "least_knots" (defArgs s_least_knots) (defBody s_least_knots) (defScope s_least_knots) .none kV dc pm an cd ct) ⟨us, []⟩ = pure ((["knots"] : List Str).zip us) := match us, hl with | [_], _ => rfl
theorem bd_is_amid {kV dc pm : Value} {an : Option Addr} {cd ct : Value} {us : List Value} (hl : us.length = (["point", "one", "other"] : List Str).length) : bindArgs (PySem.W.fnOf "is_amid" "is_amid" (defArgs s_is_amid) (defBody s_is_amid) (defScope s_is_amid) .none kV dc pm an cd ct) ⟨us, []⟩ = pure ((["point", "one", "other"] : List Str).zip us) := match us, hl with | [_, _, _], _ => rfl
theorem bd_knots_amid {kV dc pm : Value} {an : Option Addr} {cd ct : Value} {us : List Value} (hl : us.length = (["ahead", "behind", "other"] : List Str).length) : bindArgs (PySem.W.fnOf "knots_amid" "knots_amid" (defArgs s_knots_amid) (defBody s_knots_amid) (defScope s_knots_amid) .none kV dc pm an cd ct) ⟨us, []⟩ = pure ((["ahead", "behind", "other"] : List Str).zip us) := match us, hl with | [_, _, _], _ => rfl
theorem bd_put_behind {kV dc pm : Value} {an : Option Addr} {cd ct : Value} {us : List Value} (hl : us.length = (["one", "other"] : List Str).length) : bindArgs (PySem.W.fnOf "put_behind" "put_behind" (defArgs s_put_behind) (defBody s_put_behind) (defScope s_put_behind) .none kV dc pm an cd ct) ⟨us, []⟩ = pure ((["one", "other"] : List Str).zip us) := match us, hl with | [_, _], _ => rfl
theorem bd_turned {kV dc pm : Value} {an : Option Addr} {cd ct : Value} {us : List Value} (hl : us.length = (["knots", "many"] : List Str).length) : bindArgs (PySem.W.fnOf "turned" "turned" (defArgs s_turned) (defBody s_turned) (defScope s_turned) .none kV dc pm an cd ct) ⟨us, []⟩ = pure ((["knots", "many"] : List Str).zip us) := match us, hl with | [_, _], _ => rfl
theorem bd_laps_of {kV dc pm : Value} {an : Option Addr} {cd ct : Value} {us : List Value} (hl : us.length = (["knots"] : List Str).length) : bindArgs (PySem.W.fnOf "laps_of" "laps_of" (defArgs s_laps_of) (defBody s_laps_of) (defScope s_laps_of) .none kV dc pm an cd ct) ⟨us, []⟩ = pure ((["knots"] : List Str).zip us) := match us, hl with | [_], _ => rfl
theorem bd_pieces_of {kV dc pm : Value} {an : Option Addr} {cd ct : Value} {us : List Value} (hl : us.length = (["knots"] : List Str).length) : bindArgs (PySem.W.fnOf "pieces_of" "pieces_of" (defArgs s_pieces_of) (defBody s_pieces_of) (defScope s_pieces_of) .none kV dc pm an cd ct) ⟨us, []⟩ = pure ((["knots"] : List Str).zip us) := match us, hl with | [_], _ => rfl
theorem bd__law_reduced {kV dc pm : Value} {an : Option Addr} {cd ct : Value} {us : List Value} (hl : us.length = (["above", "below"] : List Str).length) : bindArgs (PySem.W.fnOf "_law_reduced" "_law_reduced" (defArgs s__law_reduced) (defBody s__law_reduced) (defScope s__law_reduced) .none kV dc pm an cd ct) ⟨us, []⟩ = pure ((["above", "below"] : List Str).zip us) := match us, hl with | [_, _], _ => rfl
theorem bd__law_plus {kV dc pm : Value} {an : Option Addr} {cd ct : Value} {us : List Value} (hl : us.length = (["one", "other"] : List Str).length) : bindArgs (PySem.W.fnOf "_law_plus" "_law_plus" (defArgs s__law_plus) (defBody s__law_plus) (defScope s__law_plus) .none kV dc pm an cd ct) ⟨us, []⟩ = pure ((["one", "other"] : List Str).zip us) := match us, hl with | [_, _], _ => rfl
theorem bd__law_times {kV dc pm : Value} {an : Option Addr} {cd ct : Value} {us : List Value} (hl : us.length = (["one", "other"] : List Str).length) : bindArgs (PySem.W.fnOf "_law_times" "_law_times" (defArgs s__law_times) (defBody s__law_times) (defScope s__law_times) .none kV dc pm an cd ct) ⟨us, []⟩ = pure ((["one", "other"] : List Str).zip us) := match us, hl with | [_, _], _ => rfl
theorem bd__law_less {kV dc pm : Value} {an : Option Addr} {cd ct : Value} {us : List Value} (hl : us.length = (["one", "other"] : List Str).length) : bindArgs (PySem.W.fnOf "_law_less" "_law_less" (defArgs s__law_less) (defBody s__law_less) (defScope s__law_less) .none kV dc pm an cd ct) ⟨us, []⟩ = pure ((["one", "other"] : List Str).zip us) := match us, hl with | [_, _], _ => rfl
theorem bd__law_over {kV dc pm : Value} {an : Option Addr} {cd ct : Value} {us : List Value} (hl : us.length = (["one", "other"] : List Str).length) : bindArgs (PySem.W.fnOf "_law_over" "_law_over" (defArgs s__law_over) (defBody s__law_over) (defScope s__law_over) .none kV dc pm an cd ct) ⟨us, []⟩ = pure ((["one", "other"] : List Str).zip us) := match us, hl with | [_, _], _ => rfl
theorem bd__law_below {kV dc pm : Value} {an : Option Addr} {cd ct : Value} {us : List Value} (hl : us.length = (["one", "other"] : List Str).length) : bindArgs (PySem.W.fnOf "_law_below" "_law_below" (defArgs s__law_below) (defBody s__law_below) (defScope s__law_below) .none kV dc pm an cd ct) ⟨us, []⟩ = pure ((["one", "other"] : List Str).zip us) := match us, hl with | [_, _], _ => rfl
theorem bd__law_value {kV dc pm : Value} {an : Option Addr} {cd ct : Value} {us : List Value} (hl : us.length = (["knots", "point"] : List Str).length) : bindArgs (PySem.W.fnOf "_law_value" "_law_value" (defArgs s__law_value) (defBody s__law_value) (defScope s__law_value) .none kV dc pm an cd ct) ⟨us, []⟩ = pure ((["knots", "point"] : List Str).zip us) := match us, hl with | [_, _], _ => rfl
theorem bd__law_mix {kV dc pm : Value} {an : Option Addr} {cd ct : Value} {us : List Value} (hl : us.length = (["cell", "k"] : List Str).length) : bindArgs (PySem.W.fnOf "_law_mix" "_law_mix" (defArgs s__law_mix) (defBody s__law_mix) (defScope s__law_mix) .none kV dc pm an cd ct) ⟨us, []⟩ = pure ((["cell", "k"] : List Str).zip us) := match us, hl with | [_, _], _ => rfl
theorem bd__law_deck {kV dc pm : Value} {an : Option Addr} {cd ct : Value} {us : List Value} (hl : us.length = (["script"] : List Str).length) : bindArgs (PySem.W.fnOf "_law_deck" "_law_deck" (defArgs s__law_deck) (defBody s__law_deck) (defScope s__law_deck) .none kV dc pm an cd ct) ⟨us, []⟩ = pure ((["script"] : List Str).zip us) := match us, hl with | [_], _ => rfl
theorem bd__law_next {kV dc pm : Value} {an : Option Addr} {cd ct : Value} {us : List Value} (hl : us.length = (["deck", "many"] : List Str).length) : bindArgs (PySem.W.fnOf "_law_next" "_law_next" (defArgs s__law_next) (defBody s__law_next) (defScope s__law_next) .none kV dc pm an cd ct) ⟨us, []⟩ = pure ((["deck", "many"] : List Str).zip us) := match us, hl with | [_, _], _ => rfl
theorem bd__law_least {kV dc pm : Value} {an : Option Addr} {cd ct : Value} {us : List Value} (hl : us.length = (["knots"] : List Str).length) : bindArgs (PySem.W.fnOf "_law_least" "_law_least" (defArgs s__law_least) (defBody s__law_least) (defScope s__law_least) .none kV dc pm an cd ct) ⟨us, []⟩ = pure ((["knots"] : List Str).zip us) := match us, hl with | [_], _ => rfl
theorem bd__law_turns {kV dc pm : Value} {an : Option Addr} {cd ct : Value} {us : List Value} (hl : us.length = (["deck", "knots", "top"] : List Str).length) : bindArgs (PySem.W.fnOf "_law_turns" "_law_turns" (defArgs s__law_turns) (defBody s__law_turns) (defScope s__law_turns) .none kV dc pm an cd ct) ⟨us, []⟩ = pure ((["deck", "knots", "top"] : List Str).zip us) := match us, hl with | [_, _, _], _ => rfl
theorem bd__law_spots {kV dc pm : Value} {an : Option Addr} {cd ct : Value} {us : List Value} (hl : us.length = (["deck", "many"] : List Str).length) : bindArgs (PySem.W.fnOf "_law_spots" "_law_spots" (defArgs s__law_spots) (defBody s__law_spots) (defScope s__law_spots) .none kV dc pm an cd ct) ⟨us, []⟩ = pure ((["deck", "many"] : List Str).zip us) := match us, hl with | [_, _], _ => rfl
theorem bd__law_map {kV dc pm : Value} {an : Option Addr} {cd ct : Value} {us : List Value} (hl : us.length = (["deck", "most"] : List Str).length) : bindArgs (PySem.W.fnOf "_law_map" "_law_map" (defArgs s__law_map) (defBody s__law_map) (defScope s__law_map) .none kV dc pm an cd ct) ⟨us, []⟩ = pure ((["deck", "most"] : List Str).zip us) := match us, hl with | [_, _], _ => rfl
theorem bd__law_second {kV dc pm : Value} {an : Option Addr} {cd ct : Value} {us : List Value} (hl : us.length = (["deck", "knots"] : List Str).length) : bindArgs (PySem.W.fnOf "_law_second" "_law_second" (defArgs s__law_second) (defBody s__law_second) (defScope s__law_second) .none kV dc pm an cd ct) ⟨us, []⟩ = pure ((["deck", "knots"] : List Str).zip us) := match us, hl with | [_, _], _ => rfl
theorem bd__law_over_turned {kV dc pm : Value} {an : Option Addr} {cd ct : Value} {us : List Value} (hl : us.length = (["knots"] : List Str).length) : bindArgs (PySem.W.fnOf "_law_over_turned" "_law_over_turned" (defArgs s__law_over_turned) (defBody s__law_over_turned) (defScope s__law_over_turned) .none kV dc pm an cd ct) ⟨us, []⟩ = pure ((["knots"] : List Str).zip us) := match us, hl with | [_], _ => rfl
theorem bd__law_pieces_right {kV dc pm : Value} {an : Option Addr} {cd ct : Value} {us : List Value} (hl : us.length = (["knots"] : List Str).length) : bindArgs (PySem.W.fnOf "_law_pieces_right" "_law_pieces_right" (defArgs s__law_pieces_right) (defBody s__law_pieces_right) (defScope s__law_pieces_right) .none kV dc pm an cd ct) ⟨us, []⟩ = pure ((["knots"] : List Str).zip us) := match us, hl with | [_], _ => rfl
theorem bd__law_two_right {kV dc pm : Value} {an : Option Addr} {cd ct : Value} {us : List Value} (hl : us.length = (["one", "other"] : List Str).length) : bindArgs (PySem.W.fnOf "_law_two_right" "_law_two_right" (defArgs s__law_two_right) (defBody s__law_two_right) (defScope s__law_two_right) .none kV dc pm an cd ct) ⟨us, []⟩ = pure ((["one", "other"] : List Str).zip us) := match us, hl with | [_, _], _ => rfl
theorem bd_fraction_shown {kV dc pm : Value} {an : Option Addr} {cd ct : Value} {us : List Value} (hl : us.length = (["fraction"] : List Str).length) : bindArgs (PySem.W.fnOf "fraction_shown" "fraction_shown" (defArgs s_fraction_shown) (defBody s_fraction_shown) (defScope s_fraction_shown) .none kV dc pm an cd ct) ⟨us, []⟩ = pure ((["fraction"] : List Str).zip us) := match us, hl with | [_], _ => rfl
theorem bd_map_shown {kV dc pm : Value} {an : Option Addr} {cd ct : Value} {us : List Value} (hl : us.length = (["knots"] : List Str).length) : bindArgs (PySem.W.fnOf "map_shown" "map_shown" (defArgs s_map_shown) (defBody s_map_shown) (defScope s_map_shown) .none kV dc pm an cd ct) ⟨us, []⟩ = pure ((["knots"] : List Str).zip us) := match us, hl with | [_], _ => rfl
theorem bd_is_figures {kV dc pm : Value} {an : Option Addr} {cd ct : Value} {us : List Value} (hl : us.length = (["word"] : List Str).length) : bindArgs (PySem.W.fnOf "is_figures" "is_figures" (defArgs s_is_figures) (defBody s_is_figures) (defScope s_is_figures) .none kV dc pm an cd ct) ⟨us, []⟩ = pure ((["word"] : List Str).zip us) := match us, hl with | [_], _ => rfl
theorem bd_read_fraction {kV dc pm : Value} {an : Option Addr} {cd ct : Value} {us : List Value} (hl : us.length = (["word"] : List Str).length) : bindArgs (PySem.W.fnOf "read_fraction" "read_fraction" (defArgs s_read_fraction) (defBody s_read_fraction) (defScope s_read_fraction) .none kV dc pm an cd ct) ⟨us, []⟩ = pure ((["word"] : List Str).zip us) := match us, hl with | [_], _ => rfl
theorem bd_read_knot {kV dc pm : Value} {an : Option Addr} {cd ct : Value} {us : List Value} (hl : us.length = (["line"] : List Str).length) : bindArgs (PySem.W.fnOf "read_knot" "read_knot" (defArgs s_read_knot) (defBody s_read_knot) (defScope s_read_knot) .none kV dc pm an cd ct) ⟨us, []⟩ = pure ((["line"] : List Str).zip us) := match us, hl with | [_], _ => rfl
theorem bd_read_map {kV dc pm : Value} {an : Option Addr} {cd ct : Value} {us : List Value} (hl : us.length = (["text"] : List Str).length) : bindArgs (PySem.W.fnOf "read_map" "read_map" (defArgs s_read_map) (defBody s_read_map) (defScope s_read_map) .none kV dc pm an cd ct) ⟨us, []⟩ = pure ((["text"] : List Str).zip us) := match us, hl with | [_], _ => rfl
theorem bd__law_refused_row {kV dc pm : Value} {an : Option Addr} {cd ct : Value} {us : List Value} (hl : us.length = (["text"] : List Str).length) : bindArgs (PySem.W.fnOf "_law_refused_row" "_law_refused_row" (defArgs s__law_refused_row) (defBody s__law_refused_row) (defScope s__law_refused_row) .none kV dc pm an cd ct) ⟨us, []⟩ = pure ((["text"] : List Str).zip us) := match us, hl with | [_], _ => rfl
theorem bd__law_read_again {kV dc pm : Value} {an : Option Addr} {cd ct : Value} {us : List Value} (hl : us.length = (["knots"] : List Str).length) : bindArgs (PySem.W.fnOf "_law_read_again" "_law_read_again" (defArgs s__law_read_again) (defBody s__law_read_again) (defScope s__law_read_again) .none kV dc pm an cd ct) ⟨us, []⟩ = pure ((["knots"] : List Str).zip us) := match us, hl with | [_], _ => rfl
/-- how NoMap's own start binds -/
theorem bd_nomap {kV dc pm : Value} {an : Option Addr} {cd ct : Value} {us : List Value} (hl : us.length = (["self", "row"] : List Str).length) : bindArgs (PySem.W.fnOf "__init__" "NoMap.__init__" (defArgs s_nomap) (defBody s_nomap) (defScope s_nomap) .none kV dc pm an cd ct) ⟨us, []⟩ = pure ((["self", "row"] : List Str).zip us) := match us, hl with | [_, _], _ => rfl
theorem bt_law {kV dc pm : Value} {an : Option Addr} {cd ct : Value} (s : Shared) (v : Value) : BindsTo s (PySem.W.fnOf "law" "law" (defArgs s_law) (defBody s_law) (defScope s_law) .none kV dc pm an cd ct) ⟨[v], []⟩ [("script", v)] := .of_eq rfl
theorem exm_me {K : PySem.W.Frag} {C : Addr} (b : PySem.W.subIn K (.ref C) (.type "BaseException") = some true) (i : PySem.W.isClsIn K C = true) (t : PySem.W.typeIn K (.ref C) = some (.type "type")) (c : PySem.W.subIn K (.ref C) (.ref C) = some true) : PySem.W.exmOne K (.ref C) (.ref C) = some true := by
  have i2 : (PySem.W.clsIn K C).isSome = true := i
  simp [PySem.W.exmOne, PySem.W.kitCls, b, i2, t, c]
/-- NoMap, from what the top has written -/
theorem nm_at {K : PySem.W.Frag} {h : Heap} {mg : Str → Option Value} (X : K.In h) (G : h.Ns mainGlobals mg) {C S g : Addr} {nm q : Str} {N : Addr} {bs bm : List Value} {sn : List Str} {sub : List Value} {ab : Bool} {col : Option Bool} {dd : Option Addr} {m0 m1 m2 m3 m5 : Option Value}
    {oc kV dc pm cd ct : Value} {od an : Option Addr} {sl : Array (Option Value)}
    (aC : PySem.W.nsIn K mainGlobals "NoMap" = some (some (.ref C))) (aS : PySem.W.nsIn K mainGlobals "StretchError" = some (some (.ref S)))
    (xL : K.lookup C = some (excClassObj nm q C N bs bm true sn sub ab col dd m0 m1 m2 m3 m5 "ValueError.__new__")) (xb : PySem.HandSPX.refsVE bm = true)
    (sa : PySem.W.findIn K (.ref C) "__setattr__" = some (some (.builtin "object.__setattr__"))) (ga : PySem.W.findIn K (.ref C) "__getattribute__" = some (some (.builtin "BaseException.__getattribute__"))) (gg : PySem.W.findIn K (.ref C) "__getattr__" = some none) (nr : PySem.W.findIn K (.ref C) "row" = some none)
    (a1 : PySem.W.findIn K (.ref C) "__init__" = some (some (.ref g))) (t1 : PySem.W.typeIn K (.ref g) = some (.type "function"))
    (l1 : K.lookup g = some ⟨oc, od, .func (PySem.W.fnOf "__init__" "NoMap.__init__" (defArgs s_nomap) (defBody s_nomap) (defScope s_nomap) .none kV dc pm an cd ct), sl⟩) (c1 : PySem.W.codeIn K cd "NoMap.__init__" = true) (k1 : PySem.W.keepIn K (.ref g) = true)
    (kC : PySem.W.keepIn K (.ref C) = true) (eC : PySem.W.subIn K (.ref C) (.type "BaseException") = some true) (tC : PySem.W.typeIn K (.ref C) = some (.type "type")) (hC : PySem.W.hasDictIn K C = true) (iC : PySem.W.isClsIn K C = true) (sC : PySem.W.subIn K (.ref C) (.ref C) = some true)
    (rS : PySem.W.readsIn K S (.type "type") = true) (gS : PySem.W.specialIn K (.ref S) "__getattribute__" = some (some (.builtin "type.__getattribute__"))) (iS : PySem.W.findCls K (.ref S) (.type "type") "__init__" = some (.val (.builtin "ValueError.__init__"))) : ∃ fd, NmAt K mg C S g (.type "type") fd := by
  have F := fun_mk l1 c1 k1
  exact ⟨_, { gC := PySem.W.mg_of X G aC, gS := PySem.W.mg_of X G aS, ox := ⟨⟨nm, q, N, bs, bm, sn, sub, ab, col, dd, m0, m1, m2, m3, m5, xL, xb⟩, sa, eC, tC, kC⟩, xf := ⟨ga, gg, eC, hC⟩, noR := nr, iC := a1, tg := t1, me := exm_me eC iC tC sC, rS := ⟨rS, gS⟩, iS := iS, fn := F, bd := F.binds fun _ _ _ _ _ _ us hl => bd_nomap hl }⟩
theorem nm_cut {Goal : Prop} {K : PySem.W.Frag} {h : Heap} {mg : Str → Option Value} (X : K.In h) (G : h.Ns mainGlobals mg) {C S g : Addr} {nm q : Str} {N : Addr} {bs bm : List Value} {sn : List Str} {sub : List Value} {ab : Bool} {col : Option Bool} {dd : Option Addr} {m0 m1 m2 m3 m5 : Option Value}
    {oc kV dc pm cd ct : Value} {od an : Option Addr} {sl : Array (Option Value)}
    (aC : PySem.W.nsIn K mainGlobals "NoMap" = some (some (.ref C))) (aS : PySem.W.nsIn K mainGlobals "StretchError" = some (some (.ref S)))
    (xL : K.lookup C = some (excClassObj nm q C N bs bm true sn sub ab col dd m0 m1 m2 m3 m5 "ValueError.__new__")) (xb : PySem.HandSPX.refsVE bm = true)
    (sa : PySem.W.findIn K (.ref C) "__setattr__" = some (some (.builtin "object.__setattr__"))) (ga : PySem.W.findIn K (.ref C) "__getattribute__" = some (some (.builtin "BaseException.__getattribute__"))) (gg : PySem.W.findIn K (.ref C) "__getattr__" = some none) (nr : PySem.W.findIn K (.ref C) "row" = some none)
    (a1 : PySem.W.findIn K (.ref C) "__init__" = some (some (.ref g))) (t1 : PySem.W.typeIn K (.ref g) = some (.type "function"))
    (l1 : K.lookup g = some ⟨oc, od, .func (PySem.W.fnOf "__init__" "NoMap.__init__" (defArgs s_nomap) (defBody s_nomap) (defScope s_nomap) .none kV dc pm an cd ct), sl⟩) (c1 : PySem.W.codeIn K cd "NoMap.__init__" = true) (k1 : PySem.W.keepIn K (.ref g) = true)
    (kC : PySem.W.keepIn K (.ref C) = true) (eC : PySem.W.subIn K (.ref C) (.type "BaseException") = some true) (tC : PySem.W.typeIn K (.ref C) = some (.type "type")) (hC : PySem.W.hasDictIn K C = true) (iC : PySem.W.isClsIn K C = true) (sC : PySem.W.subIn K (.ref C) (.ref C) = some true)
    (rS : PySem.W.readsIn K S (.type "type") = true) (gS : PySem.W.specialIn K (.ref S) "__getattribute__" = some (some (.builtin "type.__getattribute__"))) (iS : PySem.W.findCls K (.ref S) (.type "type") "__init__" = some (.val (.builtin "ValueError.__init__"))) (z : ∀ fd, NmAt K mg C S g (.type "type") fd → Goal) : Goal := by
  obtain ⟨fd, N⟩ := nm_at X G aC aS xL xb sa ga gg nr a1 t1 l1 c1 k1 kC eC tC hC iC sC rS gS iS
  exact z fd N
section
variable {P : Program} {w : World} {K : PySem.W.Frag} {mg : Str → Option Value} {base : Heap}
theorem all_ok {C S g f : Addr} {mc : Value} {fdn fd : FuncData} (T : Tx mg) (gF : ∃ t, mg "FIGURES" = some (.str "0123456789" t)) (N : NmAt K mg C S g mc fdn) (F : Fun K "law" "law" s_law f fd)
    (D_frac : DefAt K mg "frac" s_frac ["above", "below"])
    (D_frac_plus : DefAt K mg "frac_plus" s_frac_plus ["one", "other"])
    (D_frac_less : DefAt K mg "frac_less" s_frac_less ["one", "other"])
    (D_frac_times : DefAt K mg "frac_times" s_frac_times ["one", "other"])
    (D_frac_over : DefAt K mg "frac_over" s_frac_over ["one", "other"])
    (D_frac_side : DefAt K mg "frac_side" s_frac_side ["one", "other"])
    (D_slope_between : DefAt K mg "slope_between" s_slope_between ["one", "other"])
    (D_value_of : DefAt K mg "value_of" s_value_of ["knots", "point"])
    (D_least_knots : DefAt K mg "least_knots" s_least_knots ["knots"])
    (D_is_amid : DefAt K mg "is_amid" s_is_amid ["point", "one", "other"])
    (D_knots_amid : DefAt K mg "knots_amid" s_knots_amid ["ahead", "behind", "other"])
    (D_put_behind : DefAt K mg "put_behind" s_put_behind ["one", "other"])
    (D_turned : DefAt K mg "turned" s_turned ["knots", "many"])
    (D_laps_of : DefAt K mg "laps_of" s_laps_of ["knots"])
    (D_pieces_of : DefAt K mg "pieces_of" s_pieces_of ["knots"])
    (D__law_reduced : DefAt K mg "_law_reduced" s__law_reduced ["above", "below"])
    (D__law_plus : DefAt K mg "_law_plus" s__law_plus ["one", "other"])
    (D__law_times : DefAt K mg "_law_times" s__law_times ["one", "other"])
    (D__law_less : DefAt K mg "_law_less" s__law_less ["one", "other"])
    (D__law_over : DefAt K mg "_law_over" s__law_over ["one", "other"])
    (D__law_below : DefAt K mg "_law_below" s__law_below ["one", "other"])
    (D__law_value : DefAt K mg "_law_value" s__law_value ["knots", "point"])
    (D__law_mix : DefAt K mg "_law_mix" s__law_mix ["cell", "k"])
    (D__law_deck : DefAt K mg "_law_deck" s__law_deck ["script"])
    (D__law_next : DefAt K mg "_law_next" s__law_next ["deck", "many"])
    (D__law_least : DefAt K mg "_law_least" s__law_least ["knots"])
    (D__law_turns : DefAt K mg "_law_turns" s__law_turns ["deck", "knots", "top"])
    (D__law_spots : DefAt K mg "_law_spots" s__law_spots ["deck", "many"])
    (D__law_map : DefAt K mg "_law_map" s__law_map ["deck", "most"])
    (D__law_second : DefAt K mg "_law_second" s__law_second ["deck", "knots"])
    (D__law_over_turned : DefAt K mg "_law_over_turned" s__law_over_turned ["knots"])
    (D__law_pieces_right : DefAt K mg "_law_pieces_right" s__law_pieces_right ["knots"])
    (D__law_two_right : DefAt K mg "_law_two_right" s__law_two_right ["one", "other"])
    (D_fraction_shown : DefAt K mg "fraction_shown" s_fraction_shown ["fraction"])
    (D_map_shown : DefAt K mg "map_shown" s_map_shown ["knots"])
    (D_is_figures : DefAt K mg "is_figures" s_is_figures ["word"])
    (D_read_fraction : DefAt K mg "read_fraction" s_read_fraction ["word"])
    (D_read_knot : DefAt K mg "read_knot" s_read_knot ["line"])
    (D_read_map : DefAt K mg "read_map" s_read_map ["text"])
    (D__law_refused_row : DefAt K mg "_law_refused_row" s__law_refused_row ["text"])
    (D__law_read_again : DefAt K mg "_law_read_again" s__law_read_again ["knots"])
    : FnOk P w K mg base CX0 7 f fd ["script"] (spLaw K) := by
  have cfrac := ok_frac (P := P) (w := w) (base := base) T D_frac
  have cfrac_plus := ok_frac_plus (P := P) (w := w) (base := base) D_frac_plus cfrac
  have cfrac_less := ok_frac_less (P := P) (w := w) (base := base) D_frac_less cfrac
  have cfrac_times := ok_frac_times (P := P) (w := w) (base := base) D_frac_times cfrac
  have cfrac_over := ok_frac_over (P := P) (w := w) (base := base) D_frac_over cfrac
  have cfrac_side := ok_frac_side (P := P) (w := w) (base := base) T D_frac_side
  have cslope_between := ok_slope_between (P := P) (w := w) (base := base) D_slope_between cfrac_less cfrac_over
  have cvalue_of := ok_value_of (P := P) (w := w) (base := base) D_value_of cfrac_side cfrac_less cfrac_times cfrac_plus cslope_between
  have cleast_knots := ok_least_knots (P := P) (w := w) (base := base) T D_least_knots cslope_between
  have cis_amid := ok_is_amid (P := P) (w := w) (base := base) D_is_amid cfrac_side
  have cknots_amid := ok_knots_amid (P := P) (w := w) (base := base) D_knots_amid cfrac_side cfrac_less cfrac_over cfrac_plus cslope_between cis_amid
  have cput_behind := ok_put_behind (P := P) (w := w) (base := base) T D_put_behind cvalue_of cknots_amid cleast_knots
  have cturned := ok_turned (P := P) (w := w) (base := base) T D_turned cput_behind
  have claps_of := ok_laps_of (P := P) (w := w) (base := base) T D_laps_of cfrac_side
  have cpieces_of := ok_pieces_of (P := P) (w := w) (base := base) T D_pieces_of cleast_knots cslope_between
  have c_law_reduced := ok_law_reduced (P := P) (w := w) (base := base) T D__law_reduced
  have c_law_plus := ok_law_plus (P := P) (w := w) (base := base) D__law_plus c_law_reduced
  have c_law_times := ok_law_times (P := P) (w := w) (base := base) D__law_times c_law_reduced
  have c_law_less := ok_law_less (P := P) (w := w) (base := base) D__law_less c_law_plus
  have c_law_over := ok_law_over (P := P) (w := w) (base := base) T D__law_over c_law_reduced
  have c_law_below := ok_law_below (P := P) (w := w) (base := base) D__law_below
  have c_law_value := ok_law_value (P := P) (w := w) (base := base) T D__law_value c_law_below c_law_less c_law_times c_law_plus c_law_over
  have c_law_mix := ok_law_mix (P := P) (w := w) (base := base) D__law_mix
  have c_law_deck := ok_law_deck (P := P) (w := w) (base := base) T D__law_deck
  have c_law_next := ok_law_next (P := P) (w := w) (base := base) T D__law_next c_law_mix
  have c_law_least := ok_law_least (P := P) (w := w) (base := base) T D__law_least c_law_value
  have c_law_turns := ok_law_turns (P := P) (w := w) (base := base) T D__law_turns c_law_least c_law_next
  have c_law_spots := ok_law_spots (P := P) (w := w) (base := base) T D__law_spots c_law_next
  have c_law_map := ok_law_map (P := P) (w := w) (base := base) T D__law_map c_law_next c_law_spots c_law_reduced
  have c_law_second := ok_law_second (P := P) (w := w) (base := base) T D__law_second c_law_next
  have c_law_over_turned := ok_law_over_turned (P := P) (w := w) (base := base) T D__law_over_turned
  have c_law_pieces_right := ok_law_pieces_right (P := P) (w := w) (base := base) T D__law_pieces_right cpieces_of cleast_knots claps_of cvalue_of c_law_less c_law_times
  have c_law_two_right := ok_law_two_right (P := P) (w := w) (base := base) T D__law_two_right cput_behind claps_of c_law_over_turned cvalue_of
  have cfraction_shown := ok_fraction_shown (P := P) (w := w) (base := base) T D_fraction_shown
  have cmap_shown := ok_map_shown (P := P) (w := w) (base := base) T D_map_shown cfraction_shown
  have cis_figures := ok_is_figures (P := P) (w := w) (base := base) T gF D_is_figures
  have cread_fraction := ok_read_fraction (P := P) (w := w) (base := base) T D_read_fraction cis_figures cfrac
  have cread_knot := ok_read_knot (P := P) (w := w) (base := base) T D_read_knot cread_fraction
  have cread_map := ok_read_map (P := P) (w := w) (base := base) T D_read_map cread_knot cfrac_side
  have F1 : FnOk P w K mg base CX0 1 g fdn ["self", "row"] (spNm K) := ok_nomap T N
  have xread_map := ok_read_map_x (P := P) (w := w) (base := base) T N F1 D_read_map cread_knot cfrac_side
  have c_law_refused_row := ok_law_refused_row (P := P) (w := w) (base := base) T N D__law_refused_row xread_map
  have c_law_read_again := ok_law_read_again (P := P) (w := w) (base := base) T D__law_read_again cmap_shown c_law_refused_row cread_map
  exact ok_law T F c_law_deck c_law_map c_law_second cturned cleast_knots cput_behind c_law_pieces_right c_law_two_right c_law_turns c_law_next c_law_read_again
/-- the law's own def, as the top has left it -/
theorem fin_ok {K : PySem.W.Frag} {h : Heap} {mg : Str → Option Value} {P : Program} {w : World} {fa f : Addr} (X : K.In h) (G : h.Ns mainGlobals mg) (hm : mg "law" = some (.ref fa)) {oc kV dc pm cd ct : Value} {od an : Option Addr} {sl : Array (Option Value)}
    (na : PySem.W.nsIn K mainGlobals "law" = some (some (.ref f))) (nl : K.lookup f = some ⟨oc, od, .func (PySem.W.fnOf "law" "law" (defArgs s_law) (defBody s_law) (defScope s_law) .none kV dc pm an cd ct), sl⟩)
    (nc : PySem.W.codeIn K cd "law" = true) (nk : PySem.W.keepIn K (.ref f) = true) (all : ∀ (base : Heap) (fd : FuncData), Fun K "law" "law" s_law f fd → FnOk P w K mg base CX0 7 f fd ["script"] (spLaw K)) :
    ∃ fd : FuncData, (∀ (s : Shared) (u : Value), BindsTo s fd ⟨[u], []⟩ [("script", u)]) ∧ ∀ base : Heap, K.In base → base.Ns mainGlobals mg → FnOk P w K mg base CX0 7 fa fd ["script"] (spLaw K) := by
  have e := hm.symm.trans (PySem.W.mg_of X G na)
  cases e
  exact ⟨_, fun s v => bt_law s v, fun base _ _ => all base _ (fun_mk nl nc nk)⟩
end
end BW
open PySem PySem.W PyProof.Rows in
set_option Elab.async false in
set_option linter.all false in
set_option maxRecDepth 100000 in
set_option maxHeartbeats 0 in
theorem PySem.Challenge.cw_bentstretch_k10_whole_turns_holds : PySem.Challenge.rw_bentstretch_k10_whole_turns.Holds := by
  w_on; o_law; k_head; (case hw => w_witness2)
  k_fill
  refine L2.walk_of (l := PySem.Challenge.rw_bentstretch_k10_whole_turns) (n := 63) (k := 7) (x := "script") (CX := fun _ => L2.CX0) (sp := fun w => BW.spLaw _) rfl (by decide) rfl ⟨rfl, by decide, by decide⟩ (fun w h Y => PySem.W.kIn_of Y) ?F (fun _ _ a ns hl _ hS => ⟨a, ns, rfl, hS, hl, fun _ => rfl⟩) (fun _ _ _ _ _ z => z)
  case F =>
    intro w mg fa h KX G hmg
    refine' BW.def_cut (x := "frac") (st := BW.s_frac) (ps := ["above", "below"]) KX G (fun _ _ _ _ _ _ us hl => BW.bd_frac hl) ?a ?l ?c ?k fun D_frac => ?_
    case a => k_is
    case l => k_is
    case c => k_is
    case k => k_is
    refine' BW.def_cut (x := "frac_plus") (st := BW.s_frac_plus) (ps := ["one", "other"]) KX G (fun _ _ _ _ _ _ us hl => BW.bd_frac_plus hl) ?a ?l ?c ?k fun D_frac_plus => ?_
    case a => k_is
    case l => k_is
    case c => k_is
    case k => k_is
    refine' BW.def_cut (x := "frac_less") (st := BW.s_frac_less) (ps := ["one", "other"]) KX G (fun _ _ _ _ _ _ us hl => BW.bd_frac_less hl) ?a ?l ?c ?k fun D_frac_less => ?_
    case a => k_is
    case l => k_is
    case c => k_is
    case k => k_is
    refine' BW.def_cut (x := "frac_times") (st := BW.s_frac_times) (ps := ["one", "other"]) KX G (fun _ _ _ _ _ _ us hl => BW.bd_frac_times hl) ?a ?l ?c ?k fun D_frac_times => ?_
    case a => k_is
    case l => k_is
    case c => k_is
    case k => k_is
    refine' BW.def_cut (x := "frac_over") (st := BW.s_frac_over) (ps := ["one", "other"]) KX G (fun _ _ _ _ _ _ us hl => BW.bd_frac_over hl) ?a ?l ?c ?k fun D_frac_over => ?_
    case a => k_is
    case l => k_is
    case c => k_is
    case k => k_is
    refine' BW.def_cut (x := "frac_side") (st := BW.s_frac_side) (ps := ["one", "other"]) KX G (fun _ _ _ _ _ _ us hl => BW.bd_frac_side hl) ?a ?l ?c ?k fun D_frac_side => ?_
    case a => k_is
    case l => k_is
    case c => k_is
    case k => k_is
    refine' BW.def_cut (x := "slope_between") (st := BW.s_slope_between) (ps := ["one", "other"]) KX G (fun _ _ _ _ _ _ us hl => BW.bd_slope_between hl) ?a ?l ?c ?k fun D_slope_between => ?_
    case a => k_is
    case l => k_is
    case c => k_is
    case k => k_is
    refine' BW.def_cut (x := "value_of") (st := BW.s_value_of) (ps := ["knots", "point"]) KX G (fun _ _ _ _ _ _ us hl => BW.bd_value_of hl) ?a ?l ?c ?k fun D_value_of => ?_
    case a => k_is
    case l => k_is
    case c => k_is
    case k => k_is
    refine' BW.def_cut (x := "least_knots") (st := BW.s_least_knots) (ps := ["knots"]) KX G (fun _ _ _ _ _ _ us hl => BW.bd_least_knots hl) ?a ?l ?c ?k fun D_least_knots => ?_
    case a => k_is
    case l => k_is
    case c => k_is
    case k => k_is
    refine' BW.def_cut (x := "is_amid") (st := BW.s_is_amid) (ps := ["point", "one", "other"]) KX G (fun _ _ _ _ _ _ us hl => BW.bd_is_amid hl) ?a ?l ?c ?k fun D_is_amid => ?_
    case a => k_is
    case l => k_is
    case c => k_is
    case k => k_is
    refine' BW.def_cut (x := "knots_amid") (st := BW.s_knots_amid) (ps := ["ahead", "behind", "other"]) KX G (fun _ _ _ _ _ _ us hl => BW.bd_knots_amid hl) ?a ?l ?c ?k fun D_knots_amid => ?_
    case a => k_is
    case l => k_is
    case c => k_is
    case k => k_is
    refine' BW.def_cut (x := "put_behind") (st := BW.s_put_behind) (ps := ["one", "other"]) KX G (fun _ _ _ _ _ _ us hl => BW.bd_put_behind hl) ?a ?l ?c ?k fun D_put_behind => ?_
    case a => k_is
    case l => k_is
    case c => k_is
    case k => k_is
    refine' BW.def_cut (x := "turned") (st := BW.s_turned) (ps := ["knots", "many"]) KX G (fun _ _ _ _ _ _ us hl => BW.bd_turned hl) ?a ?l ?c ?k fun D_turned => ?_
    case a => k_is
    case l => k_is
    case c => k_is
    case k => k_is
    refine' BW.def_cut (x := "laps_of") (st := BW.s_laps_of) (ps := ["knots"]) KX G (fun _ _ _ _ _ _ us hl => BW.bd_laps_of hl) ?a ?l ?c ?k fun D_laps_of => ?_
    case a => k_is
    case l => k_is
    case c => k_is
    case k => k_is
    refine' BW.def_cut (x := "pieces_of") (st := BW.s_pieces_of) (ps := ["knots"]) KX G (fun _ _ _ _ _ _ us hl => BW.bd_pieces_of hl) ?a ?l ?c ?k fun D_pieces_of => ?_
    case a => k_is
    case l => k_is
    case c => k_is
    case k => k_is
    refine' BW.def_cut (x := "_law_reduced") (st := BW.s__law_reduced) (ps := ["above", "below"]) KX G (fun _ _ _ _ _ _ us hl => BW.bd__law_reduced hl) ?a ?l ?c ?k fun D__law_reduced => ?_
    case a => k_is
    case l => k_is
    case c => k_is
    case k => k_is
    refine' BW.def_cut (x := "_law_plus") (st := BW.s__law_plus) (ps := ["one", "other"]) KX G (fun _ _ _ _ _ _ us hl => BW.bd__law_plus hl) ?a ?l ?c ?k fun D__law_plus => ?_
    case a => k_is
    case l => k_is
    case c => k_is
    case k => k_is
    refine' BW.def_cut (x := "_law_times") (st := BW.s__law_times) (ps := ["one", "other"]) KX G (fun _ _ _ _ _ _ us hl => BW.bd__law_times hl) ?a ?l ?c ?k fun D__law_times => ?_
    case a => k_is
    case l => k_is
    case c => k_is
    case k => k_is
    refine' BW.def_cut (x := "_law_less") (st := BW.s__law_less) (ps := ["one", "other"]) KX G (fun _ _ _ _ _ _ us hl => BW.bd__law_less hl) ?a ?l ?c ?k fun D__law_less => ?_
    case a => k_is
    case l => k_is
    case c => k_is
    case k => k_is
    refine' BW.def_cut (x := "_law_over") (st := BW.s__law_over) (ps := ["one", "other"]) KX G (fun _ _ _ _ _ _ us hl => BW.bd__law_over hl) ?a ?l ?c ?k fun D__law_over => ?_
    case a => k_is
    case l => k_is
    case c => k_is
    case k => k_is
    refine' BW.def_cut (x := "_law_below") (st := BW.s__law_below) (ps := ["one", "other"]) KX G (fun _ _ _ _ _ _ us hl => BW.bd__law_below hl) ?a ?l ?c ?k fun D__law_below => ?_
    case a => k_is
    case l => k_is
    case c => k_is
    case k => k_is
    refine' BW.def_cut (x := "_law_value") (st := BW.s__law_value) (ps := ["knots", "point"]) KX G (fun _ _ _ _ _ _ us hl => BW.bd__law_value hl) ?a ?l ?c ?k fun D__law_value => ?_
    case a => k_is
    case l => k_is
    case c => k_is
    case k => k_is
    refine' BW.def_cut (x := "_law_mix") (st := BW.s__law_mix) (ps := ["cell", "k"]) KX G (fun _ _ _ _ _ _ us hl => BW.bd__law_mix hl) ?a ?l ?c ?k fun D__law_mix => ?_
    case a => k_is
    case l => k_is
    case c => k_is
    case k => k_is
    refine' BW.def_cut (x := "_law_deck") (st := BW.s__law_deck) (ps := ["script"]) KX G (fun _ _ _ _ _ _ us hl => BW.bd__law_deck hl) ?a ?l ?c ?k fun D__law_deck => ?_
    case a => k_is
    case l => k_is
    case c => k_is
    case k => k_is
    refine' BW.def_cut (x := "_law_next") (st := BW.s__law_next) (ps := ["deck", "many"]) KX G (fun _ _ _ _ _ _ us hl => BW.bd__law_next hl) ?a ?l ?c ?k fun D__law_next => ?_
    case a => k_is
    case l => k_is
    case c => k_is
    case k => k_is
    refine' BW.def_cut (x := "_law_least") (st := BW.s__law_least) (ps := ["knots"]) KX G (fun _ _ _ _ _ _ us hl => BW.bd__law_least hl) ?a ?l ?c ?k fun D__law_least => ?_
    case a => k_is
    case l => k_is
    case c => k_is
    case k => k_is
    refine' BW.def_cut (x := "_law_turns") (st := BW.s__law_turns) (ps := ["deck", "knots", "top"]) KX G (fun _ _ _ _ _ _ us hl => BW.bd__law_turns hl) ?a ?l ?c ?k fun D__law_turns => ?_
    case a => k_is
    case l => k_is
    case c => k_is
    case k => k_is
    refine' BW.def_cut (x := "_law_spots") (st := BW.s__law_spots) (ps := ["deck", "many"]) KX G (fun _ _ _ _ _ _ us hl => BW.bd__law_spots hl) ?a ?l ?c ?k fun D__law_spots => ?_
    case a => k_is
    case l => k_is
    case c => k_is
    case k => k_is
    refine' BW.def_cut (x := "_law_map") (st := BW.s__law_map) (ps := ["deck", "most"]) KX G (fun _ _ _ _ _ _ us hl => BW.bd__law_map hl) ?a ?l ?c ?k fun D__law_map => ?_
    case a => k_is
    case l => k_is
    case c => k_is
    case k => k_is
    refine' BW.def_cut (x := "_law_second") (st := BW.s__law_second) (ps := ["deck", "knots"]) KX G (fun _ _ _ _ _ _ us hl => BW.bd__law_second hl) ?a ?l ?c ?k fun D__law_second => ?_
    case a => k_is
    case l => k_is
    case c => k_is
    case k => k_is
    refine' BW.def_cut (x := "_law_over_turned") (st := BW.s__law_over_turned) (ps := ["knots"]) KX G (fun _ _ _ _ _ _ us hl => BW.bd__law_over_turned hl) ?a ?l ?c ?k fun D__law_over_turned => ?_
    case a => k_is
    case l => k_is
    case c => k_is
    case k => k_is
    refine' BW.def_cut (x := "_law_pieces_right") (st := BW.s__law_pieces_right) (ps := ["knots"]) KX G (fun _ _ _ _ _ _ us hl => BW.bd__law_pieces_right hl) ?a ?l ?c ?k fun D__law_pieces_right => ?_
    case a => k_is
    case l => k_is
    case c => k_is
    case k => k_is
    refine' BW.def_cut (x := "_law_two_right") (st := BW.s__law_two_right) (ps := ["one", "other"]) KX G (fun _ _ _ _ _ _ us hl => BW.bd__law_two_right hl) ?a ?l ?c ?k fun D__law_two_right => ?_
    case a => k_is
    case l => k_is
    case c => k_is
    case k => k_is
    refine' BW.def_cut (x := "fraction_shown") (st := BW.s_fraction_shown) (ps := ["fraction"]) KX G (fun _ _ _ _ _ _ us hl => BW.bd_fraction_shown hl) ?a ?l ?c ?k fun D_fraction_shown => ?_
    case a => k_is
    case l => k_is
    case c => k_is
    case k => k_is
    refine' BW.def_cut (x := "map_shown") (st := BW.s_map_shown) (ps := ["knots"]) KX G (fun _ _ _ _ _ _ us hl => BW.bd_map_shown hl) ?a ?l ?c ?k fun D_map_shown => ?_
    case a => k_is
    case l => k_is
    case c => k_is
    case k => k_is
    refine' BW.def_cut (x := "is_figures") (st := BW.s_is_figures) (ps := ["word"]) KX G (fun _ _ _ _ _ _ us hl => BW.bd_is_figures hl) ?a ?l ?c ?k fun D_is_figures => ?_
    case a => k_is
    case l => k_is
    case c => k_is
    case k => k_is
    refine' BW.def_cut (x := "read_fraction") (st := BW.s_read_fraction) (ps := ["word"]) KX G (fun _ _ _ _ _ _ us hl => BW.bd_read_fraction hl) ?a ?l ?c ?k fun D_read_fraction => ?_
    case a => k_is
    case l => k_is
    case c => k_is
    case k => k_is
    refine' BW.def_cut (x := "read_knot") (st := BW.s_read_knot) (ps := ["line"]) KX G (fun _ _ _ _ _ _ us hl => BW.bd_read_knot hl) ?a ?l ?c ?k fun D_read_knot => ?_
    case a => k_is
    case l => k_is
    case c => k_is
    case k => k_is
    refine' BW.def_cut (x := "read_map") (st := BW.s_read_map) (ps := ["text"]) KX G (fun _ _ _ _ _ _ us hl => BW.bd_read_map hl) ?a ?l ?c ?k fun D_read_map => ?_
    case a => k_is
    case l => k_is
    case c => k_is
    case k => k_is
    refine' BW.def_cut (x := "_law_refused_row") (st := BW.s__law_refused_row) (ps := ["text"]) KX G (fun _ _ _ _ _ _ us hl => BW.bd__law_refused_row hl) ?a ?l ?c ?k fun D__law_refused_row => ?_
    case a => k_is
    case l => k_is
    case c => k_is
    case k => k_is
    refine' BW.def_cut (x := "_law_read_again") (st := BW.s__law_read_again) (ps := ["knots"]) KX G (fun _ _ _ _ _ _ us hl => BW.bd__law_read_again hl) ?a ?l ?c ?k fun D__law_read_again => ?_
    case a => k_is
    case l => k_is
    case c => k_is
    case k => k_is
    have T : BW.Tx mg := by
      refine' ⟨?_, ?_, ?_, ?_, ?_, ?_, ?_, ?_, ?_, ?_, ?_, ?_, ?_⟩
      all_goals (refine PySem.W.mg_none_of KX G ?_; k_is)
    refine' BW.fig_cut KX G ?a fun gF => ?_
    case a => k_is
    refine' BW.nm_cut KX G ?aC ?aS ?xL ?xb ?sa ?ga ?gg ?nr ?a1 ?t1 ?l1 ?c1 ?k1 ?kC ?eC ?tC ?hC ?iC ?sC ?rS ?gS ?iS fun fdn N => ?_
    case aC => k_is
    case aS => k_is
    case xL => k_is
    case xb => exact (by decide +kernel)
    case sa => k_is
    case ga => k_is
    case gg => k_is
    case nr => k_is
    case a1 => k_is
    case t1 => k_is
    case l1 => k_is
    case c1 => k_is
    case k1 => k_is
    case kC => k_is
    case eC => k_is
    case tC => k_is
    case hC => k_is
    case iC => k_is
    case sC => first | k_is | rfl
    case rS => k_is
    case gS => k_is
    case iS => k_is
    refine' BW.fin_ok KX G hmg ?a ?l ?c ?k fun base fd F => ?_
    case a => k_is
    case l => k_is
    case c => k_is
    case k => k_is
    exact BW.all_ok T gF N F D_frac D_frac_plus D_frac_less D_frac_times D_frac_over D_frac_side D_slope_between D_value_of D_least_knots D_is_amid D_knots_amid D_put_behind D_turned D_laps_of D_pieces_of D__law_reduced D__law_plus D__law_times D__law_less D__law_over D__law_below D__law_value D__law_mix D__law_deck D__law_next D__law_least D__law_turns D__law_spots D__law_map D__law_second D__law_over_turned D__law_pieces_right D__law_two_right D_fraction_shown D_map_shown D_is_figures D_read_fraction D_read_knot D_read_map D__law_refused_row D__law_read_again
