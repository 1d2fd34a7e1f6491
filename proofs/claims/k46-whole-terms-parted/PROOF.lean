import PyProof.Rows.All
import Wide.All
import OpenK.AllK
import Wide.FinOn
import PySem.Str
import HandS.ForMost
import HandS.Deep
import HandS.SortKw
import HandS.DictTup
import KE.KDictSum
import KE.SortKeyHeap
import KE.SortLaws
import HandS.DictComp
import HandS.IsInst
import HandS.FStr
import HandS.More
import HandS.Style
import HandS.Flow
import PyProof.CompMap
import KE.SortData
import HandS.Defaults
import HandS.EndBits
import PySem.Challenge.RW_paironce_k46_whole_terms_parted
set_option Elab.async false
set_option linter.all false
set_option maxRecDepth 100000
set_option maxHeartbeats 16000000
/-! M1: terms, their texts, the order, plain forms: plain mathematics, no program in sight. -/
namespace TP
open PySem

/-- a term: a name, or a pair of two terms -/
inductive T where
  | nm (x : Str)
  | pr (a b : T)
  deriving DecidableEq

def T.sz : T → Nat
  | .nm _ => 1
  | .pr a b => a.sz + b.sz + 1
def T.dp : T → Nat
  | .nm _ => 0
  | .pr a b => max a.dp b.dp + 1
def T.lv : T → Nat
  | .nm _ => 1
  | .pr a b => a.lv + b.lv
/-- the signs of a term's text -/
def T.tx : T → List Nat
  | .nm x => x.cps.toList
  | .pr a b => 40 :: (a.tx ++ 32 :: (b.tx ++ [41]))
/-- a sign of a name: a figure or a letter -/
def okC (c : Nat) : Prop := (48 ≤ c ∧ c ≤ 57) ∨ (97 ≤ c ∧ c ≤ 122)
/-- a name: one to twelve signs, the first one a letter -/
def okN (x : Str) : Prop := x.cps.size ≤ 12 ∧ (∃ c r, x.cps.toList = c :: r ∧ 97 ≤ c ∧ c ≤ 122) ∧ ∀ c ∈ x.cps.toList, okC c
def T.ok : T → Prop
  | .nm x => okN x
  | .pr a b => a.ok ∧ b.ok

theorem T.sz_pos (t : T) : 0 < t.sz := by cases t <;> simp [T.sz]
theorem T.lv_pos : ∀ t : T, 0 < t.lv
  | .nm _ => Nat.one_pos
  | .pr a b => Nat.add_pos_left (T.lv_pos a) _
theorem T.dp_lv : ∀ t : T, t.dp + 1 ≤ t.lv
  | .nm _ => Nat.le_refl _
  | .pr a b => by
    have h1 := T.dp_lv a
    have h2 := T.dp_lv b
    show max a.dp b.dp + 1 + 1 ≤ a.lv + b.lv
    omega

/-! ### the text tells the term -/
/-- what may stand behind a term's text: nothing, a blank, a closing bracket -/
def Stop : List Nat → Prop
  | [] => True
  | c :: _ => c = 32 ∨ c = 41

theorem names_cut : ∀ (xs ys r s : List Nat), (∀ c ∈ xs, okC c) → (∀ c ∈ ys, okC c) → Stop r → Stop s → xs ++ r = ys ++ s → xs = ys ∧ r = s
  | [], [], r, s, _, _, _, _, e => ⟨rfl, e⟩
  | x :: xs, [], r, s, hx, _, _, hs, e => by
    have e' : x :: (xs ++ r) = s := e
    subst e'
    have h := hx x (List.mem_cons_self)
    have h2 : x = 32 ∨ x = 41 := hs
    unfold okC at h
    omega
  | [], y :: ys, r, s, _, hy, hr, _, e => by
    have e' : r = y :: (ys ++ s) := e
    subst e'
    have h := hy y (List.mem_cons_self)
    have h2 : y = 32 ∨ y = 41 := hr
    unfold okC at h
    omega
  | x :: xs, y :: ys, r, s, hx, hy, hr, hs, e => by
    have e' : x :: (xs ++ r) = y :: (ys ++ s) := e
    injection e' with e1 e2
    obtain ⟨h1, h2⟩ := names_cut xs ys r s (fun c hc => hx c (List.mem_cons_of_mem _ hc)) (fun c hc => hy c (List.mem_cons_of_mem _ hc)) hr hs e2
    exact ⟨by rw [e1, h1], h2⟩

theorem ext_cps {x y : Str} (h : x.cps.toList = y.cps.toList) : x = y := by
  cases x with | mk a => cases y with | mk b =>
  have h' : a.toList = b.toList := h
  rw [Array.toList_inj] at h'
  rw [h']

theorem name_head {x : Str} (h : okN x) : ∃ c r, x.cps.toList = c :: r ∧ c ≠ 40 := by
  obtain ⟨_, ⟨c, r, e, h1, h2⟩, _⟩ := h
  exact ⟨c, r, e, by omega⟩

theorem tx_cut : ∀ (t u : T) (r s : List Nat), t.ok → u.ok → Stop r → Stop s → t.tx ++ r = u.tx ++ s → t = u ∧ r = s
  | .nm x, .nm y, r, s, hx, hy, hr, hs, e => by
    obtain ⟨h1, h2⟩ := names_cut _ _ r s hx.2.2 hy.2.2 hr hs e
    exact ⟨by rw [ext_cps h1], h2⟩
  | .nm x, .pr a b, r, s, hx, _, _, _, e => by
    obtain ⟨c, q, ec, hc⟩ := name_head hx
    have e' : x.cps.toList ++ r = 40 :: (a.tx ++ 32 :: (b.tx ++ [41]) ++ s) := e
    rw [ec] at e'
    injection e' with e1 _
    exact absurd e1 hc
  | .pr a b, .nm y, r, s, _, hy, _, _, e => by
    obtain ⟨c, q, ec, hc⟩ := name_head hy
    have e' : 40 :: (a.tx ++ 32 :: (b.tx ++ [41]) ++ r) = y.cps.toList ++ s := e
    rw [ec] at e'
    injection e' with e1 _
    exact absurd e1.symm hc
  | .pr a b, .pr a' b', r, s, h, h', hr, hs, e => by
    have e1 : a.tx ++ (32 :: (b.tx ++ (41 :: r))) = a'.tx ++ (32 :: (b'.tx ++ (41 :: s))) := by
      have e0 : (40 :: (a.tx ++ 32 :: (b.tx ++ [41]))) ++ r = (40 :: (a'.tx ++ 32 :: (b'.tx ++ [41]))) ++ s := e
      simpa using e0
    obtain ⟨h1, h2⟩ := tx_cut a a' _ _ h.1 h'.1 (show Stop (32 :: _) from Or.inl rfl) (show Stop (32 :: _) from Or.inl rfl) e1
    injection h2 with _ h3
    obtain ⟨h4, h5⟩ := tx_cut b b' _ _ h.2 h'.2 (show Stop (41 :: _) from Or.inr rfl) (show Stop (41 :: _) from Or.inr rfl) h3
    injection h5 with _ h6
    exact ⟨by rw [h1, h4], h6⟩
theorem tx_inj {t u : T} (ht : t.ok) (hu : u.ok) (e : t.tx = u.tx) : t = u :=
  (tx_cut t u [] [] ht hu True.intro True.intro (by rw [List.append_nil, List.append_nil]; exact e)).1

/-! ### the order: by the text's length, then by the text -/
def lt (a b : T) : Bool := if a.tx.length = b.tx.length then decide (a.tx < b.tx) else decide (a.tx.length < b.tx.length)
theorem lt_irrefl (a : T) : lt a a = false := by
  unfold lt
  rw [if_pos rfl]
  exact decide_eq_false (List.lt_irrefl _)
theorem lt_asymm {a b : T} (h : lt a b = true) : lt b a = false := by
  unfold lt at h ⊢
  by_cases e : a.tx.length = b.tx.length
  · rw [if_pos e] at h
    rw [if_pos e.symm]
    exact decide_eq_false (List.lt_asymm (of_decide_eq_true h))
  · rw [if_neg e] at h
    rw [if_neg (fun q => e q.symm)]
    have := of_decide_eq_true h
    exact decide_eq_false (by omega)
theorem lt_trans {a b c : T} (h : lt a b = true) (k : lt b c = true) : lt a c = true := by
  unfold lt at *
  by_cases e : a.tx.length = b.tx.length
  · rw [if_pos e] at h
    by_cases e2 : b.tx.length = c.tx.length
    · rw [if_pos e2] at k
      rw [if_pos (e.trans e2)]
      exact decide_eq_true (List.lt_trans (of_decide_eq_true h) (of_decide_eq_true k))
    · rw [if_neg e2] at k
      have := of_decide_eq_true k
      rw [if_neg (by omega)]
      exact decide_eq_true (by omega)
  · rw [if_neg e] at h
    have h' := of_decide_eq_true h
    by_cases e2 : b.tx.length = c.tx.length
    · rw [if_neg (by omega)]
      exact decide_eq_true (by omega)
    · rw [if_neg e2] at k
      have := of_decide_eq_true k
      rw [if_neg (by omega)]
      exact decide_eq_true (by omega)
theorem lt_total {a b : T} (ha : a.ok) (hb : b.ok) (h : lt a b = false) (k : lt b a = false) : a = b := by
  unfold lt at *
  by_cases e : a.tx.length = b.tx.length
  · rw [if_pos e] at h
    rw [if_pos e.symm] at k
    have h1 : ¬ a.tx < b.tx := of_decide_eq_false h
    have h2 : ¬ b.tx < a.tx := of_decide_eq_false k
    exact tx_inj ha hb (List.le_antisymm (List.not_lt.mp h2) (List.not_lt.mp h1))
  · rw [if_neg e] at h
    rw [if_neg (fun q => e q.symm)] at k
    have h1 := of_decide_eq_false h
    have h2 := of_decide_eq_false k
    omega
theorem lt_or {a b : T} (ha : a.ok) (hb : b.ok) (h : a ≠ b) (k : lt a b = false) : lt b a = true := by
  cases e : lt b a with
  | true => rfl
  | false => exact absurd (lt_total ha hb k e) h

/-! ### joining two plain forms -/
/-- a is a side of b -/
def has (a : T) : T → Bool
  | .nm _ => false
  | .pr p q => decide (p = a) || decide (q = a)
/-- b's other side beside a -/
def oth (a : T) : T → T
  | .nm x => .nm x
  | .pr p q => if p = a then q else p
def jo (a b : T) : T :=
  if a = b then a
  else if has a b = true then oth a b
  else if has b a = true then oth b a
  else if lt a b = true then .pr a b else .pr b a
/-- a plain form -/
def nf : T → Prop
  | .nm _ => True
  | .pr a b => nf a ∧ nf b ∧ a ≠ b ∧ has a b = false ∧ has b a = false ∧ lt a b = true

theorem has_iff {a p q : T} : has a (.pr p q) = true ↔ p = a ∨ q = a := by
  show (decide (p = a) || decide (q = a)) = true ↔ _
  rw [Bool.or_eq_true, decide_eq_true_iff, decide_eq_true_iff]
theorem has_pr {a b : T} (h : has a b = true) : ∃ p q, b = .pr p q ∧ (p = a ∨ q = a) := by
  cases b with
  | nm x => exact absurd h (by simp [has])
  | pr p q => exact ⟨p, q, rfl, has_iff.mp h⟩
theorem has_sz {a b : T} (h : has a b = true) : a.sz < b.sz := by
  obtain ⟨p, q, rfl, e⟩ := has_pr h
  have h1 := p.sz_pos
  have h2 := q.sz_pos
  show a.sz < p.sz + q.sz + 1
  rcases e with e | e <;> subst e <;> omega
theorem has_false {a b : T} (h : b.sz ≤ a.sz) : has a b = false := by
  cases e : has a b with
  | false => rfl
  | true => exact absurd (has_sz e) (Nat.not_lt.mpr h)
theorem oth_l {a q : T} : oth a (.pr a q) = q := if_pos rfl
theorem oth_r {a p : T} (h : p ≠ a) : oth a (.pr p a) = p := if_neg h

theorem jo_same (a : T) : jo a a = a := if_pos rfl
theorem jo_has {a b : T} (h : has a b = true) : jo a b = oth a b := by
  have hs := has_sz h
  unfold jo
  rw [if_neg (fun e => by rw [e] at hs; exact Nat.lt_irrefl _ hs), if_pos h]
theorem jo_has' {a b : T} (h : has b a = true) : jo a b = oth b a := by
  have hs := has_sz h
  unfold jo
  rw [if_neg (fun e => by rw [e] at hs; exact Nat.lt_irrefl _ hs), if_neg (by rw [has_false (Nat.le_of_lt hs)]; exact Bool.false_ne_true), if_pos h]
theorem jo_lt {a b : T} (hn : a ≠ b) (h1 : has a b = false) (h2 : has b a = false) (h : lt a b = true) : jo a b = .pr a b := by
  unfold jo
  rw [if_neg hn, if_neg (by rw [h1]; exact Bool.false_ne_true), if_neg (by rw [h2]; exact Bool.false_ne_true), if_pos h]
theorem jo_gt {a b : T} (hn : a ≠ b) (h1 : has a b = false) (h2 : has b a = false) (h : lt a b = false) : jo a b = .pr b a := by
  unfold jo
  rw [if_neg hn, if_neg (by rw [h1]; exact Bool.false_ne_true), if_neg (by rw [h2]; exact Bool.false_ne_true), if_neg (by rw [h]; exact Bool.false_ne_true)]

theorem oth_nf {a b : T} (hb : nf b) : nf (oth a b) := by
  cases b with
  | nm x => exact True.intro
  | pr p q =>
    show nf (if p = a then q else p)
    split
    · exact hb.2.1
    · exact hb.1
theorem oth_ok {a b : T} (hb : b.ok) : (oth a b).ok := by
  cases b with
  | nm x => exact hb
  | pr p q =>
    show (if p = a then q else p).ok
    split
    · exact hb.2
    · exact hb.1
theorem oth_dp (a b : T) : (oth a b).dp ≤ b.dp := by
  cases b with
  | nm x => exact Nat.le_refl _
  | pr p q =>
    show (if p = a then q else p).dp ≤ max p.dp q.dp + 1
    split <;> omega
theorem oth_lv (a b : T) : (oth a b).lv ≤ b.lv := by
  cases b with
  | nm x => exact Nat.le_refl _
  | pr p q =>
    show (if p = a then q else p).lv ≤ p.lv + q.lv
    split <;> omega
theorem jo_ok {a b : T} (ha : a.ok) (hb : b.ok) : (jo a b).ok := by
  unfold jo
  split
  · exact ha
  · split
    · exact oth_ok hb
    · split
      · exact oth_ok ha
      · split
        · exact ⟨ha, hb⟩
        · exact ⟨hb, ha⟩
theorem jo_dp (a b : T) : (jo a b).dp ≤ max a.dp b.dp + 1 := by
  have h1 := oth_dp a b
  have h2 := oth_dp b a
  unfold jo
  split
  · omega
  · split
    · omega
    · split
      · omega
      · split
        · show max a.dp b.dp + 1 ≤ _
          omega
        · show max b.dp a.dp + 1 ≤ _
          omega
theorem jo_lv (a b : T) : (jo a b).lv ≤ a.lv + b.lv := by
  have h1 := oth_lv a b
  have h2 := oth_lv b a
  unfold jo
  split
  · omega
  · split
    · omega
    · split
      · omega
      · split
        · show a.lv + b.lv ≤ _
          omega
        · show b.lv + a.lv ≤ _
          omega
theorem jo_nf {a b : T} (ha : nf a) (hb : nf b) (oa : a.ok) (ob : b.ok) : nf (jo a b) := by
  by_cases e : a = b
  · rw [e, jo_same]; exact hb
  · cases h1 : has a b with
    | true => rw [jo_has h1]; exact oth_nf hb
    | false =>
      cases h2 : has b a with
      | true => rw [jo_has' h2]; exact oth_nf ha
      | false =>
        cases h : lt a b with
        | true => rw [jo_lt e h1 h2 h]; exact ⟨ha, hb, e, h1, h2, h⟩
        | false => rw [jo_gt e h1 h2 h]; exact ⟨hb, ha, fun q => e q.symm, h2, h1, lt_or oa ob e h⟩
theorem jo_comm {a b : T} (oa : a.ok) (ob : b.ok) : jo a b = jo b a := by
  by_cases e : a = b
  · rw [e]
  · have e' : b ≠ a := fun q => e q.symm
    cases h1 : has a b with
    | true => rw [jo_has h1, jo_has' h1]
    | false =>
      cases h2 : has b a with
      | true => rw [jo_has' h2, jo_has h2]
      | false =>
        cases h : lt a b with
        | true => rw [jo_lt e h1 h2 h, jo_gt e' h2 h1 (lt_asymm h)]
        | false => rw [jo_gt e h1 h2 h, jo_lt e' h2 h1 (lt_or oa ob e h)]
/-- a pair that is plain is what its sides make -/
theorem jo_pr {a b : T} (h : nf (.pr a b)) : jo a b = .pr a b := jo_lt h.2.2.1 h.2.2.2.1 h.2.2.2.2.1 h.2.2.2.2.2
theorem jo_pr' {a b : T} (h : nf (.pr a b)) : jo b a = .pr a b :=
  jo_gt (fun q => h.2.2.1 q.symm) h.2.2.2.2.1 h.2.2.2.1 (lt_asymm h.2.2.2.2.2)
theorem jo_abs {a b : T} (ha : nf a) (hb : nf b) (oa : a.ok) (ob : b.ok) : jo a (jo a b) = b := by
  by_cases e : a = b
  · rw [e, jo_same, jo_same]
  · cases h1 : has a b with
    | true =>
      rw [jo_has h1]
      obtain ⟨p, q, rfl, d⟩ := has_pr h1
      by_cases hp : p = a
      · subst hp
        rw [oth_l]
        exact jo_pr hb
      · have hq : q = a := d.resolve_left hp
        subst hq
        rw [oth_r hp]
        exact jo_pr' hb
    | false =>
      cases h2 : has b a with
      | true =>
        rw [jo_has' h2]
        obtain ⟨p, q, rfl, d⟩ := has_pr h2
        have sp := p.sz_pos
        have sq := q.sz_pos
        by_cases hp : p = b
        · subst hp
          rw [oth_l, jo_has' (has_iff.mpr (.inr rfl)), oth_r (ha.2.2.1)]
        · have hq : q = b := d.resolve_left hp
          subst hq
          rw [oth_r hp, jo_has' (has_iff.mpr (.inl rfl)), oth_l]
      | false =>
        cases h : lt a b with
        | true => rw [jo_lt e h1 h2 h, jo_has (has_iff.mpr (.inl rfl)), oth_l]
        | false => rw [jo_gt e h1 h2 h, jo_has (has_iff.mpr (.inr rfl)), oth_r (fun q => e q.symm)]

/-! ### the plain form -/
def br : T → T
  | .nm x => .nm x
  | .pr a b => jo (br a) (br b)
theorem br_ok : ∀ {t : T}, t.ok → (br t).ok
  | .nm _, h => h
  | .pr _ _, h => jo_ok (br_ok h.1) (br_ok h.2)
theorem br_nf : ∀ {t : T}, t.ok → nf (br t)
  | .nm _, _ => True.intro
  | .pr _ _, h => jo_nf (br_nf h.1) (br_nf h.2) (br_ok h.1) (br_ok h.2)
theorem br_of_nf : ∀ {t : T}, nf t → br t = t
  | .nm _, _ => rfl
  | .pr a b, h => by
    show jo (br a) (br b) = _
    rw [br_of_nf h.1, br_of_nf h.2.1]
    exact jo_pr h
theorem br_br {t : T} (h : t.ok) : br (br t) = br t := br_of_nf (br_nf h)
theorem br_lv : ∀ t : T, (br t).lv ≤ t.lv
  | .nm _ => Nat.le_refl _
  | .pr a b => by
    have h1 := br_lv a
    have h2 := br_lv b
    have h3 := jo_lv (br a) (br b)
    show (jo (br a) (br b)).lv ≤ a.lv + b.lv
    omega
theorem br_dp : ∀ t : T, (br t).dp ≤ t.dp
  | .nm _ => Nat.le_refl _
  | .pr a b => by
    have h1 := br_dp a
    have h2 := br_dp b
    have h3 := jo_dp (br a) (br b)
    show (jo (br a) (br b)).dp ≤ max a.dp b.dp + 1
    omega

/-! ### terms in the place of names -/
def ev (r : Str → T) : T → T
  | .nm x => r x
  | .pr a b => jo (ev r a) (ev r b)
def sub (r : Str → T) : T → T
  | .nm x => r x
  | .pr a b => .pr (sub r a) (sub r b)
section
variable {r : Str → T} (hn : ∀ x, okN x → nf (r x)) (ho : ∀ x, okN x → (r x).ok)
include hn ho
theorem ev_ok : ∀ {t : T}, t.ok → (ev r t).ok
  | .nm x, h => ho x h
  | .pr _ _, h => jo_ok (ev_ok h.1) (ev_ok h.2)
theorem ev_nf : ∀ {t : T}, t.ok → nf (ev r t)
  | .nm x, h => hn x h
  | .pr _ _, h => jo_nf (ev_nf h.1) (ev_nf h.2) (ev_ok hn ho h.1) (ev_ok hn ho h.2)
theorem ev_oth {a b : T} (ha : a.ok) (hb : b.ok) (h : has a b = true) : ev r (oth a b) = jo (ev r a) (ev r b) := by
  obtain ⟨p, q, rfl, d⟩ := has_pr h
  by_cases hp : p = a
  · subst hp
    rw [oth_l]
    show _ = jo (ev r p) (jo (ev r p) (ev r q))
    rw [jo_abs (ev_nf hn ho hb.1) (ev_nf hn ho hb.2) (ev_ok hn ho hb.1) (ev_ok hn ho hb.2)]
  · have hq : q = a := d.resolve_left hp
    subst hq
    rw [oth_r hp]
    show _ = jo (ev r q) (jo (ev r p) (ev r q))
    rw [jo_comm (ev_ok hn ho hb.1) (ev_ok hn ho hb.2), jo_abs (ev_nf hn ho hb.2) (ev_nf hn ho hb.1) (ev_ok hn ho hb.2) (ev_ok hn ho hb.1)]
theorem ev_jo {a b : T} (ha : a.ok) (hb : b.ok) : ev r (jo a b) = jo (ev r a) (ev r b) := by
  by_cases e : a = b
  · rw [e, jo_same, jo_same]
  · cases h1 : has a b with
    | true => rw [jo_has h1]; exact ev_oth hn ho ha hb h1
    | false =>
      cases h2 : has b a with
      | true => rw [jo_has' h2, ev_oth hn ho hb ha h2, jo_comm (ev_ok hn ho hb) (ev_ok hn ho ha)]
      | false =>
        cases h : lt a b with
        | true => rw [jo_lt e h1 h2 h]; rfl
        | false =>
          rw [jo_gt e h1 h2 h]
          exact jo_comm (ev_ok hn ho hb) (ev_ok hn ho ha)
theorem ev_br : ∀ {t : T}, t.ok → ev r (br t) = ev r t
  | .nm _, _ => rfl
  | .pr a b, h => by
    show ev r (jo (br a) (br b)) = jo (ev r a) (ev r b)
    rw [ev_jo hn ho (br_ok h.1) (br_ok h.2), ev_br h.1, ev_br h.2]
end
theorem br_sub (r : Str → T) : ∀ t : T, br (sub r t) = ev (fun x => br (r x)) t
  | .nm _ => rfl
  | .pr a b => by
    show jo (br (sub r a)) (br (sub r b)) = _
    rw [br_sub r a, br_sub r b]
    rfl
/-- the plain form of a term with terms in the place of names hangs on the plain forms alone -/
theorem br_sub_br {r : Str → T} (ho : ∀ x, okN x → (r x).ok) {t : T} (h : t.ok) : br (sub r t) = br (sub (fun x => br (r x)) (br t)) := by
  have h1 : ∀ x, okN x → nf (br (r x)) := fun x q => br_nf (ho x q)
  have h2 : ∀ x, okN x → (br (r x)).ok := fun x q => br_ok (ho x q)
  have c : ∀ {u : T}, u.ok → ev (fun x => br (br (r x))) u = ev (fun x => br (r x)) u := by
    intro u
    induction u with
    | nm x => intro q; exact br_br (ho x q)
    | pr a b iha ihb =>
      intro q
      show jo (ev _ a) (ev _ b) = jo (ev _ a) (ev _ b)
      rw [iha q.1, ihb q.2]
  rw [br_sub, br_sub, c (br_ok h), ev_br h1 h2 h]
theorem sub_ok {r : Str → T} (ho : ∀ x, okN x → (r x).ok) : ∀ {t : T}, t.ok → (sub r t).ok
  | .nm x, h => ho x h
  | .pr _ _, h => ⟨sub_ok ho h.1, sub_ok ho h.2⟩
theorem sub_lv {r : Str → T} {k : Nat} (h : ∀ x, (r x).lv ≤ k) : ∀ t : T, (sub r t).lv ≤ t.lv * k
  | .nm x => by
    show (r x).lv ≤ 1 * k
    rw [Nat.one_mul]
    exact h x
  | .pr a b => by
    have h1 := sub_lv h a
    have h2 := sub_lv h b
    show (sub r a).lv + (sub r b).lv ≤ (a.lv + b.lv) * k
    rw [Nat.add_mul]
    omega
theorem sub_dp {r : Str → T} {k : Nat} (h : ∀ x, (r x).dp ≤ k) : ∀ t : T, (sub r t).dp ≤ t.dp + k
  | .nm x => by
    show (r x).dp ≤ 0 + k
    have := h x
    omega
  | .pr a b => by
    have h1 := sub_dp h a
    have h2 := sub_dp h b
    show max (sub r a).dp (sub r b).dp + 1 ≤ max a.dp b.dp + 1 + k
    omega
end TP
/-! R1: terms as keys of dicts: hash, equality, look-up, store. -/
namespace TP
open PySem PySem.Spec PyProof.Rows L2

/-- a term as data -/
def tD : T → PyData
  | .nm x => .str x
  | .pr a b => .tuple [tD a, tD b]
theorem tD_inj : ∀ {a b : T}, tD a = tD b → a = b
  | .nm x, .nm y, e => by
    have e' : PyData.str x = PyData.str y := e
    injection e' with e'
    rw [e']
  | .nm x, .pr a b, e => nomatch (show PyData.str x = PyData.tuple [tD a, tD b] from e)
  | .pr a b, .nm x, e => nomatch (show PyData.tuple [tD a, tD b] = PyData.str x from e)
  | .pr a b, .pr c d, e => by
    have e' : PyData.tuple [tD a, tD b] = PyData.tuple [tD c, tD d] := e
    injection e' with e'
    injection e' with e1 e2
    injection e2 with e2 _
    rw [tD_inj e1, tD_inj e2]
theorem okN_str {x : Str} (h : okN x) : PyData.strOk x = true := by
  unfold PyData.strOk
  rw [← Array.all_toList, List.all_eq_true]
  intro c hc
  have h1 := h.2.2 c hc
  unfold okC at h1
  exact decide_eq_true (by omega)
theorem tD_lay : ∀ {t : T}, t.ok → (tD t).canLay0 = true
  | .nm x, h => by
    have h' := okN_str h
    simp [tD, PyData.canLay0, h']
  | .pr a b, h => by
    have h1 := tD_lay h.1
    have h2 := tD_lay h.2
    simp [tD, PyData.canLay0, PyData.canLayAll0, h1, h2]
theorem tD_depth : ∀ t : T, (tD t).depth = t.dp
  | .nm x => by simp [tD, PyData.depth, T.dp]
  | .pr a b => by
    have h1 := tD_depth a
    have h2 := tD_depth b
    simp only [tD, PyData.depth, PyData.depthAll, T.dp, h1, h2]
    omega
theorem tD_shaped {t : T} (ho : t.ok) (h : t.dp ≤ 64) : SeqAt.shaped (tD t) = true := by
  show ((tD t).canLay0 && decide ((tD t).depth ≤ 64)) = true
  rw [tD_lay ho, tD_depth, decide_eq_true h]
  rfl
theorem tD_eqv : ∀ a b : T, PyData.eqv (tD a) (tD b) = decide (a = b)
  | .nm x, .nm y => by
    simp only [tD, PyData.eqv]
    by_cases h : x = y
    · subst h
      simp
    · have h' : ¬ T.nm x = T.nm y := fun q => h (T.nm.inj q)
      rw [decide_eq_false h']
      simpa using h
  | .nm x, .pr a b => by
    rw [decide_eq_false (fun q => nomatch q)]
    simp [tD, PyData.eqv]
  | .pr a b, .nm x => by
    rw [decide_eq_false (fun q => nomatch q)]
    simp [tD, PyData.eqv]
  | .pr a b, .pr c d => by
    have h1 := tD_eqv a c
    have h2 := tD_eqv b d
    simp only [tD, PyData.eqv, PyData.eqvAll, h1, h2, Bool.and_true]
    by_cases e1 : a = c
    · by_cases e2 : b = d
      · subst e1 e2
        simp
      · have h' : ¬ T.pr a b = T.pr c d := fun q => e2 (T.pr.inj q).2
        rw [decide_eq_false h', decide_eq_false e2, Bool.and_false]
    · have h' : ¬ T.pr a b = T.pr c d := fun q => e1 (T.pr.inj q).1
      rw [decide_eq_false h', decide_eq_false e1, Bool.false_and]

/-- the value stands for the term -/
def Rt (h : Heap) (v : Value) (t : T) : Prop := t.ok ∧ ∃ as, Reads h v (tD t) as
theorem Rt.nm {h : Heap} {v : Value} {x : Str} (r : Rt h v (.nm x)) : ∃ k, v = .str x k := by
  obtain ⟨_, as, r⟩ := r
  have r' : Reads h v (.str x) as := r
  cases r'
  exact ⟨_, rfl⟩
theorem Rt.pr {h : Heap} {v : Value} {a b : T} (r : Rt h v (.pr a b)) : ∃ (p : Addr) (o : Obj) (u1 u2 : Value) (n : Nat), v = .ref p ∧ h.get? p = some o ∧ o.cls = .type "tuple" ∧ o.data = .seq #[u1, u2] n ∧ Rt h u1 a ∧ Rt h u2 b := by
  obtain ⟨hok, as, r⟩ := r
  have r' : Reads h v (.tuple [tD a, tD b]) as := r
  cases r' with
  | @tuple p o vs n _ _ h1 h2 h3 h4 =>
    obtain ⟨l⟩ := vs
    have h4' : ReadsAll h l [tD a, tD b] as := h4
    cases h4' with
    | cons q1 q2 =>
      cases q2 with
      | cons q2 q3 =>
        cases q3
        exact ⟨p, o, _, _, n, rfl, h1, h2, h3, ⟨hok.1, _, q1⟩, ⟨hok.2, _, q2⟩⟩
theorem Rt.inj {h : Heap} {v : Value} {x y : T} (r : Rt h v x) (q : Rt h v y) : x = y := by
  obtain ⟨hx, as, r⟩ := r
  obtain ⟨_, bs, q⟩ := q
  exact tD_inj (SeqAt.Reads.unique _ _ _ _ _ (tD_lay hx) r q)
theorem Rt.keeps {h h' : Heap} (k : ∀ b o, h.get? b = some o → h'.get? b = some o) : ∀ {t : T} {v : Value}, Rt h v t → Rt h' v t := fun ⟨o, as, r⟩ => ⟨o, as, PyProof.Rows.Reads.keeps k r⟩

def hT (w : World) : T → Int
  | .nm x => hashStr w x
  | .pr a b => reduceHash (Builtin.Tuple.tupleHashOf [hT w a, hT w b])

section
variable {prog : Program} {w : World}
theorem eq_T {A : Around} {E : Value → Shared → Prop} {s : Shared} {x y : T} {u v : Value} {Q : Bool → Shared → Prop} (hu : A.units + 64 < cLine) (hx : x.dp ≤ 64) (rx : Rt s.heap u x) (ry : Rt s.heap v y) (h : Q (decide (x = y)) s) :
    wpAny (model prog w) A (eqBool u v) Q E s := by
  obtain ⟨ox, as, rx⟩ := rx
  obtain ⟨oy, bs, ry⟩ := ry
  refine SeqAt.eqAt_reads (tD x) (tD y) A s u v as bs rx ry (tD_lay ox) (tD_lay oy) ?_ prog w E Q ?_
  · rw [tD_depth, tD_depth]
    omega
  · rw [tD_eqv]
    exact h
theorem hash_T : ∀ (t : T) {A : Around} {E : Value → Shared → Prop} {s : Shared} {v : Value} {Q : Int → Shared → Prop}, A.units + t.dp < cLine → Rt s.heap v t → (∀ k, Q (hT w t) { s with toks := k }) → wpAny (model prog w) A (PySem.pyHash v) Q E s
  | .nm x, A, E, s, v, Q, hu, r, h => by
    obtain ⟨k, rfl⟩ := r.nm
    exact wpAny_pyHash_str (h _)
  | .pr a b, A, E, s, v, Q, hu, r, h => by
    obtain ⟨p, o, u1, u2, n, rfl, ho, hc, hd, r1, r2⟩ := r.pr
    have hT' : s.TypeIs (.ref p) "tuple" := ⟨o, ho, hc⟩
    have hua : A.in1.units + a.dp < cLine := by
      have hu' : A.units + (max a.dp b.dp + 1) < cLine := hu
      show A.units + 1 + a.dp < cLine
      omega
    have hub : A.in1.units + b.dp < cLine := by
      have hu' : A.units + (max a.dp b.dp + 1) < cLine := hu
      show A.units + 1 + b.dp < cLine
      omega
    unfold PySem.pyHash
    first | unfold pyHashByItsType | skip
    first | refine wpAny_bind (wpAny_cRoomFor_or (.inr (by omega)) ?_) | skip
    refine wpAny_bind (wpAny_specialOf hT' F.slot_tuple_hash.lookup ?_)
    show wpAny _ _ (if (some (Value.builtin "tuple.__hash__") == some Value.none) = true then _ else _) Q E s
    rw [if_neg (by rw [beq_builtin_none]; exact Bool.false_ne_true)]
    refine wpAny_bind (wpAny_specialOf hT' F.slot_tuple_hash.lookup ?_)
    show wpAny _ _ (callSpecialIfBoundUnlessNone? (.ref p) "__hash__" _ >>= _) Q E s
    refine wpAny_bind (wpAny_callSpecialIfBoundUnlessNone?_slot hT' F.slot_tuple_hash (wpAny_call_entry F.slot_tuple_hash hT' F.entry_tuple_hash ?_ (F.args_tuple_hash_1 _)))
    show wpAny _ _ (Builtin.Tuple.tupleItemsOf (.ref p) >>= _) _ _ s
    refine wpAny_bind (wpAny_tupleItemsOf ho hd ?_)
    refine wpAny_bind ?_
    rw [← Array.forIn_toList]
    refine wpAny_forIn_list _
      (fun rest (z : Array Int) s' => ∃ k, s' = { s with toks := k } ∧ ((rest = [u1, u2] ∧ z.toList = []) ∨ (rest = [u2] ∧ z.toList = [hT w a]) ∨ (rest = [] ∧ z.toList = [hT w a, hT w b])))
      _ ?_ ?_ _ _ ⟨s.toks, rfl, .inl ⟨rfl, rfl⟩⟩
    · rintro x rest z s' ⟨k, rfl, q⟩
      rcases q with ⟨e, hz⟩ | ⟨e, hz⟩ | ⟨e, hz⟩
      · injection e with e1 e2
        subst e1 e2
        refine wpAny_bind (hash_T a hua r1 fun k => ?_)
        first
          | exact wpAny_pure ⟨k, rfl, .inr (.inl ⟨rfl, by simp [hz]⟩)⟩
          | exact wpAny_bind (wpAny_pure (wpAny_pure ⟨k, rfl, .inr (.inl ⟨rfl, by simp [hz]⟩)⟩))
      · injection e with e1 e2
        subst e1 e2
        refine wpAny_bind (hash_T b hub r2 fun k => ?_)
        first
          | exact wpAny_pure ⟨k, rfl, .inr (.inr ⟨rfl, by simp [hz]⟩)⟩
          | exact wpAny_bind (wpAny_pure (wpAny_pure ⟨k, rfl, .inr (.inr ⟨rfl, by simp [hz]⟩)⟩))
      · cases e
    · rintro z s' ⟨k, rfl, q⟩
      have hz : z.toList = [hT w a, hT w b] := by
        rcases q with ⟨e, hz⟩ | ⟨e, hz⟩ | ⟨e, hz⟩
        · cases e
        · cases e
        · exact hz
      show wpAny _ _ (retInt (Builtin.Tuple.tupleHashOf z.toList)) _ _ _
      rw [hz]
      refine wpAny_ret_mkInt ?_
      have hh : hT w (.pr a b) = reduceHash (Builtin.Tuple.tupleHashOf [hT w a, hT w b]) := rfl
      show wpAny _ _ (if (decide (-(2 : Int) ^ 63 ≤ Builtin.Tuple.tupleHashOf [hT w a, hT w b]) && decide (Builtin.Tuple.tupleHashOf [hT w a, hT w b] < 2 ^ 63)) = true then _ else _) Q E _
      rw [hh] at h
      unfold reduceHash at h
      by_cases hr : (decide (-(2 : Int) ^ 63 ≤ Builtin.Tuple.tupleHashOf [hT w a, hT w b]) && decide (Builtin.Tuple.tupleHashOf [hT w a, hT w b] < 2 ^ 63)) = true
      · rw [if_pos hr]
        rw [if_pos hr] at h
        exact wpAny_pure (h _)
      · rw [if_neg hr]
        rw [if_neg hr] at h
        exact wpAny_bind (wpAny_rule (wpAny_pure (h _)))
theorem quiet_T : ∀ (t : T) (n : Nat) {A : Around} {E : Value → Shared → Prop} {s : Shared} {v : Value} {Q : Bool → Shared → Prop}, t.dp ≤ n → Rt s.heap v t → Q true s → wpAny (model prog w) A (eqIsQuiet n v) Q E s
  | .nm x, n, A, E, s, v, Q, hn, r, h => by
    obtain ⟨k, rfl⟩ := r.nm
    rw [eqIsQuiet_byValue n (show carriedByValue (.str x k) = true from rfl)]
    exact wpAny_pure h
  | .pr a b, n, A, E, s, v, Q, hn, r, h => by
    obtain ⟨p, o, u1, u2, m, rfl, ho, hc, hd, r1, r2⟩ := r.pr
    have hT' : s.TypeIs (.ref p) "tuple" := ⟨o, ho, hc⟩
    have hn' : max a.dp b.dp + 1 ≤ n := hn
    obtain ⟨n, rfl⟩ : ∃ m, n = m + 1 := ⟨n - 1, by omega⟩
    unfold eqIsQuiet
    refine wpAny_bind (wpAny_specialOf hT' F.slot_tuple_eq.lookup ?_)
    show wpAny _ _ (isInstance (.ref p) (.type "tuple") >>= _) _ _ s
    refine wpAny_bind (wpAny_isInstance hT' isSubtype_tuple_tuple ?_)
    simp only [Bool.not_true, Bool.false_eq_true, if_false]
    refine wpAny_bind (wpAny_seqItems ho hd ?_)
    refine wpAny_bind ?_
    show wpAny _ _ (forIn #[u1, u2] _ _) _ _ s
    rw [← Array.forIn_toList]
    refine wpAny_forIn_list _ (fun rest z s' => z.1 = none ∧ s' = s ∧ (rest = [u1, u2] ∨ rest = [u2] ∨ rest = [])) _ ?_ ?_ _ _ ⟨rfl, rfl, .inl rfl⟩
    · rintro x rest z s' ⟨hz, rfl, q⟩
      rcases q with e | e | e
      · injection e with e1 e2
        subst e1 e2
        refine wpAny_bind (quiet_T a n (by omega) r1 ?_)
        simp only [Bool.not_true, Bool.false_eq_true, if_false]
        exact wpAny_pure ⟨rfl, rfl, .inr (.inl trivial)⟩
      · injection e with e1 e2
        subst e1 e2
        refine wpAny_bind (quiet_T b n (by omega) r2 ?_)
        simp only [Bool.not_true, Bool.false_eq_true, if_false]
        exact wpAny_pure ⟨rfl, rfl, .inr (.inr trivial)⟩
      · cases e
    · rintro ⟨z1, z2⟩ s' ⟨hz, rfl, _⟩
      simp only at hz
      subst hz
      exact wpAny_pure h

/-! ### a dict's entries: the terms, their own values, what is kept under them -/
abbrev TE3 := T × Value × Value
def entT (w : World) (x : TE3) : DictEntry := ⟨hT w x.1, x.2.1, x.2.2⟩
/-- es are the entries of xs -/
structure Ents (w : World) (h : Heap) (es : Array DictEntry) (xs : List TE3) : Prop where
  eq : es.toList = xs.map (entT w)
  rd : ∀ x ∈ xs, Rt h x.2.1 x.1 ∧ x.1.dp ≤ 8
  nd : (xs.map (·.1)).Nodup
def atT (xs : List TE3) (k : T) : Option Value := (xs.find? fun x => decide (x.1 = k)).map (·.2.2)

variable {h : Heap} {es : Array DictEntry} {xs : List TE3}
theorem Ents.at (e : Ents w h es xs) (j : Nat) : es[j]? = (xs[j]?).map (entT w) := by
  rw [← Array.getElem?_toList, e.eq, List.getElem?_map]
theorem Ents.size (e : Ents w h es xs) : es.size = xs.length := by
  rw [← Array.length_toList, e.eq, List.length_map]
theorem Ents.one (e : Ents w h es xs) {i j : Nat} {k : T} {p q : Value × Value} (hi : xs[i]? = some (k, p)) (hj : xs[j]? = some (k, q)) : i = j := by
  have hi' : (xs.map (·.1))[i]? = some k := by rw [List.getElem?_map, hi]; rfl
  have hj' : (xs.map (·.1))[j]? = some k := by rw [List.getElem?_map, hj]; rfl
  exact (List.getElem?_inj (List.getElem?_eq_some_iff.mp hi').1 e.nd).mp (hi'.trans hj'.symm)
theorem Ents.val (e : Ents w h es xs) {i : Nat} {k : T} {p : Value × Value} (hi : xs[i]? = some (k, p)) : atT xs k = some p.2 := by
  have hm : (k, p) ∈ xs := List.mem_of_getElem? hi
  cases q : xs.find? (fun x => decide (x.1 = k)) with
  | none =>
    have := List.find?_eq_none.mp q _ hm
    simp at this
  | some y =>
    have hy := List.mem_of_find?_eq_some q
    have hk : y.1 = k := by
      have := List.find?_some q
      exact of_decide_eq_true this
    obtain ⟨j, hj⟩ := List.mem_iff_getElem?.mp hy
    obtain ⟨yk, yp⟩ := y
    simp only at hk
    subst hk
    have := e.one hi hj
    subst this
    rw [hi] at hj
    injection hj with hj
    injection hj with _ hj
    unfold atT
    rw [q, hj]
    rfl
theorem atT_none {k : T} (hn : ∀ (j : Nat) (p : Value × Value), xs[j]? ≠ some (k, p)) : atT xs k = none := by
  unfold atT
  have : (xs.find? fun x => decide (x.1 = k)) = none := by
    rw [List.find?_eq_none]
    intro x hx q
    obtain ⟨j, hj⟩ := List.mem_iff_getElem?.mp hx
    have e : x.1 = k := of_decide_eq_true q
    exact hn j x.2 (by rw [hj, ← e])
  rw [this]
  rfl

section
variable {A : Around} {E : Value → Shared → Prop} {s : Shared} {d : Addr} {o : Obj} {ep : Nat} {k : T} {key : Value} {Q : Option Nat → Shared → Prop}
/-- a place of the key's hash -/
theorem place_T {h : Heap} (e : Ents w h es xs) {i : Nat} (hi : i < es.size) (he : ((es[i]?.map (·.hash)) == some (hT w k)) = true) :
    ∃ (k' : T) (p : Value × Value), xs[i]? = some (k', p) ∧ es[i]? = some ⟨hT w k', p.1, p.2⟩ ∧ (hT w k' == hT w k) = true ∧ Rt h p.1 k' ∧ k'.dp ≤ 8 := by
  obtain ⟨⟨k', p⟩, hx⟩ : ∃ y, xs[i]? = some y := ⟨xs[i]'(by rw [← e.size]; exact hi), List.getElem?_eq_getElem _⟩
  have hex : es[i]? = some (entT w (k', p)) := by rw [e.at i, hx]; rfl
  obtain ⟨h1, h2⟩ := e.rd _ (List.mem_of_getElem? hx)
  refine ⟨k', p, hx, hex, ?_, h1, h2⟩
  rw [hex] at he
  simpa [entT] using he

theorem find_T (hu : A.units + 64 < cLine) (hk : Rt s.heap key k) (hk8 : k.dp ≤ 8) (ho : s.heap.get? d = some o) (hd : o.data = .dict es ep) (e : Ents w s.heap es xs)
    (hnone : (∀ (j : Nat) (p : Value × Value), xs[j]? ≠ some (k, p)) → Q none s) (hsome : ∀ (j : Nat) (p : Value × Value), xs[j]? = some (k, p) → Q (some j) s) :
    wpAny (model prog w) A (dictFind d key (hT w k)) Q E s := by
  have haskey : ∀ (j : Nat) (p : Value × Value), xs[j]? = some (k, p) → ((es[j]?.map (·.hash)) == some (hT w k)) = true := by
    intro j p hj
    rw [e.at j, hj]
    simp [entT]
  have hmem : ∀ y ∈ es, ∃ x ∈ xs, y = entT w x := by
    intro y hin
    have : y ∈ xs.map (entT w) := e.eq ▸ Array.mem_toList_iff.mpr hin
    obtain ⟨x, hx, rfl⟩ := List.mem_map.mp this
    exact ⟨x, hx, rfl⟩
  -- behind the last place
  have fin : ∀ i, i ≤ es.size → [] = (List.range' i (es.size - i)).filter (fun i => (es[i]?.map (·.hash)) == some (hT w k)) → ∀ (j : Nat) (p : Value × Value), i ≤ j → xs[j]? ≠ some (k, p) := by
    intro i hi hr j p hij hj
    have hjl : j < es.size := by
      rw [e.size]
      exact (List.getElem?_eq_some_iff.mp hj).1
    have q := List.filter_eq_nil_iff.mp hr.symm j (List.mem_range'_1.mpr ⟨hij, by omega⟩)
    exact q (haskey j p hj)
  -- a place that was no hit
  have step : ∀ (i x : Nat) (k' : T) (p : Value × Value), (∀ (j : Nat), i ≤ j → j < x → ((es[j]?.map (·.hash)) == some (hT w k)) = false) → xs[x]? = some (k', p) → (∀ (j : Nat) (q : Value × Value), j < i → xs[j]? ≠ some (k, q)) →
      ∀ (j : Nat) (q : Value × Value), (j < x ∨ (j < x + 1 ∧ k' ≠ k)) → xs[j]? ≠ some (k, q) := by
    intro i x k' p hskip hx hno j q hj hq
    rcases Nat.lt_or_ge j i with h1 | h1
    · exact hno j q h1 hq
    · rcases Nat.lt_or_ge j x with h2 | h2
      · have := hskip j h1 h2
        rw [haskey j q hq] at this
        cases this
      · rcases hj with hj | ⟨hj, hn⟩
        · omega
        · have : j = x := by omega
          subst this
          rw [hx] at hq
          injection hq with hq
          injection hq with hq _
          exact hn hq
  have plain : wpAny (model prog w) A (dictWalkPlain d key (hT w k) es (placesWithHash es.size (fun i => es[i]?.map (·.hash)) (hT w k))) Q E s := by
    refine wpAny_bind ?_
    refine wpAny_forIn_list _
      (fun rest b s' => s' = s ∧ b = (none, ()) ∧ ∃ i, rest = (List.range' i (es.size - i)).filter (fun i => (es[i]?.map (·.hash)) == some (hT w k)) ∧ i ≤ es.size ∧
        ∀ (j : Nat) (p : Value × Value), j < i → xs[j]? ≠ some (k, p)) _ ?_ ?_ _ _
      ⟨rfl, rfl, 0, by rw [placesWithHash, List.range_eq_range', Nat.sub_zero], Nat.zero_le _, fun _ _ z => absurd z (Nat.not_lt_zero _)⟩
    · rintro x rest b s' ⟨rfl, rfl, i, hr, hi, hno⟩
      obtain ⟨hix, hxn, hpx, hskip, hrest⟩ := filter_range'_cons _ _ _ _ _ hr.symm
      have hlt : x < es.size := by omega
      have hrest' : rest = (List.range' (x + 1) (es.size - (x + 1))).filter (fun i => (es[i]?.map (·.hash)) == some (hT w k)) := by rw [hrest]; congr 2; omega
      obtain ⟨k', p, hx, hex, hh, r1, r8⟩ := place_T e hlt hpx
      rw [hex]
      dsimp only
      rw [if_pos hh]
      refine wpAny_bind (wpAny_dictEpoch ho hd (wpAny_bind (eq_T hu (by omega) r1 hk (wpAny_bind (wpAny_dictEpoch ho hd ?_)))))
      show wpAny _ _ (if (ep != ep) = true then _ else _) _ E _
      rw [if_neg (by simp)]
      by_cases hkk : k' = k
      · rw [decide_eq_true hkk]
        subst hkk
        exact wpAny_bind (wpAny_rule (wpAny_pure (wpAny_pure (hsome x p hx))))
      · rw [decide_eq_false hkk]
        exact wpAny_bind (wpAny_rule (wpAny_pure ⟨rfl, rfl, x + 1, hrest', hlt, fun j q hj => step i x k' p hskip hx hno j q (.inr ⟨hj, hkk⟩)⟩))
    · rintro b s' ⟨rfl, rfl, i, hr, hi, hno⟩
      refine wpAny_pure (hnone fun j p hj => ?_)
      rcases Nat.lt_or_ge j i with q | q
      · exact hno j p q hj
      · exact fin i hi hr j p q hj
  -- no stored key of this value has another hash
  have hsame : ∀ y ∈ es, y.key = key → y.hash = hT w k := by
    intro y hy q
    obtain ⟨x, hx, rfl⟩ := hmem y hy
    have h1 := (e.rd x hx).1
    have q' : x.2.1 = key := q
    rw [q'] at h1
    show hT w x.1 = hT w k
    rw [Rt.inj h1 hk]
  have hst : ∀ v ∈ (placesWithHash es.size (fun i => es[i]?.map (·.hash)) (hT w k)).filterMap (fun i => es[i]?.map (·.key)), ∃ k', Rt s.heap v k' ∧ k'.dp ≤ 8 := by
    intro v hv
    obtain ⟨i, _, hi⟩ := List.mem_filterMap.mp hv
    cases hei : es[i]? with
    | none => rw [hei] at hi; cases hi
    | some y =>
      rw [hei] at hi
      obtain rfl : y.key = v := by simpa using hi
      obtain ⟨x, hx, rfl⟩ := hmem y (Array.mem_of_getElem? hei)
      exact ⟨x.1, e.rd x hx⟩
  -- do the stored ones tell? they are quiet
  have tell : ∀ {R : Bool → Shared → Prop}, R false s → wpAny (model prog w) A (tableMayTell key ((placesWithHash es.size (fun i => es[i]?.map (·.hash)) (hT w k)).filterMap fun i => es[i]?.map (·.key))) R E s := by
    intro R hR
    unfold tableMayTell
    split
    · exact wpAny_pure hR
    · refine wpAny_bind (quiet_T k 8 hk8 hk ?_)
      simp only [Bool.not_true, Bool.false_eq_true, if_false]
      refine wpAny_bind ?_
      refine wpAny_forIn_list _ (fun rest r s' => s' = s ∧ r = (none, ()) ∧ ∀ v ∈ rest, ∃ k', Rt s.heap v k' ∧ k'.dp ≤ 8) _ ?_ ?_ _ _ ⟨rfl, rfl, hst⟩
      · rintro x rest r s' ⟨rfl, rfl, hr⟩
        obtain ⟨k', r1, r8⟩ := hr x List.mem_cons_self
        refine wpAny_bind (quiet_T k' 8 r8 r1 ?_)
        simp only [Bool.not_true, Bool.false_eq_true, if_false]
        exact wpAny_pure ⟨rfl, rfl, fun v hv => hr v (List.mem_cons_of_mem _ hv)⟩
      · rintro r s' ⟨rfl, rfl, _⟩
        exact wpAny_pure hR
  unfold dictFind
  try with_reducible refine wpAny_holding ?_
  refine wpAny_bind (wpAny_dictEntries ho hd ?_)
  cases k with
  | nm x =>
    obtain ⟨t, rfl⟩ := hk.nm
    dsimp only
    by_cases hs : (es.all fun e => isExactStrKey e.key) = true
    · rw [if_pos hs]
      unfold foundByValue
      cases hf : es.findIdx? (fun e => e.key.isStr x) with
      | none =>
        refine wpAny_pure (hnone fun j p hj => ?_)
        have hq := Array.findIdx?_eq_none_iff.mp hf
        have hm : (entT w (.nm x, p)) ∈ es := by
          have q : es[j]? = some (entT w (.nm x, p)) := by rw [e.at j, hj]; rfl
          exact Array.mem_of_getElem? q
        have h1 := hq _ hm
        obtain ⟨k', hk'⟩ := (e.rd _ (List.mem_of_getElem? hj)).1.nm
        have h2 : p.1.isStr x = false := h1
        have hk2 : p.1 = .str x k' := hk'
        rw [hk2] at h2
        simp [Value.isStr] at h2
      | some i =>
        obtain ⟨hlt, hi, _⟩ := Array.findIdx?_eq_some_iff_getElem.mp hf
        obtain ⟨⟨k', p⟩, hx⟩ : ∃ y, xs[i]? = some y := ⟨xs[i]'(by rw [← e.size]; exact hlt), List.getElem?_eq_getElem _⟩
        have hex : es[i]? = some ⟨hT w k', p.1, p.2⟩ := by rw [e.at i, hx]; rfl
        obtain ⟨r1, r8⟩ := e.rd _ (List.mem_of_getElem? hx)
        have hkk : k' = .nm x := by
          have h1 : es[i] = ⟨hT w k', p.1, p.2⟩ := Option.some.inj ((Array.getElem?_eq_getElem hlt).symm.trans hex)
          rw [h1] at hi
          have hi' : p.1.isStr x = true := hi
          cases k' with
          | nm y =>
            obtain ⟨u, hu'⟩ := r1.nm
            have hu2 : p.1 = .str y u := hu'
            rw [hu2] at hi'
            have : y = x := by simpa [Value.isStr] using hi'
            rw [this]
          | pr a b =>
            obtain ⟨q, _, _, _, _, hq, _⟩ := r1.pr
            have hq2 : p.1 = .ref q := hq
            rw [hq2] at hi'
            simp [Value.isStr] at hi'
        dsimp only
        rw [hex]
        dsimp only
        refine wpAny_bind (wpAny_dictEpoch ho hd (wpAny_bind (eq_T hu (by omega) r1 hk (wpAny_bind (wpAny_dictEpoch ho hd ?_)))))
        show wpAny _ _ (if (ep != ep) = true then _ else _) _ E _
        rw [if_neg (by simp), decide_eq_true hkk]
        subst hkk
        exact wpAny_bind (wpAny_rule (wpAny_pure (hsome i p hx)))
    · rw [if_neg hs]
      by_cases hc : ((Value.str x t :: (placesWithHash es.size (fun i => es[i]?.map (·.hash)) (hT w (.nm x))).filterMap (fun i => es[i]?.map (·.key))).all carriedByValue) = true
      · rw [if_pos hc]
        exact plain
      · rw [if_neg hc]
        by_cases hone : (((placesWithHash es.size (fun i => es[i]?.map (·.hash)) (hT w (T.nm x))).filterMap (fun i => es[i]?.map (·.key))) == [Value.str x t]) = true <;>
        (first | rw [if_pos hone] | rw [if_neg hone]) <;> (first | refine wpAny_bind (wpAny_pure ?_) | refine wpAny_bind (tell ?_)) <;> (
          rw [if_neg (by simp)]
          refine wpAny_bind ?_
          refine wpAny_forIn_list _
            (fun rest b s' => s' = s ∧ ∃ i hit, b = (none, hit) ∧ rest = (List.range' i (es.size - i)).filter (fun i => (es[i]?.map (·.hash)) == some (hT w (T.nm x))) ∧ i ≤ es.size ∧
              ((hit = none ∧ ∀ (j : Nat) (p : Value × Value), j < i → xs[j]? ≠ some ((T.nm x), p)) ∨ ∃ (j : Nat) (p : Value × Value), hit = some j ∧ j < i ∧ xs[j]? = some ((T.nm x), p))) _ ?_ ?_ _ _
            ⟨rfl, 0, none, rfl, by rw [placesWithHash, List.range_eq_range', Nat.sub_zero], Nat.zero_le _, .inl ⟨rfl, fun _ _ z => absurd z (Nat.not_lt_zero _)⟩⟩
          · rintro x' rest b' s' ⟨rfl, i, hit, rfl, hr, hi, hH⟩
            obtain ⟨hix, hxn, hpx, hskip, hrest⟩ := filter_range'_cons _ _ _ _ _ hr.symm
            have hlt : x' < es.size := by omega
            have hrest' : rest = (List.range' (x' + 1) (es.size - (x' + 1))).filter (fun i => (es[i]?.map (·.hash)) == some (hT w (T.nm x))) := by rw [hrest]; congr 2; omega
            obtain ⟨k', pp, hx, hex, hh, r1, r8⟩ := place_T e hlt hpx
            rw [hex]
            dsimp only
            rw [if_pos hh]
            refine wpAny_bind (wpAny_dictEpoch ho hd (wpAny_bind (eq_T hu (by omega) r1 hk (wpAny_bind (wpAny_dictEpoch ho hd ?_)))))
            show wpAny _ _ (if (ep != ep) = true then _ else _) _ E _
            rw [if_neg (by simp)]
            by_cases hkk : k' = (T.nm x)
            · rw [decide_eq_true hkk]
              subst hkk
              rcases hH with ⟨rfl, _⟩ | ⟨j, q, _, hjx, hj⟩
              · first | rw [if_pos rfl] | skip
                simp only [Option.isSome_none, Bool.false_eq_true, if_false]
                first | refine wpAny_bind (wpAny_pure ?_) | skip
                refine wpAny_bind (wpAny_rule ?_)
                split
                · exact wpAny_pure (wpAny_pure (hsome x' _ hx))
                · exact wpAny_pure ⟨rfl, x' + 1, some x', rfl, hrest', hlt, .inr ⟨x', _, rfl, Nat.lt_succ_self x', hx⟩⟩
              · exact absurd (e.one hj hx) (by omega)
            · rw [decide_eq_false hkk]
              have hstay : (hit = none ∧ ∀ (j : Nat) (p : Value × Value), j < x' + 1 → xs[j]? ≠ some ((T.nm x), p)) ∨ ∃ (j : Nat) (p : Value × Value), hit = some j ∧ j < x' + 1 ∧ xs[j]? = some ((T.nm x), p) := by
                rcases hH with ⟨h0, hno⟩ | ⟨j, q, h1, hji, hj⟩
                · exact .inl ⟨h0, fun j q hj => step i x' k' pp hskip hx hno j q (.inr ⟨hj, hkk⟩)⟩
                · exact .inr ⟨j, q, h1, by omega, hj⟩
              simp only [Bool.false_eq_true, if_false]
              refine wpAny_bind (wpAny_rule ?_)
              first | rw [if_neg (by simp)] | skip
              first
                | exact wpAny_pure ⟨rfl, x' + 1, hit, rfl, hrest', hlt, hstay⟩
                | exact wpAny_bind (wpAny_pure (wpAny_pure ⟨rfl, x' + 1, hit, rfl, hrest', hlt, hstay⟩))
          · rintro b' s' ⟨rfl, i, hit, rfl, hr, hi, hH⟩
            rcases hH with ⟨rfl, hno⟩ | ⟨j, q, rfl, _, hj⟩
            · refine wpAny_pure (hnone fun j p hj => ?_)
              rcases Nat.lt_or_ge j i with q | q
              · exact hno j p q hj
              · exact fin i hi hr j p q hj
            · exact wpAny_pure (hsome j q hj))
  | pr ka kb =>
    obtain ⟨p, op, u1, u2, n, rfl, _⟩ := id hk.pr
    dsimp only
    rw [if_neg (show ¬ ((Value.ref p :: (placesWithHash es.size (fun i => es[i]?.map (·.hash)) (hT w (.pr ka kb))).filterMap (fun i => es[i]?.map (·.key))).all carriedByValue) = true by simp [carriedByValue])]
    have hany : ¬ (es.any fun e => e.key == Value.ref p && e.hash != hT w (.pr ka kb)) = true := by
      rw [← Array.any_toList, List.any_eq_true]
      rintro ⟨y, hin, hc⟩
      rw [Bool.and_eq_true, beq_iff_eq, bne_iff_ne] at hc
      exact hc.2 (hsame y (Array.mem_toList_iff.mp hin) hc.1)
    rw [if_neg hany]
    by_cases hone : (((placesWithHash es.size (fun i => es[i]?.map (·.hash)) (hT w (T.pr ka kb))).filterMap (fun i => es[i]?.map (·.key))) == [Value.ref p]) = true <;>
    (first | rw [if_pos hone] | rw [if_neg hone]) <;> (first | refine wpAny_bind (wpAny_pure ?_) | refine wpAny_bind (tell ?_)) <;> (
      rw [if_neg (by simp)]
      refine wpAny_bind ?_
      refine wpAny_forIn_list _
        (fun rest b s' => s' = s ∧ ∃ i hit, b = (none, hit) ∧ rest = (List.range' i (es.size - i)).filter (fun i => (es[i]?.map (·.hash)) == some (hT w (T.pr ka kb))) ∧ i ≤ es.size ∧
          ((hit = none ∧ ∀ (j : Nat) (p : Value × Value), j < i → xs[j]? ≠ some ((T.pr ka kb), p)) ∨ ∃ (j : Nat) (p : Value × Value), hit = some j ∧ j < i ∧ xs[j]? = some ((T.pr ka kb), p))) _ ?_ ?_ _ _
        ⟨rfl, 0, none, rfl, by rw [placesWithHash, List.range_eq_range', Nat.sub_zero], Nat.zero_le _, .inl ⟨rfl, fun _ _ z => absurd z (Nat.not_lt_zero _)⟩⟩
      · rintro x' rest b' s' ⟨rfl, i, hit, rfl, hr, hi, hH⟩
        obtain ⟨hix, hxn, hpx, hskip, hrest⟩ := filter_range'_cons _ _ _ _ _ hr.symm
        have hlt : x' < es.size := by omega
        have hrest' : rest = (List.range' (x' + 1) (es.size - (x' + 1))).filter (fun i => (es[i]?.map (·.hash)) == some (hT w (T.pr ka kb))) := by rw [hrest]; congr 2; omega
        obtain ⟨k', pp, hx, hex, hh, r1, r8⟩ := place_T e hlt hpx
        rw [hex]
        dsimp only
        rw [if_pos hh]
        refine wpAny_bind (wpAny_dictEpoch ho hd (wpAny_bind (eq_T hu (by omega) r1 hk (wpAny_bind (wpAny_dictEpoch ho hd ?_)))))
        show wpAny _ _ (if (ep != ep) = true then _ else _) _ E _
        rw [if_neg (by simp)]
        by_cases hkk : k' = (T.pr ka kb)
        · rw [decide_eq_true hkk]
          subst hkk
          rcases hH with ⟨rfl, _⟩ | ⟨j, q, _, hjx, hj⟩
          · first | rw [if_pos rfl] | skip
            simp only [Option.isSome_none, Bool.false_eq_true, if_false]
            first | refine wpAny_bind (wpAny_pure ?_) | skip
            refine wpAny_bind (wpAny_rule ?_)
            split
            · exact wpAny_pure (wpAny_pure (hsome x' _ hx))
            · exact wpAny_pure ⟨rfl, x' + 1, some x', rfl, hrest', hlt, .inr ⟨x', _, rfl, Nat.lt_succ_self x', hx⟩⟩
          · exact absurd (e.one hj hx) (by omega)
        · rw [decide_eq_false hkk]
          have hstay : (hit = none ∧ ∀ (j : Nat) (p : Value × Value), j < x' + 1 → xs[j]? ≠ some ((T.pr ka kb), p)) ∨ ∃ (j : Nat) (p : Value × Value), hit = some j ∧ j < x' + 1 ∧ xs[j]? = some ((T.pr ka kb), p) := by
            rcases hH with ⟨h0, hno⟩ | ⟨j, q, h1, hji, hj⟩
            · exact .inl ⟨h0, fun j q hj => step i x' k' pp hskip hx hno j q (.inr ⟨hj, hkk⟩)⟩
            · exact .inr ⟨j, q, h1, by omega, hj⟩
          simp only [Bool.false_eq_true, if_false]
          refine wpAny_bind (wpAny_rule ?_)
          first | rw [if_neg (by simp)] | skip
          first
            | exact wpAny_pure ⟨rfl, x' + 1, hit, rfl, hrest', hlt, hstay⟩
            | exact wpAny_bind (wpAny_pure (wpAny_pure ⟨rfl, x' + 1, hit, rfl, hrest', hlt, hstay⟩))
      · rintro b' s' ⟨rfl, i, hit, rfl, hr, hi, hH⟩
        rcases hH with ⟨rfl, hno⟩ | ⟨j, q, rfl, _, hj⟩
        · refine wpAny_pure (hnone fun j p hj => ?_)
          rcases Nat.lt_or_ge j i with q | q
          · exact hno j p q hj
          · exact fin i hi hr j p q hj
        · exact wpAny_pure (hsome j q hj))
end
end
end TP
/-! R2: dicts keyed by terms, over the layer. -/
namespace TP
open PySem PySem.Spec PyProof.Rows L2

section
variable {prog : Program} {w : World} {A : Around} {E : Value → Shared → Prop} {s : Shared} {d : Addr} {o : Obj} {es : Array DictEntry} {ep : Nat} {xs : List TE3} {k : T} {key v : Value}
def putV (xs : List TE3) (k : T) (key v : Value) : List TE3 := if xs.any (fun x => decide (x.1 = k)) then xs.map (fun x => if x.1 = k then (x.1, x.2.1, v) else x) else xs ++ [(k, key, v)]
theorem dictGet_T {Q : Option Value → Shared → Prop} (hu : A.units + 64 < cLine) (hk : Rt s.heap key k) (hk8 : k.dp ≤ 8) (ho : s.heap.get? d = some o) (hd : o.data = .dict es ep) (e : Ents w s.heap es xs)
    (h : ∀ t, Q (atT xs k) { s with toks := t }) : wpAny (model prog w) A (dictGet d key) Q E s := by
  unfold dictGet
  try with_reducible refine wpAny_holding ?_
  refine wpAny_bind (hash_T k (by omega) hk fun t => wpAny_bind (find_T (s := { s with toks := t }) hu hk hk8 ho hd e ?_ ?_))
  · intro hno
    have q := h t
    rw [atT_none hno] at q
    exact wpAny_pure q
  · intro j p hj
    have q := h t
    rw [e.val hj] at q
    refine wpAny_bind (wpAny_dictEntries (s := { s with toks := t }) ho hd ?_)
    rw [e.at j, hj]
    exact wpAny_pure q
theorem any_of_get {j : Nat} {p : Value × Value} (hj : xs[j]? = some (k, p)) : xs.any (fun x => decide (x.1 = k)) = true := by
  rw [List.any_eq_true]
  exact ⟨(k, p), List.mem_of_getElem? hj, decide_eq_true rfl⟩
theorem any_of_no (hno : ∀ (j : Nat) (p : Value × Value), xs[j]? ≠ some (k, p)) : ¬ xs.any (fun x => decide (x.1 = k)) = true := by
  rw [List.any_eq_true]
  rintro ⟨x, hx, q⟩
  obtain ⟨j, hj⟩ := List.mem_iff_getElem?.mp hx
  have e : x.1 = k := of_decide_eq_true q
  exact hno j x.2 (by rw [hj, ← e])
theorem dictSet_T {Q : Unit → Shared → Prop} (hu : A.units + 64 < cLine) (hk : Rt s.heap key k) (hk8 : k.dp ≤ 8) (ho : s.heap.get? d = some o) (hc : o.ExactDict) (hd : o.data = .dict es ep) (e : Ents w s.heap es xs) (hsz : xs.length ≤ sizeLine)
    (hQ : ∀ (h' : Heap) (o' : Obj) (es' : Array DictEntry) (ep' t : Nat), Heap.SameBut d s.heap h' → h'.get? d = some o' → o'.ExactDict → o'.data = .dict es' ep' → es'.toList = (putV xs k key v).map (entT w) → Q () { s with heap := h', toks := t }) :
    wpAny (model prog w) A (dictSet d key v) Q E s := by
  unfold dictSet
  try with_reducible refine wpAny_holding ?_
  refine wpAny_bind (hash_T k (by omega) hk fun t => ?_)
  unfold dictSetHashed
  try with_reducible refine wpAny_holding ?_
  refine wpAny_bind (find_T (s := { s with toks := t }) hu hk hk8 ho hd e ?_ ?_)
  · intro hno
    refine wpAny_bind (wpAny_rule (wpAny_updateDictKeys (hz := by have q := e.size; omega) (s := { s with toks := t }) ho hd
      (hQ _ _ _ (ep + 1) t (Heap.SameBut.update ..) (Heap.get?_update_self _ ho (Obj.isFreed_of_dict (Obj.data_mapDictKeys hd _))) (hc.mapDictKeys _) (Obj.data_mapDictKeys hd _) ?_)))
    unfold putV
    rw [if_neg (any_of_no hno), Array.toList_push, e.eq, List.map_append]
    rfl
  · intro j p hj
    refine wpAny_bind (wpAny_rule (wpAny_bind (wpAny_updateDict (s := { s with toks := t }) ho hd (wpAny_point
      (hQ _ _ _ ep t (Heap.SameBut.update ..) (Heap.get?_update_self _ ho (Obj.isFreed_of_dict (Obj.data_mapDict hd _))) (hc.mapDict _) (Obj.data_mapDict hd _) ?_)))))
    unfold putV
    rw [if_pos (any_of_get hj)]
    refine List.ext_getElem? fun i => ?_
    rw [Array.getElem?_toList, Array.getElem?_modify, e.at i, List.getElem?_map, List.getElem?_map]
    by_cases hij : j = i
    · subst hij
      rw [if_pos rfl, hj]
      simp [entT]
    · rw [if_neg hij]
      cases hx : xs[i]? with
      | none => rfl
      | some x =>
        have hne : ¬ x.1 = k := fun q => hij (e.one hj (by rw [hx, ← q]))
        simp [hne]
theorem getItem_T {u : Value} {Q : Value → Shared → Prop} (hu : A.units + 65 < cLine) (hk : Rt s.heap key k) (hk8 : k.dp ≤ 8) (ho : s.heap.get? d = some o) (hc : o.ExactDict) (hd : o.data = .dict es ep) (e : Ents w s.heap es xs) (hv : atT xs k = some u)
    (h : ∀ t, Q u { s with toks := t }) : wpAny (model prog w) A (getItem (.ref d) key) Q E s := by
  have hT' : s.TypeIs (.ref d) "dict" := ⟨o, ho, hc.1⟩
  unfold getItem
  try with_reducible refine wpAny_holding ?_
  refine wpAny_bind (wpAny_sequenceKey hT' (by decide) ?_)
  refine wpAny_bind (wpAny_callSpecial?_slot (name := Str.ofString "__getitem__") hT' PySem.F.slot_dict_getitem (wpAny_call_entry PySem.F.slot_dict_getitem hT' PySem.F.entry_dict_getitem ?_ (PySem.F.args_dict_getitem_2 _ _)))
  show wpAny _ _ (dictGet d key >>= _) _ _ s
  refine wpAny_bind (dictGet_T (by show A.units + 1 + 64 < cLine; omega) hk hk8 ho hd e fun t => ?_)
  rw [hv]
  exact wpAny_pure ⟨u, rfl, wpAny_pure (h t)⟩
theorem setItem_T {Q : Unit → Shared → Prop} (hu : A.units + 65 < cLine) (hk : Rt s.heap key k) (hk8 : k.dp ≤ 8) (ho : s.heap.get? d = some o) (hc : o.ExactDict) (hd : o.data = .dict es ep) (e : Ents w s.heap es xs) (hsz : xs.length ≤ sizeLine)
    (hQ : ∀ (h' : Heap) (o' : Obj) (es' : Array DictEntry) (ep' t : Nat), Heap.SameBut d s.heap h' → h'.get? d = some o' → o'.ExactDict → o'.data = .dict es' ep' → es'.toList = (putV xs k key v).map (entT w) → Q () { s with heap := h', toks := t }) :
    wpAny (model prog w) A (setItem (.ref d) key v) Q E s := by
  have hT' : s.TypeIs (.ref d) "dict" := ⟨o, ho, hc.1⟩
  unfold setItem
  try with_reducible refine wpAny_holding ?_
  refine wpAny_bind (wpAny_sequenceKey hT' (by decide) ?_)
  refine wpAny_bind (wpAny_callSpecial?_slot (name := Str.ofString "__setitem__") hT' PySem.F.slot_dict_setitem (wpAny_call_entry PySem.F.slot_dict_setitem hT' PySem.F.entry_dict_setitem ?_ (PySem.F.args_dict_setitem_3 _ _ _)))
  show wpAny _ _ (Builtin.Dict.notOrdered "__setitem__" ⟨[.ref d, key, v], []⟩ >>= _) _ _ s
  refine wpAny_bind (wpAny_notOrdered_dict hT' ?_)
  show wpAny _ _ (dictSet d key v >>= _) _ _ s
  exact wpAny_bind (dictSet_T (by show A.units + 1 + 64 < cLine; omega) hk hk8 ho hc hd e hsz fun h' o' es' ep' t q1 q2 q3 q4 q5 => wpAny_pure ⟨.none, rfl, wpAny_pure (hQ h' o' es' ep' t q1 q2 q3 q4 q5)⟩)
end

/-! ### terms in the abstract heap -/
inductive Tm (H : Hp) : V → T → Prop where
  | nm {x : Str} (h : okN x) : Tm H (.str x) (.nm x)
  | pr {a : Addr} {u v : V} {l r : T} (e : H a = some (.tup [u, v])) (h1 : Tm H u l) (h2 : Tm H v r) : Tm H (.ref a) (.pr l r)
theorem Tm.ok {H : Hp} {v : V} {t : T} (h : Tm H v t) : t.ok := by
  induction h with
  | nm h => exact h
  | pr _ _ _ h1 h2 => exact ⟨h1, h2⟩
theorem Tm.keep {H H' : Hp} {v : V} {t : T} (k : ∀ b ys, H b = some (.tup ys) → H' b = some (.tup ys)) (h : Tm H v t) : Tm H' v t := by
  induction h with
  | nm h => exact .nm h
  | pr e _ _ h1 h2 => exact .pr (k _ _ e) h1 h2
theorem Tm.same {H H' : Hp} {v : V} {t : T} (k : Same H H') (h : Tm H v t) : Tm H' v t := h.keep fun b ys e => k b _ e
theorem Tm.inj {H : Hp} {v : V} {t u : T} (h : Tm H v t) (k : Tm H v u) : t = u := by
  induction h generalizing u with
  | nm h => cases k; rfl
  | pr e _ _ h1 h2 =>
    cases k with
    | pr e' k1 k2 =>
      rw [e] at e'
      injection e' with e'
      injection e' with e'
      injection e' with e1 e2
      injection e2 with e2 _
      subst e1 e2
      rw [h1 k1, h2 k2]
theorem Tm.dat {K : PySem.W.Frag} {H : Hp} {v : V} {t : T} (h : Tm H v t) : Dp K H v (tD t) := by
  induction h with
  | nm h => exact .str _
  | pr e _ _ h1 h2 => exact .tup (.inl (.inl e)) (.cons h1 (.cons h2 .nil))
theorem Tm.rt {X : Cx} {pins : List (Addr × Obj)} {σ : L2.St} {H : Hp} {s : Shared} {v : V} {u : Value} {t : T} (I : Inv X pins σ H s) (h : Tm H v t) (r : RelV v u) : Rt s.heap u t := ⟨h.ok, Dp.reads I (tD t) v u h.dat r⟩

/-! ### dicts keyed by terms -/
abbrev KT3 := T × V × V
def RK (p : KT3) (x : TE3) : Prop := p.1 = x.1 ∧ RelV p.2.1 x.2.1 ∧ RelV p.2.2 x.2.2
def TDf (w : World) (D : Addr) (kvs : List KT3) (h : Heap) : Prop := (D == sysModules) = false ∧ kvs.length ≤ sizeLine ∧ ∃ xs : List TE3, Paired RK kvs xs ∧ ∃ o es ep, h.get? D = some o ∧ o.ExactDict ∧ o.data = .dict es ep ∧ es.toList = xs.map (entT w)
/-- at D a dict of these entries -/
def TD (w : World) (D : Addr) (kvs : List KT3) : HO := .ext (TDf w D kvs)
/-- its keys are terms, none twice -/
structure Keys (H : Hp) (kvs : List KT3) : Prop where
  tm : ∀ p ∈ kvs, Tm H p.2.1 p.1 ∧ p.1.dp ≤ 8
  nd : (kvs.map (·.1)).Nodup
def valT (kvs : List KT3) (k : T) : Option V := (kvs.find? fun p => decide (p.1 = k)).map (·.2.2)
def putT (kvs : List KT3) (k : T) (y v : V) : List KT3 := if kvs.any (fun p => decide (p.1 = k)) then kvs.map (fun p => if p.1 = k then (p.1, p.2.1, v) else p) else kvs ++ [(k, y, v)]
theorem Keys.nil {H : Hp} : Keys H [] := ⟨fun _ h => (nomatch h), List.nodup_nil⟩
theorem Keys.keep {H H' : Hp} {kvs : List KT3} (k : Keys H kvs) (h : ∀ b ys, H b = some (.tup ys) → H' b = some (.tup ys)) : Keys H' kvs := ⟨fun p hp => ⟨(k.tm p hp).1.keep h, (k.tm p hp).2⟩, k.nd⟩
theorem putT_keys (kvs : List KT3) (k : T) (y v : V) : (putT kvs k y v).map (·.1) = if kvs.any (fun p => decide (p.1 = k)) then kvs.map (·.1) else kvs.map (·.1) ++ [k] := by
  unfold putT
  split
  · rw [List.map_map]
    refine List.map_congr_left fun p _ => ?_
    show (if p.1 = k then (p.1, p.2.1, v) else p).1 = p.1
    split <;> rfl
  · rw [List.map_append]
    rfl
theorem putT_length (kvs : List KT3) (k : T) (y v : V) : (putT kvs k y v).length ≤ kvs.length + 1 := by
  unfold putT
  split
  · rw [List.length_map]
    omega
  · rw [List.length_append]
    exact Nat.le_refl _
theorem Keys.put {H : Hp} {kvs : List KT3} (c : Keys H kvs) {k : T} {y : V} (hy : Tm H y k) (h8 : k.dp ≤ 8) (v : V) : Keys H (putT kvs k y v) := by
  constructor
  · intro p hp
    unfold putT at hp
    split at hp
    · obtain ⟨q, hq, rfl⟩ := List.mem_map.mp hp
      have := c.tm q hq
      split
      · exact this
      · exact this
    · rcases List.mem_append.mp hp with hp | hp
      · exact c.tm p hp
      · rw [List.mem_singleton.mp hp]
        exact ⟨hy, h8⟩
  · rw [putT_keys]
    split
    · exact c.nd
    · rename_i hn
      rw [List.nodup_append]
      refine ⟨c.nd, List.nodup_cons.mpr ⟨fun z => (nomatch z), List.nodup_nil⟩, fun a ha b hb => ?_⟩
      obtain rfl := List.mem_singleton.mp hb
      rintro rfl
      obtain ⟨p, hp, e⟩ := List.mem_map.mp ha
      exact hn (List.any_eq_true.mpr ⟨p, hp, decide_eq_true e⟩)
theorem RK.repl {k : T} {v : V} {u : Value} (rv : RelV v u) : ∀ {kvs : List KT3} {xs : List TE3}, Paired RK kvs xs →
    Paired RK (kvs.map (fun p => if p.1 = k then (p.1, p.2.1, v) else p)) (xs.map (fun x => if x.1 = k then (x.1, x.2.1, u) else x))
  | _, _, .nil => .nil
  | p :: kvs, x :: xs, .cons r t => by
    refine .cons ?_ (RK.repl rv t)
    obtain ⟨r1, r2, r3⟩ := r
    show RK (if p.1 = k then (p.1, p.2.1, v) else p) (if x.1 = k then (x.1, x.2.1, u) else x)
    by_cases e : p.1 = k
    · rw [if_pos e, if_pos (r1 ▸ e)]
      exact ⟨r1, r2, rv⟩
    · rw [if_neg e, if_neg (r1 ▸ e)]
      exact ⟨r1, r2, r3⟩
theorem RK.put : ∀ {kvs : List KT3} {xs : List TE3}, Paired RK kvs xs → ∀ (k : T) {y v : V} {key u : Value}, RelV y key → RelV v u → Paired RK (putT kvs k y v) (putV xs k key u) := by
  intro kvs xs h k y v key u ry rv
  have hany : kvs.any (fun p => decide (p.1 = k)) = xs.any (fun p => decide (p.1 = k)) := by
    induction h with
    | nil => rfl
    | cons r _ ih => rw [List.any_cons, List.any_cons, ih, r.1]
  unfold putT putV
  rw [hany]
  split
  · exact RK.repl rv h
  · exact Paired.snoc h ⟨rfl, ry, rv⟩
theorem RK.val : ∀ {kvs : List KT3} {xs : List TE3}, Paired RK kvs xs → ∀ {k : T} {v : V}, valT kvs k = some v → ∃ u, atT xs k = some u ∧ RelV v u
  | _, _, .nil, k, v, e => by simp [valT] at e
  | p :: kvs, x :: xs, .cons r t, k, v, e => by
    by_cases q : p.1 = k
    · have e' : p.2.2 = v := by
        unfold valT at e
        rw [List.find?_cons, decide_eq_true q] at e
        exact Option.some.inj e
      refine ⟨x.2.2, ?_, e' ▸ r.2.2⟩
      unfold atT
      rw [List.find?_cons, decide_eq_true (r.1 ▸ q)]
      rfl
    · have e' : valT kvs k = some v := by
        unfold valT at e
        rw [List.find?_cons, decide_eq_false q] at e
        exact e
      obtain ⟨u, h1, h2⟩ := RK.val t e'
      refine ⟨u, ?_, h2⟩
      unfold atT
      rw [List.find?_cons, decide_eq_false (r.1 ▸ q)]
      exact h1
theorem RK.mem : ∀ {kvs : List KT3} {xs : List TE3}, Paired RK kvs xs → ∀ x ∈ xs, ∃ p ∈ kvs, RK p x
  | _, _, .cons r t, x, hx => by
    rcases List.mem_cons.mp hx with rfl | hx
    · exact ⟨_, List.mem_cons_self, r⟩
    · obtain ⟨p, hp, q⟩ := RK.mem t x hx
      exact ⟨p, List.mem_cons_of_mem _ hp, q⟩
theorem RK.keys : ∀ {kvs : List KT3} {xs : List TE3}, Paired RK kvs xs → kvs.map (·.1) = xs.map (·.1)
  | _, _, .nil => rfl
  | _, _, .cons r t => by rw [List.map_cons, List.map_cons, RK.keys t, r.1]

section
variable {X : Cx} {pins : List (Addr × Obj)} {σ : L2.St} {H : Hp} {s : Shared} {D : Addr} {kvs : List KT3} {k : T} {y v : V}
theorem td_ents {xs : List TE3} {es : Array DictEntry} (I : Inv X pins σ H s) (c : Keys H kvs) (r : Paired RK kvs xs) (e : es.toList = xs.map (entT X.w)) : Ents X.w s.heap es xs := by
  refine ⟨e, fun x hx => ?_, by rw [← RK.keys r]; exact c.nd⟩
  obtain ⟨p, hp, q1, q2, _⟩ := RK.mem r x hx
  obtain ⟨h1, h2⟩ := c.tm p hp
  rw [← q1]
  exact ⟨h1.rt I q2, h2⟩
theorem td_of (I : Inv X pins σ H s) (h : H D = some (TD X.w D kvs)) : TDf X.w D kvs s.heap := (I.hok D _ h).1
theorem td_ok {w : World} {P : Program} {H : Hp} {h : Heap} {D : Addr} {kvs : List KT3} (q : TDf w D kvs h) : ObjOk P w H h D (TD w D kvs) := by
  refine ⟨q, ?_, ?_⟩
  · obtain ⟨_, _, _, _, o, _, _, e, _⟩ := q
    exact ⟨o, e⟩
  · rintro h1 h2 ⟨z1, z2, xs, r, o, es, ep, e, rest⟩ hk
    exact ⟨z1, z2, xs, r, o, es, ep, hk o e, rest⟩
/-- d[k] -/
def rIxTD (w : World) : R2 := fun x y H Q => ∃ (D : Addr) (kvs : List KT3) (k : T) (v : V), x = .ref D ∧ H D = some (TD w D kvs) ∧ Keys H kvs ∧ Tm H y k ∧ k.dp ≤ 8 ∧ valT kvs k = some v ∧ Q v H
theorem ix_td (hu : X.A.units + 65 < cLine) : IxR X (rIxTD X.w) := by
  intro value slice pins s σ H x y v u Q I rx ry h hs
  obtain ⟨D, kvs, k, z, rfl, hD, c, hy, h8, hv, q⟩ := h
  cases rx
  obtain ⟨z1, z2, xs, r, o, es, ep, e1, e2, e3, e4⟩ := td_of I hD
  obtain ⟨b, hb, rb⟩ := RK.val r hv
  have hT' : s.TypeIs (.ref D) "dict" := ⟨o, e1, e2.1⟩
  unfold subscriptTail
  refine wpAny_bind ?_
  rw [getitemInPython_of_ne hT'.not_modules]
  refine wpAny_bind (wpAny_specialOf hT' PySem.F.slot_dict_getitem.lookup ?_)
  have fin : wpAny (model X.prog X.w) X.A (subscripted slice false (.ref D) u) (fun r s₃ => wpAny (model X.prog X.w) X.A (letTemporaryGo value (.ref D) r >>= fun _ => pure r) (EP X pins σ Q) X.xe s₃) X.xe s := by
    rw [hs]
    exact wpAny_operating (getItem_T hu (hy.rt I ry) h8 e1 e2 e3 (td_ents I c r e4) hb fun t => wpAny_bind (wpAny_letTemporaryGo (wpAny_pure ⟨z, H, I.tok t, rb, q⟩)))
  first
    | exact wpAny_pure (wpAny_bind fin)
    | exact wpAny_bind (wpAny_pure (wpAny_bind fin))
    | exact wpAny_bind fin
/-- behind a store -/
theorem td_put {h' : Heap} {o' : Obj} {es' : Array DictEntry} {ep' t : Nat} {xs : List TE3} {key u : Value} (I : Inv X pins σ H s) (hD : H D = some (TD X.w D kvs)) (r : Paired RK kvs xs) (hl : kvs.length < sizeLine) (ry : RelV y key) (rv : RelV v u)
    (hs : Heap.SameBut D s.heap h') (e1 : h'.get? D = some o') (e2 : o'.ExactDict) (e3 : o'.data = .dict es' ep') (e4 : es'.toList = (putV xs k key u).map (entT X.w)) :
    Inv X pins σ (upd H D (TD X.w D (putT kvs k y v))) { s with heap := h', toks := t } := by
  obtain ⟨z1, _⟩ := td_of I hD
  refine I.write (e := D) (by rw [hD]; exact True.intro) (.inl rfl) (fun b ob hb q => (hs.2 b hb).trans q) ⟨_, e1⟩ (td_ok ⟨z1, ?_, _, RK.put r k ry rv, o', es', ep', e1, e2, e3, e4⟩)
  have := putT_length kvs k y v
  omega
/-- d[k] = v -/
def rSetTD (w : World) : TSet := fun x y v H Q => ∃ (D : Addr) (kvs : List KT3) (k : T), x = .ref D ∧ H D = some (TD w D kvs) ∧ Keys H kvs ∧ kvs.length < sizeLine ∧ Tm H y k ∧ k.dp ≤ 8 ∧ Q (upd H D (TD w D (putT kvs k y v)))
theorem set_td (hu : X.A.units + 65 < cLine) : PSet X (rSetTD X.w) := by
  intro pins s σ H x y v ov iv u Q I rx ry rv h
  obtain ⟨D, kvs, k, rfl, hD, c, hl, hy, h8, q⟩ := h
  cases rx
  obtain ⟨z1, z2, xs, r, o, es, ep, e1, e2, e3, e4⟩ := td_of I hD
  have hz : xs.length ≤ sizeLine := by rw [← Paired.length r]; exact z2
  exact setItem_T hu (hy.rt I ry) h8 e1 e2 e3 (td_ents I c r e4) hz fun h' o' es' ep' t q1 q2 q3 q4 q5 => ⟨_, td_put I hD r hl ry rv q1 q2 q3 q4 q5, q⟩
/-- {} whose keys will be terms -/
def tDNewTD (w : World) : TE := fun _ H Q => ∀ p, H p = none → Q (.ref p) (upd H p (TD w p []))
theorem td_empty {P : Program} {w : World} {H : Hp} (h : Heap) (hb : sysModules < h.objs.size) : ObjOk P w H (h.push { cls := .type "dict", data := .dict #[] }) h.objs.size (TD w h.objs.size []) :=
  td_ok ⟨beq_eq_false_iff_ne.mpr (Ne.symm (Nat.ne_of_lt hb)), Nat.zero_le _, [], .nil, _, #[], 0, Heap.get?_push_size _ rfl, ⟨rfl, rfl, rfl⟩, rfl, rfl⟩
theorem pe_dnewTD {pos : Pos} : PE X (.Dict [] [] pos) (tDNewTD X.w) := ⟨fun pins s σ H Q I h =>
  wpAny_Dict_empty ⟨.ref s.heap.objs.size, _, I.laid (a := s.heap.objs.size) (o := TD X.w s.heap.objs.size []) (t' := s.toks) (fun _ _ q => Heap.get?_push_of_some _ q) (Nat.le_refl _) (td_empty s.heap I.big), rfl, h _ (I.hok.fresh (Nat.le_refl _))⟩⟩
end
end TP
/-! R3: walking such a dict; sorted(.., key=def). -/
namespace TP
open PySem PySem.Spec PyProof.Rows L2

/-! ### a dict's keys by its entries -/
section
variable {prog : Program} {w : World} {A : Around} {d : Addr} {es : Array DictEntry} {ep : Nat}
abbrev Ent (es : Array DictEntry) : Nat → Value → Prop := fun i v => ∃ en, es[i]? = some en ∧ v = en.key
theorem walks_raw (hh : A.handled = none) (I d : Addr) (hne : d ≠ I) : Walks prog w A I [I, d] [I] es.size (Ent es) (fun i h => h.IsKeyIter I d i es.size ep ∧ DT.Raw h d es ep) where
  sub := fun b hb => by
    simp at hb
    simp [hb]
  frame := fun _ _ _ st hk => ⟨st.1.at fun o e => hk I (by simp) o e, st.2.at' fun o e => hk d (by simp) o e⟩
  item := fun i s Q E hi st hQ => by
    obtain ⟨o, ho, hx, hd⟩ := id st.2
    refine next_key_item st.1 ho hd rfl (Array.getElem?_eq_getElem hi) fun h' hit hs => ?_
    exact hQ _ h' s.toks ⟨_, Array.getElem?_eq_getElem hi, rfl⟩ ⟨hit, st.2.at' fun o e => (hs.2 d hne).trans e⟩ fun b o hb e => (hs.2 b fun q => hb (by simp [q])).trans e
  done := fun s Q E st hQ => by
    obtain ⟨o, ho, hx, hd⟩ := id st.2
    exact next_key_end hh st.1 ho hd rfl (Nat.le_refl _) fun h' he => hQ h' s.toks fun b o hb e => he b o (fun q => hb (by simp [q])) e
  self := fun _ _ _ _ st hQ => wpAny_pyIter_keyiter st.1 hQ
theorem src_raw (lo : (d == sysModules) = false) : PySem.W.KdlSrc prog w "dict" d d es.size (Ent es) (fun h => DT.Raw h d es ep) where
  type := fun _ hm => hm.typeIs
  there := fun _ hm => ⟨hm.lt, hm.lt⟩
  keep := fun _ _ hm hk => hm.at' fun o e => hk d (.inl rfl) o e
  notList := by decide
  notTuple := by decide
  hint := fun _ _ _ _ hm hq => PySem.W.kdl_hint_dict hm.typeIs hq
  iter := fun _ s hh hm => ⟨_, _, fun _ _ hq => by
      obtain ⟨o, ho, hx, hd⟩ := id hm
      exact iter_keys lo ho hx hd hq, walks_raw hh _ d (Nat.ne_of_lt hm.lt), ⟨⟨_, Heap.get?_push_size _ rfl, rfl, rfl⟩, hm.push _⟩⟩
end

/-- the keys of the locked dict at D, in their order -/
def ItTD (w : World) (D : Addr) (o : Obj) (kvs : List KT3) : It :=
  ⟨fun i H => H D = some (.frz o (TD w D kvs)) ∧ i < kvs.length, fun i H x H' => H' = H ∧ ∃ k v, kvs[i]? = some (k, x, v), fun i H => H D = some (.frz o (TD w D kvs)) ∧ kvs.length ≤ i⟩
section
variable {P : Program} {w : World} {K : PySem.W.Frag} {tg : Expr} {D : Addr} {o : Obj} {kvs : List KT3} {es : Array DictEntry} {ep : Nat}
theorem frz_td {X : Cx} {pins : List (Addr × Obj)} {σ : L2.St} {H : Hp} {s : Shared} (I : Inv X pins σ H s) (h : H D = some (.frz o (TD X.w D kvs))) :
    (D == sysModules) = false ∧ s.heap.get? D = some o ∧ o.ExactDict ∧ ∃ (es : Array DictEntry) (ep : Nat), o.data = .dict es ep ∧ es.size = kvs.length ∧
      ∀ (i : Nat) (k : T) (x v : V), kvs[i]? = some (k, x, v) → ∃ en, es[i]? = some en ∧ RelV x en.key := by
  obtain ⟨hd, ⟨lo, z, xs, r, o', es, ep, ho, hx, hdt, he⟩, _⟩ := I.hok D _ h
  rw [hd] at ho
  cases ho
  refine ⟨lo, hd, hx, es, ep, hdt, ?_, fun i k x v e => ?_⟩
  · have l1 : es.size = xs.length := by rw [← Array.length_toList, he, List.length_map]
    have l2 := Paired.length r
    omega
  · obtain ⟨b, hb, q⟩ := paired_get r e
    refine ⟨entT X.w b, ?_, q.2.1⟩
    rw [← Array.getElem?_toList, he, List.getElem?_map, hb]
    rfl
theorem turn_td (it : Addr) (hod : o.data = .dict es ep) : Turn P w K tg (ItTD w D o kvs) [it] it (fun i h => h.IsKeyIter it D i kvs.length ep) where
  mem := by simp
  obj := fun i h st b hb => by
    obtain rfl : b = it := by simpa using hb
    obtain ⟨oi, e, c, dd⟩ := st
    exact ⟨oi, e, fun v z => by rw [dd] at z; cases z⟩
  keep := fun i h h' st k => st.at fun oi e => k it (by simp) oi e
  item := by
    intro X hP hw hK hc i pins s σ H E I hf st hg
    subst hP hw hK
    obtain ⟨hd, hi⟩ := hg
    obtain ⟨f0, f1, f2, f3, f4, f5⟩ := hf it (by simp)
    obtain ⟨lo, hgd, hx, es', ep', hdt, hsz, ent⟩ := frz_td I hd
    obtain ⟨rfl, rfl⟩ := dict_ep hod hdt
    obtain ⟨⟨k, x, v⟩, hkv⟩ : ∃ p, kvs[i]? = some p := ⟨kvs[i], List.getElem?_eq_getElem hi⟩
    obtain ⟨en, hen, hkey⟩ := ent i k x v hkv
    refine next_key_item st hgd hdt hsz hen fun h' st' sb => ?_
    have I1 : Inv X pins σ H { s with heap := h' } := I.turned (t' := s.toks) (fun b ob hb e => (sb.2 b hb).trans e) f0 f1 f3 f4 f5
    obtain ⟨oi, e, c, dd⟩ := id st'
    exact ⟨en.key, rfl, go_of (s := { s with heap := h' }) e c dd (by decide) ⟨x, H, I1, hkey, ⟨rfl, k, v, hkv⟩, st', fun b hb => (hf b hb).1⟩⟩
  done := by
    intro X hP hw hK hc i pins s σ H E I hf st hg
    subst hP hw hK
    obtain ⟨hd, hi⟩ := hg
    obtain ⟨f0, f1, f2, f3, f4, f5⟩ := hf it (by simp)
    obtain ⟨lo, hgd, hx, es', ep', hdt, hsz, ent⟩ := frz_td I hd
    obtain ⟨rfl, rfl⟩ := dict_ep hod hdt
    exact next_key_end (I.ok.hd hc) st hgd hdt hsz hi fun h' eb => ⟨rfl, I.turned (t' := s.toks) (fun b ob hb e => eb b ob hb e) f0 f1 f3 f4 f5⟩
  self := fun A i s Q E st h => wpAny_pyIter_keyiter st h
end
def iTD (w : World) (td : TE) : TI := fun σ H R => td σ H fun x H1 => ∃ D o kvs, x = .ref D ∧ H1 D = some (.frz o (TD w D kvs)) ∧ R (ItTD w D o kvs) H1
theorem pi_td {X : Cx} {tg e : Expr} {td : TE} (he : PE X e td) : PI X tg e (iTD X.w td) := by
  refine ⟨fun pins s σ H R I h => ?_⟩
  refine thn (he.run pins s σ H _ I h) fun u s1 ⟨x, H1, I1, rx, D, o, kvs, ex, hd, q⟩ => ?_
  subst ex
  obtain rfl : u = Value.ref D := rx
  obtain ⟨lo, hgd, hx, es, ep, hdt, hsz, ent⟩ := frz_td I1 hd
  refine iter_keys lo hgd hx hdt (pi_one (tk := s1.toks) I1 _ (turn_td _ hdt) ⟨_, Heap.get?_push_size _ rfl, rfl, ?_⟩ q)
  rw [hsz] <;> rfl
end TP
/-! R4: sorted(.., key=def): the items are terms, the key is (length of the text, the text). -/
namespace TP
open PySem PySem.Spec PyProof.Rows L2

def txS (t : T) : Str := ⟨t.tx.toArray⟩
abbrev It2 := V × T
def kD (b : It2) : PyData := .tuple [.int (b.2.tx.length : Nat), .str (txS b.2)]
theorem kD_alike (b b' : It2) : PySem.W.alike (kD b) (kD b') = true := by simp [kD, PySem.W.alike, PySem.W.alikeAll]
theorem kD_depth (b : It2) : (kD b).depth = 1 := by simp [kD, PyData.depth, PyData.depthAll]
/-- the key function's promise -/
def spKey : Sp := fun vs H Q _ => ∃ (x : V) (t : T), vs = [x] ∧ Tm H x t ∧ t.lv ≤ 200 ∧ t.dp ≤ 20 ∧
  ∀ (p : Addr) (H' : Hp), Same H H' → H p = none → H' p = some (.tup [.int (t.tx.length : Nat), .str (txS t)]) → Q (.ref p) H'

section
variable {X : Cx} {pins : List (Addr × Obj)} {σ : L2.St} {H : Hp} {s : Shared}
/-- the keys so far -/
def KeysAt (H : Hp) (ys : List V) (bs : List It2) : Prop := Paired (fun (y : V) (b : It2) => ∃ p, y = .ref p ∧ H p = some (.tup [.int (b.2.tx.length : Nat), .str (txS b.2)])) ys bs
theorem KeysAt.same {H H' : Hp} (k : Same H H') : ∀ {ys : List V} {bs : List It2}, KeysAt H ys bs → KeysAt H' ys bs
  | _, _, .nil => .nil
  | _, _, .cons ⟨p, e1, e2⟩ t => .cons ⟨p, e1, k _ _ e2⟩ (KeysAt.same k t)
theorem KeysAt.reads (I : Inv X pins σ H s) : ∀ {ys : List V} {bs : List It2} {us : List Value}, KeysAt H ys bs → Vals ys us → PySem.W.EachIs (fun v d => ∃ as, Reads s.heap v d as) us (bs.map kD)
  | _, _, _, .nil, .nil => .nil
  | _, b :: bs, _, .cons ⟨p, e1, e2⟩ t, .cons r rt => by
    refine .cons ?_ (KeysAt.reads I t rt)
    subst e1
    exact Dp.reads I (kD b) _ _ (.tup (.inl (.inl e2)) (.cons (.int _) (.cons (.str _) .nil))) r
theorem vals_each {R : Value → It2 → Prop} : ∀ {bs : List It2} {us : List Value}, Vals (bs.map (·.1)) us → PySem.W.EachIs (fun (u : Value) (b : It2) => RelV b.1 u) us bs
  | [], _, r => by
    cases r
    exact .nil
  | b :: bs, _, r => by
    have r' : Vals (b.1 :: bs.map (·.1)) _ := r
    cases r' with
    | cons h t => exact .cons h (vals_each (R := R) t)
theorem each_vals : ∀ {bs : List It2} {us : List Value}, PySem.W.EachIs (fun (u : Value) (b : It2) => RelV b.1 u) us bs → Vals (bs.map (·.1)) us
  | _, _, .nil => .nil
  | _, _, .cons h t => .cons h (each_vals t)

/-- an object of ours, so far not tracked, is tracked from now on -/
theorem adopt {a : Addr} {o : HO} (I : Inv X pins σ H s) (hf : FpOk X pins H a) (new : ObjOk X.prog X.w (upd H a o) s.heap a o) : Inv X pins σ (upd H a o) s := by
  obtain ⟨f0, f1, f2, f3, f4, f5⟩ := hf
  have ne : ∀ b u, H b = some u → b ≠ a := fun b u e => ne_of_none e f0
  have q := I.step (H' := upd H a o) (h' := s.heap) (g' := s.gens) (d' := s.drawn) (t' := s.toks) (ch := [a]) (fun b hb => by
      obtain rfl := List.mem_singleton.mp hb
      exact ⟨f3, f1, f4, f5⟩)
    (fun b u _ _ _ e _ => e) (fun b u _ _ _ e _ => ⟨u.slots, e⟩) (fun b u hb _ n => by
      rw [upd_ne (fun z => hb (by rw [z]; exact List.mem_singleton.mpr rfl))]
      exact n)
    (fun b u _ e => ⟨u, e⟩) (fun b ys e => by rw [upd_ne (ne b _ e)]; exact e) (fun b u v e => by rw [upd_ne (ne b _ e)]; exact e) (fun b ps e => ⟨#[], by rw [upd_ne (ne b _ e), e]; simp⟩)
    (fun m hm => hm) (fun b u e => ?_) I.bare
  · exact q
  · by_cases hb : b = a
    · subst hb
      rw [upd_same] at e
      cases e
      exact new
    · rw [upd_ne hb] at e
      exact (I.hok b u e).stay (fun c v _ q => q) (fun c q => by rw [upd_ne (ne c _ q)]; exact q) fun c ys q => by rw [upd_ne (ne c _ q)]; exact q

/-- the pins for the list that is sorted and the store of the keys -/
def pin2 (pins : List (Addr × Obj)) (a kS : Addr) (la ls : Obj) : List (Addr × Obj) := pins ++ [(a, la), (kS, ls)]
theorem pin2_of {a kS : Addr} {la ls : Obj} (I : Inv X (pin2 pins a kS la ls) σ H s) : s.heap.get? a = some la ∧ s.heap.get? kS = some ls ∧ H a = none ∧ H kS = none := by
  have h1 := I.pin (a, la) (by simp [pin2])
  have h2 := I.pin (kS, ls) (by simp [pin2])
  exact ⟨h1.1, h2.1, h1.2.1, h2.2.1⟩

theorem sortKey_tree {k : Nat} {f : Addr} {fd : FuncData} {ps : List Str} {A' : Around} {a : Addr} {vs : List Value} {bs : List It2} {n : Nat} {P' : PySem.Fin → Shared → Prop} {E : Value → Shared → Prop}
    (F : FnOk X.prog X.w X.K X.mg X.base CX0 k f fd ps spKey) (hr : Room k A') (hA : ∀ (s : Shared) (H : Hp), Env0 X.prog X.w X.K X.mg X.base X.A X.stack s H → Env0 X.prog X.w X.K X.mg X.base A' X.stack s H) (hb : Binds X.K fd ps [])
    (I : Inv X pins σ H s) (ho : s.heap.get? a = some (seqObj "list" vs.toArray n)) (hf : FpOk X pins H a) (hv : Vals (bs.map (·.1)) vs) (ht : ∀ b ∈ bs, Tm H b.1 b.2 ∧ b.2.lv ≤ 200 ∧ b.2.dp ≤ 20) (hz : vs.length ≤ sizeLine)
    (h : ∀ H' h' tk g' d', Same H H' → H' a = none → Inv X pins σ (upd H' a (.lst ((bs.mergeSort (PySem.W.dataLe false kD)).map (·.1)))) { s with heap := h', toks := tk, gens := g', drawn := d' } → P' (.done (.ret .none)) { s with heap := h', toks := tk, gens := g', drawn := d' }) :
    wpAny (model X.prog X.w) A' (ksk_tree a (.ref f) false) P' E s := by
  have ha : a < s.heap.objs.size := Heap.lt_size ho
  have hlen : bs.length = vs.length := by
    have := hv.length
    rw [List.length_map] at this
    exact this
  obtain ⟨e1, ho1⟩ : ∃ e1, (s.heap.update a (Obj.mapSeq fun _ => (#[] : Array Value))).get? a = some (seqObj "list" #[] e1) := ⟨_, get?_update_seq ho fun _ => #[]⟩
  have hkS : ((s.heap.update a (Obj.mapSeq fun _ => (#[] : Array Value))).push (seqObj "tuple" vs.toArray 0)).objs.size = s.heap.objs.size + 1 := by rw [size_push', Heap.size_update]
  unfold ksk_tree
  refine wpAny_bind (listItems_at ho rfl ?_)
  refine wpAny_bind (listUpdate_at ho rfl ?_ (by rw [List.size_toArray]; exact hz) (Nat.zero_le _))
  refine wpAny_bind (seqEpoch_at ho1 rfl ?_)
  refine wpAny_bind (wpAny_newTuple ?_ (by show vs.length ≤ _; exact hz))
  refine wpAny_bind (wpAny_newList ?_ (Nat.zero_le _))
  refine wpAny_holding ?_
  generalize hkS' : ((s.heap.update a (Obj.mapSeq fun _ => (#[] : Array Value))).push (seqObj "tuple" vs.toArray 0)).objs.size = kS at hkS
  have hak : kS ≠ a := by
    rw [hkS]
    exact Nat.ne_of_gt (Nat.lt_succ_of_lt ha)
  -- the state at the loop's start
  obtain ⟨f0, f1, f2, f3, f4, f5⟩ := hf
  have J0 : Inv X (pin2 pins a kS (seqObj "list" #[] e1) (seqObj "list" #[] 0)) σ H { s with heap := ((s.heap.update a (Obj.mapSeq fun _ => (#[] : Array Value))).push (seqObj "tuple" vs.toArray 0)).push (seqObj "list" #[] 0) } := by
    have hs1 := Heap.SameBut.update s.heap a (Obj.mapSeq fun _ => (#[] : Array Value))
    have I1 : Inv X pins σ H { s with heap := s.heap.update a (Obj.mapSeq fun _ => (#[] : Array Value)) } := I.turned (t' := s.toks) (fun b o hb e => (hs1.2 b hb).trans e) f0 f1 f3 f4 f5
    have I2 : Inv X pins σ H { s with heap := ((s.heap.update a (Obj.mapSeq fun _ => (#[] : Array Value))).push (seqObj "tuple" vs.toArray 0)).push (seqObj "list" #[] 0) } :=
      I1.kept (t' := s.toks) fun b o e => Heap.get?_push_of_some _ (Heap.get?_push_of_some _ e)
    refine I2.pins_of fun p hp => ?_
    rcases List.mem_append.mp hp with hp | hp
    · exact I2.pin p (List.mem_append_right _ hp)
    · have hks : H kS = none := I.hok.fresh (by rw [hkS]; exact Nat.le_succ _)
      rcases List.mem_cons.mp hp with rfl | hp
      · exact ⟨Heap.get?_push_of_some _ (Heap.get?_push_of_some _ ho1), f0, f1, f2, fun v q => nomatch q⟩
      · obtain rfl := List.mem_singleton.mp hp
        refine ⟨by rw [← hkS']; exact Heap.get?_push_size _ rfl, hks, ?_, I.nofs (by rw [hkS]; exact Nat.le_succ _), fun v q => nomatch q⟩
        have hl := I.lt
        show kS ≠ _
        rw [hkS]
        exact Nat.ne_of_gt (Nat.lt_succ_of_lt hl)
  have fk : FpOk X pins H kS := I.fpOk (by rw [hkS]; exact Nat.le_succ _) (I.hok.fresh (by rw [hkS]; exact Nat.le_succ _))
  unfold ksk_rest
  refine wpAny_bind (wpAny_rule ?_)
  first
    | rw [List.forIn_toArray]
    | (rw [← Array.forIn_toList]; simp only [List.toList_toArray])
  refine wpAny_bind (ksk_fold (fun j s' => ∃ H' kA e ys, s'.os = s.os ∧ Inv X (pin2 pins a kS (seqObj "list" #[] e1) (seqObj "list" kA e)) σ H' s' ∧ Same H H' ∧ Vals ys kA.toList ∧ KeysAt H' ys (bs.take j)) vs 0 _
    ⟨H, #[], 0, [], rfl, J0, Same.refl _, .nil, by rw [List.take_zero]; exact .nil⟩ ?step ?done)
  case step =>
    rintro j u s' hx ⟨H', kA, e, ys, hos, J, sm, hy, hk⟩
    simp only [Nat.zero_add] at hk ⊢
    have hj : j < vs.length := (List.getElem?_eq_some_iff.mp hx).1
    obtain ⟨b, hbj⟩ : ∃ b, bs[j]? = some b := ⟨_, List.getElem?_eq_getElem (by omega)⟩
    have hru : RelV b.1 u := by
      have q : (bs.map (·.1))[j]? = some b.1 := by rw [List.getElem?_map, hbj]; rfl
      obtain ⟨u', e1, e2⟩ := hv.get q
      rw [hx] at e1
      cases e1
      exact e2
    obtain ⟨tb, lb, db⟩ := ht b (List.mem_of_getElem? hbj)
    have hkl : kA.size ≤ j := by
      have h1 : ys.length = kA.toList.length := hy.length
      have h2 : ys.length = (bs.take j).length := Paired.length hk
      have h3 : (bs.take j).length ≤ j := by
        rw [List.length_take]
        exact Nat.min_le_left _ _
      have h4 : kA.toList.length = kA.size := Array.length_toList
      omega
    have hcall : wpAny (model X.prog X.w) A' (PySem.call (.ref f) [u]) (EP X (pin2 pins a kS (seqObj "list" #[] e1) (seqObj "list" kA e)) σ
        (fun y H2 => ∃ p, y = .ref p ∧ Same H' H2 ∧ H2 p = some (.tup [.int (b.2.tx.length : Nat), .str (txS b.2)]))) (fun _ _ => False) s' := by
      refine wpAny_call (codeAny_mono (F.run A' X.stack s' H' ⟨[u], []⟩ [u] [b.1] (fun y H2 => ∃ p, y = .ref p ∧ Same H' H2 ∧ H2 p = some (.tup [.int (b.2.tx.length : Nat), .str (txS b.2)])) E0 hr (hA _ _ J.env0) ?_ (.cons hru .nil)
        ⟨b.1, b.2, rfl, tb.same sm, lb, db, fun p H2 q1 q2 q3 => ⟨p, rfl, q1, q3⟩⟩) fun r s'' hq => ?_)
      · have := hb s' [u] J.kIn (by
          rw [List.append_nil]
          exact F.len [b.1] H' (fun y H2 => True) E0 ⟨b.1, b.2, rfl, tb.same sm, lb, db, fun _ _ _ _ _ => True.intro⟩)
        rw [List.append_nil] at this
        exact this
      · cases r with
        | error e => exact hq.elim
        | ok fl =>
          cases fl with
          | ret u' => exact J.after hq
          | next => exact False.elim hq
          | brk => exact False.elim hq
          | cont => exact False.elim hq
    refine wpAny_bind (wpAny_attempt (wpAny_mono hcall (fun w' s'' he => ?_) fun _ _ q => q.elim))
    obtain ⟨y, H2, J2, rv, p, rfl, sm2, hp2⟩ := he
    try dsimp only
    obtain ⟨na, nk, na0, nk0⟩ := pin2_of J2
    have s1 := Heap.SameBut.update s''.heap kS (Obj.mapSeq (·.push w'))
    obtain ⟨c2, hc2⟩ : ∃ c2, (s''.heap.update kS (Obj.mapSeq (·.push w'))).get? kS = some (seqObj "list" (kA.push w') c2) := ⟨_, get?_update_seq nk (·.push w')⟩
    refine wpAny_bind (listUpdate_at nk rfl ?_ (by omega) (by rw [Array.size_push]; omega))
    have ek : bs.take (j + 1) = bs.take j ++ [b] := by rw [List.take_add_one, hbj]; simp
    have os2 : s''.os = s.os := by rw [J2.os, ← J.os, hos]
    refine wpAny_pure ⟨rfl, H2, kA.push w', c2, ys ++ [.ref p], os2, ?_, sm.trans sm2, by rw [Array.toList_push]; exact hy.append (.cons rv .nil), by rw [ek]; exact Paired.snoc (hk.same sm2) ⟨p, rfl, hp2⟩⟩
    have hkin : (kS, seqObj "list" kA e) ∈ X.pn ++ pin2 pins a kS (seqObj "list" #[] e1) (seqObj "list" kA e) := by simp [pin2]
    have hain : (a, seqObj "list" #[] e1) ∈ X.pn ++ pin2 pins a kS (seqObj "list" #[] e1) (seqObj "list" kA e) := by simp [pin2]
    obtain ⟨_, k1, k2, k3, k4⟩ := J2.pin _ hkin
    have J3 : Inv X (pins ++ [(a, seqObj "list" #[] e1)]) σ H2 { s'' with heap := s''.heap.update kS (Obj.mapSeq (·.push w')) } := by
      have J3' : Inv X (pins ++ [(a, seqObj "list" #[] e1)]) σ H2 s'' := J2.pins_of fun q hq => J2.pin q (List.mem_append_right _ (by
        rcases List.mem_append.mp hq with hq | hq
        · exact List.mem_append_left _ hq
        · exact List.mem_append_right _ (by rw [List.mem_singleton.mp hq]; exact List.mem_cons_self)))
      refine J3'.turned (t' := s''.toks) (fun b o hb e => (s1.2 b hb).trans e) k1 k2 fk.2.2.2.1 fk.2.2.2.2.1 fun q hq => ?_
      rcases List.mem_append.mp hq with hq | hq
      · exact fk.2.2.2.2.2 q (List.mem_append_left _ hq)
      · rcases List.mem_append.mp hq with hq | hq
        · exact fk.2.2.2.2.2 q (List.mem_append_right _ hq)
        · rw [List.mem_singleton.mp hq]
          exact hak.symm
    refine J3.pins_of fun q hq => ?_
    rcases List.mem_append.mp hq with hq | hq
    · exact J3.pin q (List.mem_append_right _ (List.mem_append_left _ hq))
    · rcases List.mem_cons.mp hq with rfl | hq
      · exact J3.pin _ (List.mem_append_right _ (List.mem_append_right _ (List.mem_singleton.mpr rfl)))
      · obtain rfl := List.mem_singleton.mp hq
        exact ⟨hc2, k1, k2, k3, fun v q => nomatch q⟩
  case done =>
    rintro s' ⟨H', kA, e, ys, hos, J, sm, hy, hk⟩
    obtain ⟨na, nk, na0, nk0⟩ := pin2_of J
    have hkin : (kS, seqObj "list" kA e) ∈ X.pn ++ pin2 pins a kS (seqObj "list" #[] e1) (seqObj "list" kA e) := by simp [pin2]
    have hain : (a, seqObj "list" #[] e1) ∈ X.pn ++ pin2 pins a kS (seqObj "list" #[] e1) (seqObj "list" kA e) := by simp [pin2]
    have ebs : bs.take (0 + vs.length) = bs := List.take_of_length_le (by omega)
    rw [ebs] at hk
    have hrd := hk.reads J hy
    have hsz : kA.size = vs.length := by
      have h1 : ys.length = kA.toList.length := hy.length
      have h2 : ys.length = bs.length := Paired.length hk
      have h4 : kA.toList.length = kA.size := Array.length_toList
      omega
    have hal : PySem.W.AllAlike (bs.map kD) := .of kD_alike
    try dsimp only
    refine wpAny_bind (listItems_at nk rfl ?_)
    refine PySem.W.keyH_end (κ := PySem.W.dataKind s'.heap (bs.map kD)) (h₁ := PySem.W.hideAll s'.heap [kS]) (fun b o _ e => PySem.W.of_hideAll [kS] e) (PySem.W.hideAll_none [kS] (List.mem_singleton.mpr rfl)) nk na hak
      (.data hrd hal (.tuples fun b => ⟨_, _, rfl⟩) (PySem.W.bound_map fun b _ => by rw [kD_depth]; have := hr.un; omega)) hsz hz fun h' tk c kp hD => ?_
    have hout : PySem.W.EachIs (fun (u : Value) (b : It2) => RelV b.1 u) (PySem.W.sortVals (PySem.W.dataKind s'.heap (bs.map kD)) false kA.toList vs) (bs.mergeSort (PySem.W.dataLe false kD)) :=
      PySem.W.keyedOut_each kD ⟨s'.heap, kA.toList, hal, rfl, hrd⟩ (vals_each (R := fun _ _ => True) hv)
    have fa' : FpOk X pins H' a := ⟨na0, f1, f2, f3, f4, f5⟩
    have fk' : FpOk X pins H' kS := ⟨nk0, fk.2⟩
    have J4 : Inv X pins σ H' s' := J.pins_of fun q hq => J.pin q (List.mem_append_right _ (List.mem_append_left _ hq))
    have J5 : Inv X pins σ H' { s' with heap := h', toks := tk } := J4.turnedL (t' := tk) (ch := [a, kS]) (fun b o hb e => kp b o (fun q => hb (by simp [q])) (PySem.W.hideAll_get [kS] e (fun q => hb (by simp at q; simp [q])))) fun b hb => by
      rcases List.mem_cons.mp hb with rfl | hb
      · exact fa'
      · rw [List.mem_singleton.mp hb]
        exact fk'
    have J6 := adopt (o := .lst ((bs.mergeSort (PySem.W.dataLe false kD)).map (·.1))) J5 fa' ⟨by rw [List.length_map, List.length_mergeSort]; omega, _, c, each_vals hout, hD⟩
    obtain ⟨h0', g0', d0', t0', o0'⟩ := s'
    have eo : o0' = s.os := hos
    subst eo
    exact h H' h' tk g0' d0' sm na0 J6
end
end TP
/-! R5: the call sorted(src, key=def), src a list of terms or a dict keyed by terms. -/
namespace TP
open PySem PySem.Spec PyProof.Rows L2
section
variable {X : Cx} {pins : List (Addr × Obj)} {σ : L2.St} {H : Hp} {s : Shared}
/-- the items come into one new list, then they are sorted -/
theorem sortedKey_any {k : Nat} {f l : Addr} {fd : FuncData} {ps : List Str} {bs : List It2} {Q : VK}
    (F : FnOk X.prog X.w X.K X.mg X.base CX0 k f fd ps spKey) (hr : Room (k + 2) X.A) (hb : Binds X.K fd ps [])
    (I : Inv X pins σ H s) (ht : ∀ b ∈ bs, Tm H b.1 b.2 ∧ b.2.lv ≤ 200 ∧ b.2.dp ≤ 20) (hz : bs.length ≤ sizeLine)
    (hcol : ∀ (E : Value → Shared → Prop) (R : List Value → Shared → Prop), (∀ (h' : Heap) (tk : Nat) (vs : List Value), (∀ b o, s.heap.get? b = some o → h'.get? b = some o) → Vals (bs.map (·.1)) vs → R vs { s with heap := h', toks := tk }) → wpAny (model X.prog X.w) X.A.in1 (collect (.ref l)) R E s)
    (q : ∀ (p : Addr) (H' : Hp), Same H H' → H p = none → H' p = some (.lst ((bs.mergeSort (PySem.W.dataLe false kD)).map (·.1))) → Q (.ref p) H') :
    wpAny (model X.prog X.w) X.A (PySem.call (.builtin "sorted") [.ref l] [(Str.ofString "key", .ref f)]) (EP X pins σ Q) X.xe s := by
  refine call_function_entry_kw kind_sorted plain_sorted entry_sorted (ksk_s1 _ _) ?_
  unfold Builtin.«sorted»
  refine wpAny_bind (m := checkCount "sorted" 1 1 _) (wpAny_pure ?_)
  refine wpAny_bind (hcol _ _ fun h1 tk vs kp hv => ?_)
  have hvl : vs.length = bs.length := by
    have := hv.length
    rw [List.length_map] at this
    exact this.symm
  have I1 : Inv X pins σ H { s with heap := h1, toks := tk } := I.kept kp
  refine wpAny_bind (wpAny_newList ?_ (by rw [hvl]; exact hz))
  have hoL : (h1.push (seqObj "list" vs.toArray 0)).get? h1.objs.size = some (seqObj "list" vs.toArray 0) := Heap.get?_push_size _ rfl
  show wpAny _ _ _ _ _ { s with heap := h1.push (seqObj "list" vs.toArray 0), toks := tk }
  have I2 : Inv X pins σ H { s with heap := h1.push (seqObj "list" vs.toArray 0), toks := tk } := I1.kept (t' := tk) fun b o e => Heap.get?_push_of_some _ e
  have fa : FpOk X pins H h1.objs.size := I1.fpOk (Nat.le_refl _) (I1.hok.fresh (Nat.le_refl _))
  refine wpAny_bind (wpAny_holding (wpAny_call_entry_kw slot_list_sort ⟨_, hoL, rfl⟩ entry_list_sort ?_ (ksk_l1 _ _)))
  rw [ksk_t1]
  refine sortKey_tree (A' := X.A.in1.in1) (s := { s with heap := h1.push (seqObj "list" vs.toArray 0), toks := tk }) F hr.in1.in1 (fun s H e => e.in1.in1) hb I2 hoL fa hv ht (by rw [hvl]; exact hz) fun H' h' tk' g' d' sm na I3 => ⟨_, rfl, ?_⟩
  exact wpAny_pure ⟨_, rfl, .ref h1.objs.size, _, I3, rfl, q _ _ (fun b o e => by rw [upd_ne (ne_of_none (sm _ _ e) na)]; exact sm _ _ e) fa.1 upd_same⟩
/-- what sorted(src, key=place) asks -/
def rSortK (K : PySem.W.Frag) (w : World) (f : Addr) : List V → List V → Hp → VK → Prop := fun vs zs H Q => ∃ (l : Addr) (bs : List It2), vs = [.ref l] ∧ zs = [.ref f] ∧
  (SqL K H l (bs.map (·.1)) ∨ ∃ kvs : List KT3, H l = some (TD w l kvs) ∧ bs = kvs.map fun p => (p.2.1, p.1)) ∧ (∀ b ∈ bs, Tm H b.1 b.2 ∧ b.2.lv ≤ 200 ∧ b.2.dp ≤ 20) ∧
  ∀ (p : Addr) (H' : Hp), Same H H' → H p = none → H' p = some (.lst ((bs.mergeSort (PySem.W.dataLe false kD)).map (·.1))) → Q (.ref p) H'
theorem cr_sortK (hcalm : X.calm = true) {k : Nat} {f : Addr} {fd : FuncData} {ps : List Str} (F : FnOk X.prog X.w X.K X.mg X.base CX0 k f fd ps spKey) (hr : Room (k + 2) X.A) (hb : Binds X.K fd ps []) :
    CallRK X (.builtin "sorted") [Str.ofString "key"] (rSortK X.K X.w f) := by
  intro pins s σ H vs zs us ws Q I r rz h
  obtain ⟨l, bs, rfl, rfl, hsrc, ht, q⟩ := h
  obtain rfl := Vals.ref1 r
  obtain ⟨w1, rfl, e1⟩ := vals1 rz
  obtain rfl : w1 = Value.ref f := e1
  rcases hsrc with hs | ⟨kvs, hD, rfl⟩
  · obtain ⟨its, rv, hl, hz⟩ := I.list hs
    have hl' : bs.length = its.length := by
      have := rv.length
      rw [List.length_map] at this
      exact this
    rw [List.length_map] at hz
    exact sortedKey_any F hr hb I ht hz (fun E R hR => collect_list hl.isList (hR _ _ its (fun b o e => by first | exact PyProof.Rows.copyHeap_old e | (rw [Heap.get?_update_ne _ _ _ _ (Nat.ne_of_lt (Heap.lt_size e))]; exact Heap.get?_push_of_some _ e)) rv) (by rw [← hl']; exact hz)) q
  · obtain ⟨lo, z, xs, rk, o, es, ep, ho, hx, hdt, he⟩ := td_of I hD
    have hxl : xs.length = kvs.length := (Paired.length rk).symm
    have hel : es.size = kvs.length := by rw [← hxl, ← Array.length_toList, he, List.length_map]
    refine sortedKey_any F hr hb I ht (by rw [List.length_map]; exact z) (fun E R hR => ?_) q
    refine PySem.W.kdu_collect (A := X.A.in1) (src_raw (es := es) (ep := ep) lo) (I.ok.hd hcalm) ⟨o, ho, hx, hdt⟩ (by rw [hel]; exact z) fun h' tk acc kp hacc => hR h' tk acc.toList kp ?_
    rw [List.map_map]
    -- the values at the keys' places
    have hat : ∀ (j : Nat) (v : Value), acc.toList[j]? = some v → ∃ x, xs[j]? = some x ∧ v = x.2.1 := by
      intro j v hj
      obtain ⟨en, e1, rfl⟩ := hacc.2 j v (by rw [← Array.getElem?_toList]; exact hj)
      rw [← Array.getElem?_toList, he, List.getElem?_map] at e1
      cases hxj : xs[j]? with
      | none => rw [hxj] at e1; cases e1
      | some x =>
        rw [hxj] at e1
        have : entT X.w x = en := Option.some.inj e1
        rw [← this]
        exact ⟨x, rfl, rfl⟩
    have hlen : acc.toList.length = xs.length := by rw [Array.length_toList, hacc.1, hel, hxl]
    clear he hR hacc hD ht z hel hxl kp q
    generalize acc.toList = as at hat hlen
    clear hdt hx ho lo
    induction rk generalizing as with
    | nil =>
      have : as = [] := List.eq_nil_of_length_eq_zero (by simpa using hlen)
      subst this
      exact .nil
    | @cons p x ks ys rp _ ih =>
      cases as with
      | nil => simp at hlen
      | cons v as =>
        obtain ⟨x', e1, e2⟩ := hat 0 v rfl
        have e1' : x = x' := Option.some.inj e1
        subst e1'
        refine .cons (by rw [e2]; exact rp.2.1) (ih as (fun j u hj => ?_) (by simpa using hlen))
        obtain ⟨x', e1, e2⟩ := hat (j + 1) u (by simpa using hj)
        exact ⟨x', by simpa using e1, e2⟩
end
end TP
/-! R6: dict comprehensions of any kind of key: what an empty dict is, and what a store asks, are letters. -/
namespace TP
open PySem PySem.Spec PyProof.Rows L2

/-- a kind of dict over the layer: the new one, a store -/
structure DKind (P : Program) (w : World) where
  nil : Addr → HO
  put : Addr → Hp → V → V → (Hp → Prop) → Prop
  isNew : ∀ (H : Hp) (h : Heap), sysModules < h.objs.size → ObjOk P w H (h.push { cls := .type "dict", data := .dict #[] }) h.objs.size (nil h.objs.size)
  isPut : ∀ (X : Cx) (pins : List (Addr × Obj)) (σ : L2.St) (H : Hp) (s : Shared) (D : Addr) (y z : V) (u r : Value) (N : Hp → Prop) (E : Value → Shared → Prop), X.prog = P → X.w = w → X.A.units + 64 < cLine → Inv X pins σ H s → RelV y u → RelV z r → put D H y z N →
    wpAny (model P w) X.A (dictSet D u r) (fun _ s' => ∃ H', Inv X pins σ H' s' ∧ N H') E s
/-- {k: v for target in iter if ..}: D the new dict -/
def tDg {P : Program} {w : World} (κ : DKind P w) (wi : TI) (g : TG) (tt : TT) (tk tv : TE) (vs : List Nat) : TE := fun σ H Q => wi σ H fun J H1 => ∀ D, H1 D = none → ∃ W : Nat → Nat → Hp → Prop, (∃ m, W 0 m (upd H1 D (κ.nil D))) ∧
  ∀ i m H, W i m H → (J.stop i H ∧ Q (.ref D) H) ∨ (J.go i H ∧ ∃ Nx : Hp → Prop, (∀ H', Nx H' → ∃ m', m' < m ∧ W (i + 1) m' H') ∧ ∀ x H', J.yld i H x H' →
    g x (wipe σ vs) H' fun σ2 H2 => wipe σ2 vs = wipe σ vs ∧ tt σ2 H2 fun b H3 => if b = true then tk σ2 H3 fun y H4 => tv σ2 H4 fun z H5 => κ.put D H5 y z Nx else Nx H3)
section
variable {X : Cx}
theorem dg_core {P : Program} {w : World} (κ : DKind P w) {pins : List (Addr × Obj)} {s : Shared} {σ : L2.St} {H : Hp} {Q : VK} {kx vx tg iter : Expr} {ifs : List Expr} {scope : Scope} {own : List (Str × Nat)} {pos pos' : Pos} {wi : TI} {g : TG} {tt : TT} {tk tv : TE}
    {use : Option (Value → Sem Unit)} {Qf : Value → Shared → Prop} (hP : X.prog = P) (hw : X.w = w) (hu : X.A.units + 64 < cLine) (hc : X.calm = true) (hN : X.N.Nodup) (I : Inv X pins σ H s) (hi : PI X tg iter wi) (ok : BlkOk X.N X.env.scope scope own)
    (hg : ∀ (s : Shared) (H : Hp) (C : Addr) (cl : List (Str × Addr)) (fp : List Addr), PG (X.blk s H scope (compEnvC scope cl C X.env) fp) tg g)
    (ht : ∀ (s : Shared) (H : Hp) (C : Addr) (cl : List (Str × Addr)) (fp : List Addr), PTs (X.blk s H scope (compEnvC scope cl C X.env) fp) ifs tt)
    (hk : ∀ (s : Shared) (H : Hp) (C : Addr) (cl : List (Str × Addr)) (fp : List Addr), PE (X.blk s H scope (compEnvC scope cl C X.env) fp) kx tk)
    (he : ∀ (s : Shared) (H : Hp) (C : Addr) (cl : List (Str × Addr)) (fp : List Addr), PE (X.blk s H scope (compEnvC scope cl C X.env) fp) vx tv) (hs : ∀ x, foldedSetIterable iter X.env x = pure x)
    (h : tDg κ wi g tt tk tv (own.map (·.2)) σ H Q)
    (hRR : ∀ D C s' m H', Inv X pins σ H' s' → Q (.ref D) H' → s'.heap.Ns C m → FpOk X pins H' C → compPost (model X.prog X.w) X.A X.xe use Qf (.ref D) C (.ok .next) s') :
    wpAny (model X.prog X.w) X.A (comprehension (.DictComp kx vx [⟨tg, iter, ifs, 0⟩] scope pos) scope X.env pos' newDict false (eval iter X.env) use) Qf X.xe s := by
  subst hP hw
  have cellOf : ∀ y ∈ scope.names, y.2 = .free → ∃ c, X.env.cells.lookup y.1 = some c := fun y hy e => (ok.free y hy e).elim (fun z => I.ok.has _ (.inl z)) fun z => I.ok.has _ (.inr z)
  refine wpAny_comprehension_free (use := use) rfl hs (closure_ok cellOf) ok.kind (fun y hy e => by rw [ok.uniq y hy, e]) (thn (hi.run pins s σ H _ I h) fun _ s1 hx => thn hx fun _ s2 h2 => ?_)
  obtain ⟨it, fp, tn, J, H2, rfl, I2, T, st2, f2, q⟩ := h2
  refine wpAny_newObj_type (newEnv_comp ?_)
  generalize hD : s2.heap.objs.size = D
  obtain ⟨W, ⟨m0, w0⟩, turn⟩ := q D (I2.hok.fresh (Nat.le_of_eq hD))
  have below : ∀ b ∈ fp, b < s2.heap.objs.size := fun b hb => let ⟨_, e, _⟩ := T.obj _ _ st2 b hb; Heap.lt_size e
  generalize hH3 : upd H2 D (κ.nil D) = H3 at w0
  -- behind the making of the dict
  have I3 : Inv X pins σ H3 { s2 with heap := s2.heap.push { cls := .type "dict", data := .dict #[] } } := by
    rw [← hH3]
    refine I2.laid (t' := s2.toks) (fun b o e => Heap.get?_push_of_some _ e) (Nat.le_of_eq hD) ?_
    rw [← hD]
    exact κ.isNew _ s2.heap I2.big
  have h3 : ({ s2 with heap := s2.heap.push { cls := .type "dict", data := .dict #[] } } : Shared).heap.objs.size = s2.heap.objs.size + 1 := Heap.size_push _ _
  have f3 : ∀ b ∈ fp, FpOk X pins H3 b ∧ b < ({ s2 with heap := s2.heap.push { cls := .type "dict", data := .dict #[] } } : Shared).heap.objs.size := fun b hb => by
    refine ⟨⟨?_, (f2 b hb).2⟩, by rw [h3]; exact Nat.lt_succ_of_lt (below b hb)⟩
    rw [← hH3, upd_ne (by rw [← hD]; exact Nat.ne_of_lt (below b hb))]
    exact (f2 b hb).1
  have st3 : tn 0 ({ s2 with heap := s2.heap.push { cls := .type "dict", data := .dict #[] } } : Shared).heap := T.keep _ _ _ st2 fun b _ o e => Heap.get?_push_of_some _ e
  clear h3 below
  generalize ({ s2 with heap := s2.heap.push { cls := .type "dict", data := .dict #[] } } : Shared) = s3 at I3 f3 st3 ⊢
  have I4 := block_start I3 ok hN f3
  -- the block's parts
  have pg := hg s3 H3 s3.heap.objs.size (cellsFrom (s3.heap.objs.size + 1) scope.names (cloFrom X.env.cells scope.names [])) fp
  have pt := ht s3 H3 s3.heap.objs.size (cellsFrom (s3.heap.objs.size + 1) scope.names (cloFrom X.env.cells scope.names [])) fp
  have pk := hk s3 H3 s3.heap.objs.size (cellsFrom (s3.heap.objs.size + 1) scope.names (cloFrom X.env.cells scope.names [])) fp
  have pe := he s3 H3 s3.heap.objs.size (cellsFrom (s3.heap.objs.size + 1) scope.names (cloFrom X.env.cells scope.names [])) fp
  show codeAny _ _ (.compStart (.DictComp kx vx [⟨tg, iter, ifs, 0⟩] scope pos) 0 (.ref it) (.ref D) (compEnvC scope (cellsFrom (s3.heap.objs.size + 1) scope.names (cloFrom X.env.cells scope.names [])) s3.heap.objs.size X.env)) (compPost (model X.prog X.w) X.A X.xe use Qf (.ref D) s3.heap.objs.size) _
  generalize hce : compEnvC scope (cellsFrom (s3.heap.objs.size + 1) scope.names (cloFrom X.env.cells scope.names [])) s3.heap.objs.size X.env = ce at I4 pg pt pk pe ⊢
  have cL : ce.locals = s3.heap.objs.size := by
    rw [← hce]
    rfl
  generalize hs4 : ({ s3 with heap := pushCells (s3.heap.push { cls := .type "dict", data := .dict #[] }) scope.names } : Shared) = s4 at I4 ⊢
  have st4 : tn 0 s4.heap := T.keep _ _ _ st3 fun b _ o e => by
    rw [← hs4]
    exact pushCells_keeps _ _ _ _ (Heap.get?_push_of_some _ e)
  have own_ : ∀ {pn' : List (Addr × Obj)} {σ' : L2.St} {H' : Hp} {s' : Shared}, Inv (X.blk s3 H3 scope ce fp) [] σ' H' s' → (∀ b ∈ fp, H' b = none) → ∀ b ∈ fp, FpOk (X.blk s3 H3 scope ce fp) [] H' b := fun I' hn b hb =>
    ⟨hn b hb, (I'.ok.exf b hb).1, I'.ok.exfs b hb, .inl hb, fun x c e => (I'.ok.exf b hb).2 x c e, fun p hp => by cases hp⟩
  refine codeAny_compStart_dict (?loop : codeAny _ _ _ _ s4) (T.self X.A 0 _ _ _ st4 ?loop)
  refine compLoop_anyD (fun n s' => ∃ i H', Inv (X.blk s3 H3 scope ce fp) [] (wipe σ (own.map (·.2))) H' s' ∧ tn i s'.heap ∧ (∀ b ∈ fp, H' b = none) ∧ W i n H') ?_ m0 ⟨0, H3, I4, st4, fun b hb => (f3 b hb).1.1, w0⟩
  rintro n s5 ⟨i, H5, I5, st5, n5, w5⟩
  rcases turn i n H5 w5 with ⟨stop, qq⟩ | ⟨go, Nx, hNx, step⟩
  · -- no item is left
    refine thnF (T.done (X.blk s3 H3 scope ce fp) rfl rfl rfl hc i [] s5 _ H5 (fun _ _ => False) I5 (own_ (pn' := []) I5 n5) st5 stop) fun r s6 ⟨hr, I6⟩ => ?_
    subst hr
    have I7 : Inv X pins σ H5 s6 := I3.call' (ch := fp) I6.os I6.base I6.hok I6.bare fun b hb => ⟨(f3 b hb).1.2.2.2.1, (f3 b hb).1.2.1, (f3 b hb).1.2.2.2.2.1, (f3 b hb).1.2.2.2.2.2⟩
    have nC : H5 s3.heap.objs.size = none := cL ▸ (show H5 ce.locals = none from I6.free)
    obtain ⟨m, hn, _⟩ := I6.loc
    exact hRR D s3.heap.objs.size s6 m H5 I7 qq (cL ▸ (show s6.heap.Ns ce.locals m from hn)) (I3.fpOk (Nat.le_refl _) nC)
  · -- one more turn
    refine thnF (T.item (X.blk s3 H3 scope ce fp) rfl rfl rfl hc i [] s5 _ H5 (fun _ _ => False) I5 (own_ (pn' := []) I5 n5) st5 go) fun r s6 ⟨u, hr, h6⟩ => ?_
    subst hr
    refine thnF h6 fun _ s7 ⟨x, H7, I7, r7, y7, st7, n7⟩ => ?_
    refine thnF (pg.run _ s7 _ H7 x u _ (I7.pinned (own_ (pn' := []) I7 n7) (T.obj _ _ st7)) r7 (step x H7 y7)) fun _ s8 ⟨σ8, H8, I8, hw8, q8⟩ => ?_
    refine thnF (pt.run _ s8 σ8 H8 _ I8 q8) fun b s9 ⟨H9, I9, q9⟩ => ?_
    have fin : ∀ {s' : Shared} {H' : Hp}, Inv (X.blk s3 H3 scope ce fp) ([] ++ pinsAt fp s7.heap) σ8 H' s' → Nx H' → ∃ m, m < n ∧ ∃ i H', Inv (X.blk s3 H3 scope ce fp) [] (wipe σ (own.map (·.2))) H' s' ∧ tn i s'.heap ∧ (∀ b ∈ fp, H' b = none) ∧ W i m H' := fun {s' H'} I' nx => by
      obtain ⟨m', hm, w'⟩ := hNx H' nx
      have stay : ∀ b ∈ fp, ∀ o, s7.heap.get? b = some o → s'.heap.get? b = some o ∧ H' b = none := fun b hb o e =>
        let z := I'.pin (b, o) (List.mem_append_right _ (List.mem_append_right _ (mem_pinsAt hb e)))
        ⟨z.1, z.2.1⟩
      refine ⟨m', hm, i + 1, H', (I'.unpinned (pins := [])).weak (by rw [← hw8, wipe_length]) (fun j v e => (wipe_some (hw8 ▸ e)).1), T.keep _ _ _ st7 fun b hb o e => (stay b hb o e).1, fun b hb => ?_, w'⟩
      obtain ⟨o, e, _⟩ := T.obj _ _ st7 b hb
      exact (stay b hb o e).2
    cases b with
    | false => exact fin I9 q9
    | true =>
      refine thnF (pk.run _ s9 σ8 H9 _ I9 q9) fun _ s10 ⟨yk, H10, I10, r10, q10⟩ => ?_
      refine thnF (pe.run _ s10 σ8 H10 _ I10 q10) fun _ s11 ⟨yv, H11, I11, r11, q11⟩ => ?_
      refine thnF (κ.isPut (X.blk s3 H3 scope ce fp) _ σ8 H11 s11 D yk yv _ _ Nx _ rfl rfl hu I11 r10 r11 q11) fun _ s12 ⟨H12, I12, q12⟩ => fin I12 q12
/-- as a value -/
theorem pe_dg {P : Program} {w : World} (κ : DKind P w) {kx vx tg iter : Expr} {ifs : List Expr} {scope : Scope} {own : List (Str × Nat)} {pos : Pos} {wi : TI} {g : TG} {tt : TT} {tk tv : TE} (hP : X.prog = P) (hw : X.w = w) (hu : X.A.units + 64 < cLine) (hc : X.calm = true) (hN : X.N.Nodup)
    (hi : PI X tg iter wi) (ok : BlkOk X.N X.env.scope scope own)
    (hg : ∀ (s : Shared) (H : Hp) (C : Addr) (cl : List (Str × Addr)) (fp : List Addr), PG (X.blk s H scope (compEnvC scope cl C X.env) fp) tg g)
    (ht : ∀ (s : Shared) (H : Hp) (C : Addr) (cl : List (Str × Addr)) (fp : List Addr), PTs (X.blk s H scope (compEnvC scope cl C X.env) fp) ifs tt)
    (hk : ∀ (s : Shared) (H : Hp) (C : Addr) (cl : List (Str × Addr)) (fp : List Addr), PE (X.blk s H scope (compEnvC scope cl C X.env) fp) kx tk)
    (he : ∀ (s : Shared) (H : Hp) (C : Addr) (cl : List (Str × Addr)) (fp : List Addr), PE (X.blk s H scope (compEnvC scope cl C X.env) fp) vx tv) (hs : ∀ x, foldedSetIterable iter X.env x = pure x := by intro _; rfl) :
    PE X (.DictComp kx vx [⟨tg, iter, ifs, 0⟩] scope pos) (tDg κ wi g tt tk tv (own.map (·.2))) := by
  refine ⟨fun pins s σ H Q I h => ?_⟩
  rw [arm_eval_DictComp]
  refine dg_core κ hP hw hu hc hN I hi ok hg ht hk he hs h fun D C s' m H' I' q hn f => ⟨m, hn, fun h'' sb => ?_⟩
  obtain ⟨f0, f1, f2, f3, f4, f5⟩ := f
  exact ⟨.ref D, H', I'.turned (t' := s'.toks) (fun b o hb e => (sb.2 b hb).trans e) f0 f1 f3 f4 f5, rfl, q⟩
/-- y = {..}: the slot is stored within the comprehension's frame -/
theorem ps_setDg {P : Program} {w : World} (κ : DKind P w) {i : Nat} {y : Str} {py : Pos} {kx vx tg iter : Expr} {ifs : List Expr} {scope : Scope} {own : List (Str × Nat)} {pos spos : Pos} {wi : TI} {g : TG} {tt : TT} {tk tv : TE} (hP : X.prog = P) (hw : X.w = w) (hu : X.A.units + 64 < cLine)
    (hc : X.calm = true) (hN : X.N.Nodup) (hy : X.N[i]? = some y) (hyl : X.env.scope.names.lookup y = some .local)
    (hsw : swapsWith (.DictComp kx vx [⟨tg, iter, ifs, 0⟩] scope pos) (some (.Name y py)) spos.line X.env = pure true) (hi : PI X tg iter wi) (ok : BlkOk X.N X.env.scope scope own)
    (hg : ∀ (s : Shared) (H : Hp) (C : Addr) (cl : List (Str × Addr)) (fp : List Addr), PG (X.blk s H scope (compEnvC scope cl C X.env) fp) tg g)
    (ht : ∀ (s : Shared) (H : Hp) (C : Addr) (cl : List (Str × Addr)) (fp : List Addr), PTs (X.blk s H scope (compEnvC scope cl C X.env) fp) ifs tt)
    (hk : ∀ (s : Shared) (H : Hp) (C : Addr) (cl : List (Str × Addr)) (fp : List Addr), PE (X.blk s H scope (compEnvC scope cl C X.env) fp) kx tk)
    (he : ∀ (s : Shared) (H : Hp) (C : Addr) (cl : List (Str × Addr)) (fp : List Addr), PE (X.blk s H scope (compEnvC scope cl C X.env) fp) vx tv) (hs : ∀ x, foldedSetIterable iter X.env x = pure x := by intro _; rfl) :
    PS X (.Assign [.Name y py] (.DictComp kx vx [⟨tg, iter, ifs, 0⟩] scope pos) spos) (tAsg (tDg κ wi g tt tk tv (own.map (·.2))) (gName i)) := by
  refine ⟨fun pins s σ H D I h => ?_⟩
  rw [exec_Assign_Name_used _ _ _ _ hsw]
  refine wpAny_bind (wpAny_standAt (wpAny_bind ?_))
  show wpAny _ X.A (do let _ ← comprehension (.DictComp kx vx [⟨tg, iter, ifs, 0⟩] scope pos) scope X.env (firstIterPos [⟨tg, iter, ifs, 0⟩] pos) newDict false (eval iter X.env) (some (assign (.Name y py) X.env))) _ _ s
  have h : tDg κ wi g tt tk tv (own.map (·.2)) σ H (fun x H1 => gName i x σ H1 D.nx) := h
  refine wpAny_bind (thn (dg_core (Qf := fun _ s' => SP X pins D .next s') κ hP hw hu hc hN I hi ok hg ht hk he hs h fun L C s' m H' I' q hn f => ?_) fun _ s' hq => wpAny_pure (wpAny_pure hq))
  show wpAny _ _ (assign (.Name y py) X.env (.ref L)) _ _ _
  refine wpAny_assign_Name (store_ok2 (v := V.ref L) I' hN hy (.inl hyl) rfl (fun s2 I2 ⟨a, sb, ha⟩ => ?_) (.inr hyl))
  obtain ⟨f0, f1, f2, f3, f4, f5⟩ := f
  have haC : C ≠ a := by
    rcases ha with z | z
    · rw [z]
      exact f1
    · exact fun e => f4 y a z e.symm
  exact ⟨m, hn.sameBut sb haC, fun h3 sb3 => ⟨_, H', I2.turned (t' := s2.toks) (fun b o hb e => (sb3.2 b hb).trans e) f0 f1 f3 f4 f5, q⟩⟩
theorem swD_true {kx vx : Expr} {gs : List Comprehension} {scope : Scope} {pos py : Pos} {y : Str} {l : Nat} {env : Env} (hk : env.scope.kind = .function) (hy : env.scope.names.lookup y = some .local) (hl : (py.line == pos.line) = true)
    (ha : (scope.names.any fun (n, k) => n == y && (k == .local || k == .cell)) = false) : swapsWith (.DictComp kx vx gs scope pos) (some (.Name y py)) l env = pure true := by
  have ky : env.kindOf y = some .local := hy
  have hb : env.blockKind = .function := by
    unfold Env.blockKind
    rw [hk]
    rfl
  unfold swapsWith
  simp only [hb, ky, ha, Expr.pos, hl]
  rfl
end

/-- text keys (and ints) -/
def dkText (P : Program) (w : World) : DKind P w where
  nil := fun _ => .dK []
  put := fun D H y z N => ∃ kvs k, y = kV k ∧ H D = some (.dK kvs) ∧ kvs.length < sizeLine ∧ N (upd H D (.dK (putK kvs k z)))
  isNew := fun _ h hb => dk_empty h hb
  isPut := by
    intro X pins σ H s D y z u r N E hP hw hu I ry rv q
    subst hP hw
    obtain ⟨kvs, k, rfl, hD, hz, nx⟩ := q
    exact d_dictSet I hD hz ry rv fun s' I' => ⟨_, I', nx⟩
/-- terms as keys -/
def dkTerm (P : Program) (w : World) : DKind P w where
  nil := fun D => TD w D []
  put := fun D H y z N => ∃ kvs k, H D = some (TD w D kvs) ∧ Keys H kvs ∧ kvs.length < sizeLine ∧ Tm H y k ∧ k.dp ≤ 8 ∧ N (upd H D (TD w D (putT kvs k y z)))
  isNew := fun _ h hb => td_empty h hb
  isPut := by
    intro X pins σ H s D y z u r N E hP hw hu I ry rv q
    subst hP hw
    obtain ⟨kvs, k, hD, c, hl, hy, h8, nx⟩ := q
    obtain ⟨z1, z2, xs, rk, o, es, ep, e1, e2, e3, e4⟩ := td_of I hD
    have hz : xs.length ≤ sizeLine := by rw [← Paired.length rk]; exact z2
    exact dictSet_T hu (hy.rt I ry) h8 e1 e2 e3 (td_ents I c rk e4) hz fun h' o' es' ep' t q1 q2 q3 q4 q5 => ⟨_, td_put I hD rk hl ry rv q1 q2 q3 q4 q5, nx⟩
end TP
/-! W0: the text by places, the module's facts, short rules of our own. -/
namespace TP
open PySem PySem.Spec PyProof.Rows L2

/-! ### the text -/
def topS (i : Nat) : Stmt := PySem.Challenge.pw_paironce_k46_whole_terms_parted.main.body.getD i (.Pass ⟨0, 0, 0, 0⟩)
abbrev sIsVar : Stmt := topS 10
abbrev sLeaves : Stmt := topS 11
abbrev sCheck : Stmt := topS 12
abbrev sKept : Stmt := topS 13
abbrev sWritten : Stmt := topS 14
abbrev sReplaced : Stmt := topS 15
abbrev sExchanged : Stmt := topS 16
abbrev sPlace : Stmt := topS 20
abbrev sJoined : Stmt := topS 21
abbrev sBrought : Stmt := topS 22
abbrev sPlain : Stmt := topS 23
abbrev sIsPlain : Stmt := topS 24
abbrev sEqual : Stmt := topS 25
abbrev sParts : Stmt := topS 26
abbrev sPInit : Stmt := inClass (topS 27) 0
abbrev sParting : Stmt := topS 28
abbrev sPairs : Stmt := topS 29
abbrev sCome : Stmt := topS 30
abbrev sCheckP : Stmt := topS 31
abbrev sOrdered : Stmt := topS 32
abbrev sPCount : Stmt := topS 33
abbrev sPForms : Stmt := topS 34
abbrev sLeavesIn : Stmt := topS 35
abbrev sLRow : Stmt := topS 37
abbrev sLNumbers : Stmt := topS 38
abbrev sLNames : Stmt := topS 39
abbrev sLLeaves : Stmt := topS 40
abbrev sLTerm : Stmt := topS 41
abbrev sLWord : Stmt := topS 42
abbrev sLLike : Stmt := topS 43
abbrev sLaw : Stmt := topS 44

/-! ### the module's names -/
def firstS : Str := "abcdefghijklmnopqrstuvwxyz"
def nameS : Str := "abcdefghijklmnopqrstuvwxyz0123456789"
structure Txt (K : PySem.W.Frag) (mg : Str → Option Value) : Prop where
  isi : mg "isinstance" = none
  str : mg "str" = none
  tup : mg "tuple" = none
  lst : mg "list" = none
  int : mg "int" = none
  dic : mg "dict" = none
  len : mg "len" = none
  all : mg "all" = none
  srt : mg "sorted" = none
  enu : mg "enumerate" = none
  rng : mg "range" = none
  mi : mg "min" = none
  ma : mg "max" = none
  sm : mg "sum" = none
  ab : mg "abs" = none
  first : ∃ u, mg "FIRST_CHARS" = some u ∧ RelV (.str firstS) u
  name : ∃ u, mg "NAME_CHARS" = some u ∧ RelV (.str nameS) u
  chars : ∃ u, mg "MOST_NAME_CHARS" = some u ∧ RelV (.int 12) u
  leaves : ∃ u, mg "MOST_LEAVES" = some u ∧ RelV (.int 200) u
  names : ∃ u, mg "MOST_NAMES" = some u ∧ RelV (.int 26) u
  counted : ∃ u, mg "MOST_COUNTED" = some u ∧ RelV (.int 60) u

/-! ### a def that stands in the module -/
def Fn (P : Program) (w : World) (K : PySem.W.Frag) (mg : Str → Option Value) (base : Heap) (k : Nat) (x : Str) (ps : List Str) (sp : Sp) : Prop :=
  ∃ (f : Addr) (fd : FuncData), FnOk P w K mg base CX0 k f fd ps sp ∧ mg x = some (.ref f) ∧ PySem.W.keepIn K (.ref f) = true ∧ Binds K fd ps []
section
variable {X : Cx} {e : Expr} {es : List Expr} {t : TE} {ta : TA} {pos p : Pos} {k j : Nat} {x : Str} {ps : List Str} {sp : Sp}
theorem Fn.mono {P : Program} {w : World} {K : PySem.W.Frag} {mg : Str → Option Value} {base : Heap} {i j : Nat} (G : Fn P w K mg base i x ps sp) (h : i ≤ j) : Fn P w K mg base j x ps sp := by
  obtain ⟨f, fd, F, m, kp, b⟩ := G
  exact ⟨f, fd, F.mono h, m, kp, b⟩
theorem pe_fn (G : Fn X.prog X.w X.K X.mg X.base k x ps sp) (hr : Room j X.A) (hj : k ≤ j) (ha : PA X (e :: es) ta) (hg : Gl X x) (hdb : (x == ("__debug__" : Str)) = false := by decide) (he : starEach (e :: es) X.env = (false, eval e X.env) :: starEach es X.env := by rfl)
    (hpl : (backTo pos (starEach es X.env)).any (·.1) = false := by rfl) : PE X (.Call (.Name x p) (e :: es) [] pos) (tCall sp [] E0 ta) := by
  obtain ⟨f, fd, F, m, kp, b⟩ := G
  exact pe_call F (hr.mono hj) hg m kp b .nil pass0 ha hdb he hpl
/-- a stronger reading -/
theorem pe_imp {t' : TE} (h : PE X e t) (i : ∀ σ H Q, t' σ H Q → t σ H Q) : PE X e t' := ⟨fun pins s σ H Q I q => h.run pins s σ H Q I (i σ H Q q)⟩
theorem pt_imp {t t' : TT} (h : PT X e t) (i : ∀ σ H Q, t' σ H Q → t σ H Q) : PT X e t' := ⟨fun pins s σ H Q I q => h.run pins s σ H Q I (i σ H Q q)⟩
/-- a module's constant -/
theorem pe_con_ {v : V} (h : ∃ u, X.mg x = some u ∧ RelV v u) (hg : Gl X x) (hd : (x == ("__debug__" : Str)) = false := by decide) : PE X (.Name x pos) (tC v) := by
  obtain ⟨u, m, r⟩ := h
  exact pe_glob hg m r hd

/-! ### isinstance(e, str) -/
def isStrQ (H : Hp) (x : V) (Q : Bool → Prop) : Prop := (∃ y, x = .str y ∧ Q true) ∨ ∃ a xs, x = .ref a ∧ H a = some (.tup xs) ∧ Q false
theorem isStrQ.of {H : Hp} {x : V} {t : T} {Q : Bool → Prop} (h : Tm H x t) (h1 : ∀ y, t = .nm y → x = .str y → Q true) (h2 : ∀ a u v l r, t = .pr l r → x = .ref a → H a = some (.tup [u, v]) → Tm H u l → Tm H v r → Q false) : isStrQ H x Q := by
  cases h with
  | nm h => exact .inl ⟨_, rfl, h1 _ rfl rfl⟩
  | pr e k1 k2 => exact .inr ⟨_, _, rfl, e, h2 _ _ _ _ _ rfl rfl e k1 k2⟩
def rIsStr : List V → Hp → VK → Prop := fun xs H Q => ∃ x, xs = [x, .ty "str"] ∧ isStrQ H x fun b => Q (.bl b) H
theorem call_isStr : CallR X (.builtin "isinstance") rIsStr := by
  intro pins s σ H xs us Q I r h
  obtain ⟨x, rfl, h⟩ := h
  rcases h with ⟨y, rfl, q⟩ | ⟨a, ys, rfl, ea, q⟩
  · exact call_isi pins s σ H _ us Q I r ⟨_, _, _, _, _, rfl, .ty "str", .base (.str y), kit_ty (by decide +kernel : kitB "str" "str" = some true), q⟩
  · exact call_isi pins s σ H _ us Q I r ⟨_, _, _, _, _, rfl, .ty "str", .base (.tup ea), kit_ty (by decide +kernel : kitB "tuple" "str" = some false), q⟩
theorem pe_isStr {p1 p2 : Pos} (T : Txt X.K X.mg) (he : PE X e t) (hg1 : Gl X "isinstance") (hg2 : Gl X "str")
    (he1 : starEach [e, .Name "str" p2] X.env = (false, eval e X.env) :: starEach [.Name "str" p2] X.env := by rfl) (hpl : (backTo pos (starEach [Expr.Name "str" p2] X.env)).any (·.1) = false := by rfl) :
    PE X (.Call (.Name "isinstance" p1) [e, .Name "str" p2] [] pos) (tCB rIsStr (tCons t (tCons (tC (.ty "str")) tNil))) :=
  pe_callB (call_isStr (X := X)) hg1 T.isi PyProof.Rows.boot_isinstance (pa_cons he (pa_cons (pe_bltn (v := .ty "str") hg2 T.str (by decide +kernel : bootBuiltins "str" = some (.type "str")) rfl) pa_nil) (hs := he1)) (p := p1) (pos := pos) (he := he1) (hpl := hpl)
end

/-! ### loops by the turn -/
section
variable {J : It} {n : Nat} {g : TG}
theorem lc_gen {tt : TT} {te : TE} {vs : List Nat} {σ : L2.St} {H1 : Hp} {D : Addr} {Qd : Hp → Prop} (Pv : Nat → Hp → Prop) (h0 : Pv 0 (upd H1 D (.lst []))) (hgo : ∀ i H, i < n → Pv i H → J.go i H) (hst : ∀ H, Pv n H → J.stop n H)
    (hs : ∀ i H x H', i < n → Pv i H → J.yld i H x H' → g x (wipe σ vs) H' fun σ2 H2 => wipe σ2 vs = wipe σ vs ∧ tt σ2 H2 fun b H3 => if b = true then te σ2 H3 fun y H4 => ∃ acc, H4 D = some (.lst acc) ∧ acc.length < sizeLine ∧ Pv (i + 1) (upd H4 D (.lst (acc ++ [y]))) else Pv (i + 1) H3)
    (hd : ∀ H, Pv n H → Qd H) :
    ∃ W : Nat → Nat → Hp → Prop, (∃ m, W 0 m (upd H1 D (.lst []))) ∧ ∀ i m H, W i m H → (J.stop i H ∧ Qd H) ∨ (J.go i H ∧ ∃ Nx : Hp → Prop, (∀ H', Nx H' → ∃ m', m' < m ∧ W (i + 1) m' H') ∧ ∀ x H', J.yld i H x H' → g x (wipe σ vs) H' fun σ2 H2 => wipe σ2 vs = wipe σ vs ∧ tt σ2 H2 fun b H3 =>
      if b = true then te σ2 H3 fun y H4 => ∃ acc, H4 D = some (.lst acc) ∧ acc.length < sizeLine ∧ Nx (upd H4 D (.lst (acc ++ [y]))) else Nx H3) := by
  refine ⟨fun i m H => m = n - i ∧ i ≤ n ∧ Pv i H, ⟨n, rfl, Nat.zero_le _, h0⟩, ?_⟩
  rintro i m H ⟨rfl, hi, p⟩
  by_cases hlt : i < n
  · exact .inr ⟨hgo i H hlt p, Pv (i + 1), fun H' p' => ⟨n - (i + 1), by omega, rfl, hlt, p'⟩, fun x H' y => hs i H x H' hlt p y⟩
  · have e : i = n := by omega
    subst e
    exact .inl ⟨hst H p, hd H p⟩
theorem dg_gen {P : Program} {w : World} {κ : DKind P w} {tt : TT} {tk tv : TE} {vs : List Nat} {σ : L2.St} {H1 : Hp} {D : Addr} {Qd : Hp → Prop} (Pv : Nat → Hp → Prop) (h0 : Pv 0 (upd H1 D (κ.nil D))) (hgo : ∀ i H, i < n → Pv i H → J.go i H) (hst : ∀ H, Pv n H → J.stop n H)
    (hs : ∀ i H x H', i < n → Pv i H → J.yld i H x H' → g x (wipe σ vs) H' fun σ2 H2 => wipe σ2 vs = wipe σ vs ∧ tt σ2 H2 fun b H3 => if b = true then tk σ2 H3 fun y H4 => tv σ2 H4 fun z H5 => κ.put D H5 y z (Pv (i + 1)) else Pv (i + 1) H3)
    (hd : ∀ H, Pv n H → Qd H) :
    ∃ W : Nat → Nat → Hp → Prop, (∃ m, W 0 m (upd H1 D (κ.nil D))) ∧ ∀ i m H, W i m H → (J.stop i H ∧ Qd H) ∨ (J.go i H ∧ ∃ Nx : Hp → Prop, (∀ H', Nx H' → ∃ m', m' < m ∧ W (i + 1) m' H') ∧ ∀ x H', J.yld i H x H' → g x (wipe σ vs) H' fun σ2 H2 => wipe σ2 vs = wipe σ vs ∧ tt σ2 H2 fun b H3 =>
      if b = true then tk σ2 H3 fun y H4 => tv σ2 H4 fun z H5 => κ.put D H5 y z Nx else Nx H3) := by
  refine ⟨fun i m H => m = n - i ∧ i ≤ n ∧ Pv i H, ⟨n, rfl, Nat.zero_le _, h0⟩, ?_⟩
  rintro i m H ⟨rfl, hi, p⟩
  by_cases hlt : i < n
  · exact .inr ⟨hgo i H hlt p, Pv (i + 1), fun H' p' => ⟨n - (i + 1), by omega, rfl, hlt, p'⟩, fun x H' y => hs i H x H' hlt p y⟩
  · have e : i = n := by omega
    subst e
    exact .inl ⟨hst H p, hd H p⟩
end
theorem iteDT {c A B : Prop} [Decidable c] (hc : c) (h : A) : if decide c = true then A else B := by
  rw [if_pos (decide_eq_true hc)]
  exact h
theorem iteDF {c A B : Prop} [Decidable c] (hc : ¬ c) (h : B) : if decide c = true then A else B := by
  rw [if_neg (fun q => hc (of_decide_eq_true q))]
  exact h
theorem iteNF {c A B : Prop} [Decidable c] (hc : ¬ c) (h : A) : if (!decide c) = true then A else B := by
  rw [decide_eq_false hc]
  exact iteT h
/-! ### lists of terms -/
abbrev TmL (H : Hp) : List V → List T → Prop := Paired (Tm H)
theorem TmL.same {H H' : Hp} (k : Same H H') : ∀ {xs : List V} {ts : List T}, TmL H xs ts → TmL H' xs ts
  | _, _, .nil => .nil
  | _, _, .cons h t => .cons (h.same k) (TmL.same k t)
theorem TmL.keep {H H' : Hp} (k : ∀ b ys, H b = some (.tup ys) → H' b = some (.tup ys)) : ∀ {xs : List V} {ts : List T}, TmL H xs ts → TmL H' xs ts
  | _, _, .nil => .nil
  | _, _, .cons h t => .cons (h.keep k) (TmL.keep k t)
theorem TmL.app {H : Hp} {ys : List V} {us : List T} : ∀ {xs : List V} {ts : List T}, TmL H xs ts → TmL H ys us → TmL H (xs ++ ys) (ts ++ us)
  | _, _, .nil, k => k
  | _, _, .cons h t, k => .cons h (TmL.app t k)
theorem TmL.last {H : Hp} : ∀ {xs : List V} {ts : List T}, TmL H xs ts → xs ≠ [] → ∃ xs' v ts' u, xs = xs' ++ [v] ∧ ts = ts' ++ [u] ∧ TmL H xs' ts' ∧ Tm H v u
  | _, _, .nil, h => absurd rfl h
  | _, _, .cons (l₁ := []) h .nil, _ => ⟨[], _, [], _, rfl, rfl, .nil, h⟩
  | _, _, .cons (l₁ := y :: ys) h t, _ => by
    obtain ⟨xs', v, ts', u, e1, e2, h1, h2⟩ := TmL.last t (by simp)
    exact ⟨_ :: xs', v, _ :: ts', u, by rw [e1]; rfl, by rw [e2]; rfl, .cons h h1, h2⟩
theorem TmL.get {H : Hp} : ∀ {xs : List V} {ts : List T}, TmL H xs ts → ∀ {i : Nat} {v : V}, xs[i]? = some v → ∃ t, ts[i]? = some t ∧ Tm H v t
  | _, _, .cons h _, 0, v, e => by
    have e' := Option.some.inj e
    subst e'
    exact ⟨_, rfl, h⟩
  | _, _, .cons _ t, i + 1, v, e => by
    obtain ⟨u, e1, e2⟩ := TmL.get t (i := i) (v := v) (by simpa using e)
    exact ⟨u, by simpa using e1, e2⟩
theorem TmL.len {H : Hp} {xs : List V} {ts : List T} (h : TmL H xs ts) : xs.length = ts.length := Paired.length h
/-- a new object keeps what is there -/
theorem same_new {H : Hp} {p : Addr} {o : HO} (h : H p = none) : Same H (upd H p o) := fun b u e => by
  rw [upd_ne (ne_of_none e h)]
  exact e
/-- a change of an object that was not there before -/
theorem same_upd {H H' : Hp} {p : Addr} {o : HO} (s : Same H H') (h : H p = none) : Same H (upd H' p o) := fun b u e => by
  rw [upd_ne (ne_of_none e h)]
  exact s _ _ e
end TP
/-! W1: is_variable, leaves, check_term. -/
namespace TP
open PySem PySem.Spec PyProof.Rows L2
theorem mem_first {c : Nat} (h : 97 ≤ c) (k : c ≤ 122) : c ∈ firstS.cps.toList := by
  have all : ∀ c : Nat, c < 123 → 97 ≤ c → c ∈ firstS.cps.toList := by decide +kernel
  exact all c (by omega) h
theorem mem_name {c : Nat} (h : okC c) : c ∈ nameS.cps.toList := by
  have all : ∀ c : Nat, c < 123 → ((48 ≤ c ∧ c ≤ 57) ∨ (97 ≤ c ∧ c ≤ 122)) → c ∈ nameS.cps.toList := by decide +kernel
  unfold okC at h
  exact all c (by omega) h
theorem small14 {n : Nat} (h : n ≤ 12) : n ≤ sizeLine := Nat.le_trans h (by decide)
section
variable {P : Program} {w : World} {K : PySem.W.Frag} {mg : Str → Option Value} {base : Heap}
/-- is_variable: True of a name, False of a pair -/
def spIsVar : Sp := fun vs H Q _ => ∃ (x : V) (t : T), vs = [x] ∧ Tm H x t ∧ ∀ H', Same H H' → Q (.bl (match t with | .nm _ => true | .pr _ _ => false)) H'
theorem scIsVar : FnScope ["term", "char"] ["term"] (defScope sIsVar) := ⟨rfl, rfl, rfl, by decide +kernel, rfl, by decide +kernel, by decide +kernel⟩
theorem ok_isVar {f : Addr} {fd : FuncData} (F : Fun K "is_variable" "is_variable" sIsVar f fd) (M : Txt K mg) : FnOk P w K mg base CX0 1 f fd ["term"] spIsVar := by
  refine F.ok scIsVar (fun vs H Q E h => ?_) (fun cdv A outer s H vs Q E hr h => ?_)
  · obtain ⟨x, t, rfl, _⟩ := h
    rfl
  · obtain ⟨x, t, rfl, ht, q⟩ := h
    refine ⟨_, pss_cons (ps_if (PW.pt (pw_or (pt_not (pt_val (pe_isStr M (pv 0) (by rfl) (by rfl))))
        (pw_or (pt_not (pt_chain op_le op_le pe_int (pe_callB call_len_str (by rfl) M.len PySem.boot_len (pa_cons (pv 0) pa_nil)) (pe_con_ M.chars (by rfl))))
          (pw_or1 (pt_cmpR op_notIn_sign (pe_ix ix_str (pv 0) pe_int (fun _ _ => rfl)) (pe_con_ M.first (by rfl)) (by rfl))))))
        (pss_one (ps_ret pe_bl)) pss_nil)
      (pss_one (ps_ret (pe_callB (cr_all rfl) (by rfl) M.all (by decide +kernel) (pa_cons
        (pe_lc (own := [("char", 1)]) (g := gName 1) (by rfl) scIsVar.nd (pi_str (pv 0)) (blkOk_by (own := [("char", 1)]) (N := ["term", "char"]) (sc := defScope sIsVar) (by decide +kernel))
          (fun _ _ _ _ _ => pg_name (i := 1) scIsVar.nd rfl (Or.inl rfl)) (fun _ _ _ _ _ => pts_nil) (fun _ _ _ _ _ => pe_cmpR op_in_sign (pv 1) (pe_con_ M.name (by rfl)) (by rfl))) pa_nil)))), ?_⟩
    refine ⟨_, rfl, x, rfl, isStrQ.of ht (fun y ey ex => ?_) (fun a u v l r et ex ea hu hv => ?_)⟩
    · subst ey ex
      have hy : okN y := ht.ok
      obtain ⟨h12, ⟨c0, r0, e0, hc0, hc1⟩, hall⟩ := id hy
      have hlen : y.length = y.cps.toList.length := by simp [Str.length]
      have hl1 : 1 ≤ y.length := by
        rw [hlen, e0]
        simp
      have hl2 : y.length ≤ 12 := by
        rw [hlen, Array.length_toList]
        exact h12
      refine ⟨true, rfl, iteF ?_⟩
      refine ⟨_, rfl, y, rfl, small14 hl2, 1, (y.length : Nat), rfl, rfl, _, rfl, iteDT (by omega) ⟨_, _, rfl, rfl, _, rfl, iteNS (by omega) ?_⟩⟩
      refine ⟨_, rfl, y, 0, c0, rfl, rfl, small14 hl2, atI_nat (j := 0) (by rw [e0]; rfl), c0, firstS, rfl, rfl, _, rfl, iteNS (mem_first hc0 hc1) ?_⟩
      -- return all(..)
      refine ⟨_, rfl, y, rfl, fun D hD => lc_gen (n := y.cps.size) (fun i H' => Same H H' ∧ H' D = some (.lst (List.replicate i (V.bl true)))) ⟨same_new hD, upd_same⟩ (fun i H' hi _ => hi) (fun H' _ => Nat.le_refl _) ?_ ?_⟩
      · rintro i H' x' H'' hi ⟨sm, eD⟩ ⟨rfl, c, ec, rfl⟩
        have hc : okC c := hall c (by
          have q := List.mem_of_getElem? (i := i) (l := y.cps.toList) (a := c) (by rw [Array.getElem?_toList]; exact ec)
          exact q)
        refine ⟨rfl, ⟨_, rfl, c, nameS, rfl, rfl, _, eD, ?_, same_upd sm hD, ?_⟩⟩
        · rw [List.length_replicate]
          exact Nat.lt_of_lt_of_le hi (small14 h12)
        · rw [upd_same, decide_eq_true (mem_name hc), List.replicate_succ']
      · rintro H' ⟨sm, eD⟩
        refine ⟨D, List.replicate y.cps.size true, rfl, SqL.of (by rw [eD, List.map_replicate]), ?_⟩
        rw [show (List.replicate y.cps.size true).all id = true from List.all_eq_true.mpr fun b hb => (List.eq_of_mem_replicate hb)]
        exact q H' sm
    · subst et ex
      exact ⟨false, rfl, iteT (q H (Same.refl H))⟩

/-! ### leaves -/
def spLeaves : Sp := fun vs H Q _ => ∃ (x : V) (t : T), vs = [x] ∧ Tm H x t ∧ t.lv ≤ 200 ∧ ∀ v H', Same H H' → Q v H'
theorem scLeaves : FnScope ["term", "found", "waiting", "part"] ["term"] (defScope sLeaves) := ⟨rfl, rfl, rfl, by decide +kernel, rfl, by decide +kernel, by decide +kernel⟩
def lvs (ts : List T) : Nat := (ts.map T.lv).sum
def szs (ts : List T) : Nat := (ts.map T.sz).sum
theorem lvs_app (ts us : List T) : lvs (ts ++ us) = lvs ts + lvs us := by simp [lvs]
theorem szs_app (ts us : List T) : szs (ts ++ us) = szs ts + szs us := by simp [szs]
theorem lvs_one (u : T) : lvs [u] = u.lv := by simp [lvs]
theorem szs_one (u : T) : szs [u] = u.sz := by simp [szs]
theorem lvs_two (u v : T) : lvs [u, v] = u.lv + v.lv := by simp [lvs]
theorem szs_two (u v : T) : szs [u, v] = u.sz + v.sz := by simp [szs]
theorem len_lvs : ∀ ts : List T, ts.length ≤ lvs ts
  | [] => Nat.le_refl _
  | t :: ts => by
    have h1 := len_lvs ts
    have h2 := t.lv_pos
    have h3 : lvs (t :: ts) = t.lv + lvs ts := by simp [lvs]
    rw [List.length_cons]
    omega
theorem small300 {n : Nat} (h : n ≤ 1000) : n ≤ sizeLine := Nat.le_of_lt (small1000 h)
theorem ok_leaves {f : Addr} {fd : FuncData} (F : Fun K "leaves" "leaves" sLeaves f fd) (M : Txt K mg) (GV : Fn P w K mg base 1 "is_variable" ["term"] spIsVar) : FnOk P w K mg base CX0 2 f fd ["term"] spLeaves := by
  refine F.ok scLeaves (fun vs H Q E h => ?_) (fun cdv A outer s H vs Q E hr h => ?_)
  · obtain ⟨x, t, rfl, _⟩ := h
    rfl
  · obtain ⟨x, t, rfl, ht, h200, q⟩ := h
    refine ⟨_, pss_cons (ps_set (i := 1) scLeaves.nd rfl (.inl rfl) (pe_lst pa_nil))
      (pss_cons (ps_set (i := 2) scLeaves.nd rfl (.inl rfl) (pe_lst (pa_cons (pv 0) pa_nil)))
      (pss_cons (ps_while PassesOwn.never (pt_truth (pv 2) (by intro _; rfl))
        (pss_cons (ps_set (i := 3) scLeaves.nd rfl (.inl rfl) (pe_bm0 PySem.F.plainAttrs_list PySem.F.slot_list_pop PySem.F.type_list_pop mt_pop (pv 2)))
        (pss_cons (ps_if (pt_val (pe_fn GV hr (by decide) (pa_cons (pv 3) pa_nil) (by rfl)))
            (pss_one (ps_expr (pe_bm PySem.F.plainAttrs_list PySem.F.slot_list_append PySem.F.type_list_append mt_append (pv 1) (pa_cons (pv 3) pa_nil))))
            (pss_one (ps_if (PW.pt (pw_or (pt_not (pt_val (pe_callB call_isiT (by rfl) M.isi PyProof.Rows.boot_isinstance (pa_cons (pv 3) (pa_cons (pe_tup (pa_cons (pe_bltn (v := .ty "tuple") (by rfl) M.tup (by decide +kernel : bootBuiltins "tuple" = some (.type "tuple")) rfl) (pa_cons (pe_bltn (v := .ty "list") (by rfl) M.lst (by decide +kernel : bootBuiltins "list" = some (.type "list")) rfl) pa_nil))) pa_nil)))))
                (pw_or1 (pt_cmpR op_ne (pe_callB call_len (by rfl) M.len PySem.boot_len (pa_cons (pv 3) pa_nil)) pe_int (nomark _)))))
              (pss_one ps_never)
              (pss_one (ps_aug (i := 2) scLeaves.nd rfl (.inl rfl) (pe_lst (pa_cons (pe_ix ix_tup (pv 3) pe_int (fun _ _ => rfl)) (pa_cons (pe_ix ix_tup (pv 3) pe_int (fun _ _ => rfl)) pa_nil))) iop_ext)))))
        (pss_one (ps_if (pt_cmpR op_gt (pe_op op_add (pe_callB call_len (by rfl) M.len PySem.boot_len (pa_cons (pv 1) pa_nil)) (pe_callB call_len (by rfl) M.len PySem.boot_len (pa_cons (pv 2) pa_nil))) (pe_con_ M.leaves (by rfl)) (nomark _)) (pss_one ps_never) pss_nil)))))
      (pss_one (ps_ret (pv 1))))), ?_⟩
    refine ⟨Nat.zero_le _, fun lf hlf => ?_⟩
    refine ⟨_, rfl, (by show 1 ≤ sizeLine; decide), fun lw hlw => ?_⟩
    have hlw0 : H lw = none := by
      by_cases e : lw = lf
      · rw [e, upd_same] at hlw
        cases hlw
      · rw [upd_ne e] at hlw
        exact hlw
    have nlw : lf ≠ lw := fun e => by
      rw [← e, upd_same] at hlw
      cases hlw
    have sm0 : Same H (upd (upd H lf (.lst [])) lw (.lst [x])) := same_upd (same_new hlf) hlw0
    refine ⟨fun n σ H' => ∃ xs ts fs y3, σ = [some x, some (.ref lf), some (.ref lw), y3] ∧ Same H H' ∧ H' lf = some (.lst fs) ∧ H' lw = some (.lst xs) ∧ TmL H' xs ts ∧ fs.length + lvs ts = t.lv ∧ n = szs ts,
      ⟨_, [x], [t], [], none, rfl, sm0, by rw [upd_ne nlw, upd_same], upd_same, .cons (ht.same sm0) .nil, by rw [lvs_one]; simp, rfl⟩, ?_⟩
    rintro n σ H' ⟨xs, ts, fs, y3, rfl, sm, ef, ew, hx, hsum, rfl⟩
    refine ⟨_, rfl, _, .inl ⟨xs, SqL.of ew, rfl⟩, ?_⟩
    cases xs with
    | nil => exact iteF ⟨_, rfl, q _ _ sm⟩
    | cons v0 r0 =>
      refine iteT ⟨fun σ' H' => ∃ xs ts' fs y3, σ' = [some x, some (.ref lf), some (.ref lw), y3] ∧ Same H H' ∧ H' lf = some (.lst fs) ∧ H' lw = some (.lst xs) ∧ TmL H' xs ts' ∧ fs.length + lvs ts' = t.lv ∧ szs ts' < szs ts,
        fun σ' H' ⟨xs, ts', fs, y3, e1, e2, e3, e4, e5, e6, e7⟩ => ⟨_, e7, xs, ts', fs, y3, e1, e2, e3, e4, e5, e6, rfl⟩, ?_⟩
      obtain ⟨xs', v, ts', u, exs, ets, hx', hv⟩ := hx.last (by simp)
      rw [exs] at ew hx
      rw [ets] at hsum ⊢
      clear exs ets
      rw [lvs_app, lvs_one] at hsum
      -- part = waiting.pop()
      refine ⟨_, rfl, .inl ⟨rfl, _, SqL.of ew⟩, lw, xs' ++ [v], v, rfl, rfl, ew, by simp, ?_⟩
      have sm1 : Same H (upd H' lw (.lst (xs' ++ [v]).dropLast)) := same_upd sm hlw0
      have kt : ∀ b ys, H' b = some (.tup ys) → (upd H' lw (.lst (xs' ++ [v]).dropLast)) b = some (.tup ys) := fun b ys e => by
        rw [upd_ne (ne_of e ew (fun z => nomatch z))]
        exact e
      have ed : (xs' ++ [v]).dropLast = xs' := List.dropLast_concat
      have hv1 := hv.keep kt
      have hx1 := TmL.keep kt hx'
      rw [ed] at sm1 kt hv1 hx1 ⊢
      have ef1 : (upd H' lw (.lst xs')) lf = some (.lst fs) := by
        rw [upd_ne nlw]
        exact ef
      refine ⟨_, rfl, v, u, rfl, hv1, fun H2 sm2 => ⟨_, rfl, ?_⟩⟩
      have ef2 : H2 lf = some (.lst fs) := sm2 _ _ ef1
      have ew2 : H2 lw = some (.lst xs') := sm2 _ _ upd_same
      have smA : Same H H2 := sm1.trans sm2
      have hl1 : xs'.length ≤ lvs ts' := by
        rw [hx1.len]
        exact len_lvs ts'
      have up := u.lv_pos
      cases u with
      | nm y =>
        -- found.append(part)
        refine iteT ⟨_, rfl, .inl ⟨rfl, _, SqL.of ef2⟩, v, rfl, lf, fs, v, rfl, rfl, ef2, small1000 (by omega), ?_⟩
        refine ⟨_, rfl, _, _, rfl, .inl ⟨_, SqL.of upd_same, rfl⟩, _, rfl, _, _, rfl, .inl ⟨xs', SqL.of (by rw [upd_ne nlw.symm]; exact ew2), rfl⟩, _, _, rfl, rfl, _, _, rfl, rfl, _, rfl, iteDF ?_ ?_⟩
        · rw [List.length_append, List.length_singleton]
          have h1 : (T.nm y).lv = 1 := rfl
          omega
        · refine ⟨xs', ts', fs ++ [v], some v, rfl, same_upd smA hlf, upd_same, by rw [upd_ne nlw.symm]; exact ew2, TmL.keep (fun b ys e => ?_) (hx1.same sm2), ?_, ?_⟩
          · rw [upd_ne (ne_of e ef2 (fun z => nomatch z))]
            exact e
          · rw [List.length_append, List.length_singleton]
            have h1 : (T.nm y).lv = 1 := rfl
            omega
          · rw [szs_app, szs_one]
            have h1 : (T.nm y).sz = 1 := rfl
            omega
      | pr ul ur =>
        obtain ⟨p, v1, v2, l, r, ev, ep, hl_, hr2, el⟩ : ∃ p v1 v2 l r, v = .ref p ∧ H2 p = some (.tup [v1, v2]) ∧ Tm H2 v1 l ∧ Tm H2 v2 r ∧ T.pr l r = T.pr ul ur := by
          have hv2 := hv1.same sm2
          cases hv2 with
          | pr e k1 k2 => exact ⟨_, _, _, _, _, rfl, e, k1, k2, rfl⟩
        injection el with el1 el2
        subst ev el1 el2
        refine iteF ⟨_, rfl, (by show 2 ≤ sizeLine; decide), fun tp htp => ?_⟩
        have smT := same_new (o := .tup [.ty "tuple", .ty "list"]) htp
        have ep3 := smT _ _ ep
        refine ⟨.ref p, tp, _, _, _, true, rfl, upd_same, .cons (.ty "tuple") (.cons (.ty "list") .nil), .base (.tup ep3),
          kitAny_cons (b := true) (kit_ty (by decide +kernel : kitB "tuple" "tuple" = some true)) (fun z => nomatch z) (fun _ => rfl), true, rfl, iteF ?_⟩
        refine ⟨_, rfl, _, _, rfl, .inr ⟨_, SqT.of ep3, rfl⟩, rfl, _, rfl, iteNS rfl ?_⟩
        -- waiting += [part[1], part[0]]
        refine ⟨_, rfl, _, rfl, p, _, _, v2, rfl, rfl, SqT.of ep3, atI_nat (j := 1) rfl, _, rfl, p, _, _, v1, rfl, rfl, SqT.of ep3, atI_nat (j := 0) rfl, (by show 2 ≤ sizeLine; decide), fun tl htl => ?_⟩
        have smL := same_new (o := .lst [v2, v1]) htl
        have ew4 := smL _ _ (smT _ _ ew2)
        have hlr : (T.pr l r).lv = l.lv + r.lv := rfl
        have slr : (T.pr l r).sz = l.sz + r.sz + 1 := rfl
        have hl := l.lv_pos
        have hr' := r.lv_pos
        refine ⟨lw, tl, xs', [v2, v1], rfl, rfl, ew4, upd_same, small300 (by show xs'.length + 2 ≤ 1000; omega), ?_⟩
        have ef5 : (upd (upd (upd H2 tp (.tup [.ty "tuple", .ty "list"])) tl (.lst [v2, v1])) lw (.lst (xs' ++ [v2, v1]))) lf = some (.lst fs) := by
          rw [upd_ne nlw]
          exact smL _ _ (smT _ _ ef2)
        refine ⟨_, rfl, _, _, rfl, .inl ⟨_, SqL.of ef5, rfl⟩, _, rfl, _, _, rfl, .inl ⟨_, SqL.of upd_same, rfl⟩, _, _, rfl, rfl, _, _, rfl, rfl, _, rfl, iteDF ?_ ?_⟩
        · rw [List.length_append]
          show ¬ ((fs.length : Int) + ((xs'.length + 2 : Nat) : Int) > 200)
          omega
        · refine ⟨xs' ++ [v2, v1], ts' ++ [r, l], fs, _, rfl, same_upd (smA.trans (smT.trans smL)) hlw0, ef5, upd_same, TmL.keep (fun b ys e => ?_) ((TmL.same (smT.trans smL) (hx1.same sm2)).app (.cons (hr2.same (smT.trans smL)) (.cons (hl_.same (smT.trans smL)) .nil))), ?_, ?_⟩
          · rw [upd_ne (ne_of e ew4 (fun z => nomatch z))]
            exact e
          · rw [lvs_app, lvs_two]
            omega
          · rw [szs_app, szs_app, szs_two, szs_one]
            omega

/-! ### check_term -/
def spCheck : Sp := fun vs H Q _ => ∃ (x : V) (t : T), vs = [x] ∧ Tm H x t ∧ t.lv ≤ 200 ∧ ∀ H', Same H H' → Q .non H'
theorem scCheck : FnScope ["term"] ["term"] (defScope sCheck) := ⟨rfl, rfl, rfl, by decide +kernel, rfl, by decide +kernel, by decide +kernel⟩
theorem ok_check {f : Addr} {fd : FuncData} (F : Fun K "check_term" "check_term" sCheck f fd) (GL : Fn P w K mg base 2 "leaves" ["term"] spLeaves) : FnOk P w K mg base CX0 3 f fd ["term"] spCheck := by
  refine F.ok scCheck (fun vs H Q E h => ?_) (fun cdv A outer s H vs Q E hr h => ?_)
  · obtain ⟨x, t, rfl, _⟩ := h
    rfl
  · obtain ⟨x, t, rfl, ht, h200, q⟩ := h
    refine ⟨_, pss_one (ps_expr (pe_fn GL hr (by decide) (pa_cons (pv 0) pa_nil) (by rfl))), ?_⟩
    exact ⟨_, rfl, x, t, rfl, ht, h200, fun v H' sm => q H' sm⟩
end
end TP
/-! W2: ==, in, < on terms and keys; kept, written, place_in_order. -/
namespace TP
open PySem PySem.Spec PyProof.Rows L2

/-! ### operators -/
section
variable {X : Cx}
def rEqT : R2 := fun x y H Q => ∃ a b, Tm H x a ∧ Tm H y b ∧ a.dp ≤ 60 ∧ b.dp ≤ 60 ∧ Q (.bl (decide (a = b))) H
def rNeT : R2 := fun x y H Q => ∃ a b, Tm H x a ∧ Tm H y b ∧ a.dp ≤ 60 ∧ b.dp ≤ 60 ∧ Q (.bl (!decide (a = b))) H
theorem op_eqT (hu : X.A.units + 64 < cLine) : OpR X (compareOp .Eq) rEqT := by
  intro pins s σ H x y v u Q I rx ry h
  obtain ⟨a, b, ha, hb, da, db, q⟩ := h
  exact op_eqD hu pins s σ H x y v u Q I rx ry ⟨tD a, tD b, ha.dat, hb.dat, tD_shaped ha.ok (by omega), tD_shaped hb.ok (by omega), by rw [tD_eqv]; exact q⟩
theorem op_neT (hu : X.A.units + 64 < cLine) : OpR X (compareOp .NotEq) rNeT := by
  intro pins s σ H x y v u Q I rx ry h
  obtain ⟨a, b, ha, hb, da, db, q⟩ := h
  exact op_neD hu pins s σ H x y v u Q I rx ry ⟨tD a, tD b, ha.dat, hb.dat, tD_shaped ha.ok (by omega), tD_shaped hb.ok (by omega), by rw [tD_eqv]; exact q⟩
/-- part in whole -/
def rInT : R2 := fun x y H Q => ∃ (a l r : T), Tm H x a ∧ Tm H y (.pr l r) ∧ a.dp ≤ 60 ∧ (T.pr l r).dp ≤ 60 ∧ Q (.bl (has a (.pr l r))) H
theorem op_inT (hu : X.A.units + 65 < cLine) : OpR X (compareOp .In) rInT := by
  intro pins s σ H x y v u Q I rx ry h
  obtain ⟨a, l, r, ha, hb, da, db, q⟩ := h
  obtain ⟨as, r1⟩ := Dp.reads I (tD a) x v ha.dat rx
  obtain ⟨bs, r2⟩ := Dp.reads I (tD (.pr l r)) y u hb.dat ry
  have hd : max l.dp r.dp + 1 ≤ 60 := db
  refine SeqAt.in_tuple_reads (xs := [tD l, tD r]) r2 r1 (by simp [PyData.canLayAll0, tD_lay hb.ok.1, tD_lay hb.ok.2]) (tD_lay ha.ok) ?_ ⟨.bl _, H, I, rfl, ?_⟩
  · rw [tD_depth]
    omega
  · have e : ([tD l, tD r].any fun y => PyData.eqv y (tD a)) = has a (.pr l r) := by
      simp only [List.any_cons, List.any_nil, Bool.or_false, tD_eqv]
      rfl
    rw [e]
    exact q
/-- < of two keys -/
def KeyAt (H : Hp) (p : Addr) (a : T) : Prop := H p = some (.tup [.int (a.tx.length : Nat), .str (txS a)])
def rLtK : R2 := fun x y H Q => ∃ p q a b, x = .ref p ∧ y = .ref q ∧ KeyAt H p a ∧ KeyAt H q b ∧ Q (.bl (lt a b)) H
theorem kD_lt (a b : T) (x y : V) : PySem.W.dataLt (kD (x, a)) (kD (y, b)) = lt a b := by
  show PySem.W.dataLt (.tuple [.int (a.tx.length : Nat), .str (txS a)]) (.tuple [.int (b.tx.length : Nat), .str (txS b)]) = lt a b
  rw [PySem.W.dataLt_pair (by simp [PySem.W.alike]) (by simp [PySem.W.alike]), PySem.W.dataLt_str, PySem.W.dataLt_int]
  have ht : ∀ t : T, (txS t).cps.toList = t.tx := fun t => by simp [txS]
  rw [ht, ht]
  unfold lt
  by_cases e : a.tx.length = b.tx.length
  · have e' : PyData.eqv (.int (a.tx.length : Nat)) (.int (b.tx.length : Nat)) = true := by simp [PyData.eqv, e]
    rw [if_pos e', if_pos e]
    by_cases k : txS a = txS b
    · have k' : PyData.eqv (.str (txS a)) (.str (txS b)) = true := by simp [PyData.eqv, k]
      rw [if_pos k']
      have k2 : a.tx = b.tx := by rw [← ht a, ← ht b, k]
      rw [k2]
      exact (decide_eq_false (List.lt_irrefl _)).symm
    · have k' : ¬ PyData.eqv (.str (txS a)) (.str (txS b)) = true := by simpa [PyData.eqv] using k
      rw [if_neg k']
  · have e' : ¬ PyData.eqv (.int (a.tx.length : Nat)) (.int (b.tx.length : Nat)) = true := by
      simp only [PyData.eqv]
      intro z
      have z' := eq_of_beq z
      exact e (by omega)
    rw [if_neg e', if_neg e]
    have q : ((a.tx.length : Int) < (b.tx.length : Int)) ↔ a.tx.length < b.tx.length := by omega
    by_cases l : a.tx.length < b.tx.length
    · rw [decide_eq_true l, decide_eq_true (q.mpr l)]
    · rw [decide_eq_false l, decide_eq_false (fun z => l (q.mp z))]
theorem op_ltK (hu : X.A.units + 64 < cLine) : OpR X (compareOp .Lt) rLtK := by
  intro pins s σ H x y v u Q I rx ry h
  obtain ⟨p, q, a, b, rfl, rfl, ha, hb, k⟩ := h
  obtain ⟨as, r1⟩ := Dp.reads I (kD (.non, a)) _ v (.tup (.inl (.inl ha)) (.cons (.int _) (.cons (.str _) .nil))) rx
  obtain ⟨bs, r2⟩ := Dp.reads I (kD (.non, b)) _ u (.tup (.inl (.inl hb)) (.cons (.int _) (.cons (.str _) .nil))) ry
  refine PySem.W.cmp_ofLt (PySem.W.rcLt_alike (kD (.non, a)) (kD (.non, b)) X.A s v u as bs r1 r2 (kD_alike _ _) (fun z => nomatch z) ?_ X.prog X.w X.xe (EP X pins σ Q) ⟨.bl _, H, I, rfl, by rw [kD_lt]; exact k⟩)
  rw [kD_depth]
  omega
end

/-! ### a def of the module, before its promise -/
def Def (K : PySem.W.Frag) (mg : Str → Option Value) (x : Str) (st : Stmt) (ps : List Str) : Prop := ∃ (f : Addr) (fd : FuncData), Fun K x x st f fd ∧ mg x = some (.ref f) ∧ Binds K fd ps []
section
variable {P : Program} {w : World} {K : PySem.W.Frag} {mg : Str → Option Value} {base : Heap} {x : Str} {st : Stmt} {ps : List Str}
theorem Def.fn (D : Def K mg x st ps) {k : Nat} {sp : Sp} (h : ∀ f fd, Fun K x x st f fd → FnOk P w K mg base CX0 k f fd ps sp) : Fn P w K mg base k x ps sp := by
  obtain ⟨f, fd, F, m, b⟩ := D
  exact ⟨f, fd, h f fd F, m, F.kp, b⟩
/-- a def that calls itself: n calls deep, above level c -/
theorem Def.rec (D : Def K mg x st ps) (c : Nat) (sp : Nat → Sp) (h0 : ∀ vs H Q E, ¬ sp 0 vs H Q E) (hs : ∀ n f fd, Fun K x x st f fd → Fn P w K mg base (c + n) x ps (sp n) → FnOk P w K mg base CX0 (c + (n + 1)) f fd ps (sp (n + 1))) : ∀ n, Fn P w K mg base (c + n) x ps (sp n)
  | 0 => D.fn fun f fd F => ⟨fun vs H Q E h => absurd h (h0 vs H Q E), fun A outer s H args us vs Q E _ _ _ _ h => absurd h (h0 vs H Q E)⟩
  | n + 1 => D.fn fun f fd F => hs n f fd F (Def.rec D c sp h0 hs n)

/-! ### kept -/
def spKept (n : Nat) : Sp := fun vs H Q _ => ∃ (x : V) (t : T), vs = [x] ∧ Tm H x t ∧ t.dp < n ∧ ∀ v H', Same H H' → Tm H' v t → Q v H'
theorem scKept : FnScope ["term"] ["term"] (defScope sKept) := ⟨rfl, rfl, rfl, by decide +kernel, rfl, by decide +kernel, by decide +kernel⟩
theorem ok_kept {f : Addr} {fd : FuncData} {n : Nat} (F : Fun K "kept" "kept" sKept f fd) (M : Txt K mg) (G : Fn P w K mg base n "kept" ["term"] (spKept n)) : FnOk P w K mg base CX0 (n + 1) f fd ["term"] (spKept (n + 1)) := by
  refine F.ok scKept (fun vs H Q E h => ?_) (fun cdv A outer s H vs Q E hr h => ?_)
  · obtain ⟨x, t, rfl, _⟩ := h
    rfl
  · obtain ⟨x, t, rfl, ht, hd, q⟩ := h
    refine ⟨_, pss_one (ps_ret (pe_ifExp (pt_val (pe_isStr M (pv 0) (by rfl) (by rfl))) (pv 0)
      (pe_tup (pa_cons (pe_fn G hr (Nat.le_refl _) (pa_cons (pe_ix ix_tup (pv 0) pe_int (fun _ _ => rfl)) pa_nil) (by rfl)) (pa_cons (pe_fn G hr (Nat.le_refl _) (pa_cons (pe_ix ix_tup (pv 0) pe_int (fun _ _ => rfl)) pa_nil) (by rfl)) pa_nil))))), ?_⟩
    refine ⟨_, rfl, x, rfl, isStrQ.of ht (fun y ey ex => ?_) (fun a u v l r et ex ea hu hv => ?_)⟩
    · exact ⟨true, rfl, iteT ⟨_, rfl, q x H (Same.refl H) ht⟩⟩
    · subst et ex
      have hd' : max l.dp r.dp + 1 < n + 1 := hd
      refine ⟨false, rfl, iteF ⟨_, rfl, a, _, _, u, rfl, rfl, SqT.of ea, atI_nat (j := 0) rfl, u, l, rfl, hu, by omega, fun v1 H1 s1 t1 => ?_⟩⟩
      refine ⟨_, rfl, a, _, _, v, rfl, rfl, SqT.of (s1 _ _ ea), atI_nat (j := 1) rfl, v, r, rfl, hv.same s1, by omega, fun v2 H2 s2 t2 => ?_⟩
      exact ⟨(by show 2 ≤ sizeLine; decide), fun p hp => q _ _ ((s1.trans s2).trans (same_new hp)) (.pr upd_same ((t1.same s2).same (same_new hp)) (t2.same (same_new hp)))⟩
theorem fn_kept (D : Def K mg "kept" sKept ["term"]) (M : Txt K mg) (n : Nat) : Fn P w K mg base n "kept" ["term"] (spKept n) := by
  have h := D.rec (P := P) (w := w) (base := base) 0 spKept (fun vs H Q E ⟨_, _, _, _, h, _⟩ => absurd h (Nat.not_lt_zero _)) (fun n f fd F G => by
    rw [Nat.zero_add] at G ⊢
    exact ok_kept F M G) n
  rw [Nat.zero_add] at h
  exact h

/-! ### written -/
theorem tx_len : ∀ {t : T}, t.ok → t.tx.length + 3 ≤ 15 * t.lv
  | .nm x, h => by
    have h1 : x.cps.toList.length ≤ 12 := by
      rw [Array.length_toList]
      exact h.1
    show x.cps.toList.length + 3 ≤ 15 * 1
    omega
  | .pr a b, h => by
    have h1 := tx_len h.1
    have h2 := tx_len h.2
    show (40 :: (a.tx ++ 32 :: (b.tx ++ [41]))).length + 3 ≤ 15 * (a.lv + b.lv)
    simp only [List.length_cons, List.length_append, List.length_nil]
    omega
theorem txS_len (t : T) : (txS t).length = t.tx.length := by simp [txS, Str.length]
theorem str_app_len (a b : Str) : (a ++ b).length = a.length + b.length := by
  show (a.cps ++ b.cps).size = a.cps.size + b.cps.size
  rw [Array.size_append]
theorem txS_pr (a b : T) : Str.empty ++ ("(" : Str) ++ txS a ++ (" " : Str) ++ txS b ++ (")" : Str) = txS (.pr a b) := by
  apply ext_cps
  show (Str.empty.cps ++ ("(" : Str).cps ++ (txS a).cps ++ (" " : Str).cps ++ (txS b).cps ++ (")" : Str).cps).toList = _
  simp only [Array.toList_append]
  have e1 : ("(" : Str).cps.toList = [40] := by decide +kernel
  have e2 : (" " : Str).cps.toList = [32] := by decide +kernel
  have e3 : (")" : Str).cps.toList = [41] := by decide +kernel
  have e0 : Str.empty.cps.toList = [] := by decide +kernel
  rw [e0, e1, e2, e3]
  simp [txS, T.tx]
def spWritten (n : Nat) : Sp := fun vs H Q _ => ∃ (x : V) (t : T), vs = [x] ∧ Tm H x t ∧ t.dp < n ∧ t.lv ≤ 200 ∧ Q (.str (txS t)) H
theorem scWritten : FnScope ["term"] ["term"] (defScope sWritten) := ⟨rfl, rfl, rfl, by decide +kernel, rfl, by decide +kernel, by decide +kernel⟩
theorem ok_written {f : Addr} {fd : FuncData} {n : Nat} (F : Fun K "written" "written" sWritten f fd) (M : Txt K mg) (G : Fn P w K mg base n "written" ["term"] (spWritten n)) : FnOk P w K mg base CX0 (n + 1) f fd ["term"] (spWritten (n + 1)) := by
  refine F.ok scWritten (fun vs H Q E h => ?_) (fun cdv A outer s H vs Q E hr h => ?_)
  · obtain ⟨x, t, rfl, _⟩ := h
    rfl
  · obtain ⟨x, t, rfl, ht, hd, hl, q⟩ := h
    refine ⟨_, pss_one (ps_ret (pe_ifExp (pt_val (pe_isStr M (pv 0) (by rfl) (by rfl))) (pv 0)
      (pe_joined (PJ.cons pe_str (PJ.cons (pe_fmt (pe_fn G hr (Nat.le_refl _) (pa_cons (pe_ix ix_tup (pv 0) pe_int (fun _ _ => rfl)) pa_nil) (by rfl))) (PJ.cons pe_str (PJ.cons (pe_fmt (pe_fn G hr (Nat.le_refl _) (pa_cons (pe_ix ix_tup (pv 0) pe_int (fun _ _ => rfl)) pa_nil) (by rfl))) (PJ.cons pe_str PJ.nil)))))))), ?_⟩
    refine ⟨_, rfl, x, rfl, isStrQ.of ht (fun y ey ex => ?_) (fun a u v l r et ex ea hu hv => ?_)⟩
    · subst ey ex
      have e : txS (.nm y) = y := ext_cps (by simp [txS, T.tx])
      rw [e] at q
      exact ⟨true, rfl, iteT ⟨_, rfl, q⟩⟩
    · subst et ex
      have hd' : max l.dp r.dp + 1 < n + 1 := hd
      have hl' : l.lv + r.lv ≤ 200 := hl
      have l1 := tx_len hu.ok
      have l2 := tx_len hv.ok
      have k1 := txS_len l
      have k2 := txS_len r
      have z : ∀ {m : Nat}, m ≤ 4000 → m ≤ sizeLine := fun h => Nat.le_trans h (by decide)
      have c0 : Str.empty.length = 0 := by decide +kernel
      have c1 : ("(" : Str).length = 1 := by decide +kernel
      have c2 : (" " : Str).length = 1 := by decide +kernel
      have c3 : (")" : Str).length = 1 := by decide +kernel
      refine ⟨false, rfl, iteF ⟨_, rfl, z ?_, _, rfl, a, _, _, u, rfl, rfl, SqT.of ea, atI_nat (j := 0) rfl, u, l, rfl, hu, by omega, by omega, .inl ⟨_, rfl, z ?_, _, rfl, z ?_, _, rfl, z ?_,
        _, rfl, a, _, _, v, rfl, rfl, SqT.of ea, atI_nat (j := 1) rfl, v, r, rfl, hv, by omega, by omega, .inl ⟨_, rfl, z ?_, _, rfl, z ?_, _, rfl, z ?_, ?_⟩⟩⟩⟩
      · simp only [str_app_len]; omega
      · omega
      · simp only [str_app_len]; omega
      · simp only [str_app_len]; omega
      · omega
      · simp only [str_app_len]; omega
      · simp only [str_app_len]; omega
      · show Q (.str (Str.empty ++ ("(" : Str) ++ txS l ++ (" " : Str) ++ txS r ++ (")" : Str))) H
        rw [txS_pr]
        exact q
theorem fn_written (D : Def K mg "written" sWritten ["term"]) (M : Txt K mg) (n : Nat) : Fn P w K mg base n "written" ["term"] (spWritten n) := by
  have h := D.rec (P := P) (w := w) (base := base) 0 spWritten (fun vs H Q E ⟨_, _, _, _, h, _⟩ => absurd h (Nat.not_lt_zero _)) (fun n f fd F G => by
    rw [Nat.zero_add] at G ⊢
    exact ok_written F M G) n
  rw [Nat.zero_add] at h
  exact h

/-! ### place_in_order -/
theorem scPlace : FnScope ["term", "text"] ["term"] (defScope sPlace) := ⟨rfl, rfl, rfl, by decide +kernel, rfl, by decide +kernel, by decide +kernel⟩
theorem ok_place {f : Addr} {fd : FuncData} (F : Fun K "place_in_order" "place_in_order" sPlace f fd) (M : Txt K mg) (G : Fn P w K mg base 21 "written" ["term"] (spWritten 21)) : FnOk P w K mg base CX0 22 f fd ["term"] spKey := by
  refine F.ok scPlace (fun vs H Q E h => ?_) (fun cdv A outer s H vs Q E hr h => ?_)
  · obtain ⟨x, t, rfl, _⟩ := h
    rfl
  · obtain ⟨x, t, rfl, ht, hl, hd, q⟩ := h
    refine ⟨_, pss_cons (ps_set (i := 1) scPlace.nd rfl (.inl rfl) (pe_fn G hr (Nat.le_refl _) (pa_cons (pv 0) pa_nil) (by rfl)))
      (pss_one (ps_ret (pe_tup (pa_cons (pe_callB call_len_str (by rfl) M.len PySem.boot_len (pa_cons (pv 1) pa_nil)) (pa_cons (pv 1) pa_nil))))), ?_⟩
    have l1 := tx_len ht.ok
    have k1 := txS_len t
    refine ⟨_, rfl, x, t, rfl, ht, by omega, hl, _, rfl, _, rfl, Nat.le_trans (show (txS t).length ≤ 4000 by omega) (by decide), _, rfl, (by show 2 ≤ sizeLine; decide), fun p hp => ?_⟩
    refine q p _ (same_new hp) hp ?_
    rw [upd_same, k1]
end
end TP
/-! M2: partings, as plain mathematics. -/
namespace TP
open PySem
/-- the plain forms of all parts -/
def pts : T → List T
  | .nm x => [.nm x]
  | .pr a b => pts a ++ pts b ++ [br (.pr a b)]
theorem pts_len : ∀ t : T, (pts t).length + 1 ≤ 2 * t.lv
  | .nm _ => Nat.le_refl _
  | .pr a b => by
    have h1 := pts_len a
    have h2 := pts_len b
    show (pts a ++ pts b ++ [br (.pr a b)]).length + 1 ≤ 2 * (a.lv + b.lv)
    rw [List.length_append, List.length_append, List.length_singleton]
    omega
theorem mem_pts_pr {p a b : T} : p ∈ pts (.pr a b) ↔ p ∈ pts a ∨ p ∈ pts b ∨ p = br (.pr a b) := by
  show p ∈ pts a ++ pts b ++ [br (.pr a b)] ↔ _
  rw [List.mem_append, List.mem_append, List.mem_singleton]
  exact ⟨fun h => h.elim (fun h => h.elim .inl fun h => .inr (.inl h)) fun h => .inr (.inr h), fun h => h.elim (fun h => .inl (.inl h)) fun h => h.elim (fun h => .inl (.inr h)) .inr⟩
theorem br_mem : ∀ t : T, br t ∈ pts t
  | .nm x => List.mem_singleton.mpr rfl
  | .pr a b => mem_pts_pr.mpr (.inr (.inr rfl))
/-- sides of what is in S are in S -/
def Closed (S : T → Prop) : Prop := ∀ a b, S (.pr a b) → S a ∧ S b
theorem oth_in {S : T → Prop} (c : Closed S) {a b : T} (h : S b) : S (oth a b) := by
  cases b with
  | nm x => exact h
  | pr p q =>
    show S (if p = a then q else p)
    split
    · exact (c p q h).2
    · exact (c p q h).1
theorem pts_closed : ∀ t : T, Closed (· ∈ pts t)
  | .nm x => fun a b h => by
    have := List.mem_singleton.mp h
    cases this
  | .pr l r => by
    have cl := pts_closed l
    have cr := pts_closed r
    have key : ∀ a b, T.pr a b = br (.pr l r) → (a ∈ pts l ∨ a ∈ pts r) ∧ (b ∈ pts l ∨ b ∈ pts r) := by
      intro a b e
      have e' : T.pr a b = jo (br l) (br r) := e
      have hl := br_mem l
      have hr := br_mem r
      by_cases h0 : br l = br r
      · rw [h0, jo_same] at e'
        rw [← e'] at hr
        exact ⟨.inr (cr a b hr).1, .inr (cr a b hr).2⟩
      · cases h1 : has (br l) (br r) with
        | true =>
          rw [jo_has h1] at e'
          have := oth_in cr (a := br l) hr
          rw [← e'] at this
          exact ⟨.inr (cr a b this).1, .inr (cr a b this).2⟩
        | false =>
          cases h2 : has (br r) (br l) with
          | true =>
            rw [jo_has' h2] at e'
            have := oth_in cl (a := br r) hl
            rw [← e'] at this
            exact ⟨.inl (cl a b this).1, .inl (cl a b this).2⟩
          | false =>
            cases h : lt (br l) (br r) with
            | true =>
              rw [jo_lt h0 h1 h2 h] at e'
              injection e' with e1 e2
              exact ⟨.inl (e1 ▸ hl), .inr (e2 ▸ hr)⟩
            | false =>
              rw [jo_gt h0 h1 h2 h] at e'
              injection e' with e1 e2
              exact ⟨.inr (e1 ▸ hr), .inl (e2 ▸ hl)⟩
    intro a b h
    rcases mem_pts_pr.mp h with h | h | h
    · exact ⟨mem_pts_pr.mpr (.inl (cl a b h).1), mem_pts_pr.mpr (.inl (cl a b h).2)⟩
    · exact ⟨mem_pts_pr.mpr (.inr (.inl (cr a b h).1)), mem_pts_pr.mpr (.inr (.inl (cr a b h).2))⟩
    · obtain ⟨k1, k2⟩ := key a b h
      exact ⟨mem_pts_pr.mpr (k1.elim .inl fun z => .inr (.inl z)), mem_pts_pr.mpr (k2.elim .inl fun z => .inr (.inl z))⟩
theorem pts_nf : ∀ {t : T}, t.ok → ∀ p ∈ pts t, nf p ∧ p.ok
  | .nm x, h, p, hp => by
    rw [List.mem_singleton.mp hp]
    exact ⟨True.intro, h⟩
  | .pr a b, h, p, hp => by
    rcases mem_pts_pr.mp hp with q | q | q
    · exact pts_nf h.1 p q
    · exact pts_nf h.2 p q
    · rw [q]
      exact ⟨br_nf (t := .pr a b) h, br_ok (t := .pr a b) h⟩
theorem pts_lv : ∀ {t p : T}, p ∈ pts t → p.lv ≤ t.lv
  | .nm x, p, hp => by
    rw [List.mem_singleton.mp hp]
    exact Nat.le_refl _
  | .pr a b, p, hp => by
    have e : (T.pr a b).lv = a.lv + b.lv := rfl
    rcases mem_pts_pr.mp hp with q | q | q
    · have := pts_lv q
      omega
    · have := pts_lv q
      omega
    · rw [q]
      exact br_lv _
theorem pts_dp : ∀ {t p : T}, p ∈ pts t → p.dp ≤ t.dp
  | .nm x, p, hp => by
    rw [List.mem_singleton.mp hp]
    exact Nat.le_refl _
  | .pr a b, p, hp => by
    have e : (T.pr a b).dp = max a.dp b.dp + 1 := rfl
    rcases mem_pts_pr.mp hp with q | q | q
    · have := pts_dp q
      omega
    · have := pts_dp q
      omega
    · rw [q]
      exact br_dp _
/-- the parts of a plain form: what is in S with its sides -/
theorem pts_in {S : T → Prop} (c : Closed S) : ∀ {t : T}, nf t → S t → ∀ p ∈ pts t, S p
  | .nm x, _, h, p, hp => by
    rw [List.mem_singleton.mp hp]
    exact h
  | .pr a b, n, h, p, hp => by
    rcases mem_pts_pr.mp hp with q | q | q
    · exact pts_in c n.1 (c a b h).1 p q
    · exact pts_in c n.2.1 (c a b h).2 p q
    · rw [q, br_of_nf n]
      exact h

/-! ### two threes meet in at most one point -/
/-- s is p or a side of p -/
def In3 (p s : T) : Prop := s = p ∨ has s p = true
theorem two_sides {p s t : T} (n : nf p) (hst : s ≠ t) (h1 : has s p = true) (h2 : has t p = true) : has s t = false ∧ has t s = false ∧ (p = .pr s t ∨ p = .pr t s) := by
  obtain ⟨a, b, rfl, e1⟩ := has_pr h1
  have e2 := has_iff.mp h2
  rcases e1 with e1 | e1 <;> rcases e2 with e2 | e2
  · exact absurd (e1.symm.trans e2) hst
  · subst e1 e2
    exact ⟨n.2.2.2.1, n.2.2.2.2.1, .inl rfl⟩
  · subst e1 e2
    exact ⟨n.2.2.2.2.1, n.2.2.2.1, .inr rfl⟩
  · exact absurd (e1.symm.trans e2) hst
theorem meet_once {p q s t : T} (np : nf p) (nq : nf q) (hpq : p ≠ q) (hst : s ≠ t) (h1 : In3 p s) (h2 : In3 p t) (h3 : In3 q s) (h4 : In3 q t) : False := by
  have key : ∀ {p q s t : T}, nf p → nf q → p ≠ q → s = p → has t p = true → In3 q s → In3 q t → False := by
    intro p q s t np nq hpq e h2 h3 h4
    subst e
    rcases h3 with e | h3
    · exact hpq e
    · rcases h4 with e | h4
      · subst e
        have := has_sz h2
        have := has_sz h3
        omega
      · have hst : s ≠ t := fun e => by
          have := has_sz h2
          rw [e] at this
          exact Nat.lt_irrefl _ this
        have := (two_sides nq hst h3 h4).2.1
        rw [h2] at this
        cases this
  rcases h1 with e1 | h1
  · rcases h2 with e2 | h2
    · exact hst (e1.trans e2.symm)
    · exact key np nq hpq e1 h2 h3 h4
  · rcases h2 with e2 | h2
    · exact key np nq hpq e2 h1 h4 h3
    · rcases h3 with e3 | h3
      · rcases h4 with e4 | h4
        · exact hst (e3.trans e4.symm)
        · exact key nq np (fun e => hpq e.symm) e3 h4 (.inr h1) (.inr h2)
      · rcases h4 with e4 | h4
        · exact key nq np (fun e => hpq e.symm) e4 h3 (.inr h2) (.inr h1)
        · have a := (two_sides np hst h1 h2).2.2
          have b := (two_sides nq hst h3 h4).2.2
          rcases a with a | a <;> rcases b with b | b
          · exact hpq (a.trans b.symm)
          · have k1 := np
            have k2 := nq
            rw [a] at k1
            rw [b] at k2
            have := lt_asymm k1.2.2.2.2.2
            rw [k2.2.2.2.2.2] at this
            cases this
          · have k1 := np
            have k2 := nq
            rw [a] at k1
            rw [b] at k2
            have := lt_asymm k1.2.2.2.2.2
            rw [k2.2.2.2.2.2] at this
            cases this
          · exact hpq (a.trans b.symm)

/-! ### threes of numbers -/
abbrev E2 := (Int × Int) × Int
def ents : List Int → List E2
  | [x, y, z] => [((x, y), z), ((y, x), z), ((x, z), y), ((z, x), y), ((y, z), x), ((z, y), x)]
  | _ => []
theorem ents_key {l : List Int} (hl : l.Nodup) {u v w : Int} (h : ((u, v), w) ∈ ents l) : u ∈ l ∧ v ∈ l ∧ u ≠ v := by
  rcases l with _ | ⟨x, _ | ⟨y, _ | ⟨z, _ | ⟨t, r⟩⟩⟩⟩
  · simp [ents] at h
  · simp [ents] at h
  · simp [ents] at h
  · simp only [List.nodup_cons, List.mem_cons, List.not_mem_nil, or_false, not_or] at hl
    simp only [ents, List.mem_cons, List.not_mem_nil, or_false, Prod.mk.injEq] at h
    obtain ⟨⟨h1, h2⟩, h3, _⟩ := hl
    rcases h with ⟨⟨rfl, rfl⟩, rfl⟩ | ⟨⟨rfl, rfl⟩, rfl⟩ | ⟨⟨rfl, rfl⟩, rfl⟩ | ⟨⟨rfl, rfl⟩, rfl⟩ | ⟨⟨rfl, rfl⟩, rfl⟩ | ⟨⟨rfl, rfl⟩, rfl⟩ <;> simp_all <;> exact fun e => by simp_all
  · simp [ents] at h
theorem ents_nodup {l : List Int} (hl : l.Nodup) : ((ents l).map (·.1)).Nodup := by
  rcases l with _ | ⟨x, _ | ⟨y, _ | ⟨z, _ | ⟨t, r⟩⟩⟩⟩
  · simp [ents]
  · simp [ents]
  · simp [ents]
  · simp only [List.nodup_cons, List.mem_cons, List.not_mem_nil, or_false, not_or] at hl
    obtain ⟨⟨h1, h2⟩, h3, _⟩ := hl
    have h1' := fun e : y = x => h1 e.symm
    have h2' := fun e : z = x => h2 e.symm
    have h3' := fun e : z = y => h3 e.symm
    simp [ents, List.nodup_cons, h1, h2, h3, h1', h2', h3']
  · simp [ents]
/-- in whatever order the three stand -/
theorem ents_mem {l : List Int} {i j k : Int} (h : l.Perm [i, j, k]) : ((i, j), k) ∈ ents l := by
  have hlen : l.length = 3 := h.length_eq
  rcases l with _ | ⟨x, _ | ⟨y, _ | ⟨z, _ | ⟨t, r⟩⟩⟩⟩
  · simp at hlen
  · simp at hlen
  · simp at hlen
  · have hx : x ∈ [i, j, k] := h.mem_iff.mp (by simp)
    simp only [List.mem_cons, List.not_mem_nil, or_false] at hx
    simp only [ents, List.mem_cons, List.not_mem_nil, or_false, Prod.mk.injEq]
    rcases hx with rfl | rfl | rfl
    · have h2 : [y, z].Perm [j, k] := (List.perm_cons x).mp h
      have hy : y ∈ [j, k] := h2.mem_iff.mp (by simp)
      simp only [List.mem_cons, List.not_mem_nil, or_false] at hy
      rcases hy with rfl | rfl
      · have h3 : [z].Perm [k] := (List.perm_cons y).mp h2
        have := List.perm_singleton.mp h3
        simp_all
      · have h3 : [z].Perm [j] := (List.perm_cons y).mp (h2.trans (List.Perm.swap _ _ _))
        have := List.perm_singleton.mp h3
        simp_all
    · have h2 : [y, z].Perm [i, k] := (List.perm_cons x).mp (h.trans (List.Perm.swap _ _ _))
      have hy : y ∈ [i, k] := h2.mem_iff.mp (by simp)
      simp only [List.mem_cons, List.not_mem_nil, or_false] at hy
      rcases hy with rfl | rfl
      · have h3 : [z].Perm [k] := (List.perm_cons y).mp h2
        have := List.perm_singleton.mp h3
        simp_all
      · have h3 : [z].Perm [i] := (List.perm_cons y).mp (h2.trans (List.Perm.swap _ _ _))
        have := List.perm_singleton.mp h3
        simp_all
    · have h2 : [y, z].Perm [i, j] := (List.perm_cons x).mp (h.trans ((List.Perm.cons i (List.Perm.swap _ _ _)).trans (List.Perm.swap _ _ _)))
      have hy : y ∈ [i, j] := h2.mem_iff.mp (by simp)
      simp only [List.mem_cons, List.not_mem_nil, or_false] at hy
      rcases hy with rfl | rfl
      · have h3 : [z].Perm [j] := (List.perm_cons y).mp h2
        have := List.perm_singleton.mp h3
        simp_all
      · have h3 : [z].Perm [i] := (List.perm_cons y).mp (h2.trans (List.Perm.swap _ _ _))
        have := List.perm_singleton.mp h3
        simp_all
  · simp at hlen

/-! ### the threes of some points -/
def isPr : T → Bool
  | .nm _ => false
  | .pr _ _ => true
/-- a pair with its two sides, by numbers -/
def ix3 (ix : T → Int) : T → List Int
  | .nm _ => []
  | .pr a b => [ix (.pr a b), ix a, ix b]
/-- the threes tr are those of the pairs among the points, in whatever order -/
structure Threes (pl : List T) (ix : T → Int) (tr : List (List Int)) : Prop where
  nd : pl.Nodup
  nf : ∀ p ∈ pl, nf p
  cl : Closed (· ∈ pl)
  inj : ∀ a ∈ pl, ∀ b ∈ pl, ix a = ix b → a = b
  each : ∃ ps : List T, ps.Perm (pl.filter isPr) ∧ Paired (fun (l : List Int) p => l.Perm (ix3 ix p)) tr ps
theorem in3_of {pl : List T} {ix : T → Int} (c : Closed (· ∈ pl)) {p : T} (hp : p ∈ pl) {l : List Int} (h : l.Perm (ix3 ix p)) {u : Int} (hu : u ∈ l) : ∃ s ∈ pl, In3 p s ∧ ix s = u := by
  have hu' := h.mem_iff.mp hu
  cases p with
  | nm x => simp [ix3] at hu'
  | pr a b =>
    simp only [ix3, List.mem_cons, List.not_mem_nil, or_false] at hu'
    rcases hu' with e | e | e
    · exact ⟨_, hp, .inl rfl, e.symm⟩
    · exact ⟨a, (c a b hp).1, .inr (has_iff.mpr (.inl rfl)), e.symm⟩
    · exact ⟨b, (c a b hp).2, .inr (has_iff.mpr (.inr rfl)), e.symm⟩
theorem Threes.nodup3 {pl : List T} {ix : T → Int} {tr : List (List Int)} (t : Threes pl ix tr) {p : T} (hp : p ∈ pl) {l : List Int} (h : l.Perm (ix3 ix p)) : l.Nodup := by
  refine (List.Perm.nodup_iff h).mpr ?_
  cases p with
  | nm x => exact List.nodup_nil
  | pr a b =>
    have ca := (t.cl a b hp).1
    have cb := (t.cl a b hp).2
    have hn := t.nf _ hp
    have sz : (T.pr a b).sz = a.sz + b.sz + 1 := rfl
    have h1 : ix (.pr a b) ≠ ix a := fun e => by
      have e' := t.inj _ hp _ ca e
      rw [e'] at sz
      omega
    have h2 : ix (.pr a b) ≠ ix b := fun e => by
      have e' := t.inj _ hp _ cb e
      rw [e'] at sz
      omega
    have h3 : ix a ≠ ix b := fun e => hn.2.2.1 (t.inj _ ca _ cb e)
    simp [ix3, h1, h2, h3]
theorem Threes.mem {pl : List T} {ix : T → Int} {tr : List (List Int)} (t : Threes pl ix tr) {l : List Int} (hl : l ∈ tr) : ∃ p ∈ pl, isPr p = true ∧ l.Perm (ix3 ix p) := by
  obtain ⟨ps, hps, h⟩ := t.each
  have key : ∀ {tr : List (List Int)} {ps : List T}, Paired (fun (l : List Int) p => l.Perm (ix3 ix p)) tr ps → l ∈ tr → ∃ p ∈ ps, l.Perm (ix3 ix p) := by
    intro tr ps h
    induction h with
    | nil => intro h; cases h
    | cons r _ ih =>
      intro hl
      rcases List.mem_cons.mp hl with rfl | hl
      · exact ⟨_, List.mem_cons_self, r⟩
      · obtain ⟨p, hp, q⟩ := ih hl
        exact ⟨p, List.mem_cons_of_mem _ hp, q⟩
  obtain ⟨p, hp, q⟩ := key h hl
  have hp' := List.mem_filter.mp (hps.mem_iff.mp hp)
  exact ⟨p, hp'.1, hp'.2, q⟩
theorem Threes.get {pl : List T} {ix : T → Int} {tr : List (List Int)} (t : Threes pl ix tr) {p : T} (hp : p ∈ pl) (hi : isPr p = true) : ∃ l ∈ tr, l.Perm (ix3 ix p) := by
  obtain ⟨ps, hps, h⟩ := t.each
  have key : ∀ {tr : List (List Int)} {ps : List T}, Paired (fun (l : List Int) p => l.Perm (ix3 ix p)) tr ps → p ∈ ps → ∃ l ∈ tr, l.Perm (ix3 ix p) := by
    intro tr ps h
    induction h with
    | nil => intro h; cases h
    | cons r _ ih =>
      intro hl
      rcases List.mem_cons.mp hl with rfl | hl
      · exact ⟨_, List.mem_cons_self, r⟩
      · obtain ⟨l, hp, q⟩ := ih hl
        exact ⟨l, List.mem_cons_of_mem _ hp, q⟩
  exact key h (hps.mem_iff.mpr (List.mem_filter.mpr ⟨hp, hi⟩))
/-- all pairs, with the third point of each -/
def table (tr : List (List Int)) : List E2 := tr.flatMap ents
/-- no pair stands twice -/
theorem Threes.once {pl : List T} {ix : T → Int} {tr : List (List Int)} (t : Threes pl ix tr) : ((table tr).map (·.1)).Nodup := by
  obtain ⟨ps, hps, h⟩ := t.each
  have hnd : ps.Nodup := (List.Perm.nodup_iff hps).mpr (t.nd.filter _)
  have hin : ∀ p ∈ ps, p ∈ pl := fun p hp => (List.mem_filter.mp (hps.mem_iff.mp hp)).1
  clear hps
  have key : ∀ {tr : List (List Int)} {ps : List T}, Paired (fun (l : List Int) p => l.Perm (ix3 ix p)) tr ps → ps.Nodup → (∀ p ∈ ps, p ∈ pl) → ((table tr).map (·.1)).Nodup ∧ ∀ k ∈ (table tr).map (·.1), ∃ p ∈ ps, ∃ s ∈ pl, ∃ r ∈ pl, In3 p s ∧ In3 p r ∧ s ≠ r ∧ k = (ix s, ix r) := by
    intro tr ps h
    induction h with
    | nil => exact fun _ _ => ⟨List.nodup_nil, fun k hk => by cases hk⟩
    | @cons l p tr ps hl _ ih =>
      intro nd hin
      rw [List.nodup_cons] at nd
      have hp : p ∈ pl := hin p List.mem_cons_self
      obtain ⟨i1, i2⟩ := ih nd.2 fun q hq => hin q (List.mem_cons_of_mem _ hq)
      have l3 := t.nodup3 hp hl
      have own : ∀ k ∈ (ents l).map (·.1), ∃ s ∈ pl, ∃ r ∈ pl, In3 p s ∧ In3 p r ∧ s ≠ r ∧ k = (ix s, ix r) := by
        intro k hk
        obtain ⟨⟨⟨u, v⟩, w⟩, hm, rfl⟩ := List.mem_map.mp hk
        obtain ⟨hu, hv, huv⟩ := ents_key l3 hm
        obtain ⟨s, hs, s3, es⟩ := in3_of t.cl hp hl hu
        obtain ⟨r, hr, r3, er⟩ := in3_of t.cl hp hl hv
        exact ⟨s, hs, r, hr, s3, r3, fun e => huv (by rw [← es, ← er, e]), by rw [es, er]⟩
      have et : table (l :: tr) = ents l ++ table tr := by
        show (l :: tr).flatMap ents = _
        rw [List.flatMap_cons]
        rfl
      rw [et, List.map_append]
      refine ⟨List.nodup_append.mpr ⟨ents_nodup l3, i1, fun a ha b hb e => ?_⟩, fun k hk => ?_⟩
      · subst e
        obtain ⟨s, hs, r, hr, s3, r3, sr, ek⟩ := own a ha
        obtain ⟨q, hq, s', hs', r', hr', s3', r3', _, ek'⟩ := i2 a hb
        rw [ek] at ek'
        injection ek' with e1 e2
        have e1' := t.inj s hs s' hs' e1
        have e2' := t.inj r hr r' hr' e2
        subst e1' e2'
        have hpq : p ≠ q := fun e => nd.1 (e ▸ hq)
        exact meet_once (t.nf p hp) (t.nf q (hin q (List.mem_cons_of_mem _ hq))) hpq sr s3 r3 s3' r3'
      · rcases List.mem_append.mp hk with hk | hk
        · obtain ⟨s, hs, r, hr, q⟩ := own k hk
          exact ⟨p, List.mem_cons_self, s, hs, r, hr, q⟩
        · obtain ⟨q, hq, z⟩ := i2 k hk
          exact ⟨q, List.mem_cons_of_mem _ hq, z⟩
  exact (key h hnd hin).1
theorem perm_rot {a b c : Int} : [a, b, c].Perm [b, c, a] := ((List.Perm.swap b a [c])).trans (List.Perm.cons b (List.Perm.swap c a []))
/-- what two points come to stands in the table -/
theorem Threes.third {pl : List T} {ix : T → Int} {tr : List (List Int)} (t : Threes pl ix tr) {x y : T} (hx : x ∈ pl) (hy : y ∈ pl) (hxy : x ≠ y) (hz : jo x y ∈ pl) : ((ix x, ix y), ix (jo x y)) ∈ table tr := by
  have put : ∀ p ∈ pl, isPr p = true → (ix3 ix p).Perm [ix x, ix y, ix (jo x y)] → ((ix x, ix y), ix (jo x y)) ∈ table tr := by
    intro p hp hi h
    obtain ⟨l, hl, q⟩ := t.get hp hi
    exact List.mem_flatMap.mpr ⟨l, hl, ents_mem (q.trans h)⟩
  cases h1 : has x y with
  | true =>
    obtain ⟨a, b, rfl, d⟩ := has_pr h1
    rw [jo_has h1]
    rw [jo_has h1] at put
    refine put _ hy rfl ?_
    by_cases ha : a = x
    · subst ha
      rw [oth_l]
      exact List.Perm.swap _ _ _
    · have hb : b = x := d.resolve_left ha
      subst hb
      rw [oth_r ha]
      -- [y, a, x] ~ [x, y, a]
      exact perm_rot.symm
  | false =>
    cases h2 : has y x with
    | true =>
      obtain ⟨a, b, rfl, d⟩ := has_pr h2
      rw [jo_has' h2]
      rw [jo_has' h2] at put
      refine put _ hx rfl ?_
      by_cases ha : a = y
      · subst ha
        rw [oth_l]
        exact List.Perm.refl _
      · have hb : b = y := d.resolve_left ha
        subst hb
        rw [oth_r ha]
        exact List.Perm.cons _ (List.Perm.swap _ _ _)
    | false =>
      cases h : lt x y with
      | true =>
        rw [jo_lt hxy h1 h2 h]
        rw [jo_lt hxy h1 h2 h] at put hz
        exact put _ hz rfl perm_rot
      | false =>
        rw [jo_gt hxy h1 h2 h]
        rw [jo_gt hxy h1 h2 h] at put hz
        exact put _ hz rfl (perm_rot.trans (List.Perm.swap _ _ _))
end TP
/-! W3: joined, brought, plain, is_plain, equal_everywhere, parts_of, exchanged, replaced, leaves_in. -/
namespace TP
open PySem PySem.Spec PyProof.Rows L2
section
variable {P : Program} {w : World} {K : PySem.W.Frag} {mg : Str → Option Value} {base : Heap}

/-! ### joined -/
def Fit (t : T) : Prop := t.lv ≤ 200 ∧ t.dp ≤ 20
def spJoined : Sp := fun vs H Q _ => ∃ (x y : V) (a b : T), vs = [x, y] ∧ Tm H x a ∧ Tm H y b ∧ Fit a ∧ Fit b ∧ ∀ v H', Same H H' → Tm H' v (jo a b) → Q v H'
theorem scJoined : FnScope ["one", "other", "part", "whole"] ["one", "other"] (defScope sJoined) := ⟨rfl, rfl, rfl, by decide +kernel, rfl, by decide +kernel, by decide +kernel⟩
theorem ok_joined {f : Addr} {fd : FuncData} (F : Fun K "joined" "joined" sJoined f fd) (M : Txt K mg) (GP : Fn P w K mg base 22 "place_in_order" ["term"] spKey) : FnOk P w K mg base CX0 23 f fd ["one", "other"] spJoined := by
  refine F.ok scJoined (fun vs H Q E h => ?_) (fun cdv A outer s H vs Q E hr h => ?_)
  · obtain ⟨x, y, a, b, rfl, _⟩ := h
    rfl
  · obtain ⟨x, y, a, b, rfl, ha, hb, fa, fb, q⟩ := h
    have hu : A.units + 64 + 65 < cLine := by
      have := hr.un
      show A.units + 64 + 65 < cLine
      have h2 : (A.deeper (envOfC "joined" (defScope sJoined) s.heap.objs.size f cdv)).units = A.units + 3 := rfl
      omega
    have hu0 : (A.deeper (envOfC "joined" (defScope sJoined) s.heap.objs.size f cdv)).units + 64 < cLine := hr.units
    have hu1 : (A.deeper (envOfC "joined" (defScope sJoined) s.heap.objs.size f cdv)).units + 65 < cLine := by
      have := hr.un
      omega
    refine ⟨_, pss_cons (ps_if (pt_cmpR (op_eqT hu0) (pv 0) (pv 1) (nomark _)) (pss_one (ps_ret (pv 0))) pss_nil)
      (pss_cons (ps_for PassesOwn.never rfl (pi_tup (pe_tup (pa_cons (pe_tup (pa_cons (pv 0) (pa_cons (pv 1) pa_nil))) (pa_cons (pe_tup (pa_cons (pv 1) (pa_cons (pv 0) pa_nil))) pa_nil))))
          (pg_tup rfl (pgs_cons (pg_name (i := 2) scJoined.nd rfl (.inl rfl)) (pgs_cons (pg_name (i := 3) scJoined.nd rfl (.inl rfl)) pgs_nil)))
          (pss_one (ps_if (PW.pt (pw_and (pt_not (pt_val (pe_isStr M (pv 3) (by rfl) (by rfl)))) (pw_and1 (pt_cmpR (op_inT hu1) (pv 2) (pv 3) (by rfl)))))
            (pss_one (ps_ret (pe_ifExp (pt_cmpR (op_eqT hu0) (pe_ix ix_tup (pv 3) pe_int (fun _ _ => rfl)) (pv 2) (nomark _)) (pe_ix ix_tup (pv 3) pe_int (fun _ _ => rfl)) (pe_ix ix_tup (pv 3) pe_int (fun _ _ => rfl)))))
            pss_nil)))
      (pss_one (ps_ret (pe_ifExp (pt_cmpR (op_ltK hu0) (pe_fn GP hr (Nat.le_refl _) (pa_cons (pv 0) pa_nil) (by rfl)) (pe_fn GP hr (Nat.le_refl _) (pa_cons (pv 1) pa_nil) (by rfl)) (nomark _))
        (pe_tup (pa_cons (pv 0) (pa_cons (pv 1) pa_nil))) (pe_tup (pa_cons (pv 1) (pa_cons (pv 0) pa_nil))))))), ?_⟩
    obtain ⟨la, da⟩ := id fa
    obtain ⟨lb, db⟩ := id fb
    refine ⟨_, rfl, _, rfl, a, b, ha, hb, by omega, by omega, _, rfl, ?_⟩
    by_cases hab : a = b
    · subst hab
      refine iteDT rfl ⟨_, rfl, q x H (Same.refl H) ?_⟩
      rw [jo_same]
      exact ha
    refine iteDF hab ?_
    -- the two ways round
    refine ⟨_, rfl, _, rfl, (by show 2 ≤ sizeLine; decide), fun p1 hp1 => ?_⟩
    refine ⟨_, rfl, _, rfl, (by show 2 ≤ sizeLine; decide), fun p2 hp2 => ?_⟩
    refine ⟨(by show 2 ≤ sizeLine; decide), fun p3 hp3 => ?_⟩
    have s1 : Same H (upd H p1 (.tup [x, y])) := same_new hp1
    have s2 : Same (upd H p1 (.tup [x, y])) (upd (upd H p1 (.tup [x, y])) p2 (.tup [y, x])) := same_new hp2
    have s3 := same_new (o := .tup [.ref p1, .ref p2]) hp3
    generalize hH3 : upd (upd (upd H p1 (.tup [x, y])) p2 (.tup [y, x])) p3 (.tup [.ref p1, .ref p2]) = H3 at s3
    have e1 : H3 p1 = some (.tup [x, y]) := s3 _ _ (s2 _ _ upd_same)
    have e2 : H3 p2 = some (.tup [y, x]) := s3 _ _ upd_same
    have e3 : H3 p3 = some (.tup [.ref p1, .ref p2]) := by
      rw [← hH3]
      exact upd_same
    have sm : Same H H3 := (s1.trans s2).trans s3
    -- one turn of the loop
    have side : ∀ (x y : V) (a b : T), Tm H3 x a → Tm H3 y b → a.dp ≤ 20 → b.dp ≤ 20 → (has a b = true → ∃ p u v l r, y = .ref p ∧ b = .pr l r ∧ H3 p = some (.tup [u, v]) ∧ Tm H3 u l ∧ Tm H3 v r ∧ (l = a ∨ r = a)) := by
      intro x y a b ha hb da db h
      cases hb with
      | nm _ => exact absurd h (by simp [has])
      | pr e k1 k2 => exact ⟨_, _, _, _, _, rfl, rfl, e, k1, k2, has_iff.mp h⟩
    refine ⟨p3, rfl, ⟨_, SqT.of e3⟩, for_tup (K := K) (a := p3) (xs := [.ref p1, .ref p2]) (fun i σ H' => H' = H3 ∧ ∃ y2 y3, σ = [some x, some y, y2, y3] ∧ (0 < i → has a b = false) ∧ (1 < i → has b a = false))
      ⟨rfl, none, none, rfl, fun h => absurd h (Nat.lt_irrefl _), fun h => absurd h (by omega)⟩ (fun i σ H' _ ⟨e, _⟩ => e ▸ SqT.of e3) ?_ ?_⟩
    · rintro i z σ H' hz ⟨rfl, y2, y3, rfl, h1, h2⟩
      rcases i with _ | _ | i
      · -- part = one, whole = other
        obtain rfl : z = .ref p1 := (Option.some.inj hz).symm
        refine ⟨p1, [x, y], rfl, SqT.of e1, rfl, x, [y], rfl, y, [], rfl, rfl, ?_⟩
        refine ⟨_, rfl, y, rfl, isStrQ.of (hb.same sm) (fun s es ex => ⟨true, rfl, iteF (iteF ?_)⟩) (fun p u v l r et ex ep hl hr2 => ⟨false, rfl, iteT ?_⟩)⟩
        · refine ⟨rfl, _, _, rfl, fun _ => ?_, fun h => absurd h (by omega)⟩
          subst es
          rfl
        · subst et ex
          refine ⟨_, rfl, _, rfl, a, l, r, ha.same sm, hb.same sm, by omega, by omega, _, rfl, ?_⟩
          cases hh : has a (.pr l r) with
          | false => exact iteF ⟨rfl, _, _, rfl, fun _ => rfl, fun h => absurd h (by omega)⟩
          | true =>
            have hdd : max l.dp r.dp + 1 ≤ 20 := db
            refine iteT ⟨_, rfl, p, _, _, u, rfl, rfl, SqT.of ep, atI_nat (j := 0) rfl, _, rfl, l, a, hl, ha.same sm, by omega, by omega, _, rfl, ite2 (fun c => ?_) (fun c => ?_)⟩
            · have c' : l = a := of_decide_eq_true c
              refine ⟨_, rfl, p, _, _, v, rfl, rfl, SqT.of ep, atI_nat (j := 1) rfl, q v _ sm ?_⟩
              rw [jo_has hh, c', oth_l]
              exact hr2
            · have c' : ¬ l = a := fun e => c (decide_eq_true e)
              refine ⟨_, rfl, p, _, _, u, rfl, rfl, SqT.of ep, atI_nat (j := 0) rfl, q u _ sm ?_⟩
              have hr3 : r = a := (has_iff.mp hh).resolve_left c'
              rw [jo_has hh, hr3, oth_r c']
              exact hl
      · -- part = other, whole = one
        obtain rfl : z = .ref p2 := (Option.some.inj hz).symm
        have h10 : has a b = false := h1 (by omega)
        refine ⟨p2, [y, x], rfl, SqT.of e2, rfl, y, [x], rfl, x, [], rfl, rfl, ?_⟩
        refine ⟨_, rfl, x, rfl, isStrQ.of (ha.same sm) (fun s es ex => ⟨true, rfl, iteF (iteF ?_)⟩) (fun p u v l r et ex ep hl hr2 => ⟨false, rfl, iteT ?_⟩)⟩
        · refine ⟨rfl, _, _, rfl, fun _ => h10, fun _ => ?_⟩
          subst es
          rfl
        · subst et ex
          refine ⟨_, rfl, _, rfl, b, l, r, hb.same sm, ha.same sm, by omega, by omega, _, rfl, ?_⟩
          cases hh : has b (.pr l r) with
          | false => exact iteF ⟨rfl, _, _, rfl, fun _ => h10, fun _ => rfl⟩
          | true =>
            have hdd : max l.dp r.dp + 1 ≤ 20 := da
            refine iteT ⟨_, rfl, p, _, _, u, rfl, rfl, SqT.of ep, atI_nat (j := 0) rfl, _, rfl, l, b, hl, hb.same sm, by omega, by omega, _, rfl, ite2 (fun c => ?_) (fun c => ?_)⟩
            · have c' : l = b := of_decide_eq_true c
              refine ⟨_, rfl, p, _, _, v, rfl, rfl, SqT.of ep, atI_nat (j := 1) rfl, q v _ sm ?_⟩
              rw [jo_has' hh, c', oth_l]
              exact hr2
            · have c' : ¬ l = b := fun e => c (decide_eq_true e)
              refine ⟨_, rfl, p, _, _, u, rfl, rfl, SqT.of ep, atI_nat (j := 0) rfl, q u _ sm ?_⟩
              have hr3 : r = b := (has_iff.mp hh).resolve_left c'
              rw [jo_has' hh, hr3, oth_r c']
              exact hl
      · simp at hz
    · rintro σ H' ⟨rfl, y2, y3, rfl, h1, h2⟩
      have h10 : has a b = false := h1 (by show 0 < 2; omega)
      have h20 : has b a = false := h2 (by show 1 < 2; omega)
      refine ⟨_, rfl, x, a, rfl, ha.same sm, la, da, fun k1 H4 s4 n4 ek1 => ?_⟩
      refine ⟨_, rfl, y, b, rfl, (hb.same sm).same s4, lb, db, fun k2 H5 s5 n5 ek2 => ?_⟩
      refine ⟨k1, k2, a, b, rfl, rfl, s5 _ _ ek1, ek2, _, rfl, ?_⟩
      have sm5 := (sm.trans s4).trans s5
      cases hl : lt a b with
      | true =>
        refine iteT ⟨_, rfl, _, rfl, (by show 2 ≤ sizeLine; decide), fun p hp => q _ _ (sm5.trans (same_new hp)) ?_⟩
        rw [jo_lt hab h10 h20 hl]
        exact .pr upd_same ((ha.same sm5).same (same_new hp)) ((hb.same sm5).same (same_new hp))
      | false =>
        refine iteF ⟨_, rfl, _, rfl, (by show 2 ≤ sizeLine; decide), fun p hp => q _ _ (sm5.trans (same_new hp)) ?_⟩
        rw [jo_gt hab h10 h20 hl]
        exact .pr upd_same ((hb.same sm5).same (same_new hp)) ((ha.same sm5).same (same_new hp))

/-! ### brought -/
def spBrought (n : Nat) : Sp := fun vs H Q _ => ∃ (x : V) (t : T), vs = [x] ∧ Tm H x t ∧ t.dp < n ∧ t.dp ≤ 20 ∧ t.lv ≤ 200 ∧ ∀ v H', Same H H' → Tm H' v (br t) → Q v H'
theorem br_fit {t : T} (h1 : t.lv ≤ 200) (h2 : t.dp ≤ 20) : Fit (br t) := ⟨Nat.le_trans (br_lv t) h1, Nat.le_trans (br_dp t) h2⟩
theorem scBrought : FnScope ["term"] ["term"] (defScope sBrought) := ⟨rfl, rfl, rfl, by decide +kernel, rfl, by decide +kernel, by decide +kernel⟩
theorem ok_brought {f : Addr} {fd : FuncData} {n : Nat} (F : Fun K "brought" "brought" sBrought f fd) (M : Txt K mg) (GJ : Fn P w K mg base 23 "joined" ["one", "other"] spJoined) (G : Fn P w K mg base (23 + n) "brought" ["term"] (spBrought n)) : FnOk P w K mg base CX0 (23 + (n + 1)) f fd ["term"] (spBrought (n + 1)) := by
  refine F.ok scBrought (fun vs H Q E h => ?_) (fun cdv A outer s H vs Q E hr h => ?_)
  · obtain ⟨x, t, rfl, _⟩ := h
    rfl
  · obtain ⟨x, t, rfl, ht, hd, h20, hl, q⟩ := h
    refine ⟨_, pss_one (ps_ret (pe_ifExp (pt_val (pe_isStr M (pv 0) (by rfl) (by rfl))) (pv 0)
      (pe_fn GJ hr (Nat.le_add_right _ _) (pa_cons (pe_fn G hr (Nat.le_refl _) (pa_cons (pe_ix ix_tup (pv 0) pe_int (fun _ _ => rfl)) pa_nil) (by rfl)) (pa_cons (pe_fn G hr (Nat.le_refl _) (pa_cons (pe_ix ix_tup (pv 0) pe_int (fun _ _ => rfl)) pa_nil) (by rfl)) pa_nil)) (by rfl)))), ?_⟩
    refine ⟨_, rfl, x, rfl, isStrQ.of ht (fun y ey ex => ?_) (fun a u v l r et ex ea hu hv => ?_)⟩
    · subst ey ex
      exact ⟨true, rfl, iteT ⟨_, rfl, q _ H (Same.refl H) ht⟩⟩
    · subst et ex
      have hd' : max l.dp r.dp + 1 < n + 1 := hd
      have h20' : max l.dp r.dp + 1 ≤ 20 := h20
      have hl' : l.lv + r.lv ≤ 200 := hl
      refine ⟨false, rfl, iteF ⟨_, rfl, a, _, _, u, rfl, rfl, SqT.of ea, atI_nat (j := 0) rfl, u, l, rfl, hu, by omega, by omega, by omega, fun v1 H1 s1 t1 => ?_⟩⟩
      refine ⟨_, rfl, a, _, _, v, rfl, rfl, SqT.of (s1 _ _ ea), atI_nat (j := 1) rfl, v, r, rfl, hv.same s1, by omega, by omega, by omega, fun v2 H2 s2 t2 => ?_⟩
      exact ⟨v1, v2, br l, br r, rfl, t1.same s2, t2, br_fit (by omega) (by omega), br_fit (by omega) (by omega), fun v H' s3 t3 => q v H' ((s1.trans s2).trans s3) t3⟩
theorem fn_brought (D : Def K mg "brought" sBrought ["term"]) (M : Txt K mg) (GJ : Fn P w K mg base 23 "joined" ["one", "other"] spJoined) (n : Nat) : Fn P w K mg base (23 + n) "brought" ["term"] (spBrought n) :=
  D.rec (P := P) (w := w) (base := base) 23 spBrought (fun vs H Q E ⟨_, _, _, _, h, _⟩ => absurd h (Nat.not_lt_zero _)) (fun n f fd F G => ok_brought F M GJ G) n

/-! ### plain, is_plain, equal_everywhere -/
def spPlain : Sp := fun vs H Q _ => ∃ (x : V) (t : T), vs = [x] ∧ Tm H x t ∧ Fit t ∧ ∀ v H', Same H H' → Tm H' v (br t) → Q v H'
theorem scPlain : FnScope ["term"] ["term"] (defScope sPlain) := ⟨rfl, rfl, rfl, by decide +kernel, rfl, by decide +kernel, by decide +kernel⟩
theorem ok_plain {f : Addr} {fd : FuncData} (F : Fun K "plain" "plain" sPlain f fd) (GC : Fn P w K mg base 3 "check_term" ["term"] spCheck) (GB : Fn P w K mg base (23 + 21) "brought" ["term"] (spBrought 21)) : FnOk P w K mg base CX0 45 f fd ["term"] spPlain := by
  refine F.ok scPlain (fun vs H Q E h => ?_) (fun cdv A outer s H vs Q E hr h => ?_)
  · obtain ⟨x, t, rfl, _⟩ := h
    rfl
  · obtain ⟨x, t, rfl, ht, ⟨hl, hd⟩, q⟩ := h
    refine ⟨_, pss_cons (ps_expr (pe_fn GC hr (by decide) (pa_cons (pv 0) pa_nil) (by rfl))) (pss_one (ps_ret (pe_fn GB hr (Nat.le_refl _) (pa_cons (pv 0) pa_nil) (by rfl)))), ?_⟩
    exact ⟨_, rfl, x, t, rfl, ht, hl, fun H1 s1 => ⟨_, rfl, x, t, rfl, ht.same s1, by omega, hd, hl, fun v H' s2 t2 => q v H' (s1.trans s2) t2⟩⟩
def spIsPlain : Sp := fun vs H Q _ => ∃ (x : V) (t : T), vs = [x] ∧ Tm H x t ∧ Fit t ∧ ∀ H', Same H H' → Q (.bl (decide (br t = t))) H'
theorem scIsPlain : FnScope ["term"] ["term"] (defScope sIsPlain) := ⟨rfl, rfl, rfl, by decide +kernel, rfl, by decide +kernel, by decide +kernel⟩
theorem ok_isPlain {f : Addr} {fd : FuncData} (F : Fun K "is_plain" "is_plain" sIsPlain f fd) (GP : Fn P w K mg base 45 "plain" ["term"] spPlain) (GK : Fn P w K mg base 21 "kept" ["term"] (spKept 21)) : FnOk P w K mg base CX0 46 f fd ["term"] spIsPlain := by
  refine F.ok scIsPlain (fun vs H Q E h => ?_) (fun cdv A outer s H vs Q E hr h => ?_)
  · obtain ⟨x, t, rfl, _⟩ := h
    rfl
  · obtain ⟨x, t, rfl, ht, ⟨hl, hd⟩, q⟩ := h
    refine ⟨_, pss_one (ps_ret (pe_cmpR (op_eqT hr.units) (pe_fn GP hr (Nat.le_refl _) (pa_cons (pv 0) pa_nil) (by rfl)) (pe_fn GK hr (by decide) (pa_cons (pv 0) pa_nil) (by rfl)) (nomark _))), ?_⟩
    have := br_dp t
    exact ⟨_, rfl, x, t, rfl, ht, ⟨hl, hd⟩, fun v H1 s1 t1 => ⟨_, rfl, x, t, rfl, ht.same s1, by omega, fun v2 H2 s2 t2 => ⟨br t, t, t1.same s2, t2, by omega, by omega, q H2 (s1.trans s2)⟩⟩⟩
def spEqual : Sp := fun vs H Q _ => ∃ (x y : V) (a b : T), vs = [x, y] ∧ Tm H x a ∧ Tm H y b ∧ Fit a ∧ Fit b ∧ ∀ H', Same H H' → Q (.bl (decide (br a = br b))) H'
theorem scEqual : FnScope ["one", "other"] ["one", "other"] (defScope sEqual) := ⟨rfl, rfl, rfl, by decide +kernel, rfl, by decide +kernel, by decide +kernel⟩
theorem ok_equal {f : Addr} {fd : FuncData} (F : Fun K "equal_everywhere" "equal_everywhere" sEqual f fd) (GP : Fn P w K mg base 45 "plain" ["term"] spPlain) : FnOk P w K mg base CX0 46 f fd ["one", "other"] spEqual := by
  refine F.ok scEqual (fun vs H Q E h => ?_) (fun cdv A outer s H vs Q E hr h => ?_)
  · obtain ⟨x, y, a, b, rfl, _⟩ := h
    rfl
  · obtain ⟨x, y, a, b, rfl, ha, hb, fa, fb, q⟩ := h
    refine ⟨_, pss_one (ps_ret (pe_cmpR (op_eqT hr.units) (pe_fn GP hr (Nat.le_refl _) (pa_cons (pv 0) pa_nil) (by rfl)) (pe_fn GP hr (Nat.le_refl _) (pa_cons (pv 1) pa_nil) (by rfl)) (nomark _))), ?_⟩
    have h1 := br_dp a
    have h2 := br_dp b
    have h3 := fa.2
    have h4 := fb.2
    exact ⟨_, rfl, x, a, rfl, ha, fa, fun v H1 s1 t1 => ⟨_, rfl, y, b, rfl, hb.same s1, fb, fun v2 H2 s2 t2 => ⟨br a, br b, t1.same s2, t2, by omega, by omega, q H2 (s1.trans s2)⟩⟩⟩

/-! ### parts_of -/
def spParts (n : Nat) : Sp := fun vs H Q _ => ∃ (x : V) (t : T), vs = [x] ∧ Tm H x t ∧ t.dp < n ∧ t.dp ≤ 20 ∧ t.lv ≤ 200 ∧ ∀ p xs H', Same H H' → H p = none → H' p = some (.lst xs) → TmL H' xs (pts t) → Q (.ref p) H'
theorem scParts : FnScope ["term"] ["term"] (defScope sParts) := ⟨rfl, rfl, rfl, by decide +kernel, rfl, by decide +kernel, by decide +kernel⟩
theorem ok_parts {f : Addr} {fd : FuncData} {n : Nat} (F : Fun K "parts_of" "parts_of" sParts f fd) (M : Txt K mg) (GB : Fn P w K mg base (23 + 21) "brought" ["term"] (spBrought 21)) (G : Fn P w K mg base (44 + n) "parts_of" ["term"] (spParts n)) : FnOk P w K mg base CX0 (44 + (n + 1)) f fd ["term"] (spParts (n + 1)) := by
  refine F.ok scParts (fun vs H Q E h => ?_) (fun cdv A outer s H vs Q E hr h => ?_)
  · obtain ⟨x, t, rfl, _⟩ := h
    rfl
  · obtain ⟨x, t, rfl, ht, hd, h20, hl, q⟩ := h
    refine ⟨_, pss_cons (ps_if (pt_val (pe_isStr M (pv 0) (by rfl) (by rfl))) (pss_one (ps_ret (pe_lst (pa_cons (pv 0) pa_nil)))) pss_nil)
      (pss_one (ps_ret (pe_op op_cat (pe_op op_cat (pe_fn G hr (Nat.le_refl _) (pa_cons (pe_ix ix_tup (pv 0) pe_int (fun _ _ => rfl)) pa_nil) (by rfl)) (pe_fn G hr (Nat.le_refl _) (pa_cons (pe_ix ix_tup (pv 0) pe_int (fun _ _ => rfl)) pa_nil) (by rfl)))
        (pe_lst (pa_cons (pe_fn GB hr (by show 23 + 21 ≤ 44 + n; omega) (pa_cons (pv 0) pa_nil) (by rfl)) pa_nil))))), ?_⟩
    have one : ∀ {v : V} {p : Addr}, (1 : Nat) ≤ sizeLine := by intros; decide
    refine ⟨_, rfl, x, rfl, isStrQ.of ht (fun y ey ex => ?_) (fun a u v l r et ex ea hu hv => ?_)⟩
    · subst ey ex
      exact ⟨true, rfl, iteT ⟨_, rfl, (by show 1 ≤ sizeLine; decide), fun p hp => q p _ _ (same_new hp) hp upd_same (.cons (ht.same (same_new hp)) .nil)⟩⟩
    · subst et ex
      have hd' : max l.dp r.dp + 1 < n + 1 := hd
      have h20' : max l.dp r.dp + 1 ≤ 20 := h20
      have hl' : l.lv + r.lv ≤ 200 := hl
      have n1 := pts_len l
      have n2 := pts_len r
      refine ⟨false, rfl, iteF ⟨_, rfl, a, _, _, u, rfl, rfl, SqT.of ea, atI_nat (j := 0) rfl, u, l, rfl, hu, by omega, by omega, by omega, fun p1 xs H1 s1 z1 e1 t1 => ?_⟩⟩
      refine ⟨_, rfl, a, _, _, v, rfl, rfl, SqT.of (s1 _ _ ea), atI_nat (j := 1) rfl, v, r, rfl, hv.same s1, by omega, by omega, by omega, fun p2 ys H2 s2 z2 e2 t2 => ?_⟩
      have k1 := t1.len
      have k2 := t2.len
      refine ⟨p1, p2, xs, ys, rfl, rfl, s2 _ _ e1, e2, small300 (by omega), fun p3 hp3 => ?_⟩
      have s3 := same_new (o := .lst (xs ++ ys)) hp3
      refine ⟨_, rfl, _, _, rfl, (ht.same s1).same (s2.trans s3), by omega, by omega, hl, fun v4 H4 s4 t4 => ?_⟩
      refine ⟨(by show 1 ≤ sizeLine; decide), fun p5 hp5 => ?_⟩
      have s5 := same_new (o := .lst [v4]) hp5
      refine ⟨p3, p5, xs ++ ys, [v4], rfl, rfl, s5 _ _ (s4 _ _ upd_same), upd_same, small300 (by rw [List.length_append]; show xs.length + ys.length + 1 ≤ 1000; omega), fun p6 hp6 => ?_⟩
      have s6 := same_new (o := .lst (xs ++ ys ++ [v4])) hp6
      have sA : Same H2 _ := s3.trans (s4.trans (s5.trans s6))
      have sB : Same H _ := s1.trans (s2.trans sA)
      exact q p6 _ _ sB ((s1.trans (s2.trans (s3.trans (s4.trans s5)))).free hp6) upd_same (((t1.same s2).same sA).app (t2.same sA) |>.app (.cons (t4.same (s5.trans s6)) .nil))
theorem fn_parts (D : Def K mg "parts_of" sParts ["term"]) (M : Txt K mg) (GB : Fn P w K mg base (23 + 21) "brought" ["term"] (spBrought 21)) (n : Nat) : Fn P w K mg base (44 + n) "parts_of" ["term"] (spParts n) :=
  D.rec (P := P) (w := w) (base := base) 44 spParts (fun vs H Q E ⟨_, _, _, _, h, _⟩ => absurd h (Nat.not_lt_zero _)) (fun n f fd F G => ok_parts F M GB G) n
end
end TP
/-! W4: exchanged, replaced, leaves_in, _law_leaves, come_there. -/
namespace TP
open PySem PySem.Spec PyProof.Rows L2
section
variable {P : Program} {w : World} {K : PySem.W.Frag} {mg : Str → Option Value} {base : Heap}

/-! ### exchanged -/
def one1 (n : Str) (u : T) : Str → T := fun y => if y = n then u else .nm y
theorem valV_one (n y : Str) (v : V) : valV [((Sum.inr n : Key), v)] (Sum.inr y) = if y = n then some v else none := by
  unfold valV
  by_cases e : y = n
  · subst e
    simp
  · have e' : ¬ (Sum.inr n : Key) = Sum.inr y := fun q => e (Sum.inr.inj q).symm
    rw [if_neg e]
    simp [e']
def spExch (n : Nat) : Sp := fun vs H Q _ => ∃ (x : V) (t : T) (d : Addr) (nm : Str) (v : V) (u : T), vs = [x, .ref d] ∧ Tm H x t ∧ t.dp < n ∧ H d = some (.dK [(Sum.inr nm, v)]) ∧ Tm H v u ∧ u.dp ≤ 20 ∧ ∀ v' H', Same H H' → Tm H' v' (sub (one1 nm u) t) → Q v' H'
theorem scExch : FnScope ["term", "table"] ["term", "table"] (defScope sExchanged) := ⟨rfl, rfl, rfl, by decide +kernel, rfl, by decide +kernel, by decide +kernel⟩
theorem ok_exch {f : Addr} {fd : FuncData} {n : Nat} (F : Fun K "exchanged" "exchanged" sExchanged f fd) (M : Txt K mg) (GK : Fn P w K mg base 21 "kept" ["term"] (spKept 21)) (G : Fn P w K mg base (21 + n) "exchanged" ["term", "table"] (spExch n)) : FnOk P w K mg base CX0 (21 + (n + 1)) f fd ["term", "table"] (spExch (n + 1)) := by
  refine F.ok scExch (fun vs H Q E h => ?_) (fun cdv A outer s H vs Q E hr h => ?_)
  · obtain ⟨x, t, d, nm, v, u, rfl, _⟩ := h
    rfl
  · obtain ⟨x, t, d, nm, v, u, rfl, ht, hd, eD, hv, h20, q⟩ := h
    refine ⟨_, pss_cons (ps_if (pt_val (pe_isStr M (pv 0) (by rfl) (by rfl))) (pss_one (ps_ret (pe_fn GK hr (Nat.le_add_right _ _) (pa_cons (pe_dget2 (hu_of hr) (pv 1) (pv 0) (pv 0) ⟨rfl, rfl, rfl, rfl⟩) pa_nil) (by rfl)))) pss_nil)
      (pss_one (ps_ret (pe_tup (pa_cons (pe_fn G hr (Nat.le_refl _) (pa_cons (pe_ix ix_tup (pv 0) pe_int (fun _ _ => rfl)) (pa_cons (pv 1) pa_nil)) (by rfl)) (pa_cons (pe_fn G hr (Nat.le_refl _) (pa_cons (pe_ix ix_tup (pv 0) pe_int (fun _ _ => rfl)) (pa_cons (pv 1) pa_nil)) (by rfl)) pa_nil))))), ?_⟩
    refine ⟨_, rfl, x, rfl, isStrQ.of ht (fun y ey ex => ?_) (fun a v1 v2 l r et ex ea hl hr2 => ?_)⟩
    · subst ey ex
      refine ⟨true, rfl, iteT ⟨_, rfl, d, rfl, .inl ⟨_, .inl eD⟩, _, rfl, _, rfl, _, DGet.k (k := Sum.inr y) eD, ?_⟩⟩
      rw [valV_one]
      have es : sub (one1 nm u) (.nm y) = if y = nm then u else .nm y := rfl
      rw [es] at q
      by_cases e : y = nm
      · rw [if_pos e] at q ⊢
        exact ⟨v, u, rfl, hv, by omega, fun v' H' s1 t1 => q v' H' s1 t1⟩
      · rw [if_neg e] at q ⊢
        exact ⟨.str y, .nm y, rfl, ht, by show 0 < 21; omega, fun v' H' s1 t1 => q v' H' s1 t1⟩
    · subst et ex
      have hd' : max l.dp r.dp + 1 < n + 1 := hd
      refine ⟨false, rfl, iteF ⟨_, rfl, a, _, _, v1, rfl, rfl, SqT.of ea, atI_nat (j := 0) rfl, _, rfl, v1, l, d, nm, v, u, rfl, hl, by omega, eD, hv, h20, fun w1 H1 s1 t1 => ?_⟩⟩
      refine ⟨_, rfl, a, _, _, v2, rfl, rfl, SqT.of (s1 _ _ ea), atI_nat (j := 1) rfl, _, rfl, v2, r, d, nm, v, u, rfl, hr2.same s1, by omega, s1 _ _ eD, hv.same s1, h20, fun w2 H2 s2 t2 => ?_⟩
      exact ⟨(by show 2 ≤ sizeLine; decide), fun p hp => q _ _ ((s1.trans s2).trans (same_new hp)) (.pr upd_same ((t1.same s2).same (same_new hp)) (t2.same (same_new hp)))⟩
theorem fn_exch (D : Def K mg "exchanged" sExchanged ["term", "table"]) (M : Txt K mg) (GK : Fn P w K mg base 21 "kept" ["term"] (spKept 21)) (n : Nat) : Fn P w K mg base (21 + n) "exchanged" ["term", "table"] (spExch n) :=
  D.rec (P := P) (w := w) (base := base) 21 spExch (fun vs H Q E ⟨_, _, _, _, _, _, _, _, h, _⟩ => absurd h (Nat.not_lt_zero _)) (fun n f fd F G => ok_exch F M GK G) n

/-! ### replaced -/
def spReplaced : Sp := fun vs H Q _ => ∃ (x : V) (t : T) (d : Addr) (nm : Str) (v : V) (u : T), vs = [x, .ref d] ∧ Tm H x t ∧ Fit t ∧ H d = some (.dK [(Sum.inr nm, v)]) ∧ Tm H v u ∧ Fit u ∧ (sub (one1 nm u) t).lv ≤ 200 ∧ ∀ v' H', Same H H' → Tm H' v' (sub (one1 nm u) t) → Q v' H'
theorem scReplaced : FnScope ["term", "table", "name", "made"] ["term", "table"] (defScope sReplaced) := ⟨rfl, rfl, rfl, by decide +kernel, rfl, by decide +kernel, by decide +kernel⟩
theorem ok_replaced {f : Addr} {fd : FuncData} (F : Fun K "replaced" "replaced" sReplaced f fd) (M : Txt K mg) (GC : Fn P w K mg base 3 "check_term" ["term"] spCheck) (GE : Fn P w K mg base (21 + 21) "exchanged" ["term", "table"] (spExch 21)) : FnOk P w K mg base CX0 43 f fd ["term", "table"] spReplaced := by
  refine F.ok scReplaced (fun vs H Q E h => ?_) (fun cdv A outer s H vs Q E hr h => ?_)
  · obtain ⟨x, t, d, nm, v, u, rfl, _⟩ := h
    rfl
  · obtain ⟨x, t, d, nm, v, u, rfl, ht, ⟨hl, hd⟩, eD, hv, ⟨ul, ud⟩, h200, q⟩ := h
    refine ⟨_, pss_cons (ps_expr (pe_fn GC hr (by decide) (pa_cons (pv 0) pa_nil) (by rfl)))
      (pss_cons (ps_for PassesOwn.never rfl (pi_list (pe_callB (call_sortedD rfl) (by rfl) M.srt (by decide +kernel) (pa_cons (pv 1) pa_nil))) (pg_name (i := 2) scReplaced.nd rfl (.inl rfl))
        (pss_one (ps_expr (pe_fn GC hr (by decide) (pa_cons (pe_dget (hu_of hr) (pv 1) (pv 2) (fun _ _ => rfl)) pa_nil) (by rfl)))))
      (pss_cons (ps_set (i := 3) scReplaced.nd rfl (.inl rfl) (pe_fn GE hr (by decide) (pa_cons (pv 0) (pa_cons (pv 1) pa_nil)) (by rfl)))
      (pss_cons (ps_expr (pe_fn GC hr (by decide) (pa_cons (pv 3) pa_nil) (by rfl)))
      (pss_one (ps_ret (pv 3)))))), ?_⟩
    refine ⟨_, rfl, x, t, rfl, ht, hl, fun H1 s1 => ?_⟩
    refine ⟨_, rfl, d, _, [nm], rfl, .inl (s1 _ _ eD), rfl, (by show 1 < 64; decide), fun ys p hperm _ hp => ?_⟩
    have hys : ys = [nm] := List.perm_singleton.mp hperm
    subst hys
    have s2 : Same H1 (upd H1 p (.lst [.str nm])) := same_new hp
    refine ⟨p, rfl, ⟨_, SqL.of upd_same⟩, for_list (K := K) (a := p) (xs := [V.str nm]) (fun i σ H' => Same (upd H1 p (.lst [.str nm])) H' ∧ ∃ y2, σ = [some x, some (.ref d), y2, none]) ⟨Same.refl _, none, rfl⟩
      (fun i σ H' _ ⟨e, _⟩ => SqL.of (e _ _ upd_same)) ?_ ?_⟩
    · rintro i z σ H' hz ⟨sm, y2, rfl⟩
      obtain rfl : z = .str nm := by
        rcases i with _ | i
        · exact (Option.some.inj hz).symm
        · simp at hz
      have sA := (s1.trans s2).trans sm
      refine ⟨_, rfl, _, rfl, d, v, rfl, ?_, v, u, rfl, hv.same sA, ul, fun H2 s3 => ⟨sm.trans s3, _, rfl⟩⟩
      have e := DGet.k (k := Sum.inr nm) (sA _ _ eD)
      rw [valV_one, if_pos rfl] at e
      exact e
    · rintro σ H' ⟨sm, y2, rfl⟩
      have sA := (s1.trans s2).trans sm
      refine ⟨_, rfl, _, rfl, x, t, d, nm, v, u, rfl, ht.same sA, by omega, sA _ _ eD, hv.same sA, ud, fun v' H2 s3 t3 => ?_⟩
      exact ⟨_, rfl, v', _, rfl, t3, h200, fun H3 s4 => ⟨_, rfl, q v' H3 ((sA.trans s3).trans s4) (t3.same s4)⟩⟩

/-! ### leaves_in, _law_leaves -/
def spLvIn (n : Nat) : Sp := fun vs H Q _ => ∃ (x : V) (t : T), vs = [x] ∧ Tm H x t ∧ t.dp < n ∧ t.lv ≤ 1000 ∧ ∀ p xs H', Same H H' → H p = none → H' p = some (.lst xs) → xs.length = t.lv → Q (.ref p) H'
theorem scLvIn : FnScope ["term"] ["term"] (defScope sLeavesIn) := ⟨rfl, rfl, rfl, by decide +kernel, rfl, by decide +kernel, by decide +kernel⟩
theorem ok_lvIn {f : Addr} {fd : FuncData} {n : Nat} (F : Fun K "leaves_in" "leaves_in" sLeavesIn f fd) (M : Txt K mg) (G : Fn P w K mg base n "leaves_in" ["term"] (spLvIn n)) : FnOk P w K mg base CX0 (n + 1) f fd ["term"] (spLvIn (n + 1)) := by
  refine F.ok scLvIn (fun vs H Q E h => ?_) (fun cdv A outer s H vs Q E hr h => ?_)
  · obtain ⟨x, t, rfl, _⟩ := h
    rfl
  · obtain ⟨x, t, rfl, ht, hd, hl, q⟩ := h
    refine ⟨_, pss_one (ps_ret (pe_ifExp (pt_val (pe_isStr M (pv 0) (by rfl) (by rfl))) (pe_lst (pa_cons (pv 0) pa_nil))
      (pe_op op_cat (pe_fn G hr (Nat.le_refl _) (pa_cons (pe_ix ix_tup (pv 0) pe_int (fun _ _ => rfl)) pa_nil) (by rfl)) (pe_fn G hr (Nat.le_refl _) (pa_cons (pe_ix ix_tup (pv 0) pe_int (fun _ _ => rfl)) pa_nil) (by rfl))))), ?_⟩
    refine ⟨_, rfl, x, rfl, isStrQ.of ht (fun y ey ex => ?_) (fun a u v l r et ex ea hu hv => ?_)⟩
    · subst ey ex
      exact ⟨true, rfl, iteT ⟨_, rfl, (by show 1 ≤ sizeLine; decide), fun p hp => q p _ _ (same_new hp) hp upd_same rfl⟩⟩
    · subst et ex
      have hd' : max l.dp r.dp + 1 < n + 1 := hd
      have hl' : l.lv + r.lv ≤ 1000 := hl
      refine ⟨false, rfl, iteF ⟨_, rfl, a, _, _, u, rfl, rfl, SqT.of ea, atI_nat (j := 0) rfl, u, l, rfl, hu, by omega, by omega, fun p1 xs H1 s1 z1 e1 t1 => ?_⟩⟩
      refine ⟨_, rfl, a, _, _, v, rfl, rfl, SqT.of (s1 _ _ ea), atI_nat (j := 1) rfl, v, r, rfl, hv.same s1, by omega, by omega, fun p2 ys H2 s2 z2 e2 t2 => ?_⟩
      refine ⟨p1, p2, xs, ys, rfl, rfl, s2 _ _ e1, e2, small300 (by omega), fun p3 hp3 => q p3 _ _ ((s1.trans s2).trans (same_new hp3)) ((s1.trans s2).free hp3) upd_same ?_⟩
      rw [List.length_append, t1, t2]
      rfl
theorem fn_lvIn (D : Def K mg "leaves_in" sLeavesIn ["term"]) (M : Txt K mg) (n : Nat) : Fn P w K mg base n "leaves_in" ["term"] (spLvIn n) := by
  have h := D.rec (P := P) (w := w) (base := base) 0 spLvIn (fun vs H Q E ⟨_, _, _, _, h, _⟩ => absurd h (Nat.not_lt_zero _)) (fun n f fd F G => by
    rw [Nat.zero_add] at G ⊢
    exact ok_lvIn F M G) n
  rw [Nat.zero_add] at h
  exact h
theorem scLLeaves : FnScope ["_law_term_here"] ["_law_term_here"] (defScope sLLeaves) := ⟨rfl, rfl, rfl, by decide +kernel, rfl, by decide +kernel, by decide +kernel⟩
theorem ok_lleaves {f : Addr} {fd : FuncData} {n : Nat} (F : Fun K "_law_leaves" "_law_leaves" sLLeaves f fd) (M : Txt K mg) (G : Fn P w K mg base n "_law_leaves" ["_law_term_here"] (spLvIn n)) : FnOk P w K mg base CX0 (n + 1) f fd ["_law_term_here"] (spLvIn (n + 1)) := by
  refine F.ok scLLeaves (fun vs H Q E h => ?_) (fun cdv A outer s H vs Q E hr h => ?_)
  · obtain ⟨x, t, rfl, _⟩ := h
    rfl
  · obtain ⟨x, t, rfl, ht, hd, hl, q⟩ := h
    refine ⟨_, pss_cons (ps_if (pt_val (pe_isStr M (pv 0) (by rfl) (by rfl))) (pss_one (ps_ret (pe_lst (pa_cons (pv 0) pa_nil)))) pss_nil)
      (pss_one (ps_ret (pe_op op_cat (pe_fn G hr (Nat.le_refl _) (pa_cons (pe_ix ix_tup (pv 0) pe_int (fun _ _ => rfl)) pa_nil) (by rfl)) (pe_fn G hr (Nat.le_refl _) (pa_cons (pe_ix ix_tup (pv 0) pe_int (fun _ _ => rfl)) pa_nil) (by rfl))))), ?_⟩
    refine ⟨_, rfl, x, rfl, isStrQ.of ht (fun y ey ex => ?_) (fun a u v l r et ex ea hu hv => ?_)⟩
    · subst ey ex
      exact ⟨true, rfl, iteT ⟨_, rfl, (by show 1 ≤ sizeLine; decide), fun p hp => q p _ _ (same_new hp) hp upd_same rfl⟩⟩
    · subst et ex
      have hd' : max l.dp r.dp + 1 < n + 1 := hd
      have hl' : l.lv + r.lv ≤ 1000 := hl
      refine ⟨false, rfl, iteF ⟨_, rfl, a, _, _, u, rfl, rfl, SqT.of ea, atI_nat (j := 0) rfl, u, l, rfl, hu, by omega, by omega, fun p1 xs H1 s1 z1 e1 t1 => ?_⟩⟩
      refine ⟨_, rfl, a, _, _, v, rfl, rfl, SqT.of (s1 _ _ ea), atI_nat (j := 1) rfl, v, r, rfl, hv.same s1, by omega, by omega, fun p2 ys H2 s2 z2 e2 t2 => ?_⟩
      refine ⟨p1, p2, xs, ys, rfl, rfl, s2 _ _ e1, e2, small300 (by omega), fun p3 hp3 => q p3 _ _ ((s1.trans s2).trans (same_new hp3)) ((s1.trans s2).free hp3) upd_same ?_⟩
      rw [List.length_append, t1, t2]
      rfl
theorem fn_lleaves (D : Def K mg "_law_leaves" sLLeaves ["_law_term_here"]) (M : Txt K mg) (n : Nat) : Fn P w K mg base n "_law_leaves" ["_law_term_here"] (spLvIn n) := by
  have h := D.rec (P := P) (w := w) (base := base) 0 spLvIn (fun vs H Q E ⟨_, _, _, _, h, _⟩ => absurd h (Nat.not_lt_zero _)) (fun n f fd F G => by
    rw [Nat.zero_add] at G ⊢
    exact ok_lleaves F M G) n
  rw [Nat.zero_add] at h
  exact h

/-! ### come_there -/
/-- by the names and the pairs the term comes to g of it -/
def Come (nk : List (Key × V)) (pk : List (List Key × V)) (g : T → Int) : T → Prop
  | .nm y => valV nk (Sum.inr y) = some (.int (g (.nm y)))
  | .pr a b => Come nk pk g a ∧ Come nk pk g b ∧ (g a = g b → g (.pr a b) = g a) ∧ (g a ≠ g b → valV pk [Sum.inl (g a), Sum.inl (g b)] = some (.int (g (.pr a b))))
def spCome (n : Nat) : Sp := fun vs H Q _ => ∃ (x : V) (t : T) (dn dp : Addr) (nk : List (Key × V)) (pk : List (List Key × V)) (g : T → Int), vs = [x, .ref dn, .ref dp] ∧ Tm H x t ∧ t.dp < n ∧ H dn = some (.dK nk) ∧ H dp = some (.dT pk) ∧ Come nk pk g t ∧ ∀ H', Same H H' → Q (.int (g t)) H'
theorem scCome : FnScope ["term", "names", "pairs", "one", "other"] ["term", "names", "pairs"] (defScope sCome) := ⟨rfl, rfl, rfl, by decide +kernel, rfl, by decide +kernel, by decide +kernel⟩
theorem ok_come {f : Addr} {fd : FuncData} {n : Nat} (F : Fun K "come_there" "come_there" sCome f fd) (M : Txt K mg) (G : Fn P w K mg base n "come_there" ["term", "names", "pairs"] (spCome n)) : FnOk P w K mg base CX0 (n + 1) f fd ["term", "names", "pairs"] (spCome (n + 1)) := by
  refine F.ok scCome (fun vs H Q E h => ?_) (fun cdv A outer s H vs Q E hr h => ?_)
  · obtain ⟨x, t, dn, dp, nk, pk, g, rfl, _⟩ := h
    rfl
  · obtain ⟨x, t, dn, dp, nk, pk, g, rfl, ht, hd, eN, eP, hc, q⟩ := h
    refine ⟨_, pss_cons (ps_if (pt_val (pe_isStr M (pv 0) (by rfl) (by rfl))) (pss_one (ps_ret (pe_dget1 (hu_of hr) (pv 1) (pv 0) ⟨rfl, rfl, rfl, rfl⟩))) pss_nil)
      (pss_cons (ps_par (i := 3) (j := 4) (by rfl) scCome.nd rfl rfl (by decide) rfl rfl (pa_cons (pe_fn G hr (Nat.le_refl _) (pa_cons (pe_ix ix_tup (pv 0) pe_int (fun _ _ => rfl)) (pa_cons (pv 1) (pa_cons (pv 2) pa_nil))) (by rfl))
          (pa_cons (pe_fn G hr (Nat.le_refl _) (pa_cons (pe_ix ix_tup (pv 0) pe_int (fun _ _ => rfl)) (pa_cons (pv 1) (pa_cons (pv 2) pa_nil))) (by rfl)) pa_nil)) (by rfl))
      (pss_one (ps_ret (pe_ifExp (pt_cmpR op_eq (pv 3) (pv 4) (nomark _)) (pv 3) (pe_dget1 (hu_of hr) (pv 2) (pe_tup (pa_cons (pv 3) (pa_cons (pv 4) pa_nil))) ⟨rfl, rfl, rfl, rfl⟩))))), ?_⟩
    refine ⟨_, rfl, x, rfl, isStrQ.of ht (fun y ey ex => ?_) (fun a u v l r et ex ea hu hv => ?_)⟩
    · subst ey ex
      refine ⟨true, rfl, iteT ⟨_, rfl, dn, rfl, .inl ⟨_, .inl eN⟩, _, rfl, _, DGet.k (k := Sum.inr y) eN, ?_⟩⟩
      have hc' : valV nk (Sum.inr y) = some (.int (g (.nm y))) := hc
      rw [hc']
      exact q H (Same.refl H)
    · subst et ex
      have hd' : max l.dp r.dp + 1 < n + 1 := hd
      obtain ⟨cl, cr, ce, cn⟩ := hc
      refine ⟨false, rfl, iteF ⟨_, rfl, a, _, _, u, rfl, rfl, SqT.of ea, atI_nat (j := 0) rfl, _, rfl, _, rfl, u, l, dn, dp, nk, pk, g, rfl, hu, by omega, eN, eP, cl, fun H1 s1 => ?_⟩⟩
      refine ⟨_, rfl, a, _, _, v, rfl, rfl, SqT.of (s1 _ _ ea), atI_nat (j := 1) rfl, _, rfl, _, rfl, v, r, dn, dp, nk, pk, g, rfl, hv.same s1, by omega, s1 _ _ eN, s1 _ _ eP, cr, fun H2 s2 => ?_⟩
      have sA := s1.trans s2
      refine ⟨_, _, rfl, _, rfl, _, rfl, rfl, _, rfl, ?_⟩
      refine ite2 (fun c => ?_) (fun c => ?_)
      · have c' : g l = g r := V.int.inj (of_decide_eq_true c)
        refine ⟨_, rfl, ?_⟩
        have e := q H2 sA
        rw [ce c'] at e
        exact e
      · have c' : ¬ g l = g r := fun e => c (decide_eq_true (by rw [e]))
        refine ⟨_, rfl, dp, rfl, .inr ⟨_, .inl (sA _ _ eP)⟩, _, rfl, _, rfl, (by show 2 ≤ sizeLine; decide), fun p hp => ?_⟩
        have s3 := same_new (o := .tup [.int (g l), .int (g r)]) hp
        refine ⟨_, DGet.t (k := [Sum.inl (g l), Sum.inl (g r)]) (s3 _ _ (sA _ _ eP)) upd_same, ?_⟩
        rw [cn c']
        exact q _ (sA.trans s3)
theorem fn_come (D : Def K mg "come_there" sCome ["term", "names", "pairs"]) (M : Txt K mg) (n : Nat) : Fn P w K mg base n "come_there" ["term", "names", "pairs"] (spCome n) := by
  have h := D.rec (P := P) (w := w) (base := base) 0 spCome (fun vs H Q E ⟨_, _, _, _, _, _, _, _, _, h, _⟩ => absurd h (Nat.not_lt_zero _)) (fun n f fd F G => by
    rw [Nat.zero_add] at G ⊢
    exact ok_come F M G) n
  rw [Nat.zero_add] at h
  exact h
end
end TP
/-! W5: the class Parting; sorted of lists of numbers. -/
namespace TP
open PySem PySem.Spec PyProof.Rows L2

/-! ### what a Parting holds -/
def flds (n : Int) (l d e : Addr) : List (Str × V) := putF "ends" (.ref e) (putF "names" (.ref d) (putF "threes" (.ref l) (putF "count" (.int n) [])))
theorem putF_len (f : Str) (v : V) : ∀ fs : List (Str × V), (putF f v fs).length ≤ fs.length + 1
  | [] => Nat.le_refl _
  | (g, x) :: r => by
    have := putF_len f v r
    show (if g = f then (g, v) :: r else (g, x) :: putF f v r).length ≤ r.length + 1 + 1
    split
    · rw [List.length_cons]
      omega
    · rw [List.length_cons]
      omega
theorem f_count (n : Int) (l d e : Addr) : (flds n l d e).lookup ("count" : Str) = some (.int n) := by
  unfold flds
  rw [lookup_putF, if_neg (by decide +kernel), lookup_putF, if_neg (by decide +kernel), lookup_putF, if_neg (by decide +kernel), lookup_putF, if_pos rfl]
theorem f_threes (n : Int) (l d e : Addr) : (flds n l d e).lookup ("threes" : Str) = some (.ref l) := by
  unfold flds
  rw [lookup_putF, if_neg (by decide +kernel), lookup_putF, if_neg (by decide +kernel), lookup_putF, if_pos rfl]
theorem f_names (n : Int) (l d e : Addr) : (flds n l d e).lookup ("names" : Str) = some (.ref d) := by
  unfold flds
  rw [lookup_putF, if_neg (by decide +kernel), lookup_putF, if_pos rfl]
theorem f_ends (n : Int) (l d e : Addr) : (flds n l d e).lookup ("ends" : Str) = some (.ref e) := by
  unfold flds
  rw [lookup_putF, if_pos rfl]
theorem bt_tuple : bootBuiltins "tuple" = some (.type "tuple") := by decide +kernel
theorem bt_dict : bootBuiltins "dict" = some (.type "dict") := by decide +kernel
/-- the same, where the written part is told (within a comprehension) -/
def rTup (K : PySem.W.Frag) : List V → Hp → VK → Prop := fun xs H Q => ∃ p ys, xs = [V.ref p] ∧ ((SqL K H p ys ∧ ∀ l, H l = none → Q (V.ref l) (upd H l (.tup ys))) ∨ SqT K H p ys ∧ Q (V.ref p) H)
theorem cr_tup {X : Cx} {K : PySem.W.Frag} (hK : X.K = K) : CallR X (.type "tuple") (rTup K) := by
  subst hK
  exact call_tuple_of
theorem ixT {X : Cx} {K : PySem.W.Frag} (hK : X.K = K) : IxR X (rIxT K) := by
  subst hK
  exact ix_tup
theorem ixL {X : Cx} {K : PySem.W.Frag} (hK : X.K = K) : IxR X (rIxL K) := by
  subst hK
  exact ix_list
structure Cl (K : PySem.W.Frag) (mg : Str → Option Value) (C : Addr) : Prop where
  cl : Cls K C
  n1 : NoAttr K C "count"
  n2 : NoAttr K C "threes"
  n3 : NoAttr K C "names"
  n4 : NoAttr K C "ends"
  mgC : mg "Parting" = some (.ref C)
/-- a list or tuple of numbers at each of some places -/
def Rows (c : List V → HO) (H : Hp) (ls : List Addr) (tr : List (List Int)) : Prop := Paired (fun l three => H l = some (c (three.map V.int))) ls tr
theorem Rows.same {c : List V → HO} {H H' : Hp} (k : Same H H') : ∀ {ls : List Addr} {tr : List (List Int)}, Rows c H ls tr → Rows c H' ls tr
  | _, _, .nil => .nil
  | _, _, .cons h t => .cons (k _ _ h) (Rows.same k t)
theorem Rows.snoc {c : List V → HO} {H : Hp} {ls : List Addr} {tr : List (List Int)} {l : Addr} {three : List Int} (h : Rows c H ls tr) (e : H l = some (c (three.map V.int))) : Rows c H (ls ++ [l]) (tr ++ [three]) := Paired.snoc h e
theorem Rows.keep {c : List V → HO} {H H' : Hp} {ls : List Addr} {tr : List (List Int)} (h : Rows c H ls tr) (k : ∀ l three, H l = some (c (List.map V.int three)) → H' l = some (c (three.map V.int))) : Rows c H' ls tr := by
  induction h with
  | nil => exact .nil
  | cons e _ ih => exact .cons (k _ _ e) ih
theorem Rows.keepM {c : List V → HO} {H H' : Hp} : ∀ {ls : List Addr} {tr : List (List Int)}, Rows c H ls tr → (∀ l ∈ ls, H' l = H l) → Rows c H' ls tr
  | _, _, .nil, _ => .nil
  | _, _, .cons e t, k => .cons ((k _ List.mem_cons_self).trans e) (Rows.keepM t fun l hl => k l (List.mem_cons_of_mem _ hl))
theorem Rows.get {c : List V → HO} {H : Hp} : ∀ {ls : List Addr} {tr : List (List Int)}, Rows c H ls tr → ∀ {i : Nat} {l : Addr}, ls[i]? = some l → ∃ three, tr[i]? = some three ∧ H l = some (c (three.map V.int))
  | _, _, .cons h _, 0, l, e => by
    have e' := Option.some.inj e
    subst e'
    exact ⟨_, rfl, h⟩
  | _, _, .cons _ t, i + 1, l, e => by
    obtain ⟨u, e1, e2⟩ := Rows.get t (i := i) (l := l) (by simpa using e)
    exact ⟨u, by simpa using e1, e2⟩
structure Told (C : Addr) (H : Hp) (o : Addr) (n : Int) (tr : List (List Int)) (nk : List (Key × V)) (i j : Int) : Prop where
  ex : ∃ (dx l d e : Addr) (ts : List Addr), H o = some (.ins C dx (flds n l d e)) ∧ H l = some (.lst (ts.map V.ref)) ∧ Rows .tup H ts tr ∧ H d = some (.dK nk) ∧ H e = some (.tup [.int i, .int j])
theorem Told.same {C : Addr} {H H' : Hp} {o : Addr} {n : Int} {tr : List (List Int)} {nk : List (Key × V)} {i j : Int} (k : Same H H') (t : Told C H o n tr nk i j) : Told C H' o n tr nk i j := by
  obtain ⟨dx, l, d, e, ts, h1, h2, h3, h4, h5⟩ := t.ex
  exact ⟨dx, l, d, e, ts, k _ _ h1, k _ _ h2, h3.same k, k _ _ h4, k _ _ h5⟩

/-! ### sorted of lists of numbers -/
theorem Rows.zip {c : List V → HO} {H : Hp} : ∀ {ls : List Addr} {tr : List (List Int)}, Rows c H ls tr → ∀ b ∈ ls.zip tr, H b.1 = some (c (b.2.map V.int))
  | _, _, .cons h t, b, hb => by
    rw [List.zip_cons_cons] at hb
    rcases List.mem_cons.mp hb with rfl | hb
    · exact h
    · exact Rows.zip t b hb
theorem Rows.of {c : List V → HO} {H : Hp} : ∀ {bs : List (Addr × List Int)}, (∀ b ∈ bs, H b.1 = some (c (b.2.map V.int))) → Rows c H (bs.map (·.1)) (bs.map (·.2))
  | [], _ => .nil
  | b :: bs, h => .cons (h b List.mem_cons_self) (Rows.of fun b hb => h b (List.mem_cons_of_mem _ hb))
theorem Rows.fst {c : List V → HO} {H : Hp} : ∀ {ls : List Addr} {tr : List (List Int)}, Rows c H ls tr → (ls.zip tr).map (·.1) = ls ∧ (ls.zip tr).map (·.2) = tr
  | _, _, .nil => ⟨rfl, rfl⟩
  | _, _, .cons _ t => by
    obtain ⟨e1, e2⟩ := Rows.fst t
    rw [List.zip_cons_cons, List.map_cons, List.map_cons, e1, e2]
    exact ⟨rfl, rfl⟩
def rowD (b : Addr × List Int) : PyData := .list (b.2.map .int)
theorem ints_dp {K : PySem.W.Frag} {H : Hp} : ∀ ns : List Int, DpAll K H (ns.map V.int) (ns.map .int)
  | [] => .nil
  | n :: ns => .cons (.int n) (ints_dp ns)
def rSortRows (K : PySem.W.Frag) : List V → Hp → VK → Prop := fun vs H Q => ∃ (a : Addr) (ls : List Addr) (tr : List (List Int)), vs = [.ref a] ∧ SqL K H a (ls.map V.ref) ∧ Rows .lst H ls tr ∧ ls.length ≤ 1000 ∧
  ∀ (ls' : List Addr) (tr' : List (List Int)) (p : Addr), Rows .lst H ls' tr' → tr'.Perm tr → ls'.length = ls.length → H p = none → Q (.ref p) (upd H p (.lst (ls'.map V.ref)))
theorem refs_each : ∀ {bs : List (Addr × List Int)} {us : List Value}, Vals ((bs.map (·.1)).map V.ref) us → PySem.W.EachIs (fun (u : Value) (b : Addr × List Int) => u = .ref b.1) us bs
  | [], _, r => by
    cases r
    exact .nil
  | b :: bs, _, r => by
    have r' : Vals (V.ref b.1 :: (bs.map (·.1)).map V.ref) _ := r
    cases r' with
    | cons h t => exact .cons h (refs_each t)
theorem each_refs : ∀ {bs : List (Addr × List Int)} {us : List Value}, PySem.W.EachIs (fun (u : Value) (b : Addr × List Int) => u = .ref b.1) us bs → Vals ((bs.map (·.1)).map V.ref) us
  | _, _, .nil => .nil
  | _, _, .cons h t => .cons h (each_refs t)
theorem cr_sortRows {X : Cx} (hu : X.A.units + 64 < cLine) : CallR X (.builtin "sorted") (rSortRows X.K) := by
  intro pins s σ H vs us Q I r h
  obtain ⟨a, ls, tr, rfl, hs, hr, hl, q⟩ := h
  obtain rfl := Vals.ref1 r
  obtain ⟨its, rv, hlist, hz⟩ := I.list hs
  obtain ⟨e1, e2⟩ := hr.fst
  have hz1 := hr.zip
  have rv' : Vals (((ls.zip tr).map (·.1)).map V.ref) its := by
    rw [e1]
    exact rv
  have hlen : (ls.zip tr).length = ls.length := by
    have := congrArg List.length e1
    rw [List.length_map] at this
    exact this
  have hrd : PySem.W.EachIs (fun (v : Value) (b : Addr × List Int) => ∃ as, Reads s.heap v (rowD b) as) its (ls.zip tr) := by
    have base := refs_each rv'
    have : ∀ {bs : List (Addr × List Int)} {us : List Value}, PySem.W.EachIs (fun (u : Value) (b : Addr × List Int) => u = .ref b.1) us bs → (∀ b ∈ bs, H b.1 = some (.lst (b.2.map V.int))) → PySem.W.EachIs (fun (v : Value) (b : Addr × List Int) => ∃ as, Reads s.heap v (rowD b) as) us bs := by
      intro bs us e
      induction e with
      | nil => exact fun _ => .nil
      | @cons u b us bs h _ ih =>
        intro hb
        refine .cons ?_ (ih fun b hb' => hb b (List.mem_cons_of_mem _ hb'))
        exact Dp.reads I (rowD b) (.ref b.1) u (.lst (.inl (.inl (hb b List.mem_cons_self))) (ints_dp _)) h
    exact this base hz1
  have hd : ∀ b : Addr × List Int, (rowD b).depth = 1 := fun b => by
    show (PyData.list (b.2.map .int)).depth = 1
    rw [PyData.depth, PySem.W.depth_ints]
  refine PySem.W.sorted_data (enc := rowD) hlist.isList (refs_each rv') hrd (.of fun b b' => by simp only [rowD, PySem.W.alike]; exact PySem.W.alike_ints _ _) (.others fun b => ⟨fun z => (nomatch z), fun xs z => (nomatch z)⟩) (by rw [hlen]; exact Nat.le_trans hl (by decide)) (fun b _ => by rw [hd]; omega) fun out ho he => ?_
  obtain ⟨ep, hat⟩ := PyProof.Rows.sortedAll_at s.heap its (List.toArray out)
  have hperm : ((ls.zip tr).mergeSort (PySem.W.dataLe false rowD)).Perm (ls.zip tr) := List.mergeSort_perm _ _
  have hfree : H (s.heap.objs.size + 1) = none := I.hok.fresh (Nat.le_succ _)
  have hl2 : ((ls.zip tr).mergeSort (PySem.W.dataLe false rowD)).length = ls.length := hperm.length_eq.trans hlen
  refine ⟨.ref _, upd H (s.heap.objs.size + 1) (.lst ((((ls.zip tr).mergeSort (PySem.W.dataLe false rowD)).map (·.1)).map V.ref)), I.laid (t' := s.toks) (fun _ _ => PyProof.Rows.sortedAll_old) (Nat.le_succ _) ⟨by rw [List.length_map, List.length_map, hl2]; exact Nat.le_trans hl (by decide), out, ep, each_refs he, hat⟩, rfl,
    q _ (((ls.zip tr).mergeSort (PySem.W.dataLe false rowD)).map (·.2)) _ (Rows.of fun b hb => hz1 b (hperm.mem_iff.mp hb)) ?_ (by rw [List.length_map, hl2]) hfree⟩
  have := hperm.map (·.2)
  rw [e2] at this
  exact this

section
variable {P : Program} {w : World} {K : PySem.W.Frag} {mg : Str → Option Value} {base : Heap}
/-- the new instance at p; H0: what stood before -/
def spPInit (C : Addr) : Sp := fun vs H Q _ => ∃ (H0 : Hp) (p dx lt dn et : Addr) (n : Int) (ls : List Addr) (tr : List (List Int)) (nk : List (Key × V)) (i j : Int), vs = [.ref p, .int n, .ref lt, .ref dn, .ref et] ∧ Same H0 H ∧ H0 p = none ∧ H p = some (.ins C dx []) ∧
  H0 lt = some (.lst (ls.map V.ref)) ∧ Rows .lst H0 ls tr ∧ H0 dn = some (.dK nk) ∧ H0 et = some (.tup [.int i, .int j]) ∧ ls.length ≤ 1000 ∧ ∀ H', Same H0 H' → Told C H' p n tr nk i j → Q .non H'
theorem scPInit : FnScope ["self", "count", "threes", "names", "ends", "three"] ["self", "count", "threes", "names", "ends"] (defScope sPInit) := ⟨rfl, rfl, rfl, by decide +kernel, rfl, by decide +kernel, by decide +kernel⟩
theorem ok_pinit {f C : Addr} {fd : FuncData} (F : Fun K "__init__" "Parting.__init__" sPInit f fd) (M : Txt K mg) (c : Cl K mg C) : FnOk P w K mg base CX0 1 f fd ["self", "count", "threes", "names", "ends"] (spPInit C) := by
  refine F.ok scPInit (fun vs H Q E h => ?_) (fun cdv A outer s H vs Q E hr h => ?_)
  · obtain ⟨H0, p, dx, lt, dn, et, n, ls, tr, nk, i, j, rfl, _⟩ := h
    rfl
  · obtain ⟨H0, p, dx, lt, dn, et, n, ls, tr, nk, i, j, rfl, s0, p0, hp, hlt, hrows, hdn, het, hlen, q⟩ := h
    refine ⟨_, pss_cons (ps_fld (pv 0) (pv 1) rfl)
      (pss_cons (ps_fld (pv 0) (pe_lc (own := [("three", 5)]) (g := gName 5) (tt := tYes) rfl scPInit.nd (pi_list (pv 2)) (blkOk_by (own := [("three", 5)]) (N := ["self", "count", "threes", "names", "ends", "three"]) (sc := defScope sPInit) (by decide +kernel))
          (fun _ _ _ _ _ => pg_name (i := 5) scPInit.nd rfl (Or.inl rfl)) (fun _ _ _ _ _ => pts_nil) (fun _ _ _ _ _ => pe_callTy (cr_tup (K := K) rfl) (by rfl) M.tup bt_tuple (pa_cons (pv 5) pa_nil))) rfl)
      (pss_cons (ps_fld (pv 0) (pe_callTy call_dictD (by rfl) M.dic bt_dict (pa_cons (pv 3) pa_nil)) rfl)
      (pss_one (ps_fld (pv 0) (pe_callTy call_tuple_of (by rfl) M.tup bt_tuple (pa_cons (pv 4) pa_nil)) rfl)))), ?_⟩
    have npl : ∀ b o, H0 b = some o → b ≠ p := fun b o e => ne_of_none e p0
    refine ⟨_, rfl, _, rfl, p, C, dx, [], rfl, hp, c.cl, c.n1, (by show 0 < 1000; decide), ?_⟩
    have s1 : Same H0 (upd H p (.ins C dx (putF "count" (.int n) []))) := fun b o e => by
      rw [upd_ne (npl b o e)]
      exact s0 b o e
    refine ⟨_, rfl, lt, rfl, ⟨_, SqL.of (s1 _ _ hlt)⟩, fun D hD => lc_list (K := K) (a := lt) (xs := ls.map V.ref) (fun i H' => Same H0 H' ∧ H' p = some (.ins C dx (putF "count" (.int n) [])) ∧ ∃ ts, H' D = some (.lst (ts.map V.ref)) ∧ Rows .tup H' ts (tr.take i) ∧ ts.length = i)
      ⟨same_upd s1 (s1.free hD), ?_, [], upd_same, by rw [List.take_zero]; exact .nil, rfl⟩ (fun i H' _ ⟨s, _⟩ => SqL.of (s _ _ hlt)) ?_ ?_⟩
    · have : p ≠ D := fun e => by
        rw [← e, upd_same] at hD
        cases hD
      rw [upd_ne this, upd_same]
    · rintro i x H' hx ⟨s, ep, ts, eD, hr2, hl⟩
      have hD0 := s1.free hD
      rw [List.getElem?_map] at hx
      obtain ⟨l, hls, rfl⟩ := Option.map_eq_some_iff.mp hx
      obtain ⟨three, ht, el⟩ := hrows.get hls
      have hi : i < ls.length := (List.getElem?_eq_some_iff.mp hls).1
      refine ⟨rfl, ⟨_, rfl, l, _, rfl, .inl ⟨SqL.of (s _ _ el), fun t ht2 => ?_⟩⟩⟩
      have s2 := same_new (o := .tup (three.map V.int)) ht2
      refine ⟨_, s2 _ _ eD, by rw [List.length_map]; exact small1000 (by omega), same_upd (s.trans s2) hD0, ?_, ts ++ [t], by rw [upd_same, List.map_append]; rfl, ?_, by rw [List.length_append, hl]; rfl⟩
      · rw [upd_ne (ne_of (s2 _ _ ep) (s2 _ _ eD) (fun z => nomatch z))]
        exact s2 _ _ ep
      · rw [List.take_add_one, ht]
        refine Rows.keep ((hr2.same s2).snoc (three := three) upd_same) fun l' th e => ?_
        rw [upd_ne (ne_of e (s2 _ _ eD) (fun z => nomatch z))]
        exact e
    · rintro H' ⟨s, ep, ts, eD, hr2, hl⟩
      have hD0 := s1.free hD
      rw [List.length_map] at hr2 hl
      have htr : tr.take ls.length = tr := List.take_of_length_le (by rw [Paired.length hrows]; exact Nat.le_refl _)
      rw [htr] at hr2
      -- self.threes = D
      refine ⟨_, rfl, p, C, dx, _, rfl, ep, c.cl, c.n2, Nat.lt_of_le_of_lt (putF_len _ _ _) (by show 0 + 1 < 1000; decide), ?_⟩
      have up : ∀ {fs : List (Str × V)} {H1 : Hp} {b : Addr} {o : HO}, H1 b = some o → b ≠ p → (upd H1 p (.ins C dx fs)) b = some o := fun {fs H1 b o} e hb => by
        rw [upd_ne hb]
        exact e
      have nDp : D ≠ p := ne_of eD ep (fun z => nomatch z)
      -- self.names = dict(names)
      refine ⟨_, rfl, dn, nk, rfl, .inl (up (s _ _ hdn) (npl _ _ hdn)), fun d hd => ?_⟩
      have s3 := same_new (o := .dK nk) hd
      refine ⟨_, rfl, p, C, dx, _, rfl, s3 _ _ upd_same, c.cl, c.n3, Nat.lt_of_le_of_lt (putF_len _ _ _) (Nat.lt_of_le_of_lt (Nat.add_le_add_right (putF_len _ _ _) 1) (by show 0 + 1 + 1 < 1000; decide)), ?_⟩
      have ndp : d ≠ p := fun e => by
        rw [e, upd_same] at hd
        cases hd
      -- self.ends = tuple(ends)
      refine ⟨_, rfl, et, _, rfl, .inr ⟨SqT.of (up (s3 _ _ (up (s _ _ het) (npl _ _ het))) (npl _ _ het)), ?_⟩⟩
      refine ⟨_, rfl, p, C, dx, _, rfl, upd_same, c.cl, c.n4, Nat.lt_of_le_of_lt (putF_len _ _ _) (Nat.lt_of_le_of_lt (Nat.add_le_add_right (putF_len _ _ _) 1) (Nat.lt_of_le_of_lt (Nat.add_le_add_right (Nat.add_le_add_right (putF_len _ _ _) 1) 1) (by show 0 + 1 + 1 + 1 < 1000; decide))), ?_⟩
      refine q _ (fun b o e => up (up (s3 _ _ (up (s _ _ e) (npl _ _ e))) (npl _ _ e)) (npl _ _ e)) ⟨dx, D, d, et, ts, upd_same, up (up (s3 _ _ (up eD nDp)) nDp) nDp, ?_, up (up upd_same ndp) ndp, up (up (s3 _ _ (up (s _ _ het) (npl _ _ het))) (npl _ _ het)) (npl _ _ het)⟩
      refine Rows.keep hr2 fun l th e => ?_
      have hlp : l ≠ p := ne_of e ep (fun z => nomatch z)
      exact up (up (s3 _ _ (up e hlp)) hlp) hlp
end
end TP
/-! W6: parting. -/
namespace TP
open PySem PySem.Spec PyProof.Rows L2
theorem ixTD {X : Cx} {w : World} (hw : X.w = w) (hu : X.A.units + 65 < cLine) : IxR X (rIxTD w) := by
  subst hw
  exact ix_td hu
theorem crSorted {X : Cx} {K : PySem.W.Frag} (hK : X.K = K) : CallR X (.builtin "sorted") (rSorted K) := by
  subst hK
  exact cr_sorted
theorem bt_sorted : bootBuiltins "sorted" = some (.builtin "sorted") := by decide +kernel
theorem hu65 {A : Around} {k : Nat} (hr : Room k A) : A.units + 65 < cLine := by
  have := hr.un
  omega
/-- a point's place among the points -/
def ixn : List T → T → Nat
  | [], _ => 0
  | x :: xs, t => if x = t then 0 else ixn xs t + 1
theorem ixn_lt : ∀ {pl : List T} {t : T}, t ∈ pl → ixn pl t < pl.length
  | x :: xs, t, h => by
    show (if x = t then 0 else ixn xs t + 1) < xs.length + 1
    by_cases e : x = t
    · rw [if_pos e]
      omega
    · rw [if_neg e]
      have := ixn_lt (pl := xs) ((List.mem_cons.mp h).resolve_left fun q => e q.symm)
      omega
theorem ixn_get : ∀ {pl : List T} {t : T}, t ∈ pl → pl[ixn pl t]? = some t
  | x :: xs, t, h => by
    show (x :: xs)[if x = t then 0 else ixn xs t + 1]? = some t
    by_cases e : x = t
    · rw [if_pos e, e]
      rfl
    · rw [if_neg e]
      exact ixn_get (pl := xs) ((List.mem_cons.mp h).resolve_left fun q => e q.symm)
def ixOf (pl : List T) (t : T) : Int := ((ixn pl t : Nat) : Int)
theorem ixOf_inj {pl : List T} {a b : T} (ha : a ∈ pl) (hb : b ∈ pl) (e : ixOf pl a = ixOf pl b) : a = b := by
  have e' : ixn pl a = ixn pl b := by
    unfold ixOf at e
    omega
  have h1 := ixn_get ha
  rw [e', ixn_get hb] at h1
  exact (Option.some.inj h1).symm
/-- the dict of the places -/
def atE : Nat → List It2 → List KT3
  | _, [] => []
  | k, b :: r => (b.2, b.1, .int (k : Nat)) :: atE (k + 1) r
theorem atE_snoc (b : It2) : ∀ (l : List It2) (k : Nat), atE k (l ++ [b]) = atE k l ++ [(b.2, b.1, .int ((k + l.length : Nat) : Int))]
  | [], k => rfl
  | c :: l, k => by
    show (c.2, c.1, V.int (k : Nat)) :: atE (k + 1) (l ++ [b]) = (c.2, c.1, V.int (k : Nat)) :: (atE (k + 1) l ++ _)
    rw [atE_snoc b l (k + 1), List.length_cons]
    have : k + 1 + l.length = k + (l.length + 1) := by omega
    rw [this]
theorem atE_keys : ∀ (l : List It2) (k : Nat), (atE k l).map (·.1) = l.map (·.2)
  | [], _ => rfl
  | b :: l, k => by
    show b.2 :: (atE (k + 1) l).map (·.1) = b.2 :: l.map (·.2)
    rw [atE_keys l]
theorem atE_len : ∀ (l : List It2) (k : Nat), (atE k l).length = l.length
  | [], _ => rfl
  | b :: l, k => by
    show (atE (k + 1) l).length + 1 = l.length + 1
    rw [atE_len l]
theorem atE_val : ∀ (l : List It2) (k : Nat) {t : T}, t ∈ l.map (·.2) → valT (atE k l) t = some (.int ((k + ixn (l.map (·.2)) t : Nat) : Int))
  | b :: l, k, t, h => by
    show valT ((b.2, b.1, V.int (k : Nat)) :: atE (k + 1) l) t = some (.int ((k + (if b.2 = t then 0 else ixn (l.map (·.2)) t + 1) : Nat) : Int))
    by_cases e : b.2 = t
    · rw [if_pos e]
      unfold valT
      rw [List.find?_cons, decide_eq_true e]
      rfl
    · rw [if_neg e]
      have h' := atE_val l (k + 1) (t := t) ((List.mem_cons.mp h).resolve_left fun q => e q.symm)
      have e1 : k + (ixn (l.map (·.2)) t + 1) = k + 1 + ixn (l.map (·.2)) t := by omega
      rw [e1, ← h']
      unfold valT
      rw [List.find?_cons, decide_eq_false e]
theorem atE_mem {p : KT3} : ∀ (l : List It2) (k : Nat), p ∈ atE k l → ∃ b ∈ l, b.2 = p.1 ∧ b.1 = p.2.1
  | [], _, h => by cases h
  | c :: l, k, h => by
    rcases List.mem_cons.mp h with rfl | h
    · exact ⟨c, List.mem_cons_self, rfl, rfl⟩
    · obtain ⟨b, hb, q⟩ := atE_mem l (k + 1) h
      exact ⟨b, List.mem_cons_of_mem _ hb, q⟩
theorem atE_ok {H : Hp} {l : List It2} (h : ∀ b ∈ l, Tm H b.1 b.2 ∧ b.2.dp ≤ 8) (nd : (l.map (·.2)).Nodup) : Keys H (atE 0 l) := by
  refine ⟨fun p hp => ?_, by rw [atE_keys]; exact nd⟩
  obtain ⟨b, hb, e1, e2⟩ := atE_mem l 0 hp
  rw [← e1, ← e2]
  exact h b hb
theorem putT_new {kvs : List KT3} {k : T} {y v : V} (h : k ∉ kvs.map (·.1)) : putT kvs k y v = kvs ++ [(k, y, v)] := by
  unfold putT
  rw [if_neg]
  intro q
  obtain ⟨p, hp, e⟩ := List.any_eq_true.mp q
  exact h (List.mem_map.mpr ⟨p, hp, of_decide_eq_true e⟩)
theorem mem_putT {kvs : List KT3} {k t : T} {y v : V} : t ∈ (putT kvs k y v).map (·.1) ↔ t ∈ kvs.map (·.1) ∨ t = k := by
  rw [putT_keys]
  split
  · rename_i h
    obtain ⟨p, hp, e⟩ := List.any_eq_true.mp h
    have hk : k ∈ kvs.map (·.1) := List.mem_map.mpr ⟨p, hp, of_decide_eq_true e⟩
    exact ⟨.inl, fun q => q.elim id fun q => q ▸ hk⟩
  · rw [List.mem_append, List.mem_singleton]
theorem mem_take_succ {α : Type} {l : List α} {i : Nat} {x t : α} (h : l[i]? = some x) : t ∈ l.take (i + 1) ↔ t ∈ l.take i ∨ t = x := by
  rw [List.take_add_one, h, List.mem_append]
  simp
theorem paired_perm {α β : Type} {R : α → β → Prop} {as as' : List α} (h : as.Perm as') : ∀ {bs : List β}, Paired R as bs → ∃ bs', bs'.Perm bs ∧ Paired R as' bs' := by
  induction h with
  | nil => exact fun h => ⟨_, List.Perm.refl _, h⟩
  | cons x _ ih =>
    intro bs h
    cases h with
    | cons r t =>
      obtain ⟨bs', h1, h2⟩ := ih t
      exact ⟨_ :: bs', h1.cons _, .cons r h2⟩
  | swap x y l =>
    intro bs h
    cases h with
    | cons r t =>
      cases t with
      | cons r2 t2 => exact ⟨_, List.Perm.swap _ _ _, .cons r2 (.cons r t2)⟩
  | trans _ _ ih1 ih2 =>
    intro bs h
    obtain ⟨b1, k1, k2⟩ := ih1 h
    obtain ⟨b2, k3, k4⟩ := ih2 k2
    exact ⟨b2, k3.trans k1, k4⟩
/-- what a parting tells of two terms: the points pl, the threes tr, the names nk -/
structure PF (a b : T) (pl : List T) (tr : List (List Int)) (nk : List (Key × V)) : Prop where
  th : Threes pl (ixOf pl) tr
  mem : ∀ p, p ∈ pl ↔ p ∈ pts a ∨ p ∈ pts b
  nm : ∀ y : Str, T.nm y ∈ pl → valV nk (Sum.inr y) = some (.int (ixOf pl (.nm y)))
  vals : ∀ q ∈ nk, ∃ i : Int, q.2 = .int i ∧ 0 ≤ i ∧ i < (pl.length : Int)
  few : pl.length ≤ 800 ∧ tr.length ≤ 800 ∧ nk.length ≤ 800
def spParting (C : Addr) : Sp := fun vs H Q _ => ∃ (x y : V) (a b : T), vs = [x, y] ∧ Tm H x a ∧ Tm H y b ∧ Fit a ∧ Fit b ∧ (br a ≠ br b → ∀ p, p ∈ pts a ∨ p ∈ pts b → p.dp ≤ 8) ∧
  (br a = br b → ∀ H', Same H H' → Q .non H') ∧
  (br a ≠ br b → ∀ o H' pl tr nk, Same H H' → PF a b pl tr nk → Told C H' o (pl.length : Int) tr nk (ixOf pl (br a)) (ixOf pl (br b)) → Q (.ref o) H')
abbrev nParting : List Str := ["one", "other", "points", "at", "threes", "names", "part", "number"]
section
variable {P : Program} {w : World} {K : PySem.W.Frag} {mg : Str → Option Value} {base : Heap}
theorem scParting : FnScope nParting ["one", "other"] (defScope sParting) := ⟨rfl, rfl, rfl, by decide +kernel, rfl, by decide +kernel, by decide +kernel⟩
theorem ok_parting {f C fI : Addr} {fd fdI : FuncData} (F : Fun K "parting" "parting" sParting f fd) (M : Txt K mg) (c : Cl K mg C) (mk : Mk K C fI) (GI : FnOk P w K mg base CX0 1 fI fdI ["self", "count", "threes", "names", "ends"] (spPInit C)) (bI : Binds K fdI ["self", "count", "threes", "names", "ends"] [])
    (GC : Fn P w K mg base 3 "check_term" ["term"] spCheck) (GB : Fn P w K mg base (23 + 21) "brought" ["term"] (spBrought 21)) (GT : Fn P w K mg base (44 + 21) "parts_of" ["term"] (spParts 21)) (GP : Fn P w K mg base 22 "place_in_order" ["term"] spKey) : FnOk P w K mg base CX0 66 f fd ["one", "other"] (spParting C) := by
  obtain ⟨fp, fdp, FP, mP, kP, bP⟩ := GP
  refine F.ok scParting (fun vs H Q E h => ?_) (fun cdv A outer s H vs Q E hr h => ?_)
  · obtain ⟨x, y, a, b, rfl, _⟩ := h
    rfl
  · obtain ⟨x, y, a, b, rfl, ha, hb, ⟨la, da⟩, ⟨lb, db⟩, h8, qN, qP⟩ := h
    have hu := hu65 hr
    refine ⟨_, pss_cons (ps_expr (pe_fn GC hr (by decide) (pa_cons (pv 0) pa_nil) (by rfl)))
      (pss_cons (ps_expr (pe_fn GC hr (by decide) (pa_cons (pv 1) pa_nil) (by rfl)))
      (pss_cons (ps_if (pt_cmpR (op_eqT hr.units) (pe_fn GB hr (by decide) (pa_cons (pv 0) pa_nil) (by rfl)) (pe_fn GB hr (by decide) (pa_cons (pv 1) pa_nil) (by rfl)) (nomark _)) (pss_one (ps_ret pe_non)) pss_nil)
      (pss_cons (ps_set (i := 2) scParting.nd rfl (.inl rfl) (pe_callBK (cr_sortK rfl FP (hr.mono (by decide)) bP) (by rfl) M.srt bt_sorted
          (pa_cons (pe_dg (dkTerm P w) (own := [("part", 6)]) (g := gName 6) (tt := tYes) rfl rfl hr.units rfl scParting.nd
            (pi_list (pe_op op_cat (pe_fn GT hr (by decide) (pa_cons (pv 0) pa_nil) (by rfl)) (pe_fn GT hr (by decide) (pa_cons (pv 1) pa_nil) (by rfl))))
            (blkOk_by (own := [("part", 6)]) (N := nParting) (sc := defScope sParting) (by decide +kernel))
            (fun _ _ _ _ _ => pg_name (i := 6) scParting.nd rfl (Or.inl rfl)) (fun _ _ _ _ _ => pts_nil) (fun _ _ _ _ _ => pv 6) (fun _ _ _ _ _ => pe_bl)) pa_nil)
          (pk_cons (pe_glob (v := .ref fp) (by rfl) mP rfl) pk_nil)))
      (pss_cons (ps_set (i := 3) scParting.nd rfl (.inr rfl) (pe_dg (dkTerm P w) (own := [("number", 7), ("part", 6)]) (g := gTup K 2 (gCons (gName 7) (gCons (gName 6) gNil))) (tt := tYes) rfl rfl hr.units rfl scParting.nd
            (pi_enum (by rfl) M.enu (pa_cons (pv 2) pa_nil))
            (blkOk_by (own := [("number", 7), ("part", 6)]) (N := nParting) (sc := defScope sParting) (by decide +kernel))
            (fun _ _ _ _ _ => pg_tup rfl (pgs_cons (pg_name (i := 7) scParting.nd rfl (Or.inl rfl)) (pgs_cons (pg_name (i := 6) scParting.nd rfl (Or.inl rfl)) pgs_nil))) (fun _ _ _ _ _ => pts_nil) (fun _ _ _ _ _ => pv 6) (fun _ _ _ _ _ => pv 7)))
      (pss_cons (ps_setLc (i := 4) (own := [("part", 6)]) (g := gName 6) rfl scParting.nd rfl rfl (sw_true rfl rfl rfl (by decide +kernel)) (pi_list (pv 2)) (blkOk_by (own := [("part", 6)]) (N := nParting) (sc := defScope sParting) (by decide +kernel))
          (fun _ _ _ _ _ => pg_name (i := 6) scParting.nd rfl (Or.inl rfl)) (fun _ _ _ _ _ => pts_one (pt_not (pt_val (pe_isStr M (pv 6) (by rfl) (by rfl)))))
          (fun _ _ _ _ _ => pe_callB (crSorted (K := K) rfl) (by rfl) M.srt bt_sorted (pa_cons (pe_lst (pa_cons (pe_ix (ixTD (w := w) rfl hu) (pv 3) (pv 6) (fun _ _ => rfl)) (pa_cons (pe_ix (ixTD (w := w) rfl hu) (pv 3) (pe_ix (ixT (K := K) rfl) (pv 6) pe_int (fun _ _ => rfl)) (fun _ _ => rfl))
            (pa_cons (pe_ix (ixTD (w := w) rfl hu) (pv 3) (pe_ix (ixT (K := K) rfl) (pv 6) pe_int (fun _ _ => rfl)) (fun _ _ => rfl)) pa_nil)))) pa_nil)))
      (pss_cons (ps_setDg (dkText P w) (i := 5) (own := [("part", 6)]) (g := gName 6) rfl rfl hr.units rfl scParting.nd rfl rfl (swD_true rfl rfl rfl (by decide +kernel)) (pi_list (pv 2)) (blkOk_by (own := [("part", 6)]) (N := nParting) (sc := defScope sParting) (by decide +kernel))
          (fun _ _ _ _ _ => pg_name (i := 6) scParting.nd rfl (Or.inl rfl)) (fun _ _ _ _ _ => pts_one (pt_val (pe_isStr M (pv 6) (by rfl) (by rfl)))) (fun _ _ _ _ _ => pv 6) (fun _ _ _ _ _ => pe_ix (ixTD (w := w) rfl hu) (pv 3) (pv 6) (fun _ _ => rfl)))
      (pss_one (ps_ret (pe_make mk GI (hr.mono (by decide)) (by rfl) c.mgC bI .nil pass0 (pa_cons (pe_callB call_len (by rfl) M.len PySem.boot_len (pa_cons (pv 2) pa_nil)) (pa_cons (pe_callB (cr_sortRows hr.units) (by rfl) M.srt bt_sorted (pa_cons (pv 4) pa_nil)) (pa_cons (pv 5)
        (pa_cons (pe_tup (pa_cons (pe_ix (ixTD (w := w) rfl hu) (pv 3) (pe_fn GB hr (by decide) (pa_cons (pv 0) pa_nil) (by rfl)) (fun _ _ => rfl)) (pa_cons (pe_ix (ixTD (w := w) rfl hu) (pv 3) (pe_fn GB hr (by decide) (pa_cons (pv 1) pa_nil) (by rfl)) (fun _ _ => rfl)) pa_nil))) pa_nil))))))))))))), ?_⟩
    have big : ∀ {m : Nat}, m ≤ 4000 → m < sizeLine := fun h => Nat.lt_of_le_of_lt h (by decide)
    refine ⟨_, rfl, x, a, rfl, ha, la, fun H1 s1 => ?_⟩
    refine ⟨_, rfl, y, b, rfl, hb.same s1, lb, fun H2 s2 => ?_⟩
    have s12 := s1.trans s2
    have da' := br_dp a
    have db' := br_dp b
    refine ⟨_, rfl, x, a, rfl, ha.same s12, by omega, da, la, fun v1 H3 s3 t1 => ?_⟩
    refine ⟨_, rfl, y, b, rfl, hb.same (s12.trans s3), by omega, db, lb, fun v2 H4 s4 t2 => ?_⟩
    refine ⟨br a, br b, t1.same s4, t2, by omega, by omega, _, rfl, ?_⟩
    by_cases hab : br a = br b
    · exact iteDT hab (qN hab H4 ((s12.trans s3).trans s4))
    refine iteDF hab ?_
    have sm4 : Same H H4 := (s12.trans s3).trans s4
    have h8' := h8 hab
    -- the plain forms of all parts
    refine ⟨_, rfl, x, a, rfl, ha.same sm4, by omega, da, la, fun p1 xs H5 s5 z5 e5 t5 => ?_⟩
    refine ⟨_, rfl, y, b, rfl, hb.same (sm4.trans s5), by omega, db, lb, fun p2 ys H6 s6 z6 e6 t6 => ?_⟩
    have nxs := t5.len
    have nys := t6.len
    have na := pts_len a
    have nb := pts_len b
    refine ⟨p1, p2, xs, ys, rfl, rfl, s6 _ _ e5, e6, Nat.le_of_lt (big (by omega)), fun p3 hp3 => ?_⟩
    have s7 := same_new (o := .lst (xs ++ ys)) hp3
    have hTs : TmL (upd H6 p3 (.lst (xs ++ ys))) (xs ++ ys) (pts a ++ pts b) := ((t5.same s6).app t6).same s7
    have nts : (pts a ++ pts b).length ≤ 800 := by
      rw [List.length_append]
      omega
    have hlen : (xs ++ ys).length = (pts a ++ pts b).length := hTs.len
    have sm7 : Same H (upd H6 p3 (.lst (xs ++ ys))) := ((sm4.trans s5).trans s6).trans s7
    have e7 : (upd H6 p3 (.lst (xs ++ ys))) p3 = some (.lst (xs ++ ys)) := upd_same
    generalize upd H6 p3 (.lst (xs ++ ys)) = H7 at hTs sm7 e7
    clear s7 hp3 e6 e5 z5 z6 t5 t6 s5 s6 t1 t2 s3 s4 nxs nys
    have hdp : ∀ t ∈ pts a ++ pts b, t.dp ≤ 8 ∧ t.lv ≤ 200 := fun t h => by
      rcases List.mem_append.mp h with h | h
      · exact ⟨h8' t (.inl h), Nat.le_trans (pts_lv h) la⟩
      · exact ⟨h8' t (.inr h), Nat.le_trans (pts_lv h) lb⟩
    refine ⟨p3, rfl, ⟨_, SqL.of e7⟩, fun D hD => dg_gen (n := (xs ++ ys).length) (fun i H' => Same H7 H' ∧ ∃ kvs, H' D = some (TD w D kvs) ∧ Keys H' kvs ∧ (∀ t, t ∈ kvs.map (·.1) ↔ t ∈ (pts a ++ pts b).take i) ∧ kvs.length ≤ i)
      ⟨same_new hD, [], upd_same, Keys.nil, fun t => by simp, Nat.le_refl _⟩ (fun i H' hi ⟨s, _⟩ => ⟨_, _, SqL.of (s _ _ e7), List.getElem?_eq_getElem hi⟩) (fun H' ⟨s, _⟩ => ⟨_, SqL.of (s _ _ e7), Nat.le_refl _⟩) ?_ ?_⟩
    · rintro i H' z H'' hi ⟨s, kvs, eD, hk, hm, hl⟩ ⟨rfl, hz⟩
      have hz' := hz _ (SqL.of (s _ _ e7))
      obtain ⟨t, ht, tz⟩ := hTs.get hz'
      have tt := tz.same s
      refine ⟨rfl, ⟨_, rfl, kvs, t, eD, hk, big (by omega), tt, (hdp t (List.mem_of_getElem? ht)).1, same_upd s hD, putT kvs t z (.bl true), upd_same, ?_, fun t' => ?_, ?_⟩⟩
      · refine (hk.put tt (hdp t (List.mem_of_getElem? ht)).1 _).keep fun b' ys' e => ?_
        rw [upd_ne (ne_of e eD (fun z => nomatch z))]
        exact e
      · rw [mem_putT, hm, mem_take_succ ht]
      · have := putT_length kvs t z (.bl true)
        omega
    · rintro H8 ⟨s8, kvs, eD, hk, hm, hl⟩
      rw [hlen] at hm hl
      rw [List.take_length] at hm
      -- sorted
      refine ⟨D, kvs.map fun p => (p.2.1, p.1), rfl, rfl, .inr ⟨kvs, eD, rfl⟩, fun b' hb' => ?_, fun p9 H9 s9 n9 e9 => ?_⟩
      · obtain ⟨p, hp, rfl⟩ := List.mem_map.mp hb'
        have hin := (hm p.1).mp (List.mem_map.mpr ⟨p, hp, rfl⟩)
        have h1 := hdp _ hin
        exact ⟨(hk.tm p hp).1, h1.2, by show p.1.dp ≤ 20; omega⟩
      · have sm9 : Same H H9 := (sm7.trans s8).trans s9
        obtain ⟨ps, hps, e9'⟩ : ∃ ps : List It2, ps.Perm (kvs.map fun p => (p.2.1, p.1)) ∧ H9 p9 = some (.lst (ps.map (·.1))) := ⟨_, List.mergeSort_perm _ _, e9⟩
        have hpk : (ps.map (·.2)).Perm (kvs.map (·.1)) := by
          have q := hps.map (·.2)
          rw [List.map_map] at q
          exact q
        have hnd : (ps.map (·.2)).Nodup := (List.Perm.nodup_iff hpk).mpr hk.nd
        have hmem : ∀ t, t ∈ ps.map (·.2) ↔ t ∈ pts a ++ pts b := fun t => hpk.mem_iff.trans (hm t)
        have hlp : ps.length ≤ 800 := by
          have := hps.length_eq
          rw [List.length_map] at this
          omega
        have hTp : ∀ b' ∈ ps, Tm H9 b'.1 b'.2 ∧ b'.2.dp ≤ 8 := fun b' hb' => by
          obtain ⟨p, hp, rfl⟩ := List.mem_map.mp (hps.mem_iff.mp hb')
          exact ⟨(hk.tm p hp).1.same s9, (hk.tm p hp).2⟩
        have hclosed : Closed (· ∈ ps.map (·.2)) := fun a' b' h => by
          have h' := (hmem _).mp h
          rcases List.mem_append.mp h' with q | q
          · have := pts_closed a a' b' q
            exact ⟨(hmem _).mpr (List.mem_append_left _ this.1), (hmem _).mpr (List.mem_append_left _ this.2)⟩
          · have := pts_closed b a' b' q
            exact ⟨(hmem _).mpr (List.mem_append_right _ this.1), (hmem _).mpr (List.mem_append_right _ this.2)⟩
        have hnf : ∀ p ∈ ps.map (·.2), nf p := fun p hp => by
          rcases List.mem_append.mp ((hmem p).mp hp) with q | q
          · exact (pts_nf ha.ok p q).1
          · exact (pts_nf hb.ok p q).1
        clear e9 n9 s9 hps hpk hk hm hl eD s8 hTs e7 hlen hD sm7
        -- at = {part: number ..}
        refine ⟨_, rfl, p9, _, rfl, SqL.of e9', fun D2 hD2 => dg_gen (n := ps.length) (fun i H' => Same H9 H' ∧ H' D2 = some (TD w D2 (atE 0 (ps.take i)))) ⟨same_new hD2, by rw [upd_same, List.take_zero]; rfl⟩
          (fun i H' hi ⟨s, _⟩ => ⟨_, _, SqL.of (s _ _ e9'), List.getElem?_eq_getElem (by rw [List.length_map]; exact hi)⟩) (fun H' ⟨s, _⟩ => ⟨_, SqL.of (s _ _ e9'), by rw [List.length_map]; exact Nat.le_refl _⟩) ?_ ?_⟩
        · rintro i H' z H'' hi ⟨s, eD⟩ ⟨Tq, v, rfl, nT, rfl, hv⟩
          have hv' := hv _ (SqL.of (s _ _ e9'))
          rw [List.getElem?_map, List.getElem?_eq_getElem hi] at hv'
          have ev : ps[i].1 = v := Option.some.inj hv'
          have sT := same_new (o := .tup [.int (i : Nat), v]) nT
          obtain ⟨tt, t8⟩ := hTp ps[i] (List.getElem_mem hi)
          rw [ev] at tt
          refine ⟨Tq, [.int (i : Nat), v], rfl, SqT.of upd_same, rfl, .int (i : Nat), [v], rfl, v, [], rfl, rfl, ?_⟩
          have hkeys : ∀ H' : Hp, Same H9 H' → Keys H' (atE 0 (ps.take i)) := fun H' s => by
            refine ⟨fun p hp => ?_, ?_⟩
            · have hin : p.1 ∈ (atE 0 (ps.take i)).map (·.1) := List.mem_map.mpr ⟨p, hp, rfl⟩
              have : ∀ (l : List It2) (k : Nat), p ∈ atE k l → ∃ b' ∈ l, b'.2 = p.1 ∧ b'.1 = p.2.1 := by
                intro l
                induction l with
                | nil => intro k h; cases h
                | cons c l ih =>
                  intro k h
                  rcases List.mem_cons.mp h with rfl | h
                  · exact ⟨c, List.mem_cons_self, rfl, rfl⟩
                  · obtain ⟨b', hb', q⟩ := ih (k + 1) h
                    exact ⟨b', List.mem_cons_of_mem _ hb', q⟩
              obtain ⟨b', hb', q1, q2⟩ := this _ _ hp
              obtain ⟨h1, h2⟩ := hTp b' (List.mem_of_mem_take hb')
              rw [q1, q2] at h1
              rw [q1] at h2
              exact ⟨h1.same s, h2⟩
            · rw [atE_keys, List.map_take]
              exact hnd.sublist (List.take_sublist _ _)
          have hnew : ps[i].2 ∉ (atE 0 (ps.take i)).map (·.1) := by
            rw [atE_keys, List.map_take]
            intro hin
            obtain ⟨j, hj⟩ := List.mem_iff_getElem?.mp hin
            have hji : j < i := by
              have := (List.getElem?_eq_some_iff.mp hj).1
              rw [List.length_take] at this
              omega
            rw [List.getElem?_take_of_lt hji] at hj
            have hi2 : (ps.map (·.2))[i]? = some ps[i].2 := by rw [List.getElem?_map, List.getElem?_eq_getElem hi]; rfl
            have := (List.getElem?_inj (List.getElem?_eq_some_iff.mp hj).1 hnd).mp (hj.trans hi2.symm)
            omega
          refine ⟨rfl, ⟨_, rfl, _, rfl, atE 0 (ps.take i), ps[i].2, sT _ _ eD, hkeys _ (s.trans sT), ?_, tt.same (s.trans sT), t8, same_upd (s.trans sT) hD2, ?_⟩⟩
          · rw [atE_len, List.length_take]
            exact big (by omega)
          · rw [upd_same, putT_new hnew, List.take_add_one, List.getElem?_eq_getElem hi]
            show _ = some (TD w D2 (atE 0 (ps.take i ++ [ps[i]])))
            rw [atE_snoc, List.length_take, Nat.min_eq_left (Nat.le_of_lt hi), ev, Nat.zero_add]
        · rintro H10 ⟨s10, eD2⟩
          rw [List.take_length] at eD2
          have hat : ∀ t, t ∈ ps.map (·.2) → valT (atE 0 ps) t = some (.int (ixOf (ps.map (·.2)) t)) := fun t h => by
            rw [atE_val ps 0 h, Nat.zero_add]
            rfl
          have hkeys : ∀ H' : Hp, Same H9 H' → Keys H' (atE 0 ps) := fun H' s => atE_ok (fun b' hb' => ⟨(hTp b' hb').1.same s, (hTp b' hb').2⟩) hnd
          -- threes = [sorted(..) ..]
          refine ⟨_, rfl, p9, rfl, ⟨_, SqL.of (s10 _ _ e9')⟩, fun D3 hD3 => lc_gen (n := ps.length) (fun i H' => Same H10 H' ∧ ∃ ls tr, H' D3 = some (.lst (ls.map V.ref)) ∧ Rows .lst H' ls tr ∧ Paired (fun (l : List Int) p => l.Perm (ix3 (ixOf (ps.map (·.2))) p)) tr (((ps.map (·.2)).take i).filter isPr) ∧ ls.length ≤ i ∧ ∀ l ∈ ls, l ≠ D3)
            ⟨same_new hD3, [], [], upd_same, .nil, by rw [List.take_zero]; exact .nil, Nat.le_refl _, fun l h => by cases h⟩
            (fun i H' hi ⟨s, _⟩ => ⟨_, _, SqL.of (s _ _ (s10 _ _ e9')), List.getElem?_eq_getElem (by rw [List.length_map]; exact hi)⟩) (fun H' ⟨s, _⟩ => ⟨_, SqL.of (s _ _ (s10 _ _ e9')), by rw [List.length_map]; exact Nat.le_refl _⟩) ?_ ?_⟩
          · rintro i H' z H'' hi ⟨s, ls, tr, eD3, hR, hP, hl, hne⟩ ⟨rfl, hz⟩
            have hz' := hz _ (SqL.of (s _ _ (s10 _ _ e9')))
            rw [List.getElem?_map, List.getElem?_eq_getElem hi] at hz'
            have ez : ps[i].1 = z := Option.some.inj hz'
            obtain ⟨tt, t8⟩ := hTp ps[i] (List.getElem_mem hi)
            have hin : ps[i].2 ∈ ps.map (·.2) := List.mem_map.mpr ⟨_, List.getElem_mem hi, rfl⟩
            have htk : ((ps.map (·.2)).take (i + 1)).filter isPr = ((ps.map (·.2)).take i).filter isPr ++ if isPr ps[i].2 = true then [ps[i].2] else [] := by
              rw [List.take_add_one, List.getElem?_map, List.getElem?_eq_getElem hi, List.filter_append]
              show _ ++ [ps[i].2].filter isPr = _
              rw [List.filter_cons, List.filter_nil]
            rw [ez] at tt
            generalize ps[i].2 = t at tt t8 hin htk
            have sm := s10.trans s
            refine ⟨rfl, ⟨_, rfl, z, rfl, isStrQ.of (tt.same sm) (fun y' ey ex => ?_) (fun q u1 u2 l r et ex eq h1 h2 => ?_)⟩⟩
            · subst ey ex
              refine ⟨true, rfl, iteF ⟨s, ls, tr, eD3, hR, ?_, by omega, hne⟩⟩
              rw [htk]
              show Paired _ tr (_ ++ [])
              rw [List.append_nil]
              exact hP
            · subst et ex
              obtain ⟨hl1, hr1⟩ := hclosed l r hin
              have d8 : max l.dp r.dp + 1 ≤ 8 := t8
              refine ⟨false, rfl, iteT ⟨_, rfl, _, rfl, D2, atE 0 ps, .pr l r, _, rfl, s _ _ eD2, hkeys _ sm, tt.same sm, t8, hat _ hin, ?_⟩⟩
              refine ⟨_, rfl, _, rfl, q, _, _, u1, rfl, rfl, SqT.of eq, atI_nat (j := 0) rfl, D2, atE 0 ps, l, _, rfl, s _ _ eD2, hkeys _ sm, h1, by omega, hat _ hl1, ?_⟩
              refine ⟨_, rfl, _, rfl, q, _, _, u2, rfl, rfl, SqT.of eq, atI_nat (j := 1) rfl, D2, atE 0 ps, r, _, rfl, s _ _ eD2, hkeys _ sm, h2, by omega, hat _ hr1, ?_⟩
              refine ⟨(by show 3 ≤ sizeLine; decide), fun l3 hl3 => ?_⟩
              have sL := same_new (o := .lst [.int (ixOf (ps.map (·.2)) (.pr l r)), .int (ixOf (ps.map (·.2)) l), .int (ixOf (ps.map (·.2)) r)]) hl3
              refine ⟨l3, ix3 (ixOf (ps.map (·.2))) (.pr l r), rfl, SqL.of upd_same, (by show 3 < 64; decide), fun ns' p4 hperm _ hp4 => ?_⟩
              have sS := same_new (o := .lst (ns'.map V.int)) hp4
              have sA := sL.trans sS
              refine ⟨_, sA _ _ eD3, by rw [List.length_map]; exact big (by omega), same_upd (s.trans sA) hD3, ls ++ [p4], tr ++ [ns'], by rw [upd_same, List.map_append]; rfl, ?_, ?_, by rw [List.length_append, List.length_singleton]; omega, ?_⟩
              · have np4 : p4 ≠ D3 := fun e => by
                  have e5 := sL _ _ eD3
                  rw [← e, hp4] at e5
                  cases e5
                exact (Rows.snoc (hR.same sA) (three := ns') upd_same).keepM fun l' hl' => by
                  rw [upd_ne]
                  rcases List.mem_append.mp hl' with h | h
                  · exact hne l' h
                  · rw [List.mem_singleton.mp h]
                    exact np4
              · rw [htk]
                show Paired _ (tr ++ [ns']) (_ ++ [T.pr l r])
                exact Paired.snoc hP hperm
              · intro l' hl'
                rcases List.mem_append.mp hl' with h | h
                · exact hne l' h
                · rw [List.mem_singleton.mp h]
                  intro e
                  have e5 := sL _ _ eD3
                  rw [← e, hp4] at e5
                  cases e5
          · rintro H11 ⟨s11, ls, tr, eD3, hR, hP, hl, _⟩
            rw [show (ps.map (·.2)).take ps.length = ps.map (·.2) from List.take_of_length_le (by rw [List.length_map]; exact Nat.le_refl _)] at hP
            have sm11 := s10.trans s11
            -- names = {..}
            refine ⟨_, rfl, p9, rfl, ⟨_, SqL.of (sm11 _ _ e9')⟩, fun D4 hD4 => dg_gen (n := ps.length) (fun i H' => Same H11 H' ∧ ∃ nk : List (Key × V), H' D4 = some (.dK nk) ∧ (∀ y, T.nm y ∈ (ps.map (·.2)).take i → valV nk (Sum.inr y) = some (.int (ixOf (ps.map (·.2)) (.nm y)))) ∧ (∀ q : Key × V, q ∈ nk → ∃ t : T, t ∈ ps.map (fun b' : It2 => b'.2) ∧ q.2 = V.int (ixOf (ps.map (fun b' : It2 => b'.2)) t)) ∧ nk.length ≤ i)
              ⟨same_new hD4, [], upd_same, fun y h => by simp at h, fun q h => (nomatch h), Nat.le_refl _⟩
              (fun i H' hi ⟨s, _⟩ => ⟨_, _, SqL.of (s _ _ (sm11 _ _ e9')), List.getElem?_eq_getElem (by rw [List.length_map]; exact hi)⟩) (fun H' ⟨s, _⟩ => ⟨_, SqL.of (s _ _ (sm11 _ _ e9')), by rw [List.length_map]; exact Nat.le_refl _⟩) ?_ ?_⟩
            · rintro i H' z H'' hi ⟨s, nk, eD4, hv, hq, hl4⟩ ⟨rfl, hz⟩
              have hz' := hz _ (SqL.of (s _ _ (sm11 _ _ e9')))
              rw [List.getElem?_map, List.getElem?_eq_getElem hi] at hz'
              have ez : ps[i].1 = z := Option.some.inj hz'
              obtain ⟨tt, t8⟩ := hTp ps[i] (List.getElem_mem hi)
              have hin : ps[i].2 ∈ ps.map (·.2) := List.mem_map.mpr ⟨_, List.getElem_mem hi, rfl⟩
              have hget : (ps.map (·.2))[i]? = some ps[i].2 := by rw [List.getElem?_map, List.getElem?_eq_getElem hi]; rfl
              rw [ez] at tt
              generalize ps[i].2 = t at tt t8 hin hget
              have sm := sm11.trans s
              refine ⟨rfl, ⟨_, rfl, z, rfl, isStrQ.of (tt.same sm) (fun y' ey ex => ?_) (fun q u1 u2 l r et ex eq h1 h2 => ?_)⟩⟩
              · subst ey ex
                refine ⟨true, rfl, iteT ⟨_, rfl, _, rfl, _, rfl, D2, atE 0 ps, .nm y', _, rfl, s _ _ (s11 _ _ eD2), hkeys _ sm, tt.same sm, t8, hat _ hin, ?_⟩⟩
                refine ⟨nk, Sum.inr y', rfl, eD4, big (by omega), same_upd s hD4, putK nk (Sum.inr y') _, upd_same, fun y2 h2 => ?_, fun q hq' => ?_, ?_⟩
                · rw [valV_put]
                  by_cases e : y2 = y'
                  · rw [if_pos (by rw [e]), e]
                  · rw [if_neg (fun h => e (Sum.inr.inj h))]
                    exact hv y2 (((mem_take_succ hget).mp h2).resolve_right fun h => e (T.nm.inj h))
                · have : q ∈ nk ∨ q.2 = .int (ixOf (ps.map (·.2)) (.nm y')) := by
                    unfold putK at hq'
                    split at hq'
                    · obtain ⟨q0, h0, rfl⟩ := List.mem_map.mp hq'
                      split
                      · exact .inr rfl
                      · exact .inl h0
                    · rcases List.mem_append.mp hq' with h | h
                      · exact .inl h
                      · rw [List.mem_singleton.mp h]
                        exact .inr rfl
                  rcases this with h | h
                  · exact hq q h
                  · exact ⟨_, hin, h⟩
                · have := length_putK nk (Sum.inr y') (.int (ixOf (ps.map (·.2)) (.nm y')))
                  omega
              · subst et
                refine ⟨false, rfl, iteF ⟨s, nk, eD4, fun y2 h2 => hv y2 (((mem_take_succ hget).mp h2).resolve_right fun h => nomatch h), hq, by omega⟩⟩
            · rintro H12 ⟨s12', nk, eD4, hv, hq, hl4⟩
              rw [show (ps.map (·.2)).take ps.length = ps.map (·.2) from List.take_of_length_le (by rw [List.length_map]; exact Nat.le_refl _)] at hv
              have sm12 := sm11.trans s12'
              -- return Parting(..)
              have hpl : (ps.map (·.1)).length = (ps.map (·.2)).length := by rw [List.length_map, List.length_map]
              refine ⟨_, rfl, _, _, rfl, .inl ⟨_, SqL.of (sm12 _ _ e9'), rfl⟩, ?_⟩
              refine ⟨_, rfl, D3, ls, tr, rfl, SqL.of (s12' _ _ eD3), hR.same s12', by omega, fun ls' tr' p13 hR' hperm hl' np13 => ?_⟩
              have s13 := same_new (o := .lst (ls'.map V.ref)) np13
              refine ⟨_, rfl, ?_⟩
              have smA := sm9.trans (sm12.trans s13)
              have ain : br a ∈ ps.map (·.2) := (hmem _).mpr (List.mem_append_left _ (br_mem a))
              have bin : br b ∈ ps.map (·.2) := (hmem _).mpr (List.mem_append_right _ (br_mem b))
              refine ⟨_, rfl, _, rfl, x, a, rfl, ha.same smA, by omega, da, la, fun v1 H14 s14 t14 => ?_⟩
              refine ⟨D2, atE 0 ps, br a, _, rfl, s14 _ _ (s13 _ _ (s12' _ _ (s11 _ _ eD2))), hkeys _ ((sm12.trans s13).trans s14), t14, h8' _ (.inl (br_mem a)), hat _ ain, ?_⟩
              refine ⟨_, rfl, _, rfl, y, b, rfl, hb.same (smA.trans s14), by omega, db, lb, fun v2 H15 s15 t15 => ?_⟩
              refine ⟨D2, atE 0 ps, br b, _, rfl, s15 _ _ (s14 _ _ (s13 _ _ (s12' _ _ (s11 _ _ eD2)))), hkeys _ (((sm12.trans s13).trans s14).trans s15), t15, h8' _ (.inr (br_mem b)), hat _ bin, ?_⟩
              refine ⟨(by show 2 ≤ sizeLine; decide), fun pe hpe => ?_⟩
              have s16 := same_new (o := .tup [.int (ixOf (ps.map (·.2)) (br a)), .int (ixOf (ps.map (·.2)) (br b))]) hpe
              have sE := (s14.trans s15).trans s16
              intro o dx no ndx nex
              have sN : Same (upd H15 pe (.tup [.int (ixOf (ps.map (·.2)) (br a)), .int (ixOf (ps.map (·.2)) (br b))])) (upd (upd (upd H15 pe (.tup [.int (ixOf (ps.map (·.2)) (br a)), .int (ixOf (ps.map (·.2)) (br b))])) dx (.own o)) o (.ins C dx [])) := fun b' u e => by
                rw [upd_ne (ne_of_none e no), upd_ne (ne_of_none e ndx)]
                exact e
              refine ⟨_, o, dx, p13, D4, pe, _, ls', tr', nk, _, _, rfl, sN, no, upd_same, sE _ _ upd_same, (hR'.same s13).same sE, sE _ _ (s13 _ _ eD4), upd_same, by omega, fun H' sH told => ⟨rfl, ?_⟩⟩
              obtain ⟨ps', hp1, hp2⟩ := paired_perm hperm.symm hP
              have hfl : ((ps.map (·.2)).filter isPr).length ≤ 800 := by
                have := List.length_filter_le isPr (ps.map (·.2))
                rw [List.length_map] at this
                omega
              refine qP hab o H' (ps.map (·.2)) tr' nk ((smA.trans sE).trans sH) ⟨⟨hnd, hnf, hclosed, fun a' h1 b' h2 e => ixOf_inj h1 h2 e, ps', hp1, hp2⟩, fun p => by rw [hmem, List.mem_append], hv, fun q h => ?_, ?_, ?_, by omega⟩ ?_
              · obtain ⟨t, ht, e⟩ := hq q h
                have := ixn_lt ht
                refine ⟨_, e, ?_, ?_⟩
                · unfold ixOf
                  omega
                · unfold ixOf
                  omega
              · rw [List.length_map]
                exact hlp
              · have h1 := hperm.length_eq
                have h2 := Paired.length hP
                omega
              · rw [hpl] at told
                exact told
end
end TP
/-! W7: pairs_of, check_parting. -/
namespace TP
open PySem PySem.Spec PyProof.Rows L2
def tabV (es : List E2) : List (List Key × V) := es.map fun e => ([Sum.inl e.1.1, Sum.inl e.1.2], V.int e.2)
theorem tabV_none {es : List E2} {u v : Int} (h : (u, v) ∉ es.map (·.1)) : valV (tabV es) [Sum.inl u, Sum.inl v] = none := by
  induction es with
  | nil => rfl
  | cons e es ih =>
    show valV (([Sum.inl e.1.1, Sum.inl e.1.2], V.int e.2) :: tabV es) _ = none
    rw [List.map_cons, List.mem_cons, not_or] at h
    rw [valV_neg]
    · exact ih h.2
    · intro q
      injection q with q1 q2
      injection q2 with q2 _
      exact h.1 (Prod.ext (Sum.inl.inj q1).symm (Sum.inl.inj q2).symm)
theorem tabV_some {es : List E2} {u v w : Int} (nd : (es.map (·.1)).Nodup) (h : ((u, v), w) ∈ es) : valV (tabV es) [Sum.inl u, Sum.inl v] = some (.int w) := by
  induction es with
  | nil => cases h
  | cons e es ih =>
    show valV (([Sum.inl e.1.1, Sum.inl e.1.2], V.int e.2) :: tabV es) _ = some (.int w)
    rw [List.map_cons, List.nodup_cons] at nd
    rcases List.mem_cons.mp h with h | h
    · rw [← h, valV_pos rfl]
    · rw [valV_neg]
      · exact ih nd.2 h
      · intro q
        injection q with q1 q2
        injection q2 with q2 _
        have : e.1 = (u, v) := Prod.ext (Sum.inl.inj q1) (Sum.inl.inj q2)
        exact nd.1 (this ▸ List.mem_map.mpr ⟨_, h, rfl⟩)
theorem tabV_app (a b : List E2) : tabV (a ++ b) = tabV a ++ tabV b := List.map_append
theorem pe_fldK {X : Cx} {K : PySem.W.Frag} {o : Expr} {ta : TE} {f : Str} {pos : Pos} (hK : X.K = K) (h : PE X (.Attribute o f pos) (tFld X.K ta f)) : PE X (.Attribute o f pos) (tFld K ta f) := by
  subst hK
  exact h
theorem crAll {X : Cx} {K : PySem.W.Frag} (hc : X.calm = true) (hK : X.K = K) : CallR X (.builtin "all") (rAll K) := by
  subst hK
  exact cr_all hc
theorem big8 {m : Nat} (h : m ≤ 8000) : m < sizeLine := Nat.lt_of_le_of_lt h (by decide)
theorem iteND {c A B : Prop} [Decidable c] (hc : c) (h : B) : if (!decide c) = true then A else B := by
  rw [decide_eq_true hc]
  exact iteF h
theorem ents_len (l : List Int) : (ents l).length ≤ 6 := by
  rcases l with _ | ⟨x, _ | ⟨y, _ | ⟨z, _ | ⟨t, r⟩⟩⟩⟩ <;> simp [ents]
theorem table_len : ∀ tr : List (List Int), (table tr).length ≤ 6 * tr.length
  | [] => Nat.zero_le _
  | l :: tr => by
    have h1 := table_len tr
    have h2 := ents_len l
    show ((l :: tr).flatMap ents).length ≤ _
    rw [List.flatMap_cons, List.length_append, List.length_cons]
    have : (tr.flatMap ents).length = (table tr).length := rfl
    omega
theorem table_succ {tr : List (List Int)} {i : Nat} {l : List Int} (h : tr[i]? = some l) : table (tr.take (i + 1)) = table (tr.take i) ++ ents l := by
  show (tr.take (i + 1)).flatMap ents = _
  rw [List.take_add_one, h, List.flatMap_append]
  show _ ++ List.flatMap ents [l] = _
  rw [List.flatMap_cons, List.flatMap_nil, List.append_nil]
  rfl
theorem table_sub (tr : List (List Int)) (i : Nat) : (table (tr.take i)).Sublist (table tr) := by
  have e : table tr = table (tr.take i) ++ table (tr.drop i) := by
    show tr.flatMap ents = (tr.take i).flatMap ents ++ (tr.drop i).flatMap ents
    rw [← List.flatMap_append, List.take_append_drop]
  rw [e]
  exact List.sublist_append_left _ _
theorem tab_step {tr : List (List Int)} {i : Nat} {l : List Int} (h : tr[i]? = some l) (nd : ((table tr).map (·.1)).Nodup) {m : Nat} {u v w : Int} (e : (ents l).take (m + 2) = (ents l).take m ++ [((u, v), w), ((v, u), w)]) :
    u ≠ v ∧ (u, v) ∉ (table (tr.take i) ++ (ents l).take m).map (·.1) ∧ (v, u) ∉ (table (tr.take i) ++ (ents l).take m ++ [((u, v), w)]).map (·.1) := by
  have s1 : (table (tr.take i) ++ (ents l).take (m + 2)).Sublist (table tr) := by
    refine List.Sublist.trans ?_ (table_sub tr (i + 1))
    rw [table_succ h]
    exact List.Sublist.append_left (List.take_sublist _ _) _
  have n1 := nd.sublist (s1.map (·.1))
  rw [e, ← List.append_assoc] at n1
  have e2 : table (tr.take i) ++ (ents l).take m ++ [((u, v), w), ((v, u), w)] = (table (tr.take i) ++ (ents l).take m ++ [((u, v), w)]) ++ [((v, u), w)] := by simp
  rw [e2, List.map_append] at n1
  have n2 := List.nodup_append.mp n1
  have n3 := n2.1
  rw [List.map_append] at n3
  have n4 := List.nodup_append.mp n3
  have k2 : (v, u) ∉ (table (tr.take i) ++ (ents l).take m ++ [((u, v), w)]).map (·.1) := fun q => n2.2.2 _ q (v, u) (List.mem_singleton.mpr rfl) rfl
  refine ⟨fun q => k2 ?_, fun q => n4.2.2 _ q (u, v) (List.mem_singleton.mpr rfl) rfl, k2⟩
  rw [List.map_append]
  exact List.mem_append_right _ (List.mem_singleton.mpr (by rw [q]))
/-- the threes of a Parting that can be taken into a table -/
structure Fine (n : Int) (tr : List (List Int)) : Prop where
  three : ∀ l ∈ tr, ∃ x y z, l = [x, y, z] ∧ 0 ≤ x ∧ x < n ∧ 0 ≤ y ∧ y < n ∧ 0 ≤ z ∧ z < n
  once : ((table tr).map (·.1)).Nodup
  few : tr.length ≤ 800
def spPairs (C : Addr) : Sp := fun vs H Q _ => ∃ (o : Addr) (n : Int) (tr : List (List Int)) (nk : List (Key × V)) (i j : Int), vs = [.ref o] ∧ Told C H o n tr nk i j ∧ Fine n tr ∧ ∀ d H', Same H H' → H' d = some (.dT (tabV (table tr))) → Q (.ref d) H'
abbrev nPairs : List Str := ["told", "found", "three", "a", "b", "c", "one", "other", "point"]
section
variable {P : Program} {w : World} {K : PySem.W.Frag} {mg : Str → Option Value} {base : Heap}
theorem scPairs : FnScope nPairs ["told"] (defScope sPairs) := ⟨rfl, rfl, rfl, by decide +kernel, rfl, by decide +kernel, by decide +kernel⟩
theorem ok_pairs {f C : Addr} {fd : FuncData} (F : Fun K "pairs_of" "pairs_of" sPairs f fd) (M : Txt K mg) (c : Cl K mg C) : FnOk P w K mg base CX0 1 f fd ["told"] (spPairs C) := by
  refine F.ok scPairs (fun vs H Q E h => ?_) (fun cdv A outer s H vs Q E hr h => ?_)
  · obtain ⟨o, n, tr, nk, i, j, rfl, _⟩ := h
    rfl
  · obtain ⟨o, n, tr, nk, i, j, rfl, told, fine, q⟩ := h
    have hu := hu_of hr
    refine ⟨_, pss_cons (ps_set (i := 1) scPairs.nd rfl (.inl rfl) pe_dnewT)
      (pss_cons (ps_for PassesOwn.never rfl (pi_list (pe_fld (pv 0) rfl)) (pg_name (i := 2) scPairs.nd rfl (.inl rfl))
        (pss_cons (ps_if (PW.pt (pw_or (pt_cmpR op_ne (pe_callB call_len (by rfl) M.len PySem.boot_len (pa_cons (pv 2) pa_nil)) pe_int (nomark _))
            (pw_or1 (pt_not (pt_val (pe_callB (crAll (K := K) rfl rfl) (by rfl) M.all (by decide +kernel : bootBuiltins "all" = some (.builtin "all")) (pa_cons
              (pe_lc (own := [("point", 8)]) (g := gName 8) (tt := tYes) rfl scPairs.nd (pi_tup (pv 2)) (blkOk_by (own := [("point", 8)]) (N := nPairs) (sc := defScope sPairs) (by decide +kernel))
                (fun _ _ _ _ _ => pg_name (i := 8) scPairs.nd rfl (Or.inl rfl)) (fun _ _ _ _ _ => pts_nil) (fun _ _ _ _ _ => pe_chain op_le op_lt pe_int (pv 8) (pe_fldK (K := K) rfl (pe_fld (pv 0) rfl)))) pa_nil)))))))
          (pss_one (ps_ret pe_non)) pss_nil)
        (pss_one (ps_for PassesOwn.never rfl (pi_tup (pe_tup (pa_cons (pe_tup (pa_cons pe_int (pa_cons pe_int (pa_cons pe_int pa_nil)))) (pa_cons (pe_tup (pa_cons pe_int (pa_cons pe_int (pa_cons pe_int pa_nil)))) (pa_cons (pe_tup (pa_cons pe_int (pa_cons pe_int (pa_cons pe_int pa_nil)))) pa_nil)))))
            (pg_tup rfl (pgs_cons (pg_name (i := 3) scPairs.nd rfl (.inl rfl)) (pgs_cons (pg_name (i := 4) scPairs.nd rfl (.inl rfl)) (pgs_cons (pg_name (i := 5) scPairs.nd rfl (.inl rfl)) pgs_nil))))
          (pss_cons (ps_par (i := 6) (j := 7) (by rfl) scPairs.nd rfl rfl (by decide) rfl rfl (pa_cons (pe_ix ix_tup (pv 2) (pv 3) (fun _ _ => rfl)) (pa_cons (pe_ix ix_tup (pv 2) (pv 4) (fun _ _ => rfl)) pa_nil)) (by rfl))
          (pss_cons (ps_if (PW.pt (pw_or (pt_cmpR op_eq (pv 6) (pv 7) (nomark _)) (pw_or1 (pt_cmp (pc_din hu (pe_tup (pa_cons (pv 6) (pa_cons (pv 7) pa_nil))) (pv 1)))))) (pss_one (ps_ret pe_non)) pss_nil)
          (pss_cons (ps_dput hu (pv 1) (pe_tup (pa_cons (pv 6) (pa_cons (pv 7) pa_nil))) (pe_ix ix_tup (pv 2) (pv 5) (fun _ _ => rfl)) rfl)
          (pss_one (ps_dput hu (pv 1) (pe_tup (pa_cons (pv 7) (pa_cons (pv 6) pa_nil))) (pe_ix ix_tup (pv 2) (pv 5) (fun _ _ => rfl)) rfl)))))))))
      (pss_one (ps_ret (pv 1)))), ?_⟩
    intro d hd
    obtain ⟨dx, l, dn, e, ts, ho, hl, hrows, hdn, he⟩ := told.ex
    have s0 : Same H (upd H d (.dT [])) := same_new hd
    refine ⟨_, rfl, o, C, dx, _, _, rfl, s0 _ _ ho, c.cl, c.n2, f_threes _ _ _ _, ?_⟩
    refine ⟨l, rfl, ⟨_, SqL.of (s0 _ _ hl)⟩, for_list (K := K) (a := l) (xs := ts.map V.ref) (fun i σ H' => Same H H' ∧ H' d = some (.dT (tabV (table (tr.take i)))) ∧ ∃ y2 y3 y4 y5 y6 y7, σ = [some (.ref o), some (.ref d), y2, y3, y4, y5, y6, y7, none]) ⟨s0, upd_same, _, _, _, _, _, _, rfl⟩
      (fun i σ H' _ ⟨s, _⟩ => SqL.of (s _ _ hl)) ?_ ?_⟩
    · rintro i z σ H' hz ⟨sm, ed, y2, y3, y4, y5, y6, y7, rfl⟩
      rw [List.getElem?_map] at hz
      obtain ⟨t, ht, rfl⟩ := Option.map_eq_some_iff.mp hz
      obtain ⟨l3, hl3, et⟩ := hrows.get ht
      obtain ⟨u, v, x, rfl, b1, b2, b3, b4, b5, b6⟩ := fine.three l3 (List.mem_of_getElem? hl3)
      have et' := sm _ _ et
      have hti : i < tr.length := (List.getElem?_eq_some_iff.mp hl3).1
      have few := fine.few
      refine ⟨_, rfl, _, 3, rfl, .inr ⟨_, SqT.of et', rfl⟩, rfl, _, rfl, iteND rfl ?_⟩
      refine ⟨_, rfl, t, rfl, ⟨_, SqT.of et'⟩, fun D hD => lc_tup (K := K) (a := t) (xs := [u, v, x].map V.int) (fun k H2 => Same H' H2 ∧ H2 D = some (.lst ((List.replicate k true).map V.bl))) ⟨same_new hD, upd_same⟩ (fun k H2 _ ⟨s, _⟩ => SqT.of (s _ _ et')) ?_ ?_⟩
      · rintro k z H2 hz2 ⟨s2, e2⟩
        rw [List.getElem?_map] at hz2
        obtain ⟨p, hp, rfl⟩ := Option.map_eq_some_iff.mp hz2
        have hk : k < 3 := (List.getElem?_eq_some_iff.mp hp).1
        have hb : 0 ≤ p ∧ p < n := by
          have := List.mem_of_getElem? hp
          simp only [List.mem_cons, List.not_mem_nil, or_false] at this
          rcases this with rfl | rfl | rfl
          · exact ⟨b1, b2⟩
          · exact ⟨b3, b4⟩
          · exact ⟨b5, b6⟩
        refine ⟨rfl, ⟨_, rfl, 0, p, rfl, rfl, _, rfl, iteDT hb.1 ⟨_, rfl, o, C, dx, _, _, rfl, s2 _ _ (sm _ _ ho), c.cl, c.n1, f_count _ _ _ _, ⟨p, n, rfl, rfl, _, e2, by rw [List.length_map, List.length_replicate]; exact big8 (by omega), same_upd s2 hD, ?_⟩⟩⟩⟩
        show _ = some (HO.lst (List.map V.bl (List.replicate (k + 1) true)))
        rw [upd_same]
        show some (HO.lst (List.map V.bl (List.replicate k true) ++ [V.bl (decide (p < n))])) = _
        rw [decide_eq_true hb.2, List.replicate_succ', List.map_append]
        rfl
      · rintro H3 ⟨s3, e3⟩
        refine ⟨D, List.replicate 3 true, rfl, SqL.of e3, _, rfl, ?_⟩
        have sm3 := sm.trans s3
        have ed3 := s3 _ _ ed
        refine ⟨(by show 3 ≤ sizeLine; decide), fun p1 hp1 => ⟨(by show 3 ≤ sizeLine; decide), fun p2 hp2 => ⟨(by show 3 ≤ sizeLine; decide), fun p3 hp3 => ⟨(by show 3 ≤ sizeLine; decide), fun p4 hp4 => ?_⟩⟩⟩⟩
        have t1 := same_new (o := .tup [V.int 0, V.int 1, V.int 2]) hp1
        have t2 := same_new (o := .tup [V.int 0, V.int 2, V.int 1]) hp2
        have t3 := same_new (o := .tup [V.int 1, V.int 2, V.int 0]) hp3
        have t4 := same_new (o := .tup [V.ref p1, V.ref p2, V.ref p3]) hp4
        have q1 := t4 _ _ (t3 _ _ (t2 _ _ (upd_same (H := H3) (a := p1) (o := .tup [V.int 0, V.int 1, V.int 2]))))
        have q2 := t4 _ _ (t3 _ _ (upd_same (H := upd H3 p1 (.tup [V.int 0, V.int 1, V.int 2])) (a := p2) (o := .tup [V.int 0, V.int 2, V.int 1])))
        have q3 := t4 _ _ (upd_same (H := upd (upd H3 p1 (.tup [V.int 0, V.int 1, V.int 2])) p2 (.tup [V.int 0, V.int 2, V.int 1])) (a := p3) (o := .tup [V.int 1, V.int 2, V.int 0]))
        have q4 := upd_same (H := upd (upd (upd H3 p1 (.tup [V.int 0, V.int 1, V.int 2])) p2 (.tup [V.int 0, V.int 2, V.int 1])) p3 (.tup [V.int 1, V.int 2, V.int 0])) (a := p4) (o := .tup [V.ref p1, V.ref p2, V.ref p3])
        have t14 := ((t1.trans t2).trans t3).trans t4
        have ed4 := t14 _ _ ed3
        have sm4 := sm3.trans t14
        have et4 := sm4 _ _ et
        generalize upd (upd (upd (upd H3 p1 (.tup [V.int 0, V.int 1, V.int 2])) p2 (.tup [V.int 0, V.int 2, V.int 1])) p3 (.tup [V.int 1, V.int 2, V.int 0])) p4 (.tup [V.ref p1, V.ref p2, V.ref p3]) = H4 at *
        clear t1 t2 t3 t4 t14 hp1 hp2 hp3 hp4 ed3 sm3 e3 s3 hD ed sm et'
        refine ⟨p4, rfl, ⟨_, SqT.of q4⟩, for_tup (K := K) (a := p4) (xs := [p1, p2, p3].map V.ref) (fun k σ H5 => Same H H5 ∧ (∀ b ys, H4 b = some (.tup ys) → H5 b = some (.tup ys)) ∧ H5 d = some (.dT (tabV (table (tr.take i) ++ (ents [u, v, x]).take (2 * k)))) ∧ ∃ y3 y4 y5 y6 y7, σ = [some (.ref o), some (.ref d), some (.ref t), y3, y4, y5, y6, y7, none])
          ⟨sm4, fun _ _ e => e, by rw [List.take_zero, List.append_nil]; exact ed4, _, _, _, _, _, rfl⟩ (fun k σ H5 _ ⟨_, kp, _⟩ => SqT.of (kp _ _ q4)) ?_ ?_⟩
        · rintro k z σ H5 hz5 ⟨sm5, kp, ed5, y3, y4, y5, y6, y7, rfl⟩
          have hk : ∃ (p : Addr) (a b c' : Nat) (pa pb pc : Int), z = .ref p ∧ H4 p = some (.tup [.int (a : Int), .int (b : Int), .int (c' : Int)]) ∧ ([u, v, x].map V.int)[a]? = some (.int pa) ∧ ([u, v, x].map V.int)[b]? = some (.int pb) ∧ ([u, v, x].map V.int)[c']? = some (.int pc) ∧ (ents [u, v, x]).take (2 * k + 2) = (ents [u, v, x]).take (2 * k) ++ [((pa, pb), pc), ((pb, pa), pc)] := by
            rcases k with _ | _ | _ | k
            · exact ⟨p1, 0, 1, 2, u, v, x, (Option.some.inj hz5).symm, q1, rfl, rfl, rfl, rfl⟩
            · exact ⟨p2, 0, 2, 1, u, x, v, (Option.some.inj hz5).symm, q2, rfl, rfl, rfl, rfl⟩
            · exact ⟨p3, 1, 2, 0, v, x, u, (Option.some.inj hz5).symm, q3, rfl, rfl, rfl, rfl⟩
            · simp at hz5
          have hk3 : k < 3 := by
            have := (List.getElem?_eq_some_iff.mp hz5).1
            exact this
          obtain ⟨p, a, b, c', pa, pb, pc, rfl, ep, ha, hb, hc, htk⟩ := hk
          obtain ⟨hne, n1, n2⟩ := tab_step hl3 fine.once htk
          have et5 := kp _ _ et4
          refine ⟨p, _, rfl, SqT.of (kp _ _ ep), rfl, _, _, rfl, _, _, rfl, _, _, rfl, rfl, ?_⟩
          refine ⟨_, rfl, _, rfl, t, _, _, _, rfl, rfl, SqT.of et5, atI_nat (j := a) ha, ?_⟩
          refine ⟨_, rfl, _, rfl, t, _, _, _, rfl, rfl, SqT.of et5, atI_nat (j := b) hb, ?_⟩
          refine ⟨_, _, rfl, _, rfl, _, rfl, rfl, _, rfl, iteDF (fun e => hne (V.int.inj e)) ?_⟩
          have lt5 : (tabV (table (tr.take i) ++ (ents [u, v, x]).take (2 * k))).length ≤ 6 * 800 + 6 := by
            have h1 := table_len (tr.take i)
            have h2 := ents_len [u, v, x]
            have h3 := List.length_take_le (2 * k) (ents [u, v, x])
            rw [List.length_take] at h1
            unfold tabV
            rw [List.length_map, List.length_append]
            omega
          refine ⟨_, rfl, _, rfl, (by show 2 ≤ sizeLine; decide), fun p5 hp5 => ?_⟩
          have s5 := same_new (o := .tup [V.int pa, V.int pb]) hp5
          have g := DGet.t (k := [Sum.inl pa, Sum.inl pb]) (s5 _ _ ed5) upd_same
          rw [tabV_none n1] at g
          refine ⟨_, rfl, d, none, rfl, g, false, rfl, iteF ?_⟩
          have ed6 := s5 _ _ ed5
          have et6 := s5 _ _ et5
          have sm6 := sm5.trans s5
          have kp6 : ∀ b ys, H4 b = some (.tup ys) → (upd H5 p5 (.tup [V.int pa, V.int pb])) b = some (.tup ys) := fun b ys e => s5 _ _ (kp _ _ e)
          clear g
          generalize upd H5 p5 (.tup [V.int pa, V.int pb]) = H6 at *
          clear s5 hp5 ed5 et5 sm5 kp
          -- found[one, other] = three[c]
          refine ⟨_, rfl, _, rfl, t, _, _, _, rfl, rfl, SqT.of et6, atI_nat (j := c') hc, ?_⟩
          refine ⟨_, rfl, _, rfl, _, rfl, (by show 2 ≤ sizeLine; decide), fun p7 hp7 => ?_⟩
          have s7 := same_new (o := .tup [V.int pa, V.int pb]) hp7
          refine ⟨d, _, rfl, DPut.t (k := [Sum.inl pa, Sum.inl pb]) (s7 _ _ ed6) upd_same (big8 (by omega)), ?_⟩
          have e8 : putK (tabV (table (tr.take i) ++ (ents [u, v, x]).take (2 * k))) [Sum.inl pa, Sum.inl pb] (V.int pc) = tabV (table (tr.take i) ++ (ents [u, v, x]).take (2 * k) ++ [((pa, pb), pc)]) := by
            rw [putK_new _ (tabV_none n1), tabV_app _ [_]]
            rfl
          rw [e8]
          have sm8 := same_upd (o := .dT (tabV (table (tr.take i) ++ (ents [u, v, x]).take (2 * k) ++ [((pa, pb), pc)]))) (sm6.trans s7) hd
          have kp8 : ∀ b ys, H4 b = some (.tup ys) → (upd (upd H6 p7 (.tup [V.int pa, V.int pb])) d (.dT (tabV (table (tr.take i) ++ (ents [u, v, x]).take (2 * k) ++ [((pa, pb), pc)])))) b = some (.tup ys) := fun b ys e => by
            rw [upd_ne (ne_of (s7 _ _ (kp6 _ _ e)) (s7 _ _ ed6) (fun z => nomatch z))]
            exact s7 _ _ (kp6 _ _ e)
          have ed8 := upd_same (H := upd H6 p7 (.tup [V.int pa, V.int pb])) (a := d) (o := .dT (tabV (table (tr.take i) ++ (ents [u, v, x]).take (2 * k) ++ [((pa, pb), pc)])))
          generalize upd (upd H6 p7 (.tup [V.int pa, V.int pb])) d (.dT (tabV (table (tr.take i) ++ (ents [u, v, x]).take (2 * k) ++ [((pa, pb), pc)]))) = H8 at *
          have et8 := kp8 _ _ et4
          -- found[other, one] = three[c]
          refine ⟨_, rfl, _, rfl, t, _, _, _, rfl, rfl, SqT.of et8, atI_nat (j := c') hc, ?_⟩
          refine ⟨_, rfl, _, rfl, _, rfl, (by show 2 ≤ sizeLine; decide), fun p9 hp9 => ?_⟩
          have s9 := same_new (o := .tup [V.int pb, V.int pa]) hp9
          refine ⟨d, _, rfl, DPut.t (k := [Sum.inl pb, Sum.inl pa]) (s9 _ _ ed8) upd_same (big8 (by rw [tabV_app _ [_], List.length_append]; show _ + 1 ≤ _; omega)), ?_⟩
          refine ⟨same_upd (sm8.trans s9) hd, fun b ys e => ?_, ?_, _, _, _, _, _, rfl⟩
          · rw [upd_ne (ne_of (s9 _ _ (kp8 _ _ e)) (s9 _ _ ed8) (fun z => nomatch z))]
            exact s9 _ _ (kp8 _ _ e)
          · rw [upd_same, putK_new _ (tabV_none n2)]
            show _ = some (HO.dT (tabV (table (tr.take i) ++ (ents [u, v, x]).take (2 * k + 2))))
            rw [htk, ← List.append_assoc, show [((pa, pb), pc), ((pb, pa), pc)] = [((pa, pb), pc)] ++ [((pb, pa), pc)] from rfl, ← List.append_assoc, tabV_app _ [((pb, pa), pc)]]
            rfl
        · rintro σ H5 ⟨sm5, kp, ed5, y3, y4, y5, y6, y7, rfl⟩
          refine ⟨sm5, ?_, _, _, _, _, _, _, rfl⟩
          rw [ed5, table_succ hl3]
          rfl
    · rintro σ H' ⟨sm, ed, y2, y3, y4, y5, y6, y7, rfl⟩
      refine ⟨_, rfl, q d H' sm ?_⟩
      rw [ed, List.length_map, Paired.length hrows, List.take_length]
end
end TP
/-! W8: check_parting. -/
namespace TP
open PySem PySem.Spec PyProof.Rows L2
section
variable {X : Cx}
/-- == of two pairs of numbers -/
def rEqP : R2 := fun x y H Q => ∃ p q a b c d, x = .ref p ∧ y = .ref q ∧ H p = some (.tup [.int a, .int b]) ∧ H q = some (.tup [.int c, .int d]) ∧ Q (.bl (decide (a = c ∧ b = d))) H
theorem op_eqP (hu : X.A.units + 64 < cLine) : OpR X (compareOp .Eq) rEqP := by
  intro pins s σ H x y v u Q I rx ry h
  obtain ⟨p, q, a, b, c, d, rfl, rfl, ep, eq, k⟩ := h
  refine op_eqD hu pins s σ H _ _ v u Q I rx ry ⟨.tuple [.int a, .int b], .tuple [.int c, .int d], .tup (SqT.of ep) (.cons (.int a) (.cons (.int b) .nil)), .tup (SqT.of eq) (.cons (.int c) (.cons (.int d) .nil)), rfl, rfl, ?_⟩
  have e : PyData.eqv (.tuple [.int a, .int b]) (.tuple [.int c, .int d]) = decide (a = c ∧ b = d) := by
    simp [PyData.eqv, PyData.eqvAll]
    rfl
  rw [e]
  exact k
end
def spCheckP (C : Addr) : Sp := fun vs H Q _ => ∃ (x y : V) (o : Addr) (a b : T) (n : Int) (tr : List (List Int)) (nk : List (Key × V)) (i j : Int) (g : T → Int), vs = [x, y, .ref o] ∧ Tm H x a ∧ Tm H y b ∧ Fit a ∧ Fit b ∧ Told C H o n tr nk i j ∧ Fine n tr ∧ nk.length ≤ 800 ∧
  (∀ q ∈ nk, ∃ i : Int, q.2 = .int i ∧ 0 ≤ i ∧ i < n) ∧ Come nk (tabV (table tr)) g a ∧ Come nk (tabV (table tr)) g b ∧ ∀ H', Same H H' → Q (.bl (decide (g a ≠ g b ∧ g a = i ∧ g b = j))) H'
abbrev nCheckP : List Str := ["one", "other", "told", "pairs", "ends", "point"]
section
variable {P : Program} {w : World} {K : PySem.W.Frag} {mg : Str → Option Value} {base : Heap}
theorem scCheckP : FnScope nCheckP ["one", "other", "told"] (defScope sCheckP) := ⟨rfl, rfl, rfl, by decide +kernel, rfl, by decide +kernel, by decide +kernel⟩
theorem ok_checkP {f C : Addr} {fd : FuncData} (F : Fun K "check_parting" "check_parting" sCheckP f fd) (M : Txt K mg) (c : Cl K mg C) (GC : Fn P w K mg base 3 "check_term" ["term"] spCheck) (GA : Fn P w K mg base 1 "pairs_of" ["told"] (spPairs C)) (GM : Fn P w K mg base 21 "come_there" ["term", "names", "pairs"] (spCome 21)) : FnOk P w K mg base CX0 22 f fd ["one", "other", "told"] (spCheckP C) := by
  refine F.ok scCheckP (fun vs H Q E h => ?_) (fun cdv A outer s H vs Q E hr h => ?_)
  · obtain ⟨x, y, o, a, b, n, tr, nk, i, j, g, rfl, _⟩ := h
    rfl
  · obtain ⟨x, y, o, a, b, n, tr, nk, i, j, g, rfl, ha, hb, ⟨la, da⟩, ⟨lb, db⟩, told, fine, hn, hv, ca, cb, q⟩ := h
    have hu := hu_of hr
    refine ⟨_, pss_cons (ps_expr (pe_fn GC hr (by decide) (pa_cons (pv 0) pa_nil) (by rfl)))
      (pss_cons (ps_expr (pe_fn GC hr (by decide) (pa_cons (pv 1) pa_nil) (by rfl)))
      (pss_cons (ps_set (i := 3) scCheckP.nd rfl (.inl rfl) (pe_fn GA hr (by decide) (pa_cons (pv 2) pa_nil) (by rfl)))
      (pss_cons (ps_if (PW.pt (pw_or (pt_cmpR op_isN (pv 3) pe_non (nomark _))
          (pw_or (pt_cmpR op_ne (pe_callB call_len (by rfl) M.len PySem.boot_len (pa_cons (pe_fld (pv 2) rfl) pa_nil)) pe_int (nomark _))
          (pw_or1 (pt_not (pt_val (pe_callB (crAll (K := K) rfl rfl) (by rfl) M.all (by decide +kernel : bootBuiltins "all" = some (.builtin "all")) (pa_cons
              (pe_lock (pe_lc (own := [("point", 5)]) (g := gName 5) (tt := tYes) rfl scCheckP.nd (pi_values (pe_fld (pv 2) rfl)) (blkOk_by (own := [("point", 5)]) (N := nCheckP) (sc := defScope sCheckP) (by decide +kernel))
                (fun _ _ _ _ _ => pg_name (i := 5) scCheckP.nd rfl (Or.inl rfl)) (fun _ _ _ _ _ => pts_nil) (fun _ _ _ _ _ => pe_chain op_le op_lt pe_int (pv 5) (pe_fldK (K := K) rfl (pe_fld (pv 2) rfl))))) pa_nil))))))))
          (pss_one (ps_ret pe_bl)) pss_nil)
      (pss_cons (ps_set (i := 4) scCheckP.nd rfl (.inl rfl) (pe_tup (pa_cons (pe_fn GM hr (by decide) (pa_cons (pv 0) (pa_cons (pe_fld (pv 2) rfl) (pa_cons (pv 3) pa_nil))) (by rfl)) (pa_cons (pe_fn GM hr (by decide) (pa_cons (pv 1) (pa_cons (pe_fld (pv 2) rfl) (pa_cons (pv 3) pa_nil))) (by rfl)) pa_nil))))
      (pss_one (ps_ret (pe_and (pe_cmpR op_notIn_seq pe_non (pv 4) (by rfl)) (pe_and (pe_cmpR op_ne (pe_ix ix_tup (pv 4) pe_int (fun _ _ => rfl)) (pe_ix ix_tup (pv 4) pe_int (fun _ _ => rfl)) (nomark _)) (pe_one (pe_cmpR (op_eqP hr.units) (pv 4) (pe_fld (pv 2) rfl) (nomark _))))))))))), ?_⟩
    obtain ⟨dx, l, dn, e, ts, ho, hl, hrows, hdn, he⟩ := told.ex
    refine ⟨_, rfl, x, a, rfl, ha, la, fun H1 s1 => ?_⟩
    refine ⟨_, rfl, y, b, rfl, hb.same s1, lb, fun H2 s2 => ?_⟩
    have s12 := s1.trans s2
    refine ⟨_, rfl, o, n, tr, nk, i, j, rfl, told.same s12, fine, fun d H3 s3 ed => ?_⟩
    have sm := s12.trans s3
    refine ⟨_, rfl, rfl, false, rfl, iteF ⟨_, rfl, o, C, dx, _, _, rfl, sm _ _ ho, c.cl, c.n4, f_ends _ _ _ _, _, 2, rfl, .inr ⟨_, SqT.of (sm _ _ he), rfl⟩, rfl, _, rfl, iteND rfl ?_⟩⟩
    have oN : o ≠ dn := ne_of ho hdn (fun z => nomatch z)
    refine ⟨dn, .dK nk, sm _ _ hdn, True.intro, fun od => ?_⟩
    have s4 : ∀ b' u, b' ≠ dn → H3 b' = some u → (upd H3 dn (.frz od (.dK nk))) b' = some u := fun b' u h e => by
      rw [upd_ne h]
      exact e
    refine ⟨_, rfl, o, C, dx, _, _, rfl, s4 _ _ oN (sm _ _ ho), c.cl, c.n3, f_names _ _ _ _, dn, od, nk, rfl, upd_same, fun D hD => lc_gen (n := nk.length) (fun k H' => H' dn = some (.frz od (.dK nk)) ∧ (∀ b' u, b' ≠ dn → H3 b' = some u → H' b' = some u) ∧ H' D = some (.lst ((List.replicate k true).map V.bl)))
      ⟨?_, fun b' u h e => ?_, upd_same⟩ (fun k H' hk ⟨h1, _⟩ => ⟨h1, hk⟩) (fun H' ⟨h1, _⟩ => ⟨h1, Nat.le_refl _⟩) ?_ ?_⟩
    · rw [upd_ne (ne_of_none upd_same hD), upd_same]
    · rw [upd_ne (ne_of_none (s4 _ _ h e) hD)]
      exact s4 _ _ h e
    · rintro k H' z H'' hk ⟨h1, h2, h3⟩ ⟨rfl, key, hz⟩
      obtain ⟨p, ep, b1, b2⟩ := hv _ (List.mem_of_getElem? hz)
      have ez : z = .int p := ep
      subst ez
      refine ⟨rfl, ⟨_, rfl, 0, p, rfl, rfl, _, rfl, iteDT b1 ⟨_, rfl, o, C, dx, _, _, rfl, h2 _ _ oN (sm _ _ ho), c.cl, c.n1, f_count _ _ _ _, ⟨p, n, rfl, rfl, _, h3, by rw [List.length_map, List.length_replicate]; exact big8 (by omega), ?_, fun b' u h e => ?_, ?_⟩⟩⟩⟩
      · rw [upd_ne (ne_of h1 h3 (fun z => nomatch z))]
        exact h1
      · have hbD : b' ≠ D := ne_of_none (s4 _ _ h e) hD
        rw [upd_ne hbD]
        exact h2 _ _ h e
      · show _ = some (HO.lst (List.map V.bl (List.replicate (k + 1) true)))
        rw [upd_same]
        show some (HO.lst (List.map V.bl (List.replicate k true) ++ [V.bl (decide (p < n))])) = _
        rw [decide_eq_true b2, List.replicate_succ', List.map_append]
        rfl
    · rintro H4 ⟨h1, h2, h3⟩
      refine ⟨h1, ?_⟩
      have sm5 : Same H3 (upd H4 dn (.dK nk)) := fun b' u e => by
        by_cases hb : b' = dn
        · subst hb
          rw [upd_same, ← e]
          exact (sm _ _ hdn).symm
        · rw [upd_ne hb]
          exact h2 _ _ hb e
      have eD : (upd H4 dn (.dK nk)) D = some (.lst ((List.replicate nk.length true).map V.bl)) := by
        rw [upd_ne (ne_of h3 h1 (fun z => nomatch z))]
        exact h3
      generalize upd H4 dn (.dK nk) = H5 at *
      have hall : (List.replicate nk.length true).all id = true := by
        rw [List.all_eq_true]
        intro z hz
        exact (List.mem_replicate.mp hz).2
      refine ⟨D, List.replicate nk.length true, rfl, SqL.of eD, true, ?_, iteF ?_⟩
      · rw [hall]
      have smA := sm.trans sm5
      have ed5 := sm5 _ _ ed
      refine ⟨_, rfl, _, rfl, o, C, dx, _, _, rfl, smA _ _ ho, c.cl, c.n3, f_names _ _ _ _, _, rfl, x, a, dn, d, nk, _, g, rfl, ha.same smA, by omega, smA _ _ hdn, ed5, ca, fun H6 s6 => ?_⟩
      have sm6 := smA.trans s6
      refine ⟨_, rfl, _, rfl, o, C, dx, _, _, rfl, sm6 _ _ ho, c.cl, c.n3, f_names _ _ _ _, _, rfl, y, b, dn, d, nk, _, g, rfl, hb.same sm6, by omega, sm6 _ _ hdn, s6 _ _ ed5, cb, fun H7 s7 => ?_⟩
      refine ⟨(by show 2 ≤ sizeLine; decide), fun p hp => ?_⟩
      have s8 := same_new (o := .tup [V.int (g a), V.int (g b)]) hp
      have sm8 := (sm6.trans s7).trans s8
      have ep := upd_same (H := H7) (a := p) (o := .tup [V.int (g a), V.int (g b)])
      generalize upd H7 p (.tup [V.int (g a), V.int (g b)]) = H8 at *
      refine ⟨_, rfl, p, _, rfl, .inr (SqT.of ep), rfl, rfl, true, rfl, iteT ?_⟩
      refine ⟨_, rfl, p, _, _, _, rfl, rfl, SqT.of ep, atI_nat (j := 0) rfl, ?_⟩
      refine ⟨_, rfl, p, _, _, _, rfl, rfl, SqT.of ep, atI_nat (j := 1) rfl, rfl, _, rfl, ?_⟩
      by_cases hg : g a = g b
      · refine iteND (by rw [hg]) ?_
        have := q H8 sm8
        rw [decide_eq_false (fun k => k.1 hg)] at this
        exact this
      · refine iteNF (fun k => hg (V.int.inj k)) ?_
        refine ⟨_, rfl, _, rfl, o, C, dx, _, _, rfl, sm8 _ _ ho, c.cl, c.n4, f_ends _ _ _ _, p, e, _, _, _, _, rfl, rfl, ep, sm8 _ _ he, ?_⟩
        have := q H8 sm8
        rw [show decide (g a ≠ g b ∧ g a = i ∧ g b = j) = decide (g a = i ∧ g b = j) from decide_eq_decide.mpr ⟨fun k => k.2, fun k => ⟨hg, k⟩⟩] at this
        exact this
end
/-! ### what a parting tells is right -/
theorem Fine.of {a b : T} {pl : List T} {tr : List (List Int)} {nk : List (Key × V)} (h : PF a b pl tr nk) : Fine (pl.length : Int) tr := by
  refine ⟨fun l hl => ?_, h.th.once, h.few.2.1⟩
  obtain ⟨p, hp, hi, hq⟩ := h.th.mem hl
  have hin : ∀ z ∈ l, 0 ≤ z ∧ z < (pl.length : Int) := fun z hz => by
    obtain ⟨s, hs, _, rfl⟩ := in3_of h.th.cl hp hq hz
    have := ixn_lt hs
    unfold ixOf
    omega
  have hlen : l.length = 3 := by
    rw [hq.length_eq]
    cases p with
    | nm x => cases hi
    | pr x y => rfl
  rcases l with _ | ⟨x, _ | ⟨y, _ | ⟨z, _ | ⟨t, r⟩⟩⟩⟩
  · simp at hlen
  · simp at hlen
  · simp at hlen
  · have h1 := hin x (by simp)
    have h2 := hin y (by simp)
    have h3 := hin z (by simp)
    exact ⟨x, y, z, rfl, h1.1, h1.2, h2.1, h2.2, h3.1, h3.2⟩
  · simp at hlen
theorem Come.of {a b : T} {pl : List T} {tr : List (List Int)} {nk : List (Key × V)} (h : PF a b pl tr nk) : ∀ {t : T}, (∀ p ∈ pts t, p ∈ pl) → Come nk (tabV (table tr)) (fun t => ixOf pl (br t)) t
  | .nm y, hp => h.nm y (hp _ (List.mem_singleton.mpr rfl))
  | .pr l r, hp => by
    have hl : ∀ p ∈ pts l, p ∈ pl := fun p q => hp p (mem_pts_pr.mpr (.inl q))
    have hr : ∀ p ∈ pts r, p ∈ pl := fun p q => hp p (mem_pts_pr.mpr (.inr (.inl q)))
    have bl := hl _ (br_mem l)
    have brr := hr _ (br_mem r)
    have bz := hp _ (br_mem (.pr l r))
    refine ⟨Come.of h hl, Come.of h hr, fun e => ?_, fun e => ?_⟩
    · have e' := ixOf_inj bl brr e
      show ixOf pl (jo (br l) (br r)) = ixOf pl (br l)
      rw [← e', jo_same]
    · refine tabV_some h.th.once ?_
      exact h.th.third bl brr (fun k => e (by show ixOf pl (br l) = ixOf pl (br r); rw [k])) bz
end TP
/-! W9: ordered_counts, plain_count. -/
namespace TP
open PySem PySem.Spec PyProof.Rows L2
/-! ### as plain mathematics -/
def look (p : List E2) (k : Int × Int) : Option Int := (p.find? fun e => e.1 == k).map (·.2)
theorem valV_tab (p : List E2) (u v : Int) : valV (tabV p) [Sum.inl u, Sum.inl v] = (look p (u, v)).map V.int := by
  induction p with
  | nil => rfl
  | cons e es ih =>
    show valV (([Sum.inl e.1.1, Sum.inl e.1.2], V.int e.2) :: tabV es) _ = _
    by_cases h : e.1 = (u, v)
    · rw [valV_pos (by rw [h])]
      unfold look
      rw [List.find?_cons, beq_iff_eq.mpr h]
      rfl
    · rw [valV_neg, ih]
      · unfold look
        rw [List.find?_cons, beq_eq_false_iff_ne.mpr h]
      · intro q
        injection q with q1 q2
        injection q2 with q2 _
        exact h (Prod.ext (Sum.inl.inj q1) (Sum.inl.inj q2))
/-- the value at (first, second) where first + second = t, or none -/
def ocVal (s : List Int) (q : List E2) (a b : Nat) : Option Int :=
  match s[a]?, s[b]? with
  | some x, some y => if max a b > min a b then (look q ((min a b : Nat), ((max a b - min a b : Nat) : Int))).map fun c => x * y - (if a = b then x else 0) - c else some (x * y - (if a = b then x else 0) - 0)
  | _, _ => none
def ocRow (s : List Int) (p : List E2) (t : Nat) : Nat → List E2
  | 0 => p
  | j + 1 => ocRow s p t j ++ [((((j + 1 : Nat) : Int), ((t - (j + 1) : Nat) : Int)), (ocVal s (ocRow s p t j) (j + 1) (t - (j + 1))).getD 0)]
def ocSum (p : List E2) (t j : Nat) : List Int := (List.range j).map fun i => (look p (((i + 1 : Nat) : Int), ((t - (i + 1) : Nat) : Int))).getD 0
def oc (n : Nat) : Nat → List Int × List E2
  | 0 => ([0, (n : Int)], [])
  | i + 1 => ((oc n i).1 ++ [(ocSum (ocRow (oc n i).1 (oc n i).2 (i + 2) (i + 1)) (i + 2) (i + 1)).sum / 2], ocRow (oc n i).1 (oc n i).2 (i + 2) (i + 1))
def chkRow (n i j : Nat) : Bool :=
  (ocVal (oc n i).1 (ocRow (oc n i).1 (oc n i).2 (i + 2) j) (j + 1) (i + 2 - (j + 1))).isSome && (look (ocRow (oc n i).1 (oc n i).2 (i + 2) j) (((j + 1 : Nat) : Int), ((i + 2 - (j + 1) : Nat) : Int))).isNone &&
  ((oc n i).1.all fun x => decide (x.natAbs < 1000)) && decide ((ocRow (oc n i).1 (oc n i).2 (i + 2) j).length < 100)
def chkSum (n i j : Nat) : Bool := (look (ocRow (oc n i).1 (oc n i).2 (i + 2) (i + 1)) (((j + 1 : Nat) : Int), ((i + 2 - (j + 1) : Nat) : Int))).isSome
theorem chk_all : ∀ n < 4, ∀ i < 3, ∀ j < i + 1, chkRow n i j = true ∧ chkSum n i j = true ∧ (oc n i).1.length < 100 := by decide +kernel
theorem oc_end : ∀ n < 4, ∀ L < 5, 1 ≤ L → ∃ m, (oc n (L - 1)).1[L]? = some m ∧ m ≤ 2000 := by
  have h : ∀ n < 4, ∀ L < 5, 1 ≤ L → (match (oc n (L - 1)).1[L]? with | some m => decide (m ≤ 2000) | none => false) = true := by decide +kernel
  intro n hn L hL h1
  have := h n hn L hL h1
  cases e : (oc n (L - 1)).1[L]? with
  | none => rw [e] at this; cases this
  | some m =>
    rw [e] at this
    exact ⟨m, rfl, of_decide_eq_true this⟩
theorem minI (a b : Nat) : (if (b : Int) < (a : Int) then (b : Int) else (a : Int)) = ((min a b : Nat) : Int) := by
  split <;> omega
theorem maxI (a b : Nat) : (if (b : Int) > (a : Int) then (b : Int) else (a : Int)) = ((max a b : Nat) : Int) := by
  split <;> omega
theorem ocSum_succ (p : List E2) (t j : Nat) : ocSum p t (j + 1) = ocSum p t j ++ [(look p (((j + 1 : Nat) : Int), ((t - (j + 1) : Nat) : Int))).getD 0] := by
  unfold ocSum
  rw [List.range_succ, List.map_append]
  rfl
theorem ocVal_some {s : List Int} {q : List E2} {a b : Nat} (h : (ocVal s q a b).isSome = true) : ∃ x y c, s[a]? = some x ∧ s[b]? = some y ∧ (if max a b > min a b then look q ((min a b : Nat), ((max a b - min a b : Nat) : Int)) = some c else c = 0) ∧ (ocVal s q a b).getD 0 = x * y - (if a = b then x else 0) - c := by
  unfold ocVal at h ⊢
  cases e1 : s[a]? with
  | none => rw [e1] at h; cases h
  | some x =>
    cases e2 : s[b]? with
    | none => rw [e1, e2] at h; cases h
    | some y =>
      rw [e1, e2] at h
      by_cases g : max a b > min a b
      · simp only [if_pos g] at h ⊢
        cases e3 : look q ((min a b : Nat), ((max a b - min a b : Nat) : Int)) with
        | none => rw [e3] at h; cases h
        | some c => exact ⟨x, y, c, rfl, rfl, rfl, rfl⟩
      · simp only [if_neg g]
        exact ⟨x, y, 0, rfl, rfl, rfl, rfl⟩
/-- a value, said otherwise -/
theorem i0_to {g : Int → Int → V} {i j : Int} {v : V} {H : Hp} {Q : VK} (e : g i j = v) (q : Q v H) : rI0 g (.int i) (.int j) H Q := ⟨i, j, rfl, rfl, e ▸ q⟩
/-- read a part by itself -/
theorem via {t : TE} {σ : L2.St} {H : Hp} {v : V} {Q : VK} (h : ∀ Q : VK, (∀ H', Same H H' → Q v H') → t σ H Q) (q : ∀ H', Same H H' → Q v H') : t σ H Q := h Q q
abbrev nOrdered : List Str := ["names", "leaves", "single", "pairs", "total", "first", "second", "many", "less", "more"]
def spOrdered : Sp := fun vs H Q _ => ∃ (n L : Nat), vs = [.int n, .int L] ∧ 1 ≤ L ∧ L ≤ 4 ∧ (L = 1 ∨ n ≤ 3) ∧ ∀ p H', Same H H' → H' p = some (.lst ((oc n (L - 1)).1.map V.int)) → Q (.ref p) H'
theorem bt_min : bootBuiltins "min" = some (.builtin "min") := by decide +kernel
theorem bt_max : bootBuiltins "max" = some (.builtin "max") := by decide +kernel
theorem bt_sum : bootBuiltins "sum" = some (.builtin "sum") := by decide +kernel
section
variable {P : Program} {w : World} {K : PySem.W.Frag} {mg : Str → Option Value} {base : Heap}
theorem scOrdered : FnScope nOrdered ["names", "leaves"] (defScope sOrdered) := ⟨rfl, rfl, rfl, by decide +kernel, rfl, by decide +kernel, by decide +kernel⟩
theorem ok_ordered {f : Addr} {fd : FuncData} (F : Fun K "ordered_counts" "ordered_counts" sOrdered f fd) (M : Txt K mg) : FnOk P w K mg base CX0 1 f fd ["names", "leaves"] spOrdered := by
  refine F.ok scOrdered (fun vs H Q E h => ?_) (fun cdv A outer s H vs Q E hr h => ?_)
  · obtain ⟨n, L, rfl, _⟩ := h
    rfl
  · obtain ⟨n, L, rfl, h1, h4, h3, q⟩ := h
    have hu := hu_of hr
    refine ⟨_, pss_cons (ps_set (i := 2) scOrdered.nd rfl (.inl rfl) (pe_lst (pa_cons pe_int (pa_cons (pv 0) pa_nil))))
      (pss_cons (ps_set (i := 3) scOrdered.nd rfl (.inr rfl) pe_dnewT)
      (pss_cons (ps_for PassesOwn.never rfl (pi_range2 (by rfl) M.rng (pa_cons pe_int (pa_cons (pe_op op_add (pv 1) pe_int) pa_nil))) (pg_name (i := 4) scOrdered.nd rfl (.inr rfl))
        (pss_cons (ps_for PassesOwn.never rfl (pi_range2 (by rfl) M.rng (pa_cons pe_int (pa_cons (pv 4) pa_nil))) (pg_name (i := 5) scOrdered.nd rfl (.inl rfl))
          (pss_cons (ps_set (i := 6) scOrdered.nd rfl (.inl rfl) (pe_op op_sub (pv 4) (pv 5)))
          (pss_cons (ps_set (i := 7) scOrdered.nd rfl (.inl rfl) (pe_op op_sub (pe_op op_mul (pe_ix ix_list (pv 2) (pv 5) (fun _ _ => rfl)) (pe_ix ix_list (pv 2) (pv 6) (fun _ _ => rfl))) (pe_ifExp (pt_cmpR op_eq (pv 5) (pv 6) (nomark _)) (pe_ix ix_list (pv 2) (pv 5) (fun _ _ => rfl)) pe_int)))
          (pss_cons (ps_par (i := 8) (j := 9) (by rfl) scOrdered.nd rfl rfl (by decide) rfl rfl (pa_cons (pe_callB (call_min2 rfl) (by rfl) M.mi bt_min (pa_cons (pv 5) (pa_cons (pv 6) pa_nil))) (pa_cons (pe_callB (call_max2 rfl) (by rfl) M.ma bt_max (pa_cons (pv 5) (pa_cons (pv 6) pa_nil))) pa_nil)) (by rfl))
          (pss_one (ps_dput hu (pv 3) (pe_tup (pa_cons (pv 5) (pa_cons (pv 6) pa_nil))) (pe_op op_sub (pv 7) (pe_ifExp (pt_cmpR op_gt (pv 9) (pv 8) (nomark _)) (pe_dget hu (pv 3) (pe_tup (pa_cons (pv 8) (pa_cons (pe_op op_sub (pv 9) (pv 8)) pa_nil))) (fun _ _ => rfl)) pe_int)) rfl))))))
        (pss_one (ps_expr (pe_bm PySem.F.plainAttrs_list PySem.F.slot_list_append PySem.F.type_list_append mt_append (pv 2) (pa_cons
          (pe_op op_fdiv (pe_callB (cr_sum rfl) (by rfl) M.sm bt_sum (pa_cons (pe_lc (own := [("first", 5)]) (g := gName 5) (tt := tYes) rfl scOrdered.nd (pi_range2 (by rfl) M.rng (pa_cons pe_int (pa_cons (pv 4) pa_nil))) (blkOk_by (own := [("first", 5)]) (N := nOrdered) (sc := defScope sOrdered) (by decide +kernel))
            (fun _ _ _ _ _ => pg_name (i := 5) scOrdered.nd rfl (Or.inl rfl)) (fun _ _ _ _ _ => pts_nil) (fun _ _ _ _ _ => pe_dget hu (pv 3) (pe_tup (pa_cons (pv 5) (pa_cons (pe_op op_sub (pv 4) (pv 5)) pa_nil))) (fun _ _ => rfl))) pa_nil)) pe_int) pa_nil))))))
      (pss_one (ps_ret (pv 2))))), ?_⟩
    refine ⟨_, rfl, (by show 2 ≤ sizeLine; decide), fun S hS => ?_⟩
    have s1 := same_new (o := .lst [V.int 0, V.int n]) hS
    intro D hD
    have s2 := same_new (o := .dT []) hD
    have eS : (upd (upd H S (.lst [V.int 0, V.int n])) D (.dT [])) S = some (.lst [V.int 0, V.int n]) := s2 _ _ upd_same
    have eD := upd_same (H := upd H S (.lst [V.int 0, V.int n])) (a := D) (o := .dT [])
    have sm := s1.trans s2
    have hD0 : H D = none := s1.free hD
    generalize upd (upd H S (.lst [V.int 0, V.int n])) D (.dT []) = H2 at *
    clear s1 s2 hD
    have eL : ((L : Int) + 1 - 2).toNat = L - 1 := by omega
    refine ⟨_, rfl, _, 1, rfl, rfl, ?_⟩
    refine ⟨2, (L : Int) + 1, rfl, ⟨by decide, by decide, by omega, by omega⟩, for_range (lo := 2) (n := ((L : Int) + 1 - 2).toNat) (fun i σ H' => Same H H' ∧ H' S = some (.lst ((oc n i).1.map V.int)) ∧ H' D = some (.dT (tabV (oc n i).2)) ∧ ∃ y4 y5 y6 y7 y8 y9, σ = [some (.int n), some (.int L), some (.ref S), some (.ref D), y4, y5, y6, y7, y8, y9]) ⟨sm, eS, eD, _, _, _, _, _, _, rfl⟩ ?_ ?_⟩
    · rintro i σ H' hi ⟨sm1, eS1, eD1, y4, y5, y6, y7, y8, y9, rfl⟩
      rw [eL] at hi
      have hn : n < 4 := by omega
      have hi3 : i < 3 := by omega
      have eR : (2 + (i : Int) - 1).toNat = i + 1 := by omega
      refine ⟨_, rfl, 1, 2 + (i : Int), rfl, ⟨by decide, by decide, by omega, by omega⟩, for_range (lo := 1) (n := (2 + (i : Int) - 1).toNat) (fun j σ H' => Same H H' ∧ H' S = some (.lst ((oc n i).1.map V.int)) ∧ H' D = some (.dT (tabV (ocRow (oc n i).1 (oc n i).2 (i + 2) j))) ∧ ∃ y5 y6 y7 y8 y9, σ = [some (.int n), some (.int L), some (.ref S), some (.ref D), some (.int (2 + (i : Int))), y5, y6, y7, y8, y9])
        ⟨sm1, eS1, eD1, _, _, _, _, _, rfl⟩ ?_ ?_⟩
      · clear eS1 eD1 sm1
        rintro j σ H' hj ⟨sm1, eS1, eD1, y5, y6, y7, y8, y9, rfl⟩
        rw [eR] at hj
        obtain ⟨c1, _, _⟩ := chk_all n hn i hi3 j hj
        unfold chkRow at c1
        rw [Bool.and_eq_true, Bool.and_eq_true, Bool.and_eq_true] at c1
        obtain ⟨⟨⟨cv, cn⟩, cs⟩, cl⟩ := c1
        have e1 : (1 + (j : Int)) = ((j + 1 : Nat) : Int) := by omega
        have e2 : (2 + (i : Int)) - ((j + 1 : Nat) : Int) = ((i + 2 - (j + 1) : Nat) : Int) := by omega
        rw [e1]
        obtain ⟨x, y, c, gx, gy, gc, gv⟩ := ocVal_some cv
        rw [Option.isNone_iff_eq_none] at cn
        rw [List.all_eq_true] at cs
        have bx := of_decide_eq_true (cs x (List.mem_of_getElem? gx))
        have by2 := of_decide_eq_true (cs y (List.mem_of_getElem? gy))
        have clen := of_decide_eq_true cl
        refine ⟨_, rfl, _, rfl, i0_to (v := .int ((i + 2 - (j + 1) : Nat) : Int)) (congrArg V.int e2) ?_⟩
        have k : (((j + 1 : Nat) : Int) = ((i + 2 - (j + 1) : Nat) : Int)) ↔ j + 1 = i + 2 - (j + 1) := by omega
        have hap : ocRow (oc n i).1 (oc n i).2 (i + 2) (j + 1) = ocRow (oc n i).1 (oc n i).2 (i + 2) j ++ [((((j + 1 : Nat) : Int), ((i + 2 - (j + 1) : Nat) : Int)), x * y - (if j + 1 = i + 2 - (j + 1) then x else 0) - c)] := by
          rw [← gv]
          rfl
        rw [hap]
        clear gv cv hap cl e1 e2
        generalize j + 1 = a at *
        generalize i + 2 - a = b at *
        generalize ocRow (oc n i).1 (oc n i).2 (i + 2) j = row at *
        have gx' : ((oc n i).1.map V.int)[a]? = some (.int x) := by rw [List.getElem?_map, gx]; rfl
        have gy' : ((oc n i).1.map V.int)[b]? = some (.int y) := by rw [List.getElem?_map, gy]; rfl
        refine ⟨_, rfl, _, rfl, S, _, _, _, rfl, rfl, SqL.of eS1, atI_nat (j := a) gx', _, rfl, _, rfl, S, _, _, _, rfl, rfl, SqL.of eS1, atI_nat (j := b) gy', x, y, rfl, rfl, .inl ⟨by omega, by omega⟩, ?_⟩
        refine via (v := .int (if a = b then x else 0)) (fun Q' q' => ?_) (fun H3 s3 => ?_)
        · refine ⟨_, rfl, _, rfl, rfl, _, rfl, ite2 (fun g => ?_) (fun g => ?_)⟩
          · have g' : a = b := k.mp (V.int.inj (of_decide_eq_true g))
            refine ⟨_, rfl, _, rfl, S, _, _, _, rfl, rfl, SqL.of eS1, atI_nat (j := a) gx', ?_⟩
            rw [if_pos g'] at q'
            exact q' _ (Same.refl _)
          · have g' : ¬ a = b := fun e => g (decide_eq_true (by rw [k.mpr e]))
            rw [if_neg g'] at q'
            exact q' _ (Same.refl _)
        refine ⟨_, _, rfl, rfl, ?_⟩
        have sm3 := sm1.trans s3
        have eS3 := s3 _ _ eS1
        have eD3 := s3 _ _ eD1
        clear eS1 eD1
        -- less, more
        refine ⟨_, rfl, _, rfl, _, _, rfl, ?_⟩
        rw [minI]
        refine ⟨_, rfl, _, rfl, _, _, rfl, ?_⟩
        rw [maxI]
        refine ⟨_, _, rfl, ?_⟩
        -- pairs[first, second] = ..
        refine ⟨_, rfl, via (v := .int c) (fun Q' q' => ?_) (fun H4 s4 => ?_)⟩
        · refine ⟨_, rfl, _, rfl, _, _, rfl, rfl, _, rfl, ite2 (fun g => ?_) (fun g => ?_)⟩
          · have g' : max a b > min a b := by
              have := of_decide_eq_true g
              omega
            rw [if_pos g'] at gc
            have e3 : ((max a b : Nat) : Int) - ((min a b : Nat) : Int) = ((max a b - min a b : Nat) : Int) := by omega
            refine ⟨_, rfl, _, rfl, _, rfl, _, rfl, i0_to (v := .int ((max a b - min a b : Nat) : Int)) (congrArg V.int e3) ⟨(by show 2 ≤ sizeLine; decide), fun p hp => ?_⟩⟩
            have s5 := same_new (o := .tup [V.int ((min a b : Nat) : Int), V.int ((max a b - min a b : Nat) : Int)]) hp
            have g5 := DGet.t (k := [Sum.inl ((min a b : Nat) : Int), Sum.inl ((max a b - min a b : Nat) : Int)]) (s5 _ _ eD3) upd_same
            rw [valV_tab, gc] at g5
            exact ⟨D, _, rfl, g5, q' _ s5⟩
          · have g' : ¬ max a b > min a b := fun e => g (decide_eq_true (by omega))
            rw [if_neg g'] at gc
            rw [gc] at q'
            exact q' _ (Same.refl _)
        refine ⟨_, _, rfl, rfl, ?_⟩
        have sm4 := sm3.trans s4
        have eS4 := s4 _ _ eS3
        have eD4 := s4 _ _ eD3
        refine ⟨_, rfl, _, rfl, _, rfl, (by show 2 ≤ sizeLine; decide), fun p hp => ?_⟩
        have s5 := same_new (o := .tup [V.int (a : Int), V.int (b : Int)]) hp
        refine ⟨D, _, rfl, DPut.t (k := [Sum.inl (a : Int), Sum.inl (b : Int)]) (s5 _ _ eD4) upd_same (by unfold tabV; rw [List.length_map]; exact big8 (by omega)), ?_⟩
        refine ⟨same_upd (sm4.trans s5) hD0, ?_, ?_, _, _, _, _, _, rfl⟩
        · rw [upd_ne (ne_of (s5 _ _ eS4) (s5 _ _ eD4) (fun z => nomatch z))]
          exact s5 _ _ eS4
        · rw [upd_same, putK_new _ (by rw [valV_tab, cn]; rfl), tabV_app]
          rfl
      · rintro σ H' ⟨sm1, eS1, eD1, y5, y6, y7, y8, y9, rfl⟩
        rw [eR] at eD1
        refine ⟨_, rfl, .inl ⟨rfl, _, SqL.of eS1⟩, ?_⟩
        have hlen := (chk_all n hn i hi3 i (Nat.lt_succ_self i)).2.2
        refine ⟨_, rfl, 1, 2 + (i : Int), rfl, ⟨by decide, by decide, by omega, by omega⟩, fun B hB => lc_range (lo := 1) (n := (2 + (i : Int) - 1).toNat) (fun j H2 => Same H H2 ∧ H2 S = some (.lst ((oc n i).1.map V.int)) ∧ H2 D = some (.dT (tabV (oc n (i + 1)).2)) ∧ H2 B = some (.lst ((ocSum (oc n (i + 1)).2 (i + 2) j).map V.int)))
          ⟨same_upd sm1 (sm1.free hB), ?_, ?_, upd_same⟩ ?_ ?_⟩
        · rw [upd_ne (ne_of_none eS1 hB)]
          exact eS1
        · rw [upd_ne (ne_of_none eD1 hB)]
          exact eD1
        · rintro j H2 hj ⟨sm2, eS2, eD2, eB2⟩
          rw [eR] at hj
          have cs := (chk_all n hn i hi3 j hj).2.1
          unfold chkSum at cs
          obtain ⟨c, hc⟩ := Option.isSome_iff_exists.mp cs
          have e1 : (1 + (j : Int)) = ((j + 1 : Nat) : Int) := by omega
          have e2 : (2 + (i : Int)) - ((j + 1 : Nat) : Int) = ((i + 2 - (j + 1) : Nat) : Int) := by omega
          rw [e1]
          refine ⟨rfl, ⟨_, rfl, _, rfl, _, rfl, _, rfl, i0_to (v := .int ((i + 2 - (j + 1) : Nat) : Int)) (congrArg V.int e2) ⟨(by show 2 ≤ sizeLine; decide), fun p hp => ?_⟩⟩⟩
          have s5 := same_new (o := .tup [V.int ((j + 1 : Nat) : Int), V.int ((i + 2 - (j + 1) : Nat) : Int)]) hp
          have g5 := DGet.t (k := [Sum.inl ((j + 1 : Nat) : Int), Sum.inl ((i + 2 - (j + 1) : Nat) : Int)]) (s5 _ _ eD2) upd_same
          rw [valV_tab, show look (oc n (i + 1)).2 (((j + 1 : Nat) : Int), ((i + 2 - (j + 1) : Nat) : Int)) = some c from hc] at g5
          have sB := s5 _ _ eB2
          refine ⟨D, _, rfl, g5, _, sB, ?_, same_upd (sm2.trans s5) (sm1.free hB), ?_, ?_, ?_⟩
          · unfold ocSum
            rw [List.length_map, List.length_map, List.length_range]
            exact big8 (by omega)
          · have h5 := s5 _ _ eS2
            have nB : S ≠ B := ne_of_none eS1 hB
            rw [upd_ne nB]
            exact h5
          · rw [upd_ne (ne_of (s5 _ _ eD2) sB (fun z => nomatch z))]
            exact s5 _ _ eD2
          · rw [upd_same, ocSum_succ, List.map_append, show look (oc n (i + 1)).2 (((j + 1 : Nat) : Int), ((i + 2 - (j + 1) : Nat) : Int)) = some c from hc]
            rfl
        · rintro H2 ⟨sm2, eS2, eD2, eB2⟩
          rw [eR] at eB2
          refine ⟨B, _, rfl, SqL.of eB2, _, 2, rfl, rfl, ⟨by decide, by decide⟩, S, _, _, rfl, rfl, eS2, ?_, same_upd sm2 hS, ?_, ?_, _, _, _, _, _, _, rfl⟩
          · rw [List.length_map]
            exact big8 (by omega)
          · rw [upd_same]
            show _ = some (HO.lst (((oc n i).1 ++ [(ocSum (oc n (i + 1)).2 (i + 2) (i + 1)).sum / 2]).map V.int))
            rw [List.map_append]
            rfl
          · rw [upd_ne (ne_of eD2 eS2 (fun z => nomatch z))]
            exact eD2
    · rintro σ H' ⟨sm1, eS1, eD1, y4, y5, y6, y7, y8, y9, rfl⟩
      rw [eL] at eS1
      exact ⟨_, rfl, q S H' sm1 eS1⟩
end
end TP
/-! W10: plain_count, plain_forms. -/
namespace TP
open PySem PySem.Spec PyProof.Rows L2
section
variable {P : Program} {w : World} {K : PySem.W.Frag} {mg : Str → Option Value} {base : Heap}
def spPCount : Sp := fun vs H Q _ => ∃ (n L : Nat), vs = [.int n, .int L] ∧ 1 ≤ L ∧ L ≤ 4 ∧ n ≤ 4 ∧ (L = 1 ∨ n ≤ 3) ∧ ∀ (m : Int) H', m ≤ 2000 → Same H H' → Q (.int m) H'
theorem scPCount : FnScope ["names", "leaves"] ["names", "leaves"] (defScope sPCount) := ⟨rfl, rfl, rfl, by decide +kernel, rfl, by decide +kernel, by decide +kernel⟩
theorem ok_pcount {f : Addr} {fd : FuncData} (F : Fun K "plain_count" "plain_count" sPCount f fd) (M : Txt K mg) (GO : Fn P w K mg base 1 "ordered_counts" ["names", "leaves"] spOrdered) : FnOk P w K mg base CX0 2 f fd ["names", "leaves"] spPCount := by
  refine F.ok scPCount (fun vs H Q E h => ?_) (fun cdv A outer s H vs Q E hr h => ?_)
  · obtain ⟨n, L, rfl, _⟩ := h
    rfl
  · obtain ⟨n, L, rfl, h1, h4, hn, h3, q⟩ := h
    refine ⟨_, pss_cons (ps_if (PW.pt (pw_or (pt_not (pt_chain op_le op_le pe_int (pv 0) (pe_con_ M.names (by rfl)))) (pw_or1 (pt_not (pt_chain op_le op_le pe_int (pv 1) (pe_con_ M.counted (by rfl))))))) (pss_one ps_never) pss_nil)
      (pss_one (ps_ret (pe_ix ix_list (pe_fn GO hr (Nat.le_refl _) (pa_cons (pv 0) (pa_cons (pv 1) pa_nil)) (by rfl)) (pv 1) (fun _ _ => rfl)))), ?_⟩
    refine ⟨_, rfl, 0, (n : Int), rfl, rfl, _, rfl, iteDT (by omega) ⟨(n : Int), 26, rfl, rfl, _, rfl, ?_⟩⟩
    refine iteND (show (n : Int) ≤ 26 by omega) ?_
    refine ⟨_, rfl, 1, (L : Int), rfl, rfl, _, rfl, iteDT (by omega) ⟨(L : Int), 60, rfl, rfl, _, rfl, ?_⟩⟩
    refine iteND (show (L : Int) ≤ 60 by omega) ?_
    refine ⟨_, rfl, _, rfl, n, L, rfl, h1, h4, h3, fun p H' sm ep => ?_⟩
    have he : ∃ m, (oc n (L - 1)).1[L]? = some m ∧ m ≤ 2000 := by
      rcases h3 with rfl | h3
      · exact ⟨(n : Int), rfl, by omega⟩
      · exact oc_end n (by omega) L (by omega) h1
    obtain ⟨m, hm, hm2⟩ := he
    exact ⟨_, rfl, p, _, _, _, rfl, rfl, SqL.of ep, atI_nat (j := L) (by rw [List.getElem?_map, hm]; rfl), q m H' hm2 sm⟩
theorem okD {x qual : Str} {params : Arguments} {body : List Stmt} {scope : Scope} {dvs : List V} {kws : List (Str × V)} {f : Addr} {fd : FuncData} {N ps : List Str} {k : Nat} {sp : Sp} (F : FunD K x qual params body scope dvs kws f fd) (S : FnScope N ps scope) (len : ∀ vs H Q E, sp vs H Q E → vs.length = ps.length)
    (hbody : ∀ (cdv : Value) (A : Around) (outer : List Env) (s : Shared) (H : Hp) (vs : List V) (Q : VK) (E : XK), Room k (A.deeper (envOfC qual scope s.heap.objs.size f cdv)) → sp vs H Q E →
      ∃ t, PSs (cxOf CX0 P w K mg base N qual scope f cdv A outer s H E).nox body t ∧ t { nx := fun _ H' => Q .non H', rt := Q } (start N vs) H) : FnOk P w K mg base CX0 (k + 1) f fd ps sp :=
  F.ok S len fun cdv A outer s H vs Q E hr hsp => by
    obtain ⟨t, h, q⟩ := hbody cdv A outer s H vs Q E hr hsp
    exact ⟨t, h.nox, q⟩
/-- sizes of the lists of forms -/
def bnd : Nat → Nat
  | 0 => 0
  | 1 => 4
  | 2 => 16
  | 3 => 64
  | _ => 512
def accB (t : Nat) : Nat → Nat
  | 0 => 0
  | j + 1 => accB t j + bnd (j + 1) * bnd (t - (j + 1))
theorem accB_le : ∀ t < 5, 2 ≤ t → accB t (t / 2) ≤ bnd t := by decide
theorem accB_lt : ∀ t < 5, ∀ j < t / 2, accB t j + bnd (j + 1) * bnd (t - (j + 1)) ≤ 512 := by decide
abbrev nPForms : List Str := ["names", "leaves", "limit", "name", "known", "found", "total", "forms", "first", "one", "other", "form"]
def nameT (y : Str) : It2 := (.str y, .nm y)
def spPForms : Sp := fun vs H Q _ => ∃ (nl : Addr) (ns : List Str) (L : Nat), vs = [.ref nl, .int L, .int 2000] ∧ H nl = some (.lst (ns.map V.str)) ∧ (∀ y ∈ ns, okN y) ∧ ns.Nodup ∧ ns.length ≤ 4 ∧ 1 ≤ L ∧ L ≤ 4 ∧ (L = 1 ∨ ns.length ≤ 3) ∧
  ∀ p H' xs ts, Same H H' → H' p = some (.lst xs) → TmL H' xs ts → (∀ t ∈ ts, nf t ∧ t.lv = L) → ts.length ≤ 1000 → (L = 1 → ∃ ys : List Str, ys.Perm ns ∧ xs = ((ys.map nameT).mergeSort (PySem.W.dataLe false kD)).map (·.1)) → Q (.ref p) H'
def rLen (K : PySem.W.Frag) : List V → Hp → VK → Prop := fun xs H Q => ∃ x n, xs = [x] ∧ LenV K x H n ∧ Q (V.int n) H
theorem crLen {X : Cx} {K : PySem.W.Frag} (hK : X.K = K) : CallR X (.builtin "len") (rLen K) := by
  subst hK
  exact call_len
/-- at a a list of plain forms with k names each -/
def FLk (H : Hp) (k : Nat) (a : Addr) : Prop := ∃ xs ts, H a = some (.lst xs) ∧ TmL H xs ts ∧ (∀ t ∈ ts, nf t ∧ t.lv = k) ∧ ts.length ≤ bnd k
theorem FLk.keep {H H' : Hp} {k : Nat} {a : Addr} (h : FLk H k a) (h1 : ∀ b ys, H b = some (.tup ys) → H' b = some (.tup ys)) (h2 : ∀ xs, H a = some (.lst xs) → H' a = some (.lst xs)) : FLk H' k a := by
  obtain ⟨xs, ts, e, r⟩ := h
  exact ⟨xs, ts, h2 _ e, TmL.keep h1 r.1, r.2⟩
theorem FLk.same {H H' : Hp} {k : Nat} {a : Addr} (s : Same H H') (h : FLk H k a) : FLk H' k a := h.keep (fun b ys e => s _ _ e) fun xs e => s _ _ e
/-- the dict of the forms met so far -/
def Forms (w : World) (H : Hp) (D : Addr) (t m : Nat) : Prop := ∃ kvs, H D = some (TD w D kvs) ∧ Keys H kvs ∧ (∀ p ∈ kvs, nf p.1 ∧ p.1.dp < t ∧ p.1.lv ≤ t) ∧ kvs.length ≤ m
theorem Forms.mono {w : World} {H : Hp} {D : Addr} {t m m' : Nat} (h : Forms w H D t m) (hm : m ≤ m') : Forms w H D t m' := by
  obtain ⟨kvs, e1, e2, e3, e4⟩ := h
  exact ⟨kvs, e1, e2, e3, Nat.le_trans e4 hm⟩
theorem TmL.zip {H : Hp} : ∀ {xs : List V} {ts : List T}, TmL H xs ts → (xs.zip ts).map (·.1) = xs ∧ (xs.zip ts).map (·.2) = ts ∧ ∀ b ∈ xs.zip ts, Tm H b.1 b.2
  | _, _, .nil => ⟨rfl, rfl, fun b h => by cases h⟩
  | _, _, .cons h t => by
    obtain ⟨e1, e2, e3⟩ := TmL.zip t
    rw [List.zip_cons_cons, List.map_cons, List.map_cons, e1, e2]
    exact ⟨rfl, rfl, fun b hb => (List.mem_cons.mp hb).elim (fun e => e ▸ h) (e3 b)⟩
theorem TmL.of {H : Hp} : ∀ {bs : List It2}, (∀ b ∈ bs, Tm H b.1 b.2) → TmL H (bs.map (·.1)) (bs.map (·.2))
  | [], _ => .nil
  | b :: bs, h => .cons (h b List.mem_cons_self) (TmL.of fun b hb => h b (List.mem_cons_of_mem _ hb))
theorem bnd_small : ∀ k < 5, bnd k ≤ 512 := by decide
theorem names_put (l : List Str) (v : V) : ∀ (i : Nat), i ≤ l.length → l.Nodup → ((l.take i).map fun y => ((Sum.inr y : Key), v)).map (·.1) = (l.take i).map Sum.inr := fun i _ _ => by
  rw [List.map_map]
  rfl
theorem valV_names {l : List Str} {v : V} {y : Str} (h : y ∉ l) : valV (l.map fun y => ((Sum.inr y : Key), v)) (Sum.inr y) = none := by
  induction l with
  | nil => rfl
  | cons x xs ih =>
    rw [List.mem_cons, not_or] at h
    rw [List.map_cons, valV_neg]
    · exact ih h.2
    · intro e
      exact h.1 (Sum.inr.inj e).symm
theorem scPForms : FnScope nPForms ["names", "leaves", "limit"] (defScope sPForms) := ⟨rfl, rfl, rfl, by decide +kernel, rfl, by decide +kernel, by decide +kernel⟩
theorem ok_pforms {f : Addr} {fd : FuncData} {x qual : Str} {params : Arguments} {dvs : List V} {kws : List (Str × V)} (F : FunD K x "plain_forms" params (defBody sPForms) (defScope sPForms) dvs kws f fd) (M : Txt K mg) (GV : Fn P w K mg base 1 "is_variable" ["term"] spIsVar) (GN : Fn P w K mg base 2 "plain_count" ["names", "leaves"] spPCount)
    (GJ : Fn P w K mg base 23 "joined" ["one", "other"] spJoined) (GL : Fn P w K mg base 5 "leaves_in" ["term"] (spLvIn 5)) (GP : Fn P w K mg base 22 "place_in_order" ["term"] spKey) : FnOk P w K mg base CX0 25 f fd ["names", "leaves", "limit"] spPForms := by
  obtain ⟨fp, fdp, FP, mP, kP, bP⟩ := GP
  refine okD F scPForms (fun vs H Q E h => ?_) (fun cdv A outer s H vs Q E hr h => ?_)
  · obtain ⟨nl, ns, L, rfl, _⟩ := h
    rfl
  · obtain ⟨nl, ns, L, rfl, hnl, hok, hnd, hn4, h1, h4, h3, q⟩ := h
    have hu := hu65 hr
    refine ⟨_, pss_cons (ps_for PassesOwn.never rfl (pi_list (pv 0)) (pg_name (i := 3) scPForms.nd rfl (.inl rfl))
        (pss_one (ps_if (pt_not (pt_val (pe_fn GV hr (by decide) (pa_cons (pv 3) pa_nil) (by rfl)))) (pss_one ps_never) pss_nil)))
      (pss_cons (ps_set (i := 4) scPForms.nd rfl (.inl rfl) (pe_callB (call_sortedD rfl) (by rfl) M.srt bt_sorted (pa_cons
          (pe_dg (dkText P w) (own := [("name", 3)]) (g := gName 3) (tt := tYes) rfl rfl hr.units rfl scPForms.nd (pi_list (pv 0)) (blkOk_by (own := [("name", 3)]) (N := nPForms) (sc := defScope sPForms) (by decide +kernel))
            (fun _ _ _ _ _ => pg_name (i := 3) scPForms.nd rfl (Or.inl rfl)) (fun _ _ _ _ _ => pts_nil) (fun _ _ _ _ _ => pv 3) (fun _ _ _ _ _ => pe_bl)) pa_nil)))
      (pss_cons (ps_if (pt_cmpR op_gt (pe_fn GN hr (by decide) (pa_cons (pe_callB call_len (by rfl) M.len PySem.boot_len (pa_cons (pv 4) pa_nil)) (pa_cons (pv 1) pa_nil)) (by rfl)) (pv 2) (nomark _)) (pss_one ps_never) pss_nil)
      (pss_cons (ps_set (i := 5) scPForms.nd rfl (.inl rfl) (pe_lst (pa_cons (pe_lst pa_nil) (pa_cons (pv 4) pa_nil))))
      (pss_cons (ps_for PassesOwn.never rfl (pi_range2 (by rfl) M.rng (pa_cons pe_int (pa_cons (pe_op op_add (pv 1) pe_int) pa_nil))) (pg_name (i := 6) scPForms.nd rfl (.inr rfl))
        (pss_cons (ps_set (i := 7) scPForms.nd rfl (.inl rfl) pe_dnewTD)
        (pss_cons (ps_for PassesOwn.never rfl (pi_range2 (by rfl) M.rng (pa_cons pe_int (pa_cons (pe_op op_add (pe_op op_fdiv (pv 6) pe_int) pe_int) pa_nil))) (pg_name (i := 8) scPForms.nd rfl (.inl rfl))
          (pss_one (ps_for PassesOwn.never rfl (pi_list (pe_ix ix_list (pv 5) (pv 8) (fun _ _ => rfl))) (pg_name (i := 9) scPForms.nd rfl (.inl rfl))
            (pss_one (ps_for PassesOwn.never rfl (pi_list (pe_ix ix_list (pv 5) (pe_op op_sub (pv 6) (pv 8)) (fun _ _ => rfl))) (pg_name (i := 10) scPForms.nd rfl (.inl rfl))
              (pss_one (ps_asg pe_bl (pg_sub (pv 7) (pe_fn GJ hr (by decide) (pa_cons (pv 9) (pa_cons (pv 10) pa_nil)) (by rfl)) (set_td hu)))))))))
        (pss_one (ps_expr (pe_bm PySem.F.plainAttrs_list PySem.F.slot_list_append PySem.F.type_list_append mt_append (pv 5) (pa_cons
          (pe_lock (pe_lc (own := [("form", 11)]) (g := gName 11) rfl scPForms.nd (pi_td (pv 7)) (blkOk_by (own := [("form", 11)]) (N := nPForms) (sc := defScope sPForms) (by decide +kernel))
            (fun _ _ _ _ _ => pg_name (i := 11) scPForms.nd rfl (Or.inl rfl)) (fun _ _ _ _ _ => pts_one (pt_cmpR op_eq (pe_callB (crLen (K := K) rfl) (by rfl) M.len PySem.boot_len (pa_cons (pe_fn GL hr (by decide) (pa_cons (pv 11) pa_nil) (by rfl)) pa_nil)) (pv 6) (nomark _))) (fun _ _ _ _ _ => pv 11))) pa_nil)))))))
      (pss_one (ps_ret (pe_callBK (cr_sortK rfl FP (hr.mono (by decide)) bP) (by rfl) M.srt bt_sorted (pa_cons (pe_ix ix_list (pv 5) (pv 1) (fun _ _ => rfl)) pa_nil) (pk_cons (pe_glob (v := .ref fp) (by rfl) mP rfl) pk_nil)))))))), ?_⟩
    refine ⟨_, rfl, nl, rfl, ⟨_, SqL.of hnl⟩, for_list (K := K) (a := nl) (xs := ns.map V.str) (fun i σ H' => Same H H' ∧ ∃ y3, σ = [some (.ref nl), some (.int L), some (.int 2000), y3, none, none, none, none, none, none, none, none]) ⟨Same.refl _, _, rfl⟩
      (fun i σ H' _ ⟨s, _⟩ => SqL.of (s _ _ hnl)) ?_ ?_⟩
    · rintro i z σ H' hz ⟨sm, y3, rfl⟩
      rw [List.getElem?_map] at hz
      obtain ⟨y, hy, rfl⟩ := Option.map_eq_some_iff.mp hz
      exact ⟨_, rfl, .str y, .nm y, rfl, .nm (hok y (List.mem_of_getElem? hy)), fun H2 s2 => ⟨true, rfl, iteF ⟨sm.trans s2, _, rfl⟩⟩⟩
    · rintro σ H' ⟨sm, y3, rfl⟩
      -- known
      refine ⟨_, rfl, nl, rfl, ⟨_, SqL.of (sm _ _ hnl)⟩, fun Dn hDn => dg_gen (n := ns.length) (fun i H2 => Same H' H2 ∧ H2 Dn = some (.dK ((ns.take i).map fun y => ((Sum.inr y : Key), V.bl true)))) ⟨same_new hDn, upd_same⟩
        (fun i H2 hi ⟨s, _⟩ => ⟨_, _, SqL.of (s _ _ (sm _ _ hnl)), List.getElem?_eq_getElem (by rw [List.length_map]; exact hi)⟩) (fun H2 ⟨s, _⟩ => ⟨_, SqL.of (s _ _ (sm _ _ hnl)), by rw [List.length_map]; exact Nat.le_refl _⟩) ?_ ?_⟩
      · rintro i H2 z H3 hi ⟨s2, e2⟩ ⟨rfl, hz⟩
        have hz' := hz _ (SqL.of (s2 _ _ (sm _ _ hnl)))
        rw [List.getElem?_map, List.getElem?_eq_getElem hi] at hz'
        obtain rfl := Option.some.inj hz'
        refine ⟨rfl, ⟨_, rfl, _, Sum.inr ns[i], rfl, e2, by rw [List.length_map, List.length_take]; exact big8 (by omega), same_upd s2 hDn, ?_⟩⟩
        have hni : ns[i] ∉ ns.take i := by
          intro hin
          obtain ⟨j, hj⟩ := List.mem_iff_getElem?.mp hin
          have hji : j < i := by
            have := (List.getElem?_eq_some_iff.mp hj).1
            rw [List.length_take] at this
            omega
          rw [List.getElem?_take_of_lt hji] at hj
          have := (List.getElem?_inj (List.getElem?_eq_some_iff.mp hj).1 hnd).mp (hj.trans (List.getElem?_eq_getElem hi).symm)
          omega
        rw [upd_same, putK_new _ (valV_names hni), List.take_add_one, List.getElem?_eq_getElem hi, List.map_append]
        rfl
      · rintro H2 ⟨s2, e2⟩
        rw [List.take_length] at e2
        refine ⟨Dn, _, ns, rfl, .inl e2, by rw [List.map_map]; rfl, by omega, fun ys kn hperm _ hkn => ?_⟩
        have s3 := same_new (o := .lst (ys.map V.str)) hkn
        have smk := (sm.trans s2).trans s3
        have ekn := upd_same (H := H2) (a := kn) (o := .lst (ys.map V.str))
        generalize upd H2 kn (.lst (ys.map V.str)) = Hk at *
        clear e2 s2 hDn hkn s3
        have hyl : ys.length = ns.length := hperm.length_eq
        -- if plain_count(..) > limit
        refine ⟨_, rfl, _, _, rfl, .inl ⟨_, SqL.of ekn, rfl⟩, ?_⟩
        refine ⟨_, rfl, ys.length, L, by rw [List.length_map]; rfl, h1, h4, by omega, by omega, fun m H3 hm s3 => ?_⟩
        refine ⟨_, rfl, m, 2000, rfl, rfl, _, rfl, iteDF (by omega) ?_⟩
        have smk3 := smk.trans s3
        have ekn3 := s3 _ _ ekn
        clear ekn s3 smk
        -- found = [[], known]
        refine ⟨(by show 0 ≤ sizeLine; decide), fun e0 he0 => ?_⟩
        have s4 := same_new (o := .lst []) he0
        refine ⟨_, rfl, (by show 2 ≤ sizeLine; decide), fun F0 hF0 => ?_⟩
        have s5 := same_new (o := .lst [V.ref e0, V.ref kn]) hF0
        have ee := s5 _ _ (upd_same (H := H3) (a := e0) (o := .lst []))
        have eF := upd_same (H := upd H3 e0 (.lst [])) (a := F0) (o := .lst [V.ref e0, V.ref kn])
        have ne0 : e0 ≠ F0 := ne_of_none (upd_same (H := H3) (a := e0) (o := .lst [])) hF0
        have sk5 := s4.trans s5
        have hF3 : H3 F0 = none := s4.free hF0
        have nkn : kn ≠ F0 := ne_of_none ekn3 hF3
        generalize upd (upd H3 e0 (.lst [])) F0 (.lst [V.ref e0, V.ref kn]) = H5 at *
        clear s4 s5 he0 hF0
        have eL : ((L : Int) + 1 - 2).toNat = L - 1 := by omega
        have hkT : ∀ H' : Hp, TmL H' (ys.map V.str) (ys.map T.nm) := fun H' => by
          have : ∀ l : List Str, (∀ y ∈ l, okN y) → TmL H' (l.map V.str) (l.map T.nm) := by
            intro l
            induction l with
            | nil => exact fun _ => .nil
            | cons y l ih => exact fun h => .cons (.nm (h y List.mem_cons_self)) (ih fun z hz => h z (List.mem_cons_of_mem _ hz))
          exact this ys fun y hy => hok y (hperm.mem_iff.mp hy)
        refine ⟨_, rfl, _, 1, rfl, rfl, ?_⟩
        refine ⟨2, (L : Int) + 1, rfl, ⟨by decide, by decide, by omega, by omega⟩, for_range (lo := 2) (n := ((L : Int) + 1 - 2).toNat) (fun i σ H' => Same H3 H' ∧ (∃ fl : List Addr, H' F0 = some (.lst (fl.map V.ref)) ∧ fl.length = i + 2 ∧ (∀ k a, fl[k]? = some a → FLk H' k a ∧ a ≠ F0) ∧ fl[1]? = some kn) ∧ ∃ y6 y7 y8 y9 y10, σ = [some (.ref nl), some (.int L), some (.int 2000), y3, some (.ref kn), some (.ref F0), y6, y7, y8, y9, y10, none])
          ⟨sk5, ⟨[e0, kn], eF, rfl, fun k a hk => ?_, rfl⟩, _, _, _, _, _, rfl⟩ ?_ ?_⟩
        · rcases k with _ | _ | k
          · obtain rfl := Option.some.inj hk
            exact ⟨⟨[], [], ee, .nil, (fun t h => nomatch h), Nat.le_refl _⟩, ne0⟩
          · obtain rfl := Option.some.inj hk
            refine ⟨⟨_, ys.map T.nm, sk5 _ _ ekn3, hkT _, fun t ht => ?_, ?_⟩, nkn⟩
            · obtain ⟨y, _, rfl⟩ := List.mem_map.mp ht
              exact ⟨True.intro, rfl⟩
            · rw [List.length_map]
              show ys.length ≤ 4
              omega
          · simp at hk
        · rintro i σ Hb hi ⟨smb, ⟨fl, eFb, hfl, hFL, _⟩, y6, y7, y8, y9, y10, rfl⟩
          rw [eL] at hi
          intro D hD
          have sD := same_new (o := TD w D []) hD
          have eD := upd_same (H := Hb) (a := D) (o := TD w D [])
          have hFo : Forms w (upd Hb D (TD w D [])) D (i + 2) (accB (i + 2) 0) := ⟨[], eD, Keys.nil, (fun p h => nomatch h), Nat.le_refl _⟩
          have eR : ((2 + (i : Int)) / 2 + 1 - 1).toNat = (i + 2) / 2 := by omega
          -- first
          refine ⟨_, rfl, _, 2, rfl, rfl, ⟨by decide, by decide⟩, _, 1, rfl, rfl, ?_⟩
          refine ⟨1, (2 + (i : Int)) / 2 + 1, rfl, ⟨by decide, by decide, by omega, by omega⟩, for_range (lo := 1) (n := ((2 + (i : Int)) / 2 + 1 - 1).toNat) (fun j σ H' => Same Hb H' ∧ Forms w H' D (i + 2) (accB (i + 2) j) ∧ ∃ y8 y9 y10, σ = [some (.ref nl), some (.int L), some (.int 2000), y3, some (.ref kn), some (.ref F0), some (.int (2 + (i : Int))), some (.ref D), y8, y9, y10, none])
            ⟨sD, hFo, _, _, _, rfl⟩ ?_ ?_⟩
          · clear sD hFo y6 y7 y8 y9 y10
            rintro j σ H' hj ⟨sj, hFo, y8, y9, y10, rfl⟩
            rw [eR] at hj
            have e1 : (1 + (j : Int)) = ((j + 1 : Nat) : Int) := by omega
            have e2 : (2 + (i : Int)) - ((j + 1 : Nat) : Int) = ((i + 2 - (j + 1) : Nat) : Int) := by omega
            rw [e1]
            obtain ⟨a1, ha1⟩ : ∃ a, fl[j + 1]? = some a := ⟨_, List.getElem?_eq_getElem (by omega)⟩
            obtain ⟨a2, ha2⟩ : ∃ a, fl[i + 2 - (j + 1)]? = some a := ⟨_, List.getElem?_eq_getElem (by omega)⟩
            obtain ⟨xs1, ts1, ea1, hT1, hp1, hl1⟩ := (hFL _ _ ha1).1
            obtain ⟨xs2, ts2, ea2, hT2, hp2, hl2⟩ := (hFL _ _ ha2).1
            have hacc : accB (i + 2) (j + 1) = accB (i + 2) j + bnd (j + 1) * bnd (i + 2 - (j + 1)) := rfl
            have hx1 := hT1.len
            have hx2 := hT2.len
            refine ⟨_, rfl, _, rfl, F0, _, _, _, rfl, rfl, SqL.of (sj _ _ eFb), atI_nat (j := j + 1) (by rw [List.getElem?_map, ha1]; rfl), a1, rfl, ⟨_, SqL.of (sj _ _ ea1)⟩,
              for_list (K := K) (a := a1) (xs := xs1) (fun u σ H' => Same Hb H' ∧ Forms w H' D (i + 2) (accB (i + 2) j + u * bnd (i + 2 - (j + 1))) ∧ ∃ y9 y10, σ = [some (.ref nl), some (.int L), some (.int 2000), y3, some (.ref kn), some (.ref F0), some (.int (2 + (i : Int))), some (.ref D), some (.int ((j + 1 : Nat) : Int)), y9, y10, none])
                ⟨sj, by rw [Nat.zero_mul]; exact hFo, _, _, rfl⟩ (fun u σ H' _ ⟨s, _⟩ => SqL.of (s _ _ ea1)) ?_ ?_⟩
            · clear hFo sj y9 y10
              rintro u x σ H' hxu ⟨su, hFo, y9, y10, rfl⟩
              obtain ⟨t1, ht1, htm1⟩ := hT1.get hxu
              have pt1 := hp1 t1 (List.mem_of_getElem? ht1)
              refine ⟨_, rfl, _, rfl, _, rfl, i0_to (v := .int ((i + 2 - (j + 1) : Nat) : Int)) (congrArg V.int e2) ⟨F0, _, _, _, rfl, rfl, SqL.of (su _ _ eFb), atI_nat (j := i + 2 - (j + 1)) (by rw [List.getElem?_map, ha2]; rfl), a2, rfl, ⟨_, SqL.of (su _ _ ea2)⟩,
                for_list (K := K) (a := a2) (xs := xs2) (fun v σ H' => Same Hb H' ∧ Forms w H' D (i + 2) (accB (i + 2) j + u * bnd (i + 2 - (j + 1)) + v) ∧ ∃ y10, σ = [some (.ref nl), some (.int L), some (.int 2000), y3, some (.ref kn), some (.ref F0), some (.int (2 + (i : Int))), some (.ref D), some (.int ((j + 1 : Nat) : Int)), some x, y10, none])
                  ⟨su, hFo, _, rfl⟩ (fun v σ H' _ ⟨s, _⟩ => SqL.of (s _ _ ea2)) ?_ ?_⟩⟩
              · clear hFo su y10
                rintro v z σ H' hzv ⟨sv, ⟨kvs, eD, hK, hpr, hlen⟩, y10, rfl⟩
                obtain ⟨t2, ht2, htm2⟩ := hT2.get hzv
                have pt2 := hp2 t2 (List.mem_of_getElem? ht2)
                have d1 := t1.dp_lv
                have d2 := t2.dp_lv
                have lj := jo_lv t1 t2
                have dj := jo_dp t1 t2
                refine ⟨_, rfl, _, rfl, _, rfl, x, z, t1, t2, rfl, htm1.same sv, htm2.same sv, ⟨by omega, by omega⟩, ⟨by omega, by omega⟩, fun r H6 s6 t6 => ?_⟩
                have eD6 := s6 _ _ eD
                have hK6 := hK.keep (fun b ys e => s6 _ _ e)
                have hsm : accB (i + 2) j + u * bnd (i + 2 - (j + 1)) + v ≤ 7000 := by
                  have a1 := accB_lt (i + 2) (by omega) j hj
                  have hu1 : u < xs1.length := (List.getElem?_eq_some_iff.mp hxu).1
                  have hv1 : v < xs2.length := (List.getElem?_eq_some_iff.mp hzv).1
                  have m1 : (u + 1) * bnd (i + 2 - (j + 1)) ≤ bnd (j + 1) * bnd (i + 2 - (j + 1)) := Nat.mul_le_mul_right _ (by omega)
                  rw [Nat.succ_mul] at m1
                  omega
                refine ⟨D, kvs, jo t1 t2, rfl, eD6, hK6, big8 (by omega), t6, by omega, same_upd (sv.trans s6) hD, ⟨putT kvs (jo t1 t2) r (.bl true), upd_same, ?_, fun p hp => ?_, ?_⟩, _, rfl⟩
                · refine (hK6.put t6 (by omega) _).keep fun b ys e => ?_
                  rw [upd_ne (ne_of e eD6 (fun z => nomatch z))]
                  exact e
                · have : p.1 ∈ (putT kvs (jo t1 t2) r (.bl true)).map (·.1) := List.mem_map.mpr ⟨p, hp, rfl⟩
                  rcases mem_putT.mp this with h | h
                  · obtain ⟨p', hp', e⟩ := List.mem_map.mp h
                    rw [← e]
                    exact hpr p' hp'
                  · rw [h]
                    exact ⟨jo_nf pt1.1 pt2.1 htm1.ok htm2.ok, by omega, by omega⟩
                · have := putT_length kvs (jo t1 t2) r (.bl true)
                  omega
              · rintro σ H' ⟨sv, hFo, y10, rfl⟩
                refine ⟨sv, hFo.mono ?_, _, _, rfl⟩
                rw [Nat.succ_mul]
                omega
            · rintro σ H' ⟨sv, hFo, y9, y10, rfl⟩
              refine ⟨sv, hFo.mono ?_, _, _, _, rfl⟩
              rw [hacc]
              exact Nat.add_le_add_left (Nat.mul_le_mul_right _ (by omega)) _
          · rintro σ Hx ⟨sx, ⟨kvs, eD, hK, hpr, hlen⟩, y8, y9, y10, rfl⟩
            rw [eR] at hlen
            have hlen2 := Nat.le_trans hlen (accB_le (i + 2) (by omega) (by omega))
            have hb5 := bnd_small (i + 2) (by omega)
            have eFx := sx _ _ eFb
            refine ⟨_, rfl, .inl ⟨rfl, _, SqL.of eFx⟩, ?_⟩
            have hup : ∀ od b u, b ≠ D → Hx b = some u → (upd Hx D (.frz od (TD w D kvs))) b = some u := fun od b u h e => by
              rw [upd_ne h]
              exact e
            refine ⟨D, _, eD, True.intro, fun od => ⟨_, rfl, D, od, kvs, rfl, upd_same, fun B hB => lc_gen (n := kvs.length) (fun v H' => H' D = some (.frz od (TD w D kvs)) ∧ (∀ b u, b ≠ D → Hx b = some u → H' b = some u) ∧ ∃ xs ts, H' B = some (.lst xs) ∧ TmL H' xs ts ∧ (∀ t ∈ ts, nf t ∧ t.lv = i + 2) ∧ ts.length ≤ v)
              ⟨?_, fun b u h e => ?_, [], [], upd_same, .nil, fun t h => (nomatch h), Nat.le_refl _⟩ (fun v H' hv ⟨h1, _⟩ => ⟨h1, hv⟩) (fun H' ⟨h1, _⟩ => ⟨h1, Nat.le_refl _⟩) ?_ ?_⟩⟩
            · rw [upd_ne (ne_of_none upd_same hB), upd_same]
            · rw [upd_ne (ne_of_none (hup od _ _ h e) hB)]
              exact hup od _ _ h e
            · rintro v H' z H'' hv ⟨eD', kp, xs, ts, eB, hT, hpt, hlt⟩ ⟨rfl, k, vv, hkv⟩
              obtain ⟨htm, _⟩ := hK.tm _ (List.mem_of_getElem? hkv)
              obtain ⟨k1, k2, k3⟩ := hpr _ (List.mem_of_getElem? hkv)
              have htm' : Tm H'' z k := htm.keep fun b ys e => kp _ _ (ne_of e eD (fun z => nomatch z)) e
              have k2' : k.dp < i + 2 := k2
              have k3' : k.lv ≤ i + 2 := k3
              refine ⟨rfl, ⟨_, rfl, z, k, rfl, htm', by omega, by omega, fun p ws H6 s6 z6 e6 hw => ⟨_, _, rfl, .inl ⟨_, SqL.of e6, rfl⟩, _, rfl, rfl, _, rfl, ?_⟩⟩⟩
              refine ite2 (fun g => ?_) (fun g => ?_)
              · have g' : k.lv = i + 2 := by
                  have := V.int.inj (of_decide_eq_true g)
                  omega
                have sB6 := s6 _ _ eB
                have hBx : Hx B = none := by
                  by_cases e : B = D
                  · rw [e, upd_same] at hB
                    cases hB
                  · rw [upd_ne e] at hB
                    exact hB
                refine ⟨_, rfl, _, sB6, ?_, ?_, fun b u h e => ?_, xs ++ [z], ts ++ [k], upd_same, ?_, fun t ht => ?_, ?_⟩
                · have := hT.len
                  exact big8 (by omega)
                · rw [upd_ne (ne_of (s6 _ _ eD') sB6 (fun z => nomatch z))]
                  exact s6 _ _ eD'
                · rw [upd_ne (ne_of_none e hBx)]
                  exact s6 _ _ (kp _ _ h e)
                · refine TmL.keep (fun b ys e => ?_) (Paired.snoc (hT.same s6) (htm'.same s6))
                  rw [upd_ne (ne_of e sB6 (fun z => nomatch z))]
                  exact e
                · rcases List.mem_append.mp ht with h | h
                  · exact hpt t h
                  · rw [List.mem_singleton.mp h]
                    exact ⟨k1, g'⟩
                · rw [List.length_append, List.length_singleton]
                  omega
              · exact ⟨s6 _ _ eD', fun b u h e => s6 _ _ (kp _ _ h e), xs, ts, s6 _ _ eB, hT.same s6, hpt, by omega⟩
            · rintro H7 ⟨eD7, kp, xs, ts, eB, hT, hpt, hlt⟩
              refine ⟨eD7, ?_⟩
              have nBD : B ≠ D := ne_of eB eD7 (fun z => nomatch z)
              have nFD : F0 ≠ D := ne_of eFx eD (fun z => nomatch z)
              have hBx : Hx B = none := by
                rw [upd_ne nBD] at hB
                exact hB
              have s8 : Same Hx (upd H7 D (TD w D kvs)) := fun b u e => by
                by_cases h : b = D
                · rw [h, upd_same, ← eD, ← h]
                  exact e
                · rw [upd_ne h]
                  exact kp _ _ h e
              have eB8 : (upd H7 D (TD w D kvs)) B = some (.lst xs) := by
                rw [upd_ne nBD]
                exact eB
              have hT8 : TmL (upd H7 D (TD w D kvs)) xs ts := TmL.keep (fun b ys e => by
                rw [upd_ne (ne_of e eD7 (fun z => nomatch z))]
                exact e) hT
              generalize upd H7 D (TD w D kvs) = H8 at *
              have eF8 := s8 _ _ eFx
              have nBF : B ≠ F0 := fun e => by
                rw [e, eFx] at hBx
                cases hBx
              have kpF : ∀ (o : HO) b ys, H8 b = some (.tup ys) → (upd H8 F0 o) b = some (.tup ys) := fun o b ys e => by
                rw [upd_ne (ne_of e eF8 (fun z => nomatch z))]
                exact e
              refine ⟨F0, _, _, rfl, rfl, eF8, by rw [List.length_map]; exact big8 (by omega), same_upd (smb.trans (sx.trans s8)) hF3, ⟨fl ++ [B], by rw [upd_same, List.map_append]; rfl, by rw [List.length_append, hfl]; rfl, fun k a hk => ?_, ?_⟩, _, _, _, _, _, rfl⟩
              · by_cases hkl : k < fl.length
                · rw [List.getElem?_append_left hkl] at hk
                  obtain ⟨q1, q2⟩ := hFL k a hk
                  refine ⟨(q1.same (sx.trans s8)).keep (kpF _) fun xs e => ?_, q2⟩
                  rw [upd_ne q2]
                  exact e
                · rw [List.getElem?_append_right (by omega)] at hk
                  have hk0 : k - fl.length = 0 := by
                    have := (List.getElem?_eq_some_iff.mp hk).1
                    rw [List.length_singleton] at this
                    omega
                  rw [hk0] at hk
                  obtain rfl := Option.some.inj hk
                  have ek : k = i + 2 := by omega
                  subst ek
                  refine ⟨⟨xs, ts, ?_, TmL.keep (kpF _) hT8, hpt, by omega⟩, nBF⟩
                  rw [upd_ne nBF]
                  exact eB8
              · rw [List.getElem?_append_left (by omega)]
                assumption
        · rintro σ H' ⟨sm6, ⟨fl, eF6, hfl, hFL, hkn⟩, y6, y7, y8, y9, y10, rfl⟩
          rw [eL] at hfl
          obtain ⟨a, ha⟩ : ∃ a, fl[L]? = some a := ⟨_, List.getElem?_eq_getElem (by omega)⟩
          obtain ⟨xs, ts, ea, hT, hp, hl⟩ := (hFL _ _ ha).1
          have hb5 := bnd_small L (by omega)
          have hbs : ∃ bs : List It2, xs = bs.map (·.1) ∧ (∀ b ∈ bs, Tm H' b.1 b.2 ∧ nf b.2 ∧ b.2.lv = L) ∧ bs.length ≤ 512 ∧ (L = 1 → bs = ys.map nameT) := by
            by_cases hL : L = 1
            · subst hL
              rw [hkn] at ha
              obtain rfl := Option.some.inj ha
              have e9 := sm6 _ _ ekn3
              rw [ea] at e9
              injection e9 with e9
              injection e9 with e9
              refine ⟨ys.map nameT, by rw [e9, List.map_map]; rfl, fun b hb => ?_, by rw [List.length_map]; omega, fun _ => rfl⟩
              obtain ⟨y, hy, rfl⟩ := List.mem_map.mp hb
              exact ⟨.nm (hok y (hperm.mem_iff.mp hy)), True.intro, rfl⟩
            · obtain ⟨z1, z2, z3⟩ := hT.zip
              refine ⟨xs.zip ts, z1.symm, fun b hb => ⟨z3 b hb, hp _ (z2 ▸ List.mem_map.mpr ⟨b, hb, rfl⟩)⟩, ?_, fun h => absurd h hL⟩
              have := congrArg List.length z2
              rw [List.length_map] at this
              omega
          obtain ⟨bs, rfl, hbp, hbl, hb1⟩ := hbs
          refine ⟨_, rfl, _, rfl, F0, _, _, _, rfl, rfl, SqL.of eF6, atI_nat (j := L) (by rw [List.getElem?_map, ha]; rfl), ?_⟩
          have hpm : (bs.mergeSort (PySem.W.dataLe false kD)).Perm bs := List.mergeSort_perm _ _
          refine ⟨a, bs, rfl, rfl, .inl (SqL.of ea), fun b hb => ?_, fun p H9 s9 _ e9 => ?_⟩
          · obtain ⟨q1, q2, q3⟩ := hbp b hb
            have := b.2.dp_lv
            exact ⟨q1, by omega, by omega⟩
          · refine q p H9 _ ((bs.mergeSort (PySem.W.dataLe false kD)).map (·.2)) (smk3.trans (sm6.trans s9)) e9 (TmL.of fun b hb => ((hbp b (hpm.mem_iff.mp hb)).1).same s9) (fun t ht => ?_) ?_ fun h => ⟨ys, hperm, by rw [hb1 h]⟩
            · obtain ⟨b, hb, rfl⟩ := List.mem_map.mp ht
              exact (hbp b (hpm.mem_iff.mp hb)).2
            · rw [List.length_map, hpm.length_eq]
              omega
end
end TP
/-! W11: _law_row, _law_numbers. -/
namespace TP
open PySem PySem.Spec PyProof.Rows L2
theorem bt_abs : bootBuiltins "abs" = some (.builtin "abs") := by decide +kernel
theorem bt_int : bootBuiltins "int" = some (.type "int") := by decide +kernel
/-- the numbers of a row -/
def Few (ns : List Int) : Prop := ∀ n ∈ ns, 0 ≤ n ∧ n < 1009
theorem Few.snoc {ns : List Int} {n : Int} (h : Few ns) (h1 : 0 ≤ n) (h2 : n < 1009) : Few (ns ++ [n]) := fun m hm => by
  rcases List.mem_append.mp hm with q | q
  · exact h m q
  · rw [List.mem_singleton.mp q]
    exact ⟨h1, h2⟩
theorem mod1009 (i : Int) : 0 ≤ i % 1009 ∧ i % 1009 < 1009 := ⟨Int.emod_nonneg _ (by decide), Int.emod_lt_of_pos _ (by decide)⟩
abbrev nRow : List Str := ["_law_cell", "_law_many", "_law_row_here", "_law_rest", "_law_mixed", "_law_k"]
abbrev nNums : List Str := ["_law_script", "_law_many", "_law_cells", "_law_each", "_law_numbers_here", "_law_cell", "_law_number"]
section
variable {P : Program} {w : World} {K : PySem.W.Frag} {mg : Str → Option Value} {base : Heap}
def spRow : Sp := fun vs H Q _ => ∃ (c : Int) (m : Nat), vs = [.int c, .int m] ∧ m ≤ 100 ∧ ∀ p ns H', Same H H' → H p = none → H' p = some (.lst (ns.map V.int)) → ns.length = m → Few ns → Q (.ref p) H'
theorem scRow : FnScope nRow ["_law_cell", "_law_many"] (defScope sLRow) := ⟨rfl, rfl, rfl, by decide +kernel, rfl, by decide +kernel, by decide +kernel⟩
theorem ok_row {f : Addr} {fd : FuncData} (F : Fun K "_law_row" "_law_row" sLRow f fd) (M : Txt K mg) : FnOk P w K mg base CX0 1 f fd ["_law_cell", "_law_many"] spRow := by
  refine F.ok scRow (fun vs H Q E h => ?_) (fun cdv A outer s H vs Q E hr h => ?_)
  · obtain ⟨c, m, rfl, _⟩ := h
    rfl
  · obtain ⟨c, m, rfl, hm, q⟩ := h
    refine ⟨_, pss_cons (ps_set (i := 2) scRow.nd rfl (.inl rfl) (pe_lst pa_nil))
      (pss_cons (ps_set (i := 3) scRow.nd rfl (.inl rfl) (pe_callB call_abs (by rfl) M.ab bt_abs (pa_cons (pv 0) pa_nil)))
      (pss_cons (ps_set (i := 4) scRow.nd rfl (.inl rfl) (pe_op op_mod (pe_callTy call_int1 (by rfl) M.int bt_int (pa_cons (pe_op op_add (pe_op op_mul (pv 3) pe_int) pe_int) pa_nil)) pe_int))
      (pss_cons (ps_for PassesOwn.never rfl (pi_range1 (by rfl) M.rng (pa_cons (pv 1) pa_nil)) (pg_name (i := 5) scRow.nd rfl (.inl rfl))
        (pss_cons (ps_set (i := 4) scRow.nd rfl (.inl rfl) (pe_op op_mod (pe_callTy call_int1 (by rfl) M.int bt_int (pa_cons (pe_op op_add (pe_op op_mul (pv 4) pe_int) (pe_op op_mul pe_int (pe_op op_add (pv 5) pe_int))) pa_nil)) pe_int))
        (pss_one (ps_if (pt_cmpR op_ge (pe_callB call_abs (by rfl) M.ab bt_abs (pa_cons (pv 0) pa_nil)) (pe_op op_pow pe_int pe_int) (nomark _))
          (pss_cons (ps_expr (pe_bm PySem.F.plainAttrs_list PySem.F.slot_list_append PySem.F.type_list_append mt_append (pv 2) (pa_cons (pe_op op_mod (pe_callTy call_int1 (by rfl) M.int bt_int (pa_cons (pv 3) pa_nil)) pe_int) pa_nil)))
            (pss_one (ps_set (i := 3) scRow.nd rfl (.inl rfl) (pe_op op_fdiv (pv 3) pe_int))))
          (pss_one (ps_expr (pe_bm PySem.F.plainAttrs_list PySem.F.slot_list_append PySem.F.type_list_append mt_append (pv 2) (pa_cons (pe_op op_mod (pe_callTy call_int1 (by rfl) M.int bt_int (pa_cons (pe_op op_fdiv (pv 4) pe_int) pa_nil)) pe_int) pa_nil))))))))
      (pss_one (ps_ret (pv 2)))))), ?_⟩
    refine ⟨(by show 0 ≤ sizeLine; decide), fun p hp => ?_⟩
    refine ⟨_, rfl, c, rfl, ?_⟩
    generalize (if c < 0 then -c else c) = r0
    refine ⟨_, rfl, r0, 48271, rfl, rfl, .inr ⟨by decide, by decide⟩, _, 69621, rfl, rfl, .inl ⟨_, rfl, _, 2147483647, rfl, rfl, (show (0 : Int) < 2147483647 by decide), ?_⟩⟩
    refine ⟨_, rfl, (m : Int), rfl, by omega, by omega, for_range (lo := 0) (n := ((m : Int)).toNat) (fun i σ H' => Same H H' ∧ (∃ ns : List Int, H' p = some (.lst (ns.map V.int)) ∧ ns.length = i ∧ Few ns) ∧ ∃ (r x : Int) (y5 : Option V), σ = [some (.int c), some (.int m), some (.ref p), some (.int r), some (.int x), y5])
      ⟨same_new hp, ⟨[], upd_same, rfl, (fun n h => nomatch h)⟩, _, _, _, rfl⟩ ?_ ?_⟩
    · rintro i σ H' hi ⟨sm, ⟨ns, ep, hl, hf⟩, r, x, y5, rfl⟩
      have hi' : i < 100 := by omega
      refine ⟨_, rfl, x, 16807, rfl, rfl, .inr ⟨by decide, by decide⟩, _, rfl, _, 3, rfl, rfl, 271, _, rfl, rfl, .inl ⟨by decide, by decide⟩, _, _, rfl, rfl, .inl ⟨_, rfl, _, 2147483629, rfl, rfl, (show (0 : Int) < 2147483629 by decide), ?_⟩⟩
      refine ⟨_, rfl, c, rfl, 10, 18, rfl, rfl, ⟨by decide, by decide, by decide⟩, _, _, rfl, rfl, _, rfl, ite2 (fun g => ?_) (fun g => ?_)⟩
      · refine ⟨_, rfl, .inl ⟨rfl, _, SqL.of ep⟩, _, rfl, .inl ⟨_, rfl, _, 1009, rfl, rfl, (show (0 : Int) < 1009 by decide), p, _, _, rfl, rfl, ep, by rw [List.length_map]; exact big8 (by omega), ?_⟩⟩
        refine ⟨_, rfl, _, 1009, rfl, rfl, ⟨by decide, by decide⟩, same_upd sm hp, ⟨ns ++ [r % 1009], by rw [upd_same, List.map_append]; rfl, by rw [List.length_append, hl]; rfl, hf.snoc (mod1009 _).1 (mod1009 _).2⟩, _, _, _, rfl⟩
      · refine ⟨_, rfl, .inl ⟨rfl, _, SqL.of ep⟩, _, rfl, _, 7, rfl, rfl, ⟨by decide, by decide⟩, .inl ⟨_, rfl, _, 1009, rfl, rfl, (show (0 : Int) < 1009 by decide), p, _, _, rfl, rfl, ep, by rw [List.length_map]; exact big8 (by omega), ?_⟩⟩
        exact ⟨same_upd sm hp, ⟨ns ++ [_], by rw [upd_same, List.map_append]; rfl, by rw [List.length_append, hl]; rfl, hf.snoc (mod1009 _).1 (mod1009 _).2⟩, _, _, _, rfl⟩
    · rintro σ H' ⟨sm, ⟨ns, ep, hl, hf⟩, r, x, y5, rfl⟩
      exact ⟨_, rfl, q p ns H' sm hp ep (by omega) hf⟩
def spNums (K : PySem.W.Frag) : Sp := fun vs H Q _ => ∃ (a : Addr) (cs : List Int), vs = [.ref a, .int 80] ∧ SqL K H a (cs.map V.int) ∧ cs.length ≤ 63 ∧ ∀ p ns H', H' p = some (.lst (ns.map V.int)) → ns.length = 80 → Few ns → Q (.ref p) H'
theorem scNums : FnScope nNums ["_law_script", "_law_many"] (defScope sLNumbers) := ⟨rfl, rfl, rfl, by decide +kernel, rfl, by decide +kernel, by decide +kernel⟩
theorem ok_nums {f : Addr} {fd : FuncData} (F : Fun K "_law_numbers" "_law_numbers" sLNumbers f fd) (M : Txt K mg) (GR : Fn P w K mg base 1 "_law_row" ["_law_cell", "_law_many"] spRow) : FnOk P w K mg base CX0 2 f fd ["_law_script", "_law_many"] (spNums K) := by
  refine F.ok scNums (fun vs H Q E h => ?_) (fun cdv A outer s H vs Q E hr h => ?_)
  · obtain ⟨a, cs, rfl, _⟩ := h
    rfl
  · obtain ⟨a, cs, rfl, hs, hc, q⟩ := h
    refine ⟨_, pss_cons (ps_set (i := 2) scNums.nd rfl (.inl rfl) (pe_slice sl_list (pv 0) po_none (po_some pe_int)))
      (pss_cons (ps_set (i := 3) scNums.nd rfl (.inl rfl) (pe_op op_add pe_int (pe_op op_fdiv (pv 1) (pe_callB (call_max2 rfl) (by rfl) M.ma bt_max (pa_cons pe_int (pa_cons (pe_callB call_len (by rfl) M.len PySem.boot_len (pa_cons (pv 2) pa_nil)) pa_nil))))))
      (pss_cons (ps_set (i := 4) scNums.nd rfl (.inl rfl) (pe_lst pa_nil))
      (pss_cons (ps_for PassesOwn.never rfl (pi_list (pv 2)) (pg_name (i := 5) scNums.nd rfl (.inl rfl))
        (pss_one (ps_for PassesOwn.never rfl (pi_list (pe_fn GR hr (by decide) (pa_cons (pv 5) (pa_cons (pv 3) pa_nil)) (by rfl))) (pg_name (i := 6) scNums.nd rfl (.inl rfl))
          (pss_one (ps_expr (pe_bm PySem.F.plainAttrs_list PySem.F.slot_list_append PySem.F.type_list_append mt_append (pv 4) (pa_cons (pv 6) pa_nil)))))))
      (pss_cons (ps_while PassesOwn.never (pt_cmpR op_lt (pe_callB call_len (by rfl) M.len PySem.boot_len (pa_cons (pv 4) pa_nil)) (pv 1) (nomark _))
        (pss_one (ps_expr (pe_bm PySem.F.plainAttrs_list PySem.F.slot_list_append PySem.F.type_list_append mt_append (pv 4) (pa_cons pe_int pa_nil)))))
      (pss_one (ps_ret (pe_slice sl_list (pv 4) po_none (po_some (pv 1))))))))), ?_⟩
    refine ⟨_, rfl, 63, rfl, a, _, rfl, hs, fun b hb => ?_⟩
    obtain ⟨ds, hds, hdl⟩ : ∃ ds : List Int, cutV (cs.map V.int) none (some 63) = ds.map V.int ∧ ds.length ≤ 63 := by
      unfold cutV
      refine ⟨_, by rw [← List.map_drop, ← List.map_take], ?_⟩
      rw [List.length_take, List.length_drop]
      omega
    rw [hds]
    have eB := upd_same (H := H) (a := b) (o := .lst (ds.map V.int))
    generalize upd H b (.lst (ds.map V.int)) = H1 at *
    clear hb hds
    have hmx : ∀ n : Nat, n ≤ 63 → 0 < (if (n : Int) > 1 then (n : Int) else 1) ∧ (if (n : Int) > 1 then (n : Int) else 1) ≤ 63 := fun n h => by
      split <;> omega
    have hm := hmx (ds.map V.int).length (by rw [List.length_map]; exact hdl)
    refine ⟨_, rfl, _, rfl, _, _, rfl, .inl ⟨_, SqL.of eB, rfl⟩, 1, _, rfl, 80, _, rfl, rfl, ⟨by omega, by omega⟩, 1, _, rfl, rfl, ?_⟩
    generalize (if ((ds.map V.int).length : Int) > 1 then ((ds.map V.int).length : Int) else 1) = mx at *
    obtain ⟨each, hea, he1⟩ : ∃ e : Nat, 1 + (80 : Int) / mx = (e : Int) ∧ e ≤ 81 := by
      have h1 : (0 : Int) ≤ 80 / mx := Int.ediv_nonneg (by decide) (by omega)
      have h2 : (80 : Int) / mx ≤ 80 := Int.ediv_le_self _ (by decide)
      exact ⟨(1 + 80 / mx).toNat, by omega, by omega⟩
    change gName 3 (V.int (1 + 80 / mx)) _ _ _
    rw [hea]
    refine ⟨(by show 0 ≤ sizeLine; decide), fun p hp => ?_⟩
    have eB2 : (upd H1 p (.lst [])) b = some (.lst (ds.map V.int)) := same_new hp _ _ eB
    have eP := upd_same (H := H1) (a := p) (o := .lst [])
    have hpb : p ≠ b := fun e => by
      rw [e, eB] at hp
      cases hp
    generalize upd H1 p (.lst []) = H2 at *
    refine ⟨_, rfl, b, rfl, ⟨_, SqL.of eB2⟩, for_list (K := K) (a := b) (xs := ds.map V.int) (fun i σ H' => H' b = some (.lst (ds.map V.int)) ∧ (∃ ns : List Int, H' p = some (.lst (ns.map V.int)) ∧ ns.length = i * each ∧ Few ns) ∧ ∃ y5 y6, σ = [some (.ref a), some (.int 80), some (.ref b), some (.int (each : Int)), some (.ref p), y5, y6])
      ⟨eB2, ⟨[], eP, by rw [Nat.zero_mul]; rfl, (fun n h => nomatch h)⟩, _, _, rfl⟩ (fun i σ H' _ ⟨s, _⟩ => SqL.of s) ?_ ?_⟩
    · rintro i z σ H' hz ⟨eb, ⟨ns, ep, hl, hf⟩, y5, y6, rfl⟩
      rw [List.getElem?_map] at hz
      obtain ⟨c, hc2, rfl⟩ := Option.map_eq_some_iff.mp hz
      have hi : i < ds.length := (List.getElem?_eq_some_iff.mp hc2).1
      have hi2 : i * each ≤ 63 * 81 := Nat.mul_le_mul (by omega) he1
      refine ⟨_, rfl, _, rfl, c, each, rfl, by omega, fun p' ms H3 s3 np' ep' hms hfm => ?_⟩
      have npp : p' ≠ p := fun e => by
        rw [e, ep] at np'
        cases np'
      have npb : p' ≠ b := fun e => by
        rw [e, eb] at np'
        cases np'
      have ep3 := s3 _ _ ep
      have eb3 := s3 _ _ eb
      refine ⟨p', rfl, ⟨_, SqL.of ep'⟩, for_list (K := K) (a := p') (xs := ms.map V.int) (fun j σ H' => H' b = some (.lst (ds.map V.int)) ∧ H' p' = some (.lst (ms.map V.int)) ∧ (∃ ns : List Int, H' p = some (.lst (ns.map V.int)) ∧ ns.length = i * each + j ∧ Few ns) ∧ ∃ y6, σ = [some (.ref a), some (.int 80), some (.ref b), some (.int (each : Int)), some (.ref p), some (.int c), y6])
        ⟨eb3, ep', ⟨ns, ep3, hl, hf⟩, _, rfl⟩ (fun j σ H' _ ⟨_, s, _⟩ => SqL.of s) ?_ ?_⟩
      · rintro j z σ H' hz' ⟨eb4, ep4, ⟨ns4, en4, hl4, hf4⟩, y6, rfl⟩
        rw [List.getElem?_map] at hz'
        obtain ⟨m, hm', rfl⟩ := Option.map_eq_some_iff.mp hz'
        have hj : j < ms.length := (List.getElem?_eq_some_iff.mp hm').1
        have hm2 := hfm m (List.mem_of_getElem? hm')
        refine ⟨_, rfl, .inl ⟨rfl, _, SqL.of en4⟩, _, rfl, p, _, _, rfl, rfl, en4, by rw [List.length_map]; exact big8 (by omega), ?_⟩
        refine ⟨by rw [upd_ne hpb.symm]; exact eb4, by rw [upd_ne npp]; exact ep4, ⟨ns4 ++ [m], by rw [upd_same, List.map_append]; rfl, by rw [List.length_append, hl4]; rfl, hf4.snoc hm2.1 hm2.2⟩, _, rfl⟩
      · rintro σ H' ⟨eb4, ep4, ⟨ns4, en4, hl4, hf4⟩, y6, rfl⟩
        rw [List.length_map] at hl4
        exact ⟨eb4, ⟨ns4, en4, by rw [hl4, hms, Nat.succ_mul], hf4⟩, _, _, rfl⟩
    · rintro σ H' ⟨eb, ⟨ns, ep, hl, hf⟩, y5, y6, rfl⟩
      rw [List.length_map] at hl
      have hi2 : ds.length * each ≤ 63 * 81 := Nat.mul_le_mul hdl he1
      refine ⟨fun n σ H' => ∃ ns : List Int, H' p = some (.lst (ns.map V.int)) ∧ ns.length ≤ 6000 ∧ Few ns ∧ n = 80 - ns.length ∧ σ = [some (.ref a), some (.int 80), some (.ref b), some (.int (each : Int)), some (.ref p), y5, y6], ⟨_, ns, ep, by omega, hf, rfl, rfl⟩, ?_⟩
      rintro n σ H'' ⟨ns2, ep2, hl2, hf2, rfl, rfl⟩
      refine ⟨_, rfl, _, _, rfl, .inl ⟨_, SqL.of ep2, rfl⟩, _, rfl, _, _, rfl, rfl, _, rfl, ite2 (fun g => ?_) (fun g => ?_)⟩
      · have g' := of_decide_eq_true g
        rw [List.length_map] at g'
        refine ⟨fun σ' H' => ∃ ns' : List Int, H' p = some (.lst (ns'.map V.int)) ∧ ns'.length = ns2.length + 1 ∧ Few ns' ∧ σ' = [some (.ref a), some (.int 80), some (.ref b), some (.int (each : Int)), some (.ref p), y5, y6], fun σ' H' ⟨ns', e1, e2, e3, e4⟩ => ⟨_, ?_, ns', e1, by omega, e3, rfl, e4⟩, ?_⟩
        · omega
        · refine ⟨_, rfl, .inl ⟨rfl, _, SqL.of ep2⟩, p, _, _, rfl, rfl, ep2, by rw [List.length_map]; exact big8 (by omega), ns2 ++ [0], by rw [upd_same, List.map_append]; rfl, by rw [List.length_append]; rfl, hf2.snoc (by decide) (by decide), rfl⟩
      · have g' : ¬ ((ns2.map V.int).length : Int) < 80 := fun e => g (decide_eq_true e)
        rw [List.length_map] at g'
        obtain ⟨es, hes, hel, hfe⟩ : ∃ es : List Int, cutV (ns2.map V.int) none (some 80) = es.map V.int ∧ es.length = 80 ∧ Few es := by
          unfold cutV
          refine ⟨_, by rw [← List.map_drop, ← List.map_take], ?_, fun n hn => hf2 n (List.mem_of_mem_drop (List.mem_of_mem_take hn))⟩
          have h1 : HT.sIx (ns2.map V.int).length 0 none = 0 := rfl
          have h2 : HT.sIx (ns2.map V.int).length (ns2.map V.int).length (some 80) = 80 := by
            rw [List.length_map]
            have := HT.sIx_nat ns2.length ns2.length 80
            rw [Nat.min_eq_left (by omega)] at this
            exact this
          rw [h1, h2, List.length_take, List.length_drop]
          omega
        refine ⟨_, rfl, _, rfl, 80, rfl, p, _, rfl, SqL.of ep2, fun p9 hp9 => ?_⟩
        rw [hes]
        exact q p9 es _ upd_same hel hfe
end
end TP
/-! W12: _law_names, _law_word. -/
namespace TP
open PySem PySem.Spec PyProof.Rows L2
/-! ### texts -/
def OkS (y : Str) (n : Nat) : Prop := y.cps.toList.length = n ∧ ∀ c ∈ y.cps.toList, okC c
theorem str_app (a b : Str) : (a ++ b).cps.toList = a.cps.toList ++ b.cps.toList := by
  show (a.cps ++ b.cps).toList = _
  exact Array.toList_append
theorem OkS.app {a b : Str} {m n : Nat} (h : OkS a m) (k : OkS b n) : OkS (a ++ b) (m + n) := by
  unfold OkS
  rw [str_app]
  exact ⟨by rw [List.length_append, h.1, k.1], fun c hc => (List.mem_append.mp hc).elim (h.2 c) (k.2 c)⟩
theorem OkS.one {c : Nat} (h : okC c) : OkS ⟨#[c]⟩ 1 := ⟨rfl, fun d hd => by
  have : d ∈ [c] := hd
  rw [List.mem_singleton.mp this]
  exact h⟩
theorem OkS.len {y : Str} {n : Nat} (h : OkS y n) : y.length = n := by
  show y.cps.size = n
  rw [← Array.length_toList]
  exact h.1
theorem OkS.lo {y : Str} {n s : Nat} (h : OkS y n) (hs : s ≤ n) : OkS (cutS y none (some (s : Int))) s := by
  have h1 : HT.sIx y.length 0 none = 0 := rfl
  have h2 : HT.sIx y.length y.length (some (s : Int)) = s := by
    rw [HT.sIx_nat, h.len]
    omega
  unfold cutS OkS
  rw [h1, h2]
  refine ⟨?_, fun c hc => h.2 c ?_⟩
  · have := h.1
    simp only [List.drop_zero, List.length_take]
    omega
  · have hc' : c ∈ List.take (s - 0) (List.drop 0 y.cps.toList) := hc
    exact List.mem_of_mem_drop (List.mem_of_mem_take hc')
theorem OkS.hi {y : Str} {n s : Nat} (h : OkS y n) (hs : s ≤ n) : OkS (cutS y (some (s : Int)) none) (n - s) := by
  have h1 : HT.sIx y.length 0 (some (s : Int)) = s := by
    rw [HT.sIx_nat, h.len]
    omega
  have h2 : HT.sIx y.length y.length none = y.length := rfl
  unfold cutS OkS
  rw [h1, h2, h.len]
  refine ⟨?_, fun c hc => h.2 c ?_⟩
  · have := h.1
    simp only [List.length_take, List.length_drop]
    omega
  · have hc' : c ∈ List.take (n - s) (List.drop s y.cps.toList) := hc
    exact List.mem_of_mem_drop (List.mem_of_mem_take hc')
theorem OkS.rest {y : Str} {n : Nat} (h : OkS y n) (hn : n ≤ 10) : ∃ m, m ≤ 10 ∧ OkS (cutS y (some 1) none) m := by
  by_cases h1 : 1 ≤ n
  · exact ⟨n - 1, by omega, h.hi (s := 1) h1⟩
  · refine ⟨0, by omega, ?_⟩
    have e : y.cps.toList = [] := List.eq_nil_of_length_eq_zero (by rw [h.1]; omega)
    unfold cutS OkS
    rw [e]
    simp
theorem OkS.join {e : Str} (he : TL.tl e = []) : ∀ {ys : List Str}, (∀ y ∈ ys, OkS y 1) → OkS (Txt.join e ys) ys.length := by
  have key : ∀ l : List Str, (∀ y ∈ l, OkS y 1) → (TL.joinL [] (l.map TL.tl)).length = l.length ∧ ∀ c ∈ TL.joinL [] (l.map TL.tl), okC c := by
    intro l
    induction l with
    | nil => exact fun _ => ⟨rfl, fun c hc => by cases hc⟩
    | cons y l ih =>
      intro h
      have h1 := h y List.mem_cons_self
      have h2 := ih fun z hz => h z (List.mem_cons_of_mem _ hz)
      cases l with
      | nil => exact ⟨h1.1, h1.2⟩
      | cons z l =>
        show (TL.tl y ++ ([] ++ TL.joinL [] ((z :: l).map TL.tl))).length = (z :: l).length + 1 ∧ ∀ c ∈ TL.tl y ++ ([] ++ TL.joinL [] ((z :: l).map TL.tl)), okC c
        rw [List.nil_append, List.length_append, h2.1]
        refine ⟨?_, fun c hc => (List.mem_append.mp hc).elim (h1.2 c) (h2.2 c)⟩
        have : (TL.tl y).length = 1 := h1.1
        omega
  intro ys h
  have k := key ys h
  rw [← he, ← TL.tl_join, ← TL.join_eq] at k
  exact k
def letC (i : Nat) : Nat := if i < 26 then 97 + i else 22 + i
theorem let_at : ∀ i < 36, nameS.cps.toList[i]? = some (letC i) ∧ okC (letC i) := by
  unfold okC
  decide +kernel
theorem let36 (x : Int) : ∃ c, atI nameS.cps.toList (x % 36) = some c ∧ okC c := by
  have h1 := Int.emod_nonneg x (show (36 : Int) ≠ 0 by decide)
  have h2 := Int.emod_lt_of_pos x (show (0 : Int) < 36 by decide)
  obtain ⟨k, hk⟩ : ∃ k : Nat, x % 36 = (k : Int) := ⟨(x % 36).toNat, by omega⟩
  rw [hk]
  have h := let_at k (by omega)
  exact ⟨_, atI_nat h.1, h.2⟩
theorem let26 (x : Nat) : atI nameS.cps.toList ((x : Int) % 26) = some (97 + x % 26) := by
  have e : (x : Int) % 26 = ((x % 26 : Nat) : Int) := by omega
  rw [e]
  have h := let_at (x % 26) (by omega)
  have e2 : letC (x % 26) = 97 + x % 26 := by
    unfold letC
    rw [if_pos (by omega)]
  rw [e2] at h
  exact atI_nat h.1
/-- the names made so far -/
def NamesAre (n : Nat) (ns : List Str) : Prop := ∀ (j : Nat) (y : Str), ns[j]? = some y → okN y ∧ ∃ r, y.cps.toList = (97 + (n + 3 * j) % 26) :: r
theorem NamesAre.nodup {n : Nat} {ns : List Str} (h : NamesAre n ns) (hl : ns.length ≤ 4) : ns.Nodup := by
  refine List.pairwise_iff_getElem.mpr fun i j hi hj hij e => ?_
  obtain ⟨_, r1, e1⟩ := h i _ (List.getElem?_eq_getElem hi)
  obtain ⟨_, r2, e2⟩ := h j _ (List.getElem?_eq_getElem hj)
  rw [← e, e1] at e2
  injection e2 with e2 _
  omega
theorem OkS.name {c d m s : Nat} {o : Str} (h : OkS o m) (hm : m ≤ 10) (hs : s ≤ m) (hd : okC d) (h1 : 97 ≤ c) (h2 : c ≤ 122) : okN ((((⟨#[c]⟩ : Str) ++ cutS o none (some (s : Int))) ++ (⟨#[d]⟩ : Str)) ++ cutS o (some (s : Int)) none) ∧ ∃ r, ((((⟨#[c]⟩ : Str) ++ cutS o none (some (s : Int))) ++ (⟨#[d]⟩ : Str)) ++ cutS o (some (s : Int)) none).cps.toList = c :: r := by
  have hc : okC c := .inr ⟨h1, h2⟩
  have k := (((OkS.one hc).app (h.lo hs)).app (OkS.one hd)).app (h.hi hs)
  have e : ∃ r, ((((⟨#[c]⟩ : Str) ++ cutS o none (some (s : Int))) ++ (⟨#[d]⟩ : Str)) ++ cutS o (some (s : Int)) none).cps.toList = c :: r := by
    rw [str_app, str_app, str_app]
    exact ⟨_, rfl⟩
  obtain ⟨r, e⟩ := e
  refine ⟨⟨?_, ⟨c, r, e, h1, h2⟩, k.2⟩, r, e⟩
  rw [← Array.length_toList, k.1]
  omega
def c36 (x : Int) : Nat := (atI nameS.cps.toList (x % 36)).getD 0
theorem c36_at (x : Int) : atI nameS.cps.toList (x % 36) = some (c36 x) ∧ okC (c36 x) := by
  obtain ⟨c, h1, h2⟩ := let36 x
  unfold c36
  rw [h1]
  exact ⟨rfl, h2⟩
theorem sum_ones : ∀ {ys : List Str}, (∀ y ∈ ys, OkS y 1) → (ys.map (·.length)).sum = ys.length
  | [], _ => rfl
  | y :: ys, h => by
    rw [List.map_cons, List.sum_cons, sum_ones fun z hz => h z (List.mem_cons_of_mem _ hz), (h y List.mem_cons_self).len, List.length_cons]
    omega
abbrev nNames : List Str := ["_law_number", "_law_many", "_law_letters", "_law_size", "_law_k", "_law_rest", "_law_place", "_law_names_here", "_law_own", "_law_spot", "_law_step", "_law_first"]
section
variable {P : Program} {w : World} {K : PySem.W.Frag} {mg : Str → Option Value} {base : Heap}
def spNames : Sp := fun vs H Q _ => ∃ (n m : Nat), vs = [.int n, .int m] ∧ n ≤ 1008 ∧ m ≤ 4 ∧ ∀ (p : Addr) (ns : List Str) (H' : Hp), Same H H' → H' p = some (.lst (ns.map V.str)) → ns.length = m → (∀ y ∈ ns, okN y) → ns.Nodup → Q (.ref p) H'
theorem scNames : FnScope nNames ["_law_number", "_law_many"] (defScope sLNames) := ⟨rfl, rfl, rfl, by decide +kernel, rfl, by decide +kernel, by decide +kernel⟩
theorem ok_names {f : Addr} {fd : FuncData} (F : Fun K "_law_names" "_law_names" sLNames f fd) (M : Txt K mg) : FnOk P w K mg base CX0 1 f fd ["_law_number", "_law_many"] spNames := by
  refine F.ok scNames (fun vs H Q E h => ?_) (fun cdv A outer s H vs Q E hr h => ?_)
  · obtain ⟨n, m, rfl, _⟩ := h
    rfl
  · obtain ⟨n, m, rfl, hn, hm, q⟩ := h
    refine ⟨_, pss_cons (ps_set (i := 2) scNames.nd rfl (.inr rfl) pe_str)
      (pss_cons (ps_set (i := 3) scNames.nd rfl (.inl rfl) (pe_op op_mod (pe_callTy call_int1 (by rfl) M.int bt_int (pa_cons (pv 0) pa_nil)) pe_int))
      (pss_cons (ps_set (i := 5) scNames.nd rfl (.inl rfl) (pe_join pe_str (pe_lc (own := [("_law_k", 4)]) (g := gName 4) (tt := tYes) rfl scNames.nd (pi_range1 (by rfl) M.rng (pa_cons (pv 3) pa_nil)) (blkOk_by (own := [("_law_k", 4)]) (N := nNames) (sc := defScope sLNames) (by decide +kernel))
        (fun _ _ _ _ _ => pg_name (i := 4) scNames.nd rfl (Or.inl rfl)) (fun _ _ _ _ _ => pts_nil) (fun _ _ _ _ _ => pe_ix ix_str (pv 2) (pe_op op_mod (pe_callTy call_int1 (by rfl) M.int bt_int (pa_cons (pe_op op_add (pv 0) (pe_op op_mul (pe_op op_mul pe_int (pv 4)) (pv 4))) pa_nil)) pe_int) (fun _ _ => rfl)))))
      (pss_cons (ps_set (i := 6) scNames.nd rfl (.inl rfl) (pe_op op_mod (pe_callTy call_int1 (by rfl) M.int bt_int (pa_cons (pe_op op_fdiv (pv 0) pe_int) pa_nil)) (pe_op op_add (pv 3) pe_int)))
      (pss_cons (ps_set (i := 7) scNames.nd rfl (.inl rfl) (pe_lst pa_nil))
      (pss_cons (ps_for PassesOwn.never rfl (pi_range1 (by rfl) M.rng (pa_cons (pv 1) pa_nil)) (pg_name (i := 4) scNames.nd rfl (.inl rfl))
        (pss_cons (ps_set (i := 8) scNames.nd rfl (.inl rfl) (pv 5))
        (pss_cons (ps_if (pt_cmpR op_eq (pe_op op_mod (pe_callTy call_int1 (by rfl) M.int bt_int (pa_cons (pe_op op_add (pe_op op_fdiv (pv 0) pe_int) (pv 4)) pa_nil)) pe_int) pe_int (nomark _)) (pss_one (ps_set (i := 8) scNames.nd rfl (.inl rfl) (pe_slice sl_str (pv 5) (po_some pe_int) po_none))) pss_nil)
        (pss_cons (ps_set (i := 9) scNames.nd rfl (.inl rfl) (pe_callB (call_min2 rfl) (by rfl) M.mi bt_min (pa_cons (pv 6) (pa_cons (pe_callB call_len (by rfl) M.len PySem.boot_len (pa_cons (pv 8) pa_nil)) pa_nil))))
        (pss_cons (ps_set (i := 10) scNames.nd rfl (.inl rfl) pe_int)
        (pss_cons (ps_if (pt_cmpR op_eq (pe_op op_mod (pe_callTy call_int1 (by rfl) M.int bt_int (pa_cons (pe_op op_fdiv (pv 0) pe_int) pa_nil)) pe_int) pe_int (nomark _)) (pss_one (ps_set (i := 10) scNames.nd rfl (.inl rfl) pe_int)) pss_nil)
        (pss_cons (ps_set (i := 11) scNames.nd rfl (.inl rfl) (pe_op op_add_str (pe_ix ix_str (pv 2) (pe_op op_mod (pe_callTy call_int1 (by rfl) M.int bt_int (pa_cons (pe_op op_add (pv 0) (pe_op op_mul pe_int (pv 4))) pa_nil)) pe_int) (fun _ _ => rfl)) (pe_slice sl_str (pv 8) po_none (po_some (pv 9)))))
        (pss_one (ps_expr (pe_bm PySem.F.plainAttrs_list PySem.F.slot_list_append PySem.F.type_list_append mt_append (pv 7) (pa_cons
          (pe_op op_add_str (pe_op op_add_str (pv 11) (pe_ix ix_str (pv 2) (pe_op op_mod (pe_callTy call_int1 (by rfl) M.int bt_int (pa_cons (pe_op op_add (pv 0) (pe_op op_mul (pv 10) (pv 4))) pa_nil)) pe_int) (fun _ _ => rfl))) (pe_slice sl_str (pv 8) (po_some (pv 9)) po_none)) pa_nil)))))))))))
      (pss_one (ps_ret (pv 7)))))))), ?_⟩
    refine ⟨_, rfl, .inl ⟨_, rfl, _, 11, rfl, rfl, (show (0 : Int) < 11 by decide), ?_⟩⟩
    obtain ⟨sz, hsz, hs10⟩ : ∃ k : Nat, (n : Int) % 11 = (k : Int) ∧ k ≤ 10 := ⟨n % 11, by omega, by omega⟩
    change gName 3 (V.int ((n : Int) % 11)) _ _ _
    rw [hsz]
    refine ⟨⟨_, rfl⟩, _, rfl, (sz : Int), rfl, by omega, by omega, fun B hB => lc_range (lo := 0) (n := ((sz : Int)).toNat) (fun j H2 => Same H H2 ∧ ∃ ys : List Str, H2 B = some (.lst (ys.map V.str)) ∧ ys.length = j ∧ ∀ y ∈ ys, OkS y 1)
      ⟨same_new hB, [], upd_same, rfl, (fun y hy => nomatch hy)⟩ ?_ ?_⟩
    · rintro j H2 hj ⟨s2, ys, eB, hl, hy⟩
      obtain ⟨c, hc, hok⟩ := let36 ((n : Int) + 7 * (0 + (j : Int)) * (0 + (j : Int)))
      refine ⟨rfl, ⟨_, rfl, _, rfl, _, rfl, 7, _, rfl, rfl, .inl ⟨by decide, by decide⟩, _, rfl, _, _, rfl, rfl, .inl ⟨by omega, by omega⟩, (n : Int), _, rfl, rfl, .inl ⟨_, rfl, _, 36, rfl, rfl, (show (0 : Int) < 36 by decide), nameS, _, c, rfl, rfl, (by decide +kernel), hc, _, eB, by rw [List.length_map]; exact big8 (by omega), ?_⟩⟩⟩
      refine ⟨same_upd s2 hB, ys ++ [⟨#[c]⟩], by rw [upd_same, List.map_append]; rfl, by rw [List.length_append, hl]; rfl, fun y h => ?_⟩
      rcases List.mem_append.mp h with q1 | q1
      · exact hy y q1
      · rw [List.mem_singleton.mp q1]
        exact OkS.one hok
    · rintro H2 ⟨s2, ys, eB, hl, hy⟩
      have hys : ys.length = sz := by omega
      have hj := OkS.join (e := Str.ofString "") (by decide +kernel) hy
      refine ⟨_, B, ys, rfl, rfl, .inl (SqL.of eB), ?_, ?_⟩
      · have := sum_ones hy
        show _ + ys.length * 0 ≤ _
        omega
      rw [hys] at hj
      generalize Txt.join (Str.ofString "") ys = rest at *
      clear hy eB hB hl hys
      obtain ⟨pl, hpl⟩ : ∃ k : Nat, ((n : Int) / 11) % ((sz : Int) + 1) = (k : Int) := ⟨_, (Int.toNat_of_nonneg (Int.emod_nonneg _ (by omega))).symm⟩
      refine ⟨_, rfl, (n : Int), 11, rfl, rfl, ⟨by decide, by decide⟩, .inl ⟨_, rfl, _, rfl, _, 1, rfl, rfl, _, _, rfl, rfl, (show (0 : Int) < (sz : Int) + 1 by omega), ?_⟩⟩
      change gName 6 (V.int (((n : Int) / 11) % ((sz : Int) + 1))) _ _ _
      rw [hpl]
      refine ⟨(by show 0 ≤ sizeLine; decide), fun p hp => ?_⟩
      have hp0 : H p = none := s2.free hp
      refine ⟨_, rfl, (m : Int), rfl, by omega, by omega, for_range (lo := 0) (n := ((m : Int)).toNat) (fun k σ H' => Same H H' ∧ (∃ ns : List Str, H' p = some (.lst (ns.map V.str)) ∧ ns.length = k ∧ NamesAre n ns) ∧ ∃ y4 y8 y9 y10 y11, σ = [some (.int n), some (.int m), some (.str nameS), some (.int sz), y4, some (.str rest), some (.int pl), some (.ref p), y8, y9, y10, y11])
        ⟨same_upd s2 hp0, ⟨[], upd_same, rfl, (fun j y h => by simp at h)⟩, _, _, _, _, _, rfl⟩ ?_ ?_⟩
      · rintro k σ H' hk ⟨sm, ⟨ns, ep, hl, hN⟩, y4, y8, y9, y10, y11, rfl⟩
        have hk4 : k < 4 := by omega
        have e26 : (n : Int) + 3 * (0 + (k : Int)) = ((n + 3 * k : Nat) : Int) := by omega
        have h26 : atI nameS.cps.toList (((n : Int) + 3 * (0 + (k : Int))) % 26) = some (97 + (n + 3 * k) % 26) := by
          rw [e26]
          exact let26 _
        have b26 : (n + 3 * k) % 26 < 26 := Nat.mod_lt _ (by decide)
        refine ⟨_, rfl, _, rfl, (n : Int), 121, rfl, rfl, ⟨by decide, by decide⟩, _, rfl, _, _, rfl, rfl, .inl ⟨_, rfl, _, 3, rfl, rfl, (show (0 : Int) < 3 by decide), rfl, _, rfl, ite2 (fun g => ⟨_, rfl, 1, rfl, rest, rfl, (by rw [hj.len]; exact Nat.le_of_lt (big8 (by omega))), ?_⟩) (fun g => ?_)⟩⟩
        all_goals
          first
          | (obtain ⟨m', hm', ho⟩ := hj.rest hs10
             generalize cutS rest (some 1) none = own at *
             obtain ⟨spot, hspot⟩ : ∃ t : Nat, min pl m' = t := ⟨_, rfl⟩
             have hsl : spot ≤ m' := by omega
             refine ⟨_, rfl, _, rfl, .str own, m', rfl, ⟨by rw [ho.len]; exact Nat.le_of_lt (big8 (by omega)), ho.len.symm⟩, (pl : Int), (m' : Int), rfl, ?_⟩)
          | (have ho := hj
             have hm' := hs10
             obtain ⟨m', hmm⟩ : ∃ t : Nat, t = sz := ⟨_, rfl⟩
             rw [← hmm] at ho hm'
             obtain ⟨spot, hspot⟩ : ∃ t : Nat, min pl m' = t := ⟨_, rfl⟩
             have hsl : spot ≤ m' := by omega
             refine ⟨_, rfl, _, rfl, .str rest, m', rfl, ⟨by rw [ho.len]; exact Nat.le_of_lt (big8 (by omega)), ho.len.symm⟩, (pl : Int), (m' : Int), rfl, ?_⟩)
        all_goals
          rw [minI, hspot]
          refine ⟨_, rfl, (n : Int), 363, rfl, rfl, ⟨by decide, by decide⟩, .inl ⟨_, rfl, _, 2, rfl, rfl, (show (0 : Int) < 2 by decide), rfl, _, rfl, ite2 (fun g => ?_) (fun g => ?_)⟩⟩
        all_goals
          refine ⟨_, rfl, _, rfl, _, rfl, 3, _, rfl, rfl, .inl ⟨by decide, by decide⟩, (n : Int), _, rfl, rfl, .inl ⟨_, rfl, _, 26, rfl, rfl, (show (0 : Int) < 26 by decide), nameS, _, _, rfl, rfl, (by decide +kernel), h26, _, rfl, _, rfl, (spot : Int), rfl, _, rfl, (by rw [ho.len]; exact Nat.le_of_lt (big8 (by omega))), _, _, rfl, rfl, (by rw [(OkS.one (c := 97 + (n + 3 * k) % 26) (.inr ⟨by omega, by omega⟩)).len, (ho.lo hsl).len]; exact Nat.le_of_lt (big8 (by omega))), ?_⟩⟩
          refine ⟨_, rfl, .inl ⟨rfl, _, SqL.of ep⟩, _, rfl, _, rfl, _, rfl, _, rfl, _, rfl, _, _, rfl, rfl, .inl ⟨by decide, by decide⟩, (n : Int), _, rfl, rfl, .inl ⟨_, rfl, _, 36, rfl, rfl, (show (0 : Int) < 36 by decide), nameS, _, _, rfl, rfl, (by decide +kernel), (c36_at _).1, _, _, rfl, rfl, ?_, _, rfl, _, rfl, (spot : Int), rfl, _, rfl, (by rw [ho.len]; exact Nat.le_of_lt (big8 (by omega))), _, _, rfl, rfl, ?_, p, _, _, rfl, rfl, ep, ?_, ?_⟩⟩
          · rw [((OkS.one (c := 97 + (n + 3 * k) % 26) (.inr ⟨by omega, by omega⟩)).app (ho.lo hsl)).len, (OkS.one (c36_at _).2).len]
            exact Nat.le_of_lt (big8 (by omega))
          · rw [(((OkS.one (c := 97 + (n + 3 * k) % 26) (.inr ⟨by omega, by omega⟩)).app (ho.lo hsl)).app (OkS.one (c36_at _).2)).len, (ho.hi hsl).len]
            exact Nat.le_of_lt (big8 (by omega))
          · rw [List.length_map]
            exact big8 (by omega)
          · refine ⟨same_upd sm hp0, ⟨ns ++ [_], by rw [upd_same, List.map_append]; rfl, by rw [List.length_append, hl]; rfl, fun j y hy => ?_⟩, _, _, _, _, _, rfl⟩
            by_cases hjl : j < ns.length
            · rw [List.getElem?_append_left hjl] at hy
              exact hN j y hy
            · rw [List.getElem?_append_right (by omega)] at hy
              have hj0 : j - ns.length = 0 := by
                have := (List.getElem?_eq_some_iff.mp hy).1
                rw [List.length_singleton] at this
                omega
              rw [hj0] at hy
              have hjk : j = k := by omega
              rw [hjk, ← Option.some.inj hy]
              exact ho.name hm' hsl (c36_at _).2 (by omega) (by omega)
      · rintro σ H' ⟨sm, ⟨ns, ep, hl, hN⟩, y4, y8, y9, y10, y11, rfl⟩
        exact ⟨_, rfl, q p ns H' sm ep (by omega) (fun y hy => by
          obtain ⟨j, hj⟩ := List.mem_iff_getElem?.mp hy
          exact (hN j y hj).1) (hN.nodup (by omega))⟩
end
end TP
/-! W13: _law_word, _law_term, _law_like. -/
namespace TP
open PySem PySem.Spec PyProof.Rows L2
/-- a list of numbers, a list of names -/
def NumsAt (H : Hp) (a : Addr) (ns : List Int) : Prop := H a = some (.lst (ns.map V.int)) ∧ ns.length = 80 ∧ Few ns
def NamesAt (H : Hp) (a : Addr) (ys : List Str) : Prop := H a = some (.lst (ys.map V.str)) ∧ 1 ≤ ys.length ∧ ys.length ≤ 4 ∧ (∀ y ∈ ys, okN y) ∧ ys.Nodup
theorem NumsAt.same {H H' : Hp} {a : Addr} {ns : List Int} (s : Same H H') (h : NumsAt H a ns) : NumsAt H' a ns := ⟨s _ _ h.1, h.2⟩
theorem NamesAt.same {H H' : Hp} {a : Addr} {ys : List Str} (s : Same H H') (h : NamesAt H a ys) : NamesAt H' a ys := ⟨s _ _ h.1, h.2⟩
theorem NumsAt.at {H : Hp} {a : Addr} {ns : List Int} (h : NumsAt H a ns) {i : Nat} (hi : i < 80) : ∃ n : Nat, atI (ns.map V.int) (i : Int) = some (.int (n : Int)) ∧ n ≤ 1008 := by
  have hl := h.2.1
  have hi' : i < ns.length := by omega
  have hf := h.2.2 _ (List.getElem_mem hi')
  refine ⟨ns[i].toNat, atI_nat ?_, by omega⟩
  rw [List.getElem?_map, List.getElem?_eq_getElem hi']
  show some (V.int ns[i]) = _
  rw [Int.toNat_of_nonneg hf.1]
/-! ### merging -/
/-- a term made of w names -/
structure Good (t : T) (w : Nat) : Prop where
  lv : t.lv + 2 ≤ 3 * w
  dp : t.dp + 2 ≤ 2 * w
  pt : ∀ p ∈ pts t, p.dp + 1 ≤ w
theorem Good.nm (y : Str) : Good (.nm y) 1 := ⟨Nat.le_refl _, Nat.le_refl _, fun p hp => by
  rw [List.mem_singleton.mp hp]
  exact Nat.le_refl _⟩
theorem Good.mono {t : T} {v w : Nat} (h : Good t v) (k : v ≤ w) : Good t w := ⟨by have := h.lv; omega, by have := h.dp; omega, fun p hp => by have := h.pt p hp; omega⟩
theorem Good.pr {a o : T} {v w : Nat} (ha : Good a v) (ho : Good o w) : Good (.pr a o) (v + w) := by
  have h1 := ha.lv
  have h2 := ho.lv
  have h3 := ha.dp
  have h4 := ho.dp
  have e1 : (T.pr a o).lv = a.lv + o.lv := rfl
  have e2 : (T.pr a o).dp = max a.dp o.dp + 1 := rfl
  refine ⟨by omega, by omega, fun p hp => ?_⟩
  rcases mem_pts_pr.mp hp with q | q | q
  · have := ha.pt p q
    omega
  · have := ho.pt p q
    omega
  · have h5 := ha.pt _ (br_mem a)
    have h6 := ho.pt _ (br_mem o)
    have h7 : (br (.pr a o)).dp ≤ max (br a).dp (br o).dp + 1 := jo_dp _ _
    rw [q]
    omega
theorem Good.pr2 {a o : T} {v w : Nat} (oka : a.ok) (oko : o.ok) (ha : Good a v) (ho : Good o w) (h : a.lv < 3) : Good (.pr a (.pr a o)) (v + w) := by
  have h1 := ha.lv
  have h2 := ho.lv
  have h3 := ha.dp
  have h4 := ho.dp
  have e1 : (T.pr a (.pr a o)).lv = a.lv + (a.lv + o.lv) := rfl
  have e2 : (T.pr a (.pr a o)).dp = max a.dp (max a.dp o.dp + 1) + 1 := rfl
  refine ⟨by omega, by omega, fun p hp => ?_⟩
  rcases mem_pts_pr.mp hp with q | q | q
  · have := ha.pt p q
    omega
  · exact (ha.pr ho).pt p q
  · have e : br (.pr a (.pr a o)) = br o := jo_abs (br_nf oka) (br_nf oko) (br_ok oka) (br_ok oko)
    have h6 := ho.pt _ (br_mem o)
    rw [q, e]
    omega
abbrev R3 := V × T × Nat
/-- rows of terms, in sum of at most m names -/
def RowsOk (H : Hp) (p : Addr) (rs : List R3) (m : Nat) : Prop := H p = some (.lst (rs.map (·.1))) ∧ (∀ r ∈ rs, Tm H r.1 r.2.1 ∧ Good r.2.1 r.2.2) ∧ (rs.map (·.2.2)).sum ≤ m
theorem two_at {α : Type} : ∀ (l : List α) (i : Nat), i + 1 < l.length → ∃ pre a b post, l = pre ++ a :: b :: post ∧ pre.length = i
  | [], i, h => by simp at h
  | [a], i, h => by
    simp at h
  | a :: b :: l, 0, _ => ⟨[], a, b, l, rfl, rfl⟩
  | a :: b :: l, i + 1, h => by
    obtain ⟨pre, x, y, post, e, hl⟩ := two_at (b :: l) i (by simpa using h)
    exact ⟨a :: pre, x, y, post, by rw [e]; rfl, by rw [List.length_cons, hl]⟩
theorem erase_two {α : Type} (pre post : List α) (a b : α) : (pre ++ a :: b :: post).eraseIdx (pre.length + 1) = pre ++ a :: post := by
  induction pre with
  | nil => rfl
  | cons x xs ih => rw [List.cons_append, List.length_cons, List.eraseIdx_cons_succ, ih]; rfl
theorem set_mid {α : Type} (pre post : List α) (a b : α) : (pre ++ a :: post).set pre.length b = pre ++ b :: post := by
  induction pre with
  | nil => rfl
  | cons x xs ih => rw [List.cons_append, List.length_cons, List.set_cons_succ, ih]; rfl
theorem get_mid {α : Type} (pre post : List α) (a : α) : (pre ++ a :: post)[pre.length]? = some a := by
  rw [List.getElem?_append_right (Nat.le_refl _), Nat.sub_self]
  rfl
theorem get_mid1 {α : Type} (pre post : List α) (a b : α) : (pre ++ a :: b :: post)[pre.length + 1]? = some b := by
  rw [List.getElem?_append_right (Nat.le_succ _), show pre.length + 1 - pre.length = 1 by omega]
  rfl
theorem ixN_at {n j : Nat} (hj : j < n) : ixN n (j : Int) = some j := by
  unfold ixN
  rw [if_pos (by omega), if_pos (by omega)]
  simp
theorem NamesAt.at {H : Hp} {a : Addr} {ys : List Str} (h : NamesAt H a ys) (n : Nat) : ∃ y, atI (ys.map V.str) ((n : Int) % ((ys.map V.str).length : Int)) = some (.str y) ∧ y ∈ ys := by
  have h1 := h.2.1
  have hm : n % ys.length < ys.length := Nat.mod_lt _ h1
  rw [List.length_map]
  have e : (n : Int) % (ys.length : Int) = ((n % ys.length : Nat) : Int) := rfl
  rw [e]
  refine ⟨ys[n % ys.length], atI_nat ?_, List.getElem_mem hm⟩
  rw [List.getElem?_map, List.getElem?_eq_getElem hm]
  rfl
abbrev nTerm : List Str := ["_law_numbers_here", "_law_at", "_law_names_here", "_law_most", "_law_rows", "_law_k", "_law_turn", "_law_place", "_law_other"]
section
variable {P : Program} {w : World} {K : PySem.W.Frag} {mg : Str → Option Value} {base : Heap}
def spWord : Sp := fun vs H Q _ => ∃ (a : Addr) (ns : List Int), vs = [.ref a, .int 0] ∧ NumsAt H a ns ∧ ∀ p ys H', Same H H' → NamesAt H' p ys → Q (.ref p) H'
theorem scWord : FnScope ["_law_numbers_here", "_law_at"] ["_law_numbers_here", "_law_at"] (defScope sLWord) := ⟨rfl, rfl, rfl, by decide +kernel, rfl, by decide +kernel, by decide +kernel⟩
theorem ok_word {f : Addr} {fd : FuncData} (F : Fun K "_law_word" "_law_word" sLWord f fd) (M : Txt K mg) (GN : Fn P w K mg base 1 "_law_names" ["_law_number", "_law_many"] spNames) : FnOk P w K mg base CX0 2 f fd ["_law_numbers_here", "_law_at"] spWord := by
  refine F.ok scWord (fun vs H Q E h => ?_) (fun cdv A outer s H vs Q E hr h => ?_)
  · obtain ⟨a, ns, rfl, _⟩ := h
    rfl
  · obtain ⟨a, ns, rfl, hn, q⟩ := h
    refine ⟨_, pss_one (ps_ret (pe_fn GN hr (by decide) (pa_cons (pe_ix ix_list (pv 0) (pv 1) (fun _ _ => rfl)) (pa_cons (pe_op op_add pe_int (pe_op op_mod (pe_callTy call_int1 (by rfl) M.int bt_int (pa_cons (pe_ix ix_list (pv 0) (pe_op op_add (pv 1) pe_int) (fun _ _ => rfl)) pa_nil)) pe_int)) pa_nil)) (by rfl))), ?_⟩
    obtain ⟨n0, h0, b0⟩ := hn.at (i := 0) (by decide)
    obtain ⟨n1, h1, b1⟩ := hn.at (i := 1) (by decide)
    refine ⟨_, rfl, _, rfl, a, _, _, _, rfl, rfl, SqL.of hn.1, h0, _, rfl, _, rfl, 0, 1, rfl, rfl, a, _, _, _, rfl, rfl, SqL.of hn.1, h1, .inl ⟨_, rfl, _, 4, rfl, rfl, (show (0 : Int) < 4 by decide), 1, _, rfl, rfl, n0, 1 + n1 % 4, ?_, b0, by omega, fun p ys H' s e hl hok hnd => q p ys H' s ⟨e, by omega, by omega, hok, hnd⟩⟩⟩
    have : (1 : Int) + (n1 : Int) % 4 = ((1 + n1 % 4 : Nat) : Int) := by omega
    show [V.int (n0 : Int), V.int (1 + (n1 : Int) % 4)] = _
    rw [this]
def spTerm : Sp := fun vs H Q _ => ∃ (a nm : Addr) (ns : List Int) (ys : List Str) (i m : Nat), vs = [.ref a, .int i, .ref nm, .int m] ∧ NumsAt H a ns ∧ NamesAt H nm ys ∧ 1 ≤ m ∧ m ≤ 7 ∧ i + 2 * m < 80 ∧ ∀ v t H', Same H H' → Tm H' v t → Good t m → Q v H'
theorem scTerm : FnScope nTerm ["_law_numbers_here", "_law_at", "_law_names_here", "_law_most"] (defScope sLTerm) := ⟨rfl, rfl, rfl, by decide +kernel, rfl, by decide +kernel, by decide +kernel⟩
theorem ok_term {f : Addr} {fd : FuncData} (F : Fun K "_law_term" "_law_term" sLTerm f fd) (M : Txt K mg) (GL : Fn P w K mg base 21 "_law_leaves" ["_law_term_here"] (spLvIn 21)) : FnOk P w K mg base CX0 22 f fd ["_law_numbers_here", "_law_at", "_law_names_here", "_law_most"] spTerm := by
  refine F.ok scTerm (fun vs H Q E h => ?_) (fun cdv A outer s H vs Q E hr h => ?_)
  · obtain ⟨a, nm, ns, ys, i, m, rfl, _⟩ := h
    rfl
  · obtain ⟨a, nm, ns, ys, i, m, rfl, hn, hy, m1, m7, him, q⟩ := h
    refine ⟨_, pss_cons (ps_set (i := 4) scTerm.nd rfl (.inl rfl) (pe_lst pa_nil))
      (pss_cons (ps_for PassesOwn.never rfl (pi_range1 (by rfl) M.rng (pa_cons (pe_op op_add pe_int (pe_op op_mod (pe_callTy call_int1 (by rfl) M.int bt_int (pa_cons (pe_ix ix_list (pv 0) (pv 1) (fun _ _ => rfl)) pa_nil)) (pv 3))) pa_nil)) (pg_name (i := 5) scTerm.nd rfl (.inl rfl))
        (pss_one (ps_expr (pe_bm PySem.F.plainAttrs_list PySem.F.slot_list_append PySem.F.type_list_append mt_append (pv 4) (pa_cons
          (pe_ix ix_list (pv 2) (pe_op op_mod (pe_callTy call_int1 (by rfl) M.int bt_int (pa_cons (pe_ix ix_list (pv 0) (pe_op op_add (pe_op op_add (pv 1) pe_int) (pe_op op_mul pe_int (pv 5))) (fun _ _ => rfl)) pa_nil)) (pe_callB call_len (by rfl) M.len PySem.boot_len (pa_cons (pv 2) pa_nil))) (fun _ _ => rfl)) pa_nil)))))
      (pss_cons (ps_for PassesOwn.never rfl (pi_range1 (by rfl) M.rng (pa_cons (pv 3) pa_nil)) (pg_name (i := 6) scTerm.nd rfl (.inl rfl))
        (pss_one (ps_if (pt_cmpR op_gt (pe_callB call_len (by rfl) M.len PySem.boot_len (pa_cons (pv 4) pa_nil)) pe_int (nomark _))
          (pss_cons (ps_set (i := 7) scTerm.nd rfl (.inl rfl) (pe_op op_mod (pe_callTy call_int1 (by rfl) M.int bt_int (pa_cons (pe_ix ix_list (pv 0) (pe_op op_add (pe_op op_add (pv 1) pe_int) (pe_op op_mul pe_int (pv 6))) (fun _ _ => rfl)) pa_nil)) (pe_op op_sub (pe_callB call_len (by rfl) M.len PySem.boot_len (pa_cons (pv 4) pa_nil)) pe_int)))
          (pss_cons (ps_set (i := 8) scTerm.nd rfl (.inl rfl) (pe_bm PySem.F.plainAttrs_list PySem.F.slot_list_pop PySem.F.type_list_pop mt_popAt (pv 4) (pa_cons (pe_op op_add (pv 7) pe_int) pa_nil)))
          (pss_cons (ps_if (PW.pt (pw_and (pt_cmpR op_eq (pe_op op_mod (pe_callTy call_int1 (by rfl) M.int bt_int (pa_cons (pe_op op_fdiv (pe_ix ix_list (pv 0) (pe_op op_add (pe_op op_add (pv 1) pe_int) (pe_op op_mul pe_int (pv 6))) (fun _ _ => rfl)) pe_int) pa_nil)) pe_int) pe_int (nomark _))
                (pw_and1 (pt_cmpR op_lt (pe_callB call_len (by rfl) M.len PySem.boot_len (pa_cons (pe_fn GL hr (Nat.le_refl _) (pa_cons (pe_ix ix_list (pv 4) (pv 7) (fun _ _ => rfl)) pa_nil) (by rfl)) pa_nil)) pe_int (nomark _)))))
              (pss_one (ps_set (i := 8) scTerm.nd rfl (.inl rfl) (pe_tup (pa_cons (pe_ix ix_list (pv 4) (pv 7) (fun _ _ => rfl)) (pa_cons (pv 8) pa_nil))))) pss_nil)
          (pss_one (ps_asg (pe_tup (pa_cons (pe_ix ix_list (pv 4) (pv 7) (fun _ _ => rfl)) (pa_cons (pv 8) pa_nil))) (pg_sub (pv 4) (pv 7) set_list)))))) pss_nil)))
      (pss_one (ps_ret (pe_ix ix_list (pv 4) pe_int (fun _ _ => rfl)))))), ?_⟩
    refine ⟨(by show 0 ≤ sizeLine; decide), fun p hp => ?_⟩
    obtain ⟨n0, h0, b0⟩ := hn.at (i := i) (by omega)
    have s1 := same_new (o := .lst []) hp
    have ep0 := upd_same (H := H) (a := p) (o := .lst [])
    generalize upd H p (.lst []) = H1 at *
    have hn1 := hn.same s1
    have hy1 := hy.same s1
    have hmod : n0 % m < m := Nat.mod_lt _ m1
    have ec : (1 : Int) + (n0 : Int) % (m : Int) = ((1 + n0 % m : Nat) : Int) := by
      have : (n0 : Int) % (m : Int) = ((n0 % m : Nat) : Int) := rfl
      omega
    refine ⟨_, rfl, _, rfl, a, _, _, _, rfl, rfl, SqL.of hn1.1, h0, .inl ⟨_, rfl, _, rfl, _, _, rfl, rfl, (show (0 : Int) < (m : Int) by omega), 1, _, rfl, rfl, ?_⟩⟩
    refine ⟨_, congrArg (fun z => [V.int z]) ec, by omega, by omega, for_range (lo := 0) (n := (((1 + n0 % m : Nat) : Int)).toNat) (fun k σ H' => Same H H' ∧ (∃ rs, RowsOk H' p rs k ∧ rs.length = k) ∧ ∃ y5, σ = [some (.ref a), some (.int i), some (.ref nm), some (.int m), some (.ref p), y5, none, none, none])
      ⟨s1, ⟨[], ⟨ep0, (fun r h => nomatch h), Nat.le_refl _⟩, rfl⟩, _, rfl⟩ ?_ ?_⟩
    · rintro k σ H' hk ⟨sm, ⟨rs, ⟨ep, hr1, hr2⟩, hl⟩, y5, rfl⟩
      have hk2 : k < m := by omega
      obtain ⟨nk, hk0, _⟩ := (hn.same sm).at (i := i + 1 + 2 * k) (by omega)
      have ei : (i : Int) + 1 + 2 * (0 + (k : Int)) = ((i + 1 + 2 * k : Nat) : Int) := by omega
      obtain ⟨y, hy0, hym⟩ := (hy.same sm).at nk
      refine ⟨_, rfl, .inl ⟨rfl, _, SqL.of ep⟩, _, rfl, _, rfl, _, rfl, _, 1, rfl, rfl, _, rfl, 2, _, rfl, rfl, .inl ⟨by decide, by decide⟩, _, _, rfl, rfl, a, _, _, _, rfl, rfl, SqL.of (hn.same sm).1, (congrArg (atI (ns.map V.int)) ei).trans hk0, .inl ⟨_, rfl, _, rfl, _, _, rfl, .inl ⟨_, SqL.of (hy.same sm).1, rfl⟩, _, _, rfl, rfl, (by rw [List.length_map]; have := hy.2.1; omega), nm, _, _, _, rfl, rfl, SqL.of (hy.same sm).1, hy0, p, _, _, rfl, rfl, ep, by rw [List.length_map]; exact big8 (by omega), ?_⟩⟩
      refine ⟨same_upd sm hp, ⟨rs ++ [(.str y, .nm y, 1)], ⟨by rw [upd_same, List.map_append]; rfl, fun r hr => ?_, ?_⟩, by rw [List.length_append, hl]; rfl⟩, _, rfl⟩
      · rcases List.mem_append.mp hr with h | h
        · refine ⟨(hr1 r h).1.keep fun b zs e => ?_, (hr1 r h).2⟩
          rw [upd_ne (ne_of e ep (fun z => nomatch z))]
          exact e
        · rw [List.mem_singleton.mp h]
          exact ⟨.nm (hy.2.2.2.1 y hym), Good.nm y⟩
      · rw [List.map_append, List.sum_append]
        show _ + (1 + 0) ≤ _
        omega
    · rintro σ H' ⟨sm, ⟨rs, ⟨ep, hr1, hr2⟩, hl⟩, y5, rfl⟩
      refine ⟨_, rfl, (m : Int), rfl, by omega, by omega, for_range (lo := 0) (n := ((m : Int)).toNat) (fun u σ H' => Same H H' ∧ (∃ rs, RowsOk H' p rs m ∧ 1 ≤ rs.length ∧ (rs.length = 1 ∨ rs.length + u ≤ m)) ∧ ∃ y5 y6 y7 y8, σ = [some (.ref a), some (.int i), some (.ref nm), some (.int m), some (.ref p), y5, y6, y7, y8])
        ⟨sm, ⟨rs, ⟨ep, hr1, by omega⟩, by omega, .inr (by omega)⟩, _, _, _, _, rfl⟩ ?_ ?_⟩
      · clear ep hr1 hr2 hl sm y5 h0 ec hmod
        rintro u σ H' hu ⟨sm, ⟨rs, ⟨ep, hr1, hr2⟩, hl1, hl2⟩, y5, y6, y7, y8, rfl⟩
        have hu2 : u < m := by omega
        obtain ⟨np, hk0, _⟩ := (hn.same sm).at (i := i + 2 + 2 * u) (by omega)
        have ei : (i : Int) + 2 + 2 * (0 + (u : Int)) = ((i + 2 + 2 * u : Nat) : Int) := by omega
        refine ⟨_, rfl, _, _, rfl, .inl ⟨_, SqL.of ep, rfl⟩, _, 1, rfl, rfl, _, rfl, ite2 (fun g => ?_) (fun g => ?_)⟩
        · have g' := of_decide_eq_true g
          rw [List.length_map] at g'
          obtain ⟨pl, hpl, hlt⟩ : ∃ pl : Nat, (np : Int) % (((rs.map (·.1)).length : Int) - 1) = (pl : Int) ∧ pl + 1 < rs.length := by
            rw [List.length_map]
            have e : (rs.length : Int) - 1 = ((rs.length - 1 : Nat) : Int) := by omega
            rw [e]
            refine ⟨np % (rs.length - 1), rfl, ?_⟩
            have := Nat.mod_lt np (show rs.length - 1 > 0 by omega)
            omega
          refine ⟨_, rfl, _, rfl, _, 2, rfl, rfl, _, rfl, 2, _, rfl, rfl, .inl ⟨by decide, by decide⟩, _, _, rfl, rfl, a, _, _, _, rfl, rfl, SqL.of (hn.same sm).1, (congrArg (atI (ns.map V.int)) ei).trans hk0, .inl ⟨_, rfl, _, rfl, _, _, rfl, .inl ⟨_, SqL.of ep, rfl⟩, _, 1, rfl, rfl, _, _, rfl, rfl, (by rw [List.length_map]; omega), ?_⟩⟩
          change gName 7 (V.int ((np : Int) % (((rs.map (·.1)).length : Int) - 1))) _ _ _
          rw [hpl]
          obtain ⟨pre, x, y, post, rfl, rfl⟩ := two_at rs pl hlt
          have epl : ((pre.length : Int) + 1) = ((pre.length + 1 : Nat) : Int) := by omega
          have eml : ((pre ++ x :: y :: post).map (·.1)).eraseIdx (pre.length + 1) = (pre ++ x :: post).map (·.1) := by
            have := erase_two (pre.map (·.1)) (post.map (·.1)) x.1 y.1
            rw [List.length_map] at this
            rw [List.map_append, List.map_cons, List.map_cons, this, List.map_append, List.map_cons]
          refine ⟨_, rfl, .inl ⟨rfl, _, SqL.of ep⟩, _, rfl, _, 1, rfl, rfl, p, _, _, pre.length + 1, y.1, rfl, rfl, ep, by omega, ?_, ?_, by rw [List.getElem?_map, get_mid1]; rfl, ?_⟩
          · have : (pre ++ x :: y :: post).length ≤ 7 := by omega
            omega
          · rw [epl, List.length_map]
            exact (ixN_seq (ixN_at hlt)).1
          rw [eml]
          have hx := hr1 x (by simp)
          have hy' := hr1 y (by simp)
          have sm2 := same_upd (o := .lst ((pre ++ x :: post).map (·.1))) sm hp
          have ep2 := upd_same (H := H') (a := p) (o := .lst ((pre ++ x :: post).map (·.1)))
          have kp2 : ∀ b zs, H' b = some (.tup zs) → (upd H' p (.lst ((pre ++ x :: post).map (·.1)))) b = some (.tup zs) := fun b zs e => by
            rw [upd_ne (ne_of e ep (fun z => nomatch z))]
            exact e
          have hrs : ∀ r ∈ pre ++ x :: post, Tm (upd H' p (.lst ((pre ++ x :: post).map (·.1)))) r.1 r.2.1 ∧ Good r.2.1 r.2.2 := fun r hr => by
            have := hr1 r (by
              rcases List.mem_append.mp hr with h | h
              · exact List.mem_append_left _ h
              · rcases List.mem_cons.mp h with h | h
                · rw [h]
                  simp
                · exact List.mem_append_right _ (List.mem_cons_of_mem _ (List.mem_cons_of_mem _ h)))
            exact ⟨this.1.keep kp2, this.2⟩
          have hyt := hy'.1.keep kp2
          generalize upd H' p (.lst ((pre ++ x :: post).map (·.1))) = H2 at *
          clear kp2 ep
          have fin : ∀ (H9 : Hp) (o : V) (ot : T), Same H H9 → H9 p = some (.lst ((pre ++ x :: post).map (·.1))) → (∀ r ∈ pre ++ x :: post, Tm H9 r.1 r.2.1) → Tm H9 o ot → Good (.pr x.2.1 ot) (x.2.2 + y.2.2) → ∀ pz, H9 pz = none →
              Same H (upd (upd H9 pz (.tup [x.1, o])) p (.lst (((pre ++ x :: post).map (·.1)).set pre.length (.ref pz)))) ∧
              ∃ rs, RowsOk (upd (upd H9 pz (.tup [x.1, o])) p (.lst (((pre ++ x :: post).map (·.1)).set pre.length (.ref pz)))) p rs m ∧ 1 ≤ rs.length ∧ (rs.length = 1 ∨ rs.length + (u + 1) ≤ m) := by
            intro H9 o ot s9 e9 ht9 hto hgd pz hpz
            have s10 := same_new (o := .tup [x.1, o]) hpz
            have e10 := s10 _ _ e9
            have eset : ((pre ++ x :: post).map (·.1)).set pre.length (.ref pz) = (pre ++ (.ref pz, .pr x.2.1 ot, x.2.2 + y.2.2) :: post).map (·.1) := by
              have := set_mid (pre.map (·.1)) (post.map (·.1)) x.1 (V.ref pz)
              rw [List.length_map] at this
              rw [List.map_append, List.map_cons, this, List.map_append, List.map_cons]
            have kp : ∀ b zs, H9 b = some (.tup zs) → (upd (upd H9 pz (.tup [x.1, o])) p (.lst (((pre ++ x :: post).map (·.1)).set pre.length (.ref pz)))) b = some (.tup zs) := fun b zs e => by
              rw [upd_ne (ne_of (s10 _ _ e) e10 (fun z => nomatch z))]
              exact s10 _ _ e
            have npz : pz ≠ p := fun e => by
              rw [e, e9] at hpz
              cases hpz
            have epz : (upd (upd H9 pz (.tup [x.1, o])) p (.lst (((pre ++ x :: post).map (·.1)).set pre.length (.ref pz)))) pz = some (.tup [x.1, o]) := by
              rw [upd_ne npz, upd_same]
            refine ⟨same_upd (s9.trans s10) hp, pre ++ (.ref pz, .pr x.2.1 ot, x.2.2 + y.2.2) :: post, ⟨by rw [upd_same, eset], fun r hr => ?_, ?_⟩, ?_, ?_⟩
            · rcases List.mem_append.mp hr with h | h
              · exact ⟨(ht9 r (List.mem_append_left _ h)).keep kp, (hrs r (List.mem_append_left _ h)).2⟩
              · rcases List.mem_cons.mp h with h | h
                · rw [h]
                  exact ⟨.pr epz ((ht9 x (by simp)).keep kp) (hto.keep kp), hgd⟩
                · have h' : r ∈ pre ++ x :: post := List.mem_append_right _ (List.mem_cons_of_mem _ h)
                  exact ⟨(ht9 r h').keep kp, (hrs r h').2⟩
            · simp only [List.map_append, List.map_cons, List.sum_append, List.sum_cons] at hr2 ⊢
              omega
            · simp only [List.length_append, List.length_cons]
              omega
            · simp only [List.length_append, List.length_cons] at hl2 g' ⊢
              omega
          have atx : ∀ H9 : Hp, atI ((pre ++ x :: post).map (·.1)) ((pre.length : Nat) : Int) = some x.1 := fun _ => atI_nat (by rw [List.getElem?_map, get_mid]; rfl)
          have ixx : ixN ((pre ++ x :: post).map (·.1)).length ((pre.length : Nat) : Int) = some pre.length := ixN_at (by rw [List.length_map, List.length_append, List.length_cons]; omega)
          refine ⟨_, rfl, _, rfl, _, 2, rfl, rfl, _, rfl, 2, _, rfl, rfl, .inl ⟨by decide, by decide⟩, _, _, rfl, rfl, a, _, _, _, rfl, rfl, SqL.of (hn.same sm2).1, (congrArg (atI (ns.map V.int)) ei).trans hk0, _, 7, rfl, rfl, ⟨by decide, by decide⟩, .inl ⟨_, rfl, _, 4, rfl, rfl, (show (0 : Int) < 4 by decide), rfl, _, rfl, ite2 (fun g2 => ?_) (fun g2 => ?_)⟩⟩
          · have hxs := hx.2
            have hd := hxs.dp
            have hv := hxs.lv
            have hw7 : x.2.2 ≤ 7 := by
              simp only [List.map_append, List.map_cons, List.sum_append, List.sum_cons] at hr2
              omega
            refine ⟨_, rfl, _, rfl, p, _, _, _, rfl, rfl, SqL.of ep2, atx H2, x.1, x.2.1, rfl, (hrs x (by simp)).1, by omega, by omega, fun p9 ws H9 s9 z9 e9 hw => ⟨_, _, rfl, .inl ⟨_, SqL.of e9, rfl⟩, _, 3, rfl, rfl, _, rfl, ite2 (fun g3 => ?_) (fun g3 => ?_)⟩⟩
            · have g4 : x.2.1.lv < 3 := by
                have := of_decide_eq_true g3
                omega
              have ep9 := s9 _ _ ep2
              refine ⟨_, rfl, _, rfl, p, _, _, _, rfl, rfl, SqL.of ep9, atx H9, _, rfl, (by show 2 ≤ sizeLine; decide), fun pt hpt => ?_⟩
              have s10 := same_new (o := .tup [x.1, y.1]) hpt
              have tt : Tm (upd H9 pt (.tup [x.1, y.1])) (.ref pt) (.pr x.2.1 y.2.1) := .pr upd_same (((hrs x (by simp)).1.same s9).same s10) ((hyt.same s9).same s10)
              refine ⟨_, rfl, _, rfl, p, _, _, _, rfl, rfl, SqL.of (s10 _ _ ep9), atx H9, _, rfl, (by show 2 ≤ sizeLine; decide), fun pz hpz => ?_⟩
              have f := fin _ (.ref pt) _ ((sm2.trans s9).trans s10) (s10 _ _ ep9) (fun r hr => ((hrs r hr).1.same s9).same s10) tt (Good.pr2 hx.1.ok hy'.1.ok hx.2 hy'.2 g4) pz hpz
              exact ⟨_, rfl, _, rfl, p, _, _, pre.length, rfl, rfl, same_new hpz _ _ (s10 _ _ ep9), ixx, f.1, f.2, _, _, _, _, rfl⟩
            · have ep9 := s9 _ _ ep2
              refine ⟨_, rfl, _, rfl, p, _, _, _, rfl, rfl, SqL.of ep9, atx H9, _, rfl, (by show 2 ≤ sizeLine; decide), fun pz hpz => ?_⟩
              have f := fin _ y.1 _ (sm2.trans s9) ep9 (fun r hr => (hrs r hr).1.same s9) (hyt.same s9) (hx.2.pr hy'.2) pz hpz
              exact ⟨_, rfl, _, rfl, p, _, _, pre.length, rfl, rfl, same_new hpz _ _ ep9, ixx, f.1, f.2, _, _, _, _, rfl⟩
          · refine iteF ?_
            refine ⟨_, rfl, _, rfl, p, _, _, _, rfl, rfl, SqL.of ep2, atx H2, _, rfl, (by show 2 ≤ sizeLine; decide), fun pz hpz => ?_⟩
            have f := fin _ y.1 _ sm2 ep2 (fun r hr => (hrs r hr).1) hyt (hx.2.pr hy'.2) pz hpz
            exact ⟨_, rfl, _, rfl, p, _, _, pre.length, rfl, rfl, same_new hpz _ _ ep2, ixx, f.1, f.2, _, _, _, _, rfl⟩
        · have g' : ¬ (1 : Int) < ((rs.map (·.1)).length : Int) := fun e => g (decide_eq_true e)
          rw [List.length_map] at g'
          exact ⟨sm, ⟨rs, ⟨ep, hr1, hr2⟩, hl1, .inl (by omega)⟩, _, _, _, _, rfl⟩
      · rintro σ H' ⟨sm, ⟨rs, ⟨ep, hr1, hr2⟩, hl1, hl2⟩, y5, y6, y7, y8, rfl⟩
        have h1 : rs.length = 1 := by omega
        obtain ⟨r, rfl⟩ := List.length_eq_one_iff.mp h1
        have hr := hr1 r (List.mem_singleton.mpr rfl)
        have hw : r.2.2 ≤ m := by
          have : ([r].map (·.2.2)).sum = r.2.2 := by simp
          omega
        exact ⟨_, rfl, p, _, _, _, rfl, rfl, SqL.of ep, atI_nat (j := 0) rfl, q _ _ H' sm hr.1 (hr.2.mono hw)⟩
end
end TP
/-! W14: _law_like. -/
namespace TP
open PySem PySem.Spec PyProof.Rows L2
abbrev nLike : List Str := ["_law_numbers_here", "_law_at", "_law_term_here", "_law_names_here", "_law_choice", "_law_other"]
theorem jo_in {a o : T} (ha : a.ok) (ho : o.ok) : jo (br o) (jo (br a) (br o)) = br a := by
  rw [jo_comm (br_ok ha) (br_ok ho)]
  exact jo_abs (br_nf ho) (br_nf ha) (br_ok ho) (br_ok ha)
theorem jo_in2 {a o : T} (ha : a.ok) (ho : o.ok) : jo (jo (br o) (br a)) (br o) = br a := by
  rw [jo_comm (jo_ok (br_ok ho) (br_ok ha)) (br_ok ho)]
  exact jo_abs (br_nf ho) (br_nf ha) (br_ok ho) (br_ok ha)
section
variable {P : Program} {w : World} {K : PySem.W.Frag} {mg : Str → Option Value} {base : Heap}
def spLike : Sp := fun vs H Q _ => ∃ (a nm : Addr) (ns : List Int) (ys : List Str) (v : V) (t : T), vs = [.ref a, .int 30, v, .ref nm] ∧ NumsAt H a ns ∧ NamesAt H nm ys ∧ Tm H v t ∧ Good t 7 ∧ ∀ v' t' H', Same H H' → Tm H' v' t' → br t' = br t → Fit t' → Q v' H'
theorem scLike : FnScope nLike ["_law_numbers_here", "_law_at", "_law_term_here", "_law_names_here"] (defScope sLLike) := ⟨rfl, rfl, rfl, by decide +kernel, rfl, by decide +kernel, by decide +kernel⟩
theorem ok_like {f : Addr} {fd : FuncData} (F : Fun K "_law_like" "_law_like" sLLike f fd) (M : Txt K mg) (GT : Fn P w K mg base 22 "_law_term" ["_law_numbers_here", "_law_at", "_law_names_here", "_law_most"] spTerm) : FnOk P w K mg base CX0 23 f fd ["_law_numbers_here", "_law_at", "_law_term_here", "_law_names_here"] spLike := by
  refine F.ok scLike (fun vs H Q E h => ?_) (fun cdv A outer s H vs Q E hr h => ?_)
  · obtain ⟨a, nm, ns, ys, v, t, rfl, _⟩ := h
    rfl
  · obtain ⟨a, nm, ns, ys, v, t, rfl, hn, hy, ht, hg, q⟩ := h
    refine ⟨_, pss_cons (ps_set (i := 4) scLike.nd rfl (.inl rfl) (pe_op op_mod (pe_callTy call_int1 (by rfl) M.int bt_int (pa_cons (pe_ix ix_list (pv 0) (pv 1) (fun _ _ => rfl)) pa_nil)) pe_int))
      (pss_cons (ps_set (i := 5) scLike.nd rfl (.inl rfl) (pe_fn GT hr (Nat.le_refl _) (pa_cons (pv 0) (pa_cons (pe_op op_add (pv 1) pe_int) (pa_cons (pv 3) (pa_cons pe_int pa_nil)))) (by rfl)))
      (pss_cons (ps_if (pt_cmpR op_eq (pv 4) pe_int (nomark _)) (pss_one (ps_ret (pe_tup (pa_cons (pv 5) (pa_cons (pe_tup (pa_cons (pv 2) (pa_cons (pv 5) pa_nil))) pa_nil))))) pss_nil)
      (pss_cons (ps_if (PW.pt (pw_and (pt_cmpR op_eq (pv 4) pe_int (nomark _)) (pw_and1 (pt_not (pt_val (pe_isStr M (pv 2) (by rfl) (by rfl))))))) (pss_one (ps_ret (pe_tup (pa_cons (pe_ix ix_tup (pv 2) pe_int (fun _ _ => rfl)) (pa_cons (pe_ix ix_tup (pv 2) pe_int (fun _ _ => rfl)) pa_nil))))) pss_nil)
      (pss_cons (ps_if (pt_cmpR op_eq (pv 4) pe_int (nomark _)) (pss_one (ps_ret (pe_tup (pa_cons (pe_tup (pa_cons (pv 2) (pa_cons (pv 2) pa_nil))) (pa_cons (pv 2) pa_nil))))) pss_nil)
      (pss_one (ps_ret (pe_tup (pa_cons (pe_tup (pa_cons (pv 5) (pa_cons (pv 2) pa_nil))) (pa_cons (pv 5) pa_nil))))))))), ?_⟩
    obtain ⟨n0, h0, b0⟩ := hn.at (i := 30) (by decide)
    refine ⟨_, rfl, _, rfl, a, _, _, _, rfl, rfl, SqL.of hn.1, h0, .inl ⟨_, rfl, _, 4, rfl, rfl, (show (0 : Int) < 4 by decide), ?_⟩⟩
    refine ⟨_, rfl, _, rfl, 30, 1, rfl, rfl, _, rfl, a, nm, ns, ys, 31, 3, rfl, hn, hy, by decide, by decide, by decide, fun vo o H1 s1 to go => ?_⟩
    have t1 := ht.same s1
    have okt := ht.ok
    have oko := to.ok
    have g1 := hg.lv
    have g2 := hg.dp
    have g3 := go.lv
    have g4 := go.dp
    have S2 : 2 ≤ sizeLine := by decide
    refine ⟨_, rfl, rfl, _, rfl, ite2 (fun _ => ?_) (fun _ => ?_)⟩
    · refine ⟨_, rfl, _, rfl, _, rfl, S2, fun p hp => ⟨S2, fun p2 hp2 => ?_⟩⟩
      have k1 := same_new (o := .tup [v, vo]) hp
      have k2 := same_new (o := .tup [vo, .ref p]) hp2
      have kk := k1.trans k2
      refine q _ (.pr o (.pr t o)) _ (s1.trans kk) (.pr upd_same (to.same kk) (.pr (k2 _ _ upd_same) (t1.same kk) (to.same kk))) (jo_in okt oko) ⟨?_, ?_⟩
      · show o.lv + (t.lv + o.lv) ≤ 200
        omega
      · show max o.dp (max t.dp o.dp + 1) + 1 ≤ 20
        omega
    · refine ⟨_, rfl, rfl, _, rfl, ite2 (fun _ => ?_) (fun _ => iteF ?_)⟩
      · refine ⟨_, rfl, v, rfl, isStrQ.of t1 (fun y ey ex => ⟨true, rfl, iteF ?_⟩) (fun a' u1 u2 l r et ex ea h1 h2 => ⟨false, rfl, iteT ?_⟩)⟩
        · refine ⟨_, rfl, rfl, _, rfl, ite2 (fun _ => ?_) (fun _ => ?_)⟩
          · refine ⟨_, rfl, _, rfl, S2, fun p hp => ⟨_, rfl, S2, fun p2 hp2 => ?_⟩⟩
            have k1 := same_new (o := .tup [v, v]) hp
            have k2 := same_new (o := .tup [.ref p, v]) hp2
            have kk := k1.trans k2
            refine q _ (.pr (.pr t t) t) _ (s1.trans kk) (.pr upd_same (.pr (k2 _ _ upd_same) (t1.same kk) (t1.same kk)) (t1.same kk)) ?_ ⟨?_, ?_⟩
            · show jo (jo (br t) (br t)) (br t) = br t
              rw [jo_same, jo_same]
            · show (t.lv + t.lv) + t.lv ≤ 200
              omega
            · show max (max t.dp t.dp + 1) t.dp + 1 ≤ 20
              omega
          · refine ⟨_, rfl, _, rfl, S2, fun p hp => ⟨_, rfl, S2, fun p2 hp2 => ?_⟩⟩
            have k1 := same_new (o := .tup [vo, v]) hp
            have k2 := same_new (o := .tup [.ref p, vo]) hp2
            have kk := k1.trans k2
            refine q _ (.pr (.pr o t) o) _ (s1.trans kk) (.pr upd_same (.pr (k2 _ _ upd_same) (to.same kk) (t1.same kk)) (to.same kk)) (jo_in2 okt oko) ⟨?_, ?_⟩
            · show (o.lv + t.lv) + o.lv ≤ 200
              omega
            · show max (max o.dp t.dp + 1) o.dp + 1 ≤ 20
              omega
        · subst ex et
          refine ⟨_, rfl, a', _, _, u2, rfl, rfl, SqT.of ea, atI_nat (j := 1) rfl, _, rfl, a', _, _, u1, rfl, rfl, SqT.of ea, atI_nat (j := 0) rfl, S2, fun p hp => ?_⟩
          have k1 := same_new (o := .tup [u2, u1]) hp
          refine q _ (.pr r l) _ (s1.trans k1) (.pr upd_same (h2.same k1) (h1.same k1)) (jo_comm (br_ok okt.2) (br_ok okt.1)) ⟨?_, ?_⟩
          · have : (T.pr l r).lv = l.lv + r.lv := rfl
            show r.lv + l.lv ≤ 200
            omega
          · have : (T.pr l r).dp = max l.dp r.dp + 1 := rfl
            show max r.dp l.dp + 1 ≤ 20
            omega
      · refine ⟨_, rfl, rfl, _, rfl, ite2 (fun _ => ?_) (fun _ => ?_)⟩
        · refine ⟨_, rfl, _, rfl, S2, fun p hp => ⟨_, rfl, S2, fun p2 hp2 => ?_⟩⟩
          have k1 := same_new (o := .tup [v, v]) hp
          have k2 := same_new (o := .tup [.ref p, v]) hp2
          have kk := k1.trans k2
          refine q _ (.pr (.pr t t) t) _ (s1.trans kk) (.pr upd_same (.pr (k2 _ _ upd_same) (t1.same kk) (t1.same kk)) (t1.same kk)) ?_ ⟨?_, ?_⟩
          · show jo (jo (br t) (br t)) (br t) = br t
            rw [jo_same, jo_same]
          · show (t.lv + t.lv) + t.lv ≤ 200
            omega
          · show max (max t.dp t.dp + 1) t.dp + 1 ≤ 20
            omega
        · refine ⟨_, rfl, _, rfl, S2, fun p hp => ⟨_, rfl, S2, fun p2 hp2 => ?_⟩⟩
          have k1 := same_new (o := .tup [vo, v]) hp
          have k2 := same_new (o := .tup [.ref p, vo]) hp2
          have kk := k1.trans k2
          refine q _ (.pr (.pr o t) o) _ (s1.trans kk) (.pr upd_same (.pr (k2 _ _ upd_same) (to.same kk) (t1.same kk)) (to.same kk)) (jo_in2 okt oko) ⟨?_, ?_⟩
          · show (o.lv + t.lv) + o.lv ≤ 200
            omega
          · show max (max o.dp t.dp + 1) o.dp + 1 ≤ 20
            omega
end
end TP
/-! W15: the law, its first part. -/
namespace TP
open PySem PySem.Spec PyProof.Rows L2
abbrev nLaw : List Str := ["_law_script", "_law_numbers_here", "_law_names_here", "_law_one", "_law_other", "_law_told", "_law_first", "_law_second", "_law_name", "_law_small", "_law_forms", "_law_pair", "_law_form"]
/-- a def with keyword-only defaults -/
def FnD (P : Program) (w : World) (K : PySem.W.Frag) (mg : Str → Option Value) (base : Heap) (k : Nat) (x : Str) (ps : List Str) (dvs : List V) (sp : Sp) : Prop :=
  ∃ (f : Addr) (fd : FuncData) (ds : List Value), FnOk P w K mg base CX0 k f fd ps sp ∧ mg x = some (.ref f) ∧ PySem.W.keepIn K (.ref f) = true ∧ Binds K fd ps ds ∧ Vals dvs ds
theorem pe_fnD {X : Cx} {e : Expr} {es : List Expr} {ta : TA} {pos p : Pos} {k j : Nat} {x : Str} {ps : List Str} {dvs : List V} {sp : Sp} (G : FnD X.prog X.w X.K X.mg X.base k x ps dvs sp) (hr : Room j X.A) (hj : k ≤ j) (ha : PA X (e :: es) ta) (hg : Gl X x) (hdb : (x == ("__debug__" : Str)) = false := by decide) (he : starEach (e :: es) X.env = (false, eval e X.env) :: starEach es X.env := by rfl)
    (hpl : (backTo pos (starEach es X.env)).any (·.1) = false := by rfl) : PE X (.Call (.Name x p) (e :: es) [] pos) (tCall sp dvs E0 ta) := by
  obtain ⟨f, fd, ds, F, m, kp, b, hd⟩ := G
  exact pe_call F (hr.mono hj) hg m kp b hd pass0 ha hdb he hpl
structure LF (P : Program) (w : World) (K : PySem.W.Frag) (mg : Str → Option Value) (base : Heap) (C : Addr) : Prop where
  nums : Fn P w K mg base 2 "_law_numbers" ["_law_script", "_law_many"] (spNums K)
  word : Fn P w K mg base 2 "_law_word" ["_law_numbers_here", "_law_at"] spWord
  term : Fn P w K mg base 22 "_law_term" ["_law_numbers_here", "_law_at", "_law_names_here", "_law_most"] spTerm
  like : Fn P w K mg base 23 "_law_like" ["_law_numbers_here", "_law_at", "_law_term_here", "_law_names_here"] spLike
  part : Fn P w K mg base 66 "parting" ["one", "other"] (spParting C)
  eqv : Fn P w K mg base 46 "equal_everywhere" ["one", "other"] spEqual
  plain : Fn P w K mg base 45 "plain" ["term"] spPlain
  chk : Fn P w K mg base 22 "check_parting" ["one", "other", "told"] (spCheckP C)
  isp : Fn P w K mg base 46 "is_plain" ["term"] spIsPlain
  repl : Fn P w K mg base 43 "replaced" ["term", "table"] spReplaced
  forms : FnD P w K mg base 25 "plain_forms" ["names", "leaves", "limit"] [.int 2000] spPForms
def LSt (σ : L2.St) (H : Hp) : Prop := ∃ (y0 : Option V) (a nm : Addr) (v1 v2 : V) (y5 y6 y7 y8 y9 y10 : Option V) (ns : List Int) (ys : List Str) (t1 t2 : T), σ = [y0, some (.ref a), some (.ref nm), some v1, some v2, y5, y6, y7, y8, y9, y10, none, none] ∧
  NumsAt H a ns ∧ NamesAt H nm ys ∧ Tm H v1 t1 ∧ Tm H v2 t2 ∧ Good t1 7 ∧ Fit t2 ∧ (br t1 = br t2 ∨ Good t2 6)
theorem Good.fit {t : T} {m : Nat} (h : Good t m) (hm : m ≤ 7) : Fit t := ⟨by have := h.lv; omega, by have := h.dp; omega⟩
section
variable {P : Program} {w : World} {K : PySem.W.Frag} {mg : Str → Option Value} {base : Heap}
theorem scLaw : FnScope nLaw ["_law_script"] (defScope sLaw) := ⟨rfl, rfl, rfl, by decide +kernel, rfl, by decide +kernel, by decide +kernel⟩
/-- the statements from the n-th on -/
def Tail (P : Program) (w : World) (K : PySem.W.Frag) (mg : Str → Option Value) (base : Heap) (f : Addr) (cdv : Value) (A : Around) (outer : List Env) (s : Shared) (H : Hp) (E : XK) (Q : VK) (n : Nat) (Pre : L2.St → Hp → Prop) : Prop :=
  ∃ t, PSs (cxOf CX0 P w K mg base nLaw "law" (defScope sLaw) f cdv A outer s H E).nox ((defBody sLaw).drop n) t ∧ ∀ σ H', Pre σ H' → t { nx := fun _ H' => Q .non H', rt := Q } σ H'
variable {f C : Addr} {cdv : Value} {A : Around} {outer : List Env} {s : Shared} {H : Hp} {E : XK} {Q : VK}
theorem law_1 (M : Txt K mg) (L : LF P w K mg base C) (hr : Room 66 (A.deeper (envOfC "law" (defScope sLaw) s.heap.objs.size f cdv))) (R : Tail P w K mg base f cdv A outer s H E Q 5 LSt) :
    Tail P w K mg base f cdv A outer s H E Q 0 (fun σ H' => ∃ (a : Addr) (cs : List Int), σ = L2.start nLaw [.ref a] ∧ SqL K H' a (cs.map V.int) ∧ cs.length ≤ 63) := by
  obtain ⟨t, ht, q⟩ := R
  refine ⟨_, pss_cons (ps_set (i := 1) scLaw.nd rfl (.inl rfl) (pe_fn L.nums hr (by decide) (pa_cons (pv 0) (pa_cons pe_int pa_nil)) (by rfl)))
    (pss_cons (ps_set (i := 2) scLaw.nd rfl (.inl rfl) (pe_fn L.word hr (by decide) (pa_cons (pv 1) (pa_cons pe_int pa_nil)) (by rfl)))
    (pss_cons (ps_set (i := 3) scLaw.nd rfl (.inl rfl) (pe_fn L.term hr (by decide) (pa_cons (pv 1) (pa_cons pe_int (pa_cons (pv 2) (pa_cons pe_int pa_nil)))) (by rfl)))
    (pss_cons (ps_set (i := 4) scLaw.nd rfl (.inl rfl) (pe_fn L.like hr (by decide) (pa_cons (pv 1) (pa_cons pe_int (pa_cons (pv 3) (pa_cons (pv 2) pa_nil)))) (by rfl)))
    (pss_cons (ps_if (pt_cmpR op_eq (pe_op op_mod (pe_callTy call_int1 (by rfl) M.int bt_int (pa_cons (pe_ix ix_list (pv 1) pe_int (fun _ _ => rfl)) pa_nil)) pe_int) pe_int (nomark _))
      (pss_one (ps_set (i := 4) scLaw.nd rfl (.inl rfl) (pe_fn L.term hr (by decide) (pa_cons (pv 1) (pa_cons pe_int (pa_cons (pv 2) (pa_cons pe_int pa_nil)))) (by rfl)))) pss_nil) ht)))), ?_⟩
  rintro σ H0 ⟨a, cs, rfl, hs, hc⟩
  refine ⟨_, rfl, a, cs, rfl, hs, hc, fun an ns H1 en hnl hf => ?_⟩
  have hn : NumsAt H1 an ns := ⟨en, hnl, hf⟩
  refine ⟨_, rfl, an, ns, rfl, hn, fun nm ys H2 s2 hy => ?_⟩
  have hn2 := hn.same s2
  refine ⟨_, rfl, _, rfl, an, nm, ns, ys, 2, 7, rfl, hn2, hy, by decide, by decide, by decide, fun v1 t1 H3 s3 k1 g1 => ?_⟩
  have hn3 := hn2.same s3
  have hy3 := hy.same s3
  refine ⟨_, rfl, _, rfl, _, rfl, an, nm, ns, ys, v1, t1, rfl, hn3, hy3, k1, g1, fun v2 t2 H4 s4 k2 e2 f2 => ?_⟩
  have hn4 := hn3.same s4
  have hy4 := hy3.same s4
  have k14 := k1.same s4
  obtain ⟨n0, h0, _⟩ := hn4.at (i := 60) (by decide)
  refine ⟨_, rfl, an, _, _, _, rfl, rfl, SqL.of hn4.1, h0, .inl ⟨_, rfl, _, 2, rfl, rfl, (show (0 : Int) < 2 by decide), rfl, _, rfl, ite2 (fun _ => ?_) (fun _ => ?_)⟩⟩
  · refine ⟨_, rfl, _, rfl, an, nm, ns, ys, 45, 6, rfl, hn4, hy4, by decide, by decide, by decide, fun v3 t3 H5 s5 k3 g3 => ?_⟩
    exact q _ _ ⟨_, an, nm, v1, v3, _, _, _, _, _, _, ns, ys, t1, t3, rfl, hn4.same s5, hy4.same s5, k14.same s5, k3, g1, g3.fit (by decide), .inr g3⟩
  · exact q _ _ ⟨_, an, nm, v1, v2, _, _, _, _, _, _, ns, ys, t1, t2, rfl, hn4, hy4, k14, k2, g1, f2, .inl e2.symm⟩
end
end TP
/-! W16: the law, its second part. -/
namespace TP
open PySem PySem.Spec PyProof.Rows L2
section
variable {P : Program} {w : World} {K : PySem.W.Frag} {mg : Str → Option Value} {base : Heap}
variable {f C : Addr} {cdv : Value} {A : Around} {outer : List Env} {s : Shared} {H : Hp} {E : XK} {Q : VK}
theorem law_2 (M : Txt K mg) (L : LF P w K mg base C) (hr : Room 66 (A.deeper (envOfC "law" (defScope sLaw) s.heap.objs.size f cdv))) (R : Tail P w K mg base f cdv A outer s H E Q 8 LSt) :
    Tail P w K mg base f cdv A outer s H E Q 5 LSt := by
  obtain ⟨t, ht, q⟩ := R
  refine ⟨_, pss_cons (ps_set (i := 5) scLaw.nd rfl (.inl rfl) (pe_fn L.part hr (by decide) (pa_cons (pv 3) (pa_cons (pv 4) pa_nil)) (by rfl)))
    (pss_cons (ps_if (PW.pt (pw_or (pt_cmpR op_ne (pe_cmpR op_isN (pv 5) pe_non (nomark _)) (pe_fn L.eqv hr (by decide) (pa_cons (pv 3) (pa_cons (pv 4) pa_nil)) (by rfl)) (nomark _))
        (pw_or1 (pt_cmpR op_ne (pe_fn L.eqv hr (by decide) (pa_cons (pv 3) (pa_cons (pv 4) pa_nil)) (by rfl)) (pe_cmpR (op_eqT hr.units) (pe_fn L.plain hr (by decide) (pa_cons (pv 3) pa_nil) (by rfl)) (pe_fn L.plain hr (by decide) (pa_cons (pv 4) pa_nil) (by rfl)) (nomark _)) (nomark _)))))
      (pss_one (ps_ret pe_bl)) pss_nil)
    (pss_cons (ps_if (pt_cmpR op_notN (pv 5) pe_non (nomark _))
      (pss_cons (ps_for PassesOwn.never rfl (pi_list (pe_lst (pa_cons (pe_tup (pa_cons (pv 3) (pa_cons (pv 4) pa_nil)))
            (pa_cons (pe_tup (pa_cons (pe_fn L.plain hr (by decide) (pa_cons (pv 3) pa_nil) (by rfl)) (pa_cons (pe_fn L.plain hr (by decide) (pa_cons (pv 4) pa_nil) (by rfl)) pa_nil)))
            (pa_cons (pe_tup (pa_cons (pe_fn L.plain hr (by decide) (pa_cons (pv 3) pa_nil) (by rfl)) (pa_cons (pv 4) pa_nil))) pa_nil)))))
          (pg_tup rfl (pgs_cons (pg_name (i := 6) scLaw.nd rfl (.inl rfl)) (pgs_cons (pg_name (i := 7) scLaw.nd rfl (.inl rfl)) pgs_nil)))
        (pss_one (ps_if (pt_cmpR op_notBl (pe_fn L.chk hr (by decide) (pa_cons (pv 6) (pa_cons (pv 7) (pa_cons (pv 5) pa_nil))) (by rfl)) pe_bl (nomark _)) (pss_one (ps_ret pe_bl)) pss_nil)))
      (pss_one (ps_if (PW.pt (pw_or (pt_val (pe_fn L.chk hr (by decide) (pa_cons (pv 3) (pa_cons (pv 3) (pa_cons (pv 5) pa_nil))) (by rfl))) (pw_or1 (pt_val (pe_fn L.chk hr (by decide) (pa_cons (pv 4) (pa_cons (pv 3) (pa_cons (pv 5) pa_nil))) (by rfl))))))
        (pss_one (ps_ret pe_bl)) pss_nil))) pss_nil) ht)), ?_⟩
  rintro σ H1 ⟨y0, a, nm, v1, v2, y5, y6, y7, y8, y9, y10, ns, ys, t1, t2, rfl, hn, hy, k1, k2, g1, f2, h6⟩
  have f1 := g1.fit (by decide)
  have d1 := br_dp t1
  have d2 := br_dp t2
  have d3 := f1.2
  have d4 := f2.2
  have S2 : 2 ≤ sizeLine := by decide
  have done : ∀ (told : V) (y6 y7 : Option V) (H2 : Hp), Same H1 H2 → LSt [y0, some (.ref a), some (.ref nm), some v1, some v2, some told, y6, y7, y8, y9, y10, none, none] H2 := fun told y6 y7 H2 s2 =>
    ⟨_, a, nm, v1, v2, _, _, _, _, _, _, ns, ys, t1, t2, rfl, hn.same s2, hy.same s2, k1.same s2, k2.same s2, g1, f2, h6⟩
  refine ⟨_, rfl, _, rfl, v1, v2, t1, t2, rfl, k1, k2, f1, f2, fun hne p hp => ?_, fun hb H2 s2 => ?_, fun hb o H2 pl tr nk s2 pf told => ?_⟩
  · have g2 := h6.resolve_left hne
    rcases hp with h | h
    · have := g1.pt p h
      omega
    · have := g2.pt p h
      omega
  · -- told is None
    have e1 : V.bl (decide (V.non = V.non)) = V.bl (decide (br t1 = br t2)) := by
      rw [decide_eq_true hb]
      rfl
    refine ⟨_, rfl, rfl, _, rfl, _, rfl, v1, v2, t1, t2, rfl, k1.same s2, k2.same s2, f1, f2, fun H3 s3 => ⟨rfl, _, rfl, iteND e1 ?_⟩⟩
    have s13 := s2.trans s3
    refine ⟨_, rfl, _, rfl, v1, v2, t1, t2, rfl, k1.same s13, k2.same s13, f1, f2, fun H4 s4 => ?_⟩
    have s14 := s13.trans s4
    refine ⟨_, rfl, v1, t1, rfl, k1.same s14, f1, fun w1 H5 s5 l1 => ⟨_, rfl, v2, t2, rfl, k2.same (s14.trans s5), f2, fun w2 H6 s6 l2 => ⟨br t1, br t2, l1.same s6, l2, by omega, by omega, rfl, _, rfl, iteND rfl ?_⟩⟩⟩
    exact ⟨_, rfl, rfl, _, rfl, iteND rfl (q _ _ (done _ _ _ _ ((s14.trans s5).trans s6)))⟩
  · have e1 : V.bl (decide (V.ref o = V.non)) = V.bl (decide (br t1 = br t2)) := by
      rw [decide_eq_false hb, decide_eq_false (fun h => nomatch h)]
    refine ⟨_, rfl, rfl, _, rfl, _, rfl, v1, v2, t1, t2, rfl, k1.same s2, k2.same s2, f1, f2, fun H3 s3 => ⟨rfl, _, rfl, iteND e1 ?_⟩⟩
    have s13 := s2.trans s3
    refine ⟨_, rfl, _, rfl, v1, v2, t1, t2, rfl, k1.same s13, k2.same s13, f1, f2, fun H4 s4 => ?_⟩
    have s14 := s13.trans s4
    refine ⟨_, rfl, v1, t1, rfl, k1.same s14, f1, fun w1 H5 s5 l1 => ⟨_, rfl, v2, t2, rfl, k2.same (s14.trans s5), f2, fun w2 H6 s6 l2 => ⟨br t1, br t2, l1.same s6, l2, by omega, by omega, rfl, _, rfl, iteND rfl ?_⟩⟩⟩
    refine ⟨_, rfl, rfl, _, rfl, iteNF (fun h => nomatch h) ?_⟩
    have s16 := (s14.trans s5).trans s6
    have told6 := told.same ((s3.trans s4).trans (s5.trans s6))
    clear l1 l2 s5 s6 s14 s13 s4 s3 told e1
    -- the three pairs
    refine ⟨_, rfl, _, rfl, S2, fun p1 hp1 => ?_⟩
    have s7 := same_new (o := .tup [v1, v2]) hp1
    have ep1 := upd_same (H := H6) (a := p1) (o := .tup [v1, v2])
    generalize upd H6 p1 (.tup [v1, v2]) = H7 at *
    have s17 := s16.trans s7
    refine ⟨_, rfl, v1, t1, rfl, k1.same s17, f1, fun w1 H8 s8 l1 => ⟨_, rfl, v2, t2, rfl, k2.same (s17.trans s8), f2, fun w2 H9 s9 l2 => ⟨S2, fun p2 hp2 => ?_⟩⟩⟩
    have s10 := same_new (o := .tup [w1, w2]) hp2
    have ep2 := upd_same (H := H9) (a := p2) (o := .tup [w1, w2])
    have l1' := (l1.same s9).same s10
    have l2' := l2.same s10
    generalize upd H9 p2 (.tup [w1, w2]) = H10 at *
    have s7t := (s8.trans s9).trans s10
    have s110 := s17.trans s7t
    refine ⟨_, rfl, v1, t1, rfl, k1.same s110, f1, fun w3 H11 s11 l3 => ⟨_, rfl, S2, fun p3 hp3 => ?_⟩⟩
    have s12 := same_new (o := .tup [w3, v2]) hp3
    have ep3 := upd_same (H := H11) (a := p3) (o := .tup [w3, v2])
    have l3' := l3.same s12
    generalize upd H11 p3 (.tup [w3, v2]) = H12 at *
    refine ⟨(by show 3 ≤ sizeLine; decide), fun pL hpL => ?_⟩
    have s13 := same_new (o := .lst [V.ref p1, V.ref p2, V.ref p3]) hpL
    have epL := upd_same (H := H12) (a := pL) (o := .lst [V.ref p1, V.ref p2, V.ref p3])
    generalize upd H12 pL (.lst [V.ref p1, V.ref p2, V.ref p3]) = H13 at *
    have sX := (s11.trans s12).trans s13
    have sA := s110.trans sX
    have ep1' := sX _ _ (s7t _ _ ep1)
    have ep2' := sX _ _ ep2
    have ep3' := s13 _ _ ep3
    have l1'' := l1'.same sX
    have l2'' := l2'.same sX
    have l3'' := l3'.same s13
    have toldA := told6.same (s7.trans (s7t.trans sX))
    clear ep1 ep2 ep3 l1 l2 l3 l1' l2' l3' told6 hp1 hp2 hp3 hpL s7 s8 s9 s10 s11 s12 s13 s7t sX s17 s110 s16
    have p1in : br t1 ∈ pl := (pf.mem _).mpr (.inl (br_mem t1))
    have p2in : br t2 ∈ pl := (pf.mem _).mpr (.inr (br_mem t2))
    have c1 : ∀ p ∈ pts t1, p ∈ pl := fun p h => (pf.mem p).mpr (.inl h)
    have c2 : ∀ p ∈ pts t2, p ∈ pl := fun p h => (pf.mem p).mpr (.inr h)
    have c3 : ∀ p ∈ pts (br t1), p ∈ pl := pts_in pf.th.cl (br_nf k1.ok) p1in
    have c4 : ∀ p ∈ pts (br t2), p ∈ pl := pts_in pf.th.cl (br_nf k2.ok) p2in
    have nij : ixOf pl (br t1) ≠ ixOf pl (br t2) := fun e => hb (ixOf_inj p1in p2in e)
    refine ⟨pL, rfl, ⟨_, SqL.of epL⟩, for_list (K := K) (a := pL) (xs := [V.ref p1, V.ref p2, V.ref p3]) (fun i σ Hx => Same H13 Hx ∧ ∃ y6 y7, σ = [y0, some (.ref a), some (.ref nm), some v1, some v2, some (.ref o), y6, y7, y8, y9, y10, none, none]) ⟨Same.refl _, _, _, rfl⟩
      (fun i σ Hx _ ⟨sx, _⟩ => SqL.of (sx _ _ epL)) ?_ ?_⟩
    · rintro i z σ Hx hz ⟨sx, y6, y7, rfl⟩
      have hz' : ∃ p x y a' b, z = .ref p ∧ H13 p = some (.tup [x, y]) ∧ Tm H13 x a' ∧ Tm H13 y b ∧ Fit a' ∧ Fit b ∧ br a' = br t1 ∧ br b = br t2 ∧ (∀ p ∈ pts a', p ∈ pl) ∧ (∀ p ∈ pts b, p ∈ pl) := by
        rcases i with _ | _ | _ | i
        · exact ⟨p1, v1, v2, t1, t2, (Option.some.inj hz).symm, ep1', k1.same sA, k2.same sA, f1, f2, rfl, rfl, c1, c2⟩
        · exact ⟨p2, w1, w2, br t1, br t2, (Option.some.inj hz).symm, ep2', l1'', l2'', br_fit f1.1 f1.2, br_fit f2.1 f2.2, br_br k1.ok, br_br k2.ok, c3, c4⟩
        · exact ⟨p3, w3, v2, br t1, t2, (Option.some.inj hz).symm, ep3', l3'', k2.same sA, br_fit f1.1 f1.2, f2, br_br k1.ok, rfl, c3, c2⟩
        · simp at hz
      obtain ⟨p, x, y, a', b, rfl, ep, kx, ky, fx, fy, ex, ey, cx, cy⟩ := hz'
      refine ⟨p, _, rfl, SqT.of (sx _ _ ep), rfl, _, _, rfl, _, _, rfl, rfl, ?_⟩
      refine ⟨_, rfl, _, rfl, _, rfl, x, y, o, a', b, (pl.length : Int), tr, nk, _, _, fun t => ixOf pl (br t), rfl, kx.same sx, ky.same sx, fx, fy, toldA.same sx, Fine.of pf, pf.few.2.2, pf.vals, Come.of pf cx, Come.of pf cy, fun Hy sy => ?_⟩
      refine ⟨_, _, rfl, rfl, _, rfl, iteND (decide_eq_true ?_) ⟨sx.trans sy, _, _, rfl⟩⟩
      show ixOf pl (br a') ≠ ixOf pl (br b) ∧ ixOf pl (br a') = ixOf pl (br t1) ∧ ixOf pl (br b) = ixOf pl (br t2)
      rw [ex, ey]
      exact ⟨nij, rfl, rfl⟩
    · rintro σ Hx ⟨sx, y6, y7, rfl⟩
      have sAx := sA.trans sx
      refine ⟨_, rfl, _, rfl, _, rfl, v1, v1, o, t1, t1, (pl.length : Int), tr, nk, _, _, fun t => ixOf pl (br t), rfl, k1.same sAx, k1.same sAx, f1, f1, toldA.same sx, Fine.of pf, pf.few.2.2, pf.vals, Come.of pf c1, Come.of pf c1, fun Hy sy => ?_⟩
      refine ⟨_, rfl, iteDF (fun h => h.1 rfl) ?_⟩
      refine ⟨_, rfl, _, rfl, _, rfl, v2, v1, o, t2, t1, (pl.length : Int), tr, nk, _, _, fun t => ixOf pl (br t), rfl, k2.same (sAx.trans sy), k1.same (sAx.trans sy), f2, f1, toldA.same (sx.trans sy), Fine.of pf, pf.few.2.2, pf.vals, Come.of pf c2, Come.of pf c1, fun Hz sz => ?_⟩
      exact ⟨_, rfl, iteDF (fun h => nij h.2.1.symm) (q _ _ (done _ _ _ _ ((sAx.trans sy).trans sz)))⟩
end
end TP
/-! W17: the law, its third part. -/
namespace TP
open PySem PySem.Spec PyProof.Rows L2
theorem one1_dp {n : Str} {u : T} {k : Nat} (h : u.dp ≤ k) (y : Str) : (one1 n u y).dp ≤ k := by
  unfold one1
  split
  · exact h
  · exact Nat.zero_le _
theorem one1_lv {n : Str} {u : T} {k : Nat} (h : u.lv ≤ k) (h1 : 1 ≤ k) (y : Str) : (one1 n u y).lv ≤ k := by
  unfold one1
  split
  · exact h
  · exact h1
theorem one1_br (n : Str) (u : T) : (fun x => br (one1 n u x)) = one1 n (br u) := by
  funext y
  unfold one1
  split
  · rfl
  · rfl
theorem one1_eq {n : Str} {u t : T} (hu : u.ok) (ht : t.ok) : br (sub (one1 n u) t) = br (sub (one1 n (br u)) (br t)) := by
  rw [br_sub_br (r := one1 n u) (fun x hx => ?_) ht, one1_br]
  unfold one1
  split
  · exact hu
  · exact hx
theorem sub_fit {n : Str} {u t : T} (hu : u.lv ≤ 7 ∧ u.dp ≤ 4) (ht : t.lv ≤ 19 ∧ t.dp ≤ 12) : Fit (sub (one1 n u) t) := by
  have h1 := sub_dp (r := one1 n u) (one1_dp hu.2) t
  have h2 := sub_lv (r := one1 n u) (one1_lv hu.1 (by decide)) t
  have h3 : t.lv * 7 ≤ 19 * 7 := Nat.mul_le_mul_right _ ht.1
  exact ⟨by omega, by omega⟩
section
variable {P : Program} {w : World} {K : PySem.W.Frag} {mg : Str → Option Value} {base : Heap}
variable {f C : Addr} {cdv : Value} {A : Around} {outer : List Env} {s : Shared} {H : Hp} {E : XK} {Q : VK}
theorem law_3 (M : Txt K mg) (L : LF P w K mg base C) (hr : Room 66 (A.deeper (envOfC "law" (defScope sLaw) s.heap.objs.size f cdv))) (R : Tail P w K mg base f cdv A outer s H E Q 12 LSt) :
    Tail P w K mg base f cdv A outer s H E Q 8 LSt := by
  obtain ⟨t, ht, q⟩ := R
  refine ⟨_, pss_cons (ps_if (PW.pt (pw_or (pt_cmpR (op_neT hr.units) (pe_fn L.plain hr (by decide) (pa_cons (pe_fn L.plain hr (by decide) (pa_cons (pv 3) pa_nil) (by rfl)) pa_nil) (by rfl)) (pe_fn L.plain hr (by decide) (pa_cons (pv 3) pa_nil) (by rfl)) (nomark _))
        (pw_or1 (pt_not (pt_val (pe_fn L.isp hr (by decide) (pa_cons (pe_fn L.plain hr (by decide) (pa_cons (pv 4) pa_nil) (by rfl)) pa_nil) (by rfl)))))))
      (pss_one (ps_ret pe_bl)) pss_nil)
    (pss_cons (ps_set (i := 8) scLaw.nd rfl (.inl rfl) (pe_ix ix_list (pv 2) (pe_op op_mod (pe_callTy call_int1 (by rfl) M.int bt_int (pa_cons (pe_ix ix_list (pv 1) pe_int (fun _ _ => rfl)) pa_nil)) (pe_callB call_len (by rfl) M.len PySem.boot_len (pa_cons (pv 2) pa_nil))) (fun _ _ => rfl)))
    (pss_cons (ps_set (i := 9) scLaw.nd rfl (.inl rfl) (pe_fn L.term hr (by decide) (pa_cons (pv 1) (pa_cons pe_int (pa_cons (pv 2) (pa_cons pe_int pa_nil)))) (by rfl)))
    (pss_cons (ps_if (pt_cmpR (op_neT hr.units)
        (pe_fn L.plain hr (by decide) (pa_cons (pe_fn L.repl hr (by decide) (pa_cons (pv 3) (pa_cons (pe_disp (pps_cons (pv 8) (pv 9) pps_nil) rfl rfl (by simp) (by decide)) pa_nil)) (by rfl)) pa_nil) (by rfl))
        (pe_fn L.plain hr (by decide) (pa_cons (pe_fn L.repl hr (by decide) (pa_cons (pe_fn L.plain hr (by decide) (pa_cons (pv 3) pa_nil) (by rfl)) (pa_cons (pe_disp (pps_cons (pv 8) (pe_fn L.plain hr (by decide) (pa_cons (pv 9) pa_nil) (by rfl)) pps_nil) rfl rfl (by simp) (by decide)) pa_nil)) (by rfl)) pa_nil) (by rfl)) (nomark _))
      (pss_one (ps_ret pe_bl)) pss_nil) ht))), ?_⟩
  rintro σ H1 ⟨y0, a, nm, v1, v2, y5, y6, y7, y8, y9, y10, ns, ys, t1, t2, rfl, hn, hy, k1, k2, g1, f2, h6⟩
  have f1 := g1.fit (by decide)
  have d1 := br_dp t1
  have d2 := br_dp t2
  have d3 := f1.2
  have d4 := f2.2
  have b1 := br_fit f1.1 f1.2
  have b2 := br_fit f2.1 f2.2
  -- plain twice
  refine ⟨_, rfl, v1, t1, rfl, k1, f1, fun w1 H2 s2 l1 => ⟨w1, br t1, rfl, l1, b1, fun w2 H3 s3 l2 => ?_⟩⟩
  rw [br_br k1.ok] at l2
  have s13 := s2.trans s3
  refine ⟨_, rfl, v1, t1, rfl, k1.same s13, f1, fun w3 H4 s4 l3 => ⟨br t1, br t1, l2.same s4, l3, by omega, by omega, _, rfl, iteND rfl ?_⟩⟩
  have s14 := s13.trans s4
  refine ⟨_, rfl, v2, t2, rfl, k2.same s14, f2, fun w4 H5 s5 l4 => ⟨w4, br t2, rfl, l4, b2, fun H6 s6 => ⟨_, rfl, iteND (br_br k2.ok) ?_⟩⟩⟩
  have s16 := (s14.trans s5).trans s6
  clear l1 l2 l3 l4 s13 s14 s2 s3 s4 s5 s6
  have hn6 := hn.same s16
  have hy6 := hy.same s16
  -- name, small
  obtain ⟨n0, h0, _⟩ := hn6.at (i := 61) (by decide)
  obtain ⟨y, hy0, hym⟩ := hy6.at n0
  refine ⟨_, rfl, _, rfl, a, _, _, _, rfl, rfl, SqL.of hn6.1, h0, .inl ⟨_, rfl, _, rfl, _, _, rfl, .inl ⟨_, SqL.of hy6.1, rfl⟩, _, _, rfl, rfl, (by rw [List.length_map]; have := hy.2.1; omega), nm, _, _, _, rfl, rfl, SqL.of hy6.1, hy0, ?_⟩⟩
  refine ⟨_, rfl, _, rfl, a, nm, ns, ys, 66, 3, rfl, hn6, hy6, by decide, by decide, by decide, fun vs ts H7 s7 ks gs => ?_⟩
  have s17 := s16.trans s7
  have k17 := k1.same s17
  have fs := gs.fit (by decide)
  have gs1 := gs.lv
  have gs2 := gs.dp
  have g11 := g1.lv
  have g12 := g1.dp
  have bs := br_fit fs.1 fs.2
  have bs1 := br_lv ts
  have bs2 := br_dp ts
  have bt1 := br_lv t1
  have F1 : Fit (sub (one1 y ts) t1) := sub_fit ⟨by omega, by omega⟩ ⟨by omega, by omega⟩
  have F2 : Fit (sub (one1 y (br ts)) (br t1)) := sub_fit ⟨by omega, by omega⟩ ⟨by omega, by omega⟩
  have B1 := br_dp (sub (one1 y ts) t1)
  have B2 := br_dp (sub (one1 y (br ts)) (br t1))
  have F12 := F1.2
  have F22 := F2.2
  -- the replaced ones
  refine ⟨_, rfl, fun p hp => ⟨_, rfl, _, rfl, upd_same, [(Sum.inr y, vs)], rfl, (show 1 ≤ 15 by decide), ?_⟩⟩
  have s8 : Same H7 (upd (upd H7 p (.dK [])) p (.dK (mergeK [] [((Sum.inr y : Key), vs)]))) := same_upd (same_new hp) hp
  have ep := upd_same (H := upd H7 p (.dK [])) (a := p) (o := .dK (mergeK [] [((Sum.inr y : Key), vs)]))
  generalize upd (upd H7 p (.dK [])) p (.dK (mergeK [] [((Sum.inr y : Key), vs)])) = H8 at *
  refine ⟨v1, t1, p, y, vs, ts, rfl, k17.same s8, f1, ep, ks.same s8, fs, F1.1, fun r1 H9 s9 m1 => ?_⟩
  refine ⟨r1, _, rfl, m1, F1, fun w5 H10 s10 m2 => ?_⟩
  have s710 := (s8.trans s9).trans s10
  refine ⟨_, rfl, v1, t1, rfl, k17.same s710, f1, fun w6 H11 s11 m3 => ?_⟩
  have s711 := s710.trans s11
  intro p2 hp2
  have s12 := same_new (o := .dK []) hp2
  have ep20 := upd_same (H := H11) (a := p2) (o := .dK [])
  generalize upd H11 p2 (.dK []) = H12 at *
  have s712 := s711.trans s12
  refine ⟨_, rfl, _, rfl, vs, ts, rfl, ks.same s712, fs, fun w7 H13 s13 m4 => ?_⟩
  refine ⟨s13 _ _ ep20, [(Sum.inr y, w7)], rfl, (show 1 ≤ 15 by decide), ?_⟩
  have s14 : Same H11 (upd H13 p2 (.dK (mergeK [] [((Sum.inr y : Key), w7)]))) := same_upd (s12.trans s13) hp2
  have ep2 := upd_same (H := H13) (a := p2) (o := .dK (mergeK [] [((Sum.inr y : Key), w7)]))
  have kp : ∀ b zs, H13 b = some (.tup zs) → (upd H13 p2 (.dK (mergeK [] [((Sum.inr y : Key), w7)]))) b = some (.tup zs) := fun b zs e => by
    rw [upd_ne (ne_of e (s13 _ _ ep20) (fun z => nomatch z))]
    exact e
  have m4' := m4.keep kp
  generalize upd H13 p2 (.dK (mergeK [] [((Sum.inr y : Key), w7)])) = H14 at *
  refine ⟨w6, br t1, p2, y, w7, br ts, rfl, m3.same s14, b1, ep2, m4', bs, F2.1, fun r2 H15 s15 m5 => ?_⟩
  refine ⟨r2, _, rfl, m5, F2, fun w8 H16 s16' m6 => ?_⟩
  refine ⟨_, _, m2.same (s11.trans (s14.trans (s15.trans s16'))), m6, by omega, by omega, _, rfl, iteND (one1_eq ks.ok k1.ok) ?_⟩
  have sE := (s17.trans s711).trans (s14.trans (s15.trans s16'))
  exact q _ _ ⟨_, a, nm, v1, v2, _, _, _, _, _, _, ns, ys, t1, t2, rfl, hn.same sE, hy.same sE, k1.same sE, k2.same sE, g1, f2, h6⟩
end
end TP
/-! W18: names in their order; lists of names compared. -/
namespace TP
open PySem PySem.Spec PyProof.Rows L2
/-! ### names in their order -/
def leN : Str → Str → Bool := PySem.W.dataLe false fun y => kD (nameT y)
theorem leN_total : PySem.W.TotalLe leN := by
  unfold leN PySem.W.dataLe
  exact PySem.W.sortLe_total _ _ _
theorem leN_lt (x y : Str) : leN x y = !lt (.nm y) (.nm x) := by
  show PySem.W.dataLe false (fun y => kD (nameT y)) x y = _
  rw [PySem.W.dataLe_eq]
  show (!PySem.W.dataLt (kD (V.str y, T.nm y)) (kD (V.str x, T.nm x))) = _
  rw [kD_lt]
theorem leN_anti {x y : Str} (hx : okN x) (hy : okN y) (h : leN x y = true) (k : leN y x = true) : x = y := by
  rw [leN_lt] at h k
  have h' : lt (.nm y) (.nm x) = false := by simpa using h
  have k' : lt (.nm x) (.nm y) = false := by simpa using k
  exact T.nm.inj (lt_total (a := .nm x) (b := .nm y) hx hy k' h')
theorem small_eq {l m : List Str} (p : l.Perm m) (nd : l.Nodup) (h : ∀ x ∈ l, ∀ y ∈ l, x = y) : l = m := by
  rcases l with _ | ⟨x, _ | ⟨y, r⟩⟩
  · exact (List.perm_nil.mp p.symm).symm
  · exact (List.perm_singleton.mp p.symm).symm
  · have := h x (by simp) y (by simp)
    rw [this] at nd
    simp at nd
theorem sort_names {l m : List Str} (p : l.Perm m) (nd : l.Nodup) (ok : ∀ x ∈ l, okN x) : l.mergeSort leN = m.mergeSort leN := by
  refine PySem.W.sort_unique leN_total (PySem.W.sort_pairwise leN_total l) fun c => ?_
  rw [PySem.W.sort_stable leN_total]
  refine small_eq (p.filter _) (nd.filter _) fun x hx y hy => ?_
  obtain ⟨hx1, hx2⟩ := List.mem_filter.mp hx
  obtain ⟨hy1, hy2⟩ := List.mem_filter.mp hy
  unfold PySem.W.sameRank at hx2 hy2
  rw [Bool.and_eq_true] at hx2 hy2
  exact leN_anti (ok x hx1) (ok y hy1) (leN_total.trans _ _ _ hx2.2 hy2.1) (leN_total.trans _ _ _ hy2.2 hx2.1)
theorem sort_forms (l : List Str) : ((l.map nameT).mergeSort (PySem.W.dataLe false kD)).map (·.1) = (l.mergeSort leN).map V.str := by
  have h := PySem.W.sort_maps (r := leN) (s := PySem.W.dataLe false kD) nameT (l := l) fun a _ b _ => rfl
  rw [← h, List.map_map]
  rfl
/-! ### pairs of a length and a name -/
def nmD (b : Addr × Str) : PyData := kD (nameT b.2)
theorem nmD_eq (b : Addr × Str) : nmD b = .tuple [.int (b.2.length : Nat), .str b.2] := by
  have h1 : (T.nm b.2).tx.length = b.2.length := Array.length_toList
  have h2 : txS (.nm b.2) = b.2 := ext_cps (by show (⟨(T.nm b.2).tx.toArray⟩ : Str).cps.toList = _; rfl)
  show PyData.tuple [.int ((T.nm b.2).tx.length : Nat), .str (txS (.nm b.2))] = _
  rw [h1, h2]
theorem sort_pairs (bs : List (Addr × Str)) : (bs.mergeSort (PySem.W.dataLe false nmD)).map (·.2) = (bs.map (·.2)).mergeSort leN :=
  PySem.W.sort_maps (r := PySem.W.dataLe false nmD) (s := leN) (·.2) (l := bs) fun a _ b _ => rfl
def rSortNm (K : PySem.W.Frag) : List V → Hp → VK → Prop := fun vs H Q => ∃ (a : Addr) (bs : List (Addr × Str)), vs = [.ref a] ∧ SqL K H a ((bs.map (·.1)).map V.ref) ∧ (∀ b ∈ bs, H b.1 = some (.tup [.int (b.2.length : Nat), .str b.2])) ∧ bs.length ≤ 1000 ∧
  ∀ p : Addr, H p = none → Q (.ref p) (upd H p (.lst (((bs.mergeSort (PySem.W.dataLe false nmD)).map (·.1)).map V.ref)))
theorem cr_sortNm {X : Cx} (hu : X.A.units + 64 < cLine) : CallR X (.builtin "sorted") (rSortNm X.K) := by
  intro pins s σ H vs us Q I r h
  obtain ⟨a, bs, rfl, hs, hr, hl, q⟩ := h
  obtain rfl := Vals.ref1 r
  obtain ⟨its, rv, hlist, hz⟩ := I.list hs
  have hrd : PySem.W.EachIs (fun (v : Value) (b : Addr × Str) => ∃ as, Reads s.heap v (nmD b) as) its bs := by
    have : ∀ {bs : List (Addr × Str)} {us : List Value}, Vals ((bs.map (·.1)).map V.ref) us → (∀ b ∈ bs, H b.1 = some (.tup [.int (b.2.length : Nat), .str b.2])) → PySem.W.EachIs (fun (v : Value) (b : Addr × Str) => ∃ as, Reads s.heap v (nmD b) as) us bs := by
      intro bs
      induction bs with
      | nil =>
        intro us r _
        cases r
        exact .nil
      | cons b bs ih =>
        intro us r hb
        have r' : Vals (V.ref b.1 :: (bs.map (·.1)).map V.ref) us := r
        cases r' with
        | cons h t =>
          refine .cons ?_ (ih t fun c hc => hb c (List.mem_cons_of_mem _ hc))
          exact Dp.reads I (nmD b) (.ref b.1) _ (by rw [nmD_eq]; exact .tup (.inl (.inl (hb b List.mem_cons_self))) (.cons (.int _) (.cons (.str _) .nil))) h
    exact this rv hr
  have hrefs : PySem.W.EachIs (fun (u : Value) (b : Addr × Str) => u = .ref b.1) its bs := by
    have : ∀ {bs : List (Addr × Str)} {us : List Value}, Vals ((bs.map (·.1)).map V.ref) us → PySem.W.EachIs (fun (u : Value) (b : Addr × Str) => u = .ref b.1) us bs := by
      intro bs
      induction bs with
      | nil =>
        intro us r
        cases r
        exact .nil
      | cons b bs ih =>
        intro us r
        have r' : Vals (V.ref b.1 :: (bs.map (·.1)).map V.ref) us := r
        cases r' with
        | cons h t => exact .cons h (ih t)
    exact this rv
  have hout : ∀ {bs : List (Addr × Str)} {us : List Value}, PySem.W.EachIs (fun (u : Value) (b : Addr × Str) => u = .ref b.1) us bs → Vals ((bs.map (·.1)).map V.ref) us := by
    intro bs us e
    induction e with
    | nil => exact .nil
    | cons h _ ih => exact .cons h ih
  refine PySem.W.sorted_data (enc := nmD) hlist.isList hrefs hrd (.of fun b b' => kD_alike _ _) (.tuples fun b => ⟨_, _, nmD_eq b⟩) (Nat.le_trans hl (by decide)) (fun b _ => by rw [show (nmD b).depth = 1 from kD_depth _]; omega) fun out ho he => ?_
  obtain ⟨ep, hat⟩ := PyProof.Rows.sortedAll_at s.heap its (List.toArray out)
  have hperm : (bs.mergeSort (PySem.W.dataLe false nmD)).Perm bs := List.mergeSort_perm _ _
  have hfree : H (s.heap.objs.size + 1) = none := I.hok.fresh (Nat.le_succ _)
  have hl2 : (bs.mergeSort (PySem.W.dataLe false nmD)).length = bs.length := hperm.length_eq
  exact ⟨.ref _, upd H (s.heap.objs.size + 1) (.lst (((bs.mergeSort (PySem.W.dataLe false nmD)).map (·.1)).map V.ref)), I.laid (t' := s.toks) (fun _ _ => PyProof.Rows.sortedAll_old) (Nat.le_succ _) ⟨by rw [List.length_map, List.length_map, hl2]; exact Nat.le_trans hl (by decide), out, ep, hout he, hat⟩, rfl, q _ hfree⟩
/-! ### lists of names -/
theorem names_data {K : PySem.W.Frag} {H : Hp} : ∀ zs : List Str, DpAll K H (zs.map V.str) (zs.map PyData.str)
  | [] => .nil
  | z :: zs => .cons (.str z) (names_data zs)
theorem names_lay : ∀ {zs : List Str}, (∀ z ∈ zs, okN z) → PyData.canLayAll0 (zs.map PyData.str) = true ∧ PyData.depthAll (zs.map PyData.str) = 0
  | [], _ => ⟨rfl, rfl⟩
  | z :: zs, h => by
    obtain ⟨h1, h2⟩ := names_lay fun x hx => h x (List.mem_cons_of_mem _ hx)
    have h3 := okN_str (h z List.mem_cons_self)
    simp [PyData.canLayAll0, PyData.canLay0, PyData.depthAll, PyData.depth, h1, h2, h3]
theorem names_shaped {zs : List Str} (h : ∀ z ∈ zs, okN z) : SeqAt.shaped (.list (zs.map PyData.str)) = true := by
  obtain ⟨h1, h2⟩ := names_lay h
  show ((PyData.list (zs.map PyData.str)).canLay0 && decide ((PyData.list (zs.map PyData.str)).depth ≤ 64)) = true
  simp [PyData.canLay0, PyData.depth, h1, h2]
section
variable {X : Cx}
def rNeSame : R2 := fun x y H Q => ∃ (p q : Addr) (zs : List Str), x = .ref p ∧ y = .ref q ∧ H p = some (.lst (zs.map V.str)) ∧ H q = some (.lst (zs.map V.str)) ∧ (∀ z ∈ zs, okN z) ∧ Q (.bl false) H
theorem op_neSame (hu : X.A.units + 64 < cLine) : OpR X (compareOp .NotEq) rNeSame := by
  intro pins s σ H x y v u Q I rx ry h
  obtain ⟨p, q, zs, rfl, rfl, ep, eq, ok, k⟩ := h
  have hl := names_shaped ok
  refine op_neD hu pins s σ H _ _ v u Q I rx ry ⟨.list (zs.map PyData.str), .list (zs.map PyData.str), .lst (SqL.of ep) (names_data zs), .lst (SqL.of eq) (names_data zs), hl, hl, ?_⟩
  rw [SeqAt.eqv_refl _ (SeqAt.canLay_of_shaped hl)]
  exact k
/-- a pair is in no list of names -/
def rInNms : R2 := fun x y H Q => ∃ (l r : T) (p : Addr) (zs : List Str), Tm H x (.pr l r) ∧ (T.pr l r).dp ≤ 60 ∧ y = .ref p ∧ H p = some (.lst (zs.map V.str)) ∧ (∀ z ∈ zs, okN z) ∧ Q (.bl false) H
theorem op_inNms (hu : X.A.units + 65 < cLine) : OpR X (compareOp .In) rInNms := by
  intro pins s σ H x y v u Q I rx ry h
  obtain ⟨l, r, p, zs, ht, hd, rfl, ep, ok, k⟩ := h
  refine op_inD hu pins s σ H _ _ v u Q I rx ry ⟨tD (.pr l r), zs.map PyData.str, ht.dat, .lst (SqL.of ep) (names_data zs), tD_shaped ht.ok (by omega), names_shaped ok, ?_⟩
  have e : ((zs.map PyData.str).any fun z => PyData.eqv z (tD (.pr l r))) = false := by
    rw [List.any_eq_false]
    intro d hd
    obtain ⟨z, _, rfl⟩ := List.mem_map.mp hd
    have := tD_eqv (.nm z) (.pr l r)
    rw [show tD (.nm z) = .str z from rfl] at this
    rw [this]
    simp
  rw [e]
  exact k
end
end TP
/-! W19: the law, its fourth part. -/
namespace TP
open PySem PySem.Spec PyProof.Rows L2
theorem br_two {x y : Str} (h : x ≠ y) : ∃ l r, br (.pr (.nm x) (.nm y)) = .pr l r ∧ (T.pr l r).dp ≤ 60 := by
  have hn : T.nm x ≠ T.nm y := fun e => h (T.nm.inj e)
  cases e : lt (.nm x) (.nm y) with
  | true => exact ⟨_, _, jo_lt (a := .nm x) (b := .nm y) hn rfl rfl e, by show max 0 0 + 1 ≤ 60; omega⟩
  | false => exact ⟨_, _, jo_gt (a := .nm x) (b := .nm y) hn rfl rfl e, by show max 0 0 + 1 ≤ 60; omega⟩
section
variable {P : Program} {w : World} {K : PySem.W.Frag} {mg : Str → Option Value} {base : Heap}
variable {f C : Addr} {cdv : Value} {A : Around} {outer : List Env} {s : Shared} {H : Hp} {E : XK} {Q : VK}
theorem law_4 (M : Txt K mg) (L : LF P w K mg base C) (hr : Room 66 (A.deeper (envOfC "law" (defScope sLaw) s.heap.objs.size f cdv))) (R : Tail P w K mg base f cdv A outer s H E Q 14 LSt) :
    Tail P w K mg base f cdv A outer s H E Q 12 LSt := by
  obtain ⟨t, ht, q⟩ := R
  have hu := hu65 hr
  refine ⟨_, pss_cons (ps_if (pt_cmpR (op_neSame hr.units) (pe_fnD L.forms hr (by decide) (pa_cons (pv 2) (pa_cons pe_int pa_nil)) (by rfl))
        (pe_lc (own := [("_law_pair", 11)]) (g := gName 11) (tt := tYes) rfl scLaw.nd
          (pi_list (pe_callB (cr_sortNm hr.units) (by rfl) M.srt bt_sorted (pa_cons (pe_lc (own := [("_law_name", 8)]) (g := gName 8) (tt := tYes) rfl scLaw.nd (pi_list (pv 2)) (blkOk_by (own := [("_law_name", 8)]) (N := nLaw) (sc := defScope sLaw) (by decide +kernel))
            (fun _ _ _ _ _ => pg_name (i := 8) scLaw.nd rfl (Or.inl rfl)) (fun _ _ _ _ _ => pts_nil) (fun _ _ _ _ _ => pe_tup (pa_cons (pe_callB (crLen (K := K) rfl) (by rfl) M.len PySem.boot_len (pa_cons (pv 8) pa_nil)) (pa_cons (pv 8) pa_nil)))) pa_nil)))
          (blkOk_by (own := [("_law_pair", 11)]) (N := nLaw) (sc := defScope sLaw) (by decide +kernel))
          (fun _ _ _ _ _ => pg_name (i := 11) scLaw.nd rfl (Or.inl rfl)) (fun _ _ _ _ _ => pts_nil) (fun _ _ _ _ _ => pe_ix (ixT (K := K) rfl) (pv 11) pe_int (fun _ _ => rfl))) (nomark _))
      (pss_one (ps_ret pe_bl)) pss_nil)
    (pss_cons (ps_if (PW.pt (pw_and (pt_cmpR op_gt (pe_callB call_len (by rfl) M.len PySem.boot_len (pa_cons (pv 2) pa_nil)) pe_int (nomark _))
        (pw_and1 (PW.pt (pw_or (pt_cmpR op_isN (pe_fn L.part hr (by decide) (pa_cons (pe_ix ix_list (pv 2) pe_int (fun _ _ => rfl)) (pa_cons (pe_ix ix_list (pv 2) pe_int (fun _ _ => rfl)) pa_nil)) (by rfl)) pe_non (nomark _))
          (pw_or1 (pt_cmpR (op_inNms hu) (pe_fn L.plain hr (by decide) (pa_cons (pe_tup (pa_cons (pe_ix ix_list (pv 2) pe_int (fun _ _ => rfl)) (pa_cons (pe_ix ix_list (pv 2) pe_int (fun _ _ => rfl)) pa_nil))) pa_nil) (by rfl)) (pv 2) (by rfl))))))))
      (pss_one (ps_ret pe_bl)) pss_nil) ht), ?_⟩
  rintro σ H1 ⟨y0, a, nm, v1, v2, y5, y6, y7, y8, y9, y10, ns, ys, t1, t2, rfl, hn, hy, k1, k2, g1, f2, h6⟩
  obtain ⟨ey, hl1, hl4, hok, hnd⟩ := id hy
  have S2 : 2 ≤ sizeLine := by decide
  refine ⟨_, rfl, nm, ys, 1, rfl, ey, hok, hnd, hl4, Nat.le_refl _, by decide, .inl rfl, fun p H2 xs ts s2 e2 _ _ _ hp1 => ?_⟩
  obtain ⟨zs, hperm, exs⟩ := hp1 rfl
  rw [sort_forms, sort_names hperm ((List.Perm.nodup_iff hperm).mpr hnd) (fun x hx => hok x (hperm.mem_iff.mp hx))] at exs
  rw [exs] at e2
  have ey2 := s2 _ _ ey
  refine ⟨_, rfl, nm, rfl, ⟨_, SqL.of ey2⟩, fun D hD => lc_list (K := K) (a := nm) (xs := ys.map V.str) (fun i H' => Same H2 H' ∧ ∃ bs : List (Addr × Str), H' D = some (.lst ((bs.map (·.1)).map V.ref)) ∧ bs.map (·.2) = ys.take i ∧ ∀ b ∈ bs, H' b.1 = some (.tup [.int (b.2.length : Nat), .str b.2]))
    ⟨same_new hD, [], upd_same, (by rw [List.take_zero]; rfl), (fun b h => nomatch h)⟩ (fun i H' _ ⟨s, _⟩ => SqL.of (s _ _ ey2)) ?_ ?_⟩
  · rintro i z H' hz ⟨s3, bs, eD, hbs, hb⟩
    rw [List.getElem?_map] at hz
    obtain ⟨y, hy1, rfl⟩ := Option.map_eq_some_iff.mp hz
    have okl : y.length ≤ sizeLine := by
      have h12 : y.length ≤ 12 := (hok y (List.mem_of_getElem? hy1)).1
      exact Nat.le_of_lt (big8 (by omega))
    have hbl : bs.length ≤ 4 := by
      have := congrArg List.length hbs
      rw [List.length_map, List.length_take] at this
      omega
    refine ⟨rfl, ⟨_, rfl, .str y, y.length, rfl, ⟨okl, rfl⟩, _, rfl, S2, fun pt hpt => ?_⟩⟩
    have s4 := same_new (o := .tup [V.int (y.length : Nat), V.str y]) hpt
    have eD4 := s4 _ _ eD
    have nDp : pt ≠ D := fun e => by
      rw [e, eD] at hpt
      cases hpt
    refine ⟨_, eD4, by rw [List.length_map, List.length_map]; exact big8 (by omega), same_upd (s3.trans s4) hD, bs ++ [(pt, y)], by rw [upd_same, List.map_append, List.map_append]; rfl, ?_, fun b hb' => ?_⟩
    · rw [List.map_append, hbs, List.take_add_one, hy1]
      rfl
    · rcases List.mem_append.mp hb' with h | h
      · have e := s4 _ _ (hb b h)
        rw [upd_ne (ne_of e eD4 (fun z => nomatch z))]
        exact e
      · rw [List.mem_singleton.mp h]
        show (upd (upd H' pt _) D _) pt = _
        rw [upd_ne nDp, upd_same]
  · rintro H3 ⟨s3, bs, eD, hbs, hb⟩
    rw [List.length_map, List.take_length] at hbs
    have hbl : bs.length ≤ 4 := by
      have := congrArg List.length hbs
      rw [List.length_map] at this
      omega
    refine ⟨D, bs, rfl, SqL.of eD, hb, by omega, fun p2 hp2 => ?_⟩
    have hperm2 : (bs.mergeSort (PySem.W.dataLe false nmD)).Perm bs := List.mergeSort_perm _ _
    have hsp := sort_pairs bs
    rw [hbs] at hsp
    have hsl : (bs.mergeSort (PySem.W.dataLe false nmD)).length = bs.length := hperm2.length_eq
    have hsb : ∀ b ∈ bs.mergeSort (PySem.W.dataLe false nmD), H3 b.1 = some (.tup [.int (b.2.length : Nat), .str b.2]) := fun b h => hb b (hperm2.mem_iff.mp h)
    generalize bs.mergeSort (PySem.W.dataLe false nmD) = cs at *
    have s4 := same_new (o := .lst ((cs.map (·.1)).map V.ref)) hp2
    have ep2 := upd_same (H := H3) (a := p2) (o := .lst ((cs.map (·.1)).map V.ref))
    generalize upd H3 p2 (.lst ((cs.map (·.1)).map V.ref)) = H4 at *
    refine ⟨p2, rfl, ⟨_, SqL.of ep2⟩, fun D2 hD2 => lc_list (K := K) (a := p2) (xs := (cs.map (·.1)).map V.ref) (fun i H' => Same H4 H' ∧ H' D2 = some (.lst (((cs.take i).map (·.2)).map V.str))) ⟨same_new hD2, by rw [upd_same, List.take_zero]; rfl⟩
      (fun i H' _ ⟨s, _⟩ => SqL.of (s _ _ ep2)) ?_ ?_⟩
    · rintro i z H' hz ⟨s5, eD2⟩
      rw [List.getElem?_map, List.getElem?_map] at hz
      obtain ⟨pz, hpz, rfl⟩ := Option.map_eq_some_iff.mp hz
      obtain ⟨b, hb1, rfl⟩ := Option.map_eq_some_iff.mp hpz
      have hi : i < cs.length := (List.getElem?_eq_some_iff.mp hb1).1
      refine ⟨rfl, ⟨_, rfl, b.1, _, _, _, rfl, rfl, SqT.of ((s4.trans s5) _ _ (hsb b (List.mem_of_getElem? hb1))), atI_nat (j := 1) rfl, _, eD2, ?_, same_upd s5 hD2, ?_⟩⟩
      · rw [List.length_map, List.length_map, List.length_take]
        exact big8 (by omega)
      · rw [upd_same, List.take_add_one, hb1, List.map_append, List.map_append]
        rfl
    · rintro H5 ⟨s5, eD2⟩
      rw [List.length_map, List.length_map, List.take_length, hsp] at eD2
      have s25 := s3.trans (s4.trans s5)
      refine ⟨p, D2, _, rfl, rfl, s25 _ _ e2, eD2, fun z hz => hok z ((List.mergeSort_perm _ _).mem_iff.mp hz), false, rfl, iteF ?_⟩
      have s15 := s2.trans s25
      have ey5 := s15 _ _ ey
      have done : ∀ H6 : Hp, Same H5 H6 → LSt [y0, some (.ref a), some (.ref nm), some v1, some v2, y5, y6, y7, y8, y9, y10, none, none] H6 := fun H6 s6 =>
        ⟨_, a, nm, v1, v2, _, _, _, _, _, _, ns, ys, t1, t2, rfl, hn.same (s15.trans s6), hy.same (s15.trans s6), k1.same (s15.trans s6), k2.same (s15.trans s6), g1, f2, h6⟩
      refine ⟨_, rfl, _, _, rfl, .inl ⟨_, SqL.of ey5, rfl⟩, _, 1, rfl, rfl, _, rfl, ite2 (fun g => ?_) (fun g => iteF (q _ _ (done _ (Same.refl _))))⟩
      have g' := of_decide_eq_true g
      rw [List.length_map] at g'
      rcases ys with _ | ⟨x0, _ | ⟨x1, rest⟩⟩
      · simp at g'
      · simp at g'
      · have hne : x0 ≠ x1 := fun e => by
          rw [e] at hnd
          simp at hnd
        have ok0 := hok x0 (by simp)
        have ok1 := hok x1 (by simp)
        have F0 : ∀ x : Str, Fit (.nm x) := fun x => ⟨by show 1 ≤ 200; decide, by show 0 ≤ 20; decide⟩
        refine ⟨_, rfl, nm, _, _, _, rfl, rfl, SqL.of ey5, atI_nat (j := 0) rfl, _, rfl, nm, _, _, _, rfl, rfl, SqL.of ey5, atI_nat (j := 1) rfl, .str x0, .str x1, .nm x0, .nm x1, rfl, .nm ok0, .nm ok1, F0 x0, F0 x1, fun _ p hp => ?_, fun hb => absurd (T.nm.inj hb) hne, fun hb o H6 pl tr nk s6 pf told => ?_⟩
        · have : p.dp = 0 := by
            rcases hp with h | h
            · rw [List.mem_singleton.mp h]
              rfl
            · rw [List.mem_singleton.mp h]
              rfl
          omega
        · have ey6 := s6 _ _ ey5
          refine ⟨rfl, _, rfl, iteDF (fun h => nomatch h) ?_⟩
          refine ⟨_, rfl, nm, _, _, _, rfl, rfl, SqL.of ey6, atI_nat (j := 0) rfl, _, rfl, nm, _, _, _, rfl, rfl, SqL.of ey6, atI_nat (j := 1) rfl, S2, fun pt hpt => ?_⟩
          have s7 := same_new (o := .tup [V.str x0, V.str x1]) hpt
          obtain ⟨l, r, eb, hd⟩ := br_two hne
          refine ⟨.ref pt, .pr (.nm x0) (.nm x1), rfl, .pr upd_same (.nm ok0) (.nm ok1), ⟨by show 1 + 1 ≤ 200; decide, by show max 0 0 + 1 ≤ 20; decide⟩, fun v H8 s8 t8 => ?_⟩
          rw [eb] at t8
          exact ⟨_, rfl, l, r, nm, _, t8, hd, rfl, s8 _ _ (s7 _ _ ey6), hok, false, rfl, iteF (q _ _ (done _ (s6.trans (s7.trans s8))))⟩
end
end TP
/-! W20: the law, its last part, and the whole. -/
namespace TP
open PySem PySem.Spec PyProof.Rows L2
theorem cut3 (ys : List Str) : ∃ zs : List Str, cutV (ys.map V.str) none (some 3) = zs.map V.str ∧ zs.length ≤ 3 ∧ zs.Sublist ys := by
  unfold cutV
  have h1 : HT.sIx (ys.map V.str).length 0 none = 0 := rfl
  have h2 := HT.sIx_nat (ys.map V.str).length (ys.map V.str).length 3
  have h2' : HT.sIx (ys.map V.str).length (ys.map V.str).length (some 3) = min 3 (ys.map V.str).length := h2
  rw [h1, h2']
  refine ⟨ys.take (min 3 (ys.map V.str).length), by rw [List.drop_zero, Nat.sub_zero, ← List.map_take], ?_, List.take_sublist _ _⟩
  rw [List.length_take]
  omega
theorem TmL.at {H : Hp} {xs : List V} {ts : List T} (h : TmL H xs ts) (hx : 0 < xs.length) (n : Nat) : ∃ x t, atI xs ((n : Int) % (xs.length : Int)) = some x ∧ t ∈ ts ∧ Tm H x t := by
  have hm : n % xs.length < xs.length := Nat.mod_lt _ hx
  have e : (n : Int) % (xs.length : Int) = ((n % xs.length : Nat) : Int) := rfl
  obtain ⟨t, ht, htm⟩ := h.get (List.getElem?_eq_getElem hm)
  exact ⟨_, t, by rw [e]; exact atI_nat (List.getElem?_eq_getElem hm), List.mem_of_getElem? ht, htm⟩
section
variable {P : Program} {w : World} {K : PySem.W.Frag} {mg : Str → Option Value} {base : Heap}
section
variable {f C : Addr} {cdv : Value} {A : Around} {outer : List Env} {s : Shared} {H : Hp} {E : XK} {Q : VK}
theorem law_5 (M : Txt K mg) (L : LF P w K mg base C) (hr : Room 66 (A.deeper (envOfC "law" (defScope sLaw) s.heap.objs.size f cdv))) (hQ : ∀ H', Q (.bl true) H') :
    Tail P w K mg base f cdv A outer s H E Q 14 LSt := by
  refine ⟨_, pss_cons (ps_set (i := 10) scLaw.nd rfl (.inl rfl) (pe_fnD L.forms hr (by decide) (pa_cons (pe_slice sl_list (pv 2) po_none (po_some pe_int)) (pa_cons (pe_op op_add pe_int (pe_op op_mod (pe_callTy call_int1 (by rfl) M.int bt_int (pa_cons (pe_ix ix_list (pv 1) pe_int (fun _ _ => rfl)) pa_nil)) pe_int)) pa_nil)) (by rfl)))
    (pss_cons (ps_if (PW.pt (pw_or (pt_cmpR op_gt (pe_callB call_len (by rfl) M.len PySem.boot_len (pa_cons (pe_lc (own := [("_law_form", 12)]) (g := gName 12) rfl scLaw.nd (pi_list (pv 10)) (blkOk_by (own := [("_law_form", 12)]) (N := nLaw) (sc := defScope sLaw) (by decide +kernel))
            (fun _ _ _ _ _ => pg_name (i := 12) scLaw.nd rfl (Or.inl rfl)) (fun _ _ _ _ _ => pts_one (pt_not (pt_val (pe_fn L.isp hr (by decide) (pa_cons (pv 12) pa_nil) (by rfl))))) (fun _ _ _ _ _ => pv 12)) pa_nil)) pe_int (nomark _))
        (pw_or1 (pt_cmpR op_eq (pe_callB call_len (by rfl) M.len PySem.boot_len (pa_cons (pv 10) pa_nil)) pe_int (nomark _)))))
      (pss_one (ps_ret (pe_cmpR op_eq (pe_callB call_len (by rfl) M.len PySem.boot_len (pa_cons (pv 10) pa_nil)) pe_int (nomark _)))) pss_nil)
    (pss_cons (ps_set (i := 6) scLaw.nd rfl (.inl rfl) (pe_ix ix_list (pv 10) (pe_op op_mod (pe_callTy call_int1 (by rfl) M.int bt_int (pa_cons (pe_ix ix_list (pv 1) pe_int (fun _ _ => rfl)) pa_nil)) (pe_callB call_len (by rfl) M.len PySem.boot_len (pa_cons (pv 10) pa_nil))) (fun _ _ => rfl)))
    (pss_cons (ps_set (i := 7) scLaw.nd rfl (.inl rfl) (pe_ix ix_list (pv 10) (pe_op op_mod (pe_callTy call_int1 (by rfl) M.int bt_int (pa_cons (pe_ix ix_list (pv 1) pe_int (fun _ _ => rfl)) pa_nil)) (pe_callB call_len (by rfl) M.len PySem.boot_len (pa_cons (pv 10) pa_nil))) (fun _ _ => rfl)))
    (pss_one (ps_ret (pe_cmpR op_eq (pe_cmpR op_isN (pe_fn L.part hr (by decide) (pa_cons (pv 6) (pa_cons (pv 7) pa_nil)) (by rfl)) pe_non (nomark _)) (pe_cmpR (op_eqT hr.units) (pv 6) (pv 7) (nomark _)) (nomark _))))))), ?_⟩
  rintro σ H1 ⟨y0, a, nm, v1, v2, y5, y6, y7, y8, y9, y10, ns, ys, t1, t2, rfl, hn, hy, k1, k2, g1, f2, h6⟩
  obtain ⟨ey, hl1, hl4, hok, hnd⟩ := id hy
  obtain ⟨n0, h0, _⟩ := hn.at (i := 62) (by decide)
  obtain ⟨zs, hz1, hz2, hz3⟩ := cut3 ys
  refine ⟨_, rfl, 3, rfl, nm, _, rfl, SqL.of ey, fun p hp => ?_⟩
  rw [hz1]
  have s2 := same_new (o := .lst (zs.map V.str)) hp
  have ep := upd_same (H := H1) (a := p) (o := .lst (zs.map V.str))
  generalize upd H1 p (.lst (zs.map V.str)) = H2 at *
  have eL : (1 : Int) + (n0 : Int) % 4 = ((1 + n0 % 4 : Nat) : Int) := by omega
  refine ⟨_, rfl, a, _, _, _, rfl, rfl, SqL.of (hn.same s2).1, h0, .inl ⟨_, rfl, _, 4, rfl, rfl, (show (0 : Int) < 4 by decide), 1, _, rfl, rfl, p, zs, 1 + n0 % 4, ?_, ep, fun y h => hok y (hz3.subset h), hnd.sublist hz3, by omega, by omega, by omega, .inr hz2, fun p2 H3 xs ts s3 e3 tm hnf hl _ => ?_⟩⟩
  · show [V.ref p, V.int (1 + (n0 : Int) % 4), V.int 2000] = _
    rw [eL]
  have hlen := tm.len
  have hfit : ∀ t ∈ ts, Fit t ∧ t.dp ≤ 8 := fun t h => by
    have h1 := (hnf t h).2
    have h2 := t.dp_lv
    exact ⟨⟨by omega, by omega⟩, by omega⟩
  refine ⟨_, rfl, p2, rfl, ⟨_, SqL.of e3⟩, fun D hD => lc_list (K := K) (a := p2) (xs := xs) (fun i H' => Same H3 H' ∧ H' D = some (.lst [])) ⟨same_new hD, upd_same⟩ (fun i H' _ ⟨s, _⟩ => SqL.of (s _ _ e3)) ?_ ?_⟩
  · rintro i z H' hz ⟨s4, eD⟩
    obtain ⟨t, ht, htm⟩ := tm.get hz
    have htin := List.mem_of_getElem? ht
    exact ⟨rfl, ⟨_, rfl, z, t, rfl, htm.same s4, (hfit t htin).1, fun H5 s5 => ⟨_, rfl, iteND (br_of_nf (hnf t htin).1) ⟨s4.trans s5, s5 _ _ eD⟩⟩⟩⟩
  · rintro H4 ⟨s4, eD⟩
    have e4 := s4 _ _ e3
    refine ⟨_, _, rfl, .inl ⟨_, SqL.of eD, rfl⟩, _, 0, rfl, rfl, _, rfl, iteDF (by show ¬ (0 : Int) < ((([] : List V).length : Nat) : Int); decide) ?_⟩
    refine ⟨_, rfl, _, _, rfl, .inl ⟨_, SqL.of e4, rfl⟩, rfl, _, rfl, ite2 (fun g => ?_) (fun g => ?_)⟩
    · refine ⟨_, rfl, _, _, rfl, .inl ⟨_, SqL.of e4, rfl⟩, rfl, ?_⟩
      rw [g]
      exact hQ _
    · have hx : 0 < xs.length := by
        refine Nat.pos_of_ne_zero fun e => g (decide_eq_true ?_)
        rw [e]
        rfl
      have hn4 := (hn.same s2).same (s3.trans s4)
      have tm4 := tm.same s4
      obtain ⟨n1, h1, _⟩ := hn4.at (i := 63) (by decide)
      obtain ⟨n2, h2, _⟩ := hn4.at (i := 64) (by decide)
      obtain ⟨x, tx, hx1, hx2, hx3⟩ := tm4.at hx n1
      obtain ⟨y, ty, hy1, hy2, hy3⟩ := tm4.at hx n2
      refine ⟨_, rfl, _, rfl, a, _, _, _, rfl, rfl, SqL.of hn4.1, h1, .inl ⟨_, rfl, _, rfl, _, _, rfl, .inl ⟨_, SqL.of e4, rfl⟩, _, _, rfl, rfl, (show (0 : Int) < (xs.length : Int) by omega), p2, _, _, _, rfl, rfl, SqL.of e4, hx1, ?_⟩⟩
      refine ⟨_, rfl, _, rfl, a, _, _, _, rfl, rfl, SqL.of hn4.1, h2, .inl ⟨_, rfl, _, rfl, _, _, rfl, .inl ⟨_, SqL.of e4, rfl⟩, _, _, rfl, rfl, (show (0 : Int) < (xs.length : Int) by omega), p2, _, _, _, rfl, rfl, SqL.of e4, hy1, ?_⟩⟩
      have fx := hfit tx hx2
      have fy := hfit ty hy2
      refine ⟨_, rfl, _, rfl, x, y, tx, ty, rfl, hx3, hy3, fx.1, fy.1, fun _ p hp => ?_, fun hb H6 s6 => ?_, fun hb o H6 pl tr nk s6 pf told => ?_⟩
      · rcases hp with h | h
        · have := pts_dp h
          have := fx.2
          omega
        · have := pts_dp h
          have := fy.2
          omega
      · rw [br_of_nf (hnf tx hx2).1, br_of_nf (hnf ty hy2).1] at hb
        refine ⟨rfl, _, rfl, _, rfl, tx, ty, hx3.same s6, hy3.same s6, by have := fx.2; omega, by have := fy.2; omega, rfl, ?_⟩
        have e : decide (V.bl (decide (V.non = V.non)) = V.bl (decide (tx = ty))) = true := decide_eq_true (by rw [decide_eq_true hb]; rfl)
        rw [e]
        exact hQ _
      · rw [br_of_nf (hnf tx hx2).1, br_of_nf (hnf ty hy2).1] at hb
        refine ⟨rfl, _, rfl, _, rfl, tx, ty, hx3.same s6, hy3.same s6, by have := fx.2; omega, by have := fy.2; omega, rfl, ?_⟩
        have e : decide (V.bl (decide (V.ref o = V.non)) = V.bl (decide (tx = ty))) = true := decide_eq_true (by rw [decide_eq_false hb, decide_eq_false (fun h => nomatch h)])
        rw [e]
        exact hQ _
end
def spLaw (K : PySem.W.Frag) : Sp := fun vs H Q _ => ∃ (a : Addr) (cs : List Int), vs = [.ref a] ∧ SqL K H a (cs.map V.int) ∧ cs.length ≤ 63 ∧ ∀ H', Q (.bl true) H'
theorem ok_law {f C : Addr} {fd : FuncData} (F : Fun K "law" "law" sLaw f fd) (M : Txt K mg) (L : LF P w K mg base C) : FnOk P w K mg base CX0 67 f fd ["_law_script"] (spLaw K) := by
  refine F.ok scLaw (fun vs H Q E h => ?_) (fun cdv A outer s H vs Q E hr h => ?_)
  · obtain ⟨a, cs, rfl, _⟩ := h
    rfl
  · obtain ⟨a, cs, rfl, hs, hc, hQ⟩ := h
    obtain ⟨t, ht, q⟩ := law_1 (P := P) (w := w) (K := K) (mg := mg) (base := base) (f := f) (C := C) (cdv := cdv) (A := A) (outer := outer) (s := s) (H := H) (E := E) (Q := Q) M L hr
      (law_2 M L hr (law_3 M L hr (law_4 M L hr (law_5 M L hr hQ))))
    exact ⟨t, ht, q _ _ ⟨a, cs, rfl, hs, hc⟩⟩
end
end TP
/-! W21: the module's facts, all the defs together. -/
namespace TP
open PySem PySem.Spec PyProof.Rows L2
theorem forms_binds {K : PySem.W.Frag} {f : Addr} {fd : FuncData} (F : FunD K "plain_forms" "plain_forms" (defArgs sPForms) (defBody sPForms) (defScope sPForms) [] [("limit", .int 2000)] f fd) : ∃ ds, Vals [V.int 2000] ds ∧ Binds K fd ["names", "leaves", "limit"] ds :=
  F.binds0 (ps := ["names", "leaves", "limit"]) 2 (by simp) rfl fun D doc pm an cdv ct us ks hl hk => match us, ks, hl, hk with | [_, _], [_], _, _ => ⟨_, _, _, _, _, _, rfl, rfl, rfl⟩
theorem all_mk {l : PySem.W.OpenLaw} {w : World} {K : PySem.W.Frag} {h : Heap} {mg : Str → Option Value} {fa C D f1 f2 f3 f4 f5 f6 f7 f8 f9 f10 f11 f12 f13 f14 f15 f16 f17 f18 f19 f20 f21 f22 f23 f24 f25 f26 f27 f28 f29 fP fI : Addr} (X : K.In h) (G : h.Ns mainGlobals mg) (hfa : mg "law" = some (.ref fa))
    {od1 an1 od2 an2 od3 an3 od4 an4 od5 an5 od6 an6 od7 an7 od8 an8 od9 an9 od10 an10 od11 an11 od12 an12 od13 an13 od14 an14 od15 an15 od16 an16 od17 an17 od18 an18 od19 an19 od20 an20 od21 an21 od22 an22 od23 an23 od24 an24 od25 an25 od26 an26 od27 an27 od28 an28 od29 an29 odP anP odI anI : Option Addr} {sl1 sl2 sl3 sl4 sl5 sl6 sl7 sl8 sl9 sl10 sl11 sl12 sl13 sl14 sl15 sl16 sl17 sl18 sl19 sl20 sl21 sl22 sl23 sl24 sl25 sl26 sl27 sl28 sl29 slP slI : Array (Option Value)} {oc1 kV1 dc1 pm1 cd1 ct1 oc2 kV2 dc2 pm2 cd2 ct2 oc3 kV3 dc3 pm3 cd3 ct3 oc4 kV4 dc4 pm4 cd4 ct4 oc5 kV5 dc5 pm5 cd5 ct5 oc6 kV6 dc6 pm6 cd6 ct6 oc7 kV7 dc7 pm7 cd7 ct7 oc8 kV8 dc8 pm8 cd8 ct8 oc9 kV9 dc9 pm9 cd9 ct9 oc10 kV10 dc10 pm10 cd10 ct10 oc11 kV11 dc11 pm11 cd11 ct11 oc12 kV12 dc12 pm12 cd12 ct12 oc13 kV13 dc13 pm13 cd13 ct13 oc14 kV14 dc14 pm14 cd14 ct14 oc15 kV15 dc15 pm15 cd15 ct15 oc16 kV16 dc16 pm16 cd16 ct16 oc17 kV17 dc17 pm17 cd17 ct17 oc18 kV18 dc18 pm18 cd18 ct18 oc19 kV19 dc19 pm19 cd19 ct19 oc20 kV20 dc20 pm20 cd20 ct20 oc21 kV21 dc21 pm21 cd21 ct21 oc22 kV22 dc22 pm22 cd22 ct22 oc23 kV23 dc23 pm23 cd23 ct23 oc24 kV24 dc24 pm24 cd24 ct24 oc25 kV25 dc25 pm25 cd25 ct25 oc26 kV26 dc26 pm26 cd26 ct26 oc27 kV27 dc27 pm27 cd27 ct27 oc28 kV28 dc28 pm28 cd28 ct28 oc29 kV29 dc29 pm29 cd29 ct29 ocP dcP pmP cdP ctP ocI kVI dcI pmI cdI ctI : Value} {v0 v1 v2 v3 v4 v5 li : Value}
    (b0 : PySem.W.nsIn K mainGlobals "FIRST_CHARS" = some (some v0))
    (r0 : RelV (.str firstS) v0)
    (b1 : PySem.W.nsIn K mainGlobals "NAME_CHARS" = some (some v1))
    (r1 : RelV (.str nameS) v1)
    (b2 : PySem.W.nsIn K mainGlobals "MOST_NAME_CHARS" = some (some v2))
    (r2 : RelV (.int 12) v2)
    (b3 : PySem.W.nsIn K mainGlobals "MOST_LEAVES" = some (some v3))
    (r3 : RelV (.int 200) v3)
    (b4 : PySem.W.nsIn K mainGlobals "MOST_NAMES" = some (some v4))
    (r4 : RelV (.int 26) v4)
    (b5 : PySem.W.nsIn K mainGlobals "MOST_COUNTED" = some (some v5))
    (r5 : RelV (.int 60) v5)
    (a1 : PySem.W.nsIn K mainGlobals "is_variable" = some (some (.ref f1)))
    (l1 : K.lookup f1 = some ⟨oc1, od1, .func (PySem.W.fnOf "is_variable" "is_variable" (defArgs sIsVar) (defBody sIsVar) (defScope sIsVar) .none kV1 dc1 pm1 an1 cd1 ct1), sl1⟩)
    (c1 : PySem.W.codeIn K cd1 "is_variable" = true)
    (k1 : PySem.W.keepIn K (.ref f1) = true)
    (a2 : PySem.W.nsIn K mainGlobals "leaves" = some (some (.ref f2)))
    (l2 : K.lookup f2 = some ⟨oc2, od2, .func (PySem.W.fnOf "leaves" "leaves" (defArgs sLeaves) (defBody sLeaves) (defScope sLeaves) .none kV2 dc2 pm2 an2 cd2 ct2), sl2⟩)
    (c2 : PySem.W.codeIn K cd2 "leaves" = true)
    (k2 : PySem.W.keepIn K (.ref f2) = true)
    (a3 : PySem.W.nsIn K mainGlobals "check_term" = some (some (.ref f3)))
    (l3 : K.lookup f3 = some ⟨oc3, od3, .func (PySem.W.fnOf "check_term" "check_term" (defArgs sCheck) (defBody sCheck) (defScope sCheck) .none kV3 dc3 pm3 an3 cd3 ct3), sl3⟩)
    (c3 : PySem.W.codeIn K cd3 "check_term" = true)
    (k3 : PySem.W.keepIn K (.ref f3) = true)
    (a4 : PySem.W.nsIn K mainGlobals "kept" = some (some (.ref f4)))
    (l4 : K.lookup f4 = some ⟨oc4, od4, .func (PySem.W.fnOf "kept" "kept" (defArgs sKept) (defBody sKept) (defScope sKept) .none kV4 dc4 pm4 an4 cd4 ct4), sl4⟩)
    (c4 : PySem.W.codeIn K cd4 "kept" = true)
    (k4 : PySem.W.keepIn K (.ref f4) = true)
    (a5 : PySem.W.nsIn K mainGlobals "written" = some (some (.ref f5)))
    (l5 : K.lookup f5 = some ⟨oc5, od5, .func (PySem.W.fnOf "written" "written" (defArgs sWritten) (defBody sWritten) (defScope sWritten) .none kV5 dc5 pm5 an5 cd5 ct5), sl5⟩)
    (c5 : PySem.W.codeIn K cd5 "written" = true)
    (k5 : PySem.W.keepIn K (.ref f5) = true)
    (a6 : PySem.W.nsIn K mainGlobals "replaced" = some (some (.ref f6)))
    (l6 : K.lookup f6 = some ⟨oc6, od6, .func (PySem.W.fnOf "replaced" "replaced" (defArgs sReplaced) (defBody sReplaced) (defScope sReplaced) .none kV6 dc6 pm6 an6 cd6 ct6), sl6⟩)
    (c6 : PySem.W.codeIn K cd6 "replaced" = true)
    (k6 : PySem.W.keepIn K (.ref f6) = true)
    (a7 : PySem.W.nsIn K mainGlobals "exchanged" = some (some (.ref f7)))
    (l7 : K.lookup f7 = some ⟨oc7, od7, .func (PySem.W.fnOf "exchanged" "exchanged" (defArgs sExchanged) (defBody sExchanged) (defScope sExchanged) .none kV7 dc7 pm7 an7 cd7 ct7), sl7⟩)
    (c7 : PySem.W.codeIn K cd7 "exchanged" = true)
    (k7 : PySem.W.keepIn K (.ref f7) = true)
    (a8 : PySem.W.nsIn K mainGlobals "place_in_order" = some (some (.ref f8)))
    (l8 : K.lookup f8 = some ⟨oc8, od8, .func (PySem.W.fnOf "place_in_order" "place_in_order" (defArgs sPlace) (defBody sPlace) (defScope sPlace) .none kV8 dc8 pm8 an8 cd8 ct8), sl8⟩)
    (c8 : PySem.W.codeIn K cd8 "place_in_order" = true)
    (k8 : PySem.W.keepIn K (.ref f8) = true)
    (a9 : PySem.W.nsIn K mainGlobals "joined" = some (some (.ref f9)))
    (l9 : K.lookup f9 = some ⟨oc9, od9, .func (PySem.W.fnOf "joined" "joined" (defArgs sJoined) (defBody sJoined) (defScope sJoined) .none kV9 dc9 pm9 an9 cd9 ct9), sl9⟩)
    (c9 : PySem.W.codeIn K cd9 "joined" = true)
    (k9 : PySem.W.keepIn K (.ref f9) = true)
    (a10 : PySem.W.nsIn K mainGlobals "brought" = some (some (.ref f10)))
    (l10 : K.lookup f10 = some ⟨oc10, od10, .func (PySem.W.fnOf "brought" "brought" (defArgs sBrought) (defBody sBrought) (defScope sBrought) .none kV10 dc10 pm10 an10 cd10 ct10), sl10⟩)
    (c10 : PySem.W.codeIn K cd10 "brought" = true)
    (k10 : PySem.W.keepIn K (.ref f10) = true)
    (a11 : PySem.W.nsIn K mainGlobals "plain" = some (some (.ref f11)))
    (l11 : K.lookup f11 = some ⟨oc11, od11, .func (PySem.W.fnOf "plain" "plain" (defArgs sPlain) (defBody sPlain) (defScope sPlain) .none kV11 dc11 pm11 an11 cd11 ct11), sl11⟩)
    (c11 : PySem.W.codeIn K cd11 "plain" = true)
    (k11 : PySem.W.keepIn K (.ref f11) = true)
    (a12 : PySem.W.nsIn K mainGlobals "is_plain" = some (some (.ref f12)))
    (l12 : K.lookup f12 = some ⟨oc12, od12, .func (PySem.W.fnOf "is_plain" "is_plain" (defArgs sIsPlain) (defBody sIsPlain) (defScope sIsPlain) .none kV12 dc12 pm12 an12 cd12 ct12), sl12⟩)
    (c12 : PySem.W.codeIn K cd12 "is_plain" = true)
    (k12 : PySem.W.keepIn K (.ref f12) = true)
    (a13 : PySem.W.nsIn K mainGlobals "equal_everywhere" = some (some (.ref f13)))
    (l13 : K.lookup f13 = some ⟨oc13, od13, .func (PySem.W.fnOf "equal_everywhere" "equal_everywhere" (defArgs sEqual) (defBody sEqual) (defScope sEqual) .none kV13 dc13 pm13 an13 cd13 ct13), sl13⟩)
    (c13 : PySem.W.codeIn K cd13 "equal_everywhere" = true)
    (k13 : PySem.W.keepIn K (.ref f13) = true)
    (a14 : PySem.W.nsIn K mainGlobals "parts_of" = some (some (.ref f14)))
    (l14 : K.lookup f14 = some ⟨oc14, od14, .func (PySem.W.fnOf "parts_of" "parts_of" (defArgs sParts) (defBody sParts) (defScope sParts) .none kV14 dc14 pm14 an14 cd14 ct14), sl14⟩)
    (c14 : PySem.W.codeIn K cd14 "parts_of" = true)
    (k14 : PySem.W.keepIn K (.ref f14) = true)
    (a15 : PySem.W.nsIn K mainGlobals "parting" = some (some (.ref f15)))
    (l15 : K.lookup f15 = some ⟨oc15, od15, .func (PySem.W.fnOf "parting" "parting" (defArgs sParting) (defBody sParting) (defScope sParting) .none kV15 dc15 pm15 an15 cd15 ct15), sl15⟩)
    (c15 : PySem.W.codeIn K cd15 "parting" = true)
    (k15 : PySem.W.keepIn K (.ref f15) = true)
    (a16 : PySem.W.nsIn K mainGlobals "pairs_of" = some (some (.ref f16)))
    (l16 : K.lookup f16 = some ⟨oc16, od16, .func (PySem.W.fnOf "pairs_of" "pairs_of" (defArgs sPairs) (defBody sPairs) (defScope sPairs) .none kV16 dc16 pm16 an16 cd16 ct16), sl16⟩)
    (c16 : PySem.W.codeIn K cd16 "pairs_of" = true)
    (k16 : PySem.W.keepIn K (.ref f16) = true)
    (a17 : PySem.W.nsIn K mainGlobals "come_there" = some (some (.ref f17)))
    (l17 : K.lookup f17 = some ⟨oc17, od17, .func (PySem.W.fnOf "come_there" "come_there" (defArgs sCome) (defBody sCome) (defScope sCome) .none kV17 dc17 pm17 an17 cd17 ct17), sl17⟩)
    (c17 : PySem.W.codeIn K cd17 "come_there" = true)
    (k17 : PySem.W.keepIn K (.ref f17) = true)
    (a18 : PySem.W.nsIn K mainGlobals "check_parting" = some (some (.ref f18)))
    (l18 : K.lookup f18 = some ⟨oc18, od18, .func (PySem.W.fnOf "check_parting" "check_parting" (defArgs sCheckP) (defBody sCheckP) (defScope sCheckP) .none kV18 dc18 pm18 an18 cd18 ct18), sl18⟩)
    (c18 : PySem.W.codeIn K cd18 "check_parting" = true)
    (k18 : PySem.W.keepIn K (.ref f18) = true)
    (a19 : PySem.W.nsIn K mainGlobals "ordered_counts" = some (some (.ref f19)))
    (l19 : K.lookup f19 = some ⟨oc19, od19, .func (PySem.W.fnOf "ordered_counts" "ordered_counts" (defArgs sOrdered) (defBody sOrdered) (defScope sOrdered) .none kV19 dc19 pm19 an19 cd19 ct19), sl19⟩)
    (c19 : PySem.W.codeIn K cd19 "ordered_counts" = true)
    (k19 : PySem.W.keepIn K (.ref f19) = true)
    (a20 : PySem.W.nsIn K mainGlobals "plain_count" = some (some (.ref f20)))
    (l20 : K.lookup f20 = some ⟨oc20, od20, .func (PySem.W.fnOf "plain_count" "plain_count" (defArgs sPCount) (defBody sPCount) (defScope sPCount) .none kV20 dc20 pm20 an20 cd20 ct20), sl20⟩)
    (c20 : PySem.W.codeIn K cd20 "plain_count" = true)
    (k20 : PySem.W.keepIn K (.ref f20) = true)
    (a21 : PySem.W.nsIn K mainGlobals "leaves_in" = some (some (.ref f21)))
    (l21 : K.lookup f21 = some ⟨oc21, od21, .func (PySem.W.fnOf "leaves_in" "leaves_in" (defArgs sLeavesIn) (defBody sLeavesIn) (defScope sLeavesIn) .none kV21 dc21 pm21 an21 cd21 ct21), sl21⟩)
    (c21 : PySem.W.codeIn K cd21 "leaves_in" = true)
    (k21 : PySem.W.keepIn K (.ref f21) = true)
    (a22 : PySem.W.nsIn K mainGlobals "_law_row" = some (some (.ref f22)))
    (l22 : K.lookup f22 = some ⟨oc22, od22, .func (PySem.W.fnOf "_law_row" "_law_row" (defArgs sLRow) (defBody sLRow) (defScope sLRow) .none kV22 dc22 pm22 an22 cd22 ct22), sl22⟩)
    (c22 : PySem.W.codeIn K cd22 "_law_row" = true)
    (k22 : PySem.W.keepIn K (.ref f22) = true)
    (a23 : PySem.W.nsIn K mainGlobals "_law_numbers" = some (some (.ref f23)))
    (l23 : K.lookup f23 = some ⟨oc23, od23, .func (PySem.W.fnOf "_law_numbers" "_law_numbers" (defArgs sLNumbers) (defBody sLNumbers) (defScope sLNumbers) .none kV23 dc23 pm23 an23 cd23 ct23), sl23⟩)
    (c23 : PySem.W.codeIn K cd23 "_law_numbers" = true)
    (k23 : PySem.W.keepIn K (.ref f23) = true)
    (a24 : PySem.W.nsIn K mainGlobals "_law_names" = some (some (.ref f24)))
    (l24 : K.lookup f24 = some ⟨oc24, od24, .func (PySem.W.fnOf "_law_names" "_law_names" (defArgs sLNames) (defBody sLNames) (defScope sLNames) .none kV24 dc24 pm24 an24 cd24 ct24), sl24⟩)
    (c24 : PySem.W.codeIn K cd24 "_law_names" = true)
    (k24 : PySem.W.keepIn K (.ref f24) = true)
    (a25 : PySem.W.nsIn K mainGlobals "_law_leaves" = some (some (.ref f25)))
    (l25 : K.lookup f25 = some ⟨oc25, od25, .func (PySem.W.fnOf "_law_leaves" "_law_leaves" (defArgs sLLeaves) (defBody sLLeaves) (defScope sLLeaves) .none kV25 dc25 pm25 an25 cd25 ct25), sl25⟩)
    (c25 : PySem.W.codeIn K cd25 "_law_leaves" = true)
    (k25 : PySem.W.keepIn K (.ref f25) = true)
    (a26 : PySem.W.nsIn K mainGlobals "_law_term" = some (some (.ref f26)))
    (l26 : K.lookup f26 = some ⟨oc26, od26, .func (PySem.W.fnOf "_law_term" "_law_term" (defArgs sLTerm) (defBody sLTerm) (defScope sLTerm) .none kV26 dc26 pm26 an26 cd26 ct26), sl26⟩)
    (c26 : PySem.W.codeIn K cd26 "_law_term" = true)
    (k26 : PySem.W.keepIn K (.ref f26) = true)
    (a27 : PySem.W.nsIn K mainGlobals "_law_word" = some (some (.ref f27)))
    (l27 : K.lookup f27 = some ⟨oc27, od27, .func (PySem.W.fnOf "_law_word" "_law_word" (defArgs sLWord) (defBody sLWord) (defScope sLWord) .none kV27 dc27 pm27 an27 cd27 ct27), sl27⟩)
    (c27 : PySem.W.codeIn K cd27 "_law_word" = true)
    (k27 : PySem.W.keepIn K (.ref f27) = true)
    (a28 : PySem.W.nsIn K mainGlobals "_law_like" = some (some (.ref f28)))
    (l28 : K.lookup f28 = some ⟨oc28, od28, .func (PySem.W.fnOf "_law_like" "_law_like" (defArgs sLLike) (defBody sLLike) (defScope sLLike) .none kV28 dc28 pm28 an28 cd28 ct28), sl28⟩)
    (c28 : PySem.W.codeIn K cd28 "_law_like" = true)
    (k28 : PySem.W.keepIn K (.ref f28) = true)
    (a29 : PySem.W.nsIn K mainGlobals "law" = some (some (.ref f29)))
    (l29 : K.lookup f29 = some ⟨oc29, od29, .func (PySem.W.fnOf "law" "law" (defArgs sLaw) (defBody sLaw) (defScope sLaw) .none kV29 dc29 pm29 an29 cd29 ct29), sl29⟩)
    (c29 : PySem.W.codeIn K cd29 "law" = true)
    (k29 : PySem.W.keepIn K (.ref f29) = true)
    (aP : PySem.W.nsIn K mainGlobals "plain_forms" = some (some (.ref fP)))
    (lP : K.lookup fP = some ⟨ocP, odP, .func (PySem.W.fnOf "plain_forms" "plain_forms" (defArgs sPForms) (defBody sPForms) (defScope sPForms) .none (.ref D) dcP pmP anP cdP ctP), slP⟩)
    (cP : PySem.W.codeIn K cdP "plain_forms" = true)
    (kP : PySem.W.keepIn K (.ref fP) = true)
    (kd : PySem.W.nsIn K D "limit" = some (some li))
    (rd : RelV (.int 2000) li)
    (aC : PySem.W.nsIn K mainGlobals "Parting" = some (some (.ref C)))
    (aI : PySem.W.findIn K (.ref C) "__init__" = some (some (.ref fI)))
    (iI : PySem.W.isFn K (.ref fI) = true)
    (lI : K.lookup fI = some ⟨ocI, odI, .func (PySem.W.fnOf "__init__" "Parting.__init__" (defArgs sPInit) (defBody sPInit) (defScope sPInit) .none kVI dcI pmI anI cdI ctI), slI⟩)
    (cI : PySem.W.codeIn K cdI "Parting.__init__" = true)
    (kI : PySem.W.keepIn K (.ref fI) = true)
    (pg : PySem.W.plainGet K C Str.empty = true)
    (hd : PySem.W.hasDictIn K C = true)
    (po : PySem.W.plainOver K C = true)
    (sa : PySem.W.findIn K (.ref C) "__setattr__" = some (some (.builtin "object.__setattr__")))
    (mk : PySem.W.makesIn K C = true)
    (kc : PySem.W.keepIn K (.ref C) = true)
    (n1 : PySem.W.findIn K (.ref C) "count" = some none)
    (n2 : PySem.W.findIn K (.ref C) "threes" = some none)
    (n3 : PySem.W.findIn K (.ref C) "names" = some none)
    (n4 : PySem.W.findIn K (.ref C) "ends" = some none)
    (z_isi : PySem.W.nsIn K mainGlobals "isinstance" = some none)
    (z_str : PySem.W.nsIn K mainGlobals "str" = some none)
    (z_tup : PySem.W.nsIn K mainGlobals "tuple" = some none)
    (z_lst : PySem.W.nsIn K mainGlobals "list" = some none)
    (z_int : PySem.W.nsIn K mainGlobals "int" = some none)
    (z_dic : PySem.W.nsIn K mainGlobals "dict" = some none)
    (z_len : PySem.W.nsIn K mainGlobals "len" = some none)
    (z_all : PySem.W.nsIn K mainGlobals "all" = some none)
    (z_srt : PySem.W.nsIn K mainGlobals "sorted" = some none)
    (z_enu : PySem.W.nsIn K mainGlobals "enumerate" = some none)
    (z_rng : PySem.W.nsIn K mainGlobals "range" = some none)
    (z_mi : PySem.W.nsIn K mainGlobals "min" = some none)
    (z_ma : PySem.W.nsIn K mainGlobals "max" = some none)
    (z_sm : PySem.W.nsIn K mainGlobals "sum" = some none)
    (z_ab : PySem.W.nsIn K mainGlobals "abs" = some none) :
    ∃ fd : FuncData, (∀ (s : Shared) (v : Value), BindsTo s fd ⟨[v], []⟩ [("_law_script", v)]) ∧ ∀ base : Heap, K.In base → base.Ns mainGlobals mg → FnOk l.prog w K mg base CX0 67 fa fd ["_law_script"] (spLaw K) := by
  have e := hfa.symm.trans (PySem.W.mg_of X G a29)
  cases e
  have M : Txt K mg := ⟨PySem.W.mg_none_of X G z_isi, PySem.W.mg_none_of X G z_str, PySem.W.mg_none_of X G z_tup, PySem.W.mg_none_of X G z_lst, PySem.W.mg_none_of X G z_int, PySem.W.mg_none_of X G z_dic, PySem.W.mg_none_of X G z_len, PySem.W.mg_none_of X G z_all, PySem.W.mg_none_of X G z_srt, PySem.W.mg_none_of X G z_enu, PySem.W.mg_none_of X G z_rng, PySem.W.mg_none_of X G z_mi, PySem.W.mg_none_of X G z_ma, PySem.W.mg_none_of X G z_sm, PySem.W.mg_none_of X G z_ab, ⟨_, PySem.W.mg_of X G b0, r0⟩, ⟨_, PySem.W.mg_of X G b1, r1⟩, ⟨_, PySem.W.mg_of X G b2, r2⟩, ⟨_, PySem.W.mg_of X G b3, r3⟩, ⟨_, PySem.W.mg_of X G b4, r4⟩, ⟨_, PySem.W.mg_of X G b5, r5⟩⟩
  have c : Cl K mg C := ⟨⟨pg, hd, po, sa⟩, n1, n2, n3, n4, PySem.W.mg_of X G aC⟩
  have F1 := fun_mk (st := sIsVar) l1 c1 k1
  have D1 : Def K mg "is_variable" sIsVar ["term"] := ⟨_, _, F1, PySem.W.mg_of X G a1, F1.binds (ps := ["term"]) fun _ _ _ _ _ _ us hl => match us, hl with | [_], _ => rfl⟩
  have F2 := fun_mk (st := sLeaves) l2 c2 k2
  have D2 : Def K mg "leaves" sLeaves ["term"] := ⟨_, _, F2, PySem.W.mg_of X G a2, F2.binds (ps := ["term"]) fun _ _ _ _ _ _ us hl => match us, hl with | [_], _ => rfl⟩
  have F3 := fun_mk (st := sCheck) l3 c3 k3
  have D3 : Def K mg "check_term" sCheck ["term"] := ⟨_, _, F3, PySem.W.mg_of X G a3, F3.binds (ps := ["term"]) fun _ _ _ _ _ _ us hl => match us, hl with | [_], _ => rfl⟩
  have F4 := fun_mk (st := sKept) l4 c4 k4
  have D4 : Def K mg "kept" sKept ["term"] := ⟨_, _, F4, PySem.W.mg_of X G a4, F4.binds (ps := ["term"]) fun _ _ _ _ _ _ us hl => match us, hl with | [_], _ => rfl⟩
  have F5 := fun_mk (st := sWritten) l5 c5 k5
  have D5 : Def K mg "written" sWritten ["term"] := ⟨_, _, F5, PySem.W.mg_of X G a5, F5.binds (ps := ["term"]) fun _ _ _ _ _ _ us hl => match us, hl with | [_], _ => rfl⟩
  have F6 := fun_mk (st := sReplaced) l6 c6 k6
  have D6 : Def K mg "replaced" sReplaced ["term", "table"] := ⟨_, _, F6, PySem.W.mg_of X G a6, F6.binds (ps := ["term", "table"]) fun _ _ _ _ _ _ us hl => match us, hl with | [_, _], _ => rfl⟩
  have F7 := fun_mk (st := sExchanged) l7 c7 k7
  have D7 : Def K mg "exchanged" sExchanged ["term", "table"] := ⟨_, _, F7, PySem.W.mg_of X G a7, F7.binds (ps := ["term", "table"]) fun _ _ _ _ _ _ us hl => match us, hl with | [_, _], _ => rfl⟩
  have F8 := fun_mk (st := sPlace) l8 c8 k8
  have D8 : Def K mg "place_in_order" sPlace ["term"] := ⟨_, _, F8, PySem.W.mg_of X G a8, F8.binds (ps := ["term"]) fun _ _ _ _ _ _ us hl => match us, hl with | [_], _ => rfl⟩
  have F9 := fun_mk (st := sJoined) l9 c9 k9
  have D9 : Def K mg "joined" sJoined ["one", "other"] := ⟨_, _, F9, PySem.W.mg_of X G a9, F9.binds (ps := ["one", "other"]) fun _ _ _ _ _ _ us hl => match us, hl with | [_, _], _ => rfl⟩
  have F10 := fun_mk (st := sBrought) l10 c10 k10
  have D10 : Def K mg "brought" sBrought ["term"] := ⟨_, _, F10, PySem.W.mg_of X G a10, F10.binds (ps := ["term"]) fun _ _ _ _ _ _ us hl => match us, hl with | [_], _ => rfl⟩
  have F11 := fun_mk (st := sPlain) l11 c11 k11
  have D11 : Def K mg "plain" sPlain ["term"] := ⟨_, _, F11, PySem.W.mg_of X G a11, F11.binds (ps := ["term"]) fun _ _ _ _ _ _ us hl => match us, hl with | [_], _ => rfl⟩
  have F12 := fun_mk (st := sIsPlain) l12 c12 k12
  have D12 : Def K mg "is_plain" sIsPlain ["term"] := ⟨_, _, F12, PySem.W.mg_of X G a12, F12.binds (ps := ["term"]) fun _ _ _ _ _ _ us hl => match us, hl with | [_], _ => rfl⟩
  have F13 := fun_mk (st := sEqual) l13 c13 k13
  have D13 : Def K mg "equal_everywhere" sEqual ["one", "other"] := ⟨_, _, F13, PySem.W.mg_of X G a13, F13.binds (ps := ["one", "other"]) fun _ _ _ _ _ _ us hl => match us, hl with | [_, _], _ => rfl⟩
  have F14 := fun_mk (st := sParts) l14 c14 k14
  have D14 : Def K mg "parts_of" sParts ["term"] := ⟨_, _, F14, PySem.W.mg_of X G a14, F14.binds (ps := ["term"]) fun _ _ _ _ _ _ us hl => match us, hl with | [_], _ => rfl⟩
  have F15 := fun_mk (st := sParting) l15 c15 k15
  have D15 : Def K mg "parting" sParting ["one", "other"] := ⟨_, _, F15, PySem.W.mg_of X G a15, F15.binds (ps := ["one", "other"]) fun _ _ _ _ _ _ us hl => match us, hl with | [_, _], _ => rfl⟩
  have F16 := fun_mk (st := sPairs) l16 c16 k16
  have D16 : Def K mg "pairs_of" sPairs ["told"] := ⟨_, _, F16, PySem.W.mg_of X G a16, F16.binds (ps := ["told"]) fun _ _ _ _ _ _ us hl => match us, hl with | [_], _ => rfl⟩
  have F17 := fun_mk (st := sCome) l17 c17 k17
  have D17 : Def K mg "come_there" sCome ["term", "names", "pairs"] := ⟨_, _, F17, PySem.W.mg_of X G a17, F17.binds (ps := ["term", "names", "pairs"]) fun _ _ _ _ _ _ us hl => match us, hl with | [_, _, _], _ => rfl⟩
  have F18 := fun_mk (st := sCheckP) l18 c18 k18
  have D18 : Def K mg "check_parting" sCheckP ["one", "other", "told"] := ⟨_, _, F18, PySem.W.mg_of X G a18, F18.binds (ps := ["one", "other", "told"]) fun _ _ _ _ _ _ us hl => match us, hl with | [_, _, _], _ => rfl⟩
  have F19 := fun_mk (st := sOrdered) l19 c19 k19
  have D19 : Def K mg "ordered_counts" sOrdered ["names", "leaves"] := ⟨_, _, F19, PySem.W.mg_of X G a19, F19.binds (ps := ["names", "leaves"]) fun _ _ _ _ _ _ us hl => match us, hl with | [_, _], _ => rfl⟩
  have F20 := fun_mk (st := sPCount) l20 c20 k20
  have D20 : Def K mg "plain_count" sPCount ["names", "leaves"] := ⟨_, _, F20, PySem.W.mg_of X G a20, F20.binds (ps := ["names", "leaves"]) fun _ _ _ _ _ _ us hl => match us, hl with | [_, _], _ => rfl⟩
  have F21 := fun_mk (st := sLeavesIn) l21 c21 k21
  have D21 : Def K mg "leaves_in" sLeavesIn ["term"] := ⟨_, _, F21, PySem.W.mg_of X G a21, F21.binds (ps := ["term"]) fun _ _ _ _ _ _ us hl => match us, hl with | [_], _ => rfl⟩
  have F22 := fun_mk (st := sLRow) l22 c22 k22
  have D22 : Def K mg "_law_row" sLRow ["_law_cell", "_law_many"] := ⟨_, _, F22, PySem.W.mg_of X G a22, F22.binds (ps := ["_law_cell", "_law_many"]) fun _ _ _ _ _ _ us hl => match us, hl with | [_, _], _ => rfl⟩
  have F23 := fun_mk (st := sLNumbers) l23 c23 k23
  have D23 : Def K mg "_law_numbers" sLNumbers ["_law_script", "_law_many"] := ⟨_, _, F23, PySem.W.mg_of X G a23, F23.binds (ps := ["_law_script", "_law_many"]) fun _ _ _ _ _ _ us hl => match us, hl with | [_, _], _ => rfl⟩
  have F24 := fun_mk (st := sLNames) l24 c24 k24
  have D24 : Def K mg "_law_names" sLNames ["_law_number", "_law_many"] := ⟨_, _, F24, PySem.W.mg_of X G a24, F24.binds (ps := ["_law_number", "_law_many"]) fun _ _ _ _ _ _ us hl => match us, hl with | [_, _], _ => rfl⟩
  have F25 := fun_mk (st := sLLeaves) l25 c25 k25
  have D25 : Def K mg "_law_leaves" sLLeaves ["_law_term_here"] := ⟨_, _, F25, PySem.W.mg_of X G a25, F25.binds (ps := ["_law_term_here"]) fun _ _ _ _ _ _ us hl => match us, hl with | [_], _ => rfl⟩
  have F26 := fun_mk (st := sLTerm) l26 c26 k26
  have D26 : Def K mg "_law_term" sLTerm ["_law_numbers_here", "_law_at", "_law_names_here", "_law_most"] := ⟨_, _, F26, PySem.W.mg_of X G a26, F26.binds (ps := ["_law_numbers_here", "_law_at", "_law_names_here", "_law_most"]) fun _ _ _ _ _ _ us hl => match us, hl with | [_, _, _, _], _ => rfl⟩
  have F27 := fun_mk (st := sLWord) l27 c27 k27
  have D27 : Def K mg "_law_word" sLWord ["_law_numbers_here", "_law_at"] := ⟨_, _, F27, PySem.W.mg_of X G a27, F27.binds (ps := ["_law_numbers_here", "_law_at"]) fun _ _ _ _ _ _ us hl => match us, hl with | [_, _], _ => rfl⟩
  have F28 := fun_mk (st := sLLike) l28 c28 k28
  have D28 : Def K mg "_law_like" sLLike ["_law_numbers_here", "_law_at", "_law_term_here", "_law_names_here"] := ⟨_, _, F28, PySem.W.mg_of X G a28, F28.binds (ps := ["_law_numbers_here", "_law_at", "_law_term_here", "_law_names_here"]) fun _ _ _ _ _ _ us hl => match us, hl with | [_, _, _, _], _ => rfl⟩
  have F29 := fun_mk (st := sLaw) l29 c29 k29
  have FI := fun_mk (st := sPInit) lI cI kI
  have bI := FI.binds (ps := ["self", "count", "threes", "names", "ends"]) fun _ _ _ _ _ _ us hl => match us, hl with | [_, _, _, _, _], _ => rfl
  have FP : FunD K "plain_forms" "plain_forms" (defArgs sPForms) (defBody sPForms) (defScope sPForms) [] [("limit", .int 2000)] fP _ := ⟨⟨_, _, _, _, _, _, _, _, _, _, rfl, lP, cP, .inl ⟨rfl, rfl⟩, .inr ⟨D, rfl, fun q hq => by
    rw [List.mem_singleton.mp hq]
    exact ⟨_, kd, rd⟩⟩⟩, kP⟩
  obtain ⟨dsP, vP, bP⟩ := forms_binds FP
  refine ⟨PySem.W.fnOf "law" "law" (defArgs sLaw) (defBody sLaw) (defScope sLaw) .none kV29 dc29 pm29 an29 cd29 ct29, fun s v => .of_eq rfl, fun base _ _ => ?_⟩
  have gVar : Fn l.prog w K mg base 1 "is_variable" ["term"] spIsVar := D1.fn fun f fd F => ok_isVar F M
  have gLeaves : Fn l.prog w K mg base 2 "leaves" ["term"] spLeaves := D2.fn fun f fd F => ok_leaves F M gVar
  have gCheck : Fn l.prog w K mg base 3 "check_term" ["term"] spCheck := D3.fn fun f fd F => ok_check F gLeaves
  have gKept : Fn l.prog w K mg base 21 "kept" ["term"] (spKept 21) := fn_kept D4 M 21
  have gWritten : Fn l.prog w K mg base 21 "written" ["term"] (spWritten 21) := fn_written D5 M 21
  have gPlace : Fn l.prog w K mg base 22 "place_in_order" ["term"] spKey := D8.fn fun f fd F => ok_place F M gWritten
  have gJoined : Fn l.prog w K mg base 23 "joined" ["one", "other"] spJoined := D9.fn fun f fd F => ok_joined F M gPlace
  have gBrought : Fn l.prog w K mg base (23 + 21) "brought" ["term"] (spBrought 21) := fn_brought D10 M gJoined 21
  have gPlain : Fn l.prog w K mg base 45 "plain" ["term"] spPlain := D11.fn fun f fd F => ok_plain F gCheck gBrought
  have gIsPlain : Fn l.prog w K mg base 46 "is_plain" ["term"] spIsPlain := D12.fn fun f fd F => ok_isPlain F gPlain gKept
  have gEqual : Fn l.prog w K mg base 46 "equal_everywhere" ["one", "other"] spEqual := D13.fn fun f fd F => ok_equal F gPlain
  have gParts : Fn l.prog w K mg base (44 + 21) "parts_of" ["term"] (spParts 21) := fn_parts D14 M gBrought 21
  have gExch : Fn l.prog w K mg base (21 + 21) "exchanged" ["term", "table"] (spExch 21) := fn_exch D7 M gKept 21
  have gRepl : Fn l.prog w K mg base 43 "replaced" ["term", "table"] spReplaced := D6.fn fun f fd F => ok_replaced F M gCheck gExch
  have gLvIn : Fn l.prog w K mg base 5 "leaves_in" ["term"] (spLvIn 5) := fn_lvIn D21 M 5
  have gLLv : Fn l.prog w K mg base 21 "_law_leaves" ["_law_term_here"] (spLvIn 21) := fn_lleaves D25 M 21
  have gCome : Fn l.prog w K mg base 21 "come_there" ["term", "names", "pairs"] (spCome 21) := fn_come D17 M 21
  have gInit : FnOk l.prog w K mg base CX0 1 fI _ ["self", "count", "threes", "names", "ends"] (spPInit C) := ok_pinit FI M c
  have gParting : Fn l.prog w K mg base 66 "parting" ["one", "other"] (spParting C) := D15.fn fun f fd F => ok_parting F M c ⟨mk, aI, iI, kc⟩ gInit bI gCheck gBrought gParts gPlace
  have gPairs : Fn l.prog w K mg base 1 "pairs_of" ["told"] (spPairs C) := D16.fn fun f fd F => ok_pairs F M c
  have gChk : Fn l.prog w K mg base 22 "check_parting" ["one", "other", "told"] (spCheckP C) := D18.fn fun f fd F => ok_checkP F M c gCheck gPairs gCome
  have gOrd : Fn l.prog w K mg base 1 "ordered_counts" ["names", "leaves"] spOrdered := D19.fn fun f fd F => ok_ordered F M
  have gCount : Fn l.prog w K mg base 2 "plain_count" ["names", "leaves"] spPCount := D20.fn fun f fd F => ok_pcount F M gOrd
  have gForms : FnD l.prog w K mg base 25 "plain_forms" ["names", "leaves", "limit"] [.int 2000] spPForms := ⟨fP, _, dsP, ok_pforms (qual := "plain_forms") FP M gVar gCount gJoined gLvIn gPlace, PySem.W.mg_of X G aP, kP, bP, vP⟩
  have gRow : Fn l.prog w K mg base 1 "_law_row" ["_law_cell", "_law_many"] spRow := D22.fn fun f fd F => ok_row F M
  have gNums : Fn l.prog w K mg base 2 "_law_numbers" ["_law_script", "_law_many"] (spNums K) := D23.fn fun f fd F => ok_nums F M gRow
  have gNames : Fn l.prog w K mg base 1 "_law_names" ["_law_number", "_law_many"] spNames := D24.fn fun f fd F => ok_names F M
  have gWord : Fn l.prog w K mg base 2 "_law_word" ["_law_numbers_here", "_law_at"] spWord := D27.fn fun f fd F => ok_word F M gNames
  have gTerm : Fn l.prog w K mg base 22 "_law_term" ["_law_numbers_here", "_law_at", "_law_names_here", "_law_most"] spTerm := D26.fn fun f fd F => ok_term F M gLLv
  have gLike : Fn l.prog w K mg base 23 "_law_like" ["_law_numbers_here", "_law_at", "_law_term_here", "_law_names_here"] spLike := D28.fn fun f fd F => ok_like F M gTerm
  exact ok_law F29 M (C := C) ⟨gNums, gWord, gTerm, gLike, gParting, gEqual, gPlain, gChk, gIsPlain, gRepl, gForms⟩
end TP
open PySem PySem.W PyProof.Rows
set_option maxHeartbeats 0 in
theorem PySem.Challenge.cw_paironce_k46_whole_terms_parted_holds : PySem.Challenge.rw_paironce_k46_whole_terms_parted.Holds := by
  w_on; o_law; k_head; (case hw => w_witness2)
  k_fill
  refine L2.walk_ofB (l := PySem.Challenge.rw_paironce_k46_whole_terms_parted) (n := 63) (k := 67) (x := "_law_script") (CX := fun _ => L2.CX0) (sp := fun w => TP.spLaw _) rfl (by decide) rfl ⟨rfl, by decide, by decide⟩ (fun w h Y => PySem.W.kIn_of Y) ?F (fun _ _ a ns hl hb _ hS => ⟨a, ns, rfl, hS, hl, fun _ => rfl⟩) (fun _ _ _ _ _ h => h)
  case F =>
    intro w mg fa h KX G hmg
    refine' TP.all_mk KX G hmg ?b0 ?r0 ?b1 ?r1 ?b2 ?r2 ?b3 ?r3 ?b4 ?r4 ?b5 ?r5 ?a1 ?l1 ?c1 ?k1 ?a2 ?l2 ?c2 ?k2 ?a3 ?l3 ?c3 ?k3 ?a4 ?l4 ?c4 ?k4 ?a5 ?l5 ?c5 ?k5 ?a6 ?l6 ?c6 ?k6 ?a7 ?l7 ?c7 ?k7 ?a8 ?l8 ?c8 ?k8 ?a9 ?l9 ?c9 ?k9 ?a10 ?l10 ?c10 ?k10 ?a11 ?l11 ?c11 ?k11 ?a12 ?l12 ?c12 ?k12 ?a13 ?l13 ?c13 ?k13 ?a14 ?l14 ?c14 ?k14 ?a15 ?l15 ?c15 ?k15 ?a16 ?l16 ?c16 ?k16 ?a17 ?l17 ?c17 ?k17 ?a18 ?l18 ?c18 ?k18 ?a19 ?l19 ?c19 ?k19 ?a20 ?l20 ?c20 ?k20 ?a21 ?l21 ?c21 ?k21 ?a22 ?l22 ?c22 ?k22 ?a23 ?l23 ?c23 ?k23 ?a24 ?l24 ?c24 ?k24 ?a25 ?l25 ?c25 ?k25 ?a26 ?l26 ?c26 ?k26 ?a27 ?l27 ?c27 ?k27 ?a28 ?l28 ?c28 ?k28 ?a29 ?l29 ?c29 ?k29 ?aP ?lP ?cP ?kP ?kd ?rd ?aC ?aI ?iI ?lI ?cI ?kI ?pg ?hd ?po ?sa ?mk ?kc ?n1 ?n2 ?n3 ?n4 ?z_isi ?z_str ?z_tup ?z_lst ?z_int ?z_dic ?z_len ?z_all ?z_srt ?z_enu ?z_rng ?z_mi ?z_ma ?z_sm ?z_ab
    (case b0 => k_is)
    (case r0 => exact ⟨_, rfl⟩)
    (case b1 => k_is)
    (case r1 => exact ⟨_, rfl⟩)
    (case b2 => k_is)
    (case r2 => exact ⟨_, rfl⟩)
    (case b3 => k_is)
    (case r3 => exact ⟨_, rfl⟩)
    (case b4 => k_is)
    (case r4 => exact ⟨_, rfl⟩)
    (case b5 => k_is)
    (case r5 => exact ⟨_, rfl⟩)
    (case a1 => k_is)
    (case l1 => k_is)
    (case c1 => k_is)
    (case k1 => k_is)
    (case a2 => k_is)
    (case l2 => k_is)
    (case c2 => k_is)
    (case k2 => k_is)
    (case a3 => k_is)
    (case l3 => k_is)
    (case c3 => k_is)
    (case k3 => k_is)
    (case a4 => k_is)
    (case l4 => k_is)
    (case c4 => k_is)
    (case k4 => k_is)
    (case a5 => k_is)
    (case l5 => k_is)
    (case c5 => k_is)
    (case k5 => k_is)
    (case a6 => k_is)
    (case l6 => k_is)
    (case c6 => k_is)
    (case k6 => k_is)
    (case a7 => k_is)
    (case l7 => k_is)
    (case c7 => k_is)
    (case k7 => k_is)
    (case a8 => k_is)
    (case l8 => k_is)
    (case c8 => k_is)
    (case k8 => k_is)
    (case a9 => k_is)
    (case l9 => k_is)
    (case c9 => k_is)
    (case k9 => k_is)
    (case a10 => k_is)
    (case l10 => k_is)
    (case c10 => k_is)
    (case k10 => k_is)
    (case a11 => k_is)
    (case l11 => k_is)
    (case c11 => k_is)
    (case k11 => k_is)
    (case a12 => k_is)
    (case l12 => k_is)
    (case c12 => k_is)
    (case k12 => k_is)
    (case a13 => k_is)
    (case l13 => k_is)
    (case c13 => k_is)
    (case k13 => k_is)
    (case a14 => k_is)
    (case l14 => k_is)
    (case c14 => k_is)
    (case k14 => k_is)
    (case a15 => k_is)
    (case l15 => k_is)
    (case c15 => k_is)
    (case k15 => k_is)
    (case a16 => k_is)
    (case l16 => k_is)
    (case c16 => k_is)
    (case k16 => k_is)
    (case a17 => k_is)
    (case l17 => k_is)
    (case c17 => k_is)
    (case k17 => k_is)
    (case a18 => k_is)
    (case l18 => k_is)
    (case c18 => k_is)
    (case k18 => k_is)
    (case a19 => k_is)
    (case l19 => k_is)
    (case c19 => k_is)
    (case k19 => k_is)
    (case a20 => k_is)
    (case l20 => k_is)
    (case c20 => k_is)
    (case k20 => k_is)
    (case a21 => k_is)
    (case l21 => k_is)
    (case c21 => k_is)
    (case k21 => k_is)
    (case a22 => k_is)
    (case l22 => k_is)
    (case c22 => k_is)
    (case k22 => k_is)
    (case a23 => k_is)
    (case l23 => k_is)
    (case c23 => k_is)
    (case k23 => k_is)
    (case a24 => k_is)
    (case l24 => k_is)
    (case c24 => k_is)
    (case k24 => k_is)
    (case a25 => k_is)
    (case l25 => k_is)
    (case c25 => k_is)
    (case k25 => k_is)
    (case a26 => k_is)
    (case l26 => k_is)
    (case c26 => k_is)
    (case k26 => k_is)
    (case a27 => k_is)
    (case l27 => k_is)
    (case c27 => k_is)
    (case k27 => k_is)
    (case a28 => k_is)
    (case l28 => k_is)
    (case c28 => k_is)
    (case k28 => k_is)
    (case a29 => k_is)
    (case l29 => k_is)
    (case c29 => k_is)
    (case k29 => k_is)
    (case aP => k_is)
    (case lP => k_is)
    (case cP => k_is)
    (case kP => k_is)
    (case kd => k_is)
    (case rd => exact ⟨_, rfl⟩)
    (case aC => k_is)
    (case aI => k_is)
    (case iI => k_is)
    (case lI => k_is)
    (case cI => k_is)
    (case kI => k_is)
    (case pg => k_is)
    (case hd => k_is)
    (case po => k_is)
    (case sa => k_is)
    (case mk => k_is)
    (case kc => k_is)
    (case n1 => k_is)
    (case n2 => k_is)
    (case n3 => k_is)
    (case n4 => k_is)
    (case z_isi => k_is)
    (case z_str => k_is)
    (case z_tup => k_is)
    (case z_lst => k_is)
    (case z_int => k_is)
    (case z_dic => k_is)
    (case z_len => k_is)
    (case z_all => k_is)
    (case z_srt => k_is)
    (case z_enu => k_is)
    (case z_rng => k_is)
    (case z_mi => k_is)
    (case z_ma => k_is)
    (case z_sm => k_is)
    (case z_ab => k_is)
#print axioms PySem.Challenge.cw_paironce_k46_whole_terms_parted_holds
