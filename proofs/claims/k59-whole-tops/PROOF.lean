import PyProof.Rows.All
import Wide.All
import OpenK.AllK
import Wide.FinOn
import HandS.ForMost
import HandS.ForExc
import HandS.Deep
import HandS.TupAny
import HandS.Zip
import HandS.Wide
import HandS.WideBits
import HandS.IsInst
import HandS.Conv
import HandS.Style
import HandS.Defaults
import HandS.HeadHook1
import HandS.ExcIs
import PySem.Challenge.RW_tipwoods_k59_whole_tops_met_and_joined
import HandS.TupLe
import HandS.SortRule
import HandS.NamedTupSort
import HandS.ListItems
import KE.KDictCopyH
import HandS.ExcCtx
import HandS.HotCalls
import HandS.Hot
import HandS.Lambda
import HandS.IterVal
import HandS.Head0
import HandS.Head1
import HandS.Head2
import HandS.HeadEnd
import HandS.HeadHook2
import HandS.HeadHook3
import HandS.HeadHook4
import HandS.HeadWalk
import HandS.EndTab
import KE.KStateDown
import HandS.Ends
import HandS.More
import HandS.Words
import HandS.WordsExc
set_option linter.all false
namespace Tw
/-! ### bushes -/
inductive T where
  | tip
  | kn (c : Nat) (bs : List T)

mutual
theorem ind1 {P : T → Prop} (h0 : P .tip) (h1 : ∀ c bs, (∀ b ∈ bs, P b) → P (.kn c bs)) : ∀ t, P t
  | .tip => h0
  | .kn c bs => h1 c bs (indL h0 h1 bs)
theorem indL {P : T → Prop} (h0 : P .tip) (h1 : ∀ c bs, (∀ b ∈ bs, P b) → P (.kn c bs)) : ∀ bs : List T, ∀ b ∈ bs, P b
  | [], _, h => absurd h (by simp)
  | a :: r, b, h => by
    rcases List.mem_cons.mp h with e | h
    · rw [e]; exact ind1 h0 h1 a
    · exact indL h0 h1 r b h
end
theorem T.ind {P : T → Prop} (h0 : P .tip) (h1 : ∀ c bs, (∀ b ∈ bs, P b) → P (.kn c bs)) (t : T) : P t := ind1 h0 h1 t

mutual
def beqT : T → T → Bool
  | .tip, .tip => true
  | .kn c bs, .kn d es => decide (c = d) && beqL bs es
  | _, _ => false
def beqL : List T → List T → Bool
  | [], [] => true
  | b :: r, e :: s => beqT b e && beqL r s
  | _, _ => false
end
mutual
theorem beqT_iff : ∀ {b e : T}, beqT b e = true ↔ b = e
  | .tip, .tip => by simp [beqT]
  | .tip, .kn _ _ => by simp [beqT]
  | .kn _ _, .tip => by simp [beqT]
  | .kn c bs, .kn d es => by simp [beqT, beqL_iff (bs := bs) (es := es)]
theorem beqL_iff : ∀ {bs es : List T}, beqL bs es = true ↔ bs = es
  | [], [] => by simp [beqL]
  | [], _ :: _ => by simp [beqL]
  | _ :: _, [] => by simp [beqL]
  | b :: r, e :: s => by simp [beqL, beqT_iff (b := b) (e := e), beqL_iff (bs := r) (es := s)]
end
instance : DecidableEq T := fun a b => decidable_of_iff (beqT a b = true) beqT_iff
instance : Inhabited T := ⟨.tip⟩

/-! ### counts -/
mutual
def knots : T → Nat
  | .tip => 0
  | .kn _ bs => 1 + knotsL bs
def knotsL : List T → Nat
  | [] => 0
  | b :: r => knots b + knotsL r
end
mutual
def tips : T → Nat
  | .tip => 1
  | .kn _ bs => tipsL bs
def tipsL : List T → Nat
  | [] => 0
  | b :: r => tips b + tipsL r
end
mutual
def height : T → Nat
  | .tip => 0
  | .kn _ bs => 1 + heightL bs
def heightL : List T → Nat
  | [] => 0
  | b :: r => max (height b) (heightL r)
end
mutual
def topsN : T → Nat
  | .tip => 1
  | .kn _ bs => topsNL bs + 1
def topsNL : List T → Nat
  | [] => 1
  | b :: r => topsN b * topsNL r
end
theorem knotsL_eq : ∀ bs : List T, knotsL bs = (bs.map knots).sum
  | [] => rfl
  | b :: r => by rw [knotsL, knotsL_eq r, List.map_cons, List.sum_cons]
theorem tipsL_eq : ∀ bs : List T, tipsL bs = (bs.map tips).sum
  | [] => rfl
  | b :: r => by rw [tipsL, tipsL_eq r, List.map_cons, List.sum_cons]
theorem knotsL_app : ∀ a b : List T, knotsL (a ++ b) = knotsL a + knotsL b
  | [], b => by simp [knotsL]
  | x :: r, b => by rw [List.cons_append, knotsL, knotsL, knotsL_app r b]; omega
theorem tipsL_app : ∀ a b : List T, tipsL (a ++ b) = tipsL a + tipsL b
  | [], b => by simp [tipsL]
  | x :: r, b => by rw [List.cons_append, tipsL, tipsL, tipsL_app r b]; omega
theorem knots_mem : ∀ {bs : List T} {b : T}, b ∈ bs → knots b ≤ knotsL bs
  | a :: r, b, h => by
    rw [knotsL]
    rcases List.mem_cons.mp h with e | h
    · rw [e]; omega
    · have := knots_mem h; omega
theorem height_mem : ∀ {bs : List T} {b : T}, b ∈ bs → height b ≤ heightL bs
  | a :: r, b, h => by
    rw [heightL]
    rcases List.mem_cons.mp h with e | h
    · rw [e]; omega
    · have := height_mem h; omega
theorem heightL_le : ∀ {bs : List T} {n : Nat}, (∀ b ∈ bs, height b ≤ n) → heightL bs ≤ n
  | [], n, _ => Nat.zero_le _
  | a :: r, n, h => by
    rw [heightL]
    have h1 := h a List.mem_cons_self
    have h2 := heightL_le (bs := r) (n := n) fun b hb => h b (List.mem_cons_of_mem _ hb)
    omega
theorem height_le_knots (t : T) : height t ≤ knots t := by
  induction t using T.ind with
  | h0 => exact Nat.le_refl _
  | h1 c bs ih =>
    rw [height, knots]
    have : heightL bs ≤ knotsL bs := heightL_le fun b hb => Nat.le_trans (ih b hb) (knots_mem hb)
    omega

/-! ### bushes as they may be handed in -/
mutual
def wf : T → Bool
  | .tip => true
  | .kn c bs => decide (97 ≤ c) && decide (c ≤ 122) && decide (1 ≤ bs.length) && decide (bs.length ≤ 6) && wfL bs
def wfL : List T → Bool
  | [] => true
  | b :: r => wf b && wfL r
end
theorem wfL_iff : ∀ {bs : List T}, wfL bs = true ↔ ∀ b ∈ bs, wf b = true
  | [] => by simp [wfL]
  | b :: r => by simp [wfL, wfL_iff (bs := r)]
theorem wf_kn {c : Nat} {bs : List T} : wf (.kn c bs) = true ↔ (97 ≤ c ∧ c ≤ 122) ∧ (1 ≤ bs.length ∧ bs.length ≤ 6) ∧ ∀ b ∈ bs, wf b = true := by
  rw [wf]
  simp only [Bool.and_eq_true, decide_eq_true_eq, wfL_iff]
  constructor
  · rintro ⟨⟨⟨⟨a, b⟩, c⟩, d⟩, e⟩; exact ⟨⟨a, b⟩, ⟨c, d⟩, e⟩
  · rintro ⟨⟨a, b⟩, ⟨c, d⟩, e⟩; exact ⟨⟨⟨⟨a, b⟩, c⟩, d⟩, e⟩
theorem tips_pos {t : T} (h : wf t = true) : 1 ≤ tips t := by
  induction t using T.ind with
  | h0 => exact Nat.le_refl _
  | h1 c bs ih =>
    obtain ⟨_, ⟨h1, _⟩, h2⟩ := wf_kn.mp h
    cases bs with
    | nil => simp at h1
    | cons b r =>
      rw [tips, tipsL]
      have := ih b List.mem_cons_self (h2 b List.mem_cons_self)
      omega
theorem tips_le {t : T} (h : wf t = true) : tips t ≤ 1 + 5 * knots t := by
  induction t using T.ind with
  | h0 => exact Nat.le_refl _
  | h1 c bs ih =>
    obtain ⟨_, ⟨_, h6⟩, h2⟩ := wf_kn.mp h
    have key : ∀ l : List T, (∀ b ∈ l, b ∈ bs) → tipsL l ≤ l.length + 5 * knotsL l := by
      intro l
      induction l with
      | nil => intro _; exact Nat.le_refl _
      | cons b r ihr =>
        intro hm
        have a := ih b (hm b List.mem_cons_self) (h2 b (hm b List.mem_cons_self))
        have q := ihr fun x hx => hm x (List.mem_cons_of_mem _ hx)
        rw [tipsL, knotsL, List.length_cons]
        omega
    have q := key bs fun _ h => h
    rw [tips, knots]
    omega

/-! ### tops -/
mutual
def isTop : T → T → Bool
  | .tip, _ => true
  | .kn c bs, .kn d es => decide (c = d) && isTopL bs es
  | .kn _ _, .tip => false
def isTopL : List T → List T → Bool
  | [], [] => true
  | b :: r, e :: s => isTop b e && isTopL r s
  | _, _ => false
end
mutual
def tops : T → List T
  | .tip => [.tip]
  | .kn c bs => .tip :: (topsL [[]] bs).map (.kn c)
def topsL : List (List T) → List T → List (List T)
  | rows, [] => rows
  | rows, b :: r => topsL (rows.flatMap fun row => (tops b).map fun t => row ++ [t]) r
end
theorem isTopL_len : ∀ {bs es : List T}, isTopL bs es = true → bs.length = es.length
  | [], [], _ => rfl
  | [], _ :: _, h => by simp [isTopL] at h
  | _ :: _, [], h => by simp [isTopL] at h
  | b :: r, e :: s, h => by
    rw [isTopL, Bool.and_eq_true] at h
    rw [List.length_cons, List.length_cons, isTopL_len h.2]
theorem isTopL_all : ∀ {bs es : List T}, bs.length = es.length → isTopL bs es = ((bs.zip es).all fun p => isTop p.1 p.2)
  | [], [], _ => rfl
  | [], _ :: _, h => by simp at h
  | _ :: _, [], h => by simp at h
  | b :: r, e :: s, h => by
    rw [isTopL, isTopL_all (by simpa using h), List.zip_cons_cons, List.all_cons]
theorem mem_topsL : ∀ {es : List T} (ih : ∀ e ∈ es, ∀ t, t ∈ tops e ↔ isTop t e = true) {rows : List (List T)} {ts : List T}, ts ∈ topsL rows es ↔ ∃ row ∈ rows, ∃ us, ts = row ++ us ∧ isTopL us es = true
  | [], _, rows, ts => by
    rw [topsL]
    constructor
    · intro h; exact ⟨ts, h, [], by simp, rfl⟩
    · rintro ⟨row, h, us, e, hu⟩
      have : us = [] := List.eq_nil_of_length_eq_zero (by simpa using isTopL_len hu)
      subst this
      rw [e, List.append_nil]; exact h
  | e :: s, ih, rows, ts => by
    rw [topsL, mem_topsL fun x hx => ih x (List.mem_cons_of_mem _ hx)]
    constructor
    · rintro ⟨row, h, us, rfl, hu⟩
      obtain ⟨row0, h0, h1⟩ := List.mem_flatMap.mp h
      obtain ⟨t, ht, rfl⟩ := List.mem_map.mp h1
      refine ⟨row0, h0, t :: us, by simp, ?_⟩
      rw [isTopL, Bool.and_eq_true]
      exact ⟨(ih e List.mem_cons_self t).mp ht, hu⟩
    · rintro ⟨row, h, us, rfl, hu⟩
      cases us with
      | nil => simp [isTopL] at hu
      | cons t us =>
        rw [isTopL, Bool.and_eq_true] at hu
        exact ⟨row ++ [t], List.mem_flatMap.mpr ⟨row, h, List.mem_map.mpr ⟨t, (ih e List.mem_cons_self t).mpr hu.1, rfl⟩⟩, us, by simp, hu.2⟩
theorem mem_tops (o : T) : ∀ t, t ∈ tops o ↔ isTop t o = true := by
  induction o using T.ind with
  | h0 =>
    intro t
    cases t with
    | tip => simp [tops, isTop]
    | kn c bs => simp [tops, isTop]
  | h1 d es ih =>
    intro t
    cases t with
    | tip => simp [tops, isTop]
    | kn c bs =>
      rw [tops, isTop]
      simp only [List.mem_cons, List.mem_map, Bool.and_eq_true, decide_eq_true_eq, reduceCtorEq, false_or]
      constructor
      · rintro ⟨ts, hts, e⟩
        injection e with e1 e2
        subst e1 e2
        obtain ⟨row, h, us, rfl, hu⟩ := (mem_topsL ih).mp hts
        have : row = [] := by simpa using h
        subst this
        exact ⟨rfl, hu⟩
      · rintro ⟨rfl, hu⟩
        exact ⟨bs, (mem_topsL ih).mpr ⟨[], by simp, bs, by simp, hu⟩, rfl⟩
theorem topsL_length : ∀ {es : List T} (ih : ∀ e ∈ es, (tops e).length = topsN e) {rows : List (List T)}, (topsL rows es).length = rows.length * topsNL es
  | [], _, rows => by rw [topsL, topsNL, Nat.mul_one]
  | e :: s, ih, rows => by
    rw [topsL, topsL_length fun x hx => ih x (List.mem_cons_of_mem _ hx), topsNL, ← ih e List.mem_cons_self, ← Nat.mul_assoc]
    congr 1
    induction rows with
    | nil => simp
    | cons r rs ih2 => rw [List.flatMap_cons, List.length_append, ih2, List.length_map, List.length_cons, Nat.succ_mul, Nat.add_comm]
theorem tops_length (o : T) : (tops o).length = topsN o := by
  induction o using T.ind with
  | h0 => rfl
  | h1 d es ih => rw [tops, List.length_cons, List.length_map, topsL_length ih, topsN]; simp
theorem topsN_pos (t : T) : 1 ≤ topsN t := by
  cases t with
  | tip => exact Nat.le_refl _
  | kn c bs => rw [topsN]; omega
theorem topsN_le (t : T) : topsN t ≤ 2 ^ knots t := by
  induction t using T.ind with
  | h0 => exact Nat.le_refl _
  | h1 c bs ih =>
    have key : ∀ l : List T, (∀ b ∈ l, b ∈ bs) → topsNL l ≤ 2 ^ knotsL l := by
      intro l
      induction l with
      | nil => intro _; exact Nat.le_refl _
      | cons b r ihr =>
        intro hm
        rw [topsNL, knotsL, Nat.pow_add]
        exact Nat.mul_le_mul (ih b (hm b List.mem_cons_self)) (ihr fun x hx => hm x (List.mem_cons_of_mem _ hx))
    have q := key bs fun _ h => h
    rw [topsN, knots, Nat.pow_add]
    have : 1 ≤ 2 ^ knotsL bs := Nat.one_le_two_pow
    omega

/-! ### what both have, what has both -/
mutual
def met : T → T → T
  | .tip, _ => .tip
  | .kn c bs, .kn d es => if c = d ∧ bs.length = es.length then .kn c (metL bs es) else .tip
  | .kn _ _, .tip => .tip
def metL : List T → List T → List T
  | b :: r, e :: s => met b e :: metL r s
  | _, _ => []
end
mutual
def joined : T → T → T
  | .tip, o => o
  | .kn c bs, .kn _ es => .kn c (joinedL bs es)
  | .kn c bs, .tip => .kn c bs
def joinedL : List T → List T → List T
  | b :: r, e :: s => joined b e :: joinedL r s
  | _, _ => []
end
mutual
def agree : T → T → Bool
  | .tip, _ => true
  | .kn c bs, .kn d es => decide (c = d) && agreeL bs es
  | .kn _ _, .tip => true
def agreeL : List T → List T → Bool
  | [], [] => true
  | b :: r, e :: s => agree b e && agreeL r s
  | _, _ => false
end
theorem metL_eq : ∀ bs es : List T, metL bs es = (bs.zip es).map fun p => met p.1 p.2
  | [], es => by simp [metL]
  | b :: r, [] => by simp [metL]
  | b :: r, e :: s => by rw [metL, metL_eq r s, List.zip_cons_cons, List.map_cons]
theorem joinedL_eq : ∀ bs es : List T, joinedL bs es = (bs.zip es).map fun p => joined p.1 p.2
  | [], es => by simp [joinedL]
  | b :: r, [] => by simp [joinedL]
  | b :: r, e :: s => by rw [joinedL, joinedL_eq r s, List.zip_cons_cons, List.map_cons]
theorem agreeL_len : ∀ {bs es : List T}, agreeL bs es = true → bs.length = es.length
  | [], [], _ => rfl
  | [], _ :: _, h => by simp [agreeL] at h
  | _ :: _, [], h => by simp [agreeL] at h
  | b :: r, e :: s, h => by
    rw [agreeL, Bool.and_eq_true] at h
    rw [List.length_cons, List.length_cons, agreeL_len h.2]
mutual
theorem met_left : ∀ b o : T, isTop (met b o) b = true
  | .tip, _ => rfl
  | .kn c bs, .tip => rfl
  | .kn c bs, .kn d es => by
    rw [met]
    split
    · rename_i h
      rw [isTop, met_leftL bs es h.2]; simp
    · rfl
theorem met_leftL : ∀ bs es : List T, bs.length = es.length → isTopL (metL bs es) bs = true
  | [], [], _ => rfl
  | [], _ :: _, h => by simp at h
  | _ :: _, [], h => by simp at h
  | b :: r, e :: s, h => by rw [metL, isTopL, met_left b e, met_leftL r s (by simpa using h)]; rfl
end
mutual
theorem met_right : ∀ b o : T, isTop (met b o) o = true
  | .tip, _ => rfl
  | .kn c bs, .tip => rfl
  | .kn c bs, .kn d es => by
    rw [met]
    split
    · rename_i h
      rw [isTop, met_rightL bs es h.2]; simp [h.1]
    · rfl
theorem met_rightL : ∀ bs es : List T, bs.length = es.length → isTopL (metL bs es) es = true
  | [], [], _ => rfl
  | [], _ :: _, h => by simp at h
  | _ :: _, [], h => by simp at h
  | b :: r, e :: s, h => by rw [metL, isTopL, met_right b e, met_rightL r s (by simpa using h)]; rfl
end
mutual
theorem met_most : ∀ t b o : T, isTop t b = true → isTop t o = true → isTop t (met b o) = true
  | .tip, _, _, _, _ => rfl
  | .kn a ts, .tip, _, h, _ => by simp [isTop] at h
  | .kn a ts, .kn c bs, .tip, _, h => by simp [isTop] at h
  | .kn a ts, .kn c bs, .kn d es, h1, h2 => by
    simp only [isTop, Bool.and_eq_true, decide_eq_true_eq] at h1 h2
    have l : bs.length = es.length := (isTopL_len h1.2).symm.trans (isTopL_len h2.2)
    rw [met, if_pos ⟨h1.1.symm.trans h2.1, l⟩]
    simp only [isTop, Bool.and_eq_true, decide_eq_true_eq]
    exact ⟨h1.1, met_mostL ts bs es h1.2 h2.2⟩
theorem met_mostL : ∀ ts bs es : List T, isTopL ts bs = true → isTopL ts es = true → isTopL ts (metL bs es) = true
  | [], [], [], _, _ => rfl
  | [], _ :: _, _, h, _ => by simp [isTopL] at h
  | [], [], _ :: _, _, h => by simp [isTopL] at h
  | _ :: _, [], _, h, _ => by simp [isTopL] at h
  | _ :: _, _ :: _, [], _, h => by simp [isTopL] at h
  | t :: ts, b :: bs, e :: es, h1, h2 => by
    simp only [isTopL, Bool.and_eq_true] at h1 h2
    simp only [metL, isTopL, Bool.and_eq_true]
    exact ⟨met_most t b e h1.1 h2.1, met_mostL ts bs es h1.2 h2.2⟩
end
mutual
theorem isTop_refl : ∀ b : T, isTop b b = true
  | .tip => rfl
  | .kn c bs => by rw [isTop, isTop_reflL bs]; simp
theorem isTop_reflL : ∀ bs : List T, isTopL bs bs = true
  | [] => rfl
  | b :: r => by rw [isTopL, isTop_refl b, isTop_reflL r]; rfl
end
mutual
theorem joined_left : ∀ b o : T, agree b o = true → isTop b (joined b o) = true
  | .tip, _, _ => rfl
  | .kn c bs, .tip, _ => by rw [joined]; exact isTop_refl _
  | .kn c bs, .kn d es, h => by
    simp only [agree, Bool.and_eq_true, decide_eq_true_eq] at h
    rw [joined, isTop, joined_leftL bs es h.2]; simp
theorem joined_leftL : ∀ bs es : List T, agreeL bs es = true → isTopL bs (joinedL bs es) = true
  | [], [], _ => rfl
  | [], _ :: _, h => by simp [agreeL] at h
  | _ :: _, [], h => by simp [agreeL] at h
  | b :: r, e :: s, h => by
    simp only [agreeL, Bool.and_eq_true] at h
    rw [joinedL, isTopL, joined_left b e h.1, joined_leftL r s h.2]; rfl
end
mutual
theorem joined_right : ∀ b o : T, agree b o = true → isTop o (joined b o) = true
  | .tip, o, _ => by rw [joined]; exact isTop_refl _
  | .kn c bs, .tip, _ => by rw [joined]; rfl
  | .kn c bs, .kn d es, h => by
    simp only [agree, Bool.and_eq_true, decide_eq_true_eq] at h
    rw [joined, isTop, joined_rightL bs es h.2]; simp [h.1]
theorem joined_rightL : ∀ bs es : List T, agreeL bs es = true → isTopL es (joinedL bs es) = true
  | [], [], _ => rfl
  | [], _ :: _, h => by simp [agreeL] at h
  | _ :: _, [], h => by simp [agreeL] at h
  | b :: r, e :: s, h => by
    simp only [agreeL, Bool.and_eq_true] at h
    rw [joinedL, isTopL, joined_right b e h.1, joined_rightL r s h.2]; rfl
end
mutual
theorem knots_both : ∀ b o : T, agree b o = true → knots (joined b o) + knots (met b o) = knots b + knots o
  | .tip, o, _ => by rw [joined, met]; simp [knots]
  | .kn c bs, .tip, _ => by rw [joined, met]
  | .kn c bs, .kn d es, h => by
    simp only [agree, Bool.and_eq_true, decide_eq_true_eq] at h
    rw [joined, met, if_pos ⟨h.1, agreeL_len h.2⟩]
    have q := knots_bothL bs es h.2
    simp only [knots]
    omega
theorem knots_bothL : ∀ bs es : List T, agreeL bs es = true → knotsL (joinedL bs es) + knotsL (metL bs es) = knotsL bs + knotsL es
  | [], [], _ => rfl
  | [], _ :: _, h => by simp [agreeL] at h
  | _ :: _, [], h => by simp [agreeL] at h
  | b :: r, e :: s, h => by
    simp only [agreeL, Bool.and_eq_true] at h
    have q1 := knots_both b e h.1
    have q2 := knots_bothL r s h.2
    simp only [joinedL, metL, knotsL]
    omega
end
mutual
theorem knots_met : ∀ b o : T, knots (met b o) ≤ knots b
  | .tip, o => by rw [met]; exact Nat.le_refl _
  | .kn c bs, .tip => by rw [met]; exact Nat.zero_le _
  | .kn c bs, .kn d es => by
    rw [met]
    split
    · have := knots_metL bs es; simp only [knots]; omega
    · exact Nat.zero_le _
theorem knots_metL : ∀ bs es : List T, knotsL (metL bs es) ≤ knotsL bs
  | [], _ => by simp [metL, knotsL]
  | _ :: _, [] => by simp [metL, knotsL]
  | b :: r, e :: s => by
    have q1 := knots_met b e
    have q2 := knots_metL r s
    simp only [metL, knotsL]
    omega
end
mutual
theorem wf_met : ∀ b o : T, wf b = true → wf (met b o) = true
  | .tip, o, _ => by rw [met]; rfl
  | .kn c bs, .tip, _ => by rw [met]; rfl
  | .kn c bs, .kn d es, h => by
    rw [met]
    split
    · rename_i e
      obtain ⟨h1, h2, h3⟩ := wf_kn.mp h
      refine wf_kn.mpr ⟨h1, ?_, wfL_iff.mp (wf_metL bs es (wfL_iff.mpr h3))⟩
      rw [metL_eq, List.length_map, List.length_zip, ← e.2, Nat.min_self]
      exact h2
    · rfl
theorem wf_metL : ∀ bs es : List T, wfL bs = true → wfL (metL bs es) = true
  | [], _, _ => by simp [metL, wfL]
  | _ :: _, [], _ => by simp [metL, wfL]
  | b :: r, e :: s, h => by
    simp only [wfL, Bool.and_eq_true] at h
    simp only [metL, wfL, Bool.and_eq_true]
    exact ⟨wf_met b e h.1, wf_metL r s h.2⟩
end
mutual
theorem wf_joined : ∀ b o : T, wf b = true → wf o = true → agree b o = true → wf (joined b o) = true
  | .tip, o, _, h, _ => by rw [joined]; exact h
  | .kn c bs, .tip, h, _, _ => by rw [joined]; exact h
  | .kn c bs, .kn d es, h, h', e => by
    simp only [agree, Bool.and_eq_true, decide_eq_true_eq] at e
    rw [joined]
    obtain ⟨h1, h2, h3⟩ := wf_kn.mp h
    obtain ⟨_, _, h4⟩ := wf_kn.mp h'
    refine wf_kn.mpr ⟨h1, ?_, wfL_iff.mp (wf_joinedL bs es (wfL_iff.mpr h3) (wfL_iff.mpr h4) e.2)⟩
    rw [joinedL_eq, List.length_map, List.length_zip, ← agreeL_len e.2, Nat.min_self]
    exact h2
theorem wf_joinedL : ∀ bs es : List T, wfL bs = true → wfL es = true → agreeL bs es = true → wfL (joinedL bs es) = true
  | [], _, _, _, _ => by simp [joinedL, wfL]
  | _ :: _, [], _, _, _ => by simp [joinedL, wfL]
  | b :: r, e :: s, h, h', a => by
    simp only [wfL, Bool.and_eq_true] at h h'
    simp only [agreeL, Bool.and_eq_true] at a
    simp only [joinedL, wfL, Bool.and_eq_true]
    exact ⟨wf_joined b e h.1 h'.1 a.1, wf_joinedL r s h.2 h'.2 a.2⟩
end
end Tw
set_option linter.all false
namespace Tw
/-! ### roads in order -/
abbrev R := List Nat
def lexLt : R → R → Bool
  | [], [] => false
  | [], _ :: _ => true
  | _ :: _, [] => false
  | a :: r, b :: s => if a = b then lexLt r s else decide (a < b)
theorem lexLt_irr : ∀ r : R, lexLt r r = false
  | [] => rfl
  | a :: r => by rw [lexLt, if_pos rfl, lexLt_irr r]
theorem lexLt_asym : ∀ {r s : R}, lexLt r s = true → lexLt s r = false
  | [], [], h => by simp [lexLt] at h
  | [], _ :: _, _ => rfl
  | _ :: _, [], h => by simp [lexLt] at h
  | a :: r, b :: s, h => by
    rw [lexLt] at h ⊢
    split at h
    · rename_i e
      rw [if_pos e.symm]; exact lexLt_asym h
    · rename_i e
      rw [if_neg (fun z => e z.symm)]
      have := of_decide_eq_true h
      exact decide_eq_false (by omega)
theorem lexLt_trans : ∀ {r s t : R}, lexLt r s = true → lexLt s t = true → lexLt r t = true
  | [], [], _, h, _ => by simp [lexLt] at h
  | [], _ :: _, [], _, h => by simp [lexLt] at h
  | [], _ :: _, _ :: _, _, _ => rfl
  | _ :: _, [], _, h, _ => by simp [lexLt] at h
  | _ :: _, _ :: _, [], _, h => by simp [lexLt] at h
  | a :: r, b :: s, c :: t, h1, h2 => by
    rw [lexLt] at h1 h2 ⊢
    by_cases e1 : a = b
    · by_cases e2 : b = c
      · rw [if_pos e1] at h1
        rw [if_pos e2] at h2
        rw [if_pos (e1.trans e2)]
        exact lexLt_trans h1 h2
      · rw [if_neg e2] at h2
        have q2 := of_decide_eq_true h2
        rw [if_neg (by omega)]
        exact decide_eq_true (by omega)
    · rw [if_neg e1] at h1
      have q1 := of_decide_eq_true h1
      by_cases e2 : b = c
      · rw [if_neg (by omega)]
        exact decide_eq_true (by omega)
      · rw [if_neg e2] at h2
        have q2 := of_decide_eq_true h2
        rw [if_neg (by omega)]
        exact decide_eq_true (by omega)
theorem lexLt_tot : ∀ {r s : R}, lexLt r s = false → lexLt s r = false → r = s
  | [], [], _, _ => rfl
  | [], _ :: _, h, _ => by simp [lexLt] at h
  | _ :: _, [], _, h => by simp [lexLt] at h
  | a :: r, b :: s, h1, h2 => by
    rw [lexLt] at h1 h2
    by_cases e : a = b
    · rw [if_pos e] at h1
      rw [if_pos e.symm] at h2
      rw [e, lexLt_tot h1 h2]
    · rw [if_neg e] at h1
      rw [if_neg (fun z => e z.symm)] at h2
      have q1 := of_decide_eq_false h1
      have q2 := of_decide_eq_false h2
      omega
theorem lexLt_app : ∀ {r s : R} (a b : R), r.length = s.length → lexLt r s = true → lexLt (r ++ a) (s ++ b) = true
  | [], [], _, _, _, h => by simp [lexLt] at h
  | [], _ :: _, _, _, h, _ => by simp at h
  | _ :: _, [], _, _, h, _ => by simp at h
  | x :: r, y :: s, a, b, hl, h => by
    rw [lexLt] at h
    rw [List.cons_append, List.cons_append, lexLt]
    by_cases e : x = y
    · rw [if_pos e] at h ⊢
      exact lexLt_app a b (by simpa using hl) h
    · rw [if_neg e] at h ⊢
      exact h
theorem lexLt_pre : ∀ (r a b : R), lexLt (r ++ a) (r ++ b) = lexLt a b
  | [], _, _ => rfl
  | x :: r, a, b => by rw [List.cons_append, List.cons_append, lexLt, if_pos rfl, lexLt_pre r a b]
/-- shorter first -/
def keyLt (r s : R) : Bool := if r.length = s.length then lexLt r s else decide (r.length < s.length)
theorem keyLt_asym {r s : R} (h : keyLt r s = true) : keyLt s r = false := by
  unfold keyLt at h ⊢
  by_cases e : r.length = s.length
  · rw [if_pos e] at h
    rw [if_pos e.symm]; exact lexLt_asym h
  · rw [if_neg e] at h
    rw [if_neg (fun z => e z.symm)]
    have := of_decide_eq_true h
    exact decide_eq_false (by omega)
theorem keyLt_irr (r : R) : keyLt r r = false := by unfold keyLt; rw [if_pos rfl, lexLt_irr]
theorem keyLt_trans {r s t : R} (h1 : keyLt r s = true) (h2 : keyLt s t = true) : keyLt r t = true := by
  unfold keyLt at h1 h2 ⊢
  by_cases e1 : r.length = s.length
  · by_cases e2 : s.length = t.length
    · rw [if_pos e1] at h1
      rw [if_pos e2] at h2
      rw [if_pos (e1.trans e2)]
      exact lexLt_trans h1 h2
    · rw [if_neg e2] at h2
      have q2 := of_decide_eq_true h2
      rw [if_neg (by omega)]
      exact decide_eq_true (by omega)
  · rw [if_neg e1] at h1
    have q1 := of_decide_eq_true h1
    by_cases e2 : s.length = t.length
    · rw [if_neg (by omega)]
      exact decide_eq_true (by omega)
    · rw [if_neg e2] at h2
      have q2 := of_decide_eq_true h2
      rw [if_neg (by omega)]
      exact decide_eq_true (by omega)
theorem keyLt_tot {r s : R} (h1 : keyLt r s = false) (h2 : keyLt s r = false) : r = s := by
  unfold keyLt at h1 h2
  by_cases e : r.length = s.length
  · rw [if_pos e] at h1
    rw [if_pos e.symm] at h2
    exact lexLt_tot h1 h2
  · rw [if_neg e] at h1
    rw [if_neg (fun z => e z.symm)] at h2
    have q1 := of_decide_eq_false h1
    have q2 := of_decide_eq_false h2
    omega
/-- two sorted lists of the same things are one -/
theorem sorted_one {α : Type} {lt : α → α → Bool} (as : ∀ {x y}, lt x y = true → lt y x = false) : ∀ {l m : List α}, l.Perm m → l.Pairwise (fun x y => lt x y = true) → m.Pairwise (fun x y => lt x y = true) → l = m
  | [], m, p, _, _ => (List.Perm.nil_eq p)
  | x :: l, [], p, _, _ => by have := p.length_eq; simp at this
  | x :: l, y :: m, p, h1, h2 => by
    have hxy : x = y := by
      have mx : x ∈ y :: m := p.mem_iff.mp List.mem_cons_self
      have my : y ∈ x :: l := p.mem_iff.mpr List.mem_cons_self
      rcases List.mem_cons.mp mx with e | mx
      · exact e
      · rcases List.mem_cons.mp my with e | my
        · exact e.symm
        · have a := (List.pairwise_cons.mp h1).1 y my
          have b := (List.pairwise_cons.mp h2).1 x mx
          rw [as a] at b; cases b
    subst hxy
    rw [sorted_one as (List.Perm.cons_inv p) (List.pairwise_cons.mp h1).2 (List.pairwise_cons.mp h2).2]

/-! ### parts by their roads -/
def partAt : T → R → Option T
  | t, [] => some t
  | .tip, _ :: _ => none
  | .kn _ bs, i :: r => match bs[i]? with
    | some b => partAt b r
    | none => none
mutual
def nodes : T → List (R × T)
  | .tip => [([], .tip)]
  | .kn c bs => ([], .kn c bs) :: nodesL 0 bs
def nodesL : Nat → List T → List (R × T)
  | _, [] => []
  | i, b :: r => (nodes b).map (fun p => (i :: p.1, p.2)) ++ nodesL (i + 1) r
end
theorem mem_nodesL : ∀ {bs : List T} {i : Nat} {p : R × T}, p ∈ nodesL i bs ↔ ∃ j b q, bs[j]? = some b ∧ q ∈ nodes b ∧ p = ((i + j) :: q.1, q.2)
  | [], i, p => by simp [nodesL]
  | b :: r, i, p => by
    rw [nodesL, List.mem_append, mem_nodesL (bs := r), List.mem_map]
    constructor
    · rintro (⟨q, hq, rfl⟩ | ⟨j, b', q, h1, h2, rfl⟩)
      · exact ⟨0, b, q, rfl, hq, rfl⟩
      · exact ⟨j + 1, b', q, by simpa using h1, h2, by rw [show i + 1 + j = i + (j + 1) by omega]⟩
    · rintro ⟨j, b', q, h1, h2, rfl⟩
      cases j with
      | zero =>
        have e : b = b' := by simpa using h1
        subst e
        exact .inl ⟨q, h2, rfl⟩
      | succ j => exact .inr ⟨j, b', q, by simpa using h1, h2, by rw [show i + 1 + j = i + (j + 1) by omega]⟩
theorem mem_nodes (t : T) : ∀ {r : R} {p : T}, (r, p) ∈ nodes t ↔ partAt t r = some p := by
  induction t using T.ind with
  | h0 =>
    intro r p
    cases r with
    | nil => simp [nodes, partAt, eq_comm]
    | cons i r => simp [nodes, partAt]
  | h1 c bs ih =>
    intro r p
    cases r with
    | nil =>
      rw [nodes, List.mem_cons, mem_nodesL, partAt]
      constructor
      · rintro (e | ⟨j, b, q, _, _, e⟩)
        · injection e with _ e; rw [e]
        · injection e with e _; cases e
      · intro e
        exact .inl (by rw [Option.some.inj e])
    | cons i r =>
      rw [nodes, List.mem_cons, mem_nodesL, partAt]
      constructor
      · rintro (e | ⟨j, b, q, h1, h2, e⟩)
        · injection e with e _; cases e
        · injection e with e1 e2
          injection e1 with e3 e4
          rw [Nat.zero_add] at e3
          subst e3 e4 e2
          rw [h1]
          exact (ih b (List.mem_of_getElem? h1)).mp h2
      · intro e
        cases h : bs[i]? with
        | none => rw [h] at e; cases e
        | some b =>
          rw [h] at e
          exact .inr ⟨i, b, (r, p), h, (ih b (List.mem_of_getElem? h)).mpr e, by rw [Nat.zero_add]⟩
def roads (t : T) : List R := (nodes t).map (·.1)
theorem nodesL_head : ∀ {bs : List T} {i : Nat} {p : R × T}, p ∈ nodesL i bs → ∃ j r, p.1 = j :: r ∧ i ≤ j := fun {bs i p} h => by
  obtain ⟨j, b, q, _, _, rfl⟩ := mem_nodesL.mp h
  exact ⟨i + j, q.1, rfl, by omega⟩
theorem nodesL_sorted : ∀ {bs : List T} {i : Nat}, (∀ b ∈ bs, ((nodes b).map (·.1)).Pairwise fun x y => lexLt x y = true) → ((nodesL i bs).map (·.1)).Pairwise fun x y => lexLt x y = true
  | [], _, _ => by simp [nodesL]
  | b :: r, i, h => by
    rw [nodesL, List.map_append, List.pairwise_append]
    refine ⟨?_, nodesL_sorted fun x hx => h x (List.mem_cons_of_mem _ hx), ?_⟩
    · have q := h b List.mem_cons_self
      rw [List.map_map]
      rw [List.pairwise_map] at q ⊢
      refine q.imp fun {x y} z => ?_
      show lexLt (i :: x.1) (i :: y.1) = true
      rw [lexLt, if_pos rfl]; exact z
    · intro x hx y hy
      obtain ⟨p, hp, rfl⟩ := List.mem_map.mp hx
      obtain ⟨q, _, rfl⟩ := List.mem_map.mp hp
      obtain ⟨p', hp', rfl⟩ := List.mem_map.mp hy
      obtain ⟨j, s, e, hj⟩ := nodesL_head hp'
      rw [e]
      show lexLt (i :: q.1) (j :: s) = true
      rw [lexLt, if_neg (by omega)]
      exact decide_eq_true (by omega)
theorem roads_sorted (t : T) : (roads t).Pairwise fun x y => lexLt x y = true := by
  unfold roads
  induction t using T.ind with
  | h0 => simp [nodes]
  | h1 c bs ih =>
    rw [nodes, List.map_cons, List.pairwise_cons]
    refine ⟨fun y hy => ?_, nodesL_sorted ih⟩
    obtain ⟨p, hp, rfl⟩ := List.mem_map.mp hy
    obtain ⟨j, s, e, _⟩ := nodesL_head hp
    rw [e]; rfl
theorem roads_nodup (t : T) : (roads t).Nodup := (roads_sorted t).imp fun {x y} h e => by rw [e, lexLt_irr] at h; cases h
theorem mem_roads {t : T} {r : R} : r ∈ roads t ↔ (partAt t r).isSome = true := by
  unfold roads
  rw [List.mem_map]
  constructor
  · rintro ⟨p, hp, rfl⟩
    rw [(mem_nodes t).mp hp]; rfl
  · intro h
    obtain ⟨p, hp⟩ := Option.isSome_iff_exists.mp h
    exact ⟨(r, p), (mem_nodes t).mpr hp, rfl⟩
/-! how many parts -/
mutual
def size : T → Nat
  | .tip => 1
  | .kn _ bs => 1 + sizeL bs
def sizeL : List T → Nat
  | [] => 0
  | b :: r => size b + sizeL r
end
theorem nodesL_length : ∀ {bs : List T} {i : Nat}, (∀ b ∈ bs, (nodes b).length = size b) → (nodesL i bs).length = sizeL bs
  | [], _, _ => rfl
  | b :: r, i, h => by
    rw [nodesL, List.length_append, List.length_map, h b List.mem_cons_self, nodesL_length fun x hx => h x (List.mem_cons_of_mem _ hx), sizeL]
theorem nodes_length (t : T) : (nodes t).length = size t := by
  induction t using T.ind with
  | h0 => rfl
  | h1 c bs ih => rw [nodes, List.length_cons, nodesL_length ih, size, Nat.add_comm]
theorem size_eq (t : T) : size t = knots t + tips t := by
  induction t using T.ind with
  | h0 => rfl
  | h1 c bs ih =>
    have key : ∀ l : List T, (∀ b ∈ l, b ∈ bs) → sizeL l = knotsL l + tipsL l := by
      intro l
      induction l with
      | nil => intro _; rfl
      | cons b r ihr =>
        intro hm
        rw [sizeL, knotsL, tipsL, ih b (hm b List.mem_cons_self), ihr fun x hx => hm x (List.mem_cons_of_mem _ hx)]
        omega
    rw [size, knots, tips, key bs fun _ h => h]
    omega
theorem size_le {t : T} (h : wf t = true) : size t ≤ 1 + 6 * knots t := by
  have := tips_le h
  rw [size_eq]; omega

/-! ### a part exchanged -/
def put : T → R → T → T
  | _, [], g => g
  | .tip, _ :: _, _ => .tip
  | .kn c bs, i :: r, g => match bs[i]? with
    | some b => .kn c (bs.set i (put b r g))
    | none => .kn c bs
theorem knotsL_set : ∀ {bs : List T} {i : Nat} {b : T}, bs[i]? = some b → ∀ x, knotsL (bs.set i x) + knots b = knotsL bs + knots x
  | [], i, b, h, x => by simp at h
  | a :: r, 0, b, h, x => by
    have e : a = b := by simpa using h
    subst e
    rw [List.set_cons_zero, knotsL, knotsL]; omega
  | a :: r, i + 1, b, h, x => by
    have q := knotsL_set (bs := r) (i := i) (b := b) (by simpa using h) x
    rw [List.set_cons_succ, knotsL, knotsL]; omega
theorem knots_put : ∀ (r : R) (t g : T), knots (put t r g) ≤ knots t + knots g
  | [], t, g => by rw [put]; omega
  | i :: r, .tip, g => by rw [put]; omega
  | i :: r, .kn c bs, g => by
    rw [put]
    cases h : bs[i]? with
    | none => simp only; omega
    | some b =>
      simp only
      have q1 := knots_put r b g
      have q2 := knotsL_set h (put b r g)
      simp only [knots]
      omega
theorem wf_put : ∀ (r : R) (t g : T), wf t = true → wf g = true → wf (put t r g) = true
  | [], t, g, _, h => by rw [put]; exact h
  | i :: r, .tip, g, _, _ => by rw [put]; rfl
  | i :: r, .kn c bs, g, h, hg => by
    rw [put]
    cases e : bs[i]? with
    | none => simp only; exact h
    | some b =>
      simp only
      obtain ⟨h1, h2, h3⟩ := wf_kn.mp h
      refine wf_kn.mpr ⟨h1, by rw [List.length_set]; exact h2, fun x hx => ?_⟩
      rcases List.mem_or_eq_of_mem_set hx with hx | rfl
      · exact h3 x hx
      · exact wf_put r b g (h3 b (List.mem_of_getElem? e)) hg
theorem wf_part : ∀ (r : R) {t p : T}, wf t = true → partAt t r = some p → wf p = true
  | [], t, p, h, e => by rw [partAt] at e; rw [← Option.some.inj e]; exact h
  | i :: r, .tip, p, _, e => by rw [partAt] at e; cases e
  | i :: r, .kn c bs, p, h, e => by
    rw [partAt] at e
    cases q : bs[i]? with
    | none => rw [q] at e; cases e
    | some b =>
      rw [q] at e
      exact wf_part r ((wf_kn.mp h).2.2 b (List.mem_of_getElem? q)) e
theorem knots_part : ∀ (r : R) {t p : T}, partAt t r = some p → knots p ≤ knots t
  | [], t, p, e => by rw [partAt] at e; rw [← Option.some.inj e]; exact Nat.le_refl _
  | i :: r, .tip, p, e => by rw [partAt] at e; cases e
  | i :: r, .kn c bs, p, e => by
    rw [partAt] at e
    cases q : bs[i]? with
    | none => rw [q] at e; cases e
    | some b =>
      rw [q] at e
      have h1 := knots_part r e
      have h2 := knots_mem (List.mem_of_getElem? q)
      rw [knots]; omega
theorem road_le : ∀ (r : R) {t p : T}, partAt t r = some p → r.length ≤ knots t
  | [], t, p, e => Nat.zero_le _
  | i :: r, .tip, p, e => by rw [partAt] at e; cases e
  | i :: r, .kn c bs, p, e => by
    rw [partAt] at e
    cases q : bs[i]? with
    | none => rw [q] at e; cases e
    | some b =>
      rw [q] at e
      have h1 := road_le r e
      have h2 := knots_mem (List.mem_of_getElem? q)
      rw [knots, List.length_cons]; omega
/-- exchanged for a part of no more knots: a put at a road that is there -/
theorem knots_put_at : ∀ (r : R) {t p : T} (g : T), partAt t r = some p → knots (put t r g) + knots p = knots t + knots g
  | [], t, p, g, e => by rw [partAt] at e; rw [put, Option.some.inj e]; omega
  | i :: r, .tip, p, g, e => by rw [partAt] at e; cases e
  | i :: r, .kn c bs, p, g, e => by
    rw [partAt] at e
    cases q : bs[i]? with
    | none => rw [q] at e; cases e
    | some b =>
      rw [q] at e
      have h1 := knots_put_at r g e
      have h2 := knotsL_set q (put b r g)
      rw [put, q]
      simp only [knots]
      omega

/-! ### the tips' roads -/
def tipRoads (t : T) : List R := ((nodes t).filter fun p => decide (p.2 = .tip)).map (·.1)
end Tw
set_option linter.all false
namespace Tw
/-! ### where two bushes clash -/
def unlikeT : T → T → Bool
  | .tip, .tip => false
  | .kn c bs, .kn d es => !decide (c = d ∧ bs.length = es.length)
  | _, _ => true
def kidsFrom (r : R) : Nat → List T → List T → List (R × T × T)
  | i, b :: bs, e :: es => (r ++ [i], b, e) :: kidsFrom r (i + 1) bs es
  | _, _, _ => []
def kids : R → T → T → List (R × T × T)
  | r, .kn _ bs, .kn _ es => kidsFrom r 0 bs es
  | _, _, _ => []
def both (b o : T) : Bool := decide (b ≠ .tip) && decide (o ≠ .tip)
def bfs : Nat → List (R × T × T) → Option R
  | 0, _ => none
  | _ + 1, [] => none
  | n + 1, x :: q => if both x.2.1 x.2.2 = true then (if unlikeT x.2.1 x.2.2 = true then some x.1 else bfs n (q ++ kids x.1 x.2.1 x.2.2)) else bfs n q
def clashAt (b o : T) (r : R) : Prop := ∃ p q, partAt b r = some p ∧ partAt o r = some q ∧ both p q = true ∧ unlikeT p q = true
def weight : List (R × T × T) → Nat
  | [] => 0
  | x :: q => size x.2.1 + weight q
theorem weight_app : ∀ a b : List (R × T × T), weight (a ++ b) = weight a + weight b
  | [], b => by simp [weight]
  | x :: r, b => by rw [List.cons_append, weight, weight, weight_app r b]; omega
theorem size_pos (t : T) : 1 ≤ size t := by
  cases t with
  | tip => exact Nat.le_refl _
  | kn c bs => rw [size]; omega
theorem weight_kidsFrom (r : R) : ∀ (i : Nat) (bs es : List T), weight (kidsFrom r i bs es) ≤ sizeL bs
  | _, [], _ => by simp [kidsFrom, weight, sizeL]
  | _, _ :: _, [] => by simp [kidsFrom, weight]
  | i, b :: bs, e :: es => by
    have := weight_kidsFrom r (i + 1) bs es
    simp only [kidsFrom, weight, sizeL]
    omega
theorem weight_kids (r : R) (b o : T) : weight (kids r b o) + 1 ≤ size b := by
  cases b with
  | tip => rw [kids]; simp [weight, size]; intros; simp_all
  | kn c bs =>
    cases o with
    | tip => rw [kids]; simp [weight, size]; intros; simp_all
    | kn d es =>
      have := weight_kidsFrom r 0 bs es
      rw [kids, size]; omega
theorem mem_kidsFrom (r : R) : ∀ {i : Nat} {bs es : List T} {x : R × T × T}, x ∈ kidsFrom r i bs es ↔ ∃ j b e, bs[j]? = some b ∧ es[j]? = some e ∧ x = (r ++ [i + j], b, e)
  | i, [], es, x => by simp [kidsFrom]
  | i, _ :: _, [], x => by simp [kidsFrom]
  | i, b :: bs, e :: es, x => by
    rw [kidsFrom, List.mem_cons, mem_kidsFrom r (bs := bs)]
    constructor
    · rintro (rfl | ⟨j, b', e', h1, h2, rfl⟩)
      · exact ⟨0, b, e, rfl, rfl, rfl⟩
      · exact ⟨j + 1, b', e', by simpa using h1, by simpa using h2, by rw [show i + 1 + j = i + (j + 1) by omega]⟩
    · rintro ⟨j, b', e', h1, h2, rfl⟩
      cases j with
      | zero =>
        have q1 : b = b' := by simpa using h1
        have q2 : e = e' := by simpa using h2
        subst q1 q2
        exact .inl rfl
      | succ j => exact .inr ⟨j, b', e', by simpa using h1, by simpa using h2, by rw [show i + 1 + j = i + (j + 1) by omega]⟩
theorem kidsFrom_sorted (r : R) : ∀ {i : Nat} {bs es : List T}, (kidsFrom r i bs es).Pairwise fun x y => keyLt x.1 y.1 = true
  | i, [], es => by simp [kidsFrom]
  | i, _ :: _, [] => by simp [kidsFrom]
  | i, b :: bs, e :: es => by
    rw [kidsFrom, List.pairwise_cons]
    refine ⟨fun y hy => ?_, kidsFrom_sorted r⟩
    obtain ⟨j, b', e', _, _, rfl⟩ := (mem_kidsFrom r).mp hy
    show keyLt (r ++ [i]) (r ++ [i + 1 + j]) = true
    unfold keyLt
    rw [if_pos (by simp), lexLt_pre, lexLt, if_neg (by omega)]
    exact decide_eq_true (by omega)
theorem kids_form {r : R} {b o : T} {x : R × T × T} (h : x ∈ kids r b o) : ∃ j, x.1 = r ++ [j] := by
  cases b with
  | tip => simp [kids] at h
  | kn c bs =>
    cases o with
    | tip => simp [kids] at h
    | kn d es =>
      obtain ⟨j, b', e', _, _, rfl⟩ := (mem_kidsFrom r).mp h
      exact ⟨_, rfl⟩
theorem kids_sorted (r : R) (b o : T) : (kids r b o).Pairwise fun x y => keyLt x.1 y.1 = true := by
  cases b with
  | tip => simp [kids]
  | kn c bs =>
    cases o with
    | tip => simp [kids]
    | kn d es => exact kidsFrom_sorted r
/-- alike knots: the clashes are the branches' -/
theorem clash_kids {r : R} {b o : T} (hb : both b o = true) (hu : unlikeT b o = false) (s : R) : (∃ t, s = r ++ t ∧ clashAt b o t) ↔ ∃ x ∈ kids r b o, ∃ t, s = x.1 ++ t ∧ clashAt x.2.1 x.2.2 t := by
  cases b with
  | tip => simp [both] at hb
  | kn c bs =>
    cases o with
    | tip => simp [both] at hb
    | kn d es =>
      constructor
      · rintro ⟨t, rfl, p, q, h1, h2, h3, h4⟩
        cases t with
        | nil =>
          rw [partAt] at h1 h2
          rw [← Option.some.inj h1, ← Option.some.inj h2, hu] at h4
          cases h4
        | cons j t =>
          rw [partAt] at h1 h2
          cases e1 : bs[j]? with
          | none => rw [e1] at h1; cases h1
          | some b' =>
            cases e2 : es[j]? with
            | none => rw [e2] at h2; cases h2
            | some e' =>
              rw [e1] at h1
              rw [e2] at h2
              exact ⟨(r ++ [0 + j], b', e'), (mem_kidsFrom r).mpr ⟨j, b', e', e1, e2, rfl⟩, t, by simp, p, q, h1, h2, h3, h4⟩
      · rintro ⟨x, hx, t, rfl, p, q, h1, h2, h3, h4⟩
        obtain ⟨j, b', e', e1, e2, rfl⟩ := (mem_kidsFrom r).mp hx
        exact ⟨j :: t, by simp, p, q, by rw [partAt, e1]; exact h1, by rw [partAt, e2]; exact h2, h3, h4⟩
theorem clash_not {b o : T} (hb : both b o = false) {t : R} : ¬ clashAt b o t := by
  rintro ⟨p, q, h1, h2, h3, h4⟩
  cases b with
  | tip =>
    cases t with
    | nil => rw [partAt] at h1; rw [← Option.some.inj h1] at h3; simp [both] at h3
    | cons j t => rw [partAt] at h1; cases h1
  | kn c bs =>
    cases o with
    | tip =>
      cases t with
      | nil => rw [partAt] at h2; rw [← Option.some.inj h2] at h3; simp [both] at h3
      | cons j t => rw [partAt] at h2; cases h2
    | kn d es => simp [both] at hb
/-- the least of the roads of which P holds -/
def Least (P : R → Prop) : Option R → Prop
  | none => ∀ s, ¬ P s
  | some r => P r ∧ ∀ s, P s → s = r ∨ keyLt r s = true
theorem Least.one {P : R → Prop} {x y : Option R} (hx : Least P x) (hy : Least P y) : x = y := by
  cases x with
  | none =>
    cases y with
    | none => rfl
    | some r => exact absurd hy.1 (hx r)
  | some r =>
    cases y with
    | none => exact absurd hx.1 (hy r)
    | some s =>
      rcases hx.2 s hy.1 with e | e
      · rw [e]
      · rcases hy.2 r hx.1 with e' | e'
        · rw [e']
        · rw [keyLt_asym e] at e'; cases e'
theorem Least.congr {P P' : R → Prop} {x : Option R} (h : ∀ s, P s ↔ P' s) (hx : Least P x) : Least P' x := by
  cases x with
  | none => exact fun s hs => hx s ((h s).mpr hs)
  | some r => exact ⟨(h r).mp hx.1, fun s hs => hx.2 s ((h s).mpr hs)⟩
def ClQ (q : List (R × T × T)) (s : R) : Prop := ∃ x ∈ q, ∃ t, s = x.1 ++ t ∧ clashAt x.2.1 x.2.2 t
structure QOk (q : List (R × T × T)) : Prop where
  srt : q.Pairwise fun x y => keyLt x.1 y.1 = true
  near : ∀ x ∈ q, ∀ y ∈ q, y.1.length ≤ x.1.length + 1 ∧ (y.1.length = x.1.length + 1 → lexLt y.1.dropLast x.1 = true)
theorem key_app {x y : R} (t : R) (h : x = y ∨ keyLt x y = true) : x = y ++ t ∨ keyLt x (y ++ t) = true := by
  cases t with
  | nil => rw [List.append_nil]; exact h
  | cons j t =>
    have k : keyLt y (y ++ j :: t) = true := by
      unfold keyLt
      rw [if_neg (by rw [List.length_append, List.length_cons]; omega)]
      exact decide_eq_true (by rw [List.length_append, List.length_cons]; omega)
    rcases h with h | h
    · rw [h]; exact .inr k
    · exact .inr (keyLt_trans h k)
theorem key_len {x y : R} (h : keyLt x y = true) : x.length ≤ y.length := by
  unfold keyLt at h
  split at h
  · omega
  · have := of_decide_eq_true h; omega
theorem QOk.next {r : R} {b o : T} {q : List (R × T × T)} (h : QOk ((r, b, o) :: q)) : QOk (q ++ kids r b o) := by
  obtain ⟨h1, h2⟩ := List.pairwise_cons.mp h.srt
  have lk : ∀ z ∈ kids r b o, ∃ j, z.1 = r ++ [j] := fun z hz => kids_form hz
  refine ⟨List.pairwise_append.mpr ⟨h2, kids_sorted r b o, fun x hx y hy => ?_⟩, fun x hx y hy => ?_⟩
  · obtain ⟨j, e⟩ := lk y hy
    obtain ⟨n1, n2⟩ := h.near (r, b, o) List.mem_cons_self x (List.mem_cons_of_mem _ hx)
    show keyLt x.1 y.1 = true
    rw [e]
    unfold keyLt
    by_cases hl : x.1.length = r.length + 1
    · rw [if_pos (by simpa using hl)]
      have q := n2 hl
      have ne : x.1 ≠ [] := fun z => by rw [z] at hl; simp at hl
      rw [show x.1 = x.1.dropLast ++ [x.1.getLast ne] from (List.dropLast_concat_getLast ne).symm]
      exact lexLt_app _ _ (by rw [List.length_dropLast]; omega) q
    · rw [if_neg (by simpa using hl)]
      have n1 : x.1.length ≤ r.length + 1 := n1
      exact decide_eq_true (by simp; omega)
  · rcases List.mem_append.mp hx with hx | hx
    · rcases List.mem_append.mp hy with hy | hy
      · exact h.near x (List.mem_cons_of_mem _ hx) y (List.mem_cons_of_mem _ hy)
      · obtain ⟨j, e⟩ := lk y hy
        have k := h1 x hx
        have kl : r.length ≤ x.1.length := key_len k
        rw [e]
        refine ⟨by simp; omega, fun el => ?_⟩
        have k : keyLt r x.1 = true := k
        unfold keyLt at k
        rw [if_pos (by simp at el; omega)] at k
        simpa using k
    · obtain ⟨j, e⟩ := lk x hx
      rcases List.mem_append.mp hy with hy | hy
      · have n1 : y.1.length ≤ r.length + 1 := (h.near (r, b, o) List.mem_cons_self y (List.mem_cons_of_mem _ hy)).1
        rw [e]
        exact ⟨by simp; omega, fun el => by simp at el; omega⟩
      · obtain ⟨j', e'⟩ := lk y hy
        rw [e, e']
        exact ⟨by simp, fun el => by simp at el⟩
theorem QOk.tail {x : R × T × T} {q : List (R × T × T)} (h : QOk (x :: q)) : QOk q :=
  ⟨(List.pairwise_cons.mp h.srt).2, fun y hy z hz => h.near y (List.mem_cons_of_mem _ hy) z (List.mem_cons_of_mem _ hz)⟩
theorem bfs_least : ∀ (n : Nat) (q : List (R × T × T)), QOk q → weight q ≤ n → Least (ClQ q) (bfs (n + 1) q)
  | n, [], _, _ => by
    rw [bfs]
    rintro s ⟨x, hx, _⟩
    cases hx
  | 0, x :: q, _, h => by
    have := size_pos x.2.1
    rw [weight] at h
    omega
  | n + 1, (r, b, o) :: q, hq, h => by
    have h : size b + weight q ≤ n + 1 := h
    have sp := size_pos b
    rw [bfs]
    by_cases hb : both b o = true
    · rw [if_pos hb]
      by_cases hu : unlikeT b o = true
      · rw [if_pos hu]
        refine ⟨⟨(r, b, o), List.mem_cons_self, [], (List.append_nil r).symm, b, o, rfl, rfl, hb, hu⟩, ?_⟩
        rintro s ⟨x, hx, t, rfl, _⟩
        have : r = x.1 ∨ keyLt r x.1 = true := by
          rcases List.mem_cons.mp hx with e | hx
          · rw [e]; exact .inl rfl
          · exact .inr ((List.pairwise_cons.mp hq.srt).1 x hx)
        rcases key_app t this with e | e
        · exact .inl e.symm
        · exact .inr e
      · rw [if_neg hu]
        have hu : unlikeT b o = false := by cases z : unlikeT b o <;> simp_all
        have wk := weight_kids r b o
        refine (bfs_least n _ hq.next (by rw [weight_app]; omega)).congr fun s => ?_
        constructor
        · rintro ⟨x, hx, t, e, c⟩
          rcases List.mem_append.mp hx with hx | hx
          · exact ⟨x, List.mem_cons_of_mem _ hx, t, e, c⟩
          · obtain ⟨t', e', c'⟩ := (clash_kids (r := r) hb hu s).mpr ⟨x, hx, t, e, c⟩
            exact ⟨(r, b, o), List.mem_cons_self, t', e', c'⟩
        · rintro ⟨x, hx, t, e, c⟩
          rcases List.mem_cons.mp hx with z | hx
          · subst z
            obtain ⟨y, hy, r'⟩ := (clash_kids (r := r) hb hu s).mp ⟨t, e, c⟩
            exact ⟨y, List.mem_append_right _ hy, r'⟩
          · exact ⟨x, List.mem_append_left _ hx, t, e, c⟩
    · rw [if_neg hb]
      have hb : both b o = false := by cases z : both b o <;> simp_all
      refine (bfs_least n _ hq.tail (by omega)).congr fun s => ?_
      constructor
      · rintro ⟨x, hx, r⟩
        exact ⟨x, List.mem_cons_of_mem _ hx, r⟩
      · rintro ⟨x, hx, t, e, c⟩
        rcases List.mem_cons.mp hx with z | hx
        · subst z
          exact absurd c (clash_not hb)
        · exact ⟨x, hx, t, e, c⟩
/-- the road that both tell -/
def clash (b o : T) : Option R := bfs (size b + 1) [([], b, o)]
theorem clash_least (b o : T) : Least (clashAt b o) (clash b o) := by
  refine (bfs_least (size b) [([], b, o)] ⟨List.pairwise_singleton _ _, fun x hx y hy => ?_⟩ (by simp [weight])).congr fun s => ?_
  · have e1 : x = ([], b, o) := by simpa using hx
    have e2 : y = ([], b, o) := by simpa using hy
    subst e1 e2
    exact ⟨by simp, fun h => by simp at h⟩
  · constructor
    · rintro ⟨x, hx, t, e, c⟩
      have e1 : x = ([], b, o) := by simpa using hx
      subst e1
      rw [e]; exact c
    · intro c
      exact ⟨([], b, o), List.mem_cons_self, s, rfl, c⟩
/-- more turns than needed are as good -/
theorem bfs_more : ∀ (n : Nat) (q : List (R × T × T)), weight q ≤ n → ∀ m, weight q ≤ m → bfs (n + 1) q = bfs (m + 1) q
  | n, [], _, m, _ => by rw [bfs, bfs]
  | 0, x :: q, h, _, _ => by
    have := size_pos x.2.1
    rw [weight] at h
    omega
  | n + 1, x :: q, h, 0, h' => by
    have := size_pos x.2.1
    rw [weight] at h'
    omega
  | n + 1, x :: q, h, m + 1, h' => by
    rw [weight] at h h'
    have sp := size_pos x.2.1
    have wk := weight_kids x.1 x.2.1 x.2.2
    rw [bfs, bfs]
    split
    · split
      · rfl
      · exact bfs_more n _ (by rw [weight_app]; omega) m (by rw [weight_app]; omega)
    · exact bfs_more n _ (by omega) m (by omega)
mutual
theorem agree_iff : ∀ b o : T, agree b o = true ↔ ∀ r, ¬ clashAt b o r
  | .tip, o => by
    rw [agree]
    exact ⟨fun _ r => clash_not (by simp [both]), fun _ => rfl⟩
  | .kn c bs, .tip => by
    rw [agree]
    exact ⟨fun _ r => clash_not (by simp [both]), fun _ => rfl⟩
  | .kn c bs, .kn d es => by
    rw [agree, Bool.and_eq_true, decide_eq_true_eq]
    constructor
    · rintro ⟨h1, h2⟩ r hc
      have hu : unlikeT (.kn c bs) (.kn d es) = false := by rw [unlikeT, decide_eq_true ⟨h1, agreeL_len h2⟩]; rfl
      obtain ⟨x, hx, t, _, ct⟩ := (clash_kids (r := []) rfl hu r).mp ⟨r, rfl, hc⟩
      obtain ⟨j, b', e', e1, e2, rfl⟩ := (mem_kidsFrom []).mp hx
      exact (agreeL_iff bs es (agreeL_len h2)).mp h2 j b' e' e1 e2 t ct
    · intro h
      have hu : unlikeT (.kn c bs) (.kn d es) = false := by
        cases z : unlikeT (.kn c bs) (.kn d es) with
        | false => rfl
        | true => exact absurd ⟨_, _, rfl, rfl, rfl, z⟩ (h [])
      have hcd : c = d ∧ bs.length = es.length := by
        rw [unlikeT] at hu
        cases z : decide (c = d ∧ bs.length = es.length) with
        | true => exact of_decide_eq_true z
        | false => rw [z] at hu; cases hu
      refine ⟨hcd.1, (agreeL_iff bs es hcd.2).mpr fun j b' e' e1 e2 t ct => ?_⟩
      obtain ⟨t', _, c'⟩ := (clash_kids (r := []) rfl hu (j :: t)).mpr ⟨([] ++ [0 + j], b', e'), (mem_kidsFrom []).mpr ⟨j, b', e', e1, e2, rfl⟩, t, by simp, ct⟩
      exact h t' c'
theorem agreeL_iff : ∀ bs es : List T, bs.length = es.length → (agreeL bs es = true ↔ ∀ (j : Nat) (b e : T), bs[j]? = some b → es[j]? = some e → ∀ t, ¬ clashAt b e t)
  | [], [], _ => by simp [agreeL]
  | [], _ :: _, h => by simp at h
  | _ :: _, [], h => by simp at h
  | b :: r, e :: s, h => by
    rw [agreeL, Bool.and_eq_true, agree_iff b e, agreeL_iff r s (by simpa using h)]
    constructor
    · rintro ⟨h1, h2⟩ j b' e' e1 e2
      cases j with
      | zero =>
        have q1 : b = b' := by simpa using e1
        have q2 : e = e' := by simpa using e2
        subst q1 q2
        exact h1
      | succ j => exact h2 j b' e' (by simpa using e1) (by simpa using e2)
    · intro h
      exact ⟨h 0 b e rfl rfl, fun j b' e' e1 e2 => h (j + 1) b' e' (by simpa using e1) (by simpa using e2)⟩
end
theorem clash_none (b o : T) : clash b o = none ↔ agree b o = true := by
  rw [agree_iff]
  have q := clash_least b o
  constructor
  · intro e
    rw [e] at q; exact q
  · intro h
    cases e : clash b o with
    | none => rfl
    | some r =>
      rw [e] at q
      exact absurd q.1 (h r)
/-! the law's own way: the sorted roads, searched -/
def commonR (b o : T) : List R := ((nodes b).filter fun x => decide (x.2 ≠ .tip) && (match partAt o x.1 with
  | some q => decide (q ≠ .tip)
  | none => false)).map (·.1)
theorem mem_commonR {b o : T} {r : R} : r ∈ commonR b o ↔ ∃ p q, partAt b r = some p ∧ partAt o r = some q ∧ both p q = true := by
  unfold commonR
  rw [List.mem_map]
  constructor
  · rintro ⟨x, hx, rfl⟩
    obtain ⟨h1, h2⟩ := List.mem_filter.mp hx
    rw [Bool.and_eq_true] at h2
    cases e : partAt o x.1 with
    | none => rw [e] at h2; simp at h2
    | some q =>
      rw [e] at h2
      exact ⟨x.2, q, (mem_nodes b).mp h1, rfl, by simp only [both, Bool.and_eq_true]; exact h2⟩
  · rintro ⟨p, q, h1, h2, h3⟩
    simp only [both, Bool.and_eq_true] at h3
    refine ⟨(r, p), List.mem_filter.mpr ⟨(mem_nodes b).mpr h1, ?_⟩, rfl⟩
    rw [Bool.and_eq_true]
    refine ⟨h3.1, ?_⟩
    show (match partAt o r with
      | some q => decide (q ≠ .tip)
      | none => false) = true
    rw [h2]; exact h3.2
/-- what stands at a road of one: unlike there -/
def unlikeAt (b o : T) (r : R) : Bool := match partAt b r, partAt o r with
  | some p, some q => unlikeT p q
  | _, _ => false
theorem find_least {b o : T} {l : List R} (hp : l.Perm (commonR b o)) (hs : l.Pairwise fun x y => keyLt x y = true) : l.find? (unlikeAt b o) = clash b o := by
  refine Least.one ?_ (clash_least b o)
  have mem : ∀ s, clashAt b o s ↔ s ∈ l ∧ unlikeAt b o s = true := fun s => by
    rw [hp.mem_iff, mem_commonR]
    constructor
    · rintro ⟨p, q, h1, h2, h3, h4⟩
      exact ⟨⟨p, q, h1, h2, h3⟩, by unfold unlikeAt; rw [h1, h2]; exact h4⟩
    · rintro ⟨⟨p, q, h1, h2, h3⟩, h4⟩
      unfold unlikeAt at h4
      rw [h1, h2] at h4
      exact ⟨p, q, h1, h2, h3, h4⟩
  cases e : l.find? (unlikeAt b o) with
  | none =>
    intro s hs
    obtain ⟨h1, h2⟩ := (mem s).mp hs
    exact absurd h2 (List.find?_eq_none.mp e s h1)
  | some r =>
    obtain ⟨h1, as, bs, h2, h3⟩ := List.find?_eq_some_iff_append.mp e
    refine ⟨(mem r).mpr ⟨by rw [h2]; simp, h1⟩, fun s hs' => ?_⟩
    obtain ⟨m, u⟩ := (mem s).mp hs'
    rw [h2] at m hs
    rcases List.mem_append.mp m with m | m
    · have := h3 s m
      rw [u] at this; simp at this
    · rcases List.mem_cons.mp m with m | m
      · exact .inl m
      · exact .inr ((List.pairwise_cons.mp (List.pairwise_append.mp hs).2.1).1 s m)
end Tw
set_option linter.all false
namespace Tw
/-! ### tips filled by parts -/
mutual
def fill : T → List T → T
  | .tip, ps => ps.headD .tip
  | .kn c bs, ps => .kn c (fillL bs ps)
def fillL : List T → List T → List T
  | [], _ => []
  | b :: r, ps => fill b (ps.take (tips b)) :: fillL r (ps.drop (tips b))
end
mutual
def partsAt : T → T → List T
  | .tip, o => [o]
  | .kn _ bs, .kn _ es => partsAtL bs es
  | .kn _ _, .tip => []
def partsAtL : List T → List T → List T
  | b :: r, e :: s => partsAt b e ++ partsAtL r s
  | _, _ => []
end
mutual
theorem partsAt_len : ∀ b o : T, isTop b o = true → (partsAt b o).length = tips b
  | .tip, _, _ => rfl
  | .kn c bs, .tip, h => by simp [isTop] at h
  | .kn c bs, .kn d es, h => by
    simp only [isTop, Bool.and_eq_true] at h
    rw [partsAt, tips]; exact partsAt_lenL bs es h.2
theorem partsAt_lenL : ∀ bs es : List T, isTopL bs es = true → (partsAtL bs es).length = tipsL bs
  | [], [], _ => rfl
  | [], _ :: _, h => by simp [isTopL] at h
  | _ :: _, [], h => by simp [isTopL] at h
  | b :: r, e :: s, h => by
    simp only [isTopL, Bool.and_eq_true] at h
    rw [partsAtL, tipsL, List.length_append, partsAt_len b e h.1, partsAt_lenL r s h.2]
end
mutual
theorem fill_parts : ∀ b o : T, isTop b o = true → fill b (partsAt b o) = o
  | .tip, o, _ => rfl
  | .kn c bs, .tip, h => by simp [isTop] at h
  | .kn c bs, .kn d es, h => by
    simp only [isTop, Bool.and_eq_true, decide_eq_true_eq] at h
    rw [partsAt, fill, fill_partsL bs es h.2, h.1]
theorem fill_partsL : ∀ bs es : List T, isTopL bs es = true → fillL bs (partsAtL bs es) = es
  | [], [], _ => rfl
  | [], _ :: _, h => by simp [isTopL] at h
  | _ :: _, [], h => by simp [isTopL] at h
  | b :: r, e :: s, h => by
    simp only [isTopL, Bool.and_eq_true] at h
    have l := partsAt_len b e h.1
    rw [partsAtL, fillL, List.take_left' l, List.drop_left' l, fill_parts b e h.1, fill_partsL r s h.2]
end
mutual
theorem fill_tips : ∀ b : T, fill b (List.replicate (tips b) .tip) = b
  | .tip => rfl
  | .kn c bs => by rw [tips, fill, fill_tipsL bs]
theorem fill_tipsL : ∀ bs : List T, fillL bs (List.replicate (tipsL bs) .tip) = bs
  | [] => rfl
  | b :: r => by
    rw [tipsL, fillL, ← List.replicate_append_replicate, List.take_left' (by simp), List.drop_left' (by simp), fill_tips b, fill_tipsL r]
end
theorem fillL_get : ∀ {bs : List T} {ps : List T} {i : Nat} {b : T}, bs[i]? = some b → (fillL bs ps)[i]? = some (fill b ((ps.drop (tipsL (bs.take i))).take (tips b)))
  | [], _, _, _, h => by simp at h
  | a :: r, ps, 0, b, h => by
    have e : a = b := by simpa using h
    subst e
    simp [fillL, tipsL]
  | a :: r, ps, i + 1, b, h => by
    rw [fillL, List.getElem?_cons_succ, fillL_get (bs := r) (by simpa using h), List.take_succ_cons, tipsL, List.drop_drop]
theorem fillL_len : ∀ (bs ps : List T), (fillL bs ps).length = bs.length
  | [], _ => rfl
  | b :: r, ps => by rw [fillL, List.length_cons, List.length_cons, fillL_len r]
/-! tips of what is filled -/
mutual
theorem tips_fill : ∀ (b : T) (ps : List T), ps.length = tips b → tips (fill b ps) = tipsL ps
  | .tip, ps, h => by
    rw [tips] at h
    match ps, h with
    | [p], _ => simp [fill, tipsL]
  | .kn c bs, ps, h => by
    rw [tips] at h
    rw [fill, tips]; exact tips_fillL bs ps h
theorem tips_fillL : ∀ (bs ps : List T), ps.length = tipsL bs → tipsL (fillL bs ps) = tipsL ps
  | [], ps, h => by
    rw [tipsL] at h
    have : ps = [] := List.eq_nil_of_length_eq_zero h
    rw [this]; rfl
  | b :: r, ps, h => by
    rw [tipsL] at h
    rw [fillL, tipsL, tips_fill b _ (by rw [List.length_take]; omega), tips_fillL r _ (by rw [List.length_drop]; omega), ← tipsL_app, List.take_append_drop]
end
/-! ### tips by their roads -/
def tipRoadsL : Nat → List T → List R
  | _, [] => []
  | i, b :: r => (tipRoads b).map (i :: ·) ++ tipRoadsL (i + 1) r
theorem tipRoadsL_eq : ∀ (bs : List T) (i : Nat), ((nodesL i bs).filter fun p => decide (p.2 = .tip)).map (·.1) = tipRoadsL i bs
  | [], i => rfl
  | b :: r, i => by
    rw [nodesL, List.filter_append, List.map_append, tipRoadsL_eq r (i + 1), tipRoadsL]
    congr 1
    unfold tipRoads
    rw [List.filter_map, List.map_map, List.map_map]
    rfl
theorem tipRoads_kn (c : Nat) (bs : List T) : tipRoads (.kn c bs) = tipRoadsL 0 bs := by
  rw [← tipRoadsL_eq]
  unfold tipRoads
  rw [nodes, List.filter_cons_of_neg (by simp)]
theorem tipRoads_tip : tipRoads .tip = [[]] := by simp [tipRoads, nodes]
mutual
theorem tipRoads_len : ∀ b : T, (tipRoads b).length = tips b
  | .tip => by rw [tipRoads_tip]; rfl
  | .kn c bs => by rw [tipRoads_kn, tips]; exact tipRoads_lenL bs 0
theorem tipRoads_lenL : ∀ (bs : List T) (i : Nat), (tipRoadsL i bs).length = tipsL bs
  | [], _ => rfl
  | b :: r, i => by rw [tipRoadsL, List.length_append, List.length_map, tipRoads_len b, tipRoads_lenL r, tipsL]
end
mutual
theorem put_fill : ∀ (b : T) (ps : List T) (j : Nat) (r : R) (p : T), (tipRoads b)[j]? = some r → ps.length = tips b → put (fill b ps) r p = fill b (ps.set j p)
  | .tip, ps, j, r, p, h, hl => by
    rw [tipRoads_tip] at h
    rw [tips] at hl
    match ps, hl, j, h with
    | [q], _, 0, h =>
      have e : r = [] := by simpa using h.symm
      subst e
      rfl
    | [q], _, j + 1, h => simp at h
  | .kn c bs, ps, j, r, p, h, hl => by
    rw [tipRoads_kn] at h
    rw [tips] at hl
    obtain ⟨k, r', x, rfl, h1, h2⟩ := put_fillL bs 0 ps j r p h hl
    rw [fill, fill, put, Nat.zero_add, h1, h2]
theorem put_fillL : ∀ (bs : List T) (i : Nat) (ps : List T) (j : Nat) (r : R) (p : T), (tipRoadsL i bs)[j]? = some r → ps.length = tipsL bs →
    ∃ k r' x, r = (i + k) :: r' ∧ (fillL bs ps)[k]? = some x ∧ fillL bs (ps.set j p) = (fillL bs ps).set k (put x r' p)
  | [], i, ps, j, r, p, h, _ => by simp [tipRoadsL] at h
  | b :: bs, i, ps, j, r, p, h, hl => by
    rw [tipsL] at hl
    rw [tipRoadsL] at h
    by_cases hj : j < tips b
    · rw [List.getElem?_append_left (by rw [List.length_map, tipRoads_len]; exact hj), List.getElem?_map] at h
      cases e : (tipRoads b)[j]? with
      | none => rw [e] at h; cases h
      | some r' =>
        rw [e] at h
        have e2 : i :: r' = r := Option.some.inj h
        refine ⟨0, r', fill b (ps.take (tips b)), e2.symm, by rw [fillL]; rfl, ?_⟩
        rw [fillL, fillL, List.take_set, List.drop_set, if_pos hj, List.set_cons_zero, put_fill b (ps.take (tips b)) j r' p e (by rw [List.length_take]; omega)]
    · rw [List.getElem?_append_right (by rw [List.length_map, tipRoads_len]; omega), List.length_map, tipRoads_len] at h
      obtain ⟨k, r', x, rfl, h1, h2⟩ := put_fillL bs (i + 1) (ps.drop (tips b)) (j - tips b) r p h (by rw [List.length_drop]; omega)
      refine ⟨k + 1, r', x, by rw [show i + 1 + k = i + (k + 1) by omega], by rw [fillL, List.getElem?_cons_succ]; exact h1, ?_⟩
      rw [fillL, fillL, List.drop_set, if_neg hj, h2, List.set_cons_succ, List.take_set, List.set_eq_of_length_le (by rw [List.length_take]; omega)]
end
/-! ### tips by their numbers -/
mutual
def putN : T → Int → T → T
  | .tip, _, o => o
  | .kn c bs, n, o => .kn c (putNL bs n o)
def putNL : List T → Int → T → List T
  | [], _, _ => []
  | b :: r, n, o => (if 0 ≤ n ∧ n < tips b then putN b n o else b) :: putNL r (n - tips b) o
end
theorem putNL_neg : ∀ (bs : List T) (n : Int) (o : T), n < 0 → putNL bs n o = bs
  | [], _, _, _ => rfl
  | b :: r, n, o, h => by rw [putNL, if_neg (by omega), putNL_neg r _ o (by omega)]
theorem tipsL_ge : ∀ {ps : List T} {j : Nat}, (∀ i, i ≤ j → ps[i]? = some T.tip) → j + 1 ≤ tipsL ps
  | [], j, h => by have := h 0 (Nat.zero_le _); simp at this
  | p :: r, 0, h => by
    have e : p = .tip := by simpa using h 0 (Nat.le_refl _)
    rw [e, tipsL, tips]; omega
  | p :: r, j + 1, h => by
    have e : p = .tip := by simpa using h 0 (Nat.zero_le _)
    have q := tipsL_ge (ps := r) (j := j) fun i hi => by simpa using h (i + 1) (by omega)
    rw [e, tipsL, tips]; omega
theorem all_tips : ∀ {ps : List T} {n : Nat}, (∀ i, i < n → ps[i]? = some T.tip) → ps.take n = List.replicate n .tip
  | ps, 0, _ => by simp
  | [], n + 1, h => by have := h 0 (Nat.succ_pos _); simp at this
  | p :: r, n + 1, h => by
    have e : p = .tip := by simpa using h 0 (Nat.succ_pos _)
    rw [List.take_succ_cons, List.replicate_succ, e, all_tips (ps := r) (n := n) fun i hi => by simpa using h (i + 1) (by omega)]
mutual
theorem putN_fill : ∀ (b : T) (ps : List T) (j : Nat) (p : T), j < tips b → ps.length = tips b → (∀ i, i ≤ j → ps[i]? = some T.tip) → putN (fill b ps) j p = fill b (ps.set j p)
  | .tip, ps, j, p, hj, hl, _ => by
    rw [tips] at hl hj
    match ps, hl, j, hj with
    | [q], _, 0, _ =>
      rename_i ht
      have e : q = .tip := by simpa using ht 0 (Nat.le_refl _)
      subst e
      rfl
  | .kn c bs, ps, j, p, hj, hl, ht => by
    rw [tips] at hl hj
    rw [fill, fill, putN, putN_fillL bs ps j p hj hl ht]
theorem putN_fillL : ∀ (bs : List T) (ps : List T) (j : Nat) (p : T), j < tipsL bs → ps.length = tipsL bs → (∀ i, i ≤ j → ps[i]? = some T.tip) → putNL (fillL bs ps) j p = fillL bs (ps.set j p)
  | [], ps, j, p, hj, _, _ => by simp [tipsL] at hj
  | b :: bs, ps, j, p, hj, hl, ht => by
    rw [tipsL] at hl hj
    have hl1 : (ps.take (tips b)).length = tips b := by rw [List.length_take]; omega
    rw [fillL, fillL, putNL, tips_fill b _ hl1]
    by_cases hb : j < tips b
    · have q : j + 1 ≤ tipsL (ps.take (tips b)) := tipsL_ge fun i hi => by rw [List.getElem?_take, if_pos (by omega)]; exact ht i hi
      rw [if_pos ⟨by omega, by omega⟩, putNL_neg _ _ _ (by omega), putN_fill b _ j p hb hl1 fun i hi => by rw [List.getElem?_take, if_pos (by omega)]; exact ht i hi]
      rw [List.take_set, List.drop_set, if_pos hb]
    · have e := all_tips (ps := ps) (n := tips b) fun i hi => ht i (by omega)
      have e2 : tipsL (ps.take (tips b)) = tips b := by
        rw [← tips_fill b _ hl1, e, fill_tips]
      rw [e2, if_neg (by omega), show (j : Int) - (tips b : Int) = ((j - tips b : Nat) : Int) by omega, putN_fillL bs (ps.drop (tips b)) (j - tips b) p (by omega) (by rw [List.length_drop]; omega) fun i hi => by rw [List.getElem?_drop]; exact ht _ (by omega)]
      rw [List.take_set, List.set_eq_of_length_le (l := ps.take (tips b)) (by omega), List.drop_set, if_neg hb]
end
/-! ### the lot -/
def lotFrom : Nat → List T → List (Nat × T)
  | _, [] => []
  | i, p :: r => if p = .tip then lotFrom (i + 1) r else (i, p) :: lotFrom (i + 1) r
theorem mem_lotFrom : ∀ {ps : List T} {i : Nat} {x : Nat × T}, x ∈ lotFrom i ps → i ≤ x.1 ∧ x.1 < i + ps.length ∧ x.2 ∈ ps ∧ x.2 ≠ .tip
  | [], i, x, h => by simp [lotFrom] at h
  | p :: r, i, x, h => by
    rw [lotFrom] at h
    split at h
    · obtain ⟨h1, h2, h3, h4⟩ := mem_lotFrom h
      exact ⟨by omega, by rw [List.length_cons]; omega, List.mem_cons_of_mem _ h3, h4⟩
    · rename_i hp
      rcases List.mem_cons.mp h with e | h
      · subst e
        exact ⟨Nat.le_refl _, by rw [List.length_cons]; omega, List.mem_cons_self, hp⟩
      · obtain ⟨h1, h2, h3, h4⟩ := mem_lotFrom h
        exact ⟨by omega, by rw [List.length_cons]; omega, List.mem_cons_of_mem _ h3, h4⟩
theorem lotFrom_sorted : ∀ {ps : List T} {i : Nat}, (lotFrom i ps).Pairwise fun x y => x.1 < y.1
  | [], i => by simp [lotFrom]
  | p :: r, i => by
    rw [lotFrom]
    split
    · exact lotFrom_sorted
    · refine List.pairwise_cons.mpr ⟨fun y hy => ?_, lotFrom_sorted⟩
      have := (mem_lotFrom hy).1
      show i < y.1
      omega
theorem lotFrom_len : ∀ {ps : List T} {i : Nat}, (lotFrom i ps).length ≤ ps.length
  | [], i => Nat.le_refl _
  | p :: r, i => by
    have := lotFrom_len (ps := r) (i := i + 1)
    rw [lotFrom]
    split
    · rw [List.length_cons]; omega
    · rw [List.length_cons, List.length_cons]; omega
def putLot (rs : List R) (acc : T) (x : Nat × T) : T := put acc (rs.getD x.1 []) x.2
theorem made_from (b : T) : ∀ (ps done : List T), done.length + ps.length = tips b →
    (lotFrom done.length ps).foldl (putLot (tipRoads b)) (fill b (done ++ List.replicate ps.length .tip)) = fill b (done ++ ps)
  | [], done, _ => by simp [lotFrom]
  | p :: r, done, h => by
    rw [List.length_cons] at h
    have step := made_from b r (done ++ [p]) (by rw [List.length_append, List.length_singleton]; omega)
    rw [List.length_append, List.length_singleton, List.append_assoc, List.append_assoc, List.singleton_append, List.singleton_append] at step
    rw [lotFrom]
    by_cases hp : p = .tip
    · rw [if_pos hp, List.length_cons, List.replicate_succ]
      rw [hp] at step ⊢
      exact step
    · rw [if_neg hp, List.foldl_cons]
      have hd : done.length < (tipRoads b).length := by rw [tipRoads_len]; omega
      have e : putLot (tipRoads b) (fill b (done ++ List.replicate (p :: r).length .tip)) (done.length, p) = fill b (done ++ p :: List.replicate r.length .tip) := by
        unfold putLot
        show put _ ((tipRoads b).getD done.length []) p = _
        rw [List.getD_eq_getElem?_getD, List.getElem?_eq_getElem hd]
        rw [Option.getD_some, put_fill b _ done.length _ p (List.getElem?_eq_getElem hd) (by rw [List.length_append, List.length_replicate, List.length_cons]; omega)]
        congr 1
        rw [List.length_cons, List.replicate_succ, List.set_append_right _ _ (Nat.le_refl _), Nat.sub_self, List.set_cons_zero]
      rw [e]; exact step
theorem made_lot {b o : T} (h : isTop b o = true) : (lotFrom 0 (partsAt b o)).foldl (putLot (tipRoads b)) b = o := by
  have q := made_from b (partsAt b o) [] (by rw [partsAt_len b o h]; simp)
  rw [List.nil_append, List.nil_append, partsAt_len b o h, fill_tips, fill_parts b o h] at q
  exact q
def graftBy : T → List (Nat × T) → Option T
  | b, [] => some b
  | b, x :: r => if tips b ≤ x.1 then none else graftBy (putN b x.1 x.2) r
theorem graftBy_snoc : ∀ (l : List (Nat × T)) (b : T) (x : Nat × T), graftBy b (l ++ [x]) = (graftBy b l).bind fun b' => if tips b' ≤ x.1 then none else some (putN b' x.1 x.2)
  | [], b, x => by
    rw [List.nil_append, graftBy, graftBy, Option.bind_some]
    split
    · rfl
    · rw [graftBy]
  | y :: l, b, x => by
    rw [List.cons_append, graftBy, graftBy]
    split
    · rfl
    · exact graftBy_snoc l _ x
theorem graft_from (b : T) : ∀ (ps : List T) (k : Nat), k + ps.length = tips b → graftBy b (lotFrom k ps).reverse = some (fill b (List.replicate k .tip ++ ps))
  | [], k, h => by
    have h : k = tips b := by simpa using h
    rw [lotFrom, List.reverse_nil, graftBy, List.append_nil, h, fill_tips]
  | p :: r, k, h => by
    rw [List.length_cons] at h
    have ih := graft_from b r (k + 1) (by omega)
    rw [lotFrom]
    by_cases hp : p = .tip
    · rw [if_pos hp, ih, hp, List.replicate_succ', List.append_assoc, List.singleton_append]
    · rw [if_neg hp, List.reverse_cons, graftBy_snoc, ih, Option.bind_some]
      have hl : (List.replicate (k + 1) T.tip ++ r).length = tips b := by rw [List.length_append, List.length_replicate]; omega
      have ht : ∀ i, i ≤ k → (List.replicate (k + 1) T.tip ++ r)[i]? = some T.tip := fun i hi => by
        rw [List.getElem?_append_left (by rw [List.length_replicate]; omega), List.getElem?_replicate, if_pos (by omega)]
      have hn := tipsL_ge ht
      rw [tips_fill b _ hl, if_neg (by show ¬ _ ≤ k; omega)]
      show some (putN _ (k : Int) p) = _
      rw [putN_fill b _ k p (by omega) hl ht, List.replicate_succ', List.append_assoc, List.singleton_append, List.set_append_right _ _ (by rw [List.length_replicate]; exact Nat.le_refl _), List.length_replicate, Nat.sub_self, List.set_cons_zero]
theorem graft_lot {b o : T} (h : isTop b o = true) : graftBy b (lotFrom 0 (partsAt b o)).reverse = some o := by
  have q := graft_from b (partsAt b o) 0 (by rw [partsAt_len b o h]; simp)
  rw [List.replicate_zero, List.nil_append, fill_parts b o h] at q
  exact q
mutual
theorem knots_parts : ∀ b o : T, isTop b o = true → knots b + knotsL (partsAt b o) = knots o
  | .tip, o, _ => by simp [partsAt, knots, knotsL]
  | .kn c bs, .tip, h => by simp [isTop] at h
  | .kn c bs, .kn d es, h => by
    simp only [isTop, Bool.and_eq_true] at h
    have := knots_partsL bs es h.2
    rw [partsAt, knots, knots]; omega
theorem knots_partsL : ∀ bs es : List T, isTopL bs es = true → knotsL bs + knotsL (partsAtL bs es) = knotsL es
  | [], [], _ => rfl
  | [], _ :: _, h => by simp [isTopL] at h
  | _ :: _, [], h => by simp [isTopL] at h
  | b :: r, e :: s, h => by
    simp only [isTopL, Bool.and_eq_true] at h
    have q1 := knots_parts b e h.1
    have q2 := knots_partsL r s h.2
    rw [partsAtL, knotsL_app, knotsL, knotsL]; omega
end
mutual
theorem wf_parts : ∀ b o : T, wf o = true → ∀ p ∈ partsAt b o, wf p = true
  | .tip, o, h, p, hp => by
    have e : p = o := by simpa [partsAt] using hp
    rw [e]; exact h
  | .kn c bs, .tip, _, p, hp => by simp [partsAt] at hp
  | .kn c bs, .kn d es, h, p, hp => by
    rw [partsAt] at hp
    exact wf_partsL bs es (wfL_iff.mpr (wf_kn.mp h).2.2) p hp
theorem wf_partsL : ∀ bs es : List T, wfL es = true → ∀ p ∈ partsAtL bs es, wf p = true
  | [], _, _, p, hp => by simp [partsAtL] at hp
  | _ :: _, [], _, p, hp => by simp [partsAtL] at hp
  | b :: r, e :: s, h, p, hp => by
    simp only [wfL, Bool.and_eq_true] at h
    rw [partsAtL] at hp
    rcases List.mem_append.mp hp with hp | hp
    · exact wf_parts b e h.1 p hp
    · exact wf_partsL r s h.2 p hp
end
theorem knots_lotFrom : ∀ {ps : List T} {i : Nat}, knotsL ((lotFrom i ps).map (·.2)) = knotsL ps
  | [], i => rfl
  | p :: r, i => by
    rw [lotFrom]
    split
    · rename_i hp
      rw [hp, knots_lotFrom, knotsL, knots, Nat.zero_add]
    · rw [List.map_cons, knotsL, knotsL, knots_lotFrom]
end Tw
set_option Elab.async false
set_option linter.all false
set_option maxRecDepth 100000
set_option maxHeartbeats 4000000
namespace Tw
open PySem PySem.Spec PyProof.Rows L2
/-! ### data that never change: tuples of such, ints, texts -/
mutual
inductive Tp (H : Hp) : V → PyData → Prop
  | non : Tp H .non .none
  | bl (b : Bool) : Tp H (.bl b) (.bool b)
  | int (i : Int) : Tp H (.int i) (.int i)
  | str (x : Str) : Tp H (.str x) (.str x)
  | tup {a : Addr} {xs : List V} {ds : List PyData} : H a = some (.tup xs) → TpAll H xs ds → Tp H (.ref a) (.tuple ds)
inductive TpAll (H : Hp) : List V → List PyData → Prop
  | nil : TpAll H [] []
  | cons {v : V} {vs : List V} {d : PyData} {ds : List PyData} : Tp H v d → TpAll H vs ds → TpAll H (v :: vs) (d :: ds)
end
/-- the tuples stay -/
def Kp (H H' : Hp) : Prop := ∀ b xs, H b = some (.tup xs) → H' b = some (.tup xs)
theorem Kp.refl (H : Hp) : Kp H H := fun _ _ h => h
theorem Kp.trans {H H1 H2 : Hp} (a : Kp H H1) (b : Kp H1 H2) : Kp H H2 := fun c xs h => b c xs (a c xs h)
theorem Kp.new {H : Hp} {p : Addr} (h : H p = none) (o : HO) : Kp H (upd H p o) := fun b xs q => by rw [upd_ne (ne_of_none q h)]; exact q
theorem Kp.lst {H : Hp} {p : Addr} {ys : List V} (h : H p = some (.lst ys)) (o : HO) : Kp H (upd H p o) := fun b xs q => by rw [upd_ne (ne_of q h (by intro z; cases z))]; exact q
theorem Kp.dT {H : Hp} {p : Addr} {ys : List (List Key × V)} (h : H p = some (.dT ys)) (o : HO) : Kp H (upd H p o) := fun b xs q => by rw [upd_ne (ne_of q h (by intro z; cases z))]; exact q
theorem Kp.of {H H' : Hp} (h : Same H H') : Kp H H' := fun b xs q => h b _ q
/-- all that was tracked stays -/
theorem same_new {H : Hp} {p : Addr} (h : H p = none) (o : HO) : Same H (upd H p o) := fun b u q => by rw [upd_ne (ne_of_none q h)]; exact q
/-- all but the object at c -/
def SameB (c : Addr) (H H' : Hp) : Prop := ∀ b u, b ≠ c → H b = some u → H' b = some u
theorem SameB.refl (c : Addr) (H : Hp) : SameB c H H := fun _ _ _ h => h
theorem SameB.trans {c : Addr} {H H1 H2 : Hp} (a : SameB c H H1) (b : SameB c H1 H2) : SameB c H H2 := fun d u n h => b d u n (a d u n h)
theorem SameB.of {c : Addr} {H H' : Hp} (h : Same H H') : SameB c H H' := fun b u _ q => h b u q
theorem SameB.new {c p : Addr} {H : Hp} (h : H p = none) (o : HO) : SameB c H (upd H p o) := .of (same_new h o)
theorem SameB.at {c : Addr} {H : Hp} (o : HO) : SameB c H (upd H c o) := fun b u n h => by rw [upd_ne n]; exact h
theorem SameB.kp {c : Addr} {H H' : Hp} (h : SameB c H H') {xs : List V} (hc : H c = some (.lst xs)) : Kp H H' := fun b ys q => h b _ (ne_of q hc (by intro z; cases z)) q
mutual
theorem Tp.keep {H H' : Hp} (k : Kp H H') : ∀ {v : V} {d : PyData}, Tp H v d → Tp H' v d
  | _, _, .non => .non
  | _, _, .bl b => .bl b
  | _, _, .int i => .int i
  | _, _, .str x => .str x
  | _, _, .tup e h => .tup (k _ _ e) (TpAll.keep k h)
theorem TpAll.keep {H H' : Hp} (k : Kp H H') : ∀ {vs : List V} {ds : List PyData}, TpAll H vs ds → TpAll H' vs ds
  | _, _, .nil => .nil
  | _, _, .cons h t => .cons (Tp.keep k h) (TpAll.keep k t)
end
mutual
theorem Tp.dp {K : PySem.W.Frag} {H : Hp} : ∀ {v : V} {d : PyData}, Tp H v d → Dp K H v d
  | _, _, .non => .non
  | _, _, .bl b => .bl b
  | _, _, .int i => .int i
  | _, _, .str x => .str x
  | _, _, .tup e h => .tup (SqT.of e) (TpAll.dp h)
theorem TpAll.dp {K : PySem.W.Frag} {H : Hp} : ∀ {vs : List V} {ds : List PyData}, TpAll H vs ds → DpAll K H vs ds
  | _, _, .nil => .nil
  | _, _, .cons h t => .cons (Tp.dp h) (TpAll.dp t)
end
theorem TpAll.len {H : Hp} : ∀ {vs : List V} {ds : List PyData}, TpAll H vs ds → vs.length = ds.length
  | _, _, .nil => rfl
  | _, _, .cons _ t => by rw [List.length_cons, List.length_cons, TpAll.len t]
theorem TpAll.get {H : Hp} : ∀ {vs : List V} {ds : List PyData} {i : Nat} {d : PyData}, TpAll H vs ds → ds[i]? = some d → ∃ v, vs[i]? = some v ∧ Tp H v d
  | _, _, _, _, .nil, e => by simp at e
  | _, _, 0, _, .cons h _, e => by simp at e; subst e; exact ⟨_, rfl, h⟩
  | _, _, i + 1, d, .cons _ t, e => by
    obtain ⟨v, h1, h2⟩ := TpAll.get (i := i) t (by simpa using e)
    exact ⟨v, by simpa using h1, h2⟩
theorem TpAll.get' {H : Hp} : ∀ {vs : List V} {ds : List PyData} {i : Nat} {v : V}, TpAll H vs ds → vs[i]? = some v → ∃ d, ds[i]? = some d ∧ Tp H v d
  | _, _, _, _, .nil, e => by simp at e
  | _, _, 0, _, .cons h _, e => by simp at e; subst e; exact ⟨_, rfl, h⟩
  | _, _, i + 1, d, .cons _ t, e => by
    obtain ⟨v, h1, h2⟩ := TpAll.get' (i := i) t (by simpa using e)
    exact ⟨v, by simpa using h1, h2⟩
theorem TpAll.app {H : Hp} : ∀ {vs ws : List V} {ds es : List PyData}, TpAll H vs ds → TpAll H ws es → TpAll H (vs ++ ws) (ds ++ es)
  | _, _, _, _, .nil, t => t
  | _, _, _, _, .cons h r, t => .cons h (TpAll.app r t)
theorem TpAll.take {H : Hp} : ∀ (n : Nat) {vs : List V} {ds : List PyData}, TpAll H vs ds → TpAll H (vs.take n) (ds.take n)
  | 0, _, _, _ => .nil
  | _ + 1, _, _, .nil => .nil
  | n + 1, _, _, .cons h t => .cons h (TpAll.take n t)
theorem TpAll.drop {H : Hp} : ∀ (n : Nat) {vs : List V} {ds : List PyData}, TpAll H vs ds → TpAll H (vs.drop n) (ds.drop n)
  | 0, _, _, h => h
  | _ + 1, _, _, .nil => .nil
  | n + 1, _, _, .cons _ t => TpAll.drop n t
theorem TpAll.rev {H : Hp} : ∀ {vs : List V} {ds : List PyData}, TpAll H vs ds → TpAll H vs.reverse ds.reverse
  | _, _, .nil => .nil
  | _, _, .cons h t => by rw [List.reverse_cons, List.reverse_cons]; exact TpAll.app (TpAll.rev t) (.cons h .nil)
theorem TpAll.one {H : Hp} {v : V} {d : PyData} (h : Tp H v d) : TpAll H [v] [d] := .cons h .nil
/-! ### bushes, roads, as data -/
def ltr (c : Nat) : Str := ⟨#[c]⟩
mutual
def td : T → PyData
  | .tip => .tuple []
  | .kn c bs => .tuple (.str (ltr c) :: tdL bs)
def tdL : List T → List PyData
  | [] => []
  | b :: r => td b :: tdL r
end
theorem tdL_eq : ∀ bs : List T, tdL bs = bs.map td
  | [] => rfl
  | b :: r => by rw [tdL, tdL_eq r, List.map_cons]
def rd (r : R) : PyData := .tuple (r.map fun (n : Nat) => .int (n : Int))
abbrev Tr (H : Hp) (v : V) (t : T) : Prop := Tp H v (td t)
abbrev TrL (H : Hp) (vs : List V) (ts : List T) : Prop := TpAll H vs (ts.map td)
abbrev Rd' (H : Hp) (v : V) (r : R) : Prop := Tp H v (rd r)
theorem Tr.tip_inv {H : Hp} {v : V} (h : Tr H v .tip) : ∃ a, v = .ref a ∧ H a = some (.tup []) := by
  rw [Tr, td] at h
  cases h with
  | tup e t => cases t; exact ⟨_, rfl, e⟩
theorem Tr.kn_inv {H : Hp} {v : V} {c : Nat} {bs : List T} (h : Tr H v (.kn c bs)) : ∃ a xs, v = .ref a ∧ H a = some (.tup (.str (ltr c) :: xs)) ∧ TrL H xs bs := by
  rw [Tr, td] at h
  cases h with
  | tup e t =>
    cases t with
    | cons h t =>
      cases h
      rw [tdL_eq] at t
      exact ⟨_, _, rfl, e, t⟩
theorem Tr.inv {H : Hp} {v : V} {t : T} (h : Tr H v t) : ∃ a xs, v = .ref a ∧ H a = some (.tup xs) := by
  cases t with
  | tip => obtain ⟨a, h1, h2⟩ := h.tip_inv; exact ⟨a, [], h1, h2⟩
  | kn c bs => obtain ⟨a, xs, h1, h2, _⟩ := h.kn_inv; exact ⟨a, _, h1, h2⟩
theorem Tr.tip {H : Hp} {a : Addr} (h : H a = some (.tup [])) : Tr H (.ref a) .tip := by rw [Tr, td]; exact .tup h .nil
theorem Tr.kn {H : Hp} {a : Addr} {c : Nat} {xs : List V} {bs : List T} (h : H a = some (.tup (.str (ltr c) :: xs))) (t : TrL H xs bs) : Tr H (.ref a) (.kn c bs) := by
  rw [Tr, td, tdL_eq]; exact .tup h (.cons (.str _) t)
theorem Rd'.inv {H : Hp} {v : V} {r : R} (h : Rd' H v r) : ∃ a, v = .ref a ∧ H a = some (.tup (r.map fun (n : Nat) => V.int (n : Int))) := by
  rw [Rd', rd] at h
  cases h with
  | tup e t =>
    refine ⟨_, rfl, ?_⟩
    have key : ∀ (r : R) (xs : List V), TpAll H xs (r.map fun (n : Nat) => PyData.int (n : Int)) → xs = r.map fun (n : Nat) => V.int (n : Int) := by
      intro r
      induction r with
      | nil => intro xs t; cases t; rfl
      | cons i r ih =>
        intro xs t
        cases t with
        | cons h t => cases h; rw [ih _ t]; rfl
    rw [e, key r _ t]
theorem Rd'.of {H : Hp} {a : Addr} {r : R} (h : H a = some (.tup (r.map fun (n : Nat) => V.int (n : Int)))) : Rd' H (.ref a) r := by
  rw [Rd', rd]
  refine .tup h ?_
  induction r with
  | nil => exact .nil
  | cons i r ih =>
    have key : ∀ r : R, TpAll H (r.map fun (n : Nat) => V.int (n : Int)) (r.map fun (n : Nat) => PyData.int (n : Int)) := by
      intro r
      induction r with
      | nil => exact .nil
      | cons i r ih => exact .cons (.int _) ih
    exact key _
/-! equality -/
theorem ltr_eq {c d : Nat} : (ltr c == ltr d) = decide (c = d) := by
  by_cases h : c = d
  · subst h; simp
  · rw [decide_eq_false h]
    refine beq_eq_false_iff_ne.mpr fun e => h ?_
    have q : (#[c] : Array Nat) = #[d] := congrArg Str.cps e
    simpa using q
mutual
theorem eqv_td : ∀ a b : T, PyData.eqv (td a) (td b) = beqT a b
  | .tip, .tip => by simp [td, PyData.eqv, PyData.eqvAll, beqT]
  | .tip, .kn _ _ => by simp [td, PyData.eqv, PyData.eqvAll, beqT]
  | .kn _ _, .tip => by simp [td, PyData.eqv, PyData.eqvAll, beqT]
  | .kn c bs, .kn d es => by
    rw [td, td, PyData.eqv, PyData.eqvAll, PyData.eqv, ltr_eq, eqv_tdL bs es, beqT]
theorem eqv_tdL : ∀ a b : List T, PyData.eqvAll (tdL a) (tdL b) = beqL a b
  | [], [] => by simp [tdL, PyData.eqvAll, beqL]
  | [], _ :: _ => by simp [tdL, PyData.eqvAll, beqL]
  | _ :: _, [] => by simp [tdL, PyData.eqvAll, beqL]
  | a :: r, b :: s => by rw [tdL, tdL, PyData.eqvAll, eqv_td a b, eqv_tdL r s, beqL]
end
theorem beqT_dec (a b : T) : beqT a b = decide (a = b) := by
  cases h : beqT a b with
  | true => exact (decide_eq_true (beqT_iff.mp h)).symm
  | false => exact (decide_eq_false fun e => by rw [beqT_iff.mpr e] at h; cases h).symm
theorem eqvT (a b : T) : PyData.eqv (td a) (td b) = decide (a = b) := by rw [eqv_td, beqT_dec]
theorem eqv_rd : ∀ r s : R, PyData.eqv (rd r) (rd s) = decide (r = s)
  | [], [] => by simp [rd, PyData.eqv, PyData.eqvAll]
  | [], _ :: _ => by simp [rd, PyData.eqv, PyData.eqvAll]
  | _ :: _, [] => by simp [rd, PyData.eqv, PyData.eqvAll]
  | a :: r, b :: s => by
    have ih := eqv_rd r s
    have e : PyData.eqvAll (r.map fun (n : Nat) => PyData.int (n : Int)) (s.map fun (n : Nat) => PyData.int (n : Int)) = decide (r = s) := by rw [← ih, rd, rd, PyData.eqv]
    rw [rd, rd, PyData.eqv, List.map_cons, List.map_cons, PyData.eqvAll, e, PyData.eqv]
    by_cases h : a = b
    · subst h; simp
    · have q : ((a : Int) == (b : Int)) = false := beq_eq_false_iff_ne.mpr (by omega)
      rw [q, Bool.false_and, decide_eq_false]
      intro z
      injection z with z1 _
      exact h z1
/-! what may be compared -/
theorem strOk_ltr {c : Nat} (h : c ≤ 122) : PyData.strOk (ltr c) = true := by
  have e : decide (c < 0x110000) = true := decide_eq_true (by omega)
  simp [PyData.strOk, ltr]
  omega
/-- plain data, so deep at most -/
def Sh (n : Nat) (d : PyData) : Prop := PyData.canLay0 d = true ∧ PyData.depth d ≤ n
theorem Sh.mono {m n : Nat} {d : PyData} (h : Sh m d) (l : m ≤ n) : Sh n d := ⟨h.1, Nat.le_trans h.2 l⟩
theorem sh_all : ∀ {ds : List PyData} {n : Nat}, (∀ d ∈ ds, Sh n d) → PyData.canLayAll0 ds = true ∧ PyData.depthAll ds ≤ n
  | [], n, _ => ⟨by simp [PyData.canLayAll0], by simp [PyData.depthAll]⟩
  | d :: ds, n, h => by
    obtain ⟨h1, h2⟩ := h d List.mem_cons_self
    obtain ⟨q1, q2⟩ := sh_all (ds := ds) (n := n) fun x hx => h x (List.mem_cons_of_mem _ hx)
    refine ⟨by rw [PyData.canLayAll0, h1, q1]; rfl, ?_⟩
    rw [PyData.depthAll]; omega
theorem Sh.tuple {n : Nat} {ds : List PyData} (h : ∀ d ∈ ds, Sh n d) : Sh (n + 1) (.tuple ds) := by
  obtain ⟨h1, h2⟩ := sh_all h
  exact ⟨by rw [PyData.canLay0]; exact h1, by rw [PyData.depth]; omega⟩
theorem Sh.list {n : Nat} {ds : List PyData} (h : ∀ d ∈ ds, Sh n d) : Sh (n + 1) (.list ds) := by
  obtain ⟨h1, h2⟩ := sh_all h
  exact ⟨by rw [PyData.canLay0]; exact h1, by rw [PyData.depth]; omega⟩
theorem Sh.int {n : Nat} (i : Int) : Sh n (.int i) := ⟨by simp [PyData.canLay0], by simp [PyData.depth]⟩
theorem Sh.bool {n : Nat} (b : Bool) : Sh n (.bool b) := ⟨by simp [PyData.canLay0], by simp [PyData.depth]⟩
theorem Sh.none {n : Nat} : Sh n .none := ⟨by simp [PyData.canLay0], by simp [PyData.depth]⟩
theorem Sh.str {n c : Nat} (h : c ≤ 122) : Sh n (.str (ltr c)) := ⟨by rw [PyData.canLay0]; exact strOk_ltr h, by simp [PyData.depth]⟩
theorem Sh.ok {n : Nat} {d : PyData} (h : Sh n d) (l : n ≤ 64) : SeqAt.shaped d = true := by
  show (d.canLay0 && decide (d.depth ≤ 64)) = true
  rw [h.1, decide_eq_true (Nat.le_trans h.2 l)]; rfl
theorem sh_rd (r : R) : Sh 1 (rd r) := Sh.tuple fun d hd => by
  obtain ⟨n, _, rfl⟩ := List.mem_map.mp hd
  exact Sh.int _
theorem sh_td {t : T} (h : wf t = true) : Sh (height t + 1) (td t) := by
  induction t using T.ind with
  | h0 => rw [td]; exact Sh.tuple fun d hd => absurd hd (by simp)
  | h1 c bs ih =>
    obtain ⟨⟨_, h1⟩, _, h2⟩ := wf_kn.mp h
    rw [td, height, tdL_eq]
    refine (Sh.tuple (n := heightL bs + 1) fun d hd => ?_).mono (by omega)
    rcases List.mem_cons.mp hd with e | hd
    · rw [e]; exact Sh.str h1
    · obtain ⟨b, hb, rfl⟩ := List.mem_map.mp hd
      have := height_mem hb
      exact (ih b hb (h2 b hb)).mono (by omega)
/-- a bush that may be handed in: well formed, of few knots -/
structure Okb (n : Nat) (t : T) : Prop where
  wf : wf t = true
  few : knots t ≤ n
theorem Okb.sh {n : Nat} {t : T} (h : Okb n t) : Sh (n + 1) (td t) := (sh_td h.wf).mono (by have := height_le_knots t; have := h.few; omega)
theorem Okb.mono {m n : Nat} {t : T} (h : Okb m t) (l : m ≤ n) : Okb n t := ⟨h.wf, Nat.le_trans h.few l⟩
theorem Okb.mem {n c : Nat} {bs : List T} {b : T} (h : Okb n (.kn c bs)) (hb : b ∈ bs) : Okb (n - 1) b := ⟨(wf_kn.mp h.wf).2.2 b hb, by
  have h1 := knots_mem hb
  have h2 := h.few
  rw [knots] at h2; omega⟩
end Tw
set_option Elab.async false
set_option linter.all false
set_option maxRecDepth 100000
set_option maxHeartbeats 4000000
namespace Tw
open PySem PySem.Spec PyProof.Rows L2
/-! ### the text: the top's statements by their places -/
def top (i : Nat) : Stmt := PySem.Challenge.pw_tipwoods_k59_whole_tops_met_and_joined.main.body.getD i (.Pass ⟨0, 0, 0, 0⟩)
/-- what the top has left, as far as the walk asks it -/
structure Txt (K : PySem.W.Frag) (mg : Str → Option Value) : Prop where
  df : ∀ (x : Str) (i : Nat), (x, i) ∈ ([("is_whole", 11), ("is_tuple_of", 12), ("is_letter", 13), ("fits_part", 14), ("fits_bush", 15), ("need_bush", 16), ("knots_in", 17), ("tips_in", 18), ("height_in", 19), ("fits_graft", 22), ("fits_grafts", 23), ("put_at", 24), ("grafted_by", 25), ("need_grafts", 26), ("grafted", 27), ("are_unlike", 29), ("is_top_of", 31), ("parts_at_tips", 32), ("tops_in", 33), ("met_by", 34), ("joined_by", 35), ("clash_by", 36), ("need_both", 37), ("is_top", 38), ("lot_between", 39)] : List (Str × Nat)) ++ ([("count_tops", 40), ("common_top", 41), ("joined_tops", 42), ("clash_road", 43), ("_law_cup", 45), ("_law_roll", 46), ("_law_some", 47), ("_law_parts", 48), ("_law_tips", 49), ("_law_knots", 50), ("_law_put", 51), ("_law_bush", 52), ("_law_near_bush", 53), ("_law_word", 54), ("_law_tops", 55), ("_law_cut", 56), ("_law_clash", 57), ("_law_lot_right", 58), ("_law_right", 59), ("law", 60)] : List (Str × Nat)) →
    ∃ f fd, FunD K x x (defArgs (top i)) (defBody (top i)) (defScope (top i)) [] [] f fd ∧ mg x = some (.ref f)
  fr : ∀ x ∈ (["isinstance", "len", "int", "bool", "tuple", "str", "sum", "max", "all", "zip", "enumerate", "range", "sorted", "abs", "list"] : List Str), mg x = none
  gi : ∀ q ∈ ([("PARTS", 400), ("DEEPEST", 60), ("BRANCHES", 6), ("GROWTHS", 12), ("NUMBERS", 100)] : List (Str × Int)), ∃ t, mg q.1 = some (.int q.2 t)
  gl : ∃ t, mg "LETTERS" = some (.str "abcdefghijklmnopqrstuvwxyz" t)
/-- the class of the error that the law asks for -/
def cB (K : PySem.W.Frag) : Addr := He.ga K "InvalidBush"
structure TxtB (K : PySem.W.Frag) (mg : Str → Option Value) : Prop where
  g : mg "InvalidBush" = some (.ref (cB K))
  x : PySem.W.excIn K (cB K) He.veBase "ValueError.__new__" = true
  k : PySem.W.keepIn K (.ref (cB K)) = true
  b : PySem.W.subIn K (.ref (cB K)) (.type "BaseException") = some true
  t : PySem.W.typeIn K (.ref (cB K)) = some (.type "type")
/-- a def that may be called by its name -/
structure Cal (P : Program) (w : World) (K : PySem.W.Frag) (mg : Str → Option Value) (base : Heap) (k : Nat) (x : Str) (sp : Sp) : Prop where
  ex : ∃ (f : Addr) (fd : FuncData) (ps : List Str), FnOk P w K mg base (L2.CX P w) k f fd ps sp ∧ mg x = some (.ref f) ∧ PySem.W.keepIn K (.ref f) = true ∧ Binds K fd ps []
section
variable {P : Program} {w : World} {K : PySem.W.Frag} {mg : Str → Option Value} {base : Heap} {j k : Nat} {x : Str} {sp sp' : Sp}
theorem Cal.mono (c : Cal P w K mg base j x sp) (h : j ≤ k) : Cal P w K mg base k x sp := by
  obtain ⟨f, fd, ps, F, m, kp, b⟩ := c.ex
  exact ⟨f, fd, ps, F.mono h, m, kp, b⟩
theorem Cal.imp (c : Cal P w K mg base k x sp) (h : ∀ vs H Q E, sp' vs H Q E → sp vs H Q E) : Cal P w K mg base k x sp' := by
  obtain ⟨f, fd, ps, F, m, kp, b⟩ := c.ex
  exact ⟨f, fd, ps, F.imp h, m, kp, b⟩
/-- a promise that cannot be asked -/
theorem Cal.never (T : Txt K mg) {i : Nat} (hi : ∃ f fd, FunD K x x (defArgs (top i)) (defBody (top i)) (defScope (top i)) [] [] f fd ∧ mg x = some (.ref f)) {ps : List Str} (hb : ∀ (kV doc pm : Value) (an : Option Addr) (cdv ct : Value) (us : List Value), us.length = ps.length → bindArgs (PySem.W.fnOf x x (defArgs (top i)) (defBody (top i)) (defScope (top i)) .none kV doc pm an cdv ct) ⟨us, []⟩ = pure (ps.zip us))
    (h : ∀ vs H Q E, ¬ sp vs H Q E) : Cal P w K mg base k x sp := by
  obtain ⟨f, fd, F, m⟩ := hi
  exact ⟨f, fd, ps, ⟨fun vs H Q E q => absurd q (h vs H Q E), fun _ _ _ H _ _ vs Q E _ _ _ _ q => absurd q (h vs H Q E)⟩, m, F.kp, F.bindsN hb⟩
/-- a def by its body -/
theorem cal_of {i : Nat} {N ps : List Str} (hi : ∃ f fd, FunD K x x (defArgs (top i)) (defBody (top i)) (defScope (top i)) [] [] f fd ∧ mg x = some (.ref f)) (S : FnScope N ps (defScope (top i)))
    (hb : ∀ (kV doc pm : Value) (an : Option Addr) (cdv ct : Value) (us : List Value), us.length = ps.length → bindArgs (PySem.W.fnOf x x (defArgs (top i)) (defBody (top i)) (defScope (top i)) .none kV doc pm an cdv ct) ⟨us, []⟩ = pure (ps.zip us))
    (len : ∀ vs H Q E, sp vs H Q E → vs.length = ps.length)
    (hbody : ∀ (f : Addr) (cdv : Value) (A : Around) (outer : List Env) (s : Shared) (H : Hp) (vs : List V) (Q : VK) (E : XK), Room k (A.deeper (envOfC x (defScope (top i)) s.heap.objs.size f cdv)) → sp vs H Q E →
      ∃ t, PSs (cxOf (L2.CX P w) P w K mg base N x (defScope (top i)) f cdv A outer s H E) (defBody (top i)) t ∧ t { nx := fun _ H' => Q .non H', rt := Q } (start N vs) H) : Cal P w K mg base (k + 1) x sp := by
  obtain ⟨f, fd, F, m⟩ := hi
  exact ⟨f, fd, ps, F.ok S len fun cdv A outer s H vs Q E hr hq => hbody f cdv A outer s H vs Q E hr hq, m, F.kp, F.bindsN hb⟩
/-- .. that raises nothing -/
theorem cal_nox {i : Nat} {N ps : List Str} (hi : ∃ f fd, FunD K x x (defArgs (top i)) (defBody (top i)) (defScope (top i)) [] [] f fd ∧ mg x = some (.ref f)) (S : FnScope N ps (defScope (top i)))
    (hb : ∀ (kV doc pm : Value) (an : Option Addr) (cdv ct : Value) (us : List Value), us.length = ps.length → bindArgs (PySem.W.fnOf x x (defArgs (top i)) (defBody (top i)) (defScope (top i)) .none kV doc pm an cdv ct) ⟨us, []⟩ = pure (ps.zip us))
    (len : ∀ vs H Q E, sp vs H Q E → vs.length = ps.length)
    (hbody : ∀ (f : Addr) (cdv : Value) (A : Around) (outer : List Env) (s : Shared) (H : Hp) (vs : List V) (Q : VK) (E : XK), Room k (A.deeper (envOfC x (defScope (top i)) s.heap.objs.size f cdv)) → sp vs H Q E →
      ∃ t, PSs (cxOf (L2.CX P w) P w K mg base N x (defScope (top i)) f cdv A outer s H E).nox (defBody (top i)) t ∧ t { nx := fun _ H' => Q .non H', rt := Q } (start N vs) H) : Cal P w K mg base (k + 1) x sp :=
  cal_of hi S hb len fun f cdv A outer s H vs Q E hr hq => by
    obtain ⟨t, h, q⟩ := hbody f cdv A outer s H vs Q E hr hq
    exact ⟨t, h.nox, q⟩
end
section
variable {X : Cx} {k j : Nat} {x : Str} {sp : Sp} {p pos : Pos} {e : Expr} {es : List Expr} {t : TA}
/-- f(e, ..), nothing is raised -/
theorem pe_cl (c : Cal X.prog X.w X.K X.mg X.base k x sp) (hr : Room j X.A) (hk : k ≤ j) (hg : Gl X x) (ha : PA X (e :: es) t)
    (hdb : (x == ("__debug__" : Str)) = false := by decide) (he : starEach (e :: es) X.env = (false, eval e X.env) :: starEach es X.env := by rfl) (hpl : (backTo pos (starEach es X.env)).any (·.1) = false := by rfl) :
    PE X (.Call (.Name x p) (e :: es) [] pos) (tCall sp [] E0 t) := by
  obtain ⟨f, fd, ps, F, hm, kp, b⟩ := c.ex
  exact pe_call F (hr.mono hk) hg hm kp b .nil passL ha hdb he hpl
/-- f(e, ..), what it raises is wished for -/
theorem pe_clX {E : XK} (c : Cal X.prog X.w X.K X.mg X.base k x sp) (hr : Room j X.A) (hk : k ≤ j) (hx : Passes (L2.CX X.prog X.w) X E) (hg : Gl X x) (ha : PA X (e :: es) t)
    (hdb : (x == ("__debug__" : Str)) = false := by decide) (he : starEach (e :: es) X.env = (false, eval e X.env) :: starEach es X.env := by rfl) (hpl : (backTo pos (starEach es X.env)).any (·.1) = false := by rfl) :
    PE X (.Call (.Name x p) (e :: es) [] pos) (tCall sp [] E t) := by
  obtain ⟨f, fd, ps, F, hm, kp, b⟩ := c.ex
  exact pe_call F (hr.mono hk) hg hm kp b .nil hx ha hdb he hpl
/-- a module's whole number -/
theorem pe_gi {n : Int} (h : ∃ t, X.mg x = some (.int n t)) (hg : Gl X x) (hd : (x == ("__debug__" : Str)) = false := by decide) : PE X (.Name x pos) (tC (.int n)) := by
  obtain ⟨t, h⟩ := h
  exact pe_glob hg h ⟨t, rfl⟩ hd
theorem pe_gs {z : Str} (h : ∃ t, X.mg x = some (.str z t)) (hg : Gl X x) (hd : (x == ("__debug__" : Str)) = false := by decide) : PE X (.Name x pos) (tC (.str z)) := by
  obtain ⟨t, h⟩ := h
  exact pe_glob hg h ⟨t, rfl⟩ hd
/-- a built-in class as a value -/
theorem pe_gt {n : String} (h : X.mg x = none) (hg : Gl X x) (hv : bootBuiltins x = some (.type n)) (hn : x ≠ "__name__" := by decide) (hd : (x == ("__debug__" : Str)) = false := by decide) : PE X (.Name x pos) (tC (.ty n)) := pe_bltn hg h hv rfl hn hd
end
theorem sz_small {n : Nat} (h : n ≤ 16777216) : n ≤ sizeLine := by rw [sizeLine_eq]; exact h
end Tw
set_option Elab.async false
set_option linter.all false
set_option maxRecDepth 100000
set_option maxHeartbeats 4000000
namespace Tw
open PySem PySem.Spec PyProof.Rows L2
/-! ### rules by weaker readings -/
theorem PE.imp {X : Cx} {e : Expr} {t t' : TE} (h : PE X e t) (k : ∀ σ H Q, t' σ H Q → t σ H Q) : PE X e t' := ⟨fun pins s σ H Q I q => h.run pins s σ H Q I (k σ H Q q)⟩
theorem PT.imp {X : Cx} {e : Expr} {t t' : TT} (h : PT X e t) (k : ∀ σ H Q, t' σ H Q → t σ H Q) : PT X e t' := ⟨fun pins s σ H Q I q => h.run pins s σ H Q I (k σ H Q q)⟩
def tM (te : TE) : TE := fun σ H Q => ∃ R : VK, te σ H R ∧ ∀ x H1, R x H1 → Q x H1
theorem PE.mo {X : Cx} {e : Expr} {t : TE} (h : PE X e t) : PE X e (tM t) := ⟨fun pins s σ H Q I ⟨R, q, k⟩ => thn (h.run pins s σ H R I q) fun u s' ⟨v, H', I', r, z⟩ => ⟨v, H', I', r, k v H' z⟩⟩
theorem Tp.same {H H' : Hp} {v : V} {d : PyData} (h : Tp H v d) (s : Same H H') : Tp H' v d := h.keep (Kp.of s)
theorem TpAll.same {H H' : Hp} {v : List V} {d : List PyData} (h : TpAll H v d) (s : Same H H') : TpAll H' v d := h.keep (Kp.of s)
theorem Same.tupK {K : PySem.W.Frag} {H H' : Hp} {a : Addr} {xs : List V} (e : Same H H') (h : SqT K H a xs) : SqT K H' a xs := by
  rcases h with (h | ⟨o, h⟩) | h
  · exact .inl (.inl (e a _ h))
  · exact .inl (.inr ⟨o, e a _ h⟩)
  · exact .inr h
mutual
theorem dp_same {K : PySem.W.Frag} {H H' : Hp} (k : Same H H') : ∀ {v : V} {d : PyData}, Dp K H v d → Dp K H' v d
  | _, _, .non => .non
  | _, _, .bl b => .bl b
  | _, _, .int i => .int i
  | _, _, .str x => .str x
  | _, _, .lst e h => .lst (k.seq e) (dp_sameL k h)
  | _, _, .tup e h => .tup (Same.tupK k e) (dp_sameL k h)
theorem dp_sameL {K : PySem.W.Frag} {H H' : Hp} (k : Same H H') : ∀ {vs : List V} {ds : List PyData}, DpAll K H vs ds → DpAll K H' vs ds
  | _, _, .nil => .nil
  | _, _, .cons h t => .cons (dp_same k h) (dp_sameL k t)
end
theorem sz {n : Nat} (h : Nat.ble n 16777216 = true) : n ≤ sizeLine := by rw [sizeLine_eq]; exact Nat.le_of_ble_eq_true h
section
variable {X : Cx} {e : Expr} {te : TE} {k0 : Nat} {p pos : Pos}
/-- e == () and e != () -/
def tE0 (te : TE) : TE := fun σ H Q => te σ H fun x H1 => ∃ d, Tp H1 x d ∧ Sh 64 d ∧ ∀ H2, Same H1 H2 → Q (.bl (PyData.eqv d (.tuple []))) H2
def tN0 (te : TE) : TE := fun σ H Q => te σ H fun x H1 => ∃ d, Tp H1 x d ∧ Sh 64 d ∧ ∀ H2, Same H1 H2 → Q (.bl (!PyData.eqv d (.tuple []))) H2
theorem sh_nil : Sh 64 (.tuple []) := (Sh.tuple (n := 0) fun d hd => absurd hd (by simp)).mono (by decide)
theorem pe_eq0 (hu : X.A.units + 64 < cLine) (he : PE X e te) : PE X (.Compare e [.Eq] [.Tuple [] k0 p] pos) (tE0 te) :=
  PE.imp (pe_cmpR (op_eqD hu) (PE.mo he) (pe_tup pa_nil) (nomark _)) fun σ H Q h => ⟨_, h, fun x H1 ⟨d, h1, h2, h3⟩ => ⟨Nat.zero_le _, fun p hp => ⟨d, .tuple [], (h1.same (same_new hp _)).dp, (Tp.tup upd_same .nil).dp, h2.ok (Nat.le_refl _), sh_nil.ok (Nat.le_refl _), h3 _ (same_new hp _)⟩⟩⟩
theorem pe_ne0 (hu : X.A.units + 64 < cLine) (he : PE X e te) : PE X (.Compare e [.NotEq] [.Tuple [] k0 p] pos) (tN0 te) :=
  PE.imp (pe_cmpR (op_neD hu) (PE.mo he) (pe_tup pa_nil) (nomark _)) fun σ H Q h => ⟨_, h, fun x H1 ⟨d, h1, h2, h3⟩ => ⟨Nat.zero_le _, fun p hp => ⟨d, .tuple [], (h1.same (same_new hp _)).dp, (Tp.tup upd_same .nil).dp, h2.ok (Nat.le_refl _), sh_nil.ok (Nat.le_refl _), h3 _ (same_new hp _)⟩⟩⟩
def ttE0 (te : TE) : TT := fun σ H Q => te σ H fun x H1 => ∃ d, Tp H1 x d ∧ Sh 64 d ∧ ∀ H2, Same H1 H2 → Q (PyData.eqv d (.tuple [])) H2
def ttN0 (te : TE) : TT := fun σ H Q => te σ H fun x H1 => ∃ d, Tp H1 x d ∧ Sh 64 d ∧ ∀ H2, Same H1 H2 → Q (!PyData.eqv d (.tuple [])) H2
theorem pt_eq0 (hu : X.A.units + 64 < cLine) (he : PE X e te) : PT X (.Compare e [.Eq] [.Tuple [] k0 p] pos) (ttE0 te) :=
  PT.imp (pt_cmpR (op_eqD hu) (PE.mo he) (pe_tup pa_nil) (nomark _)) fun σ H Q h => ⟨_, h, fun x H1 ⟨d, h1, h2, h3⟩ => ⟨Nat.zero_le _, fun p hp => ⟨d, .tuple [], (h1.same (same_new hp _)).dp, (Tp.tup upd_same .nil).dp, h2.ok (Nat.le_refl _), sh_nil.ok (Nat.le_refl _), _, rfl, h3 _ (same_new hp _)⟩⟩⟩
theorem pt_ne0 (hu : X.A.units + 64 < cLine) (he : PE X e te) : PT X (.Compare e [.NotEq] [.Tuple [] k0 p] pos) (ttN0 te) :=
  PT.imp (pt_cmpR (op_neD hu) (PE.mo he) (pe_tup pa_nil) (nomark _)) fun σ H Q h => ⟨_, h, fun x H1 ⟨d, h1, h2, h3⟩ => ⟨Nat.zero_le _, fun p hp => ⟨d, .tuple [], (h1.same (same_new hp _)).dp, (Tp.tup upd_same .nil).dp, h2.ok (Nat.le_refl _), sh_nil.ok (Nat.le_refl _), _, rfl, h3 _ (same_new hp _)⟩⟩⟩
/-- xs != [] -/
def ttNL (K : PySem.W.Frag) (te : TE) : TT := fun σ H Q => te σ H fun x H1 => ∃ a xs ds, x = .ref a ∧ H1 a = some (.lst xs) ∧ DpAll K H1 xs ds ∧ (∀ d ∈ ds, Sh 60 d) ∧ ∀ H2, Same H1 H2 → Q (!xs.isEmpty) H2
theorem eqv_nil : ∀ ds : List PyData, PyData.eqv (.list ds) (.list []) = ds.isEmpty
  | [] => by simp [PyData.eqv, PyData.eqvAll]
  | d :: ds => by simp [PyData.eqv, PyData.eqvAll]
theorem sh_nilL : Sh 64 (.list []) := (Sh.list (n := 0) fun d hd => absurd hd (by simp)).mono (by decide)
theorem dp_empty {K : PySem.W.Frag} {H : Hp} {xs : List V} {ds : List PyData} (h : DpAll K H xs ds) : ds.isEmpty = xs.isEmpty := by cases h <;> rfl
theorem pt_neL (hu : X.A.units + 64 < cLine) (he : PE X e te) : PT X (.Compare e [.NotEq] [.List [] p] pos) (ttNL X.K te) :=
  PT.imp (pt_cmpR (op_neD hu) (PE.mo he) (pe_lst pa_nil) (nomark _)) fun σ H Q h => ⟨_, h, fun x H1 ⟨a, xs, ds, e1, h1, h2, h3, h4⟩ => ⟨Nat.zero_le _, fun p hp => by
    subst e1
    refine ⟨.list ds, .list [], .lst (SqL.of (same_new hp _ _ _ h1)) (dp_sameL (same_new hp _) h2), .lst (SqL.of upd_same) .nil, ((Sh.list h3).mono (by decide)).ok (Nat.le_refl _), sh_nilL.ok (Nat.le_refl _), _, rfl, ?_⟩
    show Q (!PyData.eqv (.list ds) (.list [])) _
    rw [eqv_nil, dp_empty h2]
    exact h4 _ (same_new hp _)⟩⟩
end
/-! slices and sums of tuples: the whole one may be the very object -/
section
variable {X : Cx}
def rSlS (K : PySem.W.Frag) : V → Option Int → Option Int → Hp → VK → Prop := fun x lo hi H Q => ∃ a xs, x = .ref a ∧ H a = some (.tup xs) ∧ ∀ p H', Same H H' → H' p = some (.tup (cutV xs lo hi)) → Q (.ref p) H'
theorem cutV_whole {xs : List V} {lo hi : Option Int} (h : HT.sIx xs.length 0 lo = 0 ∧ HT.sIx xs.length xs.length hi = xs.length) : cutV xs lo hi = xs := by
  unfold cutV
  rw [h.1, h.2]; simp
theorem sl_tupS : SlR X (rSlS X.K) := by
  intro pins s σ H x v vl vu lo hi sl Q I rx hs pl pu h
  obtain ⟨a, xs, rfl, hx, q⟩ := h
  exact sl_tupA pins s σ H _ v vl vu lo hi sl Q I rx hs pl pu ⟨a, xs, rfl, SqT.of hx, fun w => q a H (Same.refl _) (by rw [cutV_whole w]; exact hx), fun w p hp => q p _ (same_new hp _) upd_same⟩
theorem cut_from (x : V) (xs : List V) : cutV (x :: xs) (some 1) none = xs := by
  unfold cutV
  show ((x :: xs).drop (min 1 (xs.length + 1))).take (xs.length + 1 - min 1 (xs.length + 1)) = xs
  rw [Nat.min_eq_left (by omega), List.drop_succ_cons, List.drop_zero, List.take_of_length_le (by omega)]
theorem cut_from0 : cutV [] (some 1) none = [] := rfl
theorem cut_to (x : V) (xs : List V) : cutV (x :: xs) none (some 1) = [x] := by
  unfold cutV
  show ((x :: xs).drop 0).take (min 1 (xs.length + 1) - 0) = [x]
  rw [Nat.min_eq_left (by omega)]; rfl
theorem cut_to0 : cutV [] none (some 1) = [] := rfl
theorem cut_fromN (xs : List V) (n : Nat) : cutV xs (some (n : Int)) none = xs.drop n := by
  unfold cutV
  rw [HT.sIx_nat, HT.sIx_none]
  rcases Nat.le_total n xs.length with h | h
  · rw [Nat.min_eq_left h, List.take_of_length_le (by rw [List.length_drop]; omega)]
  · rw [Nat.min_eq_right h, List.drop_eq_nil_of_le (Nat.le_refl _), List.drop_eq_nil_of_le h]; simp
theorem cut_toN (xs : List V) (n : Nat) : cutV xs none (some (n : Int)) = xs.take n := by
  unfold cutV
  rw [HT.sIx_nat, HT.sIx_none]
  rcases Nat.le_total n xs.length with h | h
  · rw [Nat.min_eq_left h]; simp
  · rw [Nat.min_eq_right h, List.take_of_length_le h]; simp
def rCatS (K : PySem.W.Frag) : R2 := fun x y H Q => ∃ a b xs ys, x = .ref a ∧ y = .ref b ∧ H a = some (.tup xs) ∧ H b = some (.tup ys) ∧ xs.length + ys.length ≤ sizeLine ∧ ∀ p H', Same H H' → H' p = some (.tup (xs ++ ys)) → Q (.ref p) H'
theorem op_catS : OpR X (binaryOp .Add) (rCatS X.K) := by
  intro pins s σ H x y v u Q I rx ry h
  obtain ⟨a, b, xs, ys, rfl, rfl, ha, hb, hz, q⟩ := h
  refine op_catA pins s σ H _ _ v u Q I rx ry ⟨a, b, xs, ys, rfl, rfl, SqT.of ha, SqT.of hb, hz, fun e => ?_, fun _ e => ?_, fun _ _ p hp => ?_⟩
  · exact q b H (Same.refl _) (by rw [e, List.nil_append]; exact hb)
  · exact q a H (Same.refl _) (by rw [e, List.append_nil]; exact ha)
  · exact q p _ (same_new hp _) upd_same
end
theorem it1 {A B : Prop} (h : A) : if true = true then A else B := by rw [if_pos rfl]; exact h
theorem it0 {A B : Prop} (h : B) : if false = true then A else B := by rw [if_neg Bool.false_ne_true]; exact h
theorem itb {b : Bool} {A B : Prop} (h1 : b = true → A) (h2 : b = false → B) : if b = true then A else B := by
  cases b with
  | true => exact it1 (h1 rfl)
  | false => exact it0 (h2 rfl)
theorem hu65 {A : Around} {k : Nat} (hr : Room k A) : A.units + 65 < cLine := by have := hr.un; omega
/-! ### comprehensions over a tuple, over two tuples in step: the items' data are told -/
theorem upd_list_same {H1 H : Hp} {D : Addr} {acc acc' : List V} (hD : H1 D = none) (s : Same H1 H) : Same H1 (upd H D (.lst acc')) := fun b u q => by
  rw [upd_ne (ne_of_none q hD)]; exact s b u q
theorem kp_upd {H : Hp} {D : Addr} {acc acc' : List V} (h : H D = some (.lst acc)) : Kp H (upd H D (.lst acc')) := Kp.lst h _
theorem lc_tupD {K : PySem.W.Frag} {a : Addr} {xs : List V} {ds : List PyData} {j : Nat} {te : TE} {σ : L2.St} {H1 : Hp} {D : Addr} {Qd : Hp → Prop} (hx : H1 a = some (.tup xs)) (hl : xs.length = ds.length) (hz : ds.length ≤ sizeLine) (hD : H1 D = none)
    (step : ∀ (i : Nat) (x : V) (d : PyData) (H : Hp) (Q' : VK), xs[i]? = some x → ds[i]? = some d → Same H1 H → (∀ y H4, Same H H4 → Tp H4 y d → Q' y H4) → te ((σ.set j none).set j (some x)) H Q')
    (fin : ∀ H acc, Same H1 H → H D = some (.lst acc) → TpAll H acc ds → Qd H) :
    ∃ W : Nat → Nat → Hp → Prop, (∃ m, W 0 m (upd H1 D (.lst []))) ∧ ∀ i m H, W i m H →
      ((Itt K a).stop i H ∧ Qd H) ∨ ((Itt K a).go i H ∧ ∃ Nx : Hp → Prop, (∀ H', Nx H' → ∃ m', m' < m ∧ W (i + 1) m' H') ∧ ∀ x H', (Itt K a).yld i H x H' → gName j x (wipe σ [j]) H' fun σ2 H2 => wipe σ2 [j] = wipe σ [j] ∧ tYes σ2 H2 fun b H3 =>
        if b = true then te σ2 H3 fun y H4 => ∃ acc, H4 D = some (.lst acc) ∧ acc.length < sizeLine ∧ Nx (upd H4 D (.lst (acc ++ [y]))) else Nx H3) := by
  refine lc_tup (K := K) (a := a) (xs := xs) (Qd := Qd) (fun i H => Same H1 H ∧ ∃ acc, H D = some (.lst acc) ∧ TpAll H acc (ds.take i)) ⟨same_new hD _, [], upd_same, .nil⟩ (fun i H _ p => SqT.of (p.1 a _ hx)) ?_ (fun H p => ?_)
  · rintro i x H hi ⟨s1, acc, hacc, hall⟩
    have hlt : i < ds.length := by rw [← hl]; exact (List.getElem?_eq_some_iff.mp hi).1
    have hd : ds[i]? = some ds[i] := List.getElem?_eq_getElem hlt
    refine ⟨?_, ?_⟩
    · show wipe ((wipe σ [j]).set j (some x)) [j] = wipe σ [j]
      simp [wipe, List.set_set]
    · unfold tYes
      dsimp only
      rw [if_pos rfl]
      refine step i x ds[i] H _ hi hd s1 fun y H4 s4 hy => ⟨acc, s4 D _ hacc, ?_, ?_, acc ++ [y], upd_same, ?_⟩
      · have := hall.len
        rw [List.length_take] at this
        omega
      · exact upd_list_same (acc := acc) hD fun b u q => s4 b u (s1 b u q)
      · rw [List.take_add_one, hd]
        exact TpAll.app ((hall.same s4).keep (kp_upd (s4 D _ hacc))) (.cons (hy.keep (kp_upd (s4 D _ hacc))) .nil)
  · obtain ⟨s1, acc, hacc, hall⟩ := p
    rw [hl, List.take_length] at hall
    exact fin H acc s1 hacc hall
/-- .. with a test: those that are kept -/
def keptD (ds : List (Option PyData)) : List PyData := ds.filterMap id
theorem lc_tupF {K : PySem.W.Frag} {a : Addr} {xs : List V} {ds : List (Option PyData)} {j : Nat} {tt : TT} {te : TE} {σ : L2.St} {H1 : Hp} {D : Addr} {Qd : Hp → Prop} (hx : H1 a = some (.tup xs)) (hl : xs.length = ds.length) (hz : ds.length ≤ sizeLine) (hD : H1 D = none)
    (step : ∀ (i : Nat) (x : V) (d : Option PyData) (H : Hp) (Q' : Bool → Hp → Prop), xs[i]? = some x → ds[i]? = some d → Same H1 H → (∀ H4, Same H H4 → Q' d.isSome H4) → tt ((σ.set j none).set j (some x)) H Q')
    (step2 : ∀ (i : Nat) (x : V) (d : PyData) (H : Hp) (Q' : VK), xs[i]? = some x → ds[i]? = some (some d) → Same H1 H → (∀ y H4, Same H H4 → Tp H4 y d → Q' y H4) → te ((σ.set j none).set j (some x)) H Q')
    (fin : ∀ H acc, Same H1 H → H D = some (.lst acc) → TpAll H acc (keptD ds) → Qd H) :
    ∃ W : Nat → Nat → Hp → Prop, (∃ m, W 0 m (upd H1 D (.lst []))) ∧ ∀ i m H, W i m H →
      ((Itt K a).stop i H ∧ Qd H) ∨ ((Itt K a).go i H ∧ ∃ Nx : Hp → Prop, (∀ H', Nx H' → ∃ m', m' < m ∧ W (i + 1) m' H') ∧ ∀ x H', (Itt K a).yld i H x H' → gName j x (wipe σ [j]) H' fun σ2 H2 => wipe σ2 [j] = wipe σ [j] ∧ tt σ2 H2 fun b H3 =>
        if b = true then te σ2 H3 fun y H4 => ∃ acc, H4 D = some (.lst acc) ∧ acc.length < sizeLine ∧ Nx (upd H4 D (.lst (acc ++ [y]))) else Nx H3) := by
  refine lc_tup (K := K) (a := a) (xs := xs) (Qd := Qd) (fun i H => Same H1 H ∧ ∃ acc, H D = some (.lst acc) ∧ TpAll H acc (keptD (ds.take i))) ⟨same_new hD _, [], upd_same, .nil⟩ (fun i H _ p => SqT.of (p.1 a _ hx)) ?_ (fun H p => ?_)
  · rintro i x H hi ⟨s1, acc, hacc, hall⟩
    have hlt : i < ds.length := by rw [← hl]; exact (List.getElem?_eq_some_iff.mp hi).1
    have hd : ds[i]? = some ds[i] := List.getElem?_eq_getElem hlt
    have hk : keptD (ds.take (i + 1)) = keptD (ds.take i) ++ (ds[i]).toList := by
      unfold keptD
      rw [List.take_add_one, hd, Option.toList_some, List.filterMap_append]
      cases ds[i] <;> rfl
    refine ⟨?_, ?_⟩
    · show wipe ((wipe σ [j]).set j (some x)) [j] = wipe σ [j]
      simp [wipe, List.set_set]
    · refine step i x ds[i] H _ hi hd s1 fun H3 s3 => ?_
      cases e : ds[i] with
      | none =>
        rw [Option.isSome_none, if_neg Bool.false_ne_true, hk, e, Option.toList_none, List.append_nil]
        exact ⟨fun b u q => s3 b u (s1 b u q), acc, s3 D _ hacc, hall.same s3⟩
      | some d =>
        rw [Option.isSome_some, if_pos rfl]
        refine step2 i x d H3 _ hi (by rw [hd, e]) (fun b u q => s3 b u (s1 b u q)) fun y H4 s4 hy => ?_
        have hacc4 := s4 D _ (s3 D _ hacc)
        refine ⟨acc, hacc4, ?_, ?_, acc ++ [y], upd_same, ?_⟩
        · have h1 := hall.len
          have h2 : (keptD (ds.take i)).length ≤ i := Nat.le_trans (List.length_filterMap_le _ _) (by rw [List.length_take]; omega)
          omega
        · exact upd_list_same (acc := acc) hD fun b u q => s4 b u (s3 b u (s1 b u q))
        · rw [hk, e]
          exact TpAll.app (((hall.same s3).same s4).keep (kp_upd hacc4)) (.cons (hy.keep (kp_upd hacc4)) .nil)
  · obtain ⟨s1, acc, hacc, hall⟩ := p
    rw [hl, List.take_length] at hall
    exact fin H acc s1 hacc hall
/-- [e for x, y in zip(t, u)], tuples of one length -/
theorem lc_zipD {K : PySem.W.Frag} {a b : Addr} {xs ys : List V} {ds : List PyData} {j k : Nat} {te : TE} {σ : L2.St} {H1 : Hp} {D : Addr} {Qd : Hp → Prop} (hx : H1 a = some (.tup xs)) (hy : H1 b = some (.tup ys)) (hl : xs.length = ds.length) (hl2 : ys.length = ds.length) (hz : ds.length ≤ sizeLine) (hD : H1 D = none)
    (hw : ∀ x y, wipe (((wipe σ [j, k]).set j (some x)).set k (some y)) [j, k] = wipe σ [j, k])
    (step : ∀ (i : Nat) (x y : V) (d : PyData) (H : Hp) (Q' : VK), xs[i]? = some x → ys[i]? = some y → ds[i]? = some d → Same H1 H → (∀ z H4, Same H H4 → Tp H4 z d → Q' z H4) → te (((wipe σ [j, k]).set j (some x)).set k (some y)) H Q')
    (fin : ∀ H acc, Same H1 H → H D = some (.lst acc) → TpAll H acc ds → Qd H) :
    ∃ W : Nat → Nat → Hp → Prop, (∃ m, W 0 m (upd H1 D (.lst []))) ∧ ∀ i m H, W i m H →
      ((RZ.ItzT K a b).stop i H ∧ Qd H) ∨ ((RZ.ItzT K a b).go i H ∧ ∃ Nx : Hp → Prop, (∀ H', Nx H' → ∃ m', m' < m ∧ W (i + 1) m' H') ∧ ∀ x H', (RZ.ItzT K a b).yld i H x H' → gTup K 2 (gCons (gName j) (gCons (gName k) gNil)) x (wipe σ [j, k]) H' fun σ2 H2 => wipe σ2 [j, k] = wipe σ [j, k] ∧ tYes σ2 H2 fun b H3 =>
        if b = true then te σ2 H3 fun y H4 => ∃ acc, H4 D = some (.lst acc) ∧ acc.length < sizeLine ∧ Nx (upd H4 D (.lst (acc ++ [y]))) else Nx H3) := by
  refine ⟨fun i m H => m = ds.length - i ∧ i ≤ ds.length ∧ Same H1 H ∧ ∃ acc, H D = some (.lst acc) ∧ TpAll H acc (ds.take i), ⟨ds.length, by simp, Nat.zero_le _, same_new hD _, [], upd_same, .nil⟩, ?_⟩
  rintro i m H ⟨rfl, hi, s1, acc, hacc, hall⟩
  by_cases hlt : i < ds.length
  · have hd : ds[i]? = some ds[i] := List.getElem?_eq_getElem hlt
    have hx' : xs[i]? = some (xs[i]'(by omega)) := List.getElem?_eq_getElem (by omega)
    have hy' : ys[i]? = some (ys[i]'(by omega)) := List.getElem?_eq_getElem (by omega)
    have qx := SqT.of (K := K) (s1 a _ hx)
    have qy := SqT.of (K := K) (s1 b _ hy)
    refine .inr ⟨⟨xs, ys, _, _, qx, qy, hx', hy'⟩, fun H' => Same H1 H' ∧ ∃ acc, H' D = some (.lst acc) ∧ TpAll H' acc (ds.take (i + 1)), fun H' p => ⟨ds.length - (i + 1), by omega, rfl, hlt, p⟩, fun v H' y => ?_⟩
    obtain ⟨T, x', y', rfl, hT, rfl, f1, f2⟩ := y
    have sT : Same H (upd H T (.tup [x', y'])) := same_new hT _
    refine ⟨T, [x', y'], rfl, SqT.of upd_same, rfl, x', [y'], rfl, y', [], rfl, rfl, hw x' y', ?_⟩
    unfold tYes
    dsimp only
    rw [if_pos rfl]
    refine step i x' y' ds[i] _ _ (f1 xs qx) (f2 ys qy) hd (fun b u q => sT b u (s1 b u q)) fun z H4 s4 hz4 => ?_
    have hacc4 := s4 D _ (sT D _ hacc)
    refine ⟨acc, hacc4, ?_, ?_, acc ++ [z], upd_same, ?_⟩
    · have := hall.len
      rw [List.length_take] at this
      omega
    · exact upd_list_same (acc := acc) hD fun b u q => s4 b u (sT b u (s1 b u q))
    · rw [List.take_add_one, hd]
      exact TpAll.app (((hall.same sT).same s4).keep (kp_upd hacc4)) (.cons (hz4.keep (kp_upd hacc4)) .nil)
  · have e : i = ds.length := by omega
    subst e
    rw [List.take_length] at hall
    exact .inl ⟨⟨xs, ys, SqT.of (s1 a _ hx), SqT.of (s1 b _ hy), Or.inl (by omega)⟩, fin H acc s1 hacc hall⟩
/-- a bush as the law hands it in -/
structure Good (H : Hp) (v : V) (t : T) : Prop where
  tr : Tr H v t
  ok : Okb 12 t
theorem Good.same {H H' : Hp} {v : V} {t : T} (g : Good H v t) (s : Same H H') : Good H' v t := ⟨g.tr.same s, g.ok⟩
theorem Good.sh {H : Hp} {v : V} {t : T} (g : Good H v t) {n : Nat} (h : 13 ≤ n) : Sh n (td t) := g.ok.sh.mono h
def kidsOf : T → List T
  | .tip => []
  | .kn _ bs => bs
theorem Tr.kids {H : Hp} {v : V} {t : T} (h : Tr H v t) : ∃ a xs, v = .ref a ∧ H a = some (.tup xs) ∧ TrL H (cutV xs (some 1) none) (kidsOf t) := by
  cases t with
  | tip => obtain ⟨a, h1, h2⟩ := h.tip_inv; exact ⟨a, [], h1, h2, .nil⟩
  | kn c bs => obtain ⟨a, xs, h1, h2, h3⟩ := h.kn_inv; exact ⟨a, _, h1, h2, by rw [cut_from]; exact h3⟩
theorem map_get {α : Type} {f : T → α} {bs : List T} {i : Nat} {d : α} (h : (bs.map f)[i]? = some d) : ∃ b, bs[i]? = some b ∧ d = f b := by
  rw [List.getElem?_map] at h
  cases e : bs[i]? with
  | none => rw [e] at h; cases h
  | some b => rw [e] at h; exact ⟨b, rfl, (Option.some.inj h).symm⟩
theorem Okb.kid {n c : Nat} {bs : List T} {b : T} (h : Okb n (.kn c bs)) (hb : b ∈ bs) : Okb n b := (h.mem hb).mono (Nat.sub_le _ _)
theorem Okb.lt {n c k : Nat} {bs : List T} {b : T} (h : knots (.kn c bs) < k + 1) (hb : b ∈ bs) : knots b < k := by
  have := knots_mem hb
  rw [knots] at h; omega
theorem Okb.len {n c : Nat} {bs : List T} (h : Okb n (.kn c bs)) : bs.length ≤ 6 := (wf_kn.mp h.wf).2.1.2
theorem Okb.pos {n c : Nat} {bs : List T} (h : Okb n (.kn c bs)) : 1 ≤ bs.length := (wf_kn.mp h.wf).2.1.1
/-- a branch's value -/
theorem TrL.at {H : Hp} {vs : List V} {bs : List T} {i : Nat} {v : V} {b : T} (h : TrL H vs bs) (hv : vs[i]? = some v) (hb : bs[i]? = some b) : Tr H v b := by
  obtain ⟨y, hy, ty⟩ := h.get (i := i) (d := td b) (by rw [List.getElem?_map, hb]; rfl)
  rw [hv] at hy
  cases hy
  exact ty
theorem TrL.len {H : Hp} {vs : List V} {bs : List T} (h : TrL H vs bs) : vs.length = bs.length := by rw [TpAll.len h, List.length_map]
theorem op_mulY {X : Cx} : OpR X (binaryOp .Mult) (rI (fun i j => IntMulOk i j) fun i j => .int (i * j)) := opI fun _ _ _ _ _ _ _ hc q => mul_int q hc
def hdL : T → List PyData
  | .tip => []
  | .kn c _ => [.str (ltr c)]
def lenT : T → Nat
  | .tip => 0
  | .kn _ bs => bs.length + 1
theorem Tr.hd {H : Hp} {v : V} {t : T} (h : Tr H v t) : ∃ a xs, v = .ref a ∧ H a = some (.tup xs) ∧ TpAll H (cutV xs none (some 1)) (hdL t) ∧ xs.length = lenT t := by
  cases t with
  | tip => obtain ⟨a, h1, h2⟩ := h.tip_inv; exact ⟨a, [], h1, h2, .nil, rfl⟩
  | kn c bs => obtain ⟨a, xs, h1, h2, h3⟩ := h.kn_inv; exact ⟨a, _, h1, h2, by rw [cut_to]; exact .cons (.str _) .nil, by rw [List.length_cons, h3.len]; rfl⟩
theorem sh_hd {t : T} (h : wf t = true) : Sh 1 (.tuple (hdL t)) := Sh.tuple fun d hd => by
  cases t with
  | tip => cases hd
  | kn c bs => rw [List.mem_singleton.mp hd]; exact Sh.str (wf_kn.mp h).1.2
theorem unlike_is (b o : T) : unlikeT b o = (!PyData.eqv (.tuple (hdL b)) (.tuple (hdL o)) || !decide (lenT b = lenT o)) := by
  cases b with
  | tip =>
    cases o with
    | tip => rfl
    | kn d es => simp [unlikeT, hdL, PyData.eqv, PyData.eqvAll]
  | kn c bs =>
    cases o with
    | tip => simp [unlikeT, hdL, PyData.eqv, PyData.eqvAll]
    | kn d es =>
      simp only [unlikeT, hdL, PyData.eqv, PyData.eqvAll, ltr_eq, lenT, Bool.and_true]
      by_cases h1 : c = d
      · simp [h1]
      · simp [h1]
theorem zip_get {α : Type} {f : T × T → α} {bs es : List T} {i : Nat} {d : α} (h : ((bs.zip es).map f)[i]? = some d) : ∃ p : T × T, (bs[i]? = some p.1 ∧ es[i]? = some p.2) ∧ d = f p := by
  rw [List.getElem?_map] at h
  cases e : (bs.zip es)[i]? with
  | none => rw [e] at h; cases h
  | some p =>
    rw [e] at h
    obtain ⟨h1, h2⟩ := List.getElem?_zip_eq_some.mp e
    exact ⟨p, ⟨h1, h2⟩, (Option.some.inj h).symm⟩
theorem TrL.app {H : Hp} {vs ws : List V} {bs es : List T} (h : TrL H vs bs) (t : TrL H ws es) : TrL H (vs ++ ws) (bs ++ es) := by
  show TpAll H (vs ++ ws) ((bs ++ es).map td)
  rw [List.map_append]
  exact TpAll.app h t
/-! what stands in lists of whole numbers, of truths -/
theorem TpAll.ints {H : Hp} : ∀ {acc : List V} {ns : List Int}, TpAll H acc (ns.map PyData.int) → acc = ns.map V.int
  | [], [], _ => rfl
  | _, [], h => by cases h; rfl
  | _, n :: ns, h => by
    cases h with
    | cons h t => cases h; rw [TpAll.ints t]; rfl
theorem TpAll.bools {H : Hp} : ∀ {acc : List V} {ns : List Bool}, TpAll H acc (ns.map PyData.bool) → acc = ns.map V.bl
  | [], [], _ => rfl
  | _, [], h => by cases h; rfl
  | _, n :: ns, h => by
    cases h with
    | cons h t => cases h; rw [TpAll.bools t]; rfl
theorem eqv_tip (t : T) : PyData.eqv (td t) (.tuple []) = decide (t = .tip) := by
  have := eqvT t .tip
  rw [td] at this
  rw [← this]
end Tw
set_option Elab.async false
set_option linter.all false
set_option maxRecDepth 100000
set_option maxHeartbeats 4000000
namespace Tw
open PySem PySem.Spec PyProof.Rows L2
/-! ### is_whole -/
def spWhole : Sp := fun vs H Q _ => ∃ (v lo hi : Int), vs = [.int v, .int lo, .int hi] ∧ Q (.bl (decide (lo ≤ v) && decide (v ≤ hi))) H
abbrev Nis_whole : List Str := ["value", "low", "high"]
theorem scis_whole : FnScope Nis_whole ["value", "low", "high"] (defScope (top 11)) := ⟨rfl, rfl, rfl, by decide +kernel, rfl, by decide +kernel, by decide +kernel⟩
theorem hiis_whole {K : PySem.W.Frag} {mg : Str → Option Value} (T : Txt K mg) : ∃ f fd, FunD K "is_whole" "is_whole" (defArgs (top 11)) (defBody (top 11)) (defScope (top 11)) [] [] f fd ∧ mg "is_whole" = some (.ref f) := T.df "is_whole" 11 (by decide)
section
variable {P : Program} {w : World} {K : PySem.W.Frag} {mg : Str → Option Value} {base : Heap}
theorem okis_whole (T : Txt K mg)  : Cal P w K mg base (0 + 1) "is_whole" (spWhole) := by
  refine cal_nox (hiis_whole T) scis_whole (fun _ _ _ _ _ _ us hl => match us, hl with | [_, _, _], _ => rfl) (fun vs H Q E h => ?_) (fun f cdv A outer s H vs Q E hr h => ?_)
  · obtain ⟨_, _, _, rfl, _⟩ := h; rfl
  refine ⟨_, (pss_one (ps_ret (pe_and (pe_callB call_isi (by rfl) (T.fr "isinstance" (by simp)) (by decide +kernel) (pa_cons (pv 0) (pa_cons (pe_gt (n := "int") (T.fr "int" (by simp)) rfl (by decide +kernel)) pa_nil))) (pe_and (pe_not (pe_callB call_isi (by rfl) (T.fr "isinstance" (by simp)) (by decide +kernel) (pa_cons (pv 0) (pa_cons (pe_gt (n := "bool") (T.fr "bool" (by simp)) rfl (by decide +kernel)) pa_nil)))) (pe_one (pe_chain op_le op_le (pv 1) (pv 0) (pv 2))))))), ?_⟩
  obtain ⟨v, lo, hi, rfl, q⟩ := h
  refine ⟨_, rfl, _, _, _, _, true, rfl, .ty "int", .base (.int v), kit_ty (by decide +kernel), true, rfl, it1 ?_⟩
  refine ⟨_, rfl, _, _, _, _, false, rfl, .ty "bool", .base (.int v), kit_ty (by decide +kernel), false, rfl, true, rfl, it1 ?_⟩
  refine ⟨_, rfl, _, rfl, _, _, rfl, rfl, _, rfl, itb (fun e => ?_) (fun e => ?_)⟩
  · rw [e, Bool.true_and] at q
    exact ⟨_, rfl, _, _, rfl, rfl, q⟩
  · rw [e, Bool.false_and] at q
    exact q
end

/-! ### is_tuple_of -/
/-- no tuple -/
def NT (H : Hp) (x : V) : Prop := x = .non ∨ ∃ a, x = .ref a ∧ H a = some (.lst [])
def spTupOf : Sp := fun vs H Q _ => ∃ (x : V) (lo hi : Int), vs = [x, .int lo, .int hi] ∧ ((∃ a xs, x = .ref a ∧ H a = some (.tup xs) ∧ Q (.bl (decide (lo ≤ (xs.length : Int)) && decide ((xs.length : Int) ≤ hi))) H) ∨ (NT H x ∧ Q (.bl false) H))
abbrev Nis_tuple_of : List Str := ["value", "low", "high"]
theorem scis_tuple_of : FnScope Nis_tuple_of ["value", "low", "high"] (defScope (top 12)) := ⟨rfl, rfl, rfl, by decide +kernel, rfl, by decide +kernel, by decide +kernel⟩
theorem hiis_tuple_of {K : PySem.W.Frag} {mg : Str → Option Value} (T : Txt K mg) : ∃ f fd, FunD K "is_tuple_of" "is_tuple_of" (defArgs (top 12)) (defBody (top 12)) (defScope (top 12)) [] [] f fd ∧ mg "is_tuple_of" = some (.ref f) := T.df "is_tuple_of" 12 (by decide)
section
variable {P : Program} {w : World} {K : PySem.W.Frag} {mg : Str → Option Value} {base : Heap}
theorem okis_tuple_of (T : Txt K mg)  : Cal P w K mg base (0 + 1) "is_tuple_of" (spTupOf) := by
  refine cal_nox (hiis_tuple_of T) scis_tuple_of (fun _ _ _ _ _ _ us hl => match us, hl with | [_, _, _], _ => rfl) (fun vs H Q E h => ?_) (fun f cdv A outer s H vs Q E hr h => ?_)
  · obtain ⟨_, _, _, rfl, _⟩ := h; rfl
  refine ⟨_, (pss_one (ps_ret (pe_and (pe_callB call_isi (by rfl) (T.fr "isinstance" (by simp)) (by decide +kernel) (pa_cons (pv 0) (pa_cons (pe_gt (n := "tuple") (T.fr "tuple" (by simp)) rfl (by decide +kernel)) pa_nil))) (pe_one (pe_chain op_le op_le (pv 1) (pe_callB call_len_seq (by rfl) (T.fr "len" (by simp)) (by decide +kernel) (pa_cons (pv 0) pa_nil)) (pv 2)))))), ?_⟩
  obtain ⟨x, lo, hi, rfl, q⟩ := h
  rcases q with ⟨a, xs, rfl, hx, q⟩ | ⟨hn, q⟩
  · refine ⟨_, rfl, _, _, _, _, true, rfl, .ty "tuple", .base (.tup hx), kit_ty (by decide +kernel), true, rfl, it1 ?_⟩
    refine ⟨_, rfl, _, rfl, a, xs, rfl, .inr (SqT.of hx), _, _, rfl, rfl, _, rfl, itb (fun e => ?_) (fun e => ?_)⟩
    · rw [e, Bool.true_and] at q
      exact ⟨_, rfl, _, _, rfl, rfl, q⟩
    · rw [e, Bool.false_and] at q
      exact q
  · rcases hn with rfl | ⟨a, rfl, hx⟩
    · exact ⟨_, rfl, _, _, _, _, false, rfl, .ty "tuple", .base .non, kit_ty (by decide +kernel), false, rfl, it0 q⟩
    · exact ⟨_, rfl, _, _, _, _, false, rfl, .ty "tuple", .base (.lst hx), kit_ty (by decide +kernel), false, rfl, it0 q⟩
end

/-! ### is_letter -/
def spLetter : Sp := fun vs H Q _ => ∃ (c : Nat), vs = [.str (ltr c)] ∧ 97 ≤ c ∧ c ≤ 122 ∧ Q (.bl true) H
theorem in_letters {c : Nat} (h1 : 97 ≤ c) (h2 : c ≤ 122) : decide (c ∈ ("abcdefghijklmnopqrstuvwxyz" : Str).cps.toList) = true := by
  have e : ("abcdefghijklmnopqrstuvwxyz" : Str).cps.toList = List.range' 97 26 := by decide +kernel
  rw [e]
  exact decide_eq_true (List.mem_range'_1.mpr ⟨h1, by omega⟩)
abbrev Nis_letter : List Str := ["value"]
theorem scis_letter : FnScope Nis_letter ["value"] (defScope (top 13)) := ⟨rfl, rfl, rfl, by decide +kernel, rfl, by decide +kernel, by decide +kernel⟩
theorem hiis_letter {K : PySem.W.Frag} {mg : Str → Option Value} (T : Txt K mg) : ∃ f fd, FunD K "is_letter" "is_letter" (defArgs (top 13)) (defBody (top 13)) (defScope (top 13)) [] [] f fd ∧ mg "is_letter" = some (.ref f) := T.df "is_letter" 13 (by decide)
section
variable {P : Program} {w : World} {K : PySem.W.Frag} {mg : Str → Option Value} {base : Heap}
theorem okis_letter (T : Txt K mg)  : Cal P w K mg base (0 + 1) "is_letter" (spLetter) := by
  refine cal_nox (hiis_letter T) scis_letter (fun _ _ _ _ _ _ us hl => match us, hl with | [_], _ => rfl) (fun vs H Q E h => ?_) (fun f cdv A outer s H vs Q E hr h => ?_)
  · obtain ⟨_, rfl, _⟩ := h; rfl
  refine ⟨_, (pss_one (ps_ret (pe_and (pe_callB call_isi (by rfl) (T.fr "isinstance" (by simp)) (by decide +kernel) (pa_cons (pv 0) (pa_cons (pe_gt (n := "str") (T.fr "str" (by simp)) rfl (by decide +kernel)) pa_nil))) (pe_and (pe_cmpR op_eq (pe_callB call_len (by rfl) (T.fr "len" (by simp)) (by decide +kernel) (pa_cons (pv 0) pa_nil)) pe_int (nomark _)) (pe_one (pe_cmpR op_in_sign (pv 0) (pe_gs T.gl rfl) (by rfl))))))), ?_⟩
  obtain ⟨c, rfl, h1, h2, q⟩ := h
  refine ⟨_, rfl, _, _, _, _, true, rfl, .ty "str", .base (.str _), kit_ty (by decide +kernel), true, rfl, it1 ?_⟩
  refine ⟨_, rfl, _, 1, rfl, ⟨sz_small (by show 1 ≤ _; decide), rfl⟩, rfl, true, rfl, it1 ?_⟩
  refine ⟨_, rfl, c, _, rfl, rfl, ?_⟩
  rw [in_letters h1 h2]
  exact q
end

/-! ### fits_part -/
/-- what is no bush, as far as the law asks it -/
def Bad (H : Hp) (x : V) : Prop := NT H x ∨ ∃ a, x = .ref a ∧ H a = some (.tup [.str (ltr 118)])
def spFitsPart : Sp := fun vs H Q _ => ∃ (x : V), vs = [x] ∧ ((∃ t, Tr H x t ∧ wf t = true ∧ Q (.bl true) H) ∨ (Bad H x ∧ Q (.bl false) H))
abbrev Nfits_part : List Str := ["value"]
theorem scfits_part : FnScope Nfits_part ["value"] (defScope (top 14)) := ⟨rfl, rfl, rfl, by decide +kernel, rfl, by decide +kernel, by decide +kernel⟩
theorem hifits_part {K : PySem.W.Frag} {mg : Str → Option Value} (T : Txt K mg) : ∃ f fd, FunD K "fits_part" "fits_part" (defArgs (top 14)) (defBody (top 14)) (defScope (top 14)) [] [] f fd ∧ mg "fits_part" = some (.ref f) := T.df "fits_part" 14 (by decide)
section
variable {P : Program} {w : World} {K : PySem.W.Frag} {mg : Str → Option Value} {base : Heap}
theorem okfits_part (T : Txt K mg) (cis_tuple_of : Cal P w K mg base 1 "is_tuple_of" spTupOf) (cis_letter : Cal P w K mg base 1 "is_letter" spLetter) : Cal P w K mg base (1 + 1) "fits_part" (spFitsPart) := by
  refine cal_nox (hifits_part T) scfits_part (fun _ _ _ _ _ _ us hl => match us, hl with | [_], _ => rfl) (fun vs H Q E h => ?_) (fun f cdv A outer s H vs Q E hr h => ?_)
  · obtain ⟨_, rfl, _⟩ := h; rfl
  refine ⟨_, (pss_one (ps_ret (pe_or (pe_cl cis_tuple_of hr (by omega) rfl (pa_cons (pv 0) (pa_cons pe_int (pa_cons pe_int pa_nil)))) (pe_one (pe_and (pe_cl cis_tuple_of hr (by omega) rfl (pa_cons (pv 0) (pa_cons pe_int (pa_cons (pe_op op_add (pe_gi (n := 6) (T.gi ("BRANCHES", 6) (by simp)) rfl) pe_int) pa_nil)))) (pe_one (pe_cl cis_letter hr (by omega) rfl (pa_cons (pe_ix ix_tup (pv 0) pe_int (fun _ _ => rfl)) pa_nil)))))))), ?_⟩
  obtain ⟨x, rfl, q⟩ := h
  rcases q with ⟨t, ht, hw, q⟩ | ⟨hb, q⟩
  · cases t with
    | tip =>
      obtain ⟨a, rfl, ha⟩ := ht.tip_inv
      exact ⟨_, rfl, _, 0, 0, rfl, .inl ⟨a, _, rfl, ha, true, rfl, it1 q⟩⟩
    | kn c bs =>
      obtain ⟨a, xs, rfl, ha, hx⟩ := ht.kn_inv
      obtain ⟨⟨c1, c2⟩, ⟨b1, b2⟩, _⟩ := wf_kn.mp hw
      have hl : xs.length = bs.length := hx.len
      have e1 : (decide ((0 : Int) ≤ ((V.str (ltr c) :: xs).length : Int)) && decide (((V.str (ltr c) :: xs).length : Int) ≤ 0)) = false := by
        rw [List.length_cons, decide_eq_false (p := ((xs.length + 1 : Nat) : Int) ≤ 0) (by omega), Bool.and_false]
      have e2 : (decide ((2 : Int) ≤ ((V.str (ltr c) :: xs).length : Int)) && decide (((V.str (ltr c) :: xs).length : Int) ≤ 6 + 1)) = true := by
        rw [List.length_cons, decide_eq_true (p := (2 : Int) ≤ ((xs.length + 1 : Nat) : Int)) (by omega), decide_eq_true (p := ((xs.length + 1 : Nat) : Int) ≤ 6 + 1) (by omega)]; rfl
      refine ⟨_, rfl, _, 0, 0, rfl, .inl ⟨a, _, rfl, ha, _, rfl, ?_⟩⟩
      rw [e1]
      refine it0 ⟨_, rfl, _, _, rfl, rfl, _, 2, 6 + 1, rfl, .inl ⟨a, _, rfl, ha, _, rfl, ?_⟩⟩
      rw [e2]
      exact it1 ⟨_, rfl, a, _, 0, _, rfl, rfl, SqT.of ha, atI_nat (j := 0) rfl, c, rfl, c1, c2, q⟩
  · rcases hb with hn | ⟨a, rfl, ha⟩
    · exact ⟨_, rfl, _, 0, 0, rfl, .inr ⟨hn, false, rfl, it0 ⟨_, rfl, _, _, rfl, rfl, _, 2, 6 + 1, rfl, .inr ⟨hn, false, rfl, it0 q⟩⟩⟩⟩
    · exact ⟨_, rfl, _, 0, 0, rfl, .inl ⟨a, _, rfl, ha, false, rfl, it0 ⟨_, rfl, _, _, rfl, rfl, _, 2, 6 + 1, rfl, .inl ⟨a, _, rfl, ha, false, rfl, it0 q⟩⟩⟩⟩
end

end Tw
set_option Elab.async false
set_option linter.all false
set_option maxRecDepth 100000
set_option maxHeartbeats 4000000
namespace Tw
open PySem PySem.Spec PyProof.Rows L2
/-! ### fits_bush -/
def spFitsBush : Sp := fun vs H Q _ => ∃ (x : V), vs = [x] ∧ ((∃ t, Tr H x t ∧ wf t = true ∧ size t ≤ 400 ∧ height t ≤ 40 ∧ ∀ H', Same H H' → Q (.bl true) H') ∨ (Bad H x ∧ ∀ H', Same H H' → Q (.bl false) H'))
def pdD (e : T × Nat) : PyData := .tuple [td e.1, .int (e.2 : Int)]
def sizes : List (T × Nat) → Nat
  | [] => 0
  | e :: r => size e.1 + sizes r
theorem sizes_app : ∀ a b : List (T × Nat), sizes (a ++ b) = sizes a + sizes b
  | [], b => by simp [sizes]
  | x :: r, b => by rw [List.cons_append, sizes, sizes, sizes_app r b]; omega
theorem sizes_len : ∀ L : List (T × Nat), L.length ≤ sizes L
  | [] => Nat.le_refl _
  | e :: r => by
    have h1 := size_pos e.1
    have h2 := sizes_len r
    rw [List.length_cons, sizes]; omega
theorem sizes_map (n : Nat) : ∀ bs : List T, sizes (bs.map fun b => (b, n)) = sizeL bs
  | [] => rfl
  | b :: r => by rw [List.map_cons, sizes, sizes_map n r, sizeL]
theorem sh_pd {e : T × Nat} (h : wf e.1 = true) (l : height e.1 ≤ 40) : Sh 42 (pdD e) := Sh.tuple fun d hd => by
  rcases List.mem_cons.mp hd with e1 | hd
  · rw [e1]; exact (sh_td h).mono (by omega)
  · rw [List.mem_singleton.mp hd]; exact Sh.int _
structure GoodL (H0 : Hp) (v : V) (m : Nat) (σ : L2.St) (H : Hp) : Prop where
  ex : ∃ (L : List (T × Nat)) (l : Addr) (xs : List V) (n : Nat) (p d : Option V), σ = [some v, some (.ref l), some (.int (n : Int)), p, d, none] ∧ H l = some (.lst xs) ∧ TpAll H xs (L.map pdD) ∧ (∀ e ∈ L, wf e.1 = true ∧ e.2 + height e.1 ≤ 40) ∧ n + sizes L ≤ 400 ∧ m = sizes L
  same : Same H0 H
structure BadL (H0 : Hp) (v : V) (σ : L2.St) (H : Hp) : Prop where
  ex : ∃ (l t : Addr), σ = [some v, some (.ref l), some (.int 0), none, none, none] ∧ H l = some (.lst [.ref t]) ∧ H t = some (.tup [v, .int 0]) ∧ Bad H v
  same : Same H0 H
theorem Bad.same {H H' : Hp} {v : V} (h : Bad H v) (s : Same H H') : Bad H' v := by
  rcases h with (h | ⟨a, h1, h2⟩) | ⟨a, h1, h2⟩
  · exact .inl (.inl h)
  · exact .inl (.inr ⟨a, h1, s _ _ h2⟩)
  · exact .inr ⟨a, h1, s _ _ h2⟩
theorem Bad.dp {K : PySem.W.Frag} {H : Hp} {v : V} (h : Bad H v) : ∃ d, Dp K H v d ∧ Sh 3 d := by
  rcases h with (rfl | ⟨a, rfl, h2⟩) | ⟨a, rfl, h2⟩
  · exact ⟨_, .non, Sh.none⟩
  · exact ⟨_, .lst (SqL.of h2) .nil, (Sh.list (n := 0) fun d hd => absurd hd (by simp)).mono (by decide)⟩
  · exact ⟨_, .tup (SqT.of h2) (.cons (.str _) .nil), (Sh.tuple (n := 0) fun d hd => by rw [List.mem_singleton.mp hd]; exact Sh.str (by decide)).mono (by decide)⟩
abbrev Nfits_bush : List Str := ["value", "line", "many", "part", "depth", "branch"]
theorem scfits_bush : FnScope Nfits_bush ["value"] (defScope (top 15)) := ⟨rfl, rfl, rfl, by decide +kernel, rfl, by decide +kernel, by decide +kernel⟩
theorem hifits_bush {K : PySem.W.Frag} {mg : Str → Option Value} (T : Txt K mg) : ∃ f fd, FunD K "fits_bush" "fits_bush" (defArgs (top 15)) (defBody (top 15)) (defScope (top 15)) [] [] f fd ∧ mg "fits_bush" = some (.ref f) := T.df "fits_bush" 15 (by decide)
section
variable {P : Program} {w : World} {K : PySem.W.Frag} {mg : Str → Option Value} {base : Heap}
theorem okfits_bush (T : Txt K mg) (cfits_part : Cal P w K mg base 2 "fits_part" spFitsPart) : Cal P w K mg base (2 + 1) "fits_bush" (spFitsBush) := by
  refine cal_nox (hifits_bush T) scfits_bush (fun _ _ _ _ _ _ us hl => match us, hl with | [_], _ => rfl) (fun vs H Q E h => ?_) (fun f cdv A outer s H vs Q E hr h => ?_)
  · obtain ⟨_, rfl, _⟩ := h; rfl
  refine ⟨_, (pss_cons (ps_par (i := 1) (j := 2) (by rfl) scfits_bush.nd rfl rfl (by decide) rfl rfl (pa_cons (pe_lst (pa_cons (pe_tup (pa_cons (pv 0) (pa_cons pe_int pa_nil))) pa_nil)) (pa_cons pe_int pa_nil)) (by rfl))
      (pss_cons (ps_while PassesOwn.never (pt_neL hr.units (pv 1)) (pss_cons (ps_asg (pe_tup (pa_cons (pe_ix ix_list (pv 1) pe_int (fun _ _ => rfl)) (pa_cons (pe_slice sl_list (pv 1) (po_some pe_int) po_none) (pa_cons (pe_op op_add (pv 2) pe_int) pa_nil)))) (pg_tup rfl (pgs_cons (pg_tup rfl (pgs_cons (pg_name (i := 3) scfits_bush.nd rfl (Or.inl rfl)) (pgs_cons (pg_name (i := 4) scfits_bush.nd rfl (Or.inr rfl)) pgs_nil))) (pgs_cons (pg_name (i := 1) scfits_bush.nd rfl (Or.inl rfl)) (pgs_cons (pg_name (i := 2) scfits_bush.nd rfl (Or.inl rfl)) pgs_nil)))))
      (pss_cons (ps_if (PW.pt (pw_or (pt_cmpR op_gt (pv 2) (pe_gi (n := 400) (T.gi ("PARTS", 400) (by simp)) rfl) (nomark _)) (pw_or (pt_cmpR op_gt (pv 4) (pe_gi (n := 60) (T.gi ("DEEPEST", 60) (by simp)) rfl) (nomark _)) (pw_or1 (pt_not (pt_val (pe_cl cfits_part hr (by omega) rfl (pa_cons (pv 3) pa_nil)))))))) (pss_one (ps_ret pe_bl)) pss_nil)
      (pss_one (ps_set (i := 1) scfits_bush.nd rfl (Or.inl rfl) (pe_op op_cat (pe_lc (own := [("branch", 5)]) rfl scfits_bush.nd (pi_tup (pe_slice sl_tupS (pv 3) (po_some pe_int) po_none)) (blkOk_by (own := [("branch", 5)]) (N := Nfits_bush) (sc := defScope (top 15)) (by decide +kernel)) (fun _ _ _ _ _ => (pg_name (i := 5) scfits_bush.nd rfl (Or.inl rfl))) (fun _ _ _ _ _ => pts_nil) (fun _ _ _ _ _ => (pe_tup (pa_cons (pv 5) (pa_cons (pe_op op_add (pv 4) pe_int) pa_nil))))) (pv 1)))))))
      (pss_one (ps_ret pe_bl)))), ?_⟩
  obtain ⟨x, rfl, q⟩ := h
  refine ⟨_, rfl, sz rfl, fun t ht => ⟨sz rfl, fun l hl => ⟨_, _, rfl, ?_⟩⟩⟩
  have s0 : Same H (upd (upd H t (.tup [x, .int 0])) l (.lst [.ref t])) := Same.trans (same_new ht _) (same_new hl _)
  have hl1 : upd (upd H t (.tup [x, .int 0])) l (.lst [.ref t]) l = some (.lst [.ref t]) := upd_same
  have ht1 : upd (upd H t (.tup [x, .int 0])) l (.lst [.ref t]) t = some (.tup [x, .int 0]) := same_new hl _ _ _ upd_same
  refine ⟨fun m σ H' => (GoodL H x m σ H' ∧ ∀ H', Same H H' → Q (.bl true) H') ∨ (m = 1 ∧ BadL H x σ H' ∧ ∀ H', Same H H' → Q (.bl false) H'), ?_, ?_⟩
  · rcases q with ⟨b, hb, hw, hs, hh, q⟩ | ⟨hb, q⟩
    · refine ⟨sizes [(b, 0)], .inl ⟨⟨⟨[(b, 0)], l, [.ref t], 0, none, none, rfl, hl1, .cons (.tup ht1 (.cons (hb.same s0) (.cons (.int 0) .nil))) .nil, fun e he => ?_, ?_, rfl⟩, s0⟩, q⟩⟩
      · rw [List.mem_singleton.mp he]; exact ⟨hw, by show 0 + height b ≤ 40; omega⟩
      · simp only [sizes]; omega
    · exact ⟨1, .inr ⟨rfl, ⟨⟨l, t, rfl, hl1, ht1, hb.same s0⟩, s0⟩, q⟩⟩
  clear q hl1 ht1 s0 hl ht
  rintro m σ H1 (⟨⟨⟨L, l1, xs, n, p, d, rfl, hl1, hx, hL, hn, rfl⟩, s1⟩, q⟩ | ⟨rfl, ⟨⟨l1, t1, rfl, hl1, ht1, hb⟩, s1⟩, q⟩)
  · refine ⟨_, rfl, l1, xs, _, rfl, hl1, hx.dp, fun d hd => ?_, fun H2 s2 => itb (fun e => ?_) (fun e => ?_)⟩
    · obtain ⟨e, he, rfl⟩ := List.mem_map.mp hd
      obtain ⟨h1, h2⟩ := hL e he
      exact (sh_pd h1 (by omega)).mono (by decide)
    · cases L with
      | nil => cases hx; cases e
      | cons e0 L =>
        obtain ⟨b, dep⟩ := e0
        cases hx with
        | @cons v0 xs0 _ _ h0 hx =>
        obtain ⟨hw, hh⟩ := hL (b, dep) List.mem_cons_self
        have hh : dep + height b ≤ 40 := hh
        have sp := size_pos b
        have hn : n + (size b + sizes L) ≤ 400 := hn
        refine ⟨fun σ' H' => GoodL H x (sizeL (kidsOf b) + sizes L) σ' H', fun σ' H' g => ⟨_, ?_, .inl ⟨g, q⟩⟩, ?_⟩
        · show _ < size b + sizes L
          cases b with
          | tip => simp only [kidsOf, sizeL, size]; omega
          | kn c bs => simp only [kidsOf, size]; omega
        have hl2 := s2 _ _ hl1
        have h0' := h0.same s2
        have hx' := hx.same s2
        cases h0' with
        | @tup e1 ys _ he1 hys =>
        cases hys with
        | @cons bv _ _ _ hb hys =>
        cases hys with
        | cons hd hys =>
        cases hys
        cases hd
        refine ⟨_, rfl, l1, _, 0, _, rfl, rfl, SqL.of hl2, atI_nat (j := 0) rfl, ?_⟩
        refine ⟨_, rfl, _, rfl, l1, _, rfl, SqL.of hl2, fun l2 hl2n => ?_⟩
        rw [cut_from]
        have s3 : Same H2 (upd H2 l2 (.lst xs0)) := same_new hl2n _
        refine ⟨_, rfl, _, _, rfl, rfl, sz rfl, fun tt htt => ?_⟩
        have s4 : Same (upd H2 l2 (.lst xs0)) (upd (upd H2 l2 (.lst xs0)) tt (.tup [.ref e1, .ref l2, .int ((n : Int) + 1)])) := same_new htt _
        refine ⟨tt, _, rfl, SqT.of upd_same, rfl, _, _, rfl, ⟨e1, [bv, .int (dep : Int)], rfl, SqT.of (s4 _ _ (s3 _ _ he1)), rfl, _, _, rfl, _, _, rfl, rfl, _, _, rfl, _, _, rfl, rfl, ?_⟩⟩
        have sA := s3.trans s4
        have hl3 : upd (upd H2 l2 (.lst xs0)) tt (.tup [.ref e1, .ref l2, .int ((n : Int) + 1)]) l2 = some (.lst xs0) := s4 _ _ upd_same
        generalize upd (upd H2 l2 (.lst xs0)) tt (.tup [.ref e1, .ref l2, .int ((n : Int) + 1)]) = H3 at sA hl3
        clear s4 htt s3 hl2n
        have hb3 : Tr H3 bv b := hb.same sA
        have hx3 := hx'.same sA
        -- the tests
        refine ⟨_, rfl, _, _, rfl, rfl, _, rfl, ?_⟩
        rw [decide_eq_false (by omega)]
        refine it0 ⟨_, rfl, _, _, rfl, rfl, _, rfl, ?_⟩
        rw [decide_eq_false (by omega)]
        refine it0 ⟨_, rfl, _, rfl, .inl ⟨b, hb3, hw, true, rfl, it0 ?_⟩⟩
        -- the branches ahead of the rest
        obtain ⟨ba, bxs, rfl, hba, hk⟩ := hb3.kids
        refine ⟨_, rfl, _, rfl, ba, bxs, rfl, hba, fun p H4 s5 hp => ?_⟩
        have hk4 := hk.same s5
        refine ⟨p, rfl, ⟨_, SqT.of hp⟩, fun D hD => ?_⟩
        refine lc_tupD (K := K) (j := 5) (ds := (kidsOf b).map fun b => pdD (b, dep + 1)) hp ?_ ?_ hD (fun i y d H5 Q' hy hd s k => ?_) (fun H5 acc s hacc hall => ?_)
        · rw [TpAll.len hk4, List.length_map, List.length_map]
        · refine sz_small ?_
          rw [List.length_map]
          cases b with
          | tip => exact Nat.zero_le _
          | kn c bs => have := (wf_kn.mp hw).2.1.2; exact Nat.le_trans this (by decide)
        · obtain ⟨b', hb', rfl⟩ := map_get hd
          obtain ⟨y', hy', ty⟩ := hk4.get (i := i) (d := td b') (by rw [List.getElem?_map, hb']; rfl)
          rw [hy] at hy'
          cases hy'
          exact ⟨_, rfl, _, rfl, _, _, rfl, rfl, sz rfl, fun q hq => k _ _ (same_new hq _) (Tp.tup upd_same (.cons ((ty.same s).same (same_new hq _)) (.cons (.int _) .nil)))⟩
        · have sB := s5.trans s
          refine ⟨_, rfl, D, l2, acc, _, rfl, rfl, hacc, sB _ _ hl3, ?_, fun r hr => ?_⟩
          · have e1 := hall.len
            have e2 := hx.len
            have e3 := sizes_len L
            have e4 : (kidsOf b).length ≤ 6 := by
              cases b with
              | tip => exact Nat.zero_le _
              | kn c bs => exact (wf_kn.mp hw).2.1.2
            rw [List.length_map] at e1 e2
            exact sz_small (by omega)
          · refine ⟨⟨(kidsOf b).map (fun b => (b, dep + 1)) ++ L, r, _, n + 1, _, _, rfl, upd_same, ?_, fun e he => ?_, ?_, ?_⟩, ?_⟩
            · rw [List.map_append, List.map_map]
              exact (TpAll.app hall (hx3.same sB)).same (same_new hr _)
            · rcases List.mem_append.mp he with he | he
              · obtain ⟨b', hb', rfl⟩ := List.mem_map.mp he
                cases b with
                | tip => cases hb'
                | kn c bs =>
                  have h1 : height b' ≤ heightL bs := height_mem hb'
                  refine ⟨(wf_kn.mp hw).2.2 b' hb', ?_⟩
                  rw [height] at hh
                  show dep + 1 + height b' ≤ 40
                  omega
              · exact hL e (List.mem_cons_of_mem _ he)
            · rw [sizes_app, sizes_map]
              cases b with
              | tip => simp only [kidsOf, sizeL, size] at * <;> omega
              | kn c bs => simp only [kidsOf, size] at * <;> omega
            · rw [sizes_app, sizes_map]
            · exact ((s1.trans s2).trans sA).trans (sB.trans (same_new hr _))
    · cases L with
      | cons e0 L => cases hx; cases e
      | nil => exact q _ (s1.trans s2)
  · obtain ⟨d0, hd0, hs0⟩ := hb.dp (K := K)
    refine ⟨_, rfl, l1, _, _, rfl, hl1, .cons (.tup (SqT.of ht1) (.cons hd0 (.cons (.int 0) .nil))) .nil, fun d hd => ?_, fun H2 s2 => itb (fun e => ?_) (fun e => ?_)⟩
    · rw [List.mem_singleton.mp hd]
      refine (Sh.tuple (n := 3) fun d hd => ?_).mono (by decide)
      rcases List.mem_cons.mp hd with e | hd
      · rw [e]; exact hs0
      · rw [List.mem_singleton.mp hd]; exact Sh.int _
    · refine ⟨fun _ _ => False, fun _ _ z => z.elim, ?_⟩
      have hl2 := s2 _ _ hl1
      refine ⟨_, rfl, l1, _, 0, _, rfl, rfl, SqL.of hl2, atI_nat (j := 0) rfl, ?_⟩
      refine ⟨_, rfl, _, rfl, l1, _, rfl, SqL.of hl2, fun l2 hl2n => ?_⟩
      have s3 : Same H2 (upd H2 l2 (.lst (cutV [.ref t1] (some 1) none))) := same_new hl2n _
      refine ⟨_, rfl, _, _, rfl, rfl, sz rfl, fun tt htt => ?_⟩
      have s4 := s3.trans (same_new htt (.tup [.ref t1, .ref l2, .int ((0 : Int) + 1)]))
      refine ⟨tt, _, rfl, SqT.of upd_same, rfl, _, _, rfl, ⟨t1, [x, .int 0], rfl, SqT.of (s4 _ _ (s2 _ _ ht1)), rfl, _, _, rfl, _, _, rfl, rfl, _, _, rfl, _, _, rfl, rfl, ?_⟩⟩
      refine ⟨_, rfl, _, _, rfl, rfl, _, rfl, it0 ⟨_, rfl, _, _, rfl, rfl, _, rfl, it0 ⟨_, rfl, _, rfl, .inr ⟨hb.same (s2.trans s4), false, rfl, it1 ?_⟩⟩⟩⟩
      exact q _ ((s1.trans s2).trans s4)
    · cases e
end

/-! ### need_bush -/
def spNeedBush (K : PySem.W.Frag) : Sp := fun vs H Q E => ∃ (x : V), vs = [x] ∧ ((∃ t, Good H x t ∧ ∀ H', Same H H' → Q .non H') ∨ (Bad H x ∧ ∀ H', Same H H' → E (.ref (cB K)) none H'))
theorem Good.size {H : Hp} {v : V} {t : T} (g : Good H v t) : size t ≤ 400 ∧ height t ≤ 40 := by
  have h1 := size_le g.ok.wf
  have h2 := height_le_knots t
  have h3 := g.ok.few
  omega
abbrev Nneed_bush : List Str := ["value"]
theorem scneed_bush : FnScope Nneed_bush ["value"] (defScope (top 16)) := ⟨rfl, rfl, rfl, by decide +kernel, rfl, by decide +kernel, by decide +kernel⟩
theorem hineed_bush {K : PySem.W.Frag} {mg : Str → Option Value} (T : Txt K mg) : ∃ f fd, FunD K "need_bush" "need_bush" (defArgs (top 16)) (defBody (top 16)) (defScope (top 16)) [] [] f fd ∧ mg "need_bush" = some (.ref f) := T.df "need_bush" 16 (by decide)
section
variable {P : Program} {w : World} {K : PySem.W.Frag} {mg : Str → Option Value} {base : Heap}
theorem okneed_bush (T : Txt K mg) (B : TxtB K mg) (cfits_bush : Cal P w K mg base 3 "fits_bush" spFitsBush) : Cal P w K mg base (3 + 1) "need_bush" (spNeedBush K) := by
  refine cal_of (hineed_bush T) scneed_bush (fun _ _ _ _ _ _ us hl => match us, hl with | [_], _ => rfl) (fun vs H Q E h => ?_) (fun f cdv A outer s H vs Q E hr h => ?_)
  · obtain ⟨_, rfl, _⟩ := h; rfl
  refine ⟨_, (pss_one (ps_if (pt_not (pt_val (pe_cl cfits_bush hr (by omega) rfl (pa_cons (pv 0) pa_nil)))) (pss_one (ps_raise rfl (takes_of rfl rfl rfl rfl) (pmk_own PySem.F.excBase_ValueError B.x B.g B.k (raises_own B.b B.t) rfl))) pss_nil)), ?_⟩
  obtain ⟨x, rfl, q⟩ := h
  rcases q with ⟨t, g, q⟩ | ⟨hb, q⟩
  · exact ⟨_, rfl, _, rfl, .inl ⟨t, g.tr, g.ok.wf, g.size.1, g.size.2, fun H' s => ⟨true, rfl, it0 (q H' s)⟩⟩⟩
  · exact ⟨_, rfl, _, rfl, .inr ⟨hb, fun H' s => ⟨false, rfl, it1 (q H' s)⟩⟩⟩
end

/-! ### need_both -/
/-- two bushes, or not -/
def Two (K : PySem.W.Frag) (x y : V) (H : Hp) (E : XK) (G : T → T → Prop) : Prop := (∃ b o, Good H x b ∧ Good H y o ∧ G b o) ∨ ((Bad H x ∨ ((∃ b, Good H x b) ∧ Bad H y)) ∧ ∀ H', Same H H' → E (.ref (cB K)) none H')
def spNeedBoth (K : PySem.W.Frag) : Sp := fun vs H Q E => ∃ (x y : V), vs = [x, y] ∧ Two K x y H E fun b o => ∀ H', Same H H' → Q .non H'
abbrev Nneed_both : List Str := ["bush", "other"]
theorem scneed_both : FnScope Nneed_both ["bush", "other"] (defScope (top 37)) := ⟨rfl, rfl, rfl, by decide +kernel, rfl, by decide +kernel, by decide +kernel⟩
theorem hineed_both {K : PySem.W.Frag} {mg : Str → Option Value} (T : Txt K mg) : ∃ f fd, FunD K "need_both" "need_both" (defArgs (top 37)) (defBody (top 37)) (defScope (top 37)) [] [] f fd ∧ mg "need_both" = some (.ref f) := T.df "need_both" 37 (by decide)
section
variable {P : Program} {w : World} {K : PySem.W.Frag} {mg : Str → Option Value} {base : Heap}
theorem okneed_both (T : Txt K mg) (cneed_bush : Cal P w K mg base 4 "need_bush" (spNeedBush K)) : Cal P w K mg base (4 + 1) "need_both" (spNeedBoth K) := by
  refine cal_of (hineed_both T) scneed_both (fun _ _ _ _ _ _ us hl => match us, hl with | [_, _], _ => rfl) (fun vs H Q E h => ?_) (fun f cdv A outer s H vs Q E hr h => ?_)
  · obtain ⟨_, _, rfl, _⟩ := h; rfl
  refine ⟨_, (pss_cons (ps_expr (pe_clX cneed_bush hr (by omega) (passes_call (takes_of rfl rfl rfl rfl) (fun _ _ _ _ h => h)) rfl (pa_cons (pv 0) pa_nil)))
      (pss_one (ps_expr (pe_clX cneed_bush hr (by omega) (passes_call (takes_of rfl rfl rfl rfl) (fun _ _ _ _ h => h)) rfl (pa_cons (pv 1) pa_nil))))), ?_⟩
  obtain ⟨x, y, rfl, q⟩ := h
  rcases q with ⟨b, o, gb, go, q⟩ | ⟨hb | ⟨⟨b, gb⟩, hb⟩, q⟩
  · exact ⟨_, rfl, _, rfl, .inl ⟨b, gb, fun H' s => ⟨_, rfl, _, rfl, .inl ⟨o, go.same s, fun H2 s2 => q _ (s.trans s2)⟩⟩⟩⟩
  · exact ⟨_, rfl, _, rfl, .inr ⟨hb, q⟩⟩
  · exact ⟨_, rfl, _, rfl, .inl ⟨b, gb, fun H' s => ⟨_, rfl, _, rfl, .inr ⟨hb.same s, fun H2 s2 => q _ (s.trans s2)⟩⟩⟩⟩
end

end Tw
set_option Elab.async false
set_option linter.all false
set_option maxRecDepth 100000
set_option maxHeartbeats 4000000
namespace Tw
open PySem PySem.Spec PyProof.Rows L2
/-! ### knots_in -/
theorem sum_cast (f : T → Nat) : ∀ bs : List T, (bs.map fun b => ((f b : Nat) : Int)).sum = (((bs.map f).sum : Nat) : Int)
  | [] => rfl
  | b :: r => by rw [List.map_cons, List.sum_cons, sum_cast f r, List.map_cons, List.sum_cons]; omega
def spKnots (k : Nat) : Sp := fun vs H Q _ => ∃ (x : V) (t : T), vs = [x] ∧ Good H x t ∧ knots t < k ∧ ∀ H', Same H H' → Q (.int (knots t : Nat)) H'
abbrev Nknots_in : List Str := ["bush", "branch"]
theorem scknots_in : FnScope Nknots_in ["bush"] (defScope (top 17)) := ⟨rfl, rfl, rfl, by decide +kernel, rfl, by decide +kernel, by decide +kernel⟩
theorem hiknots_in {K : PySem.W.Frag} {mg : Str → Option Value} (T : Txt K mg) : ∃ f fd, FunD K "knots_in" "knots_in" (defArgs (top 17)) (defBody (top 17)) (defScope (top 17)) [] [] f fd ∧ mg "knots_in" = some (.ref f) := T.df "knots_in" 17 (by decide)
section
variable {P : Program} {w : World} {K : PySem.W.Frag} {mg : Str → Option Value} {base : Heap}
theorem okknots_in (T : Txt K mg) {j : Nat} (cknots_in : Cal P w K mg base j "knots_in" (spKnots j)) : Cal P w K mg base (j + 1) "knots_in" (spKnots (j + 1)) := by
  refine cal_nox (hiknots_in T) scknots_in (fun _ _ _ _ _ _ us hl => match us, hl with | [_], _ => rfl) (fun vs H Q E h => ?_) (fun f cdv A outer s H vs Q E hr h => ?_)
  · obtain ⟨_, _, rfl, _⟩ := h; rfl
  refine ⟨_, (pss_one (ps_ret (pe_ifExp (pt_eq0 hr.units (pv 0)) pe_int (pe_op op_add pe_int (pe_callB (cr_sum rfl) (by rfl) (T.fr "sum" (by simp)) (by decide +kernel) (pa_cons (pe_lc (own := [("branch", 1)]) rfl scknots_in.nd (pi_tup (pe_slice sl_tupS (pv 0) (po_some pe_int) po_none)) (blkOk_by (own := [("branch", 1)]) (N := Nknots_in) (sc := defScope (top 17)) (by decide +kernel)) (fun _ _ _ _ _ => (pg_name (i := 1) scknots_in.nd rfl (Or.inl rfl))) (fun _ _ _ _ _ => pts_nil) (fun _ _ _ _ _ => (pe_cl cknots_in hr (by omega) rfl (pa_cons (pv 1) pa_nil)))) pa_nil)))))), ?_⟩
  obtain ⟨x, t, rfl, g, hk, q⟩ := h
  refine ⟨_, rfl, td t, g.tr, g.sh (by decide), fun H1 s1 => ?_⟩
  rw [eqv_tip]
  cases t with
  | tip => exact it1 (q H1 s1)
  | kn c bs =>
    have g1 := g.same s1
    obtain ⟨a, xs, rfl, ha, hx⟩ := g1.tr.kids
    refine it0 ?_
    refine ⟨_, rfl, _, rfl, a, xs, rfl, ha, fun p H2 s2 hp => ?_⟩
    have hx2 : TrL H2 (cutV xs (some 1) none) bs := hx.same s2
    refine ⟨p, rfl, ⟨_, SqT.of hp⟩, fun D hD => ?_⟩
    refine lc_tupD (K := K) (j := 1) (ds := bs.map fun b => .int (knots b : Nat)) hp (by rw [hx2.len, List.length_map]) (sz_small (by rw [List.length_map]; exact Nat.le_trans g.ok.len (by decide))) hD (fun i y d H3 Q' hy hd s k => ?_) (fun H3 acc s hacc hall => ?_)
    · obtain ⟨b, hb, rfl⟩ := map_get hd
      have hm := List.mem_of_getElem? hb
      exact ⟨_, rfl, _, b, rfl, ⟨(TrL.at hx2 hy hb).same s, g.ok.kid hm⟩, Okb.lt (n := 0) hk hm, fun H4 s4 => k _ _ s4 (.int _)⟩
    · have e : acc = (bs.map fun b => ((knots b : Nat) : Int)).map V.int := TpAll.ints (by rw [List.map_map]; exact hall)
      subst e
      refine ⟨D, _, rfl, SqL.of hacc, _, _, rfl, rfl, ?_⟩
      have e2 : (1 : Int) + (bs.map fun b => ((knots b : Nat) : Int)).sum = ((knots (.kn c bs) : Nat) : Int) := by
        rw [knots, knotsL_eq, sum_cast]; omega
      show Q (.int ((1 : Int) + (bs.map fun b => ((knots b : Nat) : Int)).sum)) _
      rw [e2]
      exact q _ ((s1.trans s2).trans s)
end

/-! ### tips_in -/
def spTips (k : Nat) : Sp := fun vs H Q _ => ∃ (x : V) (t : T), vs = [x] ∧ Good H x t ∧ knots t < k ∧ ∀ H', Same H H' → Q (.int (tips t : Nat)) H'
abbrev Ntips_in : List Str := ["bush", "branch"]
theorem sctips_in : FnScope Ntips_in ["bush"] (defScope (top 18)) := ⟨rfl, rfl, rfl, by decide +kernel, rfl, by decide +kernel, by decide +kernel⟩
theorem hitips_in {K : PySem.W.Frag} {mg : Str → Option Value} (T : Txt K mg) : ∃ f fd, FunD K "tips_in" "tips_in" (defArgs (top 18)) (defBody (top 18)) (defScope (top 18)) [] [] f fd ∧ mg "tips_in" = some (.ref f) := T.df "tips_in" 18 (by decide)
section
variable {P : Program} {w : World} {K : PySem.W.Frag} {mg : Str → Option Value} {base : Heap}
theorem oktips_in (T : Txt K mg) {j : Nat} (ctips_in : Cal P w K mg base j "tips_in" (spTips j)) : Cal P w K mg base (j + 1) "tips_in" (spTips (j + 1)) := by
  refine cal_nox (hitips_in T) sctips_in (fun _ _ _ _ _ _ us hl => match us, hl with | [_], _ => rfl) (fun vs H Q E h => ?_) (fun f cdv A outer s H vs Q E hr h => ?_)
  · obtain ⟨_, _, rfl, _⟩ := h; rfl
  refine ⟨_, (pss_one (ps_ret (pe_ifExp (pt_eq0 hr.units (pv 0)) pe_int (pe_callB (cr_sum rfl) (by rfl) (T.fr "sum" (by simp)) (by decide +kernel) (pa_cons (pe_lc (own := [("branch", 1)]) rfl sctips_in.nd (pi_tup (pe_slice sl_tupS (pv 0) (po_some pe_int) po_none)) (blkOk_by (own := [("branch", 1)]) (N := Ntips_in) (sc := defScope (top 18)) (by decide +kernel)) (fun _ _ _ _ _ => (pg_name (i := 1) sctips_in.nd rfl (Or.inl rfl))) (fun _ _ _ _ _ => pts_nil) (fun _ _ _ _ _ => (pe_cl ctips_in hr (by omega) rfl (pa_cons (pv 1) pa_nil)))) pa_nil))))), ?_⟩
  obtain ⟨x, t, rfl, g, hk, q⟩ := h
  refine ⟨_, rfl, td t, g.tr, g.sh (by decide), fun H1 s1 => ?_⟩
  rw [eqv_tip]
  cases t with
  | tip => exact it1 (q H1 s1)
  | kn c bs =>
    have g1 := g.same s1
    obtain ⟨a, xs, rfl, ha, hx⟩ := g1.tr.kids
    refine it0 ?_
    refine ⟨_, rfl, _, rfl, a, xs, rfl, ha, fun p H2 s2 hp => ?_⟩
    have hx2 : TrL H2 (cutV xs (some 1) none) bs := hx.same s2
    refine ⟨p, rfl, ⟨_, SqT.of hp⟩, fun D hD => ?_⟩
    refine lc_tupD (K := K) (j := 1) (ds := bs.map fun b => .int (tips b : Nat)) hp (by rw [hx2.len, List.length_map]) (sz_small (by rw [List.length_map]; exact Nat.le_trans g.ok.len (by decide))) hD (fun i y d H3 Q' hy hd s k => ?_) (fun H3 acc s hacc hall => ?_)
    · obtain ⟨b, hb, rfl⟩ := map_get hd
      have hm := List.mem_of_getElem? hb
      exact ⟨_, rfl, _, b, rfl, ⟨(TrL.at hx2 hy hb).same s, g.ok.kid hm⟩, Okb.lt (n := 0) hk hm, fun H4 s4 => k _ _ s4 (.int _)⟩
    · have e : acc = (bs.map fun b => ((tips b : Nat) : Int)).map V.int := TpAll.ints (by rw [List.map_map]; exact hall)
      subst e
      refine ⟨D, _, rfl, SqL.of hacc, ?_⟩
      have e2 : (bs.map fun b => ((tips b : Nat) : Int)).sum = ((tips (.kn c bs) : Nat) : Int) := by rw [tips, tipsL_eq, sum_cast]
      show Q (.int (bs.map fun b => ((tips b : Nat) : Int)).sum) _
      rw [e2]
      exact q _ ((s1.trans s2).trans s)
end

/-! ### height_in -/
theorem heightL_in : ∀ {bs : List T}, 1 ≤ bs.length → ∃ b ∈ bs, height b = heightL bs
  | [b], _ => ⟨b, List.mem_cons_self, by simp [heightL]⟩
  | b :: c :: r, _ => by
    obtain ⟨d, hd, e⟩ := heightL_in (bs := c :: r) (by simp)
    rw [heightL]
    rcases Nat.le_total (height b) (heightL (c :: r)) with h | h
    · exact ⟨d, List.mem_cons_of_mem _ hd, by rw [e]; omega⟩
    · exact ⟨b, List.mem_cons_self, by omega⟩
theorem max_cast {bs : List T} {m : Int} (hm : m ∈ bs.map fun b => ((height b : Nat) : Int)) (hmax : ∀ y, y ∈ (bs.map fun b => ((height b : Nat) : Int)) → y ≤ m) : m = (heightL bs : Nat) := by
  obtain ⟨b, hb, rfl⟩ := List.mem_map.mp hm
  obtain ⟨d, hd, e⟩ := heightL_in (bs := bs) (List.length_pos_of_mem hb)
  have h1 := height_mem hb
  have h2 := hmax _ (List.mem_map.mpr ⟨d, hd, rfl⟩)
  omega
def spHeight (k : Nat) : Sp := fun vs H Q _ => ∃ (x : V) (t : T), vs = [x] ∧ Good H x t ∧ knots t < k ∧ ∀ H', Same H H' → Q (.int (height t : Nat)) H'
abbrev Nheight_in : List Str := ["bush", "branch"]
theorem scheight_in : FnScope Nheight_in ["bush"] (defScope (top 19)) := ⟨rfl, rfl, rfl, by decide +kernel, rfl, by decide +kernel, by decide +kernel⟩
theorem hiheight_in {K : PySem.W.Frag} {mg : Str → Option Value} (T : Txt K mg) : ∃ f fd, FunD K "height_in" "height_in" (defArgs (top 19)) (defBody (top 19)) (defScope (top 19)) [] [] f fd ∧ mg "height_in" = some (.ref f) := T.df "height_in" 19 (by decide)
section
variable {P : Program} {w : World} {K : PySem.W.Frag} {mg : Str → Option Value} {base : Heap}
theorem okheight_in (T : Txt K mg) {j : Nat} (cheight_in : Cal P w K mg base j "height_in" (spHeight j)) : Cal P w K mg base (j + 1) "height_in" (spHeight (j + 1)) := by
  refine cal_nox (hiheight_in T) scheight_in (fun _ _ _ _ _ _ us hl => match us, hl with | [_], _ => rfl) (fun vs H Q E h => ?_) (fun f cdv A outer s H vs Q E hr h => ?_)
  · obtain ⟨_, _, rfl, _⟩ := h; rfl
  refine ⟨_, (pss_one (ps_ret (pe_ifExp (pt_eq0 hr.units (pv 0)) pe_int (pe_op op_add pe_int (pe_callB (cr_max rfl) (by rfl) (T.fr "max" (by simp)) (by decide +kernel) (pa_cons (pe_lc (own := [("branch", 1)]) rfl scheight_in.nd (pi_tup (pe_slice sl_tupS (pv 0) (po_some pe_int) po_none)) (blkOk_by (own := [("branch", 1)]) (N := Nheight_in) (sc := defScope (top 19)) (by decide +kernel)) (fun _ _ _ _ _ => (pg_name (i := 1) scheight_in.nd rfl (Or.inl rfl))) (fun _ _ _ _ _ => pts_nil) (fun _ _ _ _ _ => (pe_cl cheight_in hr (by omega) rfl (pa_cons (pv 1) pa_nil)))) pa_nil)))))), ?_⟩
  obtain ⟨x, t, rfl, g, hk, q⟩ := h
  refine ⟨_, rfl, td t, g.tr, g.sh (by decide), fun H1 s1 => ?_⟩
  rw [eqv_tip]
  cases t with
  | tip => exact it1 (q H1 s1)
  | kn c bs =>
    have g1 := g.same s1
    obtain ⟨a, xs, rfl, ha, hx⟩ := g1.tr.kids
    refine it0 ?_
    refine ⟨_, rfl, _, rfl, a, xs, rfl, ha, fun p H2 s2 hp => ?_⟩
    have hx2 : TrL H2 (cutV xs (some 1) none) bs := hx.same s2
    refine ⟨p, rfl, ⟨_, SqT.of hp⟩, fun D hD => ?_⟩
    refine lc_tupD (K := K) (j := 1) (ds := bs.map fun b => .int (height b : Nat)) hp (by rw [hx2.len, List.length_map]) (sz_small (by rw [List.length_map]; exact Nat.le_trans g.ok.len (by decide))) hD (fun i y d H3 Q' hy hd s k => ?_) (fun H3 acc s hacc hall => ?_)
    · obtain ⟨b, hb, rfl⟩ := map_get hd
      have hm := List.mem_of_getElem? hb
      exact ⟨_, rfl, _, b, rfl, ⟨(TrL.at hx2 hy hb).same s, g.ok.kid hm⟩, Okb.lt (n := 0) hk hm, fun H4 s4 => k _ _ s4 (.int _)⟩
    · have e : acc = (bs.map fun b => ((height b : Nat) : Int)).map V.int := TpAll.ints (by rw [List.map_map]; exact hall)
      subst e
      refine ⟨D, _, rfl, SqL.of hacc, ?_, fun m hm hmax => ⟨_, _, rfl, rfl, ?_⟩⟩
      · rw [List.length_map]; exact g.ok.pos
      have e2 : (1 : Int) + m = ((height (.kn c bs) : Nat) : Int) := by
        rw [height, max_cast hm hmax]; omega
      show Q (.int ((1 : Int) + m)) _
      rw [e2]
      exact q _ ((s1.trans s2).trans s)
end

end Tw
set_option Elab.async false
set_option linter.all false
set_option maxRecDepth 100000
set_option maxHeartbeats 4000000
namespace Tw
open PySem PySem.Spec PyProof.Rows L2
/-! ### are_unlike -/
def spUnlike : Sp := fun vs H Q _ => ∃ (x y : V) (b o : T), vs = [x, y] ∧ Tr H x b ∧ Tr H y o ∧ wf b = true ∧ wf o = true ∧ ∀ H', Same H H' → Q (.bl (unlikeT b o)) H'
abbrev Nare_unlike : List Str := ["part", "other"]
theorem scare_unlike : FnScope Nare_unlike ["part", "other"] (defScope (top 29)) := ⟨rfl, rfl, rfl, by decide +kernel, rfl, by decide +kernel, by decide +kernel⟩
theorem hiare_unlike {K : PySem.W.Frag} {mg : Str → Option Value} (T : Txt K mg) : ∃ f fd, FunD K "are_unlike" "are_unlike" (defArgs (top 29)) (defBody (top 29)) (defScope (top 29)) [] [] f fd ∧ mg "are_unlike" = some (.ref f) := T.df "are_unlike" 29 (by decide)
section
variable {P : Program} {w : World} {K : PySem.W.Frag} {mg : Str → Option Value} {base : Heap}
theorem okare_unlike (T : Txt K mg)  : Cal P w K mg base (0 + 1) "are_unlike" (spUnlike) := by
  refine cal_nox (hiare_unlike T) scare_unlike (fun _ _ _ _ _ _ us hl => match us, hl with | [_, _], _ => rfl) (fun vs H Q E h => ?_) (fun f cdv A outer s H vs Q E hr h => ?_)
  · obtain ⟨_, _, _, _, rfl, _⟩ := h; rfl
  refine ⟨_, (pss_one (ps_ret (pe_or (pe_cmpR (op_neD hr.units) (pe_slice sl_tupS (pv 0) po_none (po_some pe_int)) (pe_slice sl_tupS (pv 1) po_none (po_some pe_int)) (nomark _)) (pe_one (pe_cmpR op_ne (pe_callB call_len_seq (by rfl) (T.fr "len" (by simp)) (by decide +kernel) (pa_cons (pv 0) pa_nil)) (pe_callB call_len_seq (by rfl) (T.fr "len" (by simp)) (by decide +kernel) (pa_cons (pv 1) pa_nil)) (nomark _)))))), ?_⟩
  obtain ⟨x, y, b, o, rfl, hb, ho, wb, wo, q⟩ := h
  obtain ⟨a1, xs, rfl, h1, t1, l1⟩ := hb.hd
  obtain ⟨a2, ys, rfl, h2, t2, l2⟩ := ho.hd
  rw [unlike_is] at q
  refine ⟨_, rfl, _, rfl, a1, xs, rfl, h1, fun p1 H1 s1 e1 => ?_⟩
  refine ⟨_, rfl, _, rfl, a2, ys, rfl, s1 _ _ h2, fun p2 H2 s2 e2 => ?_⟩
  refine ⟨.tuple (hdL b), .tuple (hdL o), (Tp.tup (s2 _ _ e1) ((t1.same s1).same s2)).dp, (Tp.tup e2 ((t2.same s1).same s2)).dp, (sh_hd wb).ok (by decide), (sh_hd wo).ok (by decide), _, rfl, itb (fun e => ?_) (fun e => ?_)⟩
  · rw [e, Bool.true_or] at q
    exact q _ (s1.trans s2)
  · rw [e, Bool.false_or] at q
    refine ⟨_, rfl, a1, xs, rfl, .inr (SqT.of (s2 _ _ (s1 _ _ h1))), _, rfl, a2, ys, rfl, .inr (SqT.of (s2 _ _ (s1 _ _ h2))), rfl, ?_⟩
    have e3 : (!decide (V.int (xs.length : Int) = V.int (ys.length : Int))) = !decide (lenT b = lenT o) := by
      rw [l1, l2, dec_int]
      by_cases h : lenT b = lenT o
      · simp [h]
      · rw [decide_eq_false h, beq_eq_false_iff_ne.mpr (by omega)]
    show Q (.bl (!decide (V.int (xs.length : Int) = V.int (ys.length : Int)))) _
    rw [e3]
    exact q _ (s1.trans s2)
end

/-! ### is_top_of -/
def spTopOf (k : Nat) : Sp := fun vs H Q _ => ∃ (x y : V) (b o : T), vs = [x, y] ∧ Good H x b ∧ Good H y o ∧ knots b < k ∧ ∀ H', Same H H' → Q (.bl (isTop b o)) H'
theorem alike_of {c d : Nat} {bs es : List T} (h : unlikeT (.kn c bs) (.kn d es) = false) : c = d ∧ bs.length = es.length := by
  rw [unlikeT] at h
  cases z : decide (c = d ∧ bs.length = es.length) with
  | true => exact of_decide_eq_true z
  | false => rw [z] at h; cases h
theorem isTop_unlike {c : Nat} {bs : List T} {o : T} (h : unlikeT (.kn c bs) o = true) : isTop (.kn c bs) o = false := by
  cases o with
  | tip => rfl
  | kn d es =>
    cases z : isTop (.kn c bs) (.kn d es) with
    | false => rfl
    | true =>
      simp only [isTop, Bool.and_eq_true, decide_eq_true_eq] at z
      rw [unlikeT, decide_eq_true ⟨z.1, isTopL_len z.2⟩] at h
      cases h
abbrev Nis_top_of : List Str := ["bush", "other", "branch", "mate"]
theorem scis_top_of : FnScope Nis_top_of ["bush", "other"] (defScope (top 31)) := ⟨rfl, rfl, rfl, by decide +kernel, rfl, by decide +kernel, by decide +kernel⟩
theorem hiis_top_of {K : PySem.W.Frag} {mg : Str → Option Value} (T : Txt K mg) : ∃ f fd, FunD K "is_top_of" "is_top_of" (defArgs (top 31)) (defBody (top 31)) (defScope (top 31)) [] [] f fd ∧ mg "is_top_of" = some (.ref f) := T.df "is_top_of" 31 (by decide)
section
variable {P : Program} {w : World} {K : PySem.W.Frag} {mg : Str → Option Value} {base : Heap}
theorem okis_top_of (T : Txt K mg) {j L : Nat} (hj : 1 ≤ L) (care_unlike : Cal P w K mg base 1 "are_unlike" spUnlike) (cis_top_of : Cal P w K mg base L "is_top_of" (spTopOf j)) : Cal P w K mg base (L + 1) "is_top_of" (spTopOf (j + 1)) := by
  refine cal_nox (hiis_top_of T) scis_top_of (fun _ _ _ _ _ _ us hl => match us, hl with | [_, _], _ => rfl) (fun vs H Q E h => ?_) (fun f cdv A outer s H vs Q E hr h => ?_)
  · obtain ⟨_, _, _, _, rfl, _⟩ := h; rfl
  refine ⟨_, (pss_cons (ps_if (pt_eq0 hr.units (pv 0)) (pss_one (ps_ret pe_bl)) pss_nil)
      (pss_cons (ps_if (pt_val (pe_cl care_unlike hr (by omega) rfl (pa_cons (pv 0) (pa_cons (pv 1) pa_nil)))) (pss_one (ps_ret pe_bl)) pss_nil)
      (pss_one (ps_ret (pe_callB (cr_all rfl) (by rfl) (T.fr "all" (by simp)) (by decide +kernel) (pa_cons (pe_lc (own := [("branch", 2), ("mate", 3)]) (g := gTup K 2 (gCons (gName 2) (gCons (gName 3) gNil))) rfl scis_top_of.nd (RZ.pi_zipA (by rfl) (T.fr "zip" (by simp)) (pa_cons (pe_slice sl_tupS (pv 0) (po_some pe_int) po_none) (pa_cons (pe_slice sl_tupS (pv 1) (po_some pe_int) po_none) pa_nil))) (blkOk_by (own := [("branch", 2), ("mate", 3)]) (N := Nis_top_of) (sc := defScope (top 31)) (by decide +kernel)) (fun _ _ _ _ _ => (by exact (pg_tup rfl (pgs_cons (pg_name (i := 2) scis_top_of.nd rfl (Or.inl rfl)) (pgs_cons (pg_name (i := 3) scis_top_of.nd rfl (Or.inl rfl)) pgs_nil))))) (fun _ _ _ _ _ => pts_nil) (fun _ _ _ _ _ => (pe_cl cis_top_of hr (by omega) rfl (pa_cons (pv 2) (pa_cons (pv 3) pa_nil))))) pa_nil)))))), ?_⟩
  obtain ⟨x, y, b, o, rfl, gb, go, hk, q⟩ := h
  refine ⟨_, rfl, td b, gb.tr, gb.sh (by decide), fun H1 s1 => ?_⟩
  rw [eqv_tip]
  cases b with
  | tip => exact it1 (q H1 s1)
  | kn c bs =>
    refine it0 ?_
    refine ⟨_, rfl, _, rfl, _, _, _, _, rfl, gb.tr.same s1, go.tr.same s1, gb.ok.wf, go.ok.wf, fun H2 s2 => ⟨_, rfl, itb (fun e => ?_) (fun e => ?_)⟩⟩
    · rw [isTop_unlike e] at q
      exact q _ (s1.trans s2)
    · cases o with
      | tip => cases e
      | kn d es =>
        obtain ⟨ec, el⟩ := alike_of e
        obtain ⟨a1, xs, rfl, h1, t1⟩ := ((gb.same s1).same s2).tr.kids
        obtain ⟨a2, ys, rfl, h2, t2⟩ := ((go.same s1).same s2).tr.kids
        refine ⟨_, rfl, _, rfl, a1, xs, rfl, h1, fun p1 H3 s3 e1 => ⟨_, rfl, _, rfl, a2, ys, rfl, s3 _ _ h2, fun p2 H4 s4 e2 => ⟨p1, p2, _, _, rfl, .inr ⟨SqT.of (s4 _ _ e1), SqT.of e2, fun D hD => ?_⟩⟩⟩⟩
        have t1' : TrL H4 (cutV xs (some 1) none) bs := (t1.same s3).same s4
        have t2' : TrL H4 (cutV ys (some 1) none) es := (t2.same s3).same s4
        refine lc_zipD (K := K) (j := 2) (k := 3) (ds := (bs.zip es).map fun p => .bool (isTop p.1 p.2)) (s4 _ _ e1) e2 (by rw [t1'.len, List.length_map, List.length_zip]; omega) (by rw [t2'.len, List.length_map, List.length_zip]; omega) (sz_small (by rw [List.length_map, List.length_zip]; have := gb.ok.len; omega)) hD (fun _ _ => rfl) (fun i u v d' H5 Q' hu hv hd s k => ?_) (fun H5 acc s hacc hall => ?_)
        · obtain ⟨p, hp, rfl⟩ := zip_get hd
          exact ⟨_, rfl, _, rfl, _, _, p.1, p.2, rfl, ⟨(TrL.at t1' hu hp.1).same s, gb.ok.kid (List.mem_of_getElem? hp.1)⟩, ⟨(TrL.at t2' hv hp.2).same s, go.ok.kid (List.mem_of_getElem? hp.2)⟩, Okb.lt (n := 0) hk (List.mem_of_getElem? hp.1), fun H6 s6 => k _ _ s6 (.bl _)⟩
        · have e3 : acc = ((bs.zip es).map fun p => isTop p.1 p.2).map V.bl := TpAll.bools (by rw [List.map_map]; exact hall)
          subst e3
          refine ⟨D, _, rfl, SqL.of hacc, ?_⟩
          have e4 : (((bs.zip es).map fun p => isTop p.1 p.2).all id) = isTop (.kn c bs) (.kn d es) := by
            rw [isTop, isTopL_all el, decide_eq_true ec, Bool.true_and, List.all_map]; rfl
          show Q (.bl (((bs.zip es).map fun p => isTop p.1 p.2).all id)) _
          rw [e4]
          exact q _ (((s1.trans s2).trans s3).trans (s4.trans s))
end

end Tw
set_option Elab.async false
set_option linter.all false
set_option maxRecDepth 100000
set_option maxHeartbeats 4000000
namespace Tw
open PySem PySem.Spec PyProof.Rows L2
/-! ### tops_in -/
def spTopsN (k : Nat) : Sp := fun vs H Q _ => ∃ (x : V) (t : T), vs = [x] ∧ Good H x t ∧ knots t < k ∧ ∀ H', Same H H' → Q (.int (topsN t : Nat)) H'
theorem topsNL_app : ∀ a b : List T, topsNL (a ++ b) = topsNL a * topsNL b
  | [], b => by simp [topsNL]
  | x :: r, b => by rw [List.cons_append, topsNL, topsNL, topsNL_app r b, Nat.mul_assoc]
theorem topsNL_le : ∀ bs : List T, topsNL bs ≤ 2 ^ knotsL bs
  | [] => Nat.le_refl _
  | b :: r => by
    rw [topsNL, knotsL, Nat.pow_add]
    exact Nat.mul_le_mul (topsN_le b) (topsNL_le r)
theorem knotsL_take (bs : List T) (i : Nat) : knotsL (bs.take i) ≤ knotsL bs := by
  have := knotsL_app (bs.take i) (bs.drop i)
  rw [List.take_append_drop] at this
  omega
theorem take_snoc {α : Type} {l : List α} {i : Nat} {x : α} (h : l[i]? = some x) : l.take (i + 1) = l.take i ++ [x] := by rw [List.take_add_one, h]; rfl
abbrev Ntops_in : List Str := ["bush", "found", "branch"]
theorem sctops_in : FnScope Ntops_in ["bush"] (defScope (top 33)) := ⟨rfl, rfl, rfl, by decide +kernel, rfl, by decide +kernel, by decide +kernel⟩
theorem hitops_in {K : PySem.W.Frag} {mg : Str → Option Value} (T : Txt K mg) : ∃ f fd, FunD K "tops_in" "tops_in" (defArgs (top 33)) (defBody (top 33)) (defScope (top 33)) [] [] f fd ∧ mg "tops_in" = some (.ref f) := T.df "tops_in" 33 (by decide)
section
variable {P : Program} {w : World} {K : PySem.W.Frag} {mg : Str → Option Value} {base : Heap}
theorem oktops_in (T : Txt K mg) {j : Nat} (ctops_in : Cal P w K mg base j "tops_in" (spTopsN j)) : Cal P w K mg base (j + 1) "tops_in" (spTopsN (j + 1)) := by
  refine cal_nox (hitops_in T) sctops_in (fun _ _ _ _ _ _ us hl => match us, hl with | [_], _ => rfl) (fun vs H Q E h => ?_) (fun f cdv A outer s H vs Q E hr h => ?_)
  · obtain ⟨_, _, rfl, _⟩ := h; rfl
  refine ⟨_, (pss_cons (ps_if (pt_eq0 hr.units (pv 0)) (pss_one (ps_ret pe_int)) pss_nil)
      (pss_cons (ps_set (i := 1) sctops_in.nd rfl (Or.inl rfl) pe_int)
      (pss_cons (ps_for PassesOwn.never rfl (pi_tup (pe_slice sl_tupS (pv 0) (po_some pe_int) po_none)) (pg_name (i := 2) sctops_in.nd rfl (Or.inl rfl)) (pss_one (ps_set (i := 1) sctops_in.nd rfl (Or.inl rfl) (pe_op op_mulY (pv 1) (pe_cl ctops_in hr (by omega) rfl (pa_cons (pv 2) pa_nil))))))
      (pss_one (ps_ret (pe_op op_add (pv 1) pe_int)))))), ?_⟩
  obtain ⟨x, t, rfl, g, hk, q⟩ := h
  refine ⟨_, rfl, td t, g.tr, g.sh (by decide), fun H1 s1 => ?_⟩
  rw [eqv_tip]
  cases t with
  | tip => exact it1 (q H1 s1)
  | kn c bs =>
    have g1 := g.same s1
    obtain ⟨a, xs, rfl, ha, hx⟩ := g1.tr.kids
    refine it0 ?_
    refine ⟨_, rfl, _, rfl, a, xs, rfl, ha, fun p H2 s2 hp => ?_⟩
    have hx2 : TrL H2 (cutV xs (some 1) none) bs := hx.same s2
    refine ⟨p, rfl, ⟨_, SqT.of hp⟩, for_tup (K := K) (a := p) (xs := cutV xs (some 1) none) (fun i σ H3 => Same H2 H3 ∧ ∃ br : Option V, σ = [some (.ref a), some (.int (topsNL (bs.take i) : Nat)), br]) ⟨Same.refl _, none, rfl⟩ (fun i σ H3 _ z => SqT.of (z.1 _ _ hp)) ?_ ?_⟩
    · rintro i y σ H3 hy ⟨s3, br, rfl⟩
      obtain ⟨b, hb⟩ : ∃ b, bs[i]? = some b := ⟨_, List.getElem?_eq_getElem (by rw [← hx2.len]; exact (List.getElem?_eq_some_iff.mp hy).1)⟩
      have hm := List.mem_of_getElem? hb
      refine ⟨_, rfl, _, rfl, _, b, rfl, ⟨(TrL.at hx2 hy hb).same s3, g.ok.kid hm⟩, Okb.lt (n := 0) hk hm, fun H4 s4 => ⟨_, _, rfl, rfl, ?_, s3.trans s4, some y, ?_⟩⟩
      · have h1 := topsNL_le (bs.take i)
        have h2 := knotsL_take bs i
        have h3 := g.ok.few
        rw [knots] at h3
        have h4 : 2 ^ knotsL (bs.take i) ≤ 2 ^ 12 := Nat.pow_le_pow_right (by decide) (by omega)
        exact .of_left (intBits_le_64 (by omega) (by omega))
      · rw [take_snoc hb, topsNL_app]
        show _ = [_, some (V.int ((topsNL (bs.take i) * topsNL [b] : Nat) : Int)), _]
        rw [show topsNL [b] = topsN b by simp [topsNL], Int.natCast_mul]
        rfl
    · rintro σ H3 ⟨s3, br, rfl⟩
      rw [hx2.len, List.take_length]
      refine ⟨_, rfl, _, _, rfl, rfl, ?_⟩
      have e : ((topsNL bs : Nat) : Int) + 1 = ((topsN (.kn c bs) : Nat) : Int) := by rw [topsN]; omega
      show Q (.int (((topsNL bs : Nat) : Int) + 1)) _
      rw [e]
      exact q _ ((s1.trans s2).trans s3)
end

/-! ### parts_at_tips -/
/-- a list of bushes stands at p -/
def LstT (H : Hp) (p : Addr) (ts : List T) : Prop := ∃ xs, H p = some (.lst xs) ∧ TrL H xs ts
theorem LstT.same {H H' : Hp} {p : Addr} {ts : List T} (h : LstT H p ts) (s : Same H H') : LstT H' p ts := by
  obtain ⟨xs, h1, h2⟩ := h
  exact ⟨xs, s _ _ h1, TpAll.same h2 s⟩
def spParts (k : Nat) : Sp := fun vs H Q _ => ∃ (x y : V) (b o : T), vs = [x, y] ∧ Good H x b ∧ Good H y o ∧ isTop b o = true ∧ knots b < k ∧ ∀ p H', Same H H' → LstT H' p (partsAt b o) → Q (.ref p) H'
theorem partsAtL_snoc : ∀ {bs es : List T} {i : Nat} {b e : T}, bs[i]? = some b → es[i]? = some e → partsAtL (bs.take (i + 1)) (es.take (i + 1)) = partsAtL (bs.take i) (es.take i) ++ partsAt b e
  | [], _, _, _, _, h, _ => by simp at h
  | _ :: _, [], _, _, _, _, h => by simp at h
  | b0 :: bs, e0 :: es, 0, b, e, h1, h2 => by
    have q1 : b0 = b := by simpa using h1
    have q2 : e0 = e := by simpa using h2
    subst q1 q2
    simp [partsAtL]
  | b0 :: bs, e0 :: es, i + 1, b, e, h1, h2 => by
    rw [List.take_succ_cons, List.take_succ_cons, partsAtL, partsAtL_snoc (bs := bs) (es := es) (by simpa using h1) (by simpa using h2), List.take_succ_cons, List.take_succ_cons, partsAtL, List.append_assoc]
theorem tips_small {t : T} (h : Okb 12 t) : tips t ≤ 61 := by
  have := tips_le h.wf
  have := h.few
  omega
theorem tipsL_take (bs : List T) (i : Nat) : tipsL (bs.take i) ≤ tipsL bs := by
  have := tipsL_app (bs.take i) (bs.drop i)
  rw [List.take_append_drop] at this
  omega
theorem isTopL_take : ∀ {bs es : List T} (i : Nat), isTopL bs es = true → isTopL (bs.take i) (es.take i) = true
  | _, _, 0, _ => by simp [isTopL]
  | [], [], _ + 1, _ => by simp [isTopL]
  | [], _ :: _, _, h => by simp [isTopL] at h
  | _ :: _, [], _, h => by simp [isTopL] at h
  | b :: r, e :: s, i + 1, h => by
    simp only [isTopL, Bool.and_eq_true] at h
    simp only [List.take_succ_cons, isTopL, Bool.and_eq_true]
    exact ⟨h.1, isTopL_take i h.2⟩
theorem isTopL_at : ∀ {bs es : List T} {i : Nat} {b e : T}, isTopL bs es = true → bs[i]? = some b → es[i]? = some e → isTop b e = true
  | [], _, _, _, _, _, h, _ => by simp at h
  | _ :: _, [], _, _, _, _, _, h => by simp at h
  | b0 :: bs, e0 :: es, 0, b, e, h, h1, h2 => by
    simp only [isTopL, Bool.and_eq_true] at h
    have q1 : b0 = b := by simpa using h1
    have q2 : e0 = e := by simpa using h2
    subst q1 q2
    exact h.1
  | b0 :: bs, e0 :: es, i + 1, b, e, h, h1, h2 => by
    simp only [isTopL, Bool.and_eq_true] at h
    exact isTopL_at h.2 (by simpa using h1) (by simpa using h2)
abbrev Nparts_at_tips : List Str := ["bush", "other", "found", "branch", "mate"]
theorem scparts_at_tips : FnScope Nparts_at_tips ["bush", "other"] (defScope (top 32)) := ⟨rfl, rfl, rfl, by decide +kernel, rfl, by decide +kernel, by decide +kernel⟩
theorem hiparts_at_tips {K : PySem.W.Frag} {mg : Str → Option Value} (T : Txt K mg) : ∃ f fd, FunD K "parts_at_tips" "parts_at_tips" (defArgs (top 32)) (defBody (top 32)) (defScope (top 32)) [] [] f fd ∧ mg "parts_at_tips" = some (.ref f) := T.df "parts_at_tips" 32 (by decide)
section
variable {P : Program} {w : World} {K : PySem.W.Frag} {mg : Str → Option Value} {base : Heap}
theorem okparts_at_tips (T : Txt K mg) {j : Nat} (cparts_at_tips : Cal P w K mg base j "parts_at_tips" (spParts j)) : Cal P w K mg base (j + 1) "parts_at_tips" (spParts (j + 1)) := by
  refine cal_nox (hiparts_at_tips T) scparts_at_tips (fun _ _ _ _ _ _ us hl => match us, hl with | [_, _], _ => rfl) (fun vs H Q E h => ?_) (fun f cdv A outer s H vs Q E hr h => ?_)
  · obtain ⟨_, _, _, _, rfl, _⟩ := h; rfl
  refine ⟨_, (pss_cons (ps_if (pt_eq0 hr.units (pv 0)) (pss_one (ps_ret (pe_lst (pa_cons (pv 1) pa_nil)))) pss_nil)
      (pss_cons (ps_set (i := 2) scparts_at_tips.nd rfl (Or.inl rfl) (pe_lst pa_nil))
      (pss_cons (ps_for PassesOwn.never rfl (RZ.pi_zipA (by rfl) (T.fr "zip" (by simp)) (pa_cons (pe_slice sl_tupS (pv 0) (po_some pe_int) po_none) (pa_cons (pe_slice sl_tupS (pv 1) (po_some pe_int) po_none) pa_nil))) (pg_tup rfl (pgs_cons (pg_name (i := 3) scparts_at_tips.nd rfl (Or.inl rfl)) (pgs_cons (pg_name (i := 4) scparts_at_tips.nd rfl (Or.inl rfl)) pgs_nil))) (pss_one (ps_set (i := 2) scparts_at_tips.nd rfl (Or.inl rfl) (pe_op op_cat (pv 2) (pe_cl cparts_at_tips hr (by omega) rfl (pa_cons (pv 3) (pa_cons (pv 4) pa_nil)))))))
      (pss_one (ps_ret (pv 2)))))), ?_⟩
  obtain ⟨x, y, b, o, rfl, gb, go, ht, hk, q⟩ := h
  refine ⟨_, rfl, td b, gb.tr, gb.sh (by decide), fun H1 s1 => ?_⟩
  rw [eqv_tip]
  cases b with
  | tip => exact it1 ⟨_, rfl, sz rfl, fun l hl => q l _ (s1.trans (same_new hl _)) ⟨[y], upd_same, .cons ((go.tr.same s1).same (same_new hl _)) .nil⟩⟩
  | kn c bs =>
    cases o with
    | tip => cases ht
    | kn d es =>
      have ht2 : isTopL bs es = true := by
        simp only [isTop, Bool.and_eq_true] at ht
        exact ht.2
      have el := isTopL_len ht2
      refine it0 ⟨sz rfl, fun l hl => ?_⟩
      have s2 := s1.trans (same_new hl (.lst []))
      have hl0 : upd H1 l (.lst []) l = some (.lst []) := upd_same
      generalize upd H1 l (.lst []) = H2 at s2 hl0
      clear s1 hl
      obtain ⟨a1, xs, rfl, h1, t1⟩ := (gb.same s2).tr.kids
      obtain ⟨a2, ys, rfl, h2, t2⟩ := (go.same s2).tr.kids
      refine ⟨_, rfl, _, rfl, a1, xs, rfl, h1, fun p1 H3 s3 e1 => ⟨_, rfl, _, rfl, a2, ys, rfl, s3 _ _ h2, fun p2 H4 s4 e2 => ⟨p1, p2, _, _, rfl, .inr ⟨SqT.of (s4 _ _ e1), SqT.of e2, ?_⟩⟩⟩⟩
      have t1' : TrL H4 (cutV xs (some 1) none) bs := (t1.same s3).same s4
      have t2' : TrL H4 (cutV ys (some 1) none) es := (t2.same s3).same s4
      have s24 := s3.trans s4
      refine RZ.for_zipT (K := K) (a := p1) (b := p2) (xs := cutV xs (some 1) none) (ys := cutV ys (some 1) none) (by rw [t1'.len, t2'.len, el]) (fun i σ H5 => Same H4 H5 ∧ ∃ (l : Addr) (br ma : Option V), σ = [some (.ref a1), some (.ref a2), some (.ref l), br, ma] ∧ LstT H5 l (partsAtL (bs.take i) (es.take i))) ⟨Same.refl _, l, none, none, rfl, [], s24 _ _ hl0, .nil⟩ (fun i σ H5 z => ⟨SqT.of (z.1 _ _ (s4 _ _ e1)), SqT.of (z.1 _ _ e2)⟩) ?_ ?_
      · rintro i u v T σ H5 hu hv ⟨s5, l, br, ma, rfl, zs, hz, tz⟩ hT
        obtain ⟨b, hb⟩ : ∃ b, bs[i]? = some b := ⟨_, List.getElem?_eq_getElem (by rw [← t1'.len]; exact (List.getElem?_eq_some_iff.mp hu).1)⟩
        obtain ⟨e, he⟩ : ∃ e, es[i]? = some e := ⟨_, List.getElem?_eq_getElem (by rw [← t2'.len]; exact (List.getElem?_eq_some_iff.mp hv).1)⟩
        have sT : Same H5 (upd H5 T (.tup [u, v])) := same_new hT _
        refine ⟨T, [u, v], rfl, SqT.of upd_same, rfl, u, [v], rfl, v, [], rfl, rfl, ?_⟩
        have tu : Good (upd H5 T (.tup [u, v])) u b := ⟨((TrL.at t1' hu hb).same s5).same sT, gb.ok.kid (List.mem_of_getElem? hb)⟩
        have tv : Good (upd H5 T (.tup [u, v])) v e := ⟨((TrL.at t2' hv he).same s5).same sT, go.ok.kid (List.mem_of_getElem? he)⟩
        refine ⟨_, rfl, _, rfl, _, rfl, _, _, b, e, rfl, tu, tv, isTopL_at ht2 hb he, Okb.lt (n := 0) hk (List.mem_of_getElem? hb), fun r H6 s6 ⟨ws, hw, tw⟩ => ?_⟩
        have s56 := sT.trans s6
        refine ⟨l, r, zs, ws, rfl, rfl, s56 _ _ hz, hw, ?_, fun m hm => ⟨(s5.trans s56).trans (same_new hm _), m, some u, some v, rfl, zs ++ ws, upd_same, ?_⟩⟩
        · have e1 := partsAt_lenL _ _ (isTopL_take i ht2)
          have e2 := partsAt_len b e (isTopL_at ht2 hb he)
          have e3 := tz.len
          have e4 := tw.len
          have e5 := tips_small gb.ok
          have e6 := tips_small tu.ok
          have e7 := tipsL_take bs i
          rw [tips] at e5
          exact sz_small (by omega)
        · rw [partsAtL_snoc hb he]
          exact TrL.app ((TpAll.same tz s56).same (same_new hm _)) (TpAll.same tw (same_new hm _))
      · rintro σ H5 ⟨s5, l, br, ma, rfl, hz⟩
        rw [t1'.len, List.take_length, List.take_of_length_le (by omega)] at hz
        exact ⟨_, rfl, q l _ (s2.trans (s24.trans s5)) hz⟩
end

end Tw
set_option Elab.async false
set_option linter.all false
set_option maxRecDepth 100000
set_option maxHeartbeats 4000000
namespace Tw
open PySem PySem.Spec PyProof.Rows L2
/-! ### met_by -/
def spMet (k : Nat) : Sp := fun vs H Q _ => ∃ (x y : V) (b o : T), vs = [x, y] ∧ Good H x b ∧ Good H y o ∧ knots b < k ∧ ∀ v H', Same H H' → Tr H' v (met b o) → Q v H'
theorem met_unlike {c : Nat} {bs : List T} {o : T} (h : unlikeT (.kn c bs) o = true) : met (.kn c bs) o = .tip := by
  cases o with
  | tip => rfl
  | kn d es =>
    rw [met, if_neg]
    intro z
    rw [unlikeT, decide_eq_true z] at h
    cases h
/-- the letter ahead of the branches -/
theorem Tr.join {H : Hp} {p : Addr} {c : Nat} {xs acc : List V} {bs : List T} (h : H p = some (.tup (cutV (.str (ltr c) :: xs) none (some 1) ++ acc))) (t : TpAll H acc (bs.map td)) : Tr H (.ref p) (.kn c bs) := by
  rw [cut_to] at h
  exact Tr.kn h t
abbrev Nmet_by : List Str := ["bush", "other", "branch", "mate"]
theorem scmet_by : FnScope Nmet_by ["bush", "other"] (defScope (top 34)) := ⟨rfl, rfl, rfl, by decide +kernel, rfl, by decide +kernel, by decide +kernel⟩
theorem himet_by {K : PySem.W.Frag} {mg : Str → Option Value} (T : Txt K mg) : ∃ f fd, FunD K "met_by" "met_by" (defArgs (top 34)) (defBody (top 34)) (defScope (top 34)) [] [] f fd ∧ mg "met_by" = some (.ref f) := T.df "met_by" 34 (by decide)
section
variable {P : Program} {w : World} {K : PySem.W.Frag} {mg : Str → Option Value} {base : Heap}
theorem okmet_by (T : Txt K mg) {j L : Nat} (hj : 1 ≤ L) (care_unlike : Cal P w K mg base 1 "are_unlike" spUnlike) (cmet_by : Cal P w K mg base L "met_by" (spMet j)) : Cal P w K mg base (L + 1) "met_by" (spMet (j + 1)) := by
  refine cal_nox (himet_by T) scmet_by (fun _ _ _ _ _ _ us hl => match us, hl with | [_, _], _ => rfl) (fun vs H Q E h => ?_) (fun f cdv A outer s H vs Q E hr h => ?_)
  · obtain ⟨_, _, _, _, rfl, _⟩ := h; rfl
  refine ⟨_, (pss_cons (ps_if (PW.pt (pw_or (pt_eq0 hr.units (pv 0)) (pw_or1 (pt_val (pe_cl care_unlike hr (by omega) rfl (pa_cons (pv 0) (pa_cons (pv 1) pa_nil))))))) (pss_one (ps_ret (pe_tup pa_nil))) pss_nil)
      (pss_one (ps_ret (pe_op op_catS (pe_slice sl_tupS (pv 0) po_none (po_some pe_int)) (pe_callTy call_tuple_of (by rfl) (T.fr "tuple" (by simp)) (by decide +kernel) (pa_cons (pe_lc (own := [("branch", 2), ("mate", 3)]) (g := gTup K 2 (gCons (gName 2) (gCons (gName 3) gNil))) rfl scmet_by.nd (RZ.pi_zipA (by rfl) (T.fr "zip" (by simp)) (pa_cons (pe_slice sl_tupS (pv 0) (po_some pe_int) po_none) (pa_cons (pe_slice sl_tupS (pv 1) (po_some pe_int) po_none) pa_nil))) (blkOk_by (own := [("branch", 2), ("mate", 3)]) (N := Nmet_by) (sc := defScope (top 34)) (by decide +kernel)) (fun _ _ _ _ _ => (by exact (pg_tup rfl (pgs_cons (pg_name (i := 2) scmet_by.nd rfl (Or.inl rfl)) (pgs_cons (pg_name (i := 3) scmet_by.nd rfl (Or.inl rfl)) pgs_nil))))) (fun _ _ _ _ _ => pts_nil) (fun _ _ _ _ _ => (pe_cl cmet_by hr (by omega) rfl (pa_cons (pv 2) (pa_cons (pv 3) pa_nil))))) pa_nil)))))), ?_⟩
  obtain ⟨x, y, b, o, rfl, gb, go, hk, q⟩ := h
  refine ⟨_, rfl, td b, gb.tr, gb.sh (by decide), fun H1 s1 => ?_⟩
  rw [eqv_tip]
  cases b with
  | tip => exact it1 (it1 ⟨sz rfl, fun p hp => q _ _ (s1.trans (same_new hp _)) (Tr.tip upd_same)⟩)
  | kn c bs =>
    refine it0 ?_
    refine ⟨_, rfl, _, rfl, _, _, _, _, rfl, gb.tr.same s1, go.tr.same s1, gb.ok.wf, go.ok.wf, fun H2 s2 => ⟨_, rfl, itb (fun e => ?_) (fun e => ?_)⟩⟩
    · rw [met_unlike e] at q
      exact ⟨sz rfl, fun p hp => q _ _ ((s1.trans s2).trans (same_new hp _)) (Tr.tip upd_same)⟩
    · cases o with
      | tip => cases e
      | kn d es =>
        obtain ⟨ec, el⟩ := alike_of e
        obtain ⟨a1, xs, rfl, h1, t1⟩ := ((gb.same s1).same s2).tr.kn_inv
        obtain ⟨a2, ys, rfl, h2, t2⟩ := ((go.same s1).same s2).tr.kids
        refine ⟨_, rfl, _, rfl, a1, _, rfl, h1, fun p0 H3 s3 e0 => ?_⟩
        refine ⟨_, rfl, _, rfl, a1, _, rfl, s3 _ _ h1, fun p1 H4 s4 e1 => ⟨_, rfl, _, rfl, a2, ys, rfl, s4 _ _ (s3 _ _ h2), fun p2 H5 s5 e2 => ⟨p1, p2, _, _, rfl, .inr ⟨SqT.of (s5 _ _ e1), SqT.of e2, fun D hD => ?_⟩⟩⟩⟩
        have s35 := (s3.trans s4).trans s5
        rw [cut_from] at e1
        have t1' : TrL H5 xs bs := t1.same s35
        have t2' : TrL H5 (cutV ys (some 1) none) es := t2.same s35
        refine lc_zipD (K := K) (j := 2) (k := 3) (ds := (bs.zip es).map fun p => td (met p.1 p.2)) (s5 _ _ e1) e2 (by rw [t1'.len, List.length_map, List.length_zip]; omega) (by rw [t2'.len, List.length_map, List.length_zip]; omega) (sz_small (by rw [List.length_map, List.length_zip]; have := gb.ok.len; omega)) hD (fun _ _ => rfl) (fun i u v d' H6 Q' hu hv hd s k => ?_) (fun H6 acc s hacc hall => ?_)
        · obtain ⟨p, hp, rfl⟩ := zip_get hd
          exact ⟨_, rfl, _, rfl, _, _, p.1, p.2, rfl, ⟨(TrL.at t1' hu hp.1).same s, gb.ok.kid (List.mem_of_getElem? hp.1)⟩, ⟨(TrL.at t2' hv hp.2).same s, go.ok.kid (List.mem_of_getElem? hp.2)⟩, Okb.lt (n := 0) hk (List.mem_of_getElem? hp.1), fun z H7 s7 tz => k _ _ s7 tz⟩
        · refine ⟨D, _, rfl, .inl ⟨SqL.of hacc, fun m hm => ?_⟩⟩
          have sm : Same H6 (upd H6 m (.tup acc)) := same_new hm _
          refine ⟨p0, m, _, _, rfl, rfl, sm _ _ (s _ _ (s5 _ _ (s4 _ _ e0))), upd_same, ?_, fun r H7 s7 hr => ?_⟩
          · rw [cut_to, hall.len, List.length_map, List.length_zip]
            have := gb.ok.len
            exact sz_small (by simp; omega)
          · refine q _ _ ((((s1.trans s2).trans s35).trans s).trans (sm.trans s7)) ?_
            rw [met, if_pos ⟨ec, el⟩]
            refine Tr.join hr ?_
            rw [metL_eq, List.map_map]
            exact (hall.same sm).same s7
end

/-! ### joined_by -/
def spJoined (k : Nat) : Sp := fun vs H Q _ => ∃ (x y : V) (b o : T), vs = [x, y] ∧ Good H x b ∧ Good H y o ∧ agree b o = true ∧ knots b < k ∧ ∀ v H', Same H H' → Tr H' v (joined b o) → Q v H'
theorem agreeL_at : ∀ {bs es : List T} {i : Nat} {b e : T}, agreeL bs es = true → bs[i]? = some b → es[i]? = some e → agree b e = true
  | [], _, _, _, _, _, h, _ => by simp at h
  | _ :: _, [], _, _, _, _, _, h => by simp at h
  | b0 :: bs, e0 :: es, 0, b, e, h, h1, h2 => by
    simp only [agreeL, Bool.and_eq_true] at h
    have q1 : b0 = b := by simpa using h1
    have q2 : e0 = e := by simpa using h2
    subst q1 q2
    exact h.1
  | b0 :: bs, e0 :: es, i + 1, b, e, h, h1, h2 => by
    simp only [agreeL, Bool.and_eq_true] at h
    exact agreeL_at h.2 (by simpa using h1) (by simpa using h2)
abbrev Njoined_by : List Str := ["bush", "other", "branch", "mate"]
theorem scjoined_by : FnScope Njoined_by ["bush", "other"] (defScope (top 35)) := ⟨rfl, rfl, rfl, by decide +kernel, rfl, by decide +kernel, by decide +kernel⟩
theorem hijoined_by {K : PySem.W.Frag} {mg : Str → Option Value} (T : Txt K mg) : ∃ f fd, FunD K "joined_by" "joined_by" (defArgs (top 35)) (defBody (top 35)) (defScope (top 35)) [] [] f fd ∧ mg "joined_by" = some (.ref f) := T.df "joined_by" 35 (by decide)
section
variable {P : Program} {w : World} {K : PySem.W.Frag} {mg : Str → Option Value} {base : Heap}
theorem okjoined_by (T : Txt K mg) {j : Nat} (cjoined_by : Cal P w K mg base j "joined_by" (spJoined j)) : Cal P w K mg base (j + 1) "joined_by" (spJoined (j + 1)) := by
  refine cal_nox (hijoined_by T) scjoined_by (fun _ _ _ _ _ _ us hl => match us, hl with | [_, _], _ => rfl) (fun vs H Q E h => ?_) (fun f cdv A outer s H vs Q E hr h => ?_)
  · obtain ⟨_, _, _, _, rfl, _⟩ := h; rfl
  refine ⟨_, (pss_cons (ps_if (PW.pt (pw_or (pt_eq0 hr.units (pv 0)) (pw_or1 (pt_eq0 hr.units (pv 1))))) (pss_one (ps_ret (pe_ifExp (pt_eq0 hr.units (pv 0)) (pv 1) (pv 0)))) pss_nil)
      (pss_one (ps_ret (pe_op op_catS (pe_slice sl_tupS (pv 0) po_none (po_some pe_int)) (pe_callTy call_tuple_of (by rfl) (T.fr "tuple" (by simp)) (by decide +kernel) (pa_cons (pe_lc (own := [("branch", 2), ("mate", 3)]) (g := gTup K 2 (gCons (gName 2) (gCons (gName 3) gNil))) rfl scjoined_by.nd (RZ.pi_zipA (by rfl) (T.fr "zip" (by simp)) (pa_cons (pe_slice sl_tupS (pv 0) (po_some pe_int) po_none) (pa_cons (pe_slice sl_tupS (pv 1) (po_some pe_int) po_none) pa_nil))) (blkOk_by (own := [("branch", 2), ("mate", 3)]) (N := Njoined_by) (sc := defScope (top 35)) (by decide +kernel)) (fun _ _ _ _ _ => (by exact (pg_tup rfl (pgs_cons (pg_name (i := 2) scjoined_by.nd rfl (Or.inl rfl)) (pgs_cons (pg_name (i := 3) scjoined_by.nd rfl (Or.inl rfl)) pgs_nil))))) (fun _ _ _ _ _ => pts_nil) (fun _ _ _ _ _ => (pe_cl cjoined_by hr (by omega) rfl (pa_cons (pv 2) (pa_cons (pv 3) pa_nil))))) pa_nil)))))), ?_⟩
  obtain ⟨x, y, b, o, rfl, gb, go, ha, hk, q⟩ := h
  refine ⟨_, rfl, td b, gb.tr, gb.sh (by decide), fun H1 s1 => ?_⟩
  rw [eqv_tip]
  cases b with
  | tip =>
    refine it1 (it1 ⟨_, rfl, td .tip, gb.tr.same s1, gb.sh (by decide), fun H2 s2 => ?_⟩)
    rw [eqv_tip]
    exact it1 ⟨_, rfl, q _ _ (s1.trans s2) (by rw [joined]; exact (go.tr.same s1).same s2)⟩
  | kn c bs =>
    refine it0 ⟨_, rfl, td o, go.tr.same s1, go.sh (by decide), fun H2 s2 => ?_⟩
    rw [eqv_tip]
    cases o with
    | tip =>
      refine it1 ⟨_, rfl, td (.kn c bs), (gb.tr.same s1).same s2, gb.sh (by decide), fun H3 s3 => ?_⟩
      rw [eqv_tip]
      exact it0 ⟨_, rfl, q _ _ ((s1.trans s2).trans s3) (by rw [joined]; exact ((gb.tr.same s1).same s2).same s3)⟩
    | kn d es =>
      refine it0 ?_
      have ha' : c = d ∧ agreeL bs es = true := by
        simp only [agree, Bool.and_eq_true, decide_eq_true_eq] at ha
        exact ha
      have el := agreeL_len ha'.2
      obtain ⟨a1, xs, rfl, h1, t1⟩ := ((gb.same s1).same s2).tr.kn_inv
      obtain ⟨a2, ys, rfl, h2, t2⟩ := ((go.same s1).same s2).tr.kids
      refine ⟨_, rfl, _, rfl, a1, _, rfl, h1, fun p0 H3 s3 e0 => ?_⟩
      refine ⟨_, rfl, _, rfl, a1, _, rfl, s3 _ _ h1, fun p1 H4 s4 e1 => ⟨_, rfl, _, rfl, a2, ys, rfl, s4 _ _ (s3 _ _ h2), fun p2 H5 s5 e2 => ⟨p1, p2, _, _, rfl, .inr ⟨SqT.of (s5 _ _ e1), SqT.of e2, fun D hD => ?_⟩⟩⟩⟩
      have s35 := (s3.trans s4).trans s5
      rw [cut_from] at e1
      have t1' : TrL H5 xs bs := t1.same s35
      have t2' : TrL H5 (cutV ys (some 1) none) es := t2.same s35
      refine lc_zipD (K := K) (j := 2) (k := 3) (ds := (bs.zip es).map fun p => td (joined p.1 p.2)) (s5 _ _ e1) e2 (by rw [t1'.len, List.length_map, List.length_zip]; omega) (by rw [t2'.len, List.length_map, List.length_zip]; omega) (sz_small (by rw [List.length_map, List.length_zip]; have := gb.ok.len; omega)) hD (fun _ _ => rfl) (fun i u v d' H6 Q' hu hv hd s k => ?_) (fun H6 acc s hacc hall => ?_)
      · obtain ⟨p, hp, rfl⟩ := zip_get hd
        exact ⟨_, rfl, _, rfl, _, _, p.1, p.2, rfl, ⟨(TrL.at t1' hu hp.1).same s, gb.ok.kid (List.mem_of_getElem? hp.1)⟩, ⟨(TrL.at t2' hv hp.2).same s, go.ok.kid (List.mem_of_getElem? hp.2)⟩, agreeL_at ha'.2 hp.1 hp.2, Okb.lt (n := 0) hk (List.mem_of_getElem? hp.1), fun z H7 s7 tz => k _ _ s7 tz⟩
      · refine ⟨D, _, rfl, .inl ⟨SqL.of hacc, fun m hm => ?_⟩⟩
        have sm : Same H6 (upd H6 m (.tup acc)) := same_new hm _
        refine ⟨p0, m, _, _, rfl, rfl, sm _ _ (s _ _ (s5 _ _ (s4 _ _ e0))), upd_same, ?_, fun r H7 s7 hr => ?_⟩
        · rw [cut_to, hall.len, List.length_map, List.length_zip]
          have := gb.ok.len
          exact sz_small (by simp; omega)
        · refine q _ _ ((((s1.trans s2).trans s35).trans s).trans (sm.trans s7)) ?_
          rw [joined]
          refine Tr.join hr ?_
          rw [joinedL_eq, List.map_map]
          exact (hall.same sm).same s7
end

end Tw
set_option Elab.async false
set_option linter.all false
set_option maxRecDepth 100000
set_option maxHeartbeats 4000000
namespace Tw
open PySem PySem.Spec PyProof.Rows L2
/-- [e for i in range(n)], nothing is tested -/
theorem lc_rangeD {n : Nat} {ds : List PyData} {j : Nat} {te : TE} {σ : L2.St} {H1 : Hp} {D : Addr} {Qd : Hp → Prop} (hl : n = ds.length) (hz : ds.length ≤ sizeLine) (hD : H1 D = none)
    (step : ∀ (i : Nat) (d : PyData) (H : Hp) (Q' : VK), ds[i]? = some d → Same H1 H → (∀ y H4, Same H H4 → Tp H4 y d → Q' y H4) → te ((σ.set j none).set j (some (.int (i : Int)))) H Q')
    (fin : ∀ H acc, Same H1 H → H D = some (.lst acc) → TpAll H acc ds → Qd H) :
    ∃ W : Nat → Nat → Hp → Prop, (∃ m, W 0 m (upd H1 D (.lst []))) ∧ ∀ i m H, W i m H →
      ((Itr 0 n).stop i H ∧ Qd H) ∨ ((Itr 0 n).go i H ∧ ∃ Nx : Hp → Prop, (∀ H', Nx H' → ∃ m', m' < m ∧ W (i + 1) m' H') ∧ ∀ x H', (Itr 0 n).yld i H x H' → gName j x (wipe σ [j]) H' fun σ2 H2 => wipe σ2 [j] = wipe σ [j] ∧ tYes σ2 H2 fun b H3 =>
        if b = true then te σ2 H3 fun y H4 => ∃ acc, H4 D = some (.lst acc) ∧ acc.length < sizeLine ∧ Nx (upd H4 D (.lst (acc ++ [y]))) else Nx H3) := by
  refine lc_range (lo := 0) (n := n) (Qd := Qd) (fun i H => Same H1 H ∧ ∃ acc, H D = some (.lst acc) ∧ TpAll H acc (ds.take i)) ⟨same_new hD _, [], upd_same, .nil⟩ ?_ (fun H p => ?_)
  · rintro i H hi ⟨s1, acc, hacc, hall⟩
    have hlt : i < ds.length := by rw [← hl]; exact hi
    have hd : ds[i]? = some ds[i] := List.getElem?_eq_getElem hlt
    refine ⟨?_, ?_⟩
    · show wipe ((wipe σ [j]).set j _) [j] = wipe σ [j]
      simp [wipe, List.set_set]
    · unfold tYes
      dsimp only
      rw [if_pos rfl, show (0 : Int) + (i : Int) = (i : Int) by omega]
      refine step i ds[i] H _ hd s1 fun y H4 s4 hy => ⟨acc, s4 D _ hacc, ?_, ?_, acc ++ [y], upd_same, ?_⟩
      · have := hall.len
        rw [List.length_take] at this
        omega
      · exact upd_list_same (acc := acc) hD fun b u q => s4 b u (s1 b u q)
      · rw [List.take_add_one, hd]
        exact TpAll.app ((hall.same s4).keep (kp_upd (s4 D _ hacc))) (.cons (hy.keep (kp_upd (s4 D _ hacc))) .nil)
  · obtain ⟨s1, acc, hacc, hall⟩ := p
    rw [hl, List.take_length] at hall
    exact fin H acc s1 hacc hall
/-- a road, or None -/
def optd : Option R → PyData
  | none => .none
  | some r => rd r
/-- what waits in the line of clash_by -/
def qd (x : R × T × T) : PyData := .tuple [rd x.1, td x.2.1, td x.2.2]
theorem qd_inv {H : Hp} {v : V} {x : R × T × T} (h : Tp H v (qd x)) : ∃ a r b o, v = .ref a ∧ H a = some (.tup [r, b, o]) ∧ Rd' H r x.1 ∧ Tr H b x.2.1 ∧ Tr H o x.2.2 := by
  rw [qd] at h
  cases h with
  | tup e t =>
    cases t with
    | cons h1 t =>
      cases t with
      | cons h2 t =>
        cases t with
        | cons h3 t => cases t; exact ⟨_, _, _, _, rfl, e, h1, h2, h3⟩
theorem sh_qd {x : R × T × T} {n : Nat} (h1 : Okb n x.2.1) (h2 : Okb n x.2.2) : Sh (n + 2) (qd x) := Sh.tuple fun d hd => by
  rcases List.mem_cons.mp hd with rfl | hd
  · exact (sh_rd _).mono (by omega)
  · rcases List.mem_cons.mp hd with rfl | hd
    · exact h1.sh
    · rw [List.mem_singleton.mp hd]; exact h2.sh
theorem TpAll.cons_inv {H : Hp} {vs : List V} {d : PyData} {ds : List PyData} (h : TpAll H vs (d :: ds)) : ∃ v ws, vs = v :: ws ∧ Tp H v d ∧ TpAll H ws ds := by
  cases h with
  | cons h t => exact ⟨_, _, rfl, h, t⟩
theorem weight_ge : ∀ q : List (R × T × T), q.length ≤ weight q
  | [] => Nat.le_refl _
  | x :: q => by have := weight_ge q; have := size_pos x.2.1; rw [List.length_cons, weight]; omega
theorem kids_eq {r : R} {b o : T} (h : both b o = true) (hu : unlikeT b o = false) : ∃ c bs es, b = .kn c bs ∧ o = .kn c es ∧ bs.length = es.length ∧ kids r b o = kidsFrom r 0 bs es := by
  cases b with
  | tip => simp [both] at h
  | kn c bs =>
    cases o with
    | tip => simp [both] at h
    | kn d es =>
      simp only [unlikeT, Bool.not_eq_false', decide_eq_true_eq] at hu
      obtain ⟨rfl, e⟩ := hu
      exact ⟨c, bs, es, rfl, rfl, e, rfl⟩
theorem kidsFrom_len (r : R) : ∀ (i : Nat) {bs es : List T}, bs.length = es.length → (kidsFrom r i bs es).length = bs.length
  | _, [], _, _ => by simp [kidsFrom]
  | _, _ :: _, [], h => by simp at h
  | i, b :: bs, e :: es, h => by rw [kidsFrom, List.length_cons, List.length_cons, kidsFrom_len r (i + 1) (by simpa using h)]
theorem kidsFrom_get (r : R) : ∀ (i : Nat) {bs es : List T} {j : Nat} {x : R × T × T}, (kidsFrom r i bs es)[j]? = some x → x.1 = r ++ [i + j] ∧ bs[j]? = some x.2.1 ∧ es[j]? = some x.2.2
  | _, [], _, _, _, h => by simp [kidsFrom] at h
  | _, _ :: _, [], _, _, h => by simp [kidsFrom] at h
  | i, b :: bs, e :: es, 0, x, h => by
    have q : (r ++ [i], b, e) = x := by simpa [kidsFrom] using h
    subst q
    exact ⟨rfl, rfl, rfl⟩
  | i, b :: bs, e :: es, j + 1, x, h => by
    obtain ⟨h1, h2, h3⟩ := kidsFrom_get r (i + 1) (bs := bs) (es := es) (j := j) (x := x) (by simpa [kidsFrom] using h)
    exact ⟨by rw [h1, show i + 1 + j = i + (j + 1) by omega], by simpa using h2, by simpa using h3⟩
theorem Tr.nth {H : Hp} {v : V} {c : Nat} {bs : List T} (h : Tr H v (.kn c bs)) : ∃ a xs, v = .ref a ∧ H a = some (.tup xs) ∧ xs.length = bs.length + 1 ∧ ∀ i b, bs[i]? = some b → ∃ u, xs[i + 1]? = some u ∧ Tr H u b := by
  obtain ⟨a, xs, rfl, h1, h2⟩ := h.kn_inv
  refine ⟨a, _, rfl, h1, by rw [List.length_cons, h2.len], fun i b hb => ?_⟩
  obtain ⟨u, hu⟩ : ∃ u, xs[i]? = some u := ⟨_, List.getElem?_eq_getElem (by rw [h2.len]; exact (List.getElem?_eq_some_iff.mp hb).1)⟩
  exact ⟨u, by simpa using hu, TrL.at h2 hu hb⟩
theorem bfs_up {m n : Nat} {q : List (R × T × T)} (h1 : weight q < m) (h2 : weight q < n) : bfs m q = bfs n q := by
  cases m with
  | zero => omega
  | succ m =>
    cases n with
    | zero => omega
    | succ n => exact bfs_more m q (by omega) n (by omega)
theorem Rd'.snoc {H : Hp} {b : Addr} {r : R} {i : Nat} (h : H b = some (.tup ((r.map fun (n : Nat) => V.int (n : Int)) ++ [.int (i : Int)]))) : Rd' H (.ref b) (r ++ [i]) := Rd'.of (by rw [h, List.map_append]; rfl)
end Tw
set_option Elab.async false
set_option linter.all false
set_option maxRecDepth 100000
set_option maxHeartbeats 4000000
namespace Tw
open PySem PySem.Spec PyProof.Rows L2
/-! ### clash_by -/
def spClash : Sp := fun vs H Q _ => ∃ (x y : V) (b o : T), vs = [x, y] ∧ Good H x b ∧ Good H y o ∧ ∀ v H', Same H H' → Tp H' v (optd (clash b o)) → Q v H'
/-- a line of pairs stands at p -/
def LstQ (H : Hp) (p : Addr) (q : List (R × T × T)) : Prop := ∃ xs, H p = some (.lst xs) ∧ TpAll H xs (q.map qd)
theorem bfs_skip {r : R} {b o : T} {q : List (R × T × T)} (h : both b o = false) : bfs (weight ((r, b, o) :: q) + 1) ((r, b, o) :: q) = bfs (weight q + 1) q := by
  rw [bfs, if_neg (by rw [h]; exact Bool.false_ne_true), weight]
  have := size_pos b
  exact bfs_up (by dsimp only; omega) (Nat.lt_succ_self _)
theorem bfs_hit {r : R} {b o : T} {q : List (R × T × T)} (h : both b o = true) (hu : unlikeT b o = true) : bfs (weight ((r, b, o) :: q) + 1) ((r, b, o) :: q) = some r := by
  rw [bfs, if_pos h, if_pos hu]
theorem bfs_go {r : R} {b o : T} {q : List (R × T × T)} (h : both b o = true) (hu : unlikeT b o = false) : weight (q ++ kids r b o) < weight ((r, b, o) :: q) ∧ bfs (weight ((r, b, o) :: q) + 1) ((r, b, o) :: q) = bfs (weight (q ++ kids r b o) + 1) (q ++ kids r b o) := by
  have hk := weight_kids r b o
  have hw : weight (q ++ kids r b o) < weight ((r, b, o) :: q) := by rw [weight_app, weight]; dsimp only; omega
  refine ⟨hw, ?_⟩
  rw [bfs, if_pos h, if_neg (by rw [hu]; exact Bool.false_ne_true)]
  exact bfs_up hw (Nat.lt_succ_self _)
theorem okb_kidsFrom {n c : Nat} {r : R} {bs es : List T} {x : R × T × T} (h1 : Okb n (.kn c bs)) (h2 : Okb n (.kn c es)) (h : x ∈ kidsFrom r 0 bs es) : Okb n x.2.1 ∧ Okb n x.2.2 := by
  obtain ⟨j, b, e, q1, q2, rfl⟩ := (mem_kidsFrom r).mp h
  exact ⟨h1.kid (List.mem_of_getElem? q1), h2.kid (List.mem_of_getElem? q2)⟩
def okQ (q : List (R × T × T)) : Prop := ∀ x ∈ q, Okb 12 x.2.1 ∧ Okb 12 x.2.2 ∧ x.1.length + knots x.2.1 ≤ 12
abbrev Nclash_by : List Str := ["bush", "other", "line", "road", "part", "mate", "at"]
theorem scclash_by : FnScope Nclash_by ["bush", "other"] (defScope (top 36)) := ⟨rfl, rfl, rfl, by decide +kernel, rfl, by decide +kernel, by decide +kernel⟩
theorem hiclash_by {K : PySem.W.Frag} {mg : Str → Option Value} (T : Txt K mg) : ∃ f fd, FunD K "clash_by" "clash_by" (defArgs (top 36)) (defBody (top 36)) (defScope (top 36)) [] [] f fd ∧ mg "clash_by" = some (.ref f) := T.df "clash_by" 36 (by decide)
section
variable {P : Program} {w : World} {K : PySem.W.Frag} {mg : Str → Option Value} {base : Heap}
theorem okclash_by (T : Txt K mg) {k : Nat} (care_unlike : Cal P w K mg base k "are_unlike" spUnlike) : Cal P w K mg base (k + 1) "clash_by" (spClash) := by
  refine cal_nox (hiclash_by T) scclash_by (fun _ _ _ _ _ _ us hl => match us, hl with | [_, _], _ => rfl) (fun vs H Q E h => ?_) (fun f cdv A outer s H vs Q E hr h => ?_)
  · obtain ⟨_, _, _, _, rfl, _⟩ := h; rfl
  refine ⟨_, (pss_cons (ps_set (i := 2) scclash_by.nd rfl (Or.inl rfl) (pe_lst (pa_cons (pe_tup (pa_cons (pe_tup pa_nil) (pa_cons (pv 0) (pa_cons (pv 1) pa_nil)))) pa_nil)))
      (pss_cons (ps_while PassesOwn.never (pt_neL hr.units (pv 2)) (pss_cons (ps_asg (pe_tup (pa_cons (pe_ix ix_list (pv 2) pe_int (fun _ _ => rfl)) (pa_cons (pe_slice sl_list (pv 2) (po_some pe_int) po_none) pa_nil))) (pg_tup rfl (pgs_cons (pg_tup rfl (pgs_cons (pg_name (i := 3) scclash_by.nd rfl (Or.inr rfl)) (pgs_cons (pg_name (i := 4) scclash_by.nd rfl (Or.inr rfl)) (pgs_cons (pg_name (i := 5) scclash_by.nd rfl (Or.inr rfl)) pgs_nil)))) (pgs_cons (pg_name (i := 2) scclash_by.nd rfl (Or.inl rfl)) pgs_nil))))
      (pss_one (ps_if (PW.pt (pw_and (pt_ne0 hr.units (pv 4)) (pw_and1 (pt_ne0 hr.units (pv 5))))) (pss_cons (ps_if (pt_val (pe_cl care_unlike hr (by omega) rfl (pa_cons (pv 4) (pa_cons (pv 5) pa_nil)))) (pss_one (ps_ret (pv 3))) pss_nil)
      (pss_one (ps_set (i := 2) scclash_by.nd rfl (Or.inl rfl) (pe_op op_cat (pv 2) (pe_lc (own := [("at", 6)]) rfl scclash_by.nd (pi_range1 rfl (T.fr "range" (by simp)) (pa_cons (pe_op op_sub (pe_callB call_len_seq (by rfl) (T.fr "len" (by simp)) (by decide +kernel) (pa_cons (pv 4) pa_nil)) pe_int) pa_nil)) (blkOk_by (own := [("at", 6)]) (N := Nclash_by) (sc := defScope (top 36)) (by decide +kernel)) (fun _ _ _ _ _ => (pg_name (i := 6) scclash_by.nd rfl (Or.inl rfl))) (fun _ _ _ _ _ => pts_nil) (fun _ _ _ _ _ => (pe_tup (pa_cons (pe_op (r := rCatS K) (by exact op_catS) (pv 3) (pe_tup (pa_cons (pv 6) pa_nil))) (pa_cons (pe_ix (r := rIxT K) (by exact ix_tup) (pv 4) (pe_op op_add (pv 6) pe_int) (fun _ _ => rfl)) (pa_cons (pe_ix (r := rIxT K) (by exact ix_tup) (pv 5) (pe_op op_add (pv 6) pe_int) (fun _ _ => rfl)) pa_nil)))))))))) pss_nil))))
      (pss_one (ps_ret pe_non)))), ?_⟩
  obtain ⟨x, y, b, o, rfl, gb, go, q⟩ := h
  refine ⟨Nat.zero_le _, fun p0 hp0 => ⟨_, rfl, _, rfl, sz rfl, fun p1 hp1 => ⟨sz rfl, fun l hl => ?_⟩⟩⟩
  have s0 : Same H (upd H p0 (.tup [])) := same_new hp0 _
  have e0 : upd H p0 (.tup []) p0 = some (.tup []) := upd_same
  generalize upd H p0 (.tup []) = H0 at s0 e0 hp1 hl ⊢
  have s1 := s0.trans (same_new hp1 (.tup [.ref p0, x, y]))
  have t1 : Tp (upd H0 p1 (.tup [.ref p0, x, y])) (.ref p1) (qd ([], b, o)) := .tup upd_same (.cons (.tup (same_new hp1 _ _ _ e0) .nil) (.cons ((gb.same s1).tr) (.cons ((go.same s1).tr) .nil)))
  generalize upd H0 p1 (.tup [.ref p0, x, y]) = H1 at s1 t1 hl ⊢
  have s2 := s1.trans (same_new hl (.lst [.ref p1]))
  have t2 : LstQ (upd H1 l (.lst [.ref p1])) l [([], b, o)] := ⟨_, upd_same, TpAll.one (t1.same (same_new hl _))⟩
  generalize upd H1 l (.lst [.ref p1]) = H2 at s2 t2 ⊢
  clear s0 s1 t1 hp0 hp1 hl e0
  have hw := size_le gb.ok.wf
  have hfew := gb.ok.few
  refine ⟨fun m σ H3 => ∃ l qq rv pv mv av, σ = [some x, some y, some (.ref l), rv, pv, mv, av] ∧ Same H H3 ∧ LstQ H3 l qq ∧ okQ qq ∧ weight qq ≤ size b ∧ bfs (weight qq + 1) qq = clash b o ∧ m = weight qq, ⟨_, l, [([], b, o)], none, none, none, none, rfl, s2, t2, ?_, Nat.le_of_eq ?_, ?_, rfl⟩, ?_⟩
  · intro z hz
    rw [List.mem_singleton.mp hz]
    exact ⟨gb.ok, go.ok, by simpa using hfew⟩
  · simp [weight]
  · rfl
  rintro m σ H3 ⟨l, qq, rv, pv, mv, av, rfl, s3, ⟨xs, hx, tx⟩, okq, wq, hq, rfl⟩
  refine ⟨_, rfl, l, xs, _, rfl, hx, TpAll.dp tx, fun d hd => ?_, fun H4 s4 => ?_⟩
  · obtain ⟨z, hz, rfl⟩ := List.mem_map.mp hd
    exact (sh_qd (okq z hz).1 (okq z hz).2.1).mono (by decide)
  cases qq with
  | nil =>
    cases tx
    exact it0 (q _ _ (s3.trans s4) (by rw [← hq]; exact .non))
  | cons z qq =>
    obtain ⟨u, us, rfl, tu, tus⟩ := TpAll.cons_inv tx
    obtain ⟨r, pb, po⟩ := z
    have ok1 := okq _ List.mem_cons_self
    have okr : okQ qq := fun z hz => okq z (List.mem_cons_of_mem _ hz)
    replace hx := s4 _ _ hx
    replace tu := tu.same s4
    replace tus := TpAll.same tus s4
    replace s3 := s3.trans s4
    clear s4 t2 s2 tx
    refine it1 ⟨fun σ' H' => ∃ m', m' < weight ((r, pb, po) :: qq) ∧ _, fun _ _ h => h, ?_⟩
    refine ⟨_, rfl, l, _, 0, u, rfl, rfl, SqL.of hx, atI_nat (j := 0) rfl, _, rfl, _, rfl, l, _, rfl, SqL.of hx, fun p2 hp2 => ⟨sz rfl, fun T hT => ?_⟩⟩
    have s5 := same_new hp2 (.lst (cutV (u :: us) (some 1) none))
    have hx2 : upd H4 p2 (.lst (cutV (u :: us) (some 1) none)) p2 = some (.lst us) := by rw [cut_from]; exact upd_same
    generalize upd H4 p2 (.lst (cutV (u :: us) (some 1) none)) = H5 at s5 hx2 hT ⊢
    have s6 := s5.trans (same_new hT (.tup [u, .ref p2]))
    have hx3 := same_new hT (.tup [u, .ref p2]) _ _ hx2
    have hT3 : upd H5 T (.tup [u, .ref p2]) T = some (.tup [u, .ref p2]) := upd_same
    generalize upd H5 T (.tup [u, .ref p2]) = H6 at s6 hx3 hT3 ⊢
    obtain ⟨a, rv', bv, ov, rfl, ha, tr, tb, to⟩ := qd_inv (tu.same s6)
    replace tus := TpAll.same tus s6
    replace s3 := s3.trans s6
    clear s5 s6 hx2 hT hp2 tu
    refine ⟨T, [.ref a, .ref p2], rfl, SqT.of hT3, rfl, .ref a, [.ref p2], rfl, a, [rv', bv, ov], rfl, SqT.of ha, rfl, rv', [bv, ov], rfl, bv, [ov], rfl, ov, [], rfl, rfl, .ref p2, [], rfl, rfl, ?_⟩
    refine ⟨_, rfl, td pb, tb, ok1.1.sh.mono (by decide), fun H7 s7 => ?_⟩
    rw [eqv_tip]
    replace tus := TpAll.same tus s7
    replace s3 := s3.trans s7
    replace hx3 := s7 _ _ hx3
    replace tr := tr.same s7
    replace tb := tb.same s7
    replace to := to.same s7
    clear s7 hT3 ha
    refine itb (fun eb => ?_) (fun eb => ?_)
    rotate_left
    · have hb : both pb po = false := by rw [both, ← Bool.not_eq_true] at *; simp_all
      rw [bfs_skip hb] at hq
      have := size_pos pb
      exact it0 ⟨weight qq, by simp only [weight]; omega, p2, qq, _, _, _, _, rfl, s3, ⟨us, hx3, tus⟩, okr, by simp only [weight] at wq; omega, hq, rfl⟩
    refine ⟨_, rfl, td po, to, ok1.2.1.sh.mono (by decide), fun H8 s8 => ?_⟩
    rw [eqv_tip]
    replace tus := TpAll.same tus s8
    replace s3 := s3.trans s8
    replace hx3 := s8 _ _ hx3
    replace tr := tr.same s8
    replace tb := tb.same s8
    replace to := to.same s8
    clear s8
    refine itb (fun eo => ?_) (fun eo => ?_)
    rotate_left
    · have hb : both pb po = false := by rw [both, ← Bool.not_eq_true] at *; simp_all
      rw [bfs_skip hb] at hq
      have := size_pos pb
      exact ⟨weight qq, by simp only [weight]; omega, p2, qq, _, _, _, _, rfl, s3, ⟨us, hx3, tus⟩, okr, by simp only [weight] at wq; omega, hq, rfl⟩
    have hb : both pb po = true := by rw [both]; simp_all
    refine ⟨_, rfl, _, rfl, _, _, pb, po, rfl, tb, to, ok1.1.wf, ok1.2.1.wf, fun H9 s9 => ⟨_, rfl, itb (fun e => ?_) (fun e => ?_)⟩⟩
    · rw [bfs_hit hb e] at hq
      exact ⟨_, rfl, q _ _ (s3.trans s9) (by rw [← hq]; exact tr.same s9)⟩
    obtain ⟨hw2, hgo⟩ := bfs_go (r := r) (q := qq) hb e
    rw [hgo] at hq
    obtain ⟨c, bs, es, rfl, rfl, el, ek⟩ := kids_eq (r := r) hb e
    rw [ek] at hq hw2
    replace tus := TpAll.same tus s9
    replace s3 := s3.trans s9
    replace hx3 := s9 _ _ hx3
    replace tr := tr.same s9
    replace tb := tb.same s9
    replace to := to.same s9
    clear s9 hgo ek
    obtain ⟨a1, v1, rfl, h1, n1, g1⟩ := Tr.nth tb
    obtain ⟨a2, v2, rfl, h2, n2, g2⟩ := Tr.nth to
    obtain ⟨ar, rfl, hr1⟩ := Rd'.inv tr
    have hn : ((v1.length : Int) - 1).toNat = (kidsFrom r 0 bs es).length := by rw [kidsFrom_len r 0 el, n1]; omega
    have hlb := ok1.1.len
    have hlr : r.length ≤ 12 := by have := ok1.2.2; dsimp only at this; omega
    refine ⟨_, rfl, _, rfl, a1, v1, rfl, .inr (SqT.of h1), _, _, rfl, rfl, _, rfl, by omega, by omega, fun D hD => ?_⟩
    rw [hn]
    refine lc_rangeD (j := 6) (ds := (kidsFrom r 0 bs es).map qd) (by rw [List.length_map]) (sz_small (by rw [List.length_map, kidsFrom_len r 0 el]; omega)) hD (fun i d Hi Q' hd si k => ?_) (fun Hf acc sf hacc hall => ?_)
    · rw [List.getElem?_map] at hd
      cases e1 : (kidsFrom r 0 bs es)[i]? with
      | none => rw [e1] at hd; cases hd
      | some z =>
        rw [e1] at hd
        obtain rfl := Option.some.inj hd
        obtain ⟨k1, k2, k3⟩ := kidsFrom_get r 0 e1
        obtain ⟨u1, hu1, tu1⟩ := g1 i _ k2
        obtain ⟨u2, hu2, tu2⟩ := g2 i _ k3
        refine ⟨_, rfl, _, rfl, sz rfl, fun P1 hP1 => ?_⟩
        have sP : Same Hi (upd Hi P1 (.tup [.int (i : Int)])) := same_new hP1 _
        refine ⟨ar, P1, _, _, rfl, rfl, sP _ _ (si _ _ hr1), upd_same, sz_small (by rw [List.length_map]; simp; omega), fun p5 H5 s5 hp5 => ?_⟩
        refine ⟨_, rfl, _, rfl, _, _, rfl, rfl, a1, v1, _, u1, rfl, rfl, SqT.of (s5 _ _ (sP _ _ (si _ _ h1))), atI_nat (j := i + 1) hu1, ?_⟩
        refine ⟨_, rfl, _, rfl, _, _, rfl, rfl, a2, v2, _, u2, rfl, rfl, SqT.of (s5 _ _ (sP _ _ (si _ _ h2))), atI_nat (j := i + 1) hu2, sz rfl, fun P2 hP2 => ?_⟩
        have s6 := (sP.trans s5).trans (same_new hP2 (.tup [.ref p5, u1, u2]))
        refine k _ _ s6 (.tup upd_same (.cons ?_ (.cons ((tu1.same si).same s6) (.cons ((tu2.same si).same s6) .nil))))
        have e2 : z.1 = r ++ [i] := by rw [k1, Nat.zero_add]
        rw [e2]
        exact Tp.same (Rd'.snoc hp5) (same_new hP2 _)
    · have e3 := hall.len
      have e4 := tus.len
      rw [List.length_map] at e3 e4
      have e5 := weight_ge (qq ++ kidsFrom r 0 bs es)
      rw [List.length_append] at e5
      refine ⟨p2, D, us, acc, rfl, rfl, sf _ _ hx3, hacc, sz_small (by omega), fun p hp => ?_⟩
      have sp := same_new hp (.lst (us ++ acc))
      refine ⟨weight (qq ++ kidsFrom r 0 bs es), hw2, p, qq ++ kidsFrom r 0 bs es, _, _, _, _, rfl, (s3.trans sf).trans sp, ⟨_, upd_same, ?_⟩, ?_, by omega, hq, rfl⟩
      · rw [List.map_append]
        exact TpAll.app ((TpAll.same tus sf).same sp) (hall.same sp)
      · intro z hz
        rcases List.mem_append.mp hz with hz | hz
        · exact okr z hz
        · obtain ⟨q1, q2⟩ := okb_kidsFrom ok1.1 ok1.2.1 hz
          refine ⟨q1, q2, ?_⟩
          obtain ⟨j, b', e', w1, w2, rfl⟩ := (mem_kidsFrom r).mp hz
          have w3 := knots_mem (List.mem_of_getElem? w1)
          have w4 := ok1.2.2
          simp only [knots, List.length_append, List.length_cons, List.length_nil] at w4 ⊢
          omega
end

end Tw
set_option Elab.async false
set_option linter.all false
set_option maxRecDepth 100000
set_option maxHeartbeats 4000000
namespace Tw
open PySem PySem.Spec PyProof.Rows L2
/-- a comprehension whose kept items' data are told -/
theorem lc_any {I : It} {n : Nat} {ds : List (Option PyData)} {vs : List Nat} {g : TG} {tt : TT} {te : TE} {σ : L2.St} {H1 : Hp} {D : Addr} {Qd : Hp → Prop} (hl : n = ds.length) (hz : ds.length ≤ sizeLine) (hD : H1 D = none)
    (step : ∀ (i : Nat) (d : Option PyData) (H : Hp) (Nx : VK) (Nn : Hp → Prop), ds[i]? = some d → Same H1 H → (∀ e y H4, d = some e → Same H H4 → Tp H4 y e → Nx y H4) → (∀ H4, d = none → Same H H4 → Nn H4) →
      I.go i H ∧ ∀ x H', I.yld i H x H' → g x (wipe σ vs) H' fun σ2 H2 => wipe σ2 vs = wipe σ vs ∧ tt σ2 H2 fun b H3 => if b = true then te σ2 H3 Nx else Nn H3)
    (stop : ∀ H, Same H1 H → I.stop n H)
    (fin : ∀ H acc, Same H1 H → H D = some (.lst acc) → TpAll H acc (keptD ds) → Qd H) :
    ∃ W : Nat → Nat → Hp → Prop, (∃ m, W 0 m (upd H1 D (.lst []))) ∧ ∀ i m H, W i m H →
      (I.stop i H ∧ Qd H) ∨ (I.go i H ∧ ∃ Nx : Hp → Prop, (∀ H', Nx H' → ∃ m', m' < m ∧ W (i + 1) m' H') ∧ ∀ x H', I.yld i H x H' → g x (wipe σ vs) H' fun σ2 H2 => wipe σ2 vs = wipe σ vs ∧ tt σ2 H2 fun b H3 =>
        if b = true then te σ2 H3 fun y H4 => ∃ acc, H4 D = some (.lst acc) ∧ acc.length < sizeLine ∧ Nx (upd H4 D (.lst (acc ++ [y]))) else Nx H3) := by
  refine ⟨fun i m H => m = n - i ∧ i ≤ n ∧ Same H1 H ∧ ∃ acc, H D = some (.lst acc) ∧ TpAll H acc (keptD (ds.take i)), ⟨n, by simp, Nat.zero_le _, same_new hD _, [], upd_same, .nil⟩, ?_⟩
  rintro i m H ⟨rfl, hi, s1, acc, hacc, hall⟩
  by_cases hlt : i < n
  · have hd : ds[i]? = some (ds[i]'(by omega)) := List.getElem?_eq_getElem (by omega)
    generalize ds[i]'(by omega) = d at hd
    have hk : keptD (ds.take (i + 1)) = keptD (ds.take i) ++ d.toList := by
      unfold keptD
      rw [List.take_add_one, hd, Option.toList_some, List.filterMap_append]
      cases d <;> rfl
    have k1 : ∀ e y H4, d = some e → Same H H4 → Tp H4 y e → ∃ acc, H4 D = some (.lst acc) ∧ acc.length < sizeLine ∧ (Same H1 (upd H4 D (.lst (acc ++ [y]))) ∧ ∃ acc', upd H4 D (.lst (acc ++ [y])) D = some (.lst acc') ∧ TpAll (upd H4 D (.lst (acc ++ [y]))) acc' (keptD (ds.take (i + 1)))) := fun e y H4 ed s4 hy => by
      have hacc4 := s4 D _ hacc
      refine ⟨acc, hacc4, ?_, ?_, acc ++ [y], upd_same, ?_⟩
      · have h1 := hall.len
        have h2 : (keptD (ds.take i)).length ≤ i := Nat.le_trans (List.length_filterMap_le _ _) (by rw [List.length_take]; omega)
        omega
      · exact upd_list_same (acc := acc) hD fun b u q => s4 b u (s1 b u q)
      · rw [hk, ed]
        exact TpAll.app ((hall.same s4).keep (kp_upd hacc4)) (.cons (hy.keep (kp_upd hacc4)) .nil)
    have k2 : ∀ H4, d = none → Same H H4 → (Same H1 H4 ∧ ∃ acc, H4 D = some (.lst acc) ∧ TpAll H4 acc (keptD (ds.take (i + 1)))) := fun H4 ed s4 => by
      refine ⟨fun b u q => s4 b u (s1 b u q), acc, s4 D _ hacc, ?_⟩
      rw [hk, ed]
      show TpAll H4 acc (keptD (ds.take i) ++ [])
      rw [List.append_nil]
      exact hall.same s4
    obtain ⟨g1, g2⟩ := step i d H _ _ hd s1 k1 k2
    exact .inr ⟨g1, fun H' => Same H1 H' ∧ ∃ acc, H' D = some (.lst acc) ∧ TpAll H' acc (keptD (ds.take (i + 1))), fun H' p => ⟨n - (i + 1), by omega, rfl, hlt, p⟩, g2⟩
  · have e : i = n := by omega
    subst e
    rw [hl, List.take_length] at hall
    exact .inl ⟨stop H s1, fin H acc s1 hacc hall⟩
theorem tYes_go {te : TE} {σ : L2.St} {H : Hp} {Nx : VK} {Nn : Hp → Prop} (h : te σ H Nx) : tYes σ H fun b H3 => if b = true then te σ H3 Nx else Nn H3 := by
  unfold tYes
  dsimp only
  rw [if_pos rfl]
  exact h
/-- what a lot's pair is -/
def ldd (x : Nat × T) : PyData := .tuple [.int (x.1 : Nat), td x.2]
def lotd (l : List (Nat × T)) : PyData := .tuple (l.map ldd)
def lotO (i : Nat) (t : T) : Option PyData := if t = .tip then none else some (ldd (i, t))
def lotOs : Nat → List T → List (Option PyData)
  | _, [] => []
  | i, t :: r => lotO i t :: lotOs (i + 1) r
theorem lotOs_len : ∀ (i : Nat) (ts : List T), (lotOs i ts).length = ts.length
  | _, [] => rfl
  | i, t :: r => by rw [lotOs, List.length_cons, List.length_cons, lotOs_len (i + 1) r]
theorem lotOs_get : ∀ (i : Nat) (ts : List T) (j : Nat) (d : Option PyData), (lotOs i ts)[j]? = some d → ∃ t, ts[j]? = some t ∧ d = lotO (i + j) t
  | _, [], j, d, h => by simp [lotOs] at h
  | i, t :: r, 0, d, h => ⟨t, rfl, by simpa [lotOs] using h.symm⟩
  | i, t :: r, j + 1, d, h => by
    obtain ⟨t', h1, h2⟩ := lotOs_get (i + 1) r j d (by simpa [lotOs] using h)
    exact ⟨t', by simpa using h1, by rw [h2, show i + 1 + j = i + (j + 1) by omega]⟩
theorem lotOs_kept : ∀ (i : Nat) (ts : List T), keptD (lotOs i ts) = (lotFrom i ts).map ldd
  | _, [] => rfl
  | i, t :: r => by
    have ih := lotOs_kept (i + 1) r
    rw [lotOs, lotFrom, lotO]
    by_cases h : t = .tip
    · rw [if_pos h, if_pos h]
      exact ih
    · rw [if_neg h, if_neg h]
      show ldd (i, t) :: keptD (lotOs (i + 1) r) = _
      rw [ih]; rfl
end Tw
set_option Elab.async false
set_option linter.all false
set_option maxRecDepth 100000
set_option maxHeartbeats 4000000
namespace Tw
open PySem PySem.Spec PyProof.Rows L2
/-! ### is_top -/
def spIsTop (K : PySem.W.Frag) : Sp := fun vs H Q E => ∃ (x y : V), vs = [x, y] ∧ Two K x y H E fun b o => ∀ H', Same H H' → Q (.bl (isTop b o)) H'
theorem Good.few {H : Hp} {v : V} {t : T} (g : Good H v t) : knots t < 13 := by have := g.ok.few; omega
abbrev Nis_top : List Str := ["bush", "other"]
theorem scis_top : FnScope Nis_top ["bush", "other"] (defScope (top 38)) := ⟨rfl, rfl, rfl, by decide +kernel, rfl, by decide +kernel, by decide +kernel⟩
theorem hiis_top {K : PySem.W.Frag} {mg : Str → Option Value} (T : Txt K mg) : ∃ f fd, FunD K "is_top" "is_top" (defArgs (top 38)) (defBody (top 38)) (defScope (top 38)) [] [] f fd ∧ mg "is_top" = some (.ref f) := T.df "is_top" 38 (by decide)
section
variable {P : Program} {w : World} {K : PySem.W.Frag} {mg : Str → Option Value} {base : Heap}
theorem okis_top (T : Txt K mg) (cneed_both : Cal P w K mg base 5 "need_both" (spNeedBoth K)) (cis_top_of : Cal P w K mg base 14 "is_top_of" (spTopOf 13)) : Cal P w K mg base (14 + 1) "is_top" (spIsTop K) := by
  refine cal_of (hiis_top T) scis_top (fun _ _ _ _ _ _ us hl => match us, hl with | [_, _], _ => rfl) (fun vs H Q E h => ?_) (fun f cdv A outer s H vs Q E hr h => ?_)
  · obtain ⟨_, _, rfl, _⟩ := h; rfl
  refine ⟨_, (pss_cons (ps_expr (pe_clX cneed_both hr (by omega) (passes_call (takes_of rfl rfl rfl rfl) (fun _ _ _ _ h => h)) rfl (pa_cons (pv 0) (pa_cons (pv 1) pa_nil))))
      (pss_one (ps_ret (pe_cl cis_top_of hr (by omega) rfl (pa_cons (pv 0) (pa_cons (pv 1) pa_nil)))))), ?_⟩
  obtain ⟨x, y, rfl, q⟩ := h
  rcases q with ⟨b, o, gb, go, q⟩ | q
  · exact ⟨_, rfl, _, rfl, _, _, rfl, .inl ⟨b, o, gb, go, fun H1 s1 => ⟨_, rfl, _, rfl, _, _, b, o, rfl, gb.same s1, go.same s1, gb.few, fun H2 s2 => q _ (s1.trans s2)⟩⟩⟩
  · exact ⟨_, rfl, _, rfl, _, _, rfl, .inr q⟩
end

/-! ### count_tops -/
def spCountTops (K : PySem.W.Frag) : Sp := fun vs H Q E => ∃ (x : V), vs = [x] ∧ ((∃ t, Good H x t ∧ ∀ H', Same H H' → Q (.int (topsN t : Nat)) H') ∨ (Bad H x ∧ ∀ H', Same H H' → E (.ref (cB K)) none H'))
abbrev Ncount_tops : List Str := ["bush"]
theorem sccount_tops : FnScope Ncount_tops ["bush"] (defScope (top 40)) := ⟨rfl, rfl, rfl, by decide +kernel, rfl, by decide +kernel, by decide +kernel⟩
theorem hicount_tops {K : PySem.W.Frag} {mg : Str → Option Value} (T : Txt K mg) : ∃ f fd, FunD K "count_tops" "count_tops" (defArgs (top 40)) (defBody (top 40)) (defScope (top 40)) [] [] f fd ∧ mg "count_tops" = some (.ref f) := T.df "count_tops" 40 (by decide)
section
variable {P : Program} {w : World} {K : PySem.W.Frag} {mg : Str → Option Value} {base : Heap}
theorem okcount_tops (T : Txt K mg) (cneed_bush : Cal P w K mg base 4 "need_bush" (spNeedBush K)) (ctops_in : Cal P w K mg base 14 "tops_in" (spTopsN 13)) : Cal P w K mg base (14 + 1) "count_tops" (spCountTops K) := by
  refine cal_of (hicount_tops T) sccount_tops (fun _ _ _ _ _ _ us hl => match us, hl with | [_], _ => rfl) (fun vs H Q E h => ?_) (fun f cdv A outer s H vs Q E hr h => ?_)
  · obtain ⟨_, rfl, _⟩ := h; rfl
  refine ⟨_, (pss_cons (ps_expr (pe_clX cneed_bush hr (by omega) (passes_call (takes_of rfl rfl rfl rfl) (fun _ _ _ _ h => h)) rfl (pa_cons (pv 0) pa_nil)))
      (pss_one (ps_ret (pe_cl ctops_in hr (by omega) rfl (pa_cons (pv 0) pa_nil))))), ?_⟩
  obtain ⟨x, rfl, q⟩ := h
  rcases q with ⟨t, g, q⟩ | q
  · exact ⟨_, rfl, _, rfl, .inl ⟨t, g, fun H1 s1 => ⟨_, rfl, _, t, rfl, g.same s1, g.few, fun H2 s2 => q _ (s1.trans s2)⟩⟩⟩
  · exact ⟨_, rfl, _, rfl, .inr q⟩
end

/-! ### common_top -/
def spCommon (K : PySem.W.Frag) : Sp := fun vs H Q E => ∃ (x y : V), vs = [x, y] ∧ Two K x y H E fun b o => ∀ v H', Same H H' → Tr H' v (met b o) → Q v H'
abbrev Ncommon_top : List Str := ["bush", "other"]
theorem sccommon_top : FnScope Ncommon_top ["bush", "other"] (defScope (top 41)) := ⟨rfl, rfl, rfl, by decide +kernel, rfl, by decide +kernel, by decide +kernel⟩
theorem hicommon_top {K : PySem.W.Frag} {mg : Str → Option Value} (T : Txt K mg) : ∃ f fd, FunD K "common_top" "common_top" (defArgs (top 41)) (defBody (top 41)) (defScope (top 41)) [] [] f fd ∧ mg "common_top" = some (.ref f) := T.df "common_top" 41 (by decide)
section
variable {P : Program} {w : World} {K : PySem.W.Frag} {mg : Str → Option Value} {base : Heap}
theorem okcommon_top (T : Txt K mg) (cneed_both : Cal P w K mg base 5 "need_both" (spNeedBoth K)) (cmet_by : Cal P w K mg base 14 "met_by" (spMet 13)) : Cal P w K mg base (14 + 1) "common_top" (spCommon K) := by
  refine cal_of (hicommon_top T) sccommon_top (fun _ _ _ _ _ _ us hl => match us, hl with | [_, _], _ => rfl) (fun vs H Q E h => ?_) (fun f cdv A outer s H vs Q E hr h => ?_)
  · obtain ⟨_, _, rfl, _⟩ := h; rfl
  refine ⟨_, (pss_cons (ps_expr (pe_clX cneed_both hr (by omega) (passes_call (takes_of rfl rfl rfl rfl) (fun _ _ _ _ h => h)) rfl (pa_cons (pv 0) (pa_cons (pv 1) pa_nil))))
      (pss_one (ps_ret (pe_cl cmet_by hr (by omega) rfl (pa_cons (pv 0) (pa_cons (pv 1) pa_nil)))))), ?_⟩
  obtain ⟨x, y, rfl, q⟩ := h
  rcases q with ⟨b, o, gb, go, q⟩ | q
  · exact ⟨_, rfl, _, rfl, _, _, rfl, .inl ⟨b, o, gb, go, fun H1 s1 => ⟨_, rfl, _, rfl, _, _, b, o, rfl, gb.same s1, go.same s1, gb.few, fun v H2 s2 t => q v _ (s1.trans s2) t⟩⟩⟩
  · exact ⟨_, rfl, _, rfl, _, _, rfl, .inr q⟩
end

/-! ### clash_road -/
def spRoad (K : PySem.W.Frag) : Sp := fun vs H Q E => ∃ (x y : V), vs = [x, y] ∧ Two K x y H E fun b o => ∀ v H', Same H H' → Tp H' v (optd (clash b o)) → Q v H'
abbrev Nclash_road : List Str := ["bush", "other"]
theorem scclash_road : FnScope Nclash_road ["bush", "other"] (defScope (top 43)) := ⟨rfl, rfl, rfl, by decide +kernel, rfl, by decide +kernel, by decide +kernel⟩
theorem hiclash_road {K : PySem.W.Frag} {mg : Str → Option Value} (T : Txt K mg) : ∃ f fd, FunD K "clash_road" "clash_road" (defArgs (top 43)) (defBody (top 43)) (defScope (top 43)) [] [] f fd ∧ mg "clash_road" = some (.ref f) := T.df "clash_road" 43 (by decide)
section
variable {P : Program} {w : World} {K : PySem.W.Frag} {mg : Str → Option Value} {base : Heap}
theorem okclash_road (T : Txt K mg) (cneed_both : Cal P w K mg base 5 "need_both" (spNeedBoth K)) (cclash_by : Cal P w K mg base 14 "clash_by" spClash) : Cal P w K mg base (14 + 1) "clash_road" (spRoad K) := by
  refine cal_of (hiclash_road T) scclash_road (fun _ _ _ _ _ _ us hl => match us, hl with | [_, _], _ => rfl) (fun vs H Q E h => ?_) (fun f cdv A outer s H vs Q E hr h => ?_)
  · obtain ⟨_, _, rfl, _⟩ := h; rfl
  refine ⟨_, (pss_cons (ps_expr (pe_clX cneed_both hr (by omega) (passes_call (takes_of rfl rfl rfl rfl) (fun _ _ _ _ h => h)) rfl (pa_cons (pv 0) (pa_cons (pv 1) pa_nil))))
      (pss_one (ps_ret (pe_cl cclash_by hr (by omega) rfl (pa_cons (pv 0) (pa_cons (pv 1) pa_nil)))))), ?_⟩
  obtain ⟨x, y, rfl, q⟩ := h
  rcases q with ⟨b, o, gb, go, q⟩ | q
  · exact ⟨_, rfl, _, rfl, _, _, rfl, .inl ⟨b, o, gb, go, fun H1 s1 => ⟨_, rfl, _, rfl, _, _, b, o, rfl, gb.same s1, go.same s1, fun v H2 s2 t => q v _ (s1.trans s2) t⟩⟩⟩
  · exact ⟨_, rfl, _, rfl, _, _, rfl, .inr q⟩
end

/-! ### joined_tops -/
/-- a bush, or None -/
def opt : Option T → PyData
  | none => .none
  | some t => td t
def joinO (b o : T) : Option T := if agree b o = true then some (joined b o) else none
def spJoin (K : PySem.W.Frag) : Sp := fun vs H Q E => ∃ (x y : V), vs = [x, y] ∧ Two K x y H E fun b o => ∀ v H', Same H H' → Tp H' v (opt (joinO b o)) → Q v H'
abbrev Njoined_tops : List Str := ["bush", "other"]
theorem scjoined_tops : FnScope Njoined_tops ["bush", "other"] (defScope (top 42)) := ⟨rfl, rfl, rfl, by decide +kernel, rfl, by decide +kernel, by decide +kernel⟩
theorem hijoined_tops {K : PySem.W.Frag} {mg : Str → Option Value} (T : Txt K mg) : ∃ f fd, FunD K "joined_tops" "joined_tops" (defArgs (top 42)) (defBody (top 42)) (defScope (top 42)) [] [] f fd ∧ mg "joined_tops" = some (.ref f) := T.df "joined_tops" 42 (by decide)
section
variable {P : Program} {w : World} {K : PySem.W.Frag} {mg : Str → Option Value} {base : Heap}
theorem okjoined_tops (T : Txt K mg) (cneed_both : Cal P w K mg base 5 "need_both" (spNeedBoth K)) (cclash_by : Cal P w K mg base 14 "clash_by" spClash) (cjoined_by : Cal P w K mg base 14 "joined_by" (spJoined 13)) : Cal P w K mg base (14 + 1) "joined_tops" (spJoin K) := by
  refine cal_of (hijoined_tops T) scjoined_tops (fun _ _ _ _ _ _ us hl => match us, hl with | [_, _], _ => rfl) (fun vs H Q E h => ?_) (fun f cdv A outer s H vs Q E hr h => ?_)
  · obtain ⟨_, _, rfl, _⟩ := h; rfl
  refine ⟨_, (pss_cons (ps_expr (pe_clX cneed_both hr (by omega) (passes_call (takes_of rfl rfl rfl rfl) (fun _ _ _ _ h => h)) rfl (pa_cons (pv 0) (pa_cons (pv 1) pa_nil))))
      (pss_one (ps_ret (pe_ifExp (pt_cmp (pc_isN (pe_cl cclash_by hr (by omega) rfl (pa_cons (pv 0) (pa_cons (pv 1) pa_nil)))) rfl) (pe_cl cjoined_by hr (by omega) rfl (pa_cons (pv 0) (pa_cons (pv 1) pa_nil))) pe_non)))), ?_⟩
  obtain ⟨x, y, rfl, q⟩ := h
  rcases q with ⟨b, o, gb, go, q⟩ | q
  · refine ⟨_, rfl, _, rfl, _, _, rfl, .inl ⟨b, o, gb, go, fun H1 s1 => ⟨_, rfl, _, rfl, _, _, b, o, rfl, gb.same s1, go.same s1, fun v H2 s2 t => ?_⟩⟩⟩
    cases e : clash b o with
    | none =>
      rw [e] at t
      have z : v = .non := by cases t; rfl
      subst z
      have ag : agree b o = true := by rw [← clash_none]; exact e
      exact ⟨_, rfl, it1 ⟨_, rfl, _, rfl, _, _, b, o, rfl, (gb.same s1).same s2, (go.same s1).same s2, ag, gb.few, fun v' H3 s3 tv => q v' _ ((s1.trans s2).trans s3) (by rw [joinO, if_pos ag]; exact tv)⟩⟩
    | some r =>
      rw [e] at t
      obtain ⟨a, rfl, _⟩ := Rd'.inv t
      have ag : ¬ agree b o = true := by rw [← clash_none, e]; exact fun z => by cases z
      exact ⟨_, rfl, it0 (q _ _ (s1.trans s2) (by rw [joinO, if_neg ag]; exact .non))⟩
  · exact ⟨_, rfl, _, rfl, _, _, rfl, .inr q⟩
end

end Tw
set_option Elab.async false
set_option linter.all false
set_option maxRecDepth 100000
set_option maxHeartbeats 4000000
namespace Tw
open PySem PySem.Spec PyProof.Rows L2
/-! ### lot_between -/
def lotO' (b o : T) : PyData := if isTop b o = true then lotd (lotFrom 0 (partsAt b o)) else .none
theorem Okb.part {n : Nat} {b o t : T} (h : isTop b o = true) (ho : Okb n o) (ht : t ∈ partsAt b o) : Okb n t := by
  refine ⟨wf_parts b o ho.wf t ht, ?_⟩
  have h1 := knots_parts b o h
  have h2 := knots_mem ht
  have h3 := ho.few
  omega
def spLot (K : PySem.W.Frag) : Sp := fun vs H Q E => ∃ (x y : V), vs = [x, y] ∧ Two K x y H E fun b o => ∀ v H', Same H H' → Tp H' v (lotO' b o) → Q v H'
abbrev Nlot_between : List Str := ["bush", "other", "number", "part"]
theorem sclot_between : FnScope Nlot_between ["bush", "other"] (defScope (top 39)) := ⟨rfl, rfl, rfl, by decide +kernel, rfl, by decide +kernel, by decide +kernel⟩
theorem hilot_between {K : PySem.W.Frag} {mg : Str → Option Value} (T : Txt K mg) : ∃ f fd, FunD K "lot_between" "lot_between" (defArgs (top 39)) (defBody (top 39)) (defScope (top 39)) [] [] f fd ∧ mg "lot_between" = some (.ref f) := T.df "lot_between" 39 (by decide)
section
variable {P : Program} {w : World} {K : PySem.W.Frag} {mg : Str → Option Value} {base : Heap}
theorem oklot_between (T : Txt K mg) (cneed_both : Cal P w K mg base 5 "need_both" (spNeedBoth K)) (cis_top_of : Cal P w K mg base 14 "is_top_of" (spTopOf 13)) (cparts_at_tips : Cal P w K mg base 14 "parts_at_tips" (spParts 13)) : Cal P w K mg base (14 + 1) "lot_between" (spLot K) := by
  refine cal_of (hilot_between T) sclot_between (fun _ _ _ _ _ _ us hl => match us, hl with | [_, _], _ => rfl) (fun vs H Q E h => ?_) (fun f cdv A outer s H vs Q E hr h => ?_)
  · obtain ⟨_, _, rfl, _⟩ := h; rfl
  refine ⟨_, (pss_cons (ps_expr (pe_clX cneed_both hr (by omega) (passes_call (takes_of rfl rfl rfl rfl) (fun _ _ _ _ h => h)) rfl (pa_cons (pv 0) (pa_cons (pv 1) pa_nil))))
      (pss_cons (ps_if (pt_not (pt_val (pe_cl cis_top_of hr (by omega) rfl (pa_cons (pv 0) (pa_cons (pv 1) pa_nil))))) (pss_one (ps_ret pe_non)) pss_nil)
      (pss_one (ps_ret (pe_callTy call_tuple_of (by rfl) (T.fr "tuple" (by simp)) (by decide +kernel) (pa_cons (pe_lc (own := [("number", 2), ("part", 3)]) (g := gTup K 2 (gCons (gName 2) (gCons (gName 3) gNil))) rfl sclot_between.nd (pi_enum (by rfl) (T.fr "enumerate" (by simp)) (pa_cons (pe_cl cparts_at_tips hr (by omega) rfl (pa_cons (pv 0) (pa_cons (pv 1) pa_nil))) pa_nil)) (blkOk_by (own := [("number", 2), ("part", 3)]) (N := Nlot_between) (sc := defScope (top 39)) (by decide +kernel)) (fun _ _ _ _ _ => (by exact (pg_tup rfl (pgs_cons (pg_name (i := 2) sclot_between.nd rfl (Or.inl rfl)) (pgs_cons (pg_name (i := 3) sclot_between.nd rfl (Or.inl rfl)) pgs_nil))))) (fun _ _ _ _ _ => (pts_one (pt_ne0 hr.units (pv 3)))) (fun _ _ _ _ _ => (pe_tup (pa_cons (pv 2) (pa_cons (pv 3) pa_nil))))) pa_nil)))))), ?_⟩
  obtain ⟨x, y, rfl, q⟩ := h
  rcases q with ⟨b, o, gb, go, q⟩ | q
  · refine ⟨_, rfl, _, rfl, _, _, rfl, .inl ⟨b, o, gb, go, fun H1 s1 => ⟨_, rfl, _, rfl, _, _, b, o, rfl, gb.same s1, go.same s1, gb.few, fun H2 s2 => ⟨_, rfl, itb (fun e => ?_) (fun e => ?_)⟩⟩⟩⟩
    · have e' : ¬ isTop b o = true := by simpa using e
      exact q _ _ (s1.trans s2) (by rw [lotO', if_neg e']; exact .non)
    have e' : isTop b o = true := by simpa using e
    rw [lotO', if_pos e'] at q
    refine ⟨_, rfl, _, rfl, _, _, b, o, rfl, (gb.same s1).same s2, (go.same s1).same s2, e', gb.few, fun p H3 s3 ⟨xs, hx, tx⟩ => ⟨p, xs, rfl, SqL.of hx, fun D hD => ?_⟩⟩
    have s123 := (s1.trans s2).trans s3
    have hn : xs.length = (partsAt b o).length := TrL.len tx
    have h61 := tips_small gb.ok
    have hpl := partsAt_len b o e'
    refine lc_any (I := Ite K p) (n := xs.length) (ds := lotOs 0 (partsAt b o)) (by rw [hn, lotOs_len]) (sz_small (by rw [lotOs_len]; omega)) hD (fun i d Hi Nx Nn hd si k1 k2 => ?_) (fun Hi si => ⟨xs, SqL.of (si _ _ hx), Nat.le_refl _⟩) (fun Hf acc sf hacc hall => ?_)
    · obtain ⟨t, ht, rfl⟩ := lotOs_get 0 _ _ _ hd
      obtain ⟨u, hu⟩ : ∃ u, xs[i]? = some u := ⟨_, List.getElem?_eq_getElem (by rw [hn]; exact (List.getElem?_eq_some_iff.mp ht).1)⟩
      have tu := (TrL.at tx hu ht).same si
      have okt : Okb 12 t := Okb.part e' go.ok (List.mem_of_getElem? ht)
      refine ⟨⟨xs, u, SqL.of (si _ _ hx), hu⟩, fun v' H' yl => ?_⟩
      obtain ⟨T, x', rfl, hT, rfl, f1⟩ := yl
      have ex := f1 xs (SqL.of (si _ _ hx))
      rw [hu] at ex
      obtain rfl := Option.some.inj ex
      have sT := same_new hT (.tup [.int (i : Nat), u])
      refine ⟨T, [.int (i : Nat), u], rfl, SqT.of upd_same, rfl, _, [u], rfl, u, [], rfl, rfl, rfl, ?_⟩
      refine ⟨_, rfl, td t, tu.same sT, okt.sh.mono (by decide), fun H4 s4 => ?_⟩
      rw [eqv_tip]
      rw [Nat.zero_add] at k1 k2
      refine itb (fun et => ?_) (fun et => ?_)
      · have et : t ≠ .tip := by simpa using et
        refine ⟨_, rfl, _, rfl, sz rfl, fun m hm => ?_⟩
        have sm := (sT.trans s4).trans (same_new hm (.tup [.int (i : Nat), u]))
        refine k1 (ldd (i, t)) _ _ (by rw [lotO, if_neg et]) sm ?_
        exact .tup upd_same (.cons (.int _) (.cons (tu.same sm) .nil))
      · have et : t = .tip := by simpa using et
        exact k2 _ (by rw [lotO, if_pos et]) (sT.trans s4)
    · rw [lotOs_kept] at hall
      refine ⟨D, _, rfl, .inl ⟨SqL.of hacc, fun m hm => ?_⟩⟩
      have sm := same_new hm (.tup acc)
      exact q _ _ ((s123.trans sf).trans sm) (.tup upd_same (hall.same sm))
  · exact ⟨_, rfl, _, rfl, _, _, rfl, .inr q⟩
end

end Tw
set_option Elab.async false
set_option linter.all false
set_option maxRecDepth 100000
set_option maxHeartbeats 4000000
namespace Tw
open PySem PySem.Spec PyProof.Rows L2
/-! ### fits_graft -/
def spFitsGraft : Sp := fun vs H Q _ => ∃ (x : V) (p : Nat × T), vs = [x] ∧ Tp H x (ldd p) ∧ p.1 ≤ 100 ∧ Okb 12 p.2 ∧ ∀ H', Same H H' → Q (.bl true) H'
theorem ldd_inv {H : Hp} {v : V} {p : Nat × T} (h : Tp H v (ldd p)) : ∃ a u, v = .ref a ∧ H a = some (.tup [.int (p.1 : Nat), u]) ∧ Tr H u p.2 := by
  rw [ldd] at h
  cases h with
  | tup e t =>
    cases t with
    | cons h1 t =>
      cases t with
      | cons h2 t => cases t; cases h1; exact ⟨_, _, rfl, e, h2⟩
theorem lotd_inv {H : Hp} {v : V} {g : List (Nat × T)} (h : Tp H v (lotd g)) : ∃ a xs, v = .ref a ∧ H a = some (.tup xs) ∧ TpAll H xs (g.map ldd) := by
  rw [lotd] at h
  cases h with
  | tup e t => exact ⟨_, _, rfl, e, t⟩
abbrev Nfits_graft : List Str := ["value"]
theorem scfits_graft : FnScope Nfits_graft ["value"] (defScope (top 22)) := ⟨rfl, rfl, rfl, by decide +kernel, rfl, by decide +kernel, by decide +kernel⟩
theorem hifits_graft {K : PySem.W.Frag} {mg : Str → Option Value} (T : Txt K mg) : ∃ f fd, FunD K "fits_graft" "fits_graft" (defArgs (top 22)) (defBody (top 22)) (defScope (top 22)) [] [] f fd ∧ mg "fits_graft" = some (.ref f) := T.df "fits_graft" 22 (by decide)
section
variable {P : Program} {w : World} {K : PySem.W.Frag} {mg : Str → Option Value} {base : Heap}
theorem okfits_graft (T : Txt K mg) (cis_tuple_of : Cal P w K mg base 1 "is_tuple_of" spTupOf) (cis_whole : Cal P w K mg base 1 "is_whole" spWhole) (cfits_bush : Cal P w K mg base 3 "fits_bush" spFitsBush) : Cal P w K mg base (3 + 1) "fits_graft" (spFitsGraft) := by
  refine cal_nox (hifits_graft T) scfits_graft (fun _ _ _ _ _ _ us hl => match us, hl with | [_], _ => rfl) (fun vs H Q E h => ?_) (fun f cdv A outer s H vs Q E hr h => ?_)
  · obtain ⟨_, _, rfl, _⟩ := h; rfl
  refine ⟨_, (pss_one (ps_ret (pe_and (pe_cl cis_tuple_of hr (by omega) rfl (pa_cons (pv 0) (pa_cons pe_int (pa_cons pe_int pa_nil)))) (pe_and (pe_cl cis_whole hr (by omega) rfl (pa_cons (pe_ix ix_tup (pv 0) pe_int (fun _ _ => rfl)) (pa_cons pe_int (pa_cons (pe_gi (n := 100) (T.gi ("NUMBERS", 100) (by simp)) rfl) pa_nil)))) (pe_one (pe_cl cfits_bush hr (by omega) rfl (pa_cons (pe_ix ix_tup (pv 0) pe_int (fun _ _ => rfl)) pa_nil))))))), ?_⟩
  obtain ⟨x, ⟨n, t⟩, rfl, tx, hn, ok, q⟩ := h
  obtain ⟨a, u, rfl, ha, tu⟩ := ldd_inv tx
  have g : Good H u t := ⟨tu, ok⟩
  refine ⟨_, rfl, _, _, _, rfl, .inl ⟨a, _, rfl, ha, ?_⟩⟩
  refine ⟨true, rfl, it1 ⟨_, rfl, a, _, 0, _, rfl, rfl, SqT.of ha, atI_nat (j := 0) rfl, _, _, _, rfl, ?_⟩⟩
  have e : (decide ((0 : Int) ≤ (n : Nat)) && decide (((n : Nat) : Int) ≤ 100)) = true := by
    dsimp only at hn
    rw [decide_eq_true (by omega), decide_eq_true (by omega)]; rfl
  exact ⟨true, congrArg V.bl e, it1 ⟨_, rfl, a, _, 1, _, rfl, rfl, SqT.of ha, atI_nat (j := 1) rfl, _, rfl, .inl ⟨t, tu, ok.wf, g.size.1, g.size.2, fun H' s => q H' s⟩⟩⟩
end

/-! ### fits_grafts -/
/-- a row of grafts that fits -/
structure Okg (g : List (Nat × T)) : Prop where
  len : g.length ≤ 12
  num : ∀ p ∈ g, p.1 ≤ 100 ∧ Okb 12 p.2
  few : knotsL (g.map (·.2)) ≤ 12
def spFitsGrafts : Sp := fun vs H Q _ => ∃ (x : V) (g : List (Nat × T)), vs = [x] ∧ Tp H x (lotd g) ∧ Okg g ∧ ∀ H', Same H H' → Q (.bl true) H'
theorem g_get {α : Type} {f : Nat × T → α} {g : List (Nat × T)} {i : Nat} {d : α} (h : (g.map f)[i]? = some d) : ∃ p, g[i]? = some p ∧ d = f p := by
  rw [List.getElem?_map] at h
  cases e : g[i]? with
  | none => rw [e] at h; cases h
  | some b => rw [e] at h; exact ⟨b, rfl, (Option.some.inj h).symm⟩
theorem g_val {H : Hp} {xs : List V} {g : List (Nat × T)} {i : Nat} {v : V} {p : Nat × T} (t : TpAll H xs (g.map ldd)) (hv : xs[i]? = some v) (hp : g[i]? = some p) : Tp H v (ldd p) := by
  obtain ⟨y, hy, ty⟩ := t.get (i := i) (d := ldd p) (by rw [List.getElem?_map, hp]; rfl)
  rw [hv] at hy
  cases hy
  exact ty
theorem all_true {α : Type} (g : List α) : ((g.map fun _ => true).all id) = true := by
  rw [List.all_map]; exact List.all_eq_true.mpr fun _ _ => rfl
theorem sum_castG (f : Nat × T → Nat) : ∀ g : List (Nat × T), (g.map fun b => ((f b : Nat) : Int)).sum = (((g.map f).sum : Nat) : Int)
  | [] => rfl
  | b :: r => by rw [List.map_cons, List.sum_cons, sum_castG f r, List.map_cons, List.sum_cons]; omega
theorem g_sizes : ∀ g : List (Nat × T), (∀ p ∈ g, wf p.2 = true) → (g.map fun p => knots p.2 + tips p.2).sum ≤ g.length + 6 * knotsL (g.map (·.2)) ∧ (g.map fun p => height p.2).sum ≤ knotsL (g.map (·.2))
  | [], _ => ⟨Nat.le_refl _, Nat.le_refl _⟩
  | p :: g, h => by
    obtain ⟨h1, h2⟩ := g_sizes g fun q hq => h q (List.mem_cons_of_mem _ hq)
    have h3 := tips_le (h p List.mem_cons_self)
    have h4 := height_le_knots p.2
    simp only [List.map_cons, List.sum_cons, List.length_cons, knotsL]
    omega
/-- [e for x, y in t] over a tuple of pairs -/
theorem lc_gtup {K : PySem.W.Frag} {a : Addr} {xs : List V} {g : List (Nat × T)} {f : Nat × T → PyData} {j k : Nat} {te : TE} {σ : L2.St} {H1 : Hp} {D : Addr} {Qd : Hp → Prop} (hx : H1 a = some (.tup xs)) (tx : TpAll H1 xs (g.map ldd)) (hz : g.length ≤ sizeLine) (hD : H1 D = none)
    (hw : ∀ x y, wipe (((wipe σ [j, k]).set j (some x)).set k (some y)) [j, k] = wipe σ [j, k])
    (step : ∀ (p : Nat × T) (u : V) (H : Hp) (Q' : VK), p ∈ g → Tr H u p.2 → Same H1 H → (∀ z H4, Same H H4 → Tp H4 z (f p) → Q' z H4) → te (((wipe σ [j, k]).set j (some (.int (p.1 : Nat)))).set k (some u)) H Q')
    (fin : ∀ H acc, Same H1 H → H D = some (.lst acc) → TpAll H acc (g.map f) → Qd H) :
    ∃ W : Nat → Nat → Hp → Prop, (∃ m, W 0 m (upd H1 D (.lst []))) ∧ ∀ i m H, W i m H →
      ((Itt K a).stop i H ∧ Qd H) ∨ ((Itt K a).go i H ∧ ∃ Nx : Hp → Prop, (∀ H', Nx H' → ∃ m', m' < m ∧ W (i + 1) m' H') ∧ ∀ x H', (Itt K a).yld i H x H' → gTup K 2 (gCons (gName j) (gCons (gName k) gNil)) x (wipe σ [j, k]) H' fun σ2 H2 => wipe σ2 [j, k] = wipe σ [j, k] ∧ tYes σ2 H2 fun b H3 =>
        if b = true then te σ2 H3 fun y H4 => ∃ acc, H4 D = some (.lst acc) ∧ acc.length < sizeLine ∧ Nx (upd H4 D (.lst (acc ++ [y]))) else Nx H3) := by
  have hl := tx.len
  rw [List.length_map] at hl
  have hkept : keptD ((g.map f).map some) = g.map f := by
    unfold keptD
    rw [List.filterMap_map]
    exact List.filterMap_some
  refine lc_any (I := Itt K a) (n := xs.length) (ds := (g.map f).map some) (by rw [hl, List.length_map, List.length_map]) (by rw [List.length_map, List.length_map]; exact hz) hD (fun i d Hi Nx Nn hd si k1 k2 => ?_) (fun Hi si => ⟨xs, SqT.of (si _ _ hx), Nat.le_refl _⟩) (fun Hf acc sf hacc hall => fin Hf acc sf hacc (by rw [hkept] at hall; exact hall))
  rw [List.map_map] at hd
  obtain ⟨p, hp, rfl⟩ := g_get hd
  obtain ⟨v, hv⟩ : ∃ v, xs[i]? = some v := ⟨_, List.getElem?_eq_getElem (by rw [hl]; exact (List.getElem?_eq_some_iff.mp hp).1)⟩
  obtain ⟨ap, u, rfl, hap, tu⟩ := ldd_inv ((g_val tx hv hp).same si)
  refine ⟨⟨xs, _, SqT.of (si _ _ hx), hv⟩, fun x' H' yl => ?_⟩
  obtain ⟨rfl, f1⟩ := yl
  have ex := f1 xs (SqT.of (si _ _ hx))
  rw [hv] at ex
  obtain rfl := Option.some.inj ex
  refine ⟨ap, [.int (p.1 : Nat), u], rfl, SqT.of hap, rfl, _, [u], rfl, u, [], rfl, rfl, hw _ _, ?_⟩
  exact tYes_go (step p u H' _ (List.mem_of_getElem? hp) tu si fun z H4 s4 hz => k1 _ z H4 rfl s4 hz)
abbrev Nfits_grafts : List Str := ["value", "parts", "graft", "number", "bush"]
theorem scfits_grafts : FnScope Nfits_grafts ["value"] (defScope (top 23)) := ⟨rfl, rfl, rfl, by decide +kernel, rfl, by decide +kernel, by decide +kernel⟩
theorem hifits_grafts {K : PySem.W.Frag} {mg : Str → Option Value} (T : Txt K mg) : ∃ f fd, FunD K "fits_grafts" "fits_grafts" (defArgs (top 23)) (defBody (top 23)) (defScope (top 23)) [] [] f fd ∧ mg "fits_grafts" = some (.ref f) := T.df "fits_grafts" 23 (by decide)
section
variable {P : Program} {w : World} {K : PySem.W.Frag} {mg : Str → Option Value} {base : Heap}
theorem okfits_grafts (T : Txt K mg) (cis_tuple_of : Cal P w K mg base 1 "is_tuple_of" spTupOf) (cfits_graft : Cal P w K mg base 4 "fits_graft" spFitsGraft) (cknots_in : Cal P w K mg base 14 "knots_in" (spKnots 13)) (ctips_in : Cal P w K mg base 14 "tips_in" (spTips 13)) (cheight_in : Cal P w K mg base 14 "height_in" (spHeight 13)) : Cal P w K mg base (14 + 1) "fits_grafts" (spFitsGrafts) := by
  refine cal_nox (hifits_grafts T) scfits_grafts (fun _ _ _ _ _ _ us hl => match us, hl with | [_], _ => rfl) (fun vs H Q E h => ?_) (fun f cdv A outer s H vs Q E hr h => ?_)
  · obtain ⟨_, _, rfl, _⟩ := h; rfl
  refine ⟨_, (pss_cons (ps_if (PW.pt (pw_or (pt_not (pt_val (pe_cl cis_tuple_of hr (by omega) rfl (pa_cons (pv 0) (pa_cons pe_int (pa_cons (pe_gi (n := 12) (T.gi ("GROWTHS", 12) (by simp)) rfl) pa_nil)))))) (pw_or1 (pt_not (pt_val (pe_callB (cr_all rfl) (by rfl) (T.fr "all" (by simp)) (by decide +kernel) (pa_cons (pe_lc (own := [("graft", 2)]) rfl scfits_grafts.nd (pi_tup (pv 0)) (blkOk_by (own := [("graft", 2)]) (N := Nfits_grafts) (sc := defScope (top 23)) (by decide +kernel)) (fun _ _ _ _ _ => (pg_name (i := 2) scfits_grafts.nd rfl (Or.inl rfl))) (fun _ _ _ _ _ => pts_nil) (fun _ _ _ _ _ => (pe_cl cfits_graft hr (by omega) rfl (pa_cons (pv 2) pa_nil)))) pa_nil))))))) (pss_one (ps_ret pe_bl)) pss_nil)
      (pss_cons (ps_set (i := 1) scfits_grafts.nd rfl (Or.inl rfl) (pe_callB (cr_sum rfl) (by rfl) (T.fr "sum" (by simp)) (by decide +kernel) (pa_cons (pe_lc (own := [("number", 3), ("bush", 4)]) (g := gTup K 2 (gCons (gName 3) (gCons (gName 4) gNil))) rfl scfits_grafts.nd (pi_tup (pv 0)) (blkOk_by (own := [("number", 3), ("bush", 4)]) (N := Nfits_grafts) (sc := defScope (top 23)) (by decide +kernel)) (fun _ _ _ _ _ => (by exact (pg_tup rfl (pgs_cons (pg_name (i := 3) scfits_grafts.nd rfl (Or.inl rfl)) (pgs_cons (pg_name (i := 4) scfits_grafts.nd rfl (Or.inl rfl)) pgs_nil))))) (fun _ _ _ _ _ => pts_nil) (fun _ _ _ _ _ => (pe_op op_add (pe_cl cknots_in hr (by omega) rfl (pa_cons (pv 4) pa_nil)) (pe_cl ctips_in hr (by omega) rfl (pa_cons (pv 4) pa_nil))))) pa_nil)))
      (pss_one (ps_ret (pe_and (pe_cmpR op_le (pv 1) (pe_gi (n := 400) (T.gi ("PARTS", 400) (by simp)) rfl) (nomark _)) (pe_one (pe_cmpR op_le (pe_callB (cr_sum rfl) (by rfl) (T.fr "sum" (by simp)) (by decide +kernel) (pa_cons (pe_lc (own := [("number", 3), ("bush", 4)]) (g := gTup K 2 (gCons (gName 3) (gCons (gName 4) gNil))) rfl scfits_grafts.nd (pi_tup (pv 0)) (blkOk_by (own := [("number", 3), ("bush", 4)]) (N := Nfits_grafts) (sc := defScope (top 23)) (by decide +kernel)) (fun _ _ _ _ _ => (by exact (pg_tup rfl (pgs_cons (pg_name (i := 3) scfits_grafts.nd rfl (Or.inl rfl)) (pgs_cons (pg_name (i := 4) scfits_grafts.nd rfl (Or.inl rfl)) pgs_nil))))) (fun _ _ _ _ _ => pts_nil) (fun _ _ _ _ _ => (pe_cl cheight_in hr (by omega) rfl (pa_cons (pv 4) pa_nil)))) pa_nil)) (pe_gi (n := 60) (T.gi ("DEEPEST", 60) (by simp)) rfl) (nomark _)))))))), ?_⟩
  obtain ⟨x, g, rfl, tx, ok, q⟩ := h
  obtain ⟨a, xs, rfl, ha, tg⟩ := lotd_inv tx
  have hlen : xs.length = g.length := by rw [tg.len, List.length_map]
  have hl12 := ok.len
  refine ⟨_, rfl, _, _, _, rfl, .inl ⟨a, _, rfl, ha, ?_⟩⟩
  have e : (decide ((0 : Int) ≤ (xs.length : Int)) && decide ((xs.length : Int) ≤ 12)) = true := by
    rw [decide_eq_true (by omega), decide_eq_true (by omega)]; rfl
  obtain ⟨z1, z2⟩ := g_sizes g fun p hp => (ok.num p hp).2.wf
  have z3 := ok.few
  have hz : g.length ≤ sizeLine := sz_small (by omega)
  refine ⟨true, congrArg V.bl e, it0 ⟨_, rfl, a, rfl, ⟨_, SqT.of ha⟩, fun D hD => ?_⟩⟩
  refine lc_tupD (K := K) (j := 2) (ds := g.map fun _ => .bool true) ha (by rw [hlen, List.length_map]) (by rw [List.length_map]; exact hz) hD (fun i v d H1 Q' hv hd s1 k => ?_) (fun H1 acc s1 hacc hall => ?_)
  · obtain ⟨p, hp, rfl⟩ := g_get hd
    obtain ⟨k1, k2⟩ := ok.num p (List.mem_of_getElem? hp)
    exact ⟨_, rfl, _, p, rfl, (g_val tg hv hp).same s1, k1, k2, fun H2 s2 => k _ _ s2 (.bl _)⟩
  have e3 : acc = (g.map fun _ => true).map V.bl := TpAll.bools (by rw [List.map_map]; exact hall)
  subst e3
  refine ⟨D, _, rfl, SqL.of hacc, true, ?_, it0 ?_⟩
  · show V.bl _ = _
    rw [all_true]
  replace tg := TpAll.same tg s1
  replace ha := s1 _ _ ha
  clear hall hacc hD D tx
  refine ⟨_, rfl, a, rfl, ⟨_, SqT.of ha⟩, fun D hD => ?_⟩
  refine lc_gtup (K := K) (j := 3) (k := 4) (f := fun p => .int ((knots p.2 + tips p.2 : Nat) : Int)) ha tg hz hD (fun _ _ => rfl) (fun p u H2 Q' hp tu s2 k => ?_) (fun H2 acc s2 hacc hall => ?_)
  · have gu : Good H2 u p.2 := ⟨tu, (ok.num p hp).2⟩
    exact ⟨_, rfl, _, _, rfl, gu, gu.few, fun H3 s3 => ⟨_, rfl, _, _, rfl, gu.same s3, gu.few, fun H4 s4 => ⟨_, _, rfl, rfl, k _ _ (s3.trans s4) (by rw [Int.natCast_add]; exact .int _)⟩⟩⟩
  have e4 : acc = (g.map fun p => ((knots p.2 + tips p.2 : Nat) : Int)).map V.int := TpAll.ints (by rw [List.map_map]; exact hall)
  subst e4
  refine ⟨D, _, rfl, SqL.of hacc, ?_⟩
  rw [sum_castG]
  replace tg := TpAll.same tg s2
  replace ha := s2 _ _ ha
  clear hall hacc hD D
  refine ⟨_, rfl, _, _, rfl, rfl, ?_⟩
  refine ⟨true, congrArg V.bl (decide_eq_true (by omega)), it1 ?_⟩
  refine ⟨_, rfl, a, rfl, ⟨_, SqT.of ha⟩, fun D hD => ?_⟩
  refine lc_gtup (K := K) (j := 3) (k := 4) (f := fun p => .int ((height p.2 : Nat) : Int)) ha tg hz hD (fun _ _ => rfl) (fun p u H3 Q' hp tu s3 k => ?_) (fun H3 acc s3 hacc hall => ?_)
  · have gu : Good H3 u p.2 := ⟨tu, (ok.num p hp).2⟩
    exact ⟨_, rfl, _, _, rfl, gu, gu.few, fun H4 s4 => k _ _ s4 (.int _)⟩
  have e4 : acc = (g.map fun p => ((height p.2 : Nat) : Int)).map V.int := TpAll.ints (by rw [List.map_map]; exact hall)
  subst e4
  refine ⟨D, _, rfl, SqL.of hacc, ?_⟩
  rw [sum_castG]
  refine ⟨_, _, rfl, rfl, ?_⟩
  show Q (.bl (decide _)) _
  rw [decide_eq_true (by omega)]
  exact q _ ((s1.trans s2).trans s3)
end

end Tw
set_option Elab.async false
set_option linter.all false
set_option maxRecDepth 100000
set_option maxHeartbeats 4000000
namespace Tw
open PySem PySem.Spec PyProof.Rows L2
/-! ### put_at -/
def spPut (k : Nat) : Sp := fun vs H Q _ => ∃ (x y : V) (n : Int) (b p : T), vs = [x, .int n, y] ∧ Good H x b ∧ Tr H y p ∧ knots b < k ∧ ∀ v H', Same H H' → Tr H' v (putN b n p) → Q v H'
theorem putNL_get : ∀ {bs : List T} {n : Int} {p : T} {i : Nat} {b : T}, bs[i]? = some b → (putNL bs n p)[i]? = some (if 0 ≤ n - tipsL (bs.take i) ∧ n - tipsL (bs.take i) < tips b then putN b (n - tipsL (bs.take i)) p else b)
  | [], _, _, _, _, h => by simp at h
  | c :: bs, n, p, 0, b, h => by
    have e : c = b := by simpa using h
    subst e
    rw [putNL, List.take_zero, tipsL, Int.natCast_zero, Int.sub_zero]; rfl
  | c :: bs, n, p, i + 1, b, h => by
    rw [putNL, List.getElem?_cons_succ, putNL_get (bs := bs) (i := i) (by simpa using h), List.take_succ_cons, tipsL]
    have e : n - (tips c : Int) - (tipsL (bs.take i) : Int) = n - ((tips c + tipsL (bs.take i) : Nat) : Int) := by omega
    rw [e]
theorem putNL_len : ∀ (bs : List T) (n : Int) (p : T), (putNL bs n p).length = bs.length
  | [], _, _ => rfl
  | b :: bs, n, p => by rw [putNL, List.length_cons, List.length_cons, putNL_len bs _ p]
abbrev Nput_at : List Str := ["bush", "number", "other", "found", "branch", "many"]
theorem scput_at : FnScope Nput_at ["bush", "number", "other"] (defScope (top 24)) := ⟨rfl, rfl, rfl, by decide +kernel, rfl, by decide +kernel, by decide +kernel⟩
theorem hiput_at {K : PySem.W.Frag} {mg : Str → Option Value} (T : Txt K mg) : ∃ f fd, FunD K "put_at" "put_at" (defArgs (top 24)) (defBody (top 24)) (defScope (top 24)) [] [] f fd ∧ mg "put_at" = some (.ref f) := T.df "put_at" 24 (by decide)
section
variable {P : Program} {w : World} {K : PySem.W.Frag} {mg : Str → Option Value} {base : Heap}
theorem okput_at (T : Txt K mg) {j L : Nat} (hj : 14 ≤ L) (ctips_in : Cal P w K mg base 14 "tips_in" (spTips 13)) (cput_at : Cal P w K mg base L "put_at" (spPut j)) : Cal P w K mg base (L + 1) "put_at" (spPut (j + 1)) := by
  refine cal_nox (hiput_at T) scput_at (fun _ _ _ _ _ _ us hl => match us, hl with | [_, _, _], _ => rfl) (fun vs H Q E h => ?_) (fun f cdv A outer s H vs Q E hr h => ?_)
  · obtain ⟨_, _, _, _, _, rfl, _⟩ := h; rfl
  refine ⟨_, (pss_cons (ps_if (pt_eq0 hr.units (pv 0)) (pss_one (ps_ret (pv 2))) pss_nil)
      (pss_cons (ps_set (i := 3) scput_at.nd rfl (Or.inl rfl) (pe_slice sl_tupS (pv 0) po_none (po_some pe_int)))
      (pss_cons (ps_for PassesOwn.never rfl (pi_tup (pe_slice sl_tupS (pv 0) (po_some pe_int) po_none)) (pg_name (i := 4) scput_at.nd rfl (Or.inl rfl)) (pss_cons (ps_set (i := 5) scput_at.nd rfl (Or.inl rfl) (pe_cl ctips_in hr (by omega) rfl (pa_cons (pv 4) pa_nil)))
      (pss_cons (ps_set (i := 3) scput_at.nd rfl (Or.inl rfl) (pe_op op_catS (pv 3) (pe_tup (pa_cons (pe_ifExp (pt_chain op_le op_lt pe_int (pv 1) (pv 5)) (pe_cl cput_at hr (by omega) rfl (pa_cons (pv 4) (pa_cons (pv 1) (pa_cons (pv 2) pa_nil)))) (pv 4)) pa_nil))))
      (pss_one (ps_set (i := 1) scput_at.nd rfl (Or.inl rfl) (pe_op op_sub (pv 1) (pv 5)))))))
      (pss_one (ps_ret (pv 3)))))), ?_⟩
  obtain ⟨x, y, n, b, p, rfl, gb, tp, hk, q⟩ := h
  refine ⟨_, rfl, td b, gb.tr, gb.sh (by decide), fun H1 s1 => ?_⟩
  rw [eqv_tip]
  cases b with
  | tip => exact it1 ⟨_, rfl, q _ _ s1 (by rw [putN]; exact tp.same s1)⟩
  | kn c bs =>
    refine it0 ?_
    obtain ⟨a1, xs, rfl, h1, t1⟩ := (gb.same s1).tr.kn_inv
    refine ⟨_, rfl, _, rfl, a1, _, rfl, h1, fun f0 H2 s2 e0 => ?_⟩
    rw [cut_to] at e0
    refine ⟨_, rfl, _, rfl, a1, _, rfl, s2 _ _ h1, fun p1 H3 s3 e1 => ?_⟩
    rw [cut_from] at e1
    have t3 : TrL H3 xs bs := (t1.same s2).same s3
    have s123 := (s1.trans s2).trans s3
    replace e0 := s3 _ _ e0
    have h6 := gb.ok.len
    refine ⟨p1, rfl, ⟨_, SqT.of e1⟩, ?_⟩
    refine for_tup (K := K) (a := p1) (xs := xs) (fun i σ H4 => Same H3 H4 ∧ ∃ (f : Addr) (br ma : Option V) (out : List V), σ = [some (.ref a1), some (.int (n - (tipsL (bs.take i) : Nat))), some y, some (.ref f), br, ma] ∧ H4 f = some (.tup (.str (ltr c) :: out)) ∧ TrL H4 out ((putNL bs n p).take i)) ⟨Same.refl _, f0, none, none, [], ?_, e0, .nil⟩ (fun i σ H4 _ z => SqT.of (z.1 _ _ e1)) ?_ ?_
    · rw [List.take_zero, tipsL, Int.natCast_zero, Int.sub_zero]; rfl
    · rintro i v σ H4 hv ⟨s4, f1, br, ma, out, rfl, hf, to⟩
      obtain ⟨b', hb⟩ : ∃ b, bs[i]? = some b := ⟨_, List.getElem?_eq_getElem (by rw [← t3.len]; exact (List.getElem?_eq_some_iff.mp hv).1)⟩
      have hm := List.mem_of_getElem? hb
      have gv : Good H4 v b' := ⟨(TrL.at t3 hv hb).same s4, gb.ok.kid hm⟩
      have hi : i < bs.length := (List.getElem?_eq_some_iff.mp hb).1
      have hout : out.length = i := by rw [to.len, List.length_take, putNL_len]; omega
      refine ⟨_, rfl, _, b', rfl, gv, gv.few, fun H5 s5 => ?_⟩
      refine ⟨_, rfl, ?_⟩
      generalize hN : n - ((tipsL (bs.take i) : Nat) : Int) = N
      have fin : ∀ (R : VK), (∀ nv H6, Same H5 H6 → Tr H6 nv (if 0 ≤ N ∧ N < tips b' then putN b' N p else b') → R nv H6) → tIf (tTest (tChain (rI0 fun i j => V.bl (decide (i ≤ j))) (rI0 fun i j => V.bl (decide (i < j))) (tC (V.int 0)) (tVar 1) (tVar 5))) (tCall (spPut j) [] E0 (tCons (tVar 4) (tCons (tVar 1) (tCons (tVar 2) tNil)))) (tVar 4) [some (.ref a1), some (.int N), some y, some (.ref f1), some v, some (.int (tips b' : Nat))] H5 R := fun R hR => by
        refine ⟨_, rfl, _, _, rfl, rfl, _, rfl, itb (fun h1 => ?_) (fun h1 => ?_)⟩
        · have h1 := of_decide_eq_true h1
          refine ⟨_, rfl, _, _, rfl, rfl, _, rfl, itb (fun h2 => ?_) (fun h2 => ?_)⟩
          · have h2 := of_decide_eq_true h2
            rw [if_pos ⟨h1, h2⟩] at hR
            exact ⟨_, rfl, _, rfl, _, rfl, v, y, N, b', p, rfl, gv.same s5, (tp.same s123).same (s4.trans s5), Okb.lt (n := 0) hk hm, fun nv H6 s6 t => hR nv H6 s6 t⟩
          · have h2 := of_decide_eq_false h2
            rw [if_neg fun z => h2 z.2] at hR
            exact ⟨_, rfl, hR v H5 (Same.refl _) ((gv.same s5).tr)⟩
        · have h1 := of_decide_eq_false h1
          rw [if_neg fun z => h1 z.1] at hR
          exact ⟨false, rfl, it0 ⟨_, rfl, hR v H5 (Same.refl _) ((gv.same s5).tr)⟩⟩
      refine fin _ fun nv H6 s6 tn => ⟨sz rfl, fun P1 hP1 => ?_⟩
      have sP := same_new hP1 (.tup [nv])
      refine ⟨f1, P1, _, _, rfl, rfl, sP _ _ (s6 _ _ (s5 _ _ hf)), upd_same, sz_small (by simp; omega), fun r H7 s7 hr => ?_⟩
      have s47 := (s5.trans s6).trans (sP.trans s7)
      refine ⟨_, rfl, _, rfl, _, _, rfl, rfl, s4.trans s47, r, some v, some (.int (tips b' : Nat)), out ++ [nv], ?_, hr, ?_⟩
      · rw [take_snoc hb, tipsL_app, ← hN]
        show _ = [_, some (V.int (n - ((tipsL (bs.take i) + tipsL [b'] : Nat) : Int))), _, _, _, _]
        rw [show tipsL [b'] = tips b' by simp [tipsL], show n - ((tipsL (bs.take i) + tips b' : Nat) : Int) = n - ((tipsL (bs.take i) : Nat) : Int) - ((tips b' : Nat) : Int) by omega]
        rfl
      · rw [take_snoc (putNL_get hb), hN]
        exact TrL.app (TpAll.same to s47) (TpAll.one ((tn.same sP).same s7))
    · rintro σ H4 ⟨s4, f1, br, ma, out, rfl, hf, to⟩
      rw [t3.len, ← putNL_len bs n p, List.take_length] at to
      exact ⟨_, rfl, q _ _ (s123.trans s4) (by rw [putN]; exact Tr.kn hf to)⟩
end

end Tw
set_option Elab.async false
set_option linter.all false
set_option maxRecDepth 100000
set_option maxHeartbeats 4000000
namespace Tw
open PySem PySem.Spec PyProof.Rows L2
/-! ### grafted_by -/
mutual
theorem putN_ok : ∀ (b : T) (n : Int) (p : T), wf b = true → wf p = true → wf (putN b n p) = true ∧ knots (putN b n p) ≤ knots b + knots p
  | .tip, n, p, _, hp => by rw [putN, knots]; exact ⟨hp, by omega⟩
  | .kn c bs, n, p, hb, hp => by
    obtain ⟨h1, h2, h3⟩ := wf_kn.mp hb
    obtain ⟨q1, q2⟩ := putNL_ok bs n p h3 hp
    rw [putN, knots, knots]
    exact ⟨wf_kn.mpr ⟨h1, by rw [putNL_len]; exact h2, q1⟩, by omega⟩
theorem putNL_ok : ∀ (bs : List T) (n : Int) (p : T), (∀ b ∈ bs, wf b = true) → wf p = true → (∀ b ∈ putNL bs n p, wf b = true) ∧ knotsL (putNL bs n p) ≤ knotsL bs + knots p
  | [], _, _, _, _ => ⟨fun b h => by simp [putNL] at h, by simp [putNL, knotsL]⟩
  | b :: r, n, p, hb, hp => by
    obtain ⟨q1, q2⟩ := putN_ok b n p (hb b List.mem_cons_self) hp
    have hr : ∀ x ∈ r, wf x = true := fun x hx => hb x (List.mem_cons_of_mem _ hx)
    rw [putNL]
    by_cases hc : 0 ≤ n ∧ n < tips b
    · rw [if_pos hc, putNL_neg _ _ _ (by omega)]
      refine ⟨fun x hx => ?_, by rw [knotsL, knotsL]; omega⟩
      rcases List.mem_cons.mp hx with rfl | hx
      · exact q1
      · exact hr x hx
    · rw [if_neg hc]
      obtain ⟨w1, w2⟩ := putNL_ok r (n - tips b) p hr hp
      refine ⟨fun x hx => ?_, by rw [knotsL, knotsL]; omega⟩
      rcases List.mem_cons.mp hx with rfl | hx
      · exact hb _ List.mem_cons_self
      · exact w1 x hx
end
def spGraftedBy : Sp := fun vs H Q _ => ∃ (x y : V) (b o : T) (g : List (Nat × T)), vs = [x, y] ∧ Good H x b ∧ Tp H y (lotd g) ∧ Okg g ∧ knots b + knotsL (g.map (·.2)) ≤ 12 ∧ graftBy b g = some o ∧ ∀ v H', Same H H' → Tr H' v o → Q v H'
theorem drop_get {α : Type} : ∀ {l : List α} {i : Nat} {x : α}, l[i]? = some x → l.drop i = x :: l.drop (i + 1)
  | [], _, _, h => by simp at h
  | y :: l, 0, x, h => by
    have e : y = x := by simpa using h
    subst e; rfl
  | y :: l, i + 1, x, h => by
    rw [List.drop_succ_cons, List.drop_succ_cons]
    exact drop_get (by simpa using h)
theorem ps_never {X : Cx} {body : List Stmt} : PSs X body (fun _ _ _ => False) := ⟨fun _ _ _ _ _ _ h => h.elim⟩
abbrev Ngrafted_by : List Str := ["bush", "grafts", "number", "other"]
theorem scgrafted_by : FnScope Ngrafted_by ["bush", "grafts"] (defScope (top 25)) := ⟨rfl, rfl, rfl, by decide +kernel, rfl, by decide +kernel, by decide +kernel⟩
theorem higrafted_by {K : PySem.W.Frag} {mg : Str → Option Value} (T : Txt K mg) : ∃ f fd, FunD K "grafted_by" "grafted_by" (defArgs (top 25)) (defBody (top 25)) (defScope (top 25)) [] [] f fd ∧ mg "grafted_by" = some (.ref f) := T.df "grafted_by" 25 (by decide)
section
variable {P : Program} {w : World} {K : PySem.W.Frag} {mg : Str → Option Value} {base : Heap}
theorem okgrafted_by (T : Txt K mg) (ctips_in : Cal P w K mg base 14 "tips_in" (spTips 13)) (cput_at : Cal P w K mg base 30 "put_at" (spPut 16)) : Cal P w K mg base (30 + 1) "grafted_by" (spGraftedBy) := by
  refine cal_nox (higrafted_by T) scgrafted_by (fun _ _ _ _ _ _ us hl => match us, hl with | [_, _], _ => rfl) (fun vs H Q E h => ?_) (fun f cdv A outer s H vs Q E hr h => ?_)
  · obtain ⟨_, _, _, _, _, rfl, _⟩ := h; rfl
  refine ⟨_, (pss_cons (ps_for PassesOwn.never rfl (pi_tup (pv 1)) (pg_tup rfl (pgs_cons (pg_name (i := 2) scgrafted_by.nd rfl (Or.inl rfl)) (pgs_cons (pg_name (i := 3) scgrafted_by.nd rfl (Or.inl rfl)) pgs_nil))) (pss_cons (ps_if (pt_cmpR op_ge (pv 2) (pe_cl ctips_in hr (by omega) rfl (pa_cons (pv 0) pa_nil)) (nomark _)) (pss_one (ps_ret pe_non)) pss_nil)
      (pss_one (ps_set (i := 0) scgrafted_by.nd rfl (Or.inl rfl) (pe_cl cput_at hr (by omega) rfl (pa_cons (pv 0) (pa_cons (pv 2) (pa_cons (pv 3) pa_nil))))))))
      (pss_one (ps_ret (pv 0)))), ?_⟩
  obtain ⟨x, y, b, o, g, rfl, gb, ty, ok, hk, hg, q⟩ := h
  obtain ⟨a, xs, rfl, ha, tg⟩ := lotd_inv ty
  have hlen : xs.length = g.length := by rw [tg.len, List.length_map]
  refine ⟨_, rfl, a, rfl, ⟨_, SqT.of ha⟩, ?_⟩
  refine for_tup (K := K) (a := a) (xs := xs) (fun i σ H1 => Same H H1 ∧ ∃ (v : V) (c : Tw.T) (nu ot : Option V), σ = [some v, some (.ref a), nu, ot] ∧ Good H1 v c ∧ knots c + knotsL ((g.drop i).map (·.2)) ≤ 12 ∧ graftBy c (g.drop i) = some o) ⟨Same.refl _, x, b, none, none, rfl, gb, hk, hg⟩ (fun i σ H1 _ z => SqT.of (z.1 _ _ ha)) ?_ ?_
  · rintro i v σ H1 hv ⟨s1, vc, c, nu, ot, rfl, gc, hk1, hg1⟩
    obtain ⟨p, hp⟩ : ∃ p, g[i]? = some p := ⟨_, List.getElem?_eq_getElem (by rw [← hlen]; exact (List.getElem?_eq_some_iff.mp hv).1)⟩
    obtain ⟨ap, u, rfl, hap, tu⟩ := ldd_inv ((g_val tg hv hp).same s1)
    obtain ⟨k1, k2⟩ := ok.num p (List.mem_of_getElem? hp)
    rw [drop_get hp, graftBy] at hg1
    rw [drop_get hp, List.map_cons, knotsL] at hk1
    refine ⟨ap, [.int (p.1 : Nat), u], rfl, SqT.of hap, rfl, _, [u], rfl, u, [], rfl, rfl, ?_⟩
    by_cases hlt : tips c ≤ p.1
    · rw [if_pos hlt] at hg1; cases hg1
    rw [if_neg hlt] at hg1
    refine ⟨_, rfl, _, rfl, _, c, rfl, gc, gc.few, fun H2 s2 => ⟨_, _, rfl, rfl, ?_⟩⟩
    have en : decide (((p.1 : Nat) : Int) ≥ ((tips c : Nat) : Int)) = false := decide_eq_false (by omega)
    refine ⟨false, congrArg V.bl en, it0 ⟨_, rfl, _, rfl, _, rfl, _, _, _, c, p.2, rfl, gc.same s2, tu.same s2, by have := gc.few; omega, fun r H3 s3 tr => ?_⟩⟩
    obtain ⟨w1, w2⟩ := putN_ok c p.1 p.2 gc.ok.wf k2.wf
    exact ⟨(s1.trans s2).trans s3, r, putN c p.1 p.2, _, _, rfl, ⟨tr, w1, by omega⟩, by omega, hg1⟩
  · rintro σ H1 ⟨s1, vc, c, nu, ot, rfl, gc, hk1, hg1⟩
    rw [hlen, List.drop_length, graftBy] at hg1
    obtain rfl := Option.some.inj hg1
    exact ⟨_, rfl, q _ _ s1 gc.tr⟩
end

/-! ### need_grafts -/
def spNeedGrafts : Sp := fun vs H Q _ => ∃ (x : V) (g : List (Nat × T)), vs = [x] ∧ Tp H x (lotd g) ∧ Okg g ∧ ∀ H', Same H H' → Q .non H'
abbrev Nneed_grafts : List Str := ["value"]
theorem scneed_grafts : FnScope Nneed_grafts ["value"] (defScope (top 26)) := ⟨rfl, rfl, rfl, by decide +kernel, rfl, by decide +kernel, by decide +kernel⟩
theorem hineed_grafts {K : PySem.W.Frag} {mg : Str → Option Value} (T : Txt K mg) : ∃ f fd, FunD K "need_grafts" "need_grafts" (defArgs (top 26)) (defBody (top 26)) (defScope (top 26)) [] [] f fd ∧ mg "need_grafts" = some (.ref f) := T.df "need_grafts" 26 (by decide)
section
variable {P : Program} {w : World} {K : PySem.W.Frag} {mg : Str → Option Value} {base : Heap}
theorem okneed_grafts (T : Txt K mg) (cfits_grafts : Cal P w K mg base 15 "fits_grafts" spFitsGrafts) : Cal P w K mg base (15 + 1) "need_grafts" (spNeedGrafts) := by
  refine cal_nox (hineed_grafts T) scneed_grafts (fun _ _ _ _ _ _ us hl => match us, hl with | [_], _ => rfl) (fun vs H Q E h => ?_) (fun f cdv A outer s H vs Q E hr h => ?_)
  · obtain ⟨_, _, rfl, _⟩ := h; rfl
  refine ⟨_, (pss_one (ps_if (pt_not (pt_val (pe_cl cfits_grafts hr (by omega) rfl (pa_cons (pv 0) pa_nil)))) ps_never pss_nil)), ?_⟩
  obtain ⟨x, g, rfl, tx, ok, q⟩ := h
  exact ⟨_, rfl, _, g, rfl, tx, ok, fun H' s => ⟨true, rfl, it0 (q H' s)⟩⟩
end

/-! ### grafted -/
def spGrafted : Sp := fun vs H Q _ => ∃ (x y : V) (b o : T) (g : List (Nat × T)), vs = [x, y] ∧ Good H x b ∧ Tp H y (lotd g) ∧ Okg g ∧ knots b + knotsL (g.map (·.2)) ≤ 12 ∧ graftBy b g = some o ∧ ∀ v H', Same H H' → Tr H' v o → Q v H'
abbrev Ngrafted : List Str := ["bush", "grafts"]
theorem scgrafted : FnScope Ngrafted ["bush", "grafts"] (defScope (top 27)) := ⟨rfl, rfl, rfl, by decide +kernel, rfl, by decide +kernel, by decide +kernel⟩
theorem higrafted {K : PySem.W.Frag} {mg : Str → Option Value} (T : Txt K mg) : ∃ f fd, FunD K "grafted" "grafted" (defArgs (top 27)) (defBody (top 27)) (defScope (top 27)) [] [] f fd ∧ mg "grafted" = some (.ref f) := T.df "grafted" 27 (by decide)
section
variable {P : Program} {w : World} {K : PySem.W.Frag} {mg : Str → Option Value} {base : Heap}
theorem okgrafted (T : Txt K mg) (cneed_bush : Cal P w K mg base 4 "need_bush" (spNeedBush K)) (cneed_grafts : Cal P w K mg base 16 "need_grafts" spNeedGrafts) (cgrafted_by : Cal P w K mg base 31 "grafted_by" spGraftedBy) : Cal P w K mg base (31 + 1) "grafted" (spGrafted) := by
  refine cal_nox (higrafted T) scgrafted (fun _ _ _ _ _ _ us hl => match us, hl with | [_, _], _ => rfl) (fun vs H Q E h => ?_) (fun f cdv A outer s H vs Q E hr h => ?_)
  · obtain ⟨_, _, _, _, _, rfl, _⟩ := h; rfl
  refine ⟨_, (pss_cons (ps_expr (pe_cl cneed_bush hr (by omega) rfl (pa_cons (pv 0) pa_nil)))
      (pss_cons (ps_expr (pe_cl cneed_grafts hr (by omega) rfl (pa_cons (pv 1) pa_nil)))
      (pss_one (ps_ret (pe_cl cgrafted_by hr (by omega) rfl (pa_cons (pv 0) (pa_cons (pv 1) pa_nil))))))), ?_⟩
  obtain ⟨x, y, b, o, g, rfl, gb, ty, ok, hk, hg, q⟩ := h
  exact ⟨_, rfl, _, rfl, .inl ⟨b, gb, fun H1 s1 => ⟨_, rfl, _, g, rfl, ty.same s1, ok, fun H2 s2 => ⟨_, rfl, _, rfl, _, _, b, o, g, rfl, (gb.same s1).same s2, (ty.same s1).same s2, ok, hk, hg, fun v H3 s3 t => q v H3 ((s1.trans s2).trans s3) t⟩⟩⟩⟩
end

end Tw
set_option Elab.async false
set_option linter.all false
set_option maxRecDepth 100000
set_option maxHeartbeats 4000000
namespace Tw
open PySem PySem.Spec PyProof.Rows L2
/-! ### _law_cup -/
def Cup (H : Hp) (c : Addr) : Prop := ∃ a b : Int, H c = some (.lst [.int a, .int b])
def spCup (K : PySem.W.Frag) : Sp := fun vs H Q _ => ∃ (a : Addr) (ns : List Int), vs = [.ref a] ∧ SqL K H a (ns.map V.int) ∧ ns.length < 1000 ∧ ∀ c H', Same H H' → Cup H' c → Q (.ref c) H'
abbrev N_law_cup : List Str := ["_law_script", "_law_cell"]
theorem sc_law_cup : FnScope N_law_cup ["_law_script"] (defScope (top 45)) := ⟨rfl, rfl, rfl, by decide +kernel, rfl, by decide +kernel, by decide +kernel⟩
theorem hi_law_cup {K : PySem.W.Frag} {mg : Str → Option Value} (T : Txt K mg) : ∃ f fd, FunD K "_law_cup" "_law_cup" (defArgs (top 45)) (defBody (top 45)) (defScope (top 45)) [] [] f fd ∧ mg "_law_cup" = some (.ref f) := T.df "_law_cup" 45 (by decide)
section
variable {P : Program} {w : World} {K : PySem.W.Frag} {mg : Str → Option Value} {base : Heap}
theorem ok_law_cup (T : Txt K mg)  : Cal P w K mg base (0 + 1) "_law_cup" (spCup K) := by
  refine cal_nox (hi_law_cup T) sc_law_cup (fun _ _ _ _ _ _ us hl => match us, hl with | [_], _ => rfl) (fun vs H Q E h => ?_) (fun f cdv A outer s H vs Q E hr h => ?_)
  · obtain ⟨_, _, rfl, _⟩ := h; rfl
  refine ⟨_, (pss_cons (ps_set (i := 1) sc_law_cup.nd rfl (Or.inl rfl) (pe_callB call_abs (by rfl) (T.fr "abs" (by simp)) (by decide +kernel) (pa_cons (pe_ix ix_list (pe_op op_cat (pe_callTy call_list_of (by rfl) (T.fr "list" (by simp)) (by decide +kernel) (pa_cons (pv 0) pa_nil)) (pe_lst (pa_cons pe_int pa_nil))) pe_int (fun _ _ => rfl)) pa_nil)))
      (pss_one (ps_ret (pe_lst (pa_cons (pe_ifExp (pt_cmpR op_ge (pv 1) (pe_op op_pow pe_int pe_int) (nomark _)) (pe_op op_fdivW (pv 1) pe_int) pe_int) (pa_cons (pe_op op_add (pe_op op_mod (pe_callTy call_int1 (by rfl) (T.fr "int" (by simp)) (by decide +kernel) (pa_cons (pe_op op_add (pe_op op_mulY (pv 1) pe_int) pe_int) pa_nil)) pe_int) pe_int) pa_nil)))))), ?_⟩
  obtain ⟨a, ns, rfl, ha, hn, q⟩ := h
  refine ⟨_, rfl, a, _, rfl, .inl ha, fun l hl => ⟨sz rfl, fun l2 hl2 => ?_⟩⟩
  have s1 := same_new hl (.lst (ns.map V.int))
  have s2 := s1.trans (same_new hl2 (.lst [.int 0]))
  refine ⟨l, l2, _, _, rfl, rfl, same_new hl2 _ _ _ upd_same, upd_same, sz_small (by simp; omega), fun l3 hl3 => ?_⟩
  have s3 := s2.trans (same_new hl3 (.lst (ns.map V.int ++ [.int 0])))
  obtain ⟨n, hx⟩ : ∃ n : Int, (ns.map V.int ++ [V.int 0])[0]? = some (.int n) := by
    cases ns with
    | nil => exact ⟨0, rfl⟩
    | cons n ns => exact ⟨n, rfl⟩
  refine ⟨l3, _, 0, _, rfl, rfl, SqL.of upd_same, atI_nat (j := 0) hx, n, rfl, ?_⟩
  generalize (if n < 0 then -n else n) = v
  have fm : IntMulOk v 241 := .of_right (intBits_le_64 (by decide) (by decide))
  refine ⟨_, rfl, _, _, rfl, rfl, ⟨by decide, by decide, by decide⟩, _, _, rfl, rfl, _, rfl, itb (fun h0 => ?_) (fun h0 => ?_)⟩
  · exact ⟨_, rfl, _, _, rfl, rfl, ⟨by decide, by decide⟩, _, rfl, _, _, rfl, rfl, fm, _, _, rfl, rfl, .inl ⟨_, rfl, _, _, rfl, rfl, (by show (0 : Int) < _; decide), _, _, rfl, rfl, sz rfl, fun l4 hl4 => q l4 _ (s3.trans (same_new hl4 _)) ⟨_, _, upd_same⟩⟩⟩
  · exact ⟨_, rfl, _, _, rfl, rfl, fm, _, _, rfl, rfl, .inl ⟨_, rfl, _, _, rfl, rfl, (by show (0 : Int) < _; decide), _, _, rfl, rfl, sz rfl, fun l4 hl4 => q l4 _ (s3.trans (same_new hl4 _)) ⟨_, _, upd_same⟩⟩⟩
end

/-! ### _law_roll -/
def spRoll : Sp := fun vs H Q _ => ∃ (c : Addr) (m : Nat), vs = [.ref c, .int (m : Int)] ∧ Cup H c ∧ 0 < m ∧ m < 1000000 ∧ ∀ (n : Nat) H', n < m → SameB c H H' → Cup H' c → Q (.int (n : Int)) H'
theorem CM {i : Int} {m : Nat} (h : 0 < m) (h2 : m < 1000000) : CDivW i (m : Int) := wide_div (b := 20) (by omega) (by rw [Int.natAbs_natCast]; exact Nat.lt_trans h2 (by decide)) (by decide) (by decide)
theorem mod_nat (a : Int) {m : Nat} (h : 0 < m) : ∃ n : Nat, a % (m : Int) = (n : Int) ∧ n < m := by
  have n1 := Int.emod_nonneg a (show (m : Int) ≠ 0 by omega)
  have n2 := Int.emod_lt_of_pos a (show (0 : Int) < (m : Int) by omega)
  exact ⟨(a % (m : Int)).toNat, by omega, by omega⟩
abbrev N_law_roll : List Str := ["_law_cup_here", "_law_many", "_law_found", "_law_deep"]
theorem sc_law_roll : FnScope N_law_roll ["_law_cup_here", "_law_many"] (defScope (top 46)) := ⟨rfl, rfl, rfl, by decide +kernel, rfl, by decide +kernel, by decide +kernel⟩
theorem hi_law_roll {K : PySem.W.Frag} {mg : Str → Option Value} (T : Txt K mg) : ∃ f fd, FunD K "_law_roll" "_law_roll" (defArgs (top 46)) (defBody (top 46)) (defScope (top 46)) [] [] f fd ∧ mg "_law_roll" = some (.ref f) := T.df "_law_roll" 46 (by decide)
section
variable {P : Program} {w : World} {K : PySem.W.Frag} {mg : Str → Option Value} {base : Heap}
theorem ok_law_roll (T : Txt K mg)  : Cal P w K mg base (0 + 1) "_law_roll" (spRoll) := by
  refine cal_nox (hi_law_roll T) sc_law_roll (fun _ _ _ _ _ _ us hl => match us, hl with | [_, _], _ => rfl) (fun vs H Q E h => ?_) (fun f cdv A outer s H vs Q E hr h => ?_)
  · obtain ⟨_, _, rfl, _⟩ := h; rfl
  refine ⟨_, (pss_cons (ps_if (pt_cmpR op_gt (pe_ix ix_list (pv 0) pe_int (fun _ _ => rfl)) pe_int (nomark _)) (pss_cons (ps_set (i := 2) sc_law_roll.nd rfl (Or.inl rfl) (pe_op op_mod (pe_callTy call_int1 (by rfl) (T.fr "int" (by simp)) (by decide +kernel) (pa_cons (pe_ix ix_list (pv 0) pe_int (fun _ _ => rfl)) pa_nil)) (pv 1)))
      (pss_cons (ps_asg (pe_op op_fdivW (pe_ix ix_list (pv 0) pe_int (fun _ _ => rfl)) (pv 1)) (pg_sub (pv 0) pe_int set_list))
      (pss_one (ps_ret (pv 2))))) pss_nil)
      (pss_cons (ps_asg (pe_op op_mod (pe_callTy call_int1 (by rfl) (T.fr "int" (by simp)) (by decide +kernel) (pa_cons (pe_op op_add (pe_op op_mulY (pe_ix ix_list (pv 0) pe_int (fun _ _ => rfl)) pe_int) pe_int) pa_nil)) pe_int) (pg_sub (pv 0) pe_int set_list))
      (pss_cons (ps_set (i := 3) sc_law_roll.nd rfl (Or.inl rfl) (pe_op op_mod (pe_callTy call_int1 (by rfl) (T.fr "int" (by simp)) (by decide +kernel) (pa_cons (pe_op op_mulY (pe_ix ix_list (pv 0) pe_int (fun _ _ => rfl)) (pe_op op_add (pe_ix ix_list (pv 0) pe_int (fun _ _ => rfl)) pe_int)) pa_nil)) pe_int))
      (pss_one (ps_ret (pe_op op_mod (pe_callTy call_int1 (by rfl) (T.fr "int" (by simp)) (by decide +kernel) (pa_cons (pe_op op_fdivW (pv 3) pe_int) pa_nil)) (pv 1))))))), ?_⟩
  obtain ⟨c, m, rfl, ⟨a, b, hc⟩, hm, hm2, q⟩ := h
  refine ⟨_, rfl, c, _, 0, _, rfl, rfl, SqL.of hc, atI_nat (j := 0) rfl, _, _, rfl, rfl, _, rfl, itb (fun h0 => ?_) (fun h0 => ?_)⟩
  · refine ⟨_, rfl, c, _, 0, _, rfl, rfl, SqL.of hc, atI_nat (j := 0) rfl, .inl ⟨_, rfl, _, rfl, _, _, rfl, rfl, by omega, ?_⟩⟩
    refine ⟨_, rfl, c, _, 0, _, rfl, rfl, SqL.of hc, atI_nat (j := 0) rfl, _, rfl, _, _, rfl, rfl, CM hm hm2, ?_⟩
    refine ⟨_, rfl, c, _, 0, 0, rfl, rfl, hc, rfl, _, rfl, ?_⟩
    show Q (.int (a % (m : Int))) _
    obtain ⟨n, e, hn⟩ := mod_nat a hm
    rw [e]
    exact q n _ hn (SameB.at _) ⟨_, _, upd_same⟩
  refine ⟨_, rfl, c, _, 1, _, rfl, rfl, SqL.of hc, atI_nat (j := 1) rfl, _, _, rfl, rfl, .of_right (intBits_le_64 (by decide) (by decide)), _, _, rfl, rfl, .inl ⟨_, rfl, _, _, rfl, rfl, (by show (0 : Int) < _; decide), ?_⟩⟩
  refine ⟨_, rfl, c, _, 1, 1, rfl, rfl, hc, rfl, ?_⟩
  have n1 := Int.emod_nonneg (b * 30971 + 7927) (show (2147483549 : Int) ≠ 0 by decide)
  have n2 := Int.emod_lt_of_pos (b * 30971 + 7927) (show (0 : Int) < 2147483549 by decide)
  have s1 : SameB c H (upd H c (.lst ([V.int a, V.int b].set 1 (.int ((b * 30971 + 7927) % 2147483549))))) := SameB.at _
  have hc1 : upd H c (.lst ([V.int a, V.int b].set 1 (.int ((b * 30971 + 7927) % 2147483549)))) c = some (.lst [.int a, .int ((b * 30971 + 7927) % 2147483549)]) := upd_same
  generalize hb : (b * 30971 + 7927) % 2147483549 = b1 at n1 n2 s1 hc1
  refine ⟨_, rfl, c, _, 1, _, rfl, rfl, SqL.of (K := K) (by show upd H c (.lst ([V.int a, V.int b].set 1 (.int ((b * 30971 + 7927) % 2147483549)))) c = _; rw [hb]; exact hc1), atI_nat (j := 1) rfl, _, rfl, c, _, 1, _, rfl, rfl, SqL.of (K := K) (by show upd H c (.lst ([V.int a, V.int b].set 1 (.int ((b * 30971 + 7927) % 2147483549)))) c = _; rw [hb]; exact hc1), atI_nat (j := 1) rfl, _, _, rfl, rfl, _, _, rfl, rfl, .of_left (intBits_le_64 (by omega) (by omega)), .inl ⟨_, rfl, _, _, rfl, rfl, (by show (0 : Int) < _; decide), ?_⟩⟩
  refine ⟨_, rfl, _, _, rfl, rfl, ⟨by decide, by decide⟩, .inl ⟨_, rfl, _, rfl, _, _, rfl, rfl, by omega, ?_⟩⟩
  show Q (.int ((b1 * (b1 + 193) % 2147483587 / 769) % (m : Int))) (upd H c (.lst ([V.int a, V.int b].set 1 (.int ((b * 30971 + 7927) % 2147483549)))))
  rw [hb]
  obtain ⟨n, e, hn⟩ := mod_nat (b1 * (b1 + 193) % 2147483587 / 769) hm
  rw [e]
  exact q n _ hn s1 ⟨_, _, hc1⟩
end

/-! ### _law_some -/
def spSome (K : PySem.W.Frag) : Sp := fun vs H Q _ => ∃ (c l : Addr) (xs : List V), vs = [.ref c, .ref l] ∧ Cup H c ∧ c ≠ l ∧ H l = some (.lst xs) ∧ 0 < xs.length ∧ xs.length < 1000000 ∧ ∀ (i : Nat) (x : V) H', xs[i]? = some x → SameB c H H' → Cup H' c → Q x H'
abbrev N_law_some : List Str := ["_law_cup_here", "_law_things"]
theorem sc_law_some : FnScope N_law_some ["_law_cup_here", "_law_things"] (defScope (top 47)) := ⟨rfl, rfl, rfl, by decide +kernel, rfl, by decide +kernel, by decide +kernel⟩
theorem hi_law_some {K : PySem.W.Frag} {mg : Str → Option Value} (T : Txt K mg) : ∃ f fd, FunD K "_law_some" "_law_some" (defArgs (top 47)) (defBody (top 47)) (defScope (top 47)) [] [] f fd ∧ mg "_law_some" = some (.ref f) := T.df "_law_some" 47 (by decide)
section
variable {P : Program} {w : World} {K : PySem.W.Frag} {mg : Str → Option Value} {base : Heap}
theorem ok_law_some (T : Txt K mg) (c_law_roll : Cal P w K mg base 1 "_law_roll" spRoll) : Cal P w K mg base (1 + 1) "_law_some" (spSome K) := by
  refine cal_nox (hi_law_some T) sc_law_some (fun _ _ _ _ _ _ us hl => match us, hl with | [_, _], _ => rfl) (fun vs H Q E h => ?_) (fun f cdv A outer s H vs Q E hr h => ?_)
  · obtain ⟨_, _, _, rfl, _⟩ := h; rfl
  refine ⟨_, (pss_one (ps_ret (pe_ix ix_list (pv 1) (pe_cl c_law_roll hr (by omega) rfl (pa_cons (pv 0) (pa_cons (pe_callB call_len_seq (by rfl) (T.fr "len" (by simp)) (by decide +kernel) (pa_cons (pv 1) pa_nil)) pa_nil))) (fun _ _ => rfl)))), ?_⟩
  obtain ⟨c, l, xs, rfl, hc, ne, hl, h0, h1, q⟩ := h
  refine ⟨_, rfl, _, rfl, _, rfl, l, xs, rfl, .inl (SqL.of hl), c, xs.length, rfl, hc, h0, h1, fun n H1 hn s1 hc1 => ?_⟩
  exact ⟨l, xs, (n : Int), xs[n], rfl, rfl, SqL.of (s1 _ _ (Ne.symm ne) hl), atI_nat (List.getElem?_eq_getElem hn), q n _ H1 (List.getElem?_eq_getElem hn) s1 hc1⟩
end

end Tw
set_option Elab.async false
set_option linter.all false
set_option maxRecDepth 100000
set_option maxHeartbeats 4000000
namespace Tw
open PySem PySem.Spec PyProof.Rows L2
/-! ### _law_put -/
def spLPut (k : Nat) : Sp := fun vs H Q _ => ∃ (x rv y : V) (b p g : T) (r : R), vs = [x, rv, y] ∧ Tr H x b ∧ wf b = true ∧ Rd' H rv r ∧ Tr H y g ∧ partAt b r = some p ∧ r.length < k ∧ ∀ v H', Same H H' → Tr H' v (put b r g) → Q v H'
theorem eqv_rd0 (r : R) : PyData.eqv (rd r) (.tuple []) = decide (r = []) := eqv_rd r []
theorem TrL.set {H : Hp} {vs : List V} {bs : List T} {i : Nat} {v : V} {b : T} (h : TrL H vs bs) (hv : Tr H v b) (hi : i < bs.length) : TrL H (vs.take i ++ v :: vs.drop (i + 1)) (bs.set i b) := by
  have e : bs.set i b = bs.take i ++ b :: bs.drop (i + 1) := List.set_eq_take_append_cons_drop.trans (if_pos hi)
  rw [e]
  show TpAll H _ _
  rw [List.map_append, List.map_cons, List.map_take, List.map_drop]
  exact TpAll.app (TpAll.take i h) (.cons hv (TpAll.drop (i + 1) h))
abbrev N_law_put : List Str := ["_law_bush_here", "_law_road", "_law_growth", "_law_at"]
theorem sc_law_put : FnScope N_law_put ["_law_bush_here", "_law_road", "_law_growth"] (defScope (top 51)) := ⟨rfl, rfl, rfl, by decide +kernel, rfl, by decide +kernel, by decide +kernel⟩
theorem hi_law_put {K : PySem.W.Frag} {mg : Str → Option Value} (T : Txt K mg) : ∃ f fd, FunD K "_law_put" "_law_put" (defArgs (top 51)) (defBody (top 51)) (defScope (top 51)) [] [] f fd ∧ mg "_law_put" = some (.ref f) := T.df "_law_put" 51 (by decide)
section
variable {P : Program} {w : World} {K : PySem.W.Frag} {mg : Str → Option Value} {base : Heap}
theorem ok_law_put (T : Txt K mg) {j : Nat} (c_law_put : Cal P w K mg base j "_law_put" (spLPut j)) : Cal P w K mg base (j + 1) "_law_put" (spLPut (j + 1)) := by
  refine cal_nox (hi_law_put T) sc_law_put (fun _ _ _ _ _ _ us hl => match us, hl with | [_, _, _], _ => rfl) (fun vs H Q E h => ?_) (fun f cdv A outer s H vs Q E hr h => ?_)
  · obtain ⟨_, _, _, _, _, _, _, rfl, _⟩ := h; rfl
  refine ⟨_, (pss_cons (ps_if (pt_eq0 hr.units (pv 1)) (pss_one (ps_ret (pv 2))) pss_nil)
      (pss_cons (ps_set (i := 3) sc_law_put.nd rfl (Or.inl rfl) (pe_op op_add (pe_ix ix_tup (pv 1) pe_int (fun _ _ => rfl)) pe_int))
      (pss_one (ps_ret (pe_op op_catS (pe_op op_catS (pe_slice sl_tupS (pv 0) po_none (po_some (pv 3))) (pe_tup (pa_cons (pe_cl c_law_put hr (by omega) rfl (pa_cons (pe_ix ix_tup (pv 0) (pv 3) (fun _ _ => rfl)) (pa_cons (pe_slice sl_tupS (pv 1) (po_some pe_int) po_none) (pa_cons (pv 2) pa_nil)))) pa_nil))) (pe_slice sl_tupS (pv 0) (po_some (pe_op op_add (pv 3) pe_int)) po_none)))))), ?_⟩
  obtain ⟨x, rv, y, b, p, g, r, rfl, tb, wb, tr, tg, hp, hk, q⟩ := h
  refine ⟨_, rfl, rd r, tr, (sh_rd r).mono (by decide), fun H1 s1 => ?_⟩
  rw [eqv_rd0]
  cases r with
  | nil => exact it1 ⟨_, rfl, q _ _ s1 (by rw [put]; exact tg.same s1)⟩
  | cons i r =>
    refine it0 ?_
    cases b with
    | tip => rw [partAt] at hp; cases hp
    | kn c bs =>
      rw [partAt] at hp
      cases e : bs[i]? with
      | none => rw [e] at hp; cases hp
      | some b' =>
        rw [e] at hp
        obtain ⟨ar, rfl, hr1⟩ := Rd'.inv (tr.same s1)
        obtain ⟨a1, us, rfl, h1, t1⟩ := Tr.kn_inv (tb.same s1)
        obtain ⟨wc, wl, wbs⟩ := wf_kn.mp wb
        have hm := List.mem_of_getElem? e
        have hi : i < bs.length := (List.getElem?_eq_some_iff.mp e).1
        have hul := TrL.len t1
        obtain ⟨u, hu⟩ : ∃ u, us[i]? = some u := ⟨_, List.getElem?_eq_getElem (by omega)⟩
        refine ⟨_, rfl, ar, _, 0, _, rfl, rfl, SqT.of hr1, atI_nat (j := 0) rfl, _, _, rfl, rfl, ?_⟩
        have e1 : ((i : Nat) : Int) + 1 = ((i + 1 : Nat) : Int) := by omega
        refine ⟨_, rfl, _, rfl, _, rfl, a1, _, rfl, h1, fun p1 H2 s2 e2 => ?_⟩
        rw [e1, cut_toN] at e2
        refine ⟨_, rfl, _, rfl, a1, _, _, u, rfl, rfl, SqT.of (s2 _ _ h1), (by rw [e1]; exact atI_nat (j := i + 1) hu), _, rfl, _, rfl, ar, _, rfl, s2 _ _ hr1, fun p3 H3 s3 e3 => ?_⟩
        rw [List.map_cons, cut_from] at e3
        have s23 := s2.trans s3
        refine ⟨_, rfl, u, .ref p3, y, b', p, g, r, rfl, (TrL.at t1 hu e).same s23, wbs b' hm, Rd'.of e3, (tg.same s1).same s23, hp, by rw [List.length_cons] at hk; omega, fun nv H4 s4 tn => ⟨sz rfl, fun P1 hP1 => ?_⟩⟩
        have sP := same_new hP1 (.tup [nv])
        have s34 := (s3.trans s4).trans sP
        refine ⟨p1, P1, _, _, rfl, rfl, s34 _ _ e2, upd_same, ?_, fun p5 H5 s5 e5 => ?_⟩
        · exact sz_small (by rw [List.length_take]; simp; omega)
        refine ⟨_, rfl, _, rfl, _, _, rfl, rfl, _, rfl, a1, _, rfl, s5 _ _ (s34 _ _ (s2 _ _ h1)), fun p6 H6 s6 e6 => ?_⟩
        have e7 : ((i : Nat) : Int) + 1 + 1 = ((i + 2 : Nat) : Int) := by omega
        rw [e7, cut_fromN] at e6
        refine ⟨p5, p6, _, _, rfl, rfl, s6 _ _ e5, e6, ?_, fun p7 H7 s7 e8 => ?_⟩
        · exact sz_small (by simp; omega)
        have s47 := (sP.trans (s5.trans s6)).trans s7
        have s17 := (s23.trans s4).trans s47
        refine q _ _ (s1.trans s17) ?_
        rw [put, e]
        have e9 : (V.str (ltr c) :: us).take (i + 1) ++ [nv] ++ (V.str (ltr c) :: us).drop (i + 2) = V.str (ltr c) :: (us.take i ++ nv :: us.drop (i + 1)) := by
          simp
        rw [e9] at e8
        exact Tr.kn e8 (TrL.set (TpAll.same t1 s17) (tn.same s47) hi)
end

end Tw
set_option Elab.async false
set_option linter.all false
set_option maxRecDepth 100000
set_option maxHeartbeats 4000000
namespace Tw
open PySem PySem.Spec PyProof.Rows L2
/-- a list of told data stands at p -/
def LstD (H : Hp) (p : Addr) (ds : List PyData) : Prop := ∃ xs, H p = some (.lst xs) ∧ TpAll H xs ds
theorem LstD.same {H H' : Hp} {p : Addr} {ds : List PyData} (h : LstD H p ds) (s : Same H H') : LstD H' p ds := by
  obtain ⟨xs, h1, h2⟩ := h
  exact ⟨xs, s _ _ h1, TpAll.same h2 s⟩
/-- a comprehension over a list, with a test -/
theorem lc_listF {K : PySem.W.Frag} {a : Addr} {xs : List V} {ds : List (Option PyData)} {j : Nat} {tt : TT} {te : TE} {σ : L2.St} {H1 : Hp} {D : Addr} {Qd : Hp → Prop} (hx : H1 a = some (.lst xs)) (hl : xs.length = ds.length) (hz : ds.length ≤ sizeLine) (hD : H1 D = none)
    (step : ∀ (i : Nat) (x : V) (d : Option PyData) (H : Hp) (Nx : VK) (Nn : Hp → Prop), xs[i]? = some x → ds[i]? = some d → Same H1 H → (∀ e y H4, d = some e → Same H H4 → Tp H4 y e → Nx y H4) → (∀ H4, d = none → Same H H4 → Nn H4) →
      tt ((σ.set j none).set j (some x)) H fun b H3 => if b = true then te ((σ.set j none).set j (some x)) H3 Nx else Nn H3)
    (fin : ∀ H acc, Same H1 H → H D = some (.lst acc) → TpAll H acc (keptD ds) → Qd H) :
    ∃ W : Nat → Nat → Hp → Prop, (∃ m, W 0 m (upd H1 D (.lst []))) ∧ ∀ i m H, W i m H →
      ((Itl K a).stop i H ∧ Qd H) ∨ ((Itl K a).go i H ∧ ∃ Nx : Hp → Prop, (∀ H', Nx H' → ∃ m', m' < m ∧ W (i + 1) m' H') ∧ ∀ x H', (Itl K a).yld i H x H' → gName j x (wipe σ [j]) H' fun σ2 H2 => wipe σ2 [j] = wipe σ [j] ∧ tt σ2 H2 fun b H3 =>
        if b = true then te σ2 H3 fun y H4 => ∃ acc, H4 D = some (.lst acc) ∧ acc.length < sizeLine ∧ Nx (upd H4 D (.lst (acc ++ [y]))) else Nx H3) := by
  refine lc_any (I := Itl K a) (vs := [j]) hl hz hD (fun i d H Nx Nn hd s1 k1 k2 => ?_) (fun H s => ⟨xs, SqL.of (s _ _ hx), Nat.le_refl _⟩) fin
  obtain ⟨x, hi⟩ : ∃ x, xs[i]? = some x := ⟨_, List.getElem?_eq_getElem (by rw [hl]; exact (List.getElem?_eq_some_iff.mp hd).1)⟩
  refine ⟨⟨xs, x, SqL.of (s1 _ _ hx), hi⟩, fun x' H' yl => ?_⟩
  obtain ⟨e0, f1⟩ := yl
  subst e0
  have ex := f1 xs (SqL.of (s1 _ _ hx))
  rw [hi] at ex
  obtain rfl := Option.some.inj ex
  refine ⟨?_, step i x d _ Nx Nn hi hd s1 k1 k2⟩
  show wipe ((wipe σ [j]).set j (some x)) [j] = wipe σ [j]
  simp [wipe, List.set_set]
theorem kept_some (ds : List PyData) : keptD (ds.map some) = ds := by
  unfold keptD
  rw [List.filterMap_map]
  exact List.filterMap_some
/-- .. nothing is tested -/
theorem lc_listD {K : PySem.W.Frag} {a : Addr} {xs : List V} {ds : List PyData} {j : Nat} {te : TE} {σ : L2.St} {H1 : Hp} {D : Addr} {Qd : Hp → Prop} (hx : H1 a = some (.lst xs)) (hl : xs.length = ds.length) (hz : ds.length ≤ sizeLine) (hD : H1 D = none)
    (step : ∀ (i : Nat) (x : V) (d : PyData) (H : Hp) (Q' : VK), xs[i]? = some x → ds[i]? = some d → Same H1 H → (∀ y H4, Same H H4 → Tp H4 y d → Q' y H4) → te ((σ.set j none).set j (some x)) H Q')
    (fin : ∀ H acc, Same H1 H → H D = some (.lst acc) → TpAll H acc ds → Qd H) :
    ∃ W : Nat → Nat → Hp → Prop, (∃ m, W 0 m (upd H1 D (.lst []))) ∧ ∀ i m H, W i m H →
      ((Itl K a).stop i H ∧ Qd H) ∨ ((Itl K a).go i H ∧ ∃ Nx : Hp → Prop, (∀ H', Nx H' → ∃ m', m' < m ∧ W (i + 1) m' H') ∧ ∀ x H', (Itl K a).yld i H x H' → gName j x (wipe σ [j]) H' fun σ2 H2 => wipe σ2 [j] = wipe σ [j] ∧ tYes σ2 H2 fun b H3 =>
        if b = true then te σ2 H3 fun y H4 => ∃ acc, H4 D = some (.lst acc) ∧ acc.length < sizeLine ∧ Nx (upd H4 D (.lst (acc ++ [y]))) else Nx H3) := by
  refine lc_listF (K := K) (ds := ds.map some) hx (by rw [hl, List.length_map]) (by rw [List.length_map]; exact hz) hD (fun i x d H Nx Nn hi hd s1 k1 k2 => ?_) (by rw [kept_some]; exact fin)
  rw [List.getElem?_map] at hd
  cases e : ds[i]? with
  | none => rw [e] at hd; cases hd
  | some d' =>
    rw [e] at hd
    obtain rfl := Option.some.inj hd
    exact tYes_go (step i x d' H Nx hi e s1 fun y H4 s4 ty => k1 d' y H4 rfl s4 ty)
end Tw
set_option Elab.async false
set_option linter.all false
set_option maxRecDepth 100000
set_option maxHeartbeats 4000000
namespace Tw
open PySem PySem.Spec PyProof.Rows L2
/-! ### _law_tops -/
def spLTops (k : Nat) : Sp := fun vs H Q _ => ∃ (x : V) (t : T), vs = [x] ∧ Good H x t ∧ knots t < k ∧ ∀ p H', Same H H' → LstT H' p (tops t) → Q (.ref p) H'
/-- a part of a knot -/
def prd (c : Nat) (row : List T) : PyData := .tuple (.str (ltr c) :: row.map td)
theorem prd_kn (c : Nat) (row : List T) : prd c row = td (.kn c row) := by rw [prd, td, tdL_eq]
theorem topsL_app : ∀ (bs es : List T) (rows : List (List T)), topsL rows (bs ++ es) = topsL (topsL rows bs) es
  | [], _, _ => rfl
  | b :: bs, es, rows => by rw [List.cons_append, topsL, topsL_app bs es, topsL]
theorem topsL_snoc (bs : List T) (b : T) (rows : List (List T)) : topsL rows (bs ++ [b]) = (topsL rows bs).flatMap fun row => (tops b).map fun t => row ++ [t] := by rw [topsL_app]; rfl
theorem topsL_len (es : List T) (rows : List (List T)) : (topsL rows es).length = rows.length * topsNL es := topsL_length fun e _ => tops_length e
theorem prd_inv {H : Hp} {v : V} {c : Nat} {row : List T} (h : Tp H v (prd c row)) : ∃ a vs, v = .ref a ∧ H a = some (.tup (.str (ltr c) :: vs)) ∧ TrL H vs row := by
  rw [prd] at h
  cases h with
  | tup e t =>
    cases t with
    | cons h1 t => cases h1; exact ⟨_, _, rfl, e, t⟩
theorem rows_len {c : Nat} : ∀ (bs : List T) {rows : List (List T)} {n : Nat}, (∀ r ∈ rows, r.length = n) → ∀ r ∈ topsL rows bs, r.length = n + bs.length
  | [], rows, n, h, r, hr => by rw [topsL] at hr; rw [h r hr]; rfl
  | b :: bs, rows, n, h, r, hr => by
    rw [topsL] at hr
    have := rows_len (c := c) bs (n := n + 1) (fun r' hr' => by
      obtain ⟨r0, h0, h1⟩ := List.mem_flatMap.mp hr'
      obtain ⟨t, _, rfl⟩ := List.mem_map.mp h1
      rw [List.length_append, h r0 h0]; rfl) r hr
    rw [this, List.length_cons]; omega
theorem flat_len {α β : Type} (f : α → List β) (n : Nat) (h : ∀ x, (f x).length = n) : ∀ l : List α, (l.flatMap f).length = l.length * n
  | [] => by simp
  | x :: l => by rw [List.flatMap_cons, List.length_append, h x, flat_len f n h l, List.length_cons, Nat.succ_mul]; omega
abbrev N_law_tops : List Str := ["_law_bush_here", "_law_rows", "_law_branch", "_law_longer", "_law_row", "_law_top"]
theorem sc_law_tops : FnScope N_law_tops ["_law_bush_here"] (defScope (top 55)) := ⟨rfl, rfl, rfl, by decide +kernel, rfl, by decide +kernel, by decide +kernel⟩
theorem hi_law_tops {K : PySem.W.Frag} {mg : Str → Option Value} (T : Txt K mg) : ∃ f fd, FunD K "_law_tops" "_law_tops" (defArgs (top 55)) (defBody (top 55)) (defScope (top 55)) [] [] f fd ∧ mg "_law_tops" = some (.ref f) := T.df "_law_tops" 55 (by decide)
section
variable {P : Program} {w : World} {K : PySem.W.Frag} {mg : Str → Option Value} {base : Heap}
theorem ok_law_tops (T : Txt K mg) {j : Nat} (c_law_tops : Cal P w K mg base j "_law_tops" (spLTops j)) : Cal P w K mg base (j + 1) "_law_tops" (spLTops (j + 1)) := by
  refine cal_nox (hi_law_tops T) sc_law_tops (fun _ _ _ _ _ _ us hl => match us, hl with | [_], _ => rfl) (fun vs H Q E h => ?_) (fun f cdv A outer s H vs Q E hr h => ?_)
  · obtain ⟨_, _, rfl, _⟩ := h; rfl
  refine ⟨_, (pss_cons (ps_if (pt_eq0 hr.units (pv 0)) (pss_one (ps_ret (pe_lst (pa_cons (pe_tup pa_nil) pa_nil)))) pss_nil)
      (pss_cons (ps_set (i := 1) sc_law_tops.nd rfl (Or.inl rfl) (pe_lst (pa_cons (pe_slice sl_tupS (pv 0) po_none (po_some pe_int)) pa_nil)))
      (pss_cons (ps_for PassesOwn.never rfl (pi_tup (pe_slice sl_tupS (pv 0) (po_some pe_int) po_none)) (pg_name (i := 2) sc_law_tops.nd rfl (Or.inl rfl)) (pss_cons (ps_set (i := 3) sc_law_tops.nd rfl (Or.inl rfl) (pe_lst pa_nil))
      (pss_cons (ps_for PassesOwn.never rfl (pi_list (pv 1)) (pg_name (i := 4) sc_law_tops.nd rfl (Or.inr rfl)) (pss_one (ps_set (i := 3) sc_law_tops.nd rfl (Or.inl rfl) (pe_op op_cat (pv 3) (pe_lc (own := [("_law_top", 5)]) rfl sc_law_tops.nd (pi_list (pe_cl c_law_tops hr (by omega) rfl (pa_cons (pv 2) pa_nil))) (blkOk_by (own := [("_law_top", 5)]) (N := N_law_tops) (sc := defScope (top 55)) (by decide +kernel)) (fun _ _ _ _ _ => (pg_name (i := 5) sc_law_tops.nd rfl (Or.inl rfl))) (fun _ _ _ _ _ => pts_nil) (fun _ _ _ _ _ => (pe_op (r := rCatS K) (by exact op_catS) (pv 4) (pe_tup (pa_cons (pv 5) pa_nil)))))))))
      (pss_one (ps_set (i := 1) sc_law_tops.nd rfl (Or.inl rfl) (pv 3))))))
      (pss_one (ps_ret (pe_op op_cat (pe_lst (pa_cons (pe_tup pa_nil) pa_nil)) (pv 1))))))), ?_⟩
  obtain ⟨x, t, rfl, g, hk, q⟩ := h
  refine ⟨_, rfl, td t, g.tr, g.sh (by decide), fun H1 s1 => ?_⟩
  rw [eqv_tip]
  cases t with
  | tip =>
    refine it1 ⟨sz rfl, fun p0 hp0 => ⟨sz rfl, fun l hl => ?_⟩⟩
    exact q _ _ ((s1.trans (same_new hp0 _)).trans (same_new hl _)) ⟨[.ref p0], upd_same, TpAll.one (Tr.tip (same_new hl _ _ _ upd_same))⟩
  | kn c bs =>
    refine it0 ?_
    obtain ⟨a, xs, rfl, ha, hx⟩ := (g.same s1).tr.kn_inv
    refine ⟨_, rfl, _, rfl, a, _, rfl, ha, fun p H2 s2 hp => ⟨sz rfl, fun l hl => ?_⟩⟩
    rw [cut_to] at hp
    have s3 := (s1.trans s2).trans (same_new hl (.lst [.ref p]))
    have hl3 : LstD (upd H2 l (.lst [.ref p])) l [prd c []] := ⟨_, upd_same, TpAll.one (.tup (same_new hl _ _ _ hp) (.cons (.str _) .nil))⟩
    replace ha := same_new hl (.lst [.ref p]) _ _ (s2 _ _ ha)
    replace hx : TrL (upd H2 l (.lst [.ref p])) xs bs := (TpAll.same hx s2).same (same_new hl _)
    generalize upd H2 l (.lst [.ref p]) = H3 at s3 hl3 ha hx ⊢
    clear s1 s2 hp hl
    refine ⟨_, rfl, _, rfl, a, _, rfl, ha, fun p4 H4 s4 hp4 => ⟨p4, rfl, ⟨_, SqT.of hp4⟩, ?_⟩⟩
    rw [cut_from] at hp4
    have hk2 := g.ok.few
    rw [knots] at hk2
    refine for_tup (K := K) (a := p4) (xs := xs) (fun i σ H5 => Same H4 H5 ∧ ∃ (l : Addr) (br lo ro : Option V), σ = [some (.ref a), some (.ref l), br, lo, ro, none] ∧ LstD H5 l ((topsL [[]] (bs.take i)).map (prd c))) ⟨Same.refl _, l, none, none, none, rfl, hl3.same s4⟩ (fun i σ H5 _ z => SqT.of (z.1 _ _ hp4)) ?_ ?_
    · rintro i u σ H5 hu ⟨s5, l, br, lo, ro, rfl, rows, hrows, trows⟩
      obtain ⟨b, hb⟩ : ∃ b, bs[i]? = some b := ⟨_, List.getElem?_eq_getElem (by rw [← TrL.len hx]; exact (List.getElem?_eq_some_iff.mp hu).1)⟩
      have hm := List.mem_of_getElem? hb
      have gu : Good H5 u b := ⟨((TrL.at hx hu hb).same s4).same s5, g.ok.kid hm⟩
      refine ⟨sz rfl, fun l2 hl2 => ?_⟩
      have s6 := same_new hl2 (.lst [])
      have h6 : LstD (upd H5 l2 (.lst [])) l2 [] := ⟨[], upd_same, .nil⟩
      generalize upd H5 l2 (.lst []) = H6 at s6 h6 ⊢
      have hrl := trows.len
      rw [List.length_map, topsL_len, List.length_singleton, Nat.one_mul] at hrl
      have hsnoc : topsL [[]] (bs.take (i + 1)) = (topsL [[]] (bs.take i)).flatMap fun row => (tops b).map fun t => row ++ [t] := by rw [take_snoc hb, topsL_snoc]
      have hlim : (topsL [[]] (bs.take (i + 1))).length ≤ 4096 := by
        rw [topsL_len, List.length_singleton, Nat.one_mul]
        have h1 := topsNL_le (bs.take (i + 1))
        have h2 := knotsL_take bs (i + 1)
        have h4 : 2 ^ knotsL (bs.take (i + 1)) ≤ 2 ^ 12 := Nat.pow_le_pow_right (by decide) (by omega)
        omega
      refine ⟨_, rfl, l, rfl, ⟨rows, SqL.of (s6 _ _ hrows)⟩, ?_⟩
      have h61 := g.ok.len
      refine for_list (K := K) (a := l) (xs := rows) (fun m σ H7 => Same H6 H7 ∧ ∃ (lo' : Addr) (ro : Option V), σ = [some (.ref a), some (.ref l), some u, some (.ref lo'), ro, none] ∧ LstD H7 lo' ((((topsL [[]] (bs.take i)).take m).flatMap fun row => (tops b).map fun t => row ++ [t]).map (prd c))) ⟨Same.refl _, l2, ro, rfl, h6⟩ (fun m σ H7 _ z => SqL.of (z.1 _ _ (s6 _ _ hrows))) ?_ ?_
      · rintro m v σ H7 hv ⟨s7, lo', ro', rfl, acc0, hacc0, tacc0⟩
        obtain ⟨r, hr⟩ : ∃ r, (topsL [[]] (bs.take i))[m]? = some r := ⟨_, List.getElem?_eq_getElem (by rw [topsL_len, List.length_singleton, Nat.one_mul, ← hrl]; exact (List.getElem?_eq_some_iff.mp hv).1)⟩
        have s57 := s6.trans s7
        obtain ⟨y, hy, ty⟩ := trows.get (i := m) (d := prd c r) (by rw [List.getElem?_map, hr]; rfl)
        rw [hv] at hy
        obtain rfl := Option.some.inj hy
        obtain ⟨ar, vs, rfl, har, tvs⟩ := prd_inv (ty.same s57)
        have hrlen : r.length ≤ 6 := by
          have := rows_len (c := 0) (bs.take i) (rows := [[]]) (n := 0) (fun r hr => by rw [List.mem_singleton.mp hr]; rfl) r (List.mem_of_getElem? hr)
          rw [this, List.length_take]; omega
        refine ⟨_, rfl, _, rfl, _, b, rfl, gu.same s57, Okb.lt (n := 0) hk hm, fun p8 H8 s8 ⟨ts, hts, tts⟩ => ⟨p8, rfl, ⟨ts, SqL.of hts⟩, fun D hD => ?_⟩⟩
        have htl := TrL.len tts
        have htb : (tops b).length ≤ 4096 := by
          rw [tops_length]
          have h1 := topsN_le b
          have h4 : 2 ^ knots b ≤ 2 ^ 12 := Nat.pow_le_pow_right (by decide) gu.ok.few
          omega
        refine lc_listD (K := K) (a := p8) (xs := ts) (j := 5) (ds := ((tops b).map fun t => r ++ [t]).map (prd c)) hts (by rw [htl, List.length_map, List.length_map]) (sz_small (by rw [List.length_map, List.length_map]; omega)) hD (fun n v' d H9 Q' hv' hd s9 k => ?_) (fun H9 acc s9 hacc tacc => ?_)
        · rw [List.map_map] at hd
          obtain ⟨t', ht', rfl⟩ := map_get hd
          have tv' := (TrL.at tts hv' ht').same s9
          refine ⟨_, rfl, _, rfl, sz rfl, fun P hP => ?_⟩
          have sP := same_new hP (.tup [v'])
          have s89 := (s8.trans s9).trans sP
          refine ⟨ar, P, _, _, rfl, rfl, s89 _ _ har, upd_same, sz_small ?_, fun p10 H10 s10 hp10 => ?_⟩
          · rw [List.length_cons, TrL.len tvs]; simp; omega
          · refine k _ _ (sP.trans s10) (.tup hp10 (.cons (.str _) ?_))
            rw [List.map_append]
            exact TpAll.app ((TpAll.same tvs s89).same s10) (.cons ((tv'.same sP).same s10) .nil)
        · have s79 := s8.trans s9
          have hsum : acc0.length + acc.length ≤ 4096 := by
            rw [tacc0.len, tacc.len, List.length_map, List.length_map, List.length_map]
            have e1 := congrArg List.length hsnoc
            rw [flat_len _ (tops b).length (fun x => by rw [List.length_map])] at e1
            rw [flat_len _ (tops b).length (fun x => by rw [List.length_map])]
            have e2 : ((topsL [[]] (bs.take i)).take m).length + 1 ≤ (topsL [[]] (bs.take i)).length := by
              have := (List.getElem?_eq_some_iff.mp hr).1
              rw [List.length_take]; omega
            have e3 : (((topsL [[]] (bs.take i)).take m).length + 1) * (tops b).length ≤ (topsL [[]] (bs.take i)).length * (tops b).length := Nat.mul_le_mul_right _ e2
            rw [Nat.succ_mul] at e3
            omega
          refine ⟨lo', D, acc0, acc, rfl, rfl, s79 _ _ hacc0, hacc, sz_small (by omega), fun p10 hp10 => ?_⟩
          have sp := same_new hp10 (.lst (acc0 ++ acc))
          refine ⟨(s7.trans s79).trans sp, p10, some (.ref ar), rfl, acc0 ++ acc, upd_same, ?_⟩
          rw [take_snoc hr, List.flatMap_append, List.flatMap_singleton, List.map_append]
          exact TpAll.app ((TpAll.same tacc0 s79).same sp) (tacc.same sp)
      · rintro σ H7 ⟨s7, lo', ro', rfl, hlo⟩
        refine ⟨_, rfl, s5.trans (s6.trans s7), lo', some u, some (.ref lo'), ro', rfl, ?_⟩
        rw [hrl, List.take_of_length_le (by rw [topsL_len, List.length_singleton, Nat.one_mul]; exact Nat.le_refl _)] at hlo
        rw [hsnoc]
        exact hlo
    · rintro σ H5 ⟨s5, l, br, lo, ro, rfl, rows, hrows, trows⟩
      rw [TrL.len hx, List.take_length] at trows
      have hlim : (topsL [[]] bs).length ≤ 4096 := by
        rw [topsL_len, List.length_singleton, Nat.one_mul]
        have h1 := topsNL_le bs
        have h4 : 2 ^ knotsL bs ≤ 2 ^ 12 := Nat.pow_le_pow_right (by decide) (by omega)
        omega
      refine ⟨sz rfl, fun p0 hp0 => ⟨sz rfl, fun l1 hl1 => ⟨_, rfl, ?_⟩⟩⟩
      have s6 := (same_new hp0 (.tup [])).trans (same_new hl1 (.lst [.ref p0]))
      have h6 : Tr (upd (upd H5 p0 (.tup [])) l1 (.lst [.ref p0])) (.ref p0) .tip := Tr.tip (same_new hl1 _ _ _ upd_same)
      refine ⟨l1, l, [.ref p0], rows, rfl, rfl, upd_same, s6 _ _ hrows, sz_small (by rw [trows.len, List.length_map, List.length_singleton]; omega), fun p7 hp7 => ?_⟩
      have s7 := s6.trans (same_new hp7 (.lst ([.ref p0] ++ rows)))
      refine q _ _ (((s3.trans s4).trans s5).trans s7) ⟨_, upd_same, ?_⟩
      rw [tops]
      refine .cons (h6.same (same_new hp7 _)) ?_
      rw [List.map_map, show (td ∘ Tw.T.kn c) = prd c from funext fun r => (prd_kn c r).symm]
      exact TpAll.same trows s7
end

end Tw
set_option Elab.async false
set_option linter.all false
set_option maxRecDepth 100000
set_option maxHeartbeats 4000000
namespace Tw
open PySem PySem.Spec PyProof.Rows L2
/-! ### the dict from roads to parts -/
def kR (r : R) : List L2.Key := r.map fun (n : Nat) => Sum.inl (n : Int)
theorem kR_kV (r : R) : (kR r).map kV = r.map fun (n : Nat) => V.int (n : Int) := by
  unfold kR
  rw [List.map_map]; rfl
theorem kR_inj : ∀ {r s : R}, kR r = kR s → r = s
  | [], [], _ => rfl
  | [], _ :: _, h => by simp [kR] at h
  | _ :: _, [], h => by simp [kR] at h
  | a :: r, b :: s, h => by
    rw [kR, kR, List.map_cons, List.map_cons] at h
    injection h with h1 h2
    injection h1 with h1
    rw [kR_inj (r := r) (s := s) h2, show a = b by omega]
def DicV (H : Hp) (kvs : List (List L2.Key × V)) (ps : List (R × T)) : Prop := kvs.map (·.1) = ps.map (fun p => kR p.1) ∧ TpAll H (kvs.map (·.2)) (ps.map fun p => td p.2)
def DicB (H : Hp) (d : Addr) (ps : List (R × T)) : Prop := ∃ kvs, H d = some (.dT kvs) ∧ DicV H kvs ps
theorem DicV.keep {H H' : Hp} {kvs : List (List L2.Key × V)} {ps : List (R × T)} (h : DicV H kvs ps) (k : Kp H H') : DicV H' kvs ps := ⟨h.1, h.2.keep k⟩
theorem DicB.same {H H' : Hp} {d : Addr} {ps : List (R × T)} (h : DicB H d ps) (s : Same H H') : DicB H' d ps := by
  obtain ⟨kvs, h1, h2⟩ := h
  exact ⟨kvs, s _ _ h1, h2.keep (Kp.of s)⟩
theorem DicV.len {H : Hp} {kvs : List (List L2.Key × V)} {ps : List (R × T)} (h : DicV H kvs ps) : kvs.length = ps.length := by
  have := congrArg List.length h.1
  rwa [List.length_map, List.length_map] at this
theorem DicV.cons_inv {H : Hp} {kvs : List (List L2.Key × V)} {p : R × T} {ps : List (R × T)} (h : DicV H kvs (p :: ps)) : ∃ v r, kvs = (kR p.1, v) :: r ∧ Tr H v p.2 ∧ DicV H r ps := by
  obtain ⟨h1, h2⟩ := h
  cases kvs with
  | nil => cases h1
  | cons kv r =>
    rw [List.map_cons, List.map_cons] at h1 h2
    injection h1 with e1 e2
    cases h2 with
    | cons t1 t2 => exact ⟨kv.2, r, by rw [← e1], t1, e2, t2⟩
theorem DicV.get {H : Hp} : ∀ {ps : List (R × T)} {kvs : List (List L2.Key × V)}, DicV H kvs ps → (ps.map (·.1)).Nodup → ∀ {r : R} {t : T}, (r, t) ∈ ps → ∃ v, valV kvs (kR r) = some v ∧ Tr H v t
  | [], _, _, _, r, t, h => by cases h
  | p :: ps, kvs, d, hn, r, t, h => by
    obtain ⟨v, rest, rfl, tv, dr⟩ := d.cons_inv
    rw [List.map_cons, List.nodup_cons] at hn
    rcases List.mem_cons.mp h with e | h
    · subst e
      exact ⟨v, valV_pos rfl, tv⟩
    · obtain ⟨v', h1, h2⟩ := DicV.get dr hn.2 h
      refine ⟨v', ?_, h2⟩
      rw [valV_neg]
      · exact h1
      · intro e
        exact hn.1 (by rw [kR_inj e]; exact List.mem_map.mpr ⟨(r, t), h, rfl⟩)
theorem DicV.none {H : Hp} : ∀ {ps : List (R × T)} {kvs : List (List L2.Key × V)}, DicV H kvs ps → ∀ {r : R}, r ∉ ps.map (·.1) → valV kvs (kR r) = Option.none
  | [], kvs, d, r, h => by
    have e := d.1
    cases kvs with
    | nil => rfl
    | cons a b => cases e
  | p :: ps, kvs, d, r, h => by
    obtain ⟨v, rest, rfl, tv, dr⟩ := d.cons_inv
    rw [List.map_cons, List.mem_cons, not_or] at h
    rw [valV_neg]
    · exact DicV.none dr h.2
    · intro e
      exact h.1 (kR_inj e).symm
theorem DicV.put {H : Hp} {ps : List (R × T)} {kvs : List (List L2.Key × V)} (d : DicV H kvs ps) {r : R} {v : V} {t : T} (h : r ∉ ps.map (·.1)) (hv : Tr H v t) : DicV H (putK kvs (kR r) v) (ps ++ [(r, t)]) := by
  have hn : (kvs.any fun kv => decide (kv.1 = kR r)) = false := by
    rw [valV_any, d.none h]; rfl
  unfold putK
  rw [hn, if_neg Bool.false_ne_true]
  refine ⟨?_, ?_⟩
  · rw [List.map_append, List.map_append, d.1]; rfl
  · rw [List.map_append, List.map_append]
    exact TpAll.app d.2 (.cons hv .nil)
/-! ### the search through a bush -/
def pd (x : R × T) : PyData := .tuple [rd x.1, td x.2]
theorem pd_inv {H : Hp} {v : V} {x : R × T} (h : Tp H v (pd x)) : ∃ a r b, v = .ref a ∧ H a = some (.tup [r, b]) ∧ Rd' H r x.1 ∧ Tr H b x.2 := by
  rw [pd] at h
  cases h with
  | tup e t =>
    cases t with
    | cons h1 t =>
      cases t with
      | cons h2 t => cases t; exact ⟨_, _, _, rfl, e, h1, h2⟩
theorem sh_pdR {x : R × T} {n : Nat} (h1 : Okb n x.2) : Sh (n + 2) (pd x) := Sh.tuple fun d hd => by
  rcases List.mem_cons.mp hd with rfl | hd
  · exact (sh_rd _).mono (by omega)
  · rw [List.mem_singleton.mp hd]; exact h1.sh
def und (x : R × T) : List (R × T) := (nodes x.2).map fun p => (x.1 ++ p.1, p.2)
def kidsP (r : R) : Nat → List T → List (R × T)
  | _, [] => []
  | i, b :: bs => (r ++ [i], b) :: kidsP r (i + 1) bs
theorem kidsP_len (r : R) : ∀ (i : Nat) (bs : List T), (kidsP r i bs).length = bs.length
  | _, [] => rfl
  | i, b :: bs => by rw [kidsP, List.length_cons, List.length_cons, kidsP_len r (i + 1) bs]
theorem kidsP_get (r : R) : ∀ (i : Nat) {bs : List T} {j : Nat} {b : T}, bs[j]? = some b → (kidsP r i bs)[j]? = some (r ++ [i + j], b)
  | _, [], _, _, h => by simp at h
  | i, b :: bs, 0, b', h => by
    have e : b = b' := by simpa using h
    rw [e]; rfl
  | i, b :: bs, j + 1, b', h => by
    rw [kidsP, List.getElem?_cons_succ, kidsP_get r (i + 1) (by simpa using h), show i + 1 + j = i + (j + 1) by omega]
theorem und_kids (r : R) : ∀ (i : Nat) (bs : List T), (nodesL i bs).map (fun p => (r ++ p.1, p.2)) = (kidsP r i bs).flatMap und
  | _, [] => rfl
  | i, b :: bs => by
    rw [nodesL, kidsP, List.map_append, List.flatMap_cons, und_kids r (i + 1) bs, List.map_map]
    congr 1
    refine List.map_congr_left fun p _ => ?_
    show (r ++ i :: p.1, p.2) = ((r ++ [i]) ++ p.1, p.2)
    rw [List.append_assoc]; rfl
theorem und_eq (r : R) (t : T) : und (r, t) = (r, t) :: (kidsP r 0 (kidsOf t)).flatMap und := by
  cases t with
  | tip => simp [und, nodes, kidsOf, kidsP]
  | kn c bs =>
    unfold und
    dsimp only
    rw [nodes, List.map_cons, und_kids, List.append_nil]; rfl
theorem und_top (t : T) : und ([], t) = nodes t := by
  unfold und
  dsimp only
  rw [show (fun p : R × T => ([] ++ p.1, p.2)) = id from rfl, List.map_id]
def sizeS (st : List (R × T)) : Nat := (st.map fun x => size x.2).sum
theorem sizeS_kids (r : R) : ∀ (i : Nat) (bs : List T), sizeS (kidsP r i bs) = sizeL bs
  | _, [] => rfl
  | i, b :: bs => by
    have := sizeS_kids r (i + 1) bs
    rw [sizeS] at this ⊢
    rw [kidsP, List.map_cons, List.sum_cons, this, sizeL]
theorem sizeS_app (a b : List (R × T)) : sizeS (a ++ b) = sizeS a + sizeS b := by rw [sizeS, List.map_append, List.sum_append]; rfl
theorem sizeS_go (st : List (R × T)) (r : R) (t : T) : sizeS (st ++ kidsP r 0 (kidsOf t)) < sizeS (st ++ [(r, t)]) := by
  rw [sizeS_app, sizeS_app, sizeS_kids]
  have : sizeS [(r, t)] = size t := by simp [sizeS]
  rw [this]
  cases t with
  | tip => simp [kidsOf, sizeL, size]
  | kn c bs => rw [size]; simp only [kidsOf]; omega
theorem size_nodes_len (t : T) : (nodes t).length = size t := by
  induction t using T.ind with
  | h0 => rfl
  | h1 c bs ih =>
    have key : ∀ (i : Nat) (bs : List T), (∀ b ∈ bs, (nodes b).length = size b) → (nodesL i bs).length = sizeL bs := by
      intro i bs
      induction bs generalizing i with
      | nil => intro _; rfl
      | cons b r ih2 =>
        intro h
        rw [nodesL, List.length_append, List.length_map, h b List.mem_cons_self, ih2 _ fun x hx => h x (List.mem_cons_of_mem _ hx), sizeL]
    rw [nodes, List.length_cons, key 0 bs ih, size]; omega
/-- what is left to do, what is done -/
structure Dfs (b : T) (ps st : List (R × T)) : Prop where
  perm : (ps ++ st.flatMap und).Perm (nodes b)
  ok : ∀ x ∈ st, Okb 12 x.2 ∧ x.1.length + knots x.2 ≤ 12
  hd : (ps = [] ∧ st = [([], b)]) ∨ ∃ rest, ps = ([], b) :: rest
theorem Dfs.fresh {b : T} {ps st : List (R × T)} {r : R} {t : T} (h : Dfs b ps (st ++ [(r, t)])) : r ∉ ps.map (·.1) ∧ ps.length < (nodes b).length := by
  have p := h.perm
  rw [List.flatMap_append, List.flatMap_singleton, und_eq] at p
  have n : ((ps ++ (st.flatMap und ++ ((r, t) :: (kidsP r 0 (kidsOf t)).flatMap und))).map (·.1)).Nodup := (List.Perm.map (fun x : R × T => x.1) p).nodup_iff.mpr (roads_nodup b)
  refine ⟨fun hm => ?_, ?_⟩
  · rw [List.map_append, List.nodup_append] at n
    exact n.2.2 r hm r (by rw [List.map_append, List.map_cons]; exact List.mem_append_right _ List.mem_cons_self) rfl
  · have l := p.length_eq
    rw [List.length_append, List.length_append, List.length_cons] at l
    omega
theorem Dfs.step {b : T} {ps st : List (R × T)} {r : R} {t : T} (h : Dfs b ps (st ++ [(r, t)])) : Dfs b (ps ++ [(r, t)]) (st ++ kidsP r 0 (kidsOf t)) := by
  refine ⟨?_, ?_, ?_⟩
  rotate_left 2
  · rcases h.hd with ⟨e1, e2⟩ | ⟨rest, e⟩
    · have e3 : st = [] ∧ (r, t) = ([], b) := by
        cases st with
        | nil => exact ⟨rfl, by simpa using e2⟩
        | cons y ys => simp at e2
      exact .inr ⟨[], by rw [e1, e3.2]; rfl⟩
    · exact .inr ⟨rest ++ [(r, t)], by rw [e]; rfl⟩
  · refine List.Perm.trans ?_ h.perm
    rw [List.flatMap_append, List.flatMap_append, List.flatMap_singleton, und_eq, List.append_assoc, List.singleton_append]
    refine List.Perm.append_left ps ?_
    exact (List.perm_middle).symm
  · intro x hx
    rcases List.mem_append.mp hx with hx | hx
    · exact h.ok x (List.mem_append_left _ hx)
    · obtain ⟨k1, k2⟩ := h.ok (r, t) (List.mem_append_right _ List.mem_cons_self)
      obtain ⟨j, hj⟩ := List.getElem?_of_mem hx
      cases t with
      | tip => simp [kidsOf, kidsP] at hx
      | kn c bs =>
        obtain ⟨b', hb⟩ : ∃ b', bs[j]? = some b' := ⟨_, List.getElem?_eq_getElem (by have := (List.getElem?_eq_some_iff.mp hj).1; rw [kidsP_len] at this; exact this)⟩
        rw [show kidsOf (.kn c bs) = bs from rfl, kidsP_get r 0 hb] at hj
        have e := (Option.some.inj hj).symm
        subst e
        have hm := List.mem_of_getElem? hb
        have q := knots_mem hm
        refine ⟨k1.kid hm, ?_⟩
        simp only [knots, List.length_append, List.length_cons, List.length_nil] at k2 ⊢
        omega
theorem Dfs.start {b : T} (h : Okb 12 b) : Dfs b [] [([], b)] := ⟨by rw [List.nil_append, List.flatMap_singleton, und_top], fun x hx => by rw [List.mem_singleton.mp hx]; exact ⟨h, by have := h.few; simpa using this⟩, .inl ⟨rfl, rfl⟩⟩
theorem Dfs.done {b : T} {ps : List (R × T)} (h : Dfs b ps []) : ps.Perm (nodes b) := by
  have := h.perm
  rwa [List.flatMap_nil, List.append_nil] at this
theorem Dfs.top {b : T} {ps : List (R × T)} (h : Dfs b ps []) : ∃ rest, ps = ([], b) :: rest := by
  rcases h.hd with ⟨_, e⟩ | h
  · cases e
  · exact h
theorem same_upd {H H1 : Hp} {l : Addr} {o : HO} (hl : H l = none) (s : Same H H1) : Same H (upd H1 l o) := fun b u q => by
  rw [upd_ne (ne_of_none q hl)]; exact s b u q
end Tw
set_option Elab.async false
set_option linter.all false
set_option maxRecDepth 100000
set_option maxHeartbeats 4000000
namespace Tw
open PySem PySem.Spec PyProof.Rows L2
/-! ### _law_parts -/
def spParts' : Sp := fun vs H Q _ => ∃ (x : V) (t : T), vs = [x] ∧ Good H x t ∧ ∀ d H' ps, Same H H' → DicB H' d ps → ps.Perm (nodes t) → (∃ rest, ps = ([], t) :: rest) → Q (.ref d) H'
theorem TpAll.snoc_inv {H : Hp} {d : PyData} : ∀ {ds : List PyData} {vs : List V}, TpAll H vs (ds ++ [d]) → ∃ ws v, vs = ws ++ [v] ∧ TpAll H ws ds ∧ Tp H v d
  | [], _, h => by
    cases h with
    | cons h t => cases t; exact ⟨[], _, rfl, .nil, h⟩
  | e :: ds, _, h => by
    cases h with
    | cons h t =>
      obtain ⟨ws, v, rfl, t1, t2⟩ := TpAll.snoc_inv t
      exact ⟨_ :: ws, v, rfl, .cons h t1, t2⟩
theorem last_of {α : Type} : ∀ l : List α, l = [] ∨ ∃ r x, l = r ++ [x]
  | [] => .inl rfl
  | a :: l => by
    rcases last_of l with rfl | ⟨r, x, rfl⟩
    · exact .inr ⟨[], a, rfl⟩
    · exact .inr ⟨a :: r, x, rfl⟩
theorem Tr.nthK {H : Hp} {v : V} {t : T} (h : Tr H v t) : ∃ a xs, v = .ref a ∧ H a = some (.tup xs) ∧ ((xs.length : Int) - 1).toNat = (kidsOf t).length ∧ xs.length = lenT t ∧ ∀ i b, (kidsOf t)[i]? = some b → ∃ u, xs[i + 1]? = some u ∧ Tr H u b := by
  cases t with
  | tip =>
    obtain ⟨a, rfl, h1⟩ := h.tip_inv
    exact ⟨a, [], rfl, h1, rfl, rfl, fun i b hb => by simp [kidsOf] at hb⟩
  | kn c bs =>
    obtain ⟨a, xs, rfl, h1, h2, h3⟩ := h.nth
    exact ⟨a, xs, rfl, h1, by rw [h2]; simp only [kidsOf]; omega, h2, h3⟩
theorem lenT_le {n : Nat} {t : T} (h : Okb n t) : lenT t ≤ 7 := by
  cases t with
  | tip => simp [lenT]
  | kn c bs => have := h.len; simp only [lenT]; omega
theorem und_len : ∀ st : List (R × T), st.length ≤ (st.flatMap und).length
  | [] => Nat.zero_le _
  | x :: st => by
    have := und_len st
    rw [List.flatMap_cons, List.length_append, List.length_cons, show x = (x.1, x.2) from rfl, und_eq, List.length_cons]
    omega
theorem Dfs.len {b : T} {ps st : List (R × T)} (h : Dfs b ps st) : ps.length + st.length ≤ (nodes b).length := by
  have l := h.perm.length_eq
  have := und_len st
  rw [List.length_append] at l
  omega
abbrev N_law_parts : List Str := ["_law_bush_here", "_law_found", "_law_line", "_law_road", "_law_part", "_law_at"]
theorem sc_law_parts : FnScope N_law_parts ["_law_bush_here"] (defScope (top 48)) := ⟨rfl, rfl, rfl, by decide +kernel, rfl, by decide +kernel, by decide +kernel⟩
theorem hi_law_parts {K : PySem.W.Frag} {mg : Str → Option Value} (T : Txt K mg) : ∃ f fd, FunD K "_law_parts" "_law_parts" (defArgs (top 48)) (defBody (top 48)) (defScope (top 48)) [] [] f fd ∧ mg "_law_parts" = some (.ref f) := T.df "_law_parts" 48 (by decide)
section
variable {P : Program} {w : World} {K : PySem.W.Frag} {mg : Str → Option Value} {base : Heap}
theorem ok_law_parts (T : Txt K mg)  : Cal P w K mg base (0 + 1) "_law_parts" (spParts') := by
  refine cal_nox (hi_law_parts T) sc_law_parts (fun _ _ _ _ _ _ us hl => match us, hl with | [_], _ => rfl) (fun vs H Q E h => ?_) (fun f cdv A outer s H vs Q E hr h => ?_)
  · obtain ⟨_, _, rfl, _⟩ := h; rfl
  refine ⟨_, (pss_cons (ps_par (i := 1) (j := 2) (by rfl) sc_law_parts.nd rfl rfl (by decide) rfl rfl (pa_cons pe_dnewT (pa_cons (pe_lst (pa_cons (pe_tup (pa_cons (pe_tup pa_nil) (pa_cons (pv 0) pa_nil))) pa_nil)) pa_nil)) (by rfl))
      (pss_cons (ps_while PassesOwn.never (pt_neL hr.units (pv 2)) (pss_cons (ps_asg (pe_bm0 PySem.F.plainAttrs_list PySem.F.slot_list_pop PySem.F.type_list_pop mt_pop (pv 2)) (pg_tup rfl (pgs_cons (pg_name (i := 3) sc_law_parts.nd rfl (Or.inl rfl)) (pgs_cons (pg_name (i := 4) sc_law_parts.nd rfl (Or.inl rfl)) pgs_nil))))
      (pss_cons (ps_dput (hu_of hr) (pv 1) (pv 3) (pv 4) rfl)
      (pss_one (ps_for PassesOwn.never rfl (pi_range1 rfl (T.fr "range" (by simp)) (pa_cons (pe_op op_sub (pe_callB call_len_seq (by rfl) (T.fr "len" (by simp)) (by decide +kernel) (pa_cons (pv 4) pa_nil)) pe_int) pa_nil)) (pg_name (i := 5) sc_law_parts.nd rfl (Or.inl rfl)) (pss_one (ps_expr (pe_bm PySem.F.plainAttrs_list PySem.F.slot_list_append PySem.F.type_list_append mt_append (pv 2) (pa_cons (pe_tup (pa_cons (pe_op op_catS (pv 3) (pe_tup (pa_cons (pv 5) pa_nil))) (pa_cons (pe_ix ix_tup (pv 4) (pe_op op_add (pv 5) pe_int) (fun _ _ => rfl)) pa_nil))) pa_nil)))))))))
      (pss_one (ps_ret (pv 1))))), ?_⟩
  obtain ⟨x, b, rfl, g, q⟩ := h
  have hsz := size_le g.ok.wf
  have hfew := g.ok.few
  have hnl := size_nodes_len b
  refine fun d hd => ⟨Nat.zero_le _, fun p0 hp0 => ⟨_, rfl, sz rfl, fun p1 hp1 => ⟨sz rfl, fun l hl => ?_⟩⟩⟩
  have s1 : Same H (upd H d (.dT [])) := same_new hd _
  have d1 : upd H d (.dT []) d = some (.dT []) := upd_same
  have n1 : H d = none := hd
  generalize upd H d (.dT []) = H1 at s1 d1 hp0 hp1 hl ⊢
  have s2 := s1.trans (same_new hp0 (.tup []))
  have d2 := same_new hp0 (.tup []) _ _ d1
  have t2 : Rd' (upd H1 p0 (.tup [])) (.ref p0) [] := Rd'.of upd_same
  generalize upd H1 p0 (.tup []) = H2 at s2 d2 t2 hp1 hl ⊢
  have s3 := s2.trans (same_new hp1 (.tup [.ref p0, x]))
  have d3 := same_new hp1 (.tup [.ref p0, x]) _ _ d2
  have t3 : Tp (upd H2 p1 (.tup [.ref p0, x])) (.ref p1) (pd ([], b)) := .tup upd_same (.cons (t2.same (same_new hp1 _)) (.cons ((g.same s3).tr) .nil))
  generalize upd H2 p1 (.tup [.ref p0, x]) = H3 at s3 d3 t3 hl ⊢
  have s4 := s3.trans (same_new hl (.lst [.ref p1]))
  have d4 := same_new hl (.lst [.ref p1]) _ _ d3
  have l4 : upd H3 l (.lst [.ref p1]) l = some (.lst [.ref p1]) := upd_same
  have t4 : TpAll (upd H3 l (.lst [.ref p1])) [.ref p1] ([([], b)].map pd) := TpAll.one (t3.same (same_new hl _))
  have n4 : H l = none := by
    cases e : H l with
    | none => rfl
    | some o => rw [s3 _ _ e] at hl; cases hl
  generalize upd H3 l (.lst [.ref p1]) = H4 at s4 d4 l4 t4 ⊢
  clear hl hp0 hp1 s1 s2 s3 d1 d2 d3 t2 t3
  refine ⟨_, _, rfl, fun m σ Hc => ∃ (ps st : List (R × Tw.T)) (us : List V) (rv pv av : Option V), σ = [some x, some (.ref d), some (.ref l), rv, pv, av] ∧ Same H Hc ∧ DicB Hc d ps ∧ Hc l = some (.lst us) ∧ TpAll Hc us (st.map pd) ∧ Dfs b ps st ∧ m = sizeS st, ⟨_, [], [([], b)], _, none, none, none, rfl, s4, ⟨[], d4, rfl, .nil⟩, l4, t4, Dfs.start g.ok, rfl⟩, ?_⟩
  rintro m σ Hc ⟨ps, st, us, rv, pv, av, rfl, sc, dc, lc, tc, dfs, rfl⟩
  refine ⟨_, rfl, l, us, _, rfl, lc, TpAll.dp tc, fun e he => ?_, fun H5 s5 => ?_⟩
  · obtain ⟨z, hz, rfl⟩ := List.mem_map.mp he
    exact (sh_pdR (dfs.ok z hz).1).mono (by decide)
  replace dc := dc.same s5
  replace lc := s5 _ _ lc
  replace tc := TpAll.same tc s5
  replace sc := sc.trans s5
  clear s5
  rcases last_of st with rfl | ⟨st, ⟨r, t⟩, rfl⟩
  · cases tc
    exact it0 ⟨_, rfl, q d _ ps sc dc dfs.done dfs.top⟩
  rw [List.map_append] at tc
  obtain ⟨us, v, rfl, tus, tv⟩ := TpAll.snoc_inv tc
  have hne : (!(us ++ [v]).isEmpty) = true := by simp
  rw [hne]
  obtain ⟨a, rv1, bv, rfl, ha, tr, tb⟩ := pd_inv tv
  obtain ⟨ok1, ok2⟩ := dfs.ok (r, t) (List.mem_append_right _ List.mem_cons_self)
  obtain ⟨fr1, fr2⟩ := dfs.fresh
  have ndl : d ≠ l := by
    obtain ⟨kvs, h1, _⟩ := dc
    exact ne_of h1 lc (by intro z; cases z)
  refine it1 ⟨fun σ' H' => ∃ m', m' < sizeS (st ++ [(r, t)]) ∧ _, fun _ _ h => h, ?_⟩
  refine ⟨_, rfl, .inl ⟨rfl, _, SqL.of lc⟩, l, _, .ref a, rfl, rfl, lc, by simp, ?_⟩
  obtain ⟨kvs, hd1, dv1⟩ := dc
  have k6 : Kp H5 (upd H5 l (.lst (us ++ [V.ref a]).dropLast)) := Kp.lst lc _
  have s6 : Same H (upd H5 l (.lst (us ++ [V.ref a]).dropLast)) := same_upd n4 sc
  have l6 : upd H5 l (.lst (us ++ [V.ref a]).dropLast) l = some (.lst us) := by rw [List.dropLast_concat]; exact upd_same
  have d6 : upd H5 l (.lst (us ++ [V.ref a]).dropLast) d = some (.dT kvs) := by rw [upd_ne ndl]; exact hd1
  generalize upd H5 l (.lst (us ++ [V.ref a]).dropLast) = H6 at k6 s6 l6 d6 ⊢
  replace tr := tr.keep k6
  replace tb := tb.keep k6
  replace tus := TpAll.keep k6 tus
  replace ha := k6 _ _ ha
  replace dv1 := dv1.keep k6
  clear k6 sc lc hd1 tv tc
  refine ⟨a, [rv1, bv], rfl, SqT.of ha, rfl, rv1, [bv], rfl, bv, [], rfl, rfl, ?_⟩
  obtain ⟨ar, rfl, har⟩ := Rd'.inv tr
  have hkl := dv1.len
  refine ⟨_, rfl, _, rfl, _, rfl, d, _, rfl, DPut.t (k := kR r) d6 (by rw [kR_kV]; exact har) (Nat.lt_of_lt_of_le (n := kvs.length) (m := 100) (by omega) (sz rfl)), ?_⟩
  have k7 : Kp H6 (upd H6 d (.dT (putK kvs (kR r) bv))) := Kp.dT d6 _
  have s7 : Same H (upd H6 d (.dT (putK kvs (kR r) bv))) := same_upd n1 s6
  have d7 : upd H6 d (.dT (putK kvs (kR r) bv)) d = some (.dT (putK kvs (kR r) bv)) := upd_same
  have l7 : upd H6 d (.dT (putK kvs (kR r) bv)) l = some (.lst us) := by rw [upd_ne (Ne.symm ndl)]; exact l6
  have dv7 := (dv1.put fr1 tb).keep k7
  generalize upd H6 d (.dT (putK kvs (kR r) bv)) = H7 at k7 s7 d7 l7 dv7 ⊢
  replace tr := Tp.keep k7 tr
  replace tb := tb.keep k7
  replace tus := TpAll.keep k7 tus
  replace har := k7 _ _ har
  clear k7 s6 l6 d6 dv1 ha
  obtain ⟨ab, vs, rfl, hab, hn, hvl, nth⟩ := Tr.nthK tb
  have hl7 := lenT_le ok1
  dsimp only at hl7 ok2 hvl hn nth
  refine ⟨_, rfl, ab, vs, rfl, .inr (SqT.of hab), _, _, rfl, rfl, _, rfl, by omega, by omega, ?_⟩
  rw [hn]
  have dfs2 := dfs.step
  have hgo := sizeS_go st r t
  have hstl : st.length ≤ 1000 := by have := dfs.len; rw [List.length_append] at this; omega
  refine for_range (fun i σ Hc => Same H Hc ∧ Kp H7 Hc ∧ Hc d = some (.dT (putK kvs (kR r) (.ref ab))) ∧ ∃ (us' : List V) (av : Option V), σ = [some x, some (.ref d), some (.ref l), some (.ref ar), some (.ref ab), av] ∧ Hc l = some (.lst us') ∧ TpAll Hc us' ((st ++ (kidsP r 0 (kidsOf t)).take i).map pd)) ⟨s7, Kp.refl _, d7, us, av, rfl, l7, by rw [List.take_zero, List.append_nil]; exact tus⟩ ?_ ?_
  · rintro i σ Hc hi ⟨sc, kc, dc, us', av', rfl, lc, tc⟩
    obtain ⟨b', hb'⟩ : ∃ b', (kidsOf t)[i]? = some b' := ⟨_, List.getElem?_eq_getElem hi⟩
    obtain ⟨u, hu, tu⟩ := nth i b' hb'
    refine ⟨_, rfl, .inl ⟨rfl, _, SqL.of lc⟩, _, rfl, _, rfl, sz rfl, fun P1 hP1 => ?_⟩
    have sP := same_new hP1 (.tup [.int ((0 : Int) + (i : Int))])
    refine ⟨ar, P1, _, _, rfl, rfl, sP _ _ (kc _ _ har), upd_same, sz_small (by rw [List.length_map]; simp; omega), fun p8 H8 s8 e8 => ?_⟩
    have s9 := sP.trans s8
    refine ⟨_, rfl, _, rfl, _, _, rfl, rfl, ab, vs, _, u, rfl, rfl, SqT.of (s9 _ _ (kc _ _ hab)), (by rw [show (0 : Int) + (i : Int) + 1 = ((i + 1 : Nat) : Int) by omega]; exact atI_nat hu), sz rfl, fun P2 hP2 => ?_⟩
    have s10 := s9.trans (same_new hP2 (.tup [.ref p8, u]))
    have l10 := s10 _ _ lc
    have t10 : Tp (upd H8 P2 (.tup [.ref p8, u])) (.ref P2) (pd (r ++ [i], b')) := .tup upd_same (.cons (Tp.same (Rd'.snoc (i := i) (by rw [e8, show (0 : Int) + (i : Int) = (i : Int) by omega])) (same_new hP2 _)) (.cons ((tu.keep kc).same s10) .nil))
    generalize upd H8 P2 (.tup [.ref p8, u]) = H10 at s10 l10 t10 ⊢
    have hlen := tc.len
    refine ⟨l, us', _, rfl, rfl, l10, Nat.lt_of_lt_of_le (m := 10000) ?_ (sz rfl), ?_⟩
    · rw [List.length_map, List.length_append, List.length_take, kidsP_len] at hlen
      omega
    have kl : Kp H10 (upd H10 l (.lst (us' ++ [.ref P2]))) := Kp.lst l10 _
    refine ⟨same_upd n4 (sc.trans s10), (kc.trans (Kp.of s10)).trans kl, ?_, _, _, rfl, upd_same, ?_⟩
    · rw [upd_ne ndl]; exact s10 _ _ dc
    · rw [take_snoc (kidsP_get r 0 hb'), ← List.append_assoc, List.map_append, Nat.zero_add]
      exact TpAll.app ((TpAll.same tc s10).keep kl) (TpAll.one (t10.keep kl))
  · rintro σ Hc ⟨sc, kc, dc, us', av', rfl, lc, tc⟩
    rw [← kidsP_len r 0 (kidsOf t), List.take_length] at tc
    exact ⟨_, hgo, ps ++ [(r, t)], _, us', _, _, _, rfl, sc, ⟨_, dc, dv7.keep kc⟩, lc, tc, dfs2, rfl⟩
end

end Tw
set_option Elab.async false
set_option linter.all false
set_option maxRecDepth 100000
set_option maxHeartbeats 4000000
namespace Tw
open PySem PySem.Spec PySem.W PyProof.Rows L2
/-! ### sorted: of what was collected -/
section
variable {prog : Program} {w : World} {A : Around} {E : Value → Shared → Prop} {s : Shared}
theorem sorted_core {x : Value} {ltv : Value → Value → Bool} {Pv : List Value → Prop} {Q : Value → Shared → Prop} (O : SrtO.Swo ltv)
    (hcol : ∀ (R : List Value → Shared → Prop), (∀ (h' : Heap) (tk : Nat) (vs : List Value), (∀ b o, s.heap.get? b = some o → h'.get? b = some o) → Pv vs → R vs { s with heap := h', toks := tk }) → wpAny (model prog w) A.in1 (collect x) R E s)
    (hz : ∀ vs, Pv vs → vs.length ≤ sizeLine)
    (hS : ∀ (vs : List Value) (s₁ : Shared) (a : Addr), Pv vs → 2 ≤ vs.length → s₁.heap.get? a = some (seqObj "list" vs.toArray 0) → (∀ b o, s.heap.get? b = some o → s₁.heap.get? b = some o) → SrtO.SortableO prog w A.in1.in1 s₁ a vs ltv)
    (h : ∀ (vs out : List Value) (h1 h' : Heap) (tk : Nat), Pv vs → SrtO.Srtd ltv out → SrtO.Stb ltv out vs → (∀ b o, s.heap.get? b = some o → h1.get? b = some o) → (∀ b o, h1.get? b = some o → h'.get? b = some o) → (∃ n, h'.get? h1.objs.size = some (seqObj "list" out.toArray n)) → Q (.ref h1.objs.size) { s with heap := h', toks := tk }) :
    wpAny (model prog w) A (call (.builtin "sorted") [x]) Q E s := by
  refine Calls.call_function_entry PyProof.Rows.kind_sorted PyProof.Rows.plain_sorted PyProof.Rows.entry_sorted (PyProof.Rows.args_sorted1 _) ?_
  unfold Builtin.«sorted»
  refine wpAny_bind (m := checkCount "sorted" 1 1 _) (wpAny_pure ?_)
  refine wpAny_bind (hcol _ fun h' tk vs kp hp => ?_)
  refine wpAny_bind (wpAny_newList ?_ (hz vs hp))
  have hoL : (h'.push (seqObj "list" vs.toArray 0)).get? h'.objs.size = some (seqObj "list" vs.toArray 0) := Heap.get?_push_size _ rfl
  show wpAny _ _ _ _ _ { s with heap := h'.push (seqObj "list" vs.toArray 0), toks := tk }
  refine wpAny_bind (wpAny_holding (wpAny_call_entry PyProof.Rows.slot_list_sort ⟨_, hoL, rfl⟩ PyProof.Rows.entry_list_sort
    (SrtO.list_sort_ord (s := { s with heap := h'.push (seqObj "list" vs.toArray 0), toks := tk }) O hoL (hz vs hp) (fun h2 => hS vs _ _ hp h2 hoL fun b o e => Heap.get?_push_of_some _ (kp b o e)) fun out hs hb => ⟨_, rfl, ?_⟩) (PyProof.Rows.args_list_sort _)))
  obtain ⟨e', he'⟩ := PyProof.Rows.sortedHeap_at (vs := vs) (out := out.toArray) hoL
  refine wpAny_pure ⟨_, rfl, h vs out h' _ tk hp hs hb kp (fun b u e => ?_) ⟨e', he'⟩⟩
  have hb : b < h'.objs.size := Heap.lt_size e
  rw [PyProof.Rows.sortedHeap_old (Nat.ne_of_lt hb) (by rw [size_push']; exact Nat.lt_succ_of_lt hb)]
  exact Heap.get?_push_of_some _ e
/-! ### tuples of ints -/
def IntTup (h : Heap) (v : Value) (l : List Int) : Prop := ∃ a items, v = .ref a ∧ IsTup h a items ∧ IntsAre items.toList l
theorem IntTup.keeps {h h' : Heap} {v : Value} {l : List Int} (x : IntTup h v l) (k : ∀ b o, h.get? b = some o → o.cls = .type "tuple" → h'.get? b = some o) : IntTup h' v l := by
  obtain ⟨a, items, e, ⟨o, ho, hc, hd⟩, hi⟩ := x
  exact ⟨a, items, e, ⟨o, k _ _ ho hc, hc, hd⟩, hi⟩
theorem lt_int_tups {v u : Value} {ns ms : List Int} {Q : Bool → Shared → Prop} (hu : A.units < cLine) (hv : IntTup s.heap v ns) (hw : IntTup s.heap u ms) (h : Q (HT.lexLt ns ms) s) : wpAny (model prog w) A (keyLt' oneType' v u) Q E s := by
  obtain ⟨l, items, rfl, ⟨⟨cls, dd, data, sl⟩, ho, hc, n, hd⟩, hi⟩ := hv
  obtain ⟨b, items2, rfl, ⟨⟨cls2, dd2, data2, sl2⟩, ho2, hc2, n2, hd2⟩, hj⟩ := hw
  simp only at hc hd hc2 hd2
  subst hc hd hc2 hd2
  rw [keyLt'_oneType, oneLt'_eq]
  simp only [if_true]
  refine wpAny_bind (wpAny_cRoomFor hu ?_)
  refine wpAny_bind (wpAny_callSpecialIfBound?_slot (T := "tuple") ⟨_, ho, rfl⟩ PySem.F.slot_tuple_lt (call_meets PySem.F.slot_tuple_lt ⟨_, ho, rfl⟩ PySem.F.entry_tuple_lt (PySem.F.args_tuple_lt_2 _ _) (HT.tuple_lt_ints l b items items2 n n2 dd dd2 sl sl2 ns ms hi hj) ⟨ho, ho2, ?_⟩))
  exact wpAny_truthy_bool h
def firstAt (h : Heap) : Value → Option Value
  | .ref a => match h.get? a with
    | some o => match o.data with
      | .seq xs _ => xs[0]?
      | _ => none
    | none => none
  | _ => none
theorem mapM_fun {α β : Type} {M : Model} {f : α → Sem β} {g : α → β} : ∀ (l : List α) {Q : List β → Shared → Prop}, (∀ v ∈ l, ∀ (Q' : β → Shared → Prop), Q' (g v) s → wpAny M A (f v) Q' E s) → Q (l.map g) s → wpAny M A (l.mapM f) Q E s
  | [], _, _, h => by rw [List.mapM_nil]; exact wpAny_pure h
  | x :: l, Q, hf, h => by
    rw [List.mapM_cons]
    exact wpAny_bind (hf x (.head _) _ (wpAny_bind (mapM_fun l (Q := fun bs s' => wpAny M A (pure (g x :: bs)) Q E s') (fun v hv => hf v (.tail _ hv)) (wpAny_pure h))))
theorem tups_kind {M : Model} {v0 : Value} {rest : List Value} {Q : SortKind → Shared → Prop} {k : Value → List Int} (hv : ∀ v ∈ v0 :: rest, IntTup s.heap v (k v)) (h0 : k v0 = []) (h : Q oneType' s) : wpAny M A (keyKind' (v0 :: rest).toArray) Q E s := by
  rw [keyKind'_eq, List.mapM_toArray, map_eq_pure_bind]
  have hT : ∀ v ∈ v0 :: rest, Looks M s.heap (typeOf v) (.type "tuple") := fun v hm => by
    obtain ⟨a, items, rfl, ⟨o, ho, hc, n, hd⟩, hi⟩ := hv v hm
    rw [← hc]
    exact (show Looks M s.heap (typeOf (.ref a)) o.cls from (Looks.ld ho).andThen .now)
  refine wpAny_bind (wpAny_bind (mapM_fun (g := firstAt s.heap) _ (fun v hm Q' hq => ?_) (wpAny_pure ?_)))
  · rw [kas_first_eq]
    refine wpAny_bind ((hT v hm).here ?_)
    obtain ⟨a, items, rfl, ⟨o, ho, hc, n, hd⟩, hi⟩ := hv v hm
    rw [if_neg (by decide)]
    refine wpAny_bind (listItems_at ho hd (wpAny_pure ?_))
    have e : firstAt s.heap (.ref a) = items[0]? := by
      unfold firstAt
      simp only [ho, hd]
    rw [← e]
    exact hq
  · have e0 : firstAt s.heap v0 = none := by
      obtain ⟨a, items, rfl, ⟨o, ho, hc, n, hd⟩, hi⟩ := hv v0 List.mem_cons_self
      rw [h0] at hi
      have hit : items.toList = [] := by cases e : items.toList with
        | nil => rfl
        | cons x r => rw [e] at hi; cases hi
      unfold firstAt
      simp only [ho, hd]
      have : items = #[] := by rw [← Array.toList_inj]; rw [hit]
      rw [this]; rfl
    rw [if_neg (by simp [e0]), if_neg (by simp [e0])]
    rw [oneTypeOnly'_eq, List.mapM_toArray, map_eq_pure_bind]
    refine wpAny_bind (wpAny_bind (wpAny_bind (kas_mapM (r := Value.type "tuple") _ (fun v hm Q' hq => (hT v hm).here hq) (wpAny_pure ?_))))
    have hall : ((List.map (fun _ => Value.type "tuple") (v0 :: rest)).toArray.all fun x => x == Value.type "tuple") = true := by
      simp only [List.all_toArray, List.all_map, List.all_eq_true]
      intro _ _
      rfl
    have h1 : (List.map (fun _ => Value.type "tuple") (v0 :: rest)).toArray[0]? = some (Value.type "tuple") := by simp
    rw [h1]
    simp only [hall, if_true]
    exact wpAny_pure (wpAny_pure h)
theorem tups_sortable {a : Addr} {v0 : Value} {rest : List Value} {k : Value → List Int} (hu : A.units < cLine) (hv : ∀ v ∈ v0 :: rest, IntTup s.heap v (k v)) (h0 : k v0 = []) (ha : ∀ o, s.heap.get? a = some o → o.cls ≠ .type "tuple") :
    SrtO.SortableO prog w A s a (v0 :: rest) fun v u => HT.lexLt (k v) (k u) := by
  intro h' keep
  have hv' : ∀ v ∈ v0 :: rest, IntTup h' v (k v) := fun v hm => (hv v hm).keeps fun b o e c => keep b o (fun z => by subst z; exact ha o e c) e
  refine ⟨oneType', fun Q E hq => tups_kind (s := { s with heap := h' }) hv' h0 hq, fun p q hp hq => ?_⟩
  exact lt_int_tups (s := { s with heap := h' }) (Q := fun r s' => s' = { s with heap := h' } ∧ r = HT.lexLt (k p.1) (k q.1)) (E := fun _ _ => False) hu (hv' p.1 hp) (hv' q.1 hq) ⟨rfl, rfl⟩
end
end Tw
set_option Elab.async false
set_option linter.all false
set_option maxRecDepth 100000
set_option maxHeartbeats 4000000
namespace Tw
open PySem PySem.Spec PySem.W PyProof.Rows L2
section
variable {prog : Program} {w : World} {A : Around} {E : Value → Shared → Prop} {s : Shared}
theorem collect_tup {l : Addr} {vs : List Value} {Q : List Value → Shared → Prop} (hl : IsTup s.heap l vs.toArray)
    (h : Q vs { s with heap := (s.heap.push (seqObj "list" #[] 0)).update s.heap.objs.size (Obj.mapSeq (· ++ vs.toArray)) }) (hsz : vs.length ≤ sizeLine) :
    wpAny (model prog w) A (collect (.ref l)) Q E s := by
  obtain ⟨o, ho, hc, n, hd⟩ := id hl
  unfold collect
  refine wpAny_bind (wpAny_runValue (codeAny_builtin entry_proto_collect' ?_))
  show wpAny _ _ (do again (.builtin "list.__iadd__" ⟨[← newList [], .ref l], []⟩)) _ _ s
  refine wpAny_bind (wpAny_newList (wpAny_pure ⟨Code.quiet_builtin _ (by decide +kernel), codeAny_builtin entry_list_iadd' ?_⟩))
  show wpAny _ _ (Builtin.List.listExtendWith (.ref s.heap.objs.size) (.ref l) (.ref s.heap.objs.size)) _ _ { s with heap := s.heap.push (seqObj "list" #[] 0) }
  unfold Builtin.List.listExtendWith
  have ho' : (s.heap.push (seqObj "list" #[] 0)).get? l = some o := Heap.get?_push_of_some _ ho
  refine wpAny_bind (wpAny_typeOf (T := "tuple") ⟨o, ho', hc⟩ ?_)
  have ht : (Value.type "tuple" == Value.type "tuple") = true := by rfl
  rw [if_pos (by rw [ht]; simp)]
  refine wpAny_bind (listItems_at ho' hd ?_)
  refine wpAny_bind (listItems_at (xs := #[]) (n := 0) (Heap.get?_push_size _ rfl) rfl ?_)
  rw [if_neg (by simp)]
  refine wpAny_bind (listUpdate_at (xs := #[]) (n := 0) (Heap.get?_push_size _ rfl) rfl ?_ (Nat.zero_le _) (by show (#[] ++ vs.toArray).size ≤ sizeLine + 1; simp only [Array.size_append, List.size_toArray, List.length_nil]; omega))
  refine wpAny_pure ?_
  show wpAny (model prog w) A (do
      let o ← load s.heap.objs.size
      match o.data with
      | .seq xs _ => pure xs.toList
      | _ => unsupported "internal:collect") Q E { s with heap := (s.heap.push (seqObj "list" #[] 0)).update s.heap.objs.size (Obj.mapSeq (· ++ vs.toArray)) }
  refine wpAny_bind (wpAny_load (get?_update_seq (Heap.get?_push_size _ rfl) _) ?_)
  show wpAny _ _ (pure ((#[] : Array Value) ++ vs.toArray).toList) Q E _
  rw [show ((#[] : Array Value) ++ vs.toArray).toList = vs by simp]
  exact wpAny_pure h
/-! ### pairs of an int and an object -/
def PrTup (h : Heap) (v : Value) (n : Int) (u : Value) : Prop := ∃ a o t c, v = .ref a ∧ h.get? a = some o ∧ o.cls = .type "tuple" ∧ o.data = .seq #[.int n t, u] c
theorem PrTup.keeps {h h' : Heap} {v : Value} {n : Int} {u : Value} (x : PrTup h v n u) (k : ∀ b o, h.get? b = some o → o.cls = .type "tuple" → h'.get? b = some o) : PrTup h' v n u := by
  obtain ⟨a, o, t, c, e, ho, hc, hd⟩ := x
  exact ⟨a, o, t, c, e, k _ _ ho hc, hc, hd⟩
theorem reads_ints {h : Heap} : ∀ {vs : List Value} {ns : List Int}, IntsAre vs ns → ReadsAll h vs (ns.map PyData.int) []
  | _, _, .nil => .nil
  | _, _, .cons n t r => ReadsAll.cons (as := []) (bs := []) (.int n t) (reads_ints r)
theorem IntTup.reads {h : Heap} {v : Value} {l : List Int} (x : IntTup h v l) : Reads h v (.tuple (l.map PyData.int)) [] := by
  obtain ⟨a, items, rfl, ⟨o, ho, hc, n, hd⟩, hi⟩ := x
  exact .tuple ho hc hd (reads_ints hi)
theorem eqv_ints : ∀ l m : List Int, PyData.eqvAll (l.map PyData.int) (m.map PyData.int) = decide (l = m)
  | [], [] => by simp [PyData.eqvAll]
  | [], _ :: _ => by simp [PyData.eqvAll]
  | _ :: _, [] => by simp [PyData.eqvAll]
  | a :: l, b :: m => by
    rw [List.map_cons, List.map_cons, PyData.eqvAll, eqv_ints l m, PyData.eqv]
    by_cases h : a = b
    · subst h; simp
    · rw [decide_eq_false (show ¬ a :: l = b :: m by intro z; injection z with z _; exact h z)]
      rw [beq_eq_false_iff_ne.mpr h, Bool.false_and]
theorem sh_ints (l : List Int) : Sh 1 (.tuple (l.map PyData.int)) := Sh.tuple fun d hd => by
  obtain ⟨n, _, rfl⟩ := List.mem_map.mp hd
  exact Sh.int _
theorem lexLt_self : ∀ l : List Int, HT.lexLt l l = false
  | [] => rfl
  | a :: l => by rw [HT.lexLt_cons, if_pos rfl]; exact lexLt_self l
theorem prs_cmp {vs : List Value} {k : Value → Int} {l : Value → List Int} {sn : Value → Value} (hu : A.units + 3 < cLine) (hp : ∀ v ∈ vs, PrTup s.heap v (k v) (sn v))
    (hC : ∀ v ∈ vs, ∀ u ∈ vs, k v = k u → (sn v = sn u ∧ l v = l u) ∨ (IntTup s.heap (sn v) (l v) ∧ IntTup s.heap (sn u) (l u))) :
    SrtO.Cmp prog w A s (tuples' true) (fun p => p.1 ∈ vs) (SrtO.lt2 fun v u => HT.lexLt (k v :: l v) (k u :: l u)) := by
  intro p q hm hm'
  have h1 := hp _ hm
  have h2 := hp _ hm'
  have hc := hC _ hm _ hm'
  show wpAny (model prog w) A (keyLt' (tuples' true) p.1 q.1) (fun r s' => s' = s ∧ r = HT.lexLt (k p.1 :: l p.1) (k q.1 :: l q.1)) (fun _ _ => False) s
  rw [HT.lexLt_cons]
  generalize k p.1 = x at h1 hc ⊢
  generalize k q.1 = x' at h2 hc ⊢
  generalize sn p.1 = y at h1 hc
  generalize sn q.1 = y' at h2 hc
  generalize l p.1 = l1 at hc ⊢
  generalize l q.1 = l2 at hc ⊢
  obtain ⟨a, o, t, n, e, ho, hc1, hd⟩ := h1
  obtain ⟨a', o', t', n', e', ho', hc', hd'⟩ := h2
  rw [e, e']
  refine PySem.W.kat_lt ho hd ho' hd' ?_
  show PySem.W.KatLex prog w A true (decide (2 < 2)) _ [(.int x t, .int x' t'), (y, y')] 0 s
  refine PySem.W.kat_cons (SeqAt.EqAt.int_int x t x' t' prog w _ _ ?_)
  refine PySem.W.kat_go (fun e1 => ?_) (fun e1 => ?_)
  · have ex : x = x' := by simpa using e1
    rw [if_pos ex]
    rcases hc ex with ⟨e2, e3⟩ | ⟨t1, t2⟩
    · subst e2 e3
      refine PySem.W.kat_yes (PySem.W.kat_cons (SeqAt.EqAt.same y prog w _ _ ?_))
      exact PySem.W.kat_yes (PySem.W.kat_nil ⟨rfl, (lexLt_self _).symm⟩)
    · have E1 : SeqAt.EqAt A s y y' (PyData.eqv (.tuple (l1.map PyData.int)) (.tuple (l2.map PyData.int))) := SeqAt.eqAt_reads _ _ A s y y' [] [] t1.reads t2.reads (sh_ints _).1 (sh_ints _).1 (by have := (sh_ints l1).2; omega)
      rw [PyData.eqv, eqv_ints] at E1
      refine PySem.W.kat_yes (PySem.W.kat_cons (E1 prog w _ _ ?_))
      refine PySem.W.kat_go (fun e2 => ?_) (fun e2 => ?_)
      · have el := of_decide_eq_true e2
        subst el
        exact PySem.W.kat_yes (PySem.W.kat_nil ⟨rfl, (lexLt_self _).symm⟩)
      · obtain ⟨b1, i1, rfl, tb1, ti1⟩ := t1
        obtain ⟨b2, i2, rfl, tb2, ti2⟩ := t2
        refine PySem.W.kat_no (PySem.W.kat_one _ _ (HT.lt_tupInts tb1 tb2 ti1 ti2 (by omega) ?_))
        exact (show s = s ∧ HT.lexLt l1 l2 = HT.lexLt l1 l2 from ⟨rfl, rfl⟩)
  · have ex : ¬ x = x' := by simpa using e1
    rw [if_neg ex]
    exact PySem.W.kat_no (oneLt_int ⟨rfl, rfl⟩)
theorem prs_firsts {h : Heap} : ∀ {vs : List Value} {k : Value → Int} {sn : Value → Value}, (∀ v ∈ vs, PrTup h v (k v) (sn v)) → ∃ fs, KatTups h vs fs ∧ fs.length = vs.length ∧ ∀ f ∈ fs, ∃ x t, f = Value.int x t
  | [], _, _, _ => ⟨[], trivial, rfl, fun _ hf => by cases hf⟩
  | v :: vs, k, sn, hv => by
    obtain ⟨fs, h1, h2, h3⟩ := prs_firsts (vs := vs) fun u hu => hv u (List.mem_cons_of_mem _ hu)
    obtain ⟨a, o, t, c, e, ho, hc, hd⟩ := hv v List.mem_cons_self
    refine ⟨.int (k v) t :: fs, ⟨⟨a, o, _, c, e, ho, hc, hd, rfl⟩, h1⟩, by rw [List.length_cons, List.length_cons, h2], fun f hf => ?_⟩
    rcases List.mem_cons.mp hf with rfl | hf
    · exact ⟨_, _, rfl⟩
    · exact h3 f hf
theorem prs_sortable {a : Addr} {vs : List Value} {k : Value → Int} {l : Value → List Int} {sn : Value → Value} (h0 : 0 < vs.length) (hu : A.units + 3 < cLine) (hp : ∀ v ∈ vs, PrTup s.heap v (k v) (sn v))
    (hC : ∀ v ∈ vs, ∀ u ∈ vs, k v = k u → (sn v = sn u ∧ l v = l u) ∨ (IntTup s.heap (sn v) (l v) ∧ IntTup s.heap (sn u) (l u))) (ha : ∀ o, s.heap.get? a = some o → o.cls ≠ .type "tuple") :
    SrtO.SortableO prog w A s a vs fun v u => HT.lexLt (k v :: l v) (k u :: l u) := by
  intro h' keep
  have kk : ∀ b o, s.heap.get? b = some o → o.cls = .type "tuple" → h'.get? b = some o := fun b o e c => keep b o (fun z => by subst z; exact ha o e c) e
  have hp' : ∀ v ∈ vs, PrTup h' v (k v) (sn v) := fun v hm => (hp v hm).keeps kk
  obtain ⟨fs, h1, h2, h3⟩ := prs_firsts hp'
  refine ⟨tuples' true, fun Q E hq => ?_, prs_cmp (s := { s with heap := h' }) hu hp' fun v hv u hv2 e => ?_⟩
  · refine PySem.W.kat_kind (T := .type "int") h1 (by omega) (fun f hm => ?_) (by rfl) ?_
    · obtain ⟨x, t, rfl⟩ := h3 f hm
      exact PySem.W.Looks.now
    · have e : (Value.type "int" != Value.type "tuple") = true := by first | decide +kernel | rfl | decide
      rw [e]
      exact hq
  · rcases hC v hv u hv2 e with z | ⟨t1, t2⟩
    · exact .inl z
    · exact .inr ⟨t1.keeps kk, t2.keeps kk⟩
end
end Tw
set_option Elab.async false
set_option linter.all false
set_option maxRecDepth 100000
set_option maxHeartbeats 4000000
namespace Tw
open PySem PySem.Spec PySem.W PyProof.Rows L2
/-! ### sorted: as rules -/
def vI : V → Int
  | .int i => i
  | _ => 0
def kvI (H : Hp) : V → List Int
  | .ref a => match H a with
    | some (.tup xs) => xs.map vI
    | _ => []
  | _ => []
def prK (H : Hp) : V → Int × V
  | .ref a => match H a with
    | some (.tup [.int n, u]) => (n, u)
    | _ => (0, .non)
  | _ => (0, .non)
def kxI (H : Hp) (x : V) : List Int := (prK H x).1 :: kvI H (prK H x).2
def refV : V → Value
  | .ref b => .ref b
  | _ => .none
theorem kvI_of {H : Hp} {a : Addr} {l : List Int} (h : H a = some (.tup (l.map V.int))) : kvI H (.ref a) = l := by
  unfold kvI
  simp only [h]
  rw [List.map_map]
  exact (List.map_congr_left fun _ _ => rfl).trans (List.map_id l)
theorem prK_of {H : Hp} {a : Addr} {n : Int} {u : V} (h : H a = some (.tup [.int n, u])) : prK H (.ref a) = (n, u) := by
  unfold prK
  simp only [h]
section
variable {X : Cx} {pins : List (Addr × Obj)} {σ : L2.St} {H : Hp} {s : Shared}
theorem int_tup_at (I : Inv X pins σ H s) {a : Addr} {l : List Int} (h : H a = some (.tup (l.map V.int))) : IntTup s.heap (.ref a) l := by
  obtain ⟨_, its, rv, pl⟩ := I.hok _ _ h
  exact ⟨a, _, rfl, pl, by simpa using intsAre_of rv⟩
theorem pr_tup_at (I : Inv X pins σ H s) {a b : Addr} {n : Int} (h : H a = some (.tup [.int n, .ref b])) : PrTup s.heap (.ref a) n (.ref b) := by
  obtain ⟨_, its, rv, o, ho, hc, c, hd⟩ := I.hok _ _ h
  obtain ⟨u1, u2, rfl, r1, r2⟩ := vals2 rv
  obtain ⟨t1, rfl⟩ := r1
  cases r2
  exact ⟨a, o, t1, c, rfl, ho, hc, hd⟩
/-- sorted(xs), xs pairs of an int and an object: where two ints are the same, so are the objects, or they are tuples of ints -/
def rSortedPr (K : PySem.W.Frag) : List V → Hp → VK → Prop := fun vs H Q => ∃ (a : Addr) (xs : List V), vs = [V.ref a] ∧ (SqL K H a xs ∨ SqT K H a xs) ∧ (∀ x ∈ xs, ∃ t n b, x = V.ref t ∧ H t = some (.tup [.int n, .ref b])) ∧
  (∀ x ∈ xs, ∀ y ∈ xs, (prK H x).1 = (prK H y).1 → (prK H x).2 = (prK H y).2 ∨ ((∃ (b : Addr) (l : List Int), (prK H x).2 = .ref b ∧ H b = some (.tup (l.map V.int))) ∧ ∃ (b : Addr) (l : List Int), (prK H y).2 = .ref b ∧ H b = some (.tup (l.map V.int)))) ∧
  ∀ ys p, ys.Perm xs → SrtO.Srtd (fun x y => HT.lexLt (kxI H x) (kxI H y)) ys → H p = none → Q (.ref p) (upd H p (.lst ys))
theorem cr_sortedPr (hu : X.A.units + 64 < cLine) : CallR X (.builtin "sorted") (rSortedPr X.K) := by
  intro pins s σ H vs us Q I r h
  obtain ⟨a, xs, rfl, hs, hx, hC, q⟩ := h
  obtain ⟨u, rfl, ru⟩ := vals1 r
  obtain rfl : u = Value.ref a := ru
  obtain ⟨its, rv, hcolv, hz⟩ : ∃ its : List Value, Vals xs its ∧ (∀ (A : Around) (E : Value → Shared → Prop) (R : List Value → Shared → Prop), (∀ (h' : Heap), (∀ b o, s.heap.get? b = some o → h'.get? b = some o) → R its { s with heap := h' }) → its.length ≤ sizeLine → wpAny (model X.prog X.w) A (collect (.ref a)) R E s) ∧ xs.length ≤ sizeLine := by
    have keep : ∀ (its : List Value), ∀ b o, s.heap.get? b = some o → ((s.heap.push (seqObj "list" #[] 0)).update s.heap.objs.size (Obj.mapSeq (· ++ its.toArray))).get? b = some o := fun its b o e => by
      rw [Heap.get?_update_ne _ _ _ _ (Nat.ne_of_lt (Heap.lt_size e))]
      exact Heap.get?_push_of_some _ e
    rcases hs with hs | hs
    · obtain ⟨its, rv, hl, hz⟩ := I.list hs
      exact ⟨its, rv, fun A E R k hz' => collect_list hl.isList (k _ (keep its)) hz', hz⟩
    · obtain ⟨its, rv, hl, hz⟩ := I.tuple hs
      exact ⟨its, rv, fun A E R k hz' => collect_tup hl (k _ (keep its)) hz', hz⟩
  have hz' : its.length ≤ sizeLine := by rw [← rv.length]; exact hz
  obtain ⟨e1, e2⟩ := refs_back rv fun x m => by
    obtain ⟨t, n, b, e, _⟩ := hx x m
    exact ⟨t, e⟩
  have hin : ∀ v ∈ its, backV v ∈ xs := fun v hv => by rw [e1]; exact List.mem_map.mpr ⟨_, hv, rfl⟩
  have hp : ∀ v ∈ its, PrTup s.heap v (prK H (backV v)).1 (refV (prK H (backV v)).2) := fun v hv => by
    obtain ⟨t, n, b, e, ht⟩ := hx _ (hin v hv)
    obtain ⟨t', rfl⟩ := e2 v hv
    have e' : backV (.ref t') = V.ref t' := rfl
    rw [e'] at e ⊢
    cases e
    rw [prK_of ht]
    exact pr_tup_at I ht
  refine sorted_core (s := s) (Pv := fun vs => vs = its) (ltv := fun v u => HT.lexLt (kxI H (backV v)) (kxI H (backV u))) (NtL.swo_lexL fun u => kxI H (backV u)) (fun R hR => hcolv _ _ R (fun h' kp => ?_) hz') (fun vs e => by rw [e]; exact hz') (fun vs s₁ D e h2 hD kp => ?_) (fun vs out h1 h' tk e hs hb k1 k2 hn => ?_)
  · exact hR h' s.toks its kp rfl
  · subst e
    refine prs_sortable (k := fun v => (prK H (backV v)).1) (l := fun v => kvI H (prK H (backV v)).2) (sn := fun v => refV (prK H (backV v)).2) (by omega) (by rw [Around.in1_units, Around.in1_units]; omega) (fun v hv => (hp v hv).keeps fun b o e _ => kp b o e) (fun v hv u hv2 e => ?_) (fun o e => ?_)
    · rcases hC _ (hin v hv) _ (hin u hv2) e with z | ⟨⟨b1, l1, z1, z2⟩, b2, l2, z3, z4⟩
      · exact .inl ⟨by rw [z], by rw [z]⟩
      · refine .inr ⟨?_, ?_⟩
        · rw [z1, kvI_of z2]
          exact (int_tup_at I z2).keeps fun b o e _ => kp b o e
        · rw [z3, kvI_of z4]
          exact (int_tup_at I z4).keeps fun b o e _ => kp b o e
    · rw [hD] at e
      cases e
      intro c
      exact absurd (Value.type.inj c) (by decide)
  · subst e
    have h3 : ∀ u ∈ out, ∃ a, u = Value.ref a := fun u hu => e2 u (hb.perm.mem_iff.mp hu)
    obtain ⟨n, hn⟩ := hn
    have hperm : (out.map backV).Perm xs := by rw [e1]; exact hb.perm.map backV
    have I1 : Inv X pins σ H { s with heap := h1, toks := tk } := I.kept k1
    exact ⟨.ref h1.objs.size, upd H h1.objs.size (.lst (out.map backV)), I1.laid (t' := tk) k2 (Nat.le_refl _) ⟨by rw [hperm.length_eq]; exact hz, out, n, vals_back h3, hn⟩, rfl, q _ _ hperm (SrtO.srtd_map hs) (I1.hok.fresh (Nat.le_refl _))⟩
/-- sorted(d), the keys of d tuples of ints, the first one empty -/
def rSortedDT : List V → Hp → VK → Prop := fun vs H Q => ∃ (d : Addr) (v0 : V) (kvs : List (List L2.Key × V)), vs = [V.ref d] ∧ H d = some (.dT (([], v0) :: kvs)) ∧ (∀ p ∈ kvs, ∃ l : List Int, p.1 = l.map Sum.inl) ∧
  ∀ (bs : List Addr) ys p, IsKeys H (([], v0) :: kvs) bs → ys.Perm (bs.map V.ref) → SrtO.Srtd (fun x y => HT.lexLt (kvI H x) (kvI H y)) ys → H p = none → Q (.ref p) (upd H p (.lst ys))
theorem cr_sortedDT (hc : X.calm = true) (hu : X.A.units + 64 < cLine) : CallR X (.builtin "sorted") rSortedDT := by
  intro pins s σ H vs us Q I r h
  obtain ⟨d, v0, kvs, rfl, hd, hk, q⟩ := h
  obtain ⟨u, rfl, ru⟩ := vals1 r
  obtain rfl : u = Value.ref d := ru
  obtain ⟨z, hsy, ks, pr, o, es, ep, ho, hx, hdt, he, hn⟩ := (show ObjOk X.prog X.w H s.heap d (.dT (([], v0) :: kvs)) from I.hok _ _ hd)
  have l1 : es.size = ks.length := size_of_entries he
  have l2 : (([], v0) :: kvs).length = ks.length := Paired.length pr
  have ik : IsKeys H (([], v0) :: kvs) (ks.map fun x => x.2.1) := isKeys_of pr
  have hz' : ∀ vs : List Value, vs = ks.map (fun x => Value.ref x.2.1) → vs.length ≤ sizeLine := fun vs e => by rw [e, List.length_map, ← l2]; exact z
  have hkey : ∀ x ∈ ks, ∃ l : List Int, H x.2.1 = some (.tup (l.map V.int)) := by
    have key : ∀ (kvs : List (List L2.Key × V)) (ks : List (List L2.Key × Addr × Value)), Paired (fun (p : List L2.Key × V) (q : List L2.Key × Addr × Value) => p.1 = q.1 ∧ H q.2.1 = some (.tup (p.1.map kV)) ∧ RelV p.2 q.2.2) kvs ks → (∀ p ∈ kvs, ∃ l : List Int, p.1 = l.map Sum.inl) → ∀ x ∈ ks, ∃ l : List Int, H x.2.1 = some (.tup (l.map V.int)) := by
      intro kvs ks p
      induction p with
      | nil => intro _ x hx; cases hx
      | cons h t ih =>
        intro hl x hx
        rcases List.mem_cons.mp hx with rfl | hx
        · obtain ⟨l, e⟩ := hl _ List.mem_cons_self
          refine ⟨l, ?_⟩
          have := h.2.1
          rw [e, List.map_map] at this
          exact this
        · exact ih (fun p hp => hl p (List.mem_cons_of_mem _ hp)) x hx
    refine key _ _ pr fun p hp => ?_
    rcases List.mem_cons.mp hp with rfl | hp
    · exact ⟨[], rfl⟩
    · exact hk p hp
  have hv : ∀ v ∈ ks.map (fun x => Value.ref x.2.1), ∃ a l, v = Value.ref a ∧ H a = some (.tup (List.map V.int l)) := fun v hm => by
    obtain ⟨x, hx, rfl⟩ := List.mem_map.mp hm
    obtain ⟨l, hl⟩ := hkey x hx
    exact ⟨_, l, rfl, hl⟩
  have hit : ∀ v ∈ ks.map (fun x => Value.ref x.2.1), IntTup s.heap v (kvI H (backV v)) := fun v hm => by
    obtain ⟨a, l, rfl, hl⟩ := hv v hm
    have e' : backV (.ref a) = V.ref a := rfl
    rw [e', kvI_of hl]
    exact int_tup_at I hl
  refine sorted_core (s := s) (Pv := fun vs => vs = ks.map (fun x => Value.ref x.2.1)) (ltv := fun v u => HT.lexLt (kvI H (backV v)) (kvI H (backV u))) (NtL.swo_lexL fun u => kvI H (backV u)) (fun R hR => ?_) hz' (fun vs s₁ D e h2 hD kp => ?_) (fun vs out h1 h' tk e hs hb k1 k2 hn => ?_)
  · refine kdu_collect (A := X.A.in1) (kdl_raw hsy hx hdt) (I.ok.hd hc) ho (by rw [l1, ← l2]; exact z) fun h' tk acc' kp it => hR h' tk _ kp ?_
    have hl : acc'.toList.length = ks.length := by rw [Array.length_toList, it.1]; exact l1
    apply List.ext_getElem?
    intro j
    rw [List.getElem?_map]
    cases hj : acc'.toList[j]? with
    | none =>
      have h1 := List.getElem?_eq_none_iff.mp hj
      rw [List.getElem?_eq_none (by omega)]
      all_goals rfl
    | some v =>
      obtain ⟨en, hen, hv⟩ := it.2 j v (by rw [← Array.getElem?_toList]; exact hj)
      have qe := entry_at he j
      rw [hen] at qe
      cases hb : ks[j]? with
      | none =>
        rw [hb] at qe
        exact nomatch (show some en = none from qe)
      | some b =>
        rw [hb] at qe
        have e2 : en = entryOfKey (tupleKind (mixKind X.prog X.w)) b := Option.some.inj qe
        rw [hv, e2]
        all_goals rfl
  · cases ks with
    | nil => rw [e] at h2; simp at h2
    | cons x0 xr =>
      rw [List.map_cons] at e hit
      subst e
      refine tups_sortable (k := fun v => kvI H (backV v)) (by rw [Around.in1_units, Around.in1_units]; omega) (fun v hv => (hit v hv).keeps fun b o e _ => kp b o e) ?_ (fun o e => ?_)
      · have h0 : H x0.2.1 = some (.tup (([] : List L2.Key).map kV)) := by cases pr with | cons h t => exact h.2.1
        show kvI H (.ref x0.2.1) = []
        exact kvI_of (l := []) h0
      · rw [hD] at e
        cases e
        intro c
        exact absurd (Value.type.inj c) (by decide)
  · subst e
    have h3 : ∀ u ∈ out, ∃ a, u = Value.ref a := fun u hu => by
      obtain ⟨a, l, e, _⟩ := hv u (hb.perm.mem_iff.mp hu)
      exact ⟨a, e⟩
    obtain ⟨n, hn⟩ := hn
    have hperm : (out.map backV).Perm ((ks.map fun x => x.2.1).map V.ref) := by
      have := hb.perm.map backV
      rw [List.map_map] at this
      rw [List.map_map]
      exact this
    have I1 : Inv X pins σ H { s with heap := h1, toks := tk } := I.kept k1
    exact ⟨.ref h1.objs.size, upd H h1.objs.size (.lst (out.map backV)), I1.laid (t' := tk) k2 (Nat.le_refl _) ⟨by rw [hperm.length_eq, List.length_map, List.length_map, ← l2]; exact z, out, n, vals_back h3, hn⟩, rfl, q _ _ _ ik hperm (SrtO.srtd_map hs) (I1.hok.fresh (Nat.le_refl _))⟩
end
end Tw
set_option Elab.async false
set_option linter.all false
set_option maxRecDepth 100000
set_option maxHeartbeats 4000000
namespace Tw
open PySem PySem.Spec PyProof.Rows L2
/-! ### roads in order -/
theorem lex_int : ∀ r s : R, HT.lexLt (r.map fun (n : Nat) => (n : Int)) (s.map fun (n : Nat) => (n : Int)) = lexLt r s
  | [], [] => rfl
  | [], _ :: _ => rfl
  | _ :: _, [] => rfl
  | a :: r, b :: s => by
    rw [List.map_cons, List.map_cons, HT.lexLt_cons, lexLt, lex_int r s]
    by_cases h : a = b
    · rw [if_pos h, if_pos (by omega)]
    · rw [if_neg h, if_neg (by omega)]
      by_cases l : a < b
      · rw [decide_eq_true l, decide_eq_true (by omega)]
      · rw [decide_eq_false l, decide_eq_false (by omega)]
theorem TpAll.perm {α : Type} {H : Hp} {f : α → PyData} {xs ys : List V} (p : ys.Perm xs) : ∀ {rs : List α}, TpAll H xs (rs.map f) → ∃ rs' : List α, rs'.Perm rs ∧ TpAll H ys (rs'.map f) := by
  induction p with
  | nil =>
    intro rs h
    exact ⟨rs, .refl _, h⟩
  | cons x p ih =>
    intro rs h
    cases rs with
    | nil => cases h
    | cons r rs =>
      cases h with
      | cons h t =>
        obtain ⟨rs', p1, p2⟩ := ih t
        exact ⟨r :: rs', p1.cons r, .cons h p2⟩
  | swap x y l =>
    intro rs h
    cases rs with
    | nil => cases h
    | cons r rs =>
      cases rs with
      | nil => cases h with | cons h t => cases t
      | cons r2 rs =>
        cases h with
        | cons h1 t =>
          cases t with
          | cons h2 t => exact ⟨r2 :: r :: rs, .swap r r2 rs, .cons h2 (.cons h1 t)⟩
  | trans p1 p2 ih1 ih2 =>
    intro rs h
    obtain ⟨rs', q1, q2⟩ := ih2 h
    obtain ⟨rs2, q3, q4⟩ := ih1 q2
    exact ⟨rs2, q3.trans q1, q4⟩
theorem kv_roads {H : Hp} : ∀ {ys : List V} {rs : List R}, TpAll H ys (rs.map rd) → ys.map (kvI H) = rs.map fun r => r.map fun (n : Nat) => (n : Int)
  | [], [], _ => rfl
  | _, [], h => by cases h; rfl
  | _, r :: rs, h => by
    cases h with
    | cons h t =>
      obtain ⟨a, rfl, ha⟩ := Rd'.inv h
      rw [List.map_cons, List.map_cons, kv_roads t, kvI_of (l := r.map fun (n : Nat) => (n : Int)) (by rw [ha, List.map_map]; rfl)]
theorem keys_roads {H : Hp} {kvs : List (List L2.Key × V)} {bs : List Addr} (h : Paired (fun (p : List L2.Key × V) (b : Addr) => H b = some (.tup (p.1.map kV))) kvs bs) : ∀ {ps : List (R × T)}, kvs.map (·.1) = ps.map (fun p => kR p.1) → TpAll H (bs.map V.ref) ((ps.map (·.1)).map rd) := by
  induction h with
  | nil =>
    intro ps e
    cases ps with
    | nil => exact .nil
    | cons p ps => cases e
  | cons h t ih =>
    intro ps e
    cases ps with
    | nil => cases e
    | cons p ps =>
      rw [List.map_cons, List.map_cons] at e
      injection e with e1 e2
      refine .cons (Rd'.of ?_) (ih e2)
      rw [h, e1, kR_kV]
theorem roads_of_sorted {H : Hp} {kvs : List (List L2.Key × V)} {bs : List Addr} {ys : List V} {ps : List (R × T)} {b : T} (hb : IsKeys H kvs bs) (hk : kvs.map (·.1) = ps.map (fun p => kR p.1)) (hp : ps.Perm (nodes b)) (py : ys.Perm (bs.map V.ref))
    (hs : SrtO.Srtd (fun x y => HT.lexLt (kvI H x) (kvI H y)) ys) : TpAll H ys ((roads b).map rd) := by
  obtain ⟨rs, p1, p2⟩ := TpAll.perm py (keys_roads hb hk)
  have p3 : rs.Perm (roads b) := p1.trans (hp.map (·.1))
  have nd : rs.Nodup := p3.nodup_iff.mpr (roads_nodup b)
  have s1 : (rs.map fun r => r.map fun (n : Nat) => (n : Int)).Pairwise fun x y => HT.lexLt y x = false := by
    rw [← kv_roads p2, List.pairwise_map]
    exact hs
  rw [List.pairwise_map] at s1
  have s2 : rs.Pairwise fun x y => lexLt x y = true := by
    refine (s1.and nd).imp fun {x y} z => ?_
    obtain ⟨z1, z2⟩ := z
    rw [lex_int] at z1
    cases e : lexLt x y with
    | true => rfl
    | false => exact absurd (lexLt_tot e z1) z2
  rw [← sorted_one (lt := lexLt) (fun {x y} => lexLt_asym) p3 s2 (roads_sorted b)]
  exact p2
theorem dic_top {H : Hp} {d : Addr} {b : T} {ps : List (R × T)} (h : DicB H d ps) (ht : ∃ rest, ps = ([], b) :: rest) : ∃ v0 kvs, H d = some (.dT (([], v0) :: kvs)) ∧ DicV H (([], v0) :: kvs) ps ∧ ∀ p ∈ kvs, ∃ l : List Int, p.1 = l.map Sum.inl := by
  obtain ⟨rest, rfl⟩ := ht
  obtain ⟨kvs, h1, h2⟩ := h
  obtain ⟨v, r, rfl, tv, dr⟩ := h2.cons_inv
  refine ⟨v, r, h1, h2, fun p hp => ?_⟩
  have hm : p.1 ∈ r.map (·.1) := List.mem_map.mpr ⟨p, hp, rfl⟩
  rw [dr.1] at hm
  obtain ⟨q, _, e⟩ := List.mem_map.mp hm
  exact ⟨q.1.map fun (n : Nat) => (n : Int), by rw [← e, kR, List.map_map]; rfl⟩
theorem dic_get {H : Hp} {d : Addr} {b : T} {ps : List (R × T)} {r : R} {t : T} {a : Addr} (h : DicB H d ps) (hp : ps.Perm (nodes b)) (ht : partAt b r = some t) (ha : H a = some (.tup (r.map fun (n : Nat) => V.int (n : Int)))) : ∃ v, DGet H d (.ref a) (some v) ∧ Tr H v t := by
  obtain ⟨kvs, h1, h2⟩ := h
  obtain ⟨v, e, tv⟩ := h2.get ((List.Perm.map (fun x : R × T => x.1) hp).nodup_iff.mpr (roads_nodup b)) (hp.mem_iff.mpr ((mem_nodes b).mpr ht))
  refine ⟨v, ?_, tv⟩
  rw [← e]
  exact DGet.t h1 (by rw [kR_kV]; exact ha)
theorem dic_has {H : Hp} {d : Addr} {b : T} {ps : List (R × T)} {r : R} {a : Addr} (h : DicB H d ps) (hp : ps.Perm (nodes b)) (ha : H a = some (.tup (r.map fun (n : Nat) => V.int (n : Int)))) : ∃ o, DGet H d (.ref a) o ∧ o.isSome = (partAt b r).isSome := by
  cases e : partAt b r with
  | some t =>
    obtain ⟨v, g, _⟩ := dic_get h hp e ha
    exact ⟨some v, g, rfl⟩
  | none =>
    obtain ⟨kvs, h1, h2⟩ := h
    refine ⟨valV kvs (kR r), DGet.t h1 (by rw [kR_kV]; exact ha), ?_⟩
    rw [h2.none]
    · rfl
    · intro hm
      have : r ∈ roads b := (hp.map (·.1)).mem_iff.mp hm
      rw [mem_roads, e] at this
      cases this
end Tw
set_option Elab.async false
set_option linter.all false
set_option maxRecDepth 100000
set_option maxHeartbeats 4000000
namespace Tw
open PySem PySem.Spec PyProof.Rows L2
/-! ### _law_tips -/
/-- a list of roads stands at p -/
def LstR (H : Hp) (p : Addr) (rs : List R) : Prop := LstD H p (rs.map rd)
def spLTips : Sp := fun vs H Q _ => ∃ (x : V) (t : T), vs = [x] ∧ Good H x t ∧ ∀ p H', Same H H' → LstR H' p (tipRoads t) → Q (.ref p) H'
def tipO (t : T) (r : R) : Option PyData := if partAt t r = some .tip then some (rd r) else none
theorem tipO_kept (t : T) : keptD ((roads t).map (tipO t)) = (tipRoads t).map rd := by
  unfold keptD roads tipRoads
  have key : ∀ l : List (R × T), (∀ p ∈ l, partAt t p.1 = some p.2) → (((l.map (·.1)).map (tipO t)).filterMap id) = ((l.filter fun p => decide (p.2 = .tip)).map (·.1)).map rd := by
    intro l
    induction l with
    | nil => intro _; rfl
    | cons p l ih =>
      intro h
      have h1 := h p List.mem_cons_self
      have h2 := ih fun q hq => h q (List.mem_cons_of_mem _ hq)
      rw [List.map_cons, List.map_cons, List.filterMap_cons]
      unfold tipO
      by_cases e : p.2 = .tip
      · rw [if_pos (by rw [h1, e])]
        rw [List.filter_cons_of_pos (by rw [e]; rfl), List.map_cons, List.map_cons, ← h2]
        rfl
      · rw [if_neg (by rw [h1]; intro z; exact e (Option.some.inj z))]
        rw [List.filter_cons_of_neg (by rw [decide_eq_false e]; exact Bool.false_ne_true), ← h2]
        rfl
  exact key _ fun p hp => (mem_nodes t).mp hp
abbrev N_law_tips : List Str := ["_law_bush_here", "_law_parts_here", "_law_road"]
theorem sc_law_tips : FnScope N_law_tips ["_law_bush_here"] (defScope (top 49)) := ⟨rfl, rfl, rfl, by decide +kernel, rfl, by decide +kernel, by decide +kernel⟩
theorem hi_law_tips {K : PySem.W.Frag} {mg : Str → Option Value} (T : Txt K mg) : ∃ f fd, FunD K "_law_tips" "_law_tips" (defArgs (top 49)) (defBody (top 49)) (defScope (top 49)) [] [] f fd ∧ mg "_law_tips" = some (.ref f) := T.df "_law_tips" 49 (by decide)
section
variable {P : Program} {w : World} {K : PySem.W.Frag} {mg : Str → Option Value} {base : Heap}
theorem ok_law_tips (T : Txt K mg) (c_law_parts : Cal P w K mg base 1 "_law_parts" spParts') : Cal P w K mg base (1 + 1) "_law_tips" (spLTips) := by
  refine cal_nox (hi_law_tips T) sc_law_tips (fun _ _ _ _ _ _ us hl => match us, hl with | [_], _ => rfl) (fun vs H Q E h => ?_) (fun f cdv A outer s H vs Q E hr h => ?_)
  · obtain ⟨_, _, rfl, _⟩ := h; rfl
  refine ⟨_, (pss_cons (ps_set (i := 1) sc_law_tips.nd rfl (Or.inr rfl) (pe_cl c_law_parts hr (by omega) rfl (pa_cons (pv 0) pa_nil)))
      (pss_one (ps_ret (pe_lc (own := [("_law_road", 2)]) rfl sc_law_tips.nd (pi_list (pe_callB (cr_sortedDT rfl hr.units) (by rfl) (T.fr "sorted" (by simp)) (by decide +kernel) (pa_cons (pv 1) pa_nil))) (blkOk_by (own := [("_law_road", 2)]) (N := N_law_tips) (sc := defScope (top 49)) (by decide +kernel)) (fun _ _ _ _ _ => (pg_name (i := 2) sc_law_tips.nd rfl (Or.inl rfl))) (fun _ _ _ _ _ => (pts_one (pt_eq0 hr.units (pe_dget (hu_of hr) (pv 1) (pv 2) (fun _ _ => rfl))))) (fun _ _ _ _ _ => (pv 2)))))), ?_⟩
  obtain ⟨x, t, rfl, g, q⟩ := h
  refine ⟨_, rfl, _, _, rfl, g, fun d H1 ps s1 dic hp htop => ?_⟩
  obtain ⟨v0, kvs, hd, dv, hkeys⟩ := dic_top dic htop
  refine ⟨_, rfl, d, v0, kvs, rfl, hd, hkeys, fun bs ys p hik hperm hsrt hpn => ?_⟩
  have tys := roads_of_sorted hik dv.1 hp hperm hsrt
  have s2 := same_new hpn (.lst ys)
  have hys : upd H1 p (.lst ys) p = some (.lst ys) := upd_same
  replace tys := TpAll.same tys s2
  replace dic := dic.same s2
  generalize upd H1 p (.lst ys) = H2 at s2 hys tys dic ⊢
  have hrl : (roads t).length = size t := by rw [roads, List.length_map, nodes_length]
  have hsz := size_le g.ok.wf
  have hfew := g.ok.few
  refine ⟨p, rfl, ⟨ys, SqL.of hys⟩, fun D hD => ?_⟩
  refine lc_listF (K := K) (a := p) (xs := ys) (j := 2) (ds := (roads t).map (tipO t)) hys (by rw [tys.len, List.length_map, List.length_map]) (sz_small (by rw [List.length_map]; omega)) hD (fun i u dd H3 Nx Nn hu hdd s3 k1 k2 => ?_) (fun H3 acc s3 hacc hall => ?_)
  · rw [List.getElem?_map] at hdd
    cases er : (roads t)[i]? with
    | none => rw [er] at hdd; cases hdd
    | some r =>
      rw [er] at hdd
      obtain rfl := Option.some.inj hdd
      have hm := List.mem_of_getElem? er
      obtain ⟨tt, htt⟩ := Option.isSome_iff_exists.mp (mem_roads.mp hm)
      obtain ⟨y, hy, ty⟩ := tys.get (i := i) (d := rd r) (by rw [List.getElem?_map, er]; rfl)
      rw [hu] at hy
      obtain rfl := Option.some.inj hy
      have ty3 : Rd' H3 u r := ty.same s3
      obtain ⟨a, rfl, ha⟩ := Rd'.inv ty3
      obtain ⟨v, hg, tv⟩ := dic_get (dic.same s3) hp htt ha
      have okt : Okb 12 tt := ⟨wf_part r g.ok.wf htt, Nat.le_trans (knots_part r htt) hfew⟩
      refine ⟨_, rfl, _, rfl, d, v, rfl, hg, td tt, tv, okt.sh.mono (by decide), fun H4 s4 => ?_⟩
      rw [eqv_tip]
      refine itb (fun e => ?_) (fun e => ?_)
      · have e := of_decide_eq_true e
        exact ⟨_, rfl, k1 (rd r) _ _ (by rw [tipO, if_pos (by rw [htt, e])]) s4 (ty3.same s4)⟩
      · have e := of_decide_eq_false e
        exact k2 _ (by rw [tipO, if_neg (by rw [htt]; intro z; exact e (Option.some.inj z))]) s4
  · rw [tipO_kept] at hall
    exact q D _ ((s1.trans s2).trans s3) ⟨acc, hacc, hall⟩
end

end Tw
set_option Elab.async false
set_option linter.all false
set_option maxRecDepth 100000
set_option maxHeartbeats 4000000
namespace Tw
open PySem PySem.Spec PySem.W PyProof.Rows L2
theorem meets_values_raw {prog : Program} {w : World} (d : Addr) (hd : (d == sysModules) = false) :
    MeetsIn prog w (Builtin.«dict.values» ⟨[.ref d], []⟩) (fun _ R s => s.TypeIs (.ref d) "dict" ∧
      R (.ok (.ret (.ref s.heap.objs.size))) { s with heap := s.heap.push { cls := .type "dict_values", data := .fields #[.ref d] } }) :=
  .of_wp fun A R s ⟨hm, h⟩ => by
    refine wpAny_bind ?_
    unfold Builtin.Dict.noArgs
    refine wpAny_bind (wpAny_notOrdered_dict hm ?_)
    show wpAny _ _ (pure d) _ _ s
    refine wpAny_pure ?_
    show wpAny _ _ (Builtin.Dict.showsAll d >>= _) _ _ s
    unfold Builtin.Dict.showsAll
    rw [if_neg (by rw [hd]; exact Bool.false_ne_true)]
    refine wpAny_bind (wpAny_pure ?_)
    exact wpAny_bind (wpAny_newObj_type (wpAny_pure ⟨_, rfl, h⟩))
def tListVals (te : TE) : TE := fun σ H Q => te σ H fun x H1 => ∃ d kvs, x = .ref d ∧ H1 d = some (.dT kvs) ∧ ∀ p, H1 p = none → Q (.ref p) (upd H1 p (.lst (kvs.map (·.2))))
theorem vals_of_pr {H : Hp} {kvs : List (List L2.Key × V)} {xs : List (List L2.Key × Addr × Value)} (p : Paired (fun (p : List L2.Key × V) (q : List L2.Key × Addr × Value) => p.1 = q.1 ∧ H q.2.1 = some (.tup (p.1.map kV)) ∧ RelV p.2 q.2.2) kvs xs) : Vals (kvs.map (·.2)) (xs.map fun x => x.2.2) := by
  induction p with
  | nil => exact .nil
  | cons h t ih => exact .cons h.2.2 ih
section
variable {X : Cx} {e : Expr} {te : TE} {p apos cpos pos : Pos}
/-- list(e.values()) -/
theorem pe_listVals (hc : X.calm = true) (he : PE X e te) (hg : Gl X "list") (hm : X.mg "list" = none) (hv : bootBuiltins "list" = some (.type "list")) (hbase : attributeBase e "values" X.env (eval e X.env) = eval e X.env := by rfl) (hline : (apos.endLine == cpos.line) = true := by rfl)
    (hs : starEach [.Call (.Attribute e "values" apos) [] [] cpos] X.env = (false, eval (.Call (.Attribute e "values" apos) [] [] cpos) X.env) :: starEach [] X.env := by rfl) :
    PE X (.Call (.Name "list" p) [.Call (.Attribute e "values" apos) [] [] cpos] [] pos) (tListVals te) := by
  refine ⟨fun pins s σ H Q I hq => ?_⟩
  refine wpAny_Call_Name_kw (ld_blt I hg hm hv ?_)
  refine PyProof.Rows.callWith_type1 ?_ hs rfl
  rw [hs]
  show wpAny _ _ (spliced ((false, eval (.Call (.Attribute e "values" apos) [] [] cpos) X.env) :: backTo pos (starEach [] X.env))) _ _ s
  refine Calls.spliced_cons ?_
  refine wpAny_Call_method (T := "dict") (id := "dict.values") hbase rfl hline F.plainAttrs_dict F.slot_dict_values F.type_dict_values (thn (he.run pins s σ H _ I hq) fun u s1 ⟨x, H1, I1, rx, d, kvs, ex, hd, q⟩ => ?_)
  subst ex
  obtain rfl : u = Value.ref d := rx
  obtain ⟨z, hsy, ks, pr, o, es, ep, ho, hx, hdt, hes, hn⟩ := (show ObjOk X.prog X.w H1 s1.heap d (.dT kvs) from I1.hok _ _ hd)
  have l1 : es.size = ks.length := size_of_entries hes
  have l2 : kvs.length = ks.length := Paired.length pr
  have hT : s1.TypeIs (.ref d) "dict" := ⟨o, ho, hx.1⟩
  have I2 : Inv X pins σ H1 { s1 with heap := s1.heap.push { cls := .type "dict_values", data := .fields #[.ref d] } } := I1.kept (t' := s1.toks) fun b ob q => Heap.get?_push_of_some _ q
  refine ⟨hT, fun b q => ⟨o, by cases q; exact ho, hx.2.1⟩, ?_⟩
  show wpAny _ _ (callWith cpos (.builtin "dict.values") [.ref d] [] []) _ X.xe s1
  refine method_meetsIn F.slot_dict_values F.entry_dict_values rfl (PySem.evalArgs_none ⟨rfl, hT, F.args_dict_values_1 _, _, meets_values_raw d hsy, hT, ?_⟩)
  refine Calls.spliced_nil ?_
  have hraw : (s1.heap.push { cls := .type "dict_values", data := .fields #[.ref d] }).DictRaw d es ep := ⟨o, Heap.get?_push_of_some _ ho, hx, hdt⟩
  refine PySem.W.kdl_call (PySem.KdlSrc.rawValues (r := s1.heap.objs.size) (d := d) (es := es) (ep := ep)) (I1.ok.hd hc) ⟨⟨_, Heap.get?_push_size _ rfl, rfl, rfl⟩, hraw⟩ (by omega) fun h' tk acc' c' kp eq it => ?_
  have ea : acc'.toList = ks.map fun x => x.2.2 := by
    have hl : acc'.toList.length = ks.length := by rw [Array.length_toList, it.1]; exact l1
    apply List.ext_getElem?
    intro j
    rw [List.getElem?_map]
    cases hj : acc'.toList[j]? with
    | none =>
      have h1 := List.getElem?_eq_none_iff.mp hj
      rw [List.getElem?_eq_none (by omega)]
      all_goals rfl
    | some v =>
      obtain ⟨hi, hv⟩ := it.2 j v (by rw [← Array.getElem?_toList]; exact hj)
      have qe := entry_at hes j
      rw [Array.getElem?_eq_getElem hi] at qe
      cases hb : ks[j]? with
      | none =>
        rw [hb] at qe
        exact nomatch (show some es[j] = none from qe)
      | some b =>
        rw [hb] at qe
        have e2 : es[j] = entryOfKey (tupleKind (mixKind X.prog X.w)) b := Option.some.inj qe
        rw [hv, e2]
        all_goals rfl
  refine ⟨.ref _, _, I2.laid (t' := tk) kp (Nat.le_refl _) (show ObjOk X.prog X.w _ _ _ (.lst (kvs.map (·.2))) from ⟨by rw [List.length_map]; omega, acc'.toList, c', by rw [ea]; exact vals_of_pr pr, by rw [Array.toArray_toList]; exact eq⟩), rfl, q _ (I2.hok.fresh (Nat.le_refl _))⟩
end
end Tw
set_option Elab.async false
set_option linter.all false
set_option maxRecDepth 100000
set_option maxHeartbeats 4000000
namespace Tw
open PySem PySem.Spec PyProof.Rows L2
/-! ### _law_knots -/
def spLKnots : Sp := fun vs H Q _ => ∃ (x : V) (t : T), vs = [x] ∧ Good H x t ∧ ∀ H', Same H H' → Q (.int (knots t : Nat)) H'
def knO (t : T) : Option PyData := if t = .tip then none else some (td t)
theorem knO_kept : ∀ l : List (R × T), (keptD (l.map fun p => knO p.2)).length = (l.filter fun p => decide (p.2 ≠ .tip)).length
  | [] => rfl
  | p :: l => by
    have ih := knO_kept l
    unfold keptD at ih ⊢
    rw [List.map_cons, List.filterMap_cons]
    unfold knO
    by_cases e : p.2 = .tip
    · rw [if_pos e, List.filter_cons_of_neg (by simp [e])]
      exact ih
    · rw [if_neg e, List.filter_cons_of_pos (by simp [e]), List.length_cons, ← ih]
      rfl
theorem kn_count (t : T) : ((nodes t).filter fun p => decide (p.2 ≠ .tip)).length = knots t := by
  have h1 := size_eq t
  have h2 := size_nodes_len t
  have h3 := tipRoads_len t
  unfold tipRoads at h3
  rw [List.length_map] at h3
  have key : ∀ l : List (R × T), (l.filter fun p => decide (p.2 ≠ .tip)).length + (l.filter fun p => decide (p.2 = .tip)).length = l.length := by
    intro l
    induction l with
    | nil => rfl
    | cons p l ih =>
      by_cases e : p.2 = .tip
      · rw [List.filter_cons_of_neg (by simp [e]), List.filter_cons_of_pos (by simp [e]), List.length_cons, List.length_cons]; omega
      · rw [List.filter_cons_of_pos (by simp [e]), List.filter_cons_of_neg (by simp [e]), List.length_cons, List.length_cons]; omega
  have := key (nodes t)
  omega
abbrev N_law_knots : List Str := ["_law_bush_here", "_law_part"]
theorem sc_law_knots : FnScope N_law_knots ["_law_bush_here"] (defScope (top 50)) := ⟨rfl, rfl, rfl, by decide +kernel, rfl, by decide +kernel, by decide +kernel⟩
theorem hi_law_knots {K : PySem.W.Frag} {mg : Str → Option Value} (T : Txt K mg) : ∃ f fd, FunD K "_law_knots" "_law_knots" (defArgs (top 50)) (defBody (top 50)) (defScope (top 50)) [] [] f fd ∧ mg "_law_knots" = some (.ref f) := T.df "_law_knots" 50 (by decide)
section
variable {P : Program} {w : World} {K : PySem.W.Frag} {mg : Str → Option Value} {base : Heap}
theorem ok_law_knots (T : Txt K mg) (c_law_parts : Cal P w K mg base 1 "_law_parts" spParts') : Cal P w K mg base (1 + 1) "_law_knots" (spLKnots) := by
  refine cal_nox (hi_law_knots T) sc_law_knots (fun _ _ _ _ _ _ us hl => match us, hl with | [_], _ => rfl) (fun vs H Q E h => ?_) (fun f cdv A outer s H vs Q E hr h => ?_)
  · obtain ⟨_, _, rfl, _⟩ := h; rfl
  refine ⟨_, (pss_one (ps_ret (pe_callB call_len_seq (by rfl) (T.fr "len" (by simp)) (by decide +kernel) (pa_cons (pe_lc (own := [("_law_part", 1)]) rfl sc_law_knots.nd (pi_list (pe_listVals rfl (pe_cl c_law_parts hr (by omega) rfl (pa_cons (pv 0) pa_nil)) (by rfl) (T.fr "list" (by simp)) (by decide +kernel))) (blkOk_by (own := [("_law_part", 1)]) (N := N_law_knots) (sc := defScope (top 50)) (by decide +kernel)) (fun _ _ _ _ _ => (pg_name (i := 1) sc_law_knots.nd rfl (Or.inl rfl))) (fun _ _ _ _ _ => (pts_one (pt_ne0 hr.units (pv 1)))) (fun _ _ _ _ _ => (pv 1))) pa_nil)))), ?_⟩
  obtain ⟨x, t, rfl, g, q⟩ := h
  refine ⟨_, rfl, _, _, rfl, g, fun d H1 ps s1 ⟨kvs, hd, dv⟩ hp htop => ⟨d, kvs, rfl, hd, fun p hpn => ?_⟩⟩
  have s2 := same_new hpn (.lst (kvs.map (·.2)))
  have hys : upd H1 p (.lst (kvs.map (·.2))) p = some (.lst (kvs.map (·.2))) := upd_same
  have tys := TpAll.same dv.2 s2
  generalize upd H1 p (.lst (kvs.map (·.2))) = H2 at s2 hys tys ⊢
  have hfew := g.ok.few
  have hsz := size_le g.ok.wf
  have hps : ps.length = size t := by rw [hp.length_eq, size_nodes_len]
  refine ⟨p, rfl, ⟨_, SqL.of hys⟩, fun D hD => ?_⟩
  refine lc_listF (K := K) (a := p) (xs := kvs.map (·.2)) (j := 1) (ds := ps.map fun q => knO q.2) hys (by rw [tys.len, List.length_map, List.length_map]) (sz_small (by rw [List.length_map]; omega)) hD (fun i u dd H3 Nx Nn hu hdd s3 k1 k2 => ?_) (fun H3 acc s3 hacc hall => ?_)
  · rw [List.getElem?_map] at hdd
    cases er : ps[i]? with
    | none => rw [er] at hdd; cases hdd
    | some e =>
      rw [er] at hdd
      obtain rfl := Option.some.inj hdd
      have hm : (e.1, e.2) ∈ nodes t := hp.mem_iff.mp (List.mem_of_getElem? er)
      have htt := (mem_nodes t).mp hm
      obtain ⟨y, hy, ty⟩ := tys.get (i := i) (d := td e.2) (by rw [List.getElem?_map, er]; rfl)
      rw [hu] at hy
      obtain rfl := Option.some.inj hy
      have okt : Okb 12 e.2 := ⟨wf_part e.1 g.ok.wf htt, Nat.le_trans (knots_part e.1 htt) hfew⟩
      refine ⟨_, rfl, td e.2, ty.same s3, okt.sh.mono (by decide), fun H4 s4 => ?_⟩
      rw [eqv_tip]
      refine itb (fun z => ?_) (fun z => ?_)
      · have z : e.2 ≠ .tip := by simpa using z
        exact ⟨_, rfl, k1 (td e.2) _ _ (show knO e.2 = _ from if_neg z) s4 ((ty.same s3).same s4)⟩
      · have z : e.2 = .tip := by simpa using z
        exact k2 _ (show knO e.2 = _ from if_pos z) s4
  · refine ⟨D, acc, rfl, .inl (SqL.of hacc), ?_⟩
    rw [hall.len, knO_kept, (hp.filter _).length_eq, kn_count]
    exact q _ ((s1.trans s2).trans s3)
end

end Tw
set_option Elab.async false
set_option linter.all false
set_option maxRecDepth 100000
set_option maxHeartbeats 4000000
namespace Tw
open PySem PySem.Spec PyProof.Rows L2
/-! ### _law_bush -/
def spLBush (k : Nat) : Sp := fun vs H Q _ => ∃ (c : Addr) (m : Nat), vs = [.ref c, .int (m : Int)] ∧ m < k ∧ m ≤ 5 ∧ Cup H c ∧ ∀ v t H', SameB c H H' → Cup H' c → Tr H' v t → wf t = true → knots t ≤ m → Q v H'
theorem Cup.same {H H' : Hp} {c : Addr} (h : Cup H c) (s : Same H H') : Cup H' c := by
  obtain ⟨a, b, e⟩ := h
  exact ⟨a, b, s _ _ e⟩
theorem Cup.kp {H H' : Hp} {c : Addr} (h : Cup H c) (s : SameB c H H') : Kp H H' := by
  obtain ⟨a, b, e⟩ := h
  exact s.kp e
theorem SameB.add {c : Addr} {H H1 H2 : Hp} (a : SameB c H H1) (b : Same H1 H2) : SameB c H H2 := a.trans (.of b)
theorem Cup.ne {H : Hp} {c l : Addr} (h : Cup H c) (hl : H l = none) : c ≠ l := by
  obtain ⟨a, b, e⟩ := h
  exact ne_of_none e hl
theorem letter_of {i : Nat} {x : V} (h : [V.str (Str.ofString "a"), V.str (Str.ofString "a"), V.str (Str.ofString "b"), V.str (Str.ofString "c"), V.str (Str.ofString "f"), V.str (Str.ofString "z")][i]? = some x) : ∃ c, x = .str (ltr c) ∧ 97 ≤ c ∧ c ≤ 122 := by
  have hm := List.mem_of_getElem? h
  simp only [List.mem_cons, List.not_mem_nil, or_false] at hm
  rcases hm with rfl | rfl | rfl | rfl | rfl | rfl
  · exact ⟨97, rfl, by decide, by decide⟩
  · exact ⟨97, rfl, by decide, by decide⟩
  · exact ⟨98, rfl, by decide, by decide⟩
  · exact ⟨99, rfl, by decide, by decide⟩
  · exact ⟨102, rfl, by decide, by decide⟩
  · exact ⟨122, rfl, by decide, by decide⟩
theorem many_of {i : Nat} {x : V} (h : [V.int 1, V.int 1, V.int 2, V.int 2, V.int 2, V.int 3, V.int 4][i]? = some x) : ∃ n : Nat, x = .int (n : Int) ∧ 1 ≤ n ∧ n ≤ 4 := by
  have hm := List.mem_of_getElem? h
  simp only [List.mem_cons, List.not_mem_nil, or_false] at hm
  rcases hm with rfl | rfl | rfl | rfl | rfl | rfl | rfl
  · exact ⟨1, rfl, by decide, by decide⟩
  · exact ⟨1, rfl, by decide, by decide⟩
  · exact ⟨2, rfl, by decide, by decide⟩
  · exact ⟨2, rfl, by decide, by decide⟩
  · exact ⟨2, rfl, by decide, by decide⟩
  · exact ⟨3, rfl, by decide, by decide⟩
  · exact ⟨4, rfl, by decide, by decide⟩
theorem eqv_tup0 : ∀ ds : List PyData, PyData.eqv (.tuple ds) (.tuple []) = ds.isEmpty
  | [] => by simp [PyData.eqv, PyData.eqvAll]
  | d :: ds => by simp [PyData.eqv, PyData.eqvAll]
theorem knotsL_all {n : Nat} : ∀ ts : List T, (∀ t ∈ ts, knots t ≤ n) → knotsL ts ≤ ts.length * n
  | [], _ => by simp [knotsL]
  | t :: ts, h => by
    have h1 := h t List.mem_cons_self
    have h2 := knotsL_all ts fun x hx => h x (List.mem_cons_of_mem _ hx)
    rw [knotsL, List.length_cons, Nat.succ_mul]; omega
abbrev N_law_bush : List Str := ["_law_cup_here", "_law_most", "_law_letter", "_law_many", "_law_branches", "_law_left", "_law_equal", "_law_branch", "_law_fresh"]
theorem sc_law_bush : FnScope N_law_bush ["_law_cup_here", "_law_most"] (defScope (top 52)) := ⟨rfl, rfl, rfl, by decide +kernel, rfl, by decide +kernel, by decide +kernel⟩
theorem hi_law_bush {K : PySem.W.Frag} {mg : Str → Option Value} (T : Txt K mg) : ∃ f fd, FunD K "_law_bush" "_law_bush" (defArgs (top 52)) (defBody (top 52)) (defScope (top 52)) [] [] f fd ∧ mg "_law_bush" = some (.ref f) := T.df "_law_bush" 52 (by decide)
section
variable {P : Program} {w : World} {K : PySem.W.Frag} {mg : Str → Option Value} {base : Heap}
theorem ok_law_bush (T : Txt K mg) {j L : Nat} (hj : 2 ≤ L) (c_law_roll : Cal P w K mg base 1 "_law_roll" spRoll) (c_law_some : Cal P w K mg base 2 "_law_some" (spSome K)) (c_law_bush : Cal P w K mg base L "_law_bush" (spLBush j)) : Cal P w K mg base (L + 1) "_law_bush" (spLBush (j + 1)) := by
  refine cal_nox (hi_law_bush T) sc_law_bush (fun _ _ _ _ _ _ us hl => match us, hl with | [_, _], _ => rfl) (fun vs H Q E h => ?_) (fun f cdv A outer s H vs Q E hr h => ?_)
  · obtain ⟨_, _, rfl, _⟩ := h; rfl
  refine ⟨_, (pss_cons (ps_if (PW.pt (pw_or (pt_cmpR op_eq (pv 1) pe_int (nomark _)) (pw_or1 (pt_cmpR op_eq (pe_cl c_law_roll hr (by omega) rfl (pa_cons (pv 0) (pa_cons pe_int pa_nil))) pe_int (nomark _))))) (pss_one (ps_ret (pe_tup pa_nil))) pss_nil)
      (pss_cons (ps_par (i := 2) (j := 3) (by rfl) sc_law_bush.nd rfl rfl (by decide) rfl rfl (pa_cons (pe_cl c_law_some hr (by omega) rfl (pa_cons (pv 0) (pa_cons (pe_lst (pa_cons pe_str (pa_cons pe_str (pa_cons pe_str (pa_cons pe_str (pa_cons pe_str (pa_cons pe_str pa_nil))))))) pa_nil))) (pa_cons (pe_cl c_law_some hr (by omega) rfl (pa_cons (pv 0) (pa_cons (pe_lst (pa_cons pe_int (pa_cons pe_int (pa_cons pe_int (pa_cons pe_int (pa_cons pe_int (pa_cons pe_int (pa_cons pe_int pa_nil)))))))) pa_nil))) pa_nil)) (by rfl))
      (pss_cons (ps_par3 (i := 4) (j := 5) (l := 6) (by rfl) sc_law_bush.nd rfl rfl rfl (by decide) (by decide) (by decide) rfl rfl rfl (pa_cons (pe_tup pa_nil) (pa_cons (pe_op op_sub (pv 1) pe_int) (pa_cons (pe_cmpR op_eq (pe_cl c_law_roll hr (by omega) rfl (pa_cons (pv 0) (pa_cons pe_int pa_nil))) pe_int (nomark _)) pa_nil))) (by rfl))
      (pss_cons (ps_for PassesOwn.never rfl (pi_range1 rfl (T.fr "range" (by simp)) (pa_cons (pv 3) pa_nil)) (pg_name (i := 7) sc_law_bush.nd rfl (Or.inl rfl)) (pss_cons (ps_set (i := 8) sc_law_bush.nd rfl (Or.inl rfl) (pe_ifExp (PW.pt (pw_and (pt_val (pv 6)) (pw_and1 (pt_ne0 hr.units (pv 4))))) (pe_ix ix_tup (pv 4) pe_int (fun _ _ => rfl)) (pe_cl c_law_bush hr (by omega) rfl (pa_cons (pv 0) (pa_cons (pe_op op_fdivW (pv 5) (pv 3)) pa_nil)))))
      (pss_one (ps_set (i := 4) sc_law_bush.nd rfl (Or.inl rfl) (pe_op op_catS (pv 4) (pe_tup (pa_cons (pv 8) pa_nil)))))))
      (pss_one (ps_ret (pe_op op_catS (pe_tup (pa_cons (pv 2) pa_nil)) (pv 4)))))))), ?_⟩
  obtain ⟨c, m, rfl, hk, hm5, hc, q⟩ := h
  refine ⟨_, rfl, rfl, _, rfl, itb (fun h0 => ?_) (fun h0 => ?_)⟩
  · exact it1 ⟨sz rfl, fun p hp => q _ .tip _ (.new hp _) (hc.same (same_new hp _)) (Tr.tip upd_same) rfl (Nat.zero_le _)⟩
  have hm0 : m ≠ 0 := fun z => by
    subst z
    exact absurd h0 (by decide)
  refine ⟨_, rfl, c, 7, rfl, hc, by decide, by decide, fun r0 H1 hr0 s1 c1 => ⟨rfl, _, rfl, itb (fun h1 => ?_) (fun h1 => ?_)⟩⟩
  · exact ⟨sz rfl, fun p hp => q _ .tip _ (s1.add (same_new hp _)) (c1.same (same_new hp _)) (Tr.tip upd_same) rfl (Nat.zero_le _)⟩
  refine ⟨_, rfl, sz rfl, fun l2 hl2 => ⟨c, l2, _, rfl, c1.same (same_new hl2 _), c1.ne hl2, upd_same, by decide, by decide, fun i2 x2 H2 hx2 s2 c2 => ?_⟩⟩
  obtain ⟨let', rfl, hle1, hle2⟩ := letter_of hx2
  replace s2 := (s1.add (same_new hl2 _)).trans s2
  clear hx2 hl2 h1 h0
  refine ⟨_, rfl, sz rfl, fun l3 hl3 => ⟨c, l3, _, rfl, c2.same (same_new hl3 _), c2.ne hl3, upd_same, by decide, by decide, fun i3 x3 H3 hx3 s3 c3 => ?_⟩⟩
  obtain ⟨n, rfl, hn1, hn4⟩ := many_of hx3
  replace s3 := (s2.add (same_new hl3 _)).trans s3
  clear hx3 hl3 s2 c2 s1 c1
  refine ⟨_, _, rfl, sz rfl, fun bt hbt => ⟨_, rfl, _, _, rfl, rfl, _, rfl, c, 3, rfl, c3.same (same_new hbt _), by decide, by decide, fun r4 H4 hr4 s4 c4 => ⟨rfl, _, _, _, rfl, ?_⟩⟩⟩
  have hb4 : H4 bt = some (.tup []) := s4 _ _ (Ne.symm (c3.ne hbt)) upd_same
  replace s4 := (s3.add (same_new hbt _)).trans s4
  clear hbt s3 c3 hr0
  refine ⟨_, rfl, _, rfl, by omega, by omega, ?_⟩
  rw [Int.toNat_natCast]
  have hdv : ((m : Int) - 1) / (n : Int) = (((m - 1) / n : Nat) : Int) := by
    rw [show (m : Int) - 1 = ((m - 1 : Nat) : Int) by omega]; exact (Int.natCast_ediv _ _).symm
  refine for_range (fun i σ H5 => SameB c H H5 ∧ Cup H5 c ∧ ∃ (bt : Addr) (out : List V) (ts : List Tw.T) (br fr : Option V), σ = [some (.ref c), some (.int (m : Int)), some (.str (ltr let')), some (.int (n : Int)), some (.ref bt), some (.int ((m : Int) - 1)), some (.bl (decide (V.int (r4 : Int) = V.int 0))), br, fr] ∧ H5 bt = some (.tup out) ∧ TrL H5 out ts ∧ ts.length = i ∧ ∀ t ∈ ts, wf t = true ∧ knots t ≤ (m - 1) / n) ⟨s4, c4, bt, [], [], none, none, rfl, hb4, .nil, rfl, fun t ht => by cases ht⟩ ?_ ?_
  · rintro i σ H5 hi ⟨s5, c5, bt, out, ts, br, fr, rfl, hbt, tts, hlen, hts⟩
    have hdl : (m - 1) / n ≤ m - 1 := Nat.div_le_self _ _
    have fin : ∀ (R : VK), (∀ v t H6, SameB c H5 H6 → Cup H6 c → Tr H6 v t → wf t = true → knots t ≤ (m - 1) / n → R v H6) → tIf (tAnd (tB (tVar 6)) (ttN0 (tVar 4))) (tOp (rIxT K) (tVar 4) (tC (V.int 0))) (tCall (spLBush j) [] E0 (tCons (tVar 0) (tCons (tOp (rI CDivW fun i j => V.int (i / j)) (tVar 5) (tVar 3)) tNil))) [some (.ref c), some (.int (m : Int)), some (.str (ltr let')), some (.int (n : Int)), some (.ref bt), some (.int ((m : Int) - 1)), some (.bl (decide (V.int (r4 : Int) = V.int 0))), some (V.int (0 + (i : Int))), fr] H5 R := fun R hR => by
      have call : ∀ H6, Same H5 H6 → tCall (spLBush j) [] E0 (tCons (tVar 0) (tCons (tOp (rI CDivW fun i j => V.int (i / j)) (tVar 5) (tVar 3)) tNil)) [some (.ref c), some (.int (m : Int)), some (.str (ltr let')), some (.int (n : Int)), some (.ref bt), some (.int ((m : Int) - 1)), some (.bl (decide (V.int (r4 : Int) = V.int 0))), some (V.int (0 + (i : Int))), fr] H6 R := fun H6 s6 => by
        refine ⟨_, rfl, _, rfl, _, rfl, _, _, rfl, rfl, CM (by omega) (by omega), c, (m - 1) / n, ?_, by omega, by omega, c5.same s6, fun v t H7 s7 c7 tv wv kv => hR v t H7 (SameB.trans (.of s6) s7) c7 tv wv kv⟩
        show [V.ref c, V.int (((m : Int) - 1) / (n : Int))] = _
        rw [hdv]
      refine ⟨_, rfl, _, rfl, itb (fun e6 => ?_) (fun e6 => ?_)⟩
      · refine ⟨_, rfl, .tuple (ts.map td), .tup hbt tts, (Sh.tuple (n := 20) fun d hd => ?_).mono (by decide), fun H6 s6 => ?_⟩
        · obtain ⟨t, ht, rfl⟩ := List.mem_map.mp hd
          have := height_le_knots t
          have := (hts t ht).2
          exact (sh_td (hts t ht).1).mono (by omega)
        rw [eqv_tup0]
        refine itb (fun e7 => ?_) (fun e7 => call H6 s6)
        cases ts with
        | nil => cases e7
        | cons t ts =>
          cases tts with
          | cons tt tr => exact ⟨_, rfl, bt, _, 0, _, rfl, rfl, SqT.of (s6 _ _ hbt), atI_nat (j := 0) rfl, hR _ t H6 (.of s6) (c5.same s6) (tt.same s6) (hts t List.mem_cons_self).1 (hts t List.mem_cons_self).2⟩
      · exact call H5 (Same.refl _)
    refine fin _ fun v t H6 s6 c6 tv wv kv => ⟨_, rfl, _, rfl, sz rfl, fun P1 hP1 => ?_⟩
    have sP := same_new hP1 (.tup [v])
    have ho : out.length = i := by rw [← hlen, TrL.len tts]
    have nbt : bt ≠ c := by
      obtain ⟨a, b, e⟩ := c5
      exact ne_of hbt e (by intro z; cases z)
    refine ⟨bt, P1, _, _, rfl, rfl, sP _ _ (s6 _ _ nbt hbt), upd_same, sz_small (by simp; omega), fun p7 H7 s7 e7 => ?_⟩
    have s67 := sP.trans s7
    refine ⟨s5.trans (s6.add s67), c6.same s67, p7, out ++ [v], ts ++ [t], some (V.int (0 + (i : Int))), some v, rfl, e7, ?_, by rw [List.length_append, hlen]; rfl, fun x hx => ?_⟩
    · exact TrL.app (TpAll.keep ((c5.kp s6).trans (Kp.of s67)) tts) (TpAll.one (tv.same s67))
    · rcases List.mem_append.mp hx with hx | hx
      · exact hts x hx
      · rw [List.mem_singleton.mp hx]; exact ⟨wv, kv⟩
  · rintro σ H5 ⟨s5, c5, bt, out, ts, br, fr, rfl, hbt, tts, hlen, hts⟩
    refine ⟨_, rfl, sz rfl, fun P1 hP1 => ?_⟩
    have sP := same_new hP1 (.tup [.str (ltr let')])
    have ho : out.length = n := by rw [← hlen, TrL.len tts]
    refine ⟨_, rfl, P1, bt, _, _, rfl, rfl, upd_same, sP _ _ hbt, sz_small (by simp; omega), fun p7 H7 s7 e7 => ?_⟩
    have s67 := sP.trans s7
    refine q _ (.kn let' ts) H7 (s5.add s67) (c5.same s67) (Tr.kn e7 (TpAll.same tts s67)) (wf_kn.mpr ⟨⟨hle1, hle2⟩, ⟨by omega, by omega⟩, fun b hb => (hts b hb).1⟩) ?_
    have h1 := knotsL_all ts fun t ht => (hts t ht).2
    rw [hlen] at h1
    have h2 : n * ((m - 1) / n) ≤ m - 1 := Nat.mul_div_le _ _
    rw [knots]; omega
end

end Tw
set_option Elab.async false
set_option linter.all false
set_option maxRecDepth 100000
set_option maxHeartbeats 4000000
namespace Tw
open PySem PySem.Spec PySem.W PyProof.Rows L2
/-! ### t[:hi:-1] of tuples -/
theorem pick_down (xs : Array Value) (q : Nat) (hq : q ≤ 1) : ((List.range (xs.size - q)).filterMap fun (m : Nat) => xs[((xs.size : Int) - 1 + (m : Int) * (-1)).toNat]?) = (xs.toList.drop q).reverse := by
  have key : ∀ l : List Nat, (∀ m ∈ l, m < xs.size) → (l.filterMap fun (m : Nat) => xs[((xs.size : Int) - 1 + (m : Int) * (-1)).toNat]?) = l.map fun m => xs.toList.getD (xs.size - 1 - m) .none := by
    intro l
    induction l with
    | nil => intro _; rfl
    | cons m l ih =>
      intro h
      have hm := h m List.mem_cons_self
      have e1 : ((xs.size : Int) - 1 + (m : Int) * (-1)).toNat = xs.size - 1 - m := by omega
      have e2 : xs[xs.size - 1 - m]? = some (xs.toList.getD (xs.size - 1 - m) .none) := by
        rw [← Array.getElem?_toList, List.getD_eq_getElem?_getD, List.getElem?_eq_getElem (by rw [Array.length_toList]; omega)]; rfl
      rw [List.filterMap_cons, e1, e2, List.map_cons, ih fun x hx => h x (List.mem_cons_of_mem _ hx)]
  rw [key _ fun m hm => by rw [List.mem_range] at hm; omega]
  apply List.ext_getElem
  · rw [List.length_map, List.length_range, List.length_reverse, List.length_drop, Array.length_toList]
  · intro i h1 h2
    rw [List.length_map, List.length_range] at h1
    rw [List.getElem_map, List.getElem_range, List.getElem_reverse, List.getElem_drop, List.getD_eq_getElem?_getD, List.getElem?_eq_getElem (by rw [Array.length_toList]; omega), Option.getD_some]
    congr 1
    rw [List.length_drop, Array.length_toList]; omega
section
variable {prog : Program} {w : World} {A : Around} {E : Value → Shared → Prop} {s : Shared}
theorem sliceApplied_down {sl : Addr} {vu vs : Value} {hi : Option Int} {q n : Nat} {Q : Int × Int × Nat → Shared → Prop} (hs : s.heap.IsSliceOf sl .none vu vs) (pu : IsPart vu hi) (ps : IsPart vs (some (-1))) (hq : (hi = none ∧ q = 0) ∨ (hi = some 0 ∧ q = 1))
    (h : Q ((n : Int) - 1, -1, n - q) s) : wpAny (model prog w) A (Builtin.Slice.sliceApplied (.ref sl) (pure (n : Int))) Q E s := by
  obtain ⟨os, hos, hcs, hds⟩ := id hs
  unfold Builtin.Slice.sliceApplied Builtin.Slice.sliceFields
  refine wpAny_bind (wpAny_bind (wpAny_field hos hds (x := .none) rfl (wpAny_bind (wpAny_field hos hds (x := vu) rfl (wpAny_bind (wpAny_field hos hds (x := vs) rfl (wpAny_pure ?_)))))))
  refine wpAny_bind (HT.slicePart_ ps ?_)
  show wpAny _ _ (if ((-1 : Int) == 0) = true then _ else _) _ _ s
  rw [if_neg (by decide)]
  refine wpAny_bind (HT.slicePart_ .none (wpAny_bind (HT.slicePart_ pu (wpAny_bind (wpAny_pure ?_)))))
  show wpAny _ _ (match Builtin.Slice.sliceAdjust none hi (-1) (n : Int) with | (lo, hi) => pure (lo, (-1 : Int), Builtin.Slice.slicePlaces lo hi (-1))) _ _ s
  have e : ∃ b : Int, Builtin.Slice.sliceAdjust none hi (-1) (n : Int) = ((n : Int) - 1, b) ∧ Builtin.Slice.slicePlaces ((n : Int) - 1) b (-1) = n - q := by
    rcases hq with ⟨rfl, rfl⟩ | ⟨rfl, rfl⟩
    · refine ⟨-1, rfl, ?_⟩
      unfold Builtin.Slice.slicePlaces
      rw [if_neg (by decide)]
      rw [show -(-1 : Int) = 1 by decide, Int.ediv_one]
      by_cases h : (n : Int) - 1 > -1
      · rw [if_pos h]; omega
      · rw [if_neg h]; omega
    · refine ⟨min 0 ((n : Int) - 1), rfl, ?_⟩
      unfold Builtin.Slice.slicePlaces
      rw [if_neg (by decide)]
      rw [show -(-1 : Int) = 1 by decide, Int.ediv_one]
      by_cases h : (n : Int) - 1 > min 0 ((n : Int) - 1)
      · rw [if_pos h]; omega
      · rw [if_neg h]; omega
  obtain ⟨b, e1, e2⟩ := e
  rw [e1]
  show wpAny _ _ (pure ((n : Int) - 1, (-1 : Int), Builtin.Slice.slicePlaces ((n : Int) - 1) b (-1))) _ _ s
  rw [e2]
  exact wpAny_pure h
theorem getItem_tuple_down {t sl : Addr} {items : Array Value} {vu vs : Value} {hi : Option Int} {q : Nat} {Q : Value → Shared → Prop} (ht : IsTup s.heap t items) (hs : s.heap.IsSliceOf sl .none vu vs) (pu : IsPart vu hi) (ps : IsPart vs (some (-1)))
    (hq : (hi = none ∧ q = 0) ∨ (hi = some 0 ∧ q = 1))
    (h : Q (.ref s.heap.objs.size) { s with heap := s.heap.push { cls := .type "tuple", data := .seq ((items.toList.drop q).reverse).toArray } })
    (hsz : items.size ≤ sizeLine) : wpAny (model prog w) A (getItem (.ref t) (.ref sl)) Q E s := by
  have htake : sizeOk (.seq ((items.toList.drop q).reverse).toArray) := by
    show ((items.toList.drop q).reverse).toArray.size ≤ sizeLine
    rw [List.size_toArray, List.length_reverse, List.length_drop, Array.length_toList]
    omega
  obtain ⟨os, hos, hcs, hds⟩ := id hs
  have hTs : s.TypeIs (.ref sl) "slice" := ⟨os, hos, hcs⟩
  unfold getItem
  try with_reducible refine wpAny_holding ?_
  first | refine wpAny_bind (wpAny_pure ?_) | skip
  refine wpAny_bind (wpAny_sequenceKey ht.typeIs (by decide) ?_)
  refine wpAny_bind (wpAny_callSpecial?_slot (name := Str.ofString "__getitem__") ht.typeIs PyProof.Rows.slot_tuple_getitem
    (wpAny_call_entry PyProof.Rows.slot_tuple_getitem ht.typeIs entry_tuple_getitem ?_ (args_tuple_getitem _ _)))
  show wpAny _ _ (Builtin.Tuple.tupleItemsOf (.ref t) >>= _) _ _ s
  refine wpAny_bind (tupleItemsOf_ ht ?_)
  refine wpAny_bind (wpAny_typeOf hTs ?_)
  rw [if_pos (by decide)]
  refine wpAny_bind (sliceApplied_down (q := q) hs pu ps hq ?_)
  have hno : ¬ ((((items.size : Int) - 1) == 0 && (-1 : Int) == 1 && (items.size - q) == items.size) = true) := by
    intro z
    rw [Bool.and_eq_true, Bool.and_eq_true] at z
    exact absurd z.1.2 (by decide)
  show wpAny _ _ (if (((items.size : Int) - 1) == 0 && (-1 : Int) == 1 && (items.size - q) == items.size) = true then _ else _) _ _ s
  rw [if_neg hno, pick_down items q (by omega)]
  first
    | exact wpAny_bind (m := Builtin.Tuple.tupleExact _) (wpAny_newObj_type (wpAny_pure ⟨_, rfl, wpAny_pure h⟩) htake)
    | exact wpAny_bind (m := Builtin.Tuple.tupleExact _) (wpAny_newObj_type (wpAny_bind (wpAny_pure (wpAny_pure ⟨_, rfl, wpAny_pure h⟩))) htake)
    | exact wpAny_bind (wpAny_bind (m := Builtin.Tuple.tupleExact _) (wpAny_newObj_type (wpAny_pure (wpAny_pure ⟨_, rfl, wpAny_pure h⟩)) htake))
    | exact wpAny_bind (wpAny_bind (m := Builtin.Tuple.tupleExact _) (wpAny_newObj_type (wpAny_pure ⟨_, rfl, wpAny_pure h⟩) htake))
end
section
variable {X : Cx}
def tDown (te : TE) (th : TO) : TE := fun σ H Q => te σ H fun x H1 => th σ H1 fun u H2 => ∃ a xs q, x = .ref a ∧ H2 a = some (.tup xs) ∧ ((u = none ∧ q = 0) ∨ (u = some 0 ∧ q = 1)) ∧ ∀ p H', Same H2 H' → H' p = some (.tup (xs.drop q).reverse) → Q (.ref p) H'
theorem pe_down {e : Expr} {hi : Option Expr} {te : TE} {th : TO} {k : Nat} {p1 p2 p3 pos : Pos} (he : PE X e te) (hh : PO X hi th)
    (htl : ∀ (a b : Addr), subscripted (.Slice none hi (some (.UnaryOp .USub (.Constant (.int 1) k p1) p2)) p3) false (.ref a) (.ref b) = operate [.ref a, .ref b] (getItem (.ref a) (.ref b)) := by intros; with_unfolding_all rfl) :
    PE X (.Subscript e (.Slice none hi (some (.UnaryOp .USub (.Constant (.int 1) k p1) p2)) p3) pos) (tDown te th) := by
  refine ⟨fun pins s σ H Q I h => ?_⟩
  refine Subscript_ (thn (he.run pins s σ H _ I h) fun v s1 ⟨x, H1, I1, r1, q1⟩ => ?_)
  have hst : PO X (some (.UnaryOp .USub (.Constant (.int 1) k p1) p2)) (tPart (tUn (rU fun i => .int (-i)) (tC (.int 1)))) := po_some (pe_un un_neg pe_int)
  refine wpAny_Slice (thn (po_none.run pins s1 σ H1 (fun o H2 => o = none ∧ H2 = H1) I1 ⟨rfl, rfl⟩) fun vl s2 ⟨l, H2, I2, pl, el, e2⟩ => ?_)
  subst el e2
  refine thn (hh.run pins s2 σ H2 _ I2 q1) fun vu s3 ⟨u, H3, I3, pu, q2⟩ => ?_
  obtain ⟨a, xs, q, rfl, hx, hq, k3⟩ := q2
  cases r1
  refine thn (hst.run pins s3 σ H3 (fun o H4 => o = some (-1) ∧ H4 = H3) I3 ⟨1, rfl, -1, rfl, rfl, rfl⟩) fun vs s4 ⟨o, H4, I4, ps, eo, e4⟩ => ?_
  subst eo e4
  have I5 : Inv X pins σ H4 { s4 with heap := s4.heap.push { cls := .type "slice", data := .fields #[vl, vu, vs] } } := I4.kept (t' := s4.toks) fun b ob q => Heap.get?_push_of_some _ q
  obtain ⟨its, r, ht, hz⟩ := I5.tuple (SqT.of hx)
  have hlen := r.length
  cases pl
  show wpAny (model X.prog X.w) X.A (subscriptTail e (.Slice none hi (some (.UnaryOp .USub (.Constant (.int 1) k p1) p2)) p3) (.ref a) (.ref s4.heap.objs.size)) (EP X pins σ Q) X.xe { s4 with heap := s4.heap.push { cls := .type "slice", data := .fields #[.none, vu, vs] } }
  refine tail_any (ops := [.ref a, .ref s4.heap.objs.size]) ht.typeIs (PyProof.Rows.slot_tuple_getitem.lookup) ?_ (htl _ _)
  refine getItem_tuple_down ht (Heap.IsSliceOf.new _ .none vu vs) pu ps hq ?_ (by rw [List.size_toArray]; omega)
  have hn : H4 (s4.heap.push { cls := .type "slice", data := .fields #[.none, vu, vs] }).objs.size = none := I5.hok.fresh (Nat.le_refl _)
  refine ⟨.ref _, _, I5.laid (t' := s4.toks) (o := .tup (xs.drop q).reverse) (fun b ob q => Heap.get?_push_of_some _ q) (Nat.le_refl _) ?_, rfl, k3 _ _ (same_new hn _) upd_same⟩
  refine ⟨by rw [List.length_reverse, List.length_drop]; omega, (its.drop q).reverse, (r.drop q).reverse, ?_⟩
  exact IsTup.new _ _
end
end Tw
set_option Elab.async false
set_option linter.all false
set_option maxRecDepth 100000
set_option maxHeartbeats 4000000
namespace Tw
open PySem PySem.Spec PyProof.Rows L2
/-! ### _law_cut -/
def spLCut : Sp := fun vs H Q _ => ∃ (c : Addr) (x : V) (b : T), vs = [.ref c, x] ∧ Cup H c ∧ Good H x b ∧ ∀ v t H', SameB c H H' → Cup H' c → Tr H' v t → wf t = true → knots t ≤ knots b → Q v H'
theorem Good.kp {H H' : Hp} {v : V} {t : T} (g : Good H v t) (k : Kp H H') : Good H' v t := ⟨g.tr.keep k, g.ok⟩
abbrev N_law_cut : List Str := ["_law_cup_here", "_law_bush_here", "_law_turn"]
theorem sc_law_cut : FnScope N_law_cut ["_law_cup_here", "_law_bush_here"] (defScope (top 56)) := ⟨rfl, rfl, rfl, by decide +kernel, rfl, by decide +kernel, by decide +kernel⟩
theorem hi_law_cut {K : PySem.W.Frag} {mg : Str → Option Value} (T : Txt K mg) : ∃ f fd, FunD K "_law_cut" "_law_cut" (defArgs (top 56)) (defBody (top 56)) (defScope (top 56)) [] [] f fd ∧ mg "_law_cut" = some (.ref f) := T.df "_law_cut" 56 (by decide)
section
variable {P : Program} {w : World} {K : PySem.W.Frag} {mg : Str → Option Value} {base : Heap}
theorem ok_law_cut (T : Txt K mg) (c_law_roll : Cal P w K mg base 1 "_law_roll" spRoll) (c_law_some : Cal P w K mg base 2 "_law_some" (spSome K)) (c_law_parts : Cal P w K mg base 1 "_law_parts" spParts') (c_law_put : Cal P w K mg base 30 "_law_put" (spLPut 16)) : Cal P w K mg base (30 + 1) "_law_cut" (spLCut) := by
  refine cal_nox (hi_law_cut T) sc_law_cut (fun _ _ _ _ _ _ us hl => match us, hl with | [_, _], _ => rfl) (fun vs H Q E h => ?_) (fun f cdv A outer s H vs Q E hr h => ?_)
  · obtain ⟨_, _, _, rfl, _⟩ := h; rfl
  refine ⟨_, (pss_cons (ps_for PassesOwn.never rfl (pi_range1 rfl (T.fr "range" (by simp)) (pa_cons (pe_cl c_law_roll hr (by omega) rfl (pa_cons (pv 0) (pa_cons pe_int pa_nil))) pa_nil)) (pg_name (i := 2) sc_law_cut.nd rfl (Or.inl rfl)) (pss_one (ps_set (i := 1) sc_law_cut.nd rfl (Or.inl rfl) (pe_cl c_law_put hr (by omega) rfl (pa_cons (pv 1) (pa_cons (pe_cl c_law_some hr (by omega) rfl (pa_cons (pv 0) (pa_cons (pe_callB (cr_sortedDT rfl hr.units) (by rfl) (T.fr "sorted" (by simp)) (by decide +kernel) (pa_cons (pe_cl c_law_parts hr (by omega) rfl (pa_cons (pv 1) pa_nil)) pa_nil)) pa_nil))) (pa_cons (pe_tup pa_nil) pa_nil)))))))
      (pss_one (ps_ret (pv 1)))), ?_⟩
  obtain ⟨c, x, b, rfl, hc, g, q⟩ := h
  refine ⟨_, rfl, c, 3, rfl, hc, by decide, by decide, fun n H1 hn s1 c1 => ⟨_, rfl, by omega, by omega, ?_⟩⟩
  rw [Int.toNat_natCast]
  refine for_range (fun i σ H2 => SameB c H H2 ∧ Cup H2 c ∧ ∃ (v : V) (t : Tw.T) (tu : Option V), σ = [some (.ref c), some v, tu] ∧ Good H2 v t ∧ knots t ≤ knots b) ⟨s1, c1, x, b, none, rfl, g.kp (hc.kp s1), Nat.le_refl _⟩ ?_ ?_
  · rintro i σ H2 hi ⟨s2, c2, v, t, tu, rfl, gt, hk⟩
    refine ⟨_, rfl, _, rfl, _, rfl, _, _, rfl, gt, fun d H3 ps s3 dic hp htop => ?_⟩
    obtain ⟨v0, kvs, hd, dv, hkeys⟩ := dic_top dic htop
    refine ⟨d, v0, kvs, rfl, hd, hkeys, fun bs ys p hik hperm hsrt hpn => ?_⟩
    have tys := roads_of_sorted hik dv.1 hp hperm hsrt
    have s4 := same_new hpn (.lst ys)
    have hys : upd H3 p (.lst ys) p = some (.lst ys) := upd_same
    replace tys := TpAll.same tys s4
    have c4 : Cup (upd H3 p (.lst ys)) c := (c2.same s3).same s4
    have ncp : c ≠ p := (c2.same s3).ne hpn
    replace s4 := s3.trans s4
    generalize upd H3 p (.lst ys) = H4 at s4 hys tys c4 ⊢
    have hrl : (roads t).length = size t := by rw [roads, List.length_map, nodes_length]
    have hsz := size_le gt.ok.wf
    have hfew := gt.ok.few
    have hsp := size_pos t
    have hyl : ys.length = size t := by rw [tys.len, List.length_map, hrl]
    refine ⟨c, p, ys, rfl, c4, ncp, hys, by omega, by omega, fun n5 u H5 hu s5 c5 => ?_⟩
    obtain ⟨r, hr⟩ : ∃ r, (roads t)[n5]? = some r := ⟨_, List.getElem?_eq_getElem (by rw [hrl, ← hyl]; exact (List.getElem?_eq_some_iff.mp hu).1)⟩
    obtain ⟨y, hy, ty⟩ := tys.get (i := n5) (d := rd r) (by rw [List.getElem?_map, hr]; rfl)
    rw [hu] at hy
    obtain rfl := Option.some.inj hy
    obtain ⟨tt, htt⟩ := Option.isSome_iff_exists.mp (mem_roads.mp (List.mem_of_getElem? hr))
    have k45 := c4.kp s5
    refine ⟨sz rfl, fun p6 hp6 => ?_⟩
    have s6 := same_new hp6 (.tup [])
    have hrle := road_le r htt
    refine ⟨_, _, _, t, tt, .tip, r, rfl, ((gt.tr.same s4).keep k45).same s6, gt.ok.wf, (ty.keep k45).same s6, Tr.tip upd_same, htt, by omega, fun nv H7 s7 tn => ?_⟩
    have s67 := s6.trans s7
    have hkp := knots_put r t .tip
    rw [knots] at hkp
    exact ⟨s2.trans ((SameB.of s4).trans (s5.add s67)), c5.same s67, nv, put t r .tip, _, rfl, ⟨tn, wf_put r t .tip gt.ok.wf rfl, by omega⟩, by omega⟩
  · rintro σ H2 ⟨s2, c2, v, t, tu, rfl, gt, hk⟩
    exact ⟨_, rfl, q v t H2 s2 c2 gt.tr gt.ok.wf hk⟩
end

end Tw
set_option Elab.async false
set_option linter.all false
set_option maxRecDepth 100000
set_option maxHeartbeats 4000000
namespace Tw
open PySem PySem.Spec PyProof.Rows L2
/-! ### _law_near_bush -/
def spNear : Sp := fun vs H Q _ => ∃ (c : Addr) (x : V) (b : T), vs = [.ref c, x] ∧ Cup H c ∧ Good H x b ∧ knots b ≤ 5 ∧ ∀ v t H', SameB c H H' → Cup H' c → Tr H' v t → wf t = true → knots t ≤ 7 → Q v H'
theorem wfL_rev {bs : List T} (h : ∀ b ∈ bs, wf b = true) : ∀ b ∈ bs.reverse, wf b = true := fun b hb => h b (List.mem_reverse.mp hb)
theorem knotsL_rev (bs : List T) : knotsL bs.reverse = knotsL bs := by
  rw [knotsL_eq, knotsL_eq, List.map_reverse, List.sum_reverse]
theorem TrL.rev {H : Hp} {vs : List V} {bs : List T} (h : TrL H vs bs) : TrL H vs.reverse bs.reverse := by
  show TpAll H _ _
  rw [List.map_reverse]
  exact TpAll.rev h
theorem letter3 {i : Nat} {x : V} (h : [V.str (Str.ofString "a"), V.str (Str.ofString "b"), V.str (Str.ofString "f")][i]? = some x) : ∃ c, x = .str (ltr c) ∧ 97 ≤ c ∧ c ≤ 122 := by
  have hm := List.mem_of_getElem? h
  simp only [List.mem_cons, List.not_mem_nil, or_false] at hm
  rcases hm with rfl | rfl | rfl
  · exact ⟨97, rfl, by decide, by decide⟩
  · exact ⟨98, rfl, by decide, by decide⟩
  · exact ⟨102, rfl, by decide, by decide⟩
abbrev N_law_near_bush : List Str := ["_law_cup_here", "_law_bush_here", "_law_roads", "_law_road", "_law_part", "_law_way"]
theorem sc_law_near_bush : FnScope N_law_near_bush ["_law_cup_here", "_law_bush_here"] (defScope (top 53)) := ⟨rfl, rfl, rfl, by decide +kernel, rfl, by decide +kernel, by decide +kernel⟩
theorem hi_law_near_bush {K : PySem.W.Frag} {mg : Str → Option Value} (T : Txt K mg) : ∃ f fd, FunD K "_law_near_bush" "_law_near_bush" (defArgs (top 53)) (defBody (top 53)) (defScope (top 53)) [] [] f fd ∧ mg "_law_near_bush" = some (.ref f) := T.df "_law_near_bush" 53 (by decide)
section
variable {P : Program} {w : World} {K : PySem.W.Frag} {mg : Str → Option Value} {base : Heap}
theorem ok_law_near_bush (T : Txt K mg) (c_law_roll : Cal P w K mg base 1 "_law_roll" spRoll) (c_law_some : Cal P w K mg base 2 "_law_some" (spSome K)) (c_law_parts : Cal P w K mg base 1 "_law_parts" spParts') (c_law_put : Cal P w K mg base 30 "_law_put" (spLPut 16)) (c_law_bush : Cal P w K mg base 30 "_law_bush" (spLBush 6)) : Cal P w K mg base (30 + 1) "_law_near_bush" (spNear) := by
  refine cal_nox (hi_law_near_bush T) sc_law_near_bush (fun _ _ _ _ _ _ us hl => match us, hl with | [_, _], _ => rfl) (fun vs H Q E h => ?_) (fun f cdv A outer s H vs Q E hr h => ?_)
  · obtain ⟨_, _, _, rfl, _⟩ := h; rfl
  refine ⟨_, (pss_cons (ps_set (i := 2) sc_law_near_bush.nd rfl (Or.inl rfl) (pe_callB (cr_sortedDT rfl hr.units) (by rfl) (T.fr "sorted" (by simp)) (by decide +kernel) (pa_cons (pe_cl c_law_parts hr (by omega) rfl (pa_cons (pv 1) pa_nil)) pa_nil)))
      (pss_cons (ps_set (i := 3) sc_law_near_bush.nd rfl (Or.inl rfl) (pe_cl c_law_some hr (by omega) rfl (pa_cons (pv 0) (pa_cons (pv 2) pa_nil))))
      (pss_cons (ps_par (i := 4) (j := 5) (by rfl) sc_law_near_bush.nd rfl rfl (by decide) rfl rfl (pa_cons (pe_dget (hu_of hr) (pe_cl c_law_parts hr (by omega) rfl (pa_cons (pv 1) pa_nil)) (pv 3) (fun _ _ => rfl)) (pa_cons (pe_cl c_law_roll hr (by omega) rfl (pa_cons (pv 0) (pa_cons pe_int pa_nil))) pa_nil)) (by rfl))
      (pss_cons (ps_if (PW.pt (pw_or (pt_cmpR op_eq (pv 5) pe_int (nomark _)) (pw_or1 (pt_eq0 hr.units (pv 4))))) (pss_one (ps_ret (pe_cl c_law_put hr (by omega) rfl (pa_cons (pv 1) (pa_cons (pv 3) (pa_cons (pe_cl c_law_bush hr (by omega) rfl (pa_cons (pv 0) (pa_cons pe_int pa_nil))) pa_nil)))))) pss_nil)
      (pss_cons (ps_if (pt_cmpR op_eq (pv 5) pe_int (nomark _)) (pss_one (ps_ret (pe_cl c_law_put hr (by omega) rfl (pa_cons (pv 1) (pa_cons (pv 3) (pa_cons (pe_op op_catS (pe_tup (pa_cons (pe_cl c_law_some hr (by omega) rfl (pa_cons (pv 0) (pa_cons (pe_lst (pa_cons pe_str (pa_cons pe_str (pa_cons pe_str pa_nil)))) pa_nil))) pa_nil)) (pe_slice sl_tupS (pv 4) (po_some pe_int) po_none)) pa_nil)))))) pss_nil)
      (pss_cons (ps_if (pt_cmpR op_eq (pv 5) pe_int (nomark _)) (pss_one (ps_ret (pe_cl c_law_put hr (by omega) rfl (pa_cons (pv 1) (pa_cons (pv 3) (pa_cons (pe_op op_catS (pe_slice sl_tupS (pv 4) po_none (po_some pe_int)) (pe_down (pv 4) (po_some pe_int))) pa_nil)))))) pss_nil)
      (pss_one (ps_ret (pe_cl c_law_put hr (by omega) rfl (pa_cons (pv 1) (pa_cons (pv 3) (pa_cons (pe_slice sl_tupS (pe_op op_catS (pv 4) (pe_tup (pa_cons (pe_tup pa_nil) pa_nil))) po_none (po_some pe_int)) pa_nil)))))))))))), ?_⟩
  obtain ⟨c, x, b, rfl, hc, g, hk5, q⟩ := h
  refine ⟨_, rfl, _, _, rfl, g, fun d H1 ps s1 dic hp htop => ?_⟩
  obtain ⟨v0, kvs, hd, dv, hkeys⟩ := dic_top dic htop
  refine ⟨d, v0, kvs, rfl, hd, hkeys, fun bs ys p hik hperm hsrt hpn => ?_⟩
  have tys := roads_of_sorted hik dv.1 hp hperm hsrt
  have s2 := s1.trans (same_new hpn (.lst ys))
  have hys : upd H1 p (.lst ys) p = some (.lst ys) := upd_same
  have ncp : c ≠ p := (hc.same s1).ne hpn
  replace tys := TpAll.same tys (same_new hpn (.lst ys))
  generalize upd H1 p (.lst ys) = H2 at s2 hys tys ⊢
  have c2 := hc.same s2
  have g2 := g.same s2
  have hrl : (roads b).length = size b := by rw [roads, List.length_map, nodes_length]
  have hsz := size_le g.ok.wf
  have hsp := size_pos b
  have hyl : ys.length = size b := by rw [tys.len, List.length_map, hrl]
  refine ⟨_, rfl, _, rfl, c, p, ys, rfl, c2, ncp, hys, by omega, by omega, fun n5 u H5 hu s5 c5 => ?_⟩
  obtain ⟨r, hr⟩ : ∃ r, (roads b)[n5]? = some r := ⟨_, List.getElem?_eq_getElem (by rw [hrl, ← hyl]; exact (List.getElem?_eq_some_iff.mp hu).1)⟩
  obtain ⟨y, hy, ty⟩ := tys.get (i := n5) (d := rd r) (by rw [List.getElem?_map, hr]; rfl)
  rw [hu] at hy
  obtain rfl := Option.some.inj hy
  obtain ⟨tt, htt⟩ := Option.isSome_iff_exists.mp (mem_roads.mp (List.mem_of_getElem? hr))
  have g5 := g2.kp (c2.kp s5)
  have r5 : Rd' H5 u r := ty.keep (c2.kp s5)
  replace s5 := (SameB.of s2).trans s5
  have hrle := road_le r htt
  have okt : Okb 12 tt := ⟨wf_part r g.ok.wf htt, Nat.le_trans (knots_part r htt) g.ok.few⟩
  have hkp := fun gr => knots_put_at r gr htt
  clear hu hys tys hik hperm hsrt hpn hyl s2 c2 g2 dic hd dv hkeys htop hp ncp ty
  refine ⟨_, rfl, _, _, rfl, g5, fun d6 H6 ps6 s6 dic6 hp6 htop6 => ?_⟩
  obtain ⟨ar, rfl, har⟩ := Rd'.inv (r5.same s6)
  obtain ⟨pv', hg6, tp6⟩ := dic_get dic6 hp6 htt har
  refine ⟨_, rfl, d6, pv', rfl, hg6, _, rfl, c, 4, rfl, c5.same s6, by decide, by decide, fun n7 H7 hn7 s7 c7 => ⟨_, _, rfl, ?_⟩⟩
  have k67 := (c5.same s6).kp s7
  have g7 := (g5.same s6).kp k67
  have r7 : Rd' H7 (.ref ar) r := (r5.same s6).keep k67
  have tp7 : Tr H7 pv' tt := tp6.keep k67
  replace s7 := (s5.add s6).trans s7
  clear hg6 dic6 hp6 htop6 har tp6 k67 r5 g5 c5 s6 s5
  have done : ∀ (nv : V) (gr : Tw.T) (H8 H9 : Hp) (R : VK), wf gr = true → knots gr ≤ knots tt + 2 → SameB c H7 H8 → Cup H8 c → Tr H8 nv gr → (∀ v t H', SameB c H H' → Cup H' c → Tr H' v t → wf t = true → knots t ≤ 7 → R v H') → spLPut 16 [x, .ref ar, nv] H8 R E0 := fun nv gr H8 H9 R w1 w2 s8 c8 t8 kR => by
    have k78 := c7.kp s8
    refine ⟨_, _, _, b, tt, gr, r, rfl, g7.tr.keep k78, g7.ok.wf, r7.keep k78, t8, htt, by have := g7.ok.few; omega, fun v H' s' tv => kR v _ H' ((s7.trans s8).add s') (c8.same s') tv (wf_put r b gr g7.ok.wf w1) ?_⟩
    have := hkp gr
    omega
  have bush0 : ∀ H8, Same H7 H8 → tCall (spLPut 16) [] E0 (tCons (tVar 1) (tCons (tVar 3) (tCons (tCall (spLBush 6) [] E0 (tCons (tVar 0) (tCons (tC (V.int 2)) tNil))) tNil))) [some (.ref c), some x, some (.ref p), some (.ref ar), some pv', some (.int (n7 : Int))] H8 Q := fun H8 s8 => by
    exact ⟨_, rfl, _, rfl, _, rfl, c, 2, rfl, by decide, by decide, c7.same s8, fun v t H9 s9 c9 tv wv kv => done v t H9 H9 Q wv (by omega) (SameB.trans (.of s8) s9) c9 tv q⟩
  refine ⟨_, rfl, rfl, _, rfl, itb (fun h0 => it1 (bush0 H7 (Same.refl _))) (fun h0 => ?_)⟩
  refine ⟨_, rfl, td tt, tp7, okt.sh.mono (by decide), fun H8 s8 => ?_⟩
  rw [eqv_tip]
  refine itb (fun h1 => bush0 H8 s8) (fun h1 => ?_)
  cases tt with
  | tip => cases h1
  | kn cc bs' =>
    obtain ⟨a, us, rfl, ha, tu⟩ := Tr.kn_inv (tp7.same s8)
    have c8 := c7.same s8
    have hl6 := okt.len
    have hl1 := okt.pos
    have hul := TrL.len tu
    obtain ⟨wc, wl, wbs⟩ := wf_kn.mp okt.wf
    have b8 : SameB c H7 H8 := .of s8
    clear bush0 h0 h1
    refine ⟨_, rfl, rfl, _, rfl, itb (fun h2 => ?_) (fun h2 => ?_)⟩
    · refine ⟨_, rfl, _, rfl, _, rfl, sz rfl, fun l hl => ⟨c, l, _, rfl, c8.same (same_new hl _), c8.ne hl, upd_same, by decide, by decide, fun i xx H9 hx s9 c9 => ⟨sz rfl, fun P hP => ?_⟩⟩⟩
      obtain ⟨c', rfl, hc1, hc2⟩ := letter3 hx
      replace s9 := (SameB.new hl _).trans s9
      have k9 := c8.kp s9
      have sP := same_new hP (.tup [.str (ltr c')])
      refine ⟨_, rfl, _, rfl, a, _, rfl, sP _ _ (k9 _ _ ha), fun p10 H10 s10 e10 => ?_⟩
      rw [cut_from] at e10
      refine ⟨P, p10, _, _, rfl, rfl, s10 _ _ upd_same, e10, sz_small (by simp; omega), fun p11 H11 s11 e11 => ?_⟩
      have s911 := (sP.trans s10).trans s11
      exact done (.ref p11) (.kn c' bs') H11 H11 Q (wf_kn.mpr ⟨⟨hc1, hc2⟩, wl, wbs⟩) (by rw [knots, knots]; omega) ((b8.trans s9).add s911) (c9.same s911) (Tr.kn e11 ((TpAll.keep k9 tu).same s911)) q
    refine ⟨_, rfl, rfl, _, rfl, itb (fun h3 => ?_) (fun h3 => ?_)⟩
    · refine ⟨_, rfl, _, rfl, _, rfl, _, rfl, a, _, rfl, ha, fun p9 H9 s9 e9 => ⟨_, rfl, _, rfl, a, _, 1, rfl, s9 _ _ ha, .inr ⟨rfl, rfl⟩, fun p10 H10 s10 e10 => ?_⟩⟩
      rw [cut_to] at e9
      rw [List.drop_succ_cons, List.drop_zero] at e10
      refine ⟨p9, p10, _, _, rfl, rfl, s10 _ _ e9, e10, sz_small (by simp; omega), fun p11 H11 s11 e11 => ?_⟩
      have s811 := (s9.trans s10).trans s11
      refine done (.ref p11) (.kn cc bs'.reverse) H11 H11 Q (wf_kn.mpr ⟨wc, by rw [List.length_reverse]; exact wl, wfL_rev wbs⟩) (by rw [knots, knots, knotsL_rev]; omega) (b8.add s811) (c8.same s811) (Tr.kn e11 (TrL.rev (TpAll.same tu s811))) q
    · refine ⟨_, rfl, _, rfl, _, rfl, sz rfl, fun p9 hp9 => ⟨sz rfl, fun p10 hp10 => ?_⟩⟩
      have s10 := (same_new hp9 (.tup [])).trans (same_new hp10 (.tup [.ref p9]))
      have t9 : Tr (upd (upd H8 p9 (.tup [])) p10 (.tup [.ref p9])) (.ref p9) .tip := Tr.tip (same_new hp10 _ _ _ upd_same)
      refine ⟨a, p10, _, _, rfl, rfl, s10 _ _ ha, upd_same, sz_small (by simp; omega), fun p11 H11 s11 e11 => ?_⟩
      refine ⟨_, rfl, p11, _, rfl, e11, fun p12 H12 s12 e12 => ?_⟩
      rw [show (7 : Int) = ((7 : Nat) : Int) from rfl, cut_toN] at e12
      have s812 := (s10.trans s11).trans s12
      have e13 : ((V.str (ltr cc) :: us) ++ [V.ref p9]).take 7 = V.str (ltr cc) :: (us ++ [V.ref p9]).take 6 := rfl
      rw [e13] at e12
      have tt2 : TrL H12 ((us ++ [V.ref p9]).take 6) ((bs' ++ [Tw.T.tip]).take 6) := by
        show TpAll _ _ _
        rw [List.map_take, List.map_append]
        exact TpAll.take 6 (TpAll.app (TpAll.same tu s812) (TpAll.one ((t9.same s11).same s12)))
      have hkk : knotsL ((bs' ++ [Tw.T.tip]).take 6) ≤ knotsL bs' := by
        have h1 := knotsL_take (bs' ++ [Tw.T.tip]) 6
        rw [knotsL_app] at h1
        simpa [knotsL, knots] using h1
      refine done (.ref p12) (.kn cc ((bs' ++ [Tw.T.tip]).take 6)) H12 H12 Q (wf_kn.mpr ⟨wc, ⟨?_, ?_⟩, fun b hb => ?_⟩) (by rw [knots, knots]; omega) (b8.add s812) (c8.same s812) (Tr.kn e12 tt2) q
      · rw [List.length_take, List.length_append, List.length_singleton]; omega
      · rw [List.length_take]; omega
      · rcases List.mem_append.mp (List.mem_of_mem_take hb) with hb | hb
        · exact wbs b hb
        · rw [List.mem_singleton.mp hb]; rfl
end

end Tw
set_option Elab.async false
set_option linter.all false
set_option maxRecDepth 100000
set_option maxHeartbeats 4000000
namespace Tw
open PySem PySem.Spec PyProof.Rows L2
/-! ### _law_clash -/
def rLenS (K : PySem.W.Frag) : List V → Hp → VK → Prop := fun xs H Q => ∃ p ys, xs = [.ref p] ∧ (SqL K H p ys ∨ SqT K H p ys) ∧ Q (.int ys.length) H
def spLClash : Sp := fun vs H Q _ => ∃ (x y : V) (b o : T), vs = [x, y] ∧ Good H x b ∧ Good H y o ∧ ∀ v H', Same H H' → Tp H' v (optd (clash b o)) → Q v H'
def lrd (r : R) : PyData := .tuple [.int (r.length : Nat), rd r]
def comB (o : T) (x : R × T) : Bool := decide (x.2 ≠ .tip) && (match partAt o x.1 with
  | some q => decide (q ≠ .tip)
  | none => false)
def clO (o : T) (x : R × T) : Option PyData := if comB o x = true then some (lrd x.1) else none
theorem clO_kept (o : T) : ∀ ps : List (R × T), keptD (ps.map (clO o)) = ((ps.filter (comB o)).map (·.1)).map lrd
  | [] => rfl
  | p :: ps => by
    have ih := clO_kept o ps
    unfold keptD at ih ⊢
    rw [List.map_cons, List.filterMap_cons]
    unfold clO
    by_cases e : comB o p = true
    · rw [if_pos e, List.filter_cons_of_pos e, List.map_cons, List.map_cons, ← ih]
      rfl
    · rw [if_neg e, List.filter_cons_of_neg e, ← ih]
      rfl
theorem com_perm {b o : T} {ps : List (R × T)} (hp : ps.Perm (nodes b)) : ((ps.filter (comB o)).map (·.1)).Perm (commonR b o) := (hp.filter (comB o)).map (·.1)
theorem lrd_inv {H : Hp} {v : V} {r : R} (h : Tp H v (lrd r)) : ∃ t a, v = .ref t ∧ H t = some (.tup [.int (r.length : Nat), .ref a]) ∧ H a = some (.tup (r.map fun (n : Nat) => V.int (n : Int))) := by
  rw [lrd] at h
  cases h with
  | tup e t =>
    cases t with
    | cons h1 t =>
      cases t with
      | cons h2 t =>
        cases t
        cases h1
        obtain ⟨a, rfl, ha⟩ := Rd'.inv h2
        exact ⟨_, a, rfl, e, ha⟩
theorem lrd_key {H : Hp} {v : V} {r : R} (h : Tp H v (lrd r)) : kxI H v = ((r.length : Nat) : Int) :: r.map fun (n : Nat) => (n : Int) := by
  obtain ⟨t, a, rfl, h1, h2⟩ := lrd_inv h
  unfold kxI
  rw [prK_of h1]
  dsimp only
  rw [kvI_of (l := r.map fun (n : Nat) => (n : Int)) (by rw [h2, List.map_map]; rfl)]
theorem kx_roads {H : Hp} : ∀ {ys : List V} {rs : List R}, TpAll H ys (rs.map lrd) → ys.map (kxI H) = rs.map fun r => ((r.length : Nat) : Int) :: r.map fun (n : Nat) => (n : Int)
  | [], [], _ => rfl
  | _, [], h => by cases h; rfl
  | _, r :: rs, h => by
    cases h with
    | cons h t => rw [List.map_cons, List.map_cons, kx_roads t, lrd_key h]
theorem key_int (r s : R) : HT.lexLt (((r.length : Nat) : Int) :: r.map fun (n : Nat) => (n : Int)) (((s.length : Nat) : Int) :: s.map fun (n : Nat) => (n : Int)) = keyLt r s := by
  rw [HT.lexLt_cons, lex_int, keyLt]
  by_cases h : r.length = s.length
  · rw [if_pos (by omega), if_pos h]
  · rw [if_neg (by omega), if_neg h]
    by_cases l : r.length < s.length
    · rw [decide_eq_true l, decide_eq_true (by omega)]
    · rw [decide_eq_false l, decide_eq_false (by omega)]
theorem sorted_keys {H : Hp} {ys : List V} {rs : List R} (t : TpAll H ys (rs.map lrd)) (nd : rs.Nodup) (hs : SrtO.Srtd (fun x y => HT.lexLt (kxI H x) (kxI H y)) ys) : rs.Pairwise fun x y => keyLt x y = true := by
  have s1 : (rs.map fun r => ((r.length : Nat) : Int) :: r.map fun (n : Nat) => (n : Int)).Pairwise fun x y => HT.lexLt y x = false := by
    rw [← kx_roads t, List.pairwise_map]
    exact hs
  rw [List.pairwise_map] at s1
  refine (s1.and nd).imp fun {x y} z => ?_
  obtain ⟨z1, z2⟩ := z
  rw [key_int] at z1
  cases e : keyLt x y with
  | true => rfl
  | false => exact absurd (keyLt_tot e z1) z2
theorem Srtd_same {H H' : Hp} {ys : List V} {rs : List R} (t : TpAll H ys (rs.map lrd)) (t' : TpAll H' ys (rs.map lrd)) (h : SrtO.Srtd (fun x y => HT.lexLt (kxI H x) (kxI H y)) ys) : SrtO.Srtd (fun x y => HT.lexLt (kxI H' x) (kxI H' y)) ys := by
  have e : ys.map (kxI H) = ys.map (kxI H') := by rw [kx_roads t, kx_roads t']
  have h1 : (ys.map (kxI H)).Pairwise fun x y => HT.lexLt y x = false := by rw [List.pairwise_map]; exact h
  rw [e, List.pairwise_map] at h1
  exact h1
theorem dicv_get {H : Hp} {d : Addr} {b : T} {ps : List (R × T)} {kvs : List (List L2.Key × V)} {r : R} {t : T} {a : Addr} (h : Rd H d (.dT kvs)) (dv : DicV H kvs ps) (hp : ps.Perm (nodes b)) (ht : partAt b r = some t) (ha : H a = some (.tup (r.map fun (n : Nat) => V.int (n : Int)))) : ∃ v, DGet H d (.ref a) (some v) ∧ Tr H v t := by
  obtain ⟨v, e, tv⟩ := dv.get ((List.Perm.map (fun x : R × T => x.1) hp).nodup_iff.mpr (roads_nodup b)) (hp.mem_iff.mpr ((mem_nodes b).mpr ht))
  refine ⟨v, ?_, tv⟩
  rw [← e]
  exact .inr ⟨kvs, kR r, a, h, rfl, by rw [kR_kV]; exact ha, rfl⟩
theorem same_lock {H H' : Hp} {d : Addr} {od : Obj} {u : HO} (hd : H d = some u) (s : Same (upd H d (.frz od u)) H') : Same H (upd H' d u) := fun b w q => by
  by_cases e : b = d
  · subst e; rw [hd] at q; cases q; exact upd_same
  · rw [upd_ne e]; exact s b w (by rw [upd_ne e]; exact q)
theorem kp_frz {H : Hp} {d : Addr} {od : Obj} {u o : HO} (h : H d = some (.frz od u)) : Kp H (upd H d o) := fun b xs q => by rw [upd_ne (ne_of q h (by intro z; cases z))]; exact q
theorem rd_lock {H : Hp} {d d' : Addr} {od : Obj} {kvs kvs' : List (List L2.Key × V)} (hd : H d = some (.dT kvs)) (hd' : H d' = some (.dT kvs')) : Rd (upd H d (.frz od (.dT kvs))) d' (.dT kvs') := by
  by_cases e : d' = d
  · subst e
    rw [hd] at hd'
    cases hd'
    exact .inr ⟨od, upd_same⟩
  · exact .inl (by rw [upd_ne e]; exact hd')
theorem rdS {H H' : Hp} {d : Addr} {u : HO} (h : Rd H d u) (s : Same H H') : Rd H' d u := by
  rcases h with h | ⟨o, h⟩
  · exact .inl (s _ _ h)
  · exact .inr ⟨o, s _ _ h⟩
theorem dicv_has {H : Hp} {d : Addr} {b : T} {ps : List (R × T)} {kvs : List (List L2.Key × V)} {r : R} {a : Addr} (h : Rd H d (.dT kvs)) (dv : DicV H kvs ps) (hp : ps.Perm (nodes b)) (ha : H a = some (.tup (r.map fun (n : Nat) => V.int (n : Int)))) : ∃ o, DGet H d (.ref a) o ∧ o.isSome = (partAt b r).isSome := by
  cases e : partAt b r with
  | some t =>
    obtain ⟨v, g, _⟩ := dicv_get h dv hp e ha
    exact ⟨some v, g, rfl⟩
  | none =>
    refine ⟨valV kvs (kR r), .inr ⟨kvs, kR r, a, h, rfl, by rw [kR_kV]; exact ha, rfl⟩, ?_⟩
    rw [dv.none]
    · rfl
    · intro hm
      have : r ∈ roads b := (hp.map (·.1)).mem_iff.mp hm
      rw [mem_roads, e] at this
      cases this
theorem TpAll.mem {H : Hp} {x : V} : ∀ {vs : List V} {ds : List PyData}, TpAll H vs ds → x ∈ vs → ∃ d ∈ ds, Tp H x d
  | _, _, .nil, h => by cases h
  | _, _, .cons h t, hx => by
    rcases List.mem_cons.mp hx with rfl | hx
    · exact ⟨_, List.mem_cons_self, h⟩
    · obtain ⟨d, h1, h2⟩ := TpAll.mem t hx
      exact ⟨d, List.mem_cons_of_mem _ h1, h2⟩
theorem find_at {α : Type} {p : α → Bool} : ∀ {l : List α} {i : Nat} {x : α}, l[i]? = some x → p x = true → (∀ j y, j < i → l[j]? = some y → p y = false) → l.find? p = some x
  | [], _, _, h, _, _ => by simp at h
  | y :: l, 0, x, h, hx, _ => by
    have e : y = x := by simpa using h
    subst e
    exact List.find?_cons_of_pos hx
  | y :: l, i + 1, x, h, hx, hn => by
    have h0 := hn 0 y (Nat.succ_pos _) rfl
    rw [List.find?_cons_of_neg (by rw [h0]; exact Bool.false_ne_true)]
    exact find_at (i := i) (by simpa using h) hx fun j z hj hz => hn (j + 1) z (by omega) (by simpa using hz)
theorem commonR_nodup (b o : T) : (commonR b o).Nodup := by
  unfold commonR
  exact (List.Sublist.map _ List.filter_sublist).nodup (roads_nodup b)
theorem ltr_v {c d : Nat} : decide (V.str (ltr c) = V.str (ltr d)) = decide (c = d) := by
  rw [dec_str, ltr_eq]
theorem kp_lock {H : Hp} {d : Addr} {o : HO} {kvs : List (List L2.Key × V)} (hd : H d = some (.dT kvs)) : Kp H (upd H d o) := Kp.dT hd o
abbrev N_law_clash : List Str := ["_law_bush_here", "_law_other", "_law_one", "_law_two", "_law_found", "_law_length", "_law_road"]
theorem sc_law_clash : FnScope N_law_clash ["_law_bush_here", "_law_other"] (defScope (top 57)) := ⟨rfl, rfl, rfl, by decide +kernel, rfl, by decide +kernel, by decide +kernel⟩
theorem hi_law_clash {K : PySem.W.Frag} {mg : Str → Option Value} (T : Txt K mg) : ∃ f fd, FunD K "_law_clash" "_law_clash" (defArgs (top 57)) (defBody (top 57)) (defScope (top 57)) [] [] f fd ∧ mg "_law_clash" = some (.ref f) := T.df "_law_clash" 57 (by decide)
section
variable {P : Program} {w : World} {K : PySem.W.Frag} {mg : Str → Option Value} {base : Heap}
theorem ok_law_clash (T : Txt K mg) (c_law_parts : Cal P w K mg base 1 "_law_parts" spParts') : Cal P w K mg base (1 + 1) "_law_clash" (spLClash) := by
  refine cal_nox (hi_law_clash T) sc_law_clash (fun _ _ _ _ _ _ us hl => match us, hl with | [_, _], _ => rfl) (fun vs H Q E h => ?_) (fun f cdv A outer s H vs Q E hr h => ?_)
  · obtain ⟨_, _, _, _, rfl, _⟩ := h; rfl
  refine ⟨_, (pss_cons (ps_asg (pe_tup (pa_cons (pe_cl c_law_parts hr (by omega) rfl (pa_cons (pv 0) pa_nil)) (pa_cons (pe_cl c_law_parts hr (by omega) rfl (pa_cons (pv 1) pa_nil)) pa_nil))) (pg_tup rfl (pgs_cons (pg_name (i := 2) sc_law_clash.nd rfl (Or.inr rfl)) (pgs_cons (pg_name (i := 3) sc_law_clash.nd rfl (Or.inr rfl)) pgs_nil))))
      (pss_cons (ps_lock (ps_setLc (i := 4) (own := [("_law_road", 6)]) rfl sc_law_clash.nd rfl rfl (sw_true rfl rfl rfl (by decide +kernel)) (pi_keys (pv 2)) (blkOk_by (own := [("_law_road", 6)]) (N := N_law_clash) (sc := defScope (top 57)) (by decide +kernel)) (fun _ _ _ _ _ => (pg_name (i := 6) sc_law_clash.nd rfl (Or.inl rfl))) (fun _ _ _ _ _ => (pts_one (PW.pt (pw_and (pt_cmp (pc_din (hu_of hr) (pv 6) (pv 3)) rfl) (pw_and (pt_ne0 hr.units (pe_dget (hu_of hr) (pv 2) (pv 6) (fun _ _ => rfl))) (pw_and1 (pt_ne0 hr.units (pe_dget (hu_of hr) (pv 3) (pv 6) (fun _ _ => rfl))))))))) (fun _ _ _ _ _ => (pe_tup (pa_cons (pe_callB (id := "len") (r := rLenS K) (by exact call_len_seq) (by rfl) (T.fr "len" (by simp)) (by decide +kernel) (pa_cons (pv 6) pa_nil)) (pa_cons (pv 6) pa_nil))))))
      (pss_cons (ps_for PassesOwn.never rfl (pi_list (pe_callB (cr_sortedPr hr.units) (by rfl) (T.fr "sorted" (by simp)) (by decide +kernel) (pa_cons (pv 4) pa_nil))) (pg_tup rfl (pgs_cons (pg_name (i := 5) sc_law_clash.nd rfl (Or.inl rfl)) (pgs_cons (pg_name (i := 6) sc_law_clash.nd rfl (Or.inl rfl)) pgs_nil))) (pss_one (ps_if (PW.pt (pw_or (pt_cmpR op_ne (pe_ix ix_tup (pe_dget (hu_of hr) (pv 2) (pv 6) (fun _ _ => rfl)) pe_int (fun _ _ => rfl)) (pe_ix ix_tup (pe_dget (hu_of hr) (pv 3) (pv 6) (fun _ _ => rfl)) pe_int (fun _ _ => rfl)) (nomark _)) (pw_or1 (pt_cmpR op_ne (pe_callB call_len_seq (by rfl) (T.fr "len" (by simp)) (by decide +kernel) (pa_cons (pe_dget (hu_of hr) (pv 2) (pv 6) (fun _ _ => rfl)) pa_nil)) (pe_callB call_len_seq (by rfl) (T.fr "len" (by simp)) (by decide +kernel) (pa_cons (pe_dget (hu_of hr) (pv 3) (pv 6) (fun _ _ => rfl)) pa_nil)) (nomark _))))) (pss_one (ps_ret (pv 6))) pss_nil)))
      (pss_one (ps_ret pe_non))))), ?_⟩
  obtain ⟨x, y, b, o, rfl, gb, go, q⟩ := h
  refine ⟨_, rfl, _, _, rfl, gb, fun d1 H1 ps1 s1 dic1 hp1 _ => ⟨_, rfl, _, _, rfl, go.same s1, fun d2 H2 ps2 s2 dic2 hp2 _ => ⟨sz rfl, fun T0 hT0 => ?_⟩⟩⟩
  have s3 := same_new hT0 (.tup [.ref d1, .ref d2])
  replace dic1 := (dic1.same s2).same s3
  replace dic2 := dic2.same s3
  refine ⟨T0, [.ref d1, .ref d2], rfl, SqT.of upd_same, rfl, _, [.ref d2], rfl, _, [], rfl, rfl, ?_⟩
  replace s3 := (s1.trans s2).trans s3
  generalize upd H2 T0 (.tup [.ref d1, .ref d2]) = H3 at s3 dic1 dic2 ⊢
  clear s1 s2 hT0
  obtain ⟨kvs1, hd1, dv1⟩ := dic1
  have hfb := gb.ok.few
  have hfo := go.ok.few
  have hsb := size_le gb.ok.wf
  have hlp : ps1.length = size b := by rw [hp1.length_eq, size_nodes_len]
  have hlk := dv1.len
  refine ⟨d1, _, hd1, trivial, fun od => ?_⟩
  have k4 : Kp H3 (upd H3 d1 (.frz od (.dT kvs1))) := kp_lock hd1
  have f4 : upd H3 d1 (.frz od (.dT kvs1)) d1 = some (.frz od (.dT kvs1)) := upd_same
  have un4 : ∀ H', Same (upd H3 d1 (.frz od (.dT kvs1))) H' → Same H3 (upd H' d1 (.dT kvs1)) := fun H' s => same_lock hd1 s
  refine ⟨_, rfl, d1, od, rfl, .inr ⟨kvs1, f4, fun D hD => ?_⟩⟩
  obtain ⟨kvs2, hd2, dv2⟩ := dic2
  have r1 : Rd (upd H3 d1 (.frz od (.dT kvs1))) d1 (.dT kvs1) := rd_lock hd1 hd1
  have r2 : Rd (upd H3 d1 (.frz od (.dT kvs1))) d2 (.dT kvs2) := rd_lock hd1 hd2
  have w1 := dv1.keep k4
  have w2 := dv2.keep k4
  generalize hH4 : upd H3 d1 (.frz od (.dT kvs1)) = H4 at k4 f4 un4 r1 r2 w1 w2 hD ⊢
  have nD1 : D ≠ d1 := fun z => by subst z; rw [hD] at f4; cases f4
  refine lc_any (I := Itkt d1 od kvs1) (n := kvs1.length) (vs := [6]) (ds := ps1.map (clO o)) (by rw [List.length_map, hlk]) (sz_small (by rw [List.length_map]; omega)) hD (fun i dd Hi Nx Nn hdd si k1 k2 => ?_) (fun Hi si => ⟨si _ _ f4, Nat.le_refl _⟩) (fun Hf acc sf hacc hall => ?_)
  · rw [List.getElem?_map] at hdd
    cases er : ps1[i]? with
    | none => rw [er] at hdd; cases hdd
    | some e =>
      rw [er] at hdd
      obtain rfl := Option.some.inj hdd
      have hik : i < kvs1.length := by rw [hlk]; exact (List.getElem?_eq_some_iff.mp er).1
      refine ⟨⟨si _ _ f4, hik⟩, fun v' H' yl => ?_⟩
      obtain ⟨e0, k, vv, qa, hk1, rfl, hqa⟩ := yl
      subst e0
      have hkk : k = kR e.1 := by
        have h1 : (kvs1.map (·.1))[i]? = some k := by rw [List.getElem?_map, hk1]; rfl
        rw [dv1.1, List.getElem?_map, er] at h1
        exact (Option.some.inj h1).symm
      subst hkk
      rw [kR_kV] at hqa
      have hm : (e.1, e.2) ∈ nodes b := hp1.mem_iff.mp (List.mem_of_getElem? er)
      have hbt := (mem_nodes b).mp hm
      have okb : Okb 12 e.2 := ⟨wf_part e.1 gb.ok.wf hbt, Nat.le_trans (knots_part e.1 hbt) hfb⟩
      refine ⟨rfl, ?_⟩
      obtain ⟨o2, g2, hs2⟩ := dicv_has (rdS r2 si) (w2.keep (Kp.of si)) hp2 hqa
      refine ⟨_, rfl, _, rfl, d2, o2, rfl, g2, _, rfl, itb (fun z2 => ?_) (fun z2 => ?_)⟩
      rotate_left
      · rw [hs2] at z2
        refine k2 _ (show clO o e = none from if_neg fun z => ?_) (Same.refl _)
        unfold comB at z
        cases ep : partAt o e.1 with
        | none => rw [ep] at z; simp at z
        | some t => rw [ep] at z2; cases z2
      rw [hs2] at z2
      obtain ⟨t2, ht2⟩ := Option.isSome_iff_exists.mp z2
      have oko : Okb 12 t2 := ⟨wf_part e.1 go.ok.wf ht2, Nat.le_trans (knots_part e.1 ht2) hfo⟩
      obtain ⟨v1, g1, tv1⟩ := dicv_get (rdS r1 si) (w1.keep (Kp.of si)) hp1 hbt hqa
      refine ⟨_, rfl, _, rfl, d1, v1, rfl, g1, td e.2, tv1, okb.sh.mono (by decide), fun H5 s5 => ?_⟩
      rw [eqv_tip]
      refine itb (fun z3 => ?_) (fun z3 => ?_)
      rotate_left
      · refine k2 _ (show clO o e = none from if_neg fun z => ?_) s5
        unfold comB at z
        have z3 : e.2 = .tip := by simpa using z3
        rw [z3] at z
        simp at z
      obtain ⟨v2, g22, tv2⟩ := dicv_get (rdS (rdS r2 si) s5) (w2.keep ((Kp.of si).trans (Kp.of s5))) hp2 ht2 (s5 _ _ hqa)
      refine ⟨_, rfl, _, rfl, d2, v2, rfl, g22, td t2, tv2, oko.sh.mono (by decide), fun H6 s6 => ?_⟩
      rw [eqv_tip]
      refine itb (fun z4 => ?_) (fun z4 => ?_)
      · refine ⟨_, rfl, qa, _, rfl, .inr (SqT.of (s6 _ _ (s5 _ _ hqa))), _, rfl, sz rfl, fun P hP => ?_⟩
        have sP := (s5.trans s6).trans (same_new hP (.tup [.int ((e.1.map fun (n : Nat) => V.int (n : Int)).length : Nat), .ref qa]))
        refine k1 (lrd e.1) _ _ (show clO o e = some _ from if_pos ?_) sP ?_
        · unfold comB
          have z3 : e.2 ≠ .tip := by simpa using z3
          have z4 : t2 ≠ .tip := by simpa using z4
          rw [ht2]
          simp [z3, z4]
        · refine .tup upd_same (.cons ?_ (.cons (Rd'.of (sP _ _ hqa)) .nil))
          rw [List.length_map]
          exact .int _
      · refine k2 _ (show clO o e = none from if_neg fun z => ?_) (s5.trans s6)
        unfold comB at z
        have z4 : t2 = .tip := by simpa using z4
        rw [ht2, z4] at z
        simp at z
  · rw [clO_kept] at hall
    have hperm := com_perm (o := o) hp1
    generalize hrs : (ps1.filter (comB o)).map (·.1) = rs at hall hperm
    have s5 := un4 Hf sf
    have k5 : Kp Hf (upd Hf d1 (.dT kvs1)) := kp_frz (sf _ _ f4)
    have l5 : upd Hf d1 (.dT kvs1) D = some (.lst acc) := by rw [upd_ne nD1]; exact hacc
    have t5 := TpAll.keep k5 hall
    refine ⟨sf _ _ f4, ?_⟩
    have dic1' : DicB (upd Hf d1 (.dT kvs1)) d1 ps1 := DicB.same ⟨kvs1, hd1, dv1⟩ s5
    have dic2' : DicB (upd Hf d1 (.dT kvs1)) d2 ps2 := DicB.same ⟨kvs2, hd2, dv2⟩ s5
    replace s5 := s3.trans s5
    generalize upd Hf d1 (.dT kvs1) = H5 at s5 k5 l5 t5 dic1' dic2' ⊢
    clear un4 r1 r2 w1 w2 f4 k4
    have hinv : ∀ x ∈ acc, ∃ r, Tp H5 x (lrd r) := fun x hx => by
      obtain ⟨dd, h1, h2⟩ := t5.mem hx
      obtain ⟨r, _, rfl⟩ := List.mem_map.mp h1
      exact ⟨r, h2⟩
    refine ⟨_, rfl, D, acc, rfl, .inl (SqL.of l5), fun x hx => ?_, fun x hx y hy _ => .inr ⟨?_, ?_⟩, fun ys p hpy hsy hpn => ?_⟩
    · obtain ⟨r, tr⟩ := hinv x hx
      obtain ⟨t, a, rfl, h1, h2⟩ := lrd_inv tr
      exact ⟨t, _, a, rfl, h1⟩
    · obtain ⟨r, tr⟩ := hinv x hx
      obtain ⟨t, a, rfl, h1, h2⟩ := lrd_inv tr
      exact ⟨a, r.map fun (n : Nat) => (n : Int), by rw [prK_of h1], by rw [h2, List.map_map]; rfl⟩
    · obtain ⟨r, tr⟩ := hinv y hy
      obtain ⟨t, a, rfl, h1, h2⟩ := lrd_inv tr
      exact ⟨a, r.map fun (n : Nat) => (n : Int), by rw [prK_of h1], by rw [h2, List.map_map]; rfl⟩
    obtain ⟨rs', pr', ty5⟩ := TpAll.perm hpy t5
    have pc := pr'.trans hperm
    have hs' := sorted_keys ty5 (pc.nodup_iff.mpr (commonR_nodup b o)) hsy
    have hfind := find_least pc hs'
    have s6 := same_new hpn (.lst ys)
    have l6 : upd H5 p (.lst ys) p = some (.lst ys) := upd_same
    replace ty5 := TpAll.same ty5 s6
    replace dic1' := dic1'.same s6
    replace dic2' := dic2'.same s6
    replace s5 := s5.trans s6
    generalize upd H5 p (.lst ys) = H6 at s5 l6 ty5 dic1' dic2' ⊢
    have hyl : ys.length = rs'.length := by rw [ty5.len, List.length_map]
    refine ⟨p, rfl, ⟨ys, SqL.of l6⟩, ?_⟩
    refine for_list (K := K) (a := p) (xs := ys) (fun i σ H7 => Same H6 H7 ∧ ∃ (le ro : Option V), σ = [some x, some y, some (.ref d1), some (.ref d2), some (.ref D), le, ro] ∧ ∀ j r, j < i → rs'[j]? = some r → unlikeAt b o r = false) ⟨Same.refl _, none, none, rfl, fun j r h => absurd h (Nat.not_lt_zero _)⟩ (fun i σ H7 _ z => SqL.of (z.1 _ _ l6)) ?_ ?_
    · rintro i v σ H7 hv ⟨s7, le, ro, rfl, hno⟩
      obtain ⟨r, hr⟩ : ∃ r, rs'[i]? = some r := ⟨_, List.getElem?_eq_getElem (by rw [← hyl]; exact (List.getElem?_eq_some_iff.mp hv).1)⟩
      obtain ⟨w, hw, tw⟩ := ty5.get (i := i) (d := lrd r) (by rw [List.getElem?_map, hr]; rfl)
      rw [hv] at hw
      obtain rfl := Option.some.inj hw
      obtain ⟨t, a, rfl, h1, h2⟩ := lrd_inv (tw.same s7)
      obtain ⟨pb, po, e1, e2, hbo⟩ := mem_commonR.mp (pc.mem_iff.mp (List.mem_of_getElem? hr))
      obtain ⟨v1, g1, t1⟩ := dic_get (dic1'.same s7) hp1 e1 h2
      obtain ⟨v2, g2, t2⟩ := dic_get (dic2'.same s7) hp2 e2 h2
      cases pb with
      | tip => simp [both] at hbo
      | kn c1 bs1 =>
        cases po with
        | tip => simp [both] at hbo
        | kn c2 bs2 =>
          obtain ⟨a1, us1, rfl, ha1, tu1⟩ := t1.kn_inv
          obtain ⟨a2, us2, rfl, ha2, tu2⟩ := t2.kn_inv
          have un : unlikeAt b o r = !decide (c1 = c2 ∧ bs1.length = bs2.length) := by
            unfold unlikeAt
            rw [e1, e2]
            rfl
          have ret : ∀ H8, Same H7 H8 → unlikeAt b o r = true → Q (.ref a) H8 := fun H8 s8 hu => by
            refine q _ _ ((s5.trans s7).trans s8) ?_
            rw [← hfind, find_at hr hu hno]
            exact Rd'.of (s8 _ _ h2)
          refine ⟨t, [.int (r.length : Nat), .ref a], rfl, SqT.of h1, rfl, _, [.ref a], rfl, _, [], rfl, rfl, ?_⟩
          refine ⟨_, rfl, _, rfl, d1, _, rfl, g1, a1, _, 0, _, rfl, rfl, SqT.of ha1, atI_nat (j := 0) rfl, _, rfl, _, rfl, d2, _, rfl, g2, a2, _, 0, _, rfl, rfl, SqT.of ha2, atI_nat (j := 0) rfl, rfl, _, rfl, ?_⟩
          rw [ltr_v]
          refine itb (fun z => it1 ⟨_, rfl, ret H7 (Same.refl _) ?_⟩) (fun z => ?_)
          · rw [un]
            have z : ¬ c1 = c2 := by simpa using z
            simp [z]
          have z : c1 = c2 := by simpa using z
          refine ⟨_, rfl, _, rfl, d1, _, rfl, g1, a1, _, rfl, .inr (SqT.of ha1), _, rfl, _, rfl, d2, _, rfl, g2, a2, _, rfl, .inr (SqT.of ha2), rfl, _, rfl, ?_⟩
          have hln : (!decide (V.int ((V.str (ltr c1) :: us1).length : Nat) = V.int ((V.str (ltr c2) :: us2).length : Nat))) = unlikeAt b o r := by
            rw [un, List.length_cons, List.length_cons, TrL.len tu1, TrL.len tu2, dec_int, z]
            congr 1
            rw [Bool.eq_iff_iff]
            simp
            omega
          rw [hln]
          refine itb (fun hu => ⟨_, rfl, ret H7 (Same.refl _) hu⟩) (fun hu => ⟨s7, _, _, rfl, fun j r' hj hr' => ?_⟩)
          rcases Nat.lt_or_ge j i with hji | hji
          · exact hno j r' hji hr'
          · have e : j = i := by omega
            subst e
            rw [hr] at hr'
            obtain rfl := Option.some.inj hr'
            exact hu
    · rintro σ H7 ⟨s7, le, ro, rfl, hno⟩
      refine q _ _ (s5.trans s7) ?_
      have hn : rs'.find? (unlikeAt b o) = none := List.find?_eq_none.mpr fun r hr => by
        obtain ⟨j, hj⟩ := List.getElem?_of_mem hr
        rw [hno j r (by rw [hyl]; exact (List.getElem?_eq_some_iff.mp hj).1) hj]
        exact Bool.false_ne_true
      rw [← hfind, hn]
      exact .non
end

end Tw
set_option Elab.async false
set_option linter.all false
set_option maxRecDepth 100000
set_option maxHeartbeats 4000000
namespace Tw
open PySem PySem.Spec PyProof.Rows L2
mutual
theorem part_fill : ∀ (b : T) (ps : List T) (j : Nat) (r : R), (tipRoads b)[j]? = some r → ps.length = tips b → partAt (fill b ps) r = ps[j]?
  | .tip, ps, j, r, h, hl => by
    rw [tipRoads_tip] at h
    rw [tips] at hl
    match ps, hl, j, h with
    | [q], _, 0, h =>
      have e : r = [] := by simpa using h.symm
      subst e
      rfl
    | [q], _, j + 1, h => simp at h
  | .kn c bs, ps, j, r, h, hl => by
    rw [tipRoads_kn] at h
    rw [tips] at hl
    obtain ⟨k, r', x, rfl, h1, h2⟩ := part_fillL bs 0 ps j r h hl
    rw [fill, partAt, Nat.zero_add, h1]
    exact h2
theorem part_fillL : ∀ (bs : List T) (i : Nat) (ps : List T) (j : Nat) (r : R), (tipRoadsL i bs)[j]? = some r → ps.length = tipsL bs →
    ∃ k r' x, r = (i + k) :: r' ∧ (fillL bs ps)[k]? = some x ∧ partAt x r' = ps[j]?
  | [], i, ps, j, r, h, _ => by simp [tipRoadsL] at h
  | b :: bs, i, ps, j, r, h, hl => by
    rw [tipsL] at hl
    rw [tipRoadsL] at h
    by_cases hj : j < tips b
    · rw [List.getElem?_append_left (by rw [List.length_map, tipRoads_len]; exact hj), List.getElem?_map] at h
      cases e : (tipRoads b)[j]? with
      | none => rw [e] at h; cases h
      | some r' =>
        rw [e] at h
        have e2 : i :: r' = r := Option.some.inj h
        refine ⟨0, r', fill b (ps.take (tips b)), e2.symm, by rw [fillL]; rfl, ?_⟩
        rw [part_fill b (ps.take (tips b)) j r' e (by rw [List.length_take]; omega), List.getElem?_take, if_pos hj]
    · rw [List.getElem?_append_right (by rw [List.length_map, tipRoads_len]; omega), List.length_map, tipRoads_len] at h
      obtain ⟨k, r', x, rfl, h1, h2⟩ := part_fillL bs (i + 1) (ps.drop (tips b)) (j - tips b) r h (by rw [List.length_drop]; omega)
      refine ⟨k + 1, r', x, by rw [show i + 1 + k = i + (k + 1) by omega], by rw [fillL, List.getElem?_cons_succ]; exact h1, ?_⟩
      rw [h2, List.getElem?_drop]
      congr 1
      omega
end
theorem tipRoad_le {b : T} {j : Nat} {r : R} (h : (tipRoads b)[j]? = some r) : r.length ≤ knots b := by
  have hm := List.mem_of_getElem? h
  unfold tipRoads at hm
  obtain ⟨p, hp, rfl⟩ := List.mem_map.mp hm
  exact road_le p.1 ((mem_nodes b).mp (List.mem_filter.mp hp).1)
/-- the lot's items, in the order of their numbers -/
theorem lot_inj {L : List (Nat × T)} (h : L.Pairwise fun x y => x.1 < y.1) {i j : Nat} {p q : Nat × T} (hi : L[i]? = some p) (hj : L[j]? = some q) (e : p.1 = q.1) : i = j := by
  rcases Nat.lt_trichotomy i j with l | l | l
  · have := List.pairwise_iff_getElem.mp h i j (List.getElem?_eq_some_iff.mp hi).1 (List.getElem?_eq_some_iff.mp hj).1 l
    rw [(List.getElem?_eq_some_iff.mp hi).2, (List.getElem?_eq_some_iff.mp hj).2] at this
    omega
  · exact l
  · have := List.pairwise_iff_getElem.mp h j i (List.getElem?_eq_some_iff.mp hj).1 (List.getElem?_eq_some_iff.mp hi).1 l
    rw [(List.getElem?_eq_some_iff.mp hi).2, (List.getElem?_eq_some_iff.mp hj).2] at this
    omega
theorem nums_of {H : Hp} : ∀ {ys : List V} {L : List (Nat × T)}, TpAll H ys (L.map ldd) → ys.map (fun x => (prK H x).1) = L.map fun p => ((p.1 : Nat) : Int)
  | [], [], _ => rfl
  | _, [], h => by cases h; rfl
  | _, p :: L, h => by
    cases h with
    | cons h t =>
      obtain ⟨a, u, rfl, ha, _⟩ := ldd_inv h
      rw [List.map_cons, List.map_cons, nums_of t, prK_of ha]
theorem lot_sorted {H : Hp} {xs ys : List V} {L : List (Nat × T)} (h : L.Pairwise fun x y => x.1 < y.1) (t : TpAll H xs (L.map ldd)) (p : ys.Perm xs) (hs : SrtO.Srtd (fun x y => HT.lexLt (kxI H x) (kxI H y)) ys) : TpAll H ys (L.map ldd) := by
  obtain ⟨L', p1, t1⟩ := TpAll.perm p t
  have s1 : (ys.map fun x => (prK H x).1).Pairwise fun x y => x ≤ y := by
    rw [List.pairwise_map]
    refine hs.imp fun {x y} z => ?_
    have z : HT.lexLt (kxI H y) (kxI H x) = false := z
    unfold kxI at z
    rw [HT.lexLt_cons] at z
    by_cases e : (prK H y).1 = (prK H x).1
    · omega
    · rw [if_neg e] at z
      have := of_decide_eq_false z
      omega
  rw [nums_of t1, List.pairwise_map] at s1
  have nd : (L'.map (·.1)).Nodup := (p1.map (·.1)).nodup_iff.mpr (List.pairwise_map.mpr (h.imp fun {x y} z e => by omega))
  have nd2 : L'.Pairwise fun x y => x.1 ≠ y.1 := List.pairwise_map.mp nd
  have s2 : L'.Pairwise fun x y => (decide (x.1 < y.1)) = true := (s1.and nd2).imp fun {x y} z => decide_eq_true (by have := z.1; have := z.2; omega)
  have s3 : L.Pairwise fun x y => (decide (x.1 < y.1)) = true := h.imp fun {x y} z => decide_eq_true z
  rw [← sorted_one (lt := fun x y : Nat × T => decide (x.1 < y.1)) (fun {x y} z => by have := of_decide_eq_true z; exact decide_eq_false (by omega)) p1 s2 s3]
  exact t1
theorem eqv_lot : ∀ L : List (Nat × T), PyData.eqvAll (L.map ldd) (L.map ldd) = true
  | [] => by simp [PyData.eqvAll]
  | p :: L => by
    rw [List.map_cons, PyData.eqvAll, eqv_lot L, ldd]
    simp [PyData.eqv, PyData.eqvAll, eqvT]
theorem sh_ldd {p : Nat × T} (h : Okb 12 p.2) : Sh 15 (ldd p) := Sh.tuple fun d hd => by
  rcases List.mem_cons.mp hd with rfl | hd
  · exact Sh.int _
  · rw [List.mem_singleton.mp hd]; exact h.sh.mono (by decide)
/-- a lot between two bushes -/
structure LotOk (b o : T) (L : List (Nat × T)) : Prop where
  eq : L = lotFrom 0 (partsAt b o)
  top : isTop b o = true
theorem LotOk.num {b o : T} {L : List (Nat × T)} (h : LotOk b o L) (hb : Okb 12 b) (ho : Okb 12 o) : ∀ p ∈ L, p.1 < tips b ∧ Okb 12 p.2 ∧ p.2 ≠ .tip := fun p hp => by
  rw [h.eq] at hp
  obtain ⟨_, h2, h3, h4⟩ := mem_lotFrom hp
  rw [partsAt_len b o h.top] at h2
  exact ⟨by omega, Okb.part h.top ho h3, h4⟩
theorem LotOk.sorted {b o : T} {L : List (Nat × T)} (h : LotOk b o L) : L.Pairwise fun x y => x.1 < y.1 := by rw [h.eq]; exact lotFrom_sorted
theorem LotOk.len {b o : T} {L : List (Nat × T)} (h : LotOk b o L) (hb : Okb 12 b) : L.length ≤ 61 := by
  rw [h.eq]
  have h1 := lotFrom_len (ps := partsAt b o) (i := 0)
  have h2 := partsAt_len b o h.top
  have h3 := tips_small hb
  omega
theorem LotOk.knots {b o : T} {L : List (Nat × T)} (h : LotOk b o L) : knots b + knotsL (L.map (·.2)) = knots o := by
  rw [h.eq, knots_lotFrom]
  exact knots_parts b o h.top
end Tw
set_option Elab.async false
set_option linter.all false
set_option maxRecDepth 100000
set_option maxHeartbeats 4000000
namespace Tw
open PySem PySem.Spec PyProof.Rows L2
/-! ### _law_lot_right -/
def spLotRight : Sp := fun vs H Q _ => ∃ (x y : V) (b o : T), vs = [x, y] ∧ Good H x b ∧ Good H y o ∧ ∀ H', Same H H' → Q (.bl true) H'
theorem knotsL_revM (L : List (Nat × T)) : knotsL (L.reverse.map (·.2)) = knotsL (L.map (·.2)) := by
  rw [List.map_reverse, knotsL_rev]
abbrev N_law_lot_right : List Str := ["_law_bush_here", "_law_other", "_law_lot", "_law_roads", "_law_made", "_law_number", "_law_part", "_law_pair"]
theorem sc_law_lot_right : FnScope N_law_lot_right ["_law_bush_here", "_law_other"] (defScope (top 58)) := ⟨rfl, rfl, rfl, by decide +kernel, rfl, by decide +kernel, by decide +kernel⟩
theorem hi_law_lot_right {K : PySem.W.Frag} {mg : Str → Option Value} (T : Txt K mg) : ∃ f fd, FunD K "_law_lot_right" "_law_lot_right" (defArgs (top 58)) (defBody (top 58)) (defScope (top 58)) [] [] f fd ∧ mg "_law_lot_right" = some (.ref f) := T.df "_law_lot_right" 58 (by decide)
section
variable {P : Program} {w : World} {K : PySem.W.Frag} {mg : Str → Option Value} {base : Heap}
theorem ok_law_lot_right (T : Txt K mg) (clot_between : Cal P w K mg base 15 "lot_between" (spLot K)) (cis_top : Cal P w K mg base 15 "is_top" (spIsTop K)) (c_law_tips : Cal P w K mg base 2 "_law_tips" spLTips) (c_law_put : Cal P w K mg base 30 "_law_put" (spLPut 16)) (cgrafted : Cal P w K mg base 32 "grafted" spGrafted) : Cal P w K mg base (40 + 1) "_law_lot_right" (spLotRight) := by
  refine cal_nox (hi_law_lot_right T) sc_law_lot_right (fun _ _ _ _ _ _ us hl => match us, hl with | [_, _], _ => rfl) (fun vs H Q E h => ?_) (fun f cdv A outer s H vs Q E hr h => ?_)
  · obtain ⟨_, _, _, _, rfl, _⟩ := h; rfl
  refine ⟨_, (pss_cons (ps_set (i := 2) sc_law_lot_right.nd rfl (Or.inl rfl) (pe_cl clot_between hr (by omega) rfl (pa_cons (pv 0) (pa_cons (pv 1) pa_nil))))
      (pss_cons (ps_if (pt_cmp (pc_isN (pv 2)) rfl) (pss_one (ps_ret (pe_not (pe_cl cis_top hr (by omega) rfl (pa_cons (pv 0) (pa_cons (pv 1) pa_nil)))))) pss_nil)
      (pss_cons (ps_set (i := 3) sc_law_lot_right.nd rfl (Or.inl rfl) (pe_cl c_law_tips hr (by omega) rfl (pa_cons (pv 0) pa_nil)))
      (pss_cons (ps_set (i := 4) sc_law_lot_right.nd rfl (Or.inl rfl) (pv 0))
      (pss_cons (ps_for PassesOwn.never rfl (pi_tup (pv 2)) (pg_tup rfl (pgs_cons (pg_name (i := 5) sc_law_lot_right.nd rfl (Or.inl rfl)) (pgs_cons (pg_name (i := 6) sc_law_lot_right.nd rfl (Or.inl rfl)) pgs_nil))) (pss_one (ps_set (i := 4) sc_law_lot_right.nd rfl (Or.inl rfl) (pe_cl c_law_put hr (by omega) rfl (pa_cons (pv 4) (pa_cons (pe_ix ix_list (pv 3) (pv 5) (fun _ _ => rfl)) (pa_cons (pv 6) pa_nil)))))))
      (pss_cons (ps_if (PW.pt (pw_or (pt_neL hr.units (pe_lc (own := [("_law_pair", 7)]) rfl sc_law_lot_right.nd (pi_tup (pv 2)) (blkOk_by (own := [("_law_pair", 7)]) (N := N_law_lot_right) (sc := defScope (top 58)) (by decide +kernel)) (fun _ _ _ _ _ => (pg_name (i := 7) sc_law_lot_right.nd rfl (Or.inl rfl))) (fun _ _ _ _ _ => (pts_one (pt_eq0 hr.units (pe_ix (r := rIxT K) (by exact ix_tup) (pv 7) pe_int (fun _ _ => rfl))))) (fun _ _ _ _ _ => (pv 7)))) (pw_or (pt_cmpR (op_neD hr.units) (pe_callTy call_list_of (by rfl) (T.fr "list" (by simp)) (by decide +kernel) (pa_cons (pv 2) pa_nil)) (pe_callB (cr_sortedPr hr.units) (by rfl) (T.fr "sorted" (by simp)) (by decide +kernel) (pa_cons (pv 2) pa_nil)) (nomark _)) (pw_or1 (pt_cmpR (op_neD hr.units) (pv 4) (pv 1) (nomark _)))))) (pss_one (ps_ret pe_bl)) pss_nil)
      (pss_one (ps_ret (pe_or (pe_cmpR op_gt (pe_callB call_len_seq (by rfl) (T.fr "len" (by simp)) (by decide +kernel) (pa_cons (pv 2) pa_nil)) pe_int (nomark _)) (pe_one (pe_cmpR (op_eqD hr.units) (pe_cl cgrafted hr (by omega) rfl (pa_cons (pv 0) (pa_cons (pe_down (pv 2) po_none) pa_nil))) (pv 1) (nomark _)))))))))))), ?_⟩
  obtain ⟨x, y, b, o, rfl, gb, go, q⟩ := h
  refine ⟨_, rfl, _, rfl, x, y, rfl, .inl ⟨b, o, gb, go, fun lv H1 s1 tl => ?_⟩⟩
  unfold lotO' at tl
  by_cases ht : isTop b o = true
  rotate_left
  · rw [if_neg ht] at tl
    have e : lv = .non := by cases tl; rfl
    subst e
    refine ⟨_, rfl, _, rfl, it1 ?_⟩
    refine ⟨_, rfl, _, rfl, x, y, rfl, .inl ⟨b, o, gb.same s1, go.same s1, fun H2 s2 => ?_⟩⟩
    have e : isTop b o = false := by cases h : isTop b o with
      | true => exact absurd h ht
      | false => rfl
    exact ⟨false, congrArg V.bl e, q H2 (s1.trans s2)⟩
  rw [if_pos ht] at tl
  have lok : LotOk b o (lotFrom 0 (partsAt b o)) := ⟨rfl, ht⟩
  have hmade := made_lot ht
  have hgraft := graft_lot ht
  generalize lotFrom 0 (partsAt b o) = L at tl lok hmade hgraft
  obtain ⟨la, xs, rfl, hla, txs⟩ := lotd_inv tl
  have hxl : xs.length = L.length := by rw [txs.len, List.length_map]
  have hL61 := lok.len gb.ok
  refine ⟨_, rfl, _, rfl, it0 ?_⟩
  refine ⟨_, rfl, _, _, rfl, gb.same s1, fun rp H2 s2 ⟨rxs, hrx, trx⟩ => ⟨_, rfl, ?_⟩⟩
  replace hla := s2 _ _ hla
  replace txs := TpAll.same txs s2
  replace gb := (gb.same s1).same s2
  replace go := (go.same s1).same s2
  replace q := fun H' (s : Same H2 H') => q H' ((s1.trans s2).trans s)
  clear s1 s2 tl
  refine ⟨_, rfl, la, rfl, ⟨_, SqT.of hla⟩, ?_⟩
  refine for_tup (K := K) (a := la) (xs := xs) (fun i σ H3 => Same H2 H3 ∧ ∃ (mv : V) (cur : Tw.T) (qs : List Tw.T) (nu pa : Option V), σ = [some x, some y, some (.ref la), some (.ref rp), some mv, nu, pa, none] ∧ Tr H3 mv cur ∧ wf cur = true ∧ qs.length = tips b ∧ cur = fill b qs ∧ (L.drop i).foldl (putLot (tipRoads b)) cur = o) ⟨Same.refl _, x, b, List.replicate (tips b) .tip, none, none, rfl, gb.tr, gb.ok.wf, List.length_replicate, (fill_tips b).symm, hmade⟩ (fun i σ H3 _ z => SqT.of (z.1 _ _ hla)) ?_ ?_
  · rintro i v σ H3 hv ⟨s3, mv, cur, qs, nu, pa, rfl, tm, wm, hq, hcur, hfold⟩
    obtain ⟨p, hp⟩ : ∃ p, L[i]? = some p := ⟨_, List.getElem?_eq_getElem (by rw [← hxl]; exact (List.getElem?_eq_some_iff.mp hv).1)⟩
    obtain ⟨ap, u, rfl, hap, tu⟩ := ldd_inv ((g_val txs hv hp).same s3)
    obtain ⟨n1, n2, n3⟩ := lok.num gb.ok go.ok p (List.mem_of_getElem? hp)
    obtain ⟨r, hr⟩ : ∃ r, (tipRoads b)[p.1]? = some r := ⟨_, List.getElem?_eq_getElem (by rw [tipRoads_len]; exact n1)⟩
    obtain ⟨rv, hrv, trv⟩ := trx.get (i := p.1) (d := rd r) (by rw [List.getElem?_map, hr]; rfl)
    have hpart : partAt cur r = some (qs[p.1]'(by omega)) := by
      rw [hcur, part_fill b qs p.1 r hr hq]
      exact List.getElem?_eq_getElem (by omega)
    have hrle := tipRoad_le hr
    have hfb := gb.ok.few
    refine ⟨ap, [.int (p.1 : Nat), u], rfl, SqT.of hap, rfl, _, [u], rfl, u, [], rfl, rfl, ?_⟩
    refine ⟨_, rfl, _, rfl, _, rfl, rp, rxs, _, rv, rfl, rfl, SqL.of (s3 _ _ hrx), atI_nat hrv, _, rfl, mv, rv, u, cur, _, p.2, r, rfl, tm, wm, trv.same s3, tu, hpart, by omega, fun nv H4 s4 tn => ?_⟩
    refine ⟨s3.trans s4, nv, put cur r p.2, qs.set p.1 p.2, _, _, rfl, tn, wf_put r cur p.2 wm n2.wf, by rw [List.length_set]; exact hq, ?_, ?_⟩
    · rw [hcur]; exact put_fill b qs p.1 r p.2 hr hq
    · rw [drop_get hp, List.foldl_cons] at hfold
      have e : putLot (tipRoads b) cur p = put cur r p.2 := by
        unfold putLot
        rw [List.getD_eq_getElem?_getD, hr, Option.getD_some]
      rw [e] at hfold
      exact hfold
  · rintro σ H3 ⟨s3, mv, cur, qs, nu, pa, rfl, tm, wm, hq, hcur, hfold⟩
    rw [hxl, List.drop_length, List.foldl_nil] at hfold
    subst hfold
    clear hcur hq qs hmade
    replace hla := s3 _ _ hla
    replace txs := TpAll.same txs s3
    replace gb := gb.same s3
    replace go := go.same s3
    replace q := fun H' (s : Same H3 H') => q H' (s3.trans s)
    have hz : L.length ≤ sizeLine := sz_small (by omega)
    refine ⟨_, rfl, la, rfl, ⟨_, SqT.of hla⟩, fun D hD => ?_⟩
    refine lc_tupF (K := K) (a := la) (xs := xs) (j := 7) (ds := L.map fun _ => none) hla (by rw [hxl, List.length_map]) (by rw [List.length_map]; exact hz) hD (fun i v dd H4 Q' hv hd s4 k => ?_) (fun i v dd H4 Q' hv hd s4 k => ?_) (fun H4 acc s4 hacc hall => ?_)
    · obtain ⟨p, hp, rfl⟩ := g_get hd
      obtain ⟨ap, u, rfl, hap, tu⟩ := ldd_inv ((g_val txs hv hp).same s4)
      obtain ⟨n1, n2, n3⟩ := lok.num gb.ok go.ok p (List.mem_of_getElem? hp)
      refine ⟨_, rfl, ap, _, 1, u, rfl, rfl, SqT.of hap, atI_nat (j := 1) rfl, td p.2, tu, n2.sh.mono (by decide), fun H5 s5 => ?_⟩
      rw [eqv_tip, decide_eq_false n3]
      exact k H5 s5
    · obtain ⟨p, hp, e⟩ := g_get hd
      cases e
    have hk0 : keptD (L.map fun _ => none) = [] := by
      unfold keptD
      rw [List.filterMap_map]
      exact List.filterMap_eq_nil_iff.mpr fun _ _ => rfl
    rw [hk0] at hall
    have e0 : acc = [] := by cases hall; rfl
    subst e0
    refine ⟨D, [], [], rfl, hacc, .nil, fun d hd => (by cases hd), fun H5 s5 => ?_⟩
    have s45 := s4.trans s5
    replace hla := s45 _ _ hla
    replace txs := TpAll.same txs s45
    replace gb := gb.same s45
    replace go := go.same s45
    replace tm := tm.same s45
    replace q := fun H' (s : Same H5 H') => q H' (s45.trans s)
    clear hacc hall s4 s5 s45 hD
    refine it0 ⟨_, rfl, la, xs, rfl, .inr (SqT.of hla), fun l1 hl1 => ?_⟩
    have s6 := same_new hl1 (.lst xs)
    have l6 : upd H5 l1 (.lst xs) l1 = some (.lst xs) := upd_same
    have a6 := s6 _ _ hla
    have t6 := TpAll.same txs s6
    have hitem : ∀ v ∈ xs, ∃ (i : Nat) (p : Nat × Tw.T), xs[i]? = some v ∧ L[i]? = some p ∧ ∃ (t a : Addr), v = V.ref t ∧ upd H5 l1 (.lst xs) t = some (.tup [.int (p.1 : Nat), .ref a]) := fun v hv => by
      obtain ⟨i, hi⟩ := List.getElem?_of_mem hv
      obtain ⟨p, hp⟩ : ∃ p, L[i]? = some p := ⟨_, List.getElem?_eq_getElem (by rw [← hxl]; exact (List.getElem?_eq_some_iff.mp hi).1)⟩
      obtain ⟨ap, u, rfl, hap, tu⟩ := ldd_inv (g_val t6 hi hp)
      obtain ⟨a, _, rfl, _⟩ := tu.inv
      exact ⟨i, p, hi, hp, ap, a, rfl, hap⟩
    refine ⟨_, rfl, la, xs, rfl, .inr (SqT.of a6), fun v hv => ?_, fun v hv w hw e => .inl ?_, fun ys p hpy hsy hpn => ?_⟩
    · obtain ⟨i, p, hi, hp, t, a, e1, e2⟩ := hitem v hv
      exact ⟨t, _, a, e1, e2⟩
    · obtain ⟨i, p, hi, hp, t, a, rfl, e2⟩ := hitem v hv
      obtain ⟨i', p', hi', hp', t', a', rfl, e2'⟩ := hitem w hw
      rw [prK_of e2, prK_of e2'] at e
      have e3 : i = i' := lot_inj lok.sorted hp hp' (by dsimp only at e; omega)
      subst e3
      rw [hi] at hi'
      cases hi'
      rfl
    have t7 := lot_sorted lok.sorted t6 hpy hsy
    have s7 := same_new hpn (.lst ys)
    have hsh : SeqAt.shaped (.list (L.map ldd)) = true := (Sh.list (n := 15) fun d hd => by
      obtain ⟨p, hp, rfl⟩ := List.mem_map.mp hd
      exact sh_ldd (lok.num gb.ok go.ok p hp).2.1).ok (by decide)
    refine ⟨.list (L.map ldd), .list (L.map ldd), .lst (SqL.of (s7 _ _ l6)) (TpAll.dp (TpAll.same t6 s7)), .lst (SqL.of upd_same) (TpAll.dp (TpAll.same t7 s7)), hsh, hsh, _, rfl, ?_⟩
    rw [PyData.eqv, eqv_lot]
    have s57 := s6.trans s7
    have hso : SeqAt.shaped (td cur) = true := go.ok.sh.ok (by decide)
    refine it0 ⟨_, rfl, _, rfl, td cur, td cur, (tm.same s57).dp, (go.tr.same s57).dp, hso, hso, _, rfl, ?_⟩
    rw [eqvT, decide_eq_true rfl]
    replace hla := s57 _ _ hla
    replace txs := TpAll.same txs s57
    refine it0 ⟨_, rfl, la, xs, rfl, .inr (SqT.of hla), _, _, rfl, rfl, _, rfl, itb (fun h12 => ?_) (fun h12 => ?_)⟩
    · exact q _ s57
    have h12 := of_decide_eq_false h12
    refine ⟨_, rfl, _, rfl, la, xs, 0, rfl, hla, .inl ⟨rfl, rfl⟩, fun p8 H8 s8 e8 => ?_⟩
    rw [List.drop_zero] at e8
    have s58 := s57.trans s8
    have hkn := lok.knots
    have hfo := go.ok.few
    refine ⟨_, _, b, cur, L.reverse, rfl, gb.same s58, ?_, ⟨by rw [List.length_reverse]; omega, fun p hp => ?_, by rw [knotsL_revM]; omega⟩, by rw [knotsL_revM]; omega, hgraft, fun nv H9 s9 tn => ?_⟩
    · refine .tup e8 ?_
      rw [List.map_reverse]
      exact TpAll.rev (TpAll.same txs s8)
    · obtain ⟨n1, n2, n3⟩ := lok.num gb.ok go.ok p (List.mem_reverse.mp hp)
      have := tips_small gb.ok
      exact ⟨by omega, n2⟩
    refine ⟨_, rfl, td cur, td cur, tn.dp, (go.tr.same (s58.trans s9)).dp, hso, hso, ?_⟩
    rw [eqvT, decide_eq_true rfl]
    exact q H9 (s58.trans s9)
end

end Tw
set_option Elab.async false
set_option linter.all false
set_option maxRecDepth 100000
set_option maxHeartbeats 4000000
namespace Tw
open PySem PySem.Spec PyProof.Rows L2
/-! ### what is raised where nothing is handled: its context is None -/
structure CalN (P : Program) (w : World) (K : PySem.W.Frag) (mg : Str → Option Value) (base : Heap) (k : Nat) (x : Str) (sp : Sp) : Prop where
  ex : ∃ (f : Addr) (fd : FuncData) (ps : List Str), FnOk P w K mg base (L2N.CX P w) k f fd ps sp ∧ mg x = some (.ref f) ∧ PySem.W.keepIn K (.ref f) = true ∧ Binds K fd ps []
section
variable {P : Program} {w : World} {K : PySem.W.Frag} {mg : Str → Option Value} {base : Heap} {k : Nat} {x : Str} {sp : Sp}
theorem caln_of {i : Nat} {N ps : List Str} (hi : ∃ f fd, FunD K x x (defArgs (top i)) (defBody (top i)) (defScope (top i)) [] [] f fd ∧ mg x = some (.ref f)) (S : FnScope N ps (defScope (top i)))
    (hb : ∀ (kV doc pm : Value) (an : Option Addr) (cdv ct : Value) (us : List Value), us.length = ps.length → bindArgs (PySem.W.fnOf x x (defArgs (top i)) (defBody (top i)) (defScope (top i)) .none kV doc pm an cdv ct) ⟨us, []⟩ = pure (ps.zip us))
    (len : ∀ vs H Q E, sp vs H Q E → vs.length = ps.length)
    (hbody : ∀ (f : Addr) (cdv : Value) (A : Around) (outer : List Env) (s : Shared) (H : Hp) (vs : List V) (Q : VK) (E : XK), Room k (A.deeper (envOfC x (defScope (top i)) s.heap.objs.size f cdv)) → sp vs H Q E →
      ∃ t, PSs (cxOf (L2N.CX P w) P w K mg base N x (defScope (top i)) f cdv A outer s H E) (defBody (top i)) t ∧ t { nx := fun _ H' => Q .non H', rt := Q } (start N vs) H) : CalN P w K mg base (k + 1) x sp := by
  obtain ⟨f, fd, F, m⟩ := hi
  exact ⟨f, fd, ps, F.ok S len fun cdv A outer s H vs Q E hr hq => hbody f cdv A outer s H vs Q E hr hq, m, F.kp, F.bindsN hb⟩
end
section
variable {X : Cx} {k j : Nat} {x : Str} {sp : Sp} {p pos : Pos} {e : Expr} {es : List Expr} {t : TA}
theorem pe_clN {E : XK} (c : CalN X.prog X.w X.K X.mg X.base k x sp) (hr : Room j X.A) (hk : k ≤ j) (hx : Passes (L2N.CX X.prog X.w) X E) (hg : Gl X x) (ha : PA X (e :: es) t)
    (hdb : (x == ("__debug__" : Str)) = false := by decide) (he : starEach (e :: es) X.env = (false, eval e X.env) :: starEach es X.env := by rfl) (hpl : (backTo pos (starEach es X.env)).any (·.1) = false := by rfl) :
    PE X (.Call (.Name x p) (e :: es) [] pos) (tCall sp [] E t) := by
  obtain ⟨f, fd, ps, F, hm, kp, b⟩ := c.ex
  exact pe_call F (hr.mono hk) hg hm kp b .nil hx ha hdb he hpl
end
/-- no two bushes: a promise of the raising alone -/
def NotTwo (H : Hp) (x y : V) : Prop := Bad H x ∨ ((∃ b, Good H x b) ∧ Bad H y)
theorem NotTwo.same {H H' : Hp} {x y : V} (h : NotTwo H x y) (s : Same H H') : NotTwo H' x y := by
  rcases h with h | ⟨⟨b, h1⟩, h2⟩
  · exact .inl (h.same s)
  · exact .inr ⟨⟨b, h1.same s⟩, h2.same s⟩
def spNo2 (K : PySem.W.Frag) : Sp := fun vs H _ E => ∃ (x y : V), vs = [x, y] ∧ NotTwo H x y ∧ ∀ H', Same H H' → E (.ref (cB K)) none H'
def spNo1 (K : PySem.W.Frag) : Sp := fun vs H _ E => ∃ (x : V), vs = [x] ∧ Bad H x ∧ ∀ H', Same H H' → E (.ref (cB K)) none H'
section
variable {P : Program} {w : World} {K : PySem.W.Frag} {mg : Str → Option Value} {base : Heap}
theorem n_need_bush (T : Txt K mg) (B : TxtB K mg) (cfits_bush : Cal P w K mg base 3 "fits_bush" spFitsBush) : CalN P w K mg base (3 + 1) "need_bush" (spNeedBush K) := by
  refine caln_of (hineed_bush T) scneed_bush (fun _ _ _ _ _ _ us hl => match us, hl with | [_], _ => rfl) (fun vs H Q E h => ?_) (fun f cdv A outer s H vs Q E hr h => ?_)
  · obtain ⟨_, rfl, _⟩ := h; rfl
  refine ⟨_, (pss_one (ps_if (pt_not (pt_val (pe_cl cfits_bush hr (by omega) rfl (pa_cons (pv 0) pa_nil)))) (pss_one (L2N.ps_raise rfl (L2N.takes_of rfl rfl rfl rfl) (L2N.pmk_own PySem.F.excBase_ValueError B.x B.g B.k (raises_own B.b B.t) rfl))) pss_nil)), ?_⟩
  obtain ⟨x, rfl, q⟩ := h
  rcases q with ⟨t, g, q⟩ | ⟨hb, q⟩
  · exact ⟨_, rfl, _, rfl, .inl ⟨t, g.tr, g.ok.wf, g.size.1, g.size.2, fun H' s => ⟨true, rfl, it0 (q H' s)⟩⟩⟩
  · exact ⟨_, rfl, _, rfl, .inr ⟨hb, fun H' s => ⟨false, rfl, it1 (q H' s)⟩⟩⟩
theorem n_need_both (T : Txt K mg) (cneed_bush : CalN P w K mg base 4 "need_bush" (spNeedBush K)) : CalN P w K mg base (4 + 1) "need_both" (spNo2 K) := by
  refine caln_of (hineed_both T) scneed_both (fun _ _ _ _ _ _ us hl => match us, hl with | [_, _], _ => rfl) (fun vs H Q E h => ?_) (fun f cdv A outer s H vs Q E hr h => ?_)
  · obtain ⟨_, _, rfl, _⟩ := h; rfl
  refine ⟨_, (pss_cons (ps_expr (pe_clN cneed_bush hr (by omega) (L2N.passes_call (L2N.takes_of rfl rfl rfl rfl) (fun _ _ _ _ h => h)) rfl (pa_cons (pv 0) pa_nil)))
      (pss_one (ps_expr (pe_clN cneed_bush hr (by omega) (L2N.passes_call (L2N.takes_of rfl rfl rfl rfl) (fun _ _ _ _ h => h)) rfl (pa_cons (pv 1) pa_nil))))), ?_⟩
  obtain ⟨x, y, rfl, hb | ⟨⟨b, gb⟩, hb⟩, q⟩ := h
  · exact ⟨_, rfl, _, rfl, .inr ⟨hb, q⟩⟩
  · exact ⟨_, rfl, _, rfl, .inl ⟨b, gb, fun H' s => ⟨_, rfl, _, rfl, .inr ⟨hb.same s, fun H2 s2 => q _ (s.trans s2)⟩⟩⟩⟩
theorem n_is_top (T : Txt K mg) (cneed_both : CalN P w K mg base 5 "need_both" (spNo2 K)) : CalN P w K mg base (5 + 1) "is_top" (spNo2 K) := by
  refine caln_of (hiis_top T) scis_top (fun _ _ _ _ _ _ us hl => match us, hl with | [_, _], _ => rfl) (fun vs H Q E h => ?_) (fun f cdv A outer s H vs Q E hr h => ?_)
  · obtain ⟨_, _, rfl, _⟩ := h; rfl
  refine ⟨_, (pss_cons (ps_expr (pe_clN cneed_both hr (by omega) (L2N.passes_call (L2N.takes_of rfl rfl rfl rfl) (fun _ _ _ _ h => h)) rfl (pa_cons (pv 0) (pa_cons (pv 1) pa_nil)))) pss_never), ?_⟩
  obtain ⟨x, y, rfl, hb, q⟩ := h
  exact ⟨_, rfl, _, rfl, _, _, rfl, hb, q⟩
theorem n_lot_between (T : Txt K mg) (cneed_both : CalN P w K mg base 5 "need_both" (spNo2 K)) : CalN P w K mg base (5 + 1) "lot_between" (spNo2 K) := by
  refine caln_of (hilot_between T) sclot_between (fun _ _ _ _ _ _ us hl => match us, hl with | [_, _], _ => rfl) (fun vs H Q E h => ?_) (fun f cdv A outer s H vs Q E hr h => ?_)
  · obtain ⟨_, _, rfl, _⟩ := h; rfl
  refine ⟨_, (pss_cons (ps_expr (pe_clN cneed_both hr (by omega) (L2N.passes_call (L2N.takes_of rfl rfl rfl rfl) (fun _ _ _ _ h => h)) rfl (pa_cons (pv 0) (pa_cons (pv 1) pa_nil)))) pss_never), ?_⟩
  obtain ⟨x, y, rfl, hb, q⟩ := h
  exact ⟨_, rfl, _, rfl, _, _, rfl, hb, q⟩
theorem n_common_top (T : Txt K mg) (cneed_both : CalN P w K mg base 5 "need_both" (spNo2 K)) : CalN P w K mg base (5 + 1) "common_top" (spNo2 K) := by
  refine caln_of (hicommon_top T) sccommon_top (fun _ _ _ _ _ _ us hl => match us, hl with | [_, _], _ => rfl) (fun vs H Q E h => ?_) (fun f cdv A outer s H vs Q E hr h => ?_)
  · obtain ⟨_, _, rfl, _⟩ := h; rfl
  refine ⟨_, (pss_cons (ps_expr (pe_clN cneed_both hr (by omega) (L2N.passes_call (L2N.takes_of rfl rfl rfl rfl) (fun _ _ _ _ h => h)) rfl (pa_cons (pv 0) (pa_cons (pv 1) pa_nil)))) pss_never), ?_⟩
  obtain ⟨x, y, rfl, hb, q⟩ := h
  exact ⟨_, rfl, _, rfl, _, _, rfl, hb, q⟩
theorem n_joined_tops (T : Txt K mg) (cneed_both : CalN P w K mg base 5 "need_both" (spNo2 K)) : CalN P w K mg base (5 + 1) "joined_tops" (spNo2 K) := by
  refine caln_of (hijoined_tops T) scjoined_tops (fun _ _ _ _ _ _ us hl => match us, hl with | [_, _], _ => rfl) (fun vs H Q E h => ?_) (fun f cdv A outer s H vs Q E hr h => ?_)
  · obtain ⟨_, _, rfl, _⟩ := h; rfl
  refine ⟨_, (pss_cons (ps_expr (pe_clN cneed_both hr (by omega) (L2N.passes_call (L2N.takes_of rfl rfl rfl rfl) (fun _ _ _ _ h => h)) rfl (pa_cons (pv 0) (pa_cons (pv 1) pa_nil)))) pss_never), ?_⟩
  obtain ⟨x, y, rfl, hb, q⟩ := h
  exact ⟨_, rfl, _, rfl, _, _, rfl, hb, q⟩
theorem n_clash_road (T : Txt K mg) (cneed_both : CalN P w K mg base 5 "need_both" (spNo2 K)) : CalN P w K mg base (5 + 1) "clash_road" (spNo2 K) := by
  refine caln_of (hiclash_road T) scclash_road (fun _ _ _ _ _ _ us hl => match us, hl with | [_, _], _ => rfl) (fun vs H Q E h => ?_) (fun f cdv A outer s H vs Q E hr h => ?_)
  · obtain ⟨_, _, rfl, _⟩ := h; rfl
  refine ⟨_, (pss_cons (ps_expr (pe_clN cneed_both hr (by omega) (L2N.passes_call (L2N.takes_of rfl rfl rfl rfl) (fun _ _ _ _ h => h)) rfl (pa_cons (pv 0) (pa_cons (pv 1) pa_nil)))) pss_never), ?_⟩
  obtain ⟨x, y, rfl, hb, q⟩ := h
  exact ⟨_, rfl, _, rfl, _, _, rfl, hb, q⟩
theorem n_count_tops (T : Txt K mg) (cneed_bush : CalN P w K mg base 4 "need_bush" (spNeedBush K)) : CalN P w K mg base (4 + 1) "count_tops" (spNo1 K) := by
  refine caln_of (hicount_tops T) sccount_tops (fun _ _ _ _ _ _ us hl => match us, hl with | [_], _ => rfl) (fun vs H Q E h => ?_) (fun f cdv A outer s H vs Q E hr h => ?_)
  · obtain ⟨_, rfl, _⟩ := h; rfl
  refine ⟨_, (pss_cons (ps_expr (pe_clN cneed_bush hr (by omega) (L2N.passes_call (L2N.takes_of rfl rfl rfl rfl) (fun _ _ _ _ h => h)) rfl (pa_cons (pv 0) pa_nil))) pss_never), ?_⟩
  obtain ⟨x, rfl, hb, q⟩ := h
  exact ⟨_, rfl, _, rfl, .inr ⟨hb, q⟩⟩
end
end Tw
set_option Elab.async false
set_option linter.all false
set_option maxRecDepth 100000
set_option maxHeartbeats 4000000
namespace Tw
open PySem PySem.Spec PyProof.Rows L2
/-! ### tops in lists -/
mutual
theorem wf_top : ∀ t b : T, isTop t b = true → wf b = true → wf t = true ∧ knots t ≤ knots b
  | .tip, b, _, _ => ⟨rfl, Nat.zero_le _⟩
  | .kn c bs, .tip, h, _ => by simp [isTop] at h
  | .kn c bs, .kn d es, h, hw => by
    simp only [isTop, Bool.and_eq_true, decide_eq_true_eq] at h
    obtain ⟨h1, h2, h3⟩ := wf_kn.mp hw
    obtain ⟨q1, q2⟩ := wf_topL bs es h.2 (wfL_iff.mpr h3)
    refine ⟨wf_kn.mpr ⟨by rw [h.1]; exact h1, by rw [isTopL_len h.2]; exact h2, wfL_iff.mp q1⟩, ?_⟩
    rw [knots, knots]; omega
theorem wf_topL : ∀ bs es : List T, isTopL bs es = true → wfL es = true → wfL bs = true ∧ knotsL bs ≤ knotsL es
  | [], [], _, _ => ⟨rfl, Nat.le_refl _⟩
  | [], _ :: _, h, _ => by simp [isTopL] at h
  | _ :: _, [], h, _ => by simp [isTopL] at h
  | b :: r, e :: s, h, hw => by
    simp only [isTopL, Bool.and_eq_true] at h
    simp only [wfL, Bool.and_eq_true] at hw
    obtain ⟨q1, q2⟩ := wf_top b e h.1 hw.1
    obtain ⟨q3, q4⟩ := wf_topL r s h.2 hw.2
    refine ⟨by rw [wfL, q1, q3]; rfl, ?_⟩
    rw [knotsL, knotsL]; omega
end
theorem Okb.top {n : Nat} {t b : T} (h : Okb n b) (i : isTop t b = true) : Okb n t := by
  obtain ⟨h1, h2⟩ := wf_top t b i h.wf
  exact ⟨h1, Nat.le_trans h2 h.few⟩
theorem any_tds (b : T) : ∀ ts : List T, ((ts.map td).any fun z => PyData.eqv z (td b)) = decide (b ∈ ts)
  | [] => by simp
  | t :: ts => by
    rw [List.map_cons, List.any_cons, any_tds b ts, eqvT]
    by_cases h : t = b
    · subst h; simp
    · have : ¬ b = t := fun e => h e.symm
      simp [h, this]
theorem LstT.dp {K : PySem.W.Frag} {H : Hp} {p : Addr} {ts : List T} (h : LstT H p ts) : Dp K H (.ref p) (.list (ts.map td)) := by
  obtain ⟨xs, h1, h2⟩ := h
  exact .lst (SqL.of h1) (TpAll.dp h2)
theorem sh_tds {ts : List T} (h : ∀ t ∈ ts, Okb 12 t) : SeqAt.shaped (.list (ts.map td)) = true := (Sh.list (n := 13) fun d hd => by
  obtain ⟨t, ht, rfl⟩ := List.mem_map.mp hd
  exact (h t ht).sh).ok (by decide)
theorem sh_tops {o : T} (h : Okb 12 o) : SeqAt.shaped (.list ((tops o).map td)) = true := sh_tds fun t ht => h.top ((mem_tops o t).mp ht)
theorem sh_one {t : T} (h : Okb 12 t) : SeqAt.shaped (td t) = true := h.sh.ok (by decide)
theorem tops_small {o : T} (h : Okb 12 o) : (tops o).length ≤ 4096 := by
  rw [tops_length]
  exact Nat.le_trans (topsN_le o) (Nat.pow_le_pow_right (by decide) h.few)
/-- those of one that are the other's, too -/
def bothT (b o : T) : List T := (tops b).filter fun t => decide (t ∈ tops o)
theorem mem_both {b o t : T} : t ∈ bothT b o ↔ isTop t b = true ∧ isTop t o = true := by
  unfold bothT
  rw [List.mem_filter, decide_eq_true_eq, mem_tops, mem_tops]
theorem met_both (b o : T) : met b o ∈ bothT b o := mem_both.mpr ⟨met_left b o, met_right b o⟩
theorem both_met {b o t : T} (h : t ∈ bothT b o) : t ∈ tops (met b o) := by
  obtain ⟨h1, h2⟩ := mem_both.mp h
  exact (mem_tops _ _).mpr (met_most t b o h1 h2)
theorem kept_filter (p : T → Bool) : ∀ ts : List T, keptD (ts.map fun t => if p t = true then some (td t) else none) = (ts.filter p).map td
  | [] => rfl
  | t :: ts => by
    have ih := kept_filter p ts
    unfold keptD at ih ⊢
    rw [List.map_cons, List.filterMap_cons, List.filter_cons]
    by_cases h : p t = true
    · rw [if_pos h, if_pos h, List.map_cons]
      show td t :: _ = _
      rw [ih]
    · rw [if_neg h, if_neg h]
      exact ih
theorem Good.top {H : Hp} {v : V} {t : T} {b : T} (g : Tr H v t) (h : Okb 12 b) (i : isTop t b = true) : Good H v t := ⟨g, h.top i⟩
theorem sh_optd (r : Option R) : SeqAt.shaped (optd r) = true := by
  cases r with
  | none => exact (Sh.none (n := 0)).ok (by decide)
  | some r => exact (sh_rd r).ok (by decide)
theorem eqv_optd : ∀ r : Option R, PyData.eqv (optd r) (optd r) = true
  | none => by simp [optd, PyData.eqv]
  | some r => by
    show PyData.eqv (rd r) (rd r) = true
    rw [eqv_rd]; simp
theorem optd_none {H : Hp} {v : V} {r : Option R} (h : Tp H v (optd r)) : decide (v = .non) = r.isNone := by
  cases r with
  | none => cases h; rfl
  | some r =>
    obtain ⟨a, rfl, _⟩ := Rd'.inv h
    exact decide_eq_false (by intro z; cases z)
theorem knots_join {b o : T} (h : agree b o = true) : knots (joined b o) ≤ knots b + knots o := by
  have := knots_both b o h
  omega
end Tw
set_option Elab.async false
set_option linter.all false
set_option maxRecDepth 100000
set_option maxHeartbeats 4000000
namespace Tw
open PySem PySem.Spec PyProof.Rows L2
/-! ### _law_right -/
def spRight : Sp := fun vs H Q _ => ∃ (x y : V) (b o : T), vs = [x, y] ∧ Good H x b ∧ Good H y o ∧ knots b + knots o ≤ 12 ∧ ∀ H', Same H H' → Q (.bl true) H'
abbrev N_law_right : List Str := ["_law_bush_here", "_law_other", "_law_tops_here", "_law_more", "_law_both", "_law_met", "_law_road", "_law_joined", "_law_top"]
theorem sc_law_right : FnScope N_law_right ["_law_bush_here", "_law_other"] (defScope (top 59)) := ⟨rfl, rfl, rfl, by decide +kernel, rfl, by decide +kernel, by decide +kernel⟩
theorem hi_law_right {K : PySem.W.Frag} {mg : Str → Option Value} (T : Txt K mg) : ∃ f fd, FunD K "_law_right" "_law_right" (defArgs (top 59)) (defBody (top 59)) (defScope (top 59)) [] [] f fd ∧ mg "_law_right" = some (.ref f) := T.df "_law_right" 59 (by decide)
section
variable {P : Program} {w : World} {K : PySem.W.Frag} {mg : Str → Option Value} {base : Heap}
theorem ok_law_right (T : Txt K mg) (c_law_tops : Cal P w K mg base 30 "_law_tops" (spLTops 16)) (ccount_tops : Cal P w K mg base 15 "count_tops" (spCountTops K)) (cis_top : Cal P w K mg base 15 "is_top" (spIsTop K)) (ccommon_top : Cal P w K mg base 15 "common_top" (spCommon K)) (cclash_road : Cal P w K mg base 15 "clash_road" (spRoad K)) (cjoined_tops : Cal P w K mg base 15 "joined_tops" (spJoin K)) (c_law_clash : Cal P w K mg base 2 "_law_clash" spLClash) (c_law_knots : Cal P w K mg base 2 "_law_knots" spLKnots) (c_law_lot_right : Cal P w K mg base 41 "_law_lot_right" spLotRight) : Cal P w K mg base (50 + 1) "_law_right" (spRight) := by
  refine cal_nox (hi_law_right T) sc_law_right (fun _ _ _ _ _ _ us hl => match us, hl with | [_, _], _ => rfl) (fun vs H Q E h => ?_) (fun f cdv A outer s H vs Q E hr h => ?_)
  · obtain ⟨_, _, _, _, rfl, _⟩ := h; rfl
  refine ⟨_, (pss_cons (ps_asg (pe_tup (pa_cons (pe_cl c_law_tops hr (by omega) rfl (pa_cons (pv 0) pa_nil)) (pa_cons (pe_cl c_law_tops hr (by omega) rfl (pa_cons (pv 1) pa_nil)) pa_nil))) (pg_tup rfl (pgs_cons (pg_name (i := 2) sc_law_right.nd rfl (Or.inl rfl)) (pgs_cons (pg_name (i := 3) sc_law_right.nd rfl (Or.inr rfl)) pgs_nil))))
      (pss_cons (ps_if (PW.pt (pw_or (pt_cmpR op_ne (pe_cl ccount_tops hr (by omega) rfl (pa_cons (pv 0) pa_nil)) (pe_callB call_len_seq (by rfl) (T.fr "len" (by simp)) (by decide +kernel) (pa_cons (pv 2) pa_nil)) (nomark _)) (pw_or (pt_cmpR op_ne (pe_cl cis_top hr (by omega) rfl (pa_cons (pv 0) (pa_cons (pv 1) pa_nil))) (pe_cmpR (op_inD (hu65 hr)) (pv 0) (pv 3) (by rfl)) (nomark _)) (pw_or1 (pt_cmpR op_ne (pe_cl cis_top hr (by omega) rfl (pa_cons (pv 1) (pa_cons (pv 0) pa_nil))) (pe_cmpR (op_inD (hu65 hr)) (pv 1) (pv 2) (by rfl)) (nomark _)))))) (pss_one (ps_ret pe_bl)) pss_nil)
      (pss_cons (ps_setLc (i := 4) (own := [("_law_top", 8)]) rfl sc_law_right.nd rfl rfl (sw_true rfl rfl rfl (by decide +kernel)) (pi_list (pv 2)) (blkOk_by (own := [("_law_top", 8)]) (N := N_law_right) (sc := defScope (top 59)) (by decide +kernel)) (fun _ _ _ _ _ => (pg_name (i := 8) sc_law_right.nd rfl (Or.inl rfl))) (fun _ _ _ _ _ => (pts_one (pt_cmpR (r := rInD K) (by exact op_inD (hu65 hr)) (pv 8) (pv 3) (by rfl)))) (fun _ _ _ _ _ => (pv 8)))
      (pss_cons (ps_set (i := 5) sc_law_right.nd rfl (Or.inr rfl) (pe_cl ccommon_top hr (by omega) rfl (pa_cons (pv 0) (pa_cons (pv 1) pa_nil))))
      (pss_cons (ps_if (PW.pt (pw_or (pt_cmpR (op_notInD (hu65 hr)) (pv 5) (pv 4) (by rfl)) (pw_or1 (pt_neL hr.units (pe_lc (own := [("_law_top", 8)]) rfl sc_law_right.nd (pi_list (pv 4)) (blkOk_by (own := [("_law_top", 8)]) (N := N_law_right) (sc := defScope (top 59)) (by decide +kernel)) (fun _ _ _ _ _ => (pg_name (i := 8) sc_law_right.nd rfl (Or.inl rfl))) (fun _ _ _ _ _ => (pts_one (pt_cmpR (r := rNotInD K) (by exact op_notInD (hu65 hr)) (pv 8) (pe_cl c_law_tops hr (by omega) rfl (pa_cons (pv 5) pa_nil)) (by rfl)))) (fun _ _ _ _ _ => (pv 8))))))) (pss_one (ps_ret pe_bl)) pss_nil)
      (pss_cons (ps_par (i := 6) (j := 7) (by rfl) sc_law_right.nd rfl rfl (by decide) rfl rfl (pa_cons (pe_cl cclash_road hr (by omega) rfl (pa_cons (pv 0) (pa_cons (pv 1) pa_nil))) (pa_cons (pe_cl cjoined_tops hr (by omega) rfl (pa_cons (pv 0) (pa_cons (pv 1) pa_nil))) pa_nil)) (by rfl))
      (pss_cons (ps_if (PW.pt (pw_or (pt_cmpR (op_neD hr.units) (pv 6) (pe_cl c_law_clash hr (by omega) rfl (pa_cons (pv 0) (pa_cons (pv 1) pa_nil))) (nomark _)) (pw_or1 (pt_cmpR op_ne (pe_cmp (pc_isN (pv 7)) rfl) (pe_cmp (pc_notN (pv 6)) rfl) (nomark _))))) (pss_one (ps_ret pe_bl)) pss_nil)
      (pss_cons (ps_if (pt_cmp (pc_notN (pv 7)) rfl) (pss_cons (ps_if (PW.pt (pw_or (pt_cmpR (op_notInD (hu65 hr)) (pv 0) (pe_cl c_law_tops hr (by omega) rfl (pa_cons (pv 7) pa_nil)) (by rfl)) (pw_or1 (pt_cmpR (op_notInD (hu65 hr)) (pv 1) (pe_cl c_law_tops hr (by omega) rfl (pa_cons (pv 7) pa_nil)) (by rfl))))) (pss_one (ps_ret pe_bl)) pss_nil)
      (pss_one (ps_if (pt_cmpR op_ne (pe_op op_add (pe_cl c_law_knots hr (by omega) rfl (pa_cons (pv 7) pa_nil)) (pe_cl c_law_knots hr (by omega) rfl (pa_cons (pv 5) pa_nil))) (pe_op op_add (pe_cl c_law_knots hr (by omega) rfl (pa_cons (pv 0) pa_nil)) (pe_cl c_law_knots hr (by omega) rfl (pa_cons (pv 1) pa_nil))) (nomark _)) (pss_one (ps_ret pe_bl)) pss_nil))) pss_nil)
      (pss_one (ps_ret (pe_and (pe_cl c_law_lot_right hr (by omega) rfl (pa_cons (pv 0) (pa_cons (pv 1) pa_nil))) (pe_one (pe_cl c_law_lot_right hr (by omega) rfl (pa_cons (pv 5) (pa_cons (pv 0) pa_nil))))))))))))))), ?_⟩
  obtain ⟨x, y, b, o, rfl, gb, go, hk, q⟩ := h
  have fb := gb.ok.few
  have fo := go.ok.few
  refine ⟨_, rfl, x, b, rfl, gb, by omega, fun p1 H1 s1 l1 => ?_⟩
  refine ⟨_, rfl, y, o, rfl, go.same s1, by omega, fun p2 H2 s2 l2 => ?_⟩
  refine ⟨sz rfl, fun t ht => ?_⟩
  have s3 := same_new ht (.tup [.ref p1, .ref p2])
  refine ⟨t, _, rfl, SqT.of upd_same, rfl, _, _, rfl, _, _, rfl, rfl, ?_⟩
  have s13 := (s1.trans s2).trans s3
  replace gb := gb.same s13
  replace go := go.same s13
  replace l1 := (l1.same s2).same s3
  replace l2 := l2.same s3
  replace q := fun H' (s : Same _ H') => q H' (s13.trans s)
  generalize upd H2 t (.tup [.ref p1, .ref p2]) = H3 at s3 s13 gb go l1 l2 q
  clear s1 s2 s3 s13 ht
  have shb := sh_one gb.ok
  have sho := sh_one go.ok
  have shtb := sh_tops gb.ok
  have shto := sh_tops go.ok
  -- the first three questions
  refine ⟨_, rfl, x, rfl, .inl ⟨b, gb, fun H4 s4 => ?_⟩⟩
  obtain ⟨xs1, hx1, tx1⟩ := l1.same s4
  refine ⟨_, rfl, p1, xs1, rfl, .inl (SqL.of hx1), rfl, _, rfl, ?_⟩
  have e1 : decide (V.int ((topsN b : Nat) : Int) = V.int (xs1.length : Int)) = true := decide_eq_true (by rw [tx1.len, tops_length])
  rw [e1]
  refine it0 ⟨_, rfl, _, rfl, x, y, rfl, .inl ⟨b, o, gb.same s4, go.same s4, fun H5 s5 => ?_⟩⟩
  have s45 := s4.trans s5
  refine ⟨_, rfl, _, rfl, td b, _, (gb.tr.same s45).dp, (l2.same s45).dp, shb, shto, rfl, _, rfl, ?_⟩
  have e2 : decide (V.bl (isTop b o) = V.bl (((tops o).map td).any fun z => PyData.eqv z (td b))) = true := decide_eq_true (by rw [any_tds]; congr 1; have := mem_tops o b; cases h : isTop b o <;> simp_all)
  rw [e2]
  refine it0 ⟨_, rfl, _, rfl, y, x, rfl, .inl ⟨o, b, go.same s45, gb.same s45, fun H6 s6 => ?_⟩⟩
  have s46 := s45.trans s6
  refine ⟨_, rfl, _, rfl, td o, _, (go.tr.same s46).dp, (l1.same s46).dp, sho, shtb, rfl, _, rfl, ?_⟩
  have e3 : decide (V.bl (isTop o b) = V.bl (((tops b).map td).any fun z => PyData.eqv z (td o))) = true := decide_eq_true (by rw [any_tds]; congr 1; have := mem_tops b o; cases h : isTop o b <;> simp_all)
  rw [e3]
  refine it0 ?_
  replace gb := gb.same s46
  replace go := go.same s46
  replace l1 := l1.same s46
  replace l2 := l2.same s46
  replace q := fun H' (s : Same H6 H') => q H' (s46.trans s)
  clear s4 s5 s6 s45 s46 e1 e2 e3 hx1 tx1
  -- those of both
  obtain ⟨xs1, hx1, tx1⟩ := id l1
  refine ⟨_, rfl, p1, rfl, ⟨_, SqL.of hx1⟩, fun D hD => ?_⟩
  refine lc_listF (K := K) (a := p1) (xs := xs1) (j := 8) (ds := (tops b).map fun t => if decide (t ∈ tops o) = true then some (td t) else none) hx1 (by rw [tx1.len, List.length_map]) (by rw [List.length_map]; exact sz_small (Nat.le_trans (tops_small gb.ok) (by decide))) hD (fun i v d H7 Nx Nn hv hd s7 k1 k2 => ?_) (fun H7 acc s7 hacc hall => ?_)
  · obtain ⟨t, htt, rfl⟩ := map_get hd
    have tv : Tr H7 v t := TrL.at (TpAll.same tx1 s7) hv htt
    have ht : isTop t b = true := (mem_tops b t).mp (List.mem_of_getElem? htt)
    refine ⟨_, rfl, _, rfl, td t, _, tv.dp, (l2.same s7).dp, sh_one (gb.ok.top ht), shto, _, rfl, ?_⟩
    rw [any_tds]
    refine itb (fun e => ?_) (fun e => ?_)
    · exact ⟨_, rfl, k1 (td t) v H7 (if_pos e) (Same.refl _) tv⟩
    · exact k2 H7 (if_neg (by rw [e]; decide)) (Same.refl _)
  rw [kept_filter (fun t => decide (t ∈ tops o))] at hall
  have l3 : LstT H7 D (bothT b o) := ⟨acc, hacc, hall⟩
  replace gb := gb.same s7
  replace go := go.same s7
  replace l1 := l1.same s7
  replace l2 := l2.same s7
  replace q := fun H' (s : Same H7 H') => q H' (s7.trans s)
  clear hall hacc s7 hD hx1 tx1
  have shm : SeqAt.shaped (.list ((bothT b o).map td)) = true := sh_tds fun t ht => gb.ok.top (mem_both.mp ht).1
  -- the greatest
  refine ⟨_, rfl, _, rfl, x, y, rfl, .inl ⟨b, o, gb, go, fun mv H8 s8 tm => ?_⟩⟩
  have okm : Okb 12 (met b o) := gb.ok.top (met_left b o)
  have gm : Good H8 mv (met b o) := ⟨tm, okm⟩
  replace gb := gb.same s8
  replace go := go.same s8
  replace l3 := l3.same s8
  replace q := fun H' (s : Same H8 H') => q H' (s8.trans s)
  clear l1 l2 s8 tm
  obtain ⟨xs3, hx3, tx3⟩ := id l3
  refine ⟨_, rfl, _, rfl, td (met b o), _, gm.tr.dp, l3.dp, sh_one okm, shm, _, rfl, ?_⟩
  rw [any_tds, decide_eq_true (met_both b o)]
  refine it0 ⟨_, rfl, D, rfl, ⟨_, SqL.of hx3⟩, fun D2 hD2 => ?_⟩
  refine lc_listF (K := K) (a := D) (xs := xs3) (j := 8) (ds := (bothT b o).map fun _ => none) hx3 (by rw [tx3.len, List.length_map]) (by rw [List.length_map]; exact sz_small (Nat.le_trans (List.length_filter_le _ _) (Nat.le_trans (tops_small gb.ok) (by decide)))) hD2 (fun i v d H9 Nx Nn hv hd s9 k1 k2 => ?_) (fun H9 acc s9 hacc hall => ?_)
  · obtain ⟨t, htt, rfl⟩ := map_get hd
    have tv : Tr H9 v t := TrL.at (TpAll.same tx3 s9) hv htt
    have hmem := List.mem_of_getElem? htt
    have ht : isTop t b = true := (mem_both.mp hmem).1
    have fm := okm.few
    refine ⟨_, rfl, _, rfl, mv, met b o, rfl, gm.same s9, by omega, fun p9 H10 s10 l10 => ?_⟩
    refine ⟨td t, _, (tv.same s10).dp, l10.dp, sh_one (gb.ok.top ht), sh_tops okm, _, rfl, ?_⟩
    rw [any_tds, decide_eq_true (both_met hmem)]
    exact it0 (k2 H10 rfl s10)
  have hk0 : keptD ((bothT b o).map fun _ => none) = [] := by
    unfold keptD
    rw [List.filterMap_map]
    exact List.filterMap_eq_nil_iff.mpr fun _ _ => rfl
  rw [hk0] at hall
  have e0 : acc = [] := by cases hall; rfl
  subst e0
  refine ⟨D2, [], [], rfl, hacc, .nil, fun d hd => (by cases hd), fun H10 s10 => it0 ?_⟩
  have s90 := s9.trans s10
  replace gb := gb.same s90
  replace go := go.same s90
  replace gm := gm.same s90
  replace q := fun H' (s : Same H10 H') => q H' (s90.trans s)
  clear hall hacc s9 s10 s90 hD2 hx3 tx3 l3
  -- the road, the least
  refine ⟨_, rfl, _, rfl, x, y, rfl, .inl ⟨b, o, gb, go, fun rv H11 s11 tr => ?_⟩⟩
  refine ⟨_, rfl, _, rfl, x, y, rfl, .inl ⟨b, o, gb.same s11, go.same s11, fun jv H12 s12 tj => ?_⟩⟩
  have s112 := s11.trans s12
  replace gb := gb.same s112
  replace go := go.same s112
  replace gm := gm.same s112
  replace tr := tr.same s12
  replace q := fun H' (s : Same H12 H') => q H' (s112.trans s)
  clear s11 s12 s112
  refine ⟨_, _, rfl, ?_⟩
  refine ⟨_, rfl, _, rfl, _, rfl, x, y, b, o, rfl, gb, go, fun cv H13 s13 tc => ?_⟩
  refine ⟨optd (clash b o), optd (clash b o), (tr.same s13).dp, tc.dp, sh_optd _, sh_optd _, _, rfl, ?_⟩
  rw [eqv_optd]
  refine it0 ?_
  replace gb := gb.same s13
  replace go := go.same s13
  replace gm := gm.same s13
  replace tr := tr.same s13
  replace tj := tj.same s13
  replace q := fun H' (s : Same H13 H') => q H' (s13.trans s)
  clear tc s13
  have ej : decide (jv = .non) = !agree b o := by
    unfold joinO at tj
    by_cases ag : agree b o = true
    · rw [if_pos ag] at tj
      obtain ⟨a, _, rfl, _⟩ := Tr.inv tj
      rw [ag]
      exact decide_eq_false (by intro z; cases z)
    · rw [if_neg ag] at tj
      cases tj
      have : agree b o = false := by cases h : agree b o <;> simp_all
      rw [this]; rfl
  have er : decide (rv = .non) = agree b o := by
    rw [optd_none tr]
    have := clash_none b o
    cases h : clash b o <;> cases h2 : agree b o <;> simp_all
  refine ⟨_, rfl, _, rfl, rfl, _, rfl, ?_⟩
  have e4 : decide (V.bl (decide (jv = .non)) = V.bl (!decide (rv = .non))) = true := decide_eq_true (by rw [ej, er])
  rw [e4]
  refine it0 ?_
  -- what both tell in the end
  have last : ∀ (σ : L2.St) (H' : Hp), Same H13 H' → σ[0]? = some (some x) → σ[1]? = some (some y) → σ[5]? = some (some mv) → (∀ H2, Same H' H2 → Q (.bl true) H2) →
      (∃ v, σ[0]? = some (some v) ∧ ∃ v2, σ[1]? = some (some v2) ∧ spLotRight [v, v2] H' (fun z H2 => ∃ c, z = .bl c ∧ if c = true then (∃ v, σ[5]? = some (some v) ∧ ∃ v2, σ[0]? = some (some v2) ∧ spLotRight [v, v2] H2 Q fun _ _ _ => False) else Q (.bl false) H2) fun _ _ _ => False) := fun σ H' s e0 e1 e5 q' => by
    refine ⟨_, e0, _, e1, x, y, b, o, rfl, gb.same s, go.same s, fun H2 s2 => ⟨true, rfl, it1 ?_⟩⟩
    exact ⟨_, e5, _, e0, mv, x, met b o, b, rfl, (gm.same s).same s2, (gb.same s).same s2, fun H3 s3 => q' H3 (s2.trans s3)⟩
  refine ⟨_, rfl, _, rfl, ?_⟩
  rw [ej]
  by_cases ag : agree b o = true
  rotate_left
  · have e : agree b o = false := by cases h : agree b o <;> simp_all
    rw [e]
    refine it0 ?_
    exact last _ H13 (Same.refl _) rfl rfl rfl q
  · rw [ag]
    refine it1 ?_
    have tj' : Tr H13 jv (joined b o) := by
      unfold joinO at tj
      rw [if_pos ag] at tj
      exact tj
    have okj : Okb 12 (joined b o) := ⟨wf_joined b o gb.ok.wf go.ok.wf ag, Nat.le_trans (knots_join ag) hk⟩
    have gj : Good H13 jv (joined b o) := ⟨tj', okj⟩
    have fj := okj.few
    have shj := sh_tops okj
    refine ⟨_, rfl, _, rfl, jv, joined b o, rfl, gj, by omega, fun p14 H14 s14 l14 => ?_⟩
    refine ⟨td b, _, (gb.tr.same s14).dp, l14.dp, shb, shj, _, rfl, ?_⟩
    rw [any_tds, decide_eq_true ((mem_tops _ _).mpr (joined_left b o ag))]
    refine it0 ?_
    refine ⟨_, rfl, _, rfl, jv, joined b o, rfl, gj.same s14, by omega, fun p15 H15 s15 l15 => ?_⟩
    have s145 := s14.trans s15
    refine ⟨td o, _, (go.tr.same s145).dp, l15.dp, sho, shj, _, rfl, ?_⟩
    rw [any_tds, decide_eq_true ((mem_tops _ _).mpr (joined_right b o ag))]
    refine it0 ?_
    refine ⟨_, rfl, jv, joined b o, rfl, gj.same s145, fun H16 s16 => ?_⟩
    have sA := s145.trans s16
    refine ⟨_, rfl, mv, met b o, rfl, gm.same sA, fun H17 s17 => ?_⟩
    have sB := sA.trans s17
    refine ⟨_, _, rfl, rfl, ?_⟩
    refine ⟨_, rfl, x, b, rfl, gb.same sB, fun H18 s18 => ?_⟩
    have sC := sB.trans s18
    refine ⟨_, rfl, y, o, rfl, go.same sC, fun H19 s19 => ?_⟩
    have sD := sC.trans s19
    refine ⟨_, _, rfl, rfl, rfl, _, rfl, ?_⟩
    have e5 : decide (V.int (((knots (joined b o) : Nat) : Int) + ((knots (met b o) : Nat) : Int)) = V.int (((knots b : Nat) : Int) + ((knots o : Nat) : Int))) = true := decide_eq_true (by
      have := knots_both b o ag
      congr 1
      omega)
    rw [e5]
    refine it0 ?_
    exact last _ H19 sD rfl rfl rfl fun H2 s => q H2 (sD.trans s)
end

end Tw
set_option Elab.async false
set_option linter.all false
set_option maxRecDepth 100000
set_option maxHeartbeats 4000000
namespace Tw
open PySem PySem.Spec PyProof.Rows L2
/-! ### iterators that end while an exception is handled -/
section
variable {prog : Program} {w : World} {A : Around} {E : Value → Shared → Prop} {s : Shared}
/-- the handled exception is not an object of two fields -/
theorem hot_ne {x1 it : Addr} {h : Heap} {o : Obj} {u v : Value} (hot : HotX.HotAt A x1 h) (ho : h.get? it = some o) (hd : o.data = .fields #[u, v]) : x1 ≠ it := fun z => by
  obtain ⟨_, o1, vs, h1, h2, h3⟩ := hot
  rw [z, ho] at h1
  cases h1
  rw [hd] at h2
  cases h2
  simp at h3
theorem hot_upd {x1 it : Addr} {h : Heap} (f : Obj → Obj) (hot : HotX.HotAt A x1 h) (n : x1 ≠ it) : HotX.HotAt A x1 (h.update it f) := by
  obtain ⟨hh, o1, vs, h1, h2, h3⟩ := hot
  exact ⟨hh, o1, vs, (Heap.get?_update_other _ _ (Ne.symm n)).trans h1, h2, h3⟩
theorem hot_ext {x1 : Addr} {h h' : Heap} (hot : HotX.HotAt A x1 h) (k : ∀ o, h.get? x1 = some o → h'.get? x1 = some o) : HotX.HotAt A x1 h' := by
  obtain ⟨hh, o1, vs, h1, h2, h3⟩ := hot
  exact ⟨hh, o1, vs, k _ h1, h2, h3⟩
/-- a StopIteration of its own, behind which the caught one is linked -/
theorem stop_hot {α : Type} {x1 : Addr} {Q : α → Shared → Prop} (hot : HotX.HotAt A x1 s.heap)
    (h : ∀ (h' : Heap) (e : Addr) (oe : Obj), (∀ b o, s.heap.get? b = some o → h'.get? b = some o) → h'.get? e = some oe → oe.cls = .type "StopIteration" → E (.ref e) { s with heap := h' }) :
    wpAny (model prog w) A (newExc (.type "StopIteration") [] >>= fun e => raiseNew e : Sem α) Q E s := by
  refine wpAny_bind ?_
  simp only [newExc, newTuple]
  refine wpAny_bind (wpAny_newObj_type ?_ (by size_fits))
  refine wpAny_bind (m := firstArgMember _ _) (wpAny_of_eq (a := Value.none) (by first | rfl | (simp only [firstArgMember]; rfl)) ?_)
  refine wpAny_newObj_type ?_ (by size_fits)
  have lt : ∀ b o, s.heap.get? b = some o → b < s.heap.objs.size := fun b o e => Heap.lt_size e
  obtain ⟨_, o1, _, h1, _, _⟩ := id hot
  refine HotX.raiseNew_hot (hot_ext hot fun o e => Heap.get?_push_of_some _ (Heap.get?_push_of_some _ e)) (Nat.ne_of_lt (Heap.lt_size (Heap.get?_push_of_some _ h1))) (Heap.get?_push_size _ rfl) rfl (by first | (simp; done) | (simp; omega) | (simp only [Array.size_append]; simp; omega)) ?_
  refine h _ _ _ (fun b o e => ?_) (Heap.get?_update_self _ (Heap.get?_push_size _ rfl) rfl) rfl
  rw [Heap.get?_update_other _ _ (Nat.ne_of_gt (Heap.lt_size (Heap.get?_push_of_some _ e)))]
  exact Heap.get?_push_of_some _ (Heap.get?_push_of_some _ e)
theorem list_end_hot {it l x1 : Addr} {i : Nat} {items : Array Value} {Q : Option Value → Shared → Prop} (hot : HotX.HotAt A x1 s.heap) (hit : s.heap.IsListIter it l i) (hl : s.heap.IsList l items) (hx : items[i]? = none)
    (hQ : ∀ h', Heap.ExtBut it s.heap h' → Q none { s with heap := h' }) : wpAny (model prog w) A (pyNext (.ref it)) Q E s := by
  obtain ⟨o, ho, hc, hd⟩ := id hit
  obtain ⟨ol, hol, _, nl, hdl⟩ := hl
  have hne : x1 ≠ it := hot_ne hot ho hd
  unfold pyNext
  refine wpAny_bind (wpAny_attempt (wpAny_callSpecial?_slot (name := Str.ofString "__next__") hit.typeIs slot_listiter_next
    (wpAny_call_entry slot_listiter_next hit.typeIs entry_listiter_next ?_ (args_listiter_next _))))
  show wpAny _ _ (field (.ref it) 0 >>= _) _ _ s
  refine wpAny_bind (wpAny_field ho hd (x := .ref l) rfl ?_)
  rw [if_neg (show ¬ ((Value.ref l == Value.none) = true) from Bool.false_ne_true)]
  refine wpAny_bind (wpAny_field ho hd (x := .int i 0) rfl ?_)
  show wpAny _ _ (seqItems? (.ref l) >>= _) _ _ s
  refine wpAny_bind (wpAny_seqItems hol hdl ?_)
  simp only [Int.toNat_natCast, hx]
  refine wpAny_bind (wpAny_rule (wpAny_bind (wpAny_setField ho hd (by simp) ?_)))
  refine stop_hot (hot_upd (A := A) _ hot hne) fun h' e oe k he hce => ?_
  refine wpAny_bind (wpAny_isInstance (T := "StopIteration") (b := true) ⟨oe, he, hce⟩ isSubtype_stop ?_)
  exact wpAny_pure (hQ _ fun b ob hb q => k b ob ((Heap.get?_update_other _ _ (Ne.symm hb)).trans q))
theorem tup_end_hot {it t x1 : Addr} {i : Nat} {items : Array Value} {Q : Option Value → Shared → Prop} (hot : HotX.HotAt A x1 s.heap) (hit : IsTupIter s.heap it t i) (ht : IsTup s.heap t items) (hx : items[i]? = none)
    (hQ : ∀ h', Heap.ExtBut it s.heap h' → Q none { s with heap := h' }) : wpAny (model prog w) A (pyNext (.ref it)) Q E s := by
  obtain ⟨o, ho, hc, hd⟩ := id hit
  obtain ⟨ol, hol, _, nl, hdl⟩ := ht
  have hne : x1 ≠ it := hot_ne hot ho hd
  unfold pyNext
  refine wpAny_bind (wpAny_attempt (wpAny_callSpecial?_slot (name := Str.ofString "__next__") hit.typeIs slot_tupleiter_next
    (wpAny_call_entry slot_tupleiter_next hit.typeIs entry_tupleiter_next ?_ (args_tupleiter_next _))))
  show wpAny _ _ (field (.ref it) 0 >>= _) _ _ s
  refine wpAny_bind (wpAny_field ho hd (x := .ref t) rfl ?_)
  rw [if_neg (show ¬ ((Value.ref t == Value.none) = true) from Bool.false_ne_true)]
  refine wpAny_bind (wpAny_field ho hd (x := .int i 0) rfl ?_)
  show wpAny _ _ (seqItems? (.ref t) >>= _) _ _ s
  refine wpAny_bind (wpAny_seqItems hol hdl ?_)
  simp only [Int.toNat_natCast, hx]
  refine wpAny_bind (wpAny_rule (wpAny_bind (wpAny_setField ho hd (by simp) ?_)))
  refine stop_hot (hot_upd (A := A) _ hot hne) fun h' e oe k he hce => ?_
  refine wpAny_bind (wpAny_isInstance (T := "StopIteration") (b := true) ⟨oe, he, hce⟩ isSubtype_stop ?_)
  exact wpAny_pure (hQ _ fun b ob hb q => k b ob ((Heap.get?_update_other _ _ (Ne.symm hb)).trans q))
/-- a, b = t in a suite -/
theorem unpack_hot {t x1 : Addr} {items : Array Value} {Q : List Value → Shared → Prop} (hot : HotX.HotAt A x1 s.heap) (ht : IsTup s.heap t items)
    (hQ : ∀ h', Heap.ExtBut s.heap.objs.size s.heap h' → Q items.toList { s with heap := h' }) : wpAny (model prog w) A (unpackItems (.ref t) items.size none) Q E s := by
  have hlt : t ≠ s.heap.objs.size := by obtain ⟨o, ho, _⟩ := ht; exact Nat.ne_of_lt (Heap.lt_size ho)
  have hlx : x1 ≠ s.heap.objs.size := by obtain ⟨_, o, _, ho, _⟩ := hot; exact Nat.ne_of_lt (Heap.lt_size ho)
  unfold unpackItems
  refine wpAny_bind ?_
  unfold notIterableAtAll
  refine wpAny_bind (wpAny_specialOf ht.typeIs slot_tuple_iter.lookup ?_)
  refine wpAny_pure ?_
  simp only [Bool.false_eq_true, if_false]
  refine wpAny_bind (wpAny_holding (iter_tuple ht ?_))
  refine wpAny_bind (wpAny_holding (draw_tuple hlt items.size 0 _ _ ⟨_, Heap.get?_push_size _ rfl, rfl, rfl⟩ (ht.push _) (by omega) fun h₁ hit₁ hs₁ => ?_))
  have hall : List.take items.size (List.drop 0 items.toList) = items.toList := by
    rw [List.drop_zero]; exact List.take_of_length_le (by simp)
  rw [hall, if_neg (by simp)]
  have ht₁ : IsTup h₁ t items := (ht.push _).extBut hs₁.extBut hlt
  refine wpAny_bind (wpAny_holding (tup_end_hot (hot_ext hot fun o e => hs₁.extBut x1 o hlx (Heap.get?_push_of_some _ e)) hit₁ ht₁ (by simp) fun h₂ he₂ => ?_))
  simp only [Option.isSome_none, Bool.false_eq_true, if_false]
  exact wpAny_pure (hQ h₂ fun b o hb e => he₂ b o hb (hs₁.extBut b o hb (Heap.get?_push_of_some _ e)))
end
end Tw
set_option Elab.async false
set_option linter.all false
set_option maxRecDepth 100000
set_option maxHeartbeats 4000000
namespace Tw
open PySem PySem.Spec PyProof.Rows L2
/-! ### comprehensions in an except suite -/
/-- wherever the context's code runs, the handled exception stands, its context None -/
def HotIn (X : Cx) : Prop := ∀ (pins : List (Addr × Obj)) (σ : L2.St) (H : Hp) (s : Shared), Inv X pins σ H s → ∃ x1, HotX.HotAt X.A x1 s.heap
theorem pg_tupH {X : Cx} {es : List Expr} {k : Nat} {t : TGs} {n : Nat} {pos : Pos} (hot : HotIn X) (h : PGs X es t)
    (hn : (assignEach es X.env).length = n := by rfl) (hst : (assignEach es X.env).findIdx? (·.1) = none := by rfl) : PG X (.Tuple es k pos) (gTup X.K n t) := by
  refine ⟨fun pins s σ H v u Q I r hw => ?_⟩
  obtain ⟨a, xs, e1, hq, hl, hw⟩ := hw
  subst e1
  cases r
  obtain ⟨x1, hx1⟩ := hot _ _ _ _ I
  obtain ⟨its, rv, ht, hz⟩ := I.tuple hq
  rw [PyProof.Rows.assign_Tuple]
  refine wpAny_bind (wpAny_standAt ?_)
  have hsz : (assignEach es X.env).length = its.toArray.size := by simp [hn, ← hl, rv.length]
  unfold unpack
  rw [hsz, hst]
  refine wpAny_bind (wpAny_holding (unpack_hot hx1 ht fun h' hx => ?_))
  have I1 : Inv X pins σ H { s with heap := h' } := I.kept (t' := s.toks) fun b o e => hx b o (Nat.ne_of_lt (Heap.lt_size e)) e
  exact h.run pins _ σ H xs _ Q I1 (by simpa using rv) hw
section
variable {X : Cx} {pins : List (Addr × Obj)} {σ : L2.St} {H : Hp} {s : Shared} {tg : Expr} {a it : Addr} {i : Nat} {E : Value → Shared → Prop}
theorem item_any (I : Inv X pins σ H s) (f : FpOk X pins H it) (st : s.heap.IsListIter it a i) (hg : (Itl X.K a).go i H) :
    wpAny (model X.prog X.w) X.A (pyNext (.ref it)) (fun r s1 => ∃ u, r = some u ∧
      wpAny (model X.prog X.w) X.A (letOwnedTupleGo tg (.ref it) u) (fun _ s2 => ∃ x, Inv X pins σ H s2 ∧ RelV x u ∧ (Itl X.K a).yld i H x H ∧ s2.heap.IsListIter it a (i + 1)) E s1) E s := by
  obtain ⟨xs, x, hq, hx⟩ := hg
  obtain ⟨its, rv, p, hz⟩ := I.list hq
  obtain ⟨u, hu, ru⟩ := rv.get hx
  obtain ⟨f0, f1, f2, f3, f4, f5⟩ := f
  refine wpAny_pyNext_list_item st p.isList (x := u) (by simpa using hu) fun h' st' sb => ?_
  have I1 : Inv X pins σ H { s with heap := h' } := I.turned (t' := s.toks) (fun b o hb e => (sb.2 b hb).trans e) f0 f1 f3 f4 f5
  obtain ⟨o, e, c, d⟩ := id st'
  exact ⟨u, rfl, go_of (s := { s with heap := h' }) e c d (by decide) ⟨x, I1, ru, ⟨rfl, fun ys hy => by rw [I.list_inj hy hq]; exact hx⟩, st'⟩⟩
theorem done_hot (hot : HotIn X) (I : Inv X pins σ H s) (f : FpOk X pins H it) (st : s.heap.IsListIter it a i) (hg : (Itl X.K a).stop i H) :
    wpAny (model X.prog X.w) X.A (pyNext (.ref it)) (fun r s1 => r = none ∧ Inv X pins σ H s1) E s := by
  obtain ⟨xs, hq, hx⟩ := hg
  obtain ⟨its, rv, p, hz⟩ := I.list hq
  obtain ⟨f0, f1, f2, f3, f4, f5⟩ := f
  have hl := rv.length
  obtain ⟨x1, hx1⟩ := hot _ _ _ _ I
  exact list_end_hot hx1 st p.isList (by simp; omega) fun h' eb => ⟨rfl, I.turned (t' := s.toks) (fun b o hb e => eb b o hb e) f0 f1 f3 f4 f5⟩
end
section
variable {X : Cx}
/-- the exception stands in the block, too -/
theorem hot_blk {pins : List (Addr × Obj)} {σ : L2.St} {H : Hp} {s : Shared} {scope : Scope} {cenv : Env} {fp : List Addr} (hot : ∃ p ∈ X.pn, L2H.Hot1 X.A p) (I : Inv X pins σ H s) (hfp : ∀ b ∈ fp, FpOk X pins H b) : HotIn (X.blk s H scope cenv fp) := fun pins' σ' H' s' I' => by
  obtain ⟨⟨xa, xo⟩, hp, hh, v1, d1, c1⟩ := hot
  obtain ⟨g1, g2, g3, g4, g5⟩ := I.pin (xa, xo) (List.mem_append_left _ hp)
  have nf : xa ∉ fp := fun hm => (hfp xa hm).2.2.2.2.2 (xa, xo) (List.mem_append_left _ hp) rfl
  have ns : xa ∉ X.stack.filterMap (·.frame) := fun hm => by
    rcases List.mem_cons.mp (I.stkSub xa hm) with z | z
    · exact g3 z
    · exact g4 z
  exact ⟨xa, hh, xo, v1, I'.base.keep xa xo g1 g2 ns nf, d1, c1⟩
/-- [elt for target in list if ..] in an except suite -/
theorem pe_lcH {elt tg iter : Expr} {ifs : List Expr} {scope : Scope} {own : List (Str × Nat)} {pos : Pos} {te0 : TE} {g : TG} {tt : TT} {te : TE} (hot : ∃ p ∈ X.pn, L2H.Hot1 X.A p) (hN : X.N.Nodup) (hi : PE X iter te0) (ok : BlkOk X.N X.env.scope scope own)
    (hg : ∀ (s : Shared) (H : Hp) (C : Addr) (cl : List (Str × Addr)) (fp : List Addr), HotIn (X.blk s H scope (compEnvC scope cl C X.env) fp) → PG (X.blk s H scope (compEnvC scope cl C X.env) fp) tg g)
    (ht : ∀ (s : Shared) (H : Hp) (C : Addr) (cl : List (Str × Addr)) (fp : List Addr), PTs (X.blk s H scope (compEnvC scope cl C X.env) fp) ifs tt)
    (he : ∀ (s : Shared) (H : Hp) (C : Addr) (cl : List (Str × Addr)) (fp : List Addr), PE (X.blk s H scope (compEnvC scope cl C X.env) fp) elt te) (hs : ∀ x, foldedSetIterable iter X.env x = pure x := by intro _; rfl) :
    PE X (.ListComp elt [⟨tg, iter, ifs, 0⟩] scope pos) (tLc (iList X.K te0) g tt te (own.map (·.2))) := by
  refine ⟨fun pins s σ H Q I h => ?_⟩
  rw [eval_ListComp]
  have hfree : ∀ y ∈ scope.names, y.2 = .free → ∃ c, X.env.cells.lookup y.1 = some c := fun y hy e => by
    rcases ok.free y hy e with k | k
    · exact I.ok.has _ (.inl k)
    · exact I.ok.has _ (.inr k)
  refine wpAny_comprehension_free (use := none) rfl hs (closure_ok hfree) ok.kind (fun y hy e => by rw [ok.uniq y hy, e]) (thn (hi.run pins s σ H _ I h) fun xv s1 ⟨x, H1, I1, r1, a, ea, ⟨xs, hq⟩, q⟩ => ?_)
  subst ea
  cases r1
  obtain ⟨its, rv, pl, hz⟩ := I1.list hq
  refine wpAny_pyIter_list pl.isList ?_
  have T := turn_list (P := X.prog) (w := X.w) (K := X.K) (tg := tg) a s1.heap.objs.size
  have f1 := I1.fpOk (Nat.le_refl _) (I1.hok.fresh (Nat.le_refl s1.heap.objs.size))
  have I2 : Inv X pins σ H1 { s1 with heap := s1.heap.push { cls := .type "list_iterator", data := .fields #[.ref a, .int 0 0] } } := I1.kept (t' := s1.toks) fun b o e => Heap.get?_push_of_some _ e
  have st2 : (s1.heap.push { cls := .type "list_iterator", data := .fields #[.ref a, .int 0 0] }).IsListIter s1.heap.objs.size a 0 := ⟨_, Heap.get?_push_size _ rfl, rfl, rfl⟩
  have lt2 : s1.heap.objs.size < (s1.heap.push { cls := .type "list_iterator", data := .fields #[.ref a, .int 0 0] }).objs.size := by rw [Heap.size_push]; exact Nat.lt_succ_self _
  generalize s1.heap.objs.size = it at T f1 st2 lt2 ⊢
  refine wpAny_newObj_type (newEnv_comp ?_) (by show 0 ≤ sizeLine; decide)
  generalize hs2 : ({ s1 with heap := s1.heap.push { cls := .type "list_iterator", data := .fields #[.ref a, .int 0 0] } } : Shared) = s2 at I2 ⊢
  have st2 : s2.heap.IsListIter it a 0 := by rw [← hs2]; exact st2
  have lt2 : it < s2.heap.objs.size := by rw [← hs2]; exact lt2
  generalize hD : s2.heap.objs.size = D
  have hDn : H1 D = none := I2.hok.fresh (Nat.le_of_eq hD)
  obtain ⟨W, ⟨m0, w0⟩, turn⟩ := q D hDn
  generalize hs3 : ({ s2 with heap := s2.heap.push { cls := .type "list", data := .seq ([] : List Value).toArray } } : Shared) = s3
  have I3 : Inv X pins σ (upd H1 D (.lst [])) s3 := by
    rw [← hs3]
    refine I2.laid (t' := s2.toks) (fun b o e => Heap.get?_push_of_some _ e) (Nat.le_of_eq hD) ⟨Nat.zero_le _, [], 0, .nil, ?_⟩
    rw [← hD]
    exact Heap.get?_push_size _ rfl
  have h3 : s3.heap = s2.heap.push { cls := .type "list", data := .seq ([] : List Value).toArray } := by rw [← hs3]
  have f3 : ∀ b ∈ [it], FpOk X pins (upd H1 D (.lst [])) b ∧ b < s3.heap.objs.size := fun b hb => by
    rw [List.mem_singleton.mp hb]
    refine ⟨⟨?_, f1.2⟩, by rw [h3, Heap.size_push]; exact Nat.lt_succ_of_lt lt2⟩
    rw [upd_ne (by rw [← hD]; exact Nat.ne_of_lt lt2)]
    exact f1.1
  have st3 : s3.heap.IsListIter it a 0 := T.keep _ _ _ st2 fun b _ o e => by rw [h3]; exact Heap.get?_push_of_some _ e
  have I4 := block_start I3 ok hN f3
  have hb := fun cenv : Env => hot_blk (scope := scope) (cenv := cenv) (fp := [it]) hot I3 fun b hb => (f3 b hb).1
  have pg := hg s3 (upd H1 D (.lst [])) s3.heap.objs.size (cellsFrom (s3.heap.objs.size + 1) scope.names (cloFrom X.env.cells scope.names [])) [it] (hb _)
  have pt := ht s3 (upd H1 D (.lst [])) s3.heap.objs.size (cellsFrom (s3.heap.objs.size + 1) scope.names (cloFrom X.env.cells scope.names [])) [it]
  have pe := he s3 (upd H1 D (.lst [])) s3.heap.objs.size (cellsFrom (s3.heap.objs.size + 1) scope.names (cloFrom X.env.cells scope.names [])) [it]
  show codeAny _ _ (.compStart (.ListComp elt [⟨tg, iter, ifs, 0⟩] scope pos) 0 (.ref it) (.ref D) (compEnvC scope (cellsFrom (s3.heap.objs.size + 1) scope.names (cloFrom X.env.cells scope.names [])) s3.heap.objs.size X.env)) (compPost (model X.prog X.w) X.A X.xe none (EP X pins σ Q) (.ref D) s3.heap.objs.size) { s3 with heap := pushCells (s3.heap.push { cls := .type "dict", data := .dict #[] }) scope.names }
  have nfp : ∀ b ∈ [it], (upd H1 D (.lst [])) b = none := fun b hb => (f3 b hb).1.1
  generalize hce : compEnvC scope (cellsFrom (s3.heap.objs.size + 1) scope.names (cloFrom X.env.cells scope.names [])) s3.heap.objs.size X.env = ce at I4 pg pt pe ⊢
  have hb := hb ce
  have cL : ce.locals = s3.heap.objs.size := by subst hce; rfl
  generalize hH3 : upd H1 D (.lst []) = H3 at I3 I4 pg pt pe w0 nfp f3 hb
  generalize hs4 : ({ s3 with heap := pushCells (s3.heap.push { cls := .type "dict", data := .dict #[] }) scope.names } : Shared) = s4 at I4 ⊢
  have st4 : s4.heap.IsListIter it a 0 := T.keep _ _ _ st3 fun b _ o e => by rw [← hs4]; exact pushCells_keeps _ _ _ _ (Heap.get?_push_of_some _ e)
  have stat : ∀ {σ' : L2.St} {H' : Hp} {s' : Shared}, Inv (X.blk s3 H3 scope ce [it]) [] σ' H' s' → (∀ b ∈ [it], H' b = none) → ∀ b ∈ [it], FpOk (X.blk s3 H3 scope ce [it]) [] H' b := fun {σ' H' s'} I' hn b hb =>
    ⟨hn b hb, (I'.ok.exf b hb).1, I'.ok.exfs b hb, .inl hb, fun x c e => (I'.ok.exf b hb).2 x c e, fun p hp => absurd (show p ∈ ([] : List (Addr × Obj)) ++ [] from hp) (by simp)⟩
  have loop : codeAny (model X.prog X.w) X.A (.compLoop (.ListComp elt [⟨tg, iter, ifs, 0⟩] scope pos) 0 (.ref it) (.ref D) ce) (compPost (model X.prog X.w) X.A X.xe none (EP X pins σ Q) (.ref D) s3.heap.objs.size) s4 := by
    refine compLoop_any (fun n s' => ∃ i H', Inv (X.blk s3 H3 scope ce [it]) [] (wipe σ (own.map (·.2))) H' s' ∧ s'.heap.IsListIter it a i ∧ (∀ b ∈ [it], H' b = none) ∧ W i n H') ?_ m0 ⟨0, H3, I4, st4, nfp, w0⟩
    rintro n s5 ⟨i, H5, I5, st5, n5, w5⟩
    rcases turn i n H5 w5 with ⟨stop, qq⟩ | ⟨go, Nx, hNx, step⟩
    · refine thnF (done_hot (X := X.blk s3 H3 scope ce [it]) (E := fun _ _ => False) hb I5 (stat I5 n5 it (by simp)) st5 stop) fun r s6 ⟨hr, I6⟩ => ?_
      subst hr
      have I7 : Inv X pins σ H5 s6 := I3.call' (ch := [it]) I6.os I6.base I6.hok I6.bare fun b hb => ⟨(f3 b hb).1.2.2.2.1, (f3 b hb).1.2.1, (f3 b hb).1.2.2.2.2.1, (f3 b hb).1.2.2.2.2.2⟩
      have nC : H5 s3.heap.objs.size = none := by
        have z : H5 ce.locals = none := I6.free
        rw [cL] at z
        exact z
      obtain ⟨m, hn, _⟩ := I6.loc
      have hn : s6.heap.Ns ce.locals m := hn
      rw [cL] at hn
      obtain ⟨f0, f1, f2, f3, f4, f5⟩ := I3.fpOk (Nat.le_refl _) nC
      exact ⟨m, hn, fun h2 sb => ⟨.ref D, H5, I7.turned (t' := s6.toks) (fun b o hb e => (sb.2 b hb).trans e) f0 f1 f3 f4 f5, rfl, qq⟩⟩
    · refine thnF (item_any (X := X.blk s3 H3 scope ce [it]) (tg := tg) (E := fun _ _ => False) I5 (stat I5 n5 it (by simp)) st5 go) fun r s6 ⟨u, hr, h6⟩ => ?_
      subst hr
      refine thnF h6 fun _ s7 ⟨x, I7, r7, y7, st7⟩ => ?_
      have I7' := I7.pinned (stat I7 n5) (T.obj _ _ st7)
      refine thnF (pg.run _ s7 _ H5 x u _ I7' r7 (step x H5 y7)) fun _ s8 ⟨σ8, H8, I8, hw8, q8⟩ => ?_
      refine thnF (pt.run _ s8 σ8 H8 _ I8 q8) fun b s9 ⟨H9, I9, q9⟩ => ?_
      have fin : ∀ {s' : Shared} {H' : Hp}, Inv (X.blk s3 H3 scope ce [it]) ([] ++ pinsAt [it] s7.heap) σ8 H' s' → Nx H' → ∃ m, m < n ∧ ∃ i H', Inv (X.blk s3 H3 scope ce [it]) [] (wipe σ (own.map (·.2))) H' s' ∧ s'.heap.IsListIter it a i ∧ (∀ b ∈ [it], H' b = none) ∧ W i m H' := fun {s' H'} I' nx => by
        obtain ⟨m', hm, w'⟩ := hNx H' nx
        have pin' : ∀ b ∈ [it], ∀ o, s7.heap.get? b = some o → s'.heap.get? b = some o ∧ H' b = none := fun b hb o e =>
          let z := I'.pin (b, o) (List.mem_append_right _ (List.mem_append_right _ (mem_pinsAt hb e)))
          ⟨z.1, z.2.1⟩
        have hl : (wipe σ (own.map (·.2))).length = σ8.length := by rw [← hw8, wipe_length]
        refine ⟨m', hm, i + 1, H', (I'.unpinned (pins := [])).weak hl (fun j v e => ?_), T.keep _ _ _ st7 fun b hb o e => (pin' b hb o e).1, fun b hb => ?_, w'⟩
        · rw [← hw8] at e
          exact (wipe_some e).1
        · obtain ⟨o, e, _⟩ := T.obj _ _ st7 b hb
          exact (pin' b hb o e).2
      cases b with
      | false =>
        simp only [Bool.false_eq_true, if_false] at q9 ⊢
        exact fin I9 q9
      | true =>
        simp only [if_true] at q9 ⊢
        refine thnF (pe.run _ s9 σ8 H9 _ I9 q9) fun z s10 ⟨yv, H10, I10, r10, acc, hD10, hz10, nx⟩ => ?_
        exact app_ok (X := X.blk s3 H3 scope ce [it]) I10 hD10 hz10 r10 fun s11 I11 => fin I11 nx
  exact codeAny_compStart_list loop (T.self X.A 0 _ _ _ st4 loop)
end
end Tw
set_option Elab.async false
set_option linter.all false
set_option maxRecDepth 100000
set_option maxHeartbeats 4000000
namespace Tw
open PySem PySem.Spec PyProof.Rows L2
/-! ### a lambda handed to a def, whose call ends in an error without context -/
/-- the context of the lambda's body -/
abbrev lamW (X : Cx) (A : Around) (outer : List Env) (s : Shared) (H : Hp) (E : XK) (sc : Scope) (f c' : Addr) : Cx :=
  (LamX.lamCx X A outer s H E sc f c').wish fun u s' => wpAny (model X.prog X.w) (A.deeper (LamX.lamEnv X sc s.heap.objs.size f c')) (leaving (LamX.lamEnv X sc s.heap.objs.size f c') u) (fun _ s2 => L2N.CX X.prog X.w outer H s E u s2) (fun u2 s2 => L2N.CX X.prog X.w outer H s E u2 s2) s'
abbrev lamQ (X : Cx) : Str := X.env.qual ++ "<lambda>"
section
variable {X : Cx} {pins : List (Addr × Obj)} {σ : L2.St} {H : Hp} {s : Shared}
theorem pe_actW {Ng : List Str} {qg : Str} {sg : Scope} {g f c' : Addr} {cdg pm ctv : Value} {params : Arguments} {body : Expr} {sc : Scope} {k i : Nat} {a : Str} {pn : List (Addr × Obj)} {xe : Value → Shared → Prop} {W : WX} {tb : XK → TE} {p1 p2 : Pos}
    (I : Inv X pins σ H s) (L : LamX.LamS X.env.scope sc) (hf : s.heap.get? f = some (PySem.W.kla_obj "<lambda>" (lamQ X) params body sc (cloFrom X.env.cells sc.names []) pm c' ctv)) (hfn : H f = none) (hfr : f ∉ frs X.stack)
    (hbind : bindArgs (PySem.W.kla_fn "<lambda>" (lamQ X) params body sc (cloFrom X.env.cells sc.names []) pm (.ref c') ctv) ⟨[], []⟩ = pure [])
    (tk : L2N.Takes ((cxOf C8.CX0 X.prog X.w X.K X.mg X.base Ng qg sg g cdg X.A X.stack s H C8.E0).tr pn xe) W) (hr : Room (k + 1) (X.A.deeper (envOfC qg sg s.heap.objs.size g cdg)))
    (hbody : ∀ (A : Around) (outer : List Env) (s : Shared) (H : Hp) (E : XK), Room k (A.deeper (LamX.lamEnv X sc s.heap.objs.size f c')) → PE (lamW X A outer s H E sc f c') body (tb E))
    (hN : Ng[i]? = some a) (hv : Vis sg a) (hd : (a == ("__debug__" : Str)) = false := by decide) (hcd : (a == ("__classdict__" : Str)) = false := by decide) :
    PE ((cxOf C8.CX0 X.prog X.w X.K X.mg X.base Ng qg sg g cdg X.A X.stack s H C8.E0).tr pn xe) (.Call (.Name a p1) [] [] p2)
      (fun σZ HZ Q => σZ[i]? = some (some (.ref f)) ∧ HZ c' = some (LamX.CodeO c' (lamQ X)) ∧ tb (WE W σZ) σ HZ Q) := by
  refine ⟨fun pinsZ sZ σZ HZ Q IZ h => ?_⟩
  obtain ⟨hs, hc, ht⟩ := h
  refine wpAny_Call_Name_kw (thn ((pe_var (pos := p1) (i := i) hN hv hd hcd).run pinsZ sZ σZ HZ (fun v H1 => v = .ref f ∧ H1 = HZ) IZ ⟨.ref f, hs, rfl, rfl⟩) fun u s1 ⟨v, H1, I1, r1, ev, eH⟩ => ?_)
  subst ev
  rw [eH] at I1
  obtain rfl : u = Value.ref f := r1
  have of1 := I1.base.keep f _ hf hfn hfr (fun z => nomatch (show f ∈ ([] : List Addr) from z))
  refine PySem.W.callWith_F0 ⟨_, _, _, _, of1⟩ ?_
  have un : Un (frs X.stack) [] H HZ s.heap s1.heap := I1.base
  obtain ⟨⟨oc, vs, t, hoc, hdc, hvc⟩, _, _⟩ := I1.hok c' _ hc
  have rc : codeAny (model X.prog X.w) (X.A.deeper (envOfC qg sg s.heap.objs.size g cdg)) (.call (.ref f) ⟨[], []⟩) (CR (L2N.CX X.prog X.w) (envOfC qg sg s.heap.objs.size g cdg :: X.stack) X.prog X.w HZ s1 Q (WE W σZ)) s1 := by
    refine PySem.W.kla_callFunE hr.depth of1 rfl L.co L.gen rfl ⟨c', oc, vs, t, rfl, hoc, hdc, hvc⟩ ?_
    rw [hbind]
    refine wpAny_pure (wpAny_newFunctionEnv (fun y hy => (L.own y hy).2) (fun y hy => absurd hy (by simp)) (fun h₁ hns hsb => ⟨I1.nolimit.fresh _ hsb, ?_⟩) L.kind)
    have kp : ∀ b o, s1.heap.get? b = some o → h₁.get? b = some o := fun b o e => hsb.extBut b o (Nat.ne_of_lt (Heap.lt_size e)) (Heap.get?_push_of_some _ e)
    have J := (LamX.lam_start2 (A := X.A.deeper (envOfC qg sg s.heap.objs.size g cdg)) (outer := envOfC qg sg s.heap.objs.size g cdg :: X.stack) (E := WE W σZ) (f := f) (c' := c') (tk := s1.toks + ([] : List (Str × Value)).length) I L I1.env0 hr.hd un hns kp).wish
      fun u s' => wpAny (model X.prog X.w) ((X.A.deeper (envOfC qg sg s.heap.objs.size g cdg)).deeper (LamX.lamEnv X sc s1.heap.objs.size f c')) (leaving (LamX.lamEnv X sc s1.heap.objs.size f c') u) (fun _ s2 => L2N.CX X.prog X.w (envOfC qg sg s.heap.objs.size g cdg :: X.stack) HZ s1 (WE W σZ) u s2) (fun u2 s2 => L2N.CX X.prog X.w (envOfC qg sg s.heap.objs.size g cdg :: X.stack) HZ s1 (WE W σZ) u2 s2) s'
    refine PySem.W.kla_codeExpr (wpAny_mono ((hbody _ _ s1 HZ (WE W σZ) (hr.deeper _)).run [] _ _ HZ Q J ht) (fun v s' hq => ?_) fun e s' hq => hq)
    obtain ⟨w', H', J', rv, q⟩ := hq
    exact ⟨w', H', J'.os, J'.bare, J'.base, J'.hok, rv, q⟩
  have hx := L2N.passAt tk σZ
  refine wpAny_call (codeAny_mono rc fun r s' hq => ?_)
  cases r with
  | error e => exact hx pinsZ HZ s1 e s' I1 hq
  | ok fl =>
    cases fl with
    | ret u => exact I1.after hq
    | next => exact False.elim hq
    | brk => exact False.elim hq
    | cont => exact False.elim hq
end
/-- the def that calls what it got; TT: what it makes of the lambda's reading -/
def GivesW (X : Cx) (Ng : List Str) (x : Str) (sg : Scope) (g : Addr) (cdg : Value) (bg : List Stmt) (a : Str) (q : Str) (TT : (XK → Hp → VK → Prop) → Hp → VK → Prop) : Prop :=
  ∀ (f c' : Addr) (s : Shared) (H : Hp) (Q : VK) (tl : XK → Hp → VK → Prop),
    (∀ (W : WX) (pn : List (Addr × Obj)) (xe : Value → Shared → Prop) (p1 p2 : Pos), L2N.Takes ((cxOf C8.CX0 X.prog X.w X.K X.mg X.base Ng x sg g cdg X.A X.stack s H C8.E0).tr pn xe) W →
      PE ((cxOf C8.CX0 X.prog X.w X.K X.mg X.base Ng x sg g cdg X.A X.stack s H C8.E0).tr pn xe) (.Call (.Name a p1) [] [] p2) (fun σZ HZ Q => σZ[0]? = some (some (.ref f)) ∧ HZ c' = some (LamX.CodeO c' q) ∧ tl (WE W σZ) HZ Q)) →
    H c' = some (LamX.CodeO c' q) → TT tl H Q →
    ∃ t, PSs (cxOf C8.CX0 X.prog X.w X.K X.mg X.base Ng x sg g cdg X.A X.stack s H C8.E0).nox bg t ∧ t { nx := fun _ H' => Q .non H', rt := Q } (L2.start Ng [.ref f]) H
def tLamW (T : List (Addr × Str)) (TT : (XK → Hp → VK → Prop) → Hp → VK → Prop) (t : XK → TE) : TE := fun σ H Q => LamX.Tabs T H ∧ ∀ H1, LamX.ExtN H H1 → LamX.Tabs T H1 → TT (fun E H' Q' => t E σ H' Q') H1 Q
section
variable {X : Cx}
/-- x(lambda: body) -/
theorem pe_lamW {T : List (Addr × Str)} {TT : (XK → Hp → VK → Prop) → Hp → VK → Prop} {x a : Str} {g c P : Addr} {k : Nat} {pg : Arguments} {bg : List Stmt} {sg : Scope} {dV kV doc pm cdv ct oc : Value} {an od : Option Addr} {osl : Array (Option Value)} {Ng : List Str}
    {params : Arguments} {body : Expr} {sc : Scope} {t : XK → TE} {p lpos pos : Pos} (hg : Gl X x) (hm : X.mg x = some (.ref g)) (hk : PySem.W.keepIn X.K (.ref g) = true)
    (lk : X.K.lookup g = some ⟨oc, od, .func (PySem.W.fnOf x x pg bg sg dV kV doc pm an cdv ct), osl⟩) (hcg : PySem.W.codeIn X.K cdv x = true) (hb : L2.Binds X.K (PySem.W.fnOf x x pg bg sg dV kV doc pm an cdv ct) [a] []) (Sg : FnScope Ng [a] sg) (hNg : Ng[0]? = some a) (hva : Vis sg a)
    (hG : GivesW X Ng x sg g cdv bg a (lamQ X) TT)
    (TB : LamX.TabB X.base X.mg c P) (hcode : X.env.code = .ref c) (hmT : (P, lamQ X) ∈ T) (hu : ∀ p ∈ T, p.1 = P → p.2 = lamQ X) (hr : Room (k + 2) X.A) (L : LamX.LamS X.env.scope sc) (hdef : defaultsOf params X.env = ([], []))
    (hbind : ∀ (q : Str) (cl : List (Str × Addr)) (pm cv ctv : Value), bindArgs (PySem.W.kla_fn "<lambda>" q params body sc cl pm cv ctv) ⟨[], []⟩ = pure [])
    (hbody : ∀ (A : Around) (outer : List Env) (s : Shared) (H : Hp) (E : XK) (f c' : Addr), Room k (A.deeper (LamX.lamEnv X sc s.heap.objs.size f c')) → PE (lamW X A outer s H E sc f c') body (t E))
    (hdb : (x == ("__debug__" : Str)) = false := by decide) (hd : (a == ("__debug__" : Str)) = false := by decide) (hcd : (a == ("__classdict__" : Str)) = false := by decide) :
    PE X (.Call (.Name x p) [.Lambda params body sc lpos] [] pos) (tLamW T TT t) := by
  refine ⟨fun pins s σ H Q I h => ?_⟩
  obtain ⟨hT, h⟩ := h
  refine wpAny_Call_Name_kw (ld_glob I hg hm ?_ hdb)
  refine PySem.W.callWith_K (h₀ := X.base) I.ok.mod.kin hk ?_ (by rfl) (by rfl)
  show wpAny _ _ (spliced ((false, eval (.Lambda params body sc lpos) X.env) :: backTo pos (starEach [] X.env))) _ _ s
  refine Calls.spliced_cons (LamX.lam_make2 I TB hcode hmT hu hT hdef (L.has I.ok) fun f c' pm' ctv H1 s' I1 eN T1 hf hfn hfr hco => ?_)
  refine Calls.spliced_nil ⟨I1.kIn, ?_⟩
  have rc : codeAny (model X.prog X.w) X.A (.call (.ref g) ⟨[.ref f], []⟩) (CR C8.CX0 X.stack X.prog X.w H1 s' Q C8.E0) s' := by
    refine LamX.run_ofS (N := Ng) (ps := [a]) (us := [.ref f]) (vs := [.ref f]) lk hcg Sg hr I1.env0 (hb s' [.ref f] I1.kIn rfl) (.cons rfl .nil) rfl fun hr' => ?_
    obtain ⟨t', ht', hq'⟩ := hG f c' s' H1 Q (fun E H' Q' => t E σ H' Q') (fun W pn xe p1 p2 tk => pe_actW (i := 0) I1 L hf hfn hfr (hbind _ _ _ _ _) tk hr' (fun A outer s H E hr2 => hbody A outer s H E f c' hr2) hNg hva hd hcd) hco (h H1 eN T1)
    exact ⟨t', ht'.nox, hq'⟩
  refine wpAny_call (codeAny_mono rc fun r s2 hq => ?_)
  cases r with
  | error e => exact (show False from hq).elim
  | ok fl =>
    cases fl with
    | ret u => exact I1.after hq
    | next => exact False.elim hq
    | brk => exact False.elim hq
    | cont => exact False.elim hq
end
end Tw
set_option Elab.async false
set_option linter.all false
set_option maxRecDepth 100000
set_option maxHeartbeats 4000000
namespace Tw
open PySem PySem.Spec PyProof.Rows L2
/-! ### _law_word: the word for an error -/
structure TxtE (K : PySem.W.Frag) (mg : Str → Option Value) : Prop where
  gS : mg "BushError" = some (.ref (He.ga K "BushError"))
  gG : mg "InvalidGrafts" = some (.ref (He.ga K "InvalidGrafts"))
  gN : mg "InvalidNumber" = some (.ref (He.ga K "InvalidNumber"))
  es : PySem.W.exmOne K (.ref (cB K)) (.ref (He.ga K "BushError")) = some true
  c : ExcC K (cB K)
  iB : PySem.W.kitOne K (.ref (cB K)) (.ref (cB K)) = some true
  iG : PySem.W.kitOne K (.ref (cB K)) (.ref (He.ga K "InvalidGrafts")) = some false
  iN : PySem.W.kitOne K (.ref (cB K)) (.ref (He.ga K "InvalidNumber")) = some false
/-- the lambda ends in InvalidBush, whatever is wished: the word is bush -/
def TTword (K : PySem.W.Frag) : (XK → Hp → VK → Prop) → Hp → VK → Prop := fun tl H Q => (∀ (E : XK) (Q' : VK), (∀ H', Same H H' → E (.ref (cB K)) none H') → tl E H Q') ∧ ∀ H', Same H H' → Q (.str "bush") H'
theorem takesN0 {X : Cx} : L2N.Takes X (fun _ _ _ _ => False) := fun _ _ x => by
  obtain ⟨_, _, _, _, _, _, _, _, _, _, _, _, _, _, _, _, z⟩ := x
  exact z.elim
/-- a suite that is only asked of one class -/
theorem pss_only {X : Cx} {b : List Stmt} {cls cls0 : Value} {d d0 : Option Addr} {t : TS} (h : cls = cls0 → d = d0 → PSs X b t) : PSs X b (fun D σ H => (cls = cls0 ∧ d = d0) ∧ t D σ H) :=
  ⟨fun pins s σ H D I ⟨⟨e1, e2⟩, q⟩ => (h e1 e2).run pins s σ H D I q⟩
abbrev N_law_word : List Str := ["_law_call", "e", "_law_some_here", "_law_word_here", "_law_good"]
theorem sc_law_word : FnScope N_law_word ["_law_call"] (defScope (top 54)) := ⟨rfl, rfl, rfl, by decide +kernel, rfl, by decide +kernel, by decide +kernel⟩
theorem hi_law_word {K : PySem.W.Frag} {mg : Str → Option Value} (T : Txt K mg) : ∃ f fd, FunD K "_law_word" "_law_word" (defArgs (top 54)) (defBody (top 54)) (defScope (top 54)) [] [] f fd ∧ mg "_law_word" = some (.ref f) := T.df "_law_word" 54 (by decide)
abbrev wordX (X : Cx) (s : Shared) (H : Hp) (g : Addr) (cdg : Value) : Cx := (cxOf C8.CX0 X.prog X.w X.K X.mg X.base N_law_word "_law_word" (defScope (top 54)) g cdg X.A X.stack s H C8.E0).nox
def wordSuite : List Stmt := match defBody (top 54) with | [.Try _ [.ExceptHandler _ _ b _] _ _ _, _] => b | _ => []
theorem word_suite {X : Cx} (T : Txt X.K X.mg) (B : TxtB X.K X.mg) (Ee : TxtE X.K X.mg) {s : Shared} {H0 : Hp} {g a : Addr} {cdg : Value} {oe : Obj} {pn : List (Addr × Obj)} (hz : L2N.Zn (.ref (cB X.K)) none oe) (hf : ∃ vs, oe.data = Data.fields vs) :
    PSs ((wordX X s H0 g cdg).suite a ((a, oe) :: pn)) wordSuite (fun D σ H => (∃ f : V, σ = [some f, some (.ref a), none, none, none]) ∧ ∀ H', Same H H' → D.rt (.str "bush") H') := by
  refine ⟨fun pins s1 σ H D I h => ?_⟩
  suffices z : ∃ t, PSs ((wordX X s H0 g cdg).suite a ((a, oe) :: pn)) wordSuite t ∧ t D σ H from by
    obtain ⟨t, h1, h2⟩ := z
    exact h1.run pins s1 σ H D I h2
  clear I
  refine ⟨_, (pss_cons (ps_set (i := 2) sc_law_word.nd rfl (Or.inl rfl) (pe_lst (pa_cons (pe_tup (pa_cons pe_str (pa_cons (pe_callB (call_isE (X := wordX X s H0 g cdg) (a := a) (D := cB X.K) (oe := oe) (pn := pn) Ee.c hz.zc hf) (by rfl) (T.fr "isinstance" (by simp)) (by decide +kernel) (pa_cons (pv 1) (pa_cons (pe_glob (x := "InvalidBush") (v := .ref (cB X.K)) rfl B.g rfl) pa_nil))) pa_nil))) (pa_cons (pe_tup (pa_cons pe_str (pa_cons (pe_callB (call_isE (X := wordX X s H0 g cdg) (a := a) (D := cB X.K) (oe := oe) (pn := pn) Ee.c hz.zc hf) (by rfl) (T.fr "isinstance" (by simp)) (by decide +kernel) (pa_cons (pv 1) (pa_cons (pe_glob (x := "InvalidGrafts") (v := .ref (He.ga X.K "InvalidGrafts")) rfl Ee.gG rfl) pa_nil))) pa_nil))) (pa_cons (pe_tup (pa_cons pe_str (pa_cons (pe_callB (call_isE (X := wordX X s H0 g cdg) (a := a) (D := cB X.K) (oe := oe) (pn := pn) Ee.c hz.zc hf) (by rfl) (T.fr "isinstance" (by simp)) (by decide +kernel) (pa_cons (pv 1) (pa_cons (pe_glob (x := "InvalidNumber") (v := .ref (He.ga X.K "InvalidNumber")) rfl Ee.gN rfl) pa_nil))) pa_nil))) pa_nil)))))
    (pss_one (ps_ret (pe_join pe_str (pe_lcH (own := [("_law_word_here", 3), ("_law_good", 4)]) (g := gTup X.K 2 (gCons (gName 3) (gCons (gName 4) gNil))) ⟨(a, oe), List.mem_cons_self, rfl, by obtain ⟨vs, hv⟩ := hf; exact ⟨vs, hv, hz.2.2 vs hv⟩⟩ sc_law_word.nd (pv 2) (blkOk_by (own := [("_law_word_here", 3), ("_law_good", 4)]) (N := N_law_word) (sc := defScope (top 54)) (by decide +kernel)) (fun _ _ _ _ _ hh => (by exact pg_tupH hh (pgs_cons (pg_name (i := 3) sc_law_word.nd rfl (Or.inl rfl)) (pgs_cons (pg_name (i := 4) sc_law_word.nd rfl (Or.inl rfl)) pgs_nil)))) (fun _ _ _ _ _ => (pts_one (pt_val (pv 4)))) (fun _ _ _ _ _ => (pv 3))))))), ?_⟩
  obtain ⟨⟨f, rfl⟩, q⟩ := h
  refine ⟨_, rfl, .ref (cB X.K), _, true, rfl, fun u r => r, Ee.iB, sz rfl, fun t1 h1 => ?_⟩
  refine ⟨_, rfl, .ref (He.ga X.K "InvalidGrafts"), _, false, rfl, fun u r => r, Ee.iG, sz rfl, fun t2 h2 => ?_⟩
  refine ⟨_, rfl, .ref (He.ga X.K "InvalidNumber"), _, false, rfl, fun u r => r, Ee.iN, sz rfl, fun t3 h3 => ⟨sz rfl, fun l hl => ?_⟩⟩
  refine ⟨⟨_, rfl⟩, _, rfl, l, rfl, ⟨_, SqL.of upd_same⟩, fun D1 hD => ?_⟩
  have sa := same_new h1 (.tup [.str "bush", .bl true])
  have sb := same_new h2 (.tup [.str "grafts", .bl false])
  have sc := same_new h3 (.tup [.str "number", .bl false])
  have sd := same_new hl (.lst [.ref t1, .ref t2, .ref t3])
  have e1 := sd _ _ (sc _ _ (sb _ _ (upd_same (H := H) (a := t1) (o := .tup [.str "bush", .bl true]))))
  have e2 := sd _ _ (sc _ _ (upd_same (H := upd H t1 (.tup [.str "bush", .bl true])) (a := t2) (o := .tup [.str "grafts", .bl false])))
  have e3 := sd _ _ (upd_same (H := upd (upd H t1 (.tup [.str "bush", .bl true])) t2 (.tup [.str "grafts", .bl false])) (a := t3) (o := .tup [.str "number", .bl false]))
  have e4 : upd (upd (upd (upd H t1 (.tup [.str "bush", .bl true])) t2 (.tup [.str "grafts", .bl false])) t3 (.tup [.str "number", .bl false])) l (.lst [.ref t1, .ref t2, .ref t3]) l = some (.lst [.ref t1, .ref t2, .ref t3]) := upd_same
  have s0 := ((sa.trans sb).trans sc).trans sd
  replace q := fun H' (z : Same _ H') => q H' (s0.trans z)
  generalize upd (upd (upd (upd H t1 (.tup [.str "bush", .bl true])) t2 (.tup [.str "grafts", .bl false])) t3 (.tup [.str "number", .bl false])) l (.lst [.ref t1, .ref t2, .ref t3]) = H5 at e1 e2 e3 e4 q hD ⊢
  clear sa sb sc sd s0 h1 h2 h3 hl
  refine lc_any (I := Itl X.K l) (n := 3) (vs := [3, 4]) (ds := [some (.str "bush"), none, none]) rfl (sz rfl) hD (fun i d H6 Nx Nn hd s6 k1 k2 => ?_) (fun H6 s6 => ⟨_, SqL.of (s6 _ _ e4), Nat.le_refl _⟩) (fun H6 acc s6 hacc hall => ?_)
  · have item : ∀ (t : Addr) (x : Str) (b : Bool), [V.ref t1, V.ref t2, V.ref t3][i]? = some (.ref t) → H6 t = some (.tup [.str x, .bl b]) → (b = true → Nx (.str x) H6) → (b = false → Nn H6) →
        (Itl X.K l).go i H6 ∧ ∀ (y : V) (H' : Hp), (Itl X.K l).yld i H6 y H' → gTup X.K 2 (gCons (gName 3) (gCons (gName 4) gNil)) y (wipe [some f, some (.ref a), some (.ref l), none, none] [3, 4]) H' fun σ2 H2 => wipe σ2 [3, 4] = wipe [some f, some (.ref a), some (.ref l), none, none] [3, 4] ∧ tB (tVar 4) σ2 H2 fun b H3 => if b = true then tVar 3 σ2 H3 Nx else Nn H3 := fun t x b ht hx n1 n2 => by
      refine ⟨⟨_, _, SqL.of (s6 _ _ e4), ht⟩, fun y H' yl => ?_⟩
      obtain ⟨e0, f1⟩ := yl
      subst e0
      have ex := f1 _ (SqL.of (s6 _ _ e4))
      rw [ht] at ex
      obtain rfl := Option.some.inj ex
      refine ⟨t, _, rfl, SqT.of hx, rfl, _, _, rfl, _, _, rfl, rfl, rfl, _, rfl, b, rfl, ?_⟩
      exact itb (fun e => ⟨_, rfl, n1 e⟩) n2
    match i, hd with
    | 0, hd => exact item t1 "bush" true rfl (s6 _ _ e1) (fun _ => k1 _ _ _ (Option.some.inj hd).symm (Same.refl _) (.str _)) (fun z => nomatch z)
    | 1, hd => exact item t2 "grafts" false rfl (s6 _ _ e2) (fun z => nomatch z) (fun _ => k2 _ (Option.some.inj hd).symm (Same.refl _))
    | 2, hd => exact item t3 "number" false rfl (s6 _ _ e3) (fun z => nomatch z) (fun _ => k2 _ (Option.some.inj hd).symm (Same.refl _))
    | n + 3, hd => simp at hd
  · obtain ⟨v, ws, rfl, hv, hw⟩ := TpAll.cons_inv (show TpAll H6 acc [PyData.str "bush"] from hall)
    cases hv
    cases hw
    exact ⟨_, D1, ["bush"], rfl, rfl, .inl (SqL.of hacc), by decide, q _ s6⟩
theorem word_gives {X : Cx} (T : Txt X.K X.mg) (B : TxtB X.K X.mg) (Ee : TxtE X.K X.mg) {g : Addr} {cdg : Value} {q : Str} : GivesW X N_law_word "_law_word" (defScope (top 54)) g cdg (defBody (top 54)) "_law_call" q (TTword X.K) := by
  intro f c' s H Q tl act hc h
  refine ⟨_, (pss_cons (L2N.ps_try_as (i := 1) (c := .ref (He.ga X.K "BushError")) rfl rfl sc_law_word.nd rfl rfl ⟨rfl, by decide, .inl Ee.gS⟩ takesN0 (fun W pn xe tk _ => pss_one (ps_expr (act W pn xe _ _ tk)))
      (fun a oe cls d pn hz hf => pss_only (cls := cls) (d := d) (cls0 := .ref (cB X.K)) (d0 := none) fun e1 e2 => word_suite T B Ee (by rw [e1, e2] at hz; exact hz) hf))
      (pss_one (ps_ret pe_str))), ?_⟩
  exact ⟨rfl, hc, h.1 _ _ fun H1 s1 => ⟨true, Ee.es, fun _ a ha => ⟨⟨rfl, rfl⟩, ⟨_, rfl⟩, fun H2 s2 => h.2 _ (s1.trans s2)⟩, fun z => nomatch z⟩⟩
end Tw
set_option Elab.async false
set_option linter.all false
set_option maxRecDepth 100000
set_option maxHeartbeats 4000000
namespace Tw
open PySem PySem.Spec PyProof.Rows L2
/-! ### lambdas in comprehensions -/
/-- f(e, ..), f a name that holds one of some defs, of one promise -/
def tCallVs (i : Nat) (Fs : Addr → Prop) (sp : Sp) (E : XK) (t : TA) : TE := fun σ H Q => ∃ f, σ[i]? = some (some (.ref f)) ∧ Fs f ∧ t σ H fun vs H1 => sp vs H1 Q E
section
variable {X : Cx} {CX : CXT} {k i : Nat} {Fs : Addr → Prop} {sp : Sp} {E : XK} {x : Str} {e : Expr} {es : List Expr} {t : TA} {p pos : Pos}
theorem pe_callVs (F : ∀ f, Fs f → FnR X.prog X.w X.K X.mg X.base CX k f sp ∧ PySem.W.keepIn X.K (.ref f) = true) (hr : Room k X.A) (hx : Passes CX X E) (hN : X.N[i]? = some x) (hv : Vis X.env.scope x) (ha : PA X (e :: es) t)
    (hd : (x == ("__debug__" : Str)) = false := by decide) (hcd : (x == ("__classdict__" : Str)) = false := by decide)
    (he : starEach (e :: es) X.env = (false, eval e X.env) :: starEach es X.env := by rfl) (hpl : (backTo pos (starEach es X.env)).any (·.1) = false := by rfl) : PE X (.Call (.Name x p) (e :: es) [] pos) (tCallVs i Fs sp E t) := by
  refine ⟨fun pins s σ H Q I h => ?_⟩
  obtain ⟨f, hs, hf, h⟩ := h
  refine wpAny_Call_Name_kw (thn ((pe_var (pos := p) (i := i) hN hv hd hcd).run pins s σ H (fun v H1 => v = .ref f ∧ H1 = H) I ⟨.ref f, hs, rfl, rfl⟩) fun u s1 ⟨v, H1, I1, r1, ev, eH⟩ => ?_)
  subst ev
  rw [eH] at I1
  cases r1
  refine PySem.W.callWith_K (h₀ := X.base) I.ok.mod.kin (F f hf).2 (thn (ha.run pos pins s1 σ H _ I1 h) fun us s2 ⟨vs, H2, I2, r, q⟩ => ⟨I2.kIn, ?_⟩) he hpl
  exact wpAny_call (run_fnR (F f hf).1 hr hx I2 r q)
end
section
variable {P : Program} {w : World} {K : PySem.W.Frag} {mg : Str → Option Value} {base : Heap} {j k : Nat} {x : Str} {sp : Sp}
theorem CalN.mono (c : CalN P w K mg base j x sp) (h : j ≤ k) : CalN P w K mg base k x sp := by
  obtain ⟨f, fd, ps, F, m, kp, b⟩ := c.ex
  exact ⟨f, fd, ps, F.mono h, m, kp, b⟩
theorem CalN.at (c : CalN P w K mg base k x sp) : ∃ f, mg x = some (.ref f) ∧ FnR P w K mg base (L2N.CX P w) k f sp ∧ PySem.W.keepIn K (.ref f) = true := by
  obtain ⟨f, fd, ps, F, m, kp, b⟩ := c.ex
  exact ⟨f, m, (F.raw b .nil).imp fun vs H Q E h => by rw [List.append_nil]; exact h, kp⟩
end
/-! what the making of lambdas leaves -/
theorem ExtN.kp {H H' : Hp} (h : LamX.ExtN H H') : Kp H H' := fun b xs q => h b _ q fun ps z => nomatch z
theorem ExtN.of_same {H H' : Hp} (s : Same H H') : LamX.ExtN H H' := .of fun b o e => s b o e
theorem Tabs.same {Tb : List (Addr × Str)} {H H' : Hp} (t : LamX.Tabs Tb H) (s : Same H H') : LamX.Tabs Tb H' := t.ext fun b o e => s b o e
theorem Tabs.lst {Tb : List (Addr × Str)} {H : Hp} {D : Addr} {ys : List V} (t : LamX.Tabs Tb H) (h : H D = some (.lst ys)) (zs : List V) : LamX.Tabs Tb (upd H D (.lst zs)) := fun p hp => by
  obtain ⟨ps, h1, h2, h3⟩ := t p hp
  refine ⟨ps, by rw [upd_ne (ne_of h1 h (by intro z; cases z))]; exact h1, h2, fun pos cv hc => ?_⟩
  obtain ⟨c, e1, e2⟩ := h3 pos cv hc
  refine ⟨c, e1, ?_⟩
  rw [upd_ne (ne_of e2 h (by intro z; unfold LamX.CodeO at z; cases z))]
  exact e2
theorem lc_lam {K : PySem.W.Frag} {a : Addr} {xs : List V} {j n : Nat} {te : TE} {σ : L2.St} {H1 : Hp} {D : Addr} {Qd : Hp → Prop} {Tb : List (Addr × Str)} (hx : H1 a = some (.tup xs)) (hn : xs.length = n) (hz : n ≤ 100) (hD : H1 D = none) (hT : LamX.Tabs Tb H1)
    (step : ∀ (i : Nat) (x : V) (H : Hp) (Nx : VK), xs[i]? = some x → LamX.ExtN H1 H → LamX.Tabs Tb H → (∀ H4, LamX.ExtN H H4 → LamX.Tabs Tb H4 → Nx (.str "bush") H4) → te ((σ.set j none).set j (some x)) H Nx)
    (fin : ∀ H, LamX.ExtN H1 H → LamX.Tabs Tb H → H D = some (.lst (List.replicate n (.str "bush"))) → Qd H) :
    ∃ W : Nat → Nat → Hp → Prop, (∃ m, W 0 m (upd H1 D (.lst []))) ∧ ∀ i m H, W i m H →
      ((Itt K a).stop i H ∧ Qd H) ∨ ((Itt K a).go i H ∧ ∃ Nx : Hp → Prop, (∀ H', Nx H' → ∃ m', m' < m ∧ W (i + 1) m' H') ∧ ∀ x H', (Itt K a).yld i H x H' → gName j x (wipe σ [j]) H' fun σ2 H2 => wipe σ2 [j] = wipe σ [j] ∧ tYes σ2 H2 fun b H3 =>
        if b = true then te σ2 H3 fun y H4 => ∃ acc, H4 D = some (.lst acc) ∧ acc.length < sizeLine ∧ Nx (upd H4 D (.lst (acc ++ [y]))) else Nx H3) := by
  have ext : ∀ {H4 : Hp} {zs : List V}, LamX.ExtN H1 H4 → LamX.ExtN H1 (upd H4 D (.lst zs)) := fun {H4 zs} e b o q n => by
    rw [upd_ne (ne_of_none q hD)]
    exact e b o q n
  refine lc_tup (K := K) (a := a) (xs := xs) (Qd := Qd) (fun i H => LamX.ExtN H1 H ∧ LamX.Tabs Tb H ∧ H D = some (.lst (List.replicate i (.str "bush")))) ⟨ExtN.of_same (same_new hD _), Tabs.same hT (same_new hD _), upd_same⟩ (fun i H _ p => SqT.of (p.1 a _ hx fun ps z => nomatch z)) ?_ (fun H p => ?_)
  · rintro i x H hi ⟨s1, t1, hacc⟩
    have hlt : i < n := by rw [← hn]; exact (List.getElem?_eq_some_iff.mp hi).1
    refine ⟨?_, ?_⟩
    · show wipe ((wipe σ [j]).set j (some x)) [j] = wipe σ [j]
      simp [wipe, List.set_set]
    · unfold tYes
      dsimp only
      rw [if_pos rfl]
      refine step i x H _ hi s1 t1 fun H4 s4 t4 => ?_
      have hacc4 := s4 D _ hacc fun ps z => nomatch z
      refine ⟨_, hacc4, by rw [List.length_replicate]; exact Nat.lt_of_lt_of_le hlt (sz_small (by omega)), ext (s1.trans s4), Tabs.lst t4 hacc4 _, ?_⟩
      rw [upd_same, List.replicate_succ']
  · obtain ⟨s1, t1, hacc⟩ := p
    rw [hn] at hacc
    exact fin H s1 t1 hacc
/-- a block's names as a lambda in it sees them -/
theorem lamS_rel {X : Cx} {sc cs ls : Scope} {cl : List (Str × Addr)} {C : Addr} (hX : X.env.scope = sc) (h : LamX.lamSB (relS cs sc) ls = true) : LamX.LamS (compEnvC cs cl C X.env).scope ls := by
  refine LamX.lamS_by ?_
  rw [show (compEnvC cs cl C X.env).scope = relS cs X.env.scope from rfl, hX]
  exact h
end Tw
set_option Elab.async false
set_option linter.all false
set_option maxRecDepth 100000
set_option maxHeartbeats 4000000
namespace Tw
open PySem PySem.Spec PyProof.Rows L2
/-! ### law: the words for errors -/
abbrev Nlaw : List Str := ["_law_script", "_law_cup_here", "_law_turn", "_law_bush_here", "_law_other", "_law_v", "_law_s", "_law_tip", "_law_one", "_law_two", "_law_rows", "_law_met", "_law_joined", "_law_road", "_law_calls", "_law_words", "_law_call", "_law_odd"]
theorem sclaw : FnScope Nlaw ["_law_script"] (defScope (top 60)) := ⟨rfl, rfl, rfl, by decide +kernel, rfl, by decide +kernel, by decide +kernel⟩
section
variable {P : Program} {w : World} {K : PySem.W.Frag} {mg : Str → Option Value} {base : Heap}
abbrev lawX (P : Program) (w : World) (K : PySem.W.Frag) (mg : Str → Option Value) (base : Heap) (f : Addr) (cdv : Value) (A : Around) (outer : List Env) (s : Shared) (H : Hp) (E : XK) : Cx := (cxOf (L2.CX P w) P w K mg base Nlaw "law" (defScope (top 60)) f cdv A outer s H E).nox
def lawTail (n : Nat) : List Stmt := (defBody (top 60)).drop n
/-- the lambdas' name -/
def lamN : Str := (envOfC "law" (defScope (top 60)) 0 0 .none).qual ++ "<lambda>"
abbrev fnNo2 (P : Program) (w : World) (K : PySem.W.Frag) (mg : Str → Option Value) (base : Heap) (f : Addr) : Prop := FnR P w K mg base (L2N.CX P w) 6 f (spNo2 K) ∧ PySem.W.keepIn K (.ref f) = true
theorem dpall_rep {H : Hp} (x : Str) : ∀ n : Nat, DpAll K H (List.replicate n (.str x)) (List.replicate n (.str x))
  | 0 => .nil
  | n + 1 => .cons (.str x) (dpall_rep x n)
/-- what the last rows of the law ask -/
structure LawEnd (P : Program) (w : World) (K : PySem.W.Frag) (mg : Str → Option Value) (base : Heap) : Prop where
  T : Txt K mg
  B : TxtB K mg
  Ee : TxtE K mg
  c1 : CalN P w K mg base 6 "is_top" (spNo2 K)
  c2 : CalN P w K mg base 6 "lot_between" (spNo2 K)
  c3 : CalN P w K mg base 6 "common_top" (spNo2 K)
  c4 : CalN P w K mg base 6 "joined_tops" (spNo2 K)
  c5 : CalN P w K mg base 6 "clash_road" (spNo2 K)
  c6 : CalN P w K mg base 6 "count_tops" (spNo1 K)
theorem law_end (L : LawEnd P w K mg base) {f cc tb : Addr} {A : Around} {outer : List Env} {s : Shared} {H0 : Hp} {E : XK} (TB : LamX.TabB base mg cc tb) (hr : Room 8 (A.deeper (envOfC "law" (defScope (top 60)) s.heap.objs.size f (.ref cc)))) :
    PSs (lawX P w K mg base f (.ref cc) A outer s H0 E) (lawTail 11) (fun D σ H => (∃ (z0 z1 z2 z3 z4 z6 z7 z8 z9 z10 z11 z12 z13 z14 z15 z16 z17 : Option V) (v : V) (b : Tw.T), σ = [z0, z1, z2, z3, z4, some v, z6, z7, z8, z9, z10, z11, z12, z13, z14, z15, z16, z17] ∧ Good H v b ∧ H tb = some (.tbl #[])) ∧ ∀ H', D.rt (.bl true) H') := by
  refine ⟨fun pins s1 σ H D I h => ?_⟩
  suffices z : ∃ t, PSs (lawX P w K mg base f (.ref cc) A outer s H0 E) (lawTail 11) t ∧ t D σ H from by
    obtain ⟨t, h1, h2⟩ := z
    exact h1.run pins s1 σ H D I h2
  clear I
  obtain ⟨f1, m1, F1⟩ := L.c1.at
  obtain ⟨f2, m2, F2⟩ := L.c2.at
  obtain ⟨f3, m3, F3⟩ := L.c3.at
  obtain ⟨f4, m4, F4⟩ := L.c4.at
  obtain ⟨f5, m5, F5⟩ := L.c5.at
  obtain ⟨g, fd, Fw, mw⟩ := hi_law_word L.T
  obtain ⟨oc, od, dV, kV, doc, pm, an, cdw, ct, osl, efd, lkw, hcw, _, _⟩ := id Fw.ex
  have bw := Fw.bindsN (ps := ["_law_call"]) fun _ _ _ _ _ _ us hl => match us, hl with | [_], _ => rfl
  subst efd
  have T := L.T
  have hu : ∀ p ∈ [(tb, lamN)], p.1 = tb → p.2 = lamN := fun p hp _ => by rw [List.mem_singleton.mp hp]
  refine ⟨_, (pss_cons (ps_set (i := 14) sclaw.nd rfl (Or.inl rfl) (pe_tup (pa_cons (pe_glob (v := .ref f1) rfl m1 rfl) (pa_cons (pe_glob (v := .ref f2) rfl m2 rfl) (pa_cons (pe_glob (v := .ref f3) rfl m3 rfl) (pa_cons (pe_glob (v := .ref f4) rfl m4 rfl) (pa_cons (pe_glob (v := .ref f5) rfl m5 rfl) pa_nil)))))))
      (pss_cons (ps_setLc (i := 15) (own := [("_law_call", 16)]) rfl sclaw.nd rfl rfl (sw_true rfl rfl rfl (by decide +kernel)) (pi_tup (pv 14)) (blkOk_by (own := [("_law_call", 16)]) (N := Nlaw) (sc := defScope (top 60)) (by decide +kernel)) (fun _ _ _ _ _ => (pg_name (i := 16) sclaw.nd rfl (Or.inr rfl))) (fun _ _ _ _ _ => pts_nil)
          (fun s2 H2 C cl fp => pe_lamW (T := [(tb, lamN)]) (TT := TTword K) (a := "_law_call") (g := g) (c := cc) (P := tb) (k := 6) (t := fun E => tCallVs 16 (fnNo2 P w K mg base) (spNo2 K) E (tCons (tC .non) (tCons (tC .non) tNil))) rfl mw Fw.kp lkw hcw bw sc_law_word rfl (Or.inl rfl) (word_gives L.T L.B L.Ee) TB rfl (by exact List.mem_singleton.mpr rfl) hu hr (lamS_rel (sc := defScope (top 60)) rfl (by decide +kernel)) rfl (fun _ _ _ _ _ => rfl)
            (fun A outer s H E f c' hr2 => pe_callVs (fun f h => h) hr2 (L2N.passes_call (L2N.takes_of rfl rfl rfl rfl) (fun _ _ _ _ h => h)) rfl (Or.inr (Or.inr rfl)) (pa_cons pe_non (pa_cons pe_non pa_nil)))))
      (pss_cons (ps_set (i := 15) sclaw.nd rfl (Or.inl rfl) (pe_op op_cat (pv 15) (pe_lc (own := [("_law_call", 16)]) rfl sclaw.nd (pi_tup (pv 14)) (blkOk_by (own := [("_law_call", 16)]) (N := Nlaw) (sc := defScope (top 60)) (by decide +kernel)) (fun _ _ _ _ _ => (pg_name (i := 16) sclaw.nd rfl (Or.inr rfl))) (fun _ _ _ _ _ => pts_nil)
          (fun s2 H2 C cl fp => pe_lamW (T := [(tb, lamN)]) (TT := TTword K) (a := "_law_call") (g := g) (c := cc) (P := tb) (k := 6) (t := fun E => tCallVs 16 (fnNo2 P w K mg base) (spNo2 K) E (tCons (tVar 5) (tCons (tTup (tCons (tC (.str "v")) tNil)) tNil))) rfl mw Fw.kp lkw hcw bw sc_law_word rfl (Or.inl rfl) (word_gives L.T L.B L.Ee) TB rfl (by exact List.mem_singleton.mpr rfl) hu hr (lamS_rel (sc := defScope (top 60)) rfl (by decide +kernel)) rfl (fun _ _ _ _ _ => rfl)
            (fun A outer s H E f c' hr2 => pe_callVs (fun f h => h) hr2 (L2N.passes_call (L2N.takes_of rfl rfl rfl rfl) (fun _ _ _ _ h => h)) rfl (Or.inr (Or.inr rfl)) (pa_cons (pv 5) (pa_cons (pe_tup (pa_cons pe_str pa_nil)) pa_nil)))))))
      (pss_one (ps_ret (pe_cmpR (op_eqD hr.units) (pe_op op_cat (pv 15) (pe_lc (own := [("_law_odd", 17)]) rfl sclaw.nd (pi_tup (pe_tup (pa_cons pe_non (pa_cons (pe_lst pa_nil) pa_nil)))) (blkOk_by (own := [("_law_odd", 17)]) (N := Nlaw) (sc := defScope (top 60)) (by decide +kernel)) (fun _ _ _ _ _ => (pg_name (i := 17) sclaw.nd rfl (Or.inr rfl))) (fun _ _ _ _ _ => pts_nil)
          (fun s2 H2 C cl fp => pe_lamW (T := [(tb, lamN)]) (TT := TTword K) (a := "_law_call") (g := g) (c := cc) (P := tb) (k := 6) (t := fun E => tCall (spNo1 K) [] E (tCons (tVar 17) tNil)) rfl mw Fw.kp lkw hcw bw sc_law_word rfl (Or.inl rfl) (word_gives L.T L.B L.Ee) TB rfl (by exact List.mem_singleton.mpr rfl) hu hr (lamS_rel (sc := defScope (top 60)) rfl (by decide +kernel)) rfl (fun _ _ _ _ _ => rfl)
            (fun A outer s H E f c' hr2 => pe_clN L.c6 hr2 (Nat.le_refl _) (L2N.passes_call (L2N.takes_of rfl rfl rfl rfl) (fun _ _ _ _ h => h)) rfl (pa_cons (pv 17) pa_nil))))) (pe_op op_rep (pe_lst (pa_cons pe_str pa_nil)) pe_int) (nomark _))))))), ?_⟩
  obtain ⟨⟨z0, z1, z2, z3, z4, z6, z7, z8, z9, z10, z11, z12, z13, z14, z15, z16, z17, v, b, rfl, gv, htb⟩, q⟩ := h
  refine ⟨sz rfl, fun ca hca => ?_⟩
  have hxs : ∀ x ∈ [V.ref f1, V.ref f2, V.ref f3, V.ref f4, V.ref f5], ∃ f, x = .ref f ∧ fnNo2 P w K mg base f := fun x hx => by
    simp only [List.mem_cons, List.not_mem_nil, or_false] at hx
    rcases hx with rfl | rfl | rfl | rfl | rfl
    · exact ⟨_, rfl, F1⟩
    · exact ⟨_, rfl, F2⟩
    · exact ⟨_, rfl, F3⟩
    · exact ⟨_, rfl, F4⟩
    · exact ⟨_, rfl, F5⟩
  have sa := same_new hca (.tup [V.ref f1, V.ref f2, V.ref f3, V.ref f4, V.ref f5])
  have ha : upd H ca (.tup [V.ref f1, V.ref f2, V.ref f3, V.ref f4, V.ref f5]) ca = some (.tup [V.ref f1, V.ref f2, V.ref f3, V.ref f4, V.ref f5]) := upd_same
  have t0 : LamX.Tabs [(tb, lamN)] (upd H ca (.tup [V.ref f1, V.ref f2, V.ref f3, V.ref f4, V.ref f5])) := fun p hp => by
    rw [List.mem_singleton.mp hp]
    exact LamX.TabS.nil (sa _ _ htb)
  replace gv := gv.same sa
  generalize upd H ca (.tup [V.ref f1, V.ref f2, V.ref f3, V.ref f4, V.ref f5]) = H1 at ha t0 gv ⊢
  have hl : [V.ref f1, V.ref f2, V.ref f3, V.ref f4, V.ref f5].length = 5 := rfl
  generalize [V.ref f1, V.ref f2, V.ref f3, V.ref f4, V.ref f5] = xs at ha hxs hl
  clear T F1 F2 F3 F4 F5 hcw lkw bw Fw mw m1 m2 m3 m4 m5 hu TB hr sa hca htb
  refine ⟨_, rfl, ca, rfl, ⟨_, SqT.of ha⟩, fun D1 hD1 => ?_⟩
  refine lc_lam (K := K) (j := 16) (n := 5) ha hl (by decide) hD1 t0 (fun i x H2 Nx hi e2 t2 k => ?_) (fun H2 e2 t2 hacc => ?_)
  · obtain ⟨f, rfl, hf⟩ := hxs x (List.mem_of_getElem? hi)
    exact ⟨t2, fun H3 e3 t3 => ⟨fun E Q' hE => ⟨f, rfl, hf, ⟨_, _, rfl, .inl (.inl (.inl rfl)), hE⟩⟩, fun H4 s4 => k H4 (e3.trans (ExtN.of_same s4)) (Tabs.same t3 s4)⟩⟩
  have ha2 := e2 _ _ ha fun ps z => nomatch z
  replace gv := gv.kp (ExtN.kp e2)
  clear ha t0 e2 hD1
  refine ⟨_, rfl, _, rfl, ca, rfl, ⟨_, SqT.of ha2⟩, fun D2 hD2 => ?_⟩
  refine lc_lam (K := K) (j := 16) (n := 5) ha2 hl (by decide) hD2 t2 (fun i x H3 Nx hi e3 t3 k => ?_) (fun H3 e3 t3 hacc3 => ?_)
  · obtain ⟨f, rfl, hf⟩ := hxs x (List.mem_of_getElem? hi)
    refine ⟨t3, fun H4 e4 t4 => ⟨fun E Q' hE => ⟨f, rfl, hf, v, rfl, sz rfl, fun p hp => ⟨_, _, rfl, .inr ⟨⟨b, ?_⟩, .inr ⟨p, rfl, upd_same⟩⟩, fun H5 s5 => hE H5 ((same_new hp _).trans s5)⟩⟩, fun H5 s5 => k H5 (e4.trans (ExtN.of_same s5)) (Tabs.same t4 s5)⟩⟩
    exact ((gv.kp (ExtN.kp e3)).kp (ExtN.kp e4)).same (same_new hp _)
  have hacc' := e3 _ _ hacc fun ps z => nomatch z
  refine ⟨D1, D2, _, _, rfl, rfl, hacc', hacc3, sz rfl, fun D3 hD3 => ?_⟩
  have h3 : upd H3 D3 (.lst (List.replicate 5 (V.str "bush") ++ List.replicate 5 (.str "bush"))) D3 = some (.lst (List.replicate 10 (V.str "bush"))) := upd_same
  have t4 := Tabs.same t3 (same_new hD3 (.lst (List.replicate 5 (V.str "bush") ++ List.replicate 5 (.str "bush"))))
  generalize upd H3 D3 (.lst (List.replicate 5 (V.str "bush") ++ List.replicate 5 (.str "bush"))) = H4 at h3 t4 ⊢
  clear hD3 hacc' hacc3 e3 t3 hD2 gv ha2 hxs hl hacc t2
  refine ⟨_, rfl, sz rfl, fun l hl => ⟨sz rfl, fun oa hoa => ?_⟩⟩
  have s5 := (same_new hl (.lst [])).trans (same_new hoa (.tup [.non, .ref l]))
  have hl5 : upd (upd H4 l (.lst [])) oa (.tup [.non, .ref l]) l = some (.lst []) := same_new hoa _ _ _ upd_same
  have ho5 : upd (upd H4 l (.lst [])) oa (.tup [.non, .ref l]) oa = some (.tup [.non, .ref l]) := upd_same
  have t5 := Tabs.same t4 s5
  have h5 := s5 _ _ h3
  generalize upd (upd H4 l (.lst [])) oa (.tup [.non, .ref l]) = H5 at hl5 ho5 t5 h5 ⊢
  clear s5 hl hoa h3 t4
  refine ⟨oa, rfl, ⟨_, SqT.of ho5⟩, fun D6 hD6 => ?_⟩
  refine lc_lam (K := K) (j := 17) (n := 2) ho5 rfl (by decide) hD6 t5 (fun i x H6 Nx hi e6 t6 k => ?_) (fun H6 e6 t6 hacc6 => ?_)
  · refine ⟨t6, fun H7 e7 t7 => ⟨fun E Q' hE => ⟨x, rfl, x, rfl, .inl ?_, hE⟩, fun H8 s8 => k H8 (e7.trans (ExtN.of_same s8)) (Tabs.same t7 s8)⟩⟩
    match i, hi with
    | 0, hi => exact .inl (Option.some.inj hi).symm
    | 1, hi => exact .inr ⟨l, (Option.some.inj hi).symm, e7 _ _ (e6 _ _ hl5 fun ps z => nomatch z) fun ps z => nomatch z⟩
    | n + 2, hi => simp at hi
  refine ⟨D3, D6, _, _, rfl, rfl, e6 _ _ h5 (fun ps z => nomatch z), hacc6, sz rfl, fun D7 hD7 => ?_⟩
  have h7 : upd H6 D7 (.lst (List.replicate 10 (V.str "bush") ++ List.replicate 2 (.str "bush"))) D7 = some (.lst (List.replicate 12 (V.str "bush"))) := upd_same
  generalize upd H6 D7 (.lst (List.replicate 10 (V.str "bush") ++ List.replicate 2 (.str "bush"))) = H7 at h7 ⊢
  clear hD7 hacc6 t6 e6 hD6 h5 t5 ho5 hl5
  refine ⟨sz rfl, fun D8 hD8 => ⟨D8, 12, [.str "bush"], rfl, rfl, upd_same, by decide, by decide, sz rfl, fun D9 hD9 => ?_⟩⟩
  have s9 := (same_new hD8 (.lst [V.str "bush"])).trans (same_new hD9 (.lst (List.replicate (12 : Int).toNat [V.str "bush"]).flatten))
  refine ⟨.list (List.replicate 12 (.str "bush")), .list (List.replicate 12 (.str "bush")), .lst (SqL.of (s9 _ _ h7)) (dpall_rep "bush" 12), .lst (SqL.of upd_same) (dpall_rep "bush" 12), by decide +kernel, by decide +kernel, ?_⟩
  rw [show PyData.eqv (.list (List.replicate 12 (.str "bush"))) (.list (List.replicate 12 (.str "bush"))) = true by decide +kernel]
  exact q _
end
end Tw
set_option Elab.async false
set_option linter.all false
set_option maxRecDepth 100000
set_option maxHeartbeats 4000000
namespace Tw
open PySem PySem.Spec PyProof.Rows L2
/-! ### law: tops counted, lots -/
def bV : Tw.T := .kn 118 [.tip, .tip]
def bS : Tw.T := .kn 115 [.tip]
def bOne : Tw.T := .kn 118 [bV, .tip]
def bTwo : Tw.T := .kn 118 [.tip, bV]
theorem Tr.new {H : Hp} {a : Addr} {c : Nat} {xs : List V} {bs : List T} (hn : H a = none) (t : TrL H xs bs) : Tr (upd H a (.tup (.str (ltr c) :: xs))) (.ref a) (.kn c bs) := Tr.kn upd_same (TpAll.same t (same_new hn _))
theorem Tr.new0 {H : Hp} {a : Addr} : Tr (upd H a (.tup [])) (.ref a) .tip := Tr.tip upd_same
theorem TrL.nil' {H : Hp} : TrL H [] [] := .nil
theorem TrL.cons' {H : Hp} {v : V} {vs : List V} {b : T} {bs : List T} (h : Tr H v b) (t : TrL H vs bs) : TrL H (v :: vs) (b :: bs) := .cons h t
def okB (b : Tw.T) : Bool := wf b && Nat.ble (knots b) 12
theorem okB_ok {b : Tw.T} (h : okB b = true) : Okb 12 b := by
  unfold okB at h
  rw [Bool.and_eq_true] at h
  exact ⟨h.1, Nat.le_of_ble_eq_true h.2⟩
def bs5 : List Tw.T := [.tip, bV, bOne, .kn 118 [bV, bV], .kn 115 [.kn 115 [bS]]]
/-- the calls of the last half -/
structure LawCalls (P : Program) (w : World) (K : PySem.W.Frag) (mg : Str → Option Value) (base : Heap) : Prop where
  L : LawEnd P w K mg base
  ccount_tops : Cal P w K mg base 15 "count_tops" (spCountTops K)
  clot_between : Cal P w K mg base 15 "lot_between" (spLot K)
  ccommon_top : Cal P w K mg base 15 "common_top" (spCommon K)
  cjoined_tops : Cal P w K mg base 15 "joined_tops" (spJoin K)
  cclash_road : Cal P w K mg base 15 "clash_road" (spRoad K)
  c_law_right : Cal P w K mg base 51 "_law_right" spRight
section
variable {P : Program} {w : World} {K : PySem.W.Frag} {mg : Str → Option Value} {base : Heap}
theorem law_checks (C : LawCalls P w K mg base) {f cc tb : Addr} {A : Around} {outer : List Env} {s : Shared} {H0 : Hp} {E : XK} (TB : LamX.TabB base mg cc tb) (hr : Room 60 (A.deeper (envOfC "law" (defScope (top 60)) s.heap.objs.size f (.ref cc)))) :
    PSs (lawX P w K mg base f (.ref cc) A outer s H0 E) (lawTail 8) (fun D σ H => (∃ (z0 z1 z2 z3 z4 z9 z10 z11 z12 z13 z14 z15 z16 z17 : Option V) (v sv tv ov : V), σ = [z0, z1, z2, z3, z4, some v, some sv, some tv, some ov, z9, z10, z11, z12, z13, z14, z15, z16, z17] ∧ Tr H v bV ∧ Tr H sv bS ∧ Tr H tv .tip ∧ Tr H ov bOne ∧ H tb = some (.tbl #[])) ∧ ∀ H', D.rt (.bl true) H') := by
  refine ⟨fun pins s1 σ H D I h => ?_⟩
  suffices z : ∃ t, PSs (lawX P w K mg base f (.ref cc) A outer s H0 E) (lawTail 8) t ∧ t D σ H from by
    obtain ⟨t, h1, h2⟩ := z
    exact h1.run pins s1 σ H D I h2
  clear I
  have T := C.L.T
  obtain ⟨L, ccount_tops, clot_between, _, _, _, _⟩ := C
  refine ⟨_, (pss_cons (ps_if (pt_cmpR (op_neD hr.units) (pe_lc (own := [("_law_bush_here", 3)]) rfl sclaw.nd (pi_tup (pe_tup (pa_cons (pv 7) (pa_cons (pv 5) (pa_cons (pv 8) (pa_cons (pe_tup (pa_cons pe_str (pa_cons (pv 5) (pa_cons (pv 5) pa_nil)))) (pa_cons (pe_tup (pa_cons pe_str (pa_cons (pe_tup (pa_cons pe_str (pa_cons (pv 6) pa_nil))) pa_nil))) pa_nil))))))) (blkOk_by (own := [("_law_bush_here", 3)]) (N := Nlaw) (sc := defScope (top 60)) (by decide +kernel)) (fun _ _ _ _ _ => (pg_name (i := 3) sclaw.nd rfl (Or.inl rfl))) (fun _ _ _ _ _ => pts_nil) (fun _ _ _ _ _ => (pe_cl ccount_tops hr (by omega) rfl (pa_cons (pv 3) pa_nil)))) (pe_lst (pa_cons pe_int (pa_cons pe_int (pa_cons pe_int (pa_cons pe_int (pa_cons pe_int pa_nil)))))) (nomark _)) (pss_one (ps_ret pe_bl)) pss_nil)
      (pss_cons (ps_if (PW.pt (pw_or (pt_cmpR (op_neD hr.units) (pe_cl clot_between hr (by omega) rfl (pa_cons (pv 5) (pa_cons (pv 8) pa_nil))) (pe_tup (pa_cons (pe_tup (pa_cons pe_int (pa_cons (pv 5) pa_nil))) pa_nil)) (nomark _)) (pw_or1 (pt_cmp (pc_notN (pe_cl clot_between hr (by omega) rfl (pa_cons (pv 8) (pa_cons (pv 5) pa_nil)))) rfl)))) (pss_one (ps_ret pe_bl)) pss_nil)
      (pss_cons (ps_if (PW.pt (pw_or (pt_ne0 hr.units (pe_cl clot_between hr (by omega) rfl (pa_cons (pv 7) (pa_cons (pv 7) pa_nil)))) (pw_or1 (pt_cmpR (op_neD hr.units) (pe_cl clot_between hr (by omega) rfl (pa_cons (pe_tup (pa_cons pe_str (pa_cons (pv 6) (pa_cons (pv 7) pa_nil)))) (pa_cons (pe_tup (pa_cons pe_str (pa_cons (pe_tup (pa_cons pe_str (pa_cons (pv 5) pa_nil))) (pa_cons (pv 6) pa_nil)))) pa_nil))) (pe_tup (pa_cons (pe_tup (pa_cons pe_int (pa_cons (pv 5) pa_nil))) (pa_cons (pe_tup (pa_cons pe_int (pa_cons (pv 6) pa_nil))) pa_nil))) (nomark _))))) (pss_one (ps_ret pe_bl)) pss_nil)
      (by exact law_end L TB (hr.mono (by decide)))))), ?_⟩
  clear TB
  obtain ⟨⟨z0, z1, z2, z3, z4, z9, z10, z11, z12, z13, z14, z15, z16, z17, v, sv, tv, ov, rfl, gv, gs, gt, go, htb⟩, q⟩ := h
  refine ⟨_, rfl, _, rfl, _, rfl, _, rfl, _, rfl, sz rfl, fun p1 h1 => ?_⟩
  refine ⟨_, rfl, sz rfl, fun p2 h2 => ⟨sz rfl, fun p3 h3 => ⟨sz rfl, fun pa hpa => ⟨pa, rfl, ⟨_, SqT.of upd_same⟩, fun D1 hD1 => ?_⟩⟩⟩⟩
  have sA := same_new h1 (.tup [.str "v", v, v])
  have t1 : Tr (upd H p1 (.tup [.str "v", v, v])) (.ref p1) (.kn 118 [bV, bV]) := Tr.new h1 (.cons' gv (.cons' gv .nil'))
  generalize upd H p1 (.tup [.str "v", v, v]) = Ha at sA t1 h2 h3 hpa hD1 ⊢
  have sB := same_new h2 (.tup [.str "s", sv])
  have t2 : Tr (upd Ha p2 (.tup [.str "s", sv])) (.ref p2) (.kn 115 [bS]) := Tr.new h2 (.cons' (gs.same sA) .nil')
  generalize upd Ha p2 (.tup [.str "s", sv]) = Hb at sB t2 h3 hpa hD1 ⊢
  have sC := same_new h3 (.tup [.str "s", .ref p2])
  have t3 : Tr (upd Hb p3 (.tup [.str "s", .ref p2])) (.ref p3) (.kn 115 [.kn 115 [bS]]) := Tr.new h3 (.cons' t2 .nil')
  generalize upd Hb p3 (.tup [.str "s", .ref p2]) = Hc at sC t3 hpa hD1 ⊢
  have sD := same_new hpa (.tup [tv, v, ov, .ref p1, .ref p3])
  have s4 := ((sA.trans sB).trans sC).trans sD
  have hpa4 : upd Hc pa (.tup [tv, v, ov, .ref p1, .ref p3]) pa = some (.tup [tv, v, ov, .ref p1, .ref p3]) := upd_same
  have t4 : TrL (upd Hc pa (.tup [tv, v, ov, .ref p1, .ref p3])) [tv, v, ov, .ref p1, .ref p3] bs5 := .cons' (gt.same s4) (.cons' (gv.same s4) (.cons' (go.same s4) (.cons' (((t1.same sB).same sC).same sD) (.cons' (t3.same sD) .nil'))))
  replace gv := gv.same s4
  replace gs := gs.same s4
  replace gt := gt.same s4
  replace go := go.same s4
  replace htb := s4 _ _ htb
  generalize upd Hc pa (.tup [tv, v, ov, .ref p1, .ref p3]) = Hd at s4 hpa4 t4 hD1 gv gs gt go htb ⊢
  clear sA sB sC sD t1 t2 t3 h1 h2 h3 hpa s4
  refine lc_tupD (K := K) (a := pa) (j := 3) (ds := bs5.map fun t => .int (topsN t : Nat)) hpa4 rfl (sz rfl) hD1 (fun i y d H5 Q' hy hd s5 k => ?_) (fun H5 acc s5 hacc hall => ?_)
  · obtain ⟨b', hb', rfl⟩ := map_get hd
    have ok : Okb 12 b' := okB_ok (List.all_eq_true.mp (show bs5.all okB = true by decide +kernel) b' (List.mem_of_getElem? hb'))
    exact ⟨_, rfl, y, rfl, .inl ⟨b', ⟨(TrL.at t4 hy hb').same s5, ok⟩, fun H6 s6 => k _ _ s6 (.int _)⟩⟩
  refine ⟨sz rfl, fun q1 hq1 => ?_⟩
  have s6 := s5.trans (same_new hq1 (.lst [V.int 1, .int 2, .int 3, .int 5, .int 4]))
  have hd1 := (hall.same (same_new hq1 (.lst [V.int 1, .int 2, .int 3, .int 5, .int 4]))).dp (K := K)
  have hl1 := same_new hq1 (.lst [V.int 1, .int 2, .int 3, .int 5, .int 4]) _ _ hacc
  refine ⟨.list (bs5.map fun t => .int (topsN t : Nat)), .list [.int 1, .int 2, .int 3, .int 5, .int 4], .lst (SqL.of hl1) hd1, .lst (SqL.of upd_same) (.cons (.int _) (.cons (.int _) (.cons (.int _) (.cons (.int _) (.cons (.int _) .nil))))), by decide +kernel, by decide +kernel, ?_⟩
  rw [show PyData.eqv (.list (bs5.map fun t => .int (topsN t : Nat))) (.list [.int 1, .int 2, .int 3, .int 5, .int 4]) = true by decide +kernel]
  refine ⟨_, rfl, it0 ?_⟩
  replace gv := gv.same s6
  replace gs := gs.same s6
  replace gt := gt.same s6
  replace go := go.same s6
  replace htb := s6 _ _ htb
  generalize upd H5 q1 (.lst [V.int 1, .int 2, .int 3, .int 5, .int 4]) = H6 at s6 gv gs gt go htb ⊢
  clear hl1 hd1 hq1 hall hacc s5 hD1 t4 hpa4 s6
  -- lots
  have okV : Okb 12 bV := okB_ok (by decide +kernel)
  have okO : Okb 12 bOne := okB_ok (by decide +kernel)
  have ok0 : Okb 12 .tip := okB_ok (by decide +kernel)
  refine ⟨_, rfl, _, rfl, v, ov, rfl, .inl ⟨bV, bOne, ⟨gv, okV⟩, ⟨go, okO⟩, fun lv H7 s7 tl => ?_⟩⟩
  refine ⟨_, rfl, sz rfl, fun p1 h1 => ⟨sz rfl, fun p2 h2 => ?_⟩⟩
  have s8 := (same_new h1 (.tup [.int 0, v])).trans (same_new h2 (.tup [.ref p1]))
  have tr : Tp (upd (upd H7 p1 (.tup [.int 0, v])) p2 (.tup [.ref p1])) (.ref p2) (.tuple [.tuple [.int 0, td bV]]) := Tp.tup upd_same (.cons (Tp.same (Tp.tup upd_same (.cons (.int 0) (.cons ((gv.same s7).same (same_new h1 _)) .nil))) (same_new h2 _)) .nil)
  refine ⟨lotO' bV bOne, .tuple [.tuple [.int 0, td bV]], (tl.same s8).dp, tr.dp, by decide +kernel, by decide +kernel, ?_⟩
  rw [show PyData.eqv (lotO' bV bOne) (.tuple [.tuple [.int 0, td bV]]) = true by decide +kernel]
  refine ⟨_, rfl, it0 ?_⟩
  replace s8 := s7.trans s8
  replace gv := gv.same s8
  replace gs := gs.same s8
  replace gt := gt.same s8
  replace go := go.same s8
  replace htb := s8 _ _ htb
  generalize upd (upd H7 p1 (.tup [.int 0, v])) p2 (.tup [.ref p1]) = H8 at gv gs gt go htb ⊢
  clear s8 s7 tl tr h1 h2
  refine ⟨_, rfl, _, rfl, ov, v, rfl, .inl ⟨bOne, bV, ⟨go, okO⟩, ⟨gv, okV⟩, fun lv H9 s9 tl => ?_⟩⟩
  rw [show lotO' bOne bV = .none from rfl] at tl
  cases tl
  refine ⟨_, rfl, it0 ?_⟩
  replace gv := gv.same s9
  replace gs := gs.same s9
  replace gt := gt.same s9
  replace go := go.same s9
  replace htb := s9 _ _ htb
  clear s9
  refine ⟨_, rfl, _, rfl, tv, tv, rfl, .inl ⟨.tip, .tip, ⟨gt, ok0⟩, ⟨gt, ok0⟩, fun lv H10 s10 tl => ⟨.tuple [], tl, sh_nil, fun H11 s11 => ?_⟩⟩⟩
  rw [show PyData.eqv (.tuple []) (.tuple []) = true by decide +kernel]
  refine it0 ?_
  replace s11 := s10.trans s11
  replace gv := gv.same s11
  replace gs := gs.same s11
  replace gt := gt.same s11
  replace htb := s11 _ _ htb
  clear tl s11 s10
  refine ⟨_, rfl, _, rfl, sz rfl, fun p1 h1 => ⟨_, rfl, sz rfl, fun p2 h2 => ⟨_, rfl, sz rfl, fun p3 h3 => ?_⟩⟩⟩
  have sA := same_new h1 (.tup [.str "v", sv, tv])
  have t1 : Tr (upd H11 p1 (.tup [.str "v", sv, tv])) (.ref p1) (.kn 118 [bS, .tip]) := Tr.new h1 (.cons' gs (.cons' gt .nil'))
  generalize upd H11 p1 (.tup [.str "v", sv, tv]) = Ha at sA t1 h2 h3 ⊢
  have sB := same_new h2 (.tup [.str "s", v])
  have t2 : Tr (upd Ha p2 (.tup [.str "s", v])) (.ref p2) (.kn 115 [bV]) := Tr.new h2 (.cons' (gv.same sA) .nil')
  generalize upd Ha p2 (.tup [.str "s", v]) = Hb at sB t2 h3 ⊢
  have sC := same_new h3 (.tup [.str "v", .ref p2, sv])
  have t3 : Tr (upd Hb p3 (.tup [.str "v", .ref p2, sv])) (.ref p3) (.kn 118 [.kn 115 [bV], bS]) := Tr.new h3 (.cons' t2 (.cons' ((gs.same sA).same sB) .nil'))
  generalize upd Hb p3 (.tup [.str "v", .ref p2, sv]) = Hc at sC t3 ⊢
  have s3 := (sA.trans sB).trans sC
  refine ⟨.ref p1, .ref p3, rfl, .inl ⟨_, _, ⟨(t1.same sB).same sC, okB_ok (by decide +kernel)⟩, ⟨t3, okB_ok (by decide +kernel)⟩, fun lv H12 s12 tl => ?_⟩⟩
  replace s3 := s3.trans s12
  replace gv := gv.same s3
  replace gs := gs.same s3
  replace htb := s3 _ _ htb
  clear s3 s12 sA sB sC t1 t2 t3 h1 h2 h3
  refine ⟨_, rfl, sz rfl, fun q1 h1 => ⟨_, rfl, sz rfl, fun q2 h2 => ⟨sz rfl, fun q3 h3 => ?_⟩⟩⟩
  have sA := same_new h1 (.tup [.int 0, v])
  have t1 : Tp (upd H12 q1 (.tup [.int 0, v])) (.ref q1) (.tuple [.int 0, td bV]) := Tp.tup upd_same (.cons (.int 0) (.cons (gv.same sA) .nil))
  generalize upd H12 q1 (.tup [.int 0, v]) = Ha at sA t1 h2 h3 ⊢
  have sB := same_new h2 (.tup [.int 1, sv])
  have t2 : Tp (upd Ha q2 (.tup [.int 1, sv])) (.ref q2) (.tuple [.int 1, td bS]) := Tp.tup upd_same (.cons (.int 1) (.cons ((gs.same sA).same sB) .nil))
  generalize upd Ha q2 (.tup [.int 1, sv]) = Hb at sB t2 h3 ⊢
  have sC := same_new h3 (.tup [.ref q1, .ref q2])
  have t3 : Tp (upd Hb q3 (.tup [.ref q1, .ref q2])) (.ref q3) (.tuple [.tuple [.int 0, td bV], .tuple [.int 1, td bS]]) := Tp.tup upd_same (.cons ((t1.same sB).same sC) (.cons (t2.same sC) .nil))
  generalize upd Hb q3 (.tup [.ref q1, .ref q2]) = Hc at sC t3 ⊢
  have s3 := (sA.trans sB).trans sC
  refine ⟨_, _, (tl.same s3).dp, t3.dp, by decide +kernel, by decide +kernel, ?_⟩
  rw [show PyData.eqv (lotO' (.kn 118 [bS, .tip]) (.kn 118 [.kn 115 [bV], bS])) (.tuple [.tuple [.int 0, td bV], .tuple [.int 1, td bS]]) = true by decide +kernel]
  refine ⟨_, rfl, it0 ?_⟩
  exact ⟨⟨_, _, _, _, _, _, _, _, _, _, _, _, _, _, _, _, _, v, bV, rfl, ⟨gv.same s3, okV⟩, s3 _ _ htb⟩, q⟩
end
end Tw
set_option Elab.async false
set_option linter.all false
set_option maxRecDepth 100000
set_option maxHeartbeats 4000000
namespace Tw
open PySem PySem.Spec PyProof.Rows L2
/-! ### law: rows of bushes -/
def rowd (p : Tw.T × Tw.T) : PyData := .tuple [td p.1, td p.2, td (met p.1 p.2), opt (joinO p.1 p.2), optd (clash p.1 p.2)]
def rowsL : List (Tw.T × Tw.T) := [(bOne, bTwo), (bV, bS), (bOne, .kn 118 [bS, bV]), (.tip, bOne), (.tip, .tip), (bOne, bOne), (bV, .kn 118 [.tip, .tip, .tip]), (.kn 118 [bS, bV], .kn 118 [.kn 115 [bV], bV])]
theorem rowd_inv {H : Hp} {v : V} {p : Tw.T × Tw.T} (h : Tp H v (rowd p)) : ∃ a x1 x2 x3 x4 x5, v = .ref a ∧ H a = some (.tup [x1, x2, x3, x4, x5]) ∧ Tr H x1 p.1 ∧ Tr H x2 p.2 ∧ Tr H x3 (met p.1 p.2) ∧ Tp H x4 (opt (joinO p.1 p.2)) ∧ Tp H x5 (optd (clash p.1 p.2)) := by
  rw [rowd] at h
  cases h with
  | tup e t =>
    obtain ⟨x1, w1, rfl, h1, t⟩ := TpAll.cons_inv t
    obtain ⟨x2, w2, rfl, h2, t⟩ := TpAll.cons_inv t
    obtain ⟨x3, w3, rfl, h3, t⟩ := TpAll.cons_inv t
    obtain ⟨x4, w4, rfl, h4, t⟩ := TpAll.cons_inv t
    obtain ⟨x5, w5, rfl, h5, t⟩ := TpAll.cons_inv t
    cases t
    exact ⟨_, _, _, _, _, _, rfl, e, h1, h2, h3, h4, h5⟩
def selfB (d : PyData) : Bool := SeqAt.shaped d && PyData.eqv d d
def rowOk (p : Tw.T × Tw.T) : Bool := okB p.1 && okB p.2 && Nat.ble (knots p.1 + knots p.2) 12 && selfB (td (met p.1 p.2)) && selfB (opt (joinO p.1 p.2)) && selfB (optd (clash p.1 p.2))
theorem rows_ok : rowsL.all rowOk = true := by decide +kernel
structure RowOk (p : Tw.T × Tw.T) : Prop where
  o1 : Okb 12 p.1
  o2 : Okb 12 p.2
  few : knots p.1 + knots p.2 ≤ 12
  m1 : SeqAt.shaped (td (met p.1 p.2)) = true
  m2 : PyData.eqv (td (met p.1 p.2)) (td (met p.1 p.2)) = true
  j1 : SeqAt.shaped (opt (joinO p.1 p.2)) = true
  j2 : PyData.eqv (opt (joinO p.1 p.2)) (opt (joinO p.1 p.2)) = true
  c1 : SeqAt.shaped (optd (clash p.1 p.2)) = true
  c2 : PyData.eqv (optd (clash p.1 p.2)) (optd (clash p.1 p.2)) = true
theorem row_ok {p : Tw.T × Tw.T} (h : p ∈ rowsL) : RowOk p := by
  have := List.all_eq_true.mp rows_ok p h
  simp only [rowOk, selfB, Bool.and_eq_true] at this
  obtain ⟨⟨⟨⟨⟨h1, h2⟩, h3⟩, h4, h5⟩, h6, h7⟩, h8, h9⟩ := this
  exact ⟨okB_ok h1, okB_ok h2, Nat.le_of_ble_eq_true h3, h4, h5, h6, h7, h8, h9⟩
section
variable {P : Program} {w : World} {K : PySem.W.Frag} {mg : Str → Option Value} {base : Heap}
theorem law_rows (C : LawCalls P w K mg base) {f cc tb : Addr} {A : Around} {outer : List Env} {s : Shared} {H0 : Hp} {E : XK} (TB : LamX.TabB base mg cc tb) (hr : Room 60 (A.deeper (envOfC "law" (defScope (top 60)) s.heap.objs.size f (.ref cc)))) :
    PSs (lawX P w K mg base f (.ref cc) A outer s H0 E) (lawTail 2) (fun D σ H => (∃ (z0 z1 z2 z3 z4 z5 z6 z7 z8 z9 z10 z11 z12 z13 z14 z15 z16 z17 : Option V), σ = [z0, z1, z2, z3, z4, z5, z6, z7, z8, z9, z10, z11, z12, z13, z14, z15, z16, z17] ∧ H tb = some (.tbl #[])) ∧ ∀ H', D.rt (.bl true) H') := by
  refine ⟨fun pins s1 σ H D I h => ?_⟩
  suffices z : ∃ t, PSs (lawX P w K mg base f (.ref cc) A outer s H0 E) (lawTail 2) t ∧ t D σ H from by
    obtain ⟨t, h1, h2⟩ := z
    exact h1.run pins s1 σ H D I h2
  clear I
  have T := C.L.T
  have tail := law_checks C (A := A) (outer := outer) (s := s) (H0 := H0) (E := E) TB hr
  obtain ⟨L, ccount_tops, clot_between, ccommon_top, cjoined_tops, cclash_road, c_law_right⟩ := C
  refine ⟨_, (pss_cons (ps_asg (pe_tup (pa_cons (pe_tup (pa_cons pe_str (pa_cons (pe_tup pa_nil) (pa_cons (pe_tup pa_nil) pa_nil)))) (pa_cons (pe_tup (pa_cons pe_str (pa_cons (pe_tup pa_nil) pa_nil))) (pa_cons (pe_tup pa_nil) pa_nil)))) (pg_tup rfl (pgs_cons (pg_name (i := 5) sclaw.nd rfl (Or.inr rfl)) (pgs_cons (pg_name (i := 6) sclaw.nd rfl (Or.inl rfl)) (pgs_cons (pg_name (i := 7) sclaw.nd rfl (Or.inl rfl)) pgs_nil)))))
      (pss_cons (ps_par (i := 8) (j := 9) (by rfl) sclaw.nd rfl rfl (by decide) rfl rfl (pa_cons (pe_tup (pa_cons pe_str (pa_cons (pv 5) (pa_cons (pv 7) pa_nil)))) (pa_cons (pe_tup (pa_cons pe_str (pa_cons (pv 7) (pa_cons (pv 5) pa_nil)))) pa_nil)) (by rfl))
      (pss_cons (ps_set (i := 10) sclaw.nd rfl (Or.inl rfl) (pe_lst (pa_cons (pe_tup (pa_cons (pv 8) (pa_cons (pv 9) (pa_cons (pv 5) (pa_cons (pe_tup (pa_cons pe_str (pa_cons (pv 5) (pa_cons (pv 5) pa_nil)))) (pa_cons pe_non pa_nil)))))) (pa_cons (pe_tup (pa_cons (pv 5) (pa_cons (pv 6) (pa_cons (pv 7) (pa_cons pe_non (pa_cons (pe_tup pa_nil) pa_nil)))))) (pa_cons (pe_tup (pa_cons (pv 8) (pa_cons (pe_tup (pa_cons pe_str (pa_cons (pv 6) (pa_cons (pv 5) pa_nil)))) (pa_cons (pv 5) (pa_cons pe_non (pa_cons (pe_tup (pa_cons pe_int pa_nil)) pa_nil)))))) pa_nil)))))
      (pss_cons (ps_set (i := 10) sclaw.nd rfl (Or.inl rfl) (pe_op op_cat (pv 10) (pe_lst (pa_cons (pe_tup (pa_cons (pv 7) (pa_cons (pv 8) (pa_cons (pv 7) (pa_cons (pv 8) (pa_cons pe_non pa_nil)))))) (pa_cons (pe_tup (pa_cons (pv 7) (pa_cons (pv 7) (pa_cons (pv 7) (pa_cons (pv 7) (pa_cons pe_non pa_nil)))))) (pa_cons (pe_tup (pa_cons (pv 8) (pa_cons (pv 8) (pa_cons (pv 8) (pa_cons (pv 8) (pa_cons pe_non pa_nil)))))) (pa_cons (pe_tup (pa_cons (pv 5) (pa_cons (pe_tup (pa_cons pe_str (pa_cons (pe_tup pa_nil) (pa_cons (pe_tup pa_nil) (pa_cons (pe_tup pa_nil) pa_nil))))) (pa_cons (pv 7) (pa_cons pe_non (pa_cons (pe_tup pa_nil) pa_nil)))))) pa_nil)))))))
      (pss_cons (ps_set (i := 10) sclaw.nd rfl (Or.inl rfl) (pe_op op_cat (pv 10) (pe_lst (pa_cons (pe_tup (pa_cons (pe_tup (pa_cons pe_str (pa_cons (pv 6) (pa_cons (pv 5) pa_nil)))) (pa_cons (pe_tup (pa_cons pe_str (pa_cons (pe_tup (pa_cons pe_str (pa_cons (pv 5) pa_nil))) (pa_cons (pv 5) pa_nil)))) (pa_cons (pe_tup (pa_cons pe_str (pa_cons (pv 6) (pa_cons (pv 5) pa_nil)))) (pa_cons (pe_tup (pa_cons pe_str (pa_cons (pe_tup (pa_cons pe_str (pa_cons (pv 5) pa_nil))) (pa_cons (pv 5) pa_nil)))) (pa_cons pe_non pa_nil)))))) pa_nil))))
      (pss_cons (ps_for PassesOwn.never rfl (pi_list (pv 10)) (pg_tup rfl (pgs_cons (pg_name (i := 3) sclaw.nd rfl (Or.inl rfl)) (pgs_cons (pg_name (i := 4) sclaw.nd rfl (Or.inl rfl)) (pgs_cons (pg_name (i := 11) sclaw.nd rfl (Or.inl rfl)) (pgs_cons (pg_name (i := 12) sclaw.nd rfl (Or.inl rfl)) (pgs_cons (pg_name (i := 13) sclaw.nd rfl (Or.inl rfl)) pgs_nil)))))) (pss_cons (ps_if (PW.pt (pw_or (pt_cmpR (op_neD hr.units) (pe_cl ccommon_top hr (by omega) rfl (pa_cons (pv 3) (pa_cons (pv 4) pa_nil))) (pv 11) (nomark _)) (pw_or (pt_cmpR (op_neD hr.units) (pe_cl cjoined_tops hr (by omega) rfl (pa_cons (pv 3) (pa_cons (pv 4) pa_nil))) (pv 12) (nomark _)) (pw_or1 (pt_cmpR (op_neD hr.units) (pe_cl cclash_road hr (by omega) rfl (pa_cons (pv 3) (pa_cons (pv 4) pa_nil))) (pv 13) (nomark _)))))) (pss_one (ps_ret pe_bl)) pss_nil)
      (pss_one (ps_if (PW.pt (pw_or (pt_not (pt_val (pe_cl c_law_right hr (by omega) rfl (pa_cons (pv 3) (pa_cons (pv 4) pa_nil))))) (pw_or1 (pt_not (pt_val (pe_cl c_law_right hr (by omega) rfl (pa_cons (pv 4) (pa_cons (pv 3) pa_nil)))))))) (pss_one (ps_ret pe_bl)) pss_nil))))
      (by exact tail))))))), ?_⟩
  clear tail TB
  obtain ⟨⟨z0, z1, z2, z3, z4, z5, z6, z7, z8, z9, z10, z11, z12, z13, z14, z15, z16, z17, rfl, htb⟩, q0⟩ := h
  refine ⟨sz rfl, fun e1 n_e1 => ?_⟩
  have s := same_new n_e1 (.tup [])
  replace htb := s _ _ htb
  have te1 : Tr (upd H e1 (.tup [])) (.ref e1) .tip := Tr.new0
  generalize upd H e1 (.tup []) = H1 at htb te1 ⊢
  clear s n_e1
  refine ⟨sz rfl, fun e2 n_e2 => ?_⟩
  have s := same_new n_e2 (.tup [])
  replace te1 := te1.same s
  replace htb := s _ _ htb
  have te2 : Tr (upd H1 e2 (.tup [])) (.ref e2) .tip := Tr.new0
  generalize upd H1 e2 (.tup []) = H2 at te1 htb te2 ⊢
  clear s n_e2
  refine ⟨sz rfl, fun v n_v => ?_⟩
  have s := same_new n_v (.tup [.str "v", .ref e1, .ref e2])
  replace te1 := te1.same s
  replace te2 := te2.same s
  replace htb := s _ _ htb
  have tv : Tr (upd H2 v (.tup [.str "v", .ref e1, .ref e2])) (.ref v) bV := Tr.kn upd_same (.cons' te1 (.cons' te2 .nil'))
  generalize upd H2 v (.tup [.str "v", .ref e1, .ref e2]) = H3 at te1 te2 htb tv ⊢
  clear s n_v
  refine ⟨sz rfl, fun e3 n_e3 => ?_⟩
  have s := same_new n_e3 (.tup [])
  replace te1 := te1.same s
  replace te2 := te2.same s
  replace tv := tv.same s
  replace htb := s _ _ htb
  have te3 : Tr (upd H3 e3 (.tup [])) (.ref e3) .tip := Tr.new0
  generalize upd H3 e3 (.tup []) = H4 at te1 te2 tv htb te3 ⊢
  clear s n_e3
  refine ⟨sz rfl, fun q n_q => ?_⟩
  have s := same_new n_q (.tup [.str "s", .ref e3])
  replace te1 := te1.same s
  replace te2 := te2.same s
  replace tv := tv.same s
  replace te3 := te3.same s
  replace htb := s _ _ htb
  have tq : Tr (upd H4 q (.tup [.str "s", .ref e3])) (.ref q) bS := Tr.kn upd_same (.cons' te3 .nil')
  generalize upd H4 q (.tup [.str "s", .ref e3]) = H5 at te1 te2 tv te3 htb tq ⊢
  clear s n_q
  refine ⟨sz rfl, fun t n_t => ?_⟩
  have s := same_new n_t (.tup [])
  replace te1 := te1.same s
  replace te2 := te2.same s
  replace tv := tv.same s
  replace te3 := te3.same s
  replace tq := tq.same s
  replace htb := s _ _ htb
  have tt : Tr (upd H5 t (.tup [])) (.ref t) .tip := Tr.new0
  generalize upd H5 t (.tup []) = H6 at te1 te2 tv te3 tq htb tt ⊢
  clear s n_t
  refine ⟨sz rfl, fun u n_u => ?_⟩
  have s := same_new n_u (.tup [.ref v, .ref q, .ref t])
  replace te1 := te1.same s
  replace te2 := te2.same s
  replace tv := tv.same s
  replace te3 := te3.same s
  replace tq := tq.same s
  replace tt := tt.same s
  replace htb := s _ _ htb
  have hu : upd H6 u (.tup [.ref v, .ref q, .ref t]) u = some (.tup [.ref v, .ref q, .ref t]) := upd_same
  generalize upd H6 u (.tup [.ref v, .ref q, .ref t]) = H7 at te1 te2 tv te3 tq tt htb hu ⊢
  clear s n_u
  refine ⟨u, _, rfl, SqT.of hu, rfl, _, _, rfl, _, _, rfl, _, _, rfl, rfl, ?_⟩
  refine ⟨_, rfl, _, rfl, sz rfl, fun o n_o => ?_⟩
  have s := same_new n_o (.tup [.str "v", .ref v, .ref t])
  replace te1 := te1.same s
  replace te2 := te2.same s
  replace tv := tv.same s
  replace te3 := te3.same s
  replace tq := tq.same s
  replace tt := tt.same s
  replace htb := s _ _ htb
  replace hu := s _ _ hu
  have to : Tr (upd H7 o (.tup [.str "v", .ref v, .ref t])) (.ref o) bOne := Tr.kn upd_same (.cons' tv (.cons' tt .nil'))
  generalize upd H7 o (.tup [.str "v", .ref v, .ref t]) = H8 at te1 te2 tv te3 tq tt htb hu to ⊢
  clear s n_o
  refine ⟨_, rfl, _, rfl, sz rfl, fun w2 n_w2 => ?_⟩
  have s := same_new n_w2 (.tup [.str "v", .ref t, .ref v])
  replace te1 := te1.same s
  replace te2 := te2.same s
  replace tv := tv.same s
  replace te3 := te3.same s
  replace tq := tq.same s
  replace tt := tt.same s
  replace to := to.same s
  replace htb := s _ _ htb
  replace hu := s _ _ hu
  have tw2 : Tr (upd H8 w2 (.tup [.str "v", .ref t, .ref v])) (.ref w2) bTwo := Tr.kn upd_same (.cons' tt (.cons' tv .nil'))
  generalize upd H8 w2 (.tup [.str "v", .ref t, .ref v]) = H9 at te1 te2 tv te3 tq tt to htb hu tw2 ⊢
  clear s n_w2
  refine ⟨_, _, rfl, ?_⟩
  refine ⟨_, rfl, _, rfl, _, rfl, _, rfl, _, rfl, sz rfl, fun i1 n_i1 => ?_⟩
  have s := same_new n_i1 (.tup [.str "v", .ref v, .ref v])
  replace te1 := te1.same s
  replace te2 := te2.same s
  replace tv := tv.same s
  replace te3 := te3.same s
  replace tq := tq.same s
  replace tt := tt.same s
  replace to := to.same s
  replace tw2 := tw2.same s
  replace htb := s _ _ htb
  replace hu := s _ _ hu
  have ti1 : Tr (upd H9 i1 (.tup [.str "v", .ref v, .ref v])) (.ref i1) (.kn 118 [bV, bV]) := Tr.kn upd_same (.cons' tv (.cons' tv .nil'))
  generalize upd H9 i1 (.tup [.str "v", .ref v, .ref v]) = H10 at te1 te2 tv te3 tq tt to tw2 htb hu ti1 ⊢
  clear s n_i1
  refine ⟨sz rfl, fun r1 n_r1 => ?_⟩
  have s := same_new n_r1 (.tup [.ref o, .ref w2, .ref v, .ref i1, .non])
  replace te1 := te1.same s
  replace te2 := te2.same s
  replace tv := tv.same s
  replace te3 := te3.same s
  replace tq := tq.same s
  replace tt := tt.same s
  replace to := to.same s
  replace tw2 := tw2.same s
  replace ti1 := ti1.same s
  replace htb := s _ _ htb
  replace hu := s _ _ hu
  have tr1 : Tp (upd H10 r1 (.tup [.ref o, .ref w2, .ref v, .ref i1, .non])) (.ref r1) (rowd (bOne, bTwo)) := by rw [show rowd (bOne, bTwo) = .tuple [td bOne, td bTwo, td bV, td (.kn 118 [bV, bV]), .none] from rfl]; exact Tp.tup upd_same (.cons to (.cons tw2 (.cons tv (.cons ti1 (.cons .non .nil)))))
  generalize upd H10 r1 (.tup [.ref o, .ref w2, .ref v, .ref i1, .non]) = H11 at te1 te2 tv te3 tq tt to tw2 ti1 htb hu tr1 ⊢
  clear s n_r1
  refine ⟨_, rfl, _, rfl, _, rfl, sz rfl, fun i2 n_i2 => ?_⟩
  have s := same_new n_i2 (.tup [])
  replace te1 := te1.same s
  replace te2 := te2.same s
  replace tv := tv.same s
  replace te3 := te3.same s
  replace tq := tq.same s
  replace tt := tt.same s
  replace to := to.same s
  replace tw2 := tw2.same s
  replace ti1 := ti1.same s
  replace tr1 := tr1.same s
  replace htb := s _ _ htb
  replace hu := s _ _ hu
  have ti2 : Tr (upd H11 i2 (.tup [])) (.ref i2) .tip := Tr.new0
  generalize upd H11 i2 (.tup []) = H12 at te1 te2 tv te3 tq tt to tw2 ti1 tr1 htb hu ti2 ⊢
  clear s n_i2
  refine ⟨sz rfl, fun r2 n_r2 => ?_⟩
  have s := same_new n_r2 (.tup [.ref v, .ref q, .ref t, .non, .ref i2])
  replace te1 := te1.same s
  replace te2 := te2.same s
  replace tv := tv.same s
  replace te3 := te3.same s
  replace tq := tq.same s
  replace tt := tt.same s
  replace to := to.same s
  replace tw2 := tw2.same s
  replace ti1 := ti1.same s
  replace tr1 := tr1.same s
  replace ti2 := ti2.same s
  replace htb := s _ _ htb
  replace hu := s _ _ hu
  have tr2 : Tp (upd H12 r2 (.tup [.ref v, .ref q, .ref t, .non, .ref i2])) (.ref r2) (rowd (bV, bS)) := by rw [show rowd (bV, bS) = .tuple [td bV, td bS, td .tip, .none, td .tip] from rfl]; exact Tp.tup upd_same (.cons tv (.cons tq (.cons tt (.cons .non (.cons ti2 .nil)))))
  generalize upd H12 r2 (.tup [.ref v, .ref q, .ref t, .non, .ref i2]) = H13 at te1 te2 tv te3 tq tt to tw2 ti1 tr1 ti2 htb hu tr2 ⊢
  clear s n_r2
  refine ⟨_, rfl, _, rfl, _, rfl, sz rfl, fun i3 n_i3 => ?_⟩
  have s := same_new n_i3 (.tup [.str "v", .ref q, .ref v])
  replace te1 := te1.same s
  replace te2 := te2.same s
  replace tv := tv.same s
  replace te3 := te3.same s
  replace tq := tq.same s
  replace tt := tt.same s
  replace to := to.same s
  replace tw2 := tw2.same s
  replace ti1 := ti1.same s
  replace tr1 := tr1.same s
  replace ti2 := ti2.same s
  replace tr2 := tr2.same s
  replace htb := s _ _ htb
  replace hu := s _ _ hu
  have ti3 : Tr (upd H13 i3 (.tup [.str "v", .ref q, .ref v])) (.ref i3) (.kn 118 [bS, bV]) := Tr.kn upd_same (.cons' tq (.cons' tv .nil'))
  generalize upd H13 i3 (.tup [.str "v", .ref q, .ref v]) = H14 at te1 te2 tv te3 tq tt to tw2 ti1 tr1 ti2 tr2 htb hu ti3 ⊢
  clear s n_i3
  refine ⟨_, rfl, sz rfl, fun i4 n_i4 => ?_⟩
  have s := same_new n_i4 (.tup [.int 0])
  replace te1 := te1.same s
  replace te2 := te2.same s
  replace tv := tv.same s
  replace te3 := te3.same s
  replace tq := tq.same s
  replace tt := tt.same s
  replace to := to.same s
  replace tw2 := tw2.same s
  replace ti1 := ti1.same s
  replace tr1 := tr1.same s
  replace ti2 := ti2.same s
  replace tr2 := tr2.same s
  replace ti3 := ti3.same s
  replace htb := s _ _ htb
  replace hu := s _ _ hu
  have ti4 : Tp (upd H14 i4 (.tup [.int 0])) (.ref i4) (.tuple [.int 0]) := Tp.tup upd_same (.cons (.int 0) .nil)
  generalize upd H14 i4 (.tup [.int 0]) = H15 at te1 te2 tv te3 tq tt to tw2 ti1 tr1 ti2 tr2 ti3 htb hu ti4 ⊢
  clear s n_i4
  refine ⟨sz rfl, fun r3 n_r3 => ?_⟩
  have s := same_new n_r3 (.tup [.ref o, .ref i3, .ref v, .non, .ref i4])
  replace te1 := te1.same s
  replace te2 := te2.same s
  replace tv := tv.same s
  replace te3 := te3.same s
  replace tq := tq.same s
  replace tt := tt.same s
  replace to := to.same s
  replace tw2 := tw2.same s
  replace ti1 := ti1.same s
  replace tr1 := tr1.same s
  replace ti2 := ti2.same s
  replace tr2 := tr2.same s
  replace ti3 := ti3.same s
  replace ti4 := ti4.same s
  replace htb := s _ _ htb
  replace hu := s _ _ hu
  have tr3 : Tp (upd H15 r3 (.tup [.ref o, .ref i3, .ref v, .non, .ref i4])) (.ref r3) (rowd (bOne, .kn 118 [bS, bV])) := by rw [show rowd (bOne, .kn 118 [bS, bV]) = .tuple [td bOne, td (.kn 118 [bS, bV]), td bV, .none, .tuple [.int 0]] from rfl]; exact Tp.tup upd_same (.cons to (.cons ti3 (.cons tv (.cons .non (.cons ti4 .nil)))))
  generalize upd H15 r3 (.tup [.ref o, .ref i3, .ref v, .non, .ref i4]) = H16 at te1 te2 tv te3 tq tt to tw2 ti1 tr1 ti2 tr2 ti3 ti4 htb hu tr3 ⊢
  clear s n_r3
  refine ⟨sz rfl, fun l1 n_l1 => ?_⟩
  have s := same_new n_l1 (.lst [.ref r1, .ref r2, .ref r3])
  replace te1 := te1.same s
  replace te2 := te2.same s
  replace tv := tv.same s
  replace te3 := te3.same s
  replace tq := tq.same s
  replace tt := tt.same s
  replace to := to.same s
  replace tw2 := tw2.same s
  replace ti1 := ti1.same s
  replace tr1 := tr1.same s
  replace ti2 := ti2.same s
  replace tr2 := tr2.same s
  replace ti3 := ti3.same s
  replace ti4 := ti4.same s
  replace tr3 := tr3.same s
  replace htb := s _ _ htb
  replace hu := s _ _ hu
  have hl1 : upd H16 l1 (.lst [.ref r1, .ref r2, .ref r3]) l1 = some (.lst [.ref r1, .ref r2, .ref r3]) := upd_same
  generalize upd H16 l1 (.lst [.ref r1, .ref r2, .ref r3]) = H17 at te1 te2 tv te3 tq tt to tw2 ti1 tr1 ti2 tr2 ti3 ti4 tr3 htb hu hl1 ⊢
  clear s n_l1
  refine ⟨_, rfl, _, rfl, _, rfl, _, rfl, _, rfl, sz rfl, fun r4 n_r4 => ?_⟩
  have s := same_new n_r4 (.tup [.ref t, .ref o, .ref t, .ref o, .non])
  replace te1 := te1.same s
  replace te2 := te2.same s
  replace tv := tv.same s
  replace te3 := te3.same s
  replace tq := tq.same s
  replace tt := tt.same s
  replace to := to.same s
  replace tw2 := tw2.same s
  replace ti1 := ti1.same s
  replace tr1 := tr1.same s
  replace ti2 := ti2.same s
  replace tr2 := tr2.same s
  replace ti3 := ti3.same s
  replace ti4 := ti4.same s
  replace tr3 := tr3.same s
  replace htb := s _ _ htb
  replace hu := s _ _ hu
  replace hl1 := s _ _ hl1
  have tr4 : Tp (upd H17 r4 (.tup [.ref t, .ref o, .ref t, .ref o, .non])) (.ref r4) (rowd (.tip, bOne)) := by rw [show rowd (.tip, bOne) = .tuple [td .tip, td bOne, td .tip, td bOne, .none] from rfl]; exact Tp.tup upd_same (.cons tt (.cons to (.cons tt (.cons to (.cons .non .nil)))))
  generalize upd H17 r4 (.tup [.ref t, .ref o, .ref t, .ref o, .non]) = H18 at te1 te2 tv te3 tq tt to tw2 ti1 tr1 ti2 tr2 ti3 ti4 tr3 htb hu hl1 tr4 ⊢
  clear s n_r4
  refine ⟨_, rfl, _, rfl, _, rfl, _, rfl, sz rfl, fun r5 n_r5 => ?_⟩
  have s := same_new n_r5 (.tup [.ref t, .ref t, .ref t, .ref t, .non])
  replace te1 := te1.same s
  replace te2 := te2.same s
  replace tv := tv.same s
  replace te3 := te3.same s
  replace tq := tq.same s
  replace tt := tt.same s
  replace to := to.same s
  replace tw2 := tw2.same s
  replace ti1 := ti1.same s
  replace tr1 := tr1.same s
  replace ti2 := ti2.same s
  replace tr2 := tr2.same s
  replace ti3 := ti3.same s
  replace ti4 := ti4.same s
  replace tr3 := tr3.same s
  replace tr4 := tr4.same s
  replace htb := s _ _ htb
  replace hu := s _ _ hu
  replace hl1 := s _ _ hl1
  have tr5 : Tp (upd H18 r5 (.tup [.ref t, .ref t, .ref t, .ref t, .non])) (.ref r5) (rowd (.tip, .tip)) := by rw [show rowd (.tip, .tip) = .tuple [td .tip, td .tip, td .tip, td .tip, .none] from rfl]; exact Tp.tup upd_same (.cons tt (.cons tt (.cons tt (.cons tt (.cons .non .nil)))))
  generalize upd H18 r5 (.tup [.ref t, .ref t, .ref t, .ref t, .non]) = H19 at te1 te2 tv te3 tq tt to tw2 ti1 tr1 ti2 tr2 ti3 ti4 tr3 tr4 htb hu hl1 tr5 ⊢
  clear s n_r5
  refine ⟨_, rfl, _, rfl, _, rfl, _, rfl, sz rfl, fun r6 n_r6 => ?_⟩
  have s := same_new n_r6 (.tup [.ref o, .ref o, .ref o, .ref o, .non])
  replace te1 := te1.same s
  replace te2 := te2.same s
  replace tv := tv.same s
  replace te3 := te3.same s
  replace tq := tq.same s
  replace tt := tt.same s
  replace to := to.same s
  replace tw2 := tw2.same s
  replace ti1 := ti1.same s
  replace tr1 := tr1.same s
  replace ti2 := ti2.same s
  replace tr2 := tr2.same s
  replace ti3 := ti3.same s
  replace ti4 := ti4.same s
  replace tr3 := tr3.same s
  replace tr4 := tr4.same s
  replace tr5 := tr5.same s
  replace htb := s _ _ htb
  replace hu := s _ _ hu
  replace hl1 := s _ _ hl1
  have tr6 : Tp (upd H19 r6 (.tup [.ref o, .ref o, .ref o, .ref o, .non])) (.ref r6) (rowd (bOne, bOne)) := by rw [show rowd (bOne, bOne) = .tuple [td bOne, td bOne, td bOne, td bOne, .none] from rfl]; exact Tp.tup upd_same (.cons to (.cons to (.cons to (.cons to (.cons .non .nil)))))
  generalize upd H19 r6 (.tup [.ref o, .ref o, .ref o, .ref o, .non]) = H20 at te1 te2 tv te3 tq tt to tw2 ti1 tr1 ti2 tr2 ti3 ti4 tr3 tr4 tr5 htb hu hl1 tr6 ⊢
  clear s n_r6
  refine ⟨_, rfl, sz rfl, fun e4 n_e4 => ?_⟩
  have s := same_new n_e4 (.tup [])
  replace te1 := te1.same s
  replace te2 := te2.same s
  replace tv := tv.same s
  replace te3 := te3.same s
  replace tq := tq.same s
  replace tt := tt.same s
  replace to := to.same s
  replace tw2 := tw2.same s
  replace ti1 := ti1.same s
  replace tr1 := tr1.same s
  replace ti2 := ti2.same s
  replace tr2 := tr2.same s
  replace ti3 := ti3.same s
  replace ti4 := ti4.same s
  replace tr3 := tr3.same s
  replace tr4 := tr4.same s
  replace tr5 := tr5.same s
  replace tr6 := tr6.same s
  replace htb := s _ _ htb
  replace hu := s _ _ hu
  replace hl1 := s _ _ hl1
  have te4 : Tr (upd H20 e4 (.tup [])) (.ref e4) .tip := Tr.new0
  generalize upd H20 e4 (.tup []) = H21 at te1 te2 tv te3 tq tt to tw2 ti1 tr1 ti2 tr2 ti3 ti4 tr3 tr4 tr5 tr6 htb hu hl1 te4 ⊢
  clear s n_e4
  refine ⟨sz rfl, fun e5 n_e5 => ?_⟩
  have s := same_new n_e5 (.tup [])
  replace te1 := te1.same s
  replace te2 := te2.same s
  replace tv := tv.same s
  replace te3 := te3.same s
  replace tq := tq.same s
  replace tt := tt.same s
  replace to := to.same s
  replace tw2 := tw2.same s
  replace ti1 := ti1.same s
  replace tr1 := tr1.same s
  replace ti2 := ti2.same s
  replace tr2 := tr2.same s
  replace ti3 := ti3.same s
  replace ti4 := ti4.same s
  replace tr3 := tr3.same s
  replace tr4 := tr4.same s
  replace tr5 := tr5.same s
  replace tr6 := tr6.same s
  replace te4 := te4.same s
  replace htb := s _ _ htb
  replace hu := s _ _ hu
  replace hl1 := s _ _ hl1
  have te5 : Tr (upd H21 e5 (.tup [])) (.ref e5) .tip := Tr.new0
  generalize upd H21 e5 (.tup []) = H22 at te1 te2 tv te3 tq tt to tw2 ti1 tr1 ti2 tr2 ti3 ti4 tr3 tr4 tr5 tr6 te4 htb hu hl1 te5 ⊢
  clear s n_e5
  refine ⟨sz rfl, fun e6 n_e6 => ?_⟩
  have s := same_new n_e6 (.tup [])
  replace te1 := te1.same s
  replace te2 := te2.same s
  replace tv := tv.same s
  replace te3 := te3.same s
  replace tq := tq.same s
  replace tt := tt.same s
  replace to := to.same s
  replace tw2 := tw2.same s
  replace ti1 := ti1.same s
  replace tr1 := tr1.same s
  replace ti2 := ti2.same s
  replace tr2 := tr2.same s
  replace ti3 := ti3.same s
  replace ti4 := ti4.same s
  replace tr3 := tr3.same s
  replace tr4 := tr4.same s
  replace tr5 := tr5.same s
  replace tr6 := tr6.same s
  replace te4 := te4.same s
  replace te5 := te5.same s
  replace htb := s _ _ htb
  replace hu := s _ _ hu
  replace hl1 := s _ _ hl1
  have te6 : Tr (upd H22 e6 (.tup [])) (.ref e6) .tip := Tr.new0
  generalize upd H22 e6 (.tup []) = H23 at te1 te2 tv te3 tq tt to tw2 ti1 tr1 ti2 tr2 ti3 ti4 tr3 tr4 tr5 tr6 te4 te5 htb hu hl1 te6 ⊢
  clear s n_e6
  refine ⟨sz rfl, fun i5 n_i5 => ?_⟩
  have s := same_new n_i5 (.tup [.str "v", .ref e4, .ref e5, .ref e6])
  replace te1 := te1.same s
  replace te2 := te2.same s
  replace tv := tv.same s
  replace te3 := te3.same s
  replace tq := tq.same s
  replace tt := tt.same s
  replace to := to.same s
  replace tw2 := tw2.same s
  replace ti1 := ti1.same s
  replace tr1 := tr1.same s
  replace ti2 := ti2.same s
  replace tr2 := tr2.same s
  replace ti3 := ti3.same s
  replace ti4 := ti4.same s
  replace tr3 := tr3.same s
  replace tr4 := tr4.same s
  replace tr5 := tr5.same s
  replace tr6 := tr6.same s
  replace te4 := te4.same s
  replace te5 := te5.same s
  replace te6 := te6.same s
  replace htb := s _ _ htb
  replace hu := s _ _ hu
  replace hl1 := s _ _ hl1
  have ti5 : Tr (upd H23 i5 (.tup [.str "v", .ref e4, .ref e5, .ref e6])) (.ref i5) (.kn 118 [.tip, .tip, .tip]) := Tr.kn upd_same (.cons' te4 (.cons' te5 (.cons' te6 .nil')))
  generalize upd H23 i5 (.tup [.str "v", .ref e4, .ref e5, .ref e6]) = H24 at te1 te2 tv te3 tq tt to tw2 ti1 tr1 ti2 tr2 ti3 ti4 tr3 tr4 tr5 tr6 te4 te5 te6 htb hu hl1 ti5 ⊢
  clear s n_i5
  refine ⟨_, rfl, sz rfl, fun i6 n_i6 => ?_⟩
  have s := same_new n_i6 (.tup [])
  replace te1 := te1.same s
  replace te2 := te2.same s
  replace tv := tv.same s
  replace te3 := te3.same s
  replace tq := tq.same s
  replace tt := tt.same s
  replace to := to.same s
  replace tw2 := tw2.same s
  replace ti1 := ti1.same s
  replace tr1 := tr1.same s
  replace ti2 := ti2.same s
  replace tr2 := tr2.same s
  replace ti3 := ti3.same s
  replace ti4 := ti4.same s
  replace tr3 := tr3.same s
  replace tr4 := tr4.same s
  replace tr5 := tr5.same s
  replace tr6 := tr6.same s
  replace te4 := te4.same s
  replace te5 := te5.same s
  replace te6 := te6.same s
  replace ti5 := ti5.same s
  replace htb := s _ _ htb
  replace hu := s _ _ hu
  replace hl1 := s _ _ hl1
  have ti6 : Tr (upd H24 i6 (.tup [])) (.ref i6) .tip := Tr.new0
  generalize upd H24 i6 (.tup []) = H25 at te1 te2 tv te3 tq tt to tw2 ti1 tr1 ti2 tr2 ti3 ti4 tr3 tr4 tr5 tr6 te4 te5 te6 ti5 htb hu hl1 ti6 ⊢
  clear s n_i6
  refine ⟨sz rfl, fun r7 n_r7 => ?_⟩
  have s := same_new n_r7 (.tup [.ref v, .ref i5, .ref t, .non, .ref i6])
  replace te1 := te1.same s
  replace te2 := te2.same s
  replace tv := tv.same s
  replace te3 := te3.same s
  replace tq := tq.same s
  replace tt := tt.same s
  replace to := to.same s
  replace tw2 := tw2.same s
  replace ti1 := ti1.same s
  replace tr1 := tr1.same s
  replace ti2 := ti2.same s
  replace tr2 := tr2.same s
  replace ti3 := ti3.same s
  replace ti4 := ti4.same s
  replace tr3 := tr3.same s
  replace tr4 := tr4.same s
  replace tr5 := tr5.same s
  replace tr6 := tr6.same s
  replace te4 := te4.same s
  replace te5 := te5.same s
  replace te6 := te6.same s
  replace ti5 := ti5.same s
  replace ti6 := ti6.same s
  replace htb := s _ _ htb
  replace hu := s _ _ hu
  replace hl1 := s _ _ hl1
  have tr7 : Tp (upd H25 r7 (.tup [.ref v, .ref i5, .ref t, .non, .ref i6])) (.ref r7) (rowd (bV, .kn 118 [.tip, .tip, .tip])) := by rw [show rowd (bV, .kn 118 [.tip, .tip, .tip]) = .tuple [td bV, td (.kn 118 [.tip, .tip, .tip]), td .tip, .none, td .tip] from rfl]; exact Tp.tup upd_same (.cons tv (.cons ti5 (.cons tt (.cons .non (.cons ti6 .nil)))))
  generalize upd H25 r7 (.tup [.ref v, .ref i5, .ref t, .non, .ref i6]) = H26 at te1 te2 tv te3 tq tt to tw2 ti1 tr1 ti2 tr2 ti3 ti4 tr3 tr4 tr5 tr6 te4 te5 te6 ti5 ti6 htb hu hl1 tr7 ⊢
  clear s n_r7
  refine ⟨sz rfl, fun l2 n_l2 => ?_⟩
  have s := same_new n_l2 (.lst [.ref r4, .ref r5, .ref r6, .ref r7])
  replace te1 := te1.same s
  replace te2 := te2.same s
  replace tv := tv.same s
  replace te3 := te3.same s
  replace tq := tq.same s
  replace tt := tt.same s
  replace to := to.same s
  replace tw2 := tw2.same s
  replace ti1 := ti1.same s
  replace tr1 := tr1.same s
  replace ti2 := ti2.same s
  replace tr2 := tr2.same s
  replace ti3 := ti3.same s
  replace ti4 := ti4.same s
  replace tr3 := tr3.same s
  replace tr4 := tr4.same s
  replace tr5 := tr5.same s
  replace tr6 := tr6.same s
  replace te4 := te4.same s
  replace te5 := te5.same s
  replace te6 := te6.same s
  replace ti5 := ti5.same s
  replace ti6 := ti6.same s
  replace tr7 := tr7.same s
  replace htb := s _ _ htb
  replace hu := s _ _ hu
  replace hl1 := s _ _ hl1
  have hl2 : upd H26 l2 (.lst [.ref r4, .ref r5, .ref r6, .ref r7]) l2 = some (.lst [.ref r4, .ref r5, .ref r6, .ref r7]) := upd_same
  generalize upd H26 l2 (.lst [.ref r4, .ref r5, .ref r6, .ref r7]) = H27 at te1 te2 tv te3 tq tt to tw2 ti1 tr1 ti2 tr2 ti3 ti4 tr3 tr4 tr5 tr6 te4 te5 te6 ti5 ti6 tr7 htb hu hl1 hl2 ⊢
  clear s n_l2
  refine ⟨l1, l2, _, _, rfl, rfl, hl1, hl2, sz rfl, fun l3 hl3n => ?_⟩
  have s := same_new hl3n (.lst [.ref r1, .ref r2, .ref r3, .ref r4, .ref r5, .ref r6, .ref r7])
  have hl3 : upd H27 l3 (.lst [.ref r1, .ref r2, .ref r3, .ref r4, .ref r5, .ref r6, .ref r7]) l3 = some (.lst [.ref r1, .ref r2, .ref r3, .ref r4, .ref r5, .ref r6, .ref r7]) := upd_same
  replace te1 := te1.same s
  replace te2 := te2.same s
  replace tv := tv.same s
  replace te3 := te3.same s
  replace tq := tq.same s
  replace tt := tt.same s
  replace to := to.same s
  replace tw2 := tw2.same s
  replace ti1 := ti1.same s
  replace tr1 := tr1.same s
  replace ti2 := ti2.same s
  replace tr2 := tr2.same s
  replace ti3 := ti3.same s
  replace ti4 := ti4.same s
  replace tr3 := tr3.same s
  replace tr4 := tr4.same s
  replace tr5 := tr5.same s
  replace tr6 := tr6.same s
  replace te4 := te4.same s
  replace te5 := te5.same s
  replace te6 := te6.same s
  replace ti5 := ti5.same s
  replace ti6 := ti6.same s
  replace tr7 := tr7.same s
  replace htb := s _ _ htb
  replace hu := s _ _ hu
  replace hl1 := s _ _ hl1
  replace hl2 := s _ _ hl2
  show tSeq _ _ _ _ (upd H27 l3 (.lst [.ref r1, .ref r2, .ref r3, .ref r4, .ref r5, .ref r6, .ref r7]))
  generalize upd H27 l3 (.lst [.ref r1, .ref r2, .ref r3, .ref r4, .ref r5, .ref r6, .ref r7]) = H28 at te1 te2 tv te3 tq tt to tw2 ti1 tr1 ti2 tr2 ti3 ti4 tr3 tr4 tr5 tr6 te4 te5 te6 ti5 ti6 tr7 htb hu hl1 hl2 hl3 ⊢
  clear s hl3n
  refine ⟨_, rfl, _, rfl, _, rfl, sz rfl, fun i7 n_i7 => ?_⟩
  have s := same_new n_i7 (.tup [.str "v", .ref q, .ref v])
  replace te1 := te1.same s
  replace te2 := te2.same s
  replace tv := tv.same s
  replace te3 := te3.same s
  replace tq := tq.same s
  replace tt := tt.same s
  replace to := to.same s
  replace tw2 := tw2.same s
  replace ti1 := ti1.same s
  replace tr1 := tr1.same s
  replace ti2 := ti2.same s
  replace tr2 := tr2.same s
  replace ti3 := ti3.same s
  replace ti4 := ti4.same s
  replace tr3 := tr3.same s
  replace tr4 := tr4.same s
  replace tr5 := tr5.same s
  replace tr6 := tr6.same s
  replace te4 := te4.same s
  replace te5 := te5.same s
  replace te6 := te6.same s
  replace ti5 := ti5.same s
  replace ti6 := ti6.same s
  replace tr7 := tr7.same s
  replace htb := s _ _ htb
  replace hu := s _ _ hu
  replace hl1 := s _ _ hl1
  replace hl2 := s _ _ hl2
  replace hl3 := s _ _ hl3
  have ti7 : Tr (upd H28 i7 (.tup [.str "v", .ref q, .ref v])) (.ref i7) (.kn 118 [bS, bV]) := Tr.kn upd_same (.cons' tq (.cons' tv .nil'))
  generalize upd H28 i7 (.tup [.str "v", .ref q, .ref v]) = H29 at te1 te2 tv te3 tq tt to tw2 ti1 tr1 ti2 tr2 ti3 ti4 tr3 tr4 tr5 tr6 te4 te5 te6 ti5 ti6 tr7 htb hu hl1 hl2 hl3 ti7 ⊢
  clear s n_i7
  refine ⟨_, rfl, sz rfl, fun i8 n_i8 => ?_⟩
  have s := same_new n_i8 (.tup [.str "s", .ref v])
  replace te1 := te1.same s
  replace te2 := te2.same s
  replace tv := tv.same s
  replace te3 := te3.same s
  replace tq := tq.same s
  replace tt := tt.same s
  replace to := to.same s
  replace tw2 := tw2.same s
  replace ti1 := ti1.same s
  replace tr1 := tr1.same s
  replace ti2 := ti2.same s
  replace tr2 := tr2.same s
  replace ti3 := ti3.same s
  replace ti4 := ti4.same s
  replace tr3 := tr3.same s
  replace tr4 := tr4.same s
  replace tr5 := tr5.same s
  replace tr6 := tr6.same s
  replace te4 := te4.same s
  replace te5 := te5.same s
  replace te6 := te6.same s
  replace ti5 := ti5.same s
  replace ti6 := ti6.same s
  replace tr7 := tr7.same s
  replace ti7 := ti7.same s
  replace htb := s _ _ htb
  replace hu := s _ _ hu
  replace hl1 := s _ _ hl1
  replace hl2 := s _ _ hl2
  replace hl3 := s _ _ hl3
  have ti8 : Tr (upd H29 i8 (.tup [.str "s", .ref v])) (.ref i8) (.kn 115 [bV]) := Tr.kn upd_same (.cons' tv .nil')
  generalize upd H29 i8 (.tup [.str "s", .ref v]) = H30 at te1 te2 tv te3 tq tt to tw2 ti1 tr1 ti2 tr2 ti3 ti4 tr3 tr4 tr5 tr6 te4 te5 te6 ti5 ti6 tr7 ti7 htb hu hl1 hl2 hl3 ti8 ⊢
  clear s n_i8
  refine ⟨_, rfl, sz rfl, fun i9 n_i9 => ?_⟩
  have s := same_new n_i9 (.tup [.str "v", .ref i8, .ref v])
  replace te1 := te1.same s
  replace te2 := te2.same s
  replace tv := tv.same s
  replace te3 := te3.same s
  replace tq := tq.same s
  replace tt := tt.same s
  replace to := to.same s
  replace tw2 := tw2.same s
  replace ti1 := ti1.same s
  replace tr1 := tr1.same s
  replace ti2 := ti2.same s
  replace tr2 := tr2.same s
  replace ti3 := ti3.same s
  replace ti4 := ti4.same s
  replace tr3 := tr3.same s
  replace tr4 := tr4.same s
  replace tr5 := tr5.same s
  replace tr6 := tr6.same s
  replace te4 := te4.same s
  replace te5 := te5.same s
  replace te6 := te6.same s
  replace ti5 := ti5.same s
  replace ti6 := ti6.same s
  replace tr7 := tr7.same s
  replace ti7 := ti7.same s
  replace ti8 := ti8.same s
  replace htb := s _ _ htb
  replace hu := s _ _ hu
  replace hl1 := s _ _ hl1
  replace hl2 := s _ _ hl2
  replace hl3 := s _ _ hl3
  have ti9 : Tr (upd H30 i9 (.tup [.str "v", .ref i8, .ref v])) (.ref i9) (.kn 118 [.kn 115 [bV], bV]) := Tr.kn upd_same (.cons' ti8 (.cons' tv .nil'))
  generalize upd H30 i9 (.tup [.str "v", .ref i8, .ref v]) = H31 at te1 te2 tv te3 tq tt to tw2 ti1 tr1 ti2 tr2 ti3 ti4 tr3 tr4 tr5 tr6 te4 te5 te6 ti5 ti6 tr7 ti7 ti8 htb hu hl1 hl2 hl3 ti9 ⊢
  clear s n_i9
  refine ⟨_, rfl, _, rfl, sz rfl, fun j1 n_j1 => ?_⟩
  have s := same_new n_j1 (.tup [.str "v", .ref q, .ref v])
  replace te1 := te1.same s
  replace te2 := te2.same s
  replace tv := tv.same s
  replace te3 := te3.same s
  replace tq := tq.same s
  replace tt := tt.same s
  replace to := to.same s
  replace tw2 := tw2.same s
  replace ti1 := ti1.same s
  replace tr1 := tr1.same s
  replace ti2 := ti2.same s
  replace tr2 := tr2.same s
  replace ti3 := ti3.same s
  replace ti4 := ti4.same s
  replace tr3 := tr3.same s
  replace tr4 := tr4.same s
  replace tr5 := tr5.same s
  replace tr6 := tr6.same s
  replace te4 := te4.same s
  replace te5 := te5.same s
  replace te6 := te6.same s
  replace ti5 := ti5.same s
  replace ti6 := ti6.same s
  replace tr7 := tr7.same s
  replace ti7 := ti7.same s
  replace ti8 := ti8.same s
  replace ti9 := ti9.same s
  replace htb := s _ _ htb
  replace hu := s _ _ hu
  replace hl1 := s _ _ hl1
  replace hl2 := s _ _ hl2
  replace hl3 := s _ _ hl3
  have tj1 : Tr (upd H31 j1 (.tup [.str "v", .ref q, .ref v])) (.ref j1) (.kn 118 [bS, bV]) := Tr.kn upd_same (.cons' tq (.cons' tv .nil'))
  generalize upd H31 j1 (.tup [.str "v", .ref q, .ref v]) = H32 at te1 te2 tv te3 tq tt to tw2 ti1 tr1 ti2 tr2 ti3 ti4 tr3 tr4 tr5 tr6 te4 te5 te6 ti5 ti6 tr7 ti7 ti8 ti9 htb hu hl1 hl2 hl3 tj1 ⊢
  clear s n_j1
  refine ⟨_, rfl, sz rfl, fun j2 n_j2 => ?_⟩
  have s := same_new n_j2 (.tup [.str "s", .ref v])
  replace te1 := te1.same s
  replace te2 := te2.same s
  replace tv := tv.same s
  replace te3 := te3.same s
  replace tq := tq.same s
  replace tt := tt.same s
  replace to := to.same s
  replace tw2 := tw2.same s
  replace ti1 := ti1.same s
  replace tr1 := tr1.same s
  replace ti2 := ti2.same s
  replace tr2 := tr2.same s
  replace ti3 := ti3.same s
  replace ti4 := ti4.same s
  replace tr3 := tr3.same s
  replace tr4 := tr4.same s
  replace tr5 := tr5.same s
  replace tr6 := tr6.same s
  replace te4 := te4.same s
  replace te5 := te5.same s
  replace te6 := te6.same s
  replace ti5 := ti5.same s
  replace ti6 := ti6.same s
  replace tr7 := tr7.same s
  replace ti7 := ti7.same s
  replace ti8 := ti8.same s
  replace ti9 := ti9.same s
  replace tj1 := tj1.same s
  replace htb := s _ _ htb
  replace hu := s _ _ hu
  replace hl1 := s _ _ hl1
  replace hl2 := s _ _ hl2
  replace hl3 := s _ _ hl3
  have tj2 : Tr (upd H32 j2 (.tup [.str "s", .ref v])) (.ref j2) (.kn 115 [bV]) := Tr.kn upd_same (.cons' tv .nil')
  generalize upd H32 j2 (.tup [.str "s", .ref v]) = H33 at te1 te2 tv te3 tq tt to tw2 ti1 tr1 ti2 tr2 ti3 ti4 tr3 tr4 tr5 tr6 te4 te5 te6 ti5 ti6 tr7 ti7 ti8 ti9 tj1 htb hu hl1 hl2 hl3 tj2 ⊢
  clear s n_j2
  refine ⟨_, rfl, sz rfl, fun j3 n_j3 => ?_⟩
  have s := same_new n_j3 (.tup [.str "v", .ref j2, .ref v])
  replace te1 := te1.same s
  replace te2 := te2.same s
  replace tv := tv.same s
  replace te3 := te3.same s
  replace tq := tq.same s
  replace tt := tt.same s
  replace to := to.same s
  replace tw2 := tw2.same s
  replace ti1 := ti1.same s
  replace tr1 := tr1.same s
  replace ti2 := ti2.same s
  replace tr2 := tr2.same s
  replace ti3 := ti3.same s
  replace ti4 := ti4.same s
  replace tr3 := tr3.same s
  replace tr4 := tr4.same s
  replace tr5 := tr5.same s
  replace tr6 := tr6.same s
  replace te4 := te4.same s
  replace te5 := te5.same s
  replace te6 := te6.same s
  replace ti5 := ti5.same s
  replace ti6 := ti6.same s
  replace tr7 := tr7.same s
  replace ti7 := ti7.same s
  replace ti8 := ti8.same s
  replace ti9 := ti9.same s
  replace tj1 := tj1.same s
  replace tj2 := tj2.same s
  replace htb := s _ _ htb
  replace hu := s _ _ hu
  replace hl1 := s _ _ hl1
  replace hl2 := s _ _ hl2
  replace hl3 := s _ _ hl3
  have tj3 : Tr (upd H33 j3 (.tup [.str "v", .ref j2, .ref v])) (.ref j3) (.kn 118 [.kn 115 [bV], bV]) := Tr.kn upd_same (.cons' tj2 (.cons' tv .nil'))
  generalize upd H33 j3 (.tup [.str "v", .ref j2, .ref v]) = H34 at te1 te2 tv te3 tq tt to tw2 ti1 tr1 ti2 tr2 ti3 ti4 tr3 tr4 tr5 tr6 te4 te5 te6 ti5 ti6 tr7 ti7 ti8 ti9 tj1 tj2 htb hu hl1 hl2 hl3 tj3 ⊢
  clear s n_j3
  refine ⟨sz rfl, fun r8 n_r8 => ?_⟩
  have s := same_new n_r8 (.tup [.ref i7, .ref i9, .ref j1, .ref j3, .non])
  replace te1 := te1.same s
  replace te2 := te2.same s
  replace tv := tv.same s
  replace te3 := te3.same s
  replace tq := tq.same s
  replace tt := tt.same s
  replace to := to.same s
  replace tw2 := tw2.same s
  replace ti1 := ti1.same s
  replace tr1 := tr1.same s
  replace ti2 := ti2.same s
  replace tr2 := tr2.same s
  replace ti3 := ti3.same s
  replace ti4 := ti4.same s
  replace tr3 := tr3.same s
  replace tr4 := tr4.same s
  replace tr5 := tr5.same s
  replace tr6 := tr6.same s
  replace te4 := te4.same s
  replace te5 := te5.same s
  replace te6 := te6.same s
  replace ti5 := ti5.same s
  replace ti6 := ti6.same s
  replace tr7 := tr7.same s
  replace ti7 := ti7.same s
  replace ti8 := ti8.same s
  replace ti9 := ti9.same s
  replace tj1 := tj1.same s
  replace tj2 := tj2.same s
  replace tj3 := tj3.same s
  replace htb := s _ _ htb
  replace hu := s _ _ hu
  replace hl1 := s _ _ hl1
  replace hl2 := s _ _ hl2
  replace hl3 := s _ _ hl3
  have tr8 : Tp (upd H34 r8 (.tup [.ref i7, .ref i9, .ref j1, .ref j3, .non])) (.ref r8) (rowd (.kn 118 [bS, bV], .kn 118 [.kn 115 [bV], bV])) := by rw [show rowd (.kn 118 [bS, bV], .kn 118 [.kn 115 [bV], bV]) = .tuple [td (.kn 118 [bS, bV]), td (.kn 118 [.kn 115 [bV], bV]), td (.kn 118 [bS, bV]), td (.kn 118 [.kn 115 [bV], bV]), .none] from rfl]; exact Tp.tup upd_same (.cons ti7 (.cons ti9 (.cons tj1 (.cons tj3 (.cons .non .nil)))))
  generalize upd H34 r8 (.tup [.ref i7, .ref i9, .ref j1, .ref j3, .non]) = H35 at te1 te2 tv te3 tq tt to tw2 ti1 tr1 ti2 tr2 ti3 ti4 tr3 tr4 tr5 tr6 te4 te5 te6 ti5 ti6 tr7 ti7 ti8 ti9 tj1 tj2 tj3 htb hu hl1 hl2 hl3 tr8 ⊢
  clear s n_r8
  refine ⟨sz rfl, fun l4 n_l4 => ?_⟩
  have s := same_new n_l4 (.lst [.ref r8])
  replace te1 := te1.same s
  replace te2 := te2.same s
  replace tv := tv.same s
  replace te3 := te3.same s
  replace tq := tq.same s
  replace tt := tt.same s
  replace to := to.same s
  replace tw2 := tw2.same s
  replace ti1 := ti1.same s
  replace tr1 := tr1.same s
  replace ti2 := ti2.same s
  replace tr2 := tr2.same s
  replace ti3 := ti3.same s
  replace ti4 := ti4.same s
  replace tr3 := tr3.same s
  replace tr4 := tr4.same s
  replace tr5 := tr5.same s
  replace tr6 := tr6.same s
  replace te4 := te4.same s
  replace te5 := te5.same s
  replace te6 := te6.same s
  replace ti5 := ti5.same s
  replace ti6 := ti6.same s
  replace tr7 := tr7.same s
  replace ti7 := ti7.same s
  replace ti8 := ti8.same s
  replace ti9 := ti9.same s
  replace tj1 := tj1.same s
  replace tj2 := tj2.same s
  replace tj3 := tj3.same s
  replace tr8 := tr8.same s
  replace htb := s _ _ htb
  replace hu := s _ _ hu
  replace hl1 := s _ _ hl1
  replace hl2 := s _ _ hl2
  replace hl3 := s _ _ hl3
  have hl4 : upd H35 l4 (.lst [.ref r8]) l4 = some (.lst [.ref r8]) := upd_same
  generalize upd H35 l4 (.lst [.ref r8]) = H36 at te1 te2 tv te3 tq tt to tw2 ti1 tr1 ti2 tr2 ti3 ti4 tr3 tr4 tr5 tr6 te4 te5 te6 ti5 ti6 tr7 ti7 ti8 ti9 tj1 tj2 tj3 tr8 htb hu hl1 hl2 hl3 hl4 ⊢
  clear s n_l4
  refine ⟨l3, l4, _, _, rfl, rfl, hl3, hl4, sz rfl, fun l5 hl5n => ?_⟩
  have s := same_new hl5n (.lst [.ref r1, .ref r2, .ref r3, .ref r4, .ref r5, .ref r6, .ref r7, .ref r8])
  have hl5 : upd H36 l5 (.lst [.ref r1, .ref r2, .ref r3, .ref r4, .ref r5, .ref r6, .ref r7, .ref r8]) l5 = some (.lst [.ref r1, .ref r2, .ref r3, .ref r4, .ref r5, .ref r6, .ref r7, .ref r8]) := upd_same
  replace te1 := te1.same s
  replace te2 := te2.same s
  replace tv := tv.same s
  replace te3 := te3.same s
  replace tq := tq.same s
  replace tt := tt.same s
  replace to := to.same s
  replace tw2 := tw2.same s
  replace ti1 := ti1.same s
  replace tr1 := tr1.same s
  replace ti2 := ti2.same s
  replace tr2 := tr2.same s
  replace ti3 := ti3.same s
  replace ti4 := ti4.same s
  replace tr3 := tr3.same s
  replace tr4 := tr4.same s
  replace tr5 := tr5.same s
  replace tr6 := tr6.same s
  replace te4 := te4.same s
  replace te5 := te5.same s
  replace te6 := te6.same s
  replace ti5 := ti5.same s
  replace ti6 := ti6.same s
  replace tr7 := tr7.same s
  replace ti7 := ti7.same s
  replace ti8 := ti8.same s
  replace ti9 := ti9.same s
  replace tj1 := tj1.same s
  replace tj2 := tj2.same s
  replace tj3 := tj3.same s
  replace tr8 := tr8.same s
  replace htb := s _ _ htb
  replace hu := s _ _ hu
  replace hl1 := s _ _ hl1
  replace hl2 := s _ _ hl2
  replace hl3 := s _ _ hl3
  replace hl4 := s _ _ hl4
  show tSeq _ _ _ _ (upd H36 l5 (.lst [.ref r1, .ref r2, .ref r3, .ref r4, .ref r5, .ref r6, .ref r7, .ref r8]))
  generalize upd H36 l5 (.lst [.ref r1, .ref r2, .ref r3, .ref r4, .ref r5, .ref r6, .ref r7, .ref r8]) = H37 at te1 te2 tv te3 tq tt to tw2 ti1 tr1 ti2 tr2 ti3 ti4 tr3 tr4 tr5 tr6 te4 te5 te6 ti5 ti6 tr7 ti7 ti8 ti9 tj1 tj2 tj3 tr8 htb hu hl1 hl2 hl3 hl4 hl5 ⊢
  clear s hl5n
  have tall : TpAll H37 [.ref r1, .ref r2, .ref r3, .ref r4, .ref r5, .ref r6, .ref r7, .ref r8] (rowsL.map rowd) := .cons tr1 (.cons tr2 (.cons tr3 (.cons tr4 (.cons tr5 (.cons tr6 (.cons tr7 (.cons tr8 .nil)))))))
  clear te1 te2 te3 tw2 ti1 tr1 ti2 tr2 ti3 ti4 tr3 tr4 tr5 tr6 te4 te5 te6 ti5 ti6 tr7 ti7 ti8 ti9 tj1 tj2 tj3 tr8 hu hl1 hl2 hl3 hl4
  generalize H37 = Hz at tall htb hl5 tv tq tt to ⊢
  refine ⟨_, rfl, l5, rfl, ⟨_, SqL.of hl5⟩, ?_⟩
  generalize [V.ref r1, V.ref r2, V.ref r3, V.ref r4, V.ref r5, V.ref r6, V.ref r7, V.ref r8] = xs at hl5 tall ⊢
  have hxl : xs.length = rowsL.length := by rw [tall.len, List.length_map]
  refine for_list (K := K) (a := l5) (xs := xs) (fun i σ H' => Same Hz H' ∧ ∃ (a b c d e : Option V), σ = [z0, z1, z2, a, b, some (.ref v), some (.ref q), some (.ref t), some (.ref o), some (.ref w2), some (.ref l5), c, d, e, z14, z15, z16, z17]) ⟨Same.refl _, _, _, _, _, _, rfl⟩ (fun i σ H' _ p => SqL.of (p.1 _ _ hl5)) ?_ ?_
  · rintro i x σ Ha hi ⟨sa, a, b, c, d, e, rfl⟩
    obtain ⟨p, hp⟩ : ∃ p, rowsL[i]? = some p := ⟨_, List.getElem?_eq_getElem (by rw [← hxl]; exact (List.getElem?_eq_some_iff.mp hi).1)⟩
    obtain ⟨x', hx', tx⟩ := tall.get (i := i) (d := rowd p) (by rw [List.getElem?_map, hp]; rfl)
    rw [hi] at hx'
    obtain rfl := Option.some.inj hx'
    obtain ⟨ra, x1, x2, x3, x4, x5, rfl, hra, t1, t2, t3, t4, t5⟩ := rowd_inv (tx.same sa)
    have ok := row_ok (List.mem_of_getElem? hp)
    obtain ⟨b1, b2⟩ := p
    obtain ⟨o1, o2, few, m1, m2, j1, j2, c1, c2⟩ := ok
    dsimp only at t1 t2 t3 t4 t5 o1 o2 few m1 m2 j1 j2 c1 c2
    clear hp tx hi tall hl5 hxl
    have g1 : Good Ha x1 b1 := ⟨t1, o1⟩
    have g2 : Good Ha x2 b2 := ⟨t2, o2⟩
    refine ⟨ra, _, rfl, SqT.of hra, rfl, _, _, rfl, _, _, rfl, _, _, rfl, _, _, rfl, _, _, rfl, rfl, ?_⟩
    -- common_top
    refine ⟨_, rfl, _, rfl, x1, x2, rfl, .inl ⟨b1, b2, g1, g2, fun mv Hb sb tm => ?_⟩⟩
    refine ⟨_, rfl, td (met b1 b2), td (met b1 b2), Tp.dp tm, Tp.dp (Tp.same t3 sb), m1, m1, ?_⟩
    rw [m2]
    refine ⟨_, rfl, it0 ?_⟩
    -- joined_tops
    refine ⟨_, rfl, _, rfl, x1, x2, rfl, .inl ⟨b1, b2, g1.same sb, g2.same sb, fun jv Hc sc tj => ?_⟩⟩
    refine ⟨_, rfl, _, _, Tp.dp tj, Tp.dp (Tp.same t4 (sb.trans sc)), j1, j1, ?_⟩
    rw [j2]
    refine ⟨_, rfl, it0 ?_⟩
    -- clash_road
    have sd := sb.trans sc
    refine ⟨_, rfl, _, rfl, x1, x2, rfl, .inl ⟨b1, b2, g1.same sd, g2.same sd, fun rv He se tr => ?_⟩⟩
    refine ⟨_, rfl, _, _, Tp.dp tr, Tp.dp (Tp.same t5 (sd.trans se)), c1, c1, ?_⟩
    rw [c2]
    refine ⟨_, rfl, it0 ?_⟩
    have sf := sd.trans se
    refine ⟨_, rfl, _, rfl, x1, x2, b1, b2, rfl, g1.same sf, g2.same sf, few, fun Hf sg => ⟨true, rfl, it0 ?_⟩⟩
    have sh := sf.trans sg
    exact ⟨_, rfl, _, rfl, x2, x1, b2, b1, rfl, g2.same sh, g1.same sh, by omega, fun Hg sk => ⟨true, rfl, it0 ⟨sa.trans (sh.trans sk), _, _, _, _, _, rfl⟩⟩⟩
  · rintro σ Ha ⟨sa, a, b, c, d, e, rfl⟩
    exact ⟨⟨_, _, _, _, _, _, _, _, _, _, _, _, _, _, .ref v, .ref q, .ref t, .ref o, rfl, Tp.same tv sa, Tp.same tq sa, Tp.same tt sa, Tp.same to sa, sa _ _ htb⟩, q0⟩
end
end Tw
set_option Elab.async false
set_option linter.all false
set_option maxRecDepth 100000
set_option maxHeartbeats 4000000
namespace Tw
open PySem PySem.Spec PyProof.Rows L2
/-! ### law: the bushes drawn -/
structure LawAll (P : Program) (w : World) (K : PySem.W.Frag) (mg : Str → Option Value) (base : Heap) : Prop where
  C : LawCalls P w K mg base
  c_law_cup : Cal P w K mg base 1 "_law_cup" (spCup K)
  c_law_bush : Cal P w K mg base 30 "_law_bush" (spLBush 6)
  c_law_cut : Cal P w K mg base 31 "_law_cut" spLCut
  c_law_near_bush : Cal P w K mg base 31 "_law_near_bush" spNear
  c_law_tops : Cal P w K mg base 30 "_law_tops" (spLTops 16)
def spLaw (K : PySem.W.Frag) (tb : Addr) : Sp := fun vs H Q _ => ∃ (a : Addr) (ns : List Int), vs = [.ref a] ∧ SqL K H a (ns.map V.int) ∧ ns.length < 1000 ∧ H tb = some (.tbl #[]) ∧ ∀ H', Q (.bl true) H'
section
variable {P : Program} {w : World} {K : PySem.W.Frag} {mg : Str → Option Value} {base : Heap}
theorem law_all (M : LawAll P w K mg base) {f cc tb : Addr} {A : Around} {outer : List Env} {s : Shared} {H0 : Hp} {E : XK} (TB : LamX.TabB base mg cc tb) (hr : Room 60 (A.deeper (envOfC "law" (defScope (top 60)) s.heap.objs.size f (.ref cc)))) {vs : List V} {Q : VK} (h : spLaw K tb vs H0 Q E) :
    ∃ t, PSs (lawX P w K mg base f (.ref cc) A outer s H0 E) (defBody (top 60)) t ∧ t { nx := fun _ H' => Q .non H', rt := Q } (start Nlaw vs) H0 := by
  have T := M.C.L.T
  have tail := law_rows M.C (A := A) (outer := outer) (s := s) (H0 := H0) (E := E) TB hr
  obtain ⟨⟨L, ccount_tops, clot_between, ccommon_top, cjoined_tops, cclash_road, c_law_right⟩, c_law_cup, c_law_bush, c_law_cut, c_law_near_bush, c_law_tops⟩ := M
  refine ⟨_, (pss_cons (ps_set (i := 1) sclaw.nd rfl (Or.inl rfl) (pe_cl c_law_cup hr (by omega) rfl (pa_cons (pv 0) pa_nil)))
      (pss_cons (ps_for PassesOwn.never rfl (pi_range1 rfl (T.fr "range" (by simp)) (pa_cons pe_int pa_nil)) (pg_name (i := 2) sclaw.nd rfl (Or.inl rfl)) (pss_cons (ps_set (i := 3) sclaw.nd rfl (Or.inl rfl) (pe_cl c_law_bush hr (by omega) rfl (pa_cons (pv 1) (pa_cons pe_int pa_nil))))
      (pss_one (ps_for PassesOwn.never rfl (pi_tup (pe_tup (pa_cons (pe_cl c_law_cut hr (by omega) rfl (pa_cons (pv 1) (pa_cons (pv 3) pa_nil))) (pa_cons (pe_cl c_law_near_bush hr (by omega) rfl (pa_cons (pv 1) (pa_cons (pv 3) pa_nil))) pa_nil)))) (pg_name (i := 4) sclaw.nd rfl (Or.inl rfl)) (pss_one (ps_if (PW.pt (pw_and (pt_cmpR op_lt (pe_op op_mulY (pe_callB call_len_seq (by rfl) (T.fr "len" (by simp)) (by decide +kernel) (pa_cons (pe_cl c_law_tops hr (by omega) rfl (pa_cons (pv 3) pa_nil)) pa_nil)) (pe_callB call_len_seq (by rfl) (T.fr "len" (by simp)) (by decide +kernel) (pa_cons (pe_cl c_law_tops hr (by omega) rfl (pa_cons (pv 4) pa_nil)) pa_nil))) pe_int (nomark _)) (pw_and1 (pt_not (pt_val (pe_cl c_law_right hr (by omega) rfl (pa_cons (pe_cl c_law_cut hr (by omega) rfl (pa_cons (pv 1) (pa_cons (pv 3) pa_nil))) (pa_cons (pv 4) pa_nil)))))))) (pss_one (ps_ret pe_bl)) pss_nil))))))
      (by exact tail))), ?_⟩
  clear tail TB
  obtain ⟨a, ns, rfl, hS, hn, htb, q⟩ := h
  refine ⟨_, rfl, a, ns, rfl, hS, hn, fun c H1 s1 c1 => ?_⟩
  have htb1 := s1 _ _ htb
  have ntb : tb ≠ c := by
    obtain ⟨x, y, e⟩ := c1
    exact ne_of htb1 e (by intro z; cases z)
  refine ⟨_, rfl, by decide, by decide, ?_⟩
  refine for_range (fun i σ H2 => SameB c H1 H2 ∧ Cup H2 c ∧ ∃ (z2 z3 z4 : Option V), σ = [some (.ref a), some (.ref c), z2, z3, z4, none, none, none, none, none, none, none, none, none, none, none, none, none]) ⟨SameB.refl _ _, c1, none, none, none, rfl⟩ ?_ ?_
  · rintro i σ H2 hi ⟨s2, c2, z2, z3, z4, rfl⟩
    refine ⟨_, rfl, c, 5, rfl, by decide, by decide, c2, fun v b H3 s3 c3 tv wv kv => ?_⟩
    have gv : Good H3 v b := ⟨tv, wv, by omega⟩
    refine ⟨_, rfl, _, rfl, c, v, b, rfl, c3, gv, fun v4 b4 H4 s4 c4 t4 w4 k4 => ?_⟩
    have gv4 := gv.kp (c3.kp s4)
    refine ⟨_, rfl, _, rfl, c, v, b, rfl, c4, gv4, by omega, fun v5 b5 H5 s5 c5 t5 w5 k5 => ?_⟩
    have gv5 := gv4.kp (c4.kp s5)
    have g4 : Good H5 v4 b4 := ⟨t4.keep (c4.kp s5), w4, by omega⟩
    have g5 : Good H5 v5 b5 := ⟨t5, w5, by omega⟩
    refine ⟨sz rfl, fun p hp => ?_⟩
    have s6 := same_new hp (.tup [v4, v5])
    have hp6 : upd H5 p (.tup [v4, v5]) p = some (.tup [v4, v5]) := upd_same
    replace gv5 := gv5.same s6
    replace g4 := g4.same s6
    replace g5 := g5.same s6
    have c6 := c5.same s6
    have sall := (((s2.trans s3).trans s4).trans s5).add s6
    generalize upd H5 p (.tup [v4, v5]) = H6 at s6 hp6 gv5 g4 g5 c6 sall ⊢
    clear gv gv4 t4 w4 t5 w5 tv wv s6 s5 s4 s3 s2 c5 c4 c3 c2 hp
    refine ⟨p, rfl, ⟨_, SqT.of hp6⟩, ?_⟩
    have each : ∀ x ∈ [v4, v5], ∃ o, Good H6 x o ∧ knots o ≤ 7 := fun x hx => by
      simp only [List.mem_cons, List.not_mem_nil, or_false] at hx
      rcases hx with rfl | rfl
      · exact ⟨b4, g4, by omega⟩
      · exact ⟨b5, g5, by omega⟩
    generalize [v4, v5] = xs at hp6 each ⊢
    have ncp : p ≠ c := by
      obtain ⟨x, y, e⟩ := c6
      exact ne_of hp6 e (by intro z; cases z)
    refine for_tup (K := K) (a := p) (xs := xs) (fun j σ H7 => SameB c H6 H7 ∧ Cup H7 c ∧ ∃ (y4 : Option V), σ = [some (.ref a), some (.ref c), some (.int (0 + (i : Int))), some v, y4, none, none, none, none, none, none, none, none, none, none, none, none, none]) ⟨SameB.refl _ _, c6, _, rfl⟩ (fun j σ H7 _ pp => SqT.of (pp.1 p _ ncp hp6)) ?_ ?_
    · rintro j x σ H7 hj ⟨s7, c7, y4, rfl⟩
      obtain ⟨o, go, ko⟩ := each x (List.mem_of_getElem? hj)
      have gb7 := gv5.kp (c6.kp s7)
      have go7 := go.kp (c6.kp s7)
      refine ⟨_, rfl, v, b, rfl, gb7, by have := gb7.ok.few; omega, fun p1 H8 s8 l8 => ?_⟩
      obtain ⟨xs1, hx1, tx1⟩ := id l8
      refine ⟨p1, xs1, rfl, .inl (SqL.of hx1), ?_⟩
      refine ⟨_, rfl, x, o, rfl, go7.same s8, by have := go7.ok.few; omega, fun p2 H9 s9 l9 => ?_⟩
      obtain ⟨xs2, hx2, tx2⟩ := id l9
      refine ⟨p2, xs2, rfl, .inl (SqL.of hx2), ?_⟩
      have e2 : xs2.length ≤ 4096 := by rw [tx2.len]; exact tops_small go7.ok
      refine ⟨_, _, rfl, rfl, .of_right (intBits_le_64 (by omega) (by omega)), _, _, rfl, rfl, _, rfl, itb (fun hlt => ?_) (fun hlt => ?_)⟩
      · have s89 := s8.trans s9
        have c9 := c7.same s89
        refine ⟨_, rfl, _, rfl, c, v, b, rfl, c9, gb7.same s89, fun v10 b10 H10 s10 c10 t10 w10 k10 => ?_⟩
        refine ⟨_, rfl, v10, x, b10, o, rfl, ⟨t10, w10, by omega⟩, (go7.same s89).kp (c9.kp s10), by omega, fun H11 s11 => ⟨true, rfl, it0 ?_⟩⟩
        exact ⟨s7.trans ((SameB.of s89).trans (s10.add s11)), c10.same s11, _, rfl⟩
      · exact ⟨s7.add (s8.trans s9), c7.same (s8.trans s9), _, rfl⟩
    · rintro σ H7 ⟨s7, c7, y4, rfl⟩
      exact ⟨sall.trans s7, c7, _, _, _, rfl⟩
  · rintro σ H2 ⟨s2, c2, z2, z3, z4, rfl⟩
    exact ⟨⟨_, _, _, _, _, _, _, _, _, _, _, _, _, _, _, _, _, _, rfl, s2 _ _ ntb htb1⟩, q⟩
end
end Tw
set_option Elab.async false
set_option linter.all false
set_option maxRecDepth 100000
set_option maxHeartbeats 4000000
namespace Tw
open PySem PySem.Spec PyProof.Rows L2
/-! ### all defs joined -/
section
variable {P : Program} {w : World} {K : PySem.W.Frag} {mg : Str → Option Value} {base : Heap}
theorem all_knots_in (T : Txt K mg) : ∀ j, Cal P w K mg base j "knots_in" (spKnots j)
  | 0 => Cal.never T (hiknots_in T) (ps := ["bush"]) (fun _ _ _ _ _ _ us hl => match us, hl with | [_], _ => rfl) fun _ _ _ _ ⟨_, _, _, _, h, _⟩ => absurd h (Nat.not_lt_zero _)
  | j + 1 => okknots_in T (all_knots_in T j)
theorem all_tips_in (T : Txt K mg) : ∀ j, Cal P w K mg base j "tips_in" (spTips j)
  | 0 => Cal.never T (hitips_in T) (ps := ["bush"]) (fun _ _ _ _ _ _ us hl => match us, hl with | [_], _ => rfl) fun _ _ _ _ ⟨_, _, _, _, h, _⟩ => absurd h (Nat.not_lt_zero _)
  | j + 1 => oktips_in T (all_tips_in T j)
theorem all_height_in (T : Txt K mg) : ∀ j, Cal P w K mg base j "height_in" (spHeight j)
  | 0 => Cal.never T (hiheight_in T) (ps := ["bush"]) (fun _ _ _ _ _ _ us hl => match us, hl with | [_], _ => rfl) fun _ _ _ _ ⟨_, _, _, _, h, _⟩ => absurd h (Nat.not_lt_zero _)
  | j + 1 => okheight_in T (all_height_in T j)
theorem all_tops_in (T : Txt K mg) : ∀ j, Cal P w K mg base j "tops_in" (spTopsN j)
  | 0 => Cal.never T (hitops_in T) (ps := ["bush"]) (fun _ _ _ _ _ _ us hl => match us, hl with | [_], _ => rfl) fun _ _ _ _ ⟨_, _, _, _, h, _⟩ => absurd h (Nat.not_lt_zero _)
  | j + 1 => oktops_in T (all_tops_in T j)
theorem all_is_top_of (T : Txt K mg) : ∀ j, Cal P w K mg base (j + 1) "is_top_of" (spTopOf j)
  | 0 => Cal.never T (hiis_top_of T) (ps := ["bush", "other"]) (fun _ _ _ _ _ _ us hl => match us, hl with | [_, _], _ => rfl) fun _ _ _ _ ⟨_, _, _, _, _, _, _, h, _⟩ => absurd h (Nat.not_lt_zero _)
  | j + 1 => okis_top_of T (by omega) (okare_unlike T) (all_is_top_of T j)
theorem all_parts_at_tips (T : Txt K mg) : ∀ j, Cal P w K mg base j "parts_at_tips" (spParts j)
  | 0 => Cal.never T (hiparts_at_tips T) (ps := ["bush", "other"]) (fun _ _ _ _ _ _ us hl => match us, hl with | [_, _], _ => rfl) fun _ _ _ _ ⟨_, _, _, _, _, _, _, _, h, _⟩ => absurd h (Nat.not_lt_zero _)
  | j + 1 => okparts_at_tips T (all_parts_at_tips T j)
theorem all_met_by (T : Txt K mg) : ∀ j, Cal P w K mg base (j + 1) "met_by" (spMet j)
  | 0 => Cal.never T (himet_by T) (ps := ["bush", "other"]) (fun _ _ _ _ _ _ us hl => match us, hl with | [_, _], _ => rfl) fun _ _ _ _ ⟨_, _, _, _, _, _, _, h, _⟩ => absurd h (Nat.not_lt_zero _)
  | j + 1 => okmet_by T (by omega) (okare_unlike T) (all_met_by T j)
theorem all_joined_by (T : Txt K mg) : ∀ j, Cal P w K mg base j "joined_by" (spJoined j)
  | 0 => Cal.never T (hijoined_by T) (ps := ["bush", "other"]) (fun _ _ _ _ _ _ us hl => match us, hl with | [_, _], _ => rfl) fun _ _ _ _ ⟨_, _, _, _, _, _, _, _, h, _⟩ => absurd h (Nat.not_lt_zero _)
  | j + 1 => okjoined_by T (all_joined_by T j)
theorem all_put_at (T : Txt K mg) : ∀ j, Cal P w K mg base (14 + j) "put_at" (spPut j)
  | 0 => Cal.never T (hiput_at T) (ps := ["bush", "number", "other"]) (fun _ _ _ _ _ _ us hl => match us, hl with | [_, _, _], _ => rfl) fun _ _ _ _ ⟨_, _, _, _, _, _, _, _, h, _⟩ => absurd h (Nat.not_lt_zero _)
  | j + 1 => okput_at T (Nat.le_add_right 14 j) ((all_tips_in T 13).mono (by decide)) (all_put_at T j)
theorem all_law_put (T : Txt K mg) : ∀ j, Cal P w K mg base j "_law_put" (spLPut j)
  | 0 => Cal.never T (hi_law_put T) (ps := ["_law_bush_here", "_law_road", "_law_growth"]) (fun _ _ _ _ _ _ us hl => match us, hl with | [_, _, _], _ => rfl) fun _ _ _ _ ⟨_, _, _, _, _, _, _, _, _, _, _, _, _, h, _⟩ => absurd h (Nat.not_lt_zero _)
  | j + 1 => ok_law_put T (all_law_put T j)
theorem all_law_tops (T : Txt K mg) : ∀ j, Cal P w K mg base j "_law_tops" (spLTops j)
  | 0 => Cal.never T (hi_law_tops T) (ps := ["_law_bush_here"]) (fun _ _ _ _ _ _ us hl => match us, hl with | [_], _ => rfl) fun _ _ _ _ ⟨_, _, _, _, h, _⟩ => absurd h (Nat.not_lt_zero _)
  | j + 1 => ok_law_tops T (all_law_tops T j)
theorem all_law_bush (T : Txt K mg) : ∀ j, Cal P w K mg base (2 + j) "_law_bush" (spLBush j)
  | 0 => Cal.never T (hi_law_bush T) (ps := ["_law_cup_here", "_law_most"]) (fun _ _ _ _ _ _ us hl => match us, hl with | [_, _], _ => rfl) fun _ _ _ _ ⟨_, _, _, h, _⟩ => absurd h (Nat.not_lt_zero _)
  | j + 1 => ok_law_bush T (Nat.le_add_right 2 j) (ok_law_roll T) (ok_law_some T (ok_law_roll T)) (all_law_bush T j)
theorem all_law (T : Txt K mg) (B : TxtB K mg) (Ee : TxtE K mg) : LawAll P w K mg base := by
  have cfp : Cal P w K mg base 2 "fits_part" spFitsPart := okfits_part T (okis_tuple_of T) (okis_letter T)
  have cfb : Cal P w K mg base 3 "fits_bush" spFitsBush := okfits_bush T cfp
  have cnb : Cal P w K mg base 4 "need_bush" (spNeedBush K) := okneed_bush T B cfb
  have cnt : Cal P w K mg base 5 "need_both" (spNeedBoth K) := okneed_both T cnb
  have cis : Cal P w K mg base 14 "is_top_of" (spTopOf 13) := all_is_top_of T 13
  have cti : Cal P w K mg base 14 "tips_in" (spTips 13) := (all_tips_in T 13).mono (by decide)
  have ccl : Cal P w K mg base 14 "clash_by" spClash := (okclash_by T (okare_unlike T)).mono (by decide)
  have c_is_top : Cal P w K mg base 15 "is_top" (spIsTop K) := okis_top T cnt cis
  have c_lot : Cal P w K mg base 15 "lot_between" (spLot K) := oklot_between T cnt cis ((all_parts_at_tips T 13).mono (by decide))
  have c_count : Cal P w K mg base 15 "count_tops" (spCountTops K) := okcount_tops T cnb ((all_tops_in T 13).mono (by decide))
  have c_common : Cal P w K mg base 15 "common_top" (spCommon K) := okcommon_top T cnt (all_met_by T 13)
  have c_road : Cal P w K mg base 15 "clash_road" (spRoad K) := okclash_road T cnt ccl
  have c_join : Cal P w K mg base 15 "joined_tops" (spJoin K) := okjoined_tops T cnt ccl ((all_joined_by T 13).mono (by decide))
  have c_fgs : Cal P w K mg base 15 "fits_grafts" spFitsGrafts := okfits_grafts T (okis_tuple_of T) (okfits_graft T (okis_tuple_of T) (okis_whole T) cfb) ((all_knots_in T 13).mono (by decide)) cti ((all_height_in T 13).mono (by decide))
  have c_grafted : Cal P w K mg base 32 "grafted" spGrafted := okgrafted T cnb (okneed_grafts T c_fgs) (okgrafted_by T cti (all_put_at T 16))
  have c_roll : Cal P w K mg base 1 "_law_roll" spRoll := ok_law_roll T
  have c_some : Cal P w K mg base 2 "_law_some" (spSome K) := ok_law_some T c_roll
  have c_parts : Cal P w K mg base 1 "_law_parts" spParts' := ok_law_parts T
  have c_put : Cal P w K mg base 30 "_law_put" (spLPut 16) := (all_law_put T 16).mono (by decide)
  have c_tops : Cal P w K mg base 30 "_law_tops" (spLTops 16) := (all_law_tops T 16).mono (by decide)
  have c_bush : Cal P w K mg base 30 "_law_bush" (spLBush 6) := (all_law_bush T 6).mono (by decide)
  have c_lr : Cal P w K mg base 41 "_law_lot_right" spLotRight := ok_law_lot_right T c_lot c_is_top (ok_law_tips T c_parts) c_put c_grafted
  have c_right : Cal P w K mg base 51 "_law_right" spRight := ok_law_right T c_tops c_count c_is_top c_common c_road c_join (ok_law_clash T c_parts) (ok_law_knots T c_parts) c_lr
  have nnb : CalN P w K mg base 4 "need_bush" (spNeedBush K) := n_need_bush T B cfb
  have nnt : CalN P w K mg base 5 "need_both" (spNo2 K) := n_need_both T nnb
  exact ⟨⟨⟨T, B, Ee, n_is_top T nnt, n_lot_between T nnt, n_common_top T nnt, n_joined_tops T nnt, n_clash_road T nnt, (n_count_tops T nnb).mono (by decide)⟩, c_count, c_lot, c_common, c_join, c_road, c_right⟩, ok_law_cup T, c_bush, ok_law_cut T c_roll c_some c_parts c_put, ok_law_near_bush T c_roll c_some c_parts c_put c_bush, c_tops⟩
theorem law_ok (T : Txt K mg) (B : TxtB K mg) (Ee : TxtE K mg) {f : Addr} {fd : FuncData} (F : FunD K "law" "law" (defArgs (top 60)) (defBody (top 60)) (defScope (top 60)) [] [] f fd) {cc tb : Addr} (hc : fd.code = .ref cc) (TB : LamX.TabB base mg cc tb) :
    FnOk P w K mg base (L2.CX P w) 61 f fd ["_law_script"] (spLaw K tb) := by
  obtain ⟨oc, od, dV, kV, doc, pm, an, cdv, ct, osl, rfl, lk, hcd, _, _⟩ := F.ex
  have e : cdv = .ref cc := hc
  subst e
  refine fn_of lk hcd sclaw (fun vs H Q E h => ?_) fun A outer s H vs Q E hr hsp => ?_
  · obtain ⟨_, _, rfl, _⟩ := h; rfl
  · obtain ⟨t, h1, h2⟩ := law_all (all_law T B Ee) (A := A) (outer := outer) (s := s) (E := E) TB hr hsp
    exact ⟨t, h1.nox, h2⟩
end
end Tw
set_option Elab.async false
set_option linter.all false
set_option maxRecDepth 100000
set_option maxHeartbeats 0
namespace Tw
open PySem PySem.Spec PyProof.Rows L2
/-! ### the head -/
def dfn (x : Str) (i : Nat) : He.DefD := ⟨(x, none), x, x, defArgs (top i), defBody (top i), defScope (top i), [], []⟩

def ds0 : List (Str × Nat) := [("is_whole", 11), ("is_tuple_of", 12), ("is_letter", 13), ("fits_part", 14), ("fits_bush", 15), ("need_bush", 16), ("knots_in", 17), ("tips_in", 18), ("height_in", 19), ("fits_graft", 22), ("fits_grafts", 23), ("put_at", 24), ("grafted_by", 25), ("need_grafts", 26), ("grafted", 27), ("are_unlike", 29), ("is_top_of", 31), ("parts_at_tips", 32), ("tops_in", 33), ("met_by", 34), ("joined_by", 35), ("clash_by", 36), ("need_both", 37), ("is_top", 38), ("lot_between", 39)]
def ds1 : List (Str × Nat) := [("count_tops", 40), ("common_top", 41), ("joined_tops", 42), ("clash_road", 43), ("_law_cup", 45), ("_law_roll", 46), ("_law_some", 47), ("_law_parts", 48), ("_law_tips", 49), ("_law_knots", 50), ("_law_put", 51), ("_law_bush", 52), ("_law_near_bush", 53), ("_law_word", 54), ("_law_tops", 55), ("_law_cut", 56), ("_law_clash", 57), ("_law_lot_right", 58), ("_law_right", 59), ("law", 60)]
def ds : List (Str × Nat) := ds0 ++ ds1
def fn : List He.DefD := ds.map fun p => dfn p.1 p.2
def frs0 : List Str := ["isinstance", "len", "int", "bool", "tuple", "str", "sum", "max", "all", "zip", "enumerate", "range", "sorted", "abs", "list"]
def gis : List (Str × Int) := [("PARTS", 400), ("DEEPEST", 60), ("BRANCHES", 6), ("GROWTHS", 12), ("NUMBERS", 100)]
def faG : List He.Fa := ds.map fun p => .glo p.1
def faF : List He.Fa := frs0.map fun x => .free x
def faI : List He.Fa := gis.map fun p => .int p.1 p.2
def faC : List He.Fa := [.str "LETTERS" "abcdefghijklmnopqrstuvwxyz", .glo "BushError", .glo "InvalidBush", .glo "InvalidNumber", .glo "InvalidGrafts", .exc "InvalidBush", .exm "InvalidBush" "BushError" true]
def fa : List He.Fa := faG ++ (faF ++ (faI ++ faC))
def loose0 : List Str := ["BushError", "InvalidBush", "InvalidNumber", "InvalidGrafts", "PARTS", "DEEPEST", "BRANCHES", "GROWTHS", "LETTERS", "is_whole", "is_tuple_of", "is_letter", "fits_part", "fits_bush", "need_bush", "knots_in", "tips_in", "height_in", "NUMBERS", "fits_graft", "fits_grafts", "put_at", "grafted_by", "need_grafts", "grafted", "are_unlike", "is_top_of", "parts_at_tips", "tops_in", "met_by"]
def loose1 : List Str := ["joined_by", "clash_by", "need_both", "is_top", "lot_between", "count_tops", "common_top", "joined_tops", "clash_road", "_law_cup", "_law_roll", "_law_some", "_law_parts", "_law_tips", "_law_knots", "_law_put", "_law_bush", "_law_near_bush", "_law_word", "_law_tops", "_law_cut", "_law_clash", "_law_lot_right", "_law_right"]
def loose : List Str := loose0 ++ loose1
/-- what isinstance asks of the class of the error -/
def exB (K : PySem.W.Frag) : Bool :=
  He.eqO (PySem.W.findIn K (.ref (cB K)) "__getattribute__") (some (some (.builtin "BaseException.__getattribute__"))) && (He.eqO (PySem.W.findIn K (.ref (cB K)) "__getattr__") (some none) && (decide (PySem.W.subIn K (.ref (cB K)) (.type "BaseException") = some true) && (PySem.W.hasDictIn K (cB K) && (He.eqO (PySem.W.findIn K (.ref (cB K)) "__class__") (some (some (.builtin "object.__class__"))) &&
  (He.eqO (PySem.W.specialIn K (.builtin "object.__class__") "__get__") (some (some (.builtin "getset_descriptor.__get__"))) && (decide (PySem.W.takesIn K (.builtin "object.__class__") = some true) && (decide (PySem.W.mroIn K (cB K) (.type "object") = some true) &&
  (decide (PySem.W.kitOne K (.ref (cB K)) (.ref (cB K)) = some true) && (decide (PySem.W.kitOne K (.ref (cB K)) (.ref (He.ga K "InvalidGrafts")) = some false) && decide (PySem.W.kitOne K (.ref (cB K)) (.ref (He.ga K "InvalidNumber")) = some false))))))))))
theorem exB_ok {K : PySem.W.Frag} (h : exB K = true) : ExcC K (cB K) ∧ PySem.W.kitOne K (.ref (cB K)) (.ref (cB K)) = some true ∧ PySem.W.kitOne K (.ref (cB K)) (.ref (He.ga K "InvalidGrafts")) = some false ∧ PySem.W.kitOne K (.ref (cB K)) (.ref (He.ga K "InvalidNumber")) = some false := by
  obtain ⟨h1, h⟩ := He.ba h
  obtain ⟨h2, h⟩ := He.ba h
  obtain ⟨h3, h⟩ := He.ba h
  obtain ⟨h4, h⟩ := He.ba h
  obtain ⟨h5, h⟩ := He.ba h
  obtain ⟨h6, h⟩ := He.ba h
  obtain ⟨h7, h⟩ := He.ba h
  obtain ⟨h8, h⟩ := He.ba h
  obtain ⟨h9, h⟩ := He.ba h
  obtain ⟨h10, h11⟩ := He.ba h
  exact ⟨⟨He.eqO_ok h1, He.eqO_ok h2, of_decide_eq_true h3, h4, He.eqO_ok h5, He.eqO_ok h6, of_decide_eq_true h7, of_decide_eq_true h8⟩, of_decide_eq_true h9, of_decide_eq_true h10, of_decide_eq_true h11⟩
abbrev lawR : PySem.W.OpenRow := PySem.W.OpenLaw.row PySem.Challenge.rw_tipwoods_k59_whole_tops_met_and_joined
abbrev lawAt : He.Defn := ("law", none)
abbrev hk : PySem.W.Hook := He.hookX 5 fa fn [] [lawAt] exB
def ob (s : PySem.W.SharedT) : He.AlX := He.obsX 5 fa fn [] [lawAt] exB (HandSHeadRun.getT s)
theorem ob_eq (s : PySem.W.SharedT) : ob s = hk.obs s.abs := He.obsX_eq (HandSHeadRun.getT_eq s)
theorem run (w : World) : HandSHeadRun.RunEq lawR (PySem.W.view lawR.prog [60]) hk ob 3000 loose w := by
  intro os
  kernel_rfl
end Tw
set_option Elab.async false
set_option linter.all false
set_option maxRecDepth 100000
set_option maxHeartbeats 0
namespace Tw
open PySem PySem.Spec PyProof.Rows L2
/-! ### the end -/
section
variable {w : World} {K : PySem.W.Frag} {h : Heap} {mg : Str → Option Value}
theorem txt_of (X : K.In h) (G : h.Ns mainGlobals mg) (c : He.SaysX fa fn [] [lawAt] exB w h K) : Txt K mg where
  df := fun x i hx => by
    have hm : (x, i) ∈ ds := hx
    obtain ⟨fd, F⟩ := He.SaysD.defs c.t.d (d := dfn x i) (List.mem_map.mpr ⟨_, hm, rfl⟩)
    exact ⟨_, fd, F, He.glo_ok X G (He.SaysD.facts c.t.d (f := .glo x) (List.mem_append_left _ (List.mem_map.mpr ⟨_, hm, rfl⟩)))⟩
  fr := fun x hx => He.free_ok X G (He.SaysD.facts c.t.d (f := .free x) (List.mem_append_right _ (List.mem_append_left _ (List.mem_map.mpr ⟨_, (show x ∈ frs0 from hx), rfl⟩))))
  gi := fun q hq => He.int_ok X G (He.SaysD.facts c.t.d (f := .int q.1 q.2) (List.mem_append_right _ (List.mem_append_right _ (List.mem_append_left _ (List.mem_map.mpr ⟨_, (show q ∈ gis from hq), rfl⟩)))))
  gl := He.str_ok X G (He.SaysD.facts c.t.d (f := .str "LETTERS" "abcdefghijklmnopqrstuvwxyz") (List.mem_append_right _ (List.mem_append_right _ (List.mem_append_right _ List.mem_cons_self))))
theorem faC_mem {f : He.Fa} (hf : f ∈ faC) : f ∈ fa := List.mem_append_right _ (List.mem_append_right _ (List.mem_append_right _ hf))
theorem txtB_of (X : K.In h) (G : h.Ns mainGlobals mg) (c : He.SaysX fa fn [] [lawAt] exB w h K) : TxtB K mg := by
  obtain ⟨e1, e2, e3, e4⟩ := He.exc_ok (He.SaysD.facts c.t.d (f := .exc "InvalidBush") (faC_mem (by simp [faC])))
  exact ⟨He.glo_ok X G (He.SaysD.facts c.t.d (f := .glo "InvalidBush") (faC_mem (by simp [faC]))), e1, e2, e3, e4⟩
theorem txtE_of (X : K.In h) (G : h.Ns mainGlobals mg) (c : He.SaysX fa fn [] [lawAt] exB w h K) : TxtE K mg := by
  obtain ⟨x1, x2, x3, x4⟩ := exB_ok c.more
  exact ⟨He.glo_ok X G (He.SaysD.facts c.t.d (f := .glo "BushError") (faC_mem (by simp [faC]))), He.glo_ok X G (He.SaysD.facts c.t.d (f := .glo "InvalidGrafts") (faC_mem (by simp [faC]))), He.glo_ok X G (He.SaysD.facts c.t.d (f := .glo "InvalidNumber") (faC_mem (by simp [faC]))),
    He.exm_ok (He.SaysD.facts c.t.d (f := .exm "InvalidBush" "BushError" true) (faC_mem (by simp [faC]))), x1, x2, x3, x4⟩
theorem law_at {f : Addr} (X : K.In h) (G : h.Ns mainGlobals mg) (hf : mg ("law" : Str) = some (.ref f)) (c : He.SaysX fa fn [] [lawAt] exB w h K) :
    LamX.LawAtS PySem.Challenge.rw_tipwoods_k59_whole_tops_met_and_joined w K (L2.CX PySem.Challenge.rw_tipwoods_k59_whole_tops_met_and_joined.prog w) 61 63 "_law_script" mg f h := by
  have T := txt_of X G c
  obtain ⟨f', fd, F, m⟩ := T.df "law" 60 (by decide)
  have e := hf.symm.trans m
  cases e
  obtain ⟨oc, od, dV, kV, doc, pm, an, cdv, ct, osl, efd, lk, hcd, _, _⟩ := id F.ex
  obtain ⟨cc, rfl⟩ := He.codeIn_ref hcd
  have hm : He.fAd K lawAt = f := by
    have m2 := He.glo_ok X G (He.SaysD.facts c.t.d (f := .glo "law") (List.mem_append_left _ (List.mem_map.mpr ⟨("law", 60), by decide, rfl⟩)))
    have e := m2.symm.trans m
    exact Value.ref.inj (Option.some.inj e)
  have hcode : fd.code = .ref cc := by rw [efd] <;> rfl
  have h1 : (He.cT K lawAt).1 = cc := He.codeOf_eq (p := lawAt) (by rw [hm]; exact lk) hcode
  have hb := FunD.bindsA (ps := ["_law_script"]) F fun _ _ _ _ _ _ us hl => match us, hl with | [_], _ => rfl
  refine ⟨fd, [He.cT K lawAt], spLaw K (He.cT K lawAt).2, fun p hp => ?_, fun p hp => ?_, fun p hp => ?_, fun s u => hb s [u] rfl, fun H a ns hl _ hH hS => ⟨a, ns, rfl, hS, by omega, hH _ (List.mem_singleton.mpr rfl), fun _ => rfl⟩, fun base _ _ hT => ?_⟩
  · rw [List.mem_singleton.mp hp]; exact c.empty _ (List.mem_singleton.mpr rfl)
  · rw [List.mem_singleton.mp hp]; exact c.out _ (List.mem_singleton.mpr rfl)
  · rw [List.mem_singleton.mp hp]; exact PySem.W.codeHd_of_K X (c.hd _ (List.mem_singleton.mpr rfl))
  · have TB := hT _ (List.mem_singleton.mpr rfl)
    rw [h1] at TB
    exact law_ok T (txtB_of X G c) (txtE_of X G c) F hcode TB
end
end Tw
open PySem PySem.W PySem.Calls PyProof.Rows
theorem PySem.Challenge.cw_tipwoods_k59_whole_tops_met_and_joined_holds : PySem.Challenge.rw_tipwoods_k59_whole_tops_met_and_joined.Holds := by
  w_on; o_law
  refine HandSHeadRun.head_any (r := OpenLaw.row PySem.Challenge.rw_tipwoods_k59_whole_tops_met_and_joined) (q := view (OpenLaw.row PySem.Challenge.rw_tipwoods_k59_whole_tops_met_and_joined).prog [60]) (H := Tw.hk) (ob := Tw.ob) (M := 3000) (loose := Tw.loose) (d := HandSHeadRun.topDef (OpenLaw.row PySem.Challenge.rw_tipwoods_k59_whole_tops_met_and_joined).prog 60) (kwd := []) Tw.ob_eq
    (by kernel_rfl) (fun s => by kernel_rfl) Tw.run (by kernel_rfl) (by kernel_rfl) (by kernel_rfl) (by rfl) (by first | assumption | decide +kernel) (by decide +kernel) ⟨rfl, rfl, rfl, rfl, rfl, by decide +kernel⟩ ?hw ?hc
  case hw => w_witness2
  case hc =>
    refine LamX.walk_ofTsE (l := PySem.Challenge.rw_tipwoods_k59_whole_tops_met_and_joined) (n := 63) (k := 61) (x := "_law_script") (CX := fun w => L2.CX PySem.Challenge.rw_tipwoods_k59_whole_tops_met_and_joined.prog w) rfl (by decide) (by kernel_rfl) ⟨rfl, by decide, by decide⟩ ?F (fun w H s e s' z => by obtain ⟨_, _, _, _, _, _, _, _, _, _, _, _, q⟩ := z; exact q)
    intro w mg fa h Y G hmg0
    obtain ⟨K, KX, c⟩ := Y
    have hmg : mg ("law" : PySem.Str) = some (.ref fa) := by
      have e : (HandSHeadRun.topDef (OpenLaw.row PySem.Challenge.rw_tipwoods_k59_whole_tops_met_and_joined).prog 60).name = ("law" : PySem.Str) := by kernel_rfl
      rw [← e]
      exact hmg0
    exact ⟨K, KX, Tw.law_at KX G hmg c⟩
