import PyProof.Rows.All
import Wide.All
import OpenK.AllK
import Wide.FinOn
import KE.GoesMore
import HandS.ForMost
import HandS.Conv
import HandS.Flt
import HandS.DictComp
import HandS.IsInst
import HandS.CallLocal
import HandS.Wide
import HandS.Style
import HandS.TryOnly
import HandS.ExcOwn
import HandS.WordsExc
import HandS.StrMore
import HandS.DictTup
import KE.SortData
import KE.KDictItemsList
import HandS.Set
import HandS.ListItems
import HandS.Walk
import PyProof.ReprRoads
import HandS.ReplaceLit
import HandS.ReplaceList
import PyProof.Rows.StrCountLaw
import HandS.SetBool
import HandS.SetTxt0
import HandS.TupSets
import HandS.ExcInit
import HandS.ExcIs
import PySem.Challenge.RW_scribeself_k81_whole_least_mends
set_option Elab.async false
section TextMdA
/-! Changes between two lists: alignments, the least number, the table. -/
namespace Md
variable {α : Type} [DecidableEq α]
/-- 1 for two unlike items -/
def neq (x y : α) : Nat := if x = y then 0 else 1
/-- an alignment of two lists that costs n -/
inductive Al : List α → List α → Nat → Prop
  | nil : Al [] [] 0
  | sub {a b : List α} {n : Nat} (x y : α) : Al a b n → Al (x :: a) (y :: b) (n + neq x y)
  | del {a b : List α} {n : Nat} (x : α) : Al a b n → Al (x :: a) b (n + 1)
  | ins {a b : List α} {n : Nat} (y : α) : Al a b n → Al a (y :: b) (n + 1)
/-- the least number of changes -/
def ed : List α → List α → Nat
  | [], b => b.length
  | _ :: a, [] => a.length + 1
  | x :: a, y :: b => min (ed a b + neq x y) (min (ed a (y :: b) + 1) (ed (x :: a) b + 1))
termination_by a b => a.length + b.length
theorem ed_nil (b : List α) : ed [] b = b.length := by rw [ed]
theorem ed_nilr (a : List α) : ed a [] = a.length := by
  cases a with
  | nil => rw [ed]
  | cons x a => rw [ed, List.length_cons]
theorem ed_cons (x y : α) (a b : List α) : ed (x :: a) (y :: b) = min (ed a b + neq x y) (min (ed a (y :: b) + 1) (ed (x :: a) b + 1)) := by
  conv => lhs; rw [ed]
theorem al_nilr : ∀ a : List α, Al a [] a.length
  | [] => .nil
  | x :: a => .del x (al_nilr a)
theorem al_nill : ∀ b : List α, Al [] b b.length
  | [] => .nil
  | y :: b => .ins y (al_nill b)
theorem al_ed : ∀ a b : List α, Al a b (ed a b)
  | [], b => by rw [ed_nil]; exact al_nill b
  | x :: a, [] => by rw [ed_nilr]; exact al_nilr (x :: a)
  | x :: a, y :: b => by
    have h1 := al_ed a b
    have h2 := al_ed a (y :: b)
    have h3 := al_ed (x :: a) b
    rw [ed_cons]
    rcases Nat.le_total (ed a b + neq x y) (min (ed a (y :: b) + 1) (ed (x :: a) b + 1)) with h | h
    · rw [Nat.min_eq_left h]; exact .sub x y h1
    · rw [Nat.min_eq_right h]
      rcases Nat.le_total (ed a (y :: b) + 1) (ed (x :: a) b + 1) with k | k
      · rw [Nat.min_eq_left k]; exact .del x h2
      · rw [Nat.min_eq_right k]; exact .ins y h3
termination_by a b => a.length + b.length
theorem ed_del (x : α) (a b : List α) : ed (x :: a) b ≤ ed a b + 1 := by
  cases b with
  | nil => rw [ed_nilr, ed_nilr, List.length_cons]; exact Nat.le_refl _
  | cons y b => rw [ed_cons]; omega
theorem ed_ins (y : α) (a b : List α) : ed a (y :: b) ≤ ed a b + 1 := by
  cases a with
  | nil => rw [ed_nil, ed_nil, List.length_cons]; exact Nat.le_refl _
  | cons x a => rw [ed_cons]; omega
theorem ed_le {a b : List α} {n : Nat} (h : Al a b n) : ed a b ≤ n := by
  induction h with
  | nil => rw [ed_nil]; exact Nat.le_refl _
  | sub x y _ ih => rw [ed_cons]; omega
  | del x _ ih => exact Nat.le_trans (ed_del x _ _) (by omega)
  | ins y _ ih => exact Nat.le_trans (ed_ins y _ _) (by omega)
theorem Al.append {a b c d : List α} {n m : Nat} (h : Al a b n) (k : Al c d m) : Al (a ++ c) (b ++ d) (n + m) := by
  induction h with
  | nil => rw [Nat.zero_add]; exact k
  | @sub a b n x y _ ih => rw [show n + neq x y + m = n + m + neq x y by omega]; exact .sub x y ih
  | @del a b n x _ ih => rw [show n + 1 + m = n + m + 1 by omega]; exact .del x ih
  | @ins a b n y _ ih => rw [show n + 1 + m = n + m + 1 by omega]; exact .ins y ih
theorem Al.split {a b : List α} {n : Nat} (h : Al a b n) : ∀ {b1 b2 : List α}, b = b1 ++ b2 → ∃ a1 a2 n1 n2, a = a1 ++ a2 ∧ n = n1 + n2 ∧ Al a1 b1 n1 ∧ Al a2 b2 n2 := by
  induction h with
  | nil =>
    intro b1 b2 e
    obtain ⟨rfl, rfl⟩ := List.append_eq_nil_iff.mp e.symm
    exact ⟨[], [], 0, 0, rfl, rfl, .nil, .nil⟩
  | @sub a b n x y h ih =>
    intro b1 b2 e
    cases b1 with
    | nil => exact ⟨[], x :: a, 0, n + neq x y, rfl, by omega, .nil, by rw [← (show y :: b = b2 from e)]; exact .sub x y h⟩
    | cons z b1 =>
      injection e with e1 e2
      subst e1
      obtain ⟨a1, a2, n1, n2, ea, en, h1, h2⟩ := ih e2
      exact ⟨x :: a1, a2, n1 + neq x y, n2, by rw [ea]; rfl, by omega, .sub x y h1, h2⟩
  | @del a b n x h ih =>
    intro b1 b2 e
    obtain ⟨a1, a2, n1, n2, ea, en, h1, h2⟩ := ih e
    exact ⟨x :: a1, a2, n1 + 1, n2, by rw [ea]; rfl, by omega, .del x h1, h2⟩
  | @ins a b n y h ih =>
    intro b1 b2 e
    cases b1 with
    | nil => exact ⟨[], a, 0, n + 1, rfl, by omega, .nil, by rw [← (show y :: b = b2 from e)]; exact .ins y h⟩
    | cons z b1 =>
      injection e with e1 e2
      subst e1
      obtain ⟨a1, a2, n1, n2, ea, en, h1, h2⟩ := ih e2
      exact ⟨a1, a2, n1 + 1, n2, ea, by omega, .ins y h1, h2⟩
theorem Al.rev {a b : List α} {n : Nat} (h : Al a b n) : Al a.reverse b.reverse n := by
  induction h with
  | nil => exact .nil
  | @sub a b n x y _ ih =>
    rw [List.reverse_cons, List.reverse_cons]
    have h1 : Al [x] [y] (0 + neq x y) := .sub x y .nil
    rw [show n + neq x y = n + (0 + neq x y) by omega]
    exact ih.append h1
  | @del a b n x _ ih =>
    rw [List.reverse_cons]
    have h1 : Al [x] ([] : List α) (0 + 1) := .del x .nil
    have := ih.append h1
    rw [List.append_nil] at this
    exact this
  | @ins a b n y _ ih =>
    rw [List.reverse_cons]
    have h1 : Al ([] : List α) [y] (0 + 1) := .ins y .nil
    have := ih.append h1
    rw [List.append_nil] at this
    exact this
theorem Al.len {a b : List α} {n : Nat} (h : Al a b n) : b.length ≤ a.length + n ∧ a.length ≤ b.length + n := by
  induction h with
  | nil => exact ⟨Nat.le_refl _, Nat.le_refl _⟩
  | sub x y _ ih => simp only [List.length_cons]; omega
  | del x _ ih => simp only [List.length_cons]; omega
  | ins y _ ih => simp only [List.length_cons]; omega
/-- the number as the program's table has it: by the last items -/
def dist (a b : List α) : Nat := ed a.reverse b.reverse
theorem al_dist (a b : List α) : Al a b (dist a b) := by
  have := (al_ed a.reverse b.reverse).rev
  rw [List.reverse_reverse, List.reverse_reverse] at this
  exact this
theorem dist_le {a b : List α} {n : Nat} (h : Al a b n) : dist a b ≤ n := ed_le h.rev
theorem dist_nil (b : List α) : dist [] b = b.length := by
  unfold dist; rw [List.reverse_nil, ed_nil, List.length_reverse]
theorem dist_nilr (a : List α) : dist a [] = a.length := by
  unfold dist; rw [List.reverse_nil, ed_nilr, List.length_reverse]
theorem dist_snoc (a b : List α) (x y : α) : dist (a ++ [x]) (b ++ [y]) = min (dist a b + neq x y) (min (dist a (b ++ [y]) + 1) (dist (a ++ [x]) b + 1)) := by
  unfold dist
  simp only [List.reverse_append, List.reverse_cons, List.reverse_nil, List.nil_append, List.singleton_append, ed_cons]
theorem dist_len (a b : List α) : b.length ≤ a.length + dist a b ∧ a.length ≤ b.length + dist a b := (al_dist a b).len
theorem dist_app (a b c d : List α) : dist (a ++ c) (b ++ d) ≤ dist a b + dist c d := dist_le ((al_dist a b).append (al_dist c d))

/-! ### the table: D i k for the beginnings -/
def tab (a b : List α) (i k : Nat) : Nat := dist (a.take i) (b.take k)
theorem take_snoc {l : List α} {i : Nat} {x : α} (h : l[i]? = some x) : l.take (i + 1) = l.take i ++ [x] := by
  rw [List.take_succ, h]; rfl
theorem tab_0 (a b : List α) {k : Nat} (h : k ≤ b.length) : tab a b 0 k = k := by
  unfold tab; rw [List.take_zero, dist_nil, List.length_take]; omega
theorem tab_r0 (a b : List α) {i : Nat} (h : i ≤ a.length) : tab a b i 0 = i := by
  unfold tab; rw [List.take_zero, dist_nilr, List.length_take]; omega
theorem tab_ss {a b : List α} {i k : Nat} {x y : α} (hx : a[i]? = some x) (hy : b[k]? = some y) :
    tab a b (i + 1) (k + 1) = min (tab a b i k + neq x y) (min (tab a b i (k + 1) + 1) (tab a b (i + 1) k + 1)) := by
  unfold tab
  rw [take_snoc hx, take_snoc hy, dist_snoc]
theorem tab_all (a b : List α) : tab a b a.length b.length = dist a b := by
  unfold tab; rw [List.take_length, List.take_length]
end Md
end TextMdA
section TextMdB
/-! Values (number, text) in the program's order, least ones; it is well-founded. -/
namespace Md
/-- a mend: the number of changes, the text -/
abbrev Mv := Nat × List Nat
/-- number, length, order of texts -/
def lt (a b : Mv) : Prop := a.1 < b.1 ∨ (a.1 = b.1 ∧ (a.2.length < b.2.length ∨ (a.2.length = b.2.length ∧ a.2 < b.2)))
def le (a b : Mv) : Prop := ¬ lt b a
instance (a b : Mv) : Decidable (lt a b) := by unfold lt; exact inferInstance
instance (a b : Mv) : Decidable (le a b) := by unfold le; exact inferInstance
theorem w_irr (w : List Nat) : ¬ w < w := List.lt_irrefl w
theorem w_tri (w u : List Nat) : w < u ∨ w = u ∨ u < w := by
  by_cases h : w < u
  · exact .inl h
  · by_cases k : u < w
    · exact .inr (.inr k)
    · exact .inr (.inl (List.le_antisymm (List.not_lt.mp k) (List.not_lt.mp h)))
theorem lt_irr (a : Mv) : ¬ lt a a := by
  rintro (h | ⟨_, h | ⟨_, h⟩⟩)
  · exact Nat.lt_irrefl _ h
  · exact Nat.lt_irrefl _ h
  · exact w_irr _ h
theorem lt_trans {a b c : Mv} (h : lt a b) (k : lt b c) : lt a c := by
  rcases h with h | ⟨e, h⟩
  · rcases k with k | ⟨e', _⟩
    · exact .inl (Nat.lt_trans h k)
    · exact .inl (by omega)
  · rcases k with k | ⟨e', k⟩
    · exact .inl (by omega)
    · refine .inr ⟨e.trans e', ?_⟩
      rcases h with h | ⟨f, h⟩
      · rcases k with k | ⟨f', _⟩
        · exact .inl (Nat.lt_trans h k)
        · exact .inl (by omega)
      · rcases k with k | ⟨f', k⟩
        · exact .inl (by omega)
        · exact .inr ⟨f.trans f', List.lt_trans h k⟩
theorem lt_tri (a b : Mv) : lt a b ∨ a = b ∨ lt b a := by
  obtain ⟨d, w⟩ := a
  obtain ⟨e, u⟩ := b
  unfold lt
  dsimp only
  rcases Nat.lt_trichotomy d e with h | h | h
  · exact .inl (.inl h)
  · rcases Nat.lt_trichotomy w.length u.length with k | k | k
    · exact .inl (.inr ⟨h, .inl k⟩)
    · rcases w_tri w u with m | m | m
      · exact .inl (.inr ⟨h, .inr ⟨k, m⟩⟩)
      · exact .inr (.inl (by rw [h, m]))
      · exact .inr (.inr (.inr ⟨h.symm, .inr ⟨k.symm, m⟩⟩))
    · exact .inr (.inr (.inr ⟨h.symm, .inl k⟩))
  · exact .inr (.inr (.inl h))
theorem le_refl (a : Mv) : le a a := lt_irr a
theorem le_of_lt {a b : Mv} (h : lt a b) : le a b := fun k => lt_irr a (lt_trans h k)
theorem le_total (a b : Mv) : le a b ∨ le b a := by
  rcases lt_tri a b with h | h | h
  · exact .inl (le_of_lt h)
  · exact .inl (by rw [h]; exact le_refl b)
  · exact .inr (le_of_lt h)
theorem le_anti {a b : Mv} (h : le a b) (k : le b a) : a = b := by
  rcases lt_tri a b with m | m | m
  · exact absurd m k
  · exact m
  · exact absurd m h
theorem le_trans {a b c : Mv} (h : le a b) (k : le b c) : le a c := fun m => by
  rcases lt_tri a b with n | n | n
  · exact k (lt_trans m n)
  · subst n; exact k m
  · exact h n
theorem lt_of_lt_le {a b c : Mv} (h : lt a b) (k : le b c) : lt a c := by
  rcases lt_tri b c with m | m | m
  · exact lt_trans h m
  · subst m; exact h
  · exact absurd m k
theorem lt_of_le_lt {a b c : Mv} (h : le a b) (k : lt b c) : lt a c := by
  rcases lt_tri a b with m | m | m
  · exact lt_trans m k
  · subst m; exact k
  · exact absurd m h
theorem le_iff {a b : Mv} : le a b ↔ lt a b ∨ a = b := by
  constructor
  · intro h
    rcases lt_tri a b with m | m | m
    · exact .inl m
    · exact .inr m
    · exact absurd m h
  · rintro (h | rfl)
    · exact le_of_lt h
    · exact le_refl a
/-- the parts of le -/
theorem le_num {a b : Mv} (h : le a b) : a.1 ≤ b.1 := by
  rcases Nat.lt_or_ge b.1 a.1 with k | k
  · exact absurd (.inl k) h
  · exact k
/-- two stretches side by side -/
def join (a b : Mv) : Mv := (a.1 + b.1, a.2 ++ b.2)
theorem app_lt_left : ∀ (w : List Nat) {u v : List Nat}, u < v → w ++ u < w ++ v
  | [], _, _, h => h
  | x :: w, _, _, h => by
    rw [List.cons_append, List.cons_append, List.cons_lt_cons_iff]
    exact .inr ⟨rfl, app_lt_left w h⟩
theorem app_lt_right : ∀ {w v : List Nat} (u u' : List Nat), w.length = v.length → w < v → w ++ u < v ++ u'
  | [], [], u, u', _, h => absurd h (w_irr _)
  | [], _ :: _, u, u', e, _ => by simp at e
  | _ :: _, [], u, u', e, _ => by simp at e
  | x :: w, y :: v, u, u', e, h => by
    rw [List.cons_append, List.cons_append, List.cons_lt_cons_iff]
    rw [List.cons_lt_cons_iff] at h
    rcases h with h | ⟨h, k⟩
    · exact .inl h
    · exact .inr ⟨h, app_lt_right u u' (by simpa using e) k⟩
theorem join_lt_right {a b c : Mv} (h : lt b c) : lt (join a b) (join a c) := by
  unfold join lt at *
  dsimp only
  rcases h with h | ⟨e, h | ⟨f, h⟩⟩
  · exact .inl (by omega)
  · exact .inr ⟨by omega, .inl (by simp only [List.length_append]; omega)⟩
  · exact .inr ⟨by omega, .inr ⟨by simp only [List.length_append]; omega, app_lt_left _ h⟩⟩
theorem join_lt_left {a b c : Mv} (h : lt a b) : lt (join a c) (join b c) := by
  unfold join lt at *
  dsimp only
  rcases h with h | ⟨e, h | ⟨f, h⟩⟩
  · exact .inl (by omega)
  · exact .inr ⟨by omega, .inl (by simp only [List.length_append]; omega)⟩
  · exact .inr ⟨by omega, .inr ⟨by simp only [List.length_append]; omega, app_lt_right _ _ f h⟩⟩
theorem join_le {a b c d : Mv} (h : le a b) (k : le c d) : le (join a c) (join b d) := by
  have h1 : le (join a c) (join b c) := by
    rcases le_iff.mp h with m | m
    · exact le_of_lt (join_lt_left m)
    · rw [m]; exact le_refl _
  have h2 : le (join b c) (join b d) := by
    rcases le_iff.mp k with m | m
    · exact le_of_lt (join_lt_right m)
    · rw [m]; exact le_refl _
  exact le_trans h1 h2
theorem join_assoc (a b c : Mv) : join (join a b) c = join a (join b c) := by
  unfold join; dsimp only; rw [Nat.add_assoc, List.append_assoc]
theorem join_zero (a : Mv) : join (0, []) a = a := by
  unfold join; dsimp only; rw [Nat.zero_add]; rfl
def bmin (a b : Mv) : Mv := if lt b a then b else a
theorem bmin_le_left (a b : Mv) : le (bmin a b) a := by
  unfold bmin; split
  · exact le_of_lt ‹_›
  · exact le_refl a
theorem bmin_le_right (a b : Mv) : le (bmin a b) b := by
  unfold bmin; split
  · exact le_refl b
  · assumption
theorem bmin_or (a b : Mv) : bmin a b = a ∨ bmin a b = b := by
  unfold bmin; split
  · exact .inr rfl
  · exact .inl rfl

/-! ### it is well-founded -/
theorem lex_acc : ∀ n : Nat, ∀ w : List Nat, w.length = n → Acc (fun u v : List Nat => u.length = v.length ∧ u < v) w
  | 0, w, h => by
    obtain rfl := List.length_eq_zero_iff.mp h
    refine ⟨_, fun u ⟨e, k⟩ => ?_⟩
    obtain rfl := List.length_eq_zero_iff.mp e
    exact absurd k (w_irr _)
  | n + 1, w, h => by
    have tails := lex_acc n
    have key : ∀ x : Nat, ∀ w : List Nat, w.length = n → Acc (fun u v : List Nat => u.length = v.length ∧ u < v) (x :: w) := by
      intro x
      induction x using Nat.strongRecOn with
      | ind x ih =>
        intro w hw
        have aw := tails w hw
        induction aw with
        | intro w _ ihw =>
          refine ⟨_, fun u ⟨e, k⟩ => ?_⟩
          cases u with
          | nil => simp at e
          | cons y u =>
            have eu : u.length = n := by simp at e; omega
            rw [List.cons_lt_cons_iff] at k
            rcases k with k | ⟨rfl, k⟩
            · exact ih y k u eu
            · exact ihw u ⟨by omega, k⟩ eu
    cases w with
    | nil => simp at h
    | cons x w => exact key x w (by simpa using h)
theorem lt_wf : WellFounded lt := by
  have key : ∀ d l : Nat, ∀ w : List Nat, w.length = l → Acc lt (d, w) := by
    intro d
    induction d using Nat.strongRecOn with
    | ind d ihd =>
      intro l
      induction l using Nat.strongRecOn with
      | ind l ihl =>
        intro w hw
        have aw := lex_acc l w hw
        induction aw with
        | intro w _ ihw =>
          refine ⟨_, fun u k => ?_⟩
          obtain ⟨e, u⟩ := u
          rcases k with k | ⟨rfl, k | ⟨f, k⟩⟩
          · exact ihd e k _ u rfl
          · exact ihl u.length (by dsimp only at k; omega) u rfl
          · exact ihw u ⟨f, k⟩ (by dsimp only at f; omega)
  exact ⟨fun ⟨d, w⟩ => key d _ w rfl⟩

/-! ### the least one with a property -/
/-- o is the least value with the property, none where there is none -/
def IsMin (P : Mv → Prop) (o : Option Mv) : Prop := match o with
  | none => ∀ v, ¬ P v
  | some v => P v ∧ ∀ u, P u → le v u
theorem IsMin.uniq {P : Mv → Prop} {o o' : Option Mv} (h : IsMin P o) (k : IsMin P o') : o = o' := by
  cases o with
  | none =>
    cases o' with
    | none => rfl
    | some v => exact absurd k.1 (h v)
  | some u =>
    cases o' with
    | none => exact absurd h.1 (k u)
    | some v => rw [le_anti (h.2 v k.1) (k.2 u h.1)]
theorem IsMin.congr {P P' : Mv → Prop} {o : Option Mv} (h : IsMin P o) (e : ∀ v, P v ↔ P' v) : IsMin P' o := by
  cases o with
  | none => exact fun v p => h v ((e v).mpr p)
  | some u => exact ⟨(e u).mp h.1, fun v p => h.2 v ((e v).mpr p)⟩
theorem IsMin.none : IsMin (fun _ => False) none := fun _ h => h
/-- one more -/
theorem IsMin.add {P P' : Mv → Prop} {o : Option Mv} {x : Mv} (h : IsMin P o) (e : ∀ v, P' v ↔ P v ∨ v = x) : IsMin P' (some (bmin (o.getD x) x)) := by
  cases o with
  | none =>
    have ex : bmin x x = x := by rcases bmin_or x x with q | q <;> exact q
    show IsMin P' (some (bmin x x))
    rw [ex]
    refine ⟨(e x).mpr (.inr rfl), fun u p => ?_⟩
    rcases (e u).mp p with q | q
    · exact absurd q (h u)
    · rw [q]; exact le_refl x
  | some y =>
    show IsMin P' (some (bmin y x))
    refine ⟨?_, fun u p => ?_⟩
    · rcases bmin_or y x with q | q
      · rw [q]; exact (e y).mpr (.inl h.1)
      · rw [q]; exact (e x).mpr (.inr rfl)
    · rcases (e u).mp p with q | q
      · exact le_trans (bmin_le_left y x) (h.2 u q)
      · rw [q]; exact bmin_le_right y x
theorem isMin_ex (P : Mv → Prop) : ∃ o, IsMin P o := by
  by_cases h : ∃ v, P v
  · obtain ⟨v, hv⟩ := h
    have key : ∀ v, Acc lt v → P v → ∃ u, P u ∧ ∀ x, P x → le u x := by
      intro v a
      induction a with
      | intro v _ ih =>
        intro pv
        by_cases k : ∃ u, P u ∧ lt u v
        · obtain ⟨u, pu, hu⟩ := k
          exact ih u hu pu
        · exact ⟨v, pv, fun x px hx => k ⟨x, px, hx⟩⟩
    obtain ⟨u, p, q⟩ := key v (lt_wf.apply v) hv
    exact ⟨some u, p, q⟩
  · exact ⟨none, fun v p => h ⟨v, p⟩⟩
noncomputable def theMin (P : Mv → Prop) : Option Mv := Classical.choose (isMin_ex P)
theorem theMin_is (P : Mv → Prop) : IsMin P (theMin P) := Classical.choose_spec (isMin_ex P)
/-- the first is none, or no more than the second -/
def ole (o o' : Option Mv) : Prop := match o, o' with
  | _, none => True
  | some a, some b => le a b
  | none, some _ => False
/-- has something at most v -/
def Has (o : Option Mv) (v : Mv) : Prop := ∃ u, o = some u ∧ le u v
theorem Has.le {o : Option Mv} {v v' : Mv} (h : Has o v) (k : le v v') : Has o v' := let ⟨u, e, l⟩ := h; ⟨u, e, le_trans l k⟩
theorem IsMin.has {P : Mv → Prop} {o : Option Mv} {v : Mv} (h : IsMin P o) (p : P v) : Has o v := by
  cases o with
  | none => exact absurd p (h v)
  | some u => exact ⟨u, rfl, h.2 v p⟩
theorem IsMin.mem {P : Mv → Prop} {v : Mv} (h : IsMin P (some v)) : P v := h.1

/-! ### finitely many of them fall only finitely often -/
/-- an option falls: from nothing, or to a lesser one -/
def olt (o o' : Option Mv) : Prop := match o, o' with
  | some _, none => True
  | some a, some b => lt a b
  | none, _ => False
theorem olt_wf : WellFounded olt := by
  have hs : ∀ v, Acc olt (some v) := by
    intro v
    induction lt_wf.apply v with
    | intro v _ ih =>
      refine ⟨_, fun o h => ?_⟩
      cases o with
      | none => exact h.elim
      | some u => exact ih u h
  refine ⟨fun o => ?_⟩
  cases o with
  | some v => exact hs v
  | none =>
    refine ⟨_, fun o h => ?_⟩
    cases o with
    | none => exact h.elim
    | some u => exact hs u
/-- two rows of one length, nowhere more, somewhere less -/
inductive Fall : List (Option Mv) → List (Option Mv) → Prop
  | here {o o' : Option Mv} (r : List (Option Mv)) : olt o o' → Fall (o :: r) (o' :: r)
  | both {o o' : Option Mv} {r r' : List (Option Mv)} : olt o o' → Fall r r' → Fall (o :: r) (o' :: r')
  | there {r r' : List (Option Mv)} (o : Option Mv) : Fall r r' → Fall (o :: r) (o :: r')
theorem fall_acc : ∀ r : List (Option Mv), Acc Fall r
  | [] => ⟨_, fun _ h => by cases h⟩
  | o :: r => by
    have ar := fall_acc r
    have key : ∀ r, Acc Fall r → ∀ o, Acc Fall (o :: r) := by
      intro r ar
      induction ar with
      | intro r _ ih =>
        intro o
        induction olt_wf.apply o with
        | intro o _ iho =>
          refine ⟨_, fun q h => ?_⟩
          cases h with
          | here _ h => exact iho _ h
          | both h k => exact ih _ k _
          | there _ k => exact ih _ k _
    exact key r ar o
theorem fall_wf : WellFounded Fall := ⟨fall_acc⟩
/-- read off functions -/
theorem fall_of {ι : Type} {f g : ι → Option Mv} : ∀ {l : List ι}, (∀ i ∈ l, f i = g i ∨ olt (f i) (g i)) → (∃ i ∈ l, f i ≠ g i) → Fall (l.map f) (l.map g)
  | [], _, ⟨_, h, _⟩ => by cases h
  | i :: l, h, ⟨j, hj, ne⟩ => by
    have hi := h i List.mem_cons_self
    have hl : ∀ i ∈ l, f i = g i ∨ olt (f i) (g i) := fun k hk => h k (List.mem_cons_of_mem _ hk)
    rw [List.map_cons, List.map_cons]
    by_cases e : ∃ k ∈ l, f k ≠ g k
    · have ih := fall_of hl e
      rcases hi with q | q
      · rw [q]; exact .there _ ih
      · exact .both q ih
    · have same : l.map f = l.map g := List.map_congr_left fun k hk => Classical.byContradiction fun z => e ⟨k, hk, z⟩
      rcases List.mem_cons.mp hj with rfl | hj
      · rcases hi with q | q
        · exact absurd q ne
        · rw [same]; exact .here _ q
      · exact absurd ⟨j, hj, ne⟩ e
end Md
end TextMdB
section TextMdC
set_option linter.all false
/-! Grammars, what they derive, and the rows of the mender. -/
namespace Md
/-- a symbol -/
inductive Sy (ν : Type) where
  | lit (w : List Nat)
  | cls (cs : List Nat)
  | nt (n : ν)
abbrev Gr (ν : Type) := List (ν × List (Sy ν))
section
variable {ν : Type}
/-- the texts of a row of symbols -/
inductive Der (G : Gr ν) : List (Sy ν) → List Nat → Prop
  | nil : Der G [] []
  | lit {ss : List (Sy ν)} {u : List Nat} (w : List Nat) : Der G ss u → Der G (.lit w :: ss) (w ++ u)
  | cls {ss : List (Sy ν)} {u : List Nat} {c : Nat} {cs : List Nat} : c ∈ cs → Der G ss u → Der G (.cls cs :: ss) (c :: u)
  | nt {ss bs : List (Sy ν)} {u v : List Nat} {n : ν} : (n, bs) ∈ G → Der G bs v → Der G ss u → Der G (.nt n :: ss) (v ++ u)
/-- the texts of a name -/
def DerN (G : Gr ν) (n : ν) (w : List Nat) : Prop := ∃ bs, (n, bs) ∈ G ∧ Der G bs w
theorem Der.append {G : Gr ν} {a b : List (Sy ν)} {u v : List Nat} (h : Der G a u) (k : Der G b v) : Der G (a ++ b) (u ++ v) := by
  induction h with
  | nil => exact k
  | lit w _ ih => rw [List.append_assoc]; exact .lit w ih
  | cls hc _ ih => exact .cls hc ih
  | nt hm hb _ _ ih => rw [List.append_assoc]; exact .nt hm hb ih
/-- the texts of one symbol -/
def Der1 (G : Gr ν) : Sy ν → List Nat → Prop
  | .lit w, u => u = w
  | .cls cs, u => ∃ c ∈ cs, u = [c]
  | .nt n, u => DerN G n u
theorem Der1.der {G : Gr ν} {s : Sy ν} {u : List Nat} (h : Der1 G s u) : Der G [s] u := by
  cases s with
  | lit w =>
    have h' : u = w := h
    have := Der.lit (G := G) (ss := []) w .nil
    rw [List.append_nil] at this
    rw [h']; exact this
  | cls cs =>
    obtain ⟨c, hc, rfl⟩ := h
    exact .cls hc .nil
  | nt n =>
    obtain ⟨bs, hm, hb⟩ := h
    have := Der.nt (ss := []) hm hb .nil
    rw [List.append_nil] at this
    exact this
theorem Der.cons_inv {G : Gr ν} {s : Sy ν} {ss : List (Sy ν)} {w : List Nat} (h : Der G (s :: ss) w) : ∃ u v, w = u ++ v ∧ Der1 G s u ∧ Der G ss v := by
  cases h with
  | lit w h => exact ⟨w, _, rfl, rfl, h⟩
  | @cls _ u c cs hc h => exact ⟨[c], u, rfl, ⟨c, hc, rfl⟩, h⟩
  | nt hm hb h => exact ⟨_, _, rfl, ⟨_, hm, hb⟩, h⟩
theorem Der.nil_inv {G : Gr ν} {w : List Nat} (h : Der G [] w) : w = [] := by cases h; rfl
end

/-! ### stretches -/
def seg (t : List Nat) (s e : Nat) : List Nat := (t.drop s).take (e - s)
theorem seg_len {t : List Nat} {s e : Nat} (h : e ≤ t.length) : (seg t s e).length = e - s := by
  unfold seg; rw [List.length_take, List.length_drop]; omega
theorem seg_app {t : List Nat} {s m e : Nat} (h1 : s ≤ m) (h2 : m ≤ e) : seg t s m ++ seg t m e = seg t s e := by
  unfold seg
  rw [show e - s = (m - s) + (e - m) by omega, List.take_add, List.drop_drop, show s + (m - s) = m by omega]
theorem seg_all (t : List Nat) : seg t 0 t.length = t := by
  unfold seg; rw [List.drop_zero, Nat.sub_zero, List.take_length]
/-- a stretch in two: where -/
theorem seg_cut {t : List Nat} {s e : Nat} {a b : List Nat} (h1 : s ≤ e) (h2 : e ≤ t.length) (h : seg t s e = a ++ b) : ∃ m, s ≤ m ∧ m ≤ e ∧ a = seg t s m ∧ b = seg t m e := by
  have hl := congrArg List.length h
  rw [seg_len h2, List.length_append] at hl
  refine ⟨s + a.length, by omega, by omega, ?_⟩
  have h3 := seg_app (t := t) (s := s) (m := s + a.length) (e := e) (by omega) (by omega)
  rw [h] at h3
  have h4 : (seg t s (s + a.length)).length = a.length := by rw [seg_len (by omega)]; omega
  have h5 := List.append_inj h3.symm h4.symm
  exact ⟨h5.1, h5.2⟩

/-! ### one symbol -/
/-- a class: as the program does it -/
def clsV (cs g : List Nat) : Mv :=
  match (g.filter fun c => cs.contains c).min? with
  | some c => (g.length - 1, [c])
  | none => (max 1 g.length, [cs.headD 0])
theorem dist_one_in {g : List Nat} {c : Nat} (h : c ∈ g) : dist g [c] = g.length - 1 := by
  have lo := (dist_len g [c]).2
  have up : dist g [c] ≤ g.length - 1 := by
    obtain ⟨a, b, rfl⟩ := List.append_of_mem h
    have h1 : Al a ([] : List Nat) a.length := al_nilr a
    have h2 : Al (c :: b) [c] (b.length + neq c c) := .sub c c (al_nilr b)
    have h3 := dist_le (h1.append h2)
    rw [List.nil_append] at h3
    unfold neq at h3
    rw [if_pos rfl] at h3
    simp only [List.length_append, List.length_cons]
    omega
  simp only [List.length_singleton] at lo
  omega
theorem dist_one_out {g : List Nat} {c : Nat} (h : c ∉ g) : dist g [c] = max 1 g.length := by
  have up : dist g [c] ≤ max 1 g.length := by
    cases g with
    | nil => rw [dist_nil]; simp
    | cons x g =>
      have h2 : Al (x :: g) [c] (g.length + neq x c) := .sub x c (al_nilr g)
      have h3 := dist_le h2
      have : neq x c ≤ 1 := by unfold neq; split <;> omega
      simp only [List.length_cons]
      omega
  have lo : ∀ {g b : List Nat} {n : Nat}, Al g b n → b = [c] → c ∉ g → max 1 g.length ≤ n := by
    intro g b n a
    induction a with
    | nil => intro e; cases e
    | @sub a b n x y a _ =>
      intro e hc
      injection e with e1 e2
      subst e1 e2
      have := a.len.2
      unfold neq
      rw [if_neg (fun z => hc (by rw [z]; exact List.mem_cons_self))]
      simp only [List.length_cons, List.length_nil] at *
      omega
    | @del a b n x a ih =>
      intro e hc
      have := ih e (fun z => hc (List.mem_cons_of_mem _ z))
      simp only [List.length_cons]
      omega
    | @ins a b n y a _ =>
      intro e hc
      injection e with e1 e2
      subst e2
      have := a.len.2
      simp only [List.length_nil] at this
      omega
  have := lo (al_dist g [c]) rfl h
  omega
/-- the class's value is the least one -/
theorem clsV_min {cs : List Nat} (g : List Nat) (hs : cs.Pairwise (· < ·)) (hn : cs ≠ []) : IsMin (fun v => ∃ c ∈ cs, v = (dist g [c], [c])) (some (clsV cs g)) := by
  unfold clsV
  cases e : (g.filter fun c => cs.contains c).min? with
  | some c =>
    have hm : c ∈ g.filter fun c => cs.contains c := by
      have := List.min?_mem (xs := g.filter fun c => cs.contains c) (a := c) e
      exact this
    have hle : ∀ b ∈ g.filter (fun c => cs.contains c), c ≤ b := by
      have := (List.min?_eq_some_iff (xs := g.filter fun c => cs.contains c) (a := c)).mp e
      exact this.2
    obtain ⟨hg, hc⟩ := List.mem_filter.mp hm
    have hc' : c ∈ cs := by simpa using hc
    refine ⟨⟨c, hc', by rw [dist_one_in hg]⟩, ?_⟩
    rintro u ⟨b, hb, rfl⟩
    have hd := (dist_len g [b]).2
    simp only [List.length_singleton] at hd
    by_cases hbg : b ∈ g
    · rw [dist_one_in hbg]
      have := hle b (List.mem_filter.mpr ⟨hbg, by simpa using hb⟩)
      rcases Nat.lt_or_eq_of_le this with q | q
      · refine le_of_lt (.inr ⟨rfl, .inr ⟨rfl, ?_⟩⟩)
        rw [List.cons_lt_cons_iff]; exact .inl q
      · rw [q]; exact le_refl _
    · rw [dist_one_out hbg]
      have : 0 < g.length := List.length_pos_of_mem hg
      exact le_of_lt (.inl (by dsimp only; omega))
  | none =>
    have he : g.filter (fun c => cs.contains c) = [] := List.min?_eq_none_iff.mp e
    have hno : ∀ c ∈ cs, c ∉ g := fun c hc hg => by
      have : c ∈ g.filter fun c => cs.contains c := List.mem_filter.mpr ⟨hg, by simpa using hc⟩
      rw [he] at this; cases this
    cases cs with
    | nil => exact absurd rfl hn
    | cons a cs =>
      refine ⟨⟨a, List.mem_cons_self, by rw [dist_one_out (hno a List.mem_cons_self)]; rfl⟩, ?_⟩
      rintro u ⟨b, hb, rfl⟩
      rw [dist_one_out (hno b hb)]
      rcases List.mem_cons.mp hb with q | q
      · rw [q]; exact le_refl _
      · have := (List.pairwise_cons.mp hs).1 b q
        refine le_of_lt (.inr ⟨rfl, .inr ⟨rfl, ?_⟩⟩)
        show [a] < [b]
        rw [List.cons_lt_cons_iff]; exact .inl this

/-! ### the rows -/
section
variable {ν : Type} [DecidableEq ν]
/-- the rows of one start: name, end -/
abbrev Row (ν : Type) := ν → Nat → Option Mv
abbrev Rows (ν : Type) := Nat → Row ν
def oneV (R : Rows ν) (t : List Nat) : Sy ν → Nat → Nat → Option Mv
  | .lit w, s, e => some (dist (seg t s e) w, w)
  | .cls cs, s, e => some (clsV cs (seg t s e))
  | .nt n, s, e => R s n e
abbrev Ends := Nat → Option Mv
/-- one symbol more -/
def StepP (R : Rows ν) (t : List Nat) (b : Ends) (y : Sy ν) (e : Nat) (v : Mv) : Prop :=
  ∃ m u p, m ≤ e ∧ e ≤ t.length ∧ b m = some u ∧ oneV R t y m e = some p ∧ v = join u p
noncomputable def stepB (R : Rows ν) (t : List Nat) (b : Ends) (y : Sy ν) : Ends := fun e => theMin (StepP R t b y e)
noncomputable def foldB (R : Rows ν) (t : List Nat) (b : Ends) (ss : List (Sy ν)) : Ends := ss.foldl (stepB R t) b
def startB (s : Nat) : Ends := fun m => if m = s then some (0, []) else none
noncomputable def ruleV (R : Rows ν) (t : List Nat) (ss : List (Sy ν)) (s : Nat) : Ends :=
  if ss.isEmpty then fun e => if s ≤ e ∧ e ≤ t.length then some (e - s, []) else none else foldB R t (startB s) ss
def put (R : Rows ν) (s : Nat) (S : Row ν) : Rows ν := fun m => if m = s then S else R m
/-- a rule's values into the row -/
noncomputable def fillRule (R : Rows ν) (t : List Nat) (s : Nat) (S : Row ν) (r : ν × List (Sy ν)) : Row ν :=
  fun n e => if n = r.1 then theMin (fun v => S n e = some v ∨ ruleV (put R s S) t r.2 s e = some v) else S n e
/-- the row is right -/
def RowOk (G : Gr ν) (t : List Nat) (s : Nat) (S : Row ν) : Prop :=
  ∀ n e, IsMin (fun v => DerN G n v.2 ∧ v.1 = dist (seg t s e) v.2 ∧ s ≤ e ∧ e ≤ t.length) (S n e)
/-- what stands in the row is true -/
def Sound (G : Gr ν) (t : List Nat) (s : Nat) (S : Row ν) : Prop :=
  ∀ n e v, S n e = some v → DerN G n v.2 ∧ Al (seg t s e) v.2 v.1 ∧ s ≤ e ∧ e ≤ t.length
def Fixed (R : Rows ν) (t : List Nat) (G : Gr ν) (s : Nat) (S : Row ν) : Prop := ∀ r ∈ G, fillRule R t s S r = S
theorem RowOk.sound {G : Gr ν} {t : List Nat} {s : Nat} {S : Row ν} (h : RowOk G t s S) : Sound G t s S := fun n e v hv => by
  have := h n e
  rw [hv] at this
  obtain ⟨a, b, c, d⟩ := this.1
  exact ⟨a, by rw [b]; exact al_dist _ _, c, d⟩
/-- the classes of the grammar are ascending and not empty -/
def ClsOk : Sy ν → Prop
  | .cls cs => cs.Pairwise (· < ·) ∧ cs ≠ []
  | _ => True
def GrOk (G : Gr ν) : Prop := ∀ r ∈ G, ∀ y ∈ r.2, ClsOk y

section
variable {G : Gr ν} {t : List Nat} {s : Nat} {R : Rows ν} {S : Row ν}
theorem one_sound (hR : ∀ m, s ≤ m → Sound G t m (R m)) {y : Sy ν} (hy : ClsOk y) {m e : Nat} {p : Mv} (hm : s ≤ m) (h1 : m ≤ e) (h2 : e ≤ t.length) (h : oneV R t y m e = some p) :
    Der1 G y p.2 ∧ Al (seg t m e) p.2 p.1 := by
  cases y with
  | lit w =>
    have h' : (dist (seg t m e) w, w) = p := Option.some.inj h
    subst h'
    exact ⟨rfl, al_dist _ _⟩
  | cls cs =>
    have h' : clsV cs (seg t m e) = p := Option.some.inj h
    subst h'
    obtain ⟨c, hc, e1⟩ := (clsV_min (seg t m e) hy.1 hy.2).mem
    rw [e1]
    exact ⟨⟨c, hc, rfl⟩, al_dist _ _⟩
  | nt n =>
    obtain ⟨a, b, _⟩ := hR m hm n e p h
    exact ⟨a, b⟩
/-- what a fold holds: a prefix pre read from s on -/
def EndsOk (G : Gr ν) (t : List Nat) (s : Nat) (pre : List (Sy ν)) (b : Ends) : Prop :=
  ∀ m u, b m = some u → s ≤ m ∧ m ≤ t.length ∧ Der G pre u.2 ∧ Al (seg t s m) u.2 u.1
theorem step_sound (hR : ∀ m, s ≤ m → Sound G t m (R m)) {y : Sy ν} (hy : ClsOk y) {pre : List (Sy ν)} {b : Ends} (hb : EndsOk G t s pre b) : EndsOk G t s (pre ++ [y]) (stepB R t b y) := fun e v hv => by
  have := theMin_is (StepP R t b y e)
  have hv' : theMin (StepP R t b y e) = some v := hv
  rw [hv'] at this
  obtain ⟨m, u, p, h1, h2, h3, h4, rfl⟩ := this.1
  obtain ⟨a1, a2, a3, a4⟩ := hb m u h3
  obtain ⟨c1, c2⟩ := one_sound hR hy a1 h1 h2 h4
  refine ⟨Nat.le_trans a1 h1, h2, a3.append c1.der, ?_⟩
  rw [← seg_app a1 h1]
  exact a4.append c2
theorem fold_sound (hR : ∀ m, s ≤ m → Sound G t m (R m)) : ∀ {ss pre : List (Sy ν)} {b : Ends}, (∀ y ∈ ss, ClsOk y) → EndsOk G t s pre b → EndsOk G t s (pre ++ ss) (foldB R t b ss)
  | [], pre, b, _, hb => by rw [List.append_nil]; exact hb
  | y :: ss, pre, b, hy, hb => by
    have h1 := step_sound hR (hy y List.mem_cons_self) hb
    have h2 := fold_sound hR (fun z hz => hy z (List.mem_cons_of_mem _ hz)) h1
    rw [List.append_assoc] at h2
    exact h2
theorem start_ok (hs : s ≤ t.length) : EndsOk G t s [] (startB s) := fun m u h => by
  unfold startB at h
  split at h
  · rename_i e
    subst e
    cases h
    refine ⟨Nat.le_refl _, hs, .nil, ?_⟩
    have : seg t m m = [] := by unfold seg; rw [Nat.sub_self, List.take_zero]
    rw [this]; exact .nil
  · cases h
theorem rule_sound (hR : ∀ m, s ≤ m → Sound G t m (R m)) (hs : s ≤ t.length) {ss : List (Sy ν)} (hy : ∀ y ∈ ss, ClsOk y) {e : Nat} {v : Mv} (h : ruleV R t ss s e = some v) :
    s ≤ e ∧ e ≤ t.length ∧ Der G ss v.2 ∧ Al (seg t s e) v.2 v.1 := by
  unfold ruleV at h
  cases ss with
  | nil =>
    rw [if_pos (by rfl)] at h
    split at h
    · rename_i q
      cases h
      refine ⟨q.1, q.2, .nil, ?_⟩
      have := al_nilr (seg t s e)
      rw [seg_len q.2] at this
      exact this
    · cases h
  | cons y ss =>
    rw [if_neg (by simp)] at h
    exact fold_sound hR (pre := []) hy (start_ok hs) e v h
theorem put_sound (hR : ∀ m, s < m → Sound G t m (R m)) (hS : Sound G t s S) : ∀ m, s ≤ m → Sound G t m (put R s S m) := fun m hm => by
  unfold put
  split
  · rename_i e; rw [e]; exact hS
  · exact hR m (by omega)
theorem fillRule_sound (hG : GrOk G) (hR : ∀ m, s < m → Sound G t m (R m)) (hs : s ≤ t.length) (hS : Sound G t s S) {r : ν × List (Sy ν)} (hr : r ∈ G) : Sound G t s (fillRule R t s S r) := fun n e v h => by
  unfold fillRule at h
  split at h
  · rename_i en
    have := theMin_is (fun v => S n e = some v ∨ ruleV (put R s S) t r.2 s e = some v)
    rw [h] at this
    rcases this.1 with q | q
    · exact hS n e v q
    · obtain ⟨a, b, c, d⟩ := rule_sound (put_sound hR hS) hs (hG r hr) q
      exact ⟨⟨r.2, by rw [en]; exact hr, c⟩, d, a, b⟩
  · exact hS n e v h

/-! ### nothing is missed -/
theorem one_has (hR : ∀ m, s < m → RowOk G t m (R m)) {y : Sy ν} (hy : ClsOk y) {m e : Nat} {w : List Nat} {d : Nat} (hm : s ≤ m) (h1 : m ≤ e) (h2 : e ≤ t.length)
    (hd : Der1 G y w) (ha : Al (seg t m e) w d) (hown : m = s → ∀ n, y = .nt n → Has (S n e) (d, w)) : Has (oneV (put R s S) t y m e) (d, w) := by
  have hle : dist (seg t m e) w ≤ d := dist_le ha
  have hv : le (dist (seg t m e) w, w) (d, w) := by
    rcases Nat.lt_or_eq_of_le hle with q | q
    · exact le_of_lt (.inl q)
    · rw [q]; exact le_refl _
  cases y with
  | lit w' =>
    have e : w = w' := hd
    subst e
    exact ⟨_, rfl, hv⟩
  | cls cs =>
    obtain ⟨c, hc, rfl⟩ := hd
    exact ⟨_, rfl, le_trans ((clsV_min (seg t m e) hy.1 hy.2).2 _ ⟨c, hc, rfl⟩) hv⟩
  | nt n =>
    show Has (put R s S m n e) (d, w)
    unfold put
    split
    · rename_i em; exact hown em n rfl
    · have := (hR m (by omega) n e).has (v := (dist (seg t m e) w, w)) ⟨hd, rfl, h1, h2⟩
      exact this.le hv
/-- every text of a row of symbols is met -/
def Met (R : Rows ν) (t : List Nat) (s : Nat) (ss : List (Sy ν)) (w : List Nat) : Prop :=
  ∀ (b : Ends) (m e d : Nat) (v : Mv), s ≤ m → m ≤ e → e ≤ t.length → Has (b m) v → Al (seg t m e) w d → Has (foldB R t b ss e) (join v (d, w))
theorem met_cons {y : Sy ν} {ss : List (Sy ν)} {u w : List Nat}
    (h1 : ∀ m e d, s ≤ m → m ≤ e → e ≤ t.length → Al (seg t m e) u d → Has (oneV R t y m e) (d, u))
    (h2 : ss = [] ∧ w = [] ∨ Met R t s ss w) : Met R t s (y :: ss) (u ++ w) := by
  intro b m e d v hm hme he hb ha
  have stp : ∀ e1 d1, m ≤ e1 → e1 ≤ t.length → Al (seg t m e1) u d1 → Has (stepB R t b y e1) (join v (d1, u)) := fun e1 d1 hme1 he1 ha1 => by
    obtain ⟨x, ex, lx⟩ := hb
    obtain ⟨p, ep, lp⟩ := h1 m e1 d1 hm hme1 he1 ha1
    have := (theMin_is (StepP R t b y e1)).has (v := join x p) ⟨m, x, p, hme1, he1, ex, ep, rfl⟩
    exact this.le (join_le lx lp)
  rcases h2 with ⟨rfl, rfl⟩ | h2
  · rw [List.append_nil] at ha ⊢
    exact stp e d hme he ha
  · obtain ⟨a1, a2, n1, n2, ea, en, al1, al2⟩ := ha.split rfl
    obtain ⟨k, k1, k2, rfl, rfl⟩ := seg_cut hme he ea
    have := h2 (stepB R t b y) k e n2 (join v (n1, u)) (by omega) k2 he (stp k n1 k1 (by omega) al1) al2
    rw [join_assoc] at this
    rw [en]
    exact this
theorem rule_has_of_met {ss : List (Sy ν)} {w : List Nat} (hs : s ≤ t.length) (h : ss = [] ∧ w = [] ∨ Met R t s ss w) {e d : Nat} (h1 : s ≤ e) (h2 : e ≤ t.length) (ha : Al (seg t s e) w d) :
    Has (ruleV R t ss s e) (d, w) := by
  unfold ruleV
  rcases h with ⟨rfl, rfl⟩ | h
  · rw [if_pos (by rfl), if_pos ⟨h1, h2⟩]
    refine ⟨_, rfl, ?_⟩
    have := ha.len.2
    rw [seg_len h2] at this
    simp only [List.length_nil] at this
    rcases Nat.lt_or_ge (e - s) d with q | q
    · exact le_of_lt (.inl q)
    · rw [show e - s = d by omega]; exact le_refl _
  · have key : Has (foldB R t (startB s) ss e) (d, w) := by
      have := h (startB s) s e d (0, []) (Nat.le_refl _) h1 h2 ⟨(0, []), by unfold startB; rw [if_pos rfl], le_refl _⟩ ha
      rw [join_zero] at this
      exact this
    split
    · rename_i q
      obtain rfl : ss = [] := List.isEmpty_iff.mp q
      obtain ⟨x, ex, lx⟩ := key
      unfold foldB startB at ex
      simp only [List.foldl_nil] at ex
      split at ex
      · rename_i es
        cases ex
        refine ⟨(e - s, []), if_pos ⟨h1, h2⟩, ?_⟩
        rw [es, Nat.sub_self]
        exact lx
      · cases ex
    · exact key
/-- from a fixed row: all that a rule derives stands in it -/
theorem fixed_has (hf : Fixed R t G s S) {n : ν} {bs : List (Sy ν)} (hm : (n, bs) ∈ G) {e : Nat} {v : Mv} (h : Has (ruleV (put R s S) t bs s e) v) : Has (S n e) v := by
  obtain ⟨u, eu, lu⟩ := h
  have e1 : fillRule R t s S (n, bs) n e = S n e := congrFun (congrFun (hf _ hm) n) e
  have e2 : fillRule R t s S (n, bs) n e = theMin (fun v => S n e = some v ∨ ruleV (put R s S) t bs s e = some v) := by unfold fillRule; rw [if_pos rfl]
  have := (theMin_is (fun v => S n e = some v ∨ ruleV (put R s S) t bs s e = some v)).has (.inr eu)
  rw [← e2, e1] at this
  exact this.le lu
theorem met_of_der (hG : GrOk G) (hR : ∀ m, s < m → RowOk G t m (R m)) (hs : s ≤ t.length) (hf : Fixed R t G s S) {ss : List (Sy ν)} {w : List Nat} (h : Der G ss w) :
    (∀ y ∈ ss, ClsOk y) → ss = [] ∧ w = [] ∨ Met (put R s S) t s ss w := by
  induction h with
  | nil => intro _; exact .inl ⟨rfl, rfl⟩
  | lit w _ ih =>
    intro hy
    refine .inr (met_cons (fun m e d hm hme he ha => ?_) (ih fun z hz => hy z (List.mem_cons_of_mem _ hz)))
    exact one_has (G := G) hR (hy _ List.mem_cons_self) hm hme he rfl ha fun _ n q => nomatch q
  | @cls ss u c cs hc _ ih =>
    intro hy
    refine .inr (met_cons (u := [c]) (fun m e d hm hme he ha => ?_) (ih fun z hz => hy z (List.mem_cons_of_mem _ hz)))
    exact one_has (G := G) hR (hy _ List.mem_cons_self) hm hme he ⟨c, hc, rfl⟩ ha fun _ n q => nomatch q
  | @nt ss bs u v n hm hb _ ihb ih =>
    intro hy
    refine .inr (met_cons (fun m e d hms hme he ha => ?_) (ih fun z hz => hy z (List.mem_cons_of_mem _ hz)))
    refine one_has (G := G) hR (hy _ List.mem_cons_self) hms hme he ⟨bs, hm, hb⟩ ha fun em n' q => ?_
    injection q with q
    subst q em
    exact fixed_has hf hm (rule_has_of_met hs (ihb (hG _ hm)) hme he ha)
theorem row_ok (hG : GrOk G) (hR : ∀ m, s < m → RowOk G t m (R m)) (hs : s ≤ t.length) (hS : Sound G t s S) (hf : Fixed R t G s S) : RowOk G t s S := fun n e => by
  have has : ∀ w d, DerN G n w → Al (seg t s e) w d → s ≤ e → e ≤ t.length → Has (S n e) (d, w) := fun w d ⟨bs, hm, hb⟩ ha h1 h2 =>
    fixed_has hf hm (rule_has_of_met hs (met_of_der hG hR hs hf hb (hG _ hm)) h1 h2 ha)
  cases q : S n e with
  | none =>
    rintro ⟨d, w⟩ ⟨h1, h2, h3, h4⟩
    obtain ⟨u, eu, _⟩ := has w _ h1 (al_dist _ _) h3 h4
    rw [q] at eu; cases eu
  | some v =>
    obtain ⟨a, b, c, d⟩ := hS n e v q
    have hle : ∀ u : Mv, DerN G n u.2 ∧ u.1 = dist (seg t s e) u.2 ∧ s ≤ e ∧ e ≤ t.length → le v u := by
      rintro ⟨d', w⟩ ⟨h1, h2, h3, h4⟩
      obtain ⟨u, eu, lu⟩ := has w _ h1 (al_dist _ _) h3 h4
      rw [q] at eu; cases eu
      dsimp only at h2
      rw [h2]; exact lu
    refine ⟨⟨a, ?_, c, d⟩, hle⟩
    have h1 := dist_le b
    have h2 := le_num (hle (dist (seg t s e) v.2, v.2) ⟨a, rfl, c, d⟩)
    dsimp only at h2
    omega

/-! ### it comes to an end -/
theorem fillRule_falls (r : ν × List (Sy ν)) (n : ν) (e : Nat) : fillRule R t s S r n e = S n e ∨ olt (fillRule R t s S r n e) (S n e) := by
  unfold fillRule
  split
  · have h := theMin_is (fun v => S n e = some v ∨ ruleV (put R s S) t r.2 s e = some v)
    generalize theMin (fun v => S n e = some v ∨ ruleV (put R s S) t r.2 s e = some v) = o at h
    cases q : S n e with
    | none =>
      cases o with
      | none => exact .inl rfl
      | some v => exact .inr trivial
    | some u =>
      cases o with
      | none => exact absurd (.inl q) (h u)
      | some v =>
        rcases le_iff.mp (h.2 u (.inl q)) with z | z
        · exact .inr z
        · exact .inl (by rw [z])
  · exact .inl rfl
theorem olt_trans {a b c : Option Mv} (h : olt a b) (k : olt b c) : olt a c := by
  cases a with
  | none => exact h.elim
  | some a =>
    cases c with
    | none => trivial
    | some c =>
      cases b with
      | none => exact k.elim
      | some b => exact lt_trans h k
theorem olt_irr (a : Option Mv) : ¬ olt a a := by
  cases a with
  | none => exact fun h => h
  | some a => exact lt_irr a
open Classical in
/-- a rule's turn, with the flag -/
noncomputable def turnF (R : Rows ν) (t : List Nat) (s : Nat) (x : Row ν × Bool) (r : ν × List (Sy ν)) : Row ν × Bool :=
  (fillRule R t s x.1 r, x.2 || decide (fillRule R t s x.1 r ≠ x.1))
noncomputable def roundF (R : Rows ν) (t : List Nat) (G : Gr ν) (s : Nat) (S : Row ν) : Row ν × Bool := G.foldl (turnF R t s) (S, false)
def falls (f g : Row ν) : Prop := ∀ n e, f n e = g n e ∨ olt (f n e) (g n e)
theorem falls_trans {f g h : Row ν} (a : falls f g) (b : falls g h) : falls f h := fun n e => by
  rcases a n e with p | p
  · rw [p]; exact b n e
  · rcases b n e with q | q
    · rw [← q]; exact .inr p
    · exact .inr (olt_trans p q)
theorem falls_eq {f g h : Row ν} (a : falls f g) (b : falls g h) (e : f = h) : g = h := by
  funext n x
  rcases b n x with q | q
  · exact q
  · rcases a n x with p | p
    · rw [e] at p; exact p.symm
    · rw [e] at p; exact absurd (olt_trans p q) (olt_irr _)
open Classical in
theorem fold_falls : ∀ (L : List (ν × List (Sy ν))) (x : Row ν × Bool), falls (L.foldl (turnF R t s) x).1 x.1 ∧ ((L.foldl (turnF R t s) x).2 = true → x.2 = true ∨ (L.foldl (turnF R t s) x).1 ≠ x.1) ∧
    ((L.foldl (turnF R t s) x).2 = false → x.2 = false ∧ (L.foldl (turnF R t s) x).1 = x.1 ∧ ∀ r ∈ L, fillRule R t s x.1 r = x.1)
  | [], x => ⟨fun _ _ => .inl rfl, fun h => .inl h, fun h => ⟨h, rfl, fun r hr => by cases hr⟩⟩
  | r :: L, x => by
    obtain ⟨h1, h2, h3⟩ := fold_falls L (turnF R t s x r)
    have hf : falls (turnF R t s x r).1 x.1 := fun n e => fillRule_falls r n e
    refine ⟨falls_trans h1 hf, fun h => ?_, fun h => ?_⟩
    · rcases h2 h with q | q
      · unfold turnF at q
        rw [Bool.or_eq_true] at q
        rcases q with q | q
        · exact .inl q
        · exact .inr fun z => (of_decide_eq_true q) (falls_eq h1 hf z)
      · exact .inr fun z => q ((show (L.foldl (turnF R t s) (turnF R t s x r)).1 = x.1 from z).trans (falls_eq h1 hf z).symm)
    · obtain ⟨a, b, c⟩ := h3 h
      unfold turnF at a
      rw [Bool.or_eq_false_iff] at a
      have e : fillRule R t s x.1 r = x.1 := Classical.byContradiction fun z => by simp [z] at a
      have e' : (turnF R t s x r).1 = x.1 := e
      rw [e'] at b c
      refine ⟨a.1, b, fun r' hr => ?_⟩
      rcases List.mem_cons.mp hr with q | q
      · rw [q]; exact e
      · exact c r' q
/-- what is of no rule, or behind the text, does not change -/
theorem fillRule_else (r : ν × List (Sy ν)) {n : ν} {e : Nat} (h : n ≠ r.1 ∨ t.length < e) : fillRule R t s S r n e = S n e := by
  unfold fillRule
  split
  · rename_i en
    have hx : ∀ v, ruleV (put R s S) t r.2 s e ≠ some v := fun v hv => by
      rcases h with h | h
      · exact h en
      · unfold ruleV at hv
        split at hv
        · dsimp only at hv
          rw [if_neg (by omega)] at hv; cases hv
        · rename_i ne
          cases hr : r.2 with
          | nil => rw [hr] at ne; simp at ne
          | cons y ss =>
            rw [hr] at hv
            have key : ∀ (ss : List (Sy ν)) (b : Ends), (∀ v, b e ≠ some v) → ∀ v, foldB (put R s S) t b ss e ≠ some v := by
              intro ss
              induction ss with
              | nil => intro b hb; exact hb
              | cons z ss ih =>
                intro b _
                refine ih _ fun v hv => ?_
                have := theMin_is (StepP (put R s S) t b z e)
                have hv' : theMin (StepP (put R s S) t b z e) = some v := hv
                rw [hv'] at this
                obtain ⟨m, u, p, _, h2, _⟩ := this.1
                omega
            have e1 : foldB (put R s S) t (startB s) (y :: ss) e = foldB (put R s S) t (stepB (put R s S) t (startB s) y) ss e := rfl
            rw [e1] at hv
            refine key ss _ (fun v hv => ?_) v hv
            have := theMin_is (StepP (put R s S) t (startB s) y e)
            have hv' : theMin (StepP (put R s S) t (startB s) y e) = some v := hv
            rw [hv'] at this
            obtain ⟨m, u, p, _, h2, _⟩ := this.1
            omega
    refine ((theMin_is _).congr (P' := fun v => S n e = some v) fun v => ⟨fun q => q.elim (fun z => z) fun z => absurd z (hx v), fun q => .inl q⟩).uniq ?_
    cases q : S n e with
    | none => exact fun v z => nomatch z
    | some u => exact ⟨rfl, fun v z => by cases z; exact le_refl _⟩
  · rfl
theorem fold_else : ∀ (L : List (ν × List (Sy ν))) (x : Row ν × Bool) {n : ν} {e : Nat}, (∀ r ∈ L, n ≠ r.1) ∨ t.length < e → (L.foldl (turnF R t s) x).1 n e = x.1 n e
  | [], _, _, _, _ => rfl
  | r :: L, x, n, e, h => by
    have h1 : (L.foldl (turnF R t s) (turnF R t s x r)).1 n e = (turnF R t s x r).1 n e := fold_else L _ (h.imp (fun q r' hr => q r' (List.mem_cons_of_mem _ hr)) fun q => q)
    have h2 : (turnF R t s x r).1 n e = x.1 n e := fillRule_else r (h.imp (fun q => q r List.mem_cons_self) fun q => q)
    exact h1.trans h2
/-- k rounds at most -/
def Within (R : Rows ν) (t : List Nat) (G : Gr ν) (s : Nat) : Nat → Row ν → Prop
  | 0, S => (roundF R t G s S).2 = false
  | k + 1, S => (roundF R t G s S).2 = true → Within R t G s k (roundF R t G s S).1
theorem within_ex (R : Rows ν) (t : List Nat) (G : Gr ν) (s : Nat) : ∀ S : Row ν, ∃ k, Within R t G s k S := by
  have ix : ∃ ix : List (ν × Nat), ∀ n e, (∃ r ∈ G, n = r.1) → e ≤ t.length → (n, e) ∈ ix :=
    ⟨G.flatMap fun r => (List.range (t.length + 1)).map fun e => (r.1, e), fun n e ⟨r, hr, en⟩ he => List.mem_flatMap.mpr ⟨r, hr, List.mem_map.mpr ⟨e, List.mem_range.mpr (by omega), by rw [en]⟩⟩⟩
  obtain ⟨ix, hix⟩ := ix
  have wf := InvImage.wf (fun S : Row ν => ix.map fun i => S i.1 i.2) fall_wf
  intro S
  induction wf.apply S with
  | intro S _ ih =>
    cases q : (roundF R t G s S).2 with
    | false => exact ⟨0, q⟩
    | true =>
      obtain ⟨h1, h2, _⟩ := fold_falls (R := R) (t := t) (s := s) G (S, false)
      have hne : (roundF R t G s S).1 ≠ S := by
        rcases h2 q with z | z
        · cases z
        · exact z
      have hd : ∃ i ∈ ix, (roundF R t G s S).1 i.1 i.2 ≠ S i.1 i.2 := by
        refine Classical.byContradiction fun z => hne ?_
        funext n e
        refine Classical.byContradiction fun y => ?_
        by_cases hr : ∃ r ∈ G, n = r.1
        · by_cases he : e ≤ t.length
          · exact z ⟨(n, e), hix n e hr he, y⟩
          · exact y (fold_else G (S, false) (.inr (by omega)))
        · exact y (fold_else G (S, false) (.inl fun r hm en => hr ⟨r, hm, en⟩))
      obtain ⟨k, hk⟩ := ih _ (fall_of (f := fun i : ν × Nat => (roundF R t G s S).1 i.1 i.2) (g := fun i => S i.1 i.2) (fun i _ => h1 i.1 i.2) hd)
      exact ⟨k + 1, fun _ => hk⟩
theorem round_fixed (h : (roundF R t G s S).2 = false) : (roundF R t G s S).1 = S ∧ Fixed R t G s S := by
  obtain ⟨_, b, c⟩ := (fold_falls (R := R) (t := t) (s := s) G (S, false)).2.2 h
  exact ⟨b, c⟩
end
end
end Md
end TextMdC
section TextMdD
set_option linter.all false
/-! What the law asks: the changes found back from the table; the long texts; names without texts; the short texts. -/
namespace Md
/-! ### changes in ascending order -/
abbrev Ed := Nat × Nat × List Nat
/-- behind b, these changes lead to w -/
inductive Leads (t : List Nat) : Nat → List Ed → List Nat → Prop
  | nil {b : Nat} : b ≤ t.length → Leads t b [] (t.drop b)
  | cons {b at_ old : Nat} {m w : List Nat} {E : List Ed} : b ≤ at_ → old ≤ 1 → at_ + old ≤ t.length → m.length ≤ 1 → old + m.length ≠ 0 → Leads t (at_ + old) E w →
      Leads t b ((at_, old, m) :: E) (seg t b at_ ++ (m ++ w))
theorem seg_self (t : List Nat) (b : Nat) : seg t b b = [] := by unfold seg; rw [Nat.sub_self, List.take_zero]
theorem seg_step {t : List Nat} {b e : Nat} {c : Nat} (hc : t[b]? = some c) (h : b + 1 ≤ e) (he : e ≤ t.length) : seg t b e = c :: seg t (b + 1) e := by
  have h1 := seg_app (t := t) (s := b) (m := b + 1) (e := e) (by omega) h
  rw [← h1]
  have h2 : seg t b (b + 1) = [c] := by
    unfold seg
    rw [show b + 1 - b = 1 by omega, List.take_one, List.head?_drop, hc]; rfl
  rw [h2]; rfl
theorem drop_step {t : List Nat} {b c : Nat} (hc : t[b]? = some c) : t.drop b = c :: t.drop (b + 1) := by
  obtain ⟨h, e⟩ := List.getElem?_eq_some_iff.mp hc
  rw [List.drop_eq_getElem_cons h, e]
theorem Leads.le {t : List Nat} {b : Nat} {E : List Ed} {w : List Nat} (h : Leads t b E w) : b ≤ t.length := by
  cases h with
  | nil h => exact h
  | cons h1 h2 h3 _ _ _ => omega
theorem Leads.keep {t : List Nat} {b c : Nat} {E : List Ed} {w : List Nat} (h : Leads t (b + 1) E w) (hc : t[b]? = some c) : Leads t b E (c :: w) := by
  cases h with
  | nil h =>
    rw [← drop_step hc]
    exact .nil (by omega)
  | @cons _ at_ old m w E h1 h2 h3 h4 h5 h6 =>
    have := Leads.cons (b := b) (by omega) h2 h3 h4 h5 h6
    rw [seg_step hc h1 (by omega)] at this
    exact this
theorem Leads.sub {t : List Nat} {b c : Nat} {E : List Ed} {w : List Nat} (h : Leads t (b + 1) E w) : Leads t b ((b, 1, [c]) :: E) (c :: w) := by
  have := Leads.cons (b := b) (at_ := b) (old := 1) (m := [c]) (Nat.le_refl _) (Nat.le_refl _) h.le (by simp) (by simp) h
  rw [seg_self] at this
  exact this
theorem Leads.del {t : List Nat} {b : Nat} {E : List Ed} {w : List Nat} (h : Leads t (b + 1) E w) : Leads t b ((b, 1, []) :: E) w := by
  have := Leads.cons (b := b) (at_ := b) (old := 1) (m := []) (Nat.le_refl _) (Nat.le_refl _) h.le (by simp) (by simp) h
  rw [seg_self] at this
  exact this
theorem Leads.ins {t : List Nat} {b c : Nat} {E : List Ed} {w : List Nat} (h : Leads t b E w) : Leads t b ((b, 0, [c]) :: E) (c :: w) := by
  have := Leads.cons (b := b) (at_ := b) (old := 0) (m := [c]) (Nat.le_refl _) (by omega) h.le (by simp) (by simp) h
  rw [seg_self] at this
  exact this
/-- the way back through the table: so far -/
structure Back (t u : List Nat) (i k : Nat) (E : List Ed) : Prop where
  i_le : i ≤ t.length
  k_le : k ≤ u.length
  lead : Leads t i E (u.drop k)
  num : E.length + tab t u i k = dist t u
section
variable {t u : List Nat} {i k : Nat} {E : List Ed}
theorem Back.start (t u : List Nat) : Back t u t.length u.length [] :=
  ⟨Nat.le_refl _, Nat.le_refl _, by rw [List.drop_length]; have := Leads.nil (t := t) (Nat.le_refl t.length); rw [List.drop_length] at this; exact this, by rw [tab_all]; simp⟩
theorem Back.keep (h : Back t u (i + 1) (k + 1) E) {x y : Nat} (hx : t[i]? = some x) (hy : u[k]? = some y) (e : x = y) (q : tab t u (i + 1) (k + 1) = tab t u i k) : Back t u i k E :=
  ⟨by have := h.i_le; omega, by have := h.k_le; omega, by rw [drop_step hy, ← e]; exact h.lead.keep hx, by rw [← q]; exact h.num⟩
theorem Back.sub (h : Back t u (i + 1) (k + 1) E) {y : Nat} (hy : u[k]? = some y) (q : tab t u (i + 1) (k + 1) = tab t u i k + 1) : Back t u i k ((i, 1, [y]) :: E) :=
  ⟨by have := h.i_le; omega, by have := h.k_le; omega, by rw [drop_step hy]; exact h.lead.sub, by have := h.num; rw [List.length_cons]; omega⟩
theorem Back.del (h : Back t u (i + 1) k E) (q : tab t u (i + 1) k = tab t u i k + 1) : Back t u i k ((i, 1, []) :: E) :=
  ⟨by have := h.i_le; omega, h.k_le, h.lead.del, by have := h.num; rw [List.length_cons]; omega⟩
theorem Back.ins (h : Back t u i (k + 1) E) {y : Nat} (hy : u[k]? = some y) (q : tab t u i (k + 1) = tab t u i k + 1) : Back t u i k ((i, 0, [y]) :: E) :=
  ⟨h.i_le, by have := h.k_le; omega, by rw [drop_step hy]; exact h.lead.ins, by have := h.num; rw [List.length_cons]; omega⟩
theorem Back.fin (h : Back t u 0 0 E) : Leads t 0 E u ∧ E.length = dist t u := by
  have h1 := h.lead
  have h2 := h.num
  rw [tab_0 t u (Nat.zero_le _)] at h2
  exact ⟨h1, by omega⟩
/-- the last branch -/
theorem last_branch (hi : i ≤ t.length) (hk : k ≤ u.length) (h0 : 0 < i ∨ 0 < k) (h1 : ∀ i' k' x y, i = i' + 1 → k = k' + 1 → t[i']? = some x → u[k']? = some y → x = y → tab t u i k ≠ tab t u i' k')
    (h2 : ∀ i' k', i = i' + 1 → k = k' + 1 → tab t u i k ≠ tab t u i' k' + 1) (h3 : ∀ i', i = i' + 1 → tab t u i k ≠ tab t u i' k + 1) :
    ∃ k', k = k' + 1 ∧ tab t u i k = tab t u i k' + 1 := by
  cases i with
  | zero =>
    cases k with
    | zero => omega
    | succ k => exact ⟨k, rfl, by rw [tab_0 _ _ hk, tab_0 _ _ (by omega)]⟩
  | succ i =>
    cases k with
    | zero => exact absurd (by rw [tab_r0 _ _ hi, tab_r0 _ _ (by omega)]) (h3 i rfl)
    | succ k =>
      refine ⟨k, rfl, ?_⟩
      have hx := List.getElem?_eq_getElem (l := t) (i := i) (by omega)
      have hy := List.getElem?_eq_getElem (l := u) (i := k) (by omega)
      have e := tab_ss hx hy
      have a1 := h1 i k _ _ rfl rfl hx hy
      have a2 := h2 i k rfl rfl
      have a3 := h3 i rfl
      unfold neq at e
      split at e
      · rename_i q
        have := a1 q
        omega
      · omega
end

/-! ### the long texts -/
def isXY (c : Nat) : Prop := c = 120 ∨ c = 121
theorem al_filter (z : Nat) : ∀ t : List Nat, Al t (t.filter fun c => c ≠ z) (t.count z)
  | [] => .nil
  | c :: t => by
    by_cases h : c = z
    · subst h
      rw [List.filter_cons_of_neg (by simp), List.count_cons_self]
      exact .del c (al_filter c t)
    · rw [List.filter_cons_of_pos (by simpa using h), List.count_cons_of_ne h]
      have := Al.sub c c (al_filter z t)
      unfold neq at this
      rw [if_pos rfl] at this
      exact this
theorem al_count {t u : List Nat} {n : Nat} (h : Al t u n) : (∀ c ∈ u, c ≠ 122) → t.count 122 ≤ n ∧ (n = t.count 122 → t.length = u.length + n → u = t.filter fun c => c ≠ 122) := by
  induction h with
  | nil => intro _; exact ⟨Nat.le_refl _, fun _ _ => rfl⟩
  | @sub a b n x y h ih =>
    intro hu
    obtain ⟨i1, i2⟩ := ih fun c hc => hu c (List.mem_cons_of_mem _ hc)
    have hy := hu y List.mem_cons_self
    have hl := h.len
    unfold neq
    by_cases hx : x = 122
    · subst hx
      rw [List.count_cons_self, if_neg (fun z => hy z.symm)]
      refine ⟨by omega, fun e1 e2 => ?_⟩
      simp only [List.length_cons] at e2
      omega
    · rw [List.count_cons_of_ne hx]
      refine ⟨by split <;> omega, fun e1 e2 => ?_⟩
      simp only [List.length_cons] at e2
      split at e1
      · rename_i q
        subst q
        rw [List.filter_cons_of_pos (by simpa using hx), ← i2 (by omega) (by split at e2 <;> omega)]
      · rename_i q
        rw [if_neg q] at e2
        omega
  | @del a b n x h ih =>
    intro hu
    obtain ⟨i1, i2⟩ := ih hu
    by_cases hx : x = 122
    · subst hx
      rw [List.count_cons_self, List.filter_cons_of_neg (by simp)]
      exact ⟨by omega, fun e1 e2 => i2 (by omega) (by simp only [List.length_cons] at e2; omega)⟩
    · rw [List.count_cons_of_ne hx]
      exact ⟨by omega, fun e1 _ => by omega⟩
  | @ins a b n y h ih =>
    intro hu
    obtain ⟨i1, _⟩ := ih fun c hc => hu c (List.mem_cons_of_mem _ hc)
    have hl := h.len
    exact ⟨by omega, fun _ e2 => by simp only [List.length_cons] at e2; omega⟩
/-- of all texts of x and y the best one is the one without its z -/
theorem long_min {t : List Nat} (ht : ∀ c ∈ t, isXY c ∨ c = 122) {P : List Nat → Prop} (hP : ∀ w, P w ↔ ∀ c ∈ w, isXY c) :
    IsMin (fun v => P v.2 ∧ v.1 = dist t v.2) (some (t.count 122, t.filter fun c => c ≠ 122)) := by
  have hxy : ∀ w, P w → ∀ c ∈ w, c ≠ 122 := fun w h c hc z => by
    have := (hP w).mp h c hc
    rcases this with e | e <;> omega
  have hf : P (t.filter fun c => c ≠ 122) := (hP _).mpr fun c hc => by
    obtain ⟨h1, h2⟩ := List.mem_filter.mp hc
    rcases ht c h1 with e | e
    · exact e
    · simp [e] at h2
  have hd : t.count 122 = dist t (t.filter fun c => c ≠ 122) := by
    have h1 := (al_count (al_dist t (t.filter fun c => c ≠ 122)) (hxy _ hf)).1
    have h2 := dist_le (al_filter 122 t)
    omega
  refine ⟨⟨hf, hd⟩, ?_⟩
  rintro ⟨d, u⟩ ⟨h1, h2⟩
  dsimp only at h1 h2
  subst h2
  obtain ⟨a, b⟩ := al_count (al_dist t u) (hxy _ h1)
  have hl := (dist_len t u).2
  have hl2 : (t.filter fun c => c ≠ 122).length = t.length - t.count 122 := by
    have := (al_filter 122 t).len
    have h3 : (t.filter fun c => c ≠ 122).length + t.count 122 = t.length := by
      have : ∀ t : List Nat, (t.filter fun c => c ≠ 122).length + t.count 122 = t.length := by
        intro t
        induction t with
        | nil => rfl
        | cons c t ih =>
          by_cases h : c = 122
          · subst h
            rw [List.filter_cons_of_neg (by simp), List.count_cons_self, List.length_cons]; omega
          · rw [List.filter_cons_of_pos (by simpa using h), List.count_cons_of_ne h, List.length_cons, List.length_cons]; omega
      exact this t
    omega
  rcases Nat.lt_or_eq_of_le a with q | q
  · exact le_of_lt (.inl q)
  · rcases Nat.lt_or_ge (t.filter fun c => c ≠ 122).length u.length with k | k
    · exact le_of_lt (.inr ⟨q, .inl k⟩)
    · have hcl : t.count 122 ≤ t.length := List.count_le_length
      have e : u = t.filter fun c => c ≠ 122 := b q.symm (by rw [hl2] at k; omega)
      rw [← q, ← e]
      exact le_refl _

/-! ### the grammars of the long texts -/
section
variable {ν : Type}
def SyXY : Sy ν → Prop
  | .lit w => ∀ c ∈ w, isXY c
  | .cls cs => ∀ c ∈ cs, isXY c
  | .nt _ => True
theorem der_xy {G : Gr ν} (hG : ∀ r ∈ G, ∀ y ∈ r.2, SyXY y) {ss : List (Sy ν)} {w : List Nat} (h : Der G ss w) : (∀ y ∈ ss, SyXY y) → ∀ c ∈ w, isXY c := by
  induction h with
  | nil => intro _ c hc; cases hc
  | lit w _ ih =>
    intro hy c hc
    rcases List.mem_append.mp hc with q | q
    · exact hy (.lit w) List.mem_cons_self c q
    · exact ih (fun z hz => hy z (List.mem_cons_of_mem _ hz)) c q
  | @cls ss u d cs hd _ ih =>
    intro hy c hc
    rcases List.mem_cons.mp hc with q | q
    · rw [q]; exact hy (.cls cs) List.mem_cons_self d hd
    · exact ih (fun z hz => hy z (List.mem_cons_of_mem _ hz)) c q
  | nt hm _ _ ihb ih =>
    intro hy c hc
    rcases List.mem_append.mp hc with q | q
    · exact ihb (hG _ hm) c q
    · exact ih (fun z hz => hy z (List.mem_cons_of_mem _ hz)) c q
theorem derN_xy {G : Gr ν} (hG : ∀ r ∈ G, ∀ y ∈ r.2, SyXY y) {n : ν} {w : List Nat} (h : DerN G n w) : ∀ c ∈ w, isXY c :=
  let ⟨_, hm, hb⟩ := h
  der_xy hG hb (hG _ hm)
/-- the three grammars: a the start, s the other name -/
def longG (a s : ν) (k : Nat) : Gr ν :=
  [(a, if k = 0 then [.nt a, .cls [120, 121]] else if k = 1 then [.cls [120, 121], .nt a] else [.nt s, .nt a]), (s, [.cls [120, 121]]), (a, [])]
theorem long_all (a s : ν) (k : Nat) (w : List Nat) : DerN (longG a s k) a w ↔ ∀ c ∈ w, isXY c := by
  have hmem : ∀ c, isXY c → c ∈ [120, 121] := fun c h => by rcases h with e | e <;> simp [e]
  constructor
  · refine derN_xy fun r hr y hy => ?_
    have hc : SyXY (Sy.cls (ν := ν) [120, 121]) := fun c h => by simpa [isXY] using h
    unfold longG at hr
    simp only [List.mem_cons, List.not_mem_nil, or_false] at hr
    rcases hr with e | e | e
    · subst e
      dsimp only at hy
      split at hy
      · simp only [List.mem_cons, List.not_mem_nil, or_false] at hy
        rcases hy with e | e
        · subst e; trivial
        · subst e; exact hc
      · split at hy
        · simp only [List.mem_cons, List.not_mem_nil, or_false] at hy
          rcases hy with e | e
          · subst e; exact hc
          · subst e; trivial
        · simp only [List.mem_cons, List.not_mem_nil, or_false] at hy
          rcases hy with e | e <;> (subst e; trivial)
    · subst e
      simp only [List.mem_cons, List.not_mem_nil, or_false] at hy
      subst hy; exact hc
    · subst e; cases hy
  · have m0 : (a, if k = 0 then [Sy.nt a, .cls [120, 121]] else if k = 1 then [.cls [120, 121], .nt a] else [.nt s, .nt a]) ∈ longG a s k := by unfold longG; simp
    have m1 : (s, [Sy.cls [120, 121]]) ∈ longG a s k := by unfold longG; simp
    have m2 : (a, ([] : List (Sy ν))) ∈ longG a s k := by unfold longG; simp
    have base : DerN (longG a s k) a [] := ⟨[], m2, .nil⟩
    by_cases h0 : k = 0
    · rw [if_pos h0] at m0
      have key : ∀ n, ∀ w : List Nat, w.length = n → (∀ c ∈ w, isXY c) → DerN (longG a s k) a w := by
        intro n
        induction n with
        | zero =>
          intro w hw _
          rw [List.length_eq_zero_iff.mp hw]; exact base
        | succ n ih =>
          intro w hw hc
          have hne : w ≠ [] := fun z => by rw [z] at hw; simp at hw
          have e := List.dropLast_concat_getLast hne
          rw [← e]
          have h1 : DerN (longG a s k) a w.dropLast := ih _ (by rw [List.length_dropLast]; omega) fun c hcm => hc c (List.dropLast_subset w hcm)
          have h2 := hc _ (List.getLast_mem hne)
          exact ⟨_, m0, .nt h1.choose_spec.1 h1.choose_spec.2 (.cls (hmem _ h2) .nil)⟩
      exact key w.length w rfl
    · rw [if_neg h0] at m0
      induction w with
      | nil => intro _; exact base
      | cons c w ih =>
        intro hc
        obtain ⟨bs, hm, hb⟩ := ih fun d hd => hc d (List.mem_cons_of_mem _ hd)
        have hcc := hmem c (hc c List.mem_cons_self)
        by_cases h1 : k = 1
        · rw [if_pos h1] at m0
          refine ⟨_, m0, .cls hcc ?_⟩
          have := Der.nt (ss := []) hm hb .nil
          rw [List.append_nil] at this
          exact this
        · rw [if_neg h1] at m0
          have h2 : Der (longG a s k) [.nt a] w := by
            have := Der.nt (ss := []) hm hb .nil
            rw [List.append_nil] at this
            exact this
          have := Der.nt (u := w) (ss := [.nt a]) m1 (.cls hcc .nil) h2
          exact ⟨_, m0, this⟩

/-! ### names without texts -/
/-- a set of names that is closed -/
def Closed (G : Gr ν) (F : ν → Prop) : Prop := ∀ r ∈ G, (∀ n, Sy.nt n ∈ r.2 → F n) → F r.1
theorem der_closed {G : Gr ν} {F : ν → Prop} (hF : Closed G F) {ss : List (Sy ν)} {w : List Nat} (h : Der G ss w) : ∀ n, Sy.nt n ∈ ss → F n := by
  induction h with
  | nil => intro n hn; cases hn
  | lit w _ ih =>
    intro n hn
    rcases List.mem_cons.mp hn with q | q
    · cases q
    · exact ih n q
  | cls _ _ ih =>
    intro n hn
    rcases List.mem_cons.mp hn with q | q
    · cases q
    · exact ih n q
  | nt hm _ _ ihb ih =>
    intro n hn
    rcases List.mem_cons.mp hn with q | q
    · injection q with q
      subst q
      exact hF _ hm ihb
    · exact ih n q
theorem derN_closed {G : Gr ν} {F : ν → Prop} (hF : Closed G F) {n : ν} {w : List Nat} (h : DerN G n w) : F n :=
  let ⟨_, hm, hb⟩ := h
  hF _ hm (der_closed hF hb)

/-! ### the short texts -/
/-- rows of texts, of at most N characters, that no rule adds to -/
def Full (G : Gr ν) (N : Nat) (W : ν → List Nat → Prop) : Prop :=
  ∀ r ∈ G, ∀ w, Parts W r.2 w → w.length ≤ N → W r.1 w
where
  /-- one text after the other -/
  Parts (W : ν → List Nat → Prop) : List (Sy ν) → List Nat → Prop
    | [], w => w = []
    | y :: ss, w => ∃ u v, w = u ++ v ∧ Part W y u ∧ Parts W ss v
  Part (W : ν → List Nat → Prop) : Sy ν → List Nat → Prop
    | .lit w, u => u = w
    | .cls cs, u => ∃ c ∈ cs, u = [c]
    | .nt n, u => W n u
theorem der_full {G : Gr ν} {N : Nat} {W : ν → List Nat → Prop} (hW : Full G N W) {ss : List (Sy ν)} {w : List Nat} (h : Der G ss w) : w.length ≤ N → Full.Parts W ss w := by
  induction h with
  | nil => intro _; rfl
  | lit w _ ih =>
    intro hl
    rw [List.length_append] at hl
    exact ⟨_, _, rfl, rfl, ih (by omega)⟩
  | @cls ss u c cs hc _ ih =>
    intro hl
    rw [List.length_cons] at hl
    exact ⟨[c], u, rfl, ⟨c, hc, rfl⟩, ih (by omega)⟩
  | nt hm _ _ ihb ih =>
    intro hl
    rw [List.length_append] at hl
    exact ⟨_, _, rfl, hW _ hm _ (ihb (by omega)) (by omega), ih (by omega)⟩
theorem derN_full {G : Gr ν} {N : Nat} {W : ν → List Nat → Prop} (hW : Full G N W) {n : ν} {w : List Nat} (h : DerN G n w) (hl : w.length ≤ N) : W n w :=
  let ⟨_, hm, hb⟩ := h
  hW _ hm w (der_full hW hb hl) hl
/-- the other way -/
theorem parts_der {G : Gr ν} {W : ν → List Nat → Prop} (hW : ∀ n w, W n w → DerN G n w) : ∀ {ss : List (Sy ν)} {w : List Nat}, Full.Parts W ss w → Der G ss w
  | [], w, h => by have h' : w = [] := h; rw [h']; exact .nil
  | y :: ss, w, ⟨u, v, e, h1, h2⟩ => by
    have hd := parts_der hW h2
    rw [e]
    have h3 : Der1 G y u := by
      cases y with
      | lit w => exact h1
      | cls cs => exact h1
      | nt n => exact hW n u h1
    exact h3.der.append hd
/-- the least one among the short texts is the least one -/
theorem short_min {G : Gr ν} {n : ν} {t : List Nat} {N : Nat} {o : Option Mv} (ho : IsMin (fun v => DerN G n v.2 ∧ v.1 = dist t v.2) o) {L : List Nat → Prop} (hs : ∀ w, L w → DerN G n w) (hc : ∀ w, DerN G n w → w.length ≤ N → L w)
    {f : Mv} (hf : L f.2) (he : f.1 = dist t f.2) (hl : ∀ w, L w → le f (dist t w, w)) (hN : f.1 + t.length ≤ N) : o = some f := by
  cases o with
  | none => exact absurd ⟨hs _ hf, he⟩ (ho f)
  | some b =>
    have h1 : le b f := ho.2 f ⟨hs _ hf, he⟩
    obtain ⟨hb, hd⟩ := ho.1
    have h2 := (dist_len t b.2).1
    have h3 := le_num h1
    have h4 : L b.2 := hc _ hb (by omega)
    have h5 : le f b := by
      have := hl _ h4
      rw [← hd] at this
      exact this
    rw [le_anti h1 h5]
end

/-! ### counting -/
theorem nodup_le {α : Type} [DecidableEq α] : ∀ {l m : List α}, l.Nodup → (∀ x ∈ l, x ∈ m) → l.length ≤ m.length
  | [], _, _, _ => Nat.zero_le _
  | x :: l, m, hn, hs => by
    obtain ⟨h1, h2⟩ := List.nodup_cons.mp hn
    have hx : x ∈ m := hs x List.mem_cons_self
    have h3 : l.length ≤ (m.erase x).length := nodup_le h2 fun y hy => by
      have hne : y ≠ x := fun z => h1 (z ▸ hy)
      exact (List.mem_erase_of_ne hne).mpr (hs y (List.mem_cons_of_mem _ hy))
    have h4 := List.length_erase_of_mem hx
    have h5 : 0 < m.length := List.length_pos_of_mem hx
    rw [List.length_cons]
    omega
/-- the texts of x and y of n characters -/
def words : Nat → List (List Nat)
  | 0 => [[]]
  | n + 1 => (words n).flatMap fun w => [120 :: w, 121 :: w]
theorem mem_words : ∀ {n : Nat} {w : List Nat}, w.length = n → (∀ c ∈ w, isXY c) → w ∈ words n
  | 0, w, h, _ => by rw [List.length_eq_zero_iff.mp h]; exact List.mem_cons_self
  | n + 1, [], h, _ => by simp at h
  | n + 1, c :: w, h, hc => by
    have h1 := mem_words (n := n) (w := w) (by simpa using h) fun d hd => hc d (List.mem_cons_of_mem _ hd)
    refine List.mem_flatMap.mpr ⟨w, h1, ?_⟩
    rcases hc c List.mem_cons_self with e | e <;> simp [e]
def shortWords : List (List Nat) := words 0 ++ words 1 ++ words 2 ++ words 3 ++ words 4 ++ words 5
theorem shortWords_len : shortWords.length = 63 := by decide +kernel
theorem mem_short {w : List Nat} (h : w.length ≤ 5) (hc : ∀ c ∈ w, isXY c) : w ∈ shortWords := by
  unfold shortWords
  simp only [List.mem_append]
  have := mem_words (n := w.length) rfl hc
  have h' : w.length = 0 ∨ w.length = 1 ∨ w.length = 2 ∨ w.length = 3 ∨ w.length = 4 ∨ w.length = 5 := by omega
  rcases h' with e | e | e | e | e | e <;> rw [e] at this <;> simp [this]
theorem short_few {l : List (List Nat)} (hn : l.Nodup) (h : ∀ w ∈ l, w.length ≤ 5 ∧ ∀ c ∈ w, isXY c) : l.length ≤ 63 := by
  have := nodup_le hn (m := shortWords) fun w hw => mem_short (h w hw).1 (h w hw).2
  rw [shortWords_len] at this
  exact this
end Md
end TextMdD
section TextMdE
set_option linter.all false
/-! Bounds: no number and no text grows beyond what a machine holds. -/
namespace Md
section
variable {ν : Type} [DecidableEq ν]
/-- few names, short rules, short literal texts -/
structure Small (G : Gr ν) (ns : List ν) : Prop where
  few : ns.length ≤ 3
  nd : ns.Nodup
  left : ∀ r ∈ G, r.1 ∈ ns
  syms : ∀ r ∈ G, r.2.length ≤ 3
  lits : ∀ r ∈ G, ∀ w, Sy.lit w ∈ r.2 → w.length ≤ 2
/-- a name has a text of at most 2 * 3 ^ k characters -/
def Sh (G : Gr ν) (k : Nat) (n : ν) : Prop := ∃ w, DerN G n w ∧ w.length ≤ 2 * 3 ^ k
theorem Sh.mono {G : Gr ν} {k : Nat} {n : ν} (h : Sh G k n) : Sh G (k + 1) n := let ⟨w, a, b⟩ := h; ⟨w, a, by rw [Nat.pow_succ]; omega⟩
theorem der_short {G : Gr ν} {X : Nat} (hX : 2 ≤ X) : ∀ {ss : List (Sy ν)}, (∀ y ∈ ss, ClsOk y) → (∀ w, Sy.lit w ∈ ss → w.length ≤ 2) → (∀ n, Sy.nt n ∈ ss → ∃ w, DerN G n w ∧ w.length ≤ X) → ∃ w, Der G ss w ∧ w.length ≤ X * ss.length
  | [], _, _, _ => ⟨[], .nil, Nat.zero_le _⟩
  | y :: ss, hc, hl, hn => by
    obtain ⟨w, hw, lw⟩ := der_short hX (fun z hz => hc z (List.mem_cons_of_mem _ hz)) (fun v hv => hl v (List.mem_cons_of_mem _ hv)) (fun n h => hn n (List.mem_cons_of_mem _ h))
    rw [List.length_cons, Nat.mul_succ]
    cases y with
    | lit v =>
      have := hl v List.mem_cons_self
      exact ⟨v ++ w, .lit v hw, by rw [List.length_append]; omega⟩
    | cls cs =>
      have hne := (hc _ List.mem_cons_self).2
      cases cs with
      | nil => exact absurd rfl hne
      | cons c cs => exact ⟨c :: w, .cls List.mem_cons_self hw, by rw [List.length_cons]; omega⟩
    | nt n =>
      obtain ⟨v, ⟨bs, hm, hb⟩, lv⟩ := hn n List.mem_cons_self
      exact ⟨v ++ w, .nt hm hb hw, by rw [List.length_append]; omega⟩
theorem sh_closed {G : Gr ν} {ns : List ν} (S : Small G ns) (hG : GrOk G) {k : Nat} (h : ∀ n ∈ ns, Sh G (k + 1) n → Sh G k n) : Closed G (Sh G k) := fun r hr hall => by
  refine h _ (S.left r hr) ?_
  obtain ⟨w, hw, lw⟩ := der_short (X := 2 * 3 ^ k) (by have := Nat.pow_le_pow_right (n := 3) (by decide) (Nat.zero_le k); omega) (hG r hr) (S.lits r hr) (fun n hn => hall n hn)
  refine ⟨w, ⟨r.2, hr, hw⟩, Nat.le_trans lw ?_⟩
  rw [Nat.pow_succ]
  have h1 : 2 * 3 ^ k * r.2.length ≤ 2 * 3 ^ k * 3 := Nat.mul_le_mul_left _ (S.syms r hr)
  omega
open Classical in
/-- all short texts are there within three steps -/
theorem short_text {G : Gr ν} {ns : List ν} (S : Small G ns) (hG : GrOk G) {n : ν} {w : List Nat} (h : DerN G n w) : ∃ w, DerN G n w ∧ w.length ≤ 54 := by
  let F : Nat → List ν := fun k => ns.filter fun n => decide (Sh G k n)
  have hn : n ∈ ns := let ⟨_, hm, _⟩ := h; S.left _ hm
  have fin : ∀ k, k ≤ 3 → (∀ n ∈ ns, Sh G (k + 1) n → Sh G k n) → ∃ w, DerN G n w ∧ w.length ≤ 54 := fun k hk hc => by
    obtain ⟨w, a, b⟩ := derN_closed (sh_closed S hG hc) h
    refine ⟨w, a, Nat.le_trans b ?_⟩
    have : 3 ^ k ≤ 3 ^ 3 := Nat.pow_le_pow_right (by decide) hk
    omega
  have grow : ∀ k, ¬ (∀ n ∈ ns, Sh G (k + 1) n → Sh G k n) → (F k).length + 1 ≤ (F (k + 1)).length := fun k hc => by
    have : ∃ m ∈ ns, Sh G (k + 1) m ∧ ¬ Sh G k m := Classical.byContradiction fun z => hc fun m hm h1 => Classical.byContradiction fun h2 => z ⟨m, hm, h1, h2⟩
    obtain ⟨m, hm, h1, h2⟩ := this
    have hmem : m ∈ F (k + 1) := List.mem_filter.mpr ⟨hm, decide_eq_true h1⟩
    have hno : m ∉ F k := fun z => h2 (of_decide_eq_true (List.mem_filter.mp z).2)
    have hnd : (m :: F k).Nodup := List.nodup_cons.mpr ⟨hno, S.nd.filter _⟩
    have := nodup_le hnd (m := F (k + 1)) fun x hx => by
      rcases List.mem_cons.mp hx with rfl | hx
      · exact hmem
      · obtain ⟨a, b⟩ := List.mem_filter.mp hx
        exact List.mem_filter.mpr ⟨a, decide_eq_true (of_decide_eq_true b).mono⟩
    exact this
  by_cases c0 : ∀ n ∈ ns, Sh G (0 + 1) n → Sh G 0 n
  · exact fin 0 (by decide) c0
  by_cases c1 : ∀ n ∈ ns, Sh G (1 + 1) n → Sh G 1 n
  · exact fin 1 (by decide) c1
  by_cases c2 : ∀ n ∈ ns, Sh G (2 + 1) n → Sh G 2 n
  · exact fin 2 (by decide) c2
  by_cases c3 : ∀ n ∈ ns, Sh G (3 + 1) n → Sh G 3 n
  · exact fin 3 (by decide) c3
  have g0 : (F 0).length + 1 ≤ (F 1).length := grow 0 c0
  have g1 : (F 1).length + 1 ≤ (F 2).length := grow 1 c1
  have g2 : (F 2).length + 1 ≤ (F 3).length := grow 2 c2
  have g3 : (F 3).length + 1 ≤ (F 4).length := grow 3 c3
  have h4 : (F 4).length ≤ ns.length := List.length_filter_le _ _
  have := S.few
  omega
/-- the numbers of a right row -/
theorem row_num {G : Gr ν} {ns : List ν} (S : Small G ns) (hG : GrOk G) {t : List Nat} {s : Nat} {R : Row ν} (hR : RowOk G t s R) {n : ν} {e : Nat} {v : Mv} (h : R n e = some v) : v.1 ≤ 54 + (e - s) := by
  have hm := hR n e
  rw [h] at hm
  obtain ⟨⟨a, b, c, d⟩, hle⟩ := hm
  obtain ⟨w, hw, lw⟩ := short_text S hG a
  have h1 := le_num (hle (dist (seg t s e) w, w) ⟨hw, rfl, c, d⟩)
  have h2 : dist (seg t s e) w ≤ (seg t s e).length + w.length := dist_le (by
    have := (al_nilr (seg t s e)).append (al_nill w)
    rw [List.append_nil, List.nil_append] at this
    exact this)
  rw [seg_len d] at h2
  dsimp only at h1
  omega
/-- the numbers of one symbol that is no name -/
theorem one_num {R : Rows ν} {t : List Nat} {y : Sy ν} {m e : Nat} {p : Mv} (hy : ClsOk y) (hl : ∀ w, y = .lit w → w.length ≤ 2) (he : e ≤ t.length) (hn : ∀ n, y ≠ .nt n) (h : oneV R t y m e = some p) : p.1 ≤ 2 + (e - m) := by
  have dl : ∀ a b : List Nat, dist a b ≤ a.length + b.length := fun a b => dist_le (by
    have := (al_nilr a).append (al_nill b)
    rw [List.append_nil, List.nil_append] at this
    exact this)
  cases y with
  | lit w =>
    have h' : (dist (seg t m e) w, w) = p := Option.some.inj h
    subst h'
    have := dl (seg t m e) w
    rw [seg_len he] at this
    have := hl w rfl
    dsimp only
    omega
  | cls cs =>
    have h' : clsV cs (seg t m e) = p := Option.some.inj h
    subst h'
    obtain ⟨c, _, e1⟩ := (clsV_min (seg t m e) hy.1 hy.2).mem
    rw [e1]
    have := dl (seg t m e) [c]
    rw [seg_len he, List.length_singleton] at this
    dsimp only
    omega
  | nt n => exact absurd rfl (hn n)
/-! ### the bound while a row is filled -/
/-- how many of the listed places are taken -/
def cnt (S : Row ν) (ix : List (ν × Nat)) : Nat := (ix.filter fun i => (S i.1 i.2).isSome).length
theorem cnt_le {S S' : Row ν} (h : ∀ n e, (S n e).isSome = true → (S' n e).isSome = true) : ∀ ix : List (ν × Nat), cnt S ix ≤ cnt S' ix
  | [] => Nat.le_refl _
  | i :: ix => by
    have ih := cnt_le h ix
    unfold cnt at *
    rw [List.filter_cons, List.filter_cons]
    cases h1 : (S i.1 i.2).isSome with
    | true => rw [h _ _ h1]; simp only [if_true, List.length_cons]; omega
    | false =>
      simp only [Bool.false_eq_true, if_false]
      cases (S' i.1 i.2).isSome <;> simp <;> omega
theorem cnt_lt {S S' : Row ν} (h : ∀ n e, (S n e).isSome = true → (S' n e).isSome = true) {n : ν} {e : Nat} (h0 : S n e = none) (h1 : (S' n e).isSome = true) : ∀ ix : List (ν × Nat), (n, e) ∈ ix → cnt S ix + 1 ≤ cnt S' ix
  | [], hm => by cases hm
  | i :: ix, hm => by
    unfold cnt
    rw [List.filter_cons, List.filter_cons]
    rcases List.mem_cons.mp hm with rfl | hm
    · have := cnt_le h ix
      unfold cnt at this
      simp only [h0, h1, Option.isSome_none, Bool.false_eq_true, if_false, if_true, List.length_cons]
      omega
    · have ih := cnt_lt h h0 h1 ix hm
      unfold cnt at ih
      cases h2 : (S i.1 i.2).isSome with
      | true => rw [h _ _ h2]; simp only [if_true, List.length_cons]; omega
      | false =>
        simp only [Bool.false_eq_true, if_false]
        cases (S' i.1 i.2).isSome <;> simp <;> omega
theorem cnt_all (S : Row ν) (ix : List (ν × Nat)) : cnt S ix ≤ ix.length := List.length_filter_le _ _
/-- the names' places at the start itself; all places -/
def ix0 (ns : List ν) (s : Nat) : List (ν × Nat) := ns.map fun n => (n, s)
def ixA (ns : List ν) (N : Nat) : List (ν × Nat) := ns.flatMap fun n => (List.range (N + 1)).map fun e => (n, e)
theorem mem_ixA {ns : List ν} {N : Nat} {n : ν} {e : Nat} (h : n ∈ ns) (he : e ≤ N) : (n, e) ∈ ixA ns N := List.mem_flatMap.mpr ⟨n, h, List.mem_map.mpr ⟨e, List.mem_range.mpr (by omega), rfl⟩⟩
theorem ixA_len (N : Nat) : ∀ ns : List ν, (ixA ns N).length = ns.length * (N + 1)
  | [] => by unfold ixA; simp
  | n :: ns => by
    have := ixA_len N ns
    unfold ixA at *
    rw [List.flatMap_cons, List.length_append, this, List.length_map, List.length_range, List.length_cons, Nat.succ_mul]
    omega
structure Bd (ns : List ν) (t : List Nat) (s : Nat) (S : Row ν) : Prop where
  at0 : ∀ n v, S n s = some v → v.1 ≤ 2 * 3 ^ cnt S (ix0 ns s)
  all : ∀ n e v, S n e = some v → v.1 ≤ 100 + 400 * cnt S (ixA ns t.length)
theorem Bd.num {ns : List ν} {t : List Nat} {s : Nat} {S : Row ν} (h : Bd ns t s S) (hn : ns.length ≤ 3) (ht : t.length ≤ 40) {n : ν} {e : Nat} {v : Mv} (hv : S n e = some v) : v.1 ≤ 60000 := by
  have h1 := h.all n e v hv
  have h2 := cnt_all S (ixA ns t.length)
  rw [ixA_len] at h2
  have h3 : ns.length * (t.length + 1) ≤ 3 * 41 := Nat.mul_le_mul hn (by omega)
  omega
/-- a fold's numbers: X at the start itself, Y behind it -/
theorem fold_num {G : Gr ν} {R : Rows ν} {t : List Nat} {s X Y : Nat} (hX : X ≤ 54) (hY : 100 ≤ Y) (h2 : 2 ≤ X) (ht : t.length ≤ 40) (h0 : ∀ n v, R s n s = some v → v.1 ≤ X) (h1 : ∀ n e v, R s n e = some v → v.1 ≤ Y)
    (h3 : ∀ m n e v, s < m → R m n e = some v → v.1 ≤ 94) : ∀ {ss : List (Sy ν)} {b : Ends} {j : Nat}, (∀ y ∈ ss, ClsOk y) → (∀ w, Sy.lit w ∈ ss → w.length ≤ 2) →
    (∀ m u, b m = some u → s ≤ m ∧ (m = s → u.1 ≤ X * j) ∧ u.1 ≤ Y + 120 * j) → ∀ m u, foldB R t b ss m = some u → s ≤ m ∧ (m = s → u.1 ≤ X * (j + ss.length)) ∧ u.1 ≤ Y + 120 * (j + ss.length)
  | [], b, j, _, _, hb, m, u, h => hb m u h
  | y :: ss, b, j, hc, hl, hb, m, u, h => by
    have := fold_num (G := G) hX hY h2 ht h0 h1 h3 (ss := ss) (b := stepB R t b y) (j := j + 1) (fun z hz => hc z (List.mem_cons_of_mem _ hz)) (fun w hw => hl w (List.mem_cons_of_mem _ hw)) (fun e v hv => ?_) m u h
    · rw [List.length_cons, show j + (ss.length + 1) = j + 1 + ss.length by omega]
      exact this
    · have hmin := theMin_is (StepP R t b y e)
      have hv' : theMin (StepP R t b y e) = some v := hv
      rw [hv'] at hmin
      obtain ⟨m, u, p, k1, k2, k3, k4, rfl⟩ := hmin.1
      obtain ⟨b1, b2, b3⟩ := hb m u k3
      have pb : (m = s → e = s → p.1 ≤ X) ∧ (m = s → p.1 ≤ Y) ∧ (s < m → p.1 ≤ 94) := by
        by_cases hy : ∃ n, y = .nt n
        · obtain ⟨n, rfl⟩ := hy
          have k4' : R m n e = some p := k4
          refine ⟨fun e1 e2 => ?_, fun e1 => ?_, fun hlt => h3 m n e p hlt k4'⟩
          · subst e1; subst e2; exact h0 n p k4'
          · subst e1; exact h1 n e p k4'
        · have := one_num (hc y List.mem_cons_self) (fun w hw => hl w (by rw [hw]; exact List.mem_cons_self)) k2 (fun n z => hy ⟨n, z⟩) k4
          exact ⟨fun e1 e2 => by omega, fun _ => by omega, fun _ => by omega⟩
      obtain ⟨p1, p2, p3⟩ := pb
      refine ⟨by omega, fun es => ?_, ?_⟩
      · have em : m = s := by omega
        have := b2 em
        have := p1 em es
        show u.1 + p.1 ≤ _
        rw [Nat.mul_succ]; omega
      · show u.1 + p.1 ≤ _
        rcases Nat.lt_or_eq_of_le b1 with q | q
        · have := p3 q; omega
        · have em : m = s := q.symm
          have a1 := b2 em
          have a2 := p2 em
          have a3 : X * j ≤ 54 * j := Nat.mul_le_mul_right _ hX
          omega
theorem bd_fill {G : Gr ν} {ns : List ν} (S0 : Small G ns) (hG : GrOk G) {R : Rows ν} {t : List Nat} {s : Nat} {S : Row ν} (ht : t.length ≤ 40) (hs : s ≤ t.length) (hR : ∀ m, s < m → RowOk G t m (R m)) (hS : Sound G t s S) (hB : Bd ns t s S)
    {r : ν × List (Sy ν)} (hr : r ∈ G) : Bd ns t s (fillRule R t s S r) := by
  have hfall := fillRule_falls (R := R) (t := t) (s := s) (S := S) r
  have mono : ∀ n e, (S n e).isSome = true → (fillRule R t s S r n e).isSome = true := fun n e h => by
    rcases hfall n e with q | q
    · rw [q]; exact h
    · cases z : fillRule R t s S r n e with
      | none => rw [z] at q; exact q.elim
      | some v => rfl
  have m0 := cnt_le mono (ix0 ns s)
  have mA := cnt_le mono (ixA ns t.length)
  have hc3 : cnt S (ix0 ns s) ≤ 3 := by
    have h1 := cnt_all S (ix0 ns s)
    unfold ix0 at h1
    rw [List.length_map] at h1
    have := S0.few
    unfold ix0
    omega
  have pw : ∀ a b, a ≤ b → 2 * 3 ^ a ≤ 2 * 3 ^ b := fun a b h => Nat.mul_le_mul_left _ (Nat.pow_le_pow_right (by decide) h)
  -- a place that was taken
  have old : ∀ n e v u, fillRule R t s S r n e = some v → S n e = some u → v.1 ≤ u.1 := fun n e v u hv hu => by
    rcases hfall n e with q | q
    · rw [q, hu] at hv; cases hv; exact Nat.le_refl _
    · rw [hv, hu] at q
      exact le_num (le_of_lt q)
  -- a new one
  have new : ∀ n e v, fillRule R t s S r n e = some v → S n e = none → n = r.1 ∧ ruleV (put R s S) t r.2 s e = some v := fun n e v hv hu => by
    unfold fillRule at hv
    split at hv
    · rename_i en
      have := theMin_is (fun v => S n e = some v ∨ ruleV (put R s S) t r.2 s e = some v)
      rw [hv] at this
      rcases this.1 with q | q
      · rw [hu] at q; cases q
      · exact ⟨en, q⟩
    · rw [hu] at hv; cases hv
  have X2 : 2 ≤ 2 * 3 ^ cnt S (ix0 ns s) := by have := pw 0 _ (Nat.zero_le (cnt S (ix0 ns s))); omega
  have X54 : 2 * 3 ^ cnt S (ix0 ns s) ≤ 54 := by have := pw _ _ hc3; omega
  have rv : ∀ e v, ruleV (put R s S) t r.2 s e = some v → (e = s → v.1 ≤ 2 * 3 ^ cnt S (ix0 ns s) * 3) ∧ v.1 ≤ 100 + 400 * cnt S (ixA ns t.length) + 360 := fun e v hv => by
    have at_s : put R s S s = S := by unfold put; rw [if_pos rfl]
    unfold ruleV at hv
    split at hv
    · dsimp only at hv
      split at hv
      · cases hv
        exact ⟨fun es => by subst es; simp, by dsimp only; omega⟩
      · cases hv
    · have := fold_num (G := G) (R := put R s S) (t := t) (s := s) (X := 2 * 3 ^ cnt S (ix0 ns s)) (Y := 100 + 400 * cnt S (ixA ns t.length)) X54 (by omega) X2 ht
        (fun n v h => by rw [at_s] at h; exact hB.at0 n v h) (fun n e v h => by rw [at_s] at h; exact hB.all n e v h)
        (fun m n e v hm h => by
          have e1 : put R s S m = R m := by unfold put; rw [if_neg (by omega)]
          rw [e1] at h
          have h1 := row_num S0 hG (hR m hm) h
          have h2 := ((hR m hm).sound n e v h).2.2
          omega)
        (ss := r.2) (b := startB s) (j := 0) (hG r hr) (S0.lits r hr) (fun m u h => by
          unfold startB at h
          split at h
          · rename_i em; cases h; exact ⟨by omega, fun _ => Nat.zero_le _, Nat.zero_le _⟩
          · cases h) e v hv
      have hl := S0.syms r hr
      obtain ⟨_, b, c⟩ := this
      rw [Nat.zero_add] at b c
      refine ⟨fun es => Nat.le_trans (b es) (Nat.mul_le_mul_left _ hl), by omega⟩
  refine ⟨fun n v hv => ?_, fun n e v hv => ?_⟩
  · cases hu : S n s with
    | some u =>
      have := old n s v u hv hu
      have := hB.at0 n u hu
      have := pw _ _ m0
      omega
    | none =>
      obtain ⟨en, q⟩ := new n s v hv hu
      have h1 := (rv s v q).1 rfl
      have h2 := cnt_lt mono hu (by rw [hv]; rfl) (ix0 ns s) (List.mem_map.mpr ⟨n, by rw [en]; exact S0.left r hr, rfl⟩)
      have h3 := pw _ _ h2
      rw [Nat.pow_succ] at h3
      omega
  · cases hu : S n e with
    | some u =>
      have := old n e v u hv hu
      have := hB.all n e u hu
      omega
    | none =>
      obtain ⟨en, q⟩ := new n e v hv hu
      have h1 := (rv e v q).2
      have he : e ≤ t.length := (rule_sound (put_sound (fun m hm => (hR m hm).sound) hS) hs (hG r hr) q).2.1
      have h2 := cnt_lt mono hu (by rw [hv]; rfl) (ixA ns t.length) (mem_ixA (by rw [en]; exact S0.left r hr) he)
      omega
theorem bd_none (ns : List ν) (t : List Nat) (s : Nat) : Bd ns t s (fun _ _ => none) := ⟨fun _ _ h => (by cases h), fun _ _ _ h => (by cases h)⟩
end
end Md
end TextMdE
section TextMdF
set_option linter.all false
namespace Md
section
variable {ν : Type} [DecidableEq ν] {R : Rows ν} {t : List Nat} {b : Ends} {y : Sy ν}
/-- the values of the pairs (middle, end) of D -/
def PD (R : Rows ν) (t : List Nat) (b : Ends) (y : Sy ν) (D : Nat → Nat → Prop) (e : Nat) : Mv → Prop :=
  fun v => ∃ m u p, D m e ∧ m ≤ e ∧ e ≤ t.length ∧ b m = some u ∧ oneV R t y m e = some p ∧ v = join u p
theorem pd_none {D D' : Nat → Nat → Prop} {m0 e0 : Nat} {f : Ends} (hf : ∀ e, IsMin (PD R t b y D e) (f e)) (hD : ∀ m e, D' m e ↔ D m e ∨ (m = m0 ∧ e = e0)) (h1 : oneV R t y m0 e0 = none) (e : Nat) : IsMin (PD R t b y D' e) (f e) :=
  (hf e).congr fun v => by
    constructor
    · rintro ⟨m, u, p, d, r⟩
      exact ⟨m, u, p, (hD m e).mpr (.inl d), r⟩
    · rintro ⟨m, u, p, d, a, a2, a3, a4, a5⟩
      rcases (hD m e).mp d with d | ⟨rfl, rfl⟩
      · exact ⟨m, u, p, d, a, a2, a3, a4, a5⟩
      · rw [h1] at a4; cases a4
theorem pd_some {D D' : Nat → Nat → Prop} {m0 e0 : Nat} {f : Ends} {u0 p0 : Mv} (hf : ∀ e, IsMin (PD R t b y D e) (f e)) (hD : ∀ m e, D' m e ↔ D m e ∨ (m = m0 ∧ e = e0)) (h0 : b m0 = some u0) (h1 : oneV R t y m0 e0 = some p0) (h2 : m0 ≤ e0) (h3 : e0 ≤ t.length) (e : Nat) :
    IsMin (PD R t b y D' e) (if e = e0 then some (bmin ((f e0).getD (join u0 p0)) (join u0 p0)) else f e) := by
  by_cases z : e = e0
  · subst z
    rw [if_pos rfl]
    refine (hf e).add fun v => ?_
    constructor
    · rintro ⟨m, u, p, d, a, a2, a3, a4, a5⟩
      rcases (hD m e).mp d with d | ⟨rfl, _⟩
      · exact .inl ⟨m, u, p, d, a, a2, a3, a4, a5⟩
      · rw [h0] at a3
        rw [h1] at a4
        cases a3
        cases a4
        exact .inr a5
    · rintro (⟨m, u, p, d, r⟩ | rfl)
      · exact ⟨m, u, p, (hD m e).mpr (.inl d), r⟩
      · exact ⟨m0, u0, p0, (hD m0 e).mpr (.inr ⟨rfl, rfl⟩), h2, h3, h0, h1, rfl⟩
  · rw [if_neg z]
    refine (hf e).congr fun v => ?_
    constructor
    · rintro ⟨m, u, p, d, r⟩
      exact ⟨m, u, p, (hD m e).mpr (.inl d), r⟩
    · rintro ⟨m, u, p, d, r⟩
      rcases (hD m e).mp d with d | ⟨_, q⟩
      · exact ⟨m, u, p, d, r⟩
      · exact absurd q z
theorem pd_start (e : Nat) : IsMin (PD R t b y (fun _ _ => False) e) none := by
  rintro v ⟨_, _, _, d, _⟩; exact d
theorem pd_all {D : Nat → Nat → Prop} {f : Ends} (hf : ∀ e, IsMin (PD R t b y D e) (f e)) (hD : ∀ m e, (∃ u, b m = some u) → m ≤ e → e ≤ t.length → D m e) : f = stepB R t b y := by
  funext e
  refine IsMin.uniq ((hf e).congr (P' := StepP R t b y e) fun v => ?_) (theMin_is _)
  constructor
  · rintro ⟨m, u, p, _, r⟩
    exact ⟨m, u, p, r⟩
  · rintro ⟨m, u, p, a, a2, a3, r⟩
    exact ⟨m, u, p, hD m e ⟨u, a3⟩ a a2, a, a2, a3, r⟩
/-- same values, other pairs -/
theorem pd_congr {D D' : Nat → Nat → Prop} {f : Ends} (hf : ∀ e, IsMin (PD R t b y D e) (f e)) (hD : ∀ m e, (∃ u, b m = some u) → m ≤ e → e ≤ t.length → (D' m e ↔ D m e)) (e : Nat) : IsMin (PD R t b y D' e) (f e) :=
  (hf e).congr fun v => by
    constructor
    · rintro ⟨m, u, p, d, a, a2, a3, r⟩
      exact ⟨m, u, p, (hD m e ⟨u, a3⟩ a a2).mpr d, a, a2, a3, r⟩
    · rintro ⟨m, u, p, d, a, a2, a3, r⟩
      exact ⟨m, u, p, (hD m e ⟨u, a3⟩ a a2).mp d, a, a2, a3, r⟩
/-- lengths -/
theorem step_len {s X j : Nat} (hb : ∀ m u, b m = some u → s ≤ m ∧ u.2.length ≤ X * j) (h1 : ∀ m e p, s ≤ m → oneV R t y m e = some p → p.2.length ≤ X) : ∀ m u, stepB R t b y m = some u → s ≤ m ∧ u.2.length ≤ X * (j + 1) := fun e v h => by
  have q := theMin_is (StepP R t b y e)
  have h' : theMin (StepP R t b y e) = some v := h
  rw [h'] at q
  obtain ⟨m, u, p, a, a2, a3, a4, rfl⟩ := q.1
  obtain ⟨b1, b2⟩ := hb m u a3
  have := h1 m e p b1 a4
  refine ⟨Nat.le_trans b1 a, ?_⟩
  unfold join
  dsimp only
  rw [List.length_append, Nat.mul_succ]
  omega
theorem fold_snoc (ss : List (Sy ν)) : foldB R t b (ss ++ [y]) = stepB R t (foldB R t b ss) y := by
  unfold foldB; rw [List.foldl_append]; rfl
/-- a rule's place in the row -/
theorem fill_none {s e : Nat} {S : Row ν} {r : ν × List (Sy ν)} (h : ruleV (put R s S) t r.2 s e = none) : fillRule R t s S r r.1 e = S r.1 e := by
  unfold fillRule
  rw [if_pos rfl]
  refine IsMin.uniq (theMin_is _) (P := fun v => S r.1 e = some v ∨ ruleV (put R s S) t r.2 s e = some v) ?_
  cases q : S r.1 e with
  | none => rintro v (z | z); cases z; rw [h] at z; cases z
  | some u =>
    refine ⟨.inl rfl, fun v z => ?_⟩
    rcases z with z | z
    · cases z; exact le_refl u
    · rw [h] at z; cases z
theorem fill_new {s e : Nat} {S : Row ν} {r : ν × List (Sy ν)} {v : Mv} (h : ruleV (put R s S) t r.2 s e = some v) (hl : S r.1 e = none ∨ ∃ u, S r.1 e = some u ∧ lt v u) : fillRule R t s S r r.1 e = some v := by
  unfold fillRule
  rw [if_pos rfl]
  refine IsMin.uniq (theMin_is _) (P := fun v => S r.1 e = some v ∨ ruleV (put R s S) t r.2 s e = some v) ?_
  refine ⟨.inr h, fun x z => ?_⟩
  rcases z with z | z
  · rcases hl with q | ⟨u, q, l⟩
    · rw [q] at z; cases z
    · rw [q] at z; cases z; exact le_of_lt l
  · rw [h] at z; cases z; exact le_refl _
theorem fill_old {s e : Nat} {S : Row ν} {r : ν × List (Sy ν)} {v u : Mv} (h : ruleV (put R s S) t r.2 s e = some v) (q : S r.1 e = some u) (hl : ¬ lt v u) : fillRule R t s S r r.1 e = S r.1 e := by
  unfold fillRule
  rw [if_pos rfl]
  refine IsMin.uniq (theMin_is _) (P := fun v => S r.1 e = some v ∨ ruleV (put R s S) t r.2 s e = some v) ?_
  rw [q]
  refine ⟨.inl rfl, fun x z => ?_⟩
  rcases z with z | z
  · cases z; exact le_refl u
  · rw [h] at z; cases z; exact hl
open Classical in
theorem turn_flag {s : Nat} {x : Row ν × Bool} {r : ν × List (Sy ν)} : (turnF R t s x r).2 = true ↔ x.2 = true ∨ fillRule R t s x.1 r ≠ x.1 := by
  unfold turnF
  simp only [Bool.or_eq_true, decide_eq_true_eq]
theorem al_len {a b : List Nat} {n : Nat} (h : Al a b n) : b.length ≤ n + a.length := by
  induction h <;> simp only [List.length_cons, List.length_nil] <;> omega
end
end Md
end TextMdF
section TextWA
set_option linter.all false
set_option maxRecDepth 100000
/-! enumerate of a text. -/
namespace Ms
open PySem PySem.Spec PyProof.Rows L2
/-- the signs of x with their places, each time a new pair -/
def Itq (x : Str) : It :=
  ⟨fun i _ => i < x.cps.size, fun i H v H' => ∃ T c, x.cps[i]? = some c ∧ v = .ref T ∧ H T = none ∧ H' = upd H T (.tup [.int (i : Nat), .str ⟨#[c]⟩]), fun i _ => x.cps.size ≤ i⟩
theorem turn_enumS {P : Program} {w : World} {K : PySem.W.Frag} {elts : List Expr} {kk : Nat} {tpos : Pos} (x : Str) (t : Tok) (e it : Addr) :
    Turn P w K (.Tuple elts kk tpos) (Itq x) [e, it] e (fun i h => (∃ old, IsEnum h e it ((i : Nat) : Int) old) ∧ h.IsStrIter it (strIterType x) x t i ∧ e ≠ it) where
  mem := List.mem_cons_self
  obj := by
    rintro i h ⟨⟨old, he⟩, ⟨o, ho, _, hd⟩, _⟩ b hb
    simp only [List.mem_cons, List.not_mem_nil, or_false] at hb
    rcases hb with rfl | rfl
    · exact ⟨_, he, fun v q => nomatch q⟩
    · exact ⟨o, ho, fun v q => by rw [hd] at q; cases q⟩
  keep := by
    rintro i h h' ⟨⟨old, he⟩, ⟨o, ho, r⟩, hne⟩ k
    exact ⟨⟨old, k e List.mem_cons_self _ he⟩, ⟨o, k it (by simp) o ho, r⟩, hne⟩
  item := by
    rintro X rfl rfl rfl hc i pins s σ H E I hf ⟨⟨old, he⟩, hit, hne⟩ hg
    have D := Draws.text (prog := X.prog) (w := X.w) (A := X.A.in1) (I.ok.hd hc) it x t
    have hef : e ∉ [it] := by simpa using hne
    refine wpAny_pyNext_enum_itemD D he hit hg hne hef fun v h' tk hv ho hit' hT hsz hk => ⟨_, rfl, ?_⟩
    obtain ⟨c, u, hcx, rfl⟩ := hv
    have hel : e < s.heap.objs.size := Heap.lt_size he
    have hil : it < s.heap.objs.size := let ⟨_, q, _⟩ := hit; Heap.lt_size q
    refine wpAny_letOwnedTupleGo_enum (s := { s with heap := h', toks := tk + 1 }) ho fun h2 he2 sb => ?_
    have hT2 : h2.get? s.heap.objs.size = some { cls := .type "tuple", data := .seq #[.int i tk, .str ⟨#[c]⟩ u] } := (sb.2 _ (Nat.ne_of_gt hel)).trans hT
    have nw : ObjOk X.prog X.w (upd H s.heap.objs.size (.tup [.int (i : Nat), .str ⟨#[c]⟩])) h2 s.heap.objs.size (.tup [.int (i : Nat), .str ⟨#[c]⟩]) :=
      ⟨by show 2 ≤ sizeLine; decide, [.int i tk, .str ⟨#[c]⟩ u], .cons ⟨_, rfl⟩ (.cons ⟨_, rfl⟩ .nil), ⟨_, hT2, rfl, _, rfl⟩⟩
    have I1 := I.turnedNew (h' := h2) (t' := tk + 1) (ch := [e, it]) (fun b ob hb q => by
      simp only [List.mem_cons, List.not_mem_nil, or_false, not_or] at hb
      exact (sb.2 b hb.1).trans (hk b ob hb.1 hb.2 q)) hf (Nat.le_refl _) nw
    refine ⟨.ref s.heap.objs.size, _, I1, rfl, ⟨_, c, hcx, rfl, I.hok.fresh (Nat.le_refl _), rfl⟩, ⟨⟨.str ⟨#[c]⟩ u, ?_⟩, ?_, hne⟩, fun b hb => ?_⟩
    · rw [show ((i + 1 : Nat) : Int) = (i : Int) + 1 by omega]; exact he2
    · obtain ⟨o, ho', r⟩ := hit'
      exact ⟨o, (sb.2 it (Ne.symm hne)).trans ho', r⟩
    · have hlt : b < s.heap.objs.size := by
        simp only [List.mem_cons, List.not_mem_nil, or_false] at hb
        rcases hb with rfl | rfl <;> assumption
      rw [upd_ne (Nat.ne_of_lt hlt)]
      exact (hf b hb).1
  done := by
    rintro X rfl rfl rfl hc i pins s σ H E I hf ⟨⟨old, he⟩, hit, hne⟩ hg
    obtain ⟨f0, f1, f2, f3, f4, f5⟩ := hf it (by simp)
    have D := Draws.text (prog := X.prog) (w := X.w) (A := X.A.in1) (I.ok.hd hc) it x t
    unfold pyNext
    have hx : x.cps[i]? = none := Array.getElem?_eq_none hg
    have hT : s.TypeIs (.ref e) "enumerate" := ⟨_, he, rfl⟩
    refine wpAny_bind (wpAny_attempt (wpAny_callSpecial?_slot (name := Str.ofString "__next__") hT PySem.F.slot_enumerate_next
      (wpAny_call_entry PySem.F.slot_enumerate_next hT PySem.F.entry_enumerate_next ?_ (PySem.F.args_enumerate_next_1 _))))
    show wpAny _ _ (field (.ref e) 2 >>= _) _ _ _
    refine wpAny_bind (wpAny_field he rfl (x := .ref it) rfl ?_)
    have fin : ∀ h' ex, Heap.ExtBut it s.heap h' → (∃ o, h'.get? ex = some o ∧ o.cls = .type "StopIteration") → (none : Option Value) = none ∧ Inv X pins σ H { s with heap := h' } :=
      fun h' ex hx _ => ⟨rfl, I.turned (t' := s.toks) (fun b o hb q => hx b o hb q) f0 f1 f3 f4 f5⟩
    cases ha : x.cps.all (· < 128) <;> simp only [strIterType, ha, if_true, if_false, Bool.false_eq_true] at hit
    · refine wpAny_bind (wpAny_nextOf_wide_end (I.ok.hd hc) hit hx fun h' ex hx' hc' => ?_)
      refine wpAny_bind (wpAny_isInstance (T := "StopIteration") (b := true) (let ⟨o, a, b⟩ := hc'; ⟨o, a, b⟩) isSubtype_stop ?_)
      exact wpAny_pure (fin h' ex hx' hc')
    · refine wpAny_bind (wpAny_nextOf_ascii_end (I.ok.hd hc) hit hx fun h' ex hx' hc' => ?_)
      refine wpAny_bind (wpAny_isInstance (T := "StopIteration") (b := true) (let ⟨o, a, b⟩ := hc'; ⟨o, a, b⟩) isSubtype_stop ?_)
      exact wpAny_pure (fin h' ex hx' hc')
  self := fun A i s Q E st h => let ⟨⟨_, he⟩, _⟩ := st; wpAny_pyIter_enum he h
def iEnumS (ta : TA) : TI := fun σ H R => ta σ H fun vs H1 => ∃ x, vs = [.str x] ∧ R (Itq x) H1
theorem pi_enumS {X : Cx} {e : Expr} {ta : TA} {p pos tpos : Pos} {elts : List Expr} {kk : Nat} (hg : Gl X "enumerate") (hm : X.mg "enumerate" = none) (ha : PA X [e] ta) (hs : starEach [e] X.env = [(false, eval e X.env)] := by rfl) :
    PI X (.Tuple elts kk tpos) (.Call (.Name "enumerate" p) [e] [] pos) (iEnumS ta) := by
  refine ⟨fun pins s σ H R I h => ?_⟩
  refine Call_ (ld_blt I hg hm boot_enumerate (PyProof.Rows.callWith_type1 (thn (ha.run pos pins s σ H _ I h) fun us s1 ⟨vs, H1, I1, r1, x, ex, q⟩ => ?_) hs rfl))
  subst ex
  cases r1 with
  | cons r rr =>
    cases rr
    obtain ⟨t, rfl⟩ := r
    refine call_enumerate_str fun h' he hit hsz hk => wpAny_pyIter_enum he ?_
    have I2 : Inv X pins σ H1 { s1 with heap := h' } := I1.kept (t' := s1.toks) hk
    refine ⟨_, [s1.heap.objs.size + 1, s1.heap.objs.size], _, _, H1, rfl, I2, turn_enumS x t (s1.heap.objs.size + 1) s1.heap.objs.size, ⟨⟨.none, he⟩, hit, Nat.succ_ne_self _⟩, fun b hb => ?_, q⟩
    have hle : s1.heap.objs.size ≤ b := by
      simp only [List.mem_cons, List.not_mem_nil, or_false] at hb
      rcases hb with rfl | rfl
      · exact Nat.le_succ _
      · exact Nat.le_refl _
    exact I1.fpOk hle (I1.hok.fresh hle)
/-- the loop's bookkeeping -/
theorem for_enumS {x : Str} {g : TG} {tb : TS} {D : Ends} {σ : L2.St} {H : Hp} (Pv : Nat → L2.St → Hp → Prop) (h0 : Pv 0 σ H)
    (hs : ∀ i c T σ H, x.cps[i]? = some c → Pv i σ H → H T = none → g (.ref T) σ (upd H T (.tup [.int (i : Nat), .str ⟨#[c]⟩])) fun σ2 H2 => tb { D with nx := Pv (i + 1), ct := Pv (i + 1), bk := D.nx } σ2 H2)
    (hd : ∀ σ H, Pv x.cps.size σ H → D.nx σ H) :
    ∃ W : Nat → Nat → L2.St → Hp → Prop, (∃ m, W 0 m σ H) ∧ ∀ i m σ H, W i m σ H →
      ((Itq x).stop i H ∧ D.nx σ H) ∨ ((Itq x).go i H ∧ ∃ N : L2.St → Hp → Prop, (∀ σ' H', N σ' H' → ∃ m', m' < m ∧ W (i + 1) m' σ' H') ∧ ∀ y H', (Itq x).yld i H y H' → g y σ H' fun σ2 H2 => tb { D with nx := N, ct := N, bk := D.nx } σ2 H2) := by
  refine ⟨fun i m σ H => m = x.cps.size - i ∧ i ≤ x.cps.size ∧ Pv i σ H, ⟨_, rfl, Nat.zero_le _, h0⟩, ?_⟩
  rintro i m σ H ⟨rfl, hi, p⟩
  by_cases hlt : i < x.cps.size
  · refine .inr ⟨hlt, Pv (i + 1), fun σ' H' p' => ⟨x.cps.size - (i + 1), by omega, rfl, hlt, p'⟩, ?_⟩
    rintro y H' ⟨T, c, hc, rfl, hT, rfl⟩
    exact hs i c T σ H hc p hT
  · obtain rfl : i = x.cps.size := by omega
    exact .inl ⟨Nat.le_refl _, hd σ H p⟩
end Ms
end TextWA
section TextWT
set_option linter.all false
set_option maxRecDepth 100000
/-! The text by places; what the walk knows of the module's names; small words. -/
namespace Ms
open PySem PySem.Spec PyProof.Rows L2
def top (i : Nat) : Stmt := PySem.Challenge.pw_scribeself_k81_whole_least_mends.main.body.getD i (.Pass ⟨0, 0, 0, 0⟩)
abbrev sGramInit : Stmt := inClass (top 2) 0
abbrev sAllCh : Stmt := top 6
abbrev sCanon : Stmt := top 7
abbrev sIsClass : Stmt := top 8
abbrev sCheckClass : Stmt := top 9
abbrev sIsName : Stmt := top 11
abbrev sLefts : Stmt := top 12
abbrev sRulesOf : Stmt := top 13
abbrev sCheckSym : Stmt := top 14
abbrev sCheck : Stmt := top 15
abbrev sNullable : Stmt := top 16
abbrev sSteps : Stmt := top 17
abbrev sCyclic : Stmt := top 18
abbrev sChRows : Stmt := top 20
abbrev sChCount : Stmt := top 21
abbrev sChanges : Stmt := top 22
abbrev sMInit : Stmt := inClass (top 23) 0
abbrev sLiteral : Stmt := inClass (top 23) 1
abbrev sOne : Stmt := inClass (top 23) 2
abbrev sRule : Stmt := inClass (top 23) 3
abbrev sFill : Stmt := inClass (top 23) 4
abbrev sJoined : Stmt := top 24
abbrev sMend : Stmt := top 25
abbrev sDistance : Stmt := top 26
abbrev sDraws : Stmt := top 28
abbrev sDraw : Stmt := top 29
abbrev sSame : Stmt := top 30
abbrev sSymbol : Stmt := top 31
abbrev sGrammar : Stmt := top 32
abbrev sChecked : Stmt := top 33
abbrev sTexts : Stmt := top 34
abbrev sWords : Stmt := top 35
abbrev sApart : Stmt := top 36
abbrev sText : Stmt := top 37
abbrev sTold : Stmt := top 38
abbrev sLeads : Stmt := top 39
abbrev sFruit : Stmt := top 40
abbrev sLong : Stmt := top 41
abbrev sLaw : Stmt := top 42
/-- the built-in names are still the built-in ones -/
structure Bi (mg : Str → Option Value) : Prop where
  len : mg "len" = none
  sorted : mg "sorted" = none
  set : mg "set" = none
  all : mg "all" = none
  enumerate : mg "enumerate" = none
  list : mg "list" = none
  range : mg "range" = none
  min : mg "min" = none
  max : mg "max" = none
  int : mg "int" = none
  isinstance : mg "isinstance" = none
  tuple : mg "tuple" = none
  str : mg "str" = none
  bool : mg "bool" = none
  sum : mg "sum" = none
  repr : mg "repr" = none
/-- a def of the text: where it stands -/
structure Df (K : PySem.W.Frag) (mg : Str → Option Value) (x : Str) (st : Stmt) (ps : List Str) (f : Addr) (fd : FuncData) : Prop where
  F : Fun K x x st f fd
  g : mg x = some (.ref f)
  b : Binds K fd ps []
/-- what was tracked stands, but for the objects at S -/
def Keep (S : List Addr) (H H' : Hp) : Prop := ∀ b o, H b = some o → b ∉ S → H' b = some o
theorem sm_upd {H H1 : Hp} {p : Addr} {o : HO} (h : L2.Same H H1) (hp : H p = none) : L2.Same H (L2.upd H1 p o) := fun b u e => by
  rw [upd_ne (ne_of_none e hp)]; exact h b u e
theorem sm_new {H H1 : Hp} {p : Addr} {o : HO} (h : L2.Same H H1) (hp : H1 p = none) : L2.Same H (L2.upd H1 p o) := sm_upd h (h.free hp)
theorem sz (n : Nat) (h : n ≤ 1000000) : n ≤ sizeLine := by rw [sizeLine_eq]; omega
theorem szlt (n : Nat) (h : n ≤ 1000000) : n < sizeLine := by rw [sizeLine_eq]; omega
theorem sz0 : ([] : List V).length ≤ sizeLine := Nat.zero_le _
theorem sz1 {a : V} : [a].length ≤ sizeLine := sz 1 (by decide)
theorem sz2 {a b : V} : [a, b].length ≤ sizeLine := sz 2 (by decide)
theorem sz3 {a b c : V} : [a, b, c].length ≤ sizeLine := sz 3 (by decide)
theorem sz4 {a b c d : V} : [a, b, c, d].length ≤ sizeLine := sz 4 (by decide)
theorem upd_none {H : Hp} {a b : Addr} {o : HO} (e : upd H a o b = none) : H b = none := by
  unfold upd at e
  split at e
  · cases e
  · exact e
/-- a new object stands apart from one just made -/
theorem ne_new {H : Hp} {a b : Addr} {o : HO} (e : upd H a o b = none) : b ≠ a := fun z => by rw [z, upd_same] at e; cases e
theorem nuMin3_int (a b c : Int) : nuMin3 (.int a) (.int b) (.int c) = some (.int (min a (min b c))) := by
  have h2 : ∀ x y : Int, nuMin2 (.int x) (.int y) = some (.int (min x y)) := fun x y => by
    show (some (decide (y < x))).map _ = _
    rw [Option.map_some]
    by_cases h : y < x
    · rw [decide_eq_true h, if_pos rfl, Int.min_eq_right (by omega)]
    · rw [decide_eq_false h, if_neg (by decide), Int.min_eq_left (by omega)]
  unfold nuMin3
  rw [h2]
  show nuMin2 (.int (min a b)) (.int c) = _
  rw [h2]
  congr 2
  omega
/-- an item of a list read by map -/
theorem get_map {α β : Type} {l : List α} {f : α → β} {i : Nat} {y : β} (h : (l.map f)[i]? = some y) : ∃ x, l[i]? = some x ∧ y = f x := by
  rw [List.getElem?_map] at h
  cases e : l[i]? with
  | none => rw [e] at h; cases h
  | some x => rw [e] at h; exact ⟨x, rfl, (Option.some.inj h).symm⟩
end Ms
end TextWT
section TextD1
set_option linter.all false
set_option maxRecDepth 100000
namespace Ms
open PySem PySem.Spec PyProof.Rows L2
/-! ### change_rows -/
def rowV (a b : List Nat) (i k : Nat) : List V := (List.range (k + 1)).map fun j => V.int ((Md.tab a b i j : Nat) : Int)
/-- the table's first n rows at p -/
def TabAt (H : Hp) (p : Addr) (a b : List Nat) (n : Nat) : Prop :=
  ∃ qs : List Addr, qs.length = n ∧ H p = some (.lst (qs.map V.ref)) ∧ ∀ i q, qs[i]? = some q → H q = some (.lst (rowV a b i b.length))
def spRows : Sp := fun vs H Q _ => ∃ x y : Str, vs = [.str x, .str y] ∧ x.length ≤ 1000 ∧ y.length ≤ 1000 ∧
  ∀ H' p, L2.Same H H' → H p = none → TabAt H' p x.cps.toList y.cps.toList (x.length + 1) → Q (.ref p) H'
section
variable {P : Program} {w : World} {K : PySem.W.Frag} {mg : Str → Option Value} {base : Heap}
theorem scRows : FnScope ["first", "second", "rows", "at", "char", "row", "k", "other"] ["first", "second"] (defScope sChRows) :=
  ⟨rfl, rfl, rfl, by decide +kernel, rfl, by decide +kernel, by decide +kernel⟩
theorem ok_rows {f : Addr} {fd : FuncData} (F : Fun K "change_rows" "change_rows" sChRows f fd) (T : Bi mg) : FnOk P w K mg base CX0 1 f fd ["first", "second"] spRows := by
  refine F.ok scRows (fun vs H Q E h => ?_) (fun cdv A outer s H vs Q E hr h => ?_)
  · obtain ⟨x, y, rfl, _⟩ := h
    rfl
  · obtain ⟨x, y, rfl, hx, hy, k⟩ := h
    refine ⟨_, pss_cons (ps_set (i := 2) scRows.nd rfl (Or.inl rfl) (pe_lst (pa_cons (pe_listRg rfl (by rfl) T.list (prg_1 (by rfl) T.range (pe_op op_add (pe_callB call_len_str (by rfl) T.len PySem.boot_len (pa_cons (pv 1) pa_nil)) pe_int))) pa_nil)))
      (pss_cons (ps_for PassesOwn.never rfl (pi_enumS (by rfl) T.enumerate (pa_cons (pv 0) pa_nil)) (pg_tup rfl (pgs_cons (pg_name (i := 3) scRows.nd rfl (Or.inl rfl)) (pgs_cons (pg_name (i := 4) scRows.nd rfl (Or.inl rfl)) pgs_nil)))
        (pss_cons (ps_set (i := 5) scRows.nd rfl (Or.inl rfl) (pe_lst (pa_cons (pe_op op_add (pv 3) pe_int) pa_nil)))
        (pss_cons (ps_for PassesOwn.never rfl (pi_enumS (by rfl) T.enumerate (pa_cons (pv 1) pa_nil)) (pg_tup rfl (pgs_cons (pg_name (i := 6) scRows.nd rfl (Or.inl rfl)) (pgs_cons (pg_name (i := 7) scRows.nd rfl (Or.inl rfl)) pgs_nil)))
          (pss_one (ps_expr (pe_bm PySem.F.plainAttrs_list PySem.F.slot_list_append PySem.F.type_list_append mt_append (pv 5)
            (pa_cons (pe_callB (call_min3Nu rfl) (by rfl) T.min (by decide +kernel) (pa_cons
              (pe_op op_add (pe_ix ix_list (pe_ix ix_list (pv 2) (pv 3) (fun _ _ => rfl)) (pv 6) (fun _ _ => rfl)) (pe_callTy call_int1 (by rfl) T.int (by decide +kernel) (pa_cons (pe_cmpR op_ne (pv 4) (pv 7) (nomark _)) pa_nil)))
              (pa_cons (pe_op op_add (pe_ix ix_list (pe_ix ix_list (pv 2) (pv 3) (fun _ _ => rfl)) (pe_op op_add (pv 6) pe_int) (fun _ _ => rfl)) pe_int)
              (pa_cons (pe_op op_add (pe_ix ix_list (pv 5) (pv 6) (fun _ _ => rfl)) pe_int) pa_nil)))) pa_nil)))))
        (pss_one (ps_expr (pe_bm PySem.F.plainAttrs_list PySem.F.slot_list_append PySem.F.type_list_append mt_append (pv 2) (pa_cons (pv 5) pa_nil)))))))
      (pss_one (ps_ret (pv 2)))), ?_⟩
    have hxl : x.cps.toList.length = x.length := Array.length_toList
    have hyl : y.cps.toList.length = y.length := Array.length_toList
    have hxs : x.cps.size = x.length := rfl
    have hys : y.cps.size = y.length := rfl
    refine ⟨_, rfl, y, rfl, sz _ (by omega), _, _, rfl, rfl, _, rfl, .of_le (by omega) (by omega) (by omega) (by omega), fun q0 hq0 => ⟨sz1, fun p hp => ?_⟩⟩
    have hpn : H p = none := upd_none hp
    have npq : p ≠ q0 := fun z => by rw [z, upd_same] at hp; cases hp
    have t0 : TabAt (upd (upd H q0 (.lst (rgV 0 (((y.length : Nat) : Int) + 1)))) p (.lst [.ref q0])) p x.cps.toList y.cps.toList 1 := by
      refine ⟨[q0], rfl, upd_same, fun i q e => ?_⟩
      cases i with
      | zero =>
        cases e
        rw [upd_ne npq.symm, upd_same]
        unfold rgV rowV
        rw [show (((y.length : Nat) : Int) + 1 - 0).toNat = y.cps.toList.length + 1 by omega]
        refine congrArg some (congrArg HO.lst (List.map_congr_left fun j hj => ?_))
        rw [Md.tab_0 _ _ (by have := List.mem_range.mp hj; omega), Int.zero_add]
      | succ i => simp at e
    have s0 : L2.Same H (upd (upd H q0 (.lst (rgV 0 (((y.length : Nat) : Int) + 1)))) p (.lst [.ref q0])) := sm_upd (sm_upd (L2.Same.refl H) hq0) hpn
    refine ⟨_, rfl, x, rfl, for_enumS (x := x) (fun i σ H' => ∃ v3 v4 v5 v6 v7 : Option V, σ = [some (.str x), some (.str y), some (.ref p), v3, v4, v5, v6, v7] ∧ L2.Same H H' ∧ TabAt H' p x.cps.toList y.cps.toList (i + 1))
      ⟨none, none, none, none, none, rfl, s0, t0⟩ ?_ ?_⟩
    · rintro i c T σ H1 hc ⟨v3, v4, v5, v6, v7, rfl, s1, qs, ql, hqs, hrows⟩ hT
      have hi : i < x.cps.size := (Array.getElem?_eq_some_iff.mp hc).1
      have hcl : x.cps.toList[i]? = some c := by rw [Array.getElem?_toList]; exact hc
      have npT : p ≠ T := ne_of_none hqs hT
      refine ⟨T, _, rfl, SqT.of upd_same, rfl, _, _, rfl, _, _, rfl, rfl, ?_⟩
      refine ⟨_, rfl, _, _, rfl, rfl, sz1, fun r hr => ?_⟩
      have hrT : r ≠ T := fun z => by rw [z, upd_same] at hr; cases hr
      have hr1 : H1 r = none := by rw [upd_ne hrT] at hr; exact hr
      have npr : p ≠ r := ne_of_none hqs hr1
      -- the table's rows stand
      have rows_keep : ∀ {H2 : Hp}, (∀ b o, H1 b = some o → H2 b = some o) → TabAt H2 p x.cps.toList y.cps.toList (i + 1) := fun {H2} kp => ⟨qs, ql, kp _ _ hqs, fun j q e => kp _ _ (hrows j q e)⟩
      have kp0 : ∀ b o, H1 b = some o → upd (upd H1 T (.tup [.int (i : Nat), .str ⟨#[c]⟩])) r (.lst [.int ((i : Nat) + 1)]) b = some o := fun b o e => by
        rw [upd_ne (ne_of_none e hr1), upd_ne (ne_of_none e hT)]; exact e
      have h0r : V.int (((i : Nat) : Int) + 1) = V.int ((Md.tab x.cps.toList y.cps.toList (i + 1) 0 : Nat) : Int) := by
        rw [Md.tab_r0 _ _ (by omega)]; rfl
      refine ⟨_, rfl, y, rfl, for_enumS (x := y) (fun k σ H' => ∃ v6 v7 : Option V, σ = [some (.str x), some (.str y), some (.ref p), some (.int (i : Nat)), some (.str ⟨#[c]⟩), some (.ref r), v6, v7] ∧
          (∀ b o, H1 b = some o → H' b = some o) ∧ H' r = some (.lst (rowV x.cps.toList y.cps.toList (i + 1) k)))
        ⟨v6, v7, rfl, kp0, by rw [upd_same]; show some (HO.lst [V.int (((i : Nat) : Int) + 1)]) = _; rw [h0r]; rfl⟩ ?_ ?_⟩
      · rintro k d T2 σ H2 hd ⟨v6, v7, rfl, kp, hrow⟩ hT2
        have hk : k < y.cps.size := (Array.getElem?_eq_some_iff.mp hd).1
        have hdl : y.cps.toList[k]? = some d := by rw [Array.getElem?_toList]; exact hd
        obtain ⟨q, hq⟩ : ∃ q, qs[i]? = some q := ⟨qs[i], List.getElem?_eq_getElem (by omega)⟩
        have hqm : (qs.map V.ref)[i]? = some (.ref q) := by rw [List.getElem?_map, hq]; rfl
        have nrT2 : r ≠ T2 := ne_of_none hrow hT2
        have up : ∀ {b o}, H1 b = some o → upd H2 T2 (.tup [.int (k : Nat), .str ⟨#[d]⟩]) b = some o := fun {b o} e => by
          have := kp _ _ e
          rw [upd_ne (ne_of_none this hT2)]; exact this
        have hp2 := up hqs
        have hq2 := up (hrows i q hq)
        have hr2 : upd H2 T2 (.tup [.int (k : Nat), .str ⟨#[d]⟩]) r = some (.lst (rowV x.cps.toList y.cps.toList (i + 1) k)) := by rw [upd_ne nrT2]; exact hrow
        have at_row : ∀ i m j, j ≤ m → (rowV x.cps.toList y.cps.toList i m)[j]? = some (.int ((Md.tab x.cps.toList y.cps.toList i j : Nat) : Int)) := fun i m j hj => by
          unfold rowV
          rw [List.getElem?_map, List.getElem?_range (by omega)]; rfl
        refine ⟨T2, _, rfl, SqT.of upd_same, rfl, _, _, rfl, _, _, rfl, rfl, ?_⟩
        refine ⟨_, rfl, .inl ⟨rfl, _, SqL.of hr2⟩, ?_⟩
        refine ⟨_, rfl, _, rfl, p, _, _, _, rfl, rfl, SqL.of hp2, atI_nat hqm, _, rfl, q, _, _, _, rfl, rfl, SqL.of hq2, atI_nat (at_row i _ k (by omega)), _, rfl, _, rfl, rfl, .inr ⟨_, rfl, _, _, rfl, rfl, ?_⟩⟩
        refine ⟨_, rfl, _, rfl, p, _, _, _, rfl, rfl, SqL.of hp2, atI_nat hqm, _, rfl, _, _, rfl, rfl, q, _, _, _, rfl, rfl, SqL.of hq2, at_of (j := k + 1) (by omega) (at_row i _ (k + 1) (by omega)), _, _, rfl, rfl, ?_⟩
        refine ⟨_, rfl, _, rfl, r, _, _, _, rfl, rfl, SqL.of hr2, atI_nat (at_row (i + 1) k k (Nat.le_refl _)), _, _, rfl, rfl, _, _, _, _, rfl, nuMin3_int _ _ _, r, _, _, rfl, rfl, hr2, ?_, ?_⟩
        · rw [show (rowV x.cps.toList y.cps.toList (i + 1) k).length = k + 1 by unfold rowV; simp]
          exact szlt _ (by omega)
        · refine ⟨_, _, rfl, fun b o e => ?_, ?_⟩
          · rw [upd_ne (fun z => by rw [z] at e; rw [hr1] at e; cases e)]; exact up e
          · rw [upd_same]
            have e1 : rowV x.cps.toList y.cps.toList (i + 1) (k + 1) = rowV x.cps.toList y.cps.toList (i + 1) k ++ [V.int ((Md.tab x.cps.toList y.cps.toList (i + 1) (k + 1) : Nat) : Int)] := by
              unfold rowV
              rw [List.range_succ (n := k + 1), List.map_append]; rfl
            rw [e1, Md.tab_ss hcl hdl]
            refine congrArg (fun z => some (HO.lst (rowV x.cps.toList y.cps.toList (i + 1) k ++ [V.int z]))) ?_
            have e2 : ((if (!decide (V.str (⟨#[c]⟩ : Str) = V.str ⟨#[d]⟩)) = true then 1 else 0 : Int)) = ((Md.neq c d : Nat) : Int) := by
              unfold Md.neq
              by_cases z : c = d
              · subst z; simp
              · have z' : ¬ (V.str (⟨#[c]⟩ : Str) = V.str ⟨#[d]⟩) := fun e => z (by injection e with e; injection e with e; simpa using e)
                rw [if_neg z, decide_eq_false z']; rfl
            rw [e2]
            omega
      · rintro σ H2 ⟨v6, v7, rfl, kp, hrow⟩
        have hp2 := kp _ _ hqs
        refine ⟨_, rfl, .inl ⟨rfl, _, SqL.of hp2⟩, _, rfl, p, _, _, rfl, rfl, hp2, ?_, ?_⟩
        · rw [List.length_map, ql]; exact szlt _ (by omega)
        · refine ⟨_, _, _, _, _, rfl, ?_, qs ++ [r], by rw [List.length_append, ql]; rfl, ?_, fun j q e => ?_⟩
          · intro b o e
            rw [upd_ne (ne_of_none e hpn)]; exact kp _ _ (s1 _ _ e)
          · rw [upd_same, List.map_append]; rfl
          · rcases Nat.lt_or_ge j qs.length with hj | hj
            · rw [List.getElem?_append_left hj] at e
              have hqp : q ≠ p := ne_of (hrows j q e) hqs (fun z => by
                injection z with z
                have hl := congrArg List.length z
                unfold rowV at hl
                rw [List.length_map, List.length_range, List.length_map, ql] at hl
                have := congrArg (fun l : List V => l[0]?) z
                unfold rowV at this
                rw [List.getElem?_map, List.getElem?_map, List.getElem?_range (by omega)] at this
                cases h0 : qs[0]? with
                | none => rw [h0] at this; cases this
                | some a => rw [h0] at this; cases this)
              rw [upd_ne hqp]; exact kp _ _ (hrows j q e)
            · rw [List.getElem?_append_right hj] at e
              have hj0 : j - qs.length = 0 := by
                rcases Nat.eq_zero_or_pos (j - qs.length) with z | z
                · exact z
                · rw [List.getElem?_eq_none (by simp only [List.length_singleton]; omega)] at e; cases e
              rw [hj0] at e
              cases e
              rw [upd_ne npr.symm, hrow, show j = i + 1 by omega]
              rfl
    · rintro σ H1 ⟨v3, v4, v5, v6, v7, rfl, s1, t1⟩
      exact ⟨_, rfl, k _ _ s1 hpn t1⟩
end
end Ms
end TextD1
section TextD2
set_option linter.all false
set_option maxRecDepth 100000
namespace Ms
open PySem PySem.Spec PyProof.Rows L2
/-- an if whose test is a known bool, whatever way it is reckoned -/
theorem if_test {tc : TT} {t u : TS} {D : Ends} {σ : L2.St} {H : Hp} (b : Bool) (h : ∀ Q : Bool → Hp → Prop, Q b H → tc σ H Q) (h1 : b = true → t D σ H) (h2 : b = false → u D σ H) : tIfS tc t u D σ H := by
  refine h _ ?_
  cases b with
  | true => exact iteT (h1 rfl)
  | false => exact iteF (h2 rfl)
/-- a while's turn whose test is a known bool -/
theorem wh_turn {c : TT} {tb : TS} {D : Ends} {σ : L2.St} {H : Hp} {W : Nat → L2.St → Hp → Prop} {m : Nat} (b : Bool) (h : ∀ Q : Bool → Hp → Prop, Q b H → c σ H Q)
    (h1 : b = true → tb { D with nx := fun σ' H' => ∃ m', m' < m ∧ W m' σ' H', ct := fun σ' H' => ∃ m', m' < m ∧ W m' σ' H', bk := D.nx } σ H) (h2 : b = false → D.nx σ H) :
    c σ H fun b H1 => if b = true then ∃ N : L2.St → Hp → Prop, (∀ σ' H', N σ' H' → ∃ m', m' < m ∧ W m' σ' H') ∧ tb { D with nx := N, ct := N, bk := D.nx } σ H1 else D.nx σ H1 := by
  refine h _ ?_
  cases b with
  | true => exact iteT ⟨_, fun _ _ z => z, h1 rfl⟩
  | false => exact iteF (h2 rfl)
/-! ### change_count -/
def spCount : Sp := fun vs H Q _ => ∃ x y : Str, vs = [.str x, .str y] ∧ x.length ≤ 1000 ∧ y.length ≤ 1000 ∧
  ∀ H', L2.Same H H' → Q (.int ((Md.dist x.cps.toList y.cps.toList : Nat) : Int)) H'
theorem at_last' {α : Type} {xs : List α} {v : α} {n : Nat} (hn : xs.length = n + 1) (h : xs[n]? = some v) : atI xs (-1) = some v := by
  have hne : xs ≠ [] := fun z => by rw [z] at hn; cases hn
  have e := List.dropLast_concat_getLast hne
  have hv : xs.getLast hne = v := by
    rw [List.getLast_eq_getElem]
    have : xs[xs.length - 1]? = some v := by rw [hn]; exact h
    rw [List.getElem?_eq_getElem (by omega)] at this
    exact Option.some.inj this
  rw [← e, hv]
  exact atI_last _ _
theorem rowV_len (a b : List Nat) (i k : Nat) : (rowV a b i k).length = k + 1 := by unfold rowV; simp
theorem rowV_at (a b : List Nat) (i m j : Nat) (hj : j ≤ m) : (rowV a b i m)[j]? = some (.int ((Md.tab a b i j : Nat) : Int)) := by
  unfold rowV
  rw [List.getElem?_map, List.getElem?_range (by omega)]; rfl
section
variable {P : Program} {w : World} {K : PySem.W.Frag} {mg : Str → Option Value} {base : Heap}
theorem scCount : FnScope ["first", "second"] ["first", "second"] (defScope sChCount) := ⟨rfl, rfl, rfl, by decide +kernel, rfl, by decide +kernel, by decide +kernel⟩
theorem ok_count {f fR : Addr} {fd fdR : FuncData} (F : Fun K "change_count" "change_count" sChCount f fd) (D_rows : Df K mg "change_rows" sChRows ["first", "second"] fR fdR) (G_rows : FnOk P w K mg base CX0 1 fR fdR ["first", "second"] spRows) :
    FnOk P w K mg base CX0 2 f fd ["first", "second"] spCount := by
  refine F.ok scCount (fun vs H Q E h => ?_) (fun cdv A outer s H vs Q E hr h => ?_)
  · obtain ⟨x, y, rfl, _⟩ := h
    rfl
  · obtain ⟨x, y, rfl, hx, hy, k⟩ := h
    refine ⟨_, pss_one (ps_ret (pe_ix ix_list (pe_ix ix_list (pe_call G_rows hr (by rfl) D_rows.g D_rows.F.kp D_rows.b .nil pass0 (pa_cons (pv 0) (pa_cons (pv 1) pa_nil))) (pe_un un_neg pe_int) (fun _ _ => rfl)) (pe_un un_neg pe_int) (fun _ _ => rfl))), ?_⟩
    have hxl : x.cps.toList.length = x.length := Array.length_toList
    have hyl : y.cps.toList.length = y.length := Array.length_toList
    refine ⟨_, rfl, _, rfl, x, y, rfl, hx, hy, fun H1 p s1 hp ⟨qs, ql, hqs, hrows⟩ => ?_⟩
    obtain ⟨q, hq⟩ : ∃ q, qs[x.length]? = some q := ⟨qs[x.length], List.getElem?_eq_getElem (by omega)⟩
    have hqm : (qs.map V.ref)[x.length]? = some (.ref q) := by rw [List.getElem?_map, hq]; rfl
    refine ⟨_, rfl, p, _, _, _, rfl, rfl, SqL.of hqs, at_last' (by rw [List.length_map, ql]) hqm, _, rfl, q, _, _, _, rfl, rfl, SqL.of (hrows _ _ hq), at_last' (rowV_len _ _ _ _) (rowV_at _ _ _ _ _ (Nat.le_refl _)), ?_⟩
    rw [← hxl, Md.tab_all]
    exact k _ s1
/-! ### joined -/
/-- v is the mend m -/
def mvV (m : Md.Mv) : List V := [.int (m.1 : Nat), .int (m.2.length : Nat), .str ⟨m.2.toArray⟩]
def HasMv (H : Hp) (v : V) (m : Md.Mv) : Prop := ∃ p, v = .ref p ∧ H p = some (.tup (mvV m))
theorem HasMv.same {H H' : Hp} {v : V} {m : Md.Mv} (h : HasMv H v m) (s : L2.Same H H') : HasMv H' v m := let ⟨p, e, q⟩ := h; ⟨p, e, s _ _ q⟩
def spJoined : Sp := fun vs H Q _ => ∃ (u v : V) (a b : Md.Mv), vs = [u, v] ∧ HasMv H u a ∧ HasMv H v b ∧ a.2.length ≤ 500000 ∧ b.2.length ≤ 500000 ∧
  ∀ H' p, L2.Same H H' → H p = none → H' p = some (.tup (mvV (Md.join a b))) → Q (.ref p) H'
theorem scJoined : FnScope ["first", "second"] ["first", "second"] (defScope sJoined) := ⟨rfl, rfl, rfl, by decide +kernel, rfl, by decide +kernel, by decide +kernel⟩
theorem ok_joined {f : Addr} {fd : FuncData} (F : Fun K "joined" "joined" sJoined f fd) : FnOk P w K mg base CX0 1 f fd ["first", "second"] spJoined := by
  refine F.ok scJoined (fun vs H Q E h => ?_) (fun cdv A outer s H vs Q E hr h => ?_)
  · obtain ⟨u, v, a, b, rfl, _⟩ := h
    rfl
  · obtain ⟨u, v, a, b, rfl, ⟨pa, rfl, ha⟩, ⟨pb, rfl, hb⟩, la, lb, k⟩ := h
    refine ⟨_, pss_one (ps_ret (pe_tup (pa_cons (pe_op op_add (pe_ix ix_tup (pv 0) pe_int (fun _ _ => rfl)) (pe_ix ix_tup (pv 1) pe_int (fun _ _ => rfl)))
      (pa_cons (pe_op op_add (pe_ix ix_tup (pv 0) pe_int (fun _ _ => rfl)) (pe_ix ix_tup (pv 1) pe_int (fun _ _ => rfl)))
      (pa_cons (pe_op op_add_str (pe_ix ix_tup (pv 0) pe_int (fun _ _ => rfl)) (pe_ix ix_tup (pv 1) pe_int (fun _ _ => rfl))) pa_nil))))), ?_⟩
    refine ⟨_, rfl, pa, _, _, _, rfl, rfl, SqT.of ha, rfl, _, rfl, pb, _, _, _, rfl, rfl, SqT.of hb, rfl, _, _, rfl, rfl, ?_⟩
    refine ⟨_, rfl, pa, _, _, _, rfl, rfl, SqT.of ha, rfl, _, rfl, pb, _, _, _, rfl, rfl, SqT.of hb, rfl, _, _, rfl, rfl, ?_⟩
    refine ⟨_, rfl, pa, _, _, _, rfl, rfl, SqT.of ha, rfl, _, rfl, pb, _, _, _, rfl, rfl, SqT.of hb, rfl, _, _, rfl, rfl, ?_, sz3, fun p hp => ?_⟩
    · show a.2.toArray.size + b.2.toArray.size ≤ sizeLine
      rw [List.size_toArray, List.size_toArray]
      exact sz _ (by omega)
    · refine k _ p (sm_new (L2.Same.refl H) hp) hp ?_
      rw [upd_same]
      unfold mvV Md.join
      have e3 : (⟨a.2.toArray⟩ : Str) ++ (⟨b.2.toArray⟩ : Str) = ⟨(a.2 ++ b.2).toArray⟩ := by
        show (⟨a.2.toArray ++ b.2.toArray⟩ : Str) = _
        rw [List.append_toArray]
      simp only [List.length_append]
      rw [e3]
      rfl
/-! ### changes -/
def edV (e : Md.Ed) : List V := [.int (e.1 : Nat), .int (e.2.1 : Nat), .str ⟨e.2.2.toArray⟩]
/-- a list of changes at p -/
def EdsAt (H : Hp) (p : Addr) (E : List Md.Ed) : Prop := ∃ L : List (Addr × Md.Ed), L.map (·.2) = E ∧ H p = some (.lst (L.map fun q => V.ref q.1)) ∧ ∀ q ∈ L, H q.1 = some (.tup (edV q.2))
def spChanges : Sp := fun vs H Q _ => ∃ x y : Str, vs = [.str x, .str y] ∧ x.length ≤ 1000 ∧ y.length ≤ 1000 ∧
  ∀ H' p E, L2.Same H H' → H p = none → EdsAt H' p E → Md.Leads x.cps.toList 0 E y.cps.toList → E.length = Md.dist x.cps.toList y.cps.toList → Q (.ref p) H'
/-- the way back, m steps at most ahead -/
def ChW (x y : Str) (pr pf : Addr) (H1 : Hp) (m : Nat) (σ : L2.St) (H' : Hp) : Prop :=
  ∃ (i k : Nat) (L : List (Addr × Md.Ed)), σ = [some (.str x), some (.str y), some (.ref pr), some (.int (i : Nat)), some (.int (k : Nat)), some (.ref pf)] ∧ m = i + k ∧ (∀ b o, H1 b = some o → H' b = some o) ∧
    H' pf = some (.lst (L.map fun q => V.ref q.1)) ∧ (∀ q ∈ L, H' q.1 = some (.tup (edV q.2))) ∧ Md.Back x.cps.toList y.cps.toList i k (L.map (·.2)).reverse
theorem at_pred {α : Type} {xs : List α} {i : Nat} {v : α} (h : xs[i]? = some v) : atI xs (((i + 1 : Nat) : Int) - 1) = some v := by
  rw [show (((i + 1 : Nat) : Int) - 1) = (i : Int) by omega]; exact atI_nat h
theorem at_succ {α : Type} {xs : List α} {i : Nat} {v : α} (h : xs[i + 1]? = some v) : atI xs ((i : Int) + 1) = some v := by
  rw [show ((i : Int) + 1) = ((i + 1 : Nat) : Int) by omega]; exact atI_nat h
theorem pred_v (i : Nat) : V.int (((i + 1 : Nat) : Int) - 1) = V.int (i : Nat) := by
  rw [show (((i + 1 : Nat) : Int) - 1) = (i : Int) by omega]
theorem scChanges : FnScope ["first", "second", "rows", "at", "k", "found"] ["first", "second"] (defScope sChanges) := ⟨rfl, rfl, rfl, by decide +kernel, rfl, by decide +kernel, by decide +kernel⟩
theorem ok_changes {f fR : Addr} {fd fdR : FuncData} (F : Fun K "changes" "changes" sChanges f fd) (T : Bi mg) (D_rows : Df K mg "change_rows" sChRows ["first", "second"] fR fdR) (G_rows : FnOk P w K mg base CX0 1 fR fdR ["first", "second"] spRows) :
    FnOk P w K mg base CX0 2 f fd ["first", "second"] spChanges := by
  refine F.ok scChanges (fun vs H Q E h => ?_) (fun cdv A outer s H vs Q E hr h => ?_)
  · obtain ⟨x, y, rfl, _⟩ := h
    rfl
  · obtain ⟨x, y, rfl, hx, hy, k⟩ := h
    refine ⟨_, (pss_cons (ps_set (i := 2) scChanges.nd rfl (Or.inl rfl) (pe_call G_rows (hr.mono (by decide)) (by rfl) D_rows.g D_rows.F.kp D_rows.b .nil pass0 (pa_cons (pv 0) (pa_cons (pv 1) pa_nil))))
    (pss_cons (ps_par (i := 3) (j := 4) (by rfl) scChanges.nd rfl rfl (by decide) rfl rfl (pa_cons (pe_callB call_len_str (by rfl) T.len PySem.boot_len (pa_cons (pv 0) pa_nil)) (pa_cons (pe_callB call_len_str (by rfl) T.len PySem.boot_len (pa_cons (pv 1) pa_nil)) pa_nil)) (by rfl))
    (pss_cons (ps_set (i := 5) scChanges.nd rfl (Or.inl rfl) (pe_lst pa_nil))
    (pss_cons (ps_while PassesOwn.never (PW.pt (pw_or (pt_cmpR op_gt (pv 3) pe_int (nomark _)) (pw_or1 (pt_cmpR op_gt (pv 4) pe_int (nomark _)))))
      (pss_one (ps_if (PW.pt (pw_and (pt_cmpR op_gt (pv 3) pe_int (nomark _)) (pw_and (pt_cmpR op_gt (pv 4) pe_int (nomark _)) (pw_and (pt_cmpR op_eq (pe_ix ix_str (pv 0) (pe_op op_sub (pv 3) pe_int) (fun _ _ => rfl)) (pe_ix ix_str (pv 1) (pe_op op_sub (pv 4) pe_int) (fun _ _ => rfl)) (nomark _)) (pw_and1 (pt_cmpR op_eq (pe_ix ix_list (pe_ix ix_list (pv 2) (pv 3) (fun _ _ => rfl)) (pv 4) (fun _ _ => rfl)) (pe_ix ix_list (pe_ix ix_list (pv 2) (pe_op op_sub (pv 3) pe_int) (fun _ _ => rfl)) (pe_op op_sub (pv 4) pe_int) (fun _ _ => rfl)) (nomark _)))))))
        (pss_one (ps_par (i := 3) (j := 4) (by rfl) scChanges.nd rfl rfl (by decide) rfl rfl (pa_cons (pe_op op_sub (pv 3) pe_int) (pa_cons (pe_op op_sub (pv 4) pe_int) pa_nil)) (by rfl)))
        (pss_one (ps_if (PW.pt (pw_and (pt_cmpR op_gt (pv 3) pe_int (nomark _)) (pw_and (pt_cmpR op_gt (pv 4) pe_int (nomark _)) (pw_and1 (pt_cmpR op_eq (pe_ix ix_list (pe_ix ix_list (pv 2) (pv 3) (fun _ _ => rfl)) (pv 4) (fun _ _ => rfl)) (pe_op op_add (pe_ix ix_list (pe_ix ix_list (pv 2) (pe_op op_sub (pv 3) pe_int) (fun _ _ => rfl)) (pe_op op_sub (pv 4) pe_int) (fun _ _ => rfl)) pe_int) (nomark _))))))
          (pss_cons (ps_par (i := 3) (j := 4) (by rfl) scChanges.nd rfl rfl (by decide) rfl rfl (pa_cons (pe_op op_sub (pv 3) pe_int) (pa_cons (pe_op op_sub (pv 4) pe_int) pa_nil)) (by rfl))
          (pss_one (ps_expr (pe_bm PySem.F.plainAttrs_list PySem.F.slot_list_append PySem.F.type_list_append mt_append (pv 5) (pa_cons (pe_tup (pa_cons (pv 3) (pa_cons pe_int (pa_cons (pe_ix ix_str (pv 1) (pv 4) (fun _ _ => rfl)) pa_nil)))) pa_nil)))))
          (pss_one (ps_if (PW.pt (pw_and (pt_cmpR op_gt (pv 3) pe_int (nomark _)) (pw_and1 (pt_cmpR op_eq (pe_ix ix_list (pe_ix ix_list (pv 2) (pv 3) (fun _ _ => rfl)) (pv 4) (fun _ _ => rfl)) (pe_op op_add (pe_ix ix_list (pe_ix ix_list (pv 2) (pe_op op_sub (pv 3) pe_int) (fun _ _ => rfl)) (pv 4) (fun _ _ => rfl)) pe_int) (nomark _)))))
            (pss_cons (ps_set (i := 3) scChanges.nd rfl (Or.inl rfl) (pe_op op_sub (pv 3) pe_int))
            (pss_one (ps_expr (pe_bm PySem.F.plainAttrs_list PySem.F.slot_list_append PySem.F.type_list_append mt_append (pv 5) (pa_cons (pe_tup (pa_cons (pv 3) (pa_cons pe_int (pa_cons pe_str pa_nil)))) pa_nil)))))
            (pss_cons (ps_set (i := 4) scChanges.nd rfl (Or.inl rfl) (pe_op op_sub (pv 4) pe_int))
            (pss_one (ps_expr (pe_bm PySem.F.plainAttrs_list PySem.F.slot_list_append PySem.F.type_list_append mt_append (pv 5) (pa_cons (pe_tup (pa_cons (pv 3) (pa_cons pe_int (pa_cons (pe_ix ix_str (pv 1) (pv 4) (fun _ _ => rfl)) pa_nil)))) pa_nil))))))))))))
    (pss_one (ps_ret (pe_revL (pv 5)))))))), ?_⟩
    have hxl : x.cps.toList.length = x.length := Array.length_toList
    have hyl : y.cps.toList.length = y.length := Array.length_toList
    refine ⟨_, rfl, _, rfl, x, y, rfl, hx, hy, fun H1 pr s1 hpr ⟨qs, ql, hqs, hrows⟩ => ?_⟩
    refine ⟨_, rfl, x, rfl, sz _ (by omega), _, rfl, y, rfl, sz _ (by omega), _, _, rfl, sz0, fun pf hpf => ?_⟩
    have hpf0 : H pf = none := s1.free hpf
    let a := x.cps.toList
    let b := y.cps.toList
    have row : ∀ i k, i ≤ x.length → k ≤ y.length → ∃ q, (qs.map V.ref)[i]? = some (.ref q) ∧ H1 q = some (.lst (rowV a b i b.length)) ∧ (rowV a b i b.length)[k]? = some (.int ((Md.tab a b i k : Nat) : Int)) := fun i k hi hk => by
      obtain ⟨q, hq⟩ : ∃ q, qs[i]? = some q := ⟨qs[i], List.getElem?_eq_getElem (by omega)⟩
      exact ⟨q, by rw [List.getElem?_map, hq]; rfl, hrows _ _ hq, rowV_at _ _ _ _ _ (by show k ≤ y.cps.toList.length; omega)⟩
    refine ⟨ChW x y pr pf H1, ⟨_, x.length, y.length, [], rfl, rfl, fun b o e => by rw [upd_ne (ne_of_none e hpf)]; exact e, upd_same, (fun q hq => by cases hq), by
        have := Md.Back.start a b
        rw [hxl, hyl] at this
        exact this⟩, ?_⟩
    rintro m σ H2 ⟨i, k', L, rfl, rfl, kp, hf, hL, bk⟩
    have hi : i ≤ x.length := by rw [← hxl]; exact bk.i_le
    have hk' : k' ≤ y.length := by rw [← hyl]; exact bk.k_le
    have hrw : H2 pr = some (.lst (qs.map V.ref)) := kp _ _ hqs
    have hLn : L.length ≤ 1000000 := by
      have h1 : (L.map (·.2)).reverse.length + Md.tab a b i k' = Md.dist a b := bk.num
      have h3 : Md.dist a b ≤ x.length + y.length := Md.dist_le (n := x.length + y.length) (by
        have := (Md.al_nilr a).append (Md.al_nill b)
        rw [List.append_nil, List.nil_append] at this
        rw [← hxl, ← hyl]
        exact this)
      rw [List.length_reverse, List.length_map] at h1
      omega
    -- one more change
    have more : ∀ (e : Md.Ed) (i2 k2 : Nat) (T : Addr), i2 + k2 < i + k' → H2 T = none → Md.Back a b i2 k2 (e :: (L.map (·.2)).reverse) →
        ∃ m', m' < i + k' ∧ ChW x y pr pf H1 m' [some (.str x), some (.str y), some (.ref pr), some (.int (i2 : Nat)), some (.int (k2 : Nat)), some (.ref pf)]
          (upd (upd H2 T (.tup (edV e))) pf (.lst ((L.map fun q => V.ref q.1) ++ [V.ref T]))) := fun e i2 k2 T hlt hT B => by
      refine ⟨_, hlt, i2, k2, L ++ [(T, e)], rfl, rfl, fun b o q => ?_, by rw [upd_same, List.map_append]; rfl, fun q hq => ?_, by rw [List.map_append, List.reverse_append]; exact B⟩
      · rw [upd_ne (ne_of_none q hpf), upd_ne (ne_of_none (kp _ _ q) hT)]; exact kp _ _ q
      · have npT : pf ≠ T := ne_of_none hf hT
        rcases List.mem_append.mp hq with hq | hq
        · have := hL q hq
          rw [upd_ne (ne_of this hf (by intro z; cases z)), upd_ne (ne_of_none this hT)]
          exact this
        · obtain rfl := List.mem_singleton.mp hq
          rw [upd_ne npT.symm, upd_same]
    have app : ∀ {T : Addr} {o : HO}, H2 T = none → upd H2 T o pf = some (.lst (L.map fun q => V.ref q.1)) := fun hT => by rw [upd_ne (ne_of_none hf hT)]; exact hf
    have lsz : (L.map fun q => V.ref q.1).length < sizeLine := by rw [List.length_map]; exact szlt _ (by omega)
    refine wh_turn (decide (0 < i ∨ 0 < k')) (fun Q' hq => ?_) (fun hb => ?_) (fun hb => ?_)
    · refine ⟨_, rfl, _, _, rfl, rfl, _, rfl, ite2 (fun e1 => ?_) (fun e1 => ⟨_, rfl, _, _, rfl, rfl, _, rfl, ?_⟩)⟩
      · have := of_decide_eq_true e1
        rw [decide_eq_true (by omega)] at hq
        exact hq
      · have e1' : ¬ (0 : Int) < (i : Nat) := fun z => e1 (decide_eq_true z)
        have : decide (0 < i ∨ 0 < k') = decide ((0 : Int) < (k' : Nat)) := by congr 1; apply propext; constructor <;> intro z <;> omega
        rw [this] at hq
        exact hq
    · have hb := of_decide_eq_true hb
      -- the first branch
      refine if_test (decide (0 < i ∧ 0 < k' ∧ a[i - 1]? = b[k' - 1]? ∧ Md.tab a b i k' = Md.tab a b (i - 1) (k' - 1))) (fun Q' hq => ?_) (fun h1 => ?_) (fun h1 => ?_)
      · refine ⟨_, rfl, _, _, rfl, rfl, _, rfl, ite2 (fun e1 => ⟨_, rfl, _, _, rfl, rfl, _, rfl, ite2 (fun e2 => ?_) (fun e2 => ?_)⟩) (fun e1 => ?_)⟩
        · have e1 := of_decide_eq_true e1
          have e2 := of_decide_eq_true e2
          obtain ⟨i, rfl⟩ : ∃ j, i = j + 1 := ⟨i - 1, by omega⟩
          obtain ⟨k', rfl⟩ : ∃ j, k' = j + 1 := ⟨k' - 1, by omega⟩
          obtain ⟨c, hc⟩ : ∃ c, a[i]? = some c := ⟨_, List.getElem?_eq_getElem (by show i < x.cps.toList.length; omega)⟩
          obtain ⟨d, hd⟩ : ∃ d, b[k']? = some d := ⟨_, List.getElem?_eq_getElem (by show k' < y.cps.toList.length; omega)⟩
          obtain ⟨q1, r1, r2, r3⟩ := row (i + 1) (k' + 1) (by omega) (by omega)
          obtain ⟨q2, u1, u2, u3⟩ := row i k' (by omega) (by omega)
          refine ⟨_, rfl, _, rfl, _, _, rfl, rfl, x, _, c, rfl, rfl, sz _ (by omega), at_pred hc, _, rfl, _, rfl, _, _, rfl, rfl, y, _, d, rfl, rfl, sz _ (by omega), at_pred hd, rfl, _, rfl, ?_⟩
          simp only [Nat.add_sub_cancel, hc, hd] at hq
          refine ite2 (fun e3 => ?_) (fun e3 => ?_)
          · have e3 := of_decide_eq_true e3
            have ecd : c = d := by injection e3 with e3; injection e3 with e3; simpa using e3
            refine ⟨_, rfl, _, rfl, pr, _, _, _, rfl, rfl, SqL.of hrw, atI_nat r1, _, rfl, q1, _, _, _, rfl, rfl, SqL.of (kp _ _ r2), atI_nat r3,
              _, rfl, _, rfl, _, _, rfl, rfl, pr, _, _, _, rfl, rfl, SqL.of hrw, at_pred u1, _, rfl, _, _, rfl, rfl, q2, _, _, _, rfl, rfl, SqL.of (kp _ _ u2), at_pred u3, rfl, _, rfl, ?_⟩
            have e4 : decide (0 < i + 1 ∧ 0 < k' + 1 ∧ some c = some d ∧ Md.tab a b (i + 1) (k' + 1) = Md.tab a b i k') = decide (V.int ((Md.tab a b (i + 1) (k' + 1) : Nat) : Int) = V.int ((Md.tab a b i k' : Nat) : Int)) := by
              congr 1; apply propext; constructor
              · rintro ⟨_, _, _, z⟩; rw [z]
              · intro z; injection z with z; exact ⟨by omega, by omega, by rw [ecd], by omega⟩
            rw [e4] at hq
            exact hq
          · rw [decide_eq_false (fun z => e3 (decide_eq_true (by have := Option.some.inj z.2.2.1; rw [this])))] at hq
            exact hq
        · rw [decide_eq_false (fun z => e2 (decide_eq_true (by have := z.2.1; omega)))] at hq
          exact hq
        · rw [decide_eq_false (fun z => e1 (decide_eq_true (by have := z.1; omega)))] at hq
          exact hq
      · obtain ⟨c1, c2, c3, c4⟩ := of_decide_eq_true h1
        obtain ⟨i, rfl⟩ : ∃ j, i = j + 1 := ⟨i - 1, by omega⟩
        obtain ⟨k', rfl⟩ : ∃ j, k' = j + 1 := ⟨k' - 1, by omega⟩
        simp only [Nat.add_sub_cancel] at c3 c4
        obtain ⟨c, hc⟩ : ∃ c, a[i]? = some c := ⟨_, List.getElem?_eq_getElem (by show i < x.cps.toList.length; omega)⟩
        refine ⟨_, rfl, _, _, rfl, rfl, _, rfl, _, _, rfl, rfl, _, _, rfl, i + k', by omega, i, k', L, ?_, rfl, kp, hf, hL, bk.keep hc (by rw [← c3]; exact hc) rfl c4⟩
        show ([some (.str x), some (.str y), some (.ref pr), some (.int (((i + 1 : Nat) : Int) - 1)), some (.int (((k' + 1 : Nat) : Int) - 1)), some (.ref pf)] : L2.St) = _
        rw [pred_v, pred_v]
      · have h1 := of_decide_eq_false h1
        refine if_test (decide (0 < i ∧ 0 < k' ∧ Md.tab a b i k' = Md.tab a b (i - 1) (k' - 1) + 1)) (fun Q' hq => ?_) (fun h2 => ?_) (fun h2 => ?_)
        · refine ⟨_, rfl, _, _, rfl, rfl, _, rfl, ite2 (fun e1 => ⟨_, rfl, _, _, rfl, rfl, _, rfl, ite2 (fun e2 => ?_) (fun e2 => ?_)⟩) (fun e1 => ?_)⟩
          · have e1 := of_decide_eq_true e1
            have e2 := of_decide_eq_true e2
            obtain ⟨i, rfl⟩ : ∃ j, i = j + 1 := ⟨i - 1, by omega⟩
            obtain ⟨k', rfl⟩ : ∃ j, k' = j + 1 := ⟨k' - 1, by omega⟩
            obtain ⟨q1, r1, r2, r3⟩ := row (i + 1) (k' + 1) (by omega) (by omega)
            obtain ⟨q2, u1, u2, u3⟩ := row i k' (by omega) (by omega)
            simp only [Nat.add_sub_cancel] at hq
            refine ⟨_, rfl, _, rfl, pr, _, _, _, rfl, rfl, SqL.of hrw, atI_nat r1, _, rfl, q1, _, _, _, rfl, rfl, SqL.of (kp _ _ r2), atI_nat r3,
              _, rfl, _, rfl, _, _, rfl, rfl, pr, _, _, _, rfl, rfl, SqL.of hrw, at_pred u1, _, rfl, _, _, rfl, rfl, q2, _, _, _, rfl, rfl, SqL.of (kp _ _ u2), at_pred u3, _, _, rfl, rfl, rfl, _, rfl, ?_⟩
            have e4 : decide (0 < i + 1 ∧ 0 < k' + 1 ∧ Md.tab a b (i + 1) (k' + 1) = Md.tab a b i k' + 1) = decide (V.int ((Md.tab a b (i + 1) (k' + 1) : Nat) : Int) = V.int (((Md.tab a b i k' : Nat) : Int) + 1)) := by
              congr 1; apply propext; constructor
              · rintro ⟨_, _, z⟩; rw [z]; rfl
              · intro z; injection z with z; exact ⟨by omega, by omega, by omega⟩
            rw [e4] at hq
            exact hq
          · rw [decide_eq_false (fun z => e2 (decide_eq_true (by have := z.2.1; omega)))] at hq
            exact hq
          · rw [decide_eq_false (fun z => e1 (decide_eq_true (by have := z.1; omega)))] at hq
            exact hq
        · obtain ⟨c1, c2, c3⟩ := of_decide_eq_true h2
          obtain ⟨i, rfl⟩ : ∃ j, i = j + 1 := ⟨i - 1, by omega⟩
          obtain ⟨k', rfl⟩ : ∃ j, k' = j + 1 := ⟨k' - 1, by omega⟩
          simp only [Nat.add_sub_cancel] at c3
          obtain ⟨d, hd⟩ : ∃ d, b[k']? = some d := ⟨_, List.getElem?_eq_getElem (by show k' < y.cps.toList.length; omega)⟩
          refine ⟨_, rfl, _, _, rfl, rfl, _, rfl, _, _, rfl, rfl, _, _, rfl, _, rfl, .inl ⟨rfl, _, SqL.of hf⟩, _, rfl, _, rfl, _, rfl, y, _, d, rfl, rfl, sz _ (by omega), at_pred hd, sz3, fun T hT => ⟨pf, _, _, rfl, rfl, app hT, lsz, ?_⟩⟩
          have := more (i, 1, [d]) i k' T (by omega) hT (bk.sub hd c3)
          rw [← pred_v i, ← pred_v k'] at this
          show ∃ m', m' < _ ∧ ChW x y pr pf H1 m' [some (.str x), some (.str y), some (.ref pr), some (.int (((i + 1 : Nat) : Int) - 1)), some (.int (((k' + 1 : Nat) : Int) - 1)), some (.ref pf)]
            (upd (upd H2 T (.tup [.int (((i + 1 : Nat) : Int) - 1), .int 1, .str ⟨#[d]⟩])) pf (.lst ((L.map fun q => V.ref q.1) ++ [V.ref T])))
          have e5 : ([.int (((i + 1 : Nat) : Int) - 1), .int 1, .str ⟨#[d]⟩] : List V) = edV (i, 1, [d]) := by rw [pred_v]; rfl
          rw [e5]
          exact this
        · have h2 := of_decide_eq_false h2
          refine if_test (decide (0 < i ∧ Md.tab a b i k' = Md.tab a b (i - 1) k' + 1)) (fun Q' hq => ?_) (fun h3 => ?_) (fun h3 => ?_)
          · refine ⟨_, rfl, _, _, rfl, rfl, _, rfl, ite2 (fun e1 => ?_) (fun e1 => ?_)⟩
            · have e1 := of_decide_eq_true e1
              obtain ⟨i, rfl⟩ : ∃ j, i = j + 1 := ⟨i - 1, by omega⟩
              obtain ⟨q1, r1, r2, r3⟩ := row (i + 1) k' (by omega) (by omega)
              obtain ⟨q2, u1, u2, u3⟩ := row i k' (by omega) (by omega)
              simp only [Nat.add_sub_cancel] at hq
              refine ⟨_, rfl, _, rfl, pr, _, _, _, rfl, rfl, SqL.of hrw, atI_nat r1, _, rfl, q1, _, _, _, rfl, rfl, SqL.of (kp _ _ r2), atI_nat r3,
                _, rfl, _, rfl, _, _, rfl, rfl, pr, _, _, _, rfl, rfl, SqL.of hrw, at_pred u1, _, rfl, q2, _, _, _, rfl, rfl, SqL.of (kp _ _ u2), atI_nat u3, _, _, rfl, rfl, rfl, _, rfl, ?_⟩
              have e4 : decide (0 < i + 1 ∧ Md.tab a b (i + 1) k' = Md.tab a b i k' + 1) = decide (V.int ((Md.tab a b (i + 1) k' : Nat) : Int) = V.int (((Md.tab a b i k' : Nat) : Int) + 1)) := by
                congr 1; apply propext; constructor
                · rintro ⟨_, z⟩; rw [z]; rfl
                · intro z; injection z with z; exact ⟨by omega, by omega⟩
              rw [e4] at hq
              exact hq
            · rw [decide_eq_false (fun z => e1 (decide_eq_true (by have := z.1; omega)))] at hq
              exact hq
          · obtain ⟨c1, c3⟩ := of_decide_eq_true h3
            obtain ⟨i, rfl⟩ : ∃ j, i = j + 1 := ⟨i - 1, by omega⟩
            simp only [Nat.add_sub_cancel] at c3
            refine ⟨_, rfl, _, _, rfl, rfl, _, rfl, .inl ⟨rfl, _, SqL.of hf⟩, _, rfl, sz3, fun T hT => ⟨pf, _, _, rfl, rfl, app hT, lsz, ?_⟩⟩
            have := more (i, 1, []) i k' T (by omega) hT (bk.del c3)
            rw [← pred_v i] at this
            have e5 : ([.int (((i + 1 : Nat) : Int) - 1), .int 1, .str ""] : List V) = edV (i, 1, []) := by rw [pred_v]; rfl
            show ∃ m', m' < _ ∧ ChW x y pr pf H1 m' [some (.str x), some (.str y), some (.ref pr), some (.int (((i + 1 : Nat) : Int) - 1)), some (.int (k' : Nat)), some (.ref pf)]
              (upd (upd H2 T (.tup [.int (((i + 1 : Nat) : Int) - 1), .int 1, .str ""])) pf (.lst ((L.map fun q => V.ref q.1) ++ [V.ref T])))
            rw [e5]
            exact this
          · have h3 := of_decide_eq_false h3
            obtain ⟨k', rfl, c3⟩ := Md.last_branch bk.i_le bk.k_le hb (fun i' k2 u v e1 e2 e3 e4 e5 e6 => h1 ⟨by omega, by omega, by rw [e1, e2]; simp only [Nat.add_sub_cancel]; rw [e3, e4, e5], by rw [e6, e1, e2]; rfl⟩)
              (fun i' k2 e1 e2 e6 => h2 ⟨by omega, by omega, by rw [e6, e1, e2]; rfl⟩) (fun i' e1 e6 => h3 ⟨by omega, by rw [e6, e1]; rfl⟩)
            obtain ⟨d, hd⟩ : ∃ d, b[k']? = some d := ⟨_, List.getElem?_eq_getElem (by show k' < y.cps.toList.length; omega)⟩
            refine ⟨_, rfl, _, _, rfl, rfl, _, rfl, .inl ⟨rfl, _, SqL.of hf⟩, _, rfl, _, rfl, _, rfl, y, _, d, rfl, rfl, sz _ (by omega), at_pred hd, sz3, fun T hT => ⟨pf, _, _, rfl, rfl, app hT, lsz, ?_⟩⟩
            have := more (i, 0, [d]) i k' T (by omega) hT (bk.ins hd c3)
            rw [← pred_v k'] at this
            exact this
    · have hb := of_decide_eq_false hb
      obtain ⟨rfl, rfl⟩ : i = 0 ∧ k' = 0 := by omega
      obtain ⟨f1, f2⟩ := bk.fin
      refine ⟨_, rfl, pf, _, rfl, SqL.of hf, fun p hp => ?_⟩
      refine k _ p _ (sm_new (fun b o e => kp _ _ (s1 _ _ e)) hp) (s1.free (by
        cases q : H1 p with
        | none => rfl
        | some o => rw [kp _ _ q] at hp; cases hp)) ⟨L.reverse, by rw [List.map_reverse], by rw [upd_same, List.map_reverse], fun q hq => ?_⟩ f1 f2
      have := hL q (List.mem_reverse.mp hq)
      rw [upd_ne (ne_of_none this hp)]
      exact this
end
end Ms
end TextD2
section TextR2
set_option linter.all false
set_option maxRecDepth 100000
/-! Order of mends as Python compares their tuples; min of two of them; sorted of data, however it is gathered. -/
namespace Ms
open PySem PySem.Spec PyProof.Rows L2
open L2.DX (itemsO itemsO_ok takeT)
open PySem.W (alike alikeAll dataLt dataLt_cons dataLt_int dataLt_str dataLt_tuple AllAlike Sortable EachIs dataLe)
/-- a mend as data -/
def mvD (m : Md.Mv) : PyData := .tuple [.int (m.1 : Nat), .int (m.2.length : Nat), .str ⟨m.2.toArray⟩]
theorem mvD_dp {K : PySem.W.Frag} {H : Hp} {v : V} {m : Md.Mv} (h : HasMv H v m) : Dp K H v (mvD m) := by
  obtain ⟨p, rfl, e⟩ := h
  exact .tup (SqT.of e) (.cons (.int _) (.cons (.int _) (.cons (.str _) .nil)))
theorem lex_nil : PyProof.Rows.lexLt PyProof.Rows.itemOrd (PySem.W.keyToksAll []) (PySem.W.keyToksAll []) = false := by rfl
theorem eqv_int (a b : Int) : PyData.eqv (.int a) (.int b) = (a == b) := by rw [PyData.eqv]
theorem eqv_str (a b : Str) : PyData.eqv (.str a) (.str b) = decide (a = b) := by
  rw [PyData.eqv]; exact Bool.beq_eq_decide_eq ..
theorem mvD_alike (a b : Md.Mv) : alike (mvD a) (mvD b) = true := by rfl
theorem dataLt_mv (a b : Md.Mv) : dataLt (mvD a) (mvD b) = decide (Md.lt a b) := by
  unfold mvD
  rw [dataLt_tuple, dataLt_cons (by rfl), eqv_int, dataLt_int, dataLt_cons (by rfl), eqv_int, dataLt_int, dataLt_cons (by rfl), eqv_str, dataLt_str, lex_nil]
  unfold Md.lt
  by_cases h1 : a.1 = b.1
  · rw [if_pos (by rw [h1]; exact beq_self_eq_true _)]
    by_cases h2 : a.2.length = b.2.length
    · rw [if_pos (by rw [h2]; exact beq_self_eq_true _)]
      by_cases h3 : a.2 = b.2
      · rw [if_pos (by rw [h3]; exact decide_eq_true rfl)]
        refine (decide_eq_false ?_).symm
        rintro (q | ⟨_, q | ⟨_, q⟩⟩)
        · omega
        · omega
        · rw [h3] at q; exact Md.w_irr _ q
      · rw [if_neg (by intro q; have := of_decide_eq_true q; exact h3 (by injection this with this; simpa using this))]
        congr 1
        apply propext
        constructor
        · intro q; exact .inr ⟨h1, .inr ⟨h2, by simpa using q⟩⟩
        · rintro (q | ⟨_, q | ⟨_, q⟩⟩)
          · omega
          · omega
          · simpa using q
    · rw [if_neg (by intro q; have := eq_of_beq q; omega)]
      congr 1
      apply propext
      constructor
      · intro q; exact .inr ⟨h1, .inl (by omega)⟩
      · rintro (q | ⟨_, q | ⟨q, _⟩⟩) <;> omega
  · rw [if_neg (by intro q; have := eq_of_beq q; omega)]
    congr 1
    apply propext
    constructor
    · intro q; exact .inl (by omega)
    · rintro (q | ⟨q, _⟩) <;> omega
section
variable {X : Cx}
/-- a < b for mends -/
def rLtMv : R2 := fun x y H Q => ∃ a b, HasMv H x a ∧ HasMv H y b ∧ Q (.bl (decide (Md.lt a b))) H
theorem rc_mv {pins : List (Addr × Obj)} {σ : L2.St} {H : Hp} {s : Shared} {x y : V} {v u : Value} {a b : Md.Mv} {A : Around} (I : Inv X pins σ H s) (ha : HasMv H x a) (hb : HasMv H y b) (rx : RelV x v) (ry : RelV y u) (hu : A.units + 4 < cLine) :
    PySem.SeqAt.RcLt A s v u (decide (Md.lt a b)) := by
  obtain ⟨as, r1⟩ := Dp.reads I (mvD a) x v (mvD_dp ha) rx
  obtain ⟨bs, r2⟩ := Dp.reads I (mvD b) y u (mvD_dp hb) ry
  rw [← dataLt_mv]
  refine PySem.W.rcLt_alike _ _ A s v u as bs r1 r2 (mvD_alike a b) (fun z => by cases z) ?_
  have : (mvD a).depth = 1 := by rfl
  have : min (mvD a).depth (mvD b).depth ≤ 1 := by omega
  omega
theorem op_ltMv (hu : X.A.units + 64 < cLine) : OpR X (compareOp .Lt) rLtMv := by
  intro pins s σ H x y v u Q I rx ry h
  obtain ⟨a, b, ha, hb, q⟩ := h
  exact rc_mv I ha hb rx ry (by omega) X.prog X.w X.xe _ ⟨.bl _, H, I, rfl, q⟩
end
/-! ### min of two things that compare -/
section
variable {prog : Program} {w : World} {A : Around} {E : Value → Shared → Prop} {s : Shared}
/-- the walk of the two is over -/
theorem min_end {I T S : Addr} {a b v : Value} {c : Nat} {R : Result → Shared → Prop} (hh : A.handled = none) (nTI : T ≠ I) (nSI : S ≠ I) (nST : S ≠ T) (st : s.heap.IsTupleIter I T 2 ∧ s.heap.IsTuple T #[a, b])
    (hS : s.heap.get? S = some { cls := .type "list", dict := none, data := .seq #[v, v] c, slots := #[] })
    (hR : ∀ h' tk, (∀ c o, c ≠ I → c ≠ S → s.heap.get? c = some o → h'.get? c = some o) → R (.ok (.ret v)) { s with heap := h', toks := tk }) :
    codeAny (model prog w) A (.builtin "min.loop" ⟨[.ref I, .none, .ref S], []⟩) R s := by
  refine codeAny_builtin PySem.F.entry_min_loop ?_
  rw [Around.under_plainId PySem.F.plain_min_loop _]
  show wpAny _ A.in1 (seqItems? (.ref S) >>= _) _ _ s
  refine wpAny_bind (wpAny_seqItems hS rfl ?_)
  show wpAny _ A.in1 (tryCatch (pyNext (.ref I)) _ >>= _) _ _ s
  have W := Walks.tuple (prog := prog) (w := w) (A := A.in1) hh I T nTI #[a, b]
  refine wpAny_bind (wpAny_tryCatch (W.done s _ _ st fun h' tk hk' => ?_))
  have hS' := hk' S _ (by simpa using nSI) hS
  show wpAny _ A.in1 (updateSeq S (fun _ => #[]) >>= _) _ _ _
  refine wpAny_bind ?_
  refine wpAny_updateSeq hS' rfl (wpAny_bind (wpAny_letGo (wpAny_pure ?_)))
  exact hR _ tk fun c o hcI hcS e => (Heap.get?_update_other _ _ (Ne.symm hcS)).trans (hk' c o (by simpa using hcI) e)
theorem min_two_rc {a b : Value} {k : Bool} {Q : Value → Shared → Prop} (hh : A.handled = none)
    (hc : ∀ h' tk, (∀ c o, s.heap.get? c = some o → h'.get? c = some o) → PySem.SeqAt.RcLt A.in1 { s with heap := h', toks := tk } b a k)
    (h : ∀ h' tk, (∀ c o, s.heap.get? c = some o → h'.get? c = some o) → Q (if k = true then b else a) { s with heap := h', toks := tk }) :
    wpAny (model prog w) A (call (.builtin "min") [a, b]) Q E s := by
  have hname : (toString "min" ++ toString ".loop" : String) = "min.loop" := by decide
  refine call_function_tree PySem.F.kind_min PySem.F.plain_min PySem.F.entry_min (PySem.F.args_min2 _ _) ?_
  show wpAny _ A.in1 (Builtin.Builtins.bindParams "min" ["key", "default"] 0 ⟨[], []⟩ >>= _) _ _ s
  refine wpAny_bind (wpAny_of_eq (show Builtin.Builtins.bindParams "min" ["key", "default"] 0 ⟨[], []⟩ = pure [none, none] from rfl) ?_)
  show wpAny _ A.in1 (newTuple [a, b] >>= _) _ _ s
  refine wpAny_bind (wpAny_newObj_type ?_)
  -- the heap with the two in a tuple, and its iterator
  have e0 : ∀ c o, s.heap.get? c = some o → (s.heap.push { cls := .type "tuple", data := .seq #[a, b] }).get? c = some o := fun c o e => Heap.get?_push_of_some _ e
  have z0 : (s.heap.push { cls := .type "tuple", data := .seq #[a, b] }).objs.size = s.heap.objs.size + 1 := Heap.size_push ..
  have hT : (s.heap.push { cls := .type "tuple", data := .seq #[a, b] }).IsTuple s.heap.objs.size #[a, b] := ⟨_, Heap.get?_push_size _ rfl, rfl, 0, rfl⟩
  generalize s.heap.push { cls := .type "tuple", data := .seq #[a, b] } = h0 at e0 z0 hT ⊢
  refine wpAny_bind (wpAny_pyIter_tuple (s := { s with heap := h0 }) hT ?_)
  have e1 : ∀ c o, s.heap.get? c = some o → (h0.push { cls := .type "tuple_iterator", data := .fields #[.ref s.heap.objs.size, .int 0 0] }).get? c = some o := fun c o e => Heap.get?_push_of_some _ (e0 c o e)
  have z1 : (h0.push { cls := .type "tuple_iterator", data := .fields #[.ref s.heap.objs.size, .int 0 0] }).objs.size = h0.objs.size + 1 := Heap.size_push ..
  have st1 : (h0.push { cls := .type "tuple_iterator", data := .fields #[.ref s.heap.objs.size, .int 0 0] }).IsTupleIter h0.objs.size s.heap.objs.size 0 ∧ (h0.push { cls := .type "tuple_iterator", data := .fields #[.ref s.heap.objs.size, .int 0 0] }).IsTuple s.heap.objs.size #[a, b] :=
    ⟨⟨_, Heap.get?_push_size _ rfl, rfl, rfl⟩, hT.push _⟩
  generalize h0.push { cls := .type "tuple_iterator", data := .fields #[.ref s.heap.objs.size, .int 0 0] } = h1 at e1 z1 st1 ⊢
  refine wpAny_bind (wpAny_newObj_type ?_)
  have e2 : ∀ c o, h1.get? c = some o → (h1.push { cls := .type "list", data := .seq #[] }).get? c = some o := fun c o e => Heap.get?_push_of_some _ e
  have hS : (h1.push { cls := .type "list", data := .seq #[] }).get? h1.objs.size = some { cls := .type "list", dict := none, data := .seq #[] 0, slots := #[] } := Heap.get?_push_size _ rfl
  rw [hname]
  show wpAny _ A.in1 (again (.builtin "min.loop" ⟨[.ref h0.objs.size, .none, .ref h1.objs.size], []⟩)) _ _ _
  generalize h1.push { cls := .type "list", data := .seq #[] } = h2 at e2 hS ⊢
  generalize hSS : h1.objs.size = S at hS ⊢
  generalize hII : h0.objs.size = I at st1 z1 ⊢
  generalize hTT : s.heap.objs.size = T at st1 z0 ⊢
  have oldT : ∀ c o, s.heap.get? c = some o → c < T := fun c o e => by rw [← hTT]; exact Heap.lt_size e
  have lTI : T < I := by omega
  have lIS : I < S := by omega
  have nTI : T ≠ I := Nat.ne_of_lt lTI
  have nSI : S ≠ I := Nat.ne_of_gt lIS
  have nST : S ≠ T := Nat.ne_of_gt (Nat.lt_trans lTI lIS)
  have cI : ∀ c o, s.heap.get? c = some o → c ≠ I := fun c o e => Nat.ne_of_lt (Nat.lt_trans (oldT c o e) lTI)
  have cS : ∀ c o, s.heap.get? c = some o → c ≠ S := fun c o e => Nat.ne_of_lt (Nat.lt_trans (oldT c o e) (Nat.lt_trans lTI lIS))
  have W : ∀ A' : Around, A'.handled = none → Walks prog w A' I [I, T] [I] 2 (fun i v => (#[a, b] : Array Value)[i]? = some v) (fun i h => h.IsTupleIter I T i ∧ h.IsTuple T #[a, b]) := fun A' hA => Walks.tuple hA I T nTI #[a, b]
  have fr : ∀ (i : Nat) (h h' : Heap), (h.IsTupleIter I T i ∧ h.IsTuple T #[a, b]) → (∀ c o, c ≠ S → h.get? c = some o → h'.get? c = some o) → (h'.IsTupleIter I T i ∧ h'.IsTuple T #[a, b]) := fun i h h' st k =>
    (W A hh).frame i h h' st fun c hc o e => k c o (by
      simp only [List.mem_cons, List.not_mem_nil, or_false] at hc
      rcases hc with rfl | rfl
      · exact Ne.symm nSI
      · exact Ne.symm nST) e
  have st2 := fr 0 h1 h2 st1 fun c o _ e => e2 c o e
  have old2 : ∀ c o, s.heap.get? c = some o → h2.get? c = some o := fun c o e => e2 c o (e1 c o e)
  -- the first one
  refine wpAny_pure ⟨plainId_quiet PySem.F.plain_min_loop _, codeAny_builtin PySem.F.entry_min_loop ?_⟩
  rw [Around.under_plainId PySem.F.plain_min_loop _]
  show wpAny _ A.in1 (seqItems? (.ref S) >>= _) _ _ _
  refine wpAny_bind (wpAny_seqItems hS rfl ?_)
  show wpAny _ A.in1 (tryCatch (pyNext (.ref I)) _ >>= _) _ _ _
  refine wpAny_bind (wpAny_tryCatch ((W A.in1 hh).item 0 _ _ _ (by decide) st2 fun v h3 tk3 hv st3 k3 => ?_))
  obtain rfl : a = v := by simpa using hv
  have hS3 := k3 S _ (by simpa using nSI) hS
  have old3 : ∀ c o, s.heap.get? c = some o → h3.get? c = some o := fun c o e => k3 c o (by simpa using cI c o e) (old2 c o e)
  show wpAny _ A.in1 (updateSeq S (fun _ => #[a, a]) >>= _) _ _ _
  refine wpAny_bind ?_
  refine wpAny_updateSeq hS3 rfl ?_
  rw [hname]
  have hS4 := Heap.get?_update_self (Obj.mapSeq (fun _ => #[a, a])) hS3 rfl
  have k4 : ∀ c o, c ≠ S → h3.get? c = some o → (h3.update S (Obj.mapSeq (fun _ => #[a, a]))).get? c = some o := fun c o hc e => (Heap.get?_update_other _ _ (Ne.symm hc)).trans e
  have st4 := fr 1 h3 _ st3 k4
  have old4 : ∀ c o, s.heap.get? c = some o → (h3.update S (Obj.mapSeq (fun _ => #[a, a]))).get? c = some o := fun c o e => k4 c o (cS c o e) (old3 c o e)
  generalize h3.update S (Obj.mapSeq (fun _ => #[a, a])) = h4 at hS4 k4 st4 old4 ⊢
  -- the second one
  refine wpAny_pure ⟨plainId_quiet PySem.F.plain_min_loop _, codeAny_builtin PySem.F.entry_min_loop ?_⟩
  rw [Around.under_plainId PySem.F.plain_min_loop _]
  show wpAny _ A.in1 (seqItems? (.ref S) >>= _) _ _ _
  refine wpAny_bind (wpAny_seqItems hS4 rfl ?_)
  show wpAny _ A.in1 (tryCatch (pyNext (.ref I)) _ >>= _) _ _ _
  refine wpAny_bind (wpAny_tryCatch ((W A.in1 hh).item 1 _ _ _ (by decide) st4 fun v h5 tk5 hv st5 k5 => ?_))
  obtain rfl : b = v := by simpa using hv
  have hS5 := k5 S _ (by simpa using nSI) hS4
  have old5 : ∀ c o, s.heap.get? c = some o → h5.get? c = some o := fun c o e => k5 c o (by simpa using cI c o e) (old4 c o e)
  show wpAny _ A.in1 (tryCatch (holding [b, b] (richCompare .Lt b a >>= _)) _ >>= _) _ _ _
  refine wpAny_bind (wpAny_tryCatch (wpAny_holding (wpAny_bind (hc h5 tk5 old5 prog w _ _ ?_))))
  refine wpAny_bind (wpAny_holding (wpAny_truthy_bool ?_))
  refine wpAny_bind (wpAny_letGo (wpAny_pure ?_))
  cases k with
  | true =>
    simp only [if_true]
    refine wpAny_bind ?_
    refine wpAny_updateSeq hS5 rfl (wpAny_bind (wpAny_letGo ?_))
    rw [hname]
    have k6 : ∀ c o, c ≠ S → h5.get? c = some o → (h5.update S (Obj.mapSeq (fun _ => #[b, b]))).get? c = some o := fun c o hc e => (Heap.get?_update_other _ _ (Ne.symm hc)).trans e
    refine wpAny_pure ⟨plainId_quiet PySem.F.plain_min_loop _, min_end hh nTI nSI nST (fr 2 h5 _ st5 k6) (Heap.get?_update_self _ hS5 rfl) fun h' tk hk => ?_⟩
    exact h h' tk fun c o e => hk c o (cI c o e) (cS c o e) (k6 c o (cS c o e) (old5 c o e))
  | false =>
    simp only [Bool.false_eq_true, if_false]
    refine wpAny_bind (wpAny_letGo ?_)
    rw [hname]
    refine wpAny_pure ⟨plainId_quiet PySem.F.plain_min_loop _, min_end hh nTI nSI nST st5 hS5 fun h' tk hk => ?_⟩
    exact h h' tk fun c o e => hk c o (cI c o e) (cS c o e) (old5 c o e)
end
/-! ### min of two mends -/
section
variable {X : Cx}
def rMin2Mv : List V → Hp → VK → Prop := fun xs H Q => ∃ x y a b, xs = [x, y] ∧ HasMv H x a ∧ HasMv H y b ∧ Q (if Md.lt b a then y else x) H
theorem call_min2Mv (hc : X.calm = true) (hu : X.A.units + 64 < cLine) : CallR X (.builtin "min") rMin2Mv := by
  intro pins s σ H xs us Q I r h
  obtain ⟨x, y, a, b, rfl, ha, hb, q⟩ := h
  obtain ⟨u1, u2, rfl, r1, r2⟩ := vals2 r
  refine min_two_rc (k := decide (Md.lt b a)) (I.ok.hd hc) (fun h' tk kp => ?_) fun h' tk kp => ⟨_, H, I.kept kp, ?_, q⟩
  · exact rc_mv (I.kept (t' := tk) kp) hb ha r2 r1 (by show X.A.units + 1 + 4 < cLine; omega)
  · by_cases z : Md.lt b a
    · rw [if_pos z, decide_eq_true z, if_pos rfl]; exact r2
    · rw [if_neg z, decide_eq_false z, if_neg (by decide)]; exact r1
end
/-! ### sorted, whatever gathers the items -/
theorem paired_of_each {β : Type} : ∀ {L : List (V × β)} {us : List Value}, Vals (L.map (·.1)) us → EachIs (fun v (q : V × β) => RelV q.1 v) us L
  | [], us, r => by cases r; exact .nil
  | q :: L, us, r => by
    cases r with
    | cons a t => exact .cons a (paired_of_each t)
theorem each_of_paired {β : Type} : ∀ {L : List (V × β)} {us : List Value}, EachIs (fun v (q : V × β) => RelV q.1 v) us L → Vals (L.map (·.1)) us
  | _, _, .nil => .nil
  | _, _, .cons a t => .cons a (each_of_paired t)
theorem each_reads {X : Cx} {pins : List (Addr × Obj)} {σ : L2.St} {H : Hp} {s : Shared} {β : Type} {enc : β → PyData} (I : Inv X pins σ H s) : ∀ {L : List (V × β)} {us : List Value}, Vals (L.map (·.1)) us → (∀ q ∈ L, Dp X.K H q.1 (enc q.2)) →
    EachIs (fun v (q : V × β) => ∃ as, Reads s.heap v (enc q.2) as) us L
  | [], us, r, _ => by cases r; exact .nil
  | q :: L, us, r, h => by
    cases r with
    | cons a t => exact .cons (Dp.reads I _ _ _ (h q List.mem_cons_self) a) (each_reads I t fun p hp => h p (List.mem_cons_of_mem _ hp))
/-- no addresses of lists within: data of ints, texts and tuples -/
def NoList : PyData → Bool
  | .list _ => false
  | .dict _ => false
  | .tuple ds => ds.attach.all fun ⟨d, _⟩ => NoList d
  | _ => true
mutual
theorem reads_nolist {h : Heap} : ∀ (d : PyData) (v : Value) (as : List Addr), NoList d = true → Reads h v d as → as = []
  | .none, _, _, _, r => by cases r; rfl
  | .bool _, _, _, _, r => by cases r; rfl
  | .int _, _, _, _, r => by cases r; rfl
  | .str _, _, _, _, r => by cases r; rfl
  | .list _, _, _, h, _ => by unfold NoList at h; cases h
  | .dict _, _, _, h, _ => by unfold NoList at h; cases h
  | .tuple ds, v, as, h, r => by
    cases r with
    | tuple _ _ _ ra =>
      unfold NoList at h
      refine readsAll_nolist ds _ as (fun d hd => ?_) ra
      have := List.all_eq_true.mp h ⟨d, hd⟩ (List.mem_attach _ _)
      exact this
theorem readsAll_nolist {h : Heap} : ∀ (ds : List PyData) (vs : List Value) (as : List Addr), (∀ d ∈ ds, NoList d = true) → ReadsAll h vs ds as → as = []
  | [], _, _, _, r => by cases r; rfl
  | d :: ds, _, _, h, r => by
    cases r with
    | cons r1 r2 =>
      rw [reads_nolist d _ _ (h d List.mem_cons_self) r1, readsAll_nolist ds _ _ (fun e he => h e (List.mem_cons_of_mem _ he)) r2]; rfl
end
theorem dataLe_total {β : Type} (enc : β → PyData) : PySem.W.TotalLe (dataLe false enc) := PySem.W.sortLe_total (PyProof.Rows.listOrd PyProof.Rows.itemOrd) false _
section
variable {X : Cx}
/-- what the gathered items must be, and what is wanted of the sorted list -/
def SortAsk {β : Type} (K : PySem.W.Frag) (enc : β → PyData) (H : Hp) (L : List (V × β)) (Q : VK) : Prop :=
  (∀ q ∈ L, Dp K H q.1 (enc q.2)) ∧ (∀ q ∈ L, NoList (enc q.2) = true ∧ (enc q.2).depth ≤ 20) ∧ AllAlike (L.map fun q => enc q.2) ∧ Sortable (L.map fun q => enc q.2) ∧ L.length ≤ 1000000 ∧
  ∀ (L' : List (V × β)) p, L'.Perm L → L'.Pairwise (fun a b => dataLt (enc b.2) (enc a.2) = false) → H p = none → Q (.ref p) (upd H p (.lst (L'.map (·.1))))
theorem sort_go {β : Type} {enc : β → PyData} {pins : List (Addr × Obj)} {σ : L2.St} {s : Shared} {x : Value} {Q : VK} (hu : X.A.units + 64 < cLine)
    (hc : wpAny (model X.prog X.w) X.A.in1 (collect x) (fun us s1 => ∃ (H1 : Hp) (L : List (V × β)), Inv X pins σ H1 s1 ∧ Vals (L.map (·.1)) us ∧ SortAsk X.K enc H1 L Q) X.xe s) :
    wpAny (model X.prog X.w) X.A (call (.builtin "sorted") [x]) (EP X pins σ Q) X.xe s := by
  refine Calls.call_function_entry kind_sorted plain_sorted entry_sorted (args_sorted1 _) ?_
  unfold Builtin.«sorted»
  refine wpAny_bind (m := checkCount "sorted" 1 1 _) (wpAny_pure ?_)
  refine wpAny_bind (thn hc fun us s1 ⟨H1, L, I1, rv, hD, hN, hal, hk, hz, q⟩ => ?_)
  have hul : us.length = L.length := by have := rv.length; rw [List.length_map] at this; exact this.symm
  refine wpAny_bind (wpAny_newList ?_ (by rw [hul]; exact sz _ hz))
  have hoL : (s1.heap.push (seqObj "list" us.toArray 0)).get? s1.heap.objs.size = some (seqObj "list" us.toArray 0) := Heap.get?_push_size _ rfl
  have I2 : Inv X pins σ H1 { s1 with heap := s1.heap.push (seqObj "list" us.toArray 0) } := I1.kept (t' := s1.toks) fun b u e => Heap.get?_push_of_some _ e
  have er : EachIs (fun v (q : V × β) => ∃ as, Reads (s1.heap.push (seqObj "list" us.toArray 0)) v (enc q.2) as ∧ s1.heap.objs.size ∉ as) us L := by
    have h0 := each_reads I2 rv hD
    have key : ∀ {us : List Value} {L' : List (V × β)}, (∀ q ∈ L', q ∈ L) → EachIs (fun v (q : V × β) => ∃ as, Reads (s1.heap.push (seqObj "list" us.toArray 0)) v (enc q.2) as) us L' → True := fun _ _ => trivial
    have go : ∀ {vs : List Value} {L' : List (V × β)}, (∀ q ∈ L', q ∈ L) → EachIs (fun v (q : V × β) => ∃ as, Reads (s1.heap.push (seqObj "list" us.toArray 0)) v (enc q.2) as) vs L' →
        EachIs (fun v (q : V × β) => ∃ as, Reads (s1.heap.push (seqObj "list" us.toArray 0)) v (enc q.2) as ∧ s1.heap.objs.size ∉ as) vs L' := by
      intro vs L' hs h
      induction h with
      | nil => exact .nil
      | cons a t ih =>
        obtain ⟨as, ra⟩ := a
        refine .cons ⟨as, ra, ?_⟩ (ih fun q hq => hs q (List.mem_cons_of_mem _ hq))
        rw [reads_nolist _ _ _ (hN _ (hs _ List.mem_cons_self)).1 ra]
        exact List.not_mem_nil
    exact go (fun _ h => h) h0
  refine wpAny_bind (wpAny_holding (PySem.W.list_sort_data (s := { s1 with heap := s1.heap.push (seqObj "list" us.toArray 0) }) (enc := fun q : V × β => enc q.2) hoL (paired_of_each rv) er hal hk (sz _ hz) (fun q hq => ?_) fun out hlen hout => ?_))
  · have := (hN q hq).2
    show X.A.units + 1 + 1 + (enc q.2).depth < cLine
    omega
  · obtain ⟨c, hcL⟩ := sortedHeap_at (vs := us) (out := out.toArray) hoL
    have hperm := List.mergeSort_perm L (dataLe false fun q : V × β => enc q.2)
    have hpw := PySem.W.sort_pairwise (dataLe_total fun q : V × β => enc q.2) L
    generalize L.mergeSort (dataLe false fun q : V × β => enc q.2) = L' at hout hperm hpw
    have rv' := each_of_paired hout
    have hf : H1 s1.heap.objs.size = none := I1.hok.fresh (Nat.le_refl _)
    have old : ∀ b o, s1.heap.get? b = some o → (sortedHeap (s1.heap.push (seqObj "list" us.toArray 0)) s1.heap.objs.size us out.toArray).get? b = some o := fun b o e => by
      have hlt := Heap.lt_size e
      rw [sortedHeap_old (Nat.ne_of_lt hlt) (by rw [size_push']; exact Nat.lt_succ_of_lt hlt)]
      exact Heap.get?_push_of_some _ e
    have hl' : (L'.map (·.1)).length ≤ sizeLine := by rw [List.length_map, hperm.length_eq]; exact sz _ hz
    refine wpAny_pure ⟨_, rfl, .ref s1.heap.objs.size, upd H1 s1.heap.objs.size (.lst (L'.map (·.1))), I1.laid (t' := s1.toks) old (Nat.le_refl _) ⟨hl', out, c, rv', hcL⟩, rfl, q L' _ hperm (hpw.imp fun {a b} h => ?_) hf⟩
    have h' : (!dataLt (enc b.2) (enc a.2)) = true := h
    simpa using h'
/-- sorted(xs), xs a list -/
def rSortG {β : Type} (K : PySem.W.Frag) (enc : β → PyData) : List V → Hp → VK → Prop := fun vs H Q => ∃ (a : Addr) (L : List (V × β)), vs = [.ref a] ∧ SqL K H a (L.map (·.1)) ∧ SortAsk K enc H L Q
theorem cr_sortG {β : Type} (enc : β → PyData) (hu : X.A.units + 64 < cLine) : CallR X (.builtin "sorted") (rSortG X.K enc) := by
  intro pins s σ H vs us Q I r h
  obtain ⟨a, L, rfl, hL, ask⟩ := h
  obtain ⟨its, rv, p, hz⟩ := I.list hL
  cases r with
  | cons r rr =>
    cases rr
    cases r
    refine sort_go hu (collect_list p.isList ⟨H, L, I.kept (t' := s.toks) fun b o e => ?_, rv, ask⟩ (by rw [← rv.length]; exact hz))
    exact (Heap.get?_update_other _ _ (Nat.ne_of_gt (Heap.lt_size e))).trans (Heap.get?_push_of_some _ e)
/-- d.items(), d with int and text keys: a view -/
def rItemsK : V → List V → Hp → VK → Prop := fun x xs H Q => ∃ (a : Addr) (kvs : List (Key × V)), x = .ref a ∧ xs = [] ∧ H a = some (.dK kvs) ∧ ∀ p, H p = none → Q (.ref p) (upd H p (itemsO p a))
theorem mt_itemsK : MtR X "dict.items" rItemsK := by
  intro pins s σ H x xs v us Q I rx rxs h
  obtain ⟨a, kvs, rfl, rfl, ha, q⟩ := h
  cases rx
  cases rxs
  obtain ⟨z, hd, vs, rel, dd⟩ := I.hok a _ ha
  obtain ⟨es, ep, hr, _, _⟩ := dd.raw
  refine DT.callItems (es := es) (ep := ep) hd hr ?_
  exact ⟨.ref s.heap.objs.size, _, I.laid (t' := s.toks) (fun b u e => Heap.get?_push_of_some _ e) (Nat.le_refl _) (itemsO_ok (Heap.get?_push_size _ rfl)), rfl, q _ (I.hok.fresh (Nat.le_refl _))⟩
/-- sorted of such a view: the pairs are new tuples -/
def rSortItems {β : Type} (K : PySem.W.Frag) (enc : β → PyData) : List V → Hp → VK → Prop := fun vs H Q => ∃ (p d : Addr) (kvs : List (Key × V)) (f : Key × V → β), vs = [.ref p] ∧ H p = some (itemsO p d) ∧ H d = some (.dK kvs) ∧
  ∀ (H2 : Hp) (ts : List (Addr × (Key × V))), (∀ b o, H b = some o → H2 b = some o) → ts.map (·.2) = kvs → (∀ t ∈ ts, H t.1 = none ∧ H2 t.1 = some (.tup [kV t.2.1, t.2.2])) → SortAsk K enc H2 (ts.map fun t => (V.ref t.1, f t.2)) Q
theorem cr_sortItems {β : Type} (enc : β → PyData) (hc : X.calm = true) (hu : X.A.units + 64 < cLine) : CallR X (.builtin "sorted") (rSortItems X.K enc) := by
  intro pins s σ H vs us Q I r h
  obtain ⟨p, d, kvs, f, rfl, hp, hd, ask⟩ := h
  obtain rfl := Vals.ref1 r
  have view : s.heap.IsItemsView p d := (show ObjOk X.prog X.w H s.heap p (itemsO p d) from I.hok p _ hp).1
  obtain ⟨z, _, vs, rel, dd⟩ := I.hok d _ hd
  obtain ⟨es, ep, hraw, hsz, hent⟩ := dd.raw
  have lk : kvs.length = vs.length := Paired.length rel
  refine sort_go (enc := enc) hu (PySem.W.dil_collect (I.ok.hd hc) view hraw (by rw [hsz, ← lk]; exact z) fun h' tk as old hl G => ?_)
  have nd : as.Nodup := G.rise.imp fun h => Nat.ne_of_lt h
  have I1 : Inv X pins σ H { s with heap := h', toks := tk } := I.kept old
  obtain ⟨H2, I2, k2, t2⟩ := takeT (h' := h') (tk := tk) (P := fun a xs => ∃ (j : Nat) (kv : Key × V), as[j]? = some a ∧ kvs[j]? = some kv ∧ xs = [kV kv.1, kv.2]) I as H I1 nd fun a ha => by
    have lo := G.above a ha
    refine ⟨Nat.le_of_lt lo, I.hok.fresh (Nat.le_of_lt lo), ?_⟩
    obtain ⟨j, hj⟩ := List.getElem?_of_mem ha
    obtain ⟨hje, hga⟩ := G.pairs j a hj
    obtain ⟨kv, hkv⟩ : ∃ kv, kvs[j]? = some kv := ⟨kvs[j]'(by omega), List.getElem?_eq_getElem _⟩
    obtain ⟨q, hq, q1, q2⟩ := LiI.paired_get rel hkv
    obtain ⟨e1, e2⟩ := hent j hje q.1 q.2 hq
    refine ⟨_, ⟨j, kv, hj, hkv, rfl⟩, fun H2 => ⟨sz2, [es[j].key, es[j].val], .cons ?_ (.cons ?_ .nil), ⟨_, hga, rfl, _, rfl⟩⟩⟩
    · rw [q1]; exact relV_key (show keyIs q.1 es[j].key = true from e1)
    · rw [e2]; exact q2
  have lak : as.length = kvs.length := by omega
  have zs : (as.zip kvs).map (·.2) = kvs := List.map_snd_zip (by omega)
  have za : (as.zip kvs).map (·.1) = as := List.map_fst_zip (by omega)
  refine ⟨H2, (as.zip kvs).map fun t => (V.ref t.1, f t.2), I2, ?_, ask H2 (as.zip kvs) k2 zs fun t ht => ?_⟩
  · rw [List.map_map]
    have : ((fun q : V × β => q.1) ∘ fun t : Addr × (Key × V) => (V.ref t.1, f t.2)) = V.ref ∘ (·.1) := rfl
    rw [this, ← List.map_map, za]
    exact LiI.vals_refs as
  · obtain ⟨j, hj⟩ := List.getElem?_of_mem ht
    rw [List.getElem?_zip_eq_some] at hj
    have hm := List.mem_of_getElem? hj.1
    refine ⟨I.hok.fresh (Nat.le_of_lt (G.above _ hm)), ?_⟩
    obtain ⟨xs, ⟨j2, kv, h1, h2, rfl⟩, h3⟩ := t2 t.1 hm
    have : j2 = j := (List.getElem?_inj (List.getElem?_eq_some_iff.mp h1).1 nd).mp (h1.trans hj.1.symm)
    subst this
    rw [hj.2] at h2
    cases h2
    exact h3
/-- min(xs), xs a list of texts of one sign -/
def rMinS (K : PySem.W.Frag) : List V → Hp → VK → Prop := fun vs H Q => ∃ (a : Addr) (cs : List Nat), vs = [V.ref a] ∧ SqL K H a (cs.map fun c => V.str ⟨#[c]⟩) ∧ cs ≠ [] ∧ ∀ m, m ∈ cs → (∀ c, c ∈ cs → m ≤ c) → Q (.str ⟨#[m]⟩) H
theorem cr_minS (hc : X.calm = true) : CallR X (.builtin "min") (rMinS X.K) := by
  intro pins s σ H vs us Q I r h
  obtain ⟨a, cs, rfl, hs, hne, q⟩ := h
  obtain ⟨its, rv, hl, _⟩ := I.list hs
  obtain rfl := Vals.ref1 r
  have hil : its.length = cs.length := by have := rv.length; rw [List.length_map] at this; exact this.symm
  have hpos : 0 < cs.length := List.length_pos_iff.mpr hne
  have ent : ∀ (i : Nat) (v : Value), its.toArray[i]? = some v → ∃ t, v = Value.str ⟨#[cs.getD i 0]⟩ t := fun i v hv => by
    have hv' : its[i]? = some v := by simpa using hv
    have hi : i < cs.length := by have := (List.getElem?_eq_some_iff.mp hv').1; omega
    obtain ⟨y, hy, ry⟩ := LiI.paired_get (xs := cs.map fun c => V.str ⟨#[c]⟩) rv (i := i) (x := V.str ⟨#[cs.getD i 0]⟩) (by
      rw [List.getElem?_map, List.getElem?_eq_getElem hi, List.getD_eq_getElem?_getD, List.getElem?_eq_getElem hi]; rfl)
    rw [hv'] at hy
    cases hy
    exact ry
  refine call_min_walk (iter_any hl.isList fun s₂ e st hlI => ?_)
  subst e
  refine ⟨s.heap.objs.size, [s.heap.objs.size, a], [s.heap.objs.size], its.toArray.size, _, _, fun i j => decide ((cs.getD i 0 : Int) < cs.getD j 0), rfl, Walks.list (A := X.A.in1) (I.ok.hd hc) _ a hlI its.toArray, st, fun b hb => ?_, by rw [List.size_toArray, hil]; exact hpos, ?_, fun v h' tk hP hk => ?_⟩
  · have hla : a < s.heap.objs.size := by obtain ⟨_, _, e, _⟩ := hl; exact Heap.lt_size e
    show b < (s.heap.push _).objs.size
    rw [Heap.size_push]
    simp only [List.mem_cons, List.not_mem_nil, or_false] at hb
    rcases hb with rfl | rfl
    · exact Nat.lt_succ_self _
    · exact Nat.lt_succ_of_lt hla
  · intro i j vi vj s' Q' E' hi hj hq
    obtain ⟨t, rfl⟩ := ent i vi hi
    obtain ⟨u, rfl⟩ := ent j vj hj
    have e : decide ((cs.getD i 0 : Int) < cs.getD j 0) = decide ((⟨#[cs.getD i 0]⟩ : Str).cps.toList < (⟨#[cs.getD j 0]⟩ : Str).cps.toList) := by
      congr 1
      apply propext
      show _ ↔ [cs.getD i 0] < [cs.getD j 0]
      rw [List.cons_lt_cons_iff]
      constructor
      · intro z; exact .inl (by omega)
      · rintro (z | ⟨_, z⟩)
        · omega
        · exact absurd z (List.lt_irrefl _)
    dsimp only at hq
    rw [e] at hq
    exact PyProof.Rows.lt_str (Q := Q') (E := E') hq
  · obtain ⟨h1, h2⟩ := argBest_lt (fun i => (cs.getD i 0 : Int)) (its.toArray.size - 1)
    obtain ⟨t, rfl⟩ := ent _ _ hP
    have hsz : its.toArray.size = cs.length := by rw [List.size_toArray, hil]
    rw [hsz] at h1 h2
    refine ⟨.str ⟨#[cs.getD (argBest (fun i j => decide ((cs.getD i 0 : Int) < cs.getD j 0)) (its.toArray.size - 1)) 0]⟩, H, I.kept (fun b o e => hk b o (by simpa using Nat.ne_of_lt (Heap.lt_size e)) (Heap.get?_push_of_some _ e)), ⟨t, rfl⟩, q _ ?_ fun c hcm => ?_⟩
    · rw [hsz, List.getD_eq_getElem?_getD, List.getElem?_eq_getElem (by omega)]
      exact List.getElem_mem _
    · obtain ⟨j, hj, e⟩ := List.getElem_of_mem hcm
      have := h2 j (by omega)
      rw [hsz]
      have e2 : cs.getD j 0 = c := by rw [List.getD_eq_getElem?_getD, List.getElem?_eq_getElem hj]; exact e
      rw [e2] at this
      omega
end
end Ms
end TextR2
section TextD3
set_option linter.all false
set_option maxRecDepth 100000
/-! Dicts as functions; the mender's objects. -/
namespace Ms
open PySem PySem.Spec PyProof.Rows L2
abbrev tx (w : List Nat) : Str := ⟨w.toArray⟩
theorem tx_len (w : List Nat) : (tx w).length = w.length := List.size_toArray
theorem tx_inj {a b : List Nat} (h : tx a = tx b) : a = b := by injection h with h; simpa using h
theorem tx_cps (w : List Nat) : (tx w).cps.toList = w := rfl
theorem cut_seg {t : List Nat} {s e : Nat} (hs : s ≤ t.length) (he : e ≤ t.length) : cutS (tx t) (some (s : Int)) (some (e : Int)) = tx (Md.seg t s e) := by
  unfold cutS Md.seg tx
  rw [HT.sIx_nat, HT.sIx_nat]
  have : (⟨t.toArray⟩ : Str).length = t.length := tx_len t
  rw [this, Nat.min_eq_left hs, Nat.min_eq_left he]
/-! ### dicts whose keys are read through an injection -/
section
variable {κ ι : Type} [DecidableEq κ] [DecidableEq ι] {f : ι → κ}
theorem valV_inj (hf : ∀ a b, f a = f b → a = b) (k : ι) : ∀ L : List (ι × V), valV (L.map fun q => (f q.1, q.2)) (f k) = valV L k
  | [] => rfl
  | q :: L => by
    rw [List.map_cons]
    by_cases h : q.1 = k
    · rw [valV_pos (by rw [h]), valV_pos h]
    · rw [valV_neg (fun z => h (hf _ _ z)), valV_neg h, valV_inj hf k L]
theorem putK_inj (hf : ∀ a b, f a = f b → a = b) (k : ι) (v : V) (L : List (ι × V)) : putK (L.map fun q => (f q.1, q.2)) (f k) v = (putK L k v).map fun q => (f q.1, q.2) := by
  unfold putK
  have h : ((L.map fun q => (f q.1, q.2)).any fun kv => decide (kv.1 = f k)) = L.any fun kv => decide (kv.1 = k) := by
    rw [valV_any, valV_any, valV_inj hf]
  rw [h]
  split
  · rw [List.map_map, List.map_map]
    refine List.map_congr_left fun q _ => ?_
    show (if f q.1 = f k then (f q.1, v) else (f q.1, q.2)) = (f (if q.1 = k then (q.1, v) else q).1, (if q.1 = k then (q.1, v) else q).2)
    by_cases z : q.1 = k
    · rw [if_pos (by rw [z]), if_pos z]
    · rw [if_neg (fun y => z (hf _ _ y)), if_neg z]
  · rw [List.map_append]; rfl
theorem valV_mem {k : ι} {v : V} : ∀ {L : List (ι × V)}, valV L k = some v → (k, v) ∈ L
  | [], h => by cases h
  | q :: L, h => by
    by_cases z : q.1 = k
    · rw [valV_pos z] at h
      cases h
      rw [← z]
      exact List.mem_cons_self
    · rw [valV_neg z] at h
      exact List.mem_cons_of_mem _ (valV_mem h)
theorem valV_has {k : ι} : ∀ {L : List (ι × V)}, k ∈ L.map (·.1) → ∃ v, valV L k = some v
  | [], h => by cases h
  | q :: L, h => by
    by_cases z : q.1 = k
    · exact ⟨_, valV_pos z⟩
    · rw [valV_neg z]
      rcases List.mem_cons.mp h with e | e
      · exact absurd e.symm z
      · exact valV_has e
theorem putK_keys (k : ι) (v : V) (L : List (ι × V)) : (putK L k v).map (·.1) = if k ∈ L.map (·.1) then L.map (·.1) else L.map (·.1) ++ [k] := by
  unfold putK
  by_cases h : k ∈ L.map (·.1)
  · obtain ⟨u, hu⟩ := valV_has h
    rw [if_pos h, valV_any, hu]
    show (L.map fun kv => if kv.1 = k then (kv.1, v) else kv).map (·.1) = _
    rw [List.map_map]
    refine List.map_congr_left fun q _ => ?_
    show (if q.1 = k then (q.1, v) else q).1 = q.1
    split <;> rfl
  · have : valV L k = none := by
      cases e : valV L k with
      | none => rfl
      | some u => exact absurd (List.mem_map.mpr ⟨_, valV_mem e, rfl⟩) h
    rw [if_neg h, valV_any, this]
    show (L ++ [(k, v)]).map (·.1) = _
    rw [List.map_append]; rfl
theorem putK_nodup {k : ι} {v : V} {L : List (ι × V)} (h : (L.map (·.1)).Nodup) : ((putK L k v).map (·.1)).Nodup := by
  rw [putK_keys]
  split
  · exact h
  · rename_i z
    exact List.nodup_append.mpr ⟨h, by simp, fun a ha b hb => by rw [List.mem_singleton.mp hb]; exact fun e => z (e ▸ ha)⟩
theorem valV_of_mem {k : ι} {v : V} {L : List (ι × V)} (hn : (L.map (·.1)).Nodup) (h : (k, v) ∈ L) : valV L k = some v := by
  induction L with
  | nil => cases h
  | cons q L ih =>
    rw [List.map_cons, List.nodup_cons] at hn
    rcases List.mem_cons.mp h with e | e
    · rw [← e]; exact valV_pos rfl
    · rw [valV_neg (fun z => hn.1 (by rw [z]; exact List.mem_map.mpr ⟨_, e, rfl⟩))]
      exact ih hn.2 e
theorem putK_mem {k : ι} {v : V} {L : List (ι × V)} (hn : (L.map (·.1)).Nodup) {q : ι × V} (h : q ∈ putK L k v) : q = (k, v) ∨ (q ∈ L ∧ q.1 ≠ k) := by
  have h1 := valV_of_mem (putK_nodup hn) h
  rw [valV_put] at h1
  by_cases z : q.1 = k
  · rw [if_pos z] at h1
    exact .inl (Prod.ext z (Option.some.inj h1).symm)
  · rw [if_neg z] at h1
    exact .inr ⟨valV_mem h1, z⟩
end
/-- int keys -/
def ik (n : Nat) : Key := .inl (n : Int)
theorem ik_inj : ∀ a b, ik a = ik b → a = b := fun a b h => by unfold ik at h; injection h with h; omega
theorem kV_ik (n : Nat) : kV (ik n) = .int (n : Int) := rfl
/-- an entry, or none -/
def ORel (H : Hp) : Option Md.Mv → Option V → Prop
  | none, none => True
  | some m, some v => HasMv H v m
  | _, _ => False
/-- the dict at c holds the mends f, by ends up to N -/
def MdAt (H : Hp) (c : Addr) (f : Md.Ends) (N : Nat) : Prop :=
  ∃ L : List (Nat × V), H c = some (.dK (L.map fun q => (ik q.1, q.2))) ∧ (L.map (·.1)).Nodup ∧ (∀ q ∈ L, q.1 ≤ N) ∧ ∀ e, ORel H (f e) (valV L e)
theorem ORel.mono {H H' : Hp} (hm : ∀ v m, HasMv H v m → HasMv H' v m) : ∀ {o : Option Md.Mv} {u : Option V}, ORel H o u → ORel H' o u
  | none, none, _ => trivial
  | some m, some v, h => hm v m h
  | none, some _, h => h.elim
  | some _, none, h => h.elim
/-- tuples stand -/
def Tp (H H' : Hp) : Prop := ∀ b xs, H b = some (.tup xs) → H' b = some (.tup xs)
theorem HasMv.tp {H H' : Hp} {v : V} {m : Md.Mv} (h : HasMv H v m) (s : Tp H H') : HasMv H' v m := let ⟨p, e, q⟩ := h; ⟨p, e, s _ _ q⟩
theorem MdAt.keep {H H' : Hp} {c : Addr} {f : Md.Ends} {N : Nat} (h : MdAt H c f N) (hc : H' c = H c) (s : Tp H H') : MdAt H' c f N :=
  let ⟨L, a, b, d, e⟩ := h
  ⟨L, by rw [hc]; exact a, b, d, fun x => (e x).mono fun v m q => q.tp s⟩
theorem MdAt.keep' {H H' : Hp} {c : Addr} {f : Md.Ends} {N : Nat} (h : MdAt H c f N) (hc : ∀ o, H c = some o → H' c = some o) (s : Tp H H') : MdAt H' c f N :=
  let ⟨L, a, b, d, e⟩ := h
  ⟨L, hc _ a, b, d, fun x => (e x).mono fun v m q => q.tp s⟩
theorem MdAt.get {H : Hp} {c : Addr} {f : Md.Ends} {N : Nat} (h : MdAt H c f N) (e : Nat) : ∃ o, DGet H c (.int (e : Int)) o ∧ ORel H (f e) o := by
  obtain ⟨L, a, _, _, k⟩ := h
  have := DGet.k (k := ik e) a
  rw [valV_inj ik_inj] at this
  exact ⟨_, this, k e⟩
theorem ORel.some' {H : Hp} {m : Md.Mv} {o : Option V} (h : ORel H (some m) o) : ∃ v, o = some v ∧ HasMv H v m := by
  cases o with
  | none => exact h.elim
  | some v => exact ⟨v, rfl, h⟩
theorem ORel.none' {H : Hp} {o : Option V} (h : ORel H none o) : o = none := by
  cases o with
  | none => rfl
  | some v => exact h.elim
theorem ORel.isSome {H : Hp} {m : Option Md.Mv} {o : Option V} (h : ORel H m o) : o.isSome = m.isSome := by
  cases m with
  | none => rw [h.none']; rfl
  | some m => obtain ⟨v, rfl, _⟩ := h.some'; rfl
theorem nodup_few {L : List Nat} {N : Nat} (hn : L.Nodup) (h : ∀ q ∈ L, q ≤ N) : L.length ≤ N + 1 := by
  have := Md.nodup_le hn (m := List.range (N + 1)) fun x hx => List.mem_range.mpr (by have := h x hx; omega)
  rw [List.length_range] at this
  exact this
theorem MdAt.few {H : Hp} {c : Addr} {L : List (Nat × V)} {N : Nat} (hn : (L.map (·.1)).Nodup) (hb : ∀ q ∈ L, q.1 ≤ N) : L.length ≤ N + 1 := by
  have := nodup_few hn (N := N) fun q hq => by
    obtain ⟨x, hx, rfl⟩ := List.mem_map.mp hq
    exact hb x hx
  rw [List.length_map] at this
  exact this
theorem MdAt.dict {H : Hp} {c : Addr} {f : Md.Ends} {N : Nat} (h : MdAt H c f N) : ∃ kvs, H c = some (.dK kvs) := let ⟨L, a, _⟩ := h; ⟨_, a⟩
theorem MdAt.isD {H : Hp} {c : Addr} {f : Md.Ends} {N : Nat} (h : MdAt H c f N) : IsD H c := let ⟨_, a⟩ := h.dict; .inl ⟨_, .inl a⟩
theorem tp_upd {H : Hp} {c : Addr} {o : HO} (h : ∀ xs, H c ≠ some (.tup xs)) : Tp H (upd H c o) := fun b xs e => by
  rw [upd_ne (fun z => h xs (by rw [← z]; exact e))]; exact e
/-- one entry more -/
theorem MdAt.put {H : Hp} {c : Addr} {f : Md.Ends} {N e : Nat} {v : V} {m : Md.Mv} (h : MdAt H c f N) (hN : N ≤ 1000) (he : e ≤ N) (hv : HasMv H v m) :
    ∃ H', DPut H c (.int (e : Int)) v H' ∧ (∀ b, b ≠ c → H' b = H b) ∧ Tp H H' ∧ (∃ kvs, H' c = some (.dK kvs)) ∧ MdAt H' c (fun x => if x = e then some m else f x) N := by
  obtain ⟨L, a, hn, hb, k⟩ := h
  have hl := MdAt.few (H := H) (c := c) hn hb
  have t : Tp H (upd H c (.dK (putK (L.map fun q => (ik q.1, q.2)) (ik e) v))) := tp_upd fun xs z => by rw [a] at z; cases z
  refine ⟨_, DPut.k (k := ik e) a (by rw [List.length_map]; exact szlt _ (by omega)), fun b hb => upd_ne hb, t, ⟨_, upd_same⟩, putK L e v, by rw [upd_same, putK_inj ik_inj], putK_nodup hn, fun q hq => ?_, fun x => ?_⟩
  · rcases putK_mem hn hq with e' | ⟨e', _⟩
    · rw [e']; exact he
    · exact hb q e'
  · rw [valV_put]
    show ORel _ (if x = e then some m else f x) (if x = e then some v else valV L x)
    by_cases z : x = e
    · rw [if_pos z, if_pos z]; exact hv.tp t
    · rw [if_neg z, if_neg z]; exact (k x).mono fun _ _ q => q.tp t
theorem MdAt.new {H : Hp} {c : Addr} (N : Nat) (h : H c = some (.dK [])) : MdAt H c (fun _ => none) N :=
  ⟨[], h, List.nodup_nil, (fun _ hq => absurd hq List.not_mem_nil), fun _ => trivial⟩
/-! ### literal texts -/
def litW : List (List Nat) := [[120], [121], [120, 121], [121, 120]]
def keyL (k : List Nat × Nat × Nat) : List Key := [.inr (tx k.1), ik k.2.1, ik k.2.2]
theorem keyL_inj : ∀ a b, keyL a = keyL b → a = b := fun a b h => by
  unfold keyL at h
  injection h with h1 h2
  injection h2 with h2 h3
  injection h3 with h3 _
  injection h1 with h1
  exact Prod.ext (tx_inj h1) (Prod.ext (ik_inj _ _ h2) (ik_inj _ _ h3))
def LitOk (H : Hp) (l : Addr) (t : List Nat) : Prop :=
  ∃ L : List ((List Nat × Nat × Nat) × V), H l = some (.dT (L.map fun q => (keyL q.1, q.2))) ∧ (L.map (·.1)).Nodup ∧
    ∀ q ∈ L, q.1.1 ∈ litW ∧ q.1.2.1 ≤ 40 ∧ q.1.2.2 ≤ 40 ∧ HasMv H q.2 (Md.dist (Md.seg t q.1.2.1 q.1.2.2) q.1.1, q.1.1)
def litKeys : List (List Nat × Nat × Nat) := litW.flatMap fun w => (List.range 41).flatMap fun s => (List.range 41).map fun e => (w, s, e)
theorem litKeys_len : litKeys.length = 6724 := by decide +kernel
theorem lit_few {L : List ((List Nat × Nat × Nat) × V)} (hn : (L.map (·.1)).Nodup) (h : ∀ q ∈ L, q.1.1 ∈ litW ∧ q.1.2.1 ≤ 40 ∧ q.1.2.2 ≤ 40) : L.length ≤ 6724 := by
  have := Md.nodup_le hn (m := litKeys) fun x hx => by
    obtain ⟨q, hq, rfl⟩ := List.mem_map.mp hx
    obtain ⟨a, b, c⟩ := h q hq
    exact List.mem_flatMap.mpr ⟨_, a, List.mem_flatMap.mpr ⟨_, List.mem_range.mpr (Nat.lt_succ_of_le b), List.mem_map.mpr ⟨_, List.mem_range.mpr (Nat.lt_succ_of_le c), rfl⟩⟩⟩
  rw [litKeys_len, List.length_map] at this
  exact this
theorem LitOk.keep {H H' : Hp} {l : Addr} {t : List Nat} (h : LitOk H l t) (hc : ∀ o, H l = some o → H' l = some o) (s : Tp H H') : LitOk H' l t :=
  let ⟨L, a, b, d⟩ := h
  ⟨L, hc _ a, b, fun q hq => let ⟨x, y, z, u⟩ := d q hq; ⟨x, y, z, u.tp s⟩⟩
theorem LitOk.dict {H : Hp} {l : Addr} {t : List Nat} (h : LitOk H l t) : ∃ kvs, H l = some (.dT kvs) := let ⟨_, a, _⟩ := h; ⟨_, a⟩
/-- all that was tracked stands, but for l -/
def Kp (l : Addr) (H H' : Hp) : Prop := ∀ b o, H b = some o → b ≠ l → H' b = some o
theorem Kp.refl (l : Addr) (H : Hp) : Kp l H H := fun _ _ e _ => e
theorem Kp.trans {l : Addr} {H H1 H2 : Hp} (a : Kp l H H1) (b : Kp l H1 H2) : Kp l H H2 := fun x o e n => b x o (a x o e n) n
theorem Kp.of {l : Addr} {H H1 : Hp} (a : L2.Same H H1) : Kp l H H1 := fun x o e _ => a x o e
theorem Kp.tp {l : Addr} {H H' : Hp} {kvs : List (List Key × V)} (h : Kp l H H') (hl : H l = some (.dT kvs)) : Tp H H' := fun b xs e =>
  h b _ e (fun z => by rw [z, hl] at e; cases e)
theorem Kp.upd {l p : Addr} {H H1 : Hp} {o : HO} (h : Kp l H H1) (hp : H p = none) : Kp l H (upd H1 p o) := fun b u e n => by
  rw [upd_ne (ne_of_none e hp)]; exact h b u e n
end Ms
end TextD3
section TextD4
set_option linter.all false
set_option maxRecDepth 100000
namespace Ms
open PySem PySem.Spec PyProof.Rows L2
/-- what the walk knows of the class Mender -/
structure MC (K : PySem.W.Frag) (C : Addr) : Prop where
  cl : Cls K C
  nG : NoAttr K C "grammar"
  nT : NoAttr K C "text"
  nR : NoAttr K C "rows"
  nL : NoAttr K C "literals"
def selfF (g r l : Addr) (t : List Nat) : List (Str × V) := [("grammar", .ref g), ("text", .str (tx t)), ("rows", .ref r), ("literals", .ref l)]
theorem lkG {g r l : Addr} {t : List Nat} : (selfF g r l t).lookup ("grammar" : Str) = some (V.ref g) := by rfl
theorem lkT {g r l : Addr} {t : List Nat} : (selfF g r l t).lookup ("text" : Str) = some (V.str (tx t)) := by rfl
theorem lkR {g r l : Addr} {t : List Nat} : (selfF g r l t).lookup ("rows" : Str) = some (V.ref r) := by rfl
theorem lkL {g r l : Addr} {t : List Nat} : (selfF g r l t).lookup ("literals" : Str) = some (V.ref l) := by rfl
def SelfAt (C : Addr) (H : Hp) (a g r l : Addr) (t : List Nat) : Prop := ∃ dx, H a = some (.ins C dx (selfF g r l t))
theorem SelfAt.ne {C : Addr} {H : Hp} {a g r l x : Addr} {t : List Nat} {o : HO} (h : SelfAt C H a g r l t) (e : H x = some o) (n : ∀ D dx fs, o ≠ .ins D dx fs) : a ≠ x := fun z => by
  obtain ⟨dx, q⟩ := h
  rw [z, e] at q
  exact n _ _ _ (Option.some.inj q)
theorem SelfAt.kp {C : Addr} {H H' : Hp} {a g r l : Addr} {t : List Nat} (h : SelfAt C H a g r l t) (hl : LitOk H l t) (k : Kp l H H') : SelfAt C H' a g r l t := by
  obtain ⟨kvs, e⟩ := hl.dict
  have n : a ≠ l := h.ne e (fun D dx fs z => by cases z)
  obtain ⟨dx, q⟩ := h
  exact ⟨dx, k _ _ q n⟩
def spLiteral (C : Addr) : Sp := fun vs H Q _ => ∃ (a g r l : Addr) (t w : List Nat) (s e : Nat), vs = [.ref a, .str (tx w), .int (s : Nat), .int (e : Nat)] ∧ SelfAt C H a g r l t ∧ LitOk H l t ∧ w ∈ litW ∧ s ≤ t.length ∧ e ≤ t.length ∧ t.length ≤ 40 ∧
  ∀ H' v, Kp l H H' → LitOk H' l t → HasMv H' v (Md.dist (Md.seg t s e) w, w) → Q v H'
section
variable {P : Program} {w : World} {K : PySem.W.Frag} {mg : Str → Option Value} {base : Heap} {C : Addr}
theorem scLit : FnScope ["self", "wanted", "start", "end", "key"] ["self", "wanted", "start", "end"] (defScope sLiteral) := ⟨rfl, rfl, rfl, by decide +kernel, rfl, by decide +kernel, by decide +kernel⟩
theorem ok_literal {f fc : Addr} {fd fdc : FuncData} (F : Fun K "literal" "Mender.literal" sLiteral f fd) (T : Bi mg) (T2 : MC K C) (D_count : Df K mg "change_count" sChCount ["first", "second"] fc fdc) (G_count : FnOk P w K mg base CX0 2 fc fdc ["first", "second"] spCount) :
    FnOk P w K mg base CX0 3 f fd ["self", "wanted", "start", "end"] (spLiteral C) := by
  refine F.ok scLit (fun vs H Q E h => ?_) (fun cdv A outer s H vs Q E hr h => ?_)
  · obtain ⟨a, g, r, l, t, w, s, e, rfl, _⟩ := h
    rfl
  · obtain ⟨a, g, r, l, t, wd, s', e, rfl, hs, hl, hw, h1, h2, h3, k⟩ := h
    refine ⟨_, (pss_cons (ps_set (i := 4) scLit.nd rfl (Or.inl rfl) (pe_tup (pa_cons (pv 1) (pa_cons (pv 2) (pa_cons (pv 3) pa_nil)))))
    (pss_cons (ps_if (pt_cmp (pc_dnotin (hu_of hr) (pv 4) (pe_fld (pv 0) rfl)))
      (pss_one (ps_dput (hu_of hr) (pe_fld (pv 0) rfl) (pv 4) (pe_tup (pa_cons (pe_call G_count (hr.mono (by decide)) (by rfl) D_count.g D_count.F.kp D_count.b .nil pass0 (pa_cons (pe_slice sl_str (pe_fld (pv 0) rfl) (po_some (pv 2)) (po_some (pv 3))) (pa_cons (pv 1) pa_nil))) (pa_cons (pe_callB call_len_str (by rfl) T.len PySem.boot_len (pa_cons (pv 1) pa_nil)) (pa_cons (pv 1) pa_nil)))) rfl))
      pss_nil)
    (pss_one (ps_ret (pe_dget (hu_of hr) (pe_fld (pv 0) rfl) (pv 4) (fun _ _ => rfl)))))), ?_⟩
    refine ⟨_, rfl, _, rfl, _, rfl, sz3, fun p hp => ?_⟩
    obtain ⟨dx, hs⟩ := hs
    obtain ⟨L, el, nd, hL⟩ := hl
    have wl : wd.length ≤ 2 := by
      unfold litW at hw
      simp only [List.mem_cons, List.not_mem_nil, or_false] at hw
      rcases hw with rfl | rfl | rfl | rfl <;> decide
    have up : ∀ b o, H b = some o → upd H p (.tup [.str (tx wd), .int (s' : Nat), .int (e : Nat)]) b = some o := fun b o q => by rw [upd_ne (ne_of_none q hp)]; exact q
    have hk : upd H p (.tup [.str (tx wd), .int (s' : Nat), .int (e : Nat)]) p = some (.tup ((keyL (wd, s', e)).map kV)) := upd_same
    have dg := DGet.t (k := keyL (wd, s', e)) (up _ _ el) hk
    rw [valV_inj keyL_inj] at dg
    refine ⟨_, rfl, _, rfl, a, C, dx, _, _, rfl, up _ _ hs, T2.cl, T2.nL, lkL, l, _, rfl, dg, _, rfl, ?_⟩
    cases hv : valV L (wd, s', e) with
    | some v =>
      rw [hv] at dg
      refine iteF ?_
      refine ⟨_, rfl, a, C, dx, _, _, rfl, up _ _ hs, T2.cl, T2.nL, lkL, _, rfl, l, v, rfl, dg, ?_⟩
      refine k _ v (Kp.of up) ⟨L, up _ _ el, nd, fun q hq => ?_⟩ ?_
      · obtain ⟨x, y, z, u⟩ := hL q hq
        exact ⟨x, y, z, u.same up⟩
      · exact (hL _ (valV_mem hv)).2.2.2.same up
    | none =>
      refine iteT ?_
      have hseg : (Md.seg t s' e).length ≤ 40 := by unfold Md.seg; rw [List.length_take, List.length_drop]; omega
      refine ⟨_, rfl, a, C, dx, _, _, rfl, up _ _ hs, T2.cl, T2.nT, lkT, _, rfl, _, rfl, _, rfl, _, rfl, _, rfl, sz _ (by rw [tx_len]; omega), ?_⟩
      rw [cut_seg h1 h2]
      refine ⟨_, rfl, tx (Md.seg t s' e), tx wd, rfl, by rw [tx_len]; omega, by rw [tx_len]; omega, fun H1 s1 => ?_⟩
      refine ⟨_, rfl, tx wd, rfl, sz _ (by rw [tx_len]; omega), _, rfl, sz3, fun T hT => ?_⟩
      have up1 : ∀ b o, H b = some o → upd H1 T (.tup [.int ((Md.dist (tx (Md.seg t s' e)).cps.toList (tx wd).cps.toList : Nat) : Int), .int ((tx wd).length : Nat), .str (tx wd)]) b = some o := fun b o q => by
        have := s1 _ _ (up _ _ q)
        rw [upd_ne (ne_of_none this hT)]; exact this
      have hk1 : upd H1 T (.tup [.int ((Md.dist (tx (Md.seg t s' e)).cps.toList (tx wd).cps.toList : Nat) : Int), .int ((tx wd).length : Nat), .str (tx wd)]) p = some (.tup ((keyL (wd, s', e)).map kV)) := by
        have := s1 _ _ hk
        rw [upd_ne (ne_of_none this hT)]; exact this
      have hv0 : HasMv (upd H1 T (.tup [.int ((Md.dist (tx (Md.seg t s' e)).cps.toList (tx wd).cps.toList : Nat) : Int), .int ((tx wd).length : Nat), .str (tx wd)])) (.ref T) (Md.dist (Md.seg t s' e) wd, wd) := by
        refine ⟨T, rfl, ?_⟩
        rw [upd_same, tx_len]; rfl
      have few := lit_few nd fun q hq => let ⟨x, y, z, _⟩ := hL q hq; ⟨x, y, z⟩
      refine ⟨_, rfl, a, C, dx, _, _, rfl, up1 _ _ hs, T2.cl, T2.nL, lkL, _, rfl, l, _, rfl, DPut.t (k := keyL (wd, s', e)) (up1 _ _ el) hk1 (by rw [List.length_map]; exact szlt _ (by omega)), ?_⟩
      rw [putK_inj keyL_inj]
      generalize hH2 : upd H1 T (.tup [.int ((Md.dist (tx (Md.seg t s' e)).cps.toList (tx wd).cps.toList : Nat) : Int), .int ((tx wd).length : Nat), .str (tx wd)]) = H2 at up1 hk1 hv0 ⊢
      have tp : Tp H2 (upd H2 l (.dT ((putK L (wd, s', e) (.ref T)).map fun q => (keyL q.1, q.2)))) := tp_upd fun xs z => by rw [up1 _ _ el] at z; cases z
      have nl : a ≠ l := fun z => by rw [z, el] at hs; cases hs
      have dg2 := DGet.t (k := keyL (wd, s', e)) (H := upd H2 l (.dT ((putK L (wd, s', e) (.ref T)).map fun q => (keyL q.1, q.2)))) upd_same (tp _ _ hk1)
      rw [valV_inj keyL_inj, valV_put, if_pos rfl] at dg2
      refine ⟨_, rfl, a, C, dx, _, _, rfl, by rw [upd_ne nl]; exact up1 _ _ hs, T2.cl, T2.nL, lkL, _, rfl, l, _, rfl, dg2, ?_⟩
      refine k _ _ (fun b o q n => by rw [upd_ne n]; exact up1 _ _ q) ⟨putK L (wd, s', e) (.ref T), upd_same, putK_nodup nd, fun q hq => ?_⟩ (hv0.tp tp)
      rcases putK_mem nd hq with rfl | ⟨hq, _⟩
      · exact ⟨hw, by show s' ≤ 40; omega, by show e ≤ 40; omega, hv0.tp tp⟩
      · obtain ⟨x, y, z, u⟩ := hL q hq
        exact ⟨x, y, z, (u.same up1).tp tp⟩
end
end Ms
end TextD4
section TextR3
set_option linter.all false
set_option maxRecDepth 100000
/-! Comprehensions that leave the heap alone; dict comprehensions over anything. -/
namespace Ms
open PySem PySem.Spec PyProof.Rows L2
section
variable {J : It} {n : Nat} {G : Hp → Prop} {g : TG} {tt : TT} {te tk tv : TE} {vs : List Nat} {σ : L2.St} {H1 : Hp} {D : Addr} {Qd : Hp → Prop}
/-- each of xs asked and read with no change of the heap -/
theorem lc_flat {xs : List V} (w : Walk J xs.length G (YAt xs)) (p : V → Bool) (f : V → V) (hG : ∀ acc, G (upd H1 D (.lst acc))) (hz : xs.length ≤ 1000000)
    (hs : ∀ x ∈ xs, ∀ (acc : List V) (Y : V → Hp → Prop) (N : Hp → Prop), (p x = true → Y (f x) (upd H1 D (.lst acc))) → (p x = false → N (upd H1 D (.lst acc))) →
      g x (wipe σ vs) (upd H1 D (.lst acc)) fun σ2 H2 => wipe σ2 vs = wipe σ vs ∧ tt σ2 H2 fun b H3 => if b = true then te σ2 H3 Y else N H3)
    (hd : Qd (upd H1 D (.lst ((xs.filter p).map f)))) :
    ∃ W : Nat → Nat → Hp → Prop, (∃ m, W 0 m (upd H1 D (.lst []))) ∧ ∀ i m H, W i m H →
      (J.stop i H ∧ Qd H) ∨ (J.go i H ∧ ∃ Nx : Hp → Prop, (∀ H', Nx H' → ∃ m', m' < m ∧ W (i + 1) m' H') ∧ ∀ x H', J.yld i H x H' → g x (wipe σ vs) H' fun σ2 H2 => wipe σ2 vs = wipe σ vs ∧ tt σ2 H2 fun b H3 =>
        if b = true then te σ2 H3 fun y H4 => ∃ acc, H4 D = some (.lst acc) ∧ acc.length < sizeLine ∧ Nx (upd H4 D (.lst (acc ++ [y]))) else Nx H3) := by
  have up : ∀ (a b : List V), upd (upd H1 D (.lst a)) D (.lst b) = upd H1 D (.lst b) := fun a b => by
    funext c
    by_cases z : c = D
    · rw [z, upd_same, upd_same]
    · rw [upd_ne z, upd_ne z, upd_ne z]
  refine lc_it w (fun i H => H = upd H1 D (.lst (((xs.take i).filter p).map f))) rfl (fun i H _ e => by rw [e]; exact hG _) (fun i x H H' hi e y => ?_) (fun H e => by rw [e, List.take_length]; exact hd)
  obtain ⟨rfl, hx⟩ := y
  subst e
  have tk : xs.take (i + 1) = xs.take i ++ [x] := by
    rw [List.take_add_one, hx]; rfl
  refine hs x (List.mem_of_getElem? hx) _ _ _ (fun hp => ⟨_, upd_same, ?_, ?_⟩) fun hp => ?_
  · rw [List.length_map]
    refine szlt _ (Nat.le_trans (List.length_filter_le _ _) ?_)
    rw [List.length_take]; omega
  · rw [up, tk, List.filter_append, List.map_append, List.filter_cons, if_pos hp]; rfl
  · rw [tk, List.filter_append, List.filter_cons, if_neg (by rw [hp]; decide)]
    show _ = upd H1 D (.lst (((xs.take i).filter p ++ []).map f))
    rw [List.append_nil]
/-- a dict comprehension over any walk -/
theorem dc_it {Y : Nat → Hp → V → Hp → Prop} (w : Walk J n G Y) (Pv : Nat → Hp → Prop) (h0 : Pv 0 (upd H1 D (.dK []))) (hG : ∀ i H, i ≤ n → Pv i H → G H)
    (hs : ∀ i x H H', i < n → Pv i H → Y i H x H' → g x (wipe σ vs) H' fun σ2 H2 => wipe σ2 vs = wipe σ vs ∧ tt σ2 H2 fun b H3 =>
      if b = true then tk σ2 H3 fun y H4 => tv σ2 H4 fun z H5 => ∃ kvs k, y = kV k ∧ H5 D = some (.dK kvs) ∧ kvs.length < sizeLine ∧ Pv (i + 1) (upd H5 D (.dK (putK kvs k z))) else Pv (i + 1) H3) (hd : ∀ H, Pv n H → Qd H) :
    ∃ W : Nat → Nat → Hp → Prop, (∃ m, W 0 m (upd H1 D (.dK []))) ∧ ∀ i m H, W i m H →
      (J.stop i H ∧ Qd H) ∨ (J.go i H ∧ ∃ Nx : Hp → Prop, (∀ H', Nx H' → ∃ m', m' < m ∧ W (i + 1) m' H') ∧ ∀ x H', J.yld i H x H' → g x (wipe σ vs) H' fun σ2 H2 => wipe σ2 vs = wipe σ vs ∧ tt σ2 H2 fun b H3 =>
        if b = true then tk σ2 H3 fun y H4 => tv σ2 H4 fun z H5 => ∃ kvs k, y = kV k ∧ H5 D = some (.dK kvs) ∧ kvs.length < sizeLine ∧ Nx (upd H5 D (.dK (putK kvs k z))) else Nx H3) := by
  refine ⟨fun i m H => m + i = n ∧ Pv i H, ⟨n, rfl, h0⟩, fun i m H ⟨e, pv⟩ => ?_⟩
  have g0 := hG i H (by omega) pv
  cases m with
  | zero =>
    obtain rfl : i = n := by omega
    exact .inl ⟨w.stops H g0, hd H pv⟩
  | succ m =>
    have hi : i < n := by omega
    exact .inr ⟨w.goes i H hi g0, Pv (i + 1), fun H' q => ⟨m, Nat.lt_succ_self _, by omega, q⟩, fun x H' y => hs i x H H' hi pv (w.yields i H x H' hi g0 y)⟩
end
theorem tyesI {σ : L2.St} {H : Hp} {A B : Hp → Prop} (h : A H) : tYes σ H fun b H3 => if b = true then A H3 else B H3 := by
  show (if true = true then A H else B H)
  rw [if_pos rfl]; exact h
def chV (c : Nat) : V := .str ⟨#[c]⟩
theorem walk_strs {z : Str} : Walk (Its z) (z.cps.toList.map chV).length (fun _ => True) (YAt (z.cps.toList.map chV)) := by
  have hl : (z.cps.toList.map chV).length = z.cps.size := by rw [List.length_map]; rfl
  rw [hl]
  refine Walk.mono walk_str (fun _ h => h) fun i H x H' hi _ ⟨e, c, hc, ex⟩ => ⟨e, ?_⟩
  rw [List.getElem?_map, Array.getElem?_toList, hc, ex]; rfl
/-- the items of a filtered text -/
theorem filter_ch (p : V → Bool) (L : List Nat) : ((L.map chV).filter p) = (L.filter fun c => p (chV c)).map chV := by
  rw [List.filter_map]; rfl
theorem map_id_of {l : List V} {f : V → V} (h : ∀ x ∈ l, f x = x) : l.map f = l := by
  have := List.map_congr_left (f := f) (g := id) h
  rw [this, List.map_id]
end Ms
end TextR3
section TextD5
set_option linter.all false
set_option maxRecDepth 100000
namespace Ms
open PySem PySem.Spec PyProof.Rows L2
/-! ### the mender's objects -/
structure Mr where
  a : Addr
  g : Addr
  r : Addr
  l : Addr
  row : Nat → Addr
  cell : Nat → Str → Addr
structure MAt (C : Addr) (H : Hp) (M : Mr) (t : List Nat) (ns : List Str) (R : Md.Rows Str) : Prop where
  self : SelfAt C H M.a M.g M.r M.l t
  lit : LitOk H M.l t
  rows : H M.r = some (.lst ((List.range (t.length + 1)).map fun i => V.ref (M.row i)))
  row : ∀ i, i ≤ t.length → H (M.row i) = some (.dK (ns.map fun n => (.inr n, V.ref (M.cell i n))))
  cell : ∀ i n, i ≤ t.length → n ∈ ns → MdAt H (M.cell i n) (R i n) t.length
theorem MAt.kp {C : Addr} {H H' : Hp} {M : Mr} {t : List Nat} {ns : List Str} {R : Md.Rows Str} (h : MAt C H M t ns R) (k : Kp M.l H H') (hl : LitOk H' M.l t) : MAt C H' M t ns R := by
  obtain ⟨kvs, e⟩ := h.lit.dict
  refine ⟨h.self.kp h.lit k, hl, k _ _ h.rows (ne_of h.rows e (fun z => by cases z)), fun i hi => k _ _ (h.row i hi) (ne_of (h.row i hi) e (fun z => by cases z)), fun i n hi hn => ?_⟩
  obtain ⟨kv2, e2⟩ := (h.cell i n hi hn).dict
  exact (h.cell i n hi hn).keep' (fun o q => k _ _ q (ne_of e2 e (fun z => by cases z))) (k.tp e)
theorem MAt.same {C : Addr} {H H' : Hp} {M : Mr} {t : List Nat} {ns : List Str} {R : Md.Rows Str} (h : MAt C H M t ns R) (k : L2.Same H H') : MAt C H' M t ns R :=
  h.kp (Kp.of k) (h.lit.keep (fun o => k _ o) fun b xs => k b _)
/-! ### symbols -/
def kindS : Md.Sy Str → Str
  | .lit _ => "lit"
  | .cls _ => "class"
  | .nt _ => "nt"
def bodyS : Md.Sy Str → Str
  | .lit w => tx w
  | .cls w => tx w
  | .nt n => n
def syV (y : Md.Sy Str) : List V := [.str (kindS y), .str (bodyS y)]
def SymAt (H : Hp) (a : Addr) (y : Md.Sy Str) : Prop := H a = some (.tup (syV y))
def SyOk (ns : List Str) : Md.Sy Str → Prop
  | .lit w => w ∈ litW
  | .cls cs => cs.Pairwise (· < ·) ∧ cs ≠ [] ∧ cs.length ≤ 2
  | .nt n => n ∈ ns
/-- None, or a mend -/
def OMv (H : Hp) (v : V) : Option Md.Mv → Prop
  | none => v = .non
  | some m => HasMv H v m
theorem OMv.of {H : Hp} {o : Option V} {m : Option Md.Mv} (h : ORel H m o) : OMv H (o.getD .non) m := by
  cases m with
  | none => rw [h.none']; rfl
  | some m => obtain ⟨v, rfl, k⟩ := h.some'; exact k
theorem val_name {ns : List Str} {f : Str → V} {n : Str} (h : n ∈ ns) : valV (ns.map fun n => ((.inr n : Key), f n)) (.inr n) = some (f n) := by
  induction ns with
  | nil => cases h
  | cons m ns ih =>
    rw [List.map_cons]
    by_cases z : m = n
    · rw [valV_pos (by rw [z]), z]
    · rw [valV_neg (fun q => z (by injection q))]
      exact ih (by rcases List.mem_cons.mp h with e | e; exact absurd e.symm z; exact e)
def spOne (C : Addr) : Sp := fun vs H Q _ => ∃ (M : Mr) (p : Addr) (t : List Nat) (ns : List Str) (R : Md.Rows Str) (y : Md.Sy Str) (s e : Nat), vs = [.ref M.a, .ref p, .int (s : Nat), .int (e : Nat)] ∧ MAt C H M t ns R ∧ SymAt H p y ∧ SyOk ns y ∧
  s ≤ e ∧ e ≤ t.length ∧ t.length ≤ 40 ∧ ∀ H' v, Kp M.l H H' → LitOk H' M.l t → OMv H' v (Md.oneV R t y s e) → Q v H'
theorem nk1 : ¬ V.str ("class" : Str) = V.str ("lit" : Str) := by decide +kernel
theorem nk2 : ¬ V.str ("nt" : Str) = V.str ("lit" : Str) := by decide +kernel
theorem nk3 : ¬ V.str ("class" : Str) = V.str ("nt" : Str) := by decide +kernel
theorem nk4 : ¬ V.str ("lit" : Str) = V.str ("nt" : Str) := by decide +kernel
section
variable {P : Program} {w : World} {K : PySem.W.Frag} {mg : Str → Option Value} {base : Heap} {C : Addr}
theorem scOne : FnScope ["self", "symbol", "start", "end", "there", "char"] ["self", "symbol", "start", "end"] (defScope sOne) := ⟨rfl, rfl, rfl, by decide +kernel, rfl, by decide +kernel, by decide +kernel⟩
theorem ok_one {f fl : Addr} {fd fdl : FuncData} (F : Fun K "one" "Mender.one" sOne f fd) (T : Bi mg) (T2 : MC K C) (M_literal : Meth K C "literal" fl) (B_literal : Binds K fdl ["self", "wanted", "start", "end"] [])
    (G_literal : FnOk P w K mg base CX0 3 fl fdl ["self", "wanted", "start", "end"] (spLiteral C)) :
    FnOk P w K mg base CX0 4 f fd ["self", "symbol", "start", "end"] (spOne C) := by
  refine F.ok scOne (fun vs H Q E h => ?_) (fun cdv A outer s H vs Q E hr h => ?_)
  · obtain ⟨M, p, t, ns, R, y, s, e, rfl, _⟩ := h
    rfl
  · obtain ⟨M, p, t, ns, R, y, s', e, rfl, m, hy, oy, h1, h2, h3, k⟩ := h
    refine ⟨_, (pss_cons (ps_if (pt_cmpR op_eq (pe_ix ix_tup (pv 1) pe_int (fun _ _ => rfl)) pe_str (nomark _))
      (pss_one (ps_ret (pe_meth (pv 0) T2.cl M_literal G_literal (hr.mono (by decide)) B_literal .nil pass0 (pa_cons (pe_ix ix_tup (pv 1) pe_int (fun _ _ => rfl)) (pa_cons (pv 2) (pa_cons (pv 3) pa_nil))))))
      pss_nil)
    (pss_cons (ps_if (pt_cmpR op_eq (pe_ix ix_tup (pv 1) pe_int (fun _ _ => rfl)) pe_str (nomark _))
      (pss_one (ps_ret (pe_dget1 (hu_of hr) (pe_dget (hu_of hr) (pe_ix ix_list (pe_fld (pv 0) rfl) (pv 2) (fun _ _ => rfl)) (pe_ix ix_tup (pv 1) pe_int (fun _ _ => rfl)) (fun _ _ => rfl)) (pv 3) ⟨rfl, rfl, rfl, rfl⟩)))
      pss_nil)
    (pss_cons (ps_setLc (i := 4) (own := [("char", 5)]) (g := gName 5) rfl scOne.nd rfl rfl (sw_true rfl rfl rfl (by decide +kernel)) (pi_str (pe_slice sl_str (pe_fld (pv 0) rfl) (po_some (pv 2)) (po_some (pv 3)))) (blkOk_by (N := ["self", "symbol", "start", "end", "there", "char"]) (sc := defScope sOne) (by decide +kernel)) (fun _ _ _ _ _ => pg_name (i := 5) scOne.nd rfl (Or.inl rfl)) (fun _ _ _ _ _ => (pts_one (pt_cmpR op_in_sign (pv 5) (pe_ix (r := rIxT K) ix_tup (pv 1) pe_int (fun _ _ => rfl)) (by rfl)))) (fun _ _ _ _ _ => (pv 5)))
    (pss_cons (ps_if (pt_truth (pv 4) (by intro _; rfl))
      (pss_one (ps_ret (pe_tup (pa_cons (pe_op op_sub (pe_op op_sub (pv 3) (pv 2)) pe_int) (pa_cons pe_int (pa_cons (pe_callB (cr_minS rfl) (by rfl) T.min (by decide +kernel) (pa_cons (pv 4) pa_nil)) pa_nil))))))
      pss_nil)
    (pss_one (ps_ret (pe_tup (pa_cons (pe_callB (call_max2 rfl) (by rfl) T.max (by decide +kernel) (pa_cons pe_int (pa_cons (pe_op op_sub (pv 3) (pv 2)) pa_nil))) (pa_cons pe_int (pa_cons (pe_ix ix_str (pe_ix ix_tup (pv 1) pe_int (fun _ _ => rfl)) pe_int (fun _ _ => rfl)) pa_nil)))))))))), ?_⟩
    obtain ⟨dx, hs⟩ := m.self
    have hy : H p = some (.tup (syV y)) := hy
    refine ⟨_, rfl, p, _, _, _, rfl, rfl, SqT.of hy, rfl, rfl, _, rfl, ?_⟩
    refine ite2 (fun e1 => ?_) (fun e1 => ?_)
    · cases y with
      | cls cs => exact absurd (of_decide_eq_true e1) nk1
      | nt n => exact absurd (of_decide_eq_true e1) nk2
      | lit wd =>
        refine ⟨_, rfl, M.a, dx, _, rfl, hs, rfl, _, rfl, p, _, _, _, rfl, rfl, SqT.of hy, rfl, _, rfl, _, rfl, ?_⟩
        exact ⟨M.a, M.g, M.r, M.l, t, wd, s', e, rfl, ⟨dx, hs⟩, m.lit, oy, by omega, h2, h3, fun H' v a b c => k H' v a b c⟩
    · refine ⟨_, rfl, p, _, _, _, rfl, rfl, SqT.of hy, rfl, rfl, _, rfl, ?_⟩
      refine ite2 (fun e2 => ?_) (fun e2 => ?_)
      · cases y with
        | cls cs => exact absurd (of_decide_eq_true e2) nk3
        | lit n => exact absurd (of_decide_eq_true e2) nk4
        | nt n =>
          have ri : ((List.range (t.length + 1)).map fun i => V.ref (M.row i))[s']? = some (.ref (M.row s')) := by rw [List.getElem?_map, List.getElem?_range (by omega)]; rfl
          have dg := DGet.k (k := .inr n) (m.row s' (by omega))
          rw [val_name (f := fun n => V.ref (M.cell s' n)) oy] at dg
          have cl := m.cell s' n (by omega) oy
          obtain ⟨o, dg2, ro⟩ := cl.get e
          refine ⟨_, rfl, M.a, C, dx, _, _, rfl, hs, T2.cl, T2.nR, lkR, _, rfl, M.r, _, _, _, rfl, rfl, SqL.of m.rows, atI_nat ri, _, rfl, p, _, _, _, rfl, rfl, SqT.of hy, rfl, M.row s', _, rfl, dg, M.cell s' n, rfl, cl.isD, _, rfl, o, dg2, ?_⟩
          exact k H _ (Kp.refl _ _) m.lit (OMv.of ro)
      · obtain ⟨cs, rfl⟩ : ∃ cs, y = .cls cs := by
          cases y with
          | cls cs => exact ⟨cs, rfl⟩
          | lit wd => exact absurd (decide_eq_true rfl) e1
          | nt n => exact absurd (decide_eq_true rfl) e2
        obtain ⟨c1, c2, c3⟩ := oy
        have hseg : (Md.seg t s' e).length = e - s' := Md.seg_len h2
        refine ⟨_, rfl, M.a, C, dx, _, _, rfl, hs, T2.cl, T2.nT, lkT, _, rfl, _, rfl, _, rfl, _, rfl, _, rfl, sz _ (by rw [tx_len]; omega), _, rfl, fun D hD => ?_⟩
        rw [cut_seg (by omega) h2]
        refine lc_flat (xs := (Md.seg t s' e).map chV) walk_strs (fun v => match v with | .str z => decide (z.cps.toList.getD 0 0 ∈ cs) | _ => false) id (fun _ => trivial) (by rw [List.length_map]; omega) (fun x hx acc Y N hY hN => ?_) ?_
        · obtain ⟨c, hc, rfl⟩ := List.mem_map.mp hx
          have up : ∀ b o, H b = some o → upd H D (.lst acc) b = some o := fun b o q => by rw [upd_ne (ne_of_none q hD)]; exact q
          refine ⟨rfl, _, rfl, _, rfl, p, _, _, _, rfl, rfl, SqT.of (up _ _ hy), rfl, c, _, rfl, rfl, _, rfl, ?_⟩
          refine ite2 (fun q => ⟨_, rfl, hY q⟩) (fun q => hN (decide_eq_false fun z => q (decide_eq_true z)))
        · rw [List.map_id, filter_ch]
          have ef : (Md.seg t s' e).filter (fun c => match chV c with | .str z => decide (z.cps.toList.getD 0 0 ∈ cs) | _ => false) = (Md.seg t s' e).filter fun c => cs.contains c := by
            refine List.filter_congr fun c _ => ?_
            show decide (c ∈ cs) = cs.contains c
            rw [List.contains_eq_mem]
          rw [ef]
          generalize hFL : (Md.seg t s' e).filter (fun c => cs.contains c) = FL
          have cv : Md.clsV cs (Md.seg t s' e) = Md.clsV cs (Md.seg t s' e) := rfl
          have up : ∀ b o, H b = some o → upd H D (.lst (FL.map chV)) b = some o := fun b o q => by rw [upd_ne (ne_of_none q hD)]; exact q
          have ld := m.lit.keep (fun o => up _ o) fun b xs => up b _
          have flz : FL.length ≤ 40 := by rw [← hFL]; exact Nat.le_trans (List.length_filter_le _ _) (by omega)
          have hy2 := up _ _ hy
          have fin : ∀ (T : Addr) (mv : Md.Mv) (xs : List V), upd H D (.lst (FL.map chV)) T = none → xs = mvV mv → Md.clsV cs (Md.seg t s' e) = mv → Q (.ref T) (upd (upd H D (.lst (FL.map chV))) T (.tup xs)) := fun T mv xs hT e1 e2 => by
            have up2 : ∀ b o, H b = some o → upd (upd H D (.lst (FL.map chV))) T (.tup xs) b = some o := fun b o q => by rw [upd_ne (ne_of_none (up _ _ q) hT)]; exact up _ _ q
            refine k _ _ (Kp.of up2) (m.lit.keep (fun o => up2 _ o) fun b xs => up2 b _) ?_
            show HasMv _ _ _
            rw [e2]
            exact ⟨T, rfl, by rw [upd_same, e1]⟩
          refine ⟨_, rfl, _, .inl ⟨_, SqL.of upd_same, rfl⟩, ?_⟩
          cases hfe : FL with
          | nil =>
            rw [hfe] at up hy2 fin
            refine iteF ?_
            obtain ⟨c0, cs', rfl⟩ : ∃ c0 cs', cs = c0 :: cs' := by
              cases cs with
              | nil => exact absurd rfl c2
              | cons a b => exact ⟨a, b, rfl⟩
            refine ⟨_, rfl, _, rfl, _, _, rfl, rfl, _, _, rfl, _, rfl, p, _, _, _, rfl, rfl, SqT.of hy2, rfl, tx (c0 :: cs'), _, c0, rfl, rfl, sz _ (by rw [tx_len]; show (c0 :: cs').length ≤ 1000000; omega), (show atI (tx (c0 :: cs')).cps.toList ((0 : Nat) : Int) = some c0 from atI_nat rfl), sz3, fun T hT => ?_⟩
            refine fin T (max 1 (Md.seg t s' e).length, [c0]) _ hT ?_ ?_
            · rw [hseg]
              show _ = ([.int ((max 1 (e - s') : Nat) : Int), .int 1, .str ⟨#[c0]⟩] : List V)
              have : (if ((e : Nat) : Int) - ((s' : Nat) : Int) > 1 then ((e : Nat) : Int) - ((s' : Nat) : Int) else 1) = ((max 1 (e - s') : Nat) : Int) := by
                split <;> omega
              rw [← this]
            · unfold Md.clsV
              rw [hFL, hfe]
              rfl
          | cons c1 FL' =>
            rw [hfe] at up hy2 fin
            refine iteT ?_
            refine ⟨_, rfl, _, rfl, _, _, rfl, rfl, _, _, rfl, rfl, _, rfl, D, c1 :: FL', rfl, SqL.of upd_same, List.cons_ne_nil _ _, fun mn hm hle => ⟨sz3, fun T hT => ?_⟩⟩
            have hpos : 1 ≤ e - s' := by
              have : 0 < (Md.seg t s' e).length := by
                have h0 : ((Md.seg t s' e).filter fun c => cs.contains c).length ≤ (Md.seg t s' e).length := List.length_filter_le _ _
                rw [hFL, hfe, List.length_cons] at h0
                omega
              omega
            refine fin T ((Md.seg t s' e).length - 1, [mn]) _ hT ?_ ?_
            · rw [hseg]
              show _ = ([.int ((e - s' - 1 : Nat) : Int), .int 1, .str ⟨#[mn]⟩] : List V)
              have : ((e : Nat) : Int) - ((s' : Nat) : Int) - 1 = ((e - s' - 1 : Nat) : Int) := by omega
              rw [← this]
            · unfold Md.clsV
              rw [hFL, hfe]
              have : (c1 :: FL').min? = some mn := by
                rw [List.min?_eq_some_iff]
                exact ⟨hm, fun b hb => hle b hb⟩
              rw [this]
end
end Ms
end TextD5
section TextD6
set_option linter.all false
set_option maxRecDepth 100000
namespace Ms
open PySem PySem.Spec PyProof.Rows L2
def SymsAt (H : Hp) (p : Addr) (ss : List (Md.Sy Str)) : Prop := ∃ L : List (Addr × Md.Sy Str), L.map (·.2) = ss ∧ H p = some (.lst (L.map fun q => V.ref q.1)) ∧ ∀ q ∈ L, SymAt H q.1 q.2
theorem SymAt.kp {l a : Addr} {H H' : Hp} {y : Md.Sy Str} {kvs : List (List Key × V)} (h : SymAt H a y) (k : Kp l H H') (hl : H l = some (.dT kvs)) : SymAt H' a y := k.tp hl _ _ h
theorem SymsAt.kp {l p : Addr} {H H' : Hp} {ss : List (Md.Sy Str)} {kvs : List (List Key × V)} (h : SymsAt H p ss) (k : Kp l H H') (hl : H l = some (.dT kvs)) : SymsAt H' p ss :=
  let ⟨L, a, b, c⟩ := h
  ⟨L, a, k _ _ b (ne_of b hl (fun z => by cases z)), fun q hq => SymAt.kp (c q hq) k hl⟩
theorem SymsAt.same {p : Addr} {H H' : Hp} {ss : List (Md.Sy Str)} (h : SymsAt H p ss) (k : L2.Same H H') : SymsAt H' p ss :=
  let ⟨L, a, b, c⟩ := h
  ⟨L, a, k _ _ b, fun q hq => k _ _ (c q hq)⟩
theorem Kp.free {l p : Addr} {H H' : Hp} (k : Kp l H H') (hp : H' p = none) (hl : ∃ o, H' l = some o) : H p = none := by
  cases e : H p with
  | none => rfl
  | some o =>
    have n : p ≠ l := fun z => by obtain ⟨u, hu⟩ := hl; rw [z, hu] at hp; cases hp
    rw [k _ _ e n] at hp; cases hp
theorem MdAt.kp {H H' : Hp} {c l : Addr} {f : Md.Ends} {N : Nat} {t : List Nat} (h : MdAt H c f N) (hl : LitOk H l t) (k : Kp l H H') : MdAt H' c f N := by
  obtain ⟨kvs, e⟩ := hl.dict
  obtain ⟨kv2, e2⟩ := h.dict
  exact h.keep' (fun o q => k _ _ q (ne_of e2 e (fun z => by cases z))) (k.tp e)
theorem ORel.getD {H : Hp} {o : Option V} {m : Option Md.Mv} {v : V} {u : Md.Mv} (h : ORel H m o) (hv : HasMv H v u) : HasMv H (o.getD v) (m.getD u) := by
  cases m with
  | none => rw [h.none']; exact hv
  | some m => obtain ⟨x, rfl, k⟩ := h.some'; exact k
def spRule (C : Addr) : Sp := fun vs H Q _ => ∃ (M : Mr) (p : Addr) (t : List Nat) (ns : List Str) (R : Md.Rows Str) (ss : List (Md.Sy Str)) (s : Nat), vs = [.ref M.a, .ref p, .int (s : Nat)] ∧ MAt C H M t ns R ∧ SymsAt H p ss ∧ (∀ y ∈ ss, SyOk ns y) ∧ ss.length ≤ 3 ∧
  s ≤ t.length ∧ t.length ≤ 40 ∧ (∀ m n e v, s ≤ m → R m n e = some v → v.2.length ≤ 100000) ∧ ∀ H' q, Kp M.l H H' → LitOk H' M.l t → H q = none → MdAt H' q (Md.ruleV R t ss s) t.length → Q (.ref q) H'
theorem lit2 {w : List Nat} (hw : w ∈ litW) : w.length ≤ 2 := by
  unfold litW at hw
  simp only [List.mem_cons, List.not_mem_nil, or_false] at hw
  rcases hw with rfl | rfl | rfl | rfl <;> decide
theorem one_len {R : Md.Rows Str} {t : List Nat} {ns : List Str} {y : Md.Sy Str} {s m e : Nat} {p : Md.Mv} (hy : SyOk ns y) (hl : ∀ m n e v, s ≤ m → R m n e = some v → v.2.length ≤ 100000) (hm : s ≤ m) (h : Md.oneV R t y m e = some p) : p.2.length ≤ 100000 := by
  cases y with
  | lit w =>
    cases h
    have := lit2 hy
    show w.length ≤ 100000
    omega
  | cls cs =>
    cases h
    unfold Md.clsV
    split <;> exact Nat.le_trans (Nat.le_refl 1) (by decide)
  | nt n => exact hl m n e p hm h
theorem sort_has {ys ks : List Int} (h : ys.Perm ks) {k : Int} (hk : k ∈ ks) : k ∈ ys := h.mem_iff.mpr hk
/-- the middles of a dict of mends, sorted -/
theorem MdAt.keys {H : Hp} {c : Addr} {f : Md.Ends} {N : Nat} (h : MdAt H c f N) : ∃ (kvs : List (Key × V)) (ks : List Nat), H c = some (.dK kvs) ∧ kvs.map (·.1) = (ks.map fun (k : Nat) => (k : Int)).map Sum.inl ∧ ks.Nodup ∧ ks.length ≤ N + 1 ∧ (∀ k, k ∈ ks ↔ ∃ m, f k = some m) ∧ ∀ k ∈ ks, k ≤ N := by
  obtain ⟨L, a, hn, hb, k⟩ := h
  refine ⟨_, L.map (·.1), a, ?_, hn, ?_, fun e => ?_, fun e he => ?_⟩
  · rw [List.map_map, List.map_map, List.map_map]; rfl
  · rw [List.length_map]; exact MdAt.few (H := H) (c := c) hn hb
  · have ke := k e
    constructor
    · intro he
      obtain ⟨v, hv⟩ := valV_has he
      rw [hv] at ke
      cases hf : f e with
      | none => rw [hf] at ke; exact ke.elim
      | some m => exact ⟨m, rfl⟩
    · rintro ⟨m, hm⟩
      rw [hm] at ke
      obtain ⟨v, hv, _⟩ := ke.some'
      exact List.mem_map.mpr ⟨_, valV_mem hv, rfl⟩
  · obtain ⟨q, hq, rfl⟩ := List.mem_map.mp he
    exact hb q hq
theorem MdAt.putD {H : Hp} {c : Addr} {f : Md.Ends} {N e : Nat} {v : V} {m : Md.Mv} (h : MdAt H c f N) (hN : N ≤ 1000) (he : e ≤ N) (hv : HasMv H v m) :
    ∃ kvs, H c = some (.dK kvs) ∧ kvs.length < sizeLine ∧ Tp H (upd H c (.dK (putK kvs (ik e) v))) ∧ MdAt (upd H c (.dK (putK kvs (ik e) v))) c (fun x => if x = e then some m else f x) N := by
  obtain ⟨L, a, hn, hb, k⟩ := h
  have hl := MdAt.few (H := H) (c := c) hn hb
  have t : Tp H (upd H c (.dK (putK (L.map fun q => (ik q.1, q.2)) (ik e) v))) := tp_upd fun xs z => by rw [a] at z; cases z
  refine ⟨_, a, by rw [List.length_map]; exact szlt _ (by omega), t, putK L e v, by rw [upd_same, putK_inj ik_inj], putK_nodup hn, fun q hq => ?_, fun x => ?_⟩
  · rcases putK_mem hn hq with e' | ⟨e', _⟩
    · rw [e']; exact he
    · exact hb q e'
  · rw [valV_put]
    show ORel _ (if x = e then some m else f x) (if x = e then some v else valV L x)
    by_cases z : x = e
    · rw [if_pos z, if_pos z]; exact hv.tp t
    · rw [if_neg z, if_neg z]; exact (k x).mono fun _ _ q => q.tp t
theorem MdAt.congr {H : Hp} {c : Addr} {f f' : Md.Ends} {N : Nat} (h : MdAt H c f N) (e : ∀ x, f x = f' x) : MdAt H c f' N := by
  have : f = f' := funext e
  rw [← this]; exact h
section
variable {P : Program} {w : World} {K : PySem.W.Frag} {mg : Str → Option Value} {base : Heap} {C : Addr}
theorem scRule : FnScope ["self", "symbols", "start", "size", "best", "symbol", "more", "middle", "end", "part", "whole"] ["self", "symbols", "start"] (defScope sRule) := ⟨rfl, rfl, rfl, by decide +kernel, rfl, by decide +kernel, by decide +kernel⟩
theorem ok_rule {f fo fj : Addr} {fd fdo fdj : FuncData} (F : Fun K "rule_mends" "Mender.rule_mends" sRule f fd) (T : Bi mg) (T2 : MC K C) (M_one : Meth K C "one" fo) (B_one : Binds K fdo ["self", "symbol", "start", "end"] [])
    (G_one : FnOk P w K mg base CX0 4 fo fdo ["self", "symbol", "start", "end"] (spOne C)) (D_joined : Df K mg "joined" sJoined ["first", "second"] fj fdj) (G_joined : FnOk P w K mg base CX0 1 fj fdj ["first", "second"] spJoined) :
    FnOk P w K mg base CX0 5 f fd ["self", "symbols", "start"] (spRule C) := by
  refine F.ok scRule (fun vs H Q E h => ?_) (fun cdv A outer s H vs Q E hr h => ?_)
  · obtain ⟨M, p, t, ns, R, ss, s, rfl, _⟩ := h
    rfl
  · obtain ⟨M, p, t, ns, R, ss, s', rfl, m, hss, oy, h3, hs, ht, hl, k⟩ := h
    refine ⟨_, (pss_cons (ps_set (i := 3) scRule.nd rfl (Or.inl rfl) (pe_callB call_len_str (by rfl) T.len PySem.boot_len (pa_cons (pe_fld (pv 0) rfl) pa_nil)))
    (pss_cons (ps_if (pt_not (pt_truth (pv 1) (by intro _; rfl)))
      (pss_one (ps_ret (pe_dc (own := [("end", 8)]) (g := gName 8) (tt := tYes) rfl scRule.nd (pi_range2 rfl T.range (pa_cons (pv 2) (pa_cons (pe_op op_add (pv 3) pe_int) pa_nil))) (blkOk_by (N := ["self", "symbols", "start", "size", "best", "symbol", "more", "middle", "end", "part", "whole"]) (sc := defScope sRule) (by decide +kernel)) (fun _ _ _ _ _ => pg_name (i := 8) scRule.nd rfl (Or.inl rfl)) (fun _ _ _ _ _ => pts_nil) (fun _ _ _ _ _ => (pv 8)) (fun _ _ _ _ _ => (pe_tup (pa_cons (pe_op op_sub (pv 8) (pv 2)) (pa_cons pe_int (pa_cons pe_str pa_nil))))))))
      pss_nil)
    (pss_cons (ps_set (i := 4) scRule.nd rfl (Or.inl rfl) (pe_disp (pps_cons (pv 2) (pe_tup (pa_cons pe_int (pa_cons pe_int (pa_cons pe_str pa_nil)))) pps_nil) rfl rfl (by simp) (by decide)))
    (pss_cons (ps_for PassesOwn.never rfl (pi_list (pv 1)) (pg_name (i := 5) scRule.nd rfl (Or.inl rfl))
      (pss_cons (ps_set (i := 6) scRule.nd rfl (Or.inl rfl) pe_dnewK)
      (pss_cons (ps_for PassesOwn.never rfl (pi_list (pe_callB (call_sortedDI rfl) (by rfl) T.sorted (by decide +kernel) (pa_cons (pv 4) pa_nil))) (pg_name (i := 7) scRule.nd rfl (Or.inl rfl))
        (pss_one (ps_for PassesOwn.never rfl (pi_range2 rfl T.range (pa_cons (pv 7) (pa_cons (pe_op op_add (pv 3) pe_int) pa_nil))) (pg_name (i := 8) scRule.nd rfl (Or.inl rfl))
          (pss_cons (ps_set (i := 9) scRule.nd rfl (Or.inl rfl) (pe_meth (pv 0) T2.cl M_one G_one (hr.mono (by decide)) B_one .nil pass0 (pa_cons (pv 5) (pa_cons (pv 7) (pa_cons (pv 8) pa_nil)))))
          (pss_one (ps_if (pt_cmpR op_notN (pv 9) pe_non (nomark _))
            (pss_cons (ps_set (i := 10) scRule.nd rfl (Or.inl rfl) (pe_call G_joined (hr.mono (by decide)) (by rfl) D_joined.g D_joined.F.kp D_joined.b .nil pass0 (pa_cons (pe_dget (hu_of hr) (pv 4) (pv 7) (fun _ _ => rfl)) (pa_cons (pv 9) pa_nil))))
            (pss_one (ps_dput (hu_of hr) (pv 6) (pv 8) (pe_callB (call_min2Mv rfl hr.units) (by rfl) T.min (by decide +kernel) (pa_cons (pe_dget2 (hu_of hr) (pv 6) (pv 8) (pv 10) ⟨rfl, rfl, rfl, rfl⟩) (pa_cons (pv 10) pa_nil))) rfl)))
            pss_nil))))))
      (pss_one (ps_set (i := 4) scRule.nd rfl (Or.inl rfl) (pv 6))))))
    (pss_one (ps_ret (pv 4))))))), ?_⟩
    obtain ⟨dx, hsf⟩ := m.self
    obtain ⟨kvl, el⟩ := m.lit.dict
    obtain ⟨L, eL, hp, hL⟩ := hss
    refine ⟨_, rfl, M.a, C, dx, _, _, rfl, hsf, T2.cl, T2.nT, lkT, _, rfl, sz _ (by rw [tx_len]; omega), ?_⟩
    rw [tx_len]
    refine ⟨_, rfl, _, .inl ⟨_, SqL.of hp, rfl⟩, ?_⟩
    cases L with
    | nil =>
      subst eL
      refine iteT ?_
      refine ⟨_, rfl, _, rfl, _, _, rfl, rfl, _, _, rfl, ⟨by omega, by omega, by omega, by omega⟩, fun D hD => ?_⟩
      have nDl : D ≠ M.l := fun z => by rw [z, el] at hD; cases hD
      have fold0 : ∀ i, i ≤ t.length + 1 - s' → (∀ e, (if s' ≤ e ∧ e < s' + i then some (e - s', ([] : List Nat)) else none) = (if s' ≤ e ∧ e < s' + i then some (e - s', []) else none)) := fun _ _ _ => rfl
      refine dc_it (walk_range (lo := (s' : Int)) (n := (((t.length : Nat) : Int) + 1 - (s' : Int)).toNat)) (fun i H' => Kp M.l H H' ∧ LitOk H' M.l t ∧ MdAt H' D (fun e => if s' ≤ e ∧ e < s' + i then some (e - s', []) else none) t.length) ?_ (fun _ _ _ _ => trivial) ?_ ?_
      · refine ⟨(Kp.refl _ _).upd hD, m.lit.keep (fun o q => by rw [upd_ne nDl.symm]; exact q) (tp_upd fun xs z => by rw [hD] at z; cases z), (MdAt.new _ upd_same).congr fun x => ?_⟩
        rw [if_neg (by omega)]
      · rintro i x H1 H2 hi ⟨kp, lt, md⟩ ⟨rfl, rfl⟩
        have hi' : s' + i ≤ t.length := by omega
        refine ⟨rfl, tyesI ?_⟩
        refine ⟨_, rfl, _, rfl, _, rfl, _, _, rfl, rfl, sz3, fun T hT => ?_⟩
        have up : ∀ b o, H2 b = some o → upd H2 T (.tup [.int (((s' : Nat) : Int) + (i : Nat) - ((s' : Nat) : Int)), .int 0, .str ""]) b = some o := fun b o q => by rw [upd_ne (ne_of_none q hT)]; exact q
        have hv : HasMv (upd H2 T (.tup [.int (((s' : Nat) : Int) + (i : Nat) - ((s' : Nat) : Int)), .int 0, .str ""])) (.ref T) (s' + i - s', []) := by
          refine ⟨T, rfl, ?_⟩
          rw [upd_same]
          have : (((s' : Nat) : Int) + (i : Nat) - ((s' : Nat) : Int)) = ((s' + i - s' : Nat) : Int) := by omega
          rw [this]; rfl
        have md1 := md.keep' (fun o => up _ o) fun b xs => up b _
        obtain ⟨kvs, e1, e2, tp, md2⟩ := md1.putD (by omega) hi' hv
        have ek : ik (s' + i) = Sum.inl (((s' : Nat) : Int) + (i : Nat)) := by unfold ik; congr 1
        refine ⟨kvs, ik (s' + i), by rw [ek]; rfl, e1, e2, fun b o q n => ?_, ?_, ?_⟩
        · have nb : b ≠ D := ne_of_none q hD
          rw [upd_ne nb]
          exact up _ _ (kp _ _ q n)
        · exact (lt.keep (fun o => up _ o) fun b xs => up b _).keep (fun o q => by rw [upd_ne nDl.symm]; exact q) tp
        · refine md2.congr fun x => ?_
          by_cases z : x = s' + i
          · rw [if_pos z, if_pos (by omega), z]
          · rw [if_neg z]
            by_cases y : s' ≤ x ∧ x < s' + i
            · rw [if_pos y, if_pos (by omega)]
            · rw [if_neg y, if_neg (by omega)]
      · rintro H1 ⟨kp, lt, md⟩
        refine k H1 D kp lt hD (md.congr fun x => ?_)
        unfold Md.ruleV
        show _ = if s' ≤ x ∧ x ≤ t.length then some (x - s', []) else none
        have : (s' ≤ x ∧ x < s' + (((t.length : Nat) : Int) + 1 - (s' : Int)).toNat) ↔ (s' ≤ x ∧ x ≤ t.length) := by omega
        by_cases z : s' ≤ x ∧ x ≤ t.length
        · rw [if_pos z, if_pos (this.mpr z)]
        · rw [if_neg z, if_neg (fun y => z (this.mp y))]
    | cons q0 L' =>
      refine iteF ?_
      have hne : ss ≠ [] := by rw [← eL]; exact List.cons_ne_nil _ _
      generalize q0 :: L' = L at eL hp hL
      refine fun b hb => ⟨_, rfl, sz3, fun T hT => ⟨by rw [upd_ne (ne_new hT).symm, upd_same], [(ik s', .ref T)], rfl, (show 1 ≤ 15 by decide), ?_⟩⟩
      have hTb := ne_new hT
      have hTn := upd_none hT
      have fin : ∀ x, Md.foldB R t (Md.startB s') ss x = Md.ruleV R t ss s' x := fun x => by
        unfold Md.ruleV
        have : ss.isEmpty = false := by
          cases hh : ss with
          | nil => exact absurd hh hne
          | cons a l => rfl
        rw [if_neg (by rw [this]; decide)]
      have hlist : ∀ {H' : Hp}, Kp M.l H H' → H' p = some (.lst (L.map fun q => V.ref q.1)) := fun kp => kp _ _ hp (ne_of hp el (fun z => by cases z))
      have hsym : ∀ {H' : Hp}, Kp M.l H H' → ∀ q ∈ L, SymAt H' q.1 q.2 := fun kp q hq => SymAt.kp (hL q hq) kp el
      refine ⟨_, rfl, p, rfl, ⟨L.map fun q => V.ref q.1, SqL.of ?_⟩, for_list (xs := L.map fun q => V.ref q.1) (fun i σ H' => ∃ (b : Addr) (v5 v6 v7 v8 v9 v10 : Option V), σ = [some (.ref M.a), some (.ref p), some (.int (s' : Nat)), some (.int (t.length : Nat)), some (.ref b), v5, v6, v7, v8, v9, v10] ∧
        Kp M.l H H' ∧ LitOk H' M.l t ∧ H b = none ∧ MdAt H' b (Md.foldB R t (Md.startB s') (ss.take i)) t.length ∧ (∀ m u, Md.foldB R t (Md.startB s') (ss.take i) m = some u → s' ≤ m ∧ u.2.length ≤ 100000 * i)) ?_ ?_ ?_ ?_⟩
      · have nb : p ≠ b := ne_of_none hp hb
        rw [upd_ne nb, upd_ne (ne_of_none hp hTn), upd_ne nb]; exact hp
      · have e0 : upd (upd H b (.dK [])) T (.tup [.int 0, .int 0, .str ""]) b = some (.dK []) := by rw [upd_ne hTb.symm, upd_same]
        have hv0 : HasMv (upd (upd H b (.dK [])) T (.tup [.int 0, .int 0, .str ""])) (.ref T) (0, []) := ⟨T, rfl, by rw [upd_same]; rfl⟩
        obtain ⟨kvs, e1, _, tp, md⟩ := (MdAt.new t.length e0).putD (by omega) hs hv0
        rw [e0] at e1
        cases e1
        have nlb : M.l ≠ b := ne_of_none el hb
        have nlT : M.l ≠ T := ne_of_none el hTn
        refine ⟨b, none, none, none, none, none, none, rfl, fun x o q n => ?_, ?_, hb, md, fun m' u hu => ?_⟩
        · show upd (upd (upd H b (.dK [])) T _) b _ x = some o
          rw [upd_ne (ne_of_none q hb), upd_ne (ne_of_none q hTn), upd_ne (ne_of_none q hb)]; exact q
        · refine LitOk.keep (H := upd (upd H b (.dK [])) T (.tup [.int 0, .int 0, .str ""])) (m.lit.keep (fun o q => by rw [upd_ne nlT, upd_ne nlb]; exact q) fun x xs q => by rw [upd_ne (ne_of_none q hTn), upd_ne (ne_of_none q hb)]; exact q) (fun o q => ?_) tp
          show upd _ b _ M.l = some o
          rw [upd_ne nlb]; exact q
        · rw [List.take_zero] at hu
          have hu' : (if m' = s' then some ((0, []) : Md.Mv) else none) = some u := hu
          split at hu'
          · rename_i z
            cases hu'
            exact ⟨by omega, Nat.zero_le _⟩
          · cases hu'
      · rintro i σ H1 _ ⟨b, v5, v6, v7, v8, v9, v10, rfl, kp, lt, hb, md, le⟩
        exact SqL.of (hlist kp)
      · rintro i x σ H1 hx ⟨b, v5, v6, v7, v8, v9, v10, rfl, kp, lt, hb, md, le⟩
        obtain ⟨q, hq, rfl⟩ := get_map hx
        obtain ⟨qa, y⟩ := q
        have hqm : (qa, y) ∈ L := List.mem_of_getElem? hq
        have hsy : ss[i]? = some y := by rw [← eL, List.getElem?_map, hq]; rfl
        have hil : i < 3 := by have := (List.getElem?_eq_some_iff.mp hsy).1; omega
        have hym : y ∈ ss := List.mem_of_getElem? hsy
        have tk : ss.take (i + 1) = ss.take i ++ [y] := by rw [List.take_add_one, hsy]; rfl
        generalize hB : Md.foldB R t (Md.startB s') (ss.take i) = B at md le
        have olen : ∀ m' e p, s' ≤ m' → Md.oneV R t y m' e = some p → p.2.length ≤ 100000 := fun m' e p h1 h2 => one_len (oy _ hym) hl h1 h2
        refine fun mo hmo => ?_
        have hmoH : H mo = none := kp.free hmo (let ⟨_, z⟩ := lt.dict; ⟨_, z⟩)
        have nmb : b ≠ mo := by obtain ⟨_, z⟩ := md.dict; exact ne_of_none z hmo
        obtain ⟨kvs, ks, e1, e2, e3, e4, e5, e6⟩ := md.keys
        refine ⟨_, rfl, b, kvs, ks.map fun (k : Nat) => (k : Int), rfl, .inl (by rw [upd_ne nmb]; exact e1), e2, by rw [List.length_map]; omega, fun ys pS hperm hsort hpS => ⟨pS, rfl, ⟨_, SqL.of upd_same⟩, ?_⟩⟩
        have hpS1 := upd_none hpS
        have npm := ne_new hpS
        have yN : ∀ z ∈ ys, ∃ k : Nat, z = (k : Int) ∧ k ∈ ks := fun z hz => by
          obtain ⟨k, hk, e⟩ := List.mem_map.mp (hperm.mem_iff.mp hz)
          exact ⟨k, e.symm, hk⟩
        refine for_list (xs := ys.map V.int) (fun j σ H' => ∃ v7 v8 v9 v10 : Option V, σ = [some (.ref M.a), some (.ref p), some (.int (s' : Nat)), some (.int (t.length : Nat)), some (.ref b), some (.ref qa), some (.ref mo), v7, v8, v9, v10] ∧
          Kp M.l H H' ∧ LitOk H' M.l t ∧ MdAt H' b B t.length ∧ H' pS = some (.lst (ys.map V.int)) ∧ ∃ f, MdAt H' mo f t.length ∧ ∀ e, Md.IsMin (Md.PD R t B y (fun m _ => (m : Int) ∈ ys.take j) e) (f e)) ?_ ?_ ?_ ?_
        · have up : ∀ b o, H1 b = some o → upd (upd H1 mo (.dK [])) pS (.lst (ys.map V.int)) b = some o := fun b o q => by rw [upd_ne (ne_of_none q hpS1), upd_ne (ne_of_none q hmo)]; exact q
          refine ⟨v7, v8, v9, v10, rfl, fun x o q n => up _ _ (kp _ _ q n), lt.keep (fun o => up _ o) fun b xs => up b _, md.keep' (fun o => up _ o) fun b xs => up b _, upd_same, _, MdAt.new _ (by rw [upd_ne npm.symm, upd_same]), fun e => Md.pd_congr Md.pd_start (fun _ _ _ _ _ => by rw [List.take_zero]; exact ⟨fun h => absurd h List.not_mem_nil, fun h => h.elim⟩) e⟩
        · rintro j σ H2 _ ⟨v7, v8, v9, v10, rfl, kp2, lt2, md2, hl2, f, mf, hf⟩
          exact SqL.of hl2
        · rintro j z σ H2 hz ⟨v7, v8, v9, v10, rfl, kp2, lt2, md2, hl2, f, mf, hf⟩
          obtain ⟨zi, hzi, rfl⟩ := get_map hz
          obtain ⟨mid, rfl, hmid⟩ := yN zi (List.mem_of_getElem? hzi)
          obtain ⟨u0, hu0⟩ := (e5 mid).mp hmid
          have hmN := e6 mid hmid
          obtain ⟨hsm, hul⟩ := le mid u0 hu0
          have tky : ys.take (j + 1) = ys.take j ++ [(mid : Int)] := by rw [List.take_add_one, hzi]; rfl
          refine ⟨_, rfl, _, rfl, _, _, rfl, rfl, _, _, rfl, ⟨by omega, by omega, by omega, by omega⟩, for_range (lo := (mid : Int)) (n := (((t.length : Nat) : Int) + 1 - (mid : Int)).toNat) (fun k σ H' => ∃ v8 v9 v10 : Option V, σ = [some (.ref M.a), some (.ref p), some (.int (s' : Nat)), some (.int (t.length : Nat)), some (.ref b), some (.ref qa), some (.ref mo), some (.int (mid : Nat)), v8, v9, v10] ∧
            Kp M.l H H' ∧ LitOk H' M.l t ∧ MdAt H' b B t.length ∧ H' pS = some (.lst (ys.map V.int)) ∧ ∃ f, MdAt H' mo f t.length ∧ ∀ e, Md.IsMin (Md.PD R t B y (fun m e => (m : Int) ∈ ys.take j ∨ (m = mid ∧ e < mid + k)) e) (f e)) ?_ ?_ ?_⟩
          · exact ⟨v8, v9, v10, rfl, kp2, lt2, md2, hl2, f, mf, fun e => Md.pd_congr hf (fun m e _ h1 _ => ⟨fun h => h.elim id fun ⟨e1, e2⟩ => absurd h1 (by omega), .inl⟩) e⟩
          · rintro k2 σ H3 hk2 ⟨v8, v9, v10, rfl, kp3, lt3, md3, hl3, f, mf, hf⟩
            have ee : ((mid : Nat) : Int) + ((k2 : Nat) : Int) = ((mid + k2 : Nat) : Int) := by omega
            rw [ee]
            have he : mid + k2 ≤ t.length := by omega
            generalize he0 : mid + k2 = e0 at he ⊢
            have m3 := m.kp kp3 lt3
            obtain ⟨dx3, hs3⟩ := m3.self
            
            refine ⟨_, rfl, M.a, dx3, _, rfl, hs3, rfl, _, rfl, _, rfl, _, rfl, M, qa, t, ns, R, y, mid, e0, rfl, m3, hsym kp3 _ hqm, oy _ hym, by omega, he, ht, fun H4 v kp4 lt4 ov => ?_⟩
            have kp4' := kp3.trans kp4
            have md4 := md3.kp lt3 kp4
            have mf4 := mf.kp lt3 kp4
            obtain ⟨kvl3, el3⟩ := lt3.dict
            have hl4 := kp4 _ _ hl3 (ne_of hl3 el3 (fun z => by cases z))
            refine ⟨_, rfl, rfl, _, rfl, ?_⟩
            have hDD : ∀ (m' e : Nat), ((m' : Int) ∈ ys.take j ∨ (m' = mid ∧ e < mid + (k2 + 1))) ↔ ((m' : Int) ∈ ys.take j ∨ (m' = mid ∧ e < mid + k2)) ∨ (m' = mid ∧ e = e0) := fun m' e => by
              constructor
              · rintro (h | ⟨h1, h2⟩)
                · exact .inl (.inl h)
                · by_cases z : e < mid + k2
                  · exact .inl (.inr ⟨h1, z⟩)
                  · exact .inr ⟨h1, by omega⟩
              · rintro ((h | ⟨h1, h2⟩) | ⟨h1, h2⟩)
                · exact .inl h
                · exact .inr ⟨h1, by omega⟩
                · exact .inr ⟨h1, by omega⟩
            cases ho : Md.oneV R t y mid e0 with
            | none =>
              rw [ho] at ov
              obtain rfl : v = .non := ov
              refine iteF ?_
              exact ⟨_, _, _, rfl, kp4', lt4, md4, hl4, f, mf4, fun e => Md.pd_none hf hDD ho e⟩
            | some p0 =>
              rw [ho] at ov
              have ov : HasMv H4 v p0 := ov
              obtain ⟨pv0, rfl, _⟩ := id ov
              refine iteT ?_
              obtain ⟨ob, dgb, rob⟩ := md4.get mid
              rw [hu0] at rob
              obtain ⟨vb, rfl, hvb⟩ := rob.some'
              have p0l := olen mid e0 p0 hsm ho
              refine ⟨_, rfl, _, rfl, b, vb, rfl, dgb, _, rfl, vb, _, u0, p0, rfl, hvb, ov, ?_, by omega, fun H5 pW s5 hpW hW => ?_⟩
              · have : 100000 * i ≤ 100000 * 2 := Nat.mul_le_mul_left _ (by omega)
                omega
              have hvw : HasMv H5 (.ref pW) (Md.join u0 p0) := ⟨pW, rfl, hW⟩
              have mf5 := mf4.keep' (fun o => s5 _ o) fun b xs => s5 b _
              have md5 := md4.keep' (fun o => s5 _ o) fun b xs => s5 b _
              have lt5 := lt4.keep (fun o => s5 _ o) fun b xs => s5 b _
              obtain ⟨oo, dgo, roo⟩ := mf5.get e0
              have hmin : HasMv H5 (if Md.lt (Md.join u0 p0) ((f e0).getD (Md.join u0 p0)) then (.ref pW) else oo.getD (.ref pW)) (Md.bmin ((f e0).getD (Md.join u0 p0)) (Md.join u0 p0)) := by
                unfold Md.bmin
                split
                · exact hvw
                · exact roo.getD hvw
              obtain ⟨H6, dp, oth, tp6, ⟨kv6, e6'⟩, mf6⟩ := mf5.put (by omega) he hmin
              refine ⟨_, rfl, mo, rfl, mf5.isD, _, rfl, _, rfl, oo, dgo, _, rfl, _, _, _, _, rfl, roo.getD hvw, hvw, _, rfl, _, rfl, mo, H6, rfl, dp, ?_⟩
              obtain ⟨kvl5, el5⟩ := lt5.dict
              have nlm : M.l ≠ mo := ne_of_none el hmoH
              refine ⟨_, _, _, rfl, fun x o q n => ?_, lt5.keep (fun o q => by rw [oth _ nlm]; exact q) tp6, md5.keep' (fun o q => by rw [oth _ nmb]; exact q) tp6, ?_, _, mf6, fun e => Md.pd_some hf hDD hu0 ho (by omega) he e⟩
              · rw [oth _ (ne_of_none q hmoH)]
                exact s5 _ _ (kp4' _ _ q n)
              · have h5 := s5 _ _ hl4
                rw [oth _ npm]; exact h5
          · rintro σ H3 ⟨v8, v9, v10, rfl, kp3, lt3, md3, hl3, f, mf, hf⟩
            refine ⟨_, _, _, _, rfl, kp3, lt3, md3, hl3, f, mf, fun e => Md.pd_congr hf (fun m e _ h1 h2 => ?_) e⟩
            rw [tky]
            constructor
            · intro h
              rcases List.mem_append.mp h with h | h
              · exact .inl h
              · have := List.mem_singleton.mp h
                exact .inr ⟨by omega, by omega⟩
            · rintro (h | ⟨rfl, _⟩)
              · exact List.mem_append_left _ h
              · exact List.mem_append_right _ List.mem_cons_self
        · rintro σ H2 ⟨v7, v8, v9, v10, rfl, kp2, lt2, md2, hl2, f, mf, hf⟩
          have ef : f = Md.stepB R t B y := Md.pd_all hf fun m e hm _ _ => by
            rw [List.take_of_length_le (by rw [List.length_map]; exact Nat.le_refl _)]
            exact hperm.mem_iff.mpr (List.mem_map.mpr ⟨m, (e5 m).mpr hm, rfl⟩)
          refine ⟨_, rfl, mo, _, _, _, _, _, _, rfl, kp2, lt2, hmoH, ?_, ?_⟩
          · rw [tk, Md.fold_snoc, hB, ← ef]; exact mf
          · rw [tk, Md.fold_snoc, hB]
            exact Md.step_len le olen
      · rintro σ H1 ⟨b, v5, v6, v7, v8, v9, v10, rfl, kp, lt, hb, md, le⟩
        rw [List.take_of_length_le (by rw [List.length_map, ← eL, List.length_map]; exact Nat.le_refl _)] at md
        exact ⟨_, rfl, k H1 b kp lt hb (md.congr fin)⟩
end
end Ms
end TextD6
section TextD7
set_option linter.all false
set_option maxRecDepth 100000
namespace Ms
open PySem PySem.Spec PyProof.Rows L2
open PySem.W (alike AllAlike Sortable)
/-- neither a dict nor an instance -/
def NoD (o : HO) : Prop := (∀ k, o ≠ .dK k) ∧ (∀ k, o ≠ .dT k) ∧ ∀ C dx fs, o ≠ .ins C dx fs
/-- all but dicts and instances stand -/
def ND (H H' : Hp) : Prop := ∀ b o, H b = some o → NoD o → H' b = some o
theorem noD_tup {xs : List V} : NoD (.tup xs) := ⟨fun _ z => (by cases z), fun _ z => (by cases z), fun _ _ _ z => (by cases z)⟩
theorem noD_lst {xs : List V} : NoD (.lst xs) := ⟨fun _ z => (by cases z), fun _ z => (by cases z), fun _ _ _ z => (by cases z)⟩
theorem ND.trans {H H1 H2 : Hp} (a : ND H H1) (b : ND H1 H2) : ND H H2 := fun x o e n => b x o (a x o e n) n
theorem ND.of {H H1 : Hp} (a : L2.Same H H1) : ND H H1 := fun x o e _ => a x o e
theorem ND.tp {H H1 : Hp} (a : ND H H1) : Tp H H1 := fun b xs e => a b _ e noD_tup
theorem Kp.nd {l : Addr} {H H' : Hp} {kvs : List (List Key × V)} (k : Kp l H H') (hl : H l = some (.dT kvs)) : ND H H' := fun b o e n => k b o e fun z => by
  rw [z, hl] at e; exact n.2.1 _ (Option.some.inj e).symm
theorem SymsAt.nd {p : Addr} {H H' : Hp} {ss : List (Md.Sy Str)} (h : SymsAt H p ss) (k : ND H H') : SymsAt H' p ss :=
  let ⟨L, a, b, c⟩ := h
  ⟨L, a, k _ _ b noD_lst, fun q hq => k _ _ (c q hq) noD_tup⟩
/-! ### grammars -/
abbrev Ru := Str × Str × List (Md.Sy Str)
def RuleAt (H : Hp) (a : Addr) (r : Ru) : Prop := ∃ p, H a = some (.tup [.str "rule", .str r.2.1, .str r.1, .ref p]) ∧ SymsAt H p r.2.2
def RulesAt (H : Hp) (p : Addr) (rs : List Ru) : Prop := ∃ L : List (Addr × Ru), L.map (·.2) = rs ∧ H p = some (.lst (L.map fun q => V.ref q.1)) ∧ ∀ q ∈ L, RuleAt H q.1 q.2
def GrAt (H : Hp) (g : Addr) (st : Str) (rs : List Ru) : Prop := ∃ p, H g = some (.tup [.str "grammar", .str st, .ref p]) ∧ RulesAt H p rs
theorem RuleAt.nd {a : Addr} {H H' : Hp} {r : Ru} (h : RuleAt H a r) (k : ND H H') : RuleAt H' a r := let ⟨p, x, y⟩ := h; ⟨p, k _ _ x noD_tup, y.nd k⟩
theorem RulesAt.nd {a : Addr} {H H' : Hp} {r : List Ru} (h : RulesAt H a r) (k : ND H H') : RulesAt H' a r := let ⟨L, x, y, z⟩ := h; ⟨L, x, k _ _ y noD_lst, fun q hq => (z q hq).nd k⟩
theorem GrAt.nd {a : Addr} {H H' : Hp} {st : Str} {r : List Ru} (h : GrAt H a st r) (k : ND H H') : GrAt H' a st r := let ⟨p, x, y⟩ := h; ⟨p, k _ _ x noD_tup, y.nd k⟩
def gOf (rs : List Ru) : Md.Gr Str := rs.map (·.2)
/-- the cells apart -/
structure Sep (M : Mr) (N : Nat) (ns : List Str) : Prop where
  cell : ∀ i j n m, i ≤ N → j ≤ N → n ∈ ns → m ∈ ns → M.cell i n = M.cell j m → i = j ∧ n = m
  row : ∀ i j n, i ≤ N → j ≤ N → n ∈ ns → M.cell i n ≠ M.row j
theorem MAt.congr {C : Addr} {H : Hp} {M : Mr} {t : List Nat} {ns : List Str} {R R' : Md.Rows Str} (h : MAt C H M t ns R) (e : ∀ i n x, i ≤ t.length → n ∈ ns → R i n x = R' i n x) : MAt C H M t ns R' :=
  ⟨h.self, h.lit, h.rows, h.row, fun i n hi hn => (h.cell i n hi hn).congr fun x => e i n x hi hn⟩
theorem MAt.put {C : Addr} {H : Hp} {M : Mr} {t : List Nat} {ns : List Str} {R : Md.Rows Str} {s e : Nat} {S : Md.Row Str} {n : Str} {v : V} {m : Md.Mv} (h : MAt C H M t ns (Md.put R s S)) (sp : Sep M t.length ns) (ht : t.length ≤ 40) (hs : s ≤ t.length) (he : e ≤ t.length) (hn : n ∈ ns) (hv : HasMv H v m) :
    ∃ H', DPut H (M.cell s n) (.int (e : Int)) v H' ∧ (∀ b, b ≠ M.cell s n → H' b = H b) ∧ Tp H H' ∧ MAt C H' M t ns (Md.put R s fun k x => if k = n ∧ x = e then some m else S k x) := by
  obtain ⟨H', dp, oth, tp, ⟨kv, e6⟩, md⟩ := (h.cell s n hs hn).put (by omega) he hv
  obtain ⟨kc, ec⟩ := (h.cell s n hs hn).dict
  obtain ⟨kl, el⟩ := h.lit.dict
  obtain ⟨dx, es⟩ := h.self
  refine ⟨H', dp, oth, tp, ⟨⟨dx, by rw [oth _ (ne_of es ec (fun z => by cases z))]; exact es⟩, h.lit.keep (fun o q => by rw [oth _ (ne_of el ec (fun z => by cases z))]; exact q) tp, by rw [oth _ (ne_of h.rows ec (fun z => by cases z))]; exact h.rows, fun i hi => by rw [oth _ (Ne.symm (sp.row s i n hs hi hn))]; exact h.row i hi, fun i k hi hk => ?_⟩⟩
  by_cases z : i = s ∧ k = n
  · obtain ⟨rfl, rfl⟩ := z
    refine md.congr fun x => ?_
    unfold Md.put
    rw [if_pos rfl, if_pos rfl]
    by_cases y : x = e
    · rw [if_pos y, if_pos ⟨rfl, y⟩]
    · rw [if_neg y, if_neg (fun q => y q.2)]
  · have nc : M.cell i k ≠ M.cell s n := fun q => z (sp.cell i s k n hi hs hk hn q)
    refine ((h.cell i k hi hk).keep (oth _ nc) tp).congr fun x => ?_
    unfold Md.put
    by_cases y : i = s
    · rw [if_pos y, if_pos y, if_neg (fun q => z ⟨y, q.1⟩)]
    · rw [if_neg y, if_neg y]
/-- all but the mender's dicts of one start stand -/
def Fr (M : Mr) (ns : List Str) (s : Nat) (H H' : Hp) : Prop := ∀ b o, H b = some o → b ≠ M.l → (∀ n ∈ ns, b ≠ M.cell s n) → H' b = some o
theorem Fr.nd {C : Addr} {M : Mr} {t : List Nat} {ns : List Str} {s : Nat} {R : Md.Rows Str} {H H' : Hp} (f : Fr M ns s H H') (h : MAt C H M t ns R) (hs : s ≤ t.length) : ND H H' := fun b o e n => by
  obtain ⟨kl, el⟩ := h.lit.dict
  refine f b o e (fun z => ?_) fun m hm z => ?_
  · rw [z, el] at e; exact n.2.1 _ (Option.some.inj e).symm
  · obtain ⟨kc, ec⟩ := (h.cell s m hs hm).dict
    rw [z, ec] at e; exact n.1 _ (Option.some.inj e).symm
def encE (p : Nat × Md.Mv) : PyData := .tuple [.int (p.1 : Nat), mvD p.2]
theorem encE_alike (a b : Nat × Md.Mv) : alike (encE a) (encE b) = true := by rfl
theorem encE_nl (a : Nat × Md.Mv) : NoList (encE a) = true := by unfold encE mvD; simp [NoList]
def keyN : Key → Nat
  | .inl i => i.toNat
  | .inr _ => 0
theorem keyN_ik (n : Nat) : keyN (ik n) = n := rfl
structure GOk (ns : List Str) (rs : List Ru) : Prop where
  small : Md.Small (gOf rs) ns
  sy : ∀ r ∈ rs, ∀ y ∈ r.2.2, SyOk ns y
theorem GOk.gr {ns : List Str} {rs : List Ru} (h : GOk ns rs) : Md.GrOk (gOf rs) := fun r hr y hy => by
  obtain ⟨q, hq, rfl⟩ := List.mem_map.mp hr
  have := h.sy q hq y hy
  cases y with
  | lit w => trivial
  | nt n => trivial
  | cls cs => exact ⟨this.1, this.2.1⟩
def spFill (C : Addr) : Sp := fun vs H Q _ => ∃ (M : Mr) (t : List Nat) (ns : List Str) (R : Md.Rows Str) (st : Str) (rs : List Ru) (s : Nat), vs = [.ref M.a, .int (s : Nat)] ∧ MAt C H M t ns R ∧ Sep M t.length ns ∧ GrAt H M.g st rs ∧ GOk ns rs ∧ s ≤ t.length ∧ t.length ≤ 40 ∧
  (∀ m, s < m → Md.RowOk (gOf rs) t m (R m)) ∧ (∀ n e, R s n e = none) ∧ ∀ H' S, Fr M ns s H H' → MAt C H' M t ns (Md.put R s S) → Md.RowOk (gOf rs) t s S → Q .non H'
section
variable {P : Program} {w : World} {K : PySem.W.Frag} {mg : Str → Option Value} {base : Heap} {C : Addr}
theorem scFill : FnScope ["self", "start", "going", "rule", "known", "end", "mended"] ["self", "start"] (defScope sFill) := ⟨rfl, rfl, rfl, by decide +kernel, rfl, by decide +kernel, by decide +kernel⟩
theorem ok_fill {f fr : Addr} {fd fdr : FuncData} (F : Fun K "fill" "Mender.fill" sFill f fd) (T : Bi mg) (T2 : MC K C) (M_rule_mends : Meth K C "rule_mends" fr) (B_rule_mends : Binds K fdr ["self", "symbols", "start"] [])
    (G_rule_mends : FnOk P w K mg base CX0 5 fr fdr ["self", "symbols", "start"] (spRule C)) :
    FnOk P w K mg base CX0 6 f fd ["self", "start"] (spFill C) := by
  refine F.ok scFill (fun vs H Q E h => ?_) (fun cdv A outer s H vs Q E hr h => ?_)
  · obtain ⟨M, t, ns, R, st, rs, s, rfl, _⟩ := h
    rfl
  · obtain ⟨M, t, ns, R, st, rs, s', rfl, m, sep, gr, gok, hs, ht, hR, hR0, k⟩ := h
    refine ⟨_, (pss_cons (ps_set (i := 2) scFill.nd rfl (Or.inl rfl) pe_bl)
    (pss_one (ps_while PassesOwn.never (pt_val (pv 2))
      (pss_cons (ps_set (i := 2) scFill.nd rfl (Or.inl rfl) pe_bl)
      (pss_one (ps_for PassesOwn.never rfl (pi_list (pe_ix ix_tup (pe_fld (pv 0) rfl) pe_int (fun _ _ => rfl))) (pg_name (i := 3) scFill.nd rfl (Or.inl rfl))
        (pss_cons (ps_set (i := 4) scFill.nd rfl (Or.inl rfl) (pe_dget (hu_of hr) (pe_ix ix_list (pe_fld (pv 0) rfl) (pv 1) (fun _ _ => rfl)) (pe_ix ix_tup (pv 3) pe_int (fun _ _ => rfl)) (fun _ _ => rfl)))
        (pss_one (ps_for PassesOwn.never rfl (pi_list (pe_callB (cr_sortItems encE rfl hr.units) (by rfl) T.sorted (by decide +kernel) (pa_cons (pe_bm0 PySem.F.plainAttrs_dict PySem.F.slot_dict_items PySem.F.type_dict_items mt_itemsK (pe_meth (pv 0) T2.cl M_rule_mends G_rule_mends (hr.mono (by decide)) B_rule_mends .nil pass0 (pa_cons (pe_ix ix_tup (pv 3) pe_int (fun _ _ => rfl)) (pa_cons (pv 1) pa_nil)))) pa_nil))) (pg_tup rfl (pgs_cons (pg_name (i := 5) scFill.nd rfl (Or.inl rfl)) (pgs_cons (pg_name (i := 6) scFill.nd rfl (Or.inl rfl)) pgs_nil)))
          (pss_one (ps_if (PW.pt (pw_or (pt_cmp (pc_dnotin (hu_of hr) (pv 5) (pv 4))) (pw_or1 (pt_cmpR (op_ltMv hr.units) (pv 6) (pe_dget (hu_of hr) (pv 4) (pv 5) (fun _ _ => rfl)) (nomark _)))))
            (pss_cons (ps_dput (hu_of hr) (pv 4) (pv 5) (pv 6) rfl)
            (pss_one (ps_set (i := 2) scFill.nd rfl (Or.inl rfl) pe_bl)))
            pss_nil))))))))))), ?_⟩
    have hdx := m.self
    refine ⟨fun mm σ H' => ∃ (S : Md.Row Str) (g : Bool) (v3 v4 v5 v6 : Option V), σ = [some (.ref M.a), some (.int (s' : Nat)), some (.bl g), v3, v4, v5, v6] ∧ Fr M ns s' H H' ∧ MAt C H' M t ns (Md.put R s' S) ∧ Md.Sound (gOf rs) t s' S ∧ Md.Bd ns t s' S ∧
      ((g = true ∧ ∃ k, mm = k + 1 ∧ Md.Within R t (gOf rs) s' k S) ∨ (g = false ∧ Md.Fixed R t (gOf rs) s' S)), ?_, ?_⟩
    · obtain ⟨k0, hk0⟩ := Md.within_ex R t (gOf rs) s' (fun _ _ => none)
      refine ⟨k0 + 1, fun _ _ => none, true, none, none, none, none, rfl, (fun b o e _ _ => e), m.congr (fun i n x _ _ => ?_), (fun n e v h => (by cases h)), Md.bd_none ns t s', .inl ⟨rfl, k0, rfl, hk0⟩⟩
      unfold Md.put
      split
      · rename_i z; rw [z]; exact hR0 n x
      · rfl
    · rintro mm σ H1 ⟨S, g, v3, v4, v5, v6, rfl, fr, m1, snd, bd, hg⟩
      refine wh_turn g (fun Q' hq => ⟨_, rfl, g, rfl, hq⟩) (fun hgt => ?_) (fun hgf => ?_)
      · obtain ⟨kk, rfl, hw⟩ : ∃ k, mm = k + 1 ∧ Md.Within R t (gOf rs) s' k S := by
          rcases hg with ⟨_, z⟩ | ⟨z, _⟩
          · exact z
          · rw [hgt] at z; cases z
        have grAt : ∀ {H' : Hp}, Fr M ns s' H H' → GrAt H' M.g st rs := fun f => gr.nd (f.nd m hs)
        obtain ⟨pg, eg, Lr, eLr, hpr, hLr⟩ := grAt fr
        obtain ⟨dx1, hs1⟩ := m1.self
        refine ⟨_, rfl, M.a, C, dx1, _, _, rfl, hs1, T2.cl, T2.nG, lkG, M.g, _, _, _, rfl, rfl, SqT.of eg, rfl, pg, rfl, ⟨_, SqL.of hpr⟩, ?_⟩
        have hG : gOf rs = Lr.map (fun q => q.2.2) := by unfold gOf; rw [← eLr, List.map_map]; rfl
        refine for_list (xs := Lr.map fun q => V.ref q.1) (fun i σ H' => ∃ (v3 v4 v5 v6 : Option V), σ = [some (.ref M.a), some (.int (s' : Nat)), some (.bl (((Lr.map fun q => q.2.2).take i).foldl (Md.turnF R t s') (S, false)).2), v3, v4, v5, v6] ∧ Fr M ns s' H H' ∧ ND H1 H' ∧
          MAt C H' M t ns (Md.put R s' (((Lr.map fun q => q.2.2).take i).foldl (Md.turnF R t s') (S, false)).1) ∧ Md.Sound (gOf rs) t s' (((Lr.map fun q => q.2.2).take i).foldl (Md.turnF R t s') (S, false)).1 ∧ Md.Bd ns t s' (((Lr.map fun q => q.2.2).take i).foldl (Md.turnF R t s') (S, false)).1) ?_ ?_ ?_ ?_
        · exact ⟨v3, v4, v5, v6, rfl, fr, (fun b o e _ => e), m1, snd, bd⟩
        · rintro i σ H2 _ ⟨v3, v4, v5, v6, rfl, fr2, nd2, _⟩
          exact SqL.of (nd2 _ _ hpr noD_lst)
        · rintro i x σ H2 hx ⟨v3, v4, v5, v6, rfl, fr2, nd2, m2, snd2, bd2⟩
          obtain ⟨q, hq, rfl⟩ := get_map hx
          obtain ⟨qa, lab, rn, ss⟩ := q
          have hqm := List.mem_of_getElem? hq
          obtain ⟨ps, ers, hss⟩ := (hLr _ hqm).nd nd2
          have tk : (Lr.map fun q => q.2.2).take (i + 1) = (Lr.map fun q => q.2.2).take i ++ [(rn, ss)] := by
            rw [List.take_add_one, List.getElem?_map, hq]; rfl
          rw [tk, List.foldl_append]
          generalize ((Lr.map fun q => q.2.2).take i).foldl (Md.turnF R t s') (S, false) = Sg at m2 snd2 bd2 ⊢
          obtain ⟨S2, g2⟩ := Sg
          show _
          dsimp only at m2 snd2 bd2
          have hrm : (rn, ss) ∈ gOf rs := by rw [hG]; exact List.mem_map.mpr ⟨_, hqm, rfl⟩
          have hrsm : (lab, rn, ss) ∈ rs := by rw [← eLr]; exact List.mem_map.mpr ⟨_, hqm, rfl⟩
          have hrn : rn ∈ ns := gok.small.left _ hrm
          obtain ⟨dx2, hs2⟩ := m2.self
          have ri : ((List.range (t.length + 1)).map fun i => V.ref (M.row i))[s']? = some (.ref (M.row s')) := by rw [List.getElem?_map, List.getElem?_range (by omega)]; rfl
          have dg := DGet.k (k := .inr rn) (m2.row s' hs)
          rw [val_name (f := fun n => V.ref (M.cell s' n)) hrn] at dg
          have hlen : ∀ m n e v, s' ≤ m → Md.put R s' S2 m n e = some v → v.2.length ≤ 100000 := fun m' n e v hm hv => by
            have key : ∀ {S' : Md.Row Str} {j : Nat}, Md.Sound (gOf rs) t j S' → S' n e = some v → v.1 ≤ 60000 → v.2.length ≤ 100000 := fun {S' j} sd h1 h2 => by
              obtain ⟨_, al, _, h4⟩ := sd n e v h1
              have := Md.al_len al
              have h5 : (Md.seg t j e).length ≤ t.length := by unfold Md.seg; rw [List.length_take, List.length_drop]; omega
              omega
            unfold Md.put at hv
            split at hv
            · exact key snd2 hv (bd2.num gok.small.few ht hv)
            · rename_i z
              have ro := hR m' (by omega)
              refine key ro.sound hv ?_
              have h1 := Md.row_num gok.small gok.gr ro hv
              have h2 := (ro.sound n e v hv).2.2
              omega
          refine ⟨_, rfl, M.a, C, dx2, _, _, rfl, hs2, T2.cl, T2.nR, lkR, _, rfl, M.r, _, _, _, rfl, rfl, SqL.of m2.rows, atI_nat ri, _, rfl, qa, _, _, _, rfl, rfl, SqT.of ers, rfl, M.row s', _, rfl, dg, ?_⟩
          refine ⟨_, rfl, M.a, dx2, _, rfl, hs2, rfl, _, rfl, qa, _, _, _, rfl, rfl, SqT.of ers, rfl, _, rfl, M, ps, t, ns, Md.put R s' S2, ss, s', rfl, m2, hss, gok.sy _ hrsm, gok.small.syms _ hrm, hs, ht, hlen, fun H3 q kp3 lt3 hq3 md3 => ?_⟩
          have m3 := m2.kp kp3 lt3
          generalize hE : Md.ruleV (Md.put R s' S2) t ss s' = E at md3
          obtain ⟨L0, e0, nd0, le0, k0⟩ := md3
          refine ⟨.inr (.inr (.inl ⟨rfl, .inl ⟨_, e0⟩⟩)), q, _, rfl, rfl, e0, fun pv hpv => ?_⟩
          have npv : pv ≠ q := fun z => by rw [z, e0] at hpv; cases hpv
          refine ⟨pv, q, _, fun kv => (keyN kv.1, (E (keyN kv.1)).getD (0, [])), rfl, upd_same, by rw [upd_ne npv.symm]; exact e0, fun H4 ts k4 hts ht4 => ?_⟩
          have s4 : L2.Same H3 H4 := fun b o e => k4 b o (by rw [upd_ne (ne_of_none e hpv)]; exact e)
          let L : List (V × (Nat × Md.Mv)) := ts.map fun t => (V.ref t.1, (keyN t.2.1, (E (keyN t.2.1)).getD (0, [])))
          have itm : ∀ q ∈ L, ∃ T v', q.1 = V.ref T ∧ H4 T = some (.tup [.int (q.2.1 : Nat), v']) ∧ HasMv H4 v' q.2.2 ∧ E q.2.1 = some q.2.2 ∧ q.2.1 ≤ t.length := fun q hq => by
            obtain ⟨tt, htt, rfl⟩ := List.mem_map.mp hq
            have h1 : tt.2 ∈ L0.map fun q => (ik q.1, q.2) := by rw [← hts]; exact List.mem_map.mpr ⟨_, htt, rfl⟩
            obtain ⟨q0, hq0, e1⟩ := List.mem_map.mp h1
            have h2 := (ht4 tt htt).2
            have kz := k0 q0.1
            rw [valV_of_mem nd0 (show (q0.1, q0.2) ∈ L0 from hq0)] at kz
            cases hEq : E q0.1 with
            | none => rw [hEq] at kz; exact kz.elim
            | some mv =>
              rw [hEq] at kz
              have kz : HasMv H3 q0.2 mv := kz
              rw [← e1] at h2 ⊢
              refine ⟨tt.1, q0.2, rfl, h2, ?_, ?_, le0 q0 hq0⟩
              · show HasMv H4 q0.2 ((E q0.1).getD (0, []))
                rw [hEq]
                exact kz.same s4
              · show E q0.1 = some ((E q0.1).getD (0, []))
                rw [hEq]; rfl
          have keysL : L.map (fun q => q.2.1) = L0.map (·.1) := by
            show (ts.map _).map _ = _
            rw [List.map_map]
            have : (ts.map (·.2)).map (fun kv : Key × V => keyN kv.1) = L0.map (·.1) := by
              rw [hts, List.map_map]; rfl
            rw [← this, List.map_map]; rfl
          have lenL : L.length ≤ 1000 := by
            have h1 : L.length = L0.length := by
              have h2 : (ts.map (·.2)).length = (L0.map fun q => (ik q.1, q.2)).length := congrArg List.length hts
              rw [List.length_map, List.length_map] at h2
              show (ts.map _).length = _
              rw [List.length_map]; exact h2
            have := MdAt.few (H := H3) (c := q) nd0 le0
            omega
          refine ⟨fun q hq => ?_, fun q hq => ⟨encE_nl _, by show 2 ≤ 20; decide⟩, fun d hd d' hd' => ?_, .inl fun d hd => ?_, by show L.length ≤ _; omega, fun L' pL hperm _ hpL => ⟨pL, rfl, ⟨_, SqL.of upd_same⟩, ?_⟩⟩
          · obtain ⟨T, v', e1, e2, e3, _⟩ := itm q hq
            rw [e1]
            exact .tup (SqT.of e2) (.cons (.int _) (.cons (mvD_dp e3) .nil))
          · obtain ⟨q1, _, rfl⟩ := List.mem_map.mp hd
            obtain ⟨q2, _, rfl⟩ := List.mem_map.mp hd'
            exact encE_alike _ _
          · obtain ⟨q1, _, rfl⟩ := List.mem_map.mp hd
            exact ⟨_, _, rfl⟩
          have itm' : ∀ q ∈ L', ∃ T v', q.1 = V.ref T ∧ H4 T = some (.tup [.int (q.2.1 : Nat), v']) ∧ HasMv H4 v' q.2.2 ∧ E q.2.1 = some q.2.2 ∧ q.2.1 ≤ t.length := fun q hq => itm q (hperm.mem_iff.mp hq)
          have ndL : (L'.map fun q => q.2.1).Nodup := by
            have h1 := hperm.map fun q : V × (Nat × Md.Mv) => q.2.1
            refine h1.nodup_iff.mpr ?_
            show (L.map _).Nodup
            rw [keysL]; exact nd0
          have allL : ∀ e v, E e = some v → e ∈ L'.map fun q => q.2.1 := fun e v hv => by
            have h1 := hperm.map fun q : V × (Nat × Md.Mv) => q.2.1
            refine h1.mem_iff.mpr ?_
            show e ∈ L.map _
            rw [keysL]
            have kz := k0 e
            rw [hv] at kz
            obtain ⟨u, hu, _⟩ := kz.some'
            exact List.mem_map.mpr ⟨_, valV_mem hu, rfl⟩
          have kpF : Fr M ns s' H (upd H4 pL (.lst (L'.map (·.1)))) := fun b o e n1 n2 => by
            have h1 := s4 _ _ (kp3 _ _ (fr2 _ _ e n1 n2) n1)
            rw [upd_ne (ne_of_none h1 hpL)]; exact h1
          have ndF : ND H2 (upd H4 pL (.lst (L'.map (·.1)))) := fun b o e n => by
            obtain ⟨kl, el⟩ := m2.lit.dict
            have h1 := s4 _ _ ((kp3.nd el) _ _ e n)
            rw [upd_ne (ne_of_none h1 hpL)]; exact h1
          have mF : MAt C (upd H4 pL (.lst (L'.map (·.1)))) M t ns (Md.put R s' S2) := m3.same (sm_new s4 hpL)
          refine for_list (xs := L'.map (·.1)) (fun j σ H' => ∃ (S1 : Md.Row Str) (g1 : Bool) (v5 v6 : Option V), σ = [some (.ref M.a), some (.int (s' : Nat)), some (.bl g1), some (.ref qa), some (.ref (M.cell s' rn)), v5, v6] ∧ Fr M ns s' H H' ∧ ND H2 H' ∧ MAt C H' M t ns (Md.put R s' S1) ∧
            H' pL = some (.lst (L'.map (·.1))) ∧ Tp H4 H' ∧ (∀ n e, (n ≠ rn ∨ e ∉ (L'.take j).map fun q => q.2.1) → S1 n e = S2 n e) ∧ (∀ e, e ∈ ((L'.take j).map fun q => q.2.1) → S1 rn e = Md.fillRule R t s' S2 (rn, ss) rn e) ∧
            (g1 = true ↔ g2 = true ∨ ∃ e, e ∈ ((L'.take j).map fun q => q.2.1) ∧ Md.fillRule R t s' S2 (rn, ss) rn e ≠ S2 rn e)) ?_ ?_ ?_ ?_
          · refine ⟨S2, g2, v5, v6, rfl, kpF, ndF, mF, upd_same, fun b xs e => by rw [upd_ne (ne_of_none e hpL)]; exact e, fun _ _ _ => rfl, fun e he => ?_, ?_⟩
            · rw [List.take_zero] at he; exact absurd he List.not_mem_nil
            · rw [List.take_zero]
              exact ⟨.inl, fun h => h.elim id fun ⟨e, he, _⟩ => absurd he List.not_mem_nil⟩
          · rintro j σ H5 _ ⟨S1, g1, v5, v6, rfl, fr5, nd5, m5, hl5, tp5, hA, hB, hC⟩
            exact SqL.of hl5
          · rintro j x σ H5 hx ⟨S1, g1, v5, v6, rfl, fr5, nd5, m5, hl5, tp5, hA, hB, hC⟩
            obtain ⟨it, hit, rfl⟩ := get_map hx
            obtain ⟨T, v', e1, e2, e3, hEe, heN⟩ := itm' it (List.mem_of_getElem? hit)
            obtain ⟨iv, e, mv⟩ := it
            dsimp only at e1 e2 e3 hEe heN
            subst e1
            have tkj : (L'.take (j + 1)).map (fun q => q.2.1) = (L'.take j).map (fun q => q.2.1) ++ [e] := by
              rw [List.take_add_one, hit, List.map_append]; rfl
            have enew : e ∉ (L'.take j).map fun q => q.2.1 := by
              have hnd : ((L'.take (j + 1)).map fun q => q.2.1).Nodup := by
                rw [List.map_take]
                exact ndL.sublist (List.take_sublist _ _)
              rw [tkj] at hnd
              intro hz
              exact (List.nodup_append.mp hnd).2.2 e hz e List.mem_cons_self rfl
            have eT := tp5 _ _ e2
            have hv := e3.tp tp5
            have cl := m5.cell s' rn hs hrn
            have hcell : ∀ x, Md.put R s' S1 s' rn x = S1 rn x := fun x => by unfold Md.put; rw [if_pos rfl]
            have cl' := cl.congr (f' := fun x => S1 rn x) hcell
            obtain ⟨o, dg5, ro⟩ := cl'.get e
            have s1e : S1 rn e = S2 rn e := hA rn e (.inr enew)
            rw [s1e] at ro
            have hrv : Md.ruleV (Md.put R s' S2) t (rn, ss).2 s' e = some mv := by rw [← hEe, ← hE]
            refine ⟨T, _, rfl, SqT.of eT, rfl, _, _, rfl, _, _, rfl, rfl, ?_⟩
            refine if_test (decide (S2 rn e = none ∨ ∃ u, S2 rn e = some u ∧ Md.lt mv u)) (fun Q' hq => ?_) (fun hb => ?_) (fun hb => ?_)
            · refine ⟨_, rfl, _, rfl, M.cell s' rn, o, rfl, dg5, _, rfl, ?_⟩
              cases hu : S2 rn e with
              | none =>
                rw [hu] at ro
                obtain rfl := ro.none'
                rw [decide_eq_true (.inl hu)] at hq
                exact iteT hq
              | some u =>
                rw [hu] at ro
                obtain ⟨vo, rfl, hvo⟩ := ro.some'
                refine iteF ⟨_, rfl, _, rfl, _, rfl, M.cell s' rn, vo, rfl, dg5, mv, u, hv, hvo, _, rfl, ?_⟩
                have : decide (S2 rn e = none ∨ ∃ u, S2 rn e = some u ∧ Md.lt mv u) = decide (Md.lt mv u) := by
                  congr 1
                  apply propext
                  rw [hu]
                  constructor
                  · rintro (z | ⟨u', z, l⟩)
                    · cases z
                    · cases z; exact l
                  · intro l; exact .inr ⟨u, rfl, l⟩
                rw [this] at hq
                exact hq
            · have hb := of_decide_eq_true hb
              obtain ⟨H6, dp, oth, tp6, m6⟩ := m5.put sep ht hs heN hrn hv
              have fe : Md.fillRule R t s' S2 (rn, ss) rn e = some mv := Md.fill_new hrv hb
              have ne6 : Md.fillRule R t s' S2 (rn, ss) rn e ≠ S2 rn e := by
                rw [fe]
                rcases hb with z | ⟨u, z, l⟩
                · rw [z]; intro y; cases y
                · rw [z]; intro y; cases y; exact Md.lt_irr _ l
              obtain ⟨kc, ec⟩ := cl.dict
              refine ⟨_, rfl, _, rfl, _, rfl, M.cell s' rn, H6, rfl, dp, ?_⟩
              refine ⟨fun k x => if k = rn ∧ x = e then some mv else S1 k x, true, _, _, rfl, fun b o q n1 n2 => by rw [oth _ (n2 rn hrn)]; exact fr5 _ _ q n1 n2, fun b o q n => ?_, m6, ?_, fun b xs q => tp6 _ _ (tp5 _ _ q), fun n x hx => ?_, fun x hx => ?_, ?_⟩
              · have h5 := nd5 _ _ q n
                rw [oth _ (fun z => by rw [z, ec] at h5; exact n.1 _ (Option.some.inj h5).symm)]; exact h5
              · rw [oth _ (ne_of hl5 ec (fun z => by cases z))]; exact hl5
              · rw [tkj] at hx
                have h1 : ¬ (n = rn ∧ x = e) := by
                  rintro ⟨rfl, rfl⟩
                  rcases hx with hx | hx
                  · exact hx rfl
                  · exact hx (List.mem_append_right _ List.mem_cons_self)
                show (if n = rn ∧ x = e then some mv else S1 n x) = _
                rw [if_neg h1]
                exact hA n x (hx.imp_right fun h z => h (List.mem_append_left _ z))
              · rw [tkj] at hx
                show (if rn = rn ∧ x = e then some mv else S1 rn x) = _
                by_cases z : x = e
                · rw [if_pos ⟨rfl, z⟩, z, fe]
                · rw [if_neg (fun y => z y.2)]
                  rcases List.mem_append.mp hx with hx | hx
                  · exact hB x hx
                  · exact absurd (List.mem_singleton.mp hx) z
              · rw [tkj]
                exact ⟨fun _ => .inr ⟨e, List.mem_append_right _ List.mem_cons_self, ne6⟩, fun _ => rfl⟩
            · have hb := of_decide_eq_false hb
              have fe : Md.fillRule R t s' S2 (rn, ss) rn e = S2 rn e := by
                cases hu : S2 rn e with
                | none => exact absurd (.inl hu) hb
                | some u =>
                  have := Md.fill_old (R := R) (r := (rn, ss)) hrv hu (fun l => hb (.inr ⟨u, hu, l⟩))
                  rw [this]; exact hu
              refine ⟨S1, g1, _, _, rfl, fr5, nd5, m5, hl5, tp5, fun n x hx => hA n x (hx.imp_right fun h z => h (by rw [tkj]; exact List.mem_append_left _ z)), fun x hx => ?_, ?_⟩
              · rw [tkj] at hx
                rcases List.mem_append.mp hx with hx | hx
                · exact hB x hx
                · rw [List.mem_singleton.mp hx, s1e, fe]
              · rw [tkj, hC]
                constructor
                · rintro (z | ⟨x, hx, y⟩)
                  · exact .inl z
                  · exact .inr ⟨x, List.mem_append_left _ hx, y⟩
                · rintro (z | ⟨x, hx, y⟩)
                  · exact .inl z
                  · rcases List.mem_append.mp hx with hx | hx
                    · exact .inr ⟨x, hx, y⟩
                    · rw [List.mem_singleton.mp hx] at y
                      exact absurd fe y
          · rintro σ H5 ⟨S1, g1, v5, v6, rfl, fr5, nd5, m5, hl5, tp5, hA, hB, hC⟩
            rw [List.take_of_length_le (by rw [List.length_map]; exact Nat.le_refl _)] at hA hB hC
            have efn : S1 = Md.fillRule R t s' S2 (rn, ss) := by
              funext n e
              by_cases z : n = rn
              · subst z
                by_cases y : e ∈ L'.map fun q => q.2.1
                · exact hB e y
                · rw [hA n e (.inr y)]
                  have : Md.ruleV (Md.put R s' S2) t (n, ss).2 s' e = none := by
                    show Md.ruleV (Md.put R s' S2) t ss s' e = none
                    rw [hE]
                    cases w : E e with
                    | none => rfl
                    | some v => exact absurd (allL e v w) y
                  exact (Md.fill_none this).symm
              · rw [hA n e (.inl z), Md.fillRule_else _ (.inl z)]
            have eg1 : g1 = (Md.turnF R t s' (S2, g2) (rn, ss)).2 := by
              rw [Bool.eq_iff_iff, hC, Md.turn_flag]
              constructor
              · rintro (z | ⟨e, _, y⟩)
                · exact .inl z
                · exact .inr fun z => y (by rw [z])
              · rintro (z | z)
                · exact .inl z
                · refine Classical.byContradiction fun y => z ?_
                  have y1 : ∀ e, e ∈ (L'.map fun q => q.2.1) → Md.fillRule R t s' S2 (rn, ss) rn e = S2 rn e := fun e he => Classical.byContradiction fun x => y (.inr ⟨e, he, x⟩)
                  show Md.fillRule R t s' S2 (rn, ss) = S2
                  rw [← efn]
                  funext n e
                  by_cases w : n = rn ∧ e ∈ L'.map fun q => q.2.1
                  · rw [w.1, hB e w.2, y1 e w.2]
                  · exact hA n e (by
                      by_cases u : n = rn
                      · exact .inr fun he => w ⟨u, he⟩
                      · exact .inl u)
            subst eg1 efn
            have snd' := Md.fillRule_sound gok.gr (fun m hm => (hR m hm).sound) hs snd2 hrm
            have bd' := Md.bd_fill gok.small gok.gr ht hs hR snd2 bd2 hrm
            exact ⟨_, _, _, _, rfl, fr5, nd2.trans nd5, m5, snd', bd'⟩
        · rintro σ H2 ⟨v3, v4, v5, v6, rfl, fr2, nd2, m2, snd2, bd2⟩
          rw [List.take_of_length_le (by rw [List.length_map, List.length_map]; exact Nat.le_refl _), ← hG] at m2 snd2 bd2 ⊢
          have hr0 : (gOf rs).foldl (Md.turnF R t s') (S, false) = Md.roundF R t (gOf rs) s' S := rfl
          rw [hr0] at m2 snd2 bd2 ⊢
          cases hfl : (Md.roundF R t (gOf rs) s' S).2 with
          | false =>
            obtain ⟨q1, q2⟩ := Md.round_fixed hfl
            rw [q1] at m2 snd2 bd2
            exact ⟨kk, Nat.lt_succ_self _, S, false, _, _, _, _, rfl, fr2, m2, snd2, bd2, .inr ⟨rfl, q2⟩⟩
          | true =>
            cases kk with
            | zero =>
              have hw' : (Md.roundF R t (gOf rs) s' S).2 = false := hw
              rw [hfl] at hw'; cases hw'
            | succ kk =>
              have hw' : (Md.roundF R t (gOf rs) s' S).2 = true → Md.Within R t (gOf rs) s' kk (Md.roundF R t (gOf rs) s' S).1 := hw
              exact ⟨kk + 1, Nat.lt_succ_self _, _, true, _, _, _, _, rfl, fr2, m2, snd2, bd2, .inl ⟨rfl, kk, rfl, hw' hfl⟩⟩
      · have hfx : Md.Fixed R t (gOf rs) s' S := by
          rcases hg with ⟨z, _⟩ | ⟨_, z⟩
          · rw [hgf] at z; cases z
          · exact z
        exact k H1 S fr m1 (Md.row_ok gok.gr hR hs snd hfx)
end
end Ms
end TextD7
section TextD8
set_option linter.all false
set_option maxRecDepth 100000
namespace Ms
open PySem PySem.Spec PyProof.Rows L2
/-- the names with rules, in ascending order -/
def LeftsIs (rs : List Ru) (ns : List Str) : Prop := ns.Pairwise (fun a b => a.cps.toList < b.cps.toList) ∧ ∀ n, n ∈ ns ↔ ∃ r ∈ rs, r.2.1 = n
theorem sorted_one : ∀ {a b : List Str}, a.Pairwise (fun a b => a.cps.toList < b.cps.toList) → b.Pairwise (fun a b => a.cps.toList < b.cps.toList) → (∀ n, n ∈ a ↔ n ∈ b) → a = b
  | [], [], _, _, _ => rfl
  | [], y :: b, _, _, h => absurd ((h y).mpr List.mem_cons_self) List.not_mem_nil
  | x :: a, [], _, _, h => absurd ((h x).mp List.mem_cons_self) List.not_mem_nil
  | x :: a, y :: b, ha, hb, h => by
    rw [List.pairwise_cons] at ha hb
    have irr : ∀ s : Str, ¬ s.cps.toList < s.cps.toList := fun s => List.lt_irrefl _
    have e : x = y := by
      rcases List.mem_cons.mp ((h x).mp List.mem_cons_self) with e | e
      · exact e
      · rcases List.mem_cons.mp ((h y).mpr List.mem_cons_self) with e2 | e2
        · exact e2.symm
        · exact absurd (List.lt_trans (hb.1 x e) (ha.1 y e2)) (irr y)
    subst e
    rw [sorted_one ha.2 hb.2 fun n => ?_]
    constructor
    · intro q
      rcases List.mem_cons.mp ((h n).mp (List.mem_cons_of_mem _ q)) with e | e
      · subst e; exact absurd (ha.1 _ q) (irr _)
      · exact e
    · intro q
      rcases List.mem_cons.mp ((h n).mpr (List.mem_cons_of_mem _ q)) with e | e
      · subst e; exact absurd (hb.1 _ q) (irr _)
      · exact e
theorem LeftsIs.uniq {rs : List Ru} {a b : List Str} (h : LeftsIs rs a) (k : LeftsIs rs b) : a = b := sorted_one h.1 k.1 fun n => (h.2 n).trans (k.2 n).symm
theorem LeftsIs.nd {rs : List Ru} {a : List Str} (h : LeftsIs rs a) : a.Nodup := h.1.imp fun q e => by rw [e] at q; exact List.lt_irrefl _ q
def spLefts : Sp := fun vs H Q _ => ∃ (g : Addr) (st : Str) (rs : List Ru), vs = [.ref g] ∧ GrAt H g st rs ∧ rs.length ≤ 30 ∧ ∀ H' p ns, L2.Same H H' → H p = none → H' p = some (.lst (ns.map V.str)) → LeftsIs rs ns → Q (.ref p) H'
def spMInit (C : Addr) : Sp := fun vs H Q _ => ∃ (a dx g : Addr) (t : List Nat) (st : Str) (rs : List Ru) (ns : List Str), vs = [.ref a, .ref g, .str (tx t)] ∧ H a = some (.ins C dx []) ∧ GrAt H g st rs ∧ GOk ns rs ∧ LeftsIs rs ns ∧ rs.length ≤ 30 ∧ t.length ≤ 40 ∧
  ∀ H' M R, (∀ b o, H b = some o → b ≠ a → H' b = some o) → M.a = a → M.g = g → MAt C H' M t ns R → (∀ m, Md.RowOk (gOf rs) t m (R m)) → Q .non H'
def lcSc : Scope := { kind := .function, names := [(".0", .local), ("_", .local), ("lefts", .globalImplicit), ("grammar", .cell)], isGenerator := false, isCoroutine := false }
/-- rows and cells made so far -/
structure Cells (H0 H : Hp) (ns : List Str) (row : Nat → Addr) (cell : Nat → Str → Addr) (i : Nat) : Prop where
  rw_ : ∀ j, j < i → H (row j) = some (.dK (ns.map fun n => (.inr n, V.ref (cell j n))))
  cl_ : ∀ j n, j < i → n ∈ ns → H (cell j n) = some (.dK [])
  nr : ∀ j, j < i → H0 (row j) = none
  nc : ∀ j n, j < i → n ∈ ns → H0 (cell j n) = none
  sc : ∀ j k n m, j < i → k < i → n ∈ ns → m ∈ ns → cell j n = cell k m → j = k ∧ n = m
  sr : ∀ j k n, j < i → k < i → n ∈ ns → cell j n ≠ row k
theorem Cells.keep {H0 H H' : Hp} {ns : List Str} {row : Nat → Addr} {cell : Nat → Str → Addr} {i : Nat} (h : Cells H0 H ns row cell i) (k : ∀ b kvs, H b = some (.dK kvs) → H0 b = none → H' b = some (.dK kvs)) : Cells H0 H' ns row cell i :=
  ⟨fun j hj => k _ _ (h.rw_ j hj) (h.nr j hj), fun j n hj hn => k _ _ (h.cl_ j n hj hn) (h.nc j n hj hn), h.nr, h.nc, h.sc, h.sr⟩
section
variable {P : Program} {w : World} {K : PySem.W.Frag} {mg : Str → Option Value} {base : Heap} {C : Addr}
theorem scMInit : FnScope ["self", "grammar", "text", "start", "_", "name"] ["self", "grammar", "text"] (defScope sMInit) := ⟨rfl, rfl, rfl, by decide +kernel, rfl, by decide +kernel, by decide +kernel⟩
theorem ok_minit {f fl ff : Addr} {fd fdl fdf : FuncData} (F : Fun K "__init__" "Mender.__init__" sMInit f fd) (T : Bi mg) (T2 : MC K C) (D_lefts : Df K mg "lefts" sLefts ["grammar"] fl fdl) (G_lefts : FnOk P w K mg base CX0 1 fl fdl ["grammar"] spLefts)
    (M_fill : Meth K C "fill" ff) (B_fill : Binds K fdf ["self", "start"] []) (G_fill : FnOk P w K mg base CX0 6 ff fdf ["self", "start"] (spFill C)) :
    FnOk P w K mg base CX0 7 f fd ["self", "grammar", "text"] (spMInit C) := by
  refine F.ok scMInit (fun vs H Q E h => ?_) (fun cdv A outer s H vs Q E hr h => ?_)
  · obtain ⟨a, dx, g, t, st, rs, ns, rfl, _⟩ := h
    rfl
  · obtain ⟨a, dx, g, t, st, rs, ns, rfl, ha, gr, gok, hns, h30, ht, k⟩ := h
    refine ⟨_, (pss_cons (ps_fld (pv 0) (pv 1) rfl)
    (pss_cons (ps_fld (pv 0) (pv 2) rfl)
    (pss_cons (ps_fld (pv 0) (pe_lc (own := [("_", 4)]) (g := gName 4) (tt := tYes) rfl scMInit.nd (pi_range1 rfl T.range (pa_cons (pe_op op_add (pe_callB call_len_str (by rfl) T.len PySem.boot_len (pa_cons (pv 2) pa_nil)) pe_int) pa_nil)) (blkOk_by (N := ["self", "grammar", "text", "start", "_", "name"]) (sc := defScope sMInit) (by decide +kernel)) (fun _ _ _ _ _ => pg_name (i := 4) scMInit.nd rfl (Or.inl rfl)) (fun _ _ _ _ _ => pts_nil) (fun _ _ _ _ _ => (pe_dc (own := [("name", 5)])  (wi := iList K (tCall spLefts [] E0 (tCons (tVar 1) tNil))) (g := gName 5) (tt := tYes) rfl scMInit.nd (pi_list (pe_call G_lefts (hr.mono (by decide)) (by rfl) D_lefts.g D_lefts.F.kp D_lefts.b .nil pass0 (pa_cons (pv 1) pa_nil))) (blkOk_by (N := ["self", "grammar", "text", "start", "_", "name"]) (sc := lcSc) (by decide +kernel)) (fun _ _ _ _ _ => pg_name (i := 5) scMInit.nd rfl (Or.inl rfl)) (fun _ _ _ _ _ => pts_nil) (fun _ _ _ _ _ => pv 5) (fun _ _ _ _ _ => pe_dnewK)))) rfl)
    (pss_cons (ps_fld (pv 0) pe_dnewT rfl)
    (pss_one (ps_for PassesOwn.never rfl (pi_range3 rfl T.range (pa_cons (pe_callB call_len_str (by rfl) T.len PySem.boot_len (pa_cons (pv 2) pa_nil)) (pa_cons (pe_un un_neg pe_int) (pa_cons (pe_un un_neg pe_int) pa_nil)))) (pg_name (i := 3) scMInit.nd rfl (Or.inl rfl))
      (pss_one (ps_expr (pe_meth (pv 0) T2.cl M_fill G_fill (hr.mono (by decide)) B_fill .nil pass0 (pa_cons (pv 3) pa_nil)))))))))), ?_⟩
    have pf1 : putF "grammar" (.ref g) [] = [(("grammar" : Str), V.ref g)] := by rfl
    have pf2 : putF "text" (.str (tx t)) [(("grammar" : Str), V.ref g)] = [(("grammar" : Str), V.ref g), ("text", .str (tx t))] := by rfl
    have pf3 : ∀ D : Addr, putF "rows" (.ref D) [(("grammar" : Str), V.ref g), ("text", .str (tx t))] = [(("grammar" : Str), V.ref g), ("text", .str (tx t)), ("rows", .ref D)] := fun D => by rfl
    have pf4 : ∀ D l : Addr, putF "literals" (.ref l) [(("grammar" : Str), V.ref g), ("text", .str (tx t)), ("rows", .ref D)] = selfF g D l t := fun D l => by rfl
    refine ⟨_, rfl, _, rfl, a, C, dx, _, rfl, ha, T2.cl, T2.nG, by decide, ?_⟩
    rw [pf1]
    refine ⟨_, rfl, _, rfl, a, C, dx, _, rfl, upd_same, T2.cl, T2.nT, (show 1 < 1000 by decide), ?_⟩
    rw [pf2]
    generalize hH2 : upd (upd H a (.ins C dx [(("grammar" : Str), V.ref g)])) a (.ins C dx [(("grammar" : Str), V.ref g), ("text", .str (tx t))]) = H2
    have hs2 : H2 a = some (.ins C dx [(("grammar" : Str), V.ref g), ("text", .str (tx t))]) := by rw [← hH2, upd_same]
    have kp2 : ∀ b o, H b = some o → b ≠ a → H2 b = some o := fun b o e n => by rw [← hH2, upd_ne n, upd_ne n]; exact e
    have fr2 : ∀ b, H2 b = none → H b = none := fun b e => by
      rw [← hH2] at e; exact upd_none (upd_none e)
    have nd2 : ND H H2 := fun b o e n => kp2 b o e fun z => by rw [z, ha] at e; exact n.2.2 _ _ _ (Option.some.inj e).symm
    have gr2 : GrAt H2 g st rs := gr.nd nd2
    refine ⟨_, rfl, _, rfl, sz _ (by rw [tx_len]; omega), _, _, rfl, rfl, _, rfl, by rw [tx_len]; omega, by rw [tx_len]; omega, fun D hD => ?_⟩
    refine lc_range (lo := 0) (n := (((tx t).length : Nat) + 1 : Int).toNat) (fun i H' => ∃ row cell, (∀ b o, H2 b = some o → H' b = some o) ∧ H' D = some (.lst ((List.range i).map fun j => V.ref (row j))) ∧ Cells H2 H' ns row cell i) ?_ ?_ ?_
    · exact ⟨fun _ => a, fun _ _ => a, fun b o e => by rw [upd_ne (ne_of_none e hD)]; exact e, upd_same, ⟨fun _ h => by omega, fun _ _ h => by omega, fun _ h => by omega, fun _ _ h => by omega, fun _ _ _ _ h => by omega, fun _ _ _ h => by omega⟩⟩
    · rintro i H3 hi ⟨row, cell, kp3, hl3, cs⟩
      refine ⟨rfl, tyesI ⟨_, rfl, g, st, rs, rfl, gr2.nd (fun b o e _ => kp3 b o e), h30, fun H4 pn ns' s4 hpn hln hli => ?_⟩⟩
      obtain rfl := hli.uniq hns
      refine ⟨pn, rfl, ⟨_, SqL.of hln⟩, fun D2 hD2 => ?_⟩
      refine dc_it (walk_list (xs := ns'.map V.str)) (fun j H' => ∃ c : Str → Addr, (∀ b o, H4 b = some o → H' b = some o) ∧ H' D2 = some (.dK ((ns'.take j).map fun n => (.inr n, V.ref (c n)))) ∧ (∀ n ∈ ns'.take j, H' (c n) = some (.dK []) ∧ H4 (c n) = none ∧ c n ≠ D2) ∧
        ∀ n m, n ∈ ns'.take j → m ∈ ns'.take j → c n = c m → n = m) ?_ ?_ ?_ ?_
      · exact ⟨fun _ => a, fun b o e => by rw [upd_ne (ne_of_none e hD2)]; exact e, by rw [upd_same]; rfl, fun n h => absurd h List.not_mem_nil, fun n m h => absurd h List.not_mem_nil⟩
      · rintro j H5 _ ⟨c, kp5, _⟩
        exact SqL.of (kp5 _ _ hln)
      · rintro j x H5 H5' hj ⟨c, kp5, h5, hc, ci⟩ ⟨rfl, hx⟩
        obtain ⟨n, hn, rfl⟩ := get_map hx
        have tk : ns'.take (j + 1) = ns'.take j ++ [n] := by rw [List.take_add_one, hn]; rfl
        have nin : n ∉ ns'.take j := by
          have h1 : (ns'.take (j + 1)).Nodup := hns.nd.sublist (List.take_sublist _ _)
          rw [tk] at h1
          exact fun hz => (List.nodup_append.mp h1).2.2 n hz n List.mem_cons_self rfl
        refine ⟨rfl, tyesI ⟨_, rfl, fun pc hpc => ?_⟩⟩
        have nD : D2 ≠ pc := ne_of_none h5 hpc
        have hvn : valV ((ns'.take j).map fun n => ((.inr n : Key), V.ref (c n))) (.inr n) = none := by
          cases e : valV ((ns'.take j).map fun n => ((.inr n : Key), V.ref (c n))) (.inr n) with
          | none => rfl
          | some v =>
            obtain ⟨m, hm, e2⟩ := List.mem_map.mp (valV_mem e)
            injection e2 with e2 _
            injection e2 with e2
            exact absurd (e2 ▸ hm) nin
        refine ⟨_, .inr n, rfl, by rw [upd_ne nD]; exact h5, by rw [List.length_map]; exact szlt _ (by
          have h1 := gok.small.few
          have h2 : (ns'.take j).length ≤ ns'.length := by rw [List.length_take]; omega
          omega), fun x => if x = n then pc else c x, fun b o e => ?_, ?_, fun m hm => ?_, fun m1 m2 h1 h2 he => ?_⟩
        · rw [upd_ne (ne_of_none e hD2), upd_ne (ne_of_none (kp5 _ _ e) hpc)]; exact kp5 _ _ e
        · rw [upd_same, putK_new _ hvn, tk, List.map_append]
          refine congrArg some (congrArg HO.dK (congr (congrArg _ (List.map_congr_left fun m hm => ?_)) ?_))
          · have : m ≠ n := fun z => nin (z ▸ hm)
            show _ = ((.inr m : Key), V.ref (if m = n then pc else c m))
            rw [if_neg this]
          · show _ = [((.inr n : Key), V.ref (if n = n then pc else c n))]
            rw [if_pos rfl]
        · rw [tk] at hm
          show upd _ D2 _ (if m = n then pc else c m) = _ ∧ H4 (if m = n then pc else c m) = none ∧ (if m = n then pc else c m) ≠ D2
          by_cases z : m = n
          · rw [if_pos z, upd_ne nD.symm, upd_same]
            refine ⟨rfl, ?_, nD.symm⟩
            cases e : H4 pc with
            | none => rfl
            | some o => rw [kp5 _ _ e] at hpc; cases hpc
          · rw [if_neg z]
            obtain ⟨a1, a2, a3⟩ := hc m ((List.mem_append.mp hm).elim id fun y => absurd (List.mem_singleton.mp y) z)
            exact ⟨by rw [upd_ne a3, upd_ne (ne_of_none a1 hpc)]; exact a1, a2, a3⟩
        · rw [tk] at h1 h2
          have he' : (if m1 = n then pc else c m1) = (if m2 = n then pc else c m2) := he
          have old : ∀ m, m ∈ ns'.take j ++ [n] → m ≠ n → m ∈ ns'.take j := fun m hm z => (List.mem_append.mp hm).elim id fun y => absurd (List.mem_singleton.mp y) z
          by_cases z1 : m1 = n
          · by_cases z2 : m2 = n
            · rw [z1, z2]
            · rw [if_pos z1, if_neg z2] at he'
              have := (hc m2 (old m2 h2 z2)).1
              rw [← he', hpc] at this; cases this
          · by_cases z2 : m2 = n
            · rw [if_neg z1, if_pos z2] at he'
              have := (hc m1 (old m1 h1 z1)).1
              rw [he', hpc] at this; cases this
            · rw [if_neg z1, if_neg z2] at he'
              exact ci m1 m2 (old m1 h1 z1) (old m2 h2 z2) he'
      · rintro H5 ⟨c, kp5, h5, hc, ci⟩
        rw [List.take_of_length_le (by rw [List.length_map]; exact Nat.le_refl _)] at h5 hc ci
        have kp35 : ∀ b o, H3 b = some o → H5 b = some o := fun b o e => kp5 _ _ (s4 _ _ e)
        have f24 : ∀ b, H4 b = none → H2 b = none := fun b e => by
          cases q : H2 b with
          | none => rfl
          | some o => rw [s4 _ _ (kp3 _ _ q)] at e; cases e
        have nDD : D ≠ D2 := ne_of_none (s4 _ _ hl3) hD2
        have hi' : i ≤ 41 := by rw [tx_len] at hi; omega
        have up : ∀ b kvs, H5 b = some (.dK kvs) → ∀ o, upd H5 D o b = some (.dK kvs) := fun b kvs e o => by
          rw [upd_ne (ne_of e (kp35 _ _ hl3) (fun z => by cases z))]; exact e
        refine ⟨_, kp35 _ _ hl3, by rw [List.length_map, List.length_range]; exact szlt _ (by omega), fun j => if j = i then D2 else row j, fun j => if j = i then c else cell j, fun b o e => ?_, ?_, ?_⟩
        · rw [upd_ne (ne_of_none e hD)]; exact kp35 _ _ (kp3 _ _ e)
        · rw [upd_same, List.range_succ, List.map_append]
          refine congrArg some (congrArg HO.lst (congr (congrArg _ (List.map_congr_left fun j hj => ?_)) ?_))
          · have : j ≠ i := by have := List.mem_range.mp hj; omega
            show _ = V.ref (if j = i then D2 else row j)
            rw [if_neg this]
          · show _ = [V.ref (if i = i then D2 else row i)]
            rw [if_pos rfl]
        · have trk : ∀ {j n}, j < i → n ∈ ns' → H4 (cell j n) = some (.dK []) := fun hj hn => s4 _ _ (cs.cl_ _ _ hj hn)
          have trr : ∀ {j}, j < i → H4 (row j) = some (.dK (ns'.map fun n => (.inr n, V.ref (cell j n)))) := fun hj => s4 _ _ (cs.rw_ _ hj)
          refine ⟨fun j hj => ?_, fun j n hj hn => ?_, fun j hj => ?_, fun j n hj hn => ?_, fun j k n m hj hk hn hm he => ?_, fun j k n hj hk hn he => ?_⟩
          · by_cases z : j = i
            · rw [if_pos z, if_pos z]; exact up _ _ h5 _
            · rw [if_neg z, if_neg z]; exact up _ _ (kp35 _ _ (cs.rw_ j (by omega))) _
          · by_cases z : j = i
            · rw [if_pos z]; exact up _ _ (hc n hn).1 _
            · rw [if_neg z]; exact up _ _ (kp35 _ _ (cs.cl_ j n (by omega) hn)) _
          · by_cases z : j = i
            · rw [if_pos z]; exact f24 _ hD2
            · rw [if_neg z]; exact cs.nr j (by omega)
          · by_cases z : j = i
            · rw [if_pos z]; exact f24 _ (hc n hn).2.1
            · rw [if_neg z]; exact cs.nc j n (by omega) hn
          · by_cases z1 : j = i
            · by_cases z2 : k = i
              · rw [if_pos z1, if_pos z2] at he
                exact ⟨by omega, ci n m hn hm he⟩
              · rw [if_pos z1, if_neg z2] at he
                have h1 := (hc n hn).2.1
                rw [he, trk (by omega) hm] at h1; cases h1
            · by_cases z2 : k = i
              · rw [if_neg z1, if_pos z2] at he
                have h1 := (hc m hm).2.1
                rw [← he, trk (by omega) hn] at h1; cases h1
              · rw [if_neg z1, if_neg z2] at he
                exact cs.sc j k n m (by omega) (by omega) hn hm he
          · by_cases z1 : j = i
            · by_cases z2 : k = i
              · rw [if_pos z1, if_pos z2] at he
                exact (hc n hn).2.2 he
              · rw [if_pos z1, if_neg z2] at he
                have h1 := (hc n hn).2.1
                rw [he, trr (by omega)] at h1; cases h1
            · by_cases z2 : k = i
              · rw [if_neg z1, if_pos z2] at he
                rw [← he, trk (by omega) hn] at hD2; cases hD2
              · rw [if_neg z1, if_neg z2] at he
                exact cs.sr j k n (by omega) (by omega) hn he
    · rintro H3 ⟨row, cell, kp3, hl3, cs⟩
      have en : (((tx t).length : Nat) + 1 : Int).toNat = t.length + 1 := by rw [tx_len]; omega
      rw [en] at hl3 cs
      refine ⟨_, rfl, a, C, dx, _, rfl, kp3 _ _ hs2, T2.cl, T2.nR, (show 2 < 1000 by decide), ?_⟩
      rw [pf3]
      refine fun l hl => ⟨_, rfl, a, C, dx, [(("grammar" : Str), V.ref g), ("text", .str (tx t)), ("rows", .ref D)], rfl, by rw [upd_ne (ne_of_none upd_same hl), upd_same], T2.cl, T2.nL, (show 3 < 1000 by decide), ?_⟩
      rw [pf4]
      have hl3n : H3 l = none := upd_none hl
      have nla : l ≠ a := ne_new hl
      generalize hH4 : upd (upd (upd H3 a (.ins C dx [(("grammar" : Str), V.ref g), ("text", .str (tx t)), ("rows", .ref D)])) l (.dT [])) a (.ins C dx (selfF g D l t)) = H4
      have h4 : ∀ b o, H3 b = some o → b ≠ a → H4 b = some o := fun b o e n => by
        rw [← hH4, upd_ne n, upd_ne (ne_of_none e hl3n), upd_ne n]; exact e
      have h4a : H4 a = some (.ins C dx (selfF g D l t)) := by rw [← hH4, upd_same]
      have h4l : H4 l = some (.dT []) := by rw [← hH4, upd_ne nla, upd_same]
      have l2 : H2 l = none := by
        cases q : H2 l with
        | none => rfl
        | some o => rw [kp3 _ _ q] at hl3n; cases hl3n
      let M : Mr := ⟨a, g, D, l, row, cell⟩
      have na : ∀ b o, H3 b = some o → (∀ C dx fs, o ≠ .ins C dx fs) → b ≠ a := fun b o e n z => by
        rw [z, kp3 _ _ hs2] at e; exact n _ _ _ (Option.some.inj e).symm
      have m4 : MAt C H4 M t ns (fun _ _ _ => none) := ⟨⟨dx, h4a⟩, ⟨[], h4l, List.nodup_nil, fun q hq => absurd hq List.not_mem_nil⟩, h4 _ _ hl3 (na _ _ hl3 fun _ _ _ z => by cases z),
        fun i hi => h4 _ _ (cs.rw_ i (by omega)) (na _ _ (cs.rw_ i (by omega)) fun _ _ _ z => by cases z), fun i n hi hn => MdAt.new _ (h4 _ _ (cs.cl_ i n (by omega) hn) (na _ _ (cs.cl_ i n (by omega) hn) fun _ _ _ z => by cases z))⟩
      have sep : Sep M t.length ns := ⟨fun i j n m hi hj hn hm he => cs.sc i j n m (by omega) (by omega) hn hm he, fun i j n hi hj hn he => cs.sr i j n (by omega) (by omega) hn he⟩
      refine ⟨_, rfl, _, rfl, sz _ (by rw [tx_len]; omega), _, rfl, _, rfl, _, _, _, _, rfl, RgC.neg (by rw [tx_len]; omega) (by rw [tx_len]; omega) (by decide) (by decide), ?_⟩
      refine for_rangeC (lo := (((tx t).length : Nat) : Int)) (c := -1) (n := ((((tx t).length : Nat) : Int) - -1).toNat) (fun i σ H' => ∃ (v3 v4 v5 : Option V) (R : Md.Rows Str), σ = [some (.ref a), some (.ref g), some (.str (tx t)), v3, v4, v5] ∧ (∀ b o, H b = some o → b ≠ a → H' b = some o) ∧ MAt C H' M t ns R ∧
        (∀ m, t.length + 1 ≤ m + i → Md.RowOk (gOf rs) t m (R m)) ∧ (∀ m n e, m + i ≤ t.length → R m n e = none)) ?_ ?_ ?_
      · refine ⟨none, none, none, fun _ _ _ => none, rfl, fun b o e n => h4 _ _ (kp3 _ _ (kp2 _ _ e n)) n, m4, fun m hm n e => ?_, fun _ _ _ _ => rfl⟩
        rintro v ⟨_, _, h1, h2⟩
        omega
      · rintro i σ H5 hi ⟨v3, v4, v5, R, rfl, kp5, m5, ro, rn⟩
        rw [tx_len] at hi
        have ev : (((tx t).length : Nat) : Int) + ((i : Nat) : Int) * -1 = ((t.length - i : Nat) : Int) := by rw [tx_len]; omega
        rw [ev]
        obtain ⟨dx5, hs5⟩ := m5.self
        have gr5 : GrAt H5 g st rs := gr.nd fun b o e n => kp5 b o e fun z => by rw [z, ha] at e; exact n.2.2 _ _ _ (Option.some.inj e).symm
        refine ⟨_, rfl, a, dx5, _, rfl, hs5, rfl, _, rfl, M, t, ns, R, st, rs, t.length - i, rfl, m5, sep, gr5, gok, by omega, ht, fun m hm => ro m (by omega), fun n e => rn _ n e (by omega), fun H6 S fr m6 rS => ?_⟩
        refine ⟨_, _, _, _, rfl, fun b o e n => fr b o (kp5 b o e n) (fun z => ?_) (fun m hm z => ?_), m6, fun m hm => ?_, fun m n e hm => ?_⟩
        · have h1 := kp2 b o e n
          rw [show b = l from z, l2] at h1; cases h1
        · have h1 := kp2 b o e n
          rw [z] at h1
          have h2 := cs.nc (t.length - i) m (by omega) hm
          rw [show M.cell (t.length - i) m = cell (t.length - i) m from rfl, h2] at h1; cases h1
        · unfold Md.put
          by_cases z : m = t.length - i
          · rw [if_pos z, z]; exact rS
          · rw [if_neg z]; exact ro m (by omega)
        · unfold Md.put
          rw [if_neg (by omega)]; exact rn m n e (by omega)
      · rintro σ H5 ⟨v3, v4, v5, R, rfl, kp5, m5, ro, rn⟩
        exact k H5 M R kp5 rfl rfl m5 fun m => ro m (by rw [tx_len]; omega)
end
end Ms
end TextD8
section TextD9
set_option linter.all false
set_option maxRecDepth 100000
namespace Ms
open PySem PySem.Spec PyProof.Rows L2
/-- an exception class of the text over ValueError -/
structure XC (K : PySem.W.Frag) (mg : Str → Option Value) (x : Str) (C : Addr) : Prop where
  q : PySem.W.excIn K C [.type "ValueError", .type "Exception", .type "BaseException", .type "object"] "ValueError.__new__" = true
  g : mg x = some (.ref C)
  k : PySem.W.keepIn K (.ref C) = true
  b : PySem.W.subIn K (.ref C) (.type "BaseException") = some true
  t : PySem.W.typeIn K (.ref C) = some (.type "type")
  e : PySem.W.exmOne K (.ref C) (.ref C) = some true
/-- the least change to a text of the start -/
def MinD (rs : List Ru) (st : Str) (t : List Nat) (o : Option Md.Mv) : Prop := Md.IsMin (fun v => Md.DerN (gOf rs) st v.2 ∧ v.1 = Md.dist t v.2) o
structure MAsk (H : Hp) (g : Addr) (t : List Nat) (st : Str) (rs : List Ru) (ns : List Str) : Prop where
  gr : GrAt H g st rs
  ok : GOk ns rs
  lf : LeftsIs rs ns
  sm : st ∈ ns
  few : rs.length ≤ 30
  len : t.length ≤ 40
def spMend (X : Addr) : Sp := fun vs H Q E => ∃ (g : Addr) (t : List Nat) (st : Str) (rs : List Ru) (ns : List Str), vs = [.ref g, .str (tx t)] ∧ MAsk H g t st rs ns ∧
  (∀ H' p q Ed m, L2.Same H H' → MinD rs st t (some m) → H p = none → H' p = some (.tup [.ref q, .str (tx m.2)]) → EdsAt H' q Ed → Md.Leads t 0 Ed m.2 → Ed.length = m.1 → Q (.ref p) H') ∧ ((∀ w, ¬ Md.DerN (gOf rs) st w) → ∀ H', L2.Same H H' → E (.ref X) none H')
def spDistance (X : Addr) : Sp := fun vs H Q E => ∃ (g : Addr) (t : List Nat) (st : Str) (rs : List Ru) (ns : List Str), vs = [.ref g, .str (tx t)] ∧ MAsk H g t st rs ns ∧
  (∀ H' m, L2.Same H H' → MinD rs st t (some m) → Q (.int (m.1 : Nat)) H') ∧ ((∀ w, ¬ Md.DerN (gOf rs) st w) → ∀ H', L2.Same H H' → E (.ref X) none H')
section
variable {P : Program} {w : World} {K : PySem.W.Frag} {mg : Str → Option Value} {base : Heap} {C X : Addr}
theorem scMend : FnScope ["grammar", "text", "best"] ["grammar", "text"] (defScope sMend) := ⟨rfl, rfl, rfl, by decide +kernel, rfl, by decide +kernel, by decide +kernel⟩
theorem scDistance : FnScope ["grammar", "text"] ["grammar", "text"] (defScope sDistance) := ⟨rfl, rfl, rfl, by decide +kernel, rfl, by decide +kernel, by decide +kernel⟩
theorem ok_mend {f fi fc : Addr} {fd fdi fdc : FuncData} (F : Fun K "mend" "mend" sMend f fd) (T : Bi mg) (T2 : MC K C) (TX : XC K mg "TreeError" X) (Mk_M : Mk K C fi) (gM : mg "Mender" = some (.ref C)) (B_minit : Binds K fdi ["self", "grammar", "text"] [])
    (G_minit : FnOk P w K mg base CX0 7 fi fdi ["self", "grammar", "text"] (spMInit C)) (D_changes : Df K mg "changes" sChanges ["first", "second"] fc fdc) (G_changes : FnOk P w K mg base CX0 2 fc fdc ["first", "second"] spChanges) :
    FnOk P w K mg base (L2.CX P w) 9 f fd ["grammar", "text"] (spMend X) := by
  refine F.okX scMend (fun vs H Q E h => ?_) (fun cdv A outer s H vs Q E hr h => ?_)
  · obtain ⟨g, t, st, rs, ns, rfl, _⟩ := h
    rfl
  · obtain ⟨g, t, st, rs, ns, rfl, ak, kq, ke⟩ := h
    refine ⟨_, (pss_cons (ps_set (i := 2) scMend.nd rfl (Or.inl rfl) (pe_dget1 (hu_of hr) (pe_dget (hu_of hr) (pe_ix ix_list (pe_fld (pe_make Mk_M G_minit (hr.mono (by decide)) (by rfl) gM B_minit .nil pass0 (pa_cons (pv 0) (pa_cons (pv 1) pa_nil))) rfl) pe_int (fun _ _ => rfl)) (pe_ix ix_tup (pv 0) pe_int (fun _ _ => rfl)) (fun _ _ => rfl)) (pe_callB call_len_str (by rfl) T.len PySem.boot_len (pa_cons (pv 1) pa_nil)) ⟨rfl, rfl, rfl, rfl⟩))
    (pss_cons (ps_if (pt_cmpR op_isN (pv 2) pe_non (nomark _))
      (pss_one (ps_raise rfl (takes_of rfl rfl rfl rfl) (pmk_own PySem.F.excBase_ValueError TX.q TX.g TX.k (raises_own TX.b TX.t) rfl)))
      pss_nil)
    (pss_one (ps_ret (pe_tup (pa_cons (pe_call G_changes (hr.mono (by decide)) (by rfl) D_changes.g D_changes.F.kp D_changes.b .nil pass0 (pa_cons (pv 1) (pa_cons (pe_ix ix_tup (pv 2) pe_int (fun _ _ => rfl)) pa_nil))) (pa_cons (pe_ix ix_tup (pv 2) pe_int (fun _ _ => rfl)) pa_nil))))))), ?_⟩
    obtain ⟨pg, eg, _⟩ := ak.gr
    refine ⟨_, rfl, _, rfl, fun a dx ha hdx hne => ?_⟩
    have s0 : L2.Same H (upd (upd H dx (.own a)) a (.ins C dx [])) := sm_upd (sm_upd (L2.Same.refl H) hdx) ha
    refine ⟨a, dx, g, t, st, rs, ns, rfl, upd_same, ak.gr.nd (ND.of s0), ak.ok, ak.lf, ak.few, ak.len, fun H' M R kp eM eg' m ro => ⟨rfl, ?_⟩⟩
    have s1 : L2.Same H H' := fun b o e => kp b o (s0 b o e) (ne_of_none e ha)
    have dg := DGet.k (k := .inr st) (m.row 0 (Nat.zero_le _))
    rw [val_name (f := fun n => V.ref (M.cell 0 n)) ak.sm] at dg
    have cl := m.cell 0 st (Nat.zero_le _) ak.sm
    obtain ⟨o, dg2, rro⟩ := cl.get t.length
    obtain ⟨dxm, hself⟩ := m.self
    rw [eM] at hself
    have ri : ((List.range (t.length + 1)).map fun i => V.ref (M.row i))[0]? = some (.ref (M.row 0)) := by rw [List.getElem?_map, List.getElem?_range (by omega)]; rfl
    refine ⟨a, C, dxm, _, _, rfl, hself, T2.cl, T2.nR, lkR, M.r, _, _, _, rfl, rfl, SqL.of m.rows, (show atI _ ((0 : Nat) : Int) = some (V.ref (M.row 0)) from atI_nat ri), _, rfl, g, _, _, _, rfl, rfl, SqT.of (s1 _ _ eg), rfl, M.row 0, _, rfl, dg, M.cell 0 st, rfl, cl.isD,
      _, rfl, tx t, rfl, sz _ (by rw [tx_len]; have := ak.len; omega), ?_⟩
    rw [tx_len]
    refine ⟨o, dg2, ?_⟩
    have hmin := ro 0 st t.length
    have hm2 : MinD rs st t (R 0 st t.length) := hmin.congr fun v => by
      rw [Md.seg_all]
      exact ⟨fun h => ⟨h.1, h.2.1⟩, fun h => ⟨h.1, h.2, Nat.zero_le _, Nat.le_refl _⟩⟩
    have hov := OMv.of rro
    refine ⟨_, rfl, rfl, _, rfl, ?_⟩
    cases hR : R 0 st t.length with
    | none =>
      rw [hR] at hov hm2
      have hov : o.getD .non = .non := hov
      rw [hov]
      refine iteT ?_
      exact ke (fun w hw => hm2 (Md.dist t w, w) ⟨hw, rfl⟩) H' s1
    | some mv =>
      rw [hR] at hov hm2
      obtain ⟨pv, ev, hpv⟩ : HasMv H' (o.getD .non) mv := hov
      rw [ev]
      have hlen : mv.2.length ≤ 1000 := by
        have r0 := ro 0
        have h1 := Md.row_num ak.ok.small ak.ok.gr r0 hR
        have h2 := Md.al_len (r0.sound st t.length mv hR).2.1
        rw [Md.seg_all] at h2
        have := ak.len
        omega
      refine iteF ?_
      refine ⟨_, rfl, _, rfl, pv, _, _, _, rfl, rfl, SqT.of hpv, rfl, tx t, tx mv.2, rfl, by rw [tx_len]; have := ak.len; omega, by rw [tx_len]; exact hlen, fun H2 q Ed s2 hq eds ld ll => ?_⟩
      refine ⟨_, rfl, pv, _, _, _, rfl, rfl, SqT.of (s2 _ _ hpv), rfl, sz2, fun pt hpt => ?_⟩
      have s3 : L2.Same H2 (upd H2 pt (.tup [.ref q, .str (tx mv.2)])) := sm_upd (L2.Same.refl H2) hpt
      refine kq _ pt q Ed mv ((s1.trans s2).trans s3) hm2 ((s1.trans s2).free hpt) upd_same ?_ ld ?_
      · obtain ⟨L, e1, e2, e3⟩ := eds
        exact ⟨L, e1, s3 _ _ e2, fun z hz => s3 _ _ (e3 z hz)⟩
      · rw [ll]; exact (hm2.1.2).symm
theorem ok_distance {f fm : Addr} {fd fdm : FuncData} (F : Fun K "distance" "distance" sDistance f fd) (T : Bi mg) (D_mend : Df K mg "mend" sMend ["grammar", "text"] fm fdm) (G_mend : FnOk P w K mg base (L2.CX P w) 9 fm fdm ["grammar", "text"] (spMend X)) :
    FnOk P w K mg base (L2.CX P w) 10 f fd ["grammar", "text"] (spDistance X) := by
  refine F.okX scDistance (fun vs H Q E h => ?_) (fun cdv A outer s H vs Q E hr h => ?_)
  · obtain ⟨g, t, st, rs, ns, rfl, _⟩ := h
    rfl
  · obtain ⟨g, t, st, rs, ns, rfl, ak, kq, ke⟩ := h
    refine ⟨_, (pss_one (ps_ret (pe_callB call_len_seq (by rfl) T.len PySem.boot_len (pa_cons (pe_ix ix_tup (pe_call G_mend (hr.mono (by decide)) (by rfl) D_mend.g D_mend.F.kp D_mend.b .nil (passes_call (takes_of rfl rfl rfl rfl) (fun _ _ _ _ h => h)) (pa_cons (pv 0) (pa_cons (pv 1) pa_nil))) pe_int (fun _ _ => rfl)) pa_nil)))), ?_⟩
    refine ⟨_, rfl, _, rfl, g, t, st, rs, ns, rfl, ak, fun H' p q Ed m s1 hm hp e1 eds ld ll => ?_, ke⟩
    obtain ⟨L, e2, e3, e4⟩ := eds
    refine ⟨p, _, _, _, rfl, rfl, SqT.of e1, rfl, q, _, rfl, .inl (SqL.of e3), ?_⟩
    have : (L.map fun z => V.ref z.1).length = m.1 := by rw [List.length_map, ← ll, ← e2, List.length_map]
    rw [this]
    exact kq _ m s1 hm
end
end Ms
end TextD9
section TextE1
set_option linter.all false
set_option maxRecDepth 100000
namespace Ms
open PySem PySem.Spec PyProof.Rows L2
/-- what comes behind a statement, told once -/
theorem seq_join {t u : TS} {D : Ends} {σ : L2.St} {H : Hp} (Pv : L2.St → Hp → Prop) (hu : ∀ σ' H', Pv σ' H' → u D σ' H') (ht : (∀ σ' H', Pv σ' H' → u D σ' H') → t { D with nx := u D } σ H) : tSeq t u D σ H := ht hu
def DrAt (H : Hp) (p q : Addr) : Prop := ∃ (ns : List Int) (i : Nat) (w x : Int), H p = some (.lst [.ref q, .int (i : Nat), .int w, .int x]) ∧ H q = some (.lst (ns.map V.int)) ∧ i ≤ ns.length ∧ ns.length ≤ sizeLine ∧ 0 ≤ w ∧ 0 ≤ x ∧ x < 2147483647
theorem DrAt.same {H H' : Hp} {p q : Addr} (h : DrAt H p q) (s : L2.Same H H') : DrAt H' p q := let ⟨ns, i, w, x, a, b, c⟩ := h; ⟨ns, i, w, x, s _ _ a, s _ _ b, c⟩
def spDraws (K : PySem.W.Frag) : Sp := fun vs H Q _ => ∃ (a : Addr) (ns : List Int), vs = [.ref a] ∧ SqL K H a (ns.map V.int) ∧ ns.length ≤ 1000 ∧ ∀ H' p q, L2.Same H H' → H p = none → DrAt H' p q → Q (.ref p) H'
def spDraw : Sp := fun vs H Q _ => ∃ (p q : Addr) (n : Int), vs = [.ref p, .int n] ∧ DrAt H p q ∧ 0 < n ∧ n ≤ 1000 ∧ ∀ H' (k : Nat), Kp p H H' → DrAt H' p q → (k : Int) < n → Q (.int (k : Nat)) H'
section
variable {P : Program} {w : World} {K : PySem.W.Frag} {mg : Str → Option Value} {base : Heap}
theorem scDraws : FnScope ["_law_script"] ["_law_script"] (defScope sDraws) := ⟨rfl, rfl, rfl, by decide +kernel, rfl, by decide +kernel, by decide +kernel⟩
theorem scDraw : FnScope ["_law_draws_here", "_law_limit", "_law_cell", "_law_value"] ["_law_draws_here", "_law_limit"] (defScope sDraw) := ⟨rfl, rfl, rfl, by decide +kernel, rfl, by decide +kernel, by decide +kernel⟩
theorem ok_draws {f : Addr} {fd : FuncData} (F : Fun K "_law_draws" "_law_draws" sDraws f fd) (T : Bi mg) : FnOk P w K mg base CX0 1 f fd ["_law_script"] (spDraws K) := by
  refine F.ok scDraws (fun vs H Q E h => ?_) (fun cdv A outer s H vs Q E hr h => ?_)
  · obtain ⟨a, ns, rfl, _⟩ := h
    rfl
  · obtain ⟨a, ns, rfl, ha, hn, k⟩ := h
    refine ⟨_, (pss_one (ps_ret (pe_lst (pa_cons (pe_callTy call_list_of (by rfl) T.list (by decide +kernel) (pa_cons (pv 0) pa_nil)) (pa_cons pe_int (pa_cons pe_int (pa_cons pe_int pa_nil))))))), ?_⟩
    refine ⟨_, rfl, a, _, rfl, .inl ha, fun q hq => ⟨sz4, fun p hp => ?_⟩⟩
    have npq := ne_new hp
    exact k _ p q (sm_upd (sm_upd (L2.Same.refl H) hq) (upd_none hp)) (upd_none hp) ⟨ns, 0, 0, 1, upd_same, by rw [upd_ne npq.symm, upd_same], Nat.zero_le _, Nat.le_trans hn (sz _ (by decide)), by decide, by decide, by decide⟩
theorem ok_draw {f : Addr} {fd : FuncData} (F : Fun K "_law_draw" "_law_draw" sDraw f fd) (T : Bi mg) : FnOk P w K mg base CX0 1 f fd ["_law_draws_here", "_law_limit"] spDraw := by
  refine F.ok scDraw (fun vs H Q E h => ?_) (fun cdv A outer s H vs Q E hr h => ?_)
  · obtain ⟨p, q, n, rfl, _⟩ := h
    rfl
  · obtain ⟨p, q, n, rfl, ⟨ns, i, w0, x, hp, hq, hi, hz, hw, hx, hx2⟩, hn, hn2, k⟩ := h
    refine ⟨_, (pss_cons (ps_if (PW.pt (pw_and (pt_cmpR op_eq (pe_ix ix_list (pv 0) pe_int (fun _ _ => rfl)) pe_int (nomark _)) (pw_and1 (pt_cmpR op_lt (pe_ix ix_list (pv 0) pe_int (fun _ _ => rfl)) (pe_callB call_len_seq (by rfl) T.len PySem.boot_len (pa_cons (pe_ix ix_list (pv 0) pe_int (fun _ _ => rfl)) pa_nil)) (nomark _)))))
      (pss_cons (ps_set (i := 2) scDraw.nd rfl (Or.inl rfl) (pe_ix ix_list (pe_ix ix_list (pv 0) pe_int (fun _ _ => rfl)) (pe_ix ix_list (pv 0) pe_int (fun _ _ => rfl)) (fun _ _ => rfl)))
      (pss_cons (ps_asg (pe_op op_add (pe_ix ix_list (pv 0) pe_int (fun _ _ => rfl)) pe_int) (pg_sub (pv 0) pe_int set_list (fun _ => rfl)))
      (pss_cons (ps_if (pt_cmpR op_ge (pv 2) (pe_op op_pow pe_int pe_int) (nomark _))
        (pss_one (ps_asg (pv 2) (pg_sub (pv 0) pe_int set_list (fun _ => rfl))))
        pss_nil)
      (pss_one (ps_asg (pe_op op_modN (pe_callTy call_int1 (by rfl) T.int (by decide +kernel) (pa_cons (pe_op op_add (pe_op op_add (pe_op op_mul (pe_ix ix_list (pv 0) pe_int (fun _ _ => rfl)) pe_int) (pv 2)) pe_int) pa_nil)) pe_int) (pg_sub (pv 0) pe_int set_list (fun _ => rfl)))))))
      pss_nil)
    (pss_cons (ps_if (pt_cmpR op_gt (pe_ix ix_list (pv 0) pe_int (fun _ _ => rfl)) pe_int (nomark _))
      (pss_cons (ps_set (i := 3) scDraw.nd rfl (Or.inl rfl) (pe_op op_modN (pe_callTy call_int1 (by rfl) T.int (by decide +kernel) (pa_cons (pe_ix ix_list (pv 0) pe_int (fun _ _ => rfl)) pa_nil)) (pv 1)))
      (pss_cons (ps_asg (pe_op op_fdivN (pe_ix ix_list (pv 0) pe_int (fun _ _ => rfl)) (pv 1)) (pg_sub (pv 0) pe_int set_list (fun _ => rfl)))
      (pss_one (ps_ret (pv 3)))))
      pss_nil)
    (pss_cons (ps_asg (pe_op op_modN (pe_callTy call_int1 (by rfl) T.int (by decide +kernel) (pa_cons (pe_op op_add (pe_op op_mul (pe_ix ix_list (pv 0) pe_int (fun _ _ => rfl)) pe_int) pe_int) pa_nil)) pe_int) (pg_sub (pv 0) pe_int set_list (fun _ => rfl)))
    (pss_one (ps_ret (pe_op op_modN (pe_callTy call_int1 (by rfl) T.int (by decide +kernel) (pa_cons (pe_op op_fdivN (pe_ix ix_list (pv 0) pe_int (fun _ _ => rfl)) pe_int) pa_nil)) (pv 1))))))), ?_⟩
    have ne : ∀ {H' : Hp} {i : Nat} {w x : Int}, H' p = some (.lst [.ref q, .int (i : Nat), .int w, .int x]) → H' q = some (.lst (ns.map V.int)) → q ≠ p := fun a b => ne_of b a (fun z => by
      injection z with z
      cases ns with
      | nil => cases z
      | cons c r => injection z with z _; cases z)
    have at2 : ∀ {H' : Hp} {a b c d : V}, H' p = some (.lst [a, b, c, d]) → H' p = some (.lst [a, b, c, d]) := fun h => h
    refine seq_join (fun σ' H' => ∃ (i' : Nat) (w' x' : Int) (v2 v3 : Option V), σ' = [some (.ref p), some (.int n), v2, v3] ∧ Kp p H H' ∧ H' p = some (.lst [.ref q, .int (i' : Nat), .int w', .int x']) ∧ H' q = some (.lst (ns.map V.int)) ∧ i' ≤ ns.length ∧ 0 ≤ w' ∧ 0 ≤ x' ∧ x' < 2147483647) ?_ (fun rest => ?_)
    · rintro σ' H' ⟨i', w', x', v2, v3, rfl, kp, hp', hq', hi', hw', hx', hx2'⟩
      have npq := ne hp' hq'
      refine ⟨_, rfl, p, _, _, _, rfl, rfl, SqL.of hp', rfl, _, _, rfl, rfl, _, rfl, ?_⟩
      refine ite2 (fun c => ?_) (fun c => ?_)
      · have c := of_decide_eq_true c
        refine ⟨_, rfl, p, _, _, _, rfl, rfl, SqL.of hp', rfl, .inl ⟨w', rfl, _, rfl, w', n, rfl, rfl, by omega, ?_⟩⟩
        refine ⟨_, rfl, p, _, _, _, rfl, rfl, SqL.of hp', rfl, _, rfl, w', n, rfl, rfl, ⟨by omega, by omega⟩, _, rfl, p, _, _, 2, rfl, rfl, hp', rfl, _, rfl, ?_⟩
        have h0 := Int.fmod_nonneg_of_pos w' hn
        have h1 := Int.fmod_lt_of_pos w' hn
        obtain ⟨kk, ek⟩ : ∃ kk : Nat, w'.fmod n = (kk : Int) := ⟨(w'.fmod n).toNat, by omega⟩
        show Q (.int (w'.fmod n)) _
        rw [ek]
        refine k _ kk (fun b o e z => by rw [upd_ne z]; exact kp b o e z) ⟨ns, i', w'.fdiv n, x', by rw [upd_same]; rfl, by rw [upd_ne npq]; exact hq', hi', hz, Int.fdiv_nonneg hw' (by omega), hx', hx2'⟩ (by omega)
      · refine ⟨_, rfl, p, _, _, _, rfl, rfl, SqL.of hp', rfl, _, _, rfl, rfl, .inr ⟨by decide, by decide⟩, _, _, rfl, rfl, .inl ⟨_, rfl, _, _, rfl, rfl, (show (2147483629 : Int) ≠ 0 by decide), _, rfl, p, _, _, 3, rfl, rfl, hp', rfl, ?_⟩⟩
        have h0 := Int.fmod_nonneg_of_pos (x' * 69621 + 7) (b := 2147483629) (by decide)
        have h1 := Int.fmod_lt_of_pos (x' * 69621 + 7) (b := 2147483629) (by decide)
        dsimp only
        generalize (x' * 69621 + 7).fmod 2147483629 = x2 at h0 h1 ⊢
        refine ⟨_, rfl, p, _, _, _, rfl, rfl, SqL.of upd_same, rfl, _, _, rfl, rfl, ⟨by decide, by decide⟩, .inl ⟨_, rfl, _, rfl, _, n, rfl, rfl, by omega, ?_⟩⟩
        have g0 := Int.fmod_nonneg_of_pos (x2.fdiv 11) hn
        have g1 := Int.fmod_lt_of_pos (x2.fdiv 11) hn
        obtain ⟨kk, ek⟩ : ∃ kk : Nat, (x2.fdiv 11).fmod n = (kk : Int) := ⟨((x2.fdiv 11).fmod n).toNat, by omega⟩
        show Q (.int ((x2.fdiv 11).fmod n)) _
        rw [ek]
        exact k _ kk (fun b o e z => by rw [upd_ne z]; exact kp b o e z) ⟨ns, i', w', x2, by rw [upd_same]; rfl, by rw [upd_ne npq]; exact hq', hi', hz, hw', h0, by omega⟩ (by omega)
    · have npq := ne hp hq
      refine if_test (decide (w0 = 0 ∧ i < ns.length)) (fun Q' hq' => ?_) (fun hb => ?_) (fun hb => ?_)
      · refine ⟨_, rfl, p, _, _, _, rfl, rfl, SqL.of hp, rfl, rfl, _, rfl, ?_⟩
        refine ite2 (fun c => ?_) (fun c => ?_)
        · have c : w0 = 0 := by have := of_decide_eq_true c; injection this
          refine ⟨_, rfl, p, _, _, _, rfl, rfl, SqL.of hp, rfl, _, rfl, p, _, _, _, rfl, rfl, SqL.of hp, rfl, q, _, rfl, .inl (SqL.of hq), _, _, rfl, rfl, _, rfl, ?_⟩
          have : decide (w0 = 0 ∧ i < ns.length) = decide (((i : Nat) : Int) < (((ns.map V.int).length : Nat) : Int)) := by
            rw [List.length_map]
            congr 1; apply propext; constructor
            · intro z; omega
            · intro z; exact ⟨c, by omega⟩
          rw [this] at hq'
          exact hq'
        · rw [decide_eq_false (fun z => c (decide_eq_true (by rw [z.1])))] at hq'
          exact hq'
      · obtain ⟨rfl, hil⟩ := of_decide_eq_true hb
        obtain ⟨c, hc⟩ : ∃ c, ns[i]? = some c := ⟨_, List.getElem?_eq_getElem hil⟩
        have hcm : (ns.map V.int)[i]? = some (.int c) := by rw [List.getElem?_map, hc]; rfl
        refine ⟨_, rfl, p, _, _, _, rfl, rfl, SqL.of hp, rfl, _, rfl, p, _, _, _, rfl, rfl, SqL.of hp, rfl, q, _, _, _, rfl, rfl, SqL.of hq, atI_nat hcm, ?_⟩
        refine ⟨_, rfl, p, _, _, _, rfl, rfl, SqL.of hp, rfl, _, _, rfl, rfl, _, rfl, p, _, _, 1, rfl, rfl, hp, rfl, ?_⟩
        have e1 : ((i : Nat) : Int) + 1 = ((i + 1 : Nat) : Int) := by omega
        show _
        generalize hH1 : upd H p (.lst ([V.ref q, V.int (i : Nat), V.int 0, V.int x].set 1 (V.int ((i : Nat) + 1)))) = H1
        have hp1 : H1 p = some (.lst [.ref q, .int (i + 1 : Nat), .int 0, .int x]) := by rw [← hH1, upd_same]; show some (HO.lst [V.ref q, V.int ((i : Nat) + 1), V.int 0, V.int x]) = _; rw [e1]
        have hq1 : H1 q = some (.lst (ns.map V.int)) := by rw [← hH1, upd_ne npq]; exact hq
        have kp1 : Kp p H H1 := fun b o e z => by rw [← hH1, upd_ne z]; exact e
        dsimp only
        refine seq_join (fun σ' H' => ∃ (w' : Int), σ' = [some (.ref p), some (.int n), some (.int c), none] ∧ Kp p H H' ∧ H' p = some (.lst [.ref q, .int (i + 1 : Nat), .int w', .int x]) ∧ H' q = some (.lst (ns.map V.int)) ∧ 0 ≤ w') ?_ (fun rest2 => ?_)
        · rintro σ' H' ⟨w', rfl, kp, hp', hq', hw'⟩
          refine ⟨_, rfl, p, _, _, _, rfl, rfl, SqL.of hp', rfl, _, _, rfl, rfl, .inr ⟨by decide, by decide⟩, _, rfl, _, _, rfl, rfl, _, _, rfl, rfl, .inl ⟨_, rfl, _, _, rfl, rfl, (show (2147483647 : Int) ≠ 0 by decide), ?_⟩⟩
          refine ⟨_, rfl, p, _, _, 3, rfl, rfl, hp', rfl, ?_⟩
          refine rest _ _ ⟨i + 1, w', _, some (.int c), none, rfl, fun b o e z => by rw [upd_ne z]; exact kp b o e z, by rw [upd_same]; rfl, by rw [upd_ne npq]; exact hq', by omega, hw', Int.fmod_nonneg_of_pos _ (by decide), Int.fmod_lt_of_pos _ (by decide)⟩
        · refine ⟨_, rfl, _, _, rfl, rfl, ⟨by decide, by decide, by decide⟩, _, _, rfl, rfl, _, rfl, ?_⟩
          refine ite2 (fun d => ?_) (fun d => ?_)
          · have d := of_decide_eq_true d
            have d0 : 0 ≤ c := Int.le_trans (by decide) d
            refine ⟨_, rfl, _, rfl, p, _, _, 2, rfl, rfl, hp1, rfl, ?_⟩
            exact rest2 _ _ ⟨c, rfl, fun b o e z => by rw [upd_ne z]; exact kp1 b o e z, by rw [upd_same]; rfl, by rw [upd_ne npq]; exact hq1, d0⟩
          · exact rest2 _ _ ⟨0, rfl, kp1, hp1, hq1, by decide⟩
      · exact rest _ _ ⟨i, w0, x, none, none, rfl, Kp.refl _ _, hp, hq, hi, hw, hx, hx2⟩
end
end Ms
end TextE1
section TextE2
set_option linter.all false
set_option maxRecDepth 100000
namespace Ms
open PySem PySem.Spec PyProof.Rows L2
/-! ### joins without a sign between -/
theorem fold_cat : ∀ (ys : List Str) (acc : Array Nat), (ys.foldl (fun acc p => acc ++ (⟨#[]⟩ : Str).cps ++ p.cps) acc).toList = acc.toList ++ ys.flatMap (fun y => y.cps.toList)
  | [], acc => by simp
  | y :: ys, acc => by
    rw [List.foldl_cons, fold_cat ys]
    simp
theorem join_nil (ys : List Str) : Txt.join "" ys = tx (ys.flatMap fun y => y.cps.toList) := by
  have e : ∀ z : Str, z.cps.toList = ys.flatMap (fun y => y.cps.toList) → z = tx (ys.flatMap fun y => y.cps.toList) := fun z h => by rw [← h]
  refine e _ ?_
  show ((ys.drop 1).foldl (fun acc p => acc ++ (⟨#[]⟩ : Str).cps ++ p.cps) (ys.headD Str.empty).cps).toList = _
  rw [fold_cat]
  cases ys with
  | nil => rfl
  | cons y ys => rfl
theorem join_ch (t : List Nat) : Txt.join "" (t.map fun c => (⟨#[c]⟩ : Str)) = tx t := by
  rw [join_nil]
  congr 1
  induction t with
  | nil => rfl
  | cons c t ih => rw [List.map_cons, List.flatMap_cons, ih]; rfl
theorem chs_map (t : List Nat) : t.map chV = (t.map fun c => (⟨#[c]⟩ : Str)).map V.str := by rw [List.map_map]; rfl
theorem sum_one (t : List Nat) : ((t.map fun c => (⟨#[c]⟩ : Str)).map (·.length)).sum = t.length := by
  induction t with
  | nil => rfl
  | cons c t ih => rw [List.map_cons, List.map_cons, List.sum_cons, ih, List.length_cons, Nat.add_comm]; rfl
/-! ### drawn symbols -/
def DSy (ns : List Str) : Md.Sy Str → Prop
  | .lit w => w ∈ litW
  | .cls cs => cs = [120] ∨ cs = [121] ∨ cs = [120, 121]
  | .nt n => n ∈ ns
theorem DSy.ok {ns : List Str} {y : Md.Sy Str} (h : DSy ns y) : SyOk ns y := by
  cases y with
  | lit w => exact h
  | nt n => exact h
  | cls cs => rcases h with rfl | rfl | rfl <;> exact ⟨by decide, by decide, by decide⟩
theorem DSy.xy {ns : List Str} {y : Md.Sy Str} (h : DSy ns y) : Md.SyXY y := by
  cases y with
  | nt n => trivial
  | lit w =>
    have h : w ∈ litW := h
    unfold litW at h
    simp only [List.mem_cons, List.not_mem_nil, or_false] at h
    intro c hc
    unfold Md.isXY
    rcases h with rfl | rfl | rfl | rfl <;> simp at hc <;> omega
  | cls cs =>
    intro c hc
    unfold Md.isXY
    rcases h with rfl | rfl | rfl <;> simp at hc <;> omega
def spSymbol : Sp := fun vs H Q _ => ∃ (p d q : Addr) (ns : List Str), vs = [.ref p, .ref q] ∧ DrAt H p d ∧ H q = some (.lst (ns.map V.str)) ∧ q ≠ p ∧ 0 < ns.length ∧ ns.length ≤ 3 ∧ ∀ H' r y, Kp p H H' → DrAt H' p d → H r = none → SymAt H' r y → DSy ns y → Q (.ref r) H'
def spText : Sp := fun vs H Q _ => ∃ (p d : Addr) (n : Nat), vs = [.ref p, .int (n : Nat)] ∧ DrAt H p d ∧ n ≤ 40 ∧ ∀ H' (t : List Nat), Kp p H H' → DrAt H' p d → t.length ≤ n → (∀ c ∈ t, Md.isXY c ∨ c = 122) → Q (.str (tx t)) H'
theorem DrAt.lst {H : Hp} {p d : Addr} (h : DrAt H p d) : ∃ o, H p = some o := let ⟨_, _, _, _, a, _⟩ := h; ⟨_, a⟩
theorem DrAt.dst {H : Hp} {p d : Addr} (h : DrAt H p d) : ∃ o, H d = some o := let ⟨_, _, _, _, _, a, _⟩ := h; ⟨_, a⟩
theorem DrAt.put {H : Hp} {p d r : Addr} {o : HO} (h : DrAt H p d) (h1 : r ≠ p) (h2 : r ≠ d) : DrAt (L2.upd H r o) p d := let ⟨ns, i, w, x, a, b, c⟩ := h; ⟨ns, i, w, x, by rw [upd_ne h1.symm]; exact a, by rw [upd_ne h2.symm]; exact b, c⟩
theorem pick {α : Type} {xs : List α} {k : Nat} {n : Int} (h : (k : Int) < n) (e : n = (xs.length : Int)) : ∃ x, xs[k]? = some x := ⟨_, List.getElem?_eq_getElem (by omega)⟩
theorem DrAt.upd {H : Hp} {p d r : Addr} {o : HO} (h : DrAt H p d) (hr : H r = none) : DrAt (L2.upd H r o) p d := h.same fun b u e => by rw [upd_ne (ne_of_none e hr)]; exact e
section
variable {P : Program} {w : World} {K : PySem.W.Frag} {mg : Str → Option Value} {base : Heap}
theorem scSymbol : FnScope ["_law_draws_here", "_law_names", "_law_kind"] ["_law_draws_here", "_law_names"] (defScope sSymbol) := ⟨rfl, rfl, rfl, by decide +kernel, rfl, by decide +kernel, by decide +kernel⟩
theorem scText : FnScope ["_law_draws_here", "_law_most", "_law_k"] ["_law_draws_here", "_law_most"] (defScope sText) := ⟨rfl, rfl, rfl, by decide +kernel, rfl, by decide +kernel, by decide +kernel⟩
theorem ok_symbol {f fr : Addr} {fd fdr : FuncData} (F : Fun K "_law_symbol" "_law_symbol" sSymbol f fd) (T : Bi mg) (D_draw : Df K mg "_law_draw" sDraw ["_law_draws_here", "_law_limit"] fr fdr) (G_draw : FnOk P w K mg base CX0 1 fr fdr ["_law_draws_here", "_law_limit"] spDraw) :
    FnOk P w K mg base CX0 2 f fd ["_law_draws_here", "_law_names"] spSymbol := by
  refine F.ok scSymbol (fun vs H Q E h => ?_) (fun cdv A outer s H vs Q E hr h => ?_)
  · obtain ⟨p, d, q, ns, rfl, _⟩ := h
    rfl
  · obtain ⟨p, d, q, ns, rfl, dr, hq, nqp, hn0, hn3, k⟩ := h
    refine ⟨_, (pss_cons (ps_set (i := 2) scSymbol.nd rfl (Or.inl rfl) (pe_call G_draw (hr.mono (by decide)) (by rfl) D_draw.g D_draw.F.kp D_draw.b .nil pass0 (pa_cons (pv 0) (pa_cons pe_int pa_nil))))
    (pss_cons (ps_if (pt_cmpR op_lt (pv 2) pe_int (nomark _))
      (pss_one (ps_ret (pe_tup (pa_cons pe_str (pa_cons (pe_ix ix_list (pe_lst (pa_cons pe_str (pa_cons pe_str (pa_cons pe_str (pa_cons pe_str pa_nil))))) (pe_call G_draw (hr.mono (by decide)) (by rfl) D_draw.g D_draw.F.kp D_draw.b .nil pass0 (pa_cons (pv 0) (pa_cons pe_int pa_nil))) (fun _ _ => rfl)) pa_nil)))))
      pss_nil)
    (pss_cons (ps_if (pt_cmpR op_eq (pv 2) pe_int (nomark _))
      (pss_one (ps_ret (pe_tup (pa_cons pe_str (pa_cons (pe_ix ix_list (pe_lst (pa_cons pe_str (pa_cons pe_str (pa_cons pe_str pa_nil)))) (pe_call G_draw (hr.mono (by decide)) (by rfl) D_draw.g D_draw.F.kp D_draw.b .nil pass0 (pa_cons (pv 0) (pa_cons pe_int pa_nil))) (fun _ _ => rfl)) pa_nil)))))
      pss_nil)
    (pss_one (ps_ret (pe_tup (pa_cons pe_str (pa_cons (pe_ix ix_list (pv 1) (pe_call G_draw (hr.mono (by decide)) (by rfl) D_draw.g D_draw.F.kp D_draw.b .nil pass0 (pa_cons (pv 0) (pa_cons (pe_callB call_len_seq (by rfl) T.len PySem.boot_len (pa_cons (pv 1) pa_nil)) pa_nil))) (fun _ _ => rfl)) pa_nil)))))))), ?_⟩
    refine ⟨_, rfl, p, d, 6, rfl, dr, by decide, by decide, fun H1 kd kp1 dr1 hk => ?_⟩
    have hq1 := kp1 _ _ hq nqp
    -- one more draw, then the tuple
    have fin : ∀ (H2 : Hp) (y : Md.Sy Str) (r : Addr), Kp p H H2 → DrAt H2 p d → H2 r = none → DSy ns y → Q (.ref r) (upd H2 r (.tup (syV y))) := fun H2 y r kp2 dr2 hr hy =>
      k _ r y (kp2.upd (kp2.free hr dr2.lst)) (dr2.upd hr) (kp2.free hr dr2.lst) upd_same hy
    refine ⟨_, rfl, _, _, rfl, rfl, _, rfl, ?_⟩
    refine ite2 (fun c => ?_) (fun c => ?_)
    · refine ⟨sz4, fun L hL => ⟨_, rfl, p, d, 4, rfl, dr1.upd hL, by decide, by decide, fun H2 j kp2 dr2 hj => ?_⟩⟩
      have nLp : L ≠ p := fun z => by obtain ⟨o, ho⟩ := dr1.lst; rw [z, ho] at hL; cases hL
      have hL2 := kp2 _ _ upd_same nLp
      have kp3 : Kp p H H2 := fun b o e n => kp2 _ _ (by rw [upd_ne (ne_of_none (kp1 _ _ e n) hL)]; exact kp1 _ _ e n) n
      obtain ⟨x, hx⟩ := pick (xs := litW) hj rfl
      have hx2 : ([.str "x", .str "y", .str "xy", .str "yx"] : List V)[j]? = some (.str (tx x)) := by
        have : (litW.map fun w => V.str (tx w))[j]? = some (.str (tx x)) := by rw [List.getElem?_map, hx]; rfl
        exact this
      exact ⟨L, _, _, _, rfl, rfl, SqL.of hL2, atI_nat hx2, sz2, fun r hr => fin H2 (.lit x) r kp3 dr2 hr (List.mem_of_getElem? hx)⟩
    · refine ⟨_, rfl, rfl, _, rfl, ?_⟩
      refine ite2 (fun c2 => ?_) (fun c2 => ?_)
      · refine ⟨sz3, fun L hL => ⟨_, rfl, p, d, 3, rfl, dr1.upd hL, by decide, by decide, fun H2 j kp2 dr2 hj => ?_⟩⟩
        have nLp : L ≠ p := fun z => by obtain ⟨o, ho⟩ := dr1.lst; rw [z, ho] at hL; cases hL
        have hL2 := kp2 _ _ upd_same nLp
        have kp3 : Kp p H H2 := fun b o e n => kp2 _ _ (by rw [upd_ne (ne_of_none (kp1 _ _ e n) hL)]; exact kp1 _ _ e n) n
        obtain ⟨x, hx⟩ := pick (xs := [[120], [121], [120, 121]]) hj rfl
        have hx2 : ([.str "x", .str "y", .str "xy"] : List V)[j]? = some (.str (tx x)) := by
          have : (([[120], [121], [120, 121]] : List (List Nat)).map fun w => V.str (tx w))[j]? = some (.str (tx x)) := by rw [List.getElem?_map, hx]; rfl
          exact this
        exact ⟨L, _, _, _, rfl, rfl, SqL.of hL2, atI_nat hx2, sz2, fun r hr => fin H2 (.cls x) r kp3 dr2 hr (by
          have := List.mem_of_getElem? hx
          show x = [120] ∨ x = [121] ∨ x = [120, 121]
          simpa using this)⟩
      · refine ⟨_, rfl, _, rfl, _, rfl, q, _, rfl, .inl (SqL.of hq1), p, d, _, rfl, dr1, by rw [List.length_map]; omega, by rw [List.length_map]; omega, fun H2 j kp2 dr2 hj => ?_⟩
        rw [List.length_map] at hj
        obtain ⟨n, hn⟩ := pick (xs := ns) hj rfl
        have hn2 : (ns.map V.str)[j]? = some (.str n) := by rw [List.getElem?_map, hn]; rfl
        exact ⟨q, _, _, _, rfl, rfl, SqL.of (kp2 _ _ hq1 nqp), atI_nat hn2, sz2, fun r hr => fin H2 (.nt n) r (kp1.trans kp2) dr2 hr (List.mem_of_getElem? hn)⟩
theorem ok_text {f fr : Addr} {fd fdr : FuncData} (F : Fun K "_law_text" "_law_text" sText f fd) (T : Bi mg) (D_draw : Df K mg "_law_draw" sDraw ["_law_draws_here", "_law_limit"] fr fdr) (G_draw : FnOk P w K mg base CX0 1 fr fdr ["_law_draws_here", "_law_limit"] spDraw) :
    FnOk P w K mg base CX0 2 f fd ["_law_draws_here", "_law_most"] spText := by
  refine F.ok scText (fun vs H Q E h => ?_) (fun cdv A outer s H vs Q E hr h => ?_)
  · obtain ⟨p, d, n, rfl, _⟩ := h
    rfl
  · obtain ⟨p, d, n, rfl, dr, hn, k⟩ := h
    refine ⟨_, (pss_one (ps_ret (pe_join pe_str (pe_lc (own := [("_law_k", 2)]) (g := gName 2) (tt := tYes) rfl scText.nd (pi_range1 rfl T.range (pa_cons (pe_call G_draw (hr.mono (by decide)) (by rfl) D_draw.g D_draw.F.kp D_draw.b .nil pass0 (pa_cons (pv 0) (pa_cons (pe_op op_add (pv 1) pe_int) pa_nil))) pa_nil)) (blkOk_by (N := ["_law_draws_here", "_law_most", "_law_k"]) (sc := defScope sText) (by decide +kernel)) (fun _ _ _ _ _ => pg_name (i := 2) scText.nd rfl (Or.inl rfl)) (fun _ _ _ _ _ => pts_nil) (fun _ _ _ _ _ => (pe_ix ix_str pe_str (pe_call G_draw (hr.mono (by decide)) (by rfl) D_draw.g D_draw.F.kp D_draw.b .nil pass0 (pa_cons (pv 0) (pa_cons pe_int pa_nil))) (fun _ _ => rfl))))))), ?_⟩
    refine ⟨⟨_, rfl⟩, _, rfl, _, rfl, _, _, rfl, rfl, p, d, _, rfl, dr, by omega, by omega, fun H1 m kp1 dr1 hm => ⟨_, rfl, by omega, by omega, fun D hD => ?_⟩⟩
    have nDp : D ≠ p := fun z => by obtain ⟨o, ho⟩ := dr1.lst; rw [z, ho] at hD; cases hD
    refine lc_range (lo := 0) (n := (m : Int).toNat) (fun i H' => ∃ t : List Nat, t.length = i ∧ (∀ c ∈ t, Md.isXY c ∨ c = 122) ∧ Kp p H H' ∧ DrAt H' p d ∧ H' D = some (.lst (t.map chV))) ?_ ?_ ?_
    · exact ⟨[], rfl, fun c h => absurd h List.not_mem_nil, fun b o e z => by rw [upd_ne (ne_of_none (kp1 _ _ e z) hD)]; exact kp1 _ _ e z, dr1.upd hD, upd_same⟩
    · rintro i H2 hi ⟨t, tl, tc, kp2, dr2, hD2⟩
      refine ⟨rfl, tyesI ⟨_, rfl, p, d, 5, rfl, dr2, by decide, by decide, fun H3 j kp3 dr3 hj => ?_⟩⟩
      have hD3 := kp3 _ _ hD2 nDp
      obtain ⟨c, hc⟩ := pick (xs := [120, 120, 121, 121, 122]) hj rfl
      have hcm : Md.isXY c ∨ c = 122 := by
        have := List.mem_of_getElem? hc
        unfold Md.isXY
        simp at this
        omega
      refine ⟨"xxyyz", _, c, rfl, rfl, sz 5 (by decide), atI_nat hc, _, hD3, by rw [List.length_map]; exact szlt _ (by omega), t ++ [c], by rw [List.length_append, tl]; rfl, fun d hd => ?_, fun b o e z => ?_, ?_, ?_⟩
      · rcases List.mem_append.mp hd with hd | hd
        · exact tc d hd
        · rw [List.mem_singleton.mp hd]; exact hcm
      · have h1 := kp3 _ _ (kp2 _ _ e z) z
        have nD : b ≠ D := ne_of_none (kp1 _ _ e z) hD
        rw [upd_ne nD]; exact h1
      · exact dr3.put nDp (by obtain ⟨o, ho⟩ := dr1.dst; exact (ne_of_none ho hD).symm)
      · rw [upd_same, List.map_append]; rfl
    · rintro H2 ⟨t, tl, tc, kp2, dr2, hD2⟩
      refine ⟨"", D, t.map fun c => (⟨#[c]⟩ : Str), rfl, rfl, .inl (SqL.of (by rw [← chs_map]; exact hD2)), ?_, ?_⟩
      · rw [sum_one]
        show t.length + _ * 0 ≤ _
        omega
      · rw [join_ch]
        exact k H2 t kp2 dr2 (by omega) tc
end
end Ms
end TextE2
section TextE3
set_option linter.all false
set_option maxRecDepth 100000
namespace Ms
open PySem PySem.Spec PyProof.Rows L2
/-- the reading of an expression, what comes behind told once -/
theorem te_join {te : TE} {σ : L2.St} {H : Hp} {Q : VK} (Pv : V → Hp → Prop) (hq : ∀ v H', Pv v H' → Q v H') (ht : (∀ v H', Pv v H' → Q v H') → te σ H Q) : te σ H Q := ht hq
def SAB : List Str := ["s", "a", "b"]
/-- a short text of plain signs -/
def sOk (x : Str) : Prop := x.length ≤ 20 ∧ ∀ c ∈ x.cps.toList, c < 4294967296
instance (x : Str) : Decidable (sOk x) := by unfold sOk; exact inferInstance
/-- a drawn rule -/
def DRu (ns : List Str) (r : Ru) : Prop := r.2.1 ∈ ns ∧ r.2.2.length ≤ 3 ∧ (∀ y ∈ r.2.2, DSy ns y) ∧ sOk r.1
structure DGr (st : Str) (rs : List Ru) (ns : List Str) : Prop where
  names : ∃ m, m ≤ 2 ∧ ns = SAB.take (m + 1)
  start : st ∈ ns
  few : rs.length ≤ 6
  rule : ∀ r ∈ rs, DRu ns r
  all : ∀ n ∈ ns, ∃ r ∈ rs, r.2.1 = n
/-- all but p -/
def hid (p : Addr) (H : Hp) : Hp := fun b => if b = p then none else H b
theorem kp_hid (p : Addr) (H : Hp) : Kp p H (hid p H) := fun b o e n => by unfold hid; rw [if_neg n]; exact e
theorem hid_kp {p : Addr} {H H' : Hp} (k : Kp p H H') : L2.Same (hid p H) H' := fun b o e => by
  unfold hid at e
  by_cases z : b = p
  · rw [if_pos z] at e; cases e
  · rw [if_neg z] at e; exact k b o e z
theorem hid_same (p : Addr) (H : Hp) : L2.Same (hid p H) H := hid_kp (Kp.refl p H)
def spGrammar : Sp := fun vs H Q _ => ∃ (p d : Addr), vs = [.ref p] ∧ DrAt H p d ∧ ∀ H' g st rs ns, Kp p H H' → DrAt H' p d → GrAt (hid p H') g st rs → DGr st rs ns → Q (.ref g) H'
/-- a rule whose list of symbols stands at s -/
def RuleS (H : Hp) (a s : Addr) (r : Ru) : Prop := H a = some (.tup [.str "rule", .str r.2.1, .str r.1, .ref s]) ∧ SymsAt H s r.2.2
theorem SymsAt.kx {x p : Addr} {H H' : Hp} {ss : List (Md.Sy Str)} {xs : List V} (h : SymsAt H p ss) (k : Kp x H H') (hx : H x = some (.lst xs)) (n : p ≠ x) : SymsAt H' p ss :=
  let ⟨L, a, b, c⟩ := h
  ⟨L, a, k _ _ b n, fun q hq => k _ _ (c q hq) (ne_of (c q hq) hx (fun z => by cases z))⟩
theorem RuleS.kx {x a s : Addr} {H H' : Hp} {r : Ru} {xs : List V} (h : RuleS H a s r) (k : Kp x H H') (hx : H x = some (.lst xs)) (n : s ≠ x) : RuleS H' a s r :=
  ⟨k _ _ h.1 (ne_of h.1 hx (fun z => by cases z)), h.2.kx k hx n⟩
theorem RuleS.same {a s : Addr} {H H' : Hp} {r : Ru} (h : RuleS H a s r) (k : L2.Same H H') : RuleS H' a s r := ⟨k _ _ h.1, h.2.same k⟩
theorem DrAt.ls {H : Hp} {p d : Addr} (h : DrAt H p d) : ∃ xs, H p = some (.lst xs) := let ⟨_, _, _, _, a, _⟩ := h; ⟨_, a⟩
theorem tostr_small : ∀ i, i < 6 → (Str.ofString (toString ((i : Nat) : Int))).length ≤ 10 ∧ ((i : Nat) : Int).natAbs.log2 < 1920 ∧ sOk (("r" : Str) ++ Str.ofString (toString ((i : Nat) : Int))) := by decide +kernel
section
variable {J : It} {n : Nat} {G : Hp → Prop} {g : TG} {tt : TT} {te : TE} {vs : List Nat} {σ : L2.St} {H1 : Hp} {D : Addr} {Qd : Hp → Prop}
/-- some of xs, read with no change of the heap: no more is told of them than Rv -/
theorem lc_some {xs : List V} (w : Walk J xs.length G (YAt xs)) (Rv : V → Prop) (hG : ∀ acc, G (upd H1 D (.lst acc))) (hz : xs.length ≤ 1000000)
    (hs : ∀ x ∈ xs, ∀ (acc : List V) (Y : V → Hp → Prop) (N : Hp → Prop), (∀ y, Rv y → Y y (upd H1 D (.lst acc))) → N (upd H1 D (.lst acc)) →
      g x (wipe σ vs) (upd H1 D (.lst acc)) fun σ2 H2 => wipe σ2 vs = wipe σ vs ∧ tt σ2 H2 fun b H3 => if b = true then te σ2 H3 Y else N H3)
    (hd : ∀ acc, acc.length ≤ xs.length → (∀ v ∈ acc, Rv v) → Qd (upd H1 D (.lst acc))) :
    ∃ W : Nat → Nat → Hp → Prop, (∃ m, W 0 m (upd H1 D (.lst []))) ∧ ∀ i m H, W i m H →
      (J.stop i H ∧ Qd H) ∨ (J.go i H ∧ ∃ Nx : Hp → Prop, (∀ H', Nx H' → ∃ m', m' < m ∧ W (i + 1) m' H') ∧ ∀ x H', J.yld i H x H' → g x (wipe σ vs) H' fun σ2 H2 => wipe σ2 vs = wipe σ vs ∧ tt σ2 H2 fun b H3 =>
        if b = true then te σ2 H3 fun y H4 => ∃ acc, H4 D = some (.lst acc) ∧ acc.length < sizeLine ∧ Nx (upd H4 D (.lst (acc ++ [y]))) else Nx H3) := by
  have up : ∀ (a b : List V), upd (upd H1 D (.lst a)) D (.lst b) = upd H1 D (.lst b) := fun a b => by
    funext c
    by_cases z : c = D
    · rw [z, upd_same, upd_same]
    · rw [upd_ne z, upd_ne z, upd_ne z]
  refine lc_it w (fun i H => ∃ acc, acc.length ≤ i ∧ (∀ v ∈ acc, Rv v) ∧ H = upd H1 D (.lst acc)) ⟨[], Nat.le_refl _, (fun v h => absurd h List.not_mem_nil), rfl⟩ (fun i H _ e => by obtain ⟨acc, _, _, rfl⟩ := e; exact hG _) (fun i x H H' hi e y => ?_) (fun H e => by obtain ⟨acc, h1, h2, rfl⟩ := e; exact hd acc h1 h2)
  obtain ⟨rfl, hx⟩ := y
  obtain ⟨acc, h1, h2, rfl⟩ := e
  refine hs x (List.mem_of_getElem? hx) acc _ _ (fun y hy => ⟨acc, upd_same, szlt _ (by omega), acc ++ [y], by rw [List.length_append]; exact Nat.succ_le_succ h1, fun v hv => ?_, up _ _⟩) ⟨acc, by omega, h2, rfl⟩
  rcases List.mem_append.mp hv with hv | hv
  · exact h2 v hv
  · rw [List.mem_singleton.mp hv]; exact hy
end
theorem ixN_nat {n k : Nat} (h : k < n) : ixN n ((k : Nat) : Int) = some k := by
  unfold ixN
  rw [if_pos (by omega), if_pos (by omega), Int.toNat_natCast]
section
variable {P : Program} {w : World} {K : PySem.W.Frag} {mg : Str → Option Value} {base : Heap}
theorem scGrammar : FnScope ["_law_draws_here", "_law_names", "_law_rules", "_law_k", "_law_symbols", "_law_j", "_law_symbol_here"] ["_law_draws_here"] (defScope sGrammar) := ⟨rfl, rfl, rfl, by decide +kernel, rfl, by decide +kernel, by decide +kernel⟩
theorem ok_grammar {f fr fs : Addr} {fd fdr fds : FuncData} (F : Fun K "_law_grammar" "_law_grammar" sGrammar f fd) (T : Bi mg) (D_draw : Df K mg "_law_draw" sDraw ["_law_draws_here", "_law_limit"] fr fdr) (G_draw : FnOk P w K mg base CX0 1 fr fdr ["_law_draws_here", "_law_limit"] spDraw)
    (D_symbol : Df K mg "_law_symbol" sSymbol ["_law_draws_here", "_law_names"] fs fds) (G_symbol : FnOk P w K mg base CX0 2 fs fds ["_law_draws_here", "_law_names"] spSymbol) :
    FnOk P w K mg base CX0 3 f fd ["_law_draws_here"] spGrammar := by
  refine F.ok scGrammar (fun vs H Q E h => ?_) (fun cdv A outer s H vs Q E hr h => ?_)
  · obtain ⟨p, d, rfl, _⟩ := h
    rfl
  · obtain ⟨p, d, rfl, dr, k⟩ := h
    refine ⟨_, (pss_cons (ps_set (i := 1) scGrammar.nd rfl (Or.inr rfl) (pe_slice sl_list (pe_lst (pa_cons pe_str (pa_cons pe_str (pa_cons pe_str pa_nil)))) po_none (po_some (pe_op op_add pe_int (pe_call G_draw (hr.mono (by decide)) (by rfl) D_draw.g D_draw.F.kp D_draw.b .nil pass0 (pa_cons (pv 0) (pa_cons pe_int pa_nil)))))))
    (pss_cons (ps_set (i := 2) scGrammar.nd rfl (Or.inl rfl) (pe_lst pa_nil))
    (pss_cons (ps_for PassesOwn.never rfl (pi_range1 rfl T.range (pa_cons (pe_op op_add (pe_callB call_len_seq (by rfl) T.len PySem.boot_len (pa_cons (pv 1) pa_nil)) (pe_call G_draw (hr.mono (by decide)) (by rfl) D_draw.g D_draw.F.kp D_draw.b .nil pass0 (pa_cons (pv 0) (pa_cons pe_int pa_nil)))) pa_nil)) (pg_name (i := 3) scGrammar.nd rfl (Or.inl rfl))
      (pss_cons (ps_setLc (i := 4) (own := [("_law_j", 5)]) (g := gName 5) (tt := tYes) rfl scGrammar.nd rfl rfl (sw_true rfl rfl rfl (by decide +kernel)) (pi_range1 rfl T.range (pa_cons (pe_call G_draw (hr.mono (by decide)) (by rfl) D_draw.g D_draw.F.kp D_draw.b .nil pass0 (pa_cons (pv 0) (pa_cons pe_int pa_nil))) pa_nil)) (blkOk_by (N := ["_law_draws_here", "_law_names", "_law_rules", "_law_k", "_law_symbols", "_law_j", "_law_symbol_here"]) (sc := defScope sGrammar) (by decide +kernel)) (fun _ _ _ _ _ => pg_name (i := 5) scGrammar.nd rfl (Or.inl rfl)) (fun _ _ _ _ _ => pts_nil) (fun _ _ _ _ _ => (pe_call G_symbol (hr.mono (by decide)) (by rfl) D_symbol.g D_symbol.F.kp D_symbol.b .nil pass0 (pa_cons (pv 0) (pa_cons (pv 1) pa_nil)))))
      (pss_cons (ps_if (PW.pt (pw_and (pt_cmpR op_eq (pe_callB call_len_seq (by rfl) T.len PySem.boot_len (pa_cons (pe_lc (own := [("_law_symbol_here", 6)]) (g := gName 6) rfl scGrammar.nd (pi_list (pv 4)) (blkOk_by (N := ["_law_draws_here", "_law_names", "_law_rules", "_law_k", "_law_symbols", "_law_j", "_law_symbol_here"]) (sc := defScope sGrammar) (by decide +kernel)) (fun _ _ _ _ _ => pg_name (i := 6) scGrammar.nd rfl (Or.inl rfl)) (fun _ _ _ _ _ => (pts_one (pt_cmpR op_eq (pe_ix (r := rIxT K) ix_tup (pv 6) pe_int (fun _ _ => rfl)) pe_str (nomark _)))) (fun _ _ _ _ _ => (pv 6))) pa_nil)) (pe_callB call_len_seq (by rfl) T.len PySem.boot_len (pa_cons (pv 4) pa_nil)) (nomark _)) (pw_and (pt_cmpR op_gt (pe_callB call_len_seq (by rfl) T.len PySem.boot_len (pa_cons (pv 4) pa_nil)) pe_int (nomark _)) (pw_and1 (pt_cmpR op_gt (pe_call G_draw (hr.mono (by decide)) (by rfl) D_draw.g D_draw.F.kp D_draw.b .nil pass0 (pa_cons (pv 0) (pa_cons pe_int pa_nil))) pe_int (nomark _))))))
        (pss_one (ps_asg (pe_tup (pa_cons pe_str (pa_cons (pe_ix ix_str pe_str (pe_call G_draw (hr.mono (by decide)) (by rfl) D_draw.g D_draw.F.kp D_draw.b .nil pass0 (pa_cons (pv 0) (pa_cons pe_int pa_nil))) (fun _ _ => rfl)) pa_nil))) (pg_sub (pv 4) (pe_call G_draw (hr.mono (by decide)) (by rfl) D_draw.g D_draw.F.kp D_draw.b .nil pass0 (pa_cons (pv 0) (pa_cons (pe_callB call_len_seq (by rfl) T.len PySem.boot_len (pa_cons (pv 4) pa_nil)) pa_nil))) set_list (fun _ => rfl))))
        pss_nil)
      (pss_one (ps_expr (pe_bm PySem.F.plainAttrs_list PySem.F.slot_list_append PySem.F.type_list_append mt_append (pv 2) (pa_cons (pe_tup (pa_cons pe_str (pa_cons (pe_ifExp (pt_cmpR op_lt (pv 3) (pe_callB call_len_seq (by rfl) T.len PySem.boot_len (pa_cons (pv 1) pa_nil)) (nomark _)) (pe_ix ix_list (pv 1) (pv 3) (fun _ _ => rfl)) (pe_ix ix_list (pv 1) (pe_call G_draw (hr.mono (by decide)) (by rfl) D_draw.g D_draw.F.kp D_draw.b .nil pass0 (pa_cons (pv 0) (pa_cons (pe_callB call_len_seq (by rfl) T.len PySem.boot_len (pa_cons (pv 1) pa_nil)) pa_nil))) (fun _ _ => rfl))) (pa_cons (pe_op op_add_str pe_str (pe_callTy call_str_int (by rfl) T.str (by decide +kernel) (pa_cons (pv 3) pa_nil))) (pa_cons (pv 4) pa_nil))))) pa_nil)))))))
    (pss_one (ps_ret (pe_tup (pa_cons pe_str (pa_cons (pe_ix ix_list (pv 1) (pe_call G_draw (hr.mono (by decide)) (by rfl) D_draw.g D_draw.F.kp D_draw.b .nil pass0 (pa_cons (pv 0) (pa_cons (pe_callB call_len_seq (by rfl) T.len PySem.boot_len (pa_cons (pv 1) pa_nil)) pa_nil))) (fun _ _ => rfl)) (pa_cons (pv 2) pa_nil))))))))), ?_⟩
    refine ⟨sz3, fun L hL => ⟨_, rfl, p, d, 3, rfl, dr.upd hL, by decide, by decide, fun H1 m kp1 dr1 hm => ⟨_, _, rfl, rfl, _, rfl, ?_⟩⟩⟩
    have nLp : L ≠ p := fun z => by obtain ⟨o, ho⟩ := dr.lst; rw [z, ho] at hL; cases hL
    have hL1 := kp1 _ _ upd_same nLp
    have kpH : Kp p H H1 := fun b o e n => kp1 _ _ (by rw [upd_ne (ne_of_none e hL)]; exact e) n
    refine ⟨L, _, rfl, SqL.of hL1, fun N hN => ?_⟩
    have ecut : cutV [V.str "s", V.str "a", V.str "b"] none (some (1 + ((m : Nat) : Int))) = (SAB.take (m + 1)).map V.str := by
      have : (1 + ((m : Nat) : Int)) = ((m + 1 : Nat) : Int) := by omega
      unfold cutV
      rw [this, HT.sIx_nat, HT.sIx_none]
      have h3 : min (m + 1) [V.str "s", V.str "a", V.str "b"].length - 0 = m + 1 := by
        show min (m + 1) 3 - 0 = m + 1
        omega
      rw [h3, List.drop_zero, List.map_take]
      rfl
    rw [ecut]
    generalize hns : SAB.take (m + 1) = ns
    have nl : ns.length = m + 1 := by
      rw [← hns, List.length_take]
      show min (m + 1) 3 = _
      omega
    have nNp : N ≠ p := fun z => by obtain ⟨o, ho⟩ := dr1.lst; rw [z, ho] at hN; cases hN
    refine ⟨sz0, fun R hR => ?_⟩
    have hRn := upd_none hR
    have nRN := ne_new hR
    have nRp : R ≠ p := fun z => by obtain ⟨o, ho⟩ := dr1.lst; rw [z, ho] at hRn; cases hRn
    have dr2 : DrAt (upd (upd H1 N (.lst (ns.map V.str))) R (.lst [])) p d := (dr1.upd hN).upd hR
    have hN2 : upd (upd H1 N (.lst (ns.map V.str))) R (.lst []) N = some (.lst (ns.map V.str)) := by rw [upd_ne nRN.symm, upd_same]
    have kp2 : Kp p H (upd (upd H1 N (.lst (ns.map V.str))) R (.lst [])) := fun b o e n => by
      rw [upd_ne (ne_of_none (kpH _ _ e n) hRn), upd_ne (ne_of_none (kpH _ _ e n) hN)]; exact kpH _ _ e n
    have dR : d ≠ R := by obtain ⟨o, ho⟩ := dr1.dst; exact ne_of_none ho hRn
    have HRn : H R = none := kpH.free hRn dr1.lst
    generalize hH2 : upd (upd H1 N (.lst (ns.map V.str))) R (.lst []) = H2 at dr2 hN2 kp2
    have hR2 : H2 R = some (.lst []) := by rw [← hH2, upd_same]
    refine ⟨_, rfl, N, _, rfl, .inl (SqL.of hN2), _, rfl, p, d, 4, rfl, dr2, by decide, by decide, fun H3 m2 kp3 dr3 hm2 => ⟨_, _, rfl, rfl, _, rfl, ?_, ?_, ?_⟩⟩
    · rw [List.length_map]; omega
    · rw [List.length_map]; omega
    rw [List.length_map, nl]
    refine for_range (lo := 0) (n := ((((m + 1 : Nat) : Int)) + ((m2 : Nat) : Int)).toNat) (fun i σ H' => ∃ (v3 v4 : Option V) (LL : List (Addr × Addr × Ru)), σ = [some (.ref p), some (.ref N), some (.ref R), v3, v4, none, none] ∧ Kp p H H' ∧ DrAt H' p d ∧ H' N = some (.lst (ns.map V.str)) ∧
      H' R = some (.lst (LL.map fun q => V.ref q.1)) ∧ (∀ q ∈ LL, RuleS H' q.1 q.2.1 q.2.2 ∧ q.2.1 ≠ p ∧ q.2.1 ≠ R) ∧ LL.length = i ∧ (∀ q ∈ LL, DRu ns q.2.2) ∧ ∀ j n, j < i → ns[j]? = some n → ∃ q ∈ LL, q.2.2.2.1 = n) ?_ ?_ ?_
    · exact ⟨none, none, [], rfl, kp2.trans kp3, dr3, kp3 _ _ hN2 nNp, kp3 _ _ hR2 nRp, fun q h => absurd h List.not_mem_nil, rfl, fun q h => absurd h List.not_mem_nil, fun j n h => by omega⟩
    · rintro i σ H4 hi ⟨v3, v4, LL, rfl, kp4, dr4, hN4, hR4, hLL, lL, dL, aL⟩
      have hi6 : i < 6 := by omega
      have e0 : (0 : Int) + ((i : Nat) : Int) = ((i : Nat) : Int) := by omega
      rw [e0]
      refine ⟨_, rfl, p, d, 4, rfl, dr4, by decide, by decide, fun H5 m3 kp5 dr5 hm3 => ⟨_, rfl, by omega, by omega, fun S hS => ?_⟩⟩
      obtain ⟨xp, hp4⟩ := dr4.ls
      obtain ⟨xp5, hp5⟩ := dr5.ls
      have nSp : S ≠ p := fun z => by rw [z, hp5] at hS; cases hS
      have hN5 := kp5 _ _ hN4 nNp
      have hR5 := kp5 _ _ hR4 nRp
      have hLL5 : ∀ q ∈ LL, RuleS H5 q.1 q.2.1 q.2.2 := fun q hq => (hLL q hq).1.kx kp5 hp4 (hLL q hq).2.1
      have nSd : S ≠ d := by obtain ⟨o, ho⟩ := dr5.dst; exact (ne_of_none ho hS).symm
      refine lc_range (lo := 0) (n := ((m3 : Nat) : Int).toNat) (fun j H' => ∃ SL : List (Addr × Md.Sy Str), SL.length = j ∧ Kp p H5 H' ∧ DrAt H' p d ∧ H' S = some (.lst (SL.map fun q => V.ref q.1)) ∧ (∀ q ∈ SL, SymAt H' q.1 q.2) ∧ ∀ q ∈ SL, DSy ns q.2) ?_ ?_ ?_
      · exact ⟨[], rfl, (Kp.refl _ _).upd hS, dr5.upd hS, upd_same, fun q h => absurd h List.not_mem_nil, fun q h => absurd h List.not_mem_nil⟩
      · rintro j H6 hj ⟨SL, sl, kp6, dr6, hS6, hSL, dSL⟩
        refine ⟨rfl, tyesI ⟨_, rfl, _, rfl, p, d, N, ns, rfl, dr6, kp6 _ _ hN5 nNp, nNp, by omega, by omega, fun H7 r y kp7 dr7 hr hy dy => ?_⟩⟩
        have hS7 := kp7 _ _ hS6 nSp
        obtain ⟨xp6, hp6⟩ := dr6.ls
        refine ⟨_, hS7, by rw [List.length_map]; exact szlt _ (by omega), SL ++ [(r, y)], by rw [List.length_append, sl]; rfl, fun b o e n => ?_, dr7.put nSp nSd, by rw [upd_same, List.map_append]; rfl, fun q hq => ?_, fun q hq => ?_⟩
        · have h1 := kp7 _ _ (kp6 _ _ e n) n
          rw [upd_ne (ne_of_none e hS)]; exact h1
        · rcases List.mem_append.mp hq with hq | hq
          · have h1 : H6 q.1 = some (.tup (syV q.2)) := hSL q hq
            have h2 := kp7 _ _ h1 (ne_of h1 hp6 (fun z => by cases z))
            show upd H7 S _ q.1 = _
            rw [upd_ne (ne_of h2 hS7 (fun z => by cases z))]; exact h2
          · rw [List.mem_singleton.mp hq]
            show upd H7 S _ r = _
            have hy' : H7 r = some (.tup (syV y)) := hy
            rw [upd_ne (ne_of hy' hS7 (fun z => by cases z))]; exact hy'
        · rcases List.mem_append.mp hq with hq | hq
          · exact dSL q hq
          · rw [List.mem_singleton.mp hq]; exact dy
      · rintro H6 ⟨SL, sl, kp6, dr6, hS6, hSL, dSL⟩
        have sl3 : SL.length ≤ 3 := by omega
        have nSR : S ≠ R := (ne_of_none hR5 hS).symm
        have nSN : S ≠ N := (ne_of_none hN5 hS).symm
        unfold gName
        dsimp only
        refine seq_join (fun σ' H' => ∃ SL : List (Addr × Md.Sy Str), σ' = [some (.ref p), some (.ref N), some (.ref R), some (.int (i : Nat)), some (.ref S), none, none] ∧ SL.length ≤ 3 ∧ Kp p H5 H' ∧ DrAt H' p d ∧ H' S = some (.lst (SL.map fun q => V.ref q.1)) ∧ (∀ q ∈ SL, SymAt H' q.1 q.2) ∧ ∀ q ∈ SL, DSy ns q.2) ?_ (fun rest => ?_)
        · rintro σ' H7 ⟨SL, rfl, sl3, kp7, dr7, hS7, hSL, dSL⟩
          have hN7 := kp7 _ _ hN5 nNp
          have hR7 := kp7 _ _ hR5 nRp
          refine ⟨_, rfl, .inl ⟨rfl, _, SqL.of hR7⟩, ?_⟩
          refine te_join (te := tIf (tTest _) _ _) (fun v H' => ∃ nm, v = .str nm ∧ nm ∈ ns ∧ (∀ n, ns[i]? = some n → n = nm) ∧ Kp p H7 H' ∧ DrAt H' p d) ?_ (fun after => ?_)
          · rintro v H8 ⟨nm, rfl, hnm, hin, kp8, dr8⟩
            obtain ⟨ts1, ts2, ts3⟩ := tostr_small i hi6
            obtain ⟨xp7, hp7⟩ := dr7.ls
            have hR8 := kp8 _ _ hR7 nRp
            have hN8 := kp8 _ _ hN7 nNp
            have hS8 := kp8 _ _ hS7 nSp
            have dRH : d ≠ R := dR
            refine ⟨_, rfl, _, rfl, ts2, _, _, rfl, rfl, ?_, _, rfl, sz4, fun TT hTT => ⟨R, LL.map (fun q => V.ref q.1), _, rfl, rfl, ?_, ?_, ?_⟩⟩
            · show 1 + (Str.ofString (toString ((i : Nat) : Int))).length ≤ _
              exact sz _ (by omega)
            · rw [upd_ne (ne_of_none hR8 hTT)]; exact hR8
            · rw [List.length_map]; exact szlt _ (by omega)
            · have nTR : R ≠ TT := ne_of_none hR8 hTT
              have nST : S ≠ TT := ne_of_none hS8 hTT
              have sm : ∀ {o}, L2.Same H8 (upd H8 TT o) := fun {o} b u e => by rw [upd_ne (ne_of_none e hTT)]; exact e
              have hsy8 : SymsAt H8 S (SL.map (·.2)) := SymsAt.kx ⟨SL, rfl, hS7, hSL⟩ kp8 hp7 nSp
              have kR : ∀ {H' : Hp} {o}, Kp R H' (upd H' R o) := fun {H' o} b u e n => by rw [upd_ne n]; exact e
              refine ⟨_, _, LL ++ [(TT, S, ("r" ++ Str.ofString (toString ((i : Nat) : Int)), nm, SL.map (·.2)))], rfl, fun b o e n => ?_, ((dr8.upd hTT).put nRp dR.symm), ?_, by rw [upd_same, List.map_append]; rfl, fun q hq => ?_, by rw [List.length_append, lL]; rfl, fun q hq => ?_, fun j n hj hn => ?_⟩
              · have h1 := kp8 _ _ (kp7 _ _ (kp5 _ _ (kp4 _ _ e n) n) n) n
                rw [upd_ne (ne_of_none e HRn), upd_ne (ne_of_none h1 hTT)]; exact h1
              · rw [upd_ne nRN.symm, upd_ne (ne_of_none hN8 hTT)]; exact hN8
              · rcases List.mem_append.mp hq with hq | hq
                · obtain ⟨_, n1, n2⟩ := hLL q hq
                  have r8 := (hLL5 q hq).kx (kp7.trans kp8) hp5 n1
                  exact ⟨(r8.same sm).kx kR (by rw [upd_ne nTR]; exact hR8) n2, n1, n2⟩
                · rw [List.mem_singleton.mp hq]
                  exact ⟨⟨by rw [upd_ne nTR.symm, upd_same], (hsy8.same sm).kx kR (by rw [upd_ne nTR]; exact hR8) nSR⟩, nSp, nSR⟩
              · rcases List.mem_append.mp hq with hq | hq
                · exact dL q hq
                · rw [List.mem_singleton.mp hq]
                  refine ⟨hnm, by show (SL.map (·.2)).length ≤ 3; rw [List.length_map]; exact sl3, fun y hy => ?_, ts3⟩
                  obtain ⟨z, hz, rfl⟩ := List.mem_map.mp hy
                  exact dSL z hz
              · by_cases z : j = i
                · subst z
                  exact ⟨_, List.mem_append_right _ List.mem_cons_self, (hin n hn).symm⟩
                · obtain ⟨q, hq, e⟩ := aL j n (by omega) hn
                  exact ⟨q, List.mem_append_left _ hq, e⟩
          · refine ⟨_, rfl, _, rfl, N, _, rfl, .inl (SqL.of hN7), _, _, rfl, rfl, _, rfl, ?_⟩
            refine ite2 (fun c => ?_) (fun c => ?_)
            · have c := of_decide_eq_true c
              rw [List.length_map] at c
              obtain ⟨nm, hnm⟩ : ∃ nm, ns[i]? = some nm := ⟨_, List.getElem?_eq_getElem (by omega)⟩
              have hnm2 : (ns.map V.str)[i]? = some (.str nm) := by rw [List.getElem?_map, hnm]; rfl
              exact ⟨_, rfl, _, rfl, N, _, _, _, rfl, rfl, SqL.of hN7, atI_nat hnm2, after _ _ ⟨nm, rfl, List.mem_of_getElem? hnm, fun n hn => by rw [hnm] at hn; exact (Option.some.inj hn).symm, Kp.refl _ _, dr7⟩⟩
            · have c : ¬ ((i : Int) < ((ns.map V.str).length : Nat)) := fun z => c (decide_eq_true z)
              rw [List.length_map] at c
              refine ⟨_, rfl, _, rfl, _, rfl, N, _, rfl, .inl (SqL.of hN7), p, d, _, rfl, dr7, by rw [List.length_map]; omega, by rw [List.length_map]; omega, fun H8 m8 kp8 dr8 hm8 => ?_⟩
              rw [List.length_map] at hm8
              obtain ⟨nm, hnm⟩ := pick (xs := ns) hm8 rfl
              have hnm2 : (ns.map V.str)[m8]? = some (.str nm) := by rw [List.getElem?_map, hnm]; rfl
              exact ⟨N, _, _, _, rfl, rfl, SqL.of (kp8 _ _ hN7 nNp), atI_nat hnm2, after _ _ ⟨nm, rfl, List.mem_of_getElem? hnm, fun n hn => by
                have := (List.getElem?_eq_some_iff.mp hn).1
                omega, kp8, dr8⟩⟩
        · refine ⟨_, rfl, S, rfl, ⟨_, SqL.of hS6⟩, fun D2 hD2 => ?_⟩
          have nD2S : S ≠ D2 := ne_of_none hS6 hD2
          refine lc_some (H1 := H6) (D := D2) (g := gName 6) (te := tVar 6) (vs := [6]) (xs := SL.map fun q => V.ref q.1) (walk_list (K := K)) (fun _ => True) (fun acc => SqL.of (by rw [upd_ne nD2S]; exact hS6)) (by rw [List.length_map]; omega) (fun x hx acc Y Nn hY hNn => ?_) (fun acc hacc _ => ?_)
          · obtain ⟨q, hq, rfl⟩ := List.mem_map.mp hx
            have hq6 : H6 q.1 = some (.tup (syV q.2)) := hSL q hq
            refine ⟨rfl, _, rfl, q.1, _, _, _, rfl, rfl, SqT.of (by rw [upd_ne (ne_of_none hq6 hD2)]; exact hq6), rfl, rfl, _, rfl, ?_⟩
            exact ite2 (fun _ => ⟨_, rfl, hY _ trivial⟩) (fun _ => hNn)
          · have hS7 : upd H6 D2 (.lst acc) S = some (.lst (SL.map fun q => V.ref q.1)) := by rw [upd_ne nD2S]; exact hS6
            have dr7 : DrAt (upd H6 D2 (.lst acc)) p d := dr6.upd hD2
            have hD5 : H5 D2 = none := kp6.free hD2 dr6.lst
            have kp7 : Kp p H5 (upd H6 D2 (.lst acc)) := kp6.upd hD5
            have hSL7 : ∀ q ∈ SL, SymAt (upd H6 D2 (.lst acc)) q.1 q.2 := fun q hq => by
              have h1 : H6 q.1 = some (.tup (syV q.2)) := hSL q hq
              show upd H6 D2 _ q.1 = _
              rw [upd_ne (ne_of_none h1 hD2)]; exact h1
            have hD27 : upd H6 D2 (.lst acc) D2 = some (.lst acc) := upd_same
            generalize upd H6 D2 (.lst acc) = H7 at hS7 dr7 kp7 hSL7 hD27 ⊢
            have ex1 : ∀ {H' : Hp}, Kp p H7 H' → H' S = some (.lst (SL.map fun q => V.ref q.1)) ∧ ∀ q ∈ SL, SymAt H' q.1 q.2 := fun {H'} kp' => by
              obtain ⟨xp7, hp7⟩ := dr7.ls
              exact ⟨kp' _ _ hS7 nSp, fun q hq => by
                have h1 : H7 q.1 = some (.tup (syV q.2)) := hSL7 q hq
                exact kp' _ _ h1 (ne_of h1 hp7 (fun z => by cases z))⟩
            have ex : ∀ {H' : Hp}, Kp p H7 H' → DrAt H' p d → ∃ SL : List (Addr × Md.Sy Str), ([some (.ref p), some (.ref N), some (.ref R), some (.int (i : Nat)), some (.ref S), none, none] : L2.St) = [some (.ref p), some (.ref N), some (.ref R), some (.int (i : Nat)), some (.ref S), none, none] ∧ SL.length ≤ 3 ∧ Kp p H5 H' ∧ DrAt H' p d ∧ H' S = some (.lst (SL.map fun q => V.ref q.1)) ∧ (∀ q ∈ SL, SymAt H' q.1 q.2) ∧ ∀ q ∈ SL, DSy ns q.2 := fun {H'} kp' dr' => by
              exact ⟨SL, rfl, sl3, kp7.trans kp', dr', (ex1 kp').1, (ex1 kp').2, dSL⟩
            refine ⟨D2, _, rfl, .inl (SqL.of hD27), _, rfl, S, _, rfl, .inl (SqL.of hS7), rfl, _, rfl, ?_⟩
            refine ite2 (fun _ => ?_) (fun _ => iteF (rest _ _ (ex (Kp.refl _ _) dr7)))
            refine ⟨_, rfl, S, _, rfl, .inl (SqL.of hS7), _, _, rfl, rfl, _, rfl, ?_⟩
            refine ite2 (fun c => ?_) (fun _ => iteF (rest _ _ (ex (Kp.refl _ _) dr7)))
            have c := of_decide_eq_true c
            rw [List.length_map] at c
            refine ⟨_, rfl, p, d, 6, rfl, dr7, by decide, by decide, fun H8 m8 kp8 dr8 hm8 => ⟨_, _, rfl, rfl, _, rfl, ?_⟩⟩
            refine ite2 (fun _ => ?_) (fun _ => rest _ _ (ex kp8 dr8))
            refine ⟨_, rfl, p, d, 2, rfl, dr8, by decide, by decide, fun H9 m9 kp9 dr9 hm9 => ?_⟩
            obtain ⟨cc, hcc⟩ := pick (xs := [120, 121]) hm9 rfl
            have hccm : [cc] ∈ litW := by
              have := List.mem_of_getElem? hcc
              simp at this
              rcases this with rfl | rfl <;> simp [litW]
            refine ⟨"xy", _, cc, rfl, rfl, sz 2 (by decide), atI_nat hcc, sz2, fun TT hTT => ?_⟩
            obtain ⟨hS9, hSL9⟩ := ex1 (kp8.trans kp9)
            have nTS : S ≠ TT := ne_of_none hS9 hTT
            have hT5 : H5 TT = none := (kp7.trans (kp8.trans kp9)).free hTT dr9.lst
            refine ⟨_, rfl, _, rfl, _, rfl, S, SL.map (fun q => V.ref q.1), rfl, .inl (SqL.of (by rw [upd_ne nTS]; exact hS9)), p, d, _, rfl, dr9.upd hTT, by rw [List.length_map]; omega, by rw [List.length_map]; omega, fun H10 m10 kp10 dr10 hm10 => ?_⟩
            rw [List.length_map] at hm10
            have hS10 := kp10 S (.lst (SL.map fun q => V.ref q.1)) (by rw [upd_ne nTS]; exact hS9) nSp
            obtain ⟨xp9, hp9⟩ := (dr9.upd (o := .tup [.str "lit", .str ⟨#[cc]⟩]) hTT).ls
            have hT10 := kp10 TT (.tup [.str "lit", .str ⟨#[cc]⟩]) upd_same (ne_of upd_same hp9 (fun z => by cases z))
            refine ⟨S, _, _, m10, rfl, rfl, hS10, ixN_nat (by rw [List.length_map]; omega), rest _ _ ⟨SL.set m10 (TT, .lit [cc]), rfl, by rw [List.length_set]; exact sl3, fun b o e n => ?_, dr10.put nSp nSd, by rw [upd_same, List.map_set], fun q hq => ?_, fun q hq => ?_⟩⟩
            · have h1 := kp9 _ _ (kp8 _ _ (kp7 _ _ e n) n) n
              have h2 := kp10 b o (by rw [upd_ne (ne_of_none h1 hTT)]; exact h1) n
              rw [upd_ne (ne_of_none e hS)]; exact h2
            · have h10 : H10 q.1 = some (.tup (syV q.2)) := by
                rcases List.mem_or_eq_of_mem_set hq with hq | rfl
                · have h1 : H9 q.1 = some (.tup (syV q.2)) := hSL9 q hq
                  have h2 : upd H9 TT (.tup [.str "lit", .str ⟨#[cc]⟩]) q.1 = some (.tup (syV q.2)) := by rw [upd_ne (ne_of_none h1 hTT)]; exact h1
                  exact kp10 _ _ h2 (ne_of h2 hp9 (fun z => by cases z))
                · exact hT10
              show upd H10 S _ q.1 = _
              rw [upd_ne (ne_of h10 hS10 (fun z => by cases z))]; exact h10
            · rcases List.mem_or_eq_of_mem_set hq with hq | rfl
              · exact dSL q hq
              · exact hccm
    · rintro σ H4 ⟨v3, v4, LL, rfl, kp4, dr4, hN4, hR4, hLL, lL, dL, aL⟩
      obtain ⟨xp4, hp4⟩ := dr4.ls
      refine ⟨_, rfl, _, rfl, _, rfl, N, _, rfl, .inl (SqL.of hN4), p, d, _, rfl, dr4, by rw [List.length_map]; omega, by rw [List.length_map]; omega, fun H5 m5 kp5 dr5 hm5 => ?_⟩
      rw [List.length_map] at hm5
      obtain ⟨st, hst⟩ := pick (xs := ns) hm5 rfl
      have hst2 : (ns.map V.str)[m5]? = some (.str st) := by rw [List.getElem?_map, hst]; rfl
      refine ⟨N, _, _, _, rfl, rfl, SqL.of (kp5 _ _ hN4 nNp), atI_nat hst2, _, rfl, sz3, fun g hg => ?_⟩
      have sm : ∀ {o}, L2.Same H5 (upd H5 g o) := fun {o} b u e => by rw [upd_ne (ne_of_none e hg)]; exact e
      have hR5 := kp5 _ _ hR4 nRp
      have dr6 : DrAt (upd H5 g (.tup [.str "grammar", .str st, .ref R])) p d := dr5.upd hg
      obtain ⟨xp6, hp6⟩ := dr6.ls
      have hid6 := kp_hid p (upd H5 g (.tup [.str "grammar", .str st, .ref R]))
      refine k _ g st (LL.map fun q => q.2.2) ns (fun b o e n => sm _ _ (kp5 _ _ (kp4 _ _ e n) n)) dr6 ⟨R, hid6 _ _ upd_same (ne_of upd_same hp6 (fun z => by cases z)), LL.map fun q => (q.1, q.2.2), by rw [List.map_map]; rfl, hid6 _ _ (by rw [sm _ _ hR5, List.map_map]; rfl) nRp, fun z hz => ?_⟩ ⟨⟨m, by omega, hns.symm⟩, List.mem_of_getElem? hst, by rw [List.length_map]; omega, fun r hr => ?_, fun n hn => ?_⟩
      · obtain ⟨q, hq, rfl⟩ := List.mem_map.mp hz
        have h1 := ((hLL q hq).1.kx kp5 hp4 (hLL q hq).2.1).same (sm (o := .tup [.str "grammar", .str st, .ref R]))
        have h2 := h1.kx hid6 hp6 (hLL q hq).2.1
        exact ⟨q.2.1, h2.1, h2.2⟩
      · obtain ⟨q, hq, rfl⟩ := List.mem_map.mp hr
        exact dL q hq
      · obtain ⟨j, hj⟩ := List.getElem?_of_mem hn
        have := (List.getElem?_eq_some_iff.mp hj).1
        obtain ⟨q, hq, e⟩ := aL j n (by omega) hj
        exact ⟨_, List.mem_map.mpr ⟨q, hq, rfl⟩, e⟩
end
end Ms
end TextE3
section TextE4
set_option linter.all false
set_option maxRecDepth 100000
namespace Ms
open PySem PySem.Spec PyProof.Rows L2
/-- list(text) -/
def rListS : List V → Hp → VK → Prop := fun xs H Q => ∃ z : Str, xs = [.str z] ∧ z.length ≤ 1000000 ∧ ∀ p, H p = none → Q (.ref p) (upd H p (.lst (z.cps.toList.map chV)))
theorem cr_listStr {X : Cx} (hc : X.calm = true) : CallR X (.type "list") rListS := by
  intro pins s σ H vs us Q I r h
  obtain ⟨z, rfl, hz, q⟩ := h
  obtain ⟨u, rfl, t, rfl⟩ := vals1 r
  refine PySem.call_list_str (I.ok.hd hc) z t (fun h' tk acc c' kp e io => ?_) (sz _ hz)
  have rv : Vals (z.cps.toList.map chV) acc.toList := by
    refine vals_of_at (by rw [List.length_map, Array.length_toList, Array.length_toList, io.1]) fun j x u hx hu => ?_
    rw [Array.getElem?_toList] at hu
    obtain ⟨c, tk2, hcz, rfl⟩ := io.2 j u hu
    rw [List.getElem?_map, Array.getElem?_toList, hcz] at hx
    cases hx
    exact ⟨tk2, rfl⟩
  refine ⟨.ref s.heap.objs.size, _, I.laid (t' := tk) kp (Nat.le_refl _) (show ObjOk X.prog X.w _ h' _ (.lst (z.cps.toList.map chV)) from ⟨?_, acc.toList, c', rv, by simpa using e⟩), rfl, q _ (I.hok.fresh (Nat.le_refl _))⟩
  rw [List.length_map, Array.length_toList]
  exact sz _ hz
def spApart : Sp := fun vs H Q _ => ∃ x y : Str, vs = [.str x, .str y] ∧ x.length ≤ 1000 ∧ y.length ≤ 1000 ∧ ∀ H', L2.Same H H' → Q (.int ((Md.dist x.cps.toList y.cps.toList : Nat) : Int)) H'
/-- the dict of a name's words -/
def WdAt (H : Hp) (c : Addr) (ws : List (List Nat)) : Prop := H c = some (.dK (ws.map fun w => ((.inr (tx w) : Key), V.bl true)))
/-- the dict of all names' words -/
def WdsAt (H : Hp) (d : Addr) (nl : List Str) (cell : Str → Addr) (W : Str → List (List Nat)) : Prop :=
  H d = some (.dK (nl.map fun n => ((.inr n : Key), V.ref (cell n)))) ∧ ∀ n ∈ nl, WdAt H (cell n) (W n)
/-- the texts of a symbol, the names' words given -/
def txts (W : Str → List (List Nat)) : Md.Sy Str → List (List Nat)
  | .lit w => [w]
  | .cls cs => cs.map fun c => [c]
  | .nt n => W n
def spTexts : Sp := fun vs H Q _ => ∃ (p d : Addr) (nl : List Str) (cell : Str → Addr) (W : Str → List (List Nat)) (y : Md.Sy Str), vs = [.ref p, .ref d] ∧ SymAt H p y ∧ SyOk nl y ∧ WdsAt H d nl cell W ∧
  ∀ H' r, L2.Same H H' → H r = none → H' r = some (.lst ((txts W y).map fun w => V.str (tx w))) → Q (.ref r) H'
section
variable {P : Program} {w : World} {K : PySem.W.Frag} {mg : Str → Option Value} {base : Heap}
theorem scApart : FnScope ["_law_first", "_law_second", "_law_row", "_law_at", "_law_last", "_law_k"] ["_law_first", "_law_second"] (defScope sApart) := ⟨rfl, rfl, rfl, by decide +kernel, rfl, by decide +kernel, by decide +kernel⟩
theorem scTexts : FnScope ["_law_symbol_here", "_law_rows"] ["_law_symbol_here", "_law_rows"] (defScope sTexts) := ⟨rfl, rfl, rfl, by decide +kernel, rfl, by decide +kernel, by decide +kernel⟩
theorem ok_texts {f : Addr} {fd : FuncData} (F : Fun K "_law_texts" "_law_texts" sTexts f fd) (T : Bi mg) : FnOk P w K mg base CX0 1 f fd ["_law_symbol_here", "_law_rows"] spTexts := by
  refine F.ok scTexts (fun vs H Q E h => ?_) (fun cdv A outer s H vs Q E hr h => ?_)
  · obtain ⟨p, d, nl, cell, W, y, rfl, _⟩ := h
    rfl
  · obtain ⟨p, d, nl, cell, W, y, rfl, hy, oy, ⟨hd, hW⟩, k⟩ := h
    refine ⟨_, (pss_cons (ps_if (pt_cmpR op_eq (pe_ix ix_tup (pv 0) pe_int (fun _ _ => rfl)) pe_str (nomark _))
      (pss_one (ps_ret (pe_lst (pa_cons (pe_ix ix_tup (pv 0) pe_int (fun _ _ => rfl)) pa_nil))))
      pss_nil)
    (pss_one (ps_ret (pe_ifExp (pt_cmpR op_eq (pe_ix ix_tup (pv 0) pe_int (fun _ _ => rfl)) pe_str (nomark _)) (pe_callTy (cr_listStr rfl) (by rfl) T.list (by decide +kernel) (pa_cons (pe_ix ix_tup (pv 0) pe_int (fun _ _ => rfl)) pa_nil)) (pe_callTy (call_listD rfl) (by rfl) T.list (by decide +kernel) (pa_cons (pe_dget (hu_of hr) (pv 1) (pe_ix ix_tup (pv 0) pe_int (fun _ _ => rfl)) (fun _ _ => rfl)) pa_nil)))))), ?_⟩
    have hy : H p = some (.tup (syV y)) := hy
    refine ⟨_, rfl, p, _, _, _, rfl, rfl, SqT.of hy, rfl, rfl, _, rfl, ?_⟩
    refine ite2 (fun e1 => ?_) (fun e1 => ?_)
    · cases y with
      | cls cs => exact absurd (of_decide_eq_true e1) nk1
      | nt n => exact absurd (of_decide_eq_true e1) nk2
      | lit wd => exact ⟨_, rfl, p, _, _, _, rfl, rfl, SqT.of hy, rfl, sz1, fun r hr => k _ r (sm_upd (L2.Same.refl H) hr) hr upd_same⟩
    · refine ⟨_, rfl, p, _, _, _, rfl, rfl, SqT.of hy, rfl, rfl, _, rfl, ?_⟩
      refine ite2 (fun e2 => ?_) (fun e2 => ?_)
      · cases y with
        | lit wd => exact absurd (decide_eq_true rfl) e1
        | nt n => exact absurd (of_decide_eq_true e2).symm nk3
        | cls cs =>
          obtain ⟨_, _, c3⟩ := oy
          refine ⟨_, rfl, p, _, _, _, rfl, rfl, SqT.of hy, rfl, tx cs, rfl, by rw [tx_len]; omega, fun r hr => k _ r (sm_upd (L2.Same.refl H) hr) hr ?_⟩
          rw [upd_same]
          show some (HO.lst (cs.map chV)) = some (HO.lst ((cs.map fun c => [c]).map fun w => V.str (tx w)))
          rw [List.map_map]; rfl
      · cases y with
        | lit wd => exact absurd (decide_eq_true rfl) e1
        | cls cs => exact absurd (decide_eq_true rfl) e2
        | nt n =>
          have dg := DGet.k (k := .inr n) hd
          rw [val_name (f := fun n => V.ref (cell n)) oy] at dg
          refine ⟨_, rfl, _, rfl, p, _, _, _, rfl, rfl, SqT.of hy, rfl, d, _, rfl, dg, cell n, _, rfl, .inl (hW n oy), fun r hr => k _ r (sm_upd (L2.Same.refl H) hr) hr ?_⟩
          rw [upd_same, List.map_map]; rfl
theorem ok_apart {f : Addr} {fd : FuncData} (F : Fun K "_law_apart" "_law_apart" sApart f fd) (T : Bi mg) : FnOk P w K mg base CX0 1 f fd ["_law_first", "_law_second"] spApart := by
  refine F.ok scApart (fun vs H Q E h => ?_) (fun cdv A outer s H vs Q E hr h => ?_)
  · obtain ⟨x, y, rfl, _⟩ := h
    rfl
  · obtain ⟨x, y, rfl, hx, hy, k⟩ := h
    refine ⟨_, (pss_cons (ps_set (i := 2) scApart.nd rfl (Or.inl rfl) (pe_listRg rfl (by rfl) T.list (prg_1 (by rfl) T.range (pe_op op_add (pe_callB call_len_str (by rfl) T.len PySem.boot_len (pa_cons (pv 1) pa_nil)) pe_int))))
    (pss_cons (ps_for PassesOwn.never rfl (pi_range1 rfl T.range (pa_cons (pe_callB call_len_str (by rfl) T.len PySem.boot_len (pa_cons (pv 0) pa_nil)) pa_nil)) (pg_name (i := 3) scApart.nd rfl (Or.inl rfl))
      (pss_cons (ps_set (i := 4) scApart.nd rfl (Or.inl rfl) (pv 2))
      (pss_cons (ps_set (i := 2) scApart.nd rfl (Or.inl rfl) (pe_lst (pa_cons (pe_op op_add (pv 3) pe_int) pa_nil)))
      (pss_one (ps_for PassesOwn.never rfl (pi_range1 rfl T.range (pa_cons (pe_callB call_len_str (by rfl) T.len PySem.boot_len (pa_cons (pv 1) pa_nil)) pa_nil)) (pg_name (i := 5) scApart.nd rfl (Or.inl rfl))
        (pss_one (ps_expr (pe_bm PySem.F.plainAttrs_list PySem.F.slot_list_append PySem.F.type_list_append mt_append (pv 2) (pa_cons (pe_callB (call_min3Nu rfl) (by rfl) T.min (by decide +kernel) (pa_cons (pe_op op_add (pe_ix ix_list (pv 4) (pv 5) (fun _ _ => rfl)) (pe_callTy call_int1 (by rfl) T.int (by decide +kernel) (pa_cons (pe_cmpR op_ne (pe_ix ix_str (pv 0) (pv 3) (fun _ _ => rfl)) (pe_ix ix_str (pv 1) (pv 5) (fun _ _ => rfl)) (nomark _)) pa_nil))) (pa_cons (pe_op op_add (pe_ix ix_list (pv 4) (pe_op op_add (pv 5) pe_int) (fun _ _ => rfl)) pe_int) (pa_cons (pe_op op_add (pe_ix ix_list (pv 2) (pv 5) (fun _ _ => rfl)) pe_int) pa_nil)))) pa_nil)))))))))
    (pss_one (ps_ret (pe_ix ix_list (pv 2) (pe_un un_neg pe_int) (fun _ _ => rfl)))))), ?_⟩
    have hxl : x.cps.toList.length = x.length := Array.length_toList
    have hyl : y.cps.toList.length = y.length := Array.length_toList
    refine ⟨_, rfl, y, rfl, sz _ (by omega), _, _, rfl, rfl, _, rfl, .of_le (by omega) (by omega) (by omega) (by omega), fun q0 hq0 => ?_⟩
    have r0 : upd H q0 (.lst (rgV 0 (((y.length : Nat) : Int) + 1))) q0 = some (.lst (rowV x.cps.toList y.cps.toList 0 y.cps.toList.length)) := by
      rw [upd_same]
      unfold rgV rowV
      rw [show (((y.length : Nat) : Int) + 1 - 0).toNat = y.cps.toList.length + 1 by omega]
      refine congrArg some (congrArg HO.lst (List.map_congr_left fun j hj => ?_))
      rw [Md.tab_0 _ _ (by have := List.mem_range.mp hj; omega), Int.zero_add]
    refine ⟨_, rfl, x, rfl, sz _ (by omega), _, rfl, by omega, by omega, for_range (lo := 0) (n := ((x.length : Nat) : Int).toNat) (fun i σ H' => ∃ (r : Addr) (v3 v4 v5 : Option V), σ = [some (.str x), some (.str y), some (.ref r), v3, v4, v5] ∧ L2.Same H H' ∧ H' r = some (.lst (rowV x.cps.toList y.cps.toList i y.cps.toList.length))) ?_ ?_ ?_⟩
    · exact ⟨q0, none, none, none, rfl, sm_upd (L2.Same.refl H) hq0, r0⟩
    · rintro i σ H1 hi ⟨r, v3, v4, v5, rfl, s1, hr1⟩
      have hi' : i < x.length := by omega
      have e0 : (0 : Int) + ((i : Nat) : Int) = ((i : Nat) : Int) := by omega
      rw [e0]
      refine ⟨_, rfl, _, rfl, _, _, rfl, rfl, sz1, fun r2 hr2 => ?_⟩
      have s2 : L2.Same H1 (upd H1 r2 (.lst [.int ((i : Nat) + 1)])) := sm_upd (L2.Same.refl H1) hr2
      obtain ⟨c, hc⟩ : ∃ c, x.cps.toList[i]? = some c := ⟨_, List.getElem?_eq_getElem (by omega)⟩
      refine ⟨_, rfl, y, rfl, sz _ (by omega), _, rfl, by omega, by omega, for_range (lo := 0) (n := ((y.length : Nat) : Int).toNat) (fun k σ H' => ∃ (v5 : Option V), σ = [some (.str x), some (.str y), some (.ref r2), some (.int (i : Nat)), some (.ref r), v5] ∧ L2.Same H1 (H') ∧ H' r2 = some (.lst (rowV x.cps.toList y.cps.toList (i + 1) k))) ?_ ?_ ?_⟩
      · refine ⟨v5, rfl, s2, ?_⟩
        rw [upd_same]
        have h0r : V.int (((i : Nat) : Int) + 1) = V.int ((Md.tab x.cps.toList y.cps.toList (i + 1) 0 : Nat) : Int) := by
          rw [Md.tab_r0 _ _ (by omega)]; rfl
        show some (HO.lst [V.int (((i : Nat) : Int) + 1)]) = _
        rw [h0r]; rfl
      · rintro j σ H2 hj ⟨v5, rfl, s3, hrow⟩
        have hj' : j < y.length := by omega
        have e1 : (0 : Int) + ((j : Nat) : Int) = ((j : Nat) : Int) := by omega
        rw [e1]
        obtain ⟨d, hd⟩ : ∃ d, y.cps.toList[j]? = some d := ⟨_, List.getElem?_eq_getElem (by omega)⟩
        have hr3 := s3 _ _ hr1
        refine ⟨_, rfl, .inl ⟨rfl, _, SqL.of hrow⟩, ?_⟩
        refine ⟨_, rfl, _, rfl, r, _, _, _, rfl, rfl, SqL.of hr3, atI_nat (rowV_at _ _ _ _ j (by omega)), _, rfl, _, rfl, x, _, c, rfl, rfl, sz _ (by omega), atI_nat hc, _, rfl, _, rfl, y, _, d, rfl, rfl, sz _ (by omega), atI_nat hd, rfl, .inr ⟨_, rfl, _, _, rfl, rfl, ?_⟩⟩
        refine ⟨_, rfl, _, rfl, _, _, rfl, rfl, r, _, _, _, rfl, rfl, SqL.of hr3, at_succ (rowV_at _ _ _ _ (j + 1) (by omega)), _, _, rfl, rfl, ?_⟩
        refine ⟨_, rfl, _, rfl, r2, _, _, _, rfl, rfl, SqL.of hrow, atI_nat (rowV_at _ _ _ _ j (Nat.le_refl _)), _, _, rfl, rfl, _, _, _, _, rfl, nuMin3_int _ _ _, r2, _, _, rfl, rfl, hrow, ?_, ?_⟩
        · rw [rowV_len]; exact szlt _ (by omega)
        · refine ⟨_, rfl, fun b o e => ?_, ?_⟩
          · rw [upd_ne (ne_of_none e hr2)]; exact s3 _ _ e
          · rw [upd_same]
            have e2 : rowV x.cps.toList y.cps.toList (i + 1) (j + 1) = rowV x.cps.toList y.cps.toList (i + 1) j ++ [V.int ((Md.tab x.cps.toList y.cps.toList (i + 1) (j + 1) : Nat) : Int)] := by
              unfold rowV
              rw [List.range_succ (n := j + 1), List.map_append]; rfl
            rw [e2, Md.tab_ss hc hd]
            refine congrArg (fun z => some (HO.lst (rowV x.cps.toList y.cps.toList (i + 1) j ++ [V.int z]))) ?_
            have e3 : ((if (!decide (V.str (⟨#[c]⟩ : Str) = V.str ⟨#[d]⟩)) = true then 1 else 0 : Int)) = ((Md.neq c d : Nat) : Int) := by
              unfold Md.neq
              by_cases z : c = d
              · subst z; simp
              · have z' : ¬ (V.str (⟨#[c]⟩ : Str) = V.str ⟨#[d]⟩) := fun e => z (by injection e with e; injection e with e; simpa using e)
                rw [if_neg z, decide_eq_false z']; rfl
            rw [e3]
            omega
      · rintro σ H2 ⟨v5, rfl, s3, hrow⟩
        refine ⟨r2, _, _, _, rfl, fun b o e => s3 _ _ (s1 _ _ e), ?_⟩
        rw [show ((y.length : Nat) : Int).toNat = y.cps.toList.length by omega] at hrow
        exact hrow
    · rintro σ H1 ⟨r, v3, v4, v5, rfl, s1, hr1⟩
      rw [show ((x.length : Nat) : Int).toNat = x.cps.toList.length by omega] at hr1
      refine ⟨_, rfl, _, rfl, r, _, _, _, rfl, rfl, SqL.of hr1, at_last' (rowV_len _ _ _ _) (rowV_at _ _ _ _ _ (Nat.le_refl _)), ?_⟩
      rw [Md.tab_all]
      exact k _ s1
end
end Ms
end TextE4
section TextE5
set_option linter.all false
set_option maxRecDepth 100000
namespace Ms
open PySem PySem.Spec PyProof.Rows L2
/-! ### words, plain -/
abbrev Wd := Str → List (List Nat)
abbrev Wp (W : Wd) : Str → List Nat → Prop := fun n w => w ∈ W n
theorem part_txts {W : Wd} {y : Md.Sy Str} {u : List Nat} : u ∈ txts W y ↔ Md.Full.Part (Wp W) y u := by
  cases y with
  | lit w => exact List.mem_singleton
  | cls cs =>
    show u ∈ cs.map (fun c => [c]) ↔ _
    rw [List.mem_map]
    exact ⟨fun ⟨c, h, e⟩ => ⟨c, h, e.symm⟩, fun ⟨c, h, e⟩ => ⟨c, h, e.symm⟩⟩
  | nt n => exact Iff.rfl
theorem parts_snoc {W : Str → List Nat → Prop} {y : Md.Sy Str} : ∀ {ss : List (Md.Sy Str)} {w : List Nat}, Md.Full.Parts W (ss ++ [y]) w ↔ ∃ a t, w = a ++ t ∧ Md.Full.Parts W ss a ∧ Md.Full.Part W y t
  | [], w => by
    constructor
    · rintro ⟨u, v, e, h, h2⟩
      have h2 : v = [] := h2
      exact ⟨[], u, by rw [e, h2, List.append_nil]; rfl, rfl, h⟩
    · rintro ⟨a, t, e, h1, h2⟩
      have h1 : a = [] := h1
      exact ⟨t, [], by rw [e, h1, List.append_nil]; rfl, h2, rfl⟩
  | z :: ss, w => by
    constructor
    · rintro ⟨u, v, e, h, h2⟩
      obtain ⟨a, t, e2, h3, h4⟩ := parts_snoc.mp h2
      exact ⟨u ++ a, t, by rw [e, e2, List.append_assoc], ⟨u, a, rfl, h, h3⟩, h4⟩
    · rintro ⟨a, t, e, ⟨u, v, e2, h1, h3⟩, h2⟩
      exact ⟨u, v ++ t, by rw [e, e2, List.append_assoc], h1, parts_snoc.mpr ⟨v, t, rfl, h3, h2⟩⟩
def stepOne (N : Nat) (ws : List (List Nat)) (t : List Nat) : List (List Nat) := (ws.filter fun w => decide (w.length + t.length ≤ N)).map (· ++ t)
def stepW (N : Nat) (W : Wd) (ws : List (List Nat)) (y : Md.Sy Str) : List (List Nat) := (txts W y).flatMap (stepOne N ws)
theorem mem_stepOne {N : Nat} {ws : List (List Nat)} {t u : List Nat} : u ∈ stepOne N ws t ↔ ∃ a ∈ ws, u = a ++ t ∧ u.length ≤ N := by
  unfold stepOne
  rw [List.mem_map]
  constructor
  · rintro ⟨a, ha, rfl⟩
    obtain ⟨h1, h2⟩ := List.mem_filter.mp ha
    exact ⟨a, h1, rfl, by rw [List.length_append]; exact of_decide_eq_true h2⟩
  · rintro ⟨a, h1, rfl, h2⟩
    exact ⟨a, List.mem_filter.mpr ⟨h1, decide_eq_true (by rw [List.length_append] at h2; exact h2)⟩, rfl⟩
theorem stepOne_len (N : Nat) (ws : List (List Nat)) (t : List Nat) : (stepOne N ws t).length ≤ ws.length := by
  unfold stepOne
  rw [List.length_map]
  exact List.length_filter_le _ _
theorem flat_len {α β : Type} {f : α → List β} {k : Nat} : ∀ {l : List α}, (∀ x ∈ l, (f x).length ≤ k) → (l.flatMap f).length ≤ l.length * k
  | [], _ => Nat.zero_le _
  | x :: l, h => by
    rw [List.flatMap_cons, List.length_append, List.length_cons, Nat.succ_mul]
    have h1 := h x List.mem_cons_self
    have h2 := flat_len (l := l) (f := f) (k := k) fun y hy => h y (List.mem_cons_of_mem _ hy)
    omega
/-- the words of the first symbols -/
def WOk (N : Nat) (W : Wd) (pre : List (Md.Sy Str)) (ws : List (List Nat)) : Prop := ∀ u, u ∈ ws ↔ Md.Full.Parts (Wp W) pre u ∧ u.length ≤ N
theorem wok_nil (N : Nat) (W : Wd) : WOk N W [] [[]] := fun u => by
  constructor
  · intro h
    rw [List.mem_singleton.mp h]; exact ⟨rfl, Nat.zero_le _⟩
  · rintro ⟨h, _⟩
    have h : u = [] := h
    rw [h]; exact List.mem_cons_self
theorem wok_step {N : Nat} {W : Wd} {pre : List (Md.Sy Str)} {ws : List (List Nat)} {y : Md.Sy Str} (h : WOk N W pre ws) : WOk N W (pre ++ [y]) (stepW N W ws y) := fun u => by
  unfold stepW
  rw [List.mem_flatMap, parts_snoc]
  constructor
  · rintro ⟨t, ht, hu⟩
    obtain ⟨a, ha, e, hl⟩ := mem_stepOne.mp hu
    exact ⟨⟨a, t, e, ((h a).mp ha).1, part_txts.mp ht⟩, hl⟩
  · rintro ⟨⟨a, t, e, h1, h2⟩, hl⟩
    refine ⟨t, part_txts.mpr h2, mem_stepOne.mpr ⟨a, (h a).mpr ⟨h1, ?_⟩, e, hl⟩⟩
    rw [e, List.length_append] at hl
    omega
/-- words added to known ones -/
def addOne (acc : List (List Nat)) (w : List Nat) : List (List Nat) := if w ∈ acc then acc else acc ++ [w]
def addAll (acc ws : List (List Nat)) : List (List Nat) := ws.foldl addOne acc
theorem addOne_mem {acc : List (List Nat)} {w u : List Nat} : u ∈ addOne acc w ↔ u ∈ acc ∨ u = w := by
  unfold addOne
  split
  · rename_i h
    exact ⟨.inl, fun z => z.elim id fun e => e ▸ h⟩
  · rw [List.mem_append, List.mem_singleton]
theorem addAll_mem : ∀ {ws acc : List (List Nat)} {u : List Nat}, u ∈ addAll acc ws ↔ u ∈ acc ∨ u ∈ ws
  | [], acc, u => ⟨.inl, fun h => h.elim id fun z => absurd z List.not_mem_nil⟩
  | w :: ws, acc, u => by
    show u ∈ addAll (addOne acc w) ws ↔ _
    rw [addAll_mem, addOne_mem, List.mem_cons, or_assoc]
theorem addOne_nd {acc : List (List Nat)} {w : List Nat} (h : acc.Nodup) : (addOne acc w).Nodup := by
  unfold addOne
  split
  · exact h
  · rename_i z
    exact List.nodup_append.mpr ⟨h, by simp, fun a ha b hb => by rw [List.mem_singleton.mp hb]; exact fun e => z (e ▸ ha)⟩
theorem addAll_nd : ∀ {ws acc : List (List Nat)}, acc.Nodup → (addAll acc ws).Nodup
  | [], acc, h => h
  | w :: ws, acc, h => addAll_nd (ws := ws) (addOne_nd h)
theorem addOne_ext (acc : List (List Nat)) (w : List Nat) : ∃ l, addOne acc w = acc ++ l := by
  unfold addOne
  split
  · exact ⟨[], (List.append_nil _).symm⟩
  · exact ⟨_, rfl⟩
theorem addAll_ext : ∀ (ws acc : List (List Nat)), ∃ l, addAll acc ws = acc ++ l
  | [], acc => ⟨[], (List.append_nil _).symm⟩
  | w :: ws, acc => by
    obtain ⟨l1, e1⟩ := addOne_ext acc w
    obtain ⟨l2, e2⟩ := addAll_ext ws (addOne acc w)
    exact ⟨l1 ++ l2, by show addAll (addOne acc w) ws = _; rw [e2, e1, List.append_assoc]⟩
/-- how many in all -/
def total (nl : List Str) (W : Wd) : Nat := (nl.map fun n => (W n).length).sum
theorem total_le {W W' : Wd} : ∀ {nl : List Str}, (∀ n ∈ nl, ∃ l, W' n = W n ++ l) → total nl W ≤ total nl W' ∧ (total nl W' = total nl W → ∀ n ∈ nl, W' n = W n)
  | [], _ => ⟨Nat.le_refl _, fun _ n h => absurd h List.not_mem_nil⟩
  | n :: nl, h => by
    obtain ⟨h1, h2⟩ := total_le (nl := nl) fun m hm => h m (List.mem_cons_of_mem _ hm)
    obtain ⟨l, e⟩ := h n List.mem_cons_self
    have c1 : total (n :: nl) W = (W n).length + total nl W := by unfold total; rw [List.map_cons, List.sum_cons]
    have c2 : total (n :: nl) W' = (W' n).length + total nl W' := by unfold total; rw [List.map_cons, List.sum_cons]
    have c3 : (W' n).length = (W n).length + l.length := by rw [e, List.length_append]
    refine ⟨by omega, fun z m hm => ?_⟩
    rcases List.mem_cons.mp hm with rfl | hm
    · have : l = [] := List.eq_nil_of_length_eq_zero (by omega)
      rw [e, this, List.append_nil]
    · exact h2 (by omega) m hm
theorem total_few {W : Wd} {k : Nat} : ∀ {nl : List Str}, (∀ n ∈ nl, (W n).length ≤ k) → total nl W ≤ nl.length * k
  | [], _ => Nat.zero_le _
  | n :: nl, h => by
    have h1 := total_few (nl := nl) fun m hm => h m (List.mem_cons_of_mem _ hm)
    have h2 := h n List.mem_cons_self
    have c1 : total (n :: nl) W = (W n).length + total nl W := by unfold total; rw [List.map_cons, List.sum_cons]
    rw [List.length_cons, Nat.succ_mul]
    omega
/-- true words, each once -/
structure WGood (rs : List Ru) (nl : List Str) (W : Wd) : Prop where
  nd : ∀ n ∈ nl, (W n).Nodup
  so : ∀ n ∈ nl, ∀ w ∈ W n, Md.DerN (gOf rs) n w ∧ w.length ≤ 5
theorem WGood.few {rs : List Ru} {nl : List Str} {W : Wd} (h : WGood rs nl W) (hx : ∀ r ∈ gOf rs, ∀ y ∈ r.2, Md.SyXY y) {n : Str} (hn : n ∈ nl) : (W n).length ≤ 63 :=
  Md.short_few (h.nd n hn) fun w hw => ⟨(h.so n hn w hw).2, Md.derN_xy hx (h.so n hn w hw).1⟩
/-- one rule's words added -/
def updW (W : Wd) (n : Str) (l : List (List Nat)) : Wd := fun m => if m = n then l else W m
theorem WGood.add {rs : List Ru} {nl : List Str} {W : Wd} (h : WGood rs nl W) {r : Str × List (Md.Sy Str)} (hr : r ∈ gOf rs) (hs : ∀ y ∈ r.2, SyOk nl y) {ws : List (List Nat)} (hw : WOk 5 W r.2 ws) : WGood rs nl (updW W r.1 (addAll (W r.1) ws)) where
  nd := fun n hn => by
    unfold updW
    split
    · rename_i e; exact addAll_nd (by rw [← e]; exact h.nd n hn)
    · exact h.nd n hn
  so := fun n hn w hm => by
    unfold updW at hm
    split at hm
    · rename_i e
      rcases addAll_mem.mp hm with q | q
      · rw [← e] at q; exact h.so n hn w q
      · obtain ⟨h1, h2⟩ := (hw w).mp q
        refine ⟨⟨r.2, by rw [e]; exact hr, ?_⟩, h2⟩
        have key : ∀ {ss : List (Md.Sy Str)} {u : List Nat}, (∀ y ∈ ss, SyOk nl y) → Md.Full.Parts (Wp W) ss u → Md.Full.Parts (Md.DerN (gOf rs)) ss u := by
          intro ss
          induction ss with
          | nil => intro u _ h; exact h
          | cons y ss ih =>
            rintro u hy ⟨a, b, e, p1, p2⟩
            refine ⟨a, b, e, ?_, ih (fun z hz => hy z (List.mem_cons_of_mem _ hz)) p2⟩
            cases y with
            | lit w => exact p1
            | cls cs => exact p1
            | nt m => exact (h.so m (hy _ List.mem_cons_self) a p1).1
        exact Md.parts_der (fun n w h => h) (key hs h1)
    · exact h.so n hn w hm
theorem putK_word {W : List (List Nat)} {w : List Nat} : putK (W.map fun w => ((.inr (tx w) : Key), V.bl true)) (.inr (tx w)) (.bl true) = (addOne W w).map fun w => ((.inr (tx w) : Key), V.bl true) := by
  have hf : ∀ a b : List Nat, (Sum.inr (tx a) : Key) = .inr (tx b) → a = b := fun a b h => by injection h with h; exact tx_inj h
  have e1 : (W.map fun w => ((.inr (tx w) : Key), V.bl true)) = (W.map fun w => (w, V.bl true)).map fun q => ((.inr (tx q.1) : Key), q.2) := by rw [List.map_map]; rfl
  rw [e1, putK_inj (f := fun w => (.inr (tx w) : Key)) hf]
  unfold putK addOne
  rw [valV_any]
  by_cases h : w ∈ W
  · obtain ⟨v, hv⟩ := valV_has (k := w) (L := W.map fun w => (w, V.bl true)) (by rw [List.map_map]; exact List.mem_map.mpr ⟨w, h, rfl⟩)
    rw [hv, if_pos (show (some v).isSome = true from rfl), if_pos h, List.map_map, List.map_map]
    refine List.map_congr_left fun u _ => ?_
    show ((.inr (tx (if u = w then (u, V.bl true) else (u, V.bl true)).1) : Key), (if u = w then (u, V.bl true) else (u, V.bl true)).2) = _
    split <;> rfl
  · have hv : valV (W.map fun w => (w, V.bl true)) w = none := by
      cases e : valV (W.map fun w => (w, V.bl true)) w with
      | none => rfl
      | some v =>
        obtain ⟨u, hu, e2⟩ := List.mem_map.mp (valV_mem e)
        injection e2 with e2 _
        exact absurd (e2 ▸ hu) h
    rw [hv, if_neg (show ¬ (none : Option V).isSome = true by decide), if_neg h, List.map_append, List.map_append, List.map_map]; rfl
end Ms
end TextE5
section TextE6
set_option linter.all false
set_option maxRecDepth 100000
namespace Ms
open PySem PySem.Spec PyProof.Rows L2
theorem WdsAt.same {H H' : Hp} {d : Addr} {nl : List Str} {cell : Str → Addr} {W : Wd} (h : WdsAt H d nl cell W) (s : L2.Same H H') : WdsAt H' d nl cell W := ⟨s _ _ h.1, fun n hn => s _ _ (h.2 n hn)⟩
def rLenK : List V → Hp → VK → Prop := fun xs H Q => ∃ (a : Addr) (kvs : List (Key × V)), xs = [V.ref a] ∧ H a = some (.dK kvs) ∧ Q (.int kvs.length) H
theorem sum_cast (L : List Nat) : ((L.map fun k => ((k : Nat) : Int)).sum) = ((L.sum : Nat) : Int) := by
  induction L with
  | nil => rfl
  | cons a L ih => rw [List.map_cons, List.sum_cons, List.sum_cons, ih]; omega
/-- the sum of the lengths of the names' words -/
theorem sum_read {K : PySem.W.Frag} {H : Hp} {d : Addr} {nl : List Str} {cell : Str → Addr} {W : Wd} {Q : VK} {a0 a1 a3 a4 a5 a6 a7 a8 a9 a10 a11 : Option V} (hw : WdsAt H d nl cell W) (hn : nl.length ≤ 3) (hdc : ∀ n ∈ nl, cell n ≠ d)
    (k : ∀ H', L2.Same H H' → Q (.int ((total nl W : Nat) : Int)) H') :
    tCB (rSum K) (tCons (tLockE (tLc (iKeys (tVar 2)) (gName 11) tYes (tCB rLenK (tCons (tDGet (tVar 2) (tVar 11)) tNil)) [11])) tNil) [a0, a1, some (.ref d), a3, a4, a5, a6, a7, a8, a9, a10, a11] H Q := by
  obtain ⟨hd, hW⟩ := hw
  refine ⟨d, _, hd, trivial, fun od => ⟨_, rfl, d, od, rfl, .inl ⟨_, upd_same, fun D hD => ?_⟩⟩⟩
  have hDn : H D = none := upd_none hD
  have nDd : D ≠ d := ne_new hD
  have wk : Walk (Itk d od (nl.map fun n => ((.inr n : Key), V.ref (cell n)))) (nl.map V.str).length (fun H => H d = some (.frz od (.dK (nl.map fun n => ((.inr n : Key), V.ref (cell n)))))) (YAt (nl.map V.str)) := by
    have hl : (nl.map V.str).length = (nl.map fun n => ((.inr n : Key), V.ref (cell n))).length := by rw [List.length_map, List.length_map]
    rw [hl]
    refine Walk.mono walk_keys (fun _ h => h) fun i H x H' hi _ ⟨e, k, v, h1, h2⟩ => ⟨e, ?_⟩
    obtain ⟨n, hn, e3⟩ := get_map h1
    injection e3 with e3 _
    rw [List.getElem?_map, hn, h2, e3]; rfl
  refine lc_flat (H1 := upd H d (.frz od (.dK (nl.map fun n => ((.inr n : Key), V.ref (cell n)))))) (D := D) (g := gName 11) (vs := [11]) wk (fun _ => true) (fun v => match v with | .str n => .int ((W n).length : Nat) | v => v) (fun acc => by rw [upd_ne nDd.symm, upd_same]) (by rw [List.length_map]; omega) (fun x hx acc Y N hY _ => ?_) ?_
  · obtain ⟨n, hn, rfl⟩ := List.mem_map.mp hx
    have hc := hW n hn
    refine ⟨rfl, tyesI ⟨_, rfl, _, rfl, d, V.ref (cell n), rfl, .inl ⟨_, .inr n, .inr ⟨od, by rw [upd_ne nDd.symm, upd_same]⟩, rfl, (val_name (f := fun n => V.ref (cell n)) hn).symm⟩, cell n, (W n).map fun w => ((.inr (tx w) : Key), V.bl true), rfl, ?_, ?_⟩⟩
    · rw [upd_ne (ne_of_none hc hDn), upd_ne (hdc n hn)]; exact hc
    · rw [List.length_map]; exact hY rfl
  · have ef : ((nl.map V.str).filter fun _ => true) = nl.map V.str := List.filter_eq_self.mpr fun _ _ => rfl
    rw [ef, List.map_map]
    refine ⟨by rw [upd_ne nDd.symm, upd_same], D, (nl.map fun n => (W n).length).map fun k => ((k : Nat) : Int), rfl, SqL.of ?_, ?_⟩
    · rw [upd_ne nDd, upd_same, List.map_map, List.map_map]; rfl
    · rw [sum_cast]
      refine k _ fun b o e => ?_
      by_cases z : b = d
      · rw [z, upd_same, ← hd, ← z]; exact e
      · rw [upd_ne z, upd_ne (ne_of_none e hDn), upd_ne z]; exact e
/-- a name's entry put -/
theorem putK_names {nl : List Str} {f : Str → V} {a : Str} {v : V} : putK (nl.map fun n => ((.inr n : Key), f n)) (.inr a) v = ((if a ∈ nl then nl else nl ++ [a]).map fun n => ((.inr n : Key), if n = a then v else f n)) := by
  have hf : ∀ a b : Str, (Sum.inr a : Key) = .inr b → a = b := fun a b h => by injection h
  have e1 : (nl.map fun n => ((.inr n : Key), f n)) = (nl.map fun n => (n, f n)).map fun q => ((.inr q.1 : Key), q.2) := by rw [List.map_map]; rfl
  rw [e1, putK_inj (f := fun n => (.inr n : Key)) hf]
  unfold putK
  rw [valV_any]
  by_cases h : a ∈ nl
  · obtain ⟨u, hu⟩ := valV_has (k := a) (L := nl.map fun n => (n, f n)) (by rw [List.map_map]; exact List.mem_map.mpr ⟨a, h, rfl⟩)
    rw [hu, if_pos (show (some u).isSome = true from rfl), if_pos h, List.map_map, List.map_map]
    refine List.map_congr_left fun n _ => ?_
    show ((.inr (if n = a then (n, v) else (n, f n)).1 : Key), (if n = a then (n, v) else (n, f n)).2) = _
    by_cases z : n = a
    · rw [if_pos z, if_pos z]
    · rw [if_neg z, if_neg z]
  · have hv : valV (nl.map fun n => (n, f n)) a = none := by
      cases e : valV (nl.map fun n => (n, f n)) a with
      | none => rfl
      | some u =>
        obtain ⟨m, hm, e2⟩ := List.mem_map.mp (valV_mem e)
        injection e2 with e2 _
        exact absurd (e2 ▸ hm) h
    rw [hv, if_neg (show ¬ (none : Option V).isSome = true by decide), if_neg h, List.map_append, List.map_append, List.map_map]
    congr 1
    · refine List.map_congr_left fun n hn => ?_
      have z : n ≠ a := fun z => h (z ▸ hn)
      show ((.inr n : Key), f n) = _
      rw [if_neg z]
    · show [((.inr a : Key), v)] = [((.inr a : Key), if a = a then v else f a)]
      rw [if_pos rfl]
theorem tx_app (a b : List Nat) : tx a ++ tx b = tx (a ++ b) := by
  show (⟨a.toArray ++ b.toArray⟩ : Str) = _
  rw [List.append_toArray]
def wlV (ws : List (List Nat)) : List V := ws.map fun w => V.str (tx w)
theorem one_map (N : Nat) (ws : List (List Nat)) (t : List Nat) :
    ((wlV ws).filter fun v => match v with | .str z => decide (z.length + t.length ≤ N) | _ => false).map (fun v => match v with | .str z => V.str (z ++ tx t) | v => v) = wlV (stepOne N ws t) := by
  unfold wlV stepOne
  rw [List.filter_map, List.map_map, List.map_map]
  have e : (ws.filter ((fun v => match v with | V.str z => decide (z.length + t.length ≤ N) | _ => false) ∘ fun w => V.str (tx w))) = ws.filter fun w => decide (w.length + t.length ≤ N) := by
    refine List.filter_congr fun w _ => ?_
    show decide ((tx w).length + t.length ≤ N) = _
    rw [tx_len]
  rw [e]
  refine List.map_congr_left fun w _ => ?_
  show V.str (tx w ++ tx t) = V.str (tx (w ++ t))
  rw [tx_app]
theorem addAll_len : ∀ (ws acc : List (List Nat)), (addAll acc ws).length ≤ acc.length + ws.length
  | [], acc => Nat.le_refl _
  | w :: ws, acc => by
    have h := addAll_len ws (addOne acc w)
    have h2 : (addOne acc w).length ≤ acc.length + 1 := by
      unfold addOne
      split
      · omega
      · rw [List.length_append]; exact Nat.le_refl _
    show (addAll (addOne acc w) ws).length ≤ _
    rw [List.length_cons]
    omega
theorem addAll_snoc (acc ws : List (List Nat)) (w : List Nat) : addAll acc (ws ++ [w]) = addOne (addAll acc ws) w := by
  unfold addAll; rw [List.foldl_append]; rfl
theorem DGr.xy {st : Str} {rs : List Ru} {ns : List Str} (h : DGr st rs ns) : ∀ r ∈ gOf rs, ∀ y ∈ r.2, Md.SyXY y := fun r hr y hy => by
  obtain ⟨q, hq, rfl⟩ := List.mem_map.mp hr
  exact ((h.rule q hq).2.2.1 y hy).xy
def IsLefts (rs : List Ru) (nl : List Str) : Prop := ∀ n, n ∈ nl ↔ ∃ r ∈ rs, r.2.1 = n
theorem DGr.syOk {st : Str} {rs : List Ru} {ns nl : List Str} (h : DGr st rs ns) (hl : IsLefts rs nl) {r : Ru} (hr : r ∈ rs) : ∀ y ∈ r.2.2, SyOk nl y := fun y hy => by
  have := (h.rule r hr).2.2.1 y hy
  cases y with
  | lit w => exact this
  | cls cs => exact (DSy.ok (ns := ns) this)
  | nt n => exact (hl n).mpr (h.all n this)
theorem DGr.len {st : Str} {rs : List Ru} {ns nl : List Str} (h : DGr st rs ns) (hl : IsLefts rs nl) (hn : nl.Nodup) : nl.length ≤ 3 := by
  have h1 := Md.nodup_le hn (m := ns) fun n hm => by
    obtain ⟨r, hr, e⟩ := (hl n).mp hm
    rw [← e]; exact (h.rule r hr).1
  obtain ⟨m, hm, e⟩ := h.names
  rw [e, List.length_take] at h1
  omega
def spWords : Sp := fun vs H Q _ => ∃ (g : Addr) (st : Str) (rs : List Ru) (ns : List Str), vs = [.ref g, .int 5] ∧ GrAt H g st rs ∧ DGr st rs ns ∧
  ∀ H' d nl cell W, L2.Same H H' → H d = none → WdsAt H' d nl cell W → WGood rs nl W → Md.Full (gOf rs) 5 (Wp W) → IsLefts rs nl → Q (.ref d) H'
section
variable {P : Program} {w : World} {K : PySem.W.Frag} {mg : Str → Option Value} {base : Heap}
theorem scWords : FnScope ["_law_grammar_here", "_law_most", "_law_rows", "_law_rule", "_law_many", "_law_words_here", "_law_symbol_here", "_law_more", "_law_text_here", "_law_known", "_law_word", "_law_name"] ["_law_grammar_here", "_law_most"] (defScope sWords) := ⟨rfl, rfl, rfl, by decide +kernel, rfl, by decide +kernel, by decide +kernel⟩
theorem ok_words {f ft : Addr} {fd fdt : FuncData} (F : Fun K "_law_words" "_law_words" sWords f fd) (T : Bi mg) (D_texts : Df K mg "_law_texts" sTexts ["_law_symbol_here", "_law_rows"] ft fdt) (G_texts : FnOk P w K mg base CX0 1 ft fdt ["_law_symbol_here", "_law_rows"] spTexts) :
    FnOk P w K mg base CX0 2 f fd ["_law_grammar_here", "_law_most"] spWords := by
  refine F.ok scWords (fun vs H Q E h => ?_) (fun cdv A outer s H vs Q E hr h => ?_)
  · obtain ⟨g, st, rs, ns, rfl, _⟩ := h
    rfl
  · obtain ⟨g, st, rs, ns, rfl, gr, dg, k⟩ := h
    refine ⟨_, (pss_cons (ps_set (i := 2) scWords.nd rfl (Or.inr rfl) pe_dnewK)
    (pss_cons (ps_for PassesOwn.never rfl (pi_list (pe_ix ix_tup (pv 0) pe_int (fun _ _ => rfl))) (pg_name (i := 3) scWords.nd rfl (Or.inl rfl))
      (pss_one (ps_dput (hu_of hr) (pv 2) (pe_ix ix_tup (pv 3) pe_int (fun _ _ => rfl)) pe_dnewK rfl)))
    (pss_cons (ps_set (i := 4) scWords.nd rfl (Or.inl rfl) (pe_un un_neg pe_int))
    (pss_cons (ps_while PassesOwn.never (pt_cmpR op_lt (pv 4) (pe_callB (cr_sum rfl) (by rfl) T.sum (by decide +kernel) (pa_cons (pe_lock (pe_lc (own := [("_law_name", 11)]) (g := gName 11) (tt := tYes) rfl scWords.nd (pi_keys (pv 2)) (blkOk_by (N := ["_law_grammar_here", "_law_most", "_law_rows", "_law_rule", "_law_many", "_law_words_here", "_law_symbol_here", "_law_more", "_law_text_here", "_law_known", "_law_word", "_law_name"]) (sc := defScope sWords) (by decide +kernel)) (fun _ _ _ _ _ => pg_name (i := 11) scWords.nd rfl (Or.inl rfl)) (fun _ _ _ _ _ => pts_nil) (fun _ _ _ _ _ => (pe_callB call_lenD (by rfl) T.len PySem.boot_len (pa_cons (pe_dget (hu_of hr) (pv 2) (pv 11) (fun _ _ => rfl)) pa_nil))))) pa_nil)) (nomark _))
      (pss_cons (ps_set (i := 4) scWords.nd rfl (Or.inl rfl) (pe_callB (cr_sum rfl) (by rfl) T.sum (by decide +kernel) (pa_cons (pe_lock (pe_lc (own := [("_law_name", 11)]) (g := gName 11) (tt := tYes) rfl scWords.nd (pi_keys (pv 2)) (blkOk_by (N := ["_law_grammar_here", "_law_most", "_law_rows", "_law_rule", "_law_many", "_law_words_here", "_law_symbol_here", "_law_more", "_law_text_here", "_law_known", "_law_word", "_law_name"]) (sc := defScope sWords) (by decide +kernel)) (fun _ _ _ _ _ => pg_name (i := 11) scWords.nd rfl (Or.inl rfl)) (fun _ _ _ _ _ => pts_nil) (fun _ _ _ _ _ => (pe_callB call_lenD (by rfl) T.len PySem.boot_len (pa_cons (pe_dget (hu_of hr) (pv 2) (pv 11) (fun _ _ => rfl)) pa_nil))))) pa_nil)))
      (pss_one (ps_for PassesOwn.never rfl (pi_list (pe_ix ix_tup (pv 0) pe_int (fun _ _ => rfl))) (pg_name (i := 3) scWords.nd rfl (Or.inl rfl))
        (pss_cons (ps_set (i := 5) scWords.nd rfl (Or.inl rfl) (pe_lst (pa_cons pe_str pa_nil)))
        (pss_cons (ps_for PassesOwn.never rfl (pi_list (pe_ix ix_tup (pv 3) pe_int (fun _ _ => rfl))) (pg_name (i := 6) scWords.nd rfl (Or.inl rfl))
          (pss_cons (ps_set (i := 7) scWords.nd rfl (Or.inl rfl) (pe_lst pa_nil))
          (pss_cons (ps_for PassesOwn.never rfl (pi_list (pe_call G_texts (hr.mono (by decide)) (by rfl) D_texts.g D_texts.F.kp D_texts.b .nil pass0 (pa_cons (pv 6) (pa_cons (pv 2) pa_nil)))) (pg_name (i := 8) scWords.nd rfl (Or.inr rfl))
            (pss_one (ps_expr (pe_bm PySem.F.plainAttrs_list PySem.F.slot_list_extend PySem.F.type_list_extend mt_extend (pv 7) (pa_cons (pe_lc (own := [("_law_word", 10)]) (g := gName 10) rfl scWords.nd (pi_list (pv 5)) (blkOk_by (N := ["_law_grammar_here", "_law_most", "_law_rows", "_law_rule", "_law_many", "_law_words_here", "_law_symbol_here", "_law_more", "_law_text_here", "_law_known", "_law_word", "_law_name"]) (sc := defScope sWords) (by decide +kernel)) (fun _ _ _ _ _ => pg_name (i := 10) scWords.nd rfl (Or.inl rfl)) (fun _ _ _ _ _ => (pts_one (pt_cmpR op_le (pe_op op_add (pe_callB call_len_str (by rfl) T.len PySem.boot_len (pa_cons (pv 10) pa_nil)) (pe_callB call_len_str (by rfl) T.len PySem.boot_len (pa_cons (pv 8) pa_nil))) (pv 1) (nomark _)))) (fun _ _ _ _ _ => (pe_op op_add_str (pv 10) (pv 8)))) pa_nil)))))
          (pss_one (ps_set (i := 5) scWords.nd rfl (Or.inl rfl) (pv 7))))))
        (pss_cons (ps_set (i := 9) scWords.nd rfl (Or.inl rfl) (pe_dget (hu_of hr) (pv 2) (pe_ix ix_tup (pv 3) pe_int (fun _ _ => rfl)) (fun _ _ => rfl)))
        (pss_one (ps_for PassesOwn.never rfl (pi_list (pv 5)) (pg_name (i := 10) scWords.nd rfl (Or.inl rfl))
          (pss_one (ps_dput (hu_of hr) (pv 9) (pv 10) pe_bl rfl)))))))))))
    (pss_one (ps_ret (pv 2))))))), ?_⟩
    refine fun d hd => ?_
    obtain ⟨pg, eg, Lr, eLr, hpr, hLr⟩ := gr
    have s0 : L2.Same H (upd H d (.dK [])) := sm_upd (L2.Same.refl H) hd
    refine ⟨_, rfl, g, _, _, _, rfl, rfl, SqT.of (s0 _ _ eg), rfl, pg, rfl, ⟨_, SqL.of (s0 _ _ hpr)⟩, ?_⟩
    refine for_list (xs := Lr.map fun q => V.ref q.1) (fun i σ H' => ∃ (v3 : Option V) (nl : List Str) (cell : Str → Addr), σ = [some (.ref g), some (.int 5), some (.ref d), v3, none, none, none, none, none, none, none, none] ∧ L2.Same H H' ∧ nl.Nodup ∧ (∀ n, n ∈ nl ↔ ∃ q ∈ Lr.take i, q.2.2.1 = n) ∧
      H' d = some (.dK (nl.map fun n => ((.inr n : Key), V.ref (cell n)))) ∧ (∀ n ∈ nl, H' (cell n) = some (.dK []) ∧ H (cell n) = none ∧ cell n ≠ d) ∧ ∀ n m, n ∈ nl → m ∈ nl → cell n = cell m → n = m) ?_ ?_ ?_ ?_
    · exact ⟨none, [], fun _ => d, rfl, s0, List.nodup_nil, fun n => ⟨fun h => absurd h List.not_mem_nil, fun ⟨q, hq, _⟩ => by rw [List.take_zero] at hq; exact absurd hq List.not_mem_nil⟩, upd_same, fun n h => absurd h List.not_mem_nil, fun n m h => absurd h List.not_mem_nil⟩
    · rintro i σ H1 _ ⟨v3, nl, cell, rfl, s1, _⟩
      exact SqL.of (s1 _ _ hpr)
    · rintro i x σ H1 hx ⟨v3, nl, cell, rfl, s1, nd, hnl, hd1, hc, ci⟩
      obtain ⟨q, hq, rfl⟩ := get_map hx
      obtain ⟨qa, lab, rn, ss⟩ := q
      obtain ⟨ps, ers, hss⟩ := hLr _ (List.mem_of_getElem? hq)
      have tk : Lr.take (i + 1) = Lr.take i ++ [(qa, lab, rn, ss)] := by rw [List.take_add_one, hq]; rfl
      refine fun p hp => ?_
      have npd : d ≠ p := ne_of_none hd1 hp
      have hl3 : nl.length ≤ 3 := by
        have h1 := Md.nodup_le nd (m := ns) fun n hm => by
          obtain ⟨q, hq, e⟩ := (hnl n).mp hm
          rw [← e]
          exact (dg.rule q.2 (by rw [← eLr]; exact List.mem_map.mpr ⟨q, List.mem_of_mem_take hq, rfl⟩)).1
        obtain ⟨m, hm, e⟩ := dg.names
        rw [e, List.length_take] at h1
        omega
      have up : ∀ b o, H1 b = some o → upd H1 p (.dK []) b = some o := fun b o e => by rw [upd_ne (ne_of_none e hp)]; exact e
      refine ⟨_, rfl, _, rfl, qa, _, _, _, rfl, rfl, SqT.of (up _ _ (s1 _ _ ers)), rfl, d, _, rfl, DPut.k (k := .inr rn) (up _ _ hd1) (by rw [List.length_map]; exact szlt _ (by omega)), ?_⟩
      rw [putK_names]
      have hpH : H p = none := s1.free hp
      refine ⟨_, (if rn ∈ nl then nl else nl ++ [rn]), fun n => if n = rn then p else cell n, rfl, fun b o e => ?_, ?_, fun n => ?_, ?_, fun n hn => ?_, fun n m hn hm he => ?_⟩
      · rw [upd_ne (ne_of_none e hd)]; exact up _ _ (s1 _ _ e)
      · split
        · exact nd
        · rename_i z
          exact List.nodup_append.mpr ⟨nd, by simp, fun a ha b hb => by rw [List.mem_singleton.mp hb]; exact fun e => z (e ▸ ha)⟩
      · rw [tk]
        have e1 : n ∈ (if rn ∈ nl then nl else nl ++ [rn]) ↔ n ∈ nl ∨ n = rn := by
          split
          · rename_i z
            exact ⟨.inl, fun h => h.elim id fun e => e ▸ z⟩
          · rw [List.mem_append, List.mem_singleton]
        rw [e1, hnl]
        constructor
        · rintro (⟨q, hq, e⟩ | rfl)
          · exact ⟨q, List.mem_append_left _ hq, e⟩
          · exact ⟨_, List.mem_append_right _ List.mem_cons_self, rfl⟩
        · rintro ⟨q, hq, e⟩
          rcases List.mem_append.mp hq with hq | hq
          · exact .inl ⟨q, hq, e⟩
          · rw [List.mem_singleton.mp hq] at e
            exact .inr e.symm
      · rw [upd_same]
        refine congrArg some (congrArg HO.dK (List.map_congr_left fun n _ => ?_))
        dsimp only
        by_cases z : n = rn
        · rw [if_pos z, if_pos z]
        · rw [if_neg z, if_neg z]
      · dsimp only
        by_cases z : n = rn
        · rw [if_pos z, upd_ne npd.symm, upd_same]
          exact ⟨rfl, hpH, npd.symm⟩
        · rw [if_neg z]
          have hn' : n ∈ nl := by
            split at hn
            · exact hn
            · exact (List.mem_append.mp hn).elim id fun y => absurd (List.mem_singleton.mp y) z
          obtain ⟨a1, a2, a3⟩ := hc n hn'
          exact ⟨by rw [upd_ne a3]; exact up _ _ a1, a2, a3⟩
      · have old : ∀ n, n ∈ (if rn ∈ nl then nl else nl ++ [rn]) → n ≠ rn → n ∈ nl := fun n hn z => by
          split at hn
          · exact hn
          · exact (List.mem_append.mp hn).elim id fun y => absurd (List.mem_singleton.mp y) z
        have he' : (if n = rn then p else cell n) = (if m = rn then p else cell m) := he
        by_cases z1 : n = rn
        · by_cases z2 : m = rn
          · rw [z1, z2]
          · rw [if_pos z1, if_neg z2] at he'
            have := (hc m (old m hm z2)).1
            rw [← he', hp] at this; cases this
        · by_cases z2 : m = rn
          · rw [if_neg z1, if_pos z2] at he'
            have := (hc n (old n hn z1)).1
            rw [he', hp] at this; cases this
          · rw [if_neg z1, if_neg z2] at he'
            exact ci n m (old n hn z1) (old m hm z2) he'
    · rintro σ H1 ⟨v3, nl, cell, rfl, s1, nd, hnl, hd1, hc, ci⟩
      rw [List.take_of_length_le (by rw [List.length_map]; exact Nat.le_refl _)] at hnl
      have isl : IsLefts rs nl := fun n => by
        rw [hnl n, ← eLr]
        exact ⟨fun ⟨q, hq, e⟩ => ⟨q.2, List.mem_map.mpr ⟨q, hq, rfl⟩, e⟩, fun ⟨r, hr, e⟩ => by obtain ⟨q, hq, rfl⟩ := List.mem_map.mp hr; exact ⟨q, hq, e⟩⟩
      have hl3 := dg.len isl nd
      have hcd : ∀ n ∈ nl, cell n ≠ d := fun n hn => (hc n hn).2.2
      refine ⟨_, rfl, ?_⟩
      refine ⟨fun mm σ H' => ∃ (W : Wd) (many : Int) (v3 v5 v6 v7 v8 v9 v10 : Option V), σ = [some (.ref g), some (.int 5), some (.ref d), v3, some (.int many), v5, v6, v7, v8, v9, v10, none] ∧ L2.Same H H' ∧ WdsAt H' d nl cell W ∧ WGood rs nl W ∧ (∀ n, n ∉ nl → W n = []) ∧ -1 ≤ many ∧ mm = (200 - many).toNat ∧
        (many < ((total nl W : Nat) : Int) ∨ Md.Full (gOf rs) 5 (Wp W)), ⟨201, fun _ => [], -1, v3, none, none, none, none, none, none, rfl, s1, ⟨hd1, fun n hn => (hc n hn).1⟩, ⟨fun _ _ => List.nodup_nil, fun _ _ w h => absurd h List.not_mem_nil⟩, fun _ _ => rfl, by decide, by decide, .inl (by omega)⟩, ?_⟩
      rintro mm σ H2 ⟨W, many, v3, v5, v6, v7, v8, v9, v10, rfl, s2, hw2, wg, wn, hm1, rfl, hmf⟩
      have ht : total nl W ≤ 189 := by
        have h1 := total_few (W := W) (k := 63) fun n hn => wg.few dg.xy hn
        have h2 : nl.length * 63 ≤ 3 * 63 := Nat.mul_le_mul_right _ hl3
        omega
      refine ⟨_, rfl, sum_read hw2 hl3 hcd fun H3 s3 => ⟨_, _, rfl, rfl, _, rfl, ?_⟩⟩
      have hw3 := hw2.same s3
      have s13 : L2.Same H H3 := s2.trans s3
      refine ite2 (fun c => ⟨_, fun _ _ z => z, ?_⟩) (fun c => ?_)
      · have c := of_decide_eq_true c
        refine sum_read hw3 hl3 hcd fun H4 s4 => ?_
        have hw4 := hw3.same s4
        have s14 : L2.Same H H4 := s13.trans s4
        refine ⟨_, rfl, g, _, _, _, rfl, rfl, SqT.of (s14 _ _ eg), rfl, pg, rfl, ⟨_, SqL.of (s14 _ _ hpr)⟩, ?_⟩
        have hG : gOf rs = Lr.map (fun q => q.2.2) := by unfold gOf; rw [← eLr, List.map_map]; rfl
        refine for_list (xs := Lr.map fun q => V.ref q.1) (fun i σ H' => ∃ (W1 : Wd) (v3 v5 v6 v7 v8 v9 v10 : Option V), σ = [some (.ref g), some (.int 5), some (.ref d), v3, some (.int ((total nl W : Nat) : Int)), v5, v6, v7, v8, v9, v10, none] ∧ L2.Same H H' ∧ WdsAt H' d nl cell W1 ∧ WGood rs nl W1 ∧ (∀ n, n ∉ nl → W1 n = []) ∧
          (∀ n ∈ nl, ∃ l, W1 n = W n ++ l) ∧ ((∀ n ∈ nl, W1 n = W n) → ∀ r ∈ (Lr.map fun q => q.2.2).take i, ∀ u, Md.Full.Parts (Wp W) r.2 u → u.length ≤ 5 → u ∈ W r.1)) ?_ ?_ ?_ ?_
        · exact ⟨W, v3, v5, v6, v7, v8, v9, v10, rfl, s14, hw4, wg, wn, fun n _ => ⟨[], (List.append_nil _).symm⟩, fun _ r hr => by rw [List.take_zero] at hr; exact absurd hr List.not_mem_nil⟩
        · rintro i σ H5 _ ⟨W1, v3, v5, v6, v7, v8, v9, v10, rfl, s5, _⟩
          exact SqL.of (s5 _ _ hpr)
        · rintro i x σ H5 hx ⟨W1, v3, v5, v6, v7, v8, v9, v10, rfl, s5, hw5, wg1, wn1, ext1, cl1⟩
          obtain ⟨q, hq, rfl⟩ := get_map hx
          obtain ⟨qa, lab, rn, ss⟩ := q
          have hqm := List.mem_of_getElem? hq
          obtain ⟨ps, ers, L, eL, hps, hL⟩ := hLr _ hqm
          have hrsm : (lab, rn, ss) ∈ rs := by rw [← eLr]; exact List.mem_map.mpr ⟨_, hqm, rfl⟩
          have hrm : (rn, ss) ∈ gOf rs := by rw [hG]; exact List.mem_map.mpr ⟨_, hqm, rfl⟩
          have hrn : rn ∈ nl := (isl rn).mpr ⟨_, hrsm, rfl⟩
          have hsy := dg.syOk isl hrsm
          have hss3 : ss.length ≤ 3 := (dg.rule _ hrsm).2.1
          have few1 : ∀ n ∈ nl, (W1 n).length ≤ 63 := fun n hn => wg1.few dg.xy hn
          refine ⟨sz1, fun wl0 hwl0 => ?_⟩
          have s50 : L2.Same H5 (upd H5 wl0 (.lst [.str ""])) := sm_upd (L2.Same.refl H5) hwl0
          refine ⟨_, rfl, qa, _, _, _, rfl, rfl, SqT.of (s50 _ _ (s5 _ _ ers)), rfl, ps, rfl, ⟨_, SqL.of (s50 _ _ (s5 _ _ hps))⟩, ?_⟩
          refine for_list (xs := L.map fun q => V.ref q.1) (fun j σ H' => ∃ (wl : Addr) (ws : List (List Nat)) (v6 v7 v8 v9 v10 : Option V), σ = [some (.ref g), some (.int 5), some (.ref d), some (.ref qa), some (.int ((total nl W : Nat) : Int)), some (.ref wl), v6, v7, v8, v9, v10, none] ∧ L2.Same H5 H' ∧
            H' wl = some (.lst (wlV ws)) ∧ WOk 5 W1 (ss.take j) ws ∧ ws.length ≤ 63 ^ j) ?_ ?_ ?_ ?_
          · exact ⟨wl0, [[]], v6, v7, v8, v9, v10, rfl, s50, upd_same, wok_nil 5 W1, Nat.le_refl _⟩
          · rintro j σ H6 _ ⟨wl, ws, v6, v7, v8, v9, v10, rfl, s6, _⟩
            exact SqL.of (s6 _ _ (s5 _ _ hps))
          · rintro j y σ H6 hy ⟨wl, ws, v6, v7, v8, v9, v10, rfl, s6, hwl, wok, wlen⟩
            obtain ⟨sq, hsq, rfl⟩ := get_map hy
            obtain ⟨sa, sy⟩ := sq
            have hsqm := List.mem_of_getElem? hsq
            have hssj : ss[j]? = some sy := by
              have e2 : L.map (·.2) = ss := eL
              rw [← e2, List.getElem?_map, hsq]; rfl
            have hj2 : j ≤ 2 := by have := (List.getElem?_eq_some_iff.mp hssj).1; omega
            have wl3 : ws.length ≤ 3969 := Nat.le_trans wlen (Nat.le_trans (Nat.pow_le_pow_right (by decide) hj2) (by decide))
            have hsym := List.mem_of_getElem? hssj
            have tks : ss.take (j + 1) = ss.take j ++ [sy] := by rw [List.take_add_one, hssj]; rfl
            have tl63 : (txts W1 sy).length ≤ 63 := by
              have h1 := hsy sy hsym
              cases sy with
              | lit w => exact (show 1 ≤ 63 by decide)
              | cls cs => show (cs.map _).length ≤ 63; rw [List.length_map]; have h1 : _ ∧ _ ∧ cs.length ≤ 2 := h1; omega
              | nt n => exact few1 n h1
            refine ⟨sz0, fun mo hmo => ?_⟩
            have smo : L2.Same H6 (upd H6 mo (.lst [])) := sm_upd (L2.Same.refl H6) hmo
            have hsyA : SymAt (upd H6 mo (.lst [])) sa sy := smo _ _ (s6 _ _ (s5 _ _ (hL _ hsqm)))
            refine ⟨_, rfl, _, rfl, sa, d, nl, cell, W1, sy, rfl, hsyA, hsy sy hsym, hw5.same fun b o e => smo _ _ (s6 _ _ e), fun H7 tl s7 htl hlt => ?_⟩
            have smo7 : L2.Same H6 H7 := fun b o e => s7 _ _ (smo _ _ e)
            have hmo7 : H7 mo = some (.lst []) := s7 _ _ upd_same
            have ntm : tl ≠ mo := (ne_of_none upd_same htl).symm
            have hwl7 := smo7 _ _ hwl
            have nwm : wl ≠ mo := ne_of_none hwl hmo
            refine ⟨tl, rfl, ⟨_, SqL.of hlt⟩, ?_⟩
            refine for_list (xs := (txts W1 sy).map fun w => V.str (tx w)) (fun k σ H' => ∃ (v8 v9 v10 : Option V), σ = [some (.ref g), some (.int 5), some (.ref d), some (.ref qa), some (.int ((total nl W : Nat) : Int)), some (.ref wl), some (.ref sa), some (.ref mo), v8, v9, v10, none] ∧ Kp mo H7 H' ∧
              H' mo = some (.lst (wlV (((txts W1 sy).take k).flatMap (stepOne 5 ws))))) ?_ ?_ ?_ ?_
            · exact ⟨v8, v9, v10, rfl, Kp.refl _ _, hmo7⟩
            · rintro k2 σ H8 _ ⟨v8, v9, v10, rfl, kp8, _⟩
              exact SqL.of (kp8 _ _ hlt ntm)
            · rintro k2 z σ H8 hz ⟨v8, v9, v10, rfl, kp8, hmo8⟩
              obtain ⟨t, ht, rfl⟩ := get_map hz
              have tkt : (txts W1 sy).take (k2 + 1) = (txts W1 sy).take k2 ++ [t] := by rw [List.take_add_one, ht]; rfl
              have hk63 : k2 < 63 := by have := (List.getElem?_eq_some_iff.mp ht).1; omega
              have hwl8 := kp8 _ _ hwl7 nwm
              refine ⟨_, rfl, .inl ⟨rfl, _, SqL.of hmo8⟩, _, rfl, wl, rfl, ⟨_, SqL.of hwl8⟩, fun D hD => ?_⟩
              have nwD : wl ≠ D := ne_of_none hwl8 hD
              have nmD : mo ≠ D := ne_of_none hmo8 hD
              have t5 : t.length ≤ 5 := by
                have h1 := hsy sy hsym
                have h2 := List.mem_of_getElem? ht
                cases sy with
                | lit w => rw [show t = w from List.mem_singleton.mp h2]; have := lit2 h1; omega
                | cls cs => obtain ⟨c, _, rfl⟩ := List.mem_map.mp h2; exact (show 1 ≤ 5 by decide)
                | nt n => exact (wg1.so n h1 t h2).2
              have w5 : ∀ w ∈ ws, w.length ≤ 5 := fun w hw => ((wok w).mp hw).2
              refine lc_flat (H1 := H8) (D := D) (g := gName 10) (vs := [10]) (xs := wlV ws) (walk_list (K := K)) (fun v => match v with | .str z => decide (z.length + t.length ≤ 5) | _ => false) (fun v => match v with | .str z => V.str (z ++ tx t) | v => v) (fun acc => SqL.of (by rw [upd_ne nwD]; exact hwl8)) (by unfold wlV; rw [List.length_map]; omega) (fun x hx acc Y N hY hN => ?_) ?_
              · obtain ⟨w, hw, rfl⟩ := List.mem_map.mp hx
                have hw5 := w5 w hw
                refine ⟨rfl, _, rfl, tx w, rfl, sz _ (by rw [tx_len]; omega), _, rfl, tx t, rfl, sz _ (by rw [tx_len]; omega), _, _, rfl, rfl, _, rfl, _, _, rfl, rfl, _, rfl, ?_⟩
                refine ite2 (fun c => ?_) (fun c => ?_)
                · have c := of_decide_eq_true c
                  rw [tx_len, tx_len] at c
                  exact ⟨_, rfl, _, rfl, _, _, rfl, rfl, (by rw [tx_len, tx_len]; exact sz _ (by omega)), hY (decide_eq_true (by rw [tx_len]; omega))⟩
                · refine hN (decide_eq_false fun z => c (decide_eq_true ?_))
                  rw [tx_len] at z
                  rw [tx_len, tx_len]
                  omega
              · rw [one_map]
                refine ⟨mo, D, _, _, rfl, rfl, by rw [upd_ne nmD]; exact hmo8, upd_same, ?_, ?_⟩
                · have h1 := flat_len (f := stepOne 5 ws) (k := 3969) (l := (txts W1 sy).take k2) fun x _ => Nat.le_trans (stepOne_len 5 ws x) wl3
                  have h2 := stepOne_len 5 ws t
                  have h3 : ((txts W1 sy).take k2).length * 3969 ≤ 63 * 3969 := Nat.mul_le_mul_right _ (by rw [List.length_take]; omega)
                  unfold wlV
                  rw [List.length_map, List.length_map]
                  exact sz _ (by omega)
                · refine ⟨_, _, _, rfl, fun b o e n => ?_, ?_⟩
                  · rw [upd_ne n, upd_ne (ne_of_none (kp8 _ _ e n) hD)]; exact kp8 _ _ e n
                  · rw [upd_same, tkt, List.flatMap_append]
                    unfold wlV
                    rw [List.map_append]
                    refine congrArg (fun z => some (HO.lst (_ ++ z))) ?_
                    show _ = ([t].flatMap (stepOne 5 ws)).map _
                    rw [List.flatMap_cons, List.flatMap_nil, List.append_nil]
            · rintro σ H8 ⟨v8, v9, v10, rfl, kp8, hmo8⟩
              rw [List.take_of_length_le (by rw [List.length_map]; exact Nat.le_refl _)] at hmo8
              refine ⟨_, rfl, mo, stepW 5 W1 ws sy, _, _, _, _, _, rfl, fun b o e => ?_, hmo8, ?_, ?_⟩
              · have n : b ≠ mo := ne_of_none (s6 _ _ e) hmo
                exact kp8 _ _ (smo7 _ _ (s6 _ _ e)) n
              · rw [tks]; exact wok_step wok
              · have h1 := flat_len (f := stepOne 5 ws) (k := ws.length) (l := txts W1 sy) fun x _ => stepOne_len 5 ws x
                have h2 : (txts W1 sy).length * ws.length ≤ 63 * 63 ^ j := Nat.mul_le_mul tl63 wlen
                rw [Nat.pow_succ, Nat.mul_comm]
                exact Nat.le_trans h1 h2
          · rintro σ H6 ⟨wl, ws, v6, v7, v8, v9, v10, rfl, s6, hwl, wok, wlen⟩
            have hLl : L.length = ss.length := by
              have e2 : L.map (·.2) = ss := eL
              rw [← e2, List.length_map]
            rw [List.take_of_length_le (by rw [List.length_map]; omega)] at wok
            rw [List.length_map] at wlen
            have wl6 : ws.length ≤ 250047 := Nat.le_trans wlen (Nat.le_trans (Nat.pow_le_pow_right (by decide) (show L.length ≤ 3 by omega)) (by decide))
            have hw6 := hw5.same s6
            have s16 : L2.Same H H6 := fun b o e => s6 _ _ (s5 _ _ e)
            have dgr := DGet.k (k := .inr rn) hw6.1
            rw [val_name (f := fun n => V.ref (cell n)) hrn] at dgr
            refine ⟨_, rfl, _, rfl, qa, _, _, _, rfl, rfl, SqT.of (s16 _ _ ers), rfl, d, _, rfl, dgr, ?_⟩
            have hck := hw6.2 rn hrn
            have ncd := hcd rn hrn
            have nwc : wl ≠ cell rn := ne_of hwl hck (fun z => by cases z)
            refine ⟨_, rfl, wl, rfl, ⟨_, SqL.of hwl⟩, ?_⟩
            refine for_list (xs := wlV ws) (fun k σ H' => ∃ (v10 : Option V), σ = [some (.ref g), some (.int 5), some (.ref d), some (.ref qa), some (.int ((total nl W : Nat) : Int)), some (.ref wl), v6, v7, v8, some (.ref (cell rn)), v10, none] ∧ Kp (cell rn) H6 H' ∧ WdAt H' (cell rn) (addAll (W1 rn) (ws.take k))) ?_ ?_ ?_ ?_
            · exact ⟨v10, rfl, Kp.refl _ _, hck⟩
            · rintro k2 σ H7 _ ⟨v10, rfl, kp7, _⟩
              exact SqL.of (kp7 _ _ hwl nwc)
            · rintro k2 z σ H7 hz ⟨v10, rfl, kp7, hc7⟩
              obtain ⟨wd, hwd, rfl⟩ := get_map hz
              have tkw : ws.take (k2 + 1) = ws.take k2 ++ [wd] := by rw [List.take_add_one, hwd]; rfl
              have hk2 : k2 < 250047 := by have := (List.getElem?_eq_some_iff.mp hwd).1; omega
              refine ⟨_, rfl, _, rfl, cell rn, _, rfl, DPut.k (k := .inr (tx wd)) hc7 ?_, ?_⟩
              · rw [List.length_map]
                have h1 := addAll_len (ws.take k2) (W1 rn)
                have h2 := few1 rn hrn
                have h3 : (ws.take k2).length ≤ k2 := by rw [List.length_take]; omega
                exact szlt _ (by omega)
              · refine ⟨_, rfl, fun b o e n => by rw [upd_ne n]; exact kp7 _ _ e n, ?_⟩
                show upd H7 (cell rn) _ (cell rn) = _
                rw [upd_same, putK_word, tkw, addAll_snoc]
            · rintro σ H7 ⟨v10, rfl, kp7, hc7⟩
              rw [List.take_of_length_le (by unfold wlV; rw [List.length_map]; exact Nat.le_refl _)] at hc7
              have tk : (Lr.map fun q => q.2.2).take (i + 1) = (Lr.map fun q => q.2.2).take i ++ [(rn, ss)] := by
                rw [List.take_add_one, List.getElem?_map, hq]; rfl
              have hcn : H (cell rn) = none := (hc rn hrn).2.1
              refine ⟨updW W1 rn (addAll (W1 rn) ws), _, _, _, _, _, _, _, rfl, fun b o e => kp7 _ _ (s16 _ _ e) (ne_of_none e hcn), ⟨kp7 _ _ hw6.1 ncd.symm, fun n hn => ?_⟩, wg1.add hrm hsy wok, fun n hn => ?_, fun n hn => ?_, fun heq r hr u hp hl => ?_⟩
              · unfold updW
                by_cases z : n = rn
                · rw [if_pos z, z]; exact hc7
                · rw [if_neg z]
                  exact kp7 _ _ (hw6.2 n hn) (fun e => z (ci n rn hn hrn e))
              · unfold updW
                rw [if_neg (fun z => hn (by rw [z]; exact hrn))]
                exact wn1 n hn
              · obtain ⟨l1, e1⟩ := ext1 n hn
                unfold updW
                by_cases z : n = rn
                · obtain ⟨l2, e2⟩ := addAll_ext ws (W1 rn)
                  rw [if_pos z]
                  exact ⟨l1 ++ l2, by rw [e2, ← z, e1, List.append_assoc]⟩
                · rw [if_neg z]; exact ⟨l1, e1⟩
              · -- nothing was added
                have e1 : ∀ n ∈ nl, W1 n = W n := fun n hn => by
                  obtain ⟨l1, e1⟩ := ext1 n hn
                  have h1 := heq n hn
                  unfold updW at h1
                  by_cases z : n = rn
                  · rw [if_pos z] at h1
                    obtain ⟨l2, e2⟩ := addAll_ext ws (W1 rn)
                    rw [e2, ← z, e1, List.append_assoc] at h1
                    have h2 := congrArg List.length h1
                    rw [List.length_append, List.length_append] at h2
                    have : l1 = [] := List.eq_nil_of_length_eq_zero (by omega)
                    rw [e1, this, List.append_nil]
                  · rw [if_neg z] at h1; exact h1
                rw [tk] at hr
                rcases List.mem_append.mp hr with hr | hr
                · exact cl1 e1 r hr u hp hl
                · rw [List.mem_singleton.mp hr] at hp ⊢
                  have e2 : W1 = W := by
                    funext n
                    by_cases hn : n ∈ nl
                    · exact e1 n hn
                    · rw [wn1 n hn, wn n hn]
                  rw [← e2] at hp
                  have h1 : u ∈ addAll (W1 rn) ws := addAll_mem.mpr (.inr ((wok u).mpr ⟨hp, hl⟩))
                  have h2 := heq rn hrn
                  unfold updW at h2
                  rw [if_pos rfl] at h2
                  rw [h2] at h1
                  exact h1
        · rintro σ H5 ⟨W1, v3, v5, v6, v7, v8, v9, v10, rfl, s5, hw5, wg1, wn1, ext1, cl1⟩
          rw [List.take_of_length_le (by rw [List.length_map, List.length_map]; exact Nat.le_refl _), ← hG] at cl1
          obtain ⟨t1, t2⟩ := total_le ext1
          refine ⟨(200 - ((total nl W : Nat) : Int)).toNat, by omega, W1, _, v3, v5, v6, v7, v8, v9, v10, rfl, s5, hw5, wg1, wn1, by omega, rfl, ?_⟩
          by_cases z : total nl W1 = total nl W
          · have e1 := t2 z
            have e2 : W1 = W := by
              funext n
              by_cases hn : n ∈ nl
              · exact e1 n hn
              · rw [wn1 n hn, wn n hn]
            refine .inr ?_
            rw [e2]
            exact cl1 e1
          · exact .inl (by omega)
      · have c : ¬ many < ((total nl W : Nat) : Int) := fun z => c (decide_eq_true z)
        have hfull : Md.Full (gOf rs) 5 (Wp W) := hmf.elim (fun z => absurd z c) id
        exact ⟨_, rfl, k H3 d nl cell W s13 hd hw3 wg hfull isl⟩
end
end Ms
end TextE6
section TextE7
set_option linter.all false
set_option maxRecDepth 100000
namespace Ms
open PySem PySem.Spec PyProof.Rows L2
section
variable {J : It} {n : Nat} {G : Hp → Prop} {g : TG} {tt : TT} {te : TE} {vs : List Nat} {σ : L2.St} {H1 : Hp} {D : Addr} {Qd : Hp → Prop}
/-- each of xs read as the one of ys at its place -/
theorem lc_ix {xs ys : List V} (w : Walk J xs.length G (YAt xs)) (hl : ys.length = xs.length) (hG : ∀ acc, G (upd H1 D (.lst acc))) (hz : xs.length ≤ 1000000)
    (hs : ∀ (i : Nat) (x y : V), xs[i]? = some x → ys[i]? = some y → ∀ (acc : List V) (Y : V → Hp → Prop) (N : Hp → Prop), Y y (upd H1 D (.lst acc)) →
      g x (wipe σ vs) (upd H1 D (.lst acc)) fun σ2 H2 => wipe σ2 vs = wipe σ vs ∧ tt σ2 H2 fun b H3 => if b = true then te σ2 H3 Y else N H3)
    (hd : Qd (upd H1 D (.lst ys))) :
    ∃ W : Nat → Nat → Hp → Prop, (∃ m, W 0 m (upd H1 D (.lst []))) ∧ ∀ i m H, W i m H →
      (J.stop i H ∧ Qd H) ∨ (J.go i H ∧ ∃ Nx : Hp → Prop, (∀ H', Nx H' → ∃ m', m' < m ∧ W (i + 1) m' H') ∧ ∀ x H', J.yld i H x H' → g x (wipe σ vs) H' fun σ2 H2 => wipe σ2 vs = wipe σ vs ∧ tt σ2 H2 fun b H3 =>
        if b = true then te σ2 H3 fun y H4 => ∃ acc, H4 D = some (.lst acc) ∧ acc.length < sizeLine ∧ Nx (upd H4 D (.lst (acc ++ [y]))) else Nx H3) := by
  have up : ∀ (a b : List V), upd (upd H1 D (.lst a)) D (.lst b) = upd H1 D (.lst b) := fun a b => by
    funext c
    by_cases z : c = D
    · rw [z, upd_same, upd_same]
    · rw [upd_ne z, upd_ne z, upd_ne z]
  refine lc_it w (fun i H => H = upd H1 D (.lst (ys.take i))) (by rw [List.take_zero]) (fun i H _ e => by rw [e]; exact hG _) (fun i x H H' hi e y => ?_) (fun H e => by rw [e, ← hl, List.take_length]; exact hd)
  obtain ⟨rfl, hx⟩ := y
  subst e
  obtain ⟨y, hy⟩ : ∃ y, ys[i]? = some y := ⟨_, List.getElem?_eq_getElem (by omega)⟩
  refine hs i x y hx hy _ _ _ ⟨_, upd_same, ?_, ?_⟩
  · refine szlt _ ?_
    rw [List.length_take]; omega
  · rw [up, List.take_add_one, hy]; rfl
end
theorem inV_strs (x : Str) (l : List Str) : inV (.str x) (l.map V.str) = decide (x ∈ l) := by
  unfold inV
  rw [Bool.eq_iff_iff, List.any_eq_true, decide_eq_true_eq]
  constructor
  · rintro ⟨y, hy, e⟩
    obtain ⟨z, hz, rfl⟩ := List.mem_map.mp hy
    have e : (z == x) = true := e
    rw [← eq_of_beq e]; exact hz
  · intro h
    exact ⟨.str x, List.mem_map.mpr ⟨x, h, rfl⟩, (show (x == x) = true from beq_self_eq_true x)⟩
theorem flat_strs' (l : List Str) : (l.map V.str).all flatV = true := by
  rw [List.all_eq_true]
  intro v hv
  obtain ⟨x, _, rfl⟩ := List.mem_map.mp hv
  rfl
theorem cut_drop {t : List Nat} {b : Nat} (hb : b ≤ t.length) : cutS (tx t) (some (b : Int)) none = tx (t.drop b) := by
  unfold cutS tx
  rw [HT.sIx_nat, HT.sIx_none]
  have : (⟨t.toArray⟩ : Str).length = t.length := tx_len t
  rw [this, Nat.min_eq_left hb]
  refine congrArg (fun z : List Nat => (⟨z.toArray⟩ : Str)) ?_
  show (t.drop b).take (t.length - b) = t.drop b
  rw [List.take_of_length_le (by rw [List.length_drop]; exact Nat.le_refl _)]
theorem join_txs (ps : List (List Nat)) : Txt.join "" (ps.map tx) = tx ps.flatten := by
  rw [join_nil]
  congr 1
  induction ps with
  | nil => rfl
  | cons a ps ih => rw [List.map_cons, List.flatMap_cons, ih, List.flatten_cons]
theorem sum_txs (ps : List (List Nat)) : ((ps.map tx).map (·.length)).sum = ps.flatten.length := by
  induction ps with
  | nil => rfl
  | cons a ps ih => rw [List.map_cons, List.map_cons, List.sum_cons, ih, List.flatten_cons, List.length_append]; rw [tx_len]
theorem n30 : ¬ (if true = true then !inV (V.int ((0 : Nat) : Int)) [V.int 0, V.int 1] else inV (V.int ((0 : Nat) : Int)) [V.int 0, V.int 1]) = true := by decide +kernel
theorem n31 : ¬ (if true = true then !inV (V.int ((1 : Nat) : Int)) [V.int 0, V.int 1] else inV (V.int ((1 : Nat) : Int)) [V.int 0, V.int 1]) = true := by decide +kernel
theorem n3 : ¬ (!decide (V.int ((3 : Nat) : Int) = V.int 3)) = true := by decide +kernel
def spFruit : Sp := fun vs H Q _ => ∃ (g : Addr) (st : Str) (rs : List Ru) (ns : List Str), vs = [.ref g] ∧ GrAt H g st rs ∧ DGr st rs ns ∧ ∀ H' b, L2.Same H H' → (b = false → ∀ w, ¬ Md.DerN (gOf rs) st w) → Q (.bl b) H'
def spLeads : Sp := fun vs H Q _ => ∃ (t u : List Nat) (p : Addr) (E : List Md.Ed), vs = [.str (tx t), .ref p, .str (tx u)] ∧ EdsAt H p E ∧ Md.Leads t 0 E u ∧ E.length ≤ 1000 ∧ t.length ≤ 1000 ∧ u.length ≤ 1000 ∧ ∀ H', L2.Same H H' → Q (.bl true) H'
/-- how many of ns are in f -/
def cardIn (ns f : List Str) : Nat := (ns.filter fun n => decide (n ∈ f)).length
theorem cardIn_le (ns f : List Str) : cardIn ns f ≤ ns.length := List.length_filter_le _ _
theorem cardIn_mono {f f' : List Str} (h : ∀ n ∈ f, n ∈ f') : ∀ ns : List Str, cardIn ns f ≤ cardIn ns f'
  | [] => Nat.le_refl _
  | n :: ns => by
    have ih := cardIn_mono h ns
    unfold cardIn at *
    rw [List.filter_cons, List.filter_cons]
    by_cases z : n ∈ f
    · rw [if_pos (decide_eq_true z), if_pos (decide_eq_true (h n z)), List.length_cons, List.length_cons]; omega
    · rw [if_neg (by rw [decide_eq_false z]; decide)]
      split
      · rw [List.length_cons]; omega
      · exact ih
theorem cardIn_lt {f f' : List Str} (h : ∀ n ∈ f, n ∈ f') {m : Str} (h1 : m ∈ f') (h2 : m ∉ f) : ∀ {ns : List Str}, m ∈ ns → cardIn ns f + 1 ≤ cardIn ns f'
  | [], hm => absurd hm List.not_mem_nil
  | n :: ns, hm => by
    unfold cardIn
    rw [List.filter_cons, List.filter_cons]
    rcases List.mem_cons.mp hm with e | hm
    · subst e
      have := cardIn_mono h ns
      unfold cardIn at this
      rw [if_neg (by rw [decide_eq_false h2]; decide), if_pos (decide_eq_true h1), List.length_cons]; omega
    · have ih := cardIn_lt h h1 h2 hm
      unfold cardIn at ih
      by_cases z : n ∈ f
      · rw [if_pos (decide_eq_true z), if_pos (decide_eq_true (h n z)), List.length_cons, List.length_cons]; omega
      · rw [if_neg (by rw [decide_eq_false z]; decide)]
        split
        · rw [List.length_cons]; omega
        · exact ih
/-- a symbol that needs no name outside f -/
def fitS (f : List Str) : Md.Sy Str → Bool
  | .nt n => decide (n ∈ f)
  | _ => true
theorem fit_all {f : List Str} {ss : List (Md.Sy Str)} : (ss.map (fitS f)).all id = true ↔ ∀ n, Md.Sy.nt n ∈ ss → n ∈ f := by
  rw [List.all_eq_true]
  constructor
  · intro h n hn
    exact of_decide_eq_true (h _ (List.mem_map.mpr ⟨_, hn, rfl⟩))
  · intro h b hb
    obtain ⟨y, hy, rfl⟩ := List.mem_map.mp hb
    cases y with
    | lit w => rfl
    | cls w => rfl
    | nt n => exact decide_eq_true (h n hy)
section
variable {P : Program} {w : World} {K : PySem.W.Frag} {mg : Str → Option Value} {base : Heap}
theorem scLeads : FnScope ["_law_text_here", "_law_edits", "_law_new", "_law_behind", "_law_pieces", "_law_edit", "_law_at", "_law_old", "_law_more"] ["_law_text_here", "_law_edits", "_law_new"] (defScope sLeads) := ⟨rfl, rfl, rfl, by decide +kernel, rfl, by decide +kernel, by decide +kernel⟩
theorem scFruit : FnScope ["_law_grammar_here", "_law_found", "_law_turn", "_law_rule", "_law_symbol_here"] ["_law_grammar_here"] (defScope sFruit) := ⟨rfl, rfl, rfl, by decide +kernel, rfl, by decide +kernel, by decide +kernel⟩
theorem ok_leads {f : Addr} {fd : FuncData} (F : Fun K "_law_leads" "_law_leads" sLeads f fd) (T : Bi mg) : FnOk P w K mg base CX0 1 f fd ["_law_text_here", "_law_edits", "_law_new"] spLeads := by
  refine F.ok scLeads (fun vs H Q E h => ?_) (fun cdv A outer s H vs Q E hr h => ?_)
  · obtain ⟨t, u, p, E, rfl, _⟩ := h
    rfl
  · obtain ⟨t, u, p, E, rfl, eds, ld, hE, ht, hu, k⟩ := h
    refine ⟨_, (pss_cons (ps_set (i := 3) scLeads.nd rfl (Or.inl rfl) pe_int)
    (pss_cons (ps_set (i := 4) scLeads.nd rfl (Or.inl rfl) (pe_lst pa_nil))
    (pss_cons (ps_for PassesOwn.never rfl (pi_list (pv 1)) (pg_name (i := 5) scLeads.nd rfl (Or.inl rfl))
      (pss_cons (ps_if (PW.pt (pw_or (pt_not (pt_val (pe_callB call_isi (by rfl) T.isinstance (by decide +kernel) (pa_cons (pv 5) (pa_cons (pe_bltn (v := .ty "tuple") (by rfl) T.tuple (by decide +kernel) rfl) pa_nil))))) (pw_or1 (pt_cmpR op_ne (pe_callB call_len_seq (by rfl) T.len PySem.boot_len (pa_cons (pv 5) pa_nil)) pe_int (nomark _)))))
        (pss_one (ps_ret pe_bl))
        pss_nil)
      (pss_cons (ps_asg (pv 5) (pg_tup rfl (pgs_cons (pg_name (i := 6) scLeads.nd rfl (Or.inl rfl)) (pgs_cons (pg_name (i := 7) scLeads.nd rfl (Or.inl rfl)) (pgs_cons (pg_name (i := 8) scLeads.nd rfl (Or.inl rfl)) pgs_nil)))))
      (pss_cons (ps_if (PW.pt (pw_or (pt_cmpR op_lt (pv 6) (pv 3) (nomark _)) (pw_or (pt_cmpR op_notIn_seq (pv 7) (pe_lst (pa_cons pe_int (pa_cons pe_int pa_nil))) (by rfl)) (pw_or (pt_cmpR op_gt (pe_op op_add (pv 6) (pv 7)) (pe_callB call_len_str (by rfl) T.len PySem.boot_len (pa_cons (pv 0) pa_nil)) (nomark _)) (pw_or (pt_cmpR op_gt (pe_callB call_len_str (by rfl) T.len PySem.boot_len (pa_cons (pv 8) pa_nil)) pe_int (nomark _)) (pw_or1 (pt_cmpR op_eq (pe_op op_add (pv 7) (pe_callB call_len_str (by rfl) T.len PySem.boot_len (pa_cons (pv 8) pa_nil))) pe_int (nomark _))))))))
        (pss_one (ps_ret pe_bl))
        pss_nil)
      (pss_cons (ps_expr (pe_bm PySem.F.plainAttrs_list PySem.F.slot_list_extend PySem.F.type_list_extend mt_extend (pv 4) (pa_cons (pe_lst (pa_cons (pe_slice sl_str (pv 0) (po_some (pv 3)) (po_some (pv 6))) (pa_cons (pv 8) pa_nil))) pa_nil)))
      (pss_one (ps_set (i := 3) scLeads.nd rfl (Or.inl rfl) (pe_op op_add (pv 6) (pv 7)))))))))
    (pss_one (ps_ret (pe_cmpR op_eq (pe_op op_add_str (pe_join pe_str (pv 4)) (pe_slice sl_str (pv 0) (po_some (pv 3)) po_none)) (pv 2) (nomark _))))))), ?_⟩
    obtain ⟨L, eL, hp, hL⟩ := eds
    refine ⟨sz0, fun pc hpc => ⟨_, rfl, p, rfl, ⟨_, SqL.of (by rw [upd_ne (ne_of_none hp hpc)]; exact hp)⟩, ?_⟩⟩
    refine for_list (xs := L.map fun q => V.ref q.1) (fun i σ H' => ∃ (b : Nat) (v5 v6 v7 v8 : Option V) (ps : List (List Nat)) (w : List Nat), σ = [some (.str (tx t)), some (.ref p), some (.str (tx u)), some (.int (b : Nat)), some (.ref pc), v5, v6, v7, v8] ∧ L2.Same H H' ∧
      H' pc = some (.lst ((ps.map tx).map V.str)) ∧ ps.length ≤ 2 * i ∧ Md.Leads t b (E.drop i) w ∧ u = ps.flatten ++ w) ?_ ?_ ?_ ?_
    · exact ⟨0, none, none, none, none, [], u, rfl, sm_upd (L2.Same.refl H) hpc, upd_same, Nat.le_refl _, ld, rfl⟩
    · rintro i σ H1 _ ⟨b, v5, v6, v7, v8, ps, w, rfl, s1, _⟩
      exact SqL.of (s1 _ _ hp)
    · rintro i x σ H1 hx ⟨b, v5, v6, v7, v8, ps, w, rfl, s1, hpc1, pl, ld1, eu⟩
      obtain ⟨q, hq, rfl⟩ := get_map hx
      have hEi : E[i]? = some q.2 := by rw [← eL, List.getElem?_map, hq]; rfl
      have hiE : i < E.length := (List.getElem?_eq_some_iff.mp hEi).1
      have hT : H1 q.1 = some (.tup (edV q.2)) := s1 _ _ (hL q (List.mem_of_getElem? hq))
      obtain ⟨T, at_, old, m⟩ := q
      have ed : E.drop i = (at_, old, m) :: E.drop (i + 1) := by
        obtain ⟨h1, h2⟩ := List.getElem?_eq_some_iff.mp hEi
        rw [List.drop_eq_getElem_cons h1, h2]
      rw [ed] at ld1
      cases ld1 with
      | @cons _ _ _ _ w' _ c1 c2 c3 c4 c5 ld2 =>
        dsimp only at hT
        refine ⟨_, rfl, _, _, _, _, true, rfl, .ty _, .base (.tup hT), kit_ty (by decide +kernel), _, rfl, iteF ⟨_, rfl, T, _, rfl, .inr (SqT.of hT), rfl, _, rfl, ?_⟩⟩
        refine ite2 (fun c => absurd (show (!decide (V.int ((3 : Nat) : Int) = V.int 3)) = true from c) n3) (fun _ => ?_)
        refine ⟨_, rfl, T, _, rfl, SqT.of hT, rfl, _, _, rfl, _, _, rfl, _, _, rfl, rfl, ?_⟩
        refine ⟨_, rfl, _, rfl, _, _, rfl, rfl, _, rfl, ite2 (fun c => absurd (of_decide_eq_true c) (by dsimp only; omega)) (fun _ => ?_)⟩
        refine ⟨_, rfl, sz2, fun D2 hD2 => ⟨D2, _, rfl, .inl (SqL.of upd_same), rfl, rfl, _, rfl, ite2 (fun c => ?_) (fun _ => ?_)⟩⟩
        · exfalso
          have : old = 0 ∨ old = 1 := by omega
          rcases this with rfl | rfl
          · exact absurd c n30
          · exact absurd c n31
        have s2 : L2.Same H1 (upd H1 D2 (.lst [.int 0, .int 1])) := sm_upd (L2.Same.refl H1) hD2
        have hpc2 := s2 _ _ hpc1
        generalize upd H1 D2 (.lst [.int 0, .int 1]) = H2 at s2 hpc2
        refine ⟨_, rfl, _, rfl, _, _, rfl, rfl, _, rfl, tx t, rfl, sz _ (by rw [tx_len]; omega), _, _, rfl, rfl, _, rfl, ite2 (fun c => absurd (of_decide_eq_true c) (by rw [tx_len]; dsimp only; omega)) (fun _ => ?_)⟩
        refine ⟨_, rfl, tx m, rfl, sz _ (by rw [tx_len]; omega), _, _, rfl, rfl, _, rfl, ite2 (fun c => absurd (of_decide_eq_true c) (by rw [tx_len]; omega)) (fun _ => ?_)⟩
        refine ⟨_, rfl, _, rfl, tx m, rfl, sz _ (by rw [tx_len]; omega), _, _, rfl, rfl, rfl, _, rfl, ite2 (fun c => ?_) (fun _ => ?_)⟩
        · exfalso
          have c := of_decide_eq_true c
          rw [tx_len] at c
          injection c with c
          dsimp only at c
          omega
        refine ⟨_, rfl, .inl ⟨rfl, _, SqL.of hpc2⟩, _, rfl, _, rfl, _, rfl, _, rfl, _, rfl, tx t, rfl, sz _ (by rw [tx_len]; omega), _, rfl, sz2, fun D3 hD3 => ?_⟩
        rw [cut_seg (by omega) (by omega)]
        have npd : pc ≠ D3 := ne_of_none hpc2 hD3
        have nt := congrArg List.length eu
        rw [List.length_append] at nt
        refine ⟨pc, D3, (ps.map tx).map V.str, _, rfl, rfl, by rw [upd_ne npd]; exact hpc2, upd_same, ?_, ?_⟩
        · rw [List.length_map, List.length_map]
          show ps.length + 2 ≤ _
          exact sz _ (by omega)
        · refine ⟨_, rfl, _, rfl, _, _, rfl, rfl, ?_⟩
          have eb : ((at_ : Nat) : Int) + ((old : Nat) : Int) = ((at_ + old : Nat) : Int) := by omega
          show ∃ _, _
          refine ⟨at_ + old, some (.ref T), some (.int (at_ : Nat)), some (.int (old : Nat)), some (.str ⟨m.toArray⟩), ps ++ [Md.seg t b at_, m], w', ?_, ?_, ?_, ?_, ld2, ?_⟩
          rotate_left
          · intro b o e
            have n2 : b ≠ pc := ne_of_none e hpc
            rw [upd_ne n2, upd_ne (ne_of_none (s2 _ _ (s1 _ _ e)) hD3)]
            exact s2 _ _ (s1 _ _ e)
          · rw [upd_same, List.map_append, List.map_append]; rfl
          · rw [List.length_append]; show ps.length + 2 ≤ _; omega
          · rw [eu, List.flatten_append]
            show _ = (ps.flatten ++ (Md.seg t b at_ ++ (m ++ []))) ++ w'
            rw [List.append_nil]
            simp only [List.append_assoc]
          · rw [← eb]; rfl
    · rintro σ H1 ⟨b, v5, v6, v7, v8, ps, w, rfl, s1, hpc1, pl, ld1, eu⟩
      have e0 : E.drop (L.map fun q => V.ref q.1).length = [] := by
        rw [List.length_map, ← eL, List.drop_eq_nil_iff, List.length_map]; exact Nat.le_refl _
      have lE : (L.map fun q => V.ref q.1).length = E.length := by rw [List.length_map, ← eL, List.length_map]
      rw [e0] at ld1
      rw [lE] at pl
      cases ld1 with
      | nil hb =>
        have nt := congrArg List.length eu
        rw [List.length_append] at nt
        refine ⟨⟨_, rfl⟩, _, rfl, "", pc, ps.map tx, rfl, rfl, .inl (SqL.of hpc1), ?_, _, rfl, _, rfl, _, rfl, tx t, rfl, sz _ (by rw [tx_len]; omega), _, _, rfl, rfl, ?_, _, rfl, rfl, ?_⟩
        · rw [sum_txs]
          show _ + _ * 0 ≤ _
          omega
        · rw [join_txs, tx_len, cut_drop hb, tx_len]
          exact sz _ (by omega)
        · rw [join_txs, cut_drop hb, tx_app, ← eu, decide_eq_true rfl]
          exact k _ s1
theorem ok_fruit {f : Addr} {fd : FuncData} (F : Fun K "_law_fruitful" "_law_fruitful" sFruit f fd) (T : Bi mg) : FnOk P w K mg base CX0 1 f fd ["_law_grammar_here"] spFruit := by
  refine F.ok scFruit (fun vs H Q E h => ?_) (fun cdv A outer s H vs Q E hr h => ?_)
  · obtain ⟨g, st, rs, ns, rfl, _⟩ := h
    rfl
  · obtain ⟨g, st, rs, ns, rfl, gr, dg, k⟩ := h
    refine ⟨_, (pss_cons (ps_set (i := 1) scFruit.nd rfl (Or.inr rfl) (pe_lst pa_nil))
    (pss_cons (ps_for PassesOwn.never rfl (pi_range1 rfl T.range (pa_cons (pe_op op_add (pe_callB call_len_seq (by rfl) T.len PySem.boot_len (pa_cons (pe_ix ix_tup (pv 0) pe_int (fun _ _ => rfl)) pa_nil)) pe_int) pa_nil)) (pg_name (i := 2) scFruit.nd rfl (Or.inl rfl))
      (pss_one (ps_for PassesOwn.never rfl (pi_list (pe_ix ix_tup (pv 0) pe_int (fun _ _ => rfl))) (pg_name (i := 3) scFruit.nd rfl (Or.inl rfl))
        (pss_one (ps_if (pt_val (pe_callB (cr_all rfl) (by rfl) T.all (by decide +kernel) (pa_cons (pe_lc (own := [("_law_symbol_here", 4)]) (g := gName 4) (tt := tYes) rfl scFruit.nd (pi_list (pe_ix ix_tup (pv 3) pe_int (fun _ _ => rfl))) (blkOk_by (N := ["_law_grammar_here", "_law_found", "_law_turn", "_law_rule", "_law_symbol_here"]) (sc := defScope sFruit) (by decide +kernel)) (fun _ _ _ _ _ => pg_name (i := 4) scFruit.nd rfl (Or.inl rfl)) (fun _ _ _ _ _ => pts_nil) (fun _ _ _ _ _ => (pe_or (pe_cmpR op_ne (pe_ix (r := rIxT K) ix_tup (pv 4) pe_int (fun _ _ => rfl)) pe_str (nomark _)) (pe_one (pe_cmpR (r := rIn K false) op_in_seq (pe_ix (r := rIxT K) ix_tup (pv 4) pe_int (fun _ _ => rfl)) (pv 1) (by rfl)))))) pa_nil)))
          (pss_one (ps_expr (pe_bm PySem.F.plainAttrs_list PySem.F.slot_list_append PySem.F.type_list_append mt_append (pv 1) (pa_cons (pe_ix ix_tup (pv 3) pe_int (fun _ _ => rfl)) pa_nil))))
          pss_nil)))))
    (pss_one (ps_ret (pe_cmpR op_in_seq (pe_ix ix_tup (pv 0) pe_int (fun _ _ => rfl)) (pv 1) (by rfl)))))), ?_⟩
    obtain ⟨pg, eg, Lr, eLr, hpr, hLr⟩ := gr
    have hG : gOf rs = Lr.map (fun q => q.2.2) := by unfold gOf; rw [← eLr, List.map_map]; rfl
    have lL : Lr.length = rs.length := by rw [← eLr, List.length_map]
    have few := dg.few
    have nsl : ns.length ≤ rs.length := by
      have hnd : ns.Nodup := by
        obtain ⟨m, _, e⟩ := dg.names
        rw [e]
        exact (show SAB.Nodup by decide +kernel).sublist (List.take_sublist _ _)
      have := Md.nodup_le hnd (m := rs.map fun r => r.2.1) fun n hn => by
        obtain ⟨r, hr, e⟩ := dg.all n hn
        exact List.mem_map.mpr ⟨r, hr, e⟩
      rw [List.length_map] at this
      exact this
    have ns3 : ns.length ≤ 3 := by
      obtain ⟨m, hm, e⟩ := dg.names
      rw [e, List.length_take]
      omega
    refine ⟨sz0, fun fl hfl => ?_⟩
    have s0 : L2.Same H (upd H fl (.lst [])) := sm_upd (L2.Same.refl H) hfl
    refine ⟨_, rfl, g, _, _, _, rfl, rfl, SqT.of (s0 _ _ eg), rfl, pg, _, rfl, .inl (SqL.of (s0 _ _ hpr)), _, _, rfl, rfl, _, rfl, ?_, ?_, ?_⟩
    · rw [List.length_map]; omega
    · rw [List.length_map]; omega
    rw [List.length_map, lL]
    refine for_range (lo := 0) (n := (((rs.length : Nat) : Int) + 1).toNat) (fun i σ H' => ∃ (f : List Str) (v2 v3 : Option V), σ = [some (.ref g), some (.ref fl), v2, v3, none] ∧ L2.Same H H' ∧ H' fl = some (.lst (f.map V.str)) ∧ f.length ≤ 6 * i ∧ (∀ n ∈ f, n ∈ ns) ∧ (Md.Closed (gOf rs) (fun n => n ∈ f) ∨ i ≤ cardIn ns f)) ?_ ?_ ?_
    · exact ⟨[], none, none, rfl, s0, upd_same, Nat.le_refl _, fun n h => absurd h List.not_mem_nil, .inr (Nat.zero_le _)⟩
    · rintro i σ H1 hi ⟨f0, v2, v3, rfl, s1, hf1, fl1, fn1, cl1⟩
      have hi7 : i ≤ 7 := by omega
      refine ⟨_, rfl, g, _, _, _, rfl, rfl, SqT.of (s1 _ _ eg), rfl, pg, rfl, ⟨_, SqL.of (s1 _ _ hpr)⟩, ?_⟩
      refine for_list (xs := Lr.map fun q => V.ref q.1) (fun j σ H' => ∃ (f : List Str) (v3 : Option V), σ = [some (.ref g), some (.ref fl), some (.int (0 + (i : Nat))), v3, none] ∧ L2.Same H H' ∧ H' fl = some (.lst (f.map V.str)) ∧ f.length ≤ f0.length + j ∧ (∀ n ∈ f, n ∈ ns) ∧ (∀ n ∈ f0, n ∈ f) ∧
        (∀ r ∈ (Lr.map fun q => q.2.2).take j, (∀ n, Md.Sy.nt n ∈ r.2 → n ∈ f0) → r.1 ∈ f) ∧ (Md.Closed (gOf rs) (fun n => n ∈ f0) → ∀ n ∈ f, n ∈ f0)) ?_ ?_ ?_ ?_
      · exact ⟨f0, v3, rfl, s1, hf1, Nat.le_refl _, fn1, fun n h => h, fun r h => by rw [List.take_zero] at h; exact absurd h List.not_mem_nil, fun _ n h => h⟩
      · rintro j σ H2 _ ⟨f, v3, rfl, s2, _⟩
        exact SqL.of (s2 _ _ hpr)
      · rintro j x σ H2 hx ⟨f, v3, rfl, s2, hf2, fl2, fn2, mono2, done2, cl2⟩
        obtain ⟨q, hq, rfl⟩ := get_map hx
        obtain ⟨qa, lab, rn, ss⟩ := q
        have hqm := List.mem_of_getElem? hq
        obtain ⟨ps, ers, L, eL, hps, hL⟩ := hLr _ hqm
        have hj6 : j < 6 := by have := (List.getElem?_eq_some_iff.mp hq).1; omega
        have hrm : (rn, ss) ∈ gOf rs := by rw [hG]; exact List.mem_map.mpr ⟨_, hqm, rfl⟩
        have hrsm : (lab, rn, ss) ∈ rs := by rw [← eLr]; exact List.mem_map.mpr ⟨_, hqm, rfl⟩
        have eL' : L.map (·.2) = ss := eL
        have hsl : L.length ≤ 3 := by
          have h1 : ss.length ≤ 3 := (dg.rule _ hrsm).2.1
          rw [← eL', List.length_map] at h1
          exact h1
        have tk : (Lr.map fun q => q.2.2).take (j + 1) = (Lr.map fun q => q.2.2).take j ++ [(rn, ss)] := by
          rw [List.take_add_one, List.getElem?_map, hq]; rfl
        refine ⟨_, rfl, qa, _, _, _, rfl, rfl, SqT.of (s2 _ _ ers), rfl, ps, rfl, ⟨_, SqL.of (s2 _ _ hps)⟩, fun D hD => ?_⟩
        have nD : ∀ {b o}, H2 b = some o → ∀ acc, upd H2 D (.lst acc) b = some o := fun e acc => by rw [upd_ne (ne_of_none e hD)]; exact e
        refine lc_ix (H1 := H2) (D := D) (g := gName 4) (vs := [4]) (xs := L.map fun q => V.ref q.1) (ys := (ss.map (fitS f)).map V.bl) (walk_list (K := K)) (by rw [List.length_map, List.length_map, List.length_map, ← eL', List.length_map]) (fun acc => SqL.of (nD (s2 _ _ hps) acc)) (by rw [List.length_map]; omega) (fun i2 x y hx hy acc Y N hY => ?_) ?_
        · obtain ⟨sq, hsq, rfl⟩ := get_map hx
          have hys : (ss.map (fitS f))[i2]? = some (fitS f sq.2) := by rw [← eL', List.map_map, List.getElem?_map, hsq]; rfl
          rw [List.getElem?_map, hys] at hy
          have hy := (Option.some.inj hy).symm
          subst hy
          have hsy : H2 sq.1 = some (.tup (syV sq.2)) := s2 _ _ (hL sq (List.mem_of_getElem? hsq))
          refine ⟨rfl, tyesI ⟨_, rfl, sq.1, _, _, _, rfl, rfl, SqT.of (nD hsy acc), rfl, rfl, _, rfl, ?_⟩⟩
          refine ite2 (fun c => ?_) (fun c => ?_)
          · have : fitS f sq.2 = true := by
              cases he : sq.2 with
              | lit w => rfl
              | cls w => rfl
              | nt n =>
                exfalso
                rw [he] at c
                exact absurd (show (!decide (V.str (kindS (.nt n)) = V.str "nt")) = true from c) (by show ¬ (!decide (V.str "nt" = V.str "nt")) = true; decide +kernel)
            rw [this] at hY
            exact hY
          · obtain ⟨n, hn⟩ : ∃ n, sq.2 = .nt n := by
              cases he : sq.2 with
              | lit w =>
                exfalso
                rw [he] at c
                exact c (show (!decide (V.str "lit" = V.str "nt")) = true by decide +kernel)
              | cls w =>
                exfalso
                rw [he] at c
                exact c (show (!decide (V.str "class" = V.str "nt")) = true by decide +kernel)
              | nt n => exact ⟨n, rfl⟩
            rw [hn] at hY hsy
            refine ⟨_, rfl, sq.1, _, _, _, rfl, rfl, SqT.of (nD hsy acc), rfl, _, rfl, fl, _, rfl, .inl (SqL.of (nD hf2 acc)), rfl, flat_strs' _, ?_⟩
            show Y (V.bl (inV (V.str n) (f.map V.str))) _
            rw [inV_strs]
            exact hY
        · refine ⟨D, _, rfl, SqL.of upd_same, _, rfl, ?_⟩
          have s3 : L2.Same H2 (upd H2 D (.lst ((ss.map (fitS f)).map V.bl))) := fun b o e => nD e _
          generalize upd H2 D (.lst ((ss.map (fitS f)).map V.bl)) = H3 at s3
          refine ite2 (fun c => ?_) (fun c => ?_)
          · have c := fit_all.mp c
            refine ⟨_, rfl, .inl ⟨rfl, _, SqL.of (s3 _ _ hf2)⟩, _, rfl, qa, _, _, _, rfl, rfl, SqT.of (s3 _ _ (s2 _ _ ers)), rfl, fl, _, _, rfl, rfl, s3 _ _ hf2, by rw [List.length_map]; exact szlt _ (by omega), ?_⟩
            refine ⟨f ++ [rn], _, rfl, fun b o e => ?_, by rw [upd_same, List.map_append]; rfl, by rw [List.length_append]; show f.length + 1 ≤ _; omega, fun n hn => ?_, fun n hn => List.mem_append_left _ (mono2 n hn), fun r hr h => ?_, fun hcl n hn => ?_⟩
            · rw [upd_ne (ne_of_none e hfl)]; exact s3 _ _ (s2 _ _ e)
            · rcases List.mem_append.mp hn with hn | hn
              · exact fn2 n hn
              · rw [List.mem_singleton.mp hn]; exact (dg.rule _ hrsm).1
            · rw [tk] at hr
              rcases List.mem_append.mp hr with hr | hr
              · exact List.mem_append_left _ (done2 r hr h)
              · rw [List.mem_singleton.mp hr]; exact List.mem_append_right _ List.mem_cons_self
            · rcases List.mem_append.mp hn with hn | hn
              · exact cl2 hcl n hn
              · rw [List.mem_singleton.mp hn]
                exact hcl (rn, ss) hrm fun m hm => cl2 hcl m (c m hm)
          · refine ⟨f, _, rfl, fun b o e => s3 _ _ (s2 _ _ e), s3 _ _ hf2, by omega, fn2, mono2, fun r hr h => ?_, cl2⟩
            rw [tk] at hr
            rcases List.mem_append.mp hr with hr | hr
            · exact done2 r hr h
            · exfalso
              rw [List.mem_singleton.mp hr] at h
              exact c (fit_all.mpr fun n hn => mono2 n (h n hn))
      · rintro σ H2 ⟨f, v3, rfl, s2, hf2, fl2, fn2, mono2, done2, cl2⟩
        rw [List.take_of_length_le (by rw [List.length_map, List.length_map]; exact Nat.le_refl _), ← hG] at done2
        rw [List.length_map, lL] at fl2
        refine ⟨f, _, _, rfl, s2, hf2, by omega, fn2, ?_⟩
        by_cases z : ∀ n ∈ f, n ∈ f0
        · exact .inl fun r hr h => done2 r hr fun n hn => z n (h n hn)
        · obtain ⟨m, hm⟩ := Classical.not_forall.mp z
          obtain ⟨hm1, hm2⟩ := Classical.not_imp.mp hm
          rcases cl1 with c | c
          · exact absurd (cl2 c m hm1) hm2
          · have := cardIn_lt mono2 hm1 hm2 (fn2 m hm1)
            exact .inr (by omega)
    · rintro σ H1 ⟨f, v2, v3, rfl, s1, hf1, fl1, fn1, cl1⟩
      have hcl : Md.Closed (gOf rs) (fun n => n ∈ f) := by
        rcases cl1 with c | c
        · exact c
        · have := cardIn_le ns f
          omega
      refine ⟨_, rfl, g, _, _, _, rfl, rfl, SqT.of (s1 _ _ eg), rfl, _, rfl, fl, _, rfl, .inl (SqL.of hf1), rfl, flat_strs' _, ?_⟩
      show Q (.bl (inV (.str st) (f.map V.str))) _
      rw [inV_strs]
      exact k _ _ s1 fun hb w hw => (of_decide_eq_false hb) (Md.derN_closed hcl hw)
end
end Ms
end TextE7
section TextE8
set_option linter.all false
set_option maxRecDepth 100000
/-! The law's own def, entered from the claim itself: there no repr is under way. -/
namespace Ms
open PySem PySem.Spec PyProof.Rows L2
section
variable {P : Program} {w : World} {K : PySem.W.Frag} {mg mb : Str → Option Value}
/-- a def entered from A alone -/
theorem enter_at {base : Heap} {k : Nat} {x qual : Str} {st : Stmt} {f : Addr} {fd : FuncData} {N ps : List Str} {A : Around} {outer : List Env} {s : Shared} {H : Hp} {args : Args} {us : List Value} {vs : List V} {Q : VK}
    (F : Fun K x qual st f fd) (S : FnScope N ps (defScope st)) (hl : vs.length = ps.length) (hr : Room (k + 1) A) (e0 : Env0 P w K mg base A outer s H) (hb : BindsTo s fd args (ps.zip us)) (rv : Vals vs us)
    (body : ∀ cdv : Value, Room k (A.deeper (envOfC qual (defScope st) s.heap.objs.size f cdv)) → ∃ t, PSs (cxOf CX0 P w K mg base N qual (defScope st) f cdv A outer s H E0).nox (defBody st) t ∧ t { nx := fun _ H' => Q .non H', rt := Q } (start N vs) H) :
    codeAny (model P w) A (.call (.ref f) args) (CR CX0 outer P w H s Q E0) s := by
  obtain ⟨oc, od, kV, doc, pm, an, cdv, ct, osl, rfl, lk, hcd⟩ := F.ex
  have old := e0.bs
  have inK : K.In s.heap := e0.mod.kin.keeps fun b o q => (old b o q).1
  have noLim : s.heap.NoLimit := e0.mod.nolimit.keeps fun b o q => (old b o q).1
  refine codeAny_call_function hr.depth (inK _ _ lk) rfl S.co S.gen rfl (PySem.W.codeRec_of inK hcd) (hb _ _ _ _ ?_)
  refine wpAny_newFunctionEnv_cells S.kind (fun y hy => ?_) fun env henv s1 inC => ?_
  · obtain ⟨n, v⟩ := y
    have hn := (List.of_mem_zip hy).1
    exact (S.par n hn).imp_right fun q => ⟨q, PySem.W.cellsFrom_some _ _ _ (.inl q)⟩
  subst henv
  refine ⟨noLim.keeps inC.toInCall.keep, codeAny_func ?_⟩
  obtain ⟨t, run, start_ok⟩ := body cdv (hr.deeper _)
  have inv0 : Inv (cxOf CX0 P w K mg base N qual (defScope st) f cdv A outer s H E0) [] (start N vs) H s1 := inv_start S hr.hd e0 hl rv inC
  have done : ∀ {σ' : L2.St} {H' : Hp} {s' : Shared} {v : V} {u : Value}, Inv (cxOf CX0 P w K mg base N qual (defScope st) f cdv A outer s H E0) [] σ' H' s' → RelV v u → Q v H' → CE outer P w H s Q u s' :=
    fun J r q => ⟨_, _, J.os, J.bare, J.base, J.hok, r, q⟩
  refine wpAny_mono ((PSs.nox run).run [] s1 _ H _ inv0 start_ok) (fun fl s' z => ?_) fun _ _ z => z
  cases fl with
  | next =>
    obtain ⟨_, _, J, q⟩ := z
    exact done (v := V.non) (u := Value.none) J rfl q
  | ret u =>
    obtain ⟨_, _, _, J, r, q⟩ := z
    exact done J r q
  | brk => obtain ⟨_, _, _, z⟩ := z; exact z.elim
  | cont => obtain ⟨_, _, _, z⟩ := z; exact z.elim
/-- nothing tracked, or the frozen script alone -/
def Bare1 (K : PySem.W.Frag) (a : Addr) (H : Hp) : Prop := ∀ b, H b = none ∨ (b = a ∧ K.lookup a = none ∧ ∃ ob xs, H b = some (.frz ob (.lst xs)))
theorem law_go {s : Shared} {fa a : Addr} {vs : List Value} {ns : List Int} (inK : K.In s.heap) (glob : s.heap.Ns mainGlobals mg) (blt : s.heap.Ns builtinsNs mb) (bltB : ∀ x : Str, x ≠ "__name__" → mb x = bootBuiltins x)
    (noLim : s.heap.NoLimit) (noGen : s.gens = #[]) (there : s.heap.get? a = some { cls := .type "list", data := .seq vs.toArray }) (hi : IntsAre vs ns) (fits : ns.length ≤ sizeLine)
    (run : ∀ (base : Heap) (H : Hp), K.In base → base.Ns mainGlobals mg → Env0 P w K mg base callerA [] s H → SqL K H a (ns.map V.int) → codeAny (model P w) callerA (.call (.ref fa) ⟨[.ref a], []⟩) (CR CX0 [] P w H s (fun v _ => v = .bl true) E0) s) :
    codeAny (model P w) callerA (.call (.ref fa) ⟨[.ref a], []⟩) (fun r s' => r = .ok (.ret (.bool true)) ∧ OldK s.heap s'.heap ∧ s'.os = s.os ∧ AllBare s'.gens) s := by
  have rel : Vals (ns.map V.int) vs := vals_ints hi
  have main : ∀ H : Hp, Bare1 K a H → HOk P w H s.heap → SqL K H a (ns.map V.int) →
      codeAny (model P w) callerA (.call (.ref fa) ⟨[.ref a], []⟩) (fun r s' => r = .ok (.ret (.bool true)) ∧ OldK s.heap s'.heap ∧ s'.os = s.os ∧ AllBare s'.gens) s := fun H bare hok seq => by
    have free : ∀ b o, s.heap.get? b = some o → (∀ es ep, o.data = .dict es ep → True) → ((∃ es ep, o.data = .dict es ep) ∨ K.lookup b = some o) → H b = none := fun b o ob _ why => by
      rcases bare b with z | ⟨rfl, nk, _⟩
      · exact z
      · rcases why with ⟨es, ep, d⟩ | k
        · rw [there] at ob
          cases ob
          cases d
        · rw [nk] at k; cases k
    have ns' : ∀ {b : Addr} {m : Str → Option Value}, s.heap.Ns b m → (hidT s.heap H).Ns b m := fun ⟨o, es, ep, ob, d, r⟩ =>
      ⟨o, es, ep, hidT_get ob (free _ _ ob (fun _ _ _ => trivial) (.inl ⟨es, ep, d⟩)), d, r⟩
    have inK' : K.In (hidT s.heap H) := fun b o k => hidT_get (inK b o k) (free _ _ (inK b o k) (fun _ _ _ => trivial) (.inr k))
    have md : L2.Mod K mg (hidT s.heap H) := { kin := inK', glob := ns' glob, blt := ⟨mb, ns' blt, bltB⟩, nolimit := by obtain ⟨m, h1, h2⟩ := noLim; exact ⟨m, ns' h1, h2⟩ }
    have env : Env0 P w K mg (hidT s.heap H) callerA [] s H :=
      { frames := rfl, mod := md, bs := fun _ _ e => of_hidT e, bsz := Nat.le_of_eq (hidT_size _ _), funs := trivial, frf := fun b h => absurd (show b ∈ ([] : List Addr) from h) List.not_mem_nil, hok := hok, bare := .of_eq noGen }
    refine codeAny_mono (run _ H inK' (ns' glob) env seq) fun r s' z => ?_
    match r, z with
    | .error _, z => exact absurd z id
    | .ok .next, z => exact absurd z id
    | .ok .brk, z => exact absurd z id
    | .ok .cont, z => exact absurd z id
    | .ok (.ret u), ⟨v, H', os, ag, un, hok', rv, tr⟩ =>
      have tr : v = .bl true := tr
      subst tr
      have eu : u = Value.bool true := rv
      refine ⟨by rw [eu], OldK.of_keep fun b o ob => ?_, os, ag⟩
      rcases bare b with z | ⟨_, _, o2, xs, z⟩
      · exact un.keep b o ob z (by intro q; exact absurd (show b ∈ ([] : List Addr) from q) List.not_mem_nil) (by simp)
      · have h1 := (hok b _ z).1
        rw [ob] at h1
        rw [(hok' b _ (un.frzs b o2 _ z)).1, Option.some.inj h1]
  by_cases hk : ∃ o, K.lookup a = some o
  · obtain ⟨o, ek⟩ := hk
    have eo := inK a o ek
    rw [there] at eo
    cases eo
    exact main (fun _ => none) (fun _ => .inl rfl) (fun _ _ z => by cases z) (.inr ⟨_, vs.toArray, _, ek, rfl, rfl, rfl, by rw [List.size_toArray, hi.length]; exact fits, by simpa using rel⟩)
  · have nk : K.lookup a = none := by
      cases e : K.lookup a with
      | none => rfl
      | some o => exact absurd ⟨o, e⟩ hk
    have here : (fun b => if b = a then some (HO.frz { cls := .type "list", data := .seq vs.toArray } (.lst (ns.map V.int))) else none : Hp) a = some (.frz { cls := .type "list", data := .seq vs.toArray } (.lst (ns.map V.int))) := if_pos rfl
    refine main (fun b => if b = a then some (.frz { cls := .type "list", data := .seq vs.toArray } (.lst (ns.map V.int))) else none) (fun b => ?_) (fun b u z => ?_) (.inl (.inr ⟨_, here⟩))
    · by_cases e : b = a
      · exact .inr ⟨e, nk, _, _, if_pos e⟩
      · exact .inl (if_neg e)
    · by_cases e : b = a
      · subst e
        have := here.symm.trans z
        cases this
        exact ⟨there, by rw [List.length_map]; exact fits, vs, _, rel, there⟩
      · have := (if_neg e).symm.trans z
        cases this
end
section
variable {X : Cx}
/-- repr(x) where no repr is under way -/
def rRepr (K : PySem.W.Frag) : List V → Hp → VK → Prop := fun xs H Q => ∃ (a : Addr) (d : PyData), xs = [.ref a] ∧ Dp K H (.ref a) d ∧ d.showable = true ∧ (d.hasDict = false) ∧ d.depth ≤ 20 ∧ d.shown.length ≤ sizeLine ∧ Q (.str d.shown) H
theorem cr_repr (hg : X.A.guards = some []) (hu : X.A.units + 64 < cLine) : CallR X (.builtin "repr") (rRepr X.K) := by
  intro pins s σ H xs us Q I r h
  obtain ⟨a, d, rfl, dp, h1, h2, h3, h4, q⟩ := h
  obtain ⟨u, rfl, rx⟩ := vals1 r
  obtain rfl : u = Value.ref a := rx
  obtain ⟨as, rd⟩ := Dp.reads I d _ _ dp rfl
  exact repr_of_reads' rd h1 (fun z => by rw [h2] at z; cases z) hg (by omega) (fun _ _ e => e) (fun h' u tk kp => ⟨.str d.shown, H, I.kept kp, ⟨u, rfl⟩, q⟩) h4
end
end Ms
end TextE8
section TextE9
set_option linter.all false
set_option maxRecDepth 100000
namespace Ms
open PySem PySem.Spec PyProof.Rows L2
/-- a call of the def at f through the local name at i; what is wanted of its exceptions may look at the state -/
def tCallLS (i : Nat) (f : Addr) (sp : Sp) (E : L2.St → XK) (t : TA) : TE := fun σ H Q => σ[i]? = some (some (.ref f)) ∧ t σ H fun vs H1 => sp vs H1 Q (E σ)
section
variable {X : Cx} {CX : CXT} {k i : Nat} {f : Addr} {fd : FuncData} {ps : List Str} {sp : Sp} {E : L2.St → XK} {x : Str} {p pos : Pos} {e : Expr} {es : List Expr} {t : TA}
theorem pe_callLS (F : FnOk X.prog X.w X.K X.mg X.base CX k f fd ps sp) (hr : Room k X.A) (hN : X.N[i]? = some x) (hv : Vis X.env.scope x) (hk : PySem.W.keepIn X.K (.ref f) = true) (hb : Binds X.K fd ps []) (hx : ∀ σ, PassesAt CX X σ (E σ)) (ha : PA X (e :: es) t)
    (hdb : (x == ("__debug__" : Str)) = false := by decide) (hcd : (x == ("__classdict__" : Str)) = false := by decide)
    (he : starEach (e :: es) X.env = (false, eval e X.env) :: starEach es X.env := by rfl) (hpl : (backTo pos (starEach es X.env)).any (·.1) = false := by rfl) : PE X (.Call (.Name x p) (e :: es) [] pos) (tCallLS i f sp E t) := by
  refine ⟨fun pins s σ H Q I ⟨slot, args⟩ => wpAny_Call_Name_kw (thn ((pe_var (pos := p) hN hv hdb hcd).run pins s σ H (fun v H1 => v = .ref f ∧ H1 = H) I ⟨.ref f, slot, rfl, rfl⟩) fun u s1 ⟨v, H1, I1, r1, ev, eH⟩ => ?_)⟩
  subst ev eH
  obtain rfl : u = Value.ref f := r1
  exact PySem.W.callWith_K (h₀ := X.base) I.ok.mod.kin hk (thn (ha.run pos pins s1 σ _ _ I1 args) fun us s2 ⟨vs, H2, I2, r, q⟩ => ⟨I2.kIn, run_fnS F hr hb (hx σ) I2 r q⟩) he hpl
end
def spTold (f0 : Addr) (sp0 : Sp) (X : Addr) : Sp := fun vs H Q _ => ∃ u v, vs = [.ref f0, u, v] ∧ ∀ E' : XK, (∀ d H', (∀ p, H' p = none → Q (.ref p) (upd H' p (.tup [.str "refused"]))) → E' (.ref X) d H') → sp0 [u, v] H Q E'
def spCheck (XG : Addr) : Sp := fun vs H Q E => ∃ (g : Addr) (st : Str) (rs : List Ru) (ns : List Str), vs = [.ref g] ∧ GrAt H g st rs ∧ DGr st rs ns ∧ (∀ H', L2.Same H H' → Q .non H') ∧ ∀ d H', L2.Same H H' → E (.ref XG) d H'
def spChecked : Sp := fun vs H Q _ => ∃ (g : Addr) (st : Str) (rs : List Ru) (ns : List Str), vs = [.ref g] ∧ GrAt H g st rs ∧ DGr st rs ns ∧ ∀ H' b, L2.Same H H' → Q (.bl b) H'
section
variable {P : Program} {w : World} {K : PySem.W.Frag} {mg : Str → Option Value} {base : Heap} {X XG : Addr}
theorem scTold : FnScope ["_law_call", "_law_grammar_here", "_law_text_here"] ["_law_call", "_law_grammar_here", "_law_text_here"] (defScope sTold) := ⟨rfl, rfl, rfl, by decide +kernel, rfl, by decide +kernel, by decide +kernel⟩
theorem scChecked : FnScope ["_law_grammar_here"] ["_law_grammar_here"] (defScope sChecked) := ⟨rfl, rfl, rfl, by decide +kernel, rfl, by decide +kernel, by decide +kernel⟩
theorem ok_told {f f0 : Addr} {fd fd0 : FuncData} {x0 : Str} {st0 : Stmt} {sp0 : Sp} (F : Fun K "_law_told" "_law_told" sTold f fd) (TX : XC K mg "TreeError" X) (D_callee : Df K mg x0 st0 ["grammar", "text"] f0 fd0) (G_callee : FnOk P w K mg base (L2.CX P w) 10 f0 fd0 ["grammar", "text"] sp0) :
    FnOk P w K mg base CX0 11 f fd ["_law_call", "_law_grammar_here", "_law_text_here"] (spTold f0 sp0 X) := by
  refine F.ok scTold (fun vs H Q E h => ?_) (fun cdv A outer s H vs Q E hr h => ?_)
  · obtain ⟨u, v, rfl, _⟩ := h
    rfl
  · obtain ⟨u, v, rfl, k⟩ := h
    refine ⟨_, (pss_one (ps_try_only rfl rfl ⟨rfl, by decide, .inl TX.g⟩ takes0 (fun W pn xe tk _ => pss_one (ps_ret (pe_callLS (i := 0) G_callee (hr.mono (by decide)) (by rfl) (Or.inl rfl) D_callee.F.kp D_callee.b (fun σ => passAt tk σ) (pa_cons (pv 1) (pa_cons (pv 2) pa_nil))))) (fun a oe cls d pn _ _ => pss_one (ps_ret (pe_tup (pa_cons pe_str pa_nil)))))), ?_⟩
    refine ⟨rfl, _, rfl, _, rfl, k _ fun d H' hq => ⟨true, TX.e, fun _ a ha => ⟨sz1, hq⟩, fun z => nomatch z⟩⟩
theorem ok_checked {f fc : Addr} {fd fdc : FuncData} (F : Fun K "_law_checked" "_law_checked" sChecked f fd) (gXG : mg "GrammarError" = some (.ref XG)) (eXG : PySem.W.exmOne K (.ref XG) (.ref XG) = some true) (D_check : Df K mg "check" sCheck ["grammar"] fc fdc)
    (G_check : FnOk P w K mg base (L2.CX P w) 8 fc fdc ["grammar"] (spCheck XG)) : FnOk P w K mg base CX0 9 f fd ["_law_grammar_here"] spChecked := by
  refine F.ok scChecked (fun vs H Q E h => ?_) (fun cdv A outer s H vs Q E hr h => ?_)
  · obtain ⟨g, st, rs, ns, rfl, _⟩ := h
    rfl
  · obtain ⟨g, st, rs, ns, rfl, gr, dg, k⟩ := h
    refine ⟨_, (pss_cons (ps_try_only rfl rfl ⟨rfl, by decide, .inl gXG⟩ takes0 (fun W pn xe tk _ => pss_one (ps_expr (pe_callS G_check (hr.mono (by decide)) (by rfl) D_check.g D_check.F.kp D_check.b (fun σ => passAt tk σ) (pa_cons (pv 0) pa_nil)))) (fun a oe cls d pn _ _ => pss_one (ps_ret pe_bl))) (pss_one (ps_ret pe_bl))), ?_⟩
    refine ⟨_, rfl, g, st, rs, ns, rfl, gr, dg, fun H' s1 => k H' true s1, fun d H' s1 => ⟨true, eXG, fun _ a ha => k H' false s1, fun z => nomatch z⟩⟩
end
end Ms
end TextE9
section TextF1
set_option linter.all false
set_option maxRecDepth 100000
namespace Ms
open PySem PySem.Spec PyProof.Rows L2
def rIx2 (K : PySem.W.Frag) : R2 := fun x y H Q => rIxL K x y H Q ∨ rIxT K x y H Q
theorem ix_two {X : Cx} : IxR X (rIx2 X.K) := IxR.or ix_list ix_tup
def sqO (k : Bool) (xs : List V) : HO := if k = true then .tup xs else .lst xs
/-- the same data, of at most n levels -/
inductive SameD (H : Hp) : Nat → V → V → Prop
  | str {n : Nat} (x : Str) : SameD H (n + 1) (.str x) (.str x)
  | int {n : Nat} (i : Int) : SameD H (n + 1) (.int i) (.int i)
  | seq {n : Nat} {a b : Addr} {xs ys : List V} (k : Bool) : H a = some (sqO k xs) → H b = some (sqO k ys) → xs.length = ys.length → ys.length ≤ 1000 → (∀ (i : Nat) (x y : V), xs[i]? = some x → ys[i]? = some y → SameD H n x y) → SameD H (n + 1) (.ref a) (.ref b)
theorem SameD.same {H H' : Hp} (s : L2.Same H H') : ∀ {n : Nat} {x y : V}, SameD H n x y → SameD H' n x y
  | _, _, _, .str x => .str x
  | _, _, _, .int i => .int i
  | _, _, _, .seq k h1 h2 h3 h4 h5 => .seq k (s _ _ h1) (s _ _ h2) h3 h4 fun i x y hx hy => (h5 i x y hx hy).same s
def spSame : Nat → Sp
  | 0 => fun _ _ _ _ => False
  | n + 1 => fun vs H Q _ => ∃ x y, vs = [x, y] ∧ SameD H (n + 1) x y ∧ ∀ H', L2.Same H H' → Q (.bl true) H'
theorem SameD.pos {H : Hp} {n : Nat} {x y : V} (h : SameD H n x y) : ∃ m, n = m + 1 := by cases h <;> exact ⟨_, rfl⟩
theorem sqO_q {K : PySem.W.Frag} {H : Hp} {k : Bool} {a : Addr} {xs : List V} (h : H a = some (sqO k xs)) : SqL K H a xs ∨ SqT K H a xs := by
  cases k with
  | true => exact .inr (SqT.of h)
  | false => exact .inl (SqL.of h)
theorem sqO_ty {K : PySem.W.Frag} {H : Hp} {k : Bool} {a : Addr} {xs : List V} (h : H a = some (sqO k xs)) : TyX K H (.ref a) (.type (if k = true then "tuple" else "list")) := by
  cases k with
  | true => exact .base (.tup h)
  | false => exact .base (.lst h)
theorem kit_tup {K : PySem.W.Frag} (k : Bool) : PySem.W.kitOne K (.type (if k = true then "tuple" else "list")) (.type "tuple") = some k := by
  cases k with
  | true => exact kit_ty (by decide +kernel)
  | false => exact kit_ty (by decide +kernel)
theorem kit_lst {K : PySem.W.Frag} (k : Bool) : PySem.W.kitOne K (.type (if k = true then "tuple" else "list")) (.type "list") = some (!k) := by
  cases k with
  | true => exact kit_ty (by decide +kernel)
  | false => exact kit_ty (by decide +kernel)
theorem kit_seq {K : PySem.W.Frag} (k : Bool) : PySem.W.kitAny K (.type (if k = true then "tuple" else "list")) [.type "tuple", .type "list"] = some true := by
  refine kitAny_cons (kit_tup k) (fun z => ?_) fun _ => rfl
  subst z
  exact kitAny_cons (kit_lst false) (fun z => nomatch z) fun _ => rfl
theorem kit_flat {K : PySem.W.Frag} {T : String} (h1 : kitB T "tuple" = some false) (h2 : kitB T "list" = some false) : PySem.W.kitAny K (.type T) [.type "tuple", .type "list"] = some false :=
  kitAny_cons (kit_ty h1) (fun _ => kitAny_cons (kit_ty h2) (fun _ => kitAny_nil) fun z => nomatch z) fun z => nomatch z
theorem ne_bb (k : Bool) : ¬ (!decide (V.bl k = V.bl k)) = true := by rw [decide_eq_true rfl]; decide
theorem tup_list : Paired ClsV [.ty "tuple", .ty "list"] [.type "tuple", .type "list"] := .cons (.ty _) (.cons (.ty _) .nil)
section
variable {P : Program} {w : World} {K : PySem.W.Frag} {mg : Str → Option Value} {base : Heap}
theorem scSame : FnScope ["_law_actual", "_law_expected", "_law_k"] ["_law_actual", "_law_expected"] (defScope sSame) := ⟨rfl, rfl, rfl, by decide +kernel, rfl, by decide +kernel, by decide +kernel⟩
theorem ok_same {f : Addr} {fd : FuncData} (D_same : Df K mg "_law_same" sSame ["_law_actual", "_law_expected"] f fd) (T : Bi mg) : ∀ n, FnOk P w K mg base CX0 n f fd ["_law_actual", "_law_expected"] (spSame n)
  | 0 => ⟨fun _ _ _ _ h => h.elim, fun _ _ _ _ _ _ _ _ _ _ _ _ _ h => h.elim⟩
  | n + 1 => by
    have G_same := ok_same D_same T n
    refine D_same.F.ok scSame (fun vs H Q E h => ?_) (fun cdv A outer s H vs Q E hr h => ?_)
    · obtain ⟨x, y, rfl, _⟩ := h
      rfl
    · obtain ⟨x, y, rfl, sd, k⟩ := h
      refine ⟨_, (pss_cons (ps_if (pt_val (pe_callB call_isiT (by rfl) T.isinstance (by decide +kernel) (pa_cons (pv 1) (pa_cons (pe_tup (pa_cons (pe_bltn (v := .ty "tuple") (by rfl) T.tuple (by decide +kernel) rfl) (pa_cons (pe_bltn (v := .ty "list") (by rfl) T.list (by decide +kernel) rfl) pa_nil))) pa_nil))))
      (pss_cons (ps_if (PW.pt (pw_or (pt_cmpR op_ne (pe_callB call_isi (by rfl) T.isinstance (by decide +kernel) (pa_cons (pv 0) (pa_cons (pe_bltn (v := .ty "tuple") (by rfl) T.tuple (by decide +kernel) rfl) pa_nil))) (pe_callB call_isi (by rfl) T.isinstance (by decide +kernel) (pa_cons (pv 1) (pa_cons (pe_bltn (v := .ty "tuple") (by rfl) T.tuple (by decide +kernel) rfl) pa_nil))) (nomark _)) (pw_or1 (pt_cmpR op_ne (pe_callB call_isi (by rfl) T.isinstance (by decide +kernel) (pa_cons (pv 0) (pa_cons (pe_bltn (v := .ty "list") (by rfl) T.list (by decide +kernel) rfl) pa_nil))) (pe_callB call_isi (by rfl) T.isinstance (by decide +kernel) (pa_cons (pv 1) (pa_cons (pe_bltn (v := .ty "list") (by rfl) T.list (by decide +kernel) rfl) pa_nil))) (nomark _)))))
        (pss_one (ps_ret pe_bl))
        pss_nil)
      (pss_one (ps_ret (pe_and (pe_cmpR op_eq (pe_callB call_len_seq (by rfl) T.len PySem.boot_len (pa_cons (pv 0) pa_nil)) (pe_callB call_len_seq (by rfl) T.len PySem.boot_len (pa_cons (pv 1) pa_nil)) (nomark _)) (pe_one (pe_callB (cr_all rfl) (by rfl) T.all (by decide +kernel) (pa_cons (pe_lc (own := [("_law_k", 2)]) (g := gName 2) (tt := tYes) rfl scSame.nd (pi_range1 rfl T.range (pa_cons (pe_callB call_len_seq (by rfl) T.len PySem.boot_len (pa_cons (pv 1) pa_nil)) pa_nil)) (blkOk_by (N := ["_law_actual", "_law_expected", "_law_k"]) (sc := defScope sSame) (by decide +kernel)) (fun _ _ _ _ _ => pg_name (i := 2) scSame.nd rfl (Or.inl rfl)) (fun _ _ _ _ _ => pts_nil) (fun _ _ _ _ _ => (pe_call G_same hr (by rfl) D_same.g D_same.F.kp D_same.b .nil pass0 (pa_cons (pe_ix (r := rIx2 K) ix_two (pv 0) (pv 2) (fun _ _ => rfl)) (pa_cons (pe_ix (r := rIx2 K) ix_two (pv 1) (pv 2) (fun _ _ => rfl)) pa_nil))))) pa_nil)))))))
      pss_nil)
    (pss_cons (ps_if (pt_val (pe_callB call_isi (by rfl) T.isinstance (by decide +kernel) (pa_cons (pv 1) (pa_cons (pe_bltn (v := .ty "str") (by rfl) T.str (by decide +kernel) rfl) pa_nil))))
      (pss_one (ps_ret (pe_and (pe_callB call_isi (by rfl) T.isinstance (by decide +kernel) (pa_cons (pv 0) (pa_cons (pe_bltn (v := .ty "str") (by rfl) T.str (by decide +kernel) rfl) pa_nil))) (pe_one (pe_cmpR op_eq (pv 0) (pv 1) (nomark _))))))
      pss_nil)
    (pss_cons (ps_if (pt_cmpR op_isN (pv 1) pe_non (nomark _))
      (pss_one (ps_ret (pe_cmpR op_isN (pv 0) pe_non (nomark _))))
      pss_nil)
    (pss_cons (ps_if (PW.pt (pw_or (pt_val (pe_callB call_isi (by rfl) T.isinstance (by decide +kernel) (pa_cons (pv 1) (pa_cons (pe_bltn (v := .ty "bool") (by rfl) T.bool (by decide +kernel) rfl) pa_nil)))) (pw_or1 (pt_val (pe_callB call_isi (by rfl) T.isinstance (by decide +kernel) (pa_cons (pv 0) (pa_cons (pe_bltn (v := .ty "bool") (by rfl) T.bool (by decide +kernel) rfl) pa_nil)))))))
      (pss_one (ps_ret (pe_and (pe_callB call_isi (by rfl) T.isinstance (by decide +kernel) (pa_cons (pv 1) (pa_cons (pe_bltn (v := .ty "bool") (by rfl) T.bool (by decide +kernel) rfl) pa_nil))) (pe_and (pe_callB call_isi (by rfl) T.isinstance (by decide +kernel) (pa_cons (pv 0) (pa_cons (pe_bltn (v := .ty "bool") (by rfl) T.bool (by decide +kernel) rfl) pa_nil))) (pe_one (pe_cmpR op_eq (pv 0) (pv 1) (nomark _)))))))
      pss_nil)
    (pss_one (ps_ret (pe_and (pe_callB call_isi (by rfl) T.isinstance (by decide +kernel) (pa_cons (pv 0) (pa_cons (pe_bltn (v := .ty "int") (by rfl) T.int (by decide +kernel) rfl) pa_nil))) (pe_one (pe_cmpR op_eq (pv 0) (pv 1) (nomark _)))))))))), ?_⟩
      cases sd with
      | str x =>
        refine ⟨_, rfl, sz2, fun tp htp => ⟨_, tp, _, _, _, false, rfl, upd_same, tup_list, .base (.str _), kit_flat (by decide +kernel) (by decide +kernel), _, rfl, iteF ?_⟩⟩
        have s1 : L2.Same H (upd H tp (.tup [.ty "tuple", .ty "list"])) := sm_upd (L2.Same.refl H) htp
        refine ⟨_, rfl, _, _, _, _, true, rfl, .ty _, .base (.str _), kit_ty (by decide +kernel), _, rfl, iteT ?_⟩
        refine ⟨_, rfl, _, _, _, _, true, rfl, .ty _, .base (.str _), kit_ty (by decide +kernel), _, rfl, iteT ⟨_, rfl, _, rfl, rfl, ?_⟩⟩
        rw [decide_eq_true rfl]
        exact k _ s1
      | int i =>
        refine ⟨_, rfl, sz2, fun tp htp => ⟨_, tp, _, _, _, false, rfl, upd_same, tup_list, .base (.int _), kit_flat (by decide +kernel) (by decide +kernel), _, rfl, iteF ?_⟩⟩
        have s1 : L2.Same H (upd H tp (.tup [.ty "tuple", .ty "list"])) := sm_upd (L2.Same.refl H) htp
        refine ⟨_, rfl, _, _, _, _, false, rfl, .ty _, .base (.int _), kit_ty (by decide +kernel), _, rfl, iteF ?_⟩
        refine ⟨_, rfl, rfl, _, rfl, ite2 (fun c => absurd (of_decide_eq_true c) (fun z => by cases z)) (fun _ => ?_)⟩
        refine ⟨_, rfl, _, _, _, _, false, rfl, .ty _, .base (.int _), kit_ty (by decide +kernel), _, rfl, iteF ?_⟩
        refine ⟨_, rfl, _, _, _, _, false, rfl, .ty _, .base (.int _), kit_ty (by decide +kernel), _, rfl, iteF ?_⟩
        refine ⟨_, rfl, _, _, _, _, true, rfl, .ty _, .base (.int _), kit_ty (by decide +kernel), _, rfl, iteT ⟨_, rfl, _, rfl, rfl, ?_⟩⟩
        rw [decide_eq_true rfl]
        exact k _ s1
      | @seq _ a b xs ys kd ha hb hl hn hx =>
        refine ⟨_, rfl, sz2, fun tp htp => ⟨_, tp, _, _, _, true, rfl, upd_same, tup_list, sqO_ty (?_ : upd H tp (.tup [.ty "tuple", .ty "list"]) b = some (sqO kd ys)), kit_seq kd, _, rfl, iteT ?_⟩⟩
        · rw [upd_ne (ne_of_none hb htp)]; exact hb
        have s1 : L2.Same H (upd H tp (.tup [.ty "tuple", .ty "list"])) := sm_upd (L2.Same.refl H) htp
        generalize upd H tp (.tup [.ty "tuple", .ty "list"]) = H1 at s1
        have ha1 := s1 _ _ ha
        have hb1 := s1 _ _ hb
        refine ⟨_, rfl, _, _, _, _, kd, rfl, .ty _, sqO_ty ha1, kit_tup kd, _, rfl, _, _, _, _, kd, rfl, .ty _, sqO_ty hb1, kit_tup kd, rfl, _, rfl, ite2 (fun c => absurd c (ne_bb _)) (fun _ => ?_)⟩
        refine ⟨_, rfl, _, _, _, _, _, rfl, .ty _, sqO_ty ha1, kit_lst kd, _, rfl, _, _, _, _, _, rfl, .ty _, sqO_ty hb1, kit_lst kd, rfl, _, rfl, ite2 (fun c => absurd c (ne_bb _)) (fun _ => ?_)⟩
        refine ⟨_, rfl, a, _, rfl, sqO_q ha1, _, rfl, b, _, rfl, sqO_q hb1, rfl, _, rfl, ite2 (fun _ => ?_) (fun c => absurd (decide_eq_true (by rw [hl])) c)⟩
        refine ⟨_, rfl, b, _, rfl, sqO_q hb1, _, rfl, by omega, by omega, fun D hD => ?_⟩
        refine lc_range (lo := 0) (n := ((ys.length : Nat) : Int).toNat) (fun i H' => L2.Same H1 H' ∧ H' D = some (.lst ((List.replicate i true).map V.bl))) ?_ ?_ ?_
        · exact ⟨sm_upd (L2.Same.refl H1) hD, upd_same⟩
        · rintro i H2 hi ⟨s2, hD2⟩
          have hi' : i < ys.length := by omega
          obtain ⟨x, hxi⟩ : ∃ x, xs[i]? = some x := ⟨_, List.getElem?_eq_getElem (by omega)⟩
          obtain ⟨y, hyi⟩ : ∃ y, ys[i]? = some y := ⟨_, List.getElem?_eq_getElem hi'⟩
          have e0 : (0 : Int) + ((i : Nat) : Int) = ((i : Nat) : Int) := by omega
          have ix : ∀ {c : Addr} {zs : List V} {z : V} {Y : VK}, H2 c = some (sqO kd zs) → zs[i]? = some z → Y z H2 → rIx2 K (.ref c) (.int (0 + (i : Nat))) H2 Y := fun {c zs z Y} hc hz q => by
            rw [e0]
            rcases sqO_q (K := K) hc with h | h
            · exact .inl ⟨c, zs, _, z, rfl, rfl, h, atI_nat hz, q⟩
            · exact .inr ⟨c, zs, _, z, rfl, rfl, h, atI_nat hz, q⟩
          have sd := hx i x y hxi hyi
          obtain ⟨m, em⟩ := sd.pos
          refine ⟨rfl, tyesI ⟨_, rfl, _, rfl, ix (s2 _ _ ha1) hxi ⟨_, rfl, _, rfl, ix (s2 _ _ hb1) hyi ?_⟩⟩⟩
          subst em
          refine ⟨x, y, rfl, (sd.same s1).same s2, fun H3 s3 => ⟨_, s3 _ _ hD2, by rw [List.length_map, List.length_replicate]; exact szlt _ (by omega), fun b o e => ?_, ?_⟩⟩
          · rw [upd_ne (ne_of_none e hD)]; exact s3 _ _ (s2 _ _ e)
          · rw [upd_same, List.replicate_succ', List.map_append]; rfl
        · rintro H2 ⟨s2, hD2⟩
          refine ⟨D, _, rfl, SqL.of hD2, ?_⟩
          have : (List.replicate ((ys.length : Nat) : Int).toNat true).all id = true := by
            rw [List.all_eq_true]
            intro b hb
            rw [List.eq_of_mem_replicate hb]; rfl
          rw [this]
          exact k _ (fun b o e => s2 _ _ (s1 _ _ e))
end
end Ms
end TextF1
section TextF2
set_option linter.all false
set_option maxRecDepth 100000
namespace Ms
open PySem PySem.Spec PyProof.Rows L2
theorem count_z (c : Nat) (t : List Nat) : Txt.count (tx t) ⟨#[c]⟩ = ((t.count c : Nat) : Int) := by
  have e : Txt.count (tx t) ⟨#[c]⟩ = cnt c t := count_is (tx t) c
  rw [e]
  induction t with
  | nil => rfl
  | cons d t ih =>
    have ih := ih (count_is (tx t) c)
    rw [cnt_cons, ih, List.count_cons]
    by_cases z : d = c
    · rw [if_pos z, if_pos (by rw [z]; exact beq_self_eq_true c)]; omega
    · rw [if_neg z, if_neg (by intro h; exact z (eq_of_beq h))]; omega
theorem repl_z (t : List Nat) : Txt.replace (tx t) ⟨#[122]⟩ "" = tx (t.filter fun c => c ≠ 122) := by
  have h := StrLaws.replace_list (x := tx t) (y := ⟨#[122]⟩) (z := "") (by decide)
  have h2 : ∀ t : List Nat, StrLaws.replL [122] [] t = t.filter fun c => c ≠ 122 := fun t => by
    induction t with
    | nil => rfl
    | cons c r ih =>
      by_cases e : c = 122
      · subst e
        rw [StrLaws.replL_hit (by decide) rfl, List.filter_cons, if_neg (by simp)]
        exact ih
      · rw [StrLaws.replL_miss (by intro z; injection z with z; exact e z), List.filter_cons, if_pos (by simpa using e), ih]
  have h3 : (Txt.replace (tx t) ⟨#[122]⟩ "").cps.toList = t.filter fun c => c ≠ 122 := h.trans (h2 t)
  rw [← h3]
section
variable {X : Cx} {i j kk : Nat} {x c : Str} {es : List Expr} {e : Expr} {rest : List Stmt} {t : TA} {te : TE} {u : TS} {cp tp pos pos' : Pos}
/-- x = ("c", ..): behind it a token is out -/
theorem pss_tup1 (hN : X.N.Nodup) (hi : X.N[i]? = some x) (hx : Loc X.env.scope x) (ha : PA X es t) (h2 : PSsT X rest u)
    (hs : swapsWith (.Tuple (.Constant (.str c) j cp :: es) kk tp) (some (.Name x pos')) pos.line X.env = pure false := by rfl) (hst : starEach (.Constant (.str c) j cp :: es) X.env = (false, eval (.Constant (.str c) j cp) X.env) :: starEach es X.env := by rfl)
    (hf : X.fn x = true ∨ X.env.scope.names.lookup x = some .local := by first | exact .inl rfl | exact .inr rfl | assumption) :
    PSs X (.Assign [.Name x pos'] (.Tuple (.Constant (.str c) j cp :: es) kk tp) pos :: rest) (tSeq (tAsg (tTup (tCons (tC (.str c)) t)) (gName i)) u) := by
  refine ⟨fun pins s σ H D I h => wpAny_execs_cons (wpAny_Assign_Name (wpAny_Tuple_spliced ?_) hs)⟩
  rw [hst]
  show wpAny _ _ (spliced ((false, eval (.Constant (.str c) j cp) X.env) :: backTo tp (starEach es X.env))) _ _ s
  refine Calls.spliced_cons (Calls.Constant_str ?_)
  have I1 := I.tok (s.toks + 1)
  refine wpAny_mono (wpAny_toks_of (n := 1) (by show 1 ≤ s.toks + 1; omega) (ha.run tp pins _ σ H _ I1 h)) (fun us s1 q => ?_) fun _ _ z => z.2
  obtain ⟨ht, xs, H1, I2, r, z, q⟩ := q
  refine ⟨by rw [List.length_cons, ← r.length]; exact z, ?_⟩
  have hn : H1 s1.heap.objs.size = none := I2.hok.fresh (Nat.le_refl _)
  have I3 : Inv X pins σ (upd H1 s1.heap.objs.size (.tup (.str c :: xs))) { s1 with heap := s1.heap.push { cls := .type "tuple", data := .seq (Value.str c s.toks :: us).toArray } } :=
    I2.laid (t' := s1.toks) (fun b u e => Heap.get?_push_of_some _ e) (Nat.le_refl _) ⟨z, Value.str c s.toks :: us, .cons ⟨_, rfl⟩ r, ⟨_, Heap.get?_push_size _ rfl, rfl, _, rfl⟩⟩
  refine wpAny_mono (wpAny_toks_of (n := 1) ht (store_ok (v := .ref s1.heap.objs.size) (u := .ref s1.heap.objs.size) (Q := fun _ s2 => Inv X pins (σ.set i (some (.ref s1.heap.objs.size))) (upd H1 s1.heap.objs.size (.tup (.str c :: xs))) s2) I3 hN hi hx rfl (fun _ I4 => I4) hf)) (fun _ s2 q2 => ?_) fun _ _ z => z.2
  exact h2 pins s2 _ _ D q2.1 q2.2 (q _ hn)
theorem pst_set (hN : X.N.Nodup) (hi : X.N[i]? = some x) (hx : Loc X.env.scope x) (he : PET X e te) (hs : swapsWith e (some (.Name x pos')) pos.line X.env = pure false := by rfl)
    (hf : X.fn x = true ∨ X.env.scope.names.lookup x = some .local := by first | exact .inl rfl | exact .inr rfl | assumption) : PST X (.Assign [.Name x pos'] e pos) (tAsg te (gName i)) :=
  fun pins s σ H D h0 I h => wpAny_Assign_Name (thn (he pins s σ H _ h0 I h) fun v s1 ⟨y, H1, I1, r1, q1⟩ => store_ok I1 hN hi hx r1 (fun s2 I2 => ⟨_, H1, I2, q1⟩) hf) hs
end
end Ms
end TextF2
section TextF3
set_option linter.all false
set_option maxRecDepth 100000
namespace Ms
open PySem PySem.Spec PyProof.Rows L2
open CwR (tReplC)
theorem newF {H : Hp} {p : Addr} (o : HO) (h : H p = none) : L2.Same H (upd H p o) ∧ upd H p o p = some o := ⟨sm_upd (L2.Same.refl H) h, upd_same⟩
def symsK (k : Nat) : List (Md.Sy Str) := if k = 0 then [.nt "a", .cls [120, 121]] else if k = 1 then [.cls [120, 121], .nt "a"] else [.nt "s", .nt "a"]
def rsL (k : Nat) : List Ru := [("r0", "a", symsK k), ("r1", "s", [.cls [120, 121]]), ("r2", "a", [])]
theorem rsL_g (k : Nat) : gOf (rsL k) = Md.longG ("a" : Str) "s" k := rfl
theorem as_lt : (["a", "s"] : List Str).Pairwise (fun a b => a.cps.toList < b.cps.toList) := by decide +kernel
theorem rsL_lefts (k : Nat) : LeftsIs (rsL k) ["a", "s"] := ⟨as_lt, fun n => by
  constructor
  · intro h
    rcases List.mem_cons.mp h with rfl | h
    · exact ⟨_, List.mem_cons_self, rfl⟩
    · rw [List.mem_singleton.mp h]
      exact ⟨_, List.mem_cons_of_mem _ List.mem_cons_self, rfl⟩
  · rintro ⟨r, hr, rfl⟩
    rcases List.mem_cons.mp hr with rfl | hr
    · exact List.mem_cons_self
    · rcases List.mem_cons.mp hr with rfl | hr
      · exact List.mem_cons_of_mem _ List.mem_cons_self
      · rw [List.mem_singleton.mp hr]; exact List.mem_cons_self⟩
theorem symsK_ok (k : Nat) : (symsK k).length ≤ 3 ∧ (∀ y ∈ symsK k, SyOk ["a", "s"] y) ∧ ∀ w, Md.Sy.lit w ∉ symsK k := by
  have hc : SyOk ["a", "s"] (.cls [120, 121]) := ⟨by decide, by decide, by decide⟩
  have ha : SyOk ["a", "s"] (.nt "a") := List.mem_cons_self
  have hs : SyOk ["a", "s"] (.nt "s") := List.mem_cons_of_mem _ List.mem_cons_self
  unfold symsK
  split
  · refine ⟨by decide, fun y hy => ?_, fun w hw => ?_⟩
    · simp only [List.mem_cons, List.not_mem_nil, or_false] at hy
      rcases hy with rfl | rfl <;> assumption
    · simp only [List.mem_cons, List.not_mem_nil, or_false, reduceCtorEq] at hw
  · split
    · refine ⟨by decide, fun y hy => ?_, fun w hw => ?_⟩
      · simp only [List.mem_cons, List.not_mem_nil, or_false] at hy
        rcases hy with rfl | rfl <;> assumption
      · simp only [List.mem_cons, List.not_mem_nil, or_false, reduceCtorEq] at hw
    · refine ⟨by decide, fun y hy => ?_, fun w hw => ?_⟩
      · simp only [List.mem_cons, List.not_mem_nil, or_false] at hy
        rcases hy with rfl | rfl <;> assumption
      · simp only [List.mem_cons, List.not_mem_nil, or_false, reduceCtorEq] at hw
theorem rsL_ok (k : Nat) : GOk ["a", "s"] (rsL k) := by
  have hc : SyOk ["a", "s"] (.cls [120, 121]) := ⟨by decide, by decide, by decide⟩
  obtain ⟨k1, k2, k3⟩ := symsK_ok k
  refine ⟨⟨by decide, (rsL_lefts k).nd, fun r hr => ?_, fun r hr => ?_, fun r hr w hw => ?_⟩, fun r hr => ?_⟩
  · obtain ⟨q, hq, rfl⟩ := List.mem_map.mp hr
    exact ((rsL_lefts k).2 _).mpr ⟨q, hq, rfl⟩
  · obtain ⟨q, hq, rfl⟩ := List.mem_map.mp hr
    unfold rsL at hq
    simp only [List.mem_cons, List.not_mem_nil, or_false] at hq
    rcases hq with rfl | rfl | rfl
    · exact k1
    · exact (by decide : 1 ≤ 3)
    · exact (by decide : 0 ≤ 3)
  · obtain ⟨q, hq, rfl⟩ := List.mem_map.mp hr
    unfold rsL at hq
    simp only [List.mem_cons, List.not_mem_nil, or_false] at hq
    rcases hq with rfl | rfl | rfl
    · exact absurd hw (k3 w)
    · simp at hw
    · simp at hw
  · unfold rsL at hr
    simp only [List.mem_cons, List.not_mem_nil, or_false] at hr
    rcases hr with rfl | rfl | rfl
    · exact k2
    · intro y hy
      simp only [List.mem_cons, List.not_mem_nil, or_false] at hy
      rw [hy]; exact hc
    · intro y hy
      exact absurd hy List.not_mem_nil
theorem long_m {k : Nat} {t : List Nat} {m : Md.Mv} (ht : ∀ c ∈ t, Md.isXY c ∨ c = 122) (h : MinD (rsL k) "a" t (some m)) : m = (t.count 122, t.filter fun c => c ≠ 122) := by
  have h2 := Md.long_min ht (P := fun w => Md.DerN (gOf (rsL k)) ("a" : Str) w) fun w => Md.long_all ("a" : Str) "s" k w
  exact Option.some.inj (Md.IsMin.uniq h h2)
def spLong : Sp := fun vs H Q _ => ∃ p d, vs = [.ref p] ∧ DrAt H p d ∧ ∀ H', Q (.bl true) H'
section
variable {P : Program} {w : World} {K : PySem.W.Frag} {mg : Str → Option Value} {base : Heap} {X : Addr}
theorem scLong : FnScope ["_law_draws_here", "_law_turn", "_law_rules", "_law_grammar_here", "_law_text_here", "_law_found", "_law_new", "_law_many"] ["_law_draws_here"] (defScope sLong) := ⟨rfl, rfl, rfl, by decide +kernel, rfl, by decide +kernel, by decide +kernel⟩
theorem ok_long {f fr ft fm fs fl fd' : Addr} {fd fdr fdt fdm fds fdl fdd : FuncData} (F : Fun K "_law_long" "_law_long" sLong f fd) (T : Bi mg) (D_draw : Df K mg "_law_draw" sDraw ["_law_draws_here", "_law_limit"] fr fdr) (G_draw : FnOk P w K mg base CX0 1 fr fdr ["_law_draws_here", "_law_limit"] spDraw)
    (D_text : Df K mg "_law_text" sText ["_law_draws_here", "_law_most"] ft fdt) (G_text : FnOk P w K mg base CX0 2 ft fdt ["_law_draws_here", "_law_most"] spText)
    (D_mend : Df K mg "mend" sMend ["grammar", "text"] fm fdm) (G_mend : FnOk P w K mg base (L2.CX P w) 9 fm fdm ["grammar", "text"] (spMend X))
    (D_same1 : Df K mg "_law_same" sSame ["_law_actual", "_law_expected"] fs fds) (G_same1 : FnOk P w K mg base CX0 1 fs fds ["_law_actual", "_law_expected"] (spSame 1))
    (D_leads : Df K mg "_law_leads" sLeads ["_law_text_here", "_law_edits", "_law_new"] fl fdl) (G_leads : FnOk P w K mg base CX0 1 fl fdl ["_law_text_here", "_law_edits", "_law_new"] spLeads)
    (D_distance : Df K mg "distance" sDistance ["grammar", "text"] fd' fdd) (G_distance : FnOk P w K mg base (L2.CX P w) 10 fd' fdd ["grammar", "text"] (spDistance X)) :
    FnOk P w K mg base CX0 11 f fd ["_law_draws_here"] spLong := by
  refine F.ok scLong (fun vs H Q E h => ?_) (fun cdv A outer s H vs Q E hr h => ?_)
  · obtain ⟨p, d, rfl, _⟩ := h
    rfl
  · obtain ⟨p, d, rfl, dr, k⟩ := h
    refine ⟨_, (pss_cons (ps_set (i := 1) scLong.nd rfl (Or.inl rfl) (pe_call G_draw (hr.mono (by decide)) (by rfl) D_draw.g D_draw.F.kp D_draw.b .nil pass0 (pa_cons (pv 0) (pa_cons pe_int pa_nil))))
 (pss_cons (ps_set (i := 2) scLong.nd rfl (Or.inl rfl) (pe_lst (pa_cons (pe_tup (pa_cons pe_str (pa_cons pe_str (pa_cons pe_str (pa_cons (pe_ix ix_list (pe_lst (pa_cons (pe_lst (pa_cons (pe_tup (pa_cons pe_str (pa_cons pe_str pa_nil))) (pa_cons (pe_tup (pa_cons pe_str (pa_cons pe_str pa_nil))) pa_nil))) (pa_cons (pe_lst (pa_cons (pe_tup (pa_cons pe_str (pa_cons pe_str pa_nil))) (pa_cons (pe_tup (pa_cons pe_str (pa_cons pe_str pa_nil))) pa_nil))) (pa_cons (pe_lst (pa_cons (pe_tup (pa_cons pe_str (pa_cons pe_str pa_nil))) (pa_cons (pe_tup (pa_cons pe_str (pa_cons pe_str pa_nil))) pa_nil))) pa_nil)))) (pv 1) (fun _ _ => rfl)) pa_nil))))) pa_nil)))
 (pss_cons (ps_set (i := 2) scLong.nd rfl (Or.inl rfl) (pe_op op_cat (pv 2) (pe_lst (pa_cons (pe_tup (pa_cons pe_str (pa_cons pe_str (pa_cons pe_str (pa_cons (pe_lst (pa_cons (pe_tup (pa_cons pe_str (pa_cons pe_str pa_nil))) pa_nil)) pa_nil))))) (pa_cons (pe_tup (pa_cons pe_str (pa_cons pe_str (pa_cons pe_str (pa_cons (pe_lst pa_nil) pa_nil))))) pa_nil)))))
 (pss_tup1 (i := 3) scLong.nd rfl (Or.inl rfl) (pa_cons pe_str (pa_cons (pv 2) pa_nil))
 (psst_cons (PST.of (ps_set (i := 4) scLong.nd rfl (Or.inl rfl) (pe_call G_text (hr.mono (by decide)) (by rfl) D_text.g D_text.F.kp D_text.b .nil pass0 (pa_cons (pv 0) (pa_cons (pe_ix ix_list (pe_lst (pa_cons pe_int (pa_cons pe_int pa_nil))) (pe_callTy call_int1 (by rfl) T.int (by decide +kernel) (pa_cons (pe_cmpR op_eq (pe_call G_draw (hr.mono (by decide)) (by rfl) D_draw.g D_draw.F.kp D_draw.b .nil pass0 (pa_cons (pv 0) (pa_cons pe_int pa_nil))) pe_int (nomark _)) pa_nil)) (fun _ _ => rfl)) pa_nil)))))
 (psst_cons (PST.of (ps_set (i := 5) scLong.nd rfl (Or.inl rfl) (pe_call G_mend (hr.mono (by decide)) (by rfl) D_mend.g D_mend.F.kp D_mend.b .nil passL (pa_cons (pv 3) (pa_cons (pv 4) pa_nil)))))
 (psst_cons (pst_set (i := 6) scLong.nd rfl (Or.inl rfl) (CwR.pet_replC (pv 4)))
 (PSsT.of (pss_cons (ps_set (i := 7) scLong.nd rfl (Or.inl rfl) (pe_bm PySem.F.plainAttrs_str PySem.F.slot_str_count PySem.F.type_str_count mt_count (pv 4) (pa_cons pe_str pa_nil)))
 (pss_cons (ps_if (PW.pt (pw_or (pt_not (pt_val (pe_call G_same1 (hr.mono (by decide)) (by rfl) D_same1.g D_same1.F.kp D_same1.b .nil pass0 (pa_cons (pe_ix ix_tup (pv 5) pe_int (fun _ _ => rfl)) (pa_cons (pv 6) pa_nil))))) (pw_or (pt_cmpR op_ne (pe_callB call_len_seq (by rfl) T.len PySem.boot_len (pa_cons (pe_ix ix_tup (pv 5) pe_int (fun _ _ => rfl)) pa_nil)) (pv 7) (nomark _)) (pw_or1 (pt_not (pt_val (pe_call G_leads (hr.mono (by decide)) (by rfl) D_leads.g D_leads.F.kp D_leads.b .nil pass0 (pa_cons (pv 4) (pa_cons (pe_ix ix_tup (pv 5) pe_int (fun _ _ => rfl)) (pa_cons (pv 6) pa_nil))))))))))
    (pss_one (ps_ret pe_bl))
    pss_nil)
 (pss_one (ps_ret (pe_call G_same1 (hr.mono (by decide)) (by rfl) D_same1.g D_same1.F.kp D_same1.b .nil pass0 (pa_cons (pe_call G_distance (hr.mono (by decide)) (by rfl) D_distance.g D_distance.F.kp D_distance.b .nil passL (pa_cons (pv 3) (pa_cons (pv 4) pa_nil))) (pa_cons (pv 7) pa_nil))))))))))))))) , ?_⟩
    refine ⟨_, rfl, p, d, 3, rfl, dr, by decide, by decide, fun G0 m kp0 dr0 hm => ?_⟩
    obtain ⟨xp, P0⟩ := dr0.ls
    refine ⟨sz2, fun t1 h1 => ?_⟩
    obtain ⟨s1, e1⟩ := newF (.tup [.str "nt", .str "a"]) h1
    have n1 : t1 ≠ p := fun z => by rw [z, P0] at h1; cases h1
    have P1 := s1 _ _ P0
    generalize upd G0 t1 (.tup [.str "nt", .str "a"]) = G1 at s1 e1 P1 ⊢
    refine ⟨sz2, fun t2 h2 => ?_⟩
    obtain ⟨s2, e2⟩ := newF (.tup [.str "class", .str "xy"]) h2
    have n2 : t2 ≠ p := fun z => by rw [z, P1] at h2; cases h2
    have P2 := s2 _ _ P1
    generalize upd G1 t2 (.tup [.str "class", .str "xy"]) = G2 at s2 e2 P2 ⊢
    refine ⟨sz2, fun t3 h3 => ?_⟩
    obtain ⟨s3, e3⟩ := newF (.lst [.ref t1, .ref t2]) h3
    have n3 : t3 ≠ p := fun z => by rw [z, P2] at h3; cases h3
    have P3 := s3 _ _ P2
    generalize upd G2 t3 (.lst [.ref t1, .ref t2]) = G3 at s3 e3 P3 ⊢
    refine ⟨sz2, fun t4 h4 => ?_⟩
    obtain ⟨s4, e4⟩ := newF (.tup [.str "class", .str "xy"]) h4
    have n4 : t4 ≠ p := fun z => by rw [z, P3] at h4; cases h4
    have P4 := s4 _ _ P3
    generalize upd G3 t4 (.tup [.str "class", .str "xy"]) = G4 at s4 e4 P4 ⊢
    refine ⟨sz2, fun t5 h5 => ?_⟩
    obtain ⟨s5, e5⟩ := newF (.tup [.str "nt", .str "a"]) h5
    have n5 : t5 ≠ p := fun z => by rw [z, P4] at h5; cases h5
    have P5 := s5 _ _ P4
    generalize upd G4 t5 (.tup [.str "nt", .str "a"]) = G5 at s5 e5 P5 ⊢
    refine ⟨sz2, fun t6 h6 => ?_⟩
    obtain ⟨s6, e6⟩ := newF (.lst [.ref t4, .ref t5]) h6
    have n6 : t6 ≠ p := fun z => by rw [z, P5] at h6; cases h6
    have P6 := s6 _ _ P5
    generalize upd G5 t6 (.lst [.ref t4, .ref t5]) = G6 at s6 e6 P6 ⊢
    refine ⟨sz2, fun t7 h7 => ?_⟩
    obtain ⟨s7, e7⟩ := newF (.tup [.str "nt", .str "s"]) h7
    have n7 : t7 ≠ p := fun z => by rw [z, P6] at h7; cases h7
    have P7 := s7 _ _ P6
    generalize upd G6 t7 (.tup [.str "nt", .str "s"]) = G7 at s7 e7 P7 ⊢
    refine ⟨sz2, fun t8 h8 => ?_⟩
    obtain ⟨s8, e8⟩ := newF (.tup [.str "nt", .str "a"]) h8
    have n8 : t8 ≠ p := fun z => by rw [z, P7] at h8; cases h8
    have P8 := s8 _ _ P7
    generalize upd G7 t8 (.tup [.str "nt", .str "a"]) = G8 at s8 e8 P8 ⊢
    refine ⟨sz2, fun t9 h9 => ?_⟩
    obtain ⟨s9, e9⟩ := newF (.lst [.ref t7, .ref t8]) h9
    have n9 : t9 ≠ p := fun z => by rw [z, P8] at h9; cases h9
    have P9 := s9 _ _ P8
    generalize upd G8 t9 (.lst [.ref t7, .ref t8]) = G9 at s9 e9 P9 ⊢
    refine ⟨sz3, fun t10 h10 => ?_⟩
    obtain ⟨s10, e10⟩ := newF (.lst [.ref t3, .ref t6, .ref t9]) h10
    have n10 : t10 ≠ p := fun z => by rw [z, P9] at h10; cases h10
    have P10 := s10 _ _ P9
    generalize upd G9 t10 (.lst [.ref t3, .ref t6, .ref t9]) = G10 at s10 e10 P10 ⊢
    obtain ⟨lk, hlk⟩ := pick (xs := [t3, t6, t9]) hm rfl
    have hlk2 : ([.ref t3, .ref t6, .ref t9] : List V)[m]? = some (.ref lk) := by
      have : ([t3, t6, t9].map V.ref)[m]? = some (.ref lk) := by rw [List.getElem?_map, hlk]; rfl
      exact this
    refine ⟨_, rfl, t10, _, _, _, rfl, rfl, SqL.of e10, atI_nat hlk2, sz4, fun t11 h11 => ?_⟩
    obtain ⟨s11, e11⟩ := newF (.tup [.str "rule", .str "a", .str "r0", .ref lk]) h11
    have n11 : t11 ≠ p := fun z => by rw [z, P10] at h11; cases h11
    have P11 := s11 _ _ P10
    generalize upd G10 t11 (.tup [.str "rule", .str "a", .str "r0", .ref lk]) = G11 at s11 e11 P11 ⊢
    refine ⟨sz1, fun t12 h12 => ?_⟩
    obtain ⟨s12, e12⟩ := newF (.lst [.ref t11]) h12
    have n12 : t12 ≠ p := fun z => by rw [z, P11] at h12; cases h12
    have P12 := s12 _ _ P11
    generalize upd G11 t12 (.lst [.ref t11]) = G12 at s12 e12 P12 ⊢
    refine ⟨_, rfl, sz2, fun t13 h13 => ?_⟩
    obtain ⟨s13, e13⟩ := newF (.tup [.str "class", .str "xy"]) h13
    have n13 : t13 ≠ p := fun z => by rw [z, P12] at h13; cases h13
    have P13 := s13 _ _ P12
    generalize upd G12 t13 (.tup [.str "class", .str "xy"]) = G13 at s13 e13 P13 ⊢
    refine ⟨sz1, fun t14 h14 => ?_⟩
    obtain ⟨s14, e14⟩ := newF (.lst [.ref t13]) h14
    have n14 : t14 ≠ p := fun z => by rw [z, P13] at h14; cases h14
    have P14 := s14 _ _ P13
    generalize upd G13 t14 (.lst [.ref t13]) = G14 at s14 e14 P14 ⊢
    refine ⟨sz4, fun t15 h15 => ?_⟩
    obtain ⟨s15, e15⟩ := newF (.tup [.str "rule", .str "s", .str "r1", .ref t14]) h15
    have n15 : t15 ≠ p := fun z => by rw [z, P14] at h15; cases h15
    have P15 := s15 _ _ P14
    generalize upd G14 t15 (.tup [.str "rule", .str "s", .str "r1", .ref t14]) = G15 at s15 e15 P15 ⊢
    refine ⟨sz0, fun t16 h16 => ?_⟩
    obtain ⟨s16, e16⟩ := newF (.lst []) h16
    have n16 : t16 ≠ p := fun z => by rw [z, P15] at h16; cases h16
    have P16 := s16 _ _ P15
    generalize upd G15 t16 (.lst []) = G16 at s16 e16 P16 ⊢
    refine ⟨sz4, fun t17 h17 => ?_⟩
    obtain ⟨s17, e17⟩ := newF (.tup [.str "rule", .str "a", .str "r2", .ref t16]) h17
    have n17 : t17 ≠ p := fun z => by rw [z, P16] at h17; cases h17
    have P17 := s17 _ _ P16
    generalize upd G16 t17 (.tup [.str "rule", .str "a", .str "r2", .ref t16]) = G17 at s17 e17 P17 ⊢
    refine ⟨sz2, fun t18 h18 => ?_⟩
    obtain ⟨s18, e18⟩ := newF (.lst [.ref t15, .ref t17]) h18
    have n18 : t18 ≠ p := fun z => by rw [z, P17] at h18; cases h18
    have P18 := s18 _ _ P17
    generalize upd G17 t18 (.lst [.ref t15, .ref t17]) = G18 at s18 e18 P18 ⊢
    have tr18 : L2.Same G18 G18 := L2.Same.refl _
    have tr17 : L2.Same G17 G18 := s18.trans tr18
    have tr16 : L2.Same G16 G18 := s17.trans tr17
    have tr15 : L2.Same G15 G18 := s16.trans tr16
    have tr14 : L2.Same G14 G18 := s15.trans tr15
    have tr13 : L2.Same G13 G18 := s14.trans tr14
    have tr12 : L2.Same G12 G18 := s13.trans tr13
    have tr11 : L2.Same G11 G18 := s12.trans tr12
    have tr10 : L2.Same G10 G18 := s11.trans tr11
    have tr9 : L2.Same G9 G18 := s10.trans tr10
    have tr8 : L2.Same G8 G18 := s9.trans tr9
    have tr7 : L2.Same G7 G18 := s8.trans tr8
    have tr6 : L2.Same G6 G18 := s7.trans tr7
    have tr5 : L2.Same G5 G18 := s6.trans tr6
    have tr4 : L2.Same G4 G18 := s5.trans tr5
    have tr3 : L2.Same G3 G18 := s4.trans tr4
    have tr2 : L2.Same G2 G18 := s3.trans tr3
    have tr1 : L2.Same G1 G18 := s2.trans tr2
    refine ⟨t12, t18, _, _, rfl, rfl, tr12 _ _ e12, e18, sz 3 (by decide), fun t19 h19 => ?_⟩
    obtain ⟨s19, e19⟩ := newF (.lst ([.ref t11] ++ [.ref t15, .ref t17])) h19
    have n19 : t19 ≠ p := fun z => by rw [z, P18] at h19; cases h19
    have P19 := s19 _ _ P18
    generalize upd G18 t19 (.lst ([.ref t11] ++ [.ref t15, .ref t17])) = G19 at s19 e19 P19 ⊢
    refine ⟨_, rfl, sz3, fun t20 h20 => ?_⟩
    obtain ⟨s20, e20⟩ := newF (.tup [.str "grammar", .str "a", .ref t19]) h20
    have n20 : t20 ≠ p := fun z => by rw [z, P19] at h20; cases h20
    have P20 := s20 _ _ P19
    generalize upd G19 t20 (.tup [.str "grammar", .str "a", .ref t19]) = G20 at s20 e20 P20 ⊢
    have tr : L2.Same G18 G20 := s19.trans s20
    have hx : ∀ b o, G20 b = some o → b ≠ p → hid p G20 b = some o := fun b o e n => kp_hid p G20 b o e n
    have hy : ∀ {b o}, G18 b = some o → b ≠ p → hid p G20 b = some o := fun e n => hx _ _ (tr _ _ e) n
    have hsyms : SymsAt (hid p G20) lk (symsK m) := by
      have : m = 0 ∨ m = 1 ∨ m = 2 := by omega
      rcases this with rfl | rfl | rfl
      · obtain rfl : t3 = lk := Option.some.inj hlk
        refine ⟨[(t1, .nt "a"), (t2, .cls [120, 121])], rfl, hy (tr3 _ _ e3) n3, fun q hq => ?_⟩
        rcases List.mem_cons.mp hq with rfl | hq
        · exact hy (tr1 _ _ e1) n1
        · rw [List.mem_singleton.mp hq]; exact hy (tr2 _ _ e2) n2
      · obtain rfl : t6 = lk := Option.some.inj hlk
        refine ⟨[(t4, .cls [120, 121]), (t5, .nt "a")], rfl, hy (tr6 _ _ e6) n6, fun q hq => ?_⟩
        rcases List.mem_cons.mp hq with rfl | hq
        · exact hy (tr4 _ _ e4) n4
        · rw [List.mem_singleton.mp hq]; exact hy (tr5 _ _ e5) n5
      · obtain rfl : t9 = lk := Option.some.inj hlk
        refine ⟨[(t7, .nt "s"), (t8, .nt "a")], rfl, hy (tr9 _ _ e9) n9, fun q hq => ?_⟩
        rcases List.mem_cons.mp hq with rfl | hq
        · exact hy (tr7 _ _ e7) n7
        · rw [List.mem_singleton.mp hq]; exact hy (tr8 _ _ e8) n8
    have gr : GrAt (hid p G20) t20 "a" (rsL m) := by
      refine ⟨t19, hx _ _ e20 n20, [(t11, ("r0", "a", symsK m)), (t15, ("r1", "s", [.cls [120, 121]])), (t17, ("r2", "a", []))], rfl, hx _ _ (s20 _ _ e19) n19, fun q hq => ?_⟩
      rcases List.mem_cons.mp hq with rfl | hq
      · exact ⟨lk, hy (tr11 _ _ e11) n11, hsyms⟩
      · rcases List.mem_cons.mp hq with rfl | hq
        · refine ⟨t14, hy (tr15 _ _ e15) n15, [(t13, .cls [120, 121])], rfl, hy (tr14 _ _ e14) n14, fun q hq => ?_⟩
          rw [List.mem_singleton.mp hq]; exact hy (tr13 _ _ e13) n13
        · rw [List.mem_singleton.mp hq]
          exact ⟨t16, hy (tr17 _ _ e17) n17, [], rfl, hy (tr16 _ _ e16) n16, fun q hq => absurd hq List.not_mem_nil⟩
    have dr20 : DrAt G20 p d := dr0.same fun b o e => s20 _ _ (s19 _ _ (tr1 _ _ (s1 _ _ e)))
    refine ⟨_, rfl, sz2, fun t21 h21 => ?_⟩
    obtain ⟨s21, e21⟩ := newF (.lst [.int 12, .int 40]) h21
    have n21 : t21 ≠ p := fun z => by rw [z, P20] at h21; cases h21
    generalize upd G20 t21 (.lst [.int 12, .int 40]) = G21 at s21 e21 ⊢
    have dr21 := dr20.same s21
    refine ⟨_, rfl, p, d, 3, rfl, dr21, by decide, by decide, fun G22 m2 kp22 dr22 hm2 => ⟨rfl, .inr ⟨_, rfl, ?_⟩⟩⟩
    have e22 := kp22 _ _ e21 n21
    obtain ⟨nt, hnt, hn40⟩ : ∃ nt : Nat, ([.int 12, .int 40] : List V)[(if decide (V.int ((m2 : Nat) : Int) = V.int 0) = true then 1 else 0 : Nat)]? = some (.int (nt : Nat)) ∧ nt ≤ 40 := by
      split
      · exact ⟨40, rfl, by decide⟩
      · exact ⟨12, rfl, by decide⟩
    have ei : (if decide (V.int ((m2 : Nat) : Int) = V.int 0) = true then 1 else 0 : Int) = (((if decide (V.int ((m2 : Nat) : Int) = V.int 0) = true then 1 else 0 : Nat) : Nat) : Int) := by split <;> rfl
    rw [ei]
    refine ⟨t21, _, _, _, rfl, rfl, SqL.of e22, atI_nat hnt, p, d, nt, rfl, dr22, hn40, fun G23 t kp23 dr23 htl htc => ?_⟩
    have t40 : t.length ≤ 40 := by omega
    have kp2023 : Kp p G20 G23 := fun b o e n => kp23 _ _ (kp22 _ _ (s21 _ _ e) n) n
    have ak : MAsk G23 t20 t "a" (rsL m) ["a", "s"] := ⟨gr.nd (ND.of (hid_kp kp2023)), rsL_ok m, rsL_lefts m, List.mem_cons_self, (show 3 ≤ 30 by decide), t40⟩
    refine ⟨_, rfl, _, rfl, t20, t, "a", rsL m, ["a", "s"], rfl, ak, fun G24 pm qm Ed mv s24 hmin hpm e24 eds ld ll => ?_, fun hno => ?_⟩
    · obtain rfl := long_m htc hmin
      refine ⟨_, rfl, tx t, rfl, by rw [tx_len]; show _ + _ * 0 ≤ _; omega, ?_⟩
      rw [show Txt.replace (tx t) "z" "" = tx (t.filter fun c => c ≠ 122) from repl_z t]
      refine ⟨_, rfl, rfl, tx t, "z", rfl, rfl, ?_⟩
      rw [show Txt.count (tx t) "z" = ((t.count 122 : Nat) : Int) from count_z 122 t]
      have hfl : (t.filter fun c => c ≠ 122).length ≤ 40 := Nat.le_trans (List.length_filter_le _ _) t40
      have hct : t.count 122 ≤ 40 := Nat.le_trans (List.count_le_length) t40
      obtain ⟨LE, eE, hq24, hLE⟩ := eds
      have ll' : Ed.length = t.count 122 := ll
      have lE : (LE.map fun z => V.ref z.1).length = t.count 122 := by rw [List.length_map, ← ll', ← eE, List.length_map]
      refine ⟨_, rfl, pm, _, _, _, rfl, rfl, SqT.of e24, rfl, _, rfl, _, _, rfl, .str _, fun G25 s25 => ⟨_, rfl, iteF ?_⟩⟩
      refine ⟨_, rfl, pm, _, _, _, rfl, rfl, SqT.of (s25 _ _ e24), rfl, qm, _, rfl, .inl (SqL.of (s25 _ _ hq24)), _, rfl, rfl, _, rfl, ?_⟩
      rw [lE]
      refine ite2 (fun c => absurd c (by rw [decide_eq_true rfl]; decide)) (fun _ => ?_)
      refine ⟨_, rfl, _, rfl, pm, _, _, _, rfl, rfl, SqT.of (s25 _ _ e24), rfl, _, rfl, t, _, qm, Ed, rfl, ⟨LE, eE, s25 _ _ hq24, fun z hz => s25 _ _ (hLE z hz)⟩, ld, by omega, by omega, by show (t.filter _).length ≤ 1000; omega, fun G26 s26 => ⟨_, rfl, iteF ?_⟩⟩
      have ak2 : MAsk G26 t20 t "a" (rsL m) ["a", "s"] := ⟨ak.gr.nd (ND.of fun b o e => s26 _ _ (s25 _ _ (s24 _ _ e))), ak.ok, ak.lf, ak.sm, ak.few, ak.len⟩
      refine ⟨_, rfl, _, rfl, t20, t, "a", rsL m, ["a", "s"], rfl, ak2, fun G27 mv2 s27 hmin2 => ?_, fun hno => absurd hmin.1.1 (hno _)⟩
      obtain rfl := long_m htc hmin2
      exact ⟨_, rfl, _, _, rfl, .int _, fun G28 s28 => k _⟩
    · have := (Md.long_all ("a" : Str) "s" m []).mpr (fun c hc => absurd hc List.not_mem_nil)
      exact absurd this (hno [])
end
end Ms
end TextF3
section TextF4
set_option linter.all false
set_option maxRecDepth 100000
namespace Ms
open PySem PySem.Spec PyProof.Rows L2
/-- data that repr shows in at most B signs -/
structure Shw (d : PyData) (k B : Nat) : Prop where
  s : d.showable = true
  n : d.hasDict = false
  dp : d.depth ≤ k
  l : d.shown.length ≤ B
theorem Shw.mono {d : PyData} {k B k' B' : Nat} (h : Shw d k B) (h1 : k ≤ k') (h2 : B ≤ B') : Shw d k' B' := ⟨h.s, h.n, Nat.le_trans h.dp h1, Nat.le_trans h.l h2⟩
theorem shw_str {x : Str} (h : sOk x) : Shw (.str x) 0 202 := ⟨by rw [PyData.showable], by rw [PyData.hasDict], by rw [PyData.depth]; exact Nat.le_refl _, by
  simp only [PyData.shown]
  have := StrLaws.reprText_len x h.2
  have := h.1
  omega⟩
theorem all_shw {k B : Nat} : ∀ {ds : List PyData}, (∀ d ∈ ds, Shw d k B) → PyData.showableAll ds = true ∧ PyData.hasDictAll ds = false ∧ PyData.depthAll ds ≤ k ∧ (PyData.shownAll ds).length = ds.length ∧ ∀ t ∈ PyData.shownAll ds, t.length ≤ B
  | [], _ => ⟨by rw [PyData.showableAll], by rw [PyData.hasDictAll], by rw [PyData.depthAll]; exact Nat.zero_le _, by rw [PyData.shownAll]; rfl, fun t h => by rw [PyData.shownAll] at h; exact absurd h List.not_mem_nil⟩
  | d :: ds, h => by
    obtain ⟨a1, a2, a3, a4, a5⟩ := all_shw (ds := ds) fun e he => h e (List.mem_cons_of_mem _ he)
    have hd := h d List.mem_cons_self
    refine ⟨by rw [PyData.showableAll, hd.s, a1]; rfl, by rw [PyData.hasDictAll, hd.n, a2]; rfl, by rw [PyData.depthAll]; exact Nat.max_le.mpr ⟨hd.dp, a3⟩, by rw [PyData.shownAll, List.length_cons, a4, List.length_cons], fun t ht => ?_⟩
    rw [PyData.shownAll] at ht
    rcases List.mem_cons.mp ht with rfl | ht
    · exact hd.l
    · exact a5 t ht
theorem from_len {B : Nat} : ∀ (ts : List Str) (k : Nat) (acc : Str), (∀ t ∈ ts, t.length ≤ B) → (textFrom k acc ts).length ≤ acc.length + ts.length * (B + 2)
  | [], k, acc, _ => by show acc.length ≤ _; omega
  | t :: ts, k, acc, h => by
    have ih := from_len ts (k + 1) (acc ++ (if k > 0 then ", " else "" : String) ++ t) fun u hu => h u (List.mem_cons_of_mem _ hu)
    have h1 := h t List.mem_cons_self
    have h2 : (acc ++ ((if k > 0 then ", " else "" : String) : Str) ++ t).length ≤ acc.length + 2 + t.length := by
      rw [strLen_append, strLen_append]
      have : ((if k > 0 then ", " else "" : String) : Str).length ≤ 2 := by split <;> decide
      omega
    show (textFrom (k + 1) _ ts).length ≤ _
    rw [List.length_cons, Nat.succ_mul]
    omega
theorem join_len {B : Nat} : ∀ (ts : List Str), (∀ t ∈ ts, t.length ≤ B) → (Str.join ", " ts).length ≤ ts.length * (B + 2)
  | [], _ => Nat.zero_le _
  | [x], h => by
    have := h x List.mem_cons_self
    show x.length ≤ 1 * (B + 2)
    omega
  | x :: y :: r, h => by
    have ih := join_len (y :: r) fun u hu => h u (List.mem_cons_of_mem _ hu)
    have h1 := h x List.mem_cons_self
    show (x ++ ", " ++ Str.join ", " (y :: r)).length ≤ _
    rw [strLen_append, strLen_append, List.length_cons, Nat.succ_mul]
    have : ((", " : Str)).length = 2 := by decide
    omega
theorem shw_list {k B n : Nat} {ds : List PyData} (h : ∀ d ∈ ds, Shw d k B) (hn : ds.length ≤ n) : Shw (.list ds) (k + 1) (3 + n * (B + 2)) := by
  obtain ⟨a1, a2, a3, a4, a5⟩ := all_shw h
  refine ⟨by rw [PyData.showable]; exact a1, by rw [PyData.hasDict]; exact a2, by rw [PyData.depth]; omega, ?_⟩
  simp only [PyData.shown]
  unfold listText
  have h1 := from_len (PyData.shownAll ds) 0 "[" a5
  have h2 : ds.length * (B + 2) ≤ n * (B + 2) := Nat.mul_le_mul_right _ hn
  rw [a4] at h1
  rw [strLen_append]
  have : (("[" : Str)).length = 1 := by decide
  have : (("]" : Str)).length = 1 := by decide
  omega
theorem shw_tup {k B n : Nat} {ds : List PyData} (h : ∀ d ∈ ds, Shw d k B) (hn : ds.length ≤ n) : Shw (.tuple ds) (k + 1) (3 + n * (B + 2)) := by
  obtain ⟨a1, a2, a3, a4, a5⟩ := all_shw h
  refine ⟨by rw [PyData.showable]; exact a1, by rw [PyData.hasDict]; exact a2, by rw [PyData.depth]; omega, ?_⟩
  simp only [PyData.shown]
  unfold tupleText
  have h1 := join_len (PyData.shownAll ds) a5
  have h2 : ds.length * (B + 2) ≤ n * (B + 2) := Nat.mul_le_mul_right _ hn
  rw [a4] at h1
  rw [strLen_append, strLen_append]
  have : (("(" : Str)).length = 1 := by decide
  have : ((if (PyData.shownAll ds).length == 1 then ",)" else ")" : String) : Str).length ≤ 2 := by split <;> decide
  omega
/-! ### a grammar as data -/
def syD (y : Md.Sy Str) : PyData := .tuple [.str (kindS y), .str (bodyS y)]
def ruD (r : Ru) : PyData := .tuple [.str "rule", .str r.2.1, .str r.1, .list (r.2.2.map syD)]
def grD (st : Str) (rs : List Ru) : PyData := .tuple [.str "grammar", .str st, .list (rs.map ruD)]
theorem dp_all {K : PySem.W.Frag} {H : Hp} {α : Type} {L : List α} {f : α → V} {g : α → PyData} (h : ∀ q ∈ L, Dp K H (f q) (g q)) : DpAll K H (L.map f) (L.map g) := by
  induction L with
  | nil => exact .nil
  | cons q L ih => exact .cons (h q List.mem_cons_self) (ih fun p hp => h p (List.mem_cons_of_mem _ hp))
theorem dp_syms {K : PySem.W.Frag} {H : Hp} {p : Addr} {ss : List (Md.Sy Str)} (h : SymsAt H p ss) : Dp K H (.ref p) (.list (ss.map syD)) := by
  obtain ⟨L, e, hp, hL⟩ := h
  subst e
  rw [List.map_map]
  exact .lst (SqL.of hp) (dp_all fun q hq => .tup (SqT.of (hL q hq)) (.cons (.str _) (.cons (.str _) .nil)))
theorem dp_gr {K : PySem.W.Frag} {H : Hp} {g : Addr} {st : Str} {rs : List Ru} (h : GrAt H g st rs) : Dp K H (.ref g) (grD st rs) := by
  obtain ⟨p, e, L, eL, hp, hL⟩ := h
  subst eL
  unfold grD
  rw [List.map_map]
  refine .tup (SqT.of e) (.cons (.str _) (.cons (.str _) (.cons (.lst (SqL.of hp) (dp_all fun q hq => ?_)) .nil)))
  obtain ⟨s, e2, hs⟩ := hL q hq
  exact .tup (SqT.of e2) (.cons (.str _) (.cons (.str _) (.cons (.str _) (.cons (dp_syms hs) .nil))))
theorem sab_ok : ∀ n ∈ SAB, sOk n := by decide +kernel
theorem DGr.sub {st : Str} {rs : List Ru} {ns : List Str} (h : DGr st rs ns) : ∀ n ∈ ns, n ∈ SAB := fun n hn => by
  obtain ⟨m, _, e⟩ := h.names
  rw [e] at hn
  exact List.mem_of_mem_take hn
theorem shw_sy {ns : List Str} (hs : ∀ n ∈ ns, n ∈ SAB) {y : Md.Sy Str} (h : DSy ns y) : Shw (syD y) 1 500 := by
  have key : ∀ a b : Str, sOk a → sOk b → Shw (.tuple [.str a, .str b]) 1 500 := fun a b ha hb => (shw_tup (k := 0) (B := 202) (n := 2) (ds := [.str a, .str b]) (fun d hd => by
    rcases List.mem_cons.mp hd with rfl | hd
    · exact shw_str ha
    · rw [List.mem_singleton.mp hd]; exact shw_str hb) (Nat.le_refl 2)).mono (Nat.le_refl _) (by decide)
  cases y with
  | lit w =>
    have h : w ∈ litW := h
    unfold litW at h
    simp only [List.mem_cons, List.not_mem_nil, or_false] at h
    rcases h with rfl | rfl | rfl | rfl <;> exact key _ _ (by show sOk "lit"; decide +kernel) (by show sOk (tx _); decide +kernel)
  | cls cs =>
    have h : cs = [120] ∨ cs = [121] ∨ cs = [120, 121] := h
    rcases h with rfl | rfl | rfl <;> exact key _ _ (by show sOk "class"; decide +kernel) (by show sOk (tx _); decide +kernel)
  | nt n => exact key _ _ (by show sOk "nt"; decide +kernel) (sab_ok n (hs n h))
theorem shw_gr {st : Str} {rs : List Ru} {ns : List Str} (h : DGr st rs ns) : Shw (grD st rs) 5 200000 := by
  have hr : ∀ r ∈ rs, Shw (ruD r) 3 7000 := fun r hr => by
    obtain ⟨h1, h2, h3, h4⟩ := h.rule r hr
    have hl : Shw (.list (r.2.2.map syD)) 2 1509 := shw_list (k := 1) (B := 500) (n := 3) (fun d hd => by
      obtain ⟨y, hy, rfl⟩ := List.mem_map.mp hd
      exact shw_sy h.sub (h3 y hy)) (by rw [List.length_map]; exact h2)
    refine (shw_tup (k := 2) (B := 1509) (n := 4) (ds := [.str "rule", .str r.2.1, .str r.1, .list (r.2.2.map syD)]) (fun d hd => ?_) (Nat.le_refl 4)).mono (Nat.le_refl _) (by decide)
    have up : ∀ {x : Str}, sOk x → Shw (.str x) 2 1509 := fun hx => (shw_str hx).mono (by decide) (by decide)
    rcases List.mem_cons.mp hd with rfl | hd
    · exact up (by decide +kernel)
    · rcases List.mem_cons.mp hd with rfl | hd
      · exact up (sab_ok _ (h.sub _ h1))
      · rcases List.mem_cons.mp hd with rfl | hd
        · exact up h4
        · rw [List.mem_singleton.mp hd]; exact hl
  have hl : Shw (.list (rs.map ruD)) 4 42015 := shw_list (k := 3) (B := 7000) (n := 6) (fun d hd => by
    obtain ⟨r, hrm, rfl⟩ := List.mem_map.mp hd
    exact hr r hrm) (by rw [List.length_map]; exact h.few)
  have h4 := shw_tup (k := 4) (B := 42015) (n := 3) (ds := [.str "grammar", .str st, .list (rs.map ruD)]) (fun d hd => ?_) (Nat.le_refl 3)
  · exact ⟨h4.s, h4.n, h4.dp, Nat.le_trans h4.l (by decide)⟩
  · have up : ∀ {x : Str}, sOk x → Shw (.str x) 4 42015 := fun hx => (shw_str hx).mono (by decide) (by decide)
    rcases List.mem_cons.mp hd with rfl | hd
    · exact up (by decide +kernel)
    · rcases List.mem_cons.mp hd with rfl | hd
      · exact up (sab_ok _ (h.sub _ h.start))
      · rw [List.mem_singleton.mp hd]; exact hl
end Ms
end TextF4
section TextF5
set_option linter.all false
set_option maxRecDepth 100000
namespace Ms
open PySem PySem.Spec PyProof.Rows L2
theorem nl_one : LeftsIs ([] : List Ru) [] := ⟨.nil, fun n => ⟨fun h => absurd h List.not_mem_nil, fun ⟨r, h, _⟩ => absurd h List.not_mem_nil⟩⟩
/-- the names in ascending order -/
theorem DGr.lefts {st : Str} {rs : List Ru} {ns : List Str} (h : DGr st rs ns) : ∃ nl, LeftsIs rs nl ∧ GOk nl rs ∧ st ∈ nl := by
  have key : ∀ nl : List Str, nl.Pairwise (fun a b => a.cps.toList < b.cps.toList) → nl.length ≤ 3 → (∀ n, n ∈ nl ↔ n ∈ ns) → ∃ nl, LeftsIs rs nl ∧ GOk nl rs ∧ st ∈ nl := fun nl hp hl hm => by
    have isl : IsLefts rs nl := fun n => by
      rw [hm n]
      exact ⟨fun hn => h.all n hn, fun ⟨r, hr, e⟩ => e ▸ (h.rule r hr).1⟩
    have lf : LeftsIs rs nl := ⟨hp, isl⟩
    refine ⟨nl, lf, ⟨⟨hl, lf.nd, fun r hr => ?_, fun r hr => ?_, fun r hr w hw => ?_⟩, fun r hr => h.syOk isl hr⟩, (hm st).mpr h.start⟩
    · obtain ⟨q, hq, rfl⟩ := List.mem_map.mp hr
      exact (isl _).mpr ⟨q, hq, rfl⟩
    · obtain ⟨q, hq, rfl⟩ := List.mem_map.mp hr
      exact (h.rule q hq).2.1
    · obtain ⟨q, hq, rfl⟩ := List.mem_map.mp hr
      exact lit2 ((h.rule q hq).2.2.1 _ hw)
  obtain ⟨m, hm, e⟩ := h.names
  have : m = 0 ∨ m = 1 ∨ m = 2 := by omega
  rcases this with rfl | rfl | rfl
  · exact key ["s"] (by decide +kernel) (by decide) fun n => by rw [e]; exact Iff.rfl
  · exact key ["a", "s"] (by decide +kernel) (by decide) fun n => by
      rw [e]
      show n ∈ (["a", "s"] : List Str) ↔ n ∈ (["s", "a"] : List Str)
      simp only [List.mem_cons, List.not_mem_nil, or_false]
      exact Or.comm
  · exact key ["a", "b", "s"] (by decide +kernel) (by decide) fun n => by
      rw [e]
      show n ∈ (["a", "b", "s"] : List Str) ↔ n ∈ (["s", "a", "b"] : List Str)
      simp only [List.mem_cons, List.not_mem_nil, or_false]
      constructor
      · rintro (z | z | z)
        · exact .inr (.inl z)
        · exact .inr (.inr z)
        · exact .inl z
      · rintro (z | z | z)
        · exact .inr (.inr z)
        · exact .inl z
        · exact .inr (.inl z)
theorem mvD_nl (m : Md.Mv) : NoList (mvD m) = true := by unfold mvD; simp [NoList]
section
variable {P : Program} {w : World} {K : PySem.W.Frag} {mg : Str → Option Value} {base : Heap} {X : Addr}
theorem scLaw : FnScope ["_law_script", "_law_draws_here", "_law_grammar_here", "_law_text_here", "_law_kept", "_law_told_here", "_law_words_here", "_law_rows", "_law_found", "_law_word"] ["_law_script"] (defScope sLaw) := ⟨rfl, rfl, rfl, by decide +kernel, rfl, by decide +kernel, by decide +kernel⟩
theorem law_top {f f1 f2 f3 f4 f5 f6 f7 f8 f9 f10 f11 fm fd0 ft : Addr} {fd e1 e2 e3 e4 e5 e6 e7 e8 e9 e10 e11 em ed et : FuncData} {s : Shared} {H : Hp} {a : Addr} {ns0 : List Int} (F : Fun K "law" "law" sLaw f fd) (T : Bi mg)
    (D_draws : Df K mg "_law_draws" sDraws ["_law_script"] f1 e1) (G_draws : FnOk P w K mg base CX0 1 f1 e1 ["_law_script"] (spDraws K))
    (D_draw : Df K mg "_law_draw" sDraw ["_law_draws_here", "_law_limit"] f2 e2) (G_draw : FnOk P w K mg base CX0 1 f2 e2 ["_law_draws_here", "_law_limit"] spDraw)
    (D_long : Df K mg "_law_long" sLong ["_law_draws_here"] f3 e3) (G_long : FnOk P w K mg base CX0 11 f3 e3 ["_law_draws_here"] spLong)
    (D_grammar : Df K mg "_law_grammar" sGrammar ["_law_draws_here"] f4 e4) (G_grammar : FnOk P w K mg base CX0 3 f4 e4 ["_law_draws_here"] spGrammar)
    (D_text : Df K mg "_law_text" sText ["_law_draws_here", "_law_most"] f5 e5) (G_text : FnOk P w K mg base CX0 2 f5 e5 ["_law_draws_here", "_law_most"] spText)
    (D_checked : Df K mg "_law_checked" sChecked ["_law_grammar_here"] f6 e6) (G_checked : FnOk P w K mg base CX0 9 f6 e6 ["_law_grammar_here"] spChecked)
    (D_fruit : Df K mg "_law_fruitful" sFruit ["_law_grammar_here"] f7 e7) (G_fruit : FnOk P w K mg base CX0 1 f7 e7 ["_law_grammar_here"] spFruit)
    (D_same3 : Df K mg "_law_same" sSame ["_law_actual", "_law_expected"] f8 e8) (G_same3 : FnOk P w K mg base CX0 3 f8 e8 ["_law_actual", "_law_expected"] (spSame 3))
    (D_leads : Df K mg "_law_leads" sLeads ["_law_text_here", "_law_edits", "_law_new"] f9 e9) (G_leads : FnOk P w K mg base CX0 1 f9 e9 ["_law_text_here", "_law_edits", "_law_new"] spLeads)
    (D_apart : Df K mg "_law_apart" sApart ["_law_first", "_law_second"] f10 e10) (G_apart : FnOk P w K mg base CX0 1 f10 e10 ["_law_first", "_law_second"] spApart)
    (D_words : Df K mg "_law_words" sWords ["_law_grammar_here", "_law_most"] f11 e11) (G_words : FnOk P w K mg base CX0 2 f11 e11 ["_law_grammar_here", "_law_most"] spWords)
    (D_mend : Df K mg "mend" sMend ["grammar", "text"] fm em) (D_distance : Df K mg "distance" sDistance ["grammar", "text"] fd0 ed)
    (D_told : Df K mg "_law_told" sTold ["_law_call", "_law_grammar_here", "_law_text_here"] ft et)
    (G_toldM : FnOk P w K mg base CX0 11 ft et ["_law_call", "_law_grammar_here", "_law_text_here"] (spTold fm (spMend X) X)) (G_toldD : FnOk P w K mg base CX0 11 ft et ["_law_call", "_law_grammar_here", "_law_text_here"] (spTold fd0 (spDistance X) X))
    (hr : Room 12 callerA) (e0 : Env0 P w K mg base callerA [] s H) (hb : BindsTo s fd ⟨[.ref a], []⟩ ((["_law_script"] : List Str).zip [Value.ref a])) (hS : SqL K H a (ns0.map V.int)) (hz : ns0.length ≤ 1000) :
    codeAny (model P w) callerA (.call (.ref f) ⟨[.ref a], []⟩) (CR CX0 [] P w H s (fun v _ => v = .bl true) E0) s := by
  refine enter_at (vs := [.ref a]) F scLaw rfl hr e0 hb (.cons rfl .nil) fun cdv hr => ?_
  refine ⟨_, (pss_cons (ps_set (i := 1) scLaw.nd rfl (Or.inl rfl) (pe_call G_draws (hr.mono (by decide)) (by rfl) D_draws.g D_draws.F.kp D_draws.b .nil pass0 (pa_cons (pv 0) pa_nil)))
    (pss_cons (ps_if (pt_cmpR op_eq (pe_call G_draw (hr.mono (by decide)) (by rfl) D_draw.g D_draw.F.kp D_draw.b .nil pass0 (pa_cons (pv 1) (pa_cons pe_int pa_nil))) pe_int (nomark _))
      (pss_one (ps_ret (pe_call G_long (hr.mono (by decide)) (by rfl) D_long.g D_long.F.kp D_long.b .nil pass0 (pa_cons (pv 1) pa_nil))))
      pss_nil)
    (pss_cons (ps_set (i := 2) scLaw.nd rfl (Or.inl rfl) (pe_call G_grammar (hr.mono (by decide)) (by rfl) D_grammar.g D_grammar.F.kp D_grammar.b .nil pass0 (pa_cons (pv 1) pa_nil)))
    (pss_cons (ps_set (i := 3) scLaw.nd rfl (Or.inr rfl) (pe_call G_text (hr.mono (by decide)) (by rfl) D_text.g D_text.F.kp D_text.b .nil pass0 (pa_cons (pv 1) (pa_cons pe_int pa_nil))))
    (pss_cons (ps_if (pt_not (pt_val (pe_call G_checked (hr.mono (by decide)) (by rfl) D_checked.g D_checked.F.kp D_checked.b .nil pass0 (pa_cons (pv 2) pa_nil))))
      (pss_one (ps_ret pe_bl))
      pss_nil)
    (pss_cons (ps_set (i := 4) scLaw.nd rfl (Or.inl rfl) (pe_callB (cr_repr rfl hr.units) (by rfl) T.repr (by decide +kernel) (pa_cons (pv 2) pa_nil)))
    (pss_cons (ps_if (pt_not (pt_val (pe_call G_fruit (hr.mono (by decide)) (by rfl) D_fruit.g D_fruit.F.kp D_fruit.b .nil pass0 (pa_cons (pv 2) pa_nil))))
      (pss_cons (ps_set (i := 5) scLaw.nd rfl (Or.inl rfl) (pe_lst (pa_cons (pe_call G_toldM (hr.mono (by decide)) (by rfl) D_told.g D_told.F.kp D_told.b .nil pass0 (pa_cons (pe_glob (v := .ref fm) (by rfl) D_mend.g rfl) (pa_cons (pv 2) (pa_cons (pv 3) pa_nil)))) (pa_cons (pe_call G_toldD (hr.mono (by decide)) (by rfl) D_told.g D_told.F.kp D_told.b .nil pass0 (pa_cons (pe_glob (v := .ref fd0) (by rfl) D_distance.g rfl) (pa_cons (pv 2) (pa_cons (pv 3) pa_nil)))) pa_nil))))
      (pss_one (ps_ret (pe_and (pe_call G_same3 (hr.mono (by decide)) (by rfl) D_same3.g D_same3.F.kp D_same3.b .nil pass0 (pa_cons (pv 5) (pa_cons (pe_lst (pa_cons (pe_tup (pa_cons pe_str pa_nil)) (pa_cons (pe_tup (pa_cons pe_str pa_nil)) pa_nil))) pa_nil))) (pe_one (pe_cmpR op_eq (pe_callB (cr_repr rfl hr.units) (by rfl) T.repr (by decide +kernel) (pa_cons (pv 2) pa_nil)) (pv 4) (nomark _)))))))
      pss_nil)
    (pss_cons (ps_set (i := 6) scLaw.nd rfl (Or.inl rfl) (pe_dget (hu_of hr) (pe_call G_words (hr.mono (by decide)) (by rfl) D_words.g D_words.F.kp D_words.b .nil pass0 (pa_cons (pv 2) (pa_cons pe_int pa_nil))) (pe_ix ix_tup (pv 2) pe_int (fun _ _ => rfl)) (fun _ _ => rfl)))
    (pss_cons (ps_set (i := 7) scLaw.nd rfl (Or.inl rfl) (pe_callB (cr_sortG mvD hr.units) (by rfl) T.sorted (by decide +kernel) (pa_cons (pe_lock (pe_lc (own := [("_law_word", 9)]) (g := gName 9) (tt := tYes) rfl scLaw.nd (pi_keys (pv 6)) (blkOk_by (N := ["_law_script", "_law_draws_here", "_law_grammar_here", "_law_text_here", "_law_kept", "_law_told_here", "_law_words_here", "_law_rows", "_law_found", "_law_word"]) (sc := defScope sLaw) (by decide +kernel)) (fun _ _ _ _ _ => pg_name (i := 9) scLaw.nd rfl (Or.inl rfl)) (fun _ _ _ _ _ => pts_nil) (fun _ _ _ _ _ => (pe_tup (pa_cons (pe_call G_apart (hr.mono (by decide)) (by rfl) D_apart.g D_apart.F.kp D_apart.b .nil pass0 (pa_cons (pv 3) (pa_cons (pv 9) pa_nil))) (pa_cons (pe_callB call_len_str (by rfl) T.len PySem.boot_len (pa_cons (pv 9) pa_nil)) (pa_cons (pv 9) pa_nil))))))) pa_nil)))
    (pss_cons (ps_if (PW.pt (pw_or (pt_cmpR op_eq (pe_callB call_len_seq (by rfl) T.len PySem.boot_len (pa_cons (pv 7) pa_nil)) pe_int (nomark _)) (pw_or1 (pt_cmpR op_gt (pe_op op_add (pe_ix ix_tup (pe_ix ix_list (pv 7) pe_int (fun _ _ => rfl)) pe_int (fun _ _ => rfl)) (pe_callB call_len_str (by rfl) T.len PySem.boot_len (pa_cons (pv 3) pa_nil))) pe_int (nomark _)))))
      (pss_one (ps_ret pe_bl))
      pss_nil)
    (pss_cons (ps_set (i := 8) scLaw.nd rfl (Or.inl rfl) (pe_call G_toldM (hr.mono (by decide)) (by rfl) D_told.g D_told.F.kp D_told.b .nil pass0 (pa_cons (pe_glob (v := .ref fm) (by rfl) D_mend.g rfl) (pa_cons (pv 2) (pa_cons (pv 3) pa_nil)))))
    (pss_cons (ps_if (PW.pt (pw_or (pt_not (pt_val (pe_callB call_isi (by rfl) T.isinstance (by decide +kernel) (pa_cons (pv 8) (pa_cons (pe_bltn (v := .ty "tuple") (by rfl) T.tuple (by decide +kernel) rfl) pa_nil))))) (pw_or (pt_cmpR op_ne (pe_callB call_len_seq (by rfl) T.len PySem.boot_len (pa_cons (pv 8) pa_nil)) pe_int (nomark _)) (pw_or (pt_not (pt_val (pe_callB call_isi (by rfl) T.isinstance (by decide +kernel) (pa_cons (pe_ix ix_tup (pv 8) pe_int (fun _ _ => rfl)) (pa_cons (pe_bltn (v := .ty "list") (by rfl) T.list (by decide +kernel) rfl) pa_nil))))) (pw_or1 (pt_not (pt_val (pe_call G_same3 (hr.mono (by decide)) (by rfl) D_same3.g D_same3.F.kp D_same3.b .nil pass0 (pa_cons (pe_ix ix_tup (pv 8) pe_int (fun _ _ => rfl)) (pa_cons (pe_ix ix_tup (pe_ix ix_list (pv 7) pe_int (fun _ _ => rfl)) pe_int (fun _ _ => rfl)) pa_nil))))))))))
      (pss_one (ps_ret pe_bl))
      pss_nil)
    (pss_cons (ps_if (PW.pt (pw_or (pt_cmpR op_ne (pe_callB call_len_seq (by rfl) T.len PySem.boot_len (pa_cons (pe_ix ix_tup (pv 8) pe_int (fun _ _ => rfl)) pa_nil)) (pe_ix ix_tup (pe_ix ix_list (pv 7) pe_int (fun _ _ => rfl)) pe_int (fun _ _ => rfl)) (nomark _)) (pw_or1 (pt_not (pt_val (pe_call G_leads (hr.mono (by decide)) (by rfl) D_leads.g D_leads.F.kp D_leads.b .nil pass0 (pa_cons (pv 3) (pa_cons (pe_ix ix_tup (pv 8) pe_int (fun _ _ => rfl)) (pa_cons (pe_ix ix_tup (pv 8) pe_int (fun _ _ => rfl)) pa_nil)))))))))
      (pss_one (ps_ret pe_bl))
      pss_nil)
    (pss_one (ps_ret (pe_and (pe_call G_same3 (hr.mono (by decide)) (by rfl) D_same3.g D_same3.F.kp D_same3.b .nil pass0 (pa_cons (pe_call G_toldD (hr.mono (by decide)) (by rfl) D_told.g D_told.F.kp D_told.b .nil pass0 (pa_cons (pe_glob (v := .ref fd0) (by rfl) D_distance.g rfl) (pa_cons (pv 2) (pa_cons (pv 3) pa_nil)))) (pa_cons (pe_ix ix_tup (pe_ix ix_list (pv 7) pe_int (fun _ _ => rfl)) pe_int (fun _ _ => rfl)) pa_nil))) (pe_one (pe_cmpR op_eq (pe_callB (cr_repr rfl hr.units) (by rfl) T.repr (by decide +kernel) (pa_cons (pv 2) pa_nil)) (pv 4) (nomark _))))))))))))))))))), ?_⟩
  refine ⟨_, rfl, a, ns0, rfl, hS, hz, fun H1 p d s1 hp dr1 => ?_⟩
  refine ⟨_, rfl, p, d, 9, rfl, dr1, by decide, by decide, fun H2 k2 kp2 dr2 hk2 => ⟨rfl, _, rfl, ?_⟩⟩
  refine ite2 (fun _ => ⟨_, rfl, p, d, rfl, dr2, fun H3 => rfl⟩) (fun _ => ?_)
  refine ⟨_, rfl, p, d, rfl, dr2, fun H3 g st rs ns kp3 dr3 gr3 dg => ?_⟩
  refine ⟨_, rfl, p, d, 4, rfl, dr3, by decide, fun H4 t kp4 dr4 htl htc => ?_⟩
  have gr4 : GrAt H4 g st rs := gr3.nd (ND.of (hid_kp kp4))
  refine ⟨_, rfl, g, st, rs, ns, rfl, gr4, dg, fun H5 b5 s5 => ⟨_, rfl, ?_⟩⟩
  have gr5 : GrAt H5 g st rs := gr4.nd (ND.of s5)
  obtain ⟨nl, lf, gok, hst⟩ := dg.lefts
  have t40 : t.length ≤ 40 := by omega
  cases b5 with
  | false => exact iteT rfl
  | true =>
    refine iteF ?_
    have shw := shw_gr dg
    have rp : ∀ {H' : Hp} {Q' : VK}, GrAt H' g st rs → Q' (.str (grD st rs).shown) H' → rRepr K [.ref g] H' Q' := fun {H' Q'} gr q => ⟨g, _, rfl, dp_gr gr, shw.s, shw.n, Nat.le_trans shw.dp (by decide), Nat.le_trans shw.l (sz _ (by decide)), q⟩
    refine ⟨_, rfl, g, grD st rs, rfl, dp_gr gr5, shw.s, shw.n, Nat.le_trans shw.dp (by decide), Nat.le_trans shw.l (sz _ (by decide)), ?_⟩
    refine ⟨_, rfl, g, st, rs, ns, rfl, gr5, dg, fun H6 b6 s6 hno => ⟨_, rfl, ?_⟩⟩
    have gr6 : GrAt H6 g st rs := gr5.nd (ND.of s6)
    have ask : ∀ {H' : Hp}, L2.Same H6 H' → MAsk H' g t st rs nl := fun s => ⟨gr6.nd (ND.of s), gok, lf, hst, by have := dg.few; omega, t40⟩
    have fin : ∀ {H' : Hp} {Q' : VK}, GrAt H' g st rs → Q' (.bl true) H' → rRepr K [.ref g] H' fun x H1 => rEq x (.str (grD st rs).shown) H1 Q' := fun {H' Q'} gr q => rp gr ⟨rfl, by rw [decide_eq_true rfl]; exact q⟩
    cases b6 with
    | false =>
      have hno := hno rfl
      refine iteT ?_
      refine ⟨_, rfl, _, rfl, .ref g, .str (tx t), rfl, fun E' hE => ⟨g, t, st, rs, nl, rfl, ask (L2.Same.refl _), fun H7 _ _ _ m _ hm _ _ _ _ _ => absurd hm.1.1 (hno _), fun _ H7 s7 => hE _ _ fun q1 hq1 => ?_⟩⟩
      have s7' : L2.Same H6 (upd H7 q1 (.tup [.str "refused"])) := sm_new s7 hq1
      have e7 : upd H7 q1 (.tup [.str "refused"]) q1 = some (.tup [.str "refused"]) := upd_same
      generalize upd H7 q1 (.tup [.str "refused"]) = H8 at s7' e7 ⊢
      refine ⟨_, rfl, _, rfl, .ref g, .str (tx t), rfl, fun E' hE => ⟨g, t, st, rs, nl, rfl, ask s7', fun H9 m _ hm => absurd hm.1.1 (hno _), fun _ H9 s9 => hE _ _ fun q2 hq2 => ?_⟩⟩
      have s10 : L2.Same H8 (upd H9 q2 (.tup [.str "refused"])) := sm_new s9 hq2
      have e10 : upd H9 q2 (.tup [.str "refused"]) q2 = some (.tup [.str "refused"]) := upd_same
      generalize upd H9 q2 (.tup [.str "refused"]) = H10 at s10 e10 ⊢
      refine ⟨sz2, fun lt hlt => ?_⟩
      obtain ⟨s11, e11⟩ := newF (.lst [.ref q1, .ref q2]) hlt
      generalize upd H10 lt (.lst [.ref q1, .ref q2]) = H11 at s11 e11 ⊢
      refine ⟨_, rfl, sz1, fun r1 hr1 => ?_⟩
      obtain ⟨s12, e12⟩ := newF (.tup [.str "refused"]) hr1
      generalize upd H11 r1 (.tup [.str "refused"]) = H12 at s12 e12 ⊢
      refine ⟨sz1, fun r2 hr2 => ?_⟩
      obtain ⟨s13, e13⟩ := newF (.tup [.str "refused"]) hr2
      generalize upd H12 r2 (.tup [.str "refused"]) = H13 at s13 e13 ⊢
      refine ⟨sz2, fun lr hlr => ?_⟩
      obtain ⟨s14, e14⟩ := newF (.lst [.ref r1, .ref r2]) hlr
      generalize upd H13 lr (.lst [.ref r1, .ref r2]) = H14 at s14 e14 ⊢
      have one : ∀ {u v : Addr}, H14 u = some (.tup [.str "refused"]) → H14 v = some (.tup [.str "refused"]) → SameD H14 2 (.ref u) (.ref v) := fun hu hv => .seq true hu hv rfl (by decide) fun i x y hx hy => by
        rw [hx] at hy
        cases hy
        cases i with
        | zero => cases hx; exact .str _
        | succ i => cases hx
      have q1' := s14 _ _ (s13 _ _ (s12 _ _ (s11 _ _ (s10 _ _ e7))))
      have q2' := s14 _ _ (s13 _ _ (s12 _ _ (s11 _ _ e10)))
      have r1' := s14 _ _ (s13 _ _ e12)
      have r2' := s14 _ _ e13
      refine ⟨_, _, rfl, .seq false (s14 _ _ (s13 _ _ (s12 _ _ e11))) e14 rfl (by show 2 ≤ 1000; decide) fun i x y hx hy => ?_, fun H15 s15 => ⟨_, rfl, iteT ⟨_, rfl, ?_⟩⟩⟩
      · match i, hx, hy with
        | 0, hx, hy => cases hx; cases hy; exact one q1' r1'
        | 1, hx, hy => cases hx; cases hy; exact one q2' r2'
        | i + 2, hx, _ => cases hx
      · have gr15 : GrAt H15 g st rs := gr6.nd (ND.of fun b o e => s15 _ _ (s14 _ _ (s13 _ _ (s12 _ _ (s11 _ _ (s10 _ _ (s7' _ _ e)))))))
        refine ⟨g, grD st rs, rfl, dp_gr gr15, shw.s, shw.n, Nat.le_trans shw.dp (by decide), Nat.le_trans shw.l (sz _ (by decide)), ?_⟩
        exact ⟨_, rfl, rfl, congrArg V.bl (decide_eq_true rfl)⟩
    | true =>
      refine iteF ?_
      refine ⟨_, rfl, g, st, rs, ns, rfl, gr6, dg, fun H7 d7 nl7 cell W s7 hd7 wa wg wf isl => ?_⟩
      have gr7 : GrAt H7 g st rs := gr6.nd (ND.of s7)
      have hst7 : st ∈ nl7 := (isl st).mpr ((lf.2 st).mp hst)
      obtain ⟨pg, eg, _⟩ := id gr7
      have hd7' := wa.1
      refine ⟨_, rfl, g, _, _, _, rfl, rfl, SqT.of eg, rfl, ?_⟩
      refine ⟨d7, V.ref (cell st), rfl, .inl ⟨_, .inr st, .inl hd7', rfl, (val_name (f := fun n => V.ref (cell n)) hst7).symm⟩, ?_⟩
      have hc7 := wa.2 st hst7
      refine ⟨cell st, _, hc7, trivial, fun od => ⟨_, rfl, cell st, od, rfl, .inl ⟨_, upd_same, fun D hD => ?_⟩⟩⟩
      generalize hcc : cell st = c at hc7 hD ⊢
      have lenW : (W st).length ≤ 63 := wg.few dg.xy hst7
      have hDn : H7 D = none := upd_none hD
      have nDc : D ≠ c := ne_new hD
      let mw : List Nat → Md.Mv := fun w => (Md.dist t w, w)
      have h7L : ∀ b o, H7 b = some o → b ≠ c → upd (upd H7 c (.frz od (.dK ((W st).map fun w => ((.inr (tx w) : Key), V.bl true))))) D (.lst []) b = some o := fun b o e z => by
        rw [upd_ne (ne_of_none e hDn), upd_ne z]; exact e
      have wk : Walk (Itk c od ((W st).map fun w => ((.inr (tx w) : Key), V.bl true))) ((W st).map fun w => V.str (tx w)).length (fun H => H c = some (.frz od (.dK ((W st).map fun w => ((.inr (tx w) : Key), V.bl true))))) (YAt ((W st).map fun w => V.str (tx w))) := by
        have hl : ((W st).map fun w => V.str (tx w)).length = ((W st).map fun w => ((.inr (tx w) : Key), V.bl true)).length := by rw [List.length_map, List.length_map]
        rw [hl]
        refine Walk.mono walk_keys (fun _ h => h) fun i H x H' hi _ ⟨e, k, v, h1, h2⟩ => ⟨e, ?_⟩
        obtain ⟨n, hn, e3⟩ := get_map h1
        injection e3 with e3 _
        rw [List.getElem?_map, hn, h2, e3]; rfl
      refine lc_it wk (g := gName 9) (vs := [9]) (D := D) (H1 := upd H7 c (.frz od (.dK ((W st).map fun w => ((.inr (tx w) : Key), V.bl true))))) (fun i H' => ∃ PS : List (Addr × Md.Mv), PS.map (·.2) = ((W st).take i).map mw ∧ H' D = some (.lst (PS.map fun q => V.ref q.1)) ∧ H' c = some (.frz od (.dK ((W st).map fun w => ((.inr (tx w) : Key), V.bl true)))) ∧
        (∀ b o, H7 b = some o → b ≠ c → H' b = some o) ∧ ∀ q ∈ PS, H' q.1 = some (.tup (mvV q.2))) ?_ ?_ ?_ ?_
      · exact ⟨[], rfl, upd_same, by rw [upd_ne nDc.symm, upd_same], h7L, fun q h => absurd h List.not_mem_nil⟩
      · rintro i H' _ ⟨PS, _, _, h3, _⟩
        exact h3
      · rintro i x Hb Ha hi ⟨PS, h1, h2, h3, h4, h5⟩ ⟨rfl, hx⟩
        obtain ⟨w1, hw1, rfl⟩ := get_map hx
        refine ⟨rfl, tyesI ?_⟩
        have hw5 := (wg.so st hst7 w1 (List.mem_of_getElem? hw1)).2
        refine ⟨_, rfl, _, rfl, tx t, tx w1, rfl, by rw [tx_len]; omega, by rw [tx_len]; omega, fun H9 s9 => ⟨_, rfl, tx w1, rfl, sz _ (by rw [tx_len]; omega), _, rfl, sz3, fun q hq => ?_⟩⟩
        have e9 := s9 _ _ h2
        have qD : q ≠ D := fun z => by rw [z, e9] at hq; cases hq
        have nq : upd H9 q (.tup [.int ((Md.dist t w1 : Nat) : Int), .int ((tx w1).length : Nat), .str (tx w1)]) D = some (.lst (PS.map fun q => V.ref q.1)) := by rw [upd_ne qD.symm]; exact e9
        have lenP : PS.length ≤ i := by
          have := congrArg List.length h1
          rw [List.length_map, List.length_map, List.length_take] at this
          omega
        rw [List.length_map] at hi
        have old : ∀ b o, Ha b = some o → b ≠ D → ∀ acc, upd (upd H9 q (.tup [.int ((Md.dist t w1 : Nat) : Int), .int ((tx w1).length : Nat), .str (tx w1)])) D (.lst acc) b = some o := fun b o e z acc => by
          have e' := s9 _ _ e
          rw [upd_ne z, upd_ne (ne_of_none e' hq)]; exact e'
        refine ⟨_, nq, szlt _ (by rw [List.length_map]; omega), PS ++ [(q, mw w1)], ?_, ?_, ?_, ?_, ?_⟩
        · rw [List.map_append, h1, List.take_add_one, hw1, List.map_append]; rfl
        · rw [upd_same, List.map_append]; rfl
        · exact old _ _ h3 nDc.symm _
        · intro b o e z
          exact old _ _ (h4 b o e z) (ne_of_none e hDn) _
        · intro r hr
          rcases List.mem_append.mp hr with hr | hr
          · exact old _ _ (h5 r hr) (ne_of (h5 r hr) h2 (fun z => by cases z)) _
          · rw [List.mem_singleton.mp hr]
            show upd (upd H9 q _) D _ q = _
            rw [upd_ne qD, upd_same]
            rw [tx_len]; rfl
      · rintro H8 ⟨PS, h1, h2, h3, h4, h5⟩
        rw [List.length_map, List.take_length] at h1
        refine ⟨h3, ?_⟩
        have s8 : L2.Same H7 (upd H8 c (.dK ((W st).map fun w => ((.inr (tx w) : Key), V.bl true)))) := fun b o e => by
          by_cases z : b = c
          · subst z
            rw [upd_same, ← hc7]; exact e
          · rw [upd_ne z]; exact h4 b o e z
        have hD8 : upd H8 c (.dK ((W st).map fun w => ((.inr (tx w) : Key), V.bl true))) D = some (.lst (PS.map fun q => V.ref q.1)) := by rw [upd_ne nDc]; exact h2
        have h58 : ∀ q ∈ PS, upd H8 c (.dK ((W st).map fun w => ((.inr (tx w) : Key), V.bl true))) q.1 = some (.tup (mvV q.2)) := fun q hq => by
          rw [upd_ne (ne_of (h5 q hq) h3 (fun z => by cases z))]; exact h5 q hq
        generalize upd H8 c (.dK ((W st).map fun w => ((.inr (tx w) : Key), V.bl true))) = H9 at s8 hD8 h58 ⊢
        have lenP : PS.length ≤ 63 := by
          have := congrArg List.length h1
          rw [List.length_map, List.length_map] at this
          omega
        refine ⟨D, PS.map fun q => (V.ref q.1, q.2), rfl, SqL.of (by rw [hD8, List.map_map]; rfl), fun q hq => ?_, fun q hq => ⟨mvD_nl _, by show 1 ≤ 20; decide⟩, fun d1 hd1 d2 hd2 => ?_, .inl fun d1 hd1 => ?_, by rw [List.length_map]; omega, fun L' pL hperm hpw hpL => ?_⟩
        · obtain ⟨r, hr, rfl⟩ := List.mem_map.mp hq
          exact mvD_dp ⟨r.1, rfl, h58 r hr⟩
        · obtain ⟨q1, _, rfl⟩ := List.mem_map.mp hd1
          obtain ⟨q2, _, rfl⟩ := List.mem_map.mp hd2
          exact mvD_alike _ _
        · obtain ⟨q1, _, rfl⟩ := List.mem_map.mp hd1
          exact ⟨_, _, rfl⟩
        have s10 : L2.Same H9 (upd H9 pL (.lst (L'.map (·.1)))) := sm_upd (L2.Same.refl H9) hpL
        have hp10 : upd H9 pL (.lst (L'.map (·.1))) pL = some (.lst (L'.map (·.1))) := upd_same
        have hL10 : ∀ q ∈ L', ∃ r : Addr, q.1 = V.ref r ∧ upd H9 pL (.lst (L'.map (·.1))) r = some (.tup (mvV q.2)) := fun q hq => by
          obtain ⟨r, hr, rfl⟩ := List.mem_map.mp (hperm.mem_iff.mp hq)
          exact ⟨r.1, rfl, s10 _ _ (h58 r hr)⟩
        have inW : ∀ m : Md.Mv, (∃ q ∈ L', q.2 = m) ↔ ∃ w ∈ W st, mw w = m := fun m => by
          constructor
          · rintro ⟨q, hq, rfl⟩
            obtain ⟨r, hr, rfl⟩ := List.mem_map.mp (hperm.mem_iff.mp hq)
            have : r.2 ∈ (W st).map mw := h1 ▸ List.mem_map.mpr ⟨r, hr, rfl⟩
            exact List.mem_map.mp this
          · rintro ⟨w, hw, rfl⟩
            have : mw w ∈ PS.map (·.2) := h1 ▸ List.mem_map.mpr ⟨w, hw, rfl⟩
            obtain ⟨r, hr, e⟩ := List.mem_map.mp this
            exact ⟨(V.ref r.1, r.2), hperm.mem_iff.mpr (List.mem_map.mpr ⟨r, hr, rfl⟩), e⟩
        have lenL : L'.length ≤ 63 := by rw [hperm.length_eq, List.length_map]; exact lenP
        generalize upd H9 pL (.lst (L'.map (·.1))) = H10 at s10 hp10 hL10 ⊢
        have s610 : L2.Same H6 H10 := (s7.trans s8).trans s10
        refine ⟨_, rfl, pL, _, rfl, .inl (SqL.of hp10), rfl, _, rfl, ?_⟩
        rw [List.length_map]
        refine ite2 (fun _ => rfl) (fun hne => ?_)
        obtain ⟨q0, Lr, rfl⟩ : ∃ q0 Lr, L' = q0 :: Lr := by
          cases L' with
          | nil => exact absurd (decide_eq_true rfl) hne
          | cons a b => exact ⟨a, b, rfl⟩
        obtain ⟨v0, fm0⟩ := q0
        obtain ⟨r0, e0', hr0⟩ := hL10 _ List.mem_cons_self
        have e0' : v0 = V.ref r0 := e0'
        subst e0'
        have hr0 : H10 r0 = some (.tup (mvV fm0)) := hr0
        refine ⟨_, rfl, pL, _, _, _, rfl, rfl, SqL.of hp10, (show atI (((V.ref r0, fm0) :: Lr).map (·.1)) ((0 : Nat) : Int) = some (V.ref r0) from atI_nat rfl), r0, _, _, _, rfl, rfl, SqT.of hr0, rfl, _, rfl, tx t, rfl, sz _ (by rw [tx_len]; omega), _, _, rfl, rfl, _, _, rfl, rfl, _, rfl, ?_⟩
        refine ite2 (fun _ => rfl) (fun hle => ?_)
        have hle5 : fm0.1 + t.length ≤ 5 := by
          rw [tx_len] at hle
          have : ¬ (5 : Int) < (fm0.1 : Int) + (t.length : Int) := fun z => hle (decide_eq_true z)
          omega
        have memf : fm0.2 ∈ W st ∧ fm0.1 = Md.dist t fm0.2 := by
          obtain ⟨w, hw, e⟩ := (inW fm0).mp ⟨_, List.mem_cons_self, rfl⟩
          rw [← e]; exact ⟨hw, rfl⟩
        have derf : Md.DerN (gOf rs) st fm0.2 := (wg.so st hst7 _ memf.1).1
        have lef : ∀ w, w ∈ W st → Md.le fm0 (Md.dist t w, w) := fun w hw => by
          obtain ⟨q, hq, e⟩ := (inW (mw w)).mpr ⟨w, hw, rfl⟩
          show ¬ Md.lt (mw w) fm0
          rcases List.mem_cons.mp hq with rfl | hq
          · rw [← e]; exact Md.le_refl _
          · have h1 := (List.pairwise_cons.mp hpw).1 q hq
            rw [dataLt_mv] at h1
            rw [← e]
            exact of_decide_eq_false h1
        have uniq : ∀ {m : Md.Mv}, MinD rs st t (some m) → m = fm0 := fun hm => Option.some.inj (Md.short_min (N := 5) hm (L := fun w => w ∈ W st) (fun w hw => (wg.so st hst7 w hw).1) (fun w hd hl => Md.derN_full wf hd hl) memf.1 memf.2 lef hle5)
        refine ⟨_, rfl, _, rfl, .ref g, .str (tx t), rfl, fun E' hE => ⟨g, t, st, rs, nl, rfl, ask s610, fun H11 pm qm Ed mv s11 hmin hpm e11 eds ld ll => ?_, fun hno => absurd derf (hno _)⟩⟩
        obtain rfl := uniq hmin
        obtain ⟨LE, eE, hq11, hLE⟩ := eds
        have lE : (LE.map fun z => V.ref z.1).length = mv.1 := by rw [List.length_map, ← ll, ← eE, List.length_map]
        refine ⟨_, rfl, _, _, _, _, true, rfl, .ty _, TyX.base (.tup e11), kit_ty (by decide +kernel), _, rfl, ?_⟩
        refine iteF ?_
        refine ⟨_, rfl, pm, _, rfl, .inr (SqT.of e11), rfl, _, rfl, ?_⟩
        refine iteF ?_
        refine ⟨_, rfl, pm, _, _, _, rfl, rfl, SqT.of e11, rfl, _, _, _, _, true, rfl, .ty _, TyX.base (.lst hq11), kit_ty (by decide +kernel), _, rfl, ?_⟩
        refine iteF ?_
        have hp11 := s11 _ _ hp10
        have hr11 := s11 _ _ hr0
        refine ⟨_, rfl, pm, _, _, _, rfl, rfl, SqT.of e11, rfl, _, rfl, pL, _, _, _, rfl, rfl, SqL.of hp11, (show atI (((V.ref r0, mv) :: Lr).map (·.1)) ((0 : Nat) : Int) = some (V.ref r0) from atI_nat rfl), r0, _, _, _, rfl, rfl, SqT.of hr11, rfl, _, _, rfl, .str _, fun H12 s12 => ⟨_, rfl, ?_⟩⟩
        refine iteF ?_
        have e12 := s12 _ _ e11
        have hq12 := s12 _ _ hq11
        refine ⟨_, rfl, pm, _, _, _, rfl, rfl, SqT.of e12, rfl, qm, _, rfl, .inl (SqL.of hq12), _, rfl, pL, _, _, _, rfl, rfl, SqL.of (s12 _ _ hp11), (show atI (((V.ref r0, mv) :: Lr).map (·.1)) ((0 : Nat) : Int) = some (V.ref r0) from atI_nat rfl), r0, _, _, _, rfl, rfl, SqT.of (s12 _ _ hr11), rfl, rfl, _, rfl, ?_⟩
        rw [lE]
        refine ite2 (fun c => absurd c (by rw [decide_eq_true rfl]; decide)) (fun _ => ?_)
        have d1 := (Md.dist_len t mv.2).1
        have lm5 : mv.2.length ≤ 5 := (wg.so st hst7 _ memf.1).2
        have lEd : Ed.length ≤ 1000 := by rw [ll]; omega
        refine ⟨_, rfl, _, rfl, pm, _, _, _, rfl, rfl, SqT.of e12, rfl, _, rfl, pm, _, _, _, rfl, rfl, SqT.of e12, rfl, t, mv.2, qm, Ed, rfl, ⟨LE, eE, hq12, fun z hz => s12 _ _ (hLE z hz)⟩, ld, lEd, by omega, by omega, fun H13 s13 => ⟨_, rfl, ?_⟩⟩
        refine iteF ?_
        have s613 : L2.Same H6 H13 := ((s610.trans s11).trans s12).trans s13
        refine ⟨_, rfl, _, rfl, .ref g, .str (tx t), rfl, fun E' hE => ⟨g, t, st, rs, nl, rfl, ask s613, fun H14 m2 s14 hmin2 => ?_, fun hno => absurd derf (hno _)⟩⟩
        obtain rfl := uniq hmin2
        have hp14 := s14 _ _ (s13 _ _ (s12 _ _ hp11))
        have hr14 := s14 _ _ (s13 _ _ (s12 _ _ hr11))
        refine ⟨_, rfl, pL, _, _, _, rfl, rfl, SqL.of hp14, (show atI (((V.ref r0, m2) :: Lr).map (·.1)) ((0 : Nat) : Int) = some (V.ref r0) from atI_nat rfl), r0, _, _, _, rfl, rfl, SqT.of hr14, rfl, _, _, rfl, .int _, fun H15 s15 => ⟨_, rfl, ?_⟩⟩
        refine iteT ?_
        have gr15 : GrAt H15 g st rs := gr6.nd (ND.of fun b o e => s15 _ _ (s14 _ _ (s613 _ _ e)))
        refine ⟨_, rfl, g, grD st rs, rfl, dp_gr gr15, shw.s, shw.n, Nat.le_trans shw.dp (by decide), Nat.le_trans shw.l (sz _ (by decide)), ?_⟩
        exact ⟨_, rfl, rfl, congrArg V.bl (decide_eq_true rfl)⟩
end
end Ms
end TextF5
section TextG1
set_option linter.all false
set_option maxRecDepth 100000
set_option maxHeartbeats 2000000
/-! Sets of texts: adds, set comprehensions, sorted. -/
namespace Ms
open PySem PySem.Spec PyProof.Rows L2
open PySem.Froz (SD sObj addTx TxOk tailTx is_str add_x)
theorem addTx_ris {k : Int} {v : Value} {D : SD} (r : Ris D.2.2.place.toList) : Ris (addTx k v D).2.2.place.toList ∧ (addTx k v D).2.2.led = D.2.2.led := by
  obtain ⟨es, ep, t⟩ := D
  have h1 := layNew_ris t es k v r
  have h2 := layNew_led t es k v
  show Ris (tailTx ep (layNew t es k v).1 (if (layNew t es k v).2.1.plain = true then { (layNew t es k v).2.1 with plain := false } else (layNew t es k v).2.1) (layNew t es k v).2.2.1).2.2.place.toList ∧ (tailTx ep (layNew t es k v).1 (if (layNew t es k v).2.1.plain = true then { (layNew t es k v).2.1 with plain := false } else (layNew t es k v).2.1) (layNew t es k v).2.2.1).2.2.led = t.led
  generalize layNew t es k v = L at h1 h2 ⊢
  have h3 : Ris (if L.2.1.plain = true then { L.2.1 with plain := false } else L.2.1).place.toList ∧ (if L.2.1.plain = true then { L.2.1 with plain := false } else L.2.1).led = t.led := by
    split
    · exact ⟨h1, h2⟩
    · exact ⟨h1, h2⟩
  generalize (if L.2.1.plain = true then { L.2.1 with plain := false } else L.2.1) = T at h3 ⊢
  unfold tailTx
  split
  · exact ⟨relayAll_ris _ _ _, (relayAll_led _ _ _).trans h3.2⟩
  · exact h3
/-- a text that the set has -/
theorem add_in {P : Program} {w : World} {A : Around} {E : Value → Shared → Prop} {s : Shared} {a : Addr} {T : String} {D : SD} {l : List Str} {k : Str} {u : Tok} {Q : Bool → Shared → Prop} (ho : s.heap.get? a = some (sObj T D)) (F : TxOk P w D l) (hk : k ∈ l) (hb : l.length < scanBound)
    (h : Q false s) : wpAny (model P w) A (setAddHashed a (.str k u) (hashStr w k)) Q E s := by
  obtain ⟨es, ep, t⟩ := D
  have hd : (sObj T (es, ep, t)).data = .set es ep t := rfl
  have hf : t.fits es.size = true := F.fit
  have hel : ElemsOf (strKind P w) es.toList := F.el
  have hsz : es.size = l.length := F.sz
  have hb0 : es.size < scanBound := by omega
  have hkey : (strKind P w).is k (.str k u) = true := is_str k u
  obtain ⟨e, he, q⟩ := (F.mem k).mp hk
  unfold setAddHashed setAddHashedIn
  refine wpAny_holding (wpAny_bind (wpAny_setState_of ho hd hf ?_))
  dsimp only
  rw [byScan_of rfl hb0 hel]
  simp only [↓reduceIte]
  unfold setAddByScan
  refine wpAny_bind ?_
  refine wpAny_bind (wpAny_rule ?_)
  refine wpAny_bind (wpAny_setScan_of (knd := strKind P w) (k := k) hkey ho hd hf hel ?_)
  cases hr : List.findIdx? (fun e => (strKind P w).is k e.2) es.toList with
  | none => exact absurd (List.findIdx?_eq_none_iff.mp hr e he) (by rw [q]; decide)
  | some j => exact wpAny_pure (wpAny_pure h)
/-- the set of texts at a, which are l -/
def SetS (P : Program) (w : World) (a : Addr) (l : List Str) : HO := .ext fun h => ∃ D : SD, h.get? a = some (sObj "set" D) ∧ TxOk P w D l ∧ Ris D.2.2.place.toList ∧ (w.params.followText "set-order" = true ∨ D.2.2.led = true) ∧ l.Nodup ∧ l.length < scanBound
def addL (l : List Str) (k : Str) : List Str := if k ∈ l then l else k :: l
theorem setS_of {P : Program} {w : World} {H : Hp} {h : Heap} {a : Addr} {l : List Str} {D : SD} (ho : h.get? a = some (sObj "set" D)) (F : TxOk P w D l) (r : Ris D.2.2.place.toList) (z : w.params.followText "set-order" = true ∨ D.2.2.led = true) (n : l.Nodup) (b : l.length < scanBound) : ObjOk P w H h a (SetS P w a l) :=
  ⟨⟨D, ho, F, r, z, n, b⟩, ⟨_, ho⟩, fun h1 h2 ⟨D', o, x⟩ k => ⟨D', k _ o, x⟩⟩
theorem setS_new {P : Program} {w : World} {H : Hp} {h : Heap} : ObjOk P w H (h.push { cls := .type "set", dict := none, data := .set #[] 0 (.fresh 0 0 (!w.params.followText "set-order")) }) h.objs.size (SetS P w h.objs.size []) :=
  setS_of (D := (#[], 0, .fresh 0 0 (!w.params.followText "set-order"))) (Heap.get?_push_size _ rfl) (TxOk.nil (by rfl)) List.Pairwise.nil (by
    show _ ∨ (!w.params.followText "set-order") = true
    cases w.params.followText "set-order"
    · exact .inr rfl
    · exact .inl rfl) List.nodup_nil (by decide)
section
variable {X : Cx}
theorem addS_ok {pins : List (Addr × Obj)} {σ : L2.St} {H : Hp} {s : Shared} {E : Value → Shared → Prop} {D : Addr} {l : List Str} {y : Str} {u : Tok} {Q : Value → Shared → Prop} (I : Inv X pins σ H s) (hD : H D = some (SetS X.prog X.w D l)) (room : l.length + 1 < scanBound)
    (h : ∀ s', Inv X pins σ (upd H D (SetS X.prog X.w D (addL l y))) s' → Q .none s') : wpAny (model X.prog X.w) X.A (call (.builtin "set.add") [.ref D, .str y u]) Q E s := by
  obtain ⟨⟨T, ho, Ft, hr, hl, hn, hb⟩, _⟩ := (show ObjOk X.prog X.w H s.heap D (SetS X.prog X.w D l) from I.hok D _ hD)
  have hT : s.TypeIs (.ref D) "set" := ⟨_, ho, rfl⟩
  refine wpAny_call_entry F.slot_set_add hT F.entry_set_add ?_ (F.args_set_add_2 _ _)
  unfold Builtin.«set.add» Builtin.Frozenset.oneOther
  simp only [List.isEmpty_nil, bind_assoc]
  unfold Builtin.Frozenset.addrOf setAdd
  refine wpAny_bind (wpAny_pure ?_)
  try dsimp only
  refine wpAny_bind (wpAny_pure ?_)
  try dsimp only
  refine wpAny_bind ?_
  refine wpAny_holding ?_
  refine wpAny_bind ((strKind X.prog X.w).pyHash (is_str y u) ?_)
  have fin : ∀ T' : SD, TxOk X.prog X.w T' (addL l y) → Ris T'.2.2.place.toList → (X.w.params.followText "set-order" = true ∨ T'.2.2.led = true) → ∀ s' : Shared, s'.heap.get? D = some (sObj "set" T') → (∀ b o, b ≠ D → s.heap.get? b = some o → s'.heap.get? b = some o) → s' = { s with heap := s'.heap, toks := s.toks + 1 } → Q .none s' := fun T' F' r' z' s' ho' k e => by
    have nd : (addL l y).Nodup := by
      unfold addL
      split
      · exact hn
      · exact List.nodup_cons.mpr ⟨by assumption, hn⟩
    have lb : (addL l y).length < scanBound := by
      unfold addL
      split
      · exact hb
      · exact room
    rw [e]
    refine h _ (I.write (e := D) (t' := s.toks + 1) (by rw [hD]; trivial) (.inl rfl) (fun b o hb e => k b o hb e) ⟨_, ho'⟩ (setS_of ho' F' r' z' nd lb))
  by_cases c : y ∈ l
  · refine add_in (s := { s with toks := s.toks + 1 }) ho Ft c hb ?_
    show wpAny _ _ (ret Value.none) _ _ _
    refine wpAny_pure ⟨_, rfl, fin T ?_ hr hl _ ho (fun _ _ _ e => e) rfl⟩
    unfold addL; rw [if_pos c]; exact Ft
  · refine add_x (s := { s with toks := s.toks + 1 }) ho Ft c room ?_
    show wpAny _ _ (ret Value.none) _ _ _
    have h2 := addTx_ris (k := hashStr X.w y) (v := .str y u) hr
    refine wpAny_pure ⟨_, rfl, fin (addTx (hashStr X.w y) (.str y u) T) ?_ h2.1 (hl.imp id fun z => by rw [h2.2]; exact z) _ (PySem.Froz.get_upd _ ho rfl) (fun b o hb e => (Heap.get?_update_other _ _ (Ne.symm hb)).trans e) rfl⟩
    unfold addL; rw [if_neg c]; exact PySem.Froz.add_ok u Ft
end
/-! ### {elt for tg in iter}, elt a text -/
/-- n items come, Pv i is what is held behind i of them; D is the new set -/
def tSs (P : Program) (w : World) (wi : TI) (g : TG) (te : TE) (vs : List Nat) : TE := fun σ H Q => wi σ H fun J H1 => ∀ D, H1 D = none → ∃ (n : Nat) (Pv : Nat → Hp → Prop), Pv 0 (upd H1 D (SetS P w D [])) ∧ (∀ H2, Pv n H2 → J.stop n H2 ∧ Q (.ref D) H2) ∧
  ∀ i H2, i < n → Pv i H2 → J.go i H2 ∧ ∀ x H3, J.yld i H2 x H3 → g x (wipe σ vs) H3 fun σ4 H4 => wipe σ4 vs = wipe σ vs ∧ te σ4 H4 fun y H5 => ∃ (c : Str) (l : List Str), y = .str c ∧ H5 D = some (SetS P w D l) ∧ l.length + 1 < scanBound ∧ Pv (i + 1) (upd H5 D (SetS P w D (addL l c)))
section
variable {Y : Cx} {it D : Addr} {fp : List Addr} {tn : Nat → Heap → Prop} {J : It} {σ0 : L2.St} {vs : List Nat} {Pv : Nat → Hp → Prop} {elt tg : Expr} {g : TG} {te : TE}
/-- the block between two turns, i items gone -/
structure Bl (Y : Cx) (fp : List Addr) (tn : Nat → Heap → Prop) (σ0 : L2.St) (Pv : Nat → Hp → Prop) (i : Nat) (H : Hp) (s : Shared) : Prop where
  inv : Inv Y [] σ0 H s
  it : tn i s.heap
  off : ∀ b ∈ fp, H b = none
  now : Pv i H
/-- what the turns ask of the block's context -/
structure BlCx (Y : Cx) (fp : List Addr) (it : Addr) (J : It) (tn : Nat → Heap → Prop) (elt tg : Expr) (g : TG) (te : TE) : Prop where
  calm : Y.calm = true
  turn : Turn Y.prog Y.w Y.K tg J fp it tn
  tgt : PG Y tg g
  elt : PE Y elt te
  xe : Y.xe = fun _ _ => False
  fpo : ∀ (σ : L2.St) (H : Hp) (s : Shared), Inv Y [] σ H s → (∀ b ∈ fp, H b = none) → ∀ b ∈ fp, FpOk Y [] H b
/-- one turn -/
theorem ss_turn (B : BlCx Y fp it J tn elt tg g te) {i : Nat} {H : Hp} {s : Shared} (b : Bl Y fp tn (wipe σ0 vs) Pv i H s) (go : J.go i H)
    (step : ∀ x H3, J.yld i H x H3 → g x (wipe σ0 vs) H3 fun σ4 H4 => wipe σ4 vs = wipe σ0 vs ∧ te σ4 H4 fun y H5 => ∃ (c : Str) (l : List Str), y = .str c ∧ H5 D = some (SetS Y.prog Y.w D l) ∧ l.length + 1 < scanBound ∧ Pv (i + 1) (upd H5 D (SetS Y.prog Y.w D (addL l c)))) :
    wpAny (model Y.prog Y.w) Y.A (pyNext (.ref it)) (fun r s1 => ∃ v, r = some v ∧ wpAny (model Y.prog Y.w) Y.A (letOwnedTupleGo tg (.ref it) v) (fun _ s2 => wpAny (model Y.prog Y.w) Y.A (assign tg Y.env v) (fun _ s3 => wpAny (model Y.prog Y.w) Y.A (eval elt Y.env) (fun z s4 =>
      wpAny (model Y.prog Y.w) Y.A (call (.builtin "set.add") [.ref D, z]) (fun _ s5 => ∃ H', Bl Y fp tn (wipe σ0 vs) Pv (i + 1) H' s5) (fun _ _ => False) s4) (fun _ _ => False) s3) (fun _ _ => False) s2) (fun _ _ => False) s1) (fun _ _ => False) s := by
  have T := B.turn
  have pgr := B.tgt.run
  have per := B.elt.run
  rw [B.xe] at pgr per
  refine thnF (T.item Y rfl rfl rfl B.calm i [] s _ H _ b.inv (B.fpo _ _ _ b.inv b.off) b.it go) fun r s1 ⟨v, er, h1⟩ => ⟨v, er, thnF h1 fun _ s2 ⟨x, H3, I3, rx, yx, t3, off3⟩ => ?_⟩
  -- the iterator's own objects stay as they are until the turn's end
  have pin3 := I3.pinned (B.fpo _ _ _ I3 off3) (T.obj _ _ t3)
  refine thnF (pgr _ s2 _ H3 x v _ pin3 rx (step x H3 yx)) fun _ s3 ⟨σ4, H4, I4, w4, e4⟩ => thnF (per _ s3 σ4 H4 _ I4 e4) fun z s4 ⟨y, H5, I5, ry, c, l, ey, hD, few, now⟩ => ?_
  rw [ey] at ry
  obtain ⟨tk, rfl⟩ := ry
  refine addS_ok I5 hD few fun s5 I6 => ⟨upd H5 D (SetS Y.prog Y.w D (addL l c)), ?_⟩
  have left : ∀ a ∈ fp, ∀ o, s2.heap.get? a = some o → s5.heap.get? a = some o ∧ upd H5 D (SetS Y.prog Y.w D (addL l c)) a = none := fun a ha o e => by
    obtain ⟨z1, z2, _⟩ := I6.pin (a, o) (by simp [mem_pinsAt ha e])
    exact ⟨z1, z2⟩
  refine ⟨(I6.unpinned (pins := [])).weak (by rw [← w4, wipe_length]) fun j u e => ?_, T.keep _ _ _ t3 fun a ha o e => (left a ha o e).1, fun a ha => ?_, now⟩
  · rw [← w4] at e
    exact (wipe_some e).1
  · obtain ⟨o, e, _⟩ := T.obj _ _ t3 a ha
    exact (left a ha o e).2
/-- all turns -/
theorem ss_loop {iter : Expr} {scope : Scope} {pos : Pos} {R : Result → Shared → Prop} {n : Nat} {H : Hp} {s : Shared} (B : BlCx Y fp it J tn elt tg g te) (b : Bl Y fp tn (wipe σ0 vs) Pv 0 H s) (stop : ∀ H1, Pv n H1 → J.stop n H1)
    (step : ∀ i H2, i < n → Pv i H2 → J.go i H2 ∧ ∀ x H3, J.yld i H2 x H3 → g x (wipe σ0 vs) H3 fun σ4 H4 => wipe σ4 vs = wipe σ0 vs ∧ te σ4 H4 fun y H5 => ∃ (c : Str) (l : List Str), y = .str c ∧ H5 D = some (SetS Y.prog Y.w D l) ∧ l.length + 1 < scanBound ∧ Pv (i + 1) (upd H5 D (SetS Y.prog Y.w D (addL l c))))
    (fin : ∀ H1 s1, Inv Y [] (wipe σ0 vs) H1 s1 → Pv n H1 → R (.ok .next) s1) : codeAny (model Y.prog Y.w) Y.A (.compLoop (.SetComp elt [⟨tg, iter, [], 0⟩] scope pos) 0 (.ref it) (.ref D) Y.env) R s := by
  refine PpSet.compLoopS_any (fun m s1 => ∃ i H1, i + m = n ∧ Bl Y fp tn (wipe σ0 vs) Pv i H1 s1) ?_ n ⟨0, H, Nat.zero_add n, b⟩
  rintro (_ | m) s1 ⟨i, H1, e, b1⟩
  · obtain rfl : i = n := e
    refine thnF (B.turn.done Y rfl rfl rfl B.calm i [] s1 _ H1 _ b1.inv (B.fpo _ _ _ b1.inv b1.off) b1.it (stop H1 b1.now)) fun r s2 ⟨er, I2⟩ => ?_
    subst er
    exact fin H1 s2 I2 b1.now
  · obtain ⟨go, st⟩ := step i H1 (by omega) b1.now
    refine thnF (ss_turn B b1 go st) fun r s2 ⟨v, er, h⟩ => ?_
    subst er
    refine thnF h fun _ s3 h => thnF h fun _ s4 h => ?_
    rw [List.forIn_nil]
    exact wpAny_pure (if_pos rfl ▸ thnF h fun z s5 h => thnF h fun _ s6 ⟨H6, b6⟩ => ⟨m, Nat.lt_succ_self m, i + 1, H6, by omega, b6⟩)
end
section
variable {X : Cx} {elt tg iter : Expr} {scope : Scope} {own : List (PySem.Str × Nat)} {pos : Pos} {wi : TI} {g : TG} {te : TE}
theorem pe_ss (hc : X.calm = true) (hN : X.N.Nodup) (hi : PI X tg iter wi) (ok : BlkOk X.N X.env.scope scope own) (hg : ∀ s H C cl fp, PG (X.blk s H scope (compEnvC scope cl C X.env) fp) tg g) (he : ∀ s H C cl fp, PE (X.blk s H scope (compEnvC scope cl C X.env) fp) elt te)
    (hs : ∀ x, foldedSetIterable iter X.env x = pure x := by intro _; rfl) : PE X (.SetComp elt [⟨tg, iter, [], 0⟩] scope pos) (tSs X.prog X.w wi g te (own.map (·.2))) := by
  refine ⟨fun pins s σ H Q I h => ?_⟩
  rw [PpSet.eval_SetComp]
  have cells : ∀ y ∈ scope.names, y.2 = .free → ∃ c, X.env.cells.lookup y.1 = some c := fun y hy e => I.ok.has _ ((ok.free y hy e).imp id id)
  refine wpAny_comprehension_free (use := none) rfl hs (closure_ok cells) ok.kind (fun y hy e => (ok.uniq y hy).trans (by rw [e])) (thn (hi.run pins s σ H _ I h) fun xv s1 hx => thn hx fun itv s2 ⟨it, fp, tn, J, H2, e, I2, T, t2, f2, q⟩ => ?_)
  subst e
  refine PpSet.newSet_ok (newEnv_comp ?_)
  obtain ⟨n, Pv, p0, pn, step⟩ := q s2.heap.objs.size (I2.hok.fresh (Nat.le_refl _))
  have I3 := I2.laid (t' := s2.toks) (fun b o e => Heap.get?_push_of_some _ e) (Nat.le_refl _) (setS_new (P := X.prog) (w := X.w) (h := s2.heap))
  have low : ∀ b ∈ fp, b < s2.heap.objs.size := fun b hb => let ⟨_, e, _⟩ := T.obj _ _ t2 b hb; Heap.lt_size e
  have f3 : ∀ b ∈ fp, FpOk X pins (upd H2 s2.heap.objs.size (SetS X.prog X.w s2.heap.objs.size [])) b := fun b hb => ⟨(upd_ne (Nat.ne_of_lt (low b hb))).trans (f2 b hb).1, (f2 b hb).2⟩
  have old : ∀ b o, s2.heap.get? b = some o → (s2.heap.push { cls := .type "set", dict := none, data := .set #[] 0 (.fresh 0 0 (!X.w.params.followText "set-order")) }).get? b = some o := fun b o e => Heap.get?_push_of_some _ e
  have grown : ∀ b, b < s2.heap.objs.size → b < (s2.heap.push { cls := .type "set", dict := none, data := .set #[] 0 (.fresh 0 0 (!X.w.params.followText "set-order")) }).objs.size := fun b hb => by rw [Heap.size_push]; exact Nat.lt_succ_of_lt hb
  generalize s2.heap.objs.size = D at p0 pn step I3 f3 low grown ⊢
  generalize e3 : ({ s2 with heap := s2.heap.push { cls := .type "set", dict := none, data := .set #[] 0 (.fresh 0 0 (!X.w.params.followText "set-order")) } } : Shared) = s3 at I3 ⊢
  generalize upd H2 D (SetS X.prog X.w D []) = H3 at p0 I3 f3
  have old3 : ∀ b o, s2.heap.get? b = some o → s3.heap.get? b = some o := by rw [← e3]; exact old
  have I4 := block_start I3 ok hN fun b hb => ⟨f3 b hb, by rw [← e3]; exact grown b (low b hb)⟩
  have B : BlCx (X.blk s3 H3 scope (compEnvC scope (cellsFrom (s3.heap.objs.size + 1) scope.names (cloFrom X.env.cells scope.names [])) s3.heap.objs.size X.env) fp) fp it J tn elt tg g te :=
    { calm := hc, turn := T, tgt := hg .., elt := he .., xe := rfl
      fpo := fun σ' H' s' I' off b hb => ⟨off b hb, (I'.ok.exf b hb).1, I'.ok.exfs b hb, .inl hb, fun x c e => (I'.ok.exf b hb).2 x c e, fun p hp => by simp at hp⟩ }
  have t4 := T.keep _ _ _ t2 fun b _ o e => pushCells_keeps scope.names _ _ _ (Heap.get?_push_of_some { cls := .type "dict", data := .dict #[] } (old3 b o e))
  have loop := ss_loop (iter := iter) (scope := scope) (pos := pos) (D := D) (vs := own.map (·.2)) (R := compPost (model X.prog X.w) X.A X.xe none (EP X pins σ Q) (.ref D) s3.heap.objs.size) B ⟨I4, t4, fun b hb => (f3 b hb).1, p0⟩ (fun H1 p => (pn H1 p).1) step fun H1 s1 I1 p => by
    have back : Inv X pins σ H1 s1 := I3.call' (ch := fp) I1.os I1.base I1.hok I1.bare fun b hb => let ⟨_, a1, _, a3, a4, a5⟩ := f3 b hb; ⟨a3, a1, a4, a5⟩
    obtain ⟨m, ns, _⟩ := I1.loc
    obtain ⟨c0, c1, _, c3, c4, c5⟩ := I3.fpOk (H' := H1) (Nat.le_refl _) I1.free
    exact ⟨m, ns, fun h' sb => ⟨.ref D, H1, back.turned (t' := s1.toks) (fun b o hb e => (sb.2 b hb).trans e) c0 c1 c3 c4 c5, rfl, (pn H1 p).2⟩⟩
  exact PpSet.codeAny_compStart_set loop (T.self X.A 0 _ _ _ t4 loop)
end
end Ms
end TextG1
section TextG2
set_option linter.all false
set_option maxRecDepth 100000
namespace Ms
open PySem PySem.Spec PyProof.Rows L2
open PySem.Froz (SD sObj addTx TxOk tailTx is_str add_x)
open PySem.W (alike alikeAll dataLt dataLt_cons dataLt_int dataLt_str dataLt_tuple AllAlike Sortable EachIs dataLe)
section
variable {J : It} {n : Nat} {G : Hp → Prop} {Y : Nat → Hp → V → Hp → Prop} {g : TG} {tt : TT} {te : TE} {vs : List Nat} {σ : L2.St} {H1 : Hp} {D : Addr} {Qd : Hp → Prop} {P : Program} {w : World}
/-- a set comprehension over any walk -/
theorem ss_it (wk : Walk J n G Y) (Pv : Nat → Hp → Prop) (h0 : Pv 0 (upd H1 D (SetS P w D []))) (hG : ∀ i H, i ≤ n → Pv i H → G H)
    (hs : ∀ i x H H', i < n → Pv i H → Y i H x H' → g x (wipe σ vs) H' fun σ2 H2 => wipe σ2 vs = wipe σ vs ∧ te σ2 H2 fun y H4 => ∃ (c : Str) (l : List Str), y = .str c ∧ H4 D = some (SetS P w D l) ∧ l.length + 1 < scanBound ∧ Pv (i + 1) (upd H4 D (SetS P w D (addL l c)))) (hd : ∀ H, Pv n H → Qd H) :
    ∃ (n : Nat) (Pv : Nat → Hp → Prop), Pv 0 (upd H1 D (SetS P w D [])) ∧ (∀ H2, Pv n H2 → J.stop n H2 ∧ Qd H2) ∧
      ∀ i H2, i < n → Pv i H2 → J.go i H2 ∧ ∀ x H3, J.yld i H2 x H3 → g x (wipe σ vs) H3 fun σ4 H4 => wipe σ4 vs = wipe σ vs ∧ te σ4 H4 fun y H5 => ∃ (c : Str) (l : List Str), y = .str c ∧ H5 D = some (SetS P w D l) ∧ l.length + 1 < scanBound ∧ Pv (i + 1) (upd H5 D (SetS P w D (addL l c))) :=
  ⟨n, Pv, h0, fun H2 p => ⟨wk.stops H2 (hG n H2 (Nat.le_refl n) p), hd H2 p⟩, fun i H2 hi p => ⟨wk.goes i H2 hi (hG i H2 (Nat.le_of_lt hi) p), fun x H3 y => hs i x H2 H3 hi p (wk.yields i H2 x H3 hi (hG i H2 (Nat.le_of_lt hi) p) y)⟩⟩
end
section
variable {X : Cx}
/-- sorted of a set, by what it is known to hold -/
def rSortS {β : Type} (w : World) (K : PySem.W.Frag) (enc : β → PyData) : List V → Hp → VK → Prop := fun xs H Q => ∃ (a : Addr) (φ : Heap → Prop), xs = [.ref a] ∧ H a = some (.ext φ) ∧ ∀ h, φ h → ∃ (es : Array (Int × Value)) (ep : Nat) (t : SetTable), SetAt h a es ep t ∧ t.fits es.size = true ∧ es.size < scanBound ∧ Ris t.place.toList ∧
  (w.params.followText "set-order" = true ∨ t.led = true) ∧ ∀ us : List Value, us.Perm (es.toList.map (·.2)) → ∃ L : List (V × β), Vals (L.map (·.1)) us ∧ SortAsk K enc H L Q
theorem cr_sortS {β : Type} (enc : β → PyData) (hc : X.calm = true) (hu : X.A.units + 64 < cLine) : CallR X (.builtin "sorted") (rSortS X.w X.K enc) := by
  intro pins s σ H vs us Q I r h
  obtain ⟨a, φ, rfl, ha, hφ⟩ := h
  obtain ⟨p, _⟩ := (show ObjOk X.prog X.w H s.heap a (.ext φ) from I.hok a _ ha)
  obtain ⟨es, ep, t, hs, hf, hb, hr, hl, k⟩ := hφ _ p
  cases r with
  | cons r rr =>
    cases rr
    cases r
    refine sort_go (enc := enc) hu (collect_set (A := X.A.in1) (I.ok.hd hc) hs hf hb hr hl fun s' out kk _ hg ho pm => ?_)
    obtain ⟨L, rv, ask⟩ := k out pm
    exact ⟨H, L, I.call' (ch := []) ho (Un.kept kk) (I.hok.kept kk) (by rw [hg]; exact I.bare) (fun _ z => nomatch z), rv, ask⟩
end
theorem nodup_by {α : Type} [DecidableEq α] : ∀ {m l : List α}, l.Nodup → (∀ x ∈ l, x ∈ m) → m.length ≤ l.length → m.Nodup
  | [], _, _, _, _ => List.nodup_nil
  | x :: m, l, hn, hs, hl => by
    have out : ∀ {l' : List α}, l'.Nodup → (∀ y ∈ l', y ∈ m) → l'.length ≤ m.length := fun a b => Md.nodup_le a b
    rw [List.length_cons] at hl
    have hx : x ∈ l := by
      refine Decidable.byContradiction fun z => ?_
      have := out hn fun y hy => (List.mem_cons.mp (hs y hy)).elim (fun e => absurd (e ▸ hy) z) id
      omega
    have h1 : x ∉ m := fun z => by
      have := out hn fun y hy => (List.mem_cons.mp (hs y hy)).elim (fun e => e ▸ z) id
      omega
    have hlen := List.length_erase_of_mem hx
    have hpos : 0 < l.length := List.length_pos_of_mem hx
    refine List.nodup_cons.mpr ⟨h1, nodup_by (hn.erase x) (fun y hy => ?_) (by omega)⟩
    have hy1 := List.mem_of_mem_erase hy
    rcases List.mem_cons.mp (hs y hy1) with e | e
    · rw [e] at hy
      exact absurd hy (fun z => (List.Nodup.mem_erase_iff hn).mp z |>.1 rfl)
    · exact e
theorem scb : 4096 ≤ scanBound := by decide
theorem str_toList {a b : Str} (h : a.cps.toList = b.cps.toList) : a = b := by
  obtain ⟨⟨a⟩⟩ := a
  obtain ⟨⟨b⟩⟩ := b
  exact congrArg _ (congrArg _ h)
/-- a text's value -/
def keyT (v : Value) : Str := match v with | .str k _ => k | _ => ""
/-- the texts of a set of texts, in whatever order -/
theorem setS_out {P : Program} {w : World} {D : SD} {l : List Str} (F : TxOk P w D l) (hn : l.Nodup) {us : List Value} (pm : us.Perm (D.1.toList.map (·.2))) :
    Vals ((us.map keyT).map V.str) us ∧ (us.map keyT).Nodup ∧ ∀ k, k ∈ us.map keyT ↔ k ∈ l := by
  have sh : ∀ u ∈ us, ∃ k tk, u = Value.str k tk := fun u hu => by
    obtain ⟨e, he, rfl⟩ := List.mem_map.mp (pm.mem_iff.mp hu)
    obtain ⟨⟨k, h1, _⟩, _⟩ := F.el e he
    obtain ⟨tk, e1⟩ := Value.isStrOf_shape (x := k) (v := e.2) h1
    exact ⟨k, tk, e1⟩
  have mem : ∀ k, k ∈ us.map keyT ↔ k ∈ l := fun k => by
    rw [F.mem k]
    constructor
    · intro h
      obtain ⟨u, hu, e⟩ := List.mem_map.mp h
      obtain ⟨k', tk, rfl⟩ := sh u hu
      obtain ⟨e', he', q⟩ := List.mem_map.mp (pm.mem_iff.mp hu)
      refine ⟨e', he', ?_⟩
      rw [q, ← e]; exact is_str _ _
    · rintro ⟨e, he, q⟩
      obtain ⟨tk, e1⟩ := Value.isStrOf_shape (x := k) (v := e.2) q
      exact List.mem_map.mpr ⟨e.2, pm.mem_iff.mpr (List.mem_map.mpr ⟨e, he, rfl⟩), by rw [e1]; rfl⟩
  refine ⟨?_, nodup_by hn (fun x hx => (mem x).mpr hx) ?_, mem⟩
  · clear mem pm
    induction us with
    | nil => exact .nil
    | cons u us ih =>
      obtain ⟨k, tk, rfl⟩ := sh u List.mem_cons_self
      exact .cons ⟨tk, rfl⟩ (ih fun v hv => sh v (List.mem_cons_of_mem _ hv))
  · rw [List.length_map, pm.length_eq, List.length_map, Array.length_toList, F.sz]
    exact Nat.le_refl _
/-- sorted of texts: what to ask -/
theorem ask_txt {K : PySem.W.Frag} {H : Hp} {ks : List Str} {Q : VK} (hz : ks.length ≤ 1000000) (k : ∀ (ks' : List Str) p, ks'.Perm ks → ks'.Pairwise (fun a b => ¬ b.cps.toList < a.cps.toList) → H p = none → Q (.ref p) (upd H p (.lst (ks'.map V.str)))) :
    SortAsk K (fun q : Str => PyData.str q) H (ks.map fun q => (V.str q, q)) Q := by
  refine ⟨fun q hq => ?_, fun q hq => ⟨by simp [NoList], by show PyData.depth (.str _) ≤ 20; rw [PyData.depth]; exact Nat.zero_le _⟩, fun d hd d' hd' => ?_, .inr fun d hd => ?_, by rw [List.length_map]; exact hz, fun L' p hp hw hn => ?_⟩
  · obtain ⟨r, _, rfl⟩ := List.mem_map.mp hq
    exact .str _
  · obtain ⟨q1, _, rfl⟩ := List.mem_map.mp hd
    obtain ⟨q2, _, rfl⟩ := List.mem_map.mp hd'
    rfl
  · obtain ⟨q1, _, rfl⟩ := List.mem_map.mp hd
    exact ⟨(fun z => by cases z), fun xs z => by cases z⟩
  · have e : ∀ q ∈ L', q.1 = V.str q.2 := fun q hq => by
      obtain ⟨r, _, rfl⟩ := List.mem_map.mp (hp.mem_iff.mp hq)
      rfl
    have e1 : L'.map (·.1) = (L'.map (·.2)).map V.str := by
      rw [List.map_map]; exact List.map_congr_left e
    rw [e1]
    refine k _ p ?_ ?_ hn
    · have := hp.map (fun q : V × Str => q.2)
      rw [List.map_map] at this
      have h2 : (ks.map ((fun q : V × Str => q.2) ∘ fun q => (V.str q, q))) = ks := by rw [show ((fun q : V × Str => q.2) ∘ fun q => (V.str q, q)) = id from rfl, List.map_id]
      rw [h2] at this
      exact this
    · rw [List.pairwise_map]
      refine hw.imp fun {a b} h => ?_
      rw [dataLt_str] at h
      exact of_decide_eq_false h
section
variable {P : Program} {w : World} {K : PySem.W.Frag} {mg : Str → Option Value} {base : Heap}
theorem scLefts : FnScope ["grammar", "rule"] ["grammar"] (defScope sLefts) := ⟨rfl, rfl, rfl, by decide +kernel, rfl, by decide +kernel, by decide +kernel⟩
theorem ok_lefts {f : Addr} {fd : FuncData} (F : Fun K "lefts" "lefts" sLefts f fd) (T : Bi mg) : FnOk P w K mg base CX0 1 f fd ["grammar"] spLefts := by
  refine F.ok scLefts (fun vs H Q E h => ?_) (fun cdv A outer s H vs Q E hr h => ?_)
  · obtain ⟨g, st, rs, rfl, _⟩ := h
    rfl
  · obtain ⟨g, st, rs, rfl, gr, h30, k⟩ := h
    refine ⟨_, (pss_one (ps_ret (pe_callB (cr_sortS (fun q : Str => PyData.str q) rfl hr.units) (by rfl) T.sorted (by decide +kernel) (pa_cons (pe_ss (own := [("rule", 1)]) (wi := iList K (tOp (rIxT K) (tVar 0) (tC (.int 2)))) (g := gName 1) (te := tOp (rIxT K) (tVar 1) (tC (.int 1))) rfl scLefts.nd (pi_list (pe_ix (r := rIxT K) ix_tup (pv 0) pe_int (fun _ _ => rfl))) (blkOk_by (N := ["grammar", "rule"]) (sc := defScope sLefts) (by decide +kernel)) (fun _ _ _ _ _ => pg_name (i := 1) scLefts.nd rfl (Or.inl rfl)) (fun _ _ _ _ _ => pe_ix (r := rIxT K) ix_tup (pv 1) pe_int (fun _ _ => rfl))) pa_nil)))), ?_⟩
    obtain ⟨pg, eg, Lr, eLr, hpr, hLr⟩ := gr
    subst eLr
    rw [List.length_map] at h30
    refine ⟨_, rfl, g, _, _, _, rfl, rfl, SqT.of eg, rfl, pg, rfl, ⟨_, SqL.of hpr⟩, fun D hD => ?_⟩
    refine ss_it (P := P) (w := w) (walk_list (K := K) (xs := Lr.map fun q => V.ref q.1)) (g := gName 1) (vs := [1]) (D := D) (H1 := H) (fun i H' => ∃ l : List Str, H' = upd H D (SetS P w D l) ∧ l.length ≤ i ∧ ∀ n, n ∈ l ↔ ∃ q ∈ Lr.take i, q.2.2.1 = n) ⟨[], rfl, Nat.le_refl _, fun n => ⟨fun h => absurd h List.not_mem_nil, fun ⟨q, h, _⟩ => absurd h (by rw [List.take_zero]; exact List.not_mem_nil)⟩⟩ ?_ ?_ ?_
    · rintro i _ _ ⟨l, rfl, _⟩
      exact SqL.of (by rw [upd_ne (ne_of_none hpr hD)]; exact hpr)
    · rintro i x Hb Ha hi ⟨l, rfl, h1, h2⟩ ⟨rfl, hx⟩
      obtain ⟨q, hq, rfl⟩ := get_map hx
      rw [List.length_map] at hi
      obtain ⟨s0, hs0, _⟩ := hLr q (List.mem_of_getElem? hq)
      refine ⟨rfl, _, rfl, q.1, _, _, _, rfl, rfl, SqT.of (by rw [upd_ne (ne_of_none hs0 hD)]; exact hs0), rfl, q.2.2.1, l, rfl, upd_same, by have := scb; omega, addL l q.2.2.1, upd_upd, ?_, fun n => ?_⟩
      · unfold addL
        split
        · omega
        · rw [List.length_cons]; omega
      · have e : n ∈ addL l q.2.2.1 ↔ n ∈ l ∨ n = q.2.2.1 := by
          unfold addL
          split
          · exact ⟨.inl, fun z => z.elim id fun e => by rw [e]; assumption⟩
          · rw [List.mem_cons]; exact Or.comm
        rw [e, h2 n, List.take_add_one, hq]
        constructor
        · rintro (⟨r, hr, z⟩ | z)
          · exact ⟨r, List.mem_append_left _ hr, z⟩
          · exact ⟨q, List.mem_append_right _ (List.mem_singleton.mpr rfl), z.symm⟩
        · rintro ⟨r, hr, z⟩
          rcases List.mem_append.mp hr with hr | hr
          · exact .inl ⟨r, hr, z⟩
          · rw [show r = q from List.mem_singleton.mp hr] at z
            exact .inr z.symm
    · rintro _ ⟨l, rfl, h1, h2⟩
      rw [List.length_map, List.take_length] at h2
      refine ⟨D, _, rfl, upd_same, fun h ⟨T, ho, F', hr', hl', hn', hb'⟩ => ⟨T.1, T.2.1, T.2.2, ⟨_, ho, rfl, rfl⟩, F'.fit, by rw [F'.sz]; exact hb', hr', hl', fun us pm => ?_⟩⟩
      obtain ⟨a1, a2, a3⟩ := setS_out F' hn' pm
      refine ⟨(us.map keyT).map fun q => (V.str q, q), by rw [List.map_map]; exact a1, ask_txt ?_ fun ks' p hp hw hnp => ?_⟩
      · have := (Md.nodup_le a2 fun x hx => (a3 x).mp hx)
        rw [List.length_map] at h1
        omega
      · refine k _ p ks' (fun b o e => ?_) ?_ upd_same ⟨?_, fun n => ?_⟩
        · have e2 : upd H D (SetS P w D l) b = some o := by rw [upd_ne (ne_of_none e hD)]; exact e
          rw [upd_ne (ne_of_none e2 hnp)]; exact e2
        · cases z : H p with
          | none => rfl
          | some o =>
            rw [upd_ne (ne_of_none z hD), z] at hnp
            cases hnp
        · have nd := hp.nodup_iff.mpr a2
          have := hw.and (List.nodup_iff_pairwise_ne.mp nd)
          refine this.imp fun {x y} h => ?_
          rcases Md.w_tri x.cps.toList y.cps.toList with z | z | z
          · exact z
          · exact absurd (str_toList z) h.2
          · exact absurd z h.1
        · rw [hp.mem_iff, a3 n, h2 n]
          constructor
          · rintro ⟨q, hq, z⟩
            exact ⟨q.2, List.mem_map.mpr ⟨q, hq, rfl⟩, z⟩
          · rintro ⟨r, hr, z⟩
            obtain ⟨q, hq, rfl⟩ := List.mem_map.mp hr
            exact ⟨q, hq, z⟩
end
end Ms
end TextG2
section TextN1
set_option linter.all false
set_option maxRecDepth 100000
set_option maxHeartbeats 2000000
/-! set(x) for any x that may be walked: what is held of the set behind each item is the caller's. -/
namespace Ms
open PySem PySem.Spec PyProof.Rows L2
/-- a set just made -/
def set0 (w : World) : Obj := { cls := .type "set", dict := none, data := .set #[] 0 (.fresh 0 0 (!w.params.followText "set-order")) }
section
variable {P : Program} {w : World} {A : Around} {E : Value → Shared → Prop} {s : Shared}
/-- Z i is what is held of the set at S behind i items; it hangs on S and on what stood before -/
structure Grows (P : Program) (w : World) (S : Addr) (h0 : Heap) (n : Nat) (Pv : Nat → Value → Prop) (Z : Nat → Heap → Prop) : Prop where
  lies : ∀ i h h', Z i h → (∀ o, h.get? S = some o → h'.get? S = some o) → (∀ b o, h0.get? b = some o → h'.get? b = some o) → Z i h'
  add : ∀ i v (A : Around) (E : Value → Shared → Prop) (s : Shared) (Q : Bool → Shared → Prop), i < n → Pv i v → A.units < cLine → Z i s.heap → (∀ b o, h0.get? b = some o → s.heap.get? b = some o) →
    (∀ b h' tk, Heap.SameBut S s.heap h' → s.toks ≤ tk → Z (i + 1) h' → Q b { s with heap := h', toks := tk }) → wpAny (model P w) A (setAdd S v) Q E s
theorem draw_all {R : Result → Shared → Prop} {I S : Addr} {fp wr : List Addr} {G : Array GenState → Array GenState → Prop} {n : Nat} {Pv : Nat → Value → Prop} {St : Nat → Shared → Prop} {h0 : Heap} {Z : Nat → Heap → Prop}
    (W : WalksS P w A.in1 I fp wr G n Pv St) (g : Grows P w S h0 n Pv Z) (out : S ∉ fp) (new : h0.get? S = none) (newW : ∀ b ∈ wr, h0.get? b = none) (hu : A.in1.units < cLine) :
    ∀ (m i : Nat) (s : Shared), i + m = n → St i s → Z i s.heap → (∀ b o, h0.get? b = some o → s.heap.get? b = some o) →
      (∀ s', Moved (S :: wr) G s s' → Z n s'.heap → (∀ b o, h0.get? b = some o → s'.heap.get? b = some o) → R (.ok (.ret .none)) s') → codeAny (model P w) A (.builtin "set.update.loop" ⟨[.ref S, .ref I], []⟩) R s := by
  have outW : S ∉ wr := fun z => out (W.sub S z)
  have wide : ∀ {a b : Shared}, Moved wr G a b → Moved (S :: wr) G a b := fun m => m.mono fun b hb => List.mem_cons.mpr (.inr hb)
  have stays : ∀ {i : Nat} {a b : Shared}, Moved wr G a b → Z i a.heap → (∀ b o, h0.get? b = some o → a.heap.get? b = some o) → Z i b.heap ∧ ∀ c o, h0.get? c = some o → b.heap.get? c = some o := fun {i a b} m z k => by
    have k' : ∀ c o, h0.get? c = some o → b.heap.get? c = some o := fun c o e => m.heap c o (fun hc => nomatch (newW c hc).symm.trans e) (k c o e)
    exact ⟨g.lies _ _ _ z (fun o e => m.heap S o outW e) k', k'⟩
  intro m
  induction m with
  | zero =>
    intro i s hi st z k hR
    cases hi
    refine codeAny_builtin F.entry_set_update_loop (Around.under_plainId F.plain_set_update_loop _ ▸ ?_)
    refine wpAny_bind (W.done s _ _ st fun s' mv => ?_)
    have z' := stays mv z k
    exact wpAny_pure (hR s' (wide mv) z'.1 z'.2)
  | succ m more =>
    intro i s hi st z k hR
    refine codeAny_builtin F.entry_set_update_loop (Around.under_plainId F.plain_set_update_loop _ ▸ ?_)
    refine wpAny_bind (W.item i s _ _ (by omega) st fun v s1 pv st1 mv => ?_)
    have z1 := stays mv z k
    refine wpAny_bind (wpAny_holding (g.add i v _ _ s1 _ (by omega) pv hu z1.1 z1.2 fun b h' tk sb ht z2 => wpAny_pure ⟨plainId_quiet F.plain_set_update_loop _, ?_⟩))
    have off : ∀ c o, c ∉ S :: wr → s1.heap.get? c = some o → h'.get? c = some o := fun c o hc e => (sb.2 c fun q => hc (q ▸ List.mem_cons_self)).trans e
    have k2 : ∀ c o, h0.get? c = some o → h'.get? c = some o := fun c o e => (sb.2 c fun q => nomatch (q ▸ new).symm.trans e).trans (z1.2 c o e)
    refine more (i + 1) _ (by omega) (W.frame _ s1 _ _ st1 ht fun c hc o e => (sb.2 c fun q => out (q ▸ hc)).trans e) z2 k2 fun s2 mv2 => hR s2 ?_
    exact ((wide mv).then_heap ht off).trans W.gtrans mv2
/-- set(x): a set is made, then x is drawn into it -/
theorem set_of {x : Value} {Good : Heap → Prop} {Q : Value → Shared → Prop}
    (fill : ∀ (E' : Value → Shared → Prop) (R : Unit → Shared → Prop), (∀ h' tk, Good h' → R () { s with heap := h', toks := tk }) →
      wpAny (model P w) A.in1.in1 (Builtin.Frozenset.updateFrom "set.__init__" s.heap.objs.size x) R E' { s with heap := s.heap.push (set0 w) })
    (q : ∀ h' tk, Good h' → Q (.ref s.heap.objs.size) { s with heap := h', toks := tk }) : wpAny (model P w) A (call (.type "set") [x]) Q E s := by
  have tc := F.called_set
  obtain ⟨c, tl, way⟩ := tc.mro
  have t1 := tc.made
  have t2 := tc.sub
  have t3 := tc.notType
  have t4 := tc.canCreate
  have t5 := F.typeCall_set_1 x
  have here : (s.heap.push (set0 w)).get? s.heap.objs.size = some (set0 w) := Heap.get?_push_size _ rfl
  have isSet : Shared.TypeIs { s with heap := s.heap.push (set0 w) } (.ref s.heap.objs.size) "set" := ⟨_, here, rfl⟩
  refine wpAny_call (codeAny_of_tree (wpAny_pure ⟨Code.quiet_builtin _ (by decide +kernel), codeAny_builtin F.entry_type_call (Around.under_plain (weight_type_call_type "set" [x] []) rfl ▸ ?_)⟩))
  repeat (any_goals (first | assumption | wp_step))
  refine codeAny_mono (code_set_led1 x (E := E) (Q₁ := fun v s1 => v = .ref s.heap.objs.size ∧ s1 = { s with heap := s.heap.push (set0 w) }) ⟨rfl, rfl⟩) fun r s1 hr => ?_
  match r, hr with
  | .error e, hr => exact hr
  | .ok .next, hr => exact absurd hr id
  | .ok .brk, hr => exact absurd hr id
  | .ok .cont, hr => exact absurd hr id
  | .ok (.ret v), ⟨ev, es⟩ =>
    subst ev es
    have i1 := tc.init.lookup
    have i2 := tc.init.bind (.ref s.heap.objs.size)
    repeat (any_goals (first | assumption | wp_step))
    refine codeAny_mono (codeAny_call_builtin (R := wants (fun r s2 => r = .none ∧ ∃ h' tk, s2 = { s with heap := h', toks := tk } ∧ Good h') E) tc.init.plain F.entry_set_init (check_set_init_1 isSet ?_)) fun r s2 hr => ?_
    · unfold Builtin.«set.__init__» noKeywords
      generalize hU : Builtin.Frozenset.updateFrom = U
      wp_walk
      subst hU
      exact fill _ _ fun h' tk gd => wpAny_pure ⟨rfl, h', tk, rfl, gd⟩
    · match r, hr with
      | .error e, hr => exact hr
      | .ok .next, hr => exact absurd hr id
      | .ok .brk, hr => exact absurd hr id
      | .ok .cont, hr => exact absurd hr id
      | .ok (.ret v), ⟨ev, h', tk, es, gd⟩ =>
        subst ev es
        repeat (any_goals (first | assumption | wp_step))
        exact q h' tk gd
theorem none_from {h : Heap} {b : Addr} (hb : h.objs.size ≤ b) : h.get? b = none := by
  cases e : h.get? b with
  | none => rfl
  | some o => exact absurd (Heap.lt_size e) (Nat.not_lt.mpr hb)
/-- .. x drawn by a walk that starts behind the set -/
theorem fill_walk {S I : Addr} {fp wr : List Addr} {n : Nat} {Pv : Nat → Value → Prop} {St : Nat → Heap → Prop} {Z : Nat → Heap → Prop} {h0 : Heap} {R : Value → Shared → Prop} (W : Walks P w A.in1 I fp wr n Pv St) (g : Grows P w S h0 n Pv Z)
    (out : S ∉ fp) (new : h0.get? S = none) (newW : ∀ b ∈ wr, h0.get? b = none) (hu : A.in1.units < cLine) (st : St 0 s.heap) (z : Z 0 s.heap) (k : ∀ b o, h0.get? b = some o → s.heap.get? b = some o)
    (q : ∀ h' tk, Z n h' → (∀ b o, h0.get? b = some o → h'.get? b = some o) → R .none { s with heap := h', toks := tk }) :
    wpAny (model P w) A (runValue (.builtin "set.update.loop" ⟨[.ref S, .ref I], []⟩)) R E s := by
  refine wpAny_runValue (draw_all W.toS g out new newW hu n 0 s (Nat.zero_add n) st z k ?_)
  rintro ⟨h', g', d', tk', o'⟩ mv z' k'
  obtain rfl : g' = s.gens := mv.gens
  obtain rfl : d' = s.drawn := mv.drawn
  obtain rfl : o' = s.os := mv.os
  exact q h' tk' z' k'
end
end Ms
end TextN1
section TextN3
set_option linter.all false
set_option maxRecDepth 100000
set_option maxHeartbeats 2000000
/-! Sets of tuples of texts, as far as they are asked for here: what such a set holds was drawn into it, and it is small. -/
namespace Ms
open PySem PySem.Spec PyProof.Rows L2
abbrev uhash (P : Program) (w : World) (k : List Str) : Int := tupleKeyHash (strKind P w) k
abbrev IsU (P : Program) (w : World) (h : Heap) (k : List Str) (a : Addr) : Prop := IsTupleKey (strKind P w) h k a
section
variable {P : Program} {w : World} {A : Around} {E : Value → Shared → Prop} {s : Shared}
theorem all_txt {k : List Str} {vs : List Value} (h : ItemsAre (strKind P w) k vs) : ∀ v ∈ vs, ∃ x t, v = Value.str x t := by
  induction h with
  | nil => exact fun v z => nomatch z
  | cons one _ more => exact fun v z => (List.mem_cons.mp z).elim (fun e => ⟨_, e ▸ Value.isStrOf_shape one⟩) (more v)
/-- a loop over texts that goes on as it began, or ends -/
theorem txt_loop {β : Type} {f : Value → β → Sem (ForInStep β)} {its : Array Value} {b0 : β} {Q : β → Shared → Prop} (h : ∀ v ∈ its.toList, ∃ x t, v = Value.str x t)
    (turn : ∀ x t, f (.str x t) b0 = pure (.yield b0) ∨ ∃ c, f (.str x t) b0 = pure (.done c) ∧ Q c s) (q : Q b0 s) : wpAny (model P w) A (forIn its b0 f) Q E s := by
  rw [← Array.forIn_toList]
  refine wpAny_forIn_list f (fun l b s' => b = b0 ∧ s' = s ∧ ∀ v ∈ l, ∃ x t, v = Value.str x t) Q (fun v l b s' z => ?_) (fun b s' z => z.1 ▸ z.2.1 ▸ q) its.toList b0 ⟨rfl, rfl, h⟩
  obtain ⟨rfl, rfl, z⟩ := z
  obtain ⟨x, t, rfl⟩ := z v List.mem_cons_self
  rcases turn x t with e | ⟨c, e, qc⟩
  · rw [e]; exact wpAny_pure ⟨rfl, rfl, fun u hu => z u (List.mem_cons_of_mem _ hu)⟩
  · rw [e]; exact wpAny_pure qc
theorem class_no {k : List Str} {b : Addr} {Q : Bool → Shared → Prop} (hk : IsU P w s.heap k b) (q : Q false s) : wpAny (model P w) A (ofAClassStatement 8 (.ref b)) Q E s := by
  have ty := hk.typeIs
  obtain ⟨o, its, n, ho, -, hd, hi⟩ := hk
  unfold ofAClassStatement
  wp_walk
  rw [hd]
  refine wpAny_pure (wpAny_bind (txt_loop (all_txt hi) (fun x t => .inl ?_) (wpAny_pure q)))
  rw [show ofAClassStatement 7 (.str x t) = pure false from rfl]
  rfl
theorem hash_some {k : List Str} {b : Addr} {Q : Bool → Shared → Prop} (hk : IsU P w s.heap k b) (q : ∀ c, Q c s) : wpAny (model P w) A (hashByValue 8 (.ref b)) Q E s := by
  have ty := hk.typeIs
  obtain ⟨o, its, n, ho, -, hd, hi⟩ := hk
  unfold hashByValue
  refine wpAny_bind (wpAny_specialOf ty F.slot_tuple_hash.lookup ?_)
  wp_walk
  rw [hd]
  refine wpAny_pure (wpAny_bind (txt_loop (all_txt hi) (fun x t => .inr ⟨(some false, ()), ?_, ?_⟩) (wpAny_pure (q _))))
  · rw [show hashByValue 7 (.str x t) = pure false from rfl]
    rfl
  · exact wpAny_pure (q _)
/-- among such tuples a search is not seen -/
theorem unseen {k : List Str} {b : Addr} {ys : List Value} {Q : Bool → Shared → Prop} (hk : IsU P w s.heap k b) (hy : ∀ y ∈ ys, ∃ k' c, y = Value.ref c ∧ IsU P w s.heap k' c) (q : Q false s) : wpAny (model P w) A (searchCouldBeSeen (.ref b) ys) Q E s := by
  unfold searchCouldBeSeen
  refine wpAny_bind (wpAny_forIn_list _ (fun l r s' => r = (none, ()) ∧ s' = s ∧ ∀ y ∈ l, y ∈ ys) _ (fun y l r s' z => ?_) (fun r s' z => ?_) ys (none, ()) ⟨rfl, rfl, fun y h => h⟩)
  · obtain ⟨rfl, rfl, z⟩ := z
    obtain ⟨k', c, rfl, hc⟩ := hy y (z y List.mem_cons_self)
    have on : ∀ y ∈ l, y ∈ ys := fun y h => z y (List.mem_cons_of_mem _ h)
    by_cases v : (b == c || (carriedByValue (.ref b) && carriedByValue (.ref c))) = true
    · exact wp_if_pos v (wpAny_pure ⟨rfl, rfl, on⟩)
    · refine wp_if_neg v (wpAny_bind (wpAny_eqIsQuiet_tuple hk ?_))
      refine wp_if_neg (by decide) (wpAny_bind (wpAny_eqIsQuiet_tuple hc ?_))
      refine wp_if_neg (by decide) (wpAny_bind (class_no hk ?_))
      refine wp_if_neg (by decide) (wpAny_bind (class_no hc ?_))
      exact wp_if_neg (by decide) (wpAny_pure ⟨rfl, rfl, on⟩)
  · obtain ⟨rfl, rfl, -⟩ := z
    exact wpAny_pure q
/-! ### the set -/
/-- a set at a: its rows are of ks, each with the hash of its texts; its table is as good as TabOk says -/
structure SetT (P : Program) (w : World) (ks : List (Addr × List Str)) (h : Heap) (a : Addr) (es : Array (Int × Value)) (ep : Nat) (t : SetTable) : Prop where
  ob : ∃ o, h.get? a = some o ∧ o.ExactSet ∧ o.data = .set es ep t
  tab : TabOk t (es.toList.map (·.1))
  row : ∀ e ∈ es.toList, ∃ p ∈ ks, e = (uhash P w p.2, Value.ref p.1)
  led : w.params.followText "set-order" = true ∨ t.led = true
  room : es.size * 5 < t.mask * 3
  few : es.size < 64
variable {ks : List (Addr × List Str)} {a : Addr} {es : Array (Int × Value)} {ep : Nat} {t : SetTable}
theorem SetT.places {h : Heap} (R : SetT P w ks h a es ep t) : t.place.size = es.size := by
  have := R.tab.sz
  rwa [List.length_map, Array.length_toList] at this
theorem SetT.fits {h : Heap} (R : SetT P w ks h a es ep t) : t.fits es.size = true := by
  have e := R.places
  have r := R.room
  unfold SetTable.fits SetTable.fill
  rw [R.tab.dm, Bool.and_eq_true, beq_iff_eq, decide_eq_true_eq]
  exact ⟨e, by show t.place.size + 0 ≤ t.mask; omega⟩
theorem SetT.keep {h h' : Heap} (R : SetT P w ks h a es ep t) (k : ∀ o, h.get? a = some o → h'.get? a = some o) : SetT P w ks h' a es ep t :=
  let ⟨o, x, y⟩ := R.ob
  ⟨⟨o, k o x, y⟩, R.tab, R.row, R.led, R.room, R.few⟩
/-- the search for x, from the c-th place of its way on: it ends at the first free place, the K-th, or at an equal one before -/
theorem seek (R : SetT P w ks s.heap a es ep t) (hks : ∀ p ∈ ks, IsU P w s.heap p.2 p.1) {x : Addr} {k : List Str} (hx : IsU P w s.heap k x) (hu : A.units < cLine) {K : Nat} (fewK : K < 10 * SetTable.turns t.mask)
    (free : way t.mask (uhash P w k) K ∉ t.place.toList) (full : ∀ c, c < K → way t.mask (uhash P w k) c ∈ t.place.toList) {Q : SetFound → Shared → Prop} (q1 : Q (.there none) s) (q2 : Q (.free (way t.mask (uhash P w k) K) false) s) :
    ∀ (f c : Nat) (stand : Option SetTable.Probe), stand.getD (t.probeStart (uhash P w k)) = nth t.mask (runAt t.mask (SetTable.bits (uhash P w k) % (t.mask + 1)) (SetTable.bits (uhash P w k))) c → c ≤ K → K < c + f →
      wpAny (model P w) A (setSearchFrom a (.ref x) (uhash P w k) true f stand) Q E s := by
  obtain ⟨o, ho, -, hd⟩ := R.ob
  generalize hw : nth t.mask (runAt t.mask (SetTable.bits (uhash P w k) % (t.mask + 1)) (SetTable.bits (uhash P w k))) = W at *
  have W0 : W 0 = runAt t.mask (SetTable.bits (uhash P w k) % (t.mask + 1)) (SetTable.bits (uhash P w k)) := by rw [← hw]; rfl
  have plain : ∀ c, (W c).dummy = none := fun c => by
    induction c with
    | zero => rw [W0]; rfl
    | succ c ih =>
      rw [← hw] at ih ⊢
      rw [nth_succ]
      unfold adv
      split <;> exact ih
  have ahead : ∀ c n, nth t.mask (W c) n = W (c + n) := fun c n => by rw [← hw]; exact (nth_add t.mask c _ n).symm
  intro f
  induction f with
  | zero => exact fun c _ _ h1 h2 => absurd h2 (by omega)
  | succ f more =>
    intro c stand est le lt
    rw [setSearchFrom_succ]
    refine wpAny_bind (wpAny_setState_of ho hd R.fits ?_)
    refine wp_if_neg (by unfold SetTable.gaveWay; rw [mask_odd R.tab.mok]; decide) ?_
    have freeK : (W K).j ∉ t.place.toList := by rw [← hw]; exact free
    have fullK : ∀ n, n < K → (W n).j ∈ t.place.toList := fun n hn => by rw [← hw]; exact full n hn
    have eK : way t.mask (uhash P w k) K = (W K).j := by rw [← hw]
    have stops := go_spec t R.tab.ris R.tab.dm (fun i => (es[i]?.map (·.1)).getD 0) (uhash P w k) (10 * SetTable.turns t.mask) (K - c) (W c) (plain c) (by omega) (fun n hn => by rw [ahead]; exact fullK _ (by omega)) (by rw [ahead, Nat.add_sub_cancel' le]; exact freeK)
    rw [est]
    rcases stops with ⟨n, i, hn, hi, -, -, e⟩ | ⟨-, e⟩
    · rw [ahead] at hi e
      rw [ahead] at e
      have hie : i < es.size := by
        have := (List.getElem?_eq_some_iff.mp hi).1
        rw [Array.length_toList, R.places] at this
        exact this
      obtain ⟨p, hp, ep'⟩ := R.row es[i] (Array.getElem_mem_toList hie)
      have at_i : es[i]? = some (uhash P w p.2, Value.ref p.1) := by rw [Array.getElem?_eq_getElem hie, ep']
      have rest : wpAny (model P w) A (searchRest a (.ref x) (uhash P w k) true f es t (W (c + n)).j i (W (c + (n + 1)))) Q E s := by
        unfold searchRest
        rw [at_i]
        refine wpAny_bind (wpAny_holding (wpAny_eqBool_tuple hu (hks p hp) hx (wpAny_bind (wpAny_setState_of ho hd R.fits ?_))))
        by_cases same : p.2 = k
        · exact wp_if_pos (by rw [decide_eq_true same]; rfl) (wpAny_pure q1)
        · have no : (true && decide (p.2 = k)) = false := by rw [decide_eq_false same]; rfl
          refine wp_if_neg (by rw [no]; decide) ?_
          rw [sameMem]
          simp only [slot_live R.tab.ris hi, at_i, if_true]
          refine wpAny_bind (wpAny_isSame_ref_self (wpAny_bind (wpAny_pure ?_)))
          simp only [if_true]
          exact wp_if_neg (by rw [decide_eq_false same]; decide) (more (c + (n + 1)) _ rfl (by omega) (by omega))
      rw [show t.probe (fun i => (es[i]?.map (·.1)).getD 0) (uhash P w k) (W c) = _ from e]
      by_cases l : t.led = true
      · exact wp_if_neg (by rw [l]; decide) rest
      · refine wp_if_pos (by rw [Bool.eq_false_iff.mpr l]; rfl) (wpAny_bind (unseen hx (fun y hy => ?_) (wp_if_neg (by decide) rest)))
        obtain ⟨e1, he, rfl⟩ := List.mem_map.mp hy
        obtain ⟨p1, h1, h2⟩ := R.row e1 (Array.mem_toList_iff.mpr (Array.mem_filter.mp (Array.mem_toList_iff.mp he)).1)
        exact ⟨p1.2, p1.1, by rw [h2], hks p1 h1⟩
    · rw [ahead, Nat.add_sub_cancel' le, ← eK] at e
      rw [show t.probe (fun i => (es[i]?.map (·.1)).getD 0) (uhash P w k) (W c) = _ from e]
      exact wpAny_pure q2
theorem picked (es : Array (Int × Value)) : ∀ l : List Nat, (∀ i ∈ l, i < es.size) → (l.filterMap fun i => es[i]?).map (·.1) = l.map (fun i => (es.map (·.1)).getD i 0) ∧ (l.filterMap fun i => es[i]?).length = l.length ∧ ∀ e ∈ l.filterMap (fun i => es[i]?), e ∈ es.toList
  | [], _ => ⟨rfl, rfl, fun e h => nomatch h⟩
  | i :: l, h => by
    have hi : i < es.size := h i List.mem_cons_self
    obtain ⟨h1, h2, h3⟩ := picked es l fun j hj => h j (List.mem_cons_of_mem _ hj)
    have e0 : es[i]? = some es[i] := Array.getElem?_eq_getElem hi
    have e1 : (es.map (·.1)).getD i 0 = es[i].1 := by rw [Array.getD_eq_getD_getElem?, Array.getElem?_map, e0]; rfl
    rw [List.filterMap_cons_some e0]
    refine ⟨by rw [List.map_cons, List.map_cons, h1, e1], by rw [List.length_cons, List.length_cons, h2], fun e he => ?_⟩
    rcases List.mem_cons.mp he with rfl | he
    · exact Array.getElem_mem_toList hi
    · exact h3 e he
theorem tab_if {t1 : SetTable} {hs : List Int} (T : TabOk t1 hs) (c : Bool) : TabOk (if c = true then t1 else { t1 with plain := false }) hs ∧ (if c = true then t1 else { t1 with plain := false }).mask = t1.mask ∧ (if c = true then t1 else { t1 with plain := false }).led = t1.led ∧
    (if c = true then t1 else { t1 with plain := false }).fill = t1.fill := by
  cases c
  · exact ⟨⟨T.ris, T.dm, T.sz, T.mok, T.bd, T.reach⟩, rfl, rfl, rfl⟩
  · exact ⟨T, rfl, rfl, rfl⟩
/-- the table laid anew, for `wanted` -/
theorem anew {o : Obj} (ho : s.heap.get? a = some o) (ex : o.ExactSet) (hd : o.data = .set es ep t) (T0 : TabOk t (es.toList.map (·.1))) (row : ∀ e ∈ es.toList, ∃ p ∈ ks, e = (uhash P w p.2, Value.ref p.1)) (led : w.params.followText "set-order" = true ∨ t.led = true)
    (few : es.size < 64) (low : es.size ≤ t.mask) {wanted M : Nat} (hM : SetTable.sizeAbove wanted - 1 = M) (okM : MaskOk M) (top : SetTable.sizeAbove wanted ≤ 128) (room : es.size * 5 < M * 3) {Q : Unit → Shared → Prop}
    (q : ∀ h' es' ep' t', Heap.SameBut a s.heap h' → SetT P w ks h' a es' ep' t' → es'.size = es.size → Q () { s with heap := h' }) : wpAny (model P w) A (setRelay a wanted) Q E s := by
  have pl : t.place.size = es.size := by
    have := T0.sz
    rwa [List.length_map, Array.length_toList] at this
  have fits : t.fits es.size = true := by
    unfold SetTable.fits SetTable.fill
    rw [T0.dm, Bool.and_eq_true, beq_iff_eq, decide_eq_true_eq]
    exact ⟨pl, by show t.place.size + 0 ≤ t.mask; omega⟩
  obtain ⟨t', order, e, perm, T, em, el, -, -⟩ := relaid_ok t (hs := es.map (·.1)) hM okM (by rw [Array.size_map]; omega)
  rw [Array.size_map] at perm
  obtain ⟨p1, p2, p3⟩ := picked es order.toList fun i hi => List.mem_range.mp (perm.mem_iff.mp hi)
  have p2 : (order.toList.filterMap fun i => es[i]?).length = es.size := by rw [p2, perm.length_eq, List.length_range]
  have eL : (order.filterMap (es[·]?)).toList = order.toList.filterMap fun i => es[i]? := Array.toList_filterMap
  rw [← p1, ← eL] at T
  rw [← eL] at p2 p3
  rw [Array.length_toList] at p2
  rw [setRelay_eq]
  refine wpAny_bind (wpAny_setState_of ho hd fits ?_)
  refine wp_if_neg (by rw [sizeLine_eq]; omega) ?_
  rw [e]
  dsimp only
  generalize order.filterMap (es[·]?) = es' at T p2 p3 ⊢
  refine wpAny_bind (wp_if_neg (by rw [p2, bne_self_eq_false]; decide) (wpAny_pure ?_))
  refine wpAny_storeSet_of ho hd ?_ (by rw [p2, sizeLine_eq]; omega)
  refine q _ es' (ep + 1) t' (Heap.SameBut.update ..) ⟨⟨_, store_at ho hd, ⟨ex.1, ex.2.1, ex.2.2⟩, rfl⟩, T, fun r hr => row r (p3 r hr), by rw [el]; exact led, by rw [p2, em]; exact room, by rw [p2]; exact few⟩ p2
/-- x is put in, or an equal one stands there -/
theorem put_in (R : SetT P w ks s.heap a es ep t) (hks : ∀ p ∈ ks, IsU P w s.heap p.2 p.1) {x : Addr} {k : List Str} (hp : (x, k) ∈ ks) (hu : A.units < cLine) (few : es.size + 1 < 64) {Q : Bool → Shared → Prop}
    (q : ∀ b h' es' ep' t', Heap.SameBut a s.heap h' → SetT P w ks h' a es' ep' t' → es'.size ≤ es.size + 1 → Q b { s with heap := h' }) : wpAny (model P w) A (setAddHashed a (.ref x) (uhash P w k)) Q E s := by
  obtain ⟨o, ho, ex, hd⟩ := R.ob
  have room := R.room
  have hx : IsU P w s.heap k x := hks _ hp
  have hl : (es.toList.map (·.1)).length = es.size := by rw [List.length_map, Array.length_toList]
  obtain ⟨K, fewK, free, full⟩ := R.tab.first (by rw [hl]; omega) (uhash P w k)
  have turns : 10 * SetTable.turns t.mask ≤ 1420 := by
    unfold SetTable.turns
    rcases R.tab.mok with e | e | e <;> omega
  unfold setAddHashed
  refine wpAny_holding ?_
  rw [show (100000 : Nat) = 99999 + 1 from rfl, setAddHashedIn_succ]
  refine wpAny_bind (wpAny_setState_of ho hd R.fits (wp_if_neg (by simp [byScan, Value.scannable]) ?_))
  refine wpAny_bind (seek R hks hx hu fewK free full ?_ ?_ 100000 0 none rfl (Nat.zero_le _) (by omega))
  · exact wpAny_pure (q false s.heap es ep t (Heap.SameBut.refl a s.heap) R (Nat.le_succ _))
  refine wpAny_bind (wpAny_setState_of ho hd R.fits ?_)
  obtain ⟨b1, b2, b3, b4, b5, -, -, -, b9⟩ := R.tab.put free full
  dsimp only
  generalize t.put (way t.mask (uhash P w k) K) = tp at b1 b3 b4 b5 b9 ⊢
  generalize SetTable.below t.place (way t.mask (uhash P w k) K) = p at b1 b2 b3
  obtain ⟨t1, p'⟩ := tp
  obtain rfl : p' = p := b1
  dsimp only at b3 b4 b5 b9 ⊢
  rw [hl] at b2 b9
  have i1 : (SetTable.insertAt es p' (uhash P w k, Value.ref x)).toList = es.toList.take p' ++ (uhash P w k, Value.ref x) :: es.toList.drop p' := SetTable.toList_insertAt ..
  generalize SetTable.insertAt es p' (uhash P w k, Value.ref x) = es1 at i1 ⊢
  have i2 : es1.size = es.size + 1 := by
    rw [← Array.length_toList, i1, List.length_append, List.length_take, List.length_cons, List.length_drop, Array.length_toList]
    omega
  have i3 : ∀ e ∈ es1.toList, ∃ p ∈ ks, e = (uhash P w p.2, Value.ref p.1) := fun e he => by
    rw [i1] at he
    rcases List.mem_append.mp he with he | he
    · exact R.row e (List.mem_of_mem_take he)
    · rcases List.mem_cons.mp he with rfl | he
      · exact ⟨_, hp, rfl⟩
      · exact R.row e (List.mem_of_mem_drop he)
  rw [← List.map_take, ← List.map_drop, show uhash P w k = (fun e : Int × Value => e.1) (uhash P w k, Value.ref x) from rfl, ← List.map_cons, ← List.map_append, ← i1] at b3
  have rest : ∀ c : Bool, wpAny (model P w) A (do
      storeSet a es1 (if c = true then t1 else { t1 with plain := false })
      if (!false && (if c = true then t1 else { t1 with plain := false }).tooFull) = true then do
        setRelay a (SetTable.grown (es1.size))
        pure true
      else pure true) Q E s := fun c => by
    obtain ⟨T2, m2, l2, f2⟩ := tab_if b3 c
    generalize (if c = true then t1 else { t1 with plain := false }) = t2 at T2 m2 l2 f2 ⊢
    rw [b4] at m2
    rw [b5] at l2
    rw [b9] at f2
    refine wpAny_bind (wpAny_storeSet_of ho hd ?_ (by rw [i2, sizeLine_eq]; omega))
    have sb : Heap.SameBut a s.heap (s.heap.update a (Obj.putSet es1 t2)) := Heap.SameBut.update ..
    have ho1 := store_at (es' := es1) (t' := t2) ho hd
    generalize s.heap.update a (Obj.putSet es1 t2) = h1 at sb ho1 ⊢
    have led1 : w.params.followText "set-order" = true ∨ t2.led = true := by rw [l2]; exact R.led
    by_cases full : t2.tooFull = true
    · have big : es1.size * 5 ≥ t.mask * 3 := by
        have h := full
        unfold SetTable.tooFull at h
        rw [decide_eq_true_eq, f2, m2] at h
        rw [i2]; exact h
      have go : ∀ M, SetTable.sizeAbove (SetTable.grown es1.size) - 1 = M → MaskOk M → SetTable.sizeAbove (SetTable.grown es1.size) ≤ 128 → es1.size * 5 < M * 3 → wpAny (model P w) A (setRelay a (SetTable.grown es1.size) >>= fun _ => pure true) Q E { s with heap := h1 } := fun M g1 g2 g3 g4 =>
        wpAny_bind (anew (s := { s with heap := h1 }) ho1 ⟨ex.1, ex.2.1, ex.2.2⟩ rfl T2 i3 led1 (by omega) (by rw [m2]; rcases R.tab.mok with e | e | e <;> omega) g1 g2 g3 g4 fun h2 es2 ep2 t3 sb2 R2 z2 => wpAny_pure (q true h2 es2 ep2 t3 (sb.trans sb2) R2 (by omega)))
      refine wp_if_pos (by rw [full]; rfl) ?_
      have two : (t.mask = 7 ∧ es1.size = 5) ∨ (t.mask = 31 ∧ es1.size = 19) := by
        rcases R.tab.mok with e | e | e
        · left; omega
        · right; omega
        · omega
      rcases two with ⟨_, e⟩ | ⟨_, e⟩
      · exact go 31 (by rw [e, size_20]) (.inr (.inl rfl)) (by rw [e, size_20]; decide) (by omega)
      · exact go 127 (by rw [e, size_76]) (.inr (.inr rfl)) (by rw [e, size_76]; decide) (by omega)
    · have low : es1.size * 5 < t2.mask * 3 := by
        have h := full
        unfold SetTable.tooFull at h
        rw [decide_eq_true_eq, f2] at h
        rw [i2]; omega
      exact wp_if_neg (by rw [Bool.eq_false_iff.mpr full]; decide) (wpAny_pure (q true h1 es1 (ep + 1) t2 sb ⟨⟨_, ho1, ⟨ex.1, ex.2.1, ex.2.2⟩, rfl⟩, T2, i3, led1, low, by omega⟩ (by omega)))
  rw [i2] at rest
  by_cases pl : t1.plain = true
  · exact wp_if_pos pl (wpAny_bind (hash_some hx rest))
  · exact wp_if_neg pl (wpAny_bind (wpAny_pure (rest true)))
theorem isU_keep {h h' : Heap} {k : List Str} {b : Addr} (x : IsU P w h k b) (hk : ∀ c o, h.get? c = some o → h'.get? c = some o) : IsU P w h' k b := let ⟨o, its, n, ho, r⟩ := x; ⟨o, its, n, hk _ _ ho, r⟩
theorem grows_u {S : Addr} {h0 : Heap} {items : Array Value} (hks : ∀ p ∈ ks, IsU P w h0 p.2 p.1) (val : ∀ v ∈ items.toList, ∃ p ∈ ks, v = .ref p.1) (few : items.size < 64) :
    Grows P w S h0 items.size (fun i v => items[i]? = some v) fun i h => ∃ es ep t, SetT P w ks h S es ep t ∧ es.size ≤ i where
  lies := fun i h h' ⟨es, ep, t, R, z⟩ k _ => ⟨es, ep, t, R.keep k, z⟩
  add := fun i v A E s Q hi pv hu ⟨es, ep, t, R, z⟩ k q => by
    obtain ⟨p, hp, rfl⟩ := val v (Array.mem_toList_iff.mpr (Array.mem_of_getElem? pv))
    have here : ∀ p ∈ ks, IsU P w s.heap p.2 p.1 := fun p hp => isU_keep (hks p hp) k
    unfold setAdd
    refine wpAny_holding (wpAny_bind (wpAny_pyHash_tuple hu (here p hp) ?_))
    exact put_in (s := { s with toks := s.toks + (p.2.length + 1) }) R here hp hu (by omega) fun b h' es' ep' t' sb R' z' => q b h' _ sb (Nat.le_add_right _ _) ⟨es', ep', t', R', by omega⟩
theorem setT_new {h : Heap} (ho : h.get? a = some (set0 w)) : SetT P w ks h a #[] 0 (.fresh 0 0 (!w.params.followText "set-order")) where
  ob := ⟨_, ho, ⟨rfl, rfl, rfl⟩, rfl⟩
  tab := { ris := List.Pairwise.nil, dm := rfl, sz := rfl, mok := .inl rfl, bd := fun x h => (nomatch h), reach := fun i h j e => (nomatch e) }
  row := fun e h => nomatch h
  led := by cases e : w.params.followText "set-order"; exact .inr rfl; exact .inl rfl
  room := by show 0 * 5 < 7 * 3; decide
  few := by show 0 < 64; decide
/-- set(xs), xs a list of tuples of texts -/
theorem call_set_u {l : Addr} {items : Array Value} {Q : Value → Shared → Prop} (hh : A.handled = none) (hl : s.heap.IsList l items) (hks : ∀ p ∈ ks, IsU P w s.heap p.2 p.1) (val : ∀ v ∈ items.toList, ∃ p ∈ ks, v = .ref p.1) (few : items.size < 64) (hu : A.units + 3 < cLine)
    (q : ∀ h' tk, (∃ es ep t, SetT P w ks h' s.heap.objs.size es ep t) → (∀ b o, s.heap.get? b = some o → h'.get? b = some o) → Q (.ref s.heap.objs.size) { s with heap := h', toks := tk }) : wpAny (model P w) A (call (.type "set") [.ref l]) Q E s := by
  refine set_of (Good := fun h' => (∃ es ep t, SetT P w ks h' s.heap.objs.size es ep t) ∧ ∀ b o, s.heap.get? b = some o → h'.get? b = some o) (fun E' R gd => ?_) fun h' tk g => q h' tk g.1 g.2
  obtain ⟨ol, hol, hcl, nl, hdl⟩ := id hl
  have old : ∀ b o, s.heap.get? b = some o → (s.heap.push (set0 w)).get? b = some o := fun b o e => Heap.get?_push_of_some _ e
  have isl : (s.heap.push (set0 w)).IsList l items := ⟨ol, old _ _ hol, hcl, nl, hdl⟩
  have tyl : Shared.TypeIs { s with heap := s.heap.push (set0 w) } (.ref l) "list" := ⟨ol, old _ _ hol, hcl⟩
  have t1 := F.sub_list_set
  have t2 := F.sub_list_frozenset
  have t3 : (Value.type "list" == Value.type "dict") = false := by decide
  have lt := Heap.lt_size hol
  have sz : (s.heap.push (set0 w)).objs.size = s.heap.objs.size + 1 := Heap.size_push ..
  unfold Builtin.Frozenset.updateFrom
  generalize hPI : pyIter = PI
  wp_walk
  subst hPI
  refine wpAny_pyIter_list isl ?_
  have bnd : A.in1.in1.in1.units < cLine := Nat.lt_of_le_of_lt (Nat.le_refl (A.units + 3)) hu
  refine wpAny_bind (fill_walk (h0 := s.heap) (Walks.list (by simp [hh]) _ l (by rw [sz]; exact Nat.ne_of_lt (Nat.lt_succ_of_lt lt)) items) (grows_u hks val few) (by rw [sz]; exact fun z => (List.mem_cons.mp z).elim (fun e => Nat.ne_of_lt (Nat.lt_succ_self _) e) fun z => Nat.ne_of_gt lt (List.mem_singleton.mp z)) (none_from (Nat.le_refl _)) (fun b hb => none_from (by rw [List.mem_singleton.mp hb, sz]; exact Nat.le_succ _)) bnd
    ⟨⟨_, Heap.get?_push_size _ rfl, rfl, rfl⟩, isl.push _⟩ ⟨_, _, _, setT_new (Heap.get?_push_of_some _ (Heap.get?_push_size _ rfl)), Nat.le_refl _⟩ (fun b o e => Heap.get?_push_of_some _ (old b o e)) fun h' tk z k => ?_)
  obtain ⟨es, ep, t, R', -⟩ := z
  exact wpAny_pure (gd h' tk ⟨⟨es, ep, t, R'⟩, k⟩)
end
/-- such a set in the layer's heap -/
def SetTO (P : Program) (w : World) (ks : List (Addr × List Str)) (a : Addr) : HO := .ext fun h => ∃ es ep t, SetT P w ks h a es ep t
theorem setTO_ok {P : Program} {w : World} {H : Hp} {h : Heap} {ks : List (Addr × List Str)} {a : Addr} (R : ∃ es ep t, SetT P w ks h a es ep t) : ObjOk P w H h a (SetTO P w ks a) :=
  ⟨R, let ⟨_, _, _, r⟩ := R; let ⟨o, x, _⟩ := r.ob; ⟨o, x⟩, fun _ _ ⟨es, ep, t, r⟩ k => ⟨es, ep, t, r.keep fun o e => k o e⟩⟩
theorem vals_txt {P : Program} {w : World} : ∀ {k : List Str} {us : List Value}, Vals (k.map V.str) us → ItemsAre (strKind P w) k us
  | [], _, .nil => .nil
  | x :: _, _, .cons ⟨t, e⟩ more => e ▸ .cons (PySem.Froz.is_str x t) (vals_txt more)
theorem vals_ref : ∀ {ks : List (Addr × List Str)} {us : List Value}, Vals (ks.map fun p => V.ref p.1) us → us.length = ks.length ∧ ∀ v ∈ us, ∃ p ∈ ks, v = Value.ref p.1
  | [], _, .nil => ⟨rfl, fun v h => nomatch h⟩
  | p :: _, _, .cons e more => ⟨congrArg (· + 1) (vals_ref more).1, fun v h => (List.mem_cons.mp h).elim (fun z => ⟨p, List.mem_cons_self, z.trans e⟩) fun z => let ⟨q, hq, y⟩ := (vals_ref more).2 v z; ⟨q, List.mem_cons_of_mem _ hq, y⟩⟩
section
variable {X : Cx}
/-- set(xs), xs a list of few tuples of texts: no more is told than where what it holds comes from -/
def rSetOfU (K : PySem.W.Frag) (P : Program) (w : World) : List V → Hp → VK → Prop := fun xs H Q => ∃ (l : Addr) (ks : List (Addr × List Str)), xs = [V.ref l] ∧ SqL K H l (ks.map fun p => V.ref p.1) ∧ (∀ p ∈ ks, SqT K H p.1 (p.2.map V.str)) ∧ ks.length < 64 ∧
  ∀ a, H a = none → Q (.ref a) (upd H a (SetTO P w ks a))
theorem cr_setOfU (hc : X.calm = true) (hu : X.A.units + 64 < cLine) : CallR X (.type "set") (rSetOfU X.K X.prog X.w) := by
  intro pins s σ H xs us Q I r h
  obtain ⟨l, ks, rfl, hl, hk, few, q⟩ := h
  rw [Vals.ref1 r]
  obtain ⟨its, rv, isl, -⟩ := I.list hl
  obtain ⟨n, from_⟩ := vals_ref rv
  have here : ∀ p ∈ ks, IsU X.prog X.w s.heap p.2 p.1 := fun p hp => by
    obtain ⟨its, r, ⟨o, ho, hc, m, hd⟩, -⟩ := I.tuple (hk p hp)
    exact ⟨o, its.toArray, m, ho, hc, hd, by rw [List.toList_toArray]; exact vals_txt r⟩
  exact call_set_u (ks := ks) (I.ok.hd hc) isl.isList here (by rw [List.toList_toArray]; exact from_) (by rw [List.size_toArray, n]; exact few) (by omega) fun h' tk R k =>
    ⟨.ref s.heap.objs.size, upd H s.heap.objs.size (SetTO X.prog X.w ks s.heap.objs.size), I.laid (t' := tk) k (Nat.le_refl _) (setTO_ok R), rfl, q _ (I.hok.fresh (Nat.le_refl _))⟩
end
end Ms
end TextN3
section TextG4
set_option linter.all false
set_option maxRecDepth 100000
set_option maxHeartbeats 2000000
/-! The grammar's exception: its __init__, its raising. -/
namespace Ms
open PySem PySem.Spec PyProof.Rows L2
/-- what is known of the class C over S over ValueError -/
structure GC (K : PySem.W.Frag) (mg : Str → Option Value) (C S fI : Addr) : Prop where
  ox : OexC K C
  gS : mg "ScribeError" = some (.ref S)
  gC : mg "GrammarError" = some (.ref C)
  sS : PySem.W.specialIn K (.ref S) "__getattribute__" = some (some (.builtin "type.__getattribute__"))
  rS : PySem.W.readsIn K S (.type "type") = true
  vS : PySem.W.findCls K (.ref S) (.type "type") "__init__" = some (.val (.builtin "ValueError.__init__"))
  nR : PySem.W.findIn K (.ref C) "rule" = some none
  nA : PySem.W.findIn K (.ref C) "at" = some none
  iC : PySem.W.findIn K (.ref C) "__init__" = some (some (.ref fI))
  tI : PySem.W.typeIn K (.ref fI) = some (.type "function")
section
variable {X : Cx} {e : Expr} {es : List Expr} {ta : TA} {p1 p2 pos : Pos}
/-- S.__init__(self, ..), S an own class over ValueError without an own one -/
theorem pe_scinit {pl : Sem Bool} {x : Str} {S : Addr} (hg : Gl X x) (hm : X.mg x = some (.ref S)) (sp : PySem.W.specialIn X.K (.ref S) "__getattribute__" = some (some (.builtin "type.__getattribute__"))) (hr : PySem.W.readsIn X.K S (.type "type") = true)
    (vV : PySem.W.findCls X.K (.ref S) (.type "type") "__init__" = some (.val (.builtin "ValueError.__init__"))) (ha : PA X (e :: es) ta)
    (hdb : (x == ("__debug__" : Str)) = false := by decide)
    (hc : eval (.Call (.Attribute (.Name x p1) "__init__" p2) (e :: es) [] pos) X.env = (do
      let ov ← eval (.Name x p1) X.env
      standAt p2.atName
      let (f, first) ← holding [ov] (getMethod ov "__init__" pl)
      callWith pos f first (backTo pos (starEach (e :: es) X.env)) (backToKw pos (keywordEach [] X.env))) := by rfl)
    (he : starEach (e :: es) X.env = (false, eval e X.env) :: starEach es X.env := by rfl) (hpl : (backTo pos (starEach es X.env)).any (·.1) = false := by rfl) :
    PE X (.Call (.Attribute (.Name x p1) "__init__" p2) (e :: es) [] pos) (tVeI X.K ta) := by
  refine ⟨fun pins s σ H Q I h => ?_⟩
  refine PySem.W.methodCall_KW (ld_glob I hg hm ?_ hdb) hc
  refine PySem.W.method_cls I.kIn sp (PySem.W.cls_value I.kIn hr vV (by decide +kernel) ?_)
  show wpAny _ _ (callWith pos (Value.builtin "ValueError.__init__") [] (backTo pos (starEach (e :: es) X.env)) []) _ _ _
  refine PyProof.Rows.callWith_method1 (thn (ha.run pos pins _ σ H _ (I.tok _) h) fun us s1 ⟨vs, H1, I1, r1, a, C, ws, ev, hl, T, ea, q⟩ => ?_) he hpl
  subst ev
  cases r1 with
  | @cons _ u0 _ ur ra rw' =>
    obtain rfl : u0 = Value.ref a := ra
    have hlen : ur.length ≤ sizeLine := by
      rw [← Paired.length rw', sizeLine_eq]
      omega
    exact oinit_ok T I1 ea hlen fun s' J => ⟨.non, H1, J, rfl, q⟩
end
def spGInit (C : Addr) : Sp := fun vs H Q _ => ∃ (a : Addr) (r : Str) (i : Int), vs = [.ref a, .str r, .int i] ∧ H a = some (exo a C none) ∧
  ∀ H2 d fs, (∀ b o, H b = some o → b ≠ a → H2 b = some o) → H2 a = some (exo a C (some d)) → H2 d = some (exd d fs) → H d = none → Q .non H2
section
variable {P : Program} {w : World} {K : PySem.W.Frag} {mg : Str → Option Value} {base : Heap}
theorem scGramInit : FnScope ["self", "rule", "at"] ["self", "rule", "at"] (defScope sGramInit) := ⟨rfl, rfl, rfl, by decide +kernel, rfl, by decide +kernel, by decide +kernel⟩
theorem ok_ginit {f C S fI : Addr} {fd : FuncData} (F : Fun K "__init__" "GrammarError.__init__" sGramInit f fd) (T : Bi mg) (TG : GC K mg C S fI) : FnOk P w K mg base CX0 1 f fd ["self", "rule", "at"] (spGInit C) := by
  refine F.ok scGramInit (fun vs H Q E h => ?_) (fun cdv A outer s H vs Q E hr h => ?_)
  · obtain ⟨a, r, i, rfl, _⟩ := h
    rfl
  · obtain ⟨a, r, i, rfl, ha, k⟩ := h
    refine ⟨_, (pss_cons (ps_expr (pe_scinit (by rfl) TG.gS TG.sS TG.rS TG.vS (pa_cons (pv 0) (pa_cons pe_str pa_nil)))) (pss_cons (ps_ost (pv 0) (pv 1)) (pss_one (ps_ost (pv 0) (pv 2))))), ?_⟩
    refine ⟨_, rfl, a, C, _, rfl, by decide, TG.ox, ha, ?_⟩
    refine ⟨_, rfl, _, rfl, a, C, rfl, TG.ox, TG.nR, .inl ⟨ha, fun dx hd hne => ?_⟩⟩
    refine ⟨_, rfl, _, rfl, a, C, rfl, TG.ox, TG.nA, .inr ⟨dx, _, upd_same, by rw [upd_ne hne, upd_same], by show 1 ≤ 900; decide, ?_⟩⟩
    refine k _ dx _ (fun b o e n => ?_) (by rw [upd_ne (Ne.symm hne), upd_same]) upd_same hd
    have nb : b ≠ dx := ne_of_none e hd
    rw [upd_ne nb, upd_ne n, upd_ne nb]; exact e
/-- what raising it asks, its arguments read -/
theorem mkG {C : Addr} {E : XK} {r : Str} {i : Int} {H1 : Hp} (h : ∀ H2 d, L2.Same H1 H2 → E (.ref C) d H2) : [V.str r, V.int i].length ≤ 1000 ∧ ∀ a, H1 a = none → spGInit C (.ref a :: ([V.str r, V.int i] ++ [])) (upd H1 a (exo a C none))
    (fun v H2 => v = .non ∧ ∃ (d : Addr) (fs : List (Str × V)), H2 a = some (exo a C (some d)) ∧ H2 d = some (exd d fs) ∧ H1 d = none ∧ E (.ref C) (some d) (upd (del H2 a) d (.xd fs))) (fun _ _ _ => False) := by
  refine ⟨by show 2 ≤ 1000; decide, fun a ha => ⟨a, r, i, rfl, upd_same, fun H2 d fs k e1 e2 e3 => ⟨rfl, d, fs, e1, e2, ?_, h _ _ fun b o e => ?_⟩⟩⟩
  · by_cases z : d = a
    · rw [z]; exact ha
    · rw [upd_ne z] at e3; exact e3
  · have nb : b ≠ a := ne_of_none e ha
    have hd : H1 d = none := by
      by_cases z : d = a
      · rw [z]; exact ha
      · rw [upd_ne z] at e3; exact e3
    rw [upd_ne (ne_of_none e hd), del_ne nb]
    exact k b o (by rw [upd_ne nb]; exact e) nb
end
end Ms
end TextG4
section TextG5
set_option linter.all false
set_option maxRecDepth 100000
set_option maxHeartbeats 2000000
/-! set(text), canonical texts of signs. -/
namespace Ms
open PySem PySem.Spec PyProof.Rows L2
open PySem.Froz (SD sObj addTx TxOk tailTx is_str add_x sing)
/-- the set of texts in a heap -/
def SetSR (P : Program) (w : World) (h : Heap) (a : Addr) (l : List Str) (D : SD) : Prop := h.get? a = some (sObj "set" D) ∧ TxOk P w D l ∧ Ris D.2.2.place.toList ∧ (w.params.followText "set-order" = true ∨ D.2.2.led = true) ∧ l.Nodup ∧ l.length < scanBound
theorem mem_addL {l : List Str} {y k : Str} : k ∈ addL l y ↔ k ∈ l ∨ k = y := by
  unfold addL
  split
  · exact ⟨.inl, fun z => z.elim id fun e => by rw [e]; assumption⟩
  · rw [List.mem_cons]; exact Or.comm
theorem addL_len (l : List Str) (y : Str) : (addL l y).length ≤ l.length + 1 := by
  unfold addL
  split
  · omega
  · rw [List.length_cons]; omega
theorem addL_nd {l : List Str} (h : l.Nodup) (y : Str) : (addL l y).Nodup := by
  unfold addL
  split
  · exact h
  · exact List.nodup_cons.mpr ⟨by assumption, h⟩
section
variable {P : Program} {w : World} {A : Around} {E : Value → Shared → Prop} {s : Shared}
theorem addS_raw {a : Addr} {l : List Str} {y : Str} {u : Tok} {D : SD} {Q : Bool → Shared → Prop} (R : SetSR P w s.heap a l D) (room : l.length + 1 < scanBound)
    (h : ∀ b h' D', Heap.SameBut a s.heap h' → SetSR P w h' a (addL l y) D' → Q b { s with heap := h' }) : wpAny (model P w) A (setAddHashed a (.str y u) (hashStr w y)) Q E s := by
  obtain ⟨ho, Ft, hr, hl, hn, hb⟩ := R
  have hb' : (addL l y).length < scanBound := Nat.lt_of_le_of_lt (addL_len l y) room
  by_cases c : y ∈ l
  · refine add_in ho Ft c hb (h _ s.heap D (Heap.SameBut.refl a s.heap) ⟨ho, ?_, hr, hl, addL_nd hn y, hb'⟩)
    unfold addL; rw [if_pos c]; exact Ft
  · have h2 := addTx_ris (k := hashStr w y) (v := .str y u) hr
    refine add_x ho Ft c room (h _ _ (addTx (hashStr w y) (.str y u) D) (Heap.SameBut.update s.heap a _) ⟨PySem.Froz.get_upd _ ho rfl, ?_, h2.1, hl.imp id fun z => by rw [h2.2]; exact z, addL_nd hn y, hb'⟩)
    unfold addL; rw [if_neg c]; exact PySem.Froz.add_ok u Ft
theorem sub_str_set : isSubtype (.type "str") (.type "set") = pure false := by rw [isSubtype_type]; kernel_rfl
theorem sub_str_frozenset : isSubtype (.type "str") (.type "frozenset") = pure false := by rw [isSubtype_type]; kernel_rfl
/-- the signs of a text -/
def signs (x : Str) : List Str := x.cps.toList.map sing
theorem SetSR.keep {h h' : Heap} {a : Addr} {l : List Str} {D : SD} (R : SetSR P w h a l D) (k : ∀ o, h.get? a = some o → h'.get? a = some o) : SetSR P w h' a l D := ⟨k _ R.1, R.2⟩
theorem grows_s {S : Addr} {h0 : Heap} {x : Str} (few : (signs x).length + 1 < scanBound) :
    Grows P w S h0 x.cps.size (SignAt x) fun i h => ∃ l D, SetSR P w h S l D ∧ l.length ≤ i ∧ ∀ k, k ∈ l ↔ k ∈ (signs x).take i where
  lies := fun i h h' ⟨l, D, R, z⟩ k _ => ⟨l, D, R.keep k, z⟩
  add := fun i v A E s Q hi pv hu ⟨l, D, R, z, m⟩ k q => by
    obtain ⟨c, tk, e1, rfl⟩ := pv
    have e2 : (signs x)[i]? = some (sing c) := by
      unfold signs
      rw [List.getElem?_map, Array.getElem?_toList, e1]; rfl
    have lx : (signs x).length = x.cps.size := by unfold signs; rw [List.length_map, Array.length_toList]
    unfold setAdd
    refine wpAny_holding (wpAny_bind ((strKind P w).pyHash (k := sing c) (is_str _ _) ?_))
    refine addS_raw (s := { s with toks := s.toks + 1 }) R (by omega) fun b h' D' sb R' => q b h' _ sb (Nat.le_succ _) ⟨addL l (sing c), D', R', Nat.le_trans (addL_len l _) (Nat.succ_le_succ z), fun k => ?_⟩
    rw [mem_addL, m k, List.take_add_one, e2, List.mem_append]
    exact or_congr Iff.rfl List.mem_singleton.symm
/-- set(text) -/
theorem call_set_s {x : Str} {tk0 : Tok} {Q : Value → Shared → Prop} (hh : A.handled = none) (hu : A.units + 3 < cLine) (few : (signs x).length + 1 < scanBound)
    (q : ∀ (h' : Heap) (tk : Nat) l D, SetSR P w h' s.heap.objs.size l D → l.length ≤ (signs x).length → (∀ k, k ∈ l ↔ k ∈ signs x) → (∀ b o, s.heap.get? b = some o → h'.get? b = some o) → Q (.ref s.heap.objs.size) { s with heap := h', toks := tk }) :
    wpAny (model P w) A (call (.type "set") [.str x tk0]) Q E s := by
  have lx : (signs x).length = x.cps.size := by unfold signs; rw [List.length_map, Array.length_toList]
  refine set_of (Good := fun h' => (∃ l D, SetSR P w h' s.heap.objs.size l D ∧ l.length ≤ (signs x).length ∧ ∀ k, k ∈ l ↔ k ∈ signs x) ∧ ∀ b o, s.heap.get? b = some o → h'.get? b = some o) (fun E' R gd => ?_) fun h' tk ⟨⟨l, D, g1, g2, g3⟩, g⟩ => q h' tk l D g1 g2 g3 g
  have t1 := sub_str_set
  have t2 := sub_str_frozenset
  have t3 : (Value.type "str" == Value.type "dict") = false := by decide
  have sz : (s.heap.push (set0 w)).objs.size = s.heap.objs.size + 1 := Heap.size_push ..
  unfold Builtin.Frozenset.updateFrom
  generalize hPI : pyIter = PI
  wp_walk
  subst hPI
  refine wpAny_pyIter_str fun o St W st => ?_
  refine wpAny_bind (fill_walk (h0 := s.heap) (W _ (by simp [hh])) (grows_s few) (by rw [sz]; exact fun z => Nat.ne_of_lt (Nat.lt_succ_self _) (List.mem_singleton.mp z)) (none_from (Nat.le_refl _))
    (fun b hb => none_from (by rw [List.mem_singleton.mp hb, sz]; exact Nat.le_succ _)) (Nat.lt_of_le_of_lt (Nat.le_refl (A.units + 3)) hu) st ?_ (fun b o e => Heap.get?_push_of_some _ (Heap.get?_push_of_some _ e)) fun h' tk z k => ?_)
  · exact ⟨[], (#[], 0, .fresh 0 0 (!w.params.followText "set-order")), ⟨Heap.get?_push_of_some _ (Heap.get?_push_size _ rfl), TxOk.nil (by rfl), List.Pairwise.nil, by cases e : w.params.followText "set-order"; exact .inr rfl; exact .inl rfl, List.nodup_nil, by decide⟩, Nat.le_refl _, fun k => by rw [List.take_zero]⟩
  · obtain ⟨l, D, R', z, m⟩ := z
    rw [← lx, List.take_length] at m
    exact wpAny_pure (gd h' tk ⟨⟨l, D, R', lx ▸ z, m⟩, k⟩)
end
section
variable {X : Cx}
/-- set(text) -/
def rSetOfS (P : Program) (w : World) : List V → Hp → VK → Prop := fun xs H Q => ∃ x : Str, xs = [.str x] ∧ x.length ≤ 1000 ∧ ∀ a l, H a = none → l.length ≤ (signs x).length → (∀ k, k ∈ l ↔ k ∈ signs x) → Q (.ref a) (upd H a (SetS P w a l))
theorem cr_setOfS (hc : X.calm = true) (hu : X.A.units + 64 < cLine) : CallR X (.type "set") (rSetOfS X.prog X.w) := by
  intro pins s σ H xs us Q I r h
  obtain ⟨x, rfl, hx, q⟩ := h
  cases r with
  | cons r rr =>
    cases rr
    obtain ⟨tk, rfl⟩ := r
    have hl : (signs x).length ≤ 1000 := by unfold signs; rw [List.length_map, Array.length_toList]; exact hx
    refine call_set_s (P := X.prog) (w := X.w) (I.ok.hd hc) (by omega) (by have := scb; omega) fun h' tk l D R z g k => ?_
    obtain ⟨ho, F', hr, hl, hn, hb⟩ := R
    exact ⟨.ref s.heap.objs.size, _, I.laid (t' := tk) k (Nat.le_refl _) (setS_of ho F' hr hl hn hb), rfl, q _ l (I.hok.fresh (Nat.le_refl _)) z g⟩
end
end Ms
end TextG5
section TextG6
set_option linter.all false
set_option maxRecDepth 100000
set_option maxHeartbeats 2000000
namespace Ms
open PySem PySem.Spec PyProof.Rows L2
open PySem.Froz (SD sObj addTx TxOk tailTx is_str add_x sing)
def spAll : Sp := fun vs H Q _ => vs = [] ∧ ∀ z : Str, z.length ≤ 1000 → Q (.str z) H
def spCanon : Sp := fun vs H Q _ => ∃ x : Str, vs = [.str x] ∧ x.length ≤ 1000 ∧ ∀ H' y, L2.Same H H' → y.length ≤ 1000 → Q (.str y) H'
def spIsClass : Sp := fun vs H Q _ => ∃ x : Str, vs = [.str x] ∧ x.length ≤ 1000 ∧ ∀ H' b, L2.Same H H' → Q (.bl b) H'
theorem tx_self (t : Str) : tx t.cps.toList = t := by
  obtain ⟨⟨t⟩⟩ := t
  rfl
theorem join0_len (ts : List Str) (h : ∀ t ∈ ts, t.length = 1) : (Txt.join "" ts).length ≤ ts.length := by
  have e : ts = (ts.map fun t => t.cps.toList).map tx := by
    rw [List.map_map]
    conv => lhs; rw [← List.map_id ts]
    exact List.map_congr_left fun t _ => (tx_self t).symm
  rw [e, join_txs, tx_len, List.length_map, List.length_map]
  clear e
  induction ts with
  | nil => exact Nat.zero_le _
  | cons t ts ih =>
    have h1 : t.cps.toList.length = 1 := by rw [Array.length_toList]; exact h t List.mem_cons_self
    have := ih fun u hu => h u (List.mem_cons_of_mem _ hu)
    rw [List.map_cons, List.flatten_cons, List.length_append, List.length_cons, h1]
    omega
/-- a text, sign by sign, as a list -/
theorem walk_signs {z : Str} : Walk (Its z) ((signs z).map V.str).length (fun _ => True) (YAt ((signs z).map V.str)) := by
  have hl : ((signs z).map V.str).length = z.cps.size := by unfold signs; rw [List.length_map, List.length_map, Array.length_toList]
  rw [hl]
  refine Walk.mono walk_str (fun _ h => h) fun i H x H' hi _ ⟨e, c, h1, h2⟩ => ⟨e, ?_⟩
  unfold signs
  rw [List.map_map, List.getElem?_map, Array.getElem?_toList, h1, h2]; rfl
theorem bools_of : ∀ {acc : List V}, (∀ v ∈ acc, ∃ b, v = V.bl b) → ∃ bs : List Bool, acc = bs.map V.bl
  | [], _ => ⟨[], rfl⟩
  | v :: acc, h => by
    obtain ⟨b, rfl⟩ := h v List.mem_cons_self
    obtain ⟨bs, rfl⟩ := bools_of fun u hu => h u (List.mem_cons_of_mem _ hu)
    exact ⟨b :: bs, rfl⟩
theorem signs_len (x : Str) : (signs x).length = x.length := by unfold signs; rw [List.length_map, Array.length_toList]; rfl
section
variable {P : Program} {w : World} {K : PySem.W.Frag} {mg : Str → Option Value} {base : Heap}
theorem scAllCh : FnScope [] [] (defScope sAllCh) := ⟨rfl, rfl, rfl, by decide +kernel, rfl, by decide +kernel, by decide +kernel⟩
theorem ok_all {f : Addr} {fd : FuncData} (F : Fun K "all_characters" "all_characters" sAllCh f fd) (hC : ∃ z tk, mg "CHARACTERS" = some (.str z tk) ∧ z.length ≤ 1000) : FnOk P w K mg base CX0 1 f fd [] spAll := by
  refine F.ok scAllCh (fun vs H Q E h => ?_) (fun cdv A outer s H vs Q E hr h => ?_)
  · obtain ⟨rfl, _⟩ := h
    rfl
  · obtain ⟨rfl, k⟩ := h
    obtain ⟨z, tk, hz, hl⟩ := hC
    refine ⟨_, pss_one (ps_ret (pe_glob (v := .str z) (by rfl) hz ⟨tk, rfl⟩)), ?_⟩
    exact k z hl
theorem scCanon : FnScope ["text"] ["text"] (defScope sCanon) := ⟨rfl, rfl, rfl, by decide +kernel, rfl, by decide +kernel, by decide +kernel⟩
theorem ok_canon {f : Addr} {fd : FuncData} (F : Fun K "canon" "canon" sCanon f fd) (T : Bi mg) : FnOk P w K mg base CX0 1 f fd ["text"] spCanon := by
  refine F.ok scCanon (fun vs H Q E h => ?_) (fun cdv A outer s H vs Q E hr h => ?_)
  · obtain ⟨x, rfl, _⟩ := h
    rfl
  · obtain ⟨x, rfl, hx, k⟩ := h
    refine ⟨_, (pss_one (ps_ret (pe_join pe_str (pe_callB (cr_sortS (fun q : Str => PyData.str q) rfl hr.units) (by rfl) T.sorted (by decide +kernel) (pa_cons (pe_callTy (cr_setOfS rfl hr.units) (by rfl) T.set (by decide +kernel) (pa_cons (pv 0) pa_nil)) pa_nil))))), ?_⟩
    have hlx : (signs x).length = x.length := by unfold signs; rw [List.length_map, Array.length_toList]; rfl
    refine ⟨⟨_, rfl⟩, _, rfl, x, rfl, hx, fun a l ha hl hm => ⟨a, _, rfl, upd_same, fun h ⟨T, ho, F', hr', hl', hn', hb'⟩ => ⟨T.1, T.2.1, T.2.2, ⟨_, ho, rfl, rfl⟩, F'.fit, by rw [F'.sz]; exact hb', hr', hl', fun us pm => ?_⟩⟩⟩
    obtain ⟨a1, a2, a3⟩ := setS_out F' hn' pm
    have hlen : (us.map keyT).length ≤ x.length := by
      have := Md.nodup_le a2 fun z hz => (a3 z).mp hz
      omega
    refine ⟨(us.map keyT).map fun q => (V.str q, q), by rw [List.map_map]; exact a1, ask_txt (by omega) fun ks' p hp hw hnp => ?_⟩
    have one : ∀ t ∈ ks', t.length = 1 := fun t ht => by
      obtain ⟨c, _, rfl⟩ := List.mem_map.mp ((hm t).mp ((a3 t).mp (hp.mem_iff.mp ht)))
      rfl
    have l2 : ks'.length ≤ x.length := by rw [hp.length_eq]; exact hlen
    have sum : ∀ ts : List Str, (∀ t ∈ ts, t.length = 1) → (ts.map (·.length)).sum = ts.length := fun ts => by
      induction ts with
      | nil => intro _; rfl
      | cons t ts ih =>
        intro h
        rw [List.map_cons, List.sum_cons, ih fun u hu => h u (List.mem_cons_of_mem _ hu), h t List.mem_cons_self, List.length_cons]
        omega
    refine ⟨"", p, ks', rfl, rfl, .inl (SqL.of upd_same), ?_, k _ _ ?_ ?_⟩
    · rw [sum ks' one]
      show _ + _ * 0 ≤ _
      omega
    · exact fun b o e => by
        have e2 : upd H a (SetS P w a l) b = some o := by rw [upd_ne (ne_of_none e ha)]; exact e
        rw [upd_ne (ne_of_none e2 hnp)]; exact e2
    · exact Nat.le_trans (join0_len ks' one) (by omega)
theorem scIsClass : FnScope ["text", "known", "char"] ["text"] (defScope sIsClass) := ⟨rfl, rfl, rfl, by decide +kernel, rfl, by decide +kernel, by decide +kernel⟩
theorem ok_isclass {f fc fa : Addr} {fd ec ea : FuncData} (F : Fun K "is_class" "is_class" sIsClass f fd) (T : Bi mg) (D_canon : Df K mg "canon" sCanon ["text"] fc ec) (G_canon : FnOk P w K mg base CX0 1 fc ec ["text"] spCanon)
    (D_all : Df K mg "all_characters" sAllCh [] fa ea) (G_all : FnOk P w K mg base CX0 1 fa ea [] spAll) : FnOk P w K mg base CX0 2 f fd ["text"] spIsClass := by
  refine F.ok scIsClass (fun vs H Q E h => ?_) (fun cdv A outer s H vs Q E hr h => ?_)
  · obtain ⟨x, rfl, _⟩ := h
    rfl
  · obtain ⟨x, rfl, hx, k⟩ := h
    refine ⟨_, (pss_cons (ps_set (i := 1) scIsClass.nd rfl (Or.inr rfl) (pe_call0 G_all (hr.mono (by decide)) (by rfl) D_all.g D_all.F.kp D_all.b .nil pass0))
    (pss_one (ps_ret (pe_and (pe_cmpR op_eq (pe_call G_canon (hr.mono (by decide)) (by rfl) D_canon.g D_canon.F.kp D_canon.b .nil pass0 (pa_cons (pv 0) pa_nil)) (pv 0) (nomark _)) (pe_one (pe_callB (cr_all rfl) (by rfl) T.all (by decide +kernel) (pa_cons (pe_lc (own := [("char", 2)]) (g := gName 2) (tt := tYes) rfl scIsClass.nd (pi_str (pv 0)) (blkOk_by (N := ["text", "known", "char"]) (sc := defScope sIsClass) (by decide +kernel)) (fun _ _ _ _ _ => pg_name (i := 2) scIsClass.nd rfl (Or.inl rfl)) (fun _ _ _ _ _ => pts_nil) (fun _ _ _ _ _ => (pe_cmpR op_in_str (pv 2) (pv 1) (by rfl)))) pa_nil))))))), ?_⟩
    refine ⟨rfl, fun z hz => ⟨_, rfl, x, rfl, hx, fun H1 y s1 hy => ⟨_, rfl, rfl, ?_⟩⟩⟩
    have al : ∀ Q' : VK, (∀ H' b, L2.Same H1 H' → Q' (.bl b) H') → tCB (rAll K) (tCons (tLc (iStr (tVar 0)) (gName 2) tYes (tOp (fun x y H Q => ∃ i j, x = V.str i ∧ y = V.str j ∧ Q (V.bl !(Builtin.Str.occurrences j i 0 j.length 1).isEmpty) H) (tVar 2) (tVar 1)) [2]) tNil) [some (.str x), some (.str z), none] H1 Q' := fun Q' kq => by
      refine ⟨_, rfl, x, rfl, fun D hD => ?_⟩
      refine lc_some (H1 := H1) (D := D) (g := gName 2) (vs := [2]) (xs := (signs x).map V.str) walk_signs (fun v => ∃ b, v = V.bl b) (fun _ => trivial) (by rw [List.length_map, signs_len]; omega) (fun v hv acc Y N hY _ => ?_) (fun acc hacc hall => ?_)
      · obtain ⟨c, _, rfl⟩ := List.mem_map.mp hv
        exact ⟨rfl, tyesI ⟨_, rfl, _, rfl, c, z, rfl, rfl, hY _ ⟨_, rfl⟩⟩⟩
      · obtain ⟨bs, rfl⟩ := bools_of hall
        exact ⟨D, bs, rfl, SqL.of upd_same, kq _ _ (sm_new (L2.Same.refl H1) hD)⟩
    exact ⟨_, rfl, ite2 (fun _ => al _ fun H' b s => k _ _ (s1.trans s)) (fun _ => k _ _ s1)⟩
end
section
variable {P : Program} {w : World} {K : PySem.W.Frag} {mg : Str → Option Value} {base : Heap} {C S fI : Addr}
def spCheckClass (C : Addr) : Sp := fun vs H Q E => ∃ (x : Str) (i : Int), vs = [.str x, .int i] ∧ x.length ≤ 1000 ∧ (∀ H', L2.Same H H' → Q .non H') ∧ ∀ H' d, L2.Same H H' → E (.ref C) d H'
theorem scCheckClass : FnScope ["text", "at"] ["text", "at"] (defScope sCheckClass) := ⟨rfl, rfl, rfl, by decide +kernel, rfl, by decide +kernel, by decide +kernel⟩
theorem ok_checkclass {f fi : Addr} {fd ei eg : FuncData} (F : Fun K "check_class" "check_class" sCheckClass f fd) (T : Bi mg) (TG : GC K mg C S fI) (G_ginit : FnOk P w K mg base CX0 1 fI eg ["self", "rule", "at"] (spGInit C)) (B_ginit : Binds K eg ["self", "rule", "at"] [])
    (D_isclass : Df K mg "is_class" sIsClass ["text"] fi ei) (G_isclass : FnOk P w K mg base CX0 2 fi ei ["text"] spIsClass) : FnOk P w K mg base (L2.CX P w) 3 f fd ["text", "at"] (spCheckClass C) := by
  refine F.okX scCheckClass (fun vs H Q E h => ?_) (fun cdv A outer s H vs Q E hr h => ?_)
  · obtain ⟨x, i, rfl, _⟩ := h
    rfl
  · obtain ⟨x, i, rfl, hx, kq, ke⟩ := h
    refine ⟨_, (pss_one (ps_if (PW.pt (pw_or (pt_cmpR op_eq (pv 0) pe_str (nomark _)) (pw_or1 (pt_not (pt_val (pe_call G_isclass (hr.mono (by decide)) (by rfl) D_isclass.g D_isclass.F.kp D_isclass.b .nil pass0 (pa_cons (pv 0) pa_nil)))))))
      (pss_one (ps_raise rfl (takes_of rfl rfl rfl rfl) (pmk_oex TG.ox TG.iC TG.tI G_ginit (hr.mono (by decide)) B_ginit .nil pass0 (by rfl) TG.gC (pa_cons pe_str (pa_cons (pv 1) pa_nil)))))
      pss_nil)), ?_⟩
    refine ⟨_, rfl, rfl, _, rfl, ite2 (fun _ => ⟨_, rfl, mkG fun H2 d s => ke _ _ s⟩) (fun _ => ⟨_, rfl, x, rfl, hx, fun H1 b s1 => ⟨_, rfl, ?_⟩⟩)⟩
    cases b
    · exact iteT ⟨_, rfl, mkG fun H2 d s => ke _ _ (s1.trans s)⟩
    · exact iteF (kq _ s1)
end
end Ms
end TextG6
section TextG7
set_option linter.all false
set_option maxRecDepth 100000
set_option maxHeartbeats 2000000
namespace Ms
open PySem PySem.Spec PyProof.Rows L2
open PySem.Froz (SD sObj addTx TxOk tailTx is_str add_x sing)
def spIsName : Sp := fun vs H Q _ => ∃ x : Str, vs = [.str x] ∧ x.length ≤ 1000 ∧ ∀ H' b, L2.Same H H' → Q (.bl b) H'
section
variable {P : Program} {w : World} {K : PySem.W.Frag} {mg : Str → Option Value} {base : Heap} {C S fI : Addr}
theorem scIsName : FnScope ["text", "char"] ["text"] (defScope sIsName) := ⟨rfl, rfl, rfl, by decide +kernel, rfl, by decide +kernel, by decide +kernel⟩
theorem ok_isname {f : Addr} {fd : FuncData} (F : Fun K "is_name" "is_name" sIsName f fd) (T : Bi mg) : FnOk P w K mg base CX0 1 f fd ["text"] spIsName := by
  refine F.ok scIsName (fun vs H Q E h => ?_) (fun cdv A outer s H vs Q E hr h => ?_)
  · obtain ⟨x, rfl, _⟩ := h
    rfl
  · obtain ⟨x, rfl, hx, k⟩ := h
    refine ⟨_, (pss_cons (ps_if (PW.pt (pw_or (pt_cmpR op_lt (pe_callB call_len_str (by rfl) T.len PySem.boot_len (pa_cons (pv 0) pa_nil)) pe_int (nomark _)) (pw_or (pt_cmpR op_gt (pe_callB call_len_str (by rfl) T.len PySem.boot_len (pa_cons (pv 0) pa_nil)) pe_int (nomark _)) (pw_or1 (pt_not (pt_chain op_le_str op_le_str pe_str (pe_ix ix_str (pv 0) pe_int (fun _ _ => rfl)) pe_str))))))
      (pss_one (ps_ret pe_bl))
      pss_nil)
    (pss_one (ps_ret (pe_callB (cr_all rfl) (by rfl) T.all (by decide +kernel) (pa_cons (pe_lc (own := [("char", 1)]) (g := gName 1) (tt := tYes) rfl scIsName.nd (pi_str (pv 0)) (blkOk_by (N := ["text", "char"]) (sc := defScope sIsName) (by decide +kernel)) (fun _ _ _ _ _ => pg_name (i := 1) scIsName.nd rfl (Or.inl rfl)) (fun _ _ _ _ _ => pts_nil) (fun _ _ _ _ _ => (pe_or (pe_chain op_le_str op_le_str pe_str (pv 1) pe_str) (pe_one (pe_chain op_le_str op_le_str pe_str (pv 1) pe_str))))) pa_nil))))), ?_⟩
    have al : tCB (rAll K) (tCons (tLc (iStr (tVar 0)) (gName 1) tYes
        (tOrV (tChain (fun x y H Q => ∃ i j, x = V.str i ∧ y = V.str j ∧ Q (V.bl !decide (j.cps.toList < i.cps.toList)) H) (fun x y H Q => ∃ i j, x = V.str i ∧ y = V.str j ∧ Q (V.bl !decide (j.cps.toList < i.cps.toList)) H) (tC (V.str "a")) (tVar 1) (tC (V.str "z")))
          (tChain (fun x y H Q => ∃ i j, x = V.str i ∧ y = V.str j ∧ Q (V.bl !decide (j.cps.toList < i.cps.toList)) H) (fun x y H Q => ∃ i j, x = V.str i ∧ y = V.str j ∧ Q (V.bl !decide (j.cps.toList < i.cps.toList)) H) (tC (V.str "0")) (tVar 1) (tC (V.str "9")))) [1]) tNil) [some (.str x), none] H Q := by
      refine ⟨_, rfl, x, rfl, fun D hD => ?_⟩
      refine lc_some (H1 := H) (D := D) (g := gName 1) (vs := [1]) (xs := (signs x).map V.str) walk_signs (fun v => ∃ b, v = V.bl b) (fun _ => trivial) (by rw [List.length_map, signs_len]; omega) (fun v hv acc Y N hY _ => ?_) (fun acc hacc hall => ?_)
      · obtain ⟨c, _, rfl⟩ := List.mem_map.mp hv
        have second : tChain (fun x y H Q => ∃ i j, x = V.str i ∧ y = V.str j ∧ Q (V.bl !decide (j.cps.toList < i.cps.toList)) H) (fun x y H Q => ∃ i j, x = V.str i ∧ y = V.str j ∧ Q (V.bl !decide (j.cps.toList < i.cps.toList)) H) (tC (V.str "0")) (tVar 1) (tC (V.str "9")) [some (.str x), some (.str c)] (upd H D (.lst acc)) Y :=
          ⟨_, rfl, _, _, rfl, rfl, _, rfl, ite2 (fun _ => ⟨_, _, rfl, rfl, hY _ ⟨_, rfl⟩⟩) (fun _ => hY _ ⟨_, rfl⟩)⟩
        refine ⟨rfl, tyesI ⟨_, rfl, _, _, rfl, rfl, _, rfl, ite2 (fun _ => ⟨_, _, rfl, rfl, _, rfl, ite2 (fun _ => hY _ ⟨_, rfl⟩) (fun _ => second)⟩) (fun _ => ⟨_, rfl, iteF second⟩)⟩⟩
      · obtain ⟨bs, rfl⟩ := bools_of hall
        exact ⟨D, bs, rfl, SqL.of upd_same, k _ _ (sm_new (L2.Same.refl H) hD)⟩
    refine ⟨_, rfl, x, rfl, sz _ (by omega), _, _, rfl, rfl, _, rfl, ite2 (fun _ => k _ _ (L2.Same.refl H)) (fun h1 => ?_)⟩
    refine ⟨_, rfl, x, rfl, sz _ (by omega), _, _, rfl, rfl, _, rfl, ite2 (fun _ => k _ _ (L2.Same.refl H)) (fun h2 => ?_)⟩
    have hpos : 0 < x.cps.toList.length := by
      have : ¬ ((x.length : Nat) : Int) < 1 := fun z => h1 (decide_eq_true z)
      rw [Array.length_toList]
      show 0 < x.length
      omega
    have h0 : x.cps.toList[0]? = some x.cps.toList[0] := List.getElem?_eq_getElem hpos
    refine ⟨_, rfl, x, _, _, rfl, rfl, sz _ (by omega), (show atI x.cps.toList ((0 : Nat) : Int) = some _ from atI_nat h0), _, _, rfl, rfl, _, rfl, ite2 (fun _ => ⟨_, _, rfl, rfl, _, rfl, ?_⟩) (fun _ => ⟨_, rfl, iteT (k _ _ (L2.Same.refl H))⟩)⟩
    refine ite2 (fun _ => k _ _ (L2.Same.refl H)) (fun _ => al)
end
end Ms
end TextG7
section TextG8
set_option linter.all false
set_option maxRecDepth 100000
set_option maxHeartbeats 2000000
namespace Ms
open PySem PySem.Spec PyProof.Rows L2
def spRulesOf : Sp := fun vs H Q _ => ∃ (g : Addr) (n st : Str) (rs : List Ru), vs = [.ref g, .str n] ∧ GrAt H g st rs ∧ rs.length ≤ 30 ∧ (∃ r ∈ rs, r.2.1 = n) ∧
  ∀ H' p xs, L2.Same H H' → H' p = some (.lst xs) → xs.length ≤ 30 → (∀ v ∈ xs, ∃ i : Int, v = .int i) → xs ≠ [] → Q (.ref p) H'
section
variable {P : Program} {w : World} {K : PySem.W.Frag} {mg : Str → Option Value} {base : Heap} {C S fI : Addr}
theorem scRulesOf : FnScope ["grammar", "name", "at", "rule"] ["grammar", "name"] (defScope sRulesOf) := ⟨rfl, rfl, rfl, by decide +kernel, rfl, by decide +kernel, by decide +kernel⟩
theorem ok_rulesof {f : Addr} {fd : FuncData} (F : Fun K "rules_of" "rules_of" sRulesOf f fd) (T : Bi mg) : FnOk P w K mg base CX0 1 f fd ["grammar", "name"] spRulesOf := by
  refine F.ok scRulesOf (fun vs H Q E h => ?_) (fun cdv A outer s H vs Q E hr h => ?_)
  · obtain ⟨g, n, st, rs, rfl, _⟩ := h
    rfl
  · obtain ⟨g, n, st, rs, rfl, gr, h30, hn, k⟩ := h
    refine ⟨_, pss_one (ps_ret (pe_lc (own := [("at", 2), ("rule", 3)]) (wi := iEnum K (tCons (tOp (rIxT K) (tVar 0) (tC (.int 2))) tNil)) (g := gTup K 2 (gCons (gName 2) (gCons (gName 3) gNil))) (te := tVar 2) (tt := tTest (tOp rEq (tOp (rIxT K) (tVar 3) (tC (.int 1))) (tVar 1))) rfl scRulesOf.nd (pi_enum (by rfl) T.enumerate (pa_cons (pe_ix (r := rIxT K) ix_tup (pv 0) pe_int (fun _ _ => rfl)) pa_nil)) (blkOk_by (N := ["grammar", "name", "at", "rule"]) (sc := defScope sRulesOf) (by decide +kernel)) (fun _ _ _ _ _ => pg_tup rfl (pgs_cons (pg_name (i := 2) scRulesOf.nd rfl (Or.inl rfl)) (pgs_cons (pg_name (i := 3) scRulesOf.nd rfl (Or.inl rfl)) pgs_nil))) (fun _ _ _ _ _ => pts_one (pt_cmpR op_eq (pe_ix (r := rIxT K) ix_tup (pv 3) pe_int (fun _ _ => rfl)) (pv 1) (nomark _))) (fun _ _ _ _ _ => pv 2))), ?_⟩
    obtain ⟨pg, eg, Lr, eLr, hpr, hLr⟩ := gr
    subst eLr
    rw [List.length_map] at h30
    refine ⟨_, rfl, g, _, _, _, rfl, rfl, SqT.of eg, rfl, pg, _, rfl, SqL.of hpr, fun D hD => ?_⟩
    refine lc_it (walk_enum (K := K) (a := pg) (xs := Lr.map fun q => V.ref q.1)) (g := gTup K 2 (gCons (gName 2) (gCons (gName 3) gNil))) (vs := [2, 3]) (D := D) (H1 := H) (fun i H' => ∃ acc : List V, H' D = some (.lst acc) ∧ (∀ b o, H b = some o → H' b = some o) ∧ acc.length ≤ i ∧ (∀ v ∈ acc, ∃ k : Int, v = .int k) ∧ ((∃ q ∈ Lr.take i, q.2.2.1 = n) → acc ≠ [])) ⟨[], upd_same, (fun b o e => by rw [upd_ne (ne_of_none e hD)]; exact e), Nat.le_refl _, (fun v h => absurd h List.not_mem_nil), fun ⟨q, h, _⟩ => absurd h (by rw [List.take_zero]; exact List.not_mem_nil)⟩ ?_ ?_ ?_
    · rintro i H' _ ⟨acc, _, h2, _⟩
      exact SqL.of (h2 _ _ hpr)
    · rintro i x Ha Hb hi ⟨acc, h1, h2, h3, h4, h5⟩ ⟨T', x1, x2, rfl, hT, rfl, e1, e2⟩
      obtain rfl := Option.some.inj e1
      obtain ⟨q, hq, rfl⟩ := get_map e2
      rw [List.length_map] at hi
      obtain ⟨s0, hs0, _⟩ := hLr q (List.mem_of_getElem? hq)
      have nTD : T' ≠ D := fun z => by rw [z, h1] at hT; cases hT
      have keep : ∀ b o, Ha b = some o → upd Ha T' (.tup [.int (i : Nat), .ref q.1]) b = some o := fun b o e => by rw [upd_ne (ne_of_none e hT)]; exact e
      refine ⟨T', _, rfl, SqT.of upd_same, rfl, _, _, rfl, _, _, rfl, rfl, rfl, ?_⟩
      have tk : ∀ p, p ∈ Lr.take (i + 1) → p ∈ Lr.take i ∨ p = q := fun p hp => by
        rw [List.take_add_one, hq] at hp
        rcases List.mem_append.mp hp with hp | hp
        · exact .inl hp
        · exact .inr (List.mem_singleton.mp hp)
      refine ⟨_, rfl, q.1, _, _, _, rfl, rfl, SqT.of (keep _ _ (h2 _ _ hs0)), rfl, _, rfl, rfl, _, rfl, ite2 (fun hc => ?_) (fun hc => ?_)⟩
      · refine ⟨_, rfl, acc, keep _ _ h1, szlt _ (by omega), acc ++ [.int (i : Nat)], upd_same, (fun b o e => by rw [upd_ne (ne_of_none e hD)]; exact keep _ _ (h2 _ _ e)), by rw [List.length_append]; exact Nat.succ_le_succ h3, fun v hv => ?_, fun _ z => by cases acc <;> cases z⟩
        rcases List.mem_append.mp hv with hv | hv
        · exact h4 v hv
        · exact ⟨_, List.mem_singleton.mp hv⟩
      · refine ⟨acc, keep _ _ h1, fun b o e => keep _ _ (h2 _ _ e), by omega, h4, fun ⟨p, hp, e⟩ => ?_⟩
        rcases tk p hp with hp | hp
        · exact h5 ⟨p, hp, e⟩
        · rw [hp] at e
          exact absurd (decide_eq_true (congrArg V.str e)) hc
    · rintro H' ⟨acc, h1, h2, h3, h4, h5⟩
      rw [List.length_map] at h3
      refine k _ D acc h2 h1 (by omega) h4 (h5 ?_)
      obtain ⟨r, hr, e⟩ := hn
      obtain ⟨q, hq, rfl⟩ := List.mem_map.mp hr
      exact ⟨q, by rw [List.length_map, List.take_length]; exact hq, e⟩
end
end Ms
end TextG8
section TextG9
set_option linter.all false
set_option maxRecDepth 100000
set_option maxHeartbeats 2000000
namespace Ms
open PySem PySem.Spec PyProof.Rows L2
def spCheckSym (C : Addr) : Sp := fun vs H Q E => ∃ (p kl : Addr) (i : Int) (a b : Str) (kn : List Str), vs = [.ref p, .int i, .ref kl] ∧ H p = some (.tup [.str a, .str b]) ∧ b.length ≤ 1000 ∧ H kl = some (.lst (kn.map V.str)) ∧ kn.length ≤ 1000 ∧ (∀ H', L2.Same H H' → Q .non H') ∧ ∀ H' d, L2.Same H H' → E (.ref C) d H'
section
variable {P : Program} {w : World} {K : PySem.W.Frag} {mg : Str → Option Value} {base : Heap} {C S fI : Addr}
theorem scCheckSym : FnScope ["symbol", "at", "known"] ["symbol", "at", "known"] (defScope sCheckSym) := ⟨rfl, rfl, rfl, by decide +kernel, rfl, by decide +kernel, by decide +kernel⟩
theorem ok_checksym {f fi fc fk : Addr} {fd ei ec ek eg : FuncData} (F : Fun K "check_symbol" "check_symbol" sCheckSym f fd) (T : Bi mg) (TG : GC K mg C S fI) (G_ginit : FnOk P w K mg base CX0 1 fI eg ["self", "rule", "at"] (spGInit C)) (B_ginit : Binds K eg ["self", "rule", "at"] [])
    (D_isclass : Df K mg "is_class" sIsClass ["text"] fi ei) (G_isclass : FnOk P w K mg base CX0 2 fi ei ["text"] spIsClass) (D_canon : Df K mg "canon" sCanon ["text"] fc ec) (G_canon : FnOk P w K mg base CX0 1 fc ec ["text"] spCanon)
    (D_checkclass : Df K mg "check_class" sCheckClass ["text", "at"] fk ek) (G_checkclass : FnOk P w K mg base (L2.CX P w) 3 fk ek ["text", "at"] (spCheckClass C)) : FnOk P w K mg base (L2.CX P w) 4 f fd ["symbol", "at", "known"] (spCheckSym C) := by
  refine F.okX scCheckSym (fun vs H Q E h => ?_) (fun cdv A outer s H vs Q E hr h => ?_)
  · obtain ⟨p, kl, i, a, b, kn, rfl, _⟩ := h
    rfl
  · obtain ⟨p, kl, i, a, b, kn, rfl, hp, hb, hk, hkn, kq, ke⟩ := h
    refine ⟨_, (pss_one (ps_if (pt_cmpR op_eq (pe_ix ix_tup (pv 0) pe_int (fun _ _ => rfl)) pe_str (nomark _))
      (pss_one (ps_if (PW.pt (pw_or (pt_cmpR op_eq (pe_ix ix_tup (pv 0) pe_int (fun _ _ => rfl)) pe_str (nomark _)) (pw_or1 (pt_not (pt_val (pe_call G_isclass (hr.mono (by decide)) (by rfl) D_isclass.g D_isclass.F.kp D_isclass.b .nil pass0 (pa_cons (pe_call G_canon (hr.mono (by decide)) (by rfl) D_canon.g D_canon.F.kp D_canon.b .nil pass0 (pa_cons (pe_ix ix_tup (pv 0) pe_int (fun _ _ => rfl)) pa_nil)) pa_nil)))))))
        (pss_one (ps_raise rfl (takes_of rfl rfl rfl rfl) (pmk_oex TG.ox TG.iC TG.tI G_ginit (hr.mono (by decide)) B_ginit .nil pass0 (by rfl) TG.gC (pa_cons pe_str (pa_cons (pv 1) pa_nil)))))
        pss_nil))
      (pss_one (ps_if (pt_cmpR op_in_seq (pe_ix ix_tup (pv 0) pe_int (fun _ _ => rfl)) (pe_tup (pa_cons pe_str (pa_cons pe_str pa_nil))) (by rfl))
        (pss_one (ps_expr (pe_call G_checkclass (hr.mono (by decide)) (by rfl) D_checkclass.g D_checkclass.F.kp D_checkclass.b .nil (passes_call (takes_of rfl rfl rfl rfl) (fun _ _ _ _ h => h)) (pa_cons (pe_ix ix_tup (pv 0) pe_int (fun _ _ => rfl)) (pa_cons (pv 1) pa_nil)))))
        (pss_one (ps_if (pt_cmpR op_notIn_seq (pe_ix ix_tup (pv 0) pe_int (fun _ _ => rfl)) (pv 2) (by rfl))
          (pss_one (ps_raise rfl (takes_of rfl rfl rfl rfl) (pmk_oex TG.ox TG.iC TG.tI G_ginit (hr.mono (by decide)) B_ginit .nil pass0 (by rfl) TG.gC (pa_cons pe_str (pa_cons (pv 1) pa_nil)))))
          pss_nil)))))), ?_⟩
    refine ⟨_, rfl, p, _, _, _, rfl, rfl, SqT.of hp, rfl, rfl, _, rfl, ite2 (fun _ => ?_) (fun _ => ?_)⟩
    · refine ⟨_, rfl, p, _, _, _, rfl, rfl, SqT.of hp, rfl, rfl, _, rfl, ite2 (fun _ => ⟨_, rfl, mkG fun H2 d s => ke _ _ s⟩) (fun _ => ?_)⟩
      refine ⟨_, rfl, p, _, _, _, rfl, rfl, SqT.of hp, rfl, b, rfl, hb, fun H1 y s1 hy => ⟨y, rfl, hy, fun H2 c s2 => ⟨_, rfl, ?_⟩⟩⟩
      cases c
      · exact iteT ⟨_, rfl, mkG fun H2 d s => ke _ _ ((s1.trans s2).trans s)⟩
      · exact iteF (kq _ (s1.trans s2))
    · refine ⟨_, rfl, p, _, _, _, rfl, rfl, SqT.of hp, rfl, sz2, fun t ht => ?_⟩
      have s1 : L2.Same H (upd H t (.tup [.str "class", .str "run"])) := sm_new (L2.Same.refl H) ht
      have e1 : upd H t (.tup [.str "class", .str "run"]) t = some (.tup [.str "class", .str "run"]) := upd_same
      generalize upd H t (.tup [.str "class", .str "run"]) = H1 at s1 e1 ⊢
      have hp1 := s1 _ _ hp
      have hk1 := s1 _ _ hk
      refine ⟨t, _, rfl, .inr (SqT.of e1), rfl, rfl, _, rfl, ite2 (fun _ => ?_) (fun _ => ?_)⟩
      · exact ⟨_, rfl, p, _, _, _, rfl, rfl, SqT.of hp1, rfl, _, rfl, b, i, rfl, hb, fun H2 s2 => kq _ (s1.trans s2), fun H2 d s2 => ke _ _ (s1.trans s2)⟩
      · refine ⟨_, rfl, p, _, _, _, rfl, rfl, SqT.of hp1, rfl, _, rfl, kl, _, rfl, .inl (SqL.of hk1), rfl, flat_strs' kn, _, rfl, ite2 (fun _ => ⟨_, rfl, mkG fun H2 d s => ke _ _ (s1.trans s)⟩) (fun _ => kq _ s1)⟩
end
end Ms
end TextG9
section TextGa
set_option linter.all false
set_option maxRecDepth 100000
set_option maxHeartbeats 2000000
namespace Ms
open PySem PySem.Spec PyProof.Rows L2
def spNullable : Sp := fun vs H Q _ => ∃ (g : Addr) (st : Str) (rs : List Ru) (ns : List Str), vs = [.ref g] ∧ GrAt H g st rs ∧ DGr st rs ns ∧ ∀ H' p (f : List Str), L2.Same H H' → H' p = some (.lst (f.map V.str)) → f.length ≤ 3 → Q (.ref p) H'
section
variable {P : Program} {w : World} {K : PySem.W.Frag} {mg : Str → Option Value} {base : Heap} {C S fI : Addr}
theorem scNullable : FnScope ["grammar", "found", "going", "rule", "symbol"] ["grammar"] (defScope sNullable) := ⟨rfl, rfl, rfl, by decide +kernel, rfl, by decide +kernel, by decide +kernel⟩
theorem ok_nullable {f : Addr} {fd : FuncData} (F : Fun K "nullable" "nullable" sNullable f fd) (T : Bi mg) : FnOk P w K mg base CX0 1 f fd ["grammar"] spNullable := by
  refine F.ok scNullable (fun vs H Q E h => ?_) (fun cdv A outer s H vs Q E hr h => ?_)
  · obtain ⟨g, st, rs, ns, rfl, _⟩ := h
    rfl
  · obtain ⟨g, st, rs, ns, rfl, gr, dg, k⟩ := h
    refine ⟨_, (pss_cons (ps_set (i := 1) scNullable.nd rfl (Or.inr rfl) (pe_lst pa_nil))
    (pss_cons (ps_set (i := 2) scNullable.nd rfl (Or.inl rfl) pe_bl)
    (pss_cons (ps_while PassesOwn.never (pt_val (pv 2))
      (pss_cons (ps_set (i := 2) scNullable.nd rfl (Or.inl rfl) pe_bl)
      (pss_one (ps_for PassesOwn.never rfl (pi_list (pe_ix ix_tup (pv 0) pe_int (fun _ _ => rfl))) (pg_name (i := 3) scNullable.nd rfl (Or.inl rfl))
        (pss_one (ps_if (PW.pt (pw_and (pt_cmpR op_notIn_seq (pe_ix ix_tup (pv 3) pe_int (fun _ _ => rfl)) (pv 1) (by rfl)) (pw_and1 (pt_val (pe_callB (cr_all rfl) (by rfl) T.all (by decide +kernel) (pa_cons (pe_lc (own := [("symbol", 4)]) (g := gName 4) (tt := tYes) rfl scNullable.nd (pi_list (pe_ix ix_tup (pv 3) pe_int (fun _ _ => rfl))) (blkOk_by (N := ["grammar", "found", "going", "rule", "symbol"]) (sc := defScope sNullable) (by decide +kernel)) (fun _ _ _ _ _ => pg_name (i := 4) scNullable.nd rfl (Or.inl rfl)) (fun _ _ _ _ _ => pts_nil) (fun _ _ _ _ _ => (pe_and (pe_cmpR op_eq (pe_ix (r := rIxT K) ix_tup (pv 4) pe_int (fun _ _ => rfl)) pe_str (nomark _)) (pe_one (pe_cmpR (r := rIn K false) op_in_seq (pe_ix (r := rIxT K) ix_tup (pv 4) pe_int (fun _ _ => rfl)) (pv 1) (by rfl)))))) pa_nil))))))
          (pss_cons (ps_expr (pe_bm PySem.F.plainAttrs_list PySem.F.slot_list_append PySem.F.type_list_append mt_append (pv 1) (pa_cons (pe_ix ix_tup (pv 3) pe_int (fun _ _ => rfl)) pa_nil)))
          (pss_one (ps_set (i := 2) scNullable.nd rfl (Or.inl rfl) pe_bl)))
          pss_nil))))))
    (pss_one (ps_ret (pe_callB (cr_sortG (fun q : Str => PyData.str q) hr.units) (by rfl) T.sorted (by decide +kernel) (pa_cons (pv 1) pa_nil))))))), ?_⟩
    obtain ⟨pg, eg, Lr, eLr, hpr, hLr⟩ := gr
    have lL : Lr.length = rs.length := by rw [← eLr, List.length_map]
    have few := dg.few
    have ns3 : ns.length ≤ 3 := by
      obtain ⟨m, hm, e⟩ := dg.names
      rw [e, List.length_take]
      omega
    refine ⟨sz0, fun fl hfl => ?_⟩
    have s0 : L2.Same H (upd H fl (.lst [])) := sm_upd (L2.Same.refl H) hfl
    refine ⟨fun mm σ H' => ∃ (f : List Str) (b : Bool) (v3 : Option V), σ = [some (.ref g), some (.ref fl), some (.bl b), v3, none] ∧ L2.Same H H' ∧ H' fl = some (.lst (f.map V.str)) ∧ f.Nodup ∧ (∀ n ∈ f, n ∈ ns) ∧ mm = (if b = true then 1 else 0) + (3 - f.length),
      ⟨4, [], true, none, rfl, s0, upd_same, List.nodup_nil, fun n h => absurd h List.not_mem_nil, rfl⟩, ?_⟩
    rintro mm σ H1 ⟨f0, b, v3, rfl, s1, hf0, nd0, sub0, rfl⟩
    have few0 : f0.length ≤ 3 := Nat.le_trans (Md.nodup_le nd0 sub0) ns3
    refine ⟨_, rfl, _, rfl, ?_⟩
    cases b with
    | false =>
      refine iteF ?_
      refine ⟨_, rfl, fl, f0.map fun q => (V.str q, q), rfl, SqL.of (by rw [List.map_map]; exact hf0), ask_txt (by omega) fun ks p hp _ hnp => k _ p ks (sm_new s1 hnp) upd_same (by rw [hp.length_eq]; exact few0)⟩
    | true =>
      refine iteT ⟨_, fun _ _ z => z, ?_⟩
      refine ⟨_, rfl, g, _, _, _, rfl, rfl, SqT.of (s1 _ _ eg), rfl, pg, rfl, ⟨_, SqL.of (s1 _ _ hpr)⟩, ?_⟩
      refine for_list (xs := Lr.map fun q => V.ref q.1) (fun j σ H' => ∃ (f : List Str) (b : Bool) (v3 : Option V), σ = [some (.ref g), some (.ref fl), some (.bl b), v3, none] ∧ L2.Same H H' ∧ H' fl = some (.lst (f.map V.str)) ∧ f.Nodup ∧ (∀ n ∈ f, n ∈ ns) ∧ f0.length ≤ f.length ∧ (b = true → f0.length < f.length)) ?_ ?_ ?_ ?_
      · exact ⟨f0, false, v3, rfl, s1, hf0, nd0, sub0, Nat.le_refl _, fun z => by cases z⟩
      · rintro j σ H2 _ ⟨f, b, v3, rfl, s2, _⟩
        exact SqL.of (s2 _ _ hpr)
      · rintro j x σ H2 hx ⟨f, b, v3, rfl, s2, hf2, nd2, sub2, le2, lt2⟩
        obtain ⟨q, hq, rfl⟩ := get_map hx
        obtain ⟨qa, lab, rn, ss⟩ := q
        have hqm := List.mem_of_getElem? hq
        obtain ⟨ps, ers, L, eL, hps, hL⟩ := hLr _ hqm
        have hrsm : (lab, rn, ss) ∈ rs := by rw [← eLr]; exact List.mem_map.mpr ⟨_, hqm, rfl⟩
        have eL' : L.map (·.2) = ss := eL
        have hsl : L.length ≤ 3 := by
          have h1 : ss.length ≤ 3 := (dg.rule _ hrsm).2.1
          rw [← eL', List.length_map] at h1
          exact h1
        have few2 : f.length ≤ 3 := Nat.le_trans (Md.nodup_le nd2 sub2) ns3
        refine ⟨_, rfl, qa, _, _, _, rfl, rfl, SqT.of (s2 _ _ ers), rfl, _, rfl, fl, _, rfl, .inl (SqL.of hf2), rfl, flat_strs' _, ?_⟩
        rw [inV_strs]
        refine ⟨_, rfl, ite2 (fun c => ?_) (fun c => ?_)⟩
        · have c : rn ∉ f := by simpa using c
          refine ⟨_, rfl, qa, _, _, _, rfl, rfl, SqT.of (s2 _ _ ers), rfl, ps, rfl, ⟨_, SqL.of (s2 _ _ hps)⟩, fun D hD => ?_⟩
          have nD : ∀ {b o}, H2 b = some o → ∀ acc, upd H2 D (.lst acc) b = some o := fun e acc => by rw [upd_ne (ne_of_none e hD)]; exact e
          refine lc_some (H1 := H2) (D := D) (g := gName 4) (vs := [4]) (xs := L.map fun q => V.ref q.1) (walk_list (K := K)) (fun v => ∃ b, v = V.bl b) (fun acc => SqL.of (nD (s2 _ _ hps) acc)) (by rw [List.length_map]; omega) (fun v hv acc Y N hY _ => ?_) (fun acc hacc hall => ?_)
          · obtain ⟨sq, hsq, rfl⟩ := List.mem_map.mp hv
            have hsy : H2 sq.1 = some (.tup (syV sq.2)) := s2 _ _ (hL sq hsq)
            refine ⟨rfl, tyesI ⟨_, rfl, sq.1, _, _, _, rfl, rfl, SqT.of (nD hsy acc), rfl, rfl, _, rfl, ite2 (fun _ => ?_) (fun _ => hY _ ⟨_, rfl⟩)⟩⟩
            exact ⟨_, rfl, sq.1, _, _, _, rfl, rfl, SqT.of (nD hsy acc), rfl, _, rfl, fl, _, rfl, .inl (SqL.of (nD hf2 acc)), rfl, flat_strs' _, hY _ ⟨_, rfl⟩⟩
          · obtain ⟨bs, rfl⟩ := bools_of hall
            have s3 : L2.Same H2 (upd H2 D (.lst (bs.map V.bl))) := fun b o e => nD e _
            have eD : upd H2 D (.lst (bs.map V.bl)) D = some (.lst (bs.map V.bl)) := upd_same
            generalize upd H2 D (.lst (bs.map V.bl)) = H3 at s3 eD
            refine ⟨D, bs, rfl, SqL.of eD, _, rfl, ite2 (fun _ => ?_) (fun _ => ?_)⟩
            · refine ⟨_, rfl, .inl ⟨rfl, _, SqL.of (s3 _ _ hf2)⟩, _, rfl, qa, _, _, _, rfl, rfl, SqT.of (s3 _ _ (s2 _ _ ers)), rfl, fl, _, _, rfl, rfl, s3 _ _ hf2, by rw [List.length_map]; exact szlt _ (by omega), ?_⟩
              refine ⟨f ++ [rn], true, _, rfl, fun b o e => ?_, by rw [upd_same, List.map_append]; rfl, ?_, fun n hn => ?_, by rw [List.length_append]; omega, fun _ => by rw [List.length_append]; show _ < _ + 1; omega⟩
              · rw [upd_ne (ne_of_none e hfl)]; exact s3 _ _ (s2 _ _ e)
              · exact List.nodup_append.mpr ⟨nd2, List.nodup_cons.mpr ⟨List.not_mem_nil, List.nodup_nil⟩, fun a ha b hb e => by rw [List.mem_singleton.mp hb] at e; exact c (e ▸ ha)⟩
              · rcases List.mem_append.mp hn with hn | hn
                · exact sub2 n hn
                · rw [List.mem_singleton.mp hn]; exact (dg.rule _ hrsm).1
            · exact ⟨f, b, _, rfl, fun b o e => s3 _ _ (s2 _ _ e), s3 _ _ hf2, nd2, sub2, le2, lt2⟩
        · exact ⟨f, b, _, rfl, s2, hf2, nd2, sub2, le2, lt2⟩
      · rintro σ H2 ⟨f, b, v3, rfl, s2, hf2, nd2, sub2, le2, lt2⟩
        have few2 : f.length ≤ 3 := Nat.le_trans (Md.nodup_le nd2 sub2) ns3
        refine ⟨_, ?_, f, b, v3, rfl, s2, hf2, nd2, sub2, rfl⟩
        cases b with
        | false => show 0 + (3 - f.length) < 1 + (3 - f0.length); omega
        | true => have := lt2 rfl; show 1 + (3 - f.length) < 1 + (3 - f0.length); omega
end
end Ms
end TextGa
section TextGb
set_option linter.all false
set_option maxRecDepth 100000
set_option maxHeartbeats 2000000
namespace Ms
open PySem PySem.Spec PyProof.Rows L2
/-- a list of pairs of names -/
def PrsAt (H : Hp) (p : Addr) (ns : List Str) (m : Nat) : Prop := ∃ L : List (Addr × Str × Str), H p = some (.lst (L.map fun q => V.ref q.1)) ∧ (∀ q ∈ L, H q.1 = some (.tup [.str q.2.1, .str q.2.2]) ∧ q.2.1 ∈ ns ∧ q.2.2 ∈ ns) ∧ L.length ≤ m
def spSteps : Sp := fun vs H Q _ => ∃ (g : Addr) (st : Str) (rs : List Ru) (ns : List Str), vs = [.ref g] ∧ GrAt H g st rs ∧ DGr st rs ns ∧ ∀ H' p, L2.Same H H' → PrsAt H' p ns 64 → Q (.ref p) H'
/-- such a set, opened for sorted -/
theorem setU_open {P : Program} {w : World} {h : Heap} {a : Addr} {ks : List (Addr × List Str)} (R : ∃ es ep t, SetT P w ks h a es ep t) : ∃ (es : Array (Int × Value)) (ep : Nat) (t : SetTable), SetAt h a es ep t ∧ t.fits es.size = true ∧ es.size < scanBound ∧ Ris t.place.toList ∧
    (w.params.followText "set-order" = true ∨ t.led = true) ∧ (∀ v ∈ es.toList.map (·.2), ∃ p ∈ ks, v = Value.ref p.1) ∧ es.size < 64 := by
  obtain ⟨es, ep, t, r⟩ := R
  obtain ⟨o, ho, hex, hd⟩ := r.ob
  refine ⟨es, ep, t, ⟨o, ho, hex.1, hd⟩, r.fits, by have := scb; have := r.few; omega, r.tab.ris, r.led, fun v hv => ?_, r.few⟩
  obtain ⟨e, he, rfl⟩ := List.mem_map.mp hv
  obtain ⟨p, hp, ee⟩ := r.row e he
  exact ⟨p, hp, by rw [ee]⟩
theorem refs_pick {L : List (Addr × Str × Str)} : ∀ {us : List Value}, (∀ u ∈ us, ∃ q ∈ L, u = Value.ref q.1) → ∃ M : List (Addr × Str × Str), Vals (M.map fun q => V.ref q.1) us ∧ ∀ q ∈ M, q ∈ L
  | [], _ => ⟨[], .nil, fun q h => absurd h List.not_mem_nil⟩
  | u :: us, h => by
    obtain ⟨q, hq, rfl⟩ := h u List.mem_cons_self
    obtain ⟨M, r, hM⟩ := refs_pick fun v hv => h v (List.mem_cons_of_mem _ hv)
    exact ⟨q :: M, .cons rfl r, fun p hp => (List.mem_cons.mp hp).elim (fun e => e ▸ hq) (hM p)⟩
theorem pairs_pick {L : List (Addr × Str × Str)} : ∀ {M : List (V × (Str × Str))}, (∀ q ∈ M, ∃ r ∈ L, q = (V.ref r.1, r.2)) → ∃ N : List (Addr × Str × Str), M.map (·.1) = N.map (fun q => V.ref q.1) ∧ (∀ q ∈ N, q ∈ L) ∧ N.length = M.length
  | [], _ => ⟨[], rfl, (fun q h => absurd h List.not_mem_nil), rfl⟩
  | m :: M, h => by
    obtain ⟨q, hq, rfl⟩ := h m List.mem_cons_self
    obtain ⟨N, r, hN, hl⟩ := pairs_pick fun v hv => h v (List.mem_cons_of_mem _ hv)
    exact ⟨q :: N, by rw [List.map_cons, List.map_cons, r], (fun p hp => (List.mem_cons.mp hp).elim (fun e => e ▸ hq) (hN p)), by rw [List.length_cons, List.length_cons, hl]⟩
section
variable {P : Program} {w : World} {K : PySem.W.Frag} {mg : Str → Option Value} {base : Heap} {C S fI : Addr}
theorem scSteps : FnScope ["grammar", "empty", "pairs", "rule", "at", "symbol", "others", "other"] ["grammar"] (defScope sSteps) := ⟨rfl, rfl, rfl, by decide +kernel, rfl, by decide +kernel, by decide +kernel⟩
theorem ok_steps {f fn : Addr} {fd en : FuncData} (F : Fun K "steps_alone" "steps_alone" sSteps f fd) (T : Bi mg) (D_nullable : Df K mg "nullable" sNullable ["grammar"] fn en) (G_nullable : FnOk P w K mg base CX0 1 fn en ["grammar"] spNullable) : FnOk P w K mg base CX0 2 f fd ["grammar"] spSteps := by
  refine F.ok scSteps (fun vs H Q E h => ?_) (fun cdv A outer s H vs Q E hr h => ?_)
  · obtain ⟨g, st, rs, ns, rfl, _⟩ := h
    rfl
  · obtain ⟨g, st, rs, ns, rfl, gr, dg, k⟩ := h
    refine ⟨_, (pss_cons (ps_set (i := 1) scSteps.nd rfl (Or.inr rfl) (pe_call G_nullable (hr.mono (by decide)) (by rfl) D_nullable.g D_nullable.F.kp D_nullable.b .nil pass0 (pa_cons (pv 0) pa_nil)))
    (pss_cons (ps_set (i := 2) scSteps.nd rfl (Or.inl rfl) (pe_lst pa_nil))
    (pss_cons (ps_for PassesOwn.never rfl (pi_list (pe_ix ix_tup (pv 0) pe_int (fun _ _ => rfl))) (pg_name (i := 3) scSteps.nd rfl (Or.inl rfl))
      (pss_one (ps_for PassesOwn.never rfl (pi_enum rfl T.enumerate (pa_cons (pe_ix ix_tup (pv 3) pe_int (fun _ _ => rfl)) pa_nil)) (pg_tup rfl (pgs_cons (pg_name (i := 4) scSteps.nd rfl (Or.inl rfl)) (pgs_cons (pg_name (i := 5) scSteps.nd rfl (Or.inl rfl)) pgs_nil)))
        (pss_cons (ps_set (i := 6) scSteps.nd rfl (Or.inl rfl) (pe_op op_cat (pe_slice sl_list (pe_ix ix_tup (pv 3) pe_int (fun _ _ => rfl)) po_none (po_some (pv 4))) (pe_slice sl_list (pe_ix ix_tup (pv 3) pe_int (fun _ _ => rfl)) (po_some (pe_op op_add (pv 4) pe_int)) po_none)))
        (pss_one (ps_if (PW.pt (pw_and (pt_cmpR op_eq (pe_ix ix_tup (pv 5) pe_int (fun _ _ => rfl)) pe_str (nomark _)) (pw_and1 (pt_val (pe_callB (cr_all rfl) (by rfl) T.all (by decide +kernel) (pa_cons (pe_lc (own := [("other", 7)]) (g := gName 7) (tt := tYes) rfl scSteps.nd (pi_list (pv 6)) (blkOk_by (N := ["grammar", "empty", "pairs", "rule", "at", "symbol", "others", "other"]) (sc := defScope sSteps) (by decide +kernel)) (fun _ _ _ _ _ => pg_name (i := 7) scSteps.nd rfl (Or.inl rfl)) (fun _ _ _ _ _ => pts_nil) (fun _ _ _ _ _ => (pe_and (pe_cmpR op_eq (pe_ix (r := rIxT K) ix_tup (pv 7) pe_int (fun _ _ => rfl)) pe_str (nomark _)) (pe_one (pe_cmpR (r := rIn K false) op_in_seq (pe_ix (r := rIxT K) ix_tup (pv 7) pe_int (fun _ _ => rfl)) (pv 1) (by rfl)))))) pa_nil))))))
          (pss_one (ps_expr (pe_bm PySem.F.plainAttrs_list PySem.F.slot_list_append PySem.F.type_list_append mt_append (pv 2) (pa_cons (pe_tup (pa_cons (pe_ix ix_tup (pv 3) pe_int (fun _ _ => rfl)) (pa_cons (pe_ix ix_tup (pv 5) pe_int (fun _ _ => rfl)) pa_nil))) pa_nil))))
          pss_nil))))))
    (pss_one (ps_ret (pe_callB (cr_sortS (fun q : Str × Str => PyData.tuple [.str q.1, .str q.2]) rfl hr.units) (by rfl) T.sorted (by decide +kernel) (pa_cons (pe_callTy (cr_setOfU rfl hr.units) (by rfl) T.set (by decide +kernel) (pa_cons (pv 2) pa_nil)) pa_nil))))))), ?_⟩
    obtain ⟨pg, eg, Lr, eLr, hpr, hLr⟩ := id gr
    have lL : Lr.length = rs.length := by rw [← eLr, List.length_map]
    have few := dg.few
    refine ⟨_, rfl, g, st, rs, ns, rfl, gr, dg, fun H1 em fe s1 he fe3 => ?_⟩
    refine ⟨sz0, fun pl hpl => ?_⟩
    have hpl0 : H pl = none := s1.free hpl
    have s2 : L2.Same H (upd H1 pl (.lst [])) := sm_new s1 hpl
    have he2 : upd H1 pl (.lst []) em = some (.lst (fe.map V.str)) := by rw [upd_ne (ne_of_none he hpl)]; exact he
    have e2 : upd H1 pl (.lst []) pl = some (.lst []) := upd_same
    have nep : em ≠ pl := ne_of_none he hpl
    generalize upd H1 pl (.lst []) = H2 at s2 he2 e2 ⊢
    -- what stands all the time
    let St : Nat → Hp → Prop := fun m H' => L2.Same H H' ∧ H' em = some (.lst (fe.map V.str)) ∧ PrsAt H' pl ns m
    have St.up : ∀ {m H' t o}, St m H' → H' t = none → St m (upd H' t o) := fun {m H' t o} ⟨a1, a2, L, b1, b2, b3⟩ ht =>
      ⟨sm_new a1 ht, by rw [upd_ne (ne_of_none a2 ht)]; exact a2, L, by rw [upd_ne (ne_of_none b1 ht)]; exact b1, fun q hq => ⟨by rw [upd_ne (ne_of_none (b2 q hq).1 ht)]; exact (b2 q hq).1, (b2 q hq).2⟩, b3⟩
    refine ⟨_, rfl, g, _, _, _, rfl, rfl, SqT.of (s2 _ _ eg), rfl, pg, rfl, ⟨_, SqL.of (s2 _ _ hpr)⟩, ?_⟩
    refine for_list (xs := Lr.map fun q => V.ref q.1) (fun j σ H' => ∃ v3 v4 v5 v6 : Option V, σ = [some (.ref g), some (.ref em), some (.ref pl), v3, v4, v5, v6, none] ∧ St (3 * j) H') ?_ ?_ ?_ ?_
    · exact ⟨none, none, none, none, rfl, s2, he2, [], e2, fun q h => absurd h List.not_mem_nil, Nat.zero_le _⟩
    · rintro j σ H3 _ ⟨v3, v4, v5, v6, rfl, s3, _⟩
      exact SqL.of (s3 _ _ hpr)
    · rintro j x σ H3 hx ⟨v3, v4, v5, v6, rfl, st3⟩
      obtain ⟨q, hq, rfl⟩ := get_map hx
      obtain ⟨qa, lab, rn, ss⟩ := q
      have hqm := List.mem_of_getElem? hq
      obtain ⟨ps, ers, L, eL, hps, hL⟩ := hLr _ hqm
      have hj6 : j < 6 := by have := (List.getElem?_eq_some_iff.mp hq).1; omega
      have hrsm : (lab, rn, ss) ∈ rs := by rw [← eLr]; exact List.mem_map.mpr ⟨_, hqm, rfl⟩
      have eL' : L.map (·.2) = ss := eL
      have hsl : L.length ≤ 3 := by
        have h1 : ss.length ≤ 3 := (dg.rule _ hrsm).2.1
        rw [← eL', List.length_map] at h1
        exact h1
      refine ⟨_, rfl, qa, _, _, _, rfl, rfl, SqT.of (st3.1 _ _ ers), rfl, ps, _, rfl, SqL.of (st3.1 _ _ hps), ?_⟩
      refine for_it (walk_enum (K := K) (a := ps) (xs := L.map fun q => V.ref q.1)) (fun i σ H' => ∃ v4 v5 v6 : Option V, σ = [some (.ref g), some (.ref em), some (.ref pl), some (.ref qa), v4, v5, v6, none] ∧ St (3 * j + i) H') ⟨v4, v5, v6, rfl, st3⟩ ?_ ?_ ?_
      · rintro i σ H' _ ⟨_, _, _, _, st, _⟩
        exact SqL.of (st _ _ hps)
      · rintro i x σ Ha Hb hi ⟨v4, v5, v6, rfl, sta⟩ ⟨T', x1, x2, rfl, hT, rfl, e1, e2⟩
        obtain rfl := Option.some.inj e1
        obtain ⟨sq, hsq, rfl⟩ := get_map e2
        have hsqm := List.mem_of_getElem? hsq
        rw [List.length_map] at hi
        have stb : St (3 * j + i) (upd Ha T' (.tup [.int (i : Nat), .ref sq.1])) := St.up sta hT
        refine ⟨T', _, rfl, SqT.of upd_same, rfl, _, _, rfl, _, _, rfl, rfl, ?_⟩
        generalize upd Ha T' (.tup [.int (i : Nat), .ref sq.1]) = Hc at stb ⊢
        refine ⟨_, rfl, qa, _, _, _, rfl, rfl, SqT.of (stb.1 _ _ ers), rfl, _, rfl, _, rfl, ps, _, rfl, SqL.of (stb.1 _ _ hps), fun c1 hc1 => ?_⟩
        generalize hA : cutV (L.map fun q => V.ref q.1) _ _ = A1
        have stc := St.up (o := .lst A1) stb hc1
        have ec1 : upd Hc c1 (.lst A1) c1 = some (.lst A1) := upd_same
        generalize upd Hc c1 (.lst A1) = Hd at stc ec1 ⊢
        refine ⟨_, rfl, qa, _, _, _, rfl, rfl, SqT.of (stc.1 _ _ ers), rfl, _, rfl, _, _, rfl, rfl, _, rfl, ps, _, rfl, SqL.of (stc.1 _ _ hps), fun c2 hc2 => ?_⟩
        generalize hB : cutV (L.map fun q => V.ref q.1) _ _ = B1
        have std := St.up (o := .lst B1) stc hc2
        have ec2 : upd Hd c2 (.lst B1) c2 = some (.lst B1) := upd_same
        have ec1' : upd Hd c2 (.lst B1) c1 = some (.lst A1) := by rw [upd_ne (ne_of_none ec1 hc2)]; exact ec1
        generalize upd Hd c2 (.lst B1) = He at std ec2 ec1' ⊢
        have lA : A1.length ≤ 3 := by rw [← hA]; exact Nat.le_trans (cutV_length _ _ _) (by rw [List.length_map]; exact hsl)
        have lB : B1.length ≤ 3 := by rw [← hB]; exact Nat.le_trans (cutV_length _ _ _) (by rw [List.length_map]; exact hsl)
        have inAB : ∀ v ∈ A1 ++ B1, ∃ q ∈ L, v = V.ref q.1 := fun v hv => by
          have : v ∈ L.map fun q => V.ref q.1 := by
            rcases List.mem_append.mp hv with hv | hv
            · rw [← hA] at hv; exact List.mem_of_mem_drop (List.mem_of_mem_take hv)
            · rw [← hB] at hv; exact List.mem_of_mem_drop (List.mem_of_mem_take hv)
          obtain ⟨q, hq, e⟩ := List.mem_map.mp this
          exact ⟨q, hq, e.symm⟩
        refine ⟨c1, c2, _, _, rfl, rfl, ec1', ec2, sz _ (by omega), fun c3 hc3 => ?_⟩
        have ste := St.up (o := .lst (A1 ++ B1)) std hc3
        have ec3 : upd He c3 (.lst (A1 ++ B1)) c3 = some (.lst (A1 ++ B1)) := upd_same
        generalize upd He c3 (.lst (A1 ++ B1)) = Hf at ste ec3 ⊢
        have hsy : ∀ {H' : Hp}, L2.Same H H' → ∀ q ∈ L, H' q.1 = some (.tup (syV q.2)) := fun s q hq => s _ _ (hL q hq)
        refine ⟨_, rfl, sq.1, _, _, _, rfl, rfl, SqT.of (hsy ste.1 _ hsqm), rfl, rfl, _, rfl, ite2 (fun c => ?_) (fun _ => ⟨_, _, _, rfl, ste.1, ste.2.1, ?_⟩)⟩
        · obtain ⟨n, hn⟩ : ∃ n, sq.2 = .nt n := by
            cases he : sq.2 with
            | lit w =>
              exfalso
              rw [he] at c
              exact absurd c (show ¬ (decide (V.str "lit" = V.str "nt")) = true by decide +kernel)
            | cls w =>
              exfalso
              rw [he] at c
              exact absurd c (show ¬ (decide (V.str "class" = V.str "nt")) = true by decide +kernel)
            | nt n => exact ⟨n, rfl⟩
          have hnn : n ∈ ns := by
            have h1 : sq.2 ∈ ss := by rw [← eL']; exact List.mem_map.mpr ⟨sq, hsqm, rfl⟩
            have := (dg.rule _ hrsm).2.2.1 _ h1
            rw [hn] at this
            exact this
          refine ⟨_, rfl, c3, rfl, ⟨_, SqL.of ec3⟩, fun D hD => ?_⟩
          have nD : ∀ {b o}, Hf b = some o → ∀ acc, upd Hf D (.lst acc) b = some o := fun e acc => by rw [upd_ne (ne_of_none e hD)]; exact e
          refine lc_some (H1 := Hf) (D := D) (g := gName 7) (vs := [7]) (xs := A1 ++ B1) (walk_list (K := K)) (fun v => ∃ b, v = V.bl b) (fun acc => SqL.of (nD ec3 acc)) (by rw [List.length_append]; omega) (fun v hv acc Y N hY _ => ?_) (fun acc hacc hall => ?_)
          · obtain ⟨sq', hsq', rfl⟩ := inAB v hv
            have hy := nD (hsy ste.1 _ hsq') acc
            refine ⟨rfl, tyesI ⟨_, rfl, sq'.1, _, _, _, rfl, rfl, SqT.of hy, rfl, rfl, _, rfl, ite2 (fun _ => ?_) (fun _ => hY _ ⟨_, rfl⟩)⟩⟩
            exact ⟨_, rfl, sq'.1, _, _, _, rfl, rfl, SqT.of hy, rfl, _, rfl, em, _, rfl, .inl (SqL.of (nD ste.2.1 acc)), rfl, flat_strs' _, hY _ ⟨_, rfl⟩⟩
          · obtain ⟨bs, rfl⟩ := bools_of hall
            have stf := St.up (o := .lst (bs.map V.bl)) ste hD
            have eD : upd Hf D (.lst (bs.map V.bl)) D = some (.lst (bs.map V.bl)) := upd_same
            generalize upd Hf D (.lst (bs.map V.bl)) = Hg at stf eD
            obtain ⟨g1, g2, N, b1, b2, b3⟩ := stf
            refine ⟨D, bs, rfl, SqL.of eD, _, rfl, ite2 (fun _ => ?_) (fun _ => ⟨_, _, _, rfl, g1, g2, N, b1, b2, by omega⟩)⟩
            refine ⟨_, rfl, .inl ⟨rfl, _, SqL.of b1⟩, _, rfl, qa, _, _, _, rfl, rfl, SqT.of (g1 _ _ ers), rfl, _, rfl, sq.1, _, _, _, rfl, rfl, SqT.of (hsy g1 _ hsqm), rfl, sz2, fun t ht => ?_⟩
            have up : ∀ {b o}, Hg b = some o → ∀ y, upd Hg t y b = some o := fun {b o} e y => by rw [upd_ne (ne_of_none e ht)]; exact e
            have np : ∀ {b xs}, Hg b = some (.tup xs) → b ≠ pl := fun e => ne_of e b1 (fun z => by cases z)
            have ntp : t ≠ pl := fun z => by rw [z, b1] at ht; cases ht
            have hb : bodyS sq.2 = n := by rw [hn]; rfl
            refine ⟨pl, _, _, rfl, rfl, up b1 _, by rw [List.length_map]; exact szlt _ (by omega), _, _, _, rfl, fun b o e => ?_, by rw [upd_ne nep]; exact up g2 _, N ++ [(t, rn, n)], by rw [upd_same, List.map_append]; rfl, fun q hq => ?_, by rw [List.length_append]; show N.length + 1 ≤ _; omega⟩
            · rw [upd_ne (ne_of_none e hpl0)]; exact up (g1 _ _ e) _
            · rcases List.mem_append.mp hq with hq | hq
              · exact ⟨by rw [upd_ne (np (b2 q hq).1)]; exact up (b2 q hq).1 _, (b2 q hq).2⟩
              · rw [List.mem_singleton.mp hq]
                refine ⟨?_, (dg.rule _ hrsm).1, hnn⟩
                show upd (upd Hg t _) pl _ t = _
                rw [upd_ne ntp, upd_same, hb]
        · obtain ⟨N, b1, b2, b3⟩ := ste.2.2
          exact ⟨N, b1, b2, by omega⟩
      · rintro σ H' ⟨v4, v5, v6, rfl, a1, a2, N, b1, b2, b3⟩
        rw [List.length_map] at b3
        exact ⟨_, _, _, _, rfl, a1, a2, N, b1, b2, by omega⟩
    · rintro σ H3 ⟨v3, v4, v5, v6, rfl, s3, _, L, b1, b2, b3⟩
      rw [List.length_map] at b3
      have b3 : L.length ≤ 18 := by omega
      refine ⟨_, rfl, pl, L.map fun q => (q.1, [q.2.1, q.2.2]), rfl, SqL.of (by rw [List.map_map]; exact b1), fun p hp => ?_, by rw [List.length_map]; omega, fun a ha => ?_⟩
      · obtain ⟨q, hq, rfl⟩ := List.mem_map.mp hp
        exact SqT.of (b2 q hq).1
      · refine ⟨a, _, rfl, upd_same, fun h hset => ?_⟩
        obtain ⟨es, ep, t, x1, x2, x3, x4, x5, x6, x7⟩ := setU_open hset
        refine ⟨es, ep, t, x1, x2, x3, x4, x5, fun us pm => ?_⟩
        obtain ⟨M, rM, hM⟩ := refs_pick (L := L) (us := us) fun u hu => by
          obtain ⟨p, hp, rfl⟩ := x6 u (pm.mem_iff.mp hu)
          obtain ⟨q, hq, e⟩ := List.mem_map.mp hp
          exact ⟨q, hq, by rw [← e]⟩
        have lM : M.length ≤ 64 := by
          have y1 := rM.length
          have y2 : us.length = es.size := by rw [pm.length_eq, List.length_map]; exact Array.length_toList
          rw [List.length_map] at y1
          omega
        refine ⟨M.map fun q => (V.ref q.1, q.2), by rw [List.map_map]; exact rM, fun q hq => ?_, fun q hq => ?_, fun d hd d' hd' => ?_, .inl fun d hd => ?_, by rw [List.length_map]; omega, fun M' p hperm _ hnp => ?_⟩
        · obtain ⟨r, hr, rfl⟩ := List.mem_map.mp hq
          have e := (b2 r (hM r hr)).1
          exact .tup (SqT.of (by rw [upd_ne (ne_of_none e ha)]; exact e)) (.cons (.str _) (.cons (.str _) .nil))
        · exact ⟨by simp [NoList], by show 1 ≤ 20; decide⟩
        · obtain ⟨q1, _, rfl⟩ := List.mem_map.mp hd
          obtain ⟨q2, _, rfl⟩ := List.mem_map.mp hd'
          rfl
        · obtain ⟨q1, _, rfl⟩ := List.mem_map.mp hd
          exact ⟨_, _, rfl⟩
        · obtain ⟨N, n1, n2, n3⟩ := pairs_pick (L := L) (M := M') fun q hq => by
            obtain ⟨r, hr, rfl⟩ := List.mem_map.mp (hperm.mem_iff.mp hq)
            exact ⟨r, hM r hr, rfl⟩
          rw [n1]
          have up : ∀ {b o}, H3 b = some o → ∀ y, upd (upd H3 a (SetTO P w (L.map fun q => (q.1, [q.2.1, q.2.2])) a)) p y b = some o := fun {b o} e y => by
            have e2 : upd H3 a (SetTO P w (L.map fun q => (q.1, [q.2.1, q.2.2])) a) b = some o := by rw [upd_ne (ne_of_none e ha)]; exact e
            rw [upd_ne (ne_of_none e2 hnp)]; exact e2
          refine k _ p (fun b o e => up (s3 _ _ e) _) ⟨N, upd_same, fun q hq => ⟨up (b2 q (n2 q hq)).1 _, (b2 q (n2 q hq)).2⟩, ?_⟩
          have y := hperm.length_eq
          rw [List.length_map] at y
          omega
end
end Ms
end TextGb
section TextGc
set_option linter.all false
set_option maxRecDepth 100000
set_option maxHeartbeats 2000000
namespace Ms
open PySem PySem.Spec PyProof.Rows L2
def spCyclic : Sp := fun vs H Q _ => ∃ (g : Addr) (st : Str) (rs : List Ru) (ns : List Str), vs = [.ref g] ∧ GrAt H g st rs ∧ DGr st rs ns ∧ ∀ H' p (f : List Str), L2.Same H H' → H' p = some (.lst (f.map V.str)) → f.length ≤ 3 → (∀ n ∈ f, ∃ r ∈ rs, r.2.1 = n) → Q (.ref p) H'
section
variable {P : Program} {w : World} {K : PySem.W.Frag} {mg : Str → Option Value} {base : Heap} {C S fI : Addr}
theorem scCyclic : FnScope ["grammar", "pairs", "found", "name", "seen", "front", "here", "one", "other"] ["grammar"] (defScope sCyclic) := ⟨rfl, rfl, rfl, by decide +kernel, rfl, by decide +kernel, by decide +kernel⟩
theorem ok_cyclic {f fs fl : Addr} {fd es el : FuncData} (F : Fun K "cyclic" "cyclic" sCyclic f fd) (T : Bi mg) (D_steps : Df K mg "steps_alone" sSteps ["grammar"] fs es) (G_steps : FnOk P w K mg base CX0 2 fs es ["grammar"] spSteps) (D_lefts : Df K mg "lefts" sLefts ["grammar"] fl el) (G_lefts : FnOk P w K mg base CX0 1 fl el ["grammar"] spLefts) : FnOk P w K mg base CX0 3 f fd ["grammar"] spCyclic := by
  refine F.ok scCyclic (fun vs H Q E h => ?_) (fun cdv A outer s H vs Q E hr h => ?_)
  · obtain ⟨g, st, rs, ns, rfl, _⟩ := h
    rfl
  · obtain ⟨g, st, rs, ns, rfl, gr, dg, k⟩ := h
    refine ⟨_, (pss_cons (ps_set (i := 1) scCyclic.nd rfl (Or.inl rfl) (pe_call G_steps (hr.mono (by decide)) (by rfl) D_steps.g D_steps.F.kp D_steps.b .nil pass0 (pa_cons (pv 0) pa_nil)))
    (pss_cons (ps_set (i := 2) scCyclic.nd rfl (Or.inl rfl) (pe_lst pa_nil))
    (pss_cons (ps_for PassesOwn.never rfl (pi_list (pe_call G_lefts (hr.mono (by decide)) (by rfl) D_lefts.g D_lefts.F.kp D_lefts.b .nil pass0 (pa_cons (pv 0) pa_nil))) (pg_name (i := 3) scCyclic.nd rfl (Or.inl rfl))
      (pss_cons (ps_set (i := 4) scCyclic.nd rfl (Or.inl rfl) (pe_lst pa_nil))
      (pss_cons (ps_set (i := 5) scCyclic.nd rfl (Or.inl rfl) (pe_lst (pa_cons (pv 3) pa_nil)))
      (pss_cons (ps_while PassesOwn.never (pt_truth (pv 5) (by intro _; rfl))
        (pss_cons (ps_set (i := 6) scCyclic.nd rfl (Or.inl rfl) (pe_bm0 PySem.F.plainAttrs_list PySem.F.slot_list_pop PySem.F.type_list_pop mt_pop (pv 5)))
        (pss_one (ps_for PassesOwn.never rfl (pi_list (pv 1)) (pg_tup rfl (pgs_cons (pg_name (i := 7) scCyclic.nd rfl (Or.inl rfl)) (pgs_cons (pg_name (i := 8) scCyclic.nd rfl (Or.inl rfl)) pgs_nil)))
          (pss_one (ps_if (PW.pt (pw_and (pt_cmpR op_eq (pv 7) (pv 6) (nomark _)) (pw_and1 (pt_cmpR op_notIn_seq (pv 8) (pv 4) (by rfl)))))
            (pss_cons (ps_expr (pe_bm PySem.F.plainAttrs_list PySem.F.slot_list_append PySem.F.type_list_append mt_append (pv 4) (pa_cons (pv 8) pa_nil)))
            (pss_one (ps_expr (pe_bm PySem.F.plainAttrs_list PySem.F.slot_list_append PySem.F.type_list_append mt_append (pv 5) (pa_cons (pv 8) pa_nil)))))
            pss_nil))))))
      (pss_one (ps_if (pt_cmpR op_in_seq (pv 3) (pv 4) (by rfl))
        (pss_one (ps_expr (pe_bm PySem.F.plainAttrs_list PySem.F.slot_list_append PySem.F.type_list_append mt_append (pv 2) (pa_cons (pv 3) pa_nil))))
        pss_nil))))))
    (pss_one (ps_ret (pv 2)))))), ?_⟩
    refine ⟨_, rfl, g, st, rs, ns, rfl, gr, dg, fun H1 p s1 ⟨L, b1, b2, b3⟩ => ?_⟩
    refine ⟨sz0, fun fl hfl => ?_⟩
    have hfl0 : H fl = none := s1.free hfl
    have npf : p ≠ fl := ne_of_none b1 hfl
    have s2 : L2.Same H1 (upd H1 fl (.lst [])) := sm_new (L2.Same.refl H1) hfl
    have e2 : upd H1 fl (.lst []) fl = some (.lst []) := upd_same
    generalize upd H1 fl (.lst []) = H2 at s2 e2 ⊢
    have gr2 : GrAt H2 g st rs := gr.nd (ND.of fun b o e => s2 _ _ (s1 _ _ e))
    refine ⟨_, rfl, g, st, rs, rfl, gr2, by have := dg.few; omega, fun H3 lp nl s3 hlp elp lf => ⟨lp, rfl, ⟨_, SqL.of elp⟩, ?_⟩⟩
    have nlf : lp ≠ fl := fun z => by rw [z, e2] at hlp; cases hlp
    have nl3 : nl.length ≤ 3 := dg.len lf.2 lf.nd
    have k3 : ∀ b o, H b = some o → H3 b = some o := fun b o e => s3 _ _ (s2 _ _ (s1 _ _ e))
    have p3 : H3 p = some (.lst (L.map fun q => V.ref q.1)) := s3 _ _ (s2 _ _ b1)
    have t3 : ∀ q ∈ L, H3 q.1 = some (.tup [.str q.2.1, .str q.2.2]) := fun q hq => s3 _ _ (s2 _ _ (b2 q hq).1)
    have f3 : H3 fl = some (.lst []) := s3 _ _ e2
    have ns3 : ns.length ≤ 3 := by
      obtain ⟨m, hm, e⟩ := dg.names
      rw [e, List.length_take]
      omega
    refine for_list (xs := nl.map V.str) (fun i σ H' => ∃ (f : List Str) (v3 v4 v5 v6 v7 v8 : Option V), σ = [some (.ref g), some (.ref p), some (.ref fl), v3, v4, v5, v6, v7, v8] ∧ Kp fl H3 H' ∧ H' fl = some (.lst (f.map V.str)) ∧ f.length ≤ i ∧ ∀ n ∈ f, n ∈ nl) ?_ ?_ ?_ ?_
    · exact ⟨[], none, none, none, none, none, none, rfl, fun b o e _ => e, f3, Nat.le_refl _, fun n h => absurd h List.not_mem_nil⟩
    · rintro i σ H4 _ ⟨f, v3, v4, v5, v6, v7, v8, rfl, k4, _⟩
      exact SqL.of (k4 _ _ elp nlf)
    · rintro i x σ H4 hx ⟨f, v3, v4, v5, v6, v7, v8, rfl, k4, hf4, fl4, sub4⟩
      obtain ⟨n, hn, rfl⟩ := get_map hx
      refine ⟨sz0, fun sl hsl => ?_⟩
      have u1 : ∀ b o, H4 b = some o → upd H4 sl (.lst []) b = some o := fun b o e => by rw [upd_ne (ne_of_none e hsl)]; exact e
      have es1 : upd H4 sl (.lst []) sl = some (.lst []) := upd_same
      generalize upd H4 sl (.lst []) = H5 at u1 es1 ⊢
      refine ⟨_, rfl, sz1, fun fr hfr => ?_⟩
      have hfr4 : H4 fr = none := by
        cases z : H4 fr with
        | none => rfl
        | some o => rw [u1 _ _ z] at hfr; cases hfr
      have nsf : sl ≠ fr := ne_of_none es1 hfr
      have u2 : ∀ b o, H4 b = some o → upd H5 fr (.lst [V.str n]) b = some o := fun b o e => by
        rw [upd_ne (ne_of_none e hfr4)]; exact u1 _ _ e
      have es2 : upd H5 fr (.lst [V.str n]) sl = some (.lst []) := by rw [upd_ne nsf]; exact es1
      have ef2 : upd H5 fr (.lst [V.str n]) fr = some (.lst [V.str n]) := upd_same
      generalize upd H5 fr (.lst [V.str n]) = H6 at u2 es2 ef2 ⊢
      refine ⟨fun mm σ H' => ∃ (seen front : List Str) (v6 v7 v8 : Option V), σ = [some (.ref g), some (.ref p), some (.ref fl), some (.str n), some (.ref sl), some (.ref fr), v6, v7, v8] ∧ (∀ b o, H4 b = some o → H' b = some o) ∧ H' sl = some (.lst (seen.map V.str)) ∧ H' fr = some (.lst (front.map V.str)) ∧ seen.Nodup ∧ (∀ m ∈ seen, m ∈ ns) ∧ front.length ≤ 1 + seen.length ∧ mm = 2 * (3 - seen.length) + front.length,
        ⟨7, [], [n], v6, v7, v8, rfl, u2, es2, ef2, List.nodup_nil, (fun m h => absurd h List.not_mem_nil), Nat.le_refl _, rfl⟩, ?_⟩
      rintro mm σ H7 ⟨seen, front, v6, v7, v8, rfl, u7, es7, ef7, nd7, sub7, fl7, rfl⟩
      have few7 : seen.length ≤ 3 := Nat.le_trans (Md.nodup_le nd7 sub7) ns3
      refine ⟨_, rfl, !(front.map V.str).isEmpty, .inl ⟨_, SqL.of ef7, rfl⟩, ?_⟩
      have kx : ∀ {H' : Hp}, (∀ b o, H4 b = some o → H' b = some o) → Kp fl H3 H' := fun u b o e z => u _ _ (k4 _ _ e z)
      cases front with
      | nil =>
        refine iteF ?_
        refine ⟨_, rfl, _, rfl, sl, _, rfl, .inl (SqL.of es7), rfl, flat_strs' _, _, rfl, ite2 (fun _ => ?_) (fun _ => ⟨f, _, _, _, _, _, _, rfl, kx u7, u7 _ _ hf4, by omega, sub4⟩)⟩
        have hf7 := u7 _ _ hf4
        refine ⟨_, rfl, .inl ⟨rfl, _, SqL.of hf7⟩, _, rfl, fl, _, _, rfl, rfl, hf7, by rw [List.length_map]; exact szlt _ (by have := (List.getElem?_eq_some_iff.mp hn).1; omega), ?_⟩
        refine ⟨f ++ [n], _, _, _, _, _, _, rfl, fun b o e z => ?_, by rw [upd_same, List.map_append]; rfl, by rw [List.length_append]; exact Nat.succ_le_succ fl4, fun m hm => ?_⟩
        · rw [upd_ne z]; exact kx u7 _ _ e z
        · rcases List.mem_append.mp hm with hm | hm
          · exact sub4 m hm
          · rw [List.mem_singleton.mp hm]; exact List.mem_of_getElem? hn
      | cons a0 r0 =>
        refine iteT ⟨_, fun _ _ z => z, ?_⟩
        obtain ⟨here, hh⟩ : ∃ here, (a0 :: r0)[(a0 :: r0).length - 1]? = some here := ⟨_, List.getElem?_eq_getElem (by rw [List.length_cons]; omega)⟩
        have hl : ((a0 :: r0).map V.str)[((a0 :: r0).map V.str).length - 1]? = some (V.str here) := by rw [List.length_map, List.getElem?_map, hh]; rfl
        refine ⟨_, rfl, .inl ⟨rfl, _, SqL.of ef7⟩, fr, _, _, rfl, rfl, ef7, hl, ?_⟩
        have uf : ∀ b o, H4 b = some o → upd H7 fr (.lst ((a0 :: r0).map V.str).dropLast) b = some o := fun b o e => by
          rw [upd_ne (ne_of_none e hfr4)]; exact u7 _ _ e
        have hsl4 : H4 sl = none := hsl
        have es8 : upd H7 fr (.lst ((a0 :: r0).map V.str).dropLast) sl = some (.lst (seen.map V.str)) := by rw [upd_ne nsf]; exact es7
        have ef8 : upd H7 fr (.lst ((a0 :: r0).map V.str).dropLast) fr = some (.lst ((a0 :: r0).dropLast.map V.str)) := by rw [upd_same, List.map_dropLast]
        generalize upd H7 fr (.lst ((a0 :: r0).map V.str).dropLast) = H8 at uf es8 ef8 ⊢
        have p8 : ∀ {H' : Hp}, (∀ b o, H4 b = some o → H' b = some o) → H' p = some (.lst (L.map fun q => V.ref q.1)) := fun u => u _ _ (k4 _ _ p3 npf)
        refine ⟨_, rfl, p, rfl, ⟨_, SqL.of (p8 uf)⟩, ?_⟩
        refine for_list (xs := L.map fun q => V.ref q.1) (fun j σ H' => ∃ (sn ft : List Str) (v7 v8 : Option V), σ = [some (.ref g), some (.ref p), some (.ref fl), some (.str n), some (.ref sl), some (.ref fr), some (.str here), v7, v8] ∧ (∀ b o, H4 b = some o → H' b = some o) ∧ H' sl = some (.lst (sn.map V.str)) ∧ H' fr = some (.lst (ft.map V.str)) ∧ sn.Nodup ∧ (∀ m ∈ sn, m ∈ ns) ∧ ft.length ≤ 1 + sn.length ∧ 2 * (3 - sn.length) + ft.length ≤ 2 * (3 - seen.length) + r0.length) ?_ ?_ ?_ ?_
        · refine ⟨seen, (a0 :: r0).dropLast, v7, v8, rfl, uf, es8, ef8, nd7, sub7, ?_, ?_⟩
          · rw [List.length_dropLast]; omega
          · rw [List.length_dropLast, List.length_cons]; omega
        · rintro j σ H9 _ ⟨sn, ft, v7, v8, rfl, u9, _⟩
          exact SqL.of (p8 u9)
        · rintro j x σ H9 hx ⟨sn, ft, v7, v8, rfl, u9, es9, ef9, nd9, sub9, fl9, m9⟩
          obtain ⟨q, hq, rfl⟩ := get_map hx
          have qm := List.mem_of_getElem? hq
          have tq : H9 q.1 = some (.tup [.str q.2.1, .str q.2.2]) := u9 _ _ (k4 _ _ (t3 q qm) (ne_of (t3 q qm) f3 (fun z => by cases z)))
          refine ⟨q.1, _, rfl, SqT.of tq, rfl, _, _, rfl, _, _, rfl, rfl, ?_⟩
          refine ⟨_, rfl, _, rfl, rfl, _, rfl, ite2 (fun _ => ?_) (fun _ => ⟨sn, ft, _, _, rfl, u9, es9, ef9, nd9, sub9, fl9, m9⟩)⟩
          refine ⟨_, rfl, _, rfl, sl, _, rfl, .inl (SqL.of es9), rfl, flat_strs' _, ?_⟩
          rw [inV_strs]
          refine ⟨_, rfl, ite2 (fun c => ?_) (fun _ => ⟨sn, ft, _, _, rfl, u9, es9, ef9, nd9, sub9, fl9, m9⟩)⟩
          have c : q.2.2 ∉ sn := by simpa using c
          have nd' : (sn ++ [q.2.2]).Nodup := List.nodup_append.mpr ⟨nd9, List.nodup_cons.mpr ⟨List.not_mem_nil, List.nodup_nil⟩, fun a ha b hb e => by rw [List.mem_singleton.mp hb] at e; exact c (e ▸ ha)⟩
          have sub' : ∀ m ∈ sn ++ [q.2.2], m ∈ ns := fun m hm => (List.mem_append.mp hm).elim (sub9 m) fun h => by rw [List.mem_singleton.mp h]; exact (b2 q qm).2.2
          have l' : (sn ++ [q.2.2]).length ≤ 3 := Nat.le_trans (Md.nodup_le nd' sub') ns3
          rw [List.length_append] at l'
          have l' : sn.length + 1 ≤ 3 := l'
          refine ⟨_, rfl, .inl ⟨rfl, _, SqL.of es9⟩, _, rfl, sl, _, _, rfl, rfl, es9, by rw [List.length_map]; exact szlt _ (by omega), ?_⟩
          have nfs : fr ≠ sl := Ne.symm nsf
          refine ⟨_, rfl, .inl ⟨rfl, _, SqL.of (by rw [upd_ne nfs]; exact ef9)⟩, _, rfl, fr, _, _, rfl, rfl, by rw [upd_ne nfs]; exact ef9, by rw [List.length_map]; exact szlt _ (by omega), ?_⟩
          refine ⟨sn ++ [q.2.2], ft ++ [q.2.2], _, _, rfl, fun b o e => ?_, by rw [upd_ne nsf, upd_same, List.map_append]; rfl, by rw [upd_same, List.map_append]; rfl, nd', sub', ?_, ?_⟩
          · rw [upd_ne (ne_of_none e hfr4), upd_ne (ne_of_none e hsl4)]; exact u9 _ _ e
          · rw [List.length_append, List.length_append]; show ft.length + 1 ≤ 1 + (sn.length + 1); omega
          · rw [List.length_append, List.length_append]; show 2 * (3 - (sn.length + 1)) + (ft.length + 1) ≤ _; omega
        · rintro σ H9 ⟨sn, ft, v7, v8, rfl, u9, es9, ef9, nd9, sub9, fl9, m9⟩
          refine ⟨_, ?_, sn, ft, _, v7, v8, rfl, u9, es9, ef9, nd9, sub9, fl9, rfl⟩
          rw [List.length_cons]
          omega
    · rintro σ H4 ⟨f, v3, v4, v5, v6, v7, v8, rfl, k4, hf4, fl4, sub4⟩
      rw [List.length_map] at fl4
      refine ⟨_, rfl, k _ fl f (fun b o e => k4 _ _ (k3 _ _ e) (ne_of_none e hfl0)) hf4 (by omega) fun n hn => ?_⟩
      exact (lf.2 n).mp (sub4 n hn)
end
end Ms
end TextGc
section TextGd
set_option linter.all false
set_option maxRecDepth 100000
set_option maxHeartbeats 2000000
namespace Ms
open PySem PySem.Spec PyProof.Rows L2
section
variable {P : Program} {w : World} {K : PySem.W.Frag} {mg : Str → Option Value} {base : Heap} {C S fI : Addr}
theorem sab_len : ∀ n ∈ SAB, n.length ≤ 1000 := by decide +kernel
theorem DGr.sub' {st : Str} {rs : List Ru} {ns : List Str} (h : DGr st rs ns) : ∀ n ∈ ns, n ∈ SAB := fun n hn => by
  obtain ⟨m, _, e⟩ := h.names
  rw [e] at hn
  exact List.mem_of_mem_take hn
theorem body_len {ns : List Str} (hs : ∀ n ∈ ns, n ∈ SAB) {y : Md.Sy Str} (h : DSy ns y) : (bodyS y).length ≤ 1000 := by
  cases y with
  | lit w =>
    have h2 := lit2 (show w ∈ litW from h)
    show (tx w).length ≤ 1000
    rw [tx_len]; omega
  | cls cs =>
    have h : cs = [120] ∨ cs = [121] ∨ cs = [120, 121] := h
    show (tx cs).length ≤ 1000
    rw [tx_len]
    rcases h with rfl | rfl | rfl <;> decide
  | nt n => exact sab_len n (hs n h)
theorem scCheck : FnScope ["grammar", "known", "labels", "at", "rule", "symbol", "looped"] ["grammar"] (defScope sCheck) := ⟨rfl, rfl, rfl, by decide +kernel, rfl, by decide +kernel, by decide +kernel⟩
theorem ok_check {f fl fn fc fr fs : Addr} {fd el en ec er es eg : FuncData} (F : Fun K "check" "check" sCheck f fd) (T : Bi mg) (TG : GC K mg C S fI) (G_ginit : FnOk P w K mg base CX0 1 fI eg ["self", "rule", "at"] (spGInit C)) (B_ginit : Binds K eg ["self", "rule", "at"] [])
    (D_lefts : Df K mg "lefts" sLefts ["grammar"] fl el) (G_lefts : FnOk P w K mg base CX0 1 fl el ["grammar"] spLefts) (D_isname : Df K mg "is_name" sIsName ["text"] fn en) (G_isname : FnOk P w K mg base CX0 1 fn en ["text"] spIsName)
    (D_cyclic : Df K mg "cyclic" sCyclic ["grammar"] fc ec) (G_cyclic : FnOk P w K mg base CX0 3 fc ec ["grammar"] spCyclic) (D_rulesof : Df K mg "rules_of" sRulesOf ["grammar", "name"] fr er) (G_rulesof : FnOk P w K mg base CX0 1 fr er ["grammar", "name"] spRulesOf)
    (D_checksym : Df K mg "check_symbol" sCheckSym ["symbol", "at", "known"] fs es) (G_checksym : FnOk P w K mg base (L2.CX P w) 4 fs es ["symbol", "at", "known"] (spCheckSym C)) : FnOk P w K mg base (L2.CX P w) 8 f fd ["grammar"] (spCheck C) := by
  refine F.okX scCheck (fun vs H Q E h => ?_) (fun cdv A outer s H vs Q E hr h => ?_)
  · obtain ⟨g, st, rs, ns, rfl, _⟩ := h
    rfl
  · obtain ⟨g, st, rs, ns, rfl, gr, dg, kq, ke⟩ := h
    refine ⟨_, (pss_cons (ps_set (i := 1) scCheck.nd rfl (Or.inl rfl) (pe_call G_lefts (hr.mono (by decide)) (by rfl) D_lefts.g D_lefts.F.kp D_lefts.b .nil pass0 (pa_cons (pv 0) pa_nil)))
    (pss_cons (ps_set (i := 2) scCheck.nd rfl (Or.inl rfl) (pe_lst pa_nil))
    (pss_cons (ps_for (passes_of rfl) rfl (pi_enum rfl T.enumerate (pa_cons (pe_ix ix_tup (pv 0) pe_int (fun _ _ => rfl)) pa_nil)) (pg_tup rfl (pgs_cons (pg_name (i := 3) scCheck.nd rfl (Or.inl rfl)) (pgs_cons (pg_name (i := 4) scCheck.nd rfl (Or.inl rfl)) pgs_nil)))
      (pss_cons (ps_if (PW.pt (pw_or (pt_not (pt_val (pe_call G_isname (hr.mono (by decide)) (by rfl) D_isname.g D_isname.F.kp D_isname.b .nil pass0 (pa_cons (pe_ix ix_tup (pv 4) pe_int (fun _ _ => rfl)) pa_nil)))) (pw_or1 (pt_not (pt_val (pe_call G_isname (hr.mono (by decide)) (by rfl) D_isname.g D_isname.F.kp D_isname.b .nil pass0 (pa_cons (pe_ix ix_tup (pv 4) pe_int (fun _ _ => rfl)) pa_nil)))))))
        (pss_one (ps_raise rfl (takes_of rfl rfl rfl rfl) (pmk_oex TG.ox TG.iC TG.tI G_ginit (hr.mono (by decide)) B_ginit .nil pass0 (by rfl) TG.gC (pa_cons pe_str (pa_cons (pv 3) pa_nil)))))
        pss_nil)
      (pss_cons (ps_if (pt_cmpR op_in_seq (pe_ix ix_tup (pv 4) pe_int (fun _ _ => rfl)) (pv 2) (by rfl))
        (pss_one (ps_raise rfl (takes_of rfl rfl rfl rfl) (pmk_oex TG.ox TG.iC TG.tI G_ginit (hr.mono (by decide)) B_ginit .nil pass0 (by rfl) TG.gC (pa_cons pe_str (pa_cons (pv 3) pa_nil)))))
        pss_nil)
      (pss_cons (ps_expr (pe_bm PySem.F.plainAttrs_list PySem.F.slot_list_append PySem.F.type_list_append mt_append (pv 2) (pa_cons (pe_ix ix_tup (pv 4) pe_int (fun _ _ => rfl)) pa_nil)))
      (pss_one (ps_for (passes_of rfl) rfl (pi_list (pe_ix ix_tup (pv 4) pe_int (fun _ _ => rfl))) (pg_name (i := 5) scCheck.nd rfl (Or.inl rfl))
        (pss_one (ps_expr (pe_call G_checksym (hr.mono (by decide)) (by rfl) D_checksym.g D_checksym.F.kp D_checksym.b .nil (passes_call (takes_of rfl rfl rfl rfl) (fun _ _ _ _ h => h)) (pa_cons (pv 5) (pa_cons (pv 3) (pa_cons (pv 1) pa_nil))))))))))))
    (pss_cons (ps_if (pt_cmpR op_notIn_seq (pe_ix ix_tup (pv 0) pe_int (fun _ _ => rfl)) (pv 1) (by rfl))
      (pss_one (ps_raise rfl (takes_of rfl rfl rfl rfl) (pmk_oex TG.ox TG.iC TG.tI G_ginit (hr.mono (by decide)) B_ginit .nil pass0 (by rfl) TG.gC (pa_cons pe_str (pa_cons (pe_un un_neg pe_int) pa_nil)))))
      pss_nil)
    (pss_cons (ps_set (i := 6) scCheck.nd rfl (Or.inl rfl) (pe_call G_cyclic (hr.mono (by decide)) (by rfl) D_cyclic.g D_cyclic.F.kp D_cyclic.b .nil pass0 (pa_cons (pv 0) pa_nil)))
    (pss_one (ps_if (pt_truth (pv 6) (by intro _; rfl))
      (pss_one (ps_raise rfl (takes_of rfl rfl rfl rfl) (pmk_oex TG.ox TG.iC TG.tI G_ginit (hr.mono (by decide)) B_ginit .nil pass0 (by rfl) TG.gC (pa_cons pe_str (pa_cons (pe_ix ix_list (pe_call G_rulesof (hr.mono (by decide)) (by rfl) D_rulesof.g D_rulesof.F.kp D_rulesof.b .nil pass0 (pa_cons (pv 0) (pa_cons (pe_ix ix_list (pv 6) pe_int (fun _ _ => rfl)) pa_nil))) pe_int (fun _ _ => rfl)) pa_nil)))))
      pss_nil))))))), ?_⟩
    have few := dg.few
    refine ⟨_, rfl, g, st, rs, rfl, gr, by omega, fun H1 kl nl s1 hkl ekl lf => ?_⟩
    obtain ⟨pg, eg, Lr, eLr, hpr, hLr⟩ := id gr
    have lL : Lr.length = rs.length := by rw [← eLr, List.length_map]
    have nl3 : nl.length ≤ 3 := dg.len lf.2 lf.nd
    refine ⟨sz0, fun la hla => ?_⟩
    have hla0 : H la = none := s1.free hla
    have nkl : kl ≠ la := ne_of_none ekl hla
    let St : Nat → Hp → Prop := fun m H' => L2.Same H H' ∧ H' kl = some (.lst (nl.map V.str)) ∧ ∃ lb : List Str, H' la = some (.lst (lb.map V.str)) ∧ lb.length ≤ m
    have St.same : ∀ {m H' H''}, St m H' → L2.Same H' H'' → St m H'' := fun {m H' H''} ⟨a, b, lb, c, d⟩ s => ⟨a.trans s, s _ _ b, lb, s _ _ c, d⟩
    have st2 : St 0 (upd H1 la (.lst [])) := ⟨sm_new s1 hla, by rw [upd_ne nkl]; exact ekl, [], upd_same, Nat.le_refl _⟩
    generalize upd H1 la (.lst []) = H2 at st2 ⊢
    refine ⟨_, rfl, g, _, _, _, rfl, rfl, SqT.of (st2.1 _ _ eg), rfl, pg, _, rfl, SqL.of (st2.1 _ _ hpr), ?_⟩
    refine for_it (walk_enum (K := K) (a := pg) (xs := Lr.map fun q => V.ref q.1)) (fun i σ H' => ∃ v3 v4 v5 : Option V, σ = [some (.ref g), some (.ref kl), some (.ref la), v3, v4, v5, none] ∧ St i H') ⟨_, _, _, rfl, st2⟩ ?_ ?_ ?_
    · rintro i σ H' _ ⟨_, _, _, _, st, _⟩
      exact SqL.of (st _ _ hpr)
    · rintro i x σ Ha Hb hi ⟨v3, v4, v5, rfl, sta⟩ ⟨T', x1, x2, rfl, hT, rfl, e1, e2⟩
      obtain rfl := Option.some.inj e1
      obtain ⟨q, hq, rfl⟩ := get_map e2
      have hqm := List.mem_of_getElem? hq
      rw [List.length_map] at hi
      have stb : St i (upd Ha T' (.tup [.int (i : Nat), .ref q.1])) := St.same sta (sm_new (L2.Same.refl Ha) hT)
      refine ⟨T', _, rfl, SqT.of upd_same, rfl, _, _, rfl, _, _, rfl, rfl, ?_⟩
      generalize upd Ha T' (.tup [.int (i : Nat), .ref q.1]) = Hc at stb ⊢
      obtain ⟨qa, lab, rn, ss⟩ := q
      have hqm' := hqm
      obtain ⟨ps, ers, L, eL, hps, hL⟩ := hLr _ hqm'
      have hrsm : (lab, rn, ss) ∈ rs := by rw [← eLr]; exact List.mem_map.mpr ⟨_, hqm, rfl⟩
      have eL' : L.map (·.2) = ss := eL
      have hd := dg.rule _ hrsm
      have hrn : rn.length ≤ 1000 := sab_len rn (dg.sub' rn hd.1)
      have hlab : lab.length ≤ 1000 := Nat.le_trans hd.2.2.2.1 (by decide)
      have hsl : L.length ≤ 3 := by
        have h1 : ss.length ≤ 3 := hd.2.1
        rw [← eL', List.length_map] at h1
        exact h1
      have rai : ∀ {H' : Hp}, L2.Same Hc H' → ∀ H2 d, L2.Same H' H2 → E (.ref C) d H2 := fun s H2 d s' => ke d H2 ((stb.1.trans s).trans s')
      have ersC : ∀ {H' : Hp}, L2.Same Hc H' → H' qa = some (.tup [.str "rule", .str rn, .str lab, .ref ps]) := fun s => s _ _ (stb.1 _ _ ers)
      refine ⟨_, rfl, qa, _, _, _, rfl, rfl, SqT.of (stb.1 _ _ ers), rfl, rn, rfl, hrn, fun Hd b1 sd => ⟨_, rfl, ?_⟩⟩
      cases b1 with
      | false => exact iteT (iteT ⟨_, rfl, mkG (rai sd)⟩)
      | true =>
      refine iteF ⟨_, rfl, qa, _, _, _, rfl, rfl, SqT.of (ersC sd), rfl, lab, rfl, hlab, fun He b2 se' => ⟨_, rfl, ?_⟩⟩
      have se : L2.Same Hc He := sd.trans se'
      cases b2 with
      | false => exact iteT ⟨_, rfl, mkG (rai se)⟩
      | true =>
      have ste := St.same stb se
      obtain ⟨st1, st2', lb, hlb, lbl⟩ := id ste
      refine iteF ⟨_, rfl, qa, _, _, _, rfl, rfl, SqT.of (ersC se), rfl, _, rfl, la, _, rfl, .inl (SqL.of hlb), rfl, flat_strs' lb, _, rfl, ite2 (fun _ => ⟨_, rfl, mkG (rai se)⟩) (fun _ => ?_)⟩
      refine ⟨_, rfl, .inl ⟨rfl, _, SqL.of hlb⟩, _, rfl, qa, _, _, _, rfl, rfl, SqT.of (ersC se), rfl, la, _, _, rfl, rfl, hlb, by rw [List.length_map]; exact szlt _ (by omega), ?_⟩
      have stf : St (i + 1) (upd He la (.lst (lb.map V.str ++ [V.str lab]))) := by
        refine ⟨fun b o e => ?_, ?_, lb ++ [lab], ?_, ?_⟩
        · rw [upd_ne (ne_of_none e hla0)]; exact st1 _ _ e
        · rw [upd_ne nkl]; exact st2'
        · rw [upd_same, List.map_append]; rfl
        · rw [List.length_append]; exact Nat.succ_le_succ lbl
      generalize upd He la (.lst (lb.map V.str ++ [V.str lab])) = Hf at stf ⊢
      refine ⟨_, rfl, qa, _, _, _, rfl, rfl, SqT.of (stf.1 _ _ ers), rfl, ps, rfl, ⟨_, SqL.of (stf.1 _ _ hps)⟩, ?_⟩
      refine for_list (xs := L.map fun q => V.ref q.1) (fun j σ H' => ∃ v5 : Option V, σ = [some (.ref g), some (.ref kl), some (.ref la), some (.int (i : Nat)), some (.ref qa), v5, none] ∧ St (i + 1) H') ⟨v5, rfl, stf⟩ ?_ ?_ ?_
      · rintro j σ H' _ ⟨_, _, st⟩
        exact SqL.of (st.1 _ _ hps)
      · rintro j x σ Hg hx ⟨v5, rfl, stg⟩
        obtain ⟨sq, hsq, rfl⟩ := get_map hx
        have hsqm := List.mem_of_getElem? hsq
        have hsy : Hg sq.1 = some (.tup [.str (kindS sq.2), .str (bodyS sq.2)]) := stg.1 _ _ (hL sq hsqm)
        have dsy : DSy ns sq.2 := hd.2.2.1 _ (by rw [← eL']; exact List.mem_map.mpr ⟨sq, hsqm, rfl⟩)
        exact ⟨_, rfl, _, rfl, _, rfl, sq.1, kl, _, _, _, nl, rfl, hsy, body_len dg.sub' dsy, stg.2.1, by omega, fun H' s => ⟨_, rfl, St.same stg s⟩, fun H' d s => ke d H' (stg.1.trans s)⟩
      · rintro σ Hg ⟨v5, rfl, stg⟩
        exact ⟨_, _, _, rfl, stg⟩
    · rintro σ H3 ⟨v3, v4, v5, rfl, st3⟩
      have eg3 := st3.1 _ _ eg
      refine ⟨_, rfl, g, _, _, _, rfl, rfl, SqT.of eg3, rfl, _, rfl, kl, _, rfl, .inl (SqL.of st3.2.1), rfl, flat_strs' nl, _, rfl, ite2 (fun _ => ⟨_, rfl, mkG fun H2 d s => ke d H2 (st3.1.trans s)⟩) (fun _ => ?_)⟩
      have gr3 : GrAt H3 g st rs := gr.nd (ND.of st3.1)
      refine ⟨_, rfl, g, st, rs, ns, rfl, gr3, dg, fun H4 lp lo s4 hlp lo3 hlo => ?_⟩
      refine ⟨_, rfl, !(lo.map V.str).isEmpty, .inl ⟨_, SqL.of hlp, rfl⟩, ?_⟩
      have gr4 : GrAt H4 g st rs := gr3.nd (ND.of s4)
      cases lo with
      | nil => exact iteF (kq _ (st3.1.trans s4))
      | cons n0 lo =>
      refine iteT ⟨_, rfl, _, rfl, lp, _, _, _, rfl, rfl, SqL.of hlp, (show atI _ ((0 : Nat) : Int) = some (V.str n0) from atI_nat rfl), g, n0, st, rs, rfl, gr4, by omega, hlo n0 List.mem_cons_self, fun H5 p5 xs s5 hp5 l5 hi5 hne5 => ?_⟩
      cases xs with
      | nil => exact absurd rfl hne5
      | cons x0 xs =>
      obtain ⟨i0, rfl⟩ := hi5 x0 List.mem_cons_self
      exact ⟨p5, _, _, _, rfl, rfl, SqL.of hp5, (show atI _ ((0 : Nat) : Int) = some (V.int i0) from atI_nat rfl), mkG fun H2 d s => ke d H2 (((st3.1.trans s4).trans s5).trans s)⟩
end
end Ms
end TextGd
section TextH1
set_option linter.all false
set_option maxRecDepth 100000
set_option maxHeartbeats 2000000
/-! What the top has written, told once; the law over it. -/
namespace Ms
open PySem PySem.Spec PyProof.Rows L2
section
variable {K : PySem.W.Frag} {h : Heap} {mg : Str → Option Value}
theorem ex_df {x : Str} {st : Stmt} {ps : List Str} {f : Addr} {oc : Value} {od an : Option Addr} {osl : Array (Option Value)} {kV doc pm cdv ct : Value} (X : K.In h) (G : h.Ns mainGlobals mg)
    (hb : ∀ (kV doc pm : Value) (an : Option Addr) (cdv ct : Value) (us : List Value), us.length = ps.length → bindArgs (PySem.W.fnOf x x (defArgs st) (defBody st) (defScope st) .none kV doc pm an cdv ct) ⟨us, []⟩ = pure (ps.zip us))
    (a : PySem.W.nsIn K mainGlobals x = some (some (.ref f))) (l : K.lookup f = some ⟨oc, od, .func (PySem.W.fnOf x x (defArgs st) (defBody st) (defScope st) .none kV doc pm an cdv ct), osl⟩)
    (c : PySem.W.codeIn K cdv x = true) (k : PySem.W.keepIn K (.ref f) = true) : ∃ f fd, Df K mg x st ps f fd := ⟨f, _, fun_mk l c k, PySem.W.mg_of X G a, (fun_mk l c k).binds hb⟩
/-- a method's def -/
structure Mf (K : PySem.W.Frag) (C : Addr) (x q : Str) (st : Stmt) (ps : List Str) (f : Addr) (fd : FuncData) : Prop where
  F : Fun K x q st f fd
  m : Meth K C x f
  b : Binds K fd ps []
theorem ex_mf {C : Addr} {x q : Str} {st : Stmt} {ps : List Str} {f : Addr} {oc : Value} {od an : Option Addr} {osl : Array (Option Value)} {kV doc pm cdv ct : Value}
    (hb : ∀ (kV doc pm : Value) (an : Option Addr) (cdv ct : Value) (us : List Value), us.length = ps.length → bindArgs (PySem.W.fnOf x q (defArgs st) (defBody st) (defScope st) .none kV doc pm an cdv ct) ⟨us, []⟩ = pure (ps.zip us))
    (a : PySem.W.findIn K (.ref C) x = some (some (.ref f))) (i : PySem.W.isFn K (.ref f) = true) (l : K.lookup f = some ⟨oc, od, .func (PySem.W.fnOf x q (defArgs st) (defBody st) (defScope st) .none kV doc pm an cdv ct), osl⟩)
    (c : PySem.W.codeIn K cdv q = true) (k : PySem.W.keepIn K (.ref f) = true) : ∃ f fd, Mf K C x q st ps f fd := ⟨f, _, fun_mk l c k, ⟨a, i, k⟩, (fun_mk l c k).binds hb⟩
/-- the class Mender -/
structure MeC (K : PySem.W.Frag) (mg : Str → Option Value) (C : Addr) : Prop where
  g : mg "Mender" = some (.ref C)
  mc : MC K C
  mkI : PySem.W.makesIn K C = true
  kp : PySem.W.keepIn K (.ref C) = true
  minit : ∃ f fd, Mf K C "__init__" "Mender.__init__" sMInit ["self", "grammar", "text"] f fd
  literal : ∃ f fd, Mf K C "literal" "Mender.literal" sLiteral ["self", "wanted", "start", "end"] f fd
  one : ∃ f fd, Mf K C "one" "Mender.one" sOne ["self", "symbol", "start", "end"] f fd
  rule : ∃ f fd, Mf K C "rule_mends" "Mender.rule_mends" sRule ["self", "symbols", "start"] f fd
  fill : ∃ f fd, Mf K C "fill" "Mender.fill" sFill ["self", "start"] f fd
theorem ex_mec {C : Addr} (X : K.In h) (G : h.Ns mainGlobals mg) (a : PySem.W.nsIn K mainGlobals "Mender" = some (some (.ref C))) (pg : PySem.W.plainGet K C Str.empty = true) (hd : PySem.W.hasDictIn K C = true) (po : PySem.W.plainOver K C = true)
    (sa : PySem.W.findIn K (.ref C) "__setattr__" = some (some (.builtin "object.__setattr__"))) (nG : PySem.W.findIn K (.ref C) "grammar" = some none) (nT : PySem.W.findIn K (.ref C) "text" = some none) (nR : PySem.W.findIn K (.ref C) "rows" = some none) (nL : PySem.W.findIn K (.ref C) "literals" = some none)
    (mk : PySem.W.makesIn K C = true) (kp : PySem.W.keepIn K (.ref C) = true)
    (minit : ∃ f fd, Mf K C "__init__" "Mender.__init__" sMInit ["self", "grammar", "text"] f fd)
    (literal : ∃ f fd, Mf K C "literal" "Mender.literal" sLiteral ["self", "wanted", "start", "end"] f fd)
    (one : ∃ f fd, Mf K C "one" "Mender.one" sOne ["self", "symbol", "start", "end"] f fd)
    (rule : ∃ f fd, Mf K C "rule_mends" "Mender.rule_mends" sRule ["self", "symbols", "start"] f fd)
    (fill : ∃ f fd, Mf K C "fill" "Mender.fill" sFill ["self", "start"] f fd)
    : ∃ C, MeC K mg C := ⟨C, PySem.W.mg_of X G a, ⟨⟨pg, hd, po, sa⟩, nG, nT, nR, nL⟩, mk, kp, minit, literal, one, rule, fill⟩
theorem ex_xc {C : Addr} (X : K.In h) (G : h.Ns mainGlobals mg) (a : PySem.W.nsIn K mainGlobals "TreeError" = some (some (.ref C))) (q : PySem.W.excIn K C [.type "ValueError", .type "Exception", .type "BaseException", .type "object"] "ValueError.__new__" = true)
    (k : PySem.W.keepIn K (.ref C) = true) (b : PySem.W.subIn K (.ref C) (.type "BaseException") = some true) (t : PySem.W.typeIn K (.ref C) = some (.type "type")) (hd : PySem.W.hasDictIn K C = true) (s : PySem.W.subIn K (.ref C) (.ref C) = some true) : ∃ C, XC K mg "TreeError" C :=
  ⟨C, q, PySem.W.mg_of X G a, k, b, t, PySem.W.exm_ref b hd t s⟩
/-- the class GrammarError -/
structure GrC (K : PySem.W.Frag) (mg : Str → Option Value) (C S fI : Addr) (fd : FuncData) : Prop where
  gc : GC K mg C S fI
  e : PySem.W.exmOne K (.ref C) (.ref C) = some true
  F : Fun K "__init__" "GrammarError.__init__" sGramInit fI fd
  b : Binds K fd ["self", "rule", "at"] []
theorem ex_gc {C S f : Addr} {nm q : Str} {N : Addr} {bs bm : List Value} {sn : List Str} {sub : List Value} {ab : Bool} {col : Option Bool} {dd : Option Addr} {m0 m1 m2 m3 m5 : Option Value} {oc : Value} {od an : Option Addr} {osl : Array (Option Value)} {kV doc pm cdv ct : Value}
    (X : K.In h) (G : h.Ns mainGlobals mg) (aC : PySem.W.nsIn K mainGlobals "GrammarError" = some (some (.ref C))) (aS : PySem.W.nsIn K mainGlobals "ScribeError" = some (some (.ref S)))
    (xL : K.lookup C = some (excClassObj nm q C N bs bm true sn sub ab col dd m0 m1 m2 m3 m5 "ValueError.__new__")) (rv : PySem.HandSPX.refsVE bm = true) (sa : PySem.W.findIn K (.ref C) "__setattr__" = some (some (.builtin "object.__setattr__")))
    (b : PySem.W.subIn K (.ref C) (.type "BaseException") = some true) (t : PySem.W.typeIn K (.ref C) = some (.type "type")) (kC : PySem.W.keepIn K (.ref C) = true) (hd : PySem.W.hasDictIn K C = true) (s : PySem.W.subIn K (.ref C) (.ref C) = some true)
    (sS : PySem.W.specialIn K (.ref S) "__getattribute__" = some (some (.builtin "type.__getattribute__"))) (rS : PySem.W.readsIn K S (.type "type") = true) (vS : PySem.W.findCls K (.ref S) (.type "type") "__init__" = some (.val (.builtin "ValueError.__init__")))
    (nR : PySem.W.findIn K (.ref C) "rule" = some none) (nA : PySem.W.findIn K (.ref C) "at" = some none) (iC : PySem.W.findIn K (.ref C) "__init__" = some (some (.ref f))) (tI : PySem.W.typeIn K (.ref f) = some (.type "function"))
    (l : K.lookup f = some ⟨oc, od, .func (PySem.W.fnOf "__init__" "GrammarError.__init__" (defArgs sGramInit) (defBody sGramInit) (defScope sGramInit) .none kV doc pm an cdv ct), osl⟩)
    (c : PySem.W.codeIn K cdv "GrammarError.__init__" = true) (k : PySem.W.keepIn K (.ref f) = true) : ∃ C S fI fd, GrC K mg C S fI fd :=
  ⟨C, S, f, _, ⟨⟨⟨_, _, _, _, _, _, _, _, _, _, _, _, _, _, _, xL, rv⟩, sa, b, t, kC⟩, PySem.W.mg_of X G aS, PySem.W.mg_of X G aC, sS, rS, vS, nR, nA, iC, tI⟩, PySem.W.exm_ref b hd t s, fun_mk l c k, (fun_mk l c k).binds (fun _ _ _ _ _ _ us hl => match us, hl with | [_, _, _], _ => rfl)⟩
theorem ex_bi (X : K.In h) (G : h.Ns mainGlobals mg) (z_len : PySem.W.nsIn K mainGlobals "len" = some none) (z_sorted : PySem.W.nsIn K mainGlobals "sorted" = some none) (z_set : PySem.W.nsIn K mainGlobals "set" = some none) (z_all : PySem.W.nsIn K mainGlobals "all" = some none) (z_enumerate : PySem.W.nsIn K mainGlobals "enumerate" = some none) (z_list : PySem.W.nsIn K mainGlobals "list" = some none) (z_range : PySem.W.nsIn K mainGlobals "range" = some none) (z_min : PySem.W.nsIn K mainGlobals "min" = some none) (z_max : PySem.W.nsIn K mainGlobals "max" = some none) (z_int : PySem.W.nsIn K mainGlobals "int" = some none) (z_isinstance : PySem.W.nsIn K mainGlobals "isinstance" = some none) (z_tuple : PySem.W.nsIn K mainGlobals "tuple" = some none) (z_str : PySem.W.nsIn K mainGlobals "str" = some none) (z_bool : PySem.W.nsIn K mainGlobals "bool" = some none) (z_sum : PySem.W.nsIn K mainGlobals "sum" = some none) (z_repr : PySem.W.nsIn K mainGlobals "repr" = some none) : Bi mg :=
  ⟨PySem.W.mg_none_of X G z_len, PySem.W.mg_none_of X G z_sorted, PySem.W.mg_none_of X G z_set, PySem.W.mg_none_of X G z_all, PySem.W.mg_none_of X G z_enumerate, PySem.W.mg_none_of X G z_list, PySem.W.mg_none_of X G z_range, PySem.W.mg_none_of X G z_min, PySem.W.mg_none_of X G z_max, PySem.W.mg_none_of X G z_int, PySem.W.mg_none_of X G z_isinstance, PySem.W.mg_none_of X G z_tuple, PySem.W.mg_none_of X G z_str, PySem.W.mg_none_of X G z_bool, PySem.W.mg_none_of X G z_sum, PySem.W.mg_none_of X G z_repr⟩
theorem ex_ch {z : Str} {tk : Tok} (X : K.In h) (G : h.Ns mainGlobals mg) (a : PySem.W.nsIn K mainGlobals "CHARACTERS" = some (some (.str z tk))) (hz : z.length ≤ 1000) : ∃ z tk, mg "CHARACTERS" = some (.str z tk) ∧ z.length ≤ 1000 := ⟨z, tk, PySem.W.mg_of X G a, hz⟩
/-- all of it -/
structure Facts (K : PySem.W.Frag) (mg : Str → Option Value) : Prop where
  bi : Bi mg
  ch : ∃ z tk, mg "CHARACTERS" = some (.str z tk) ∧ z.length ≤ 1000
  me : ∃ C, MeC K mg C
  tr : ∃ C, XC K mg "TreeError" C
  gr : ∃ C S fI fd, GrC K mg C S fI fd
  d_rows : ∃ f fd, Df K mg "change_rows" sChRows ["first", "second"] f fd
  d_count : ∃ f fd, Df K mg "change_count" sChCount ["first", "second"] f fd
  d_joined : ∃ f fd, Df K mg "joined" sJoined ["first", "second"] f fd
  d_changes : ∃ f fd, Df K mg "changes" sChanges ["first", "second"] f fd
  d_lefts : ∃ f fd, Df K mg "lefts" sLefts ["grammar"] f fd
  d_mend : ∃ f fd, Df K mg "mend" sMend ["grammar", "text"] f fd
  d_distance : ∃ f fd, Df K mg "distance" sDistance ["grammar", "text"] f fd
  d_draws : ∃ f fd, Df K mg "_law_draws" sDraws ["_law_script"] f fd
  d_draw : ∃ f fd, Df K mg "_law_draw" sDraw ["_law_draws_here", "_law_limit"] f fd
  d_symbol : ∃ f fd, Df K mg "_law_symbol" sSymbol ["_law_draws_here", "_law_names"] f fd
  d_text : ∃ f fd, Df K mg "_law_text" sText ["_law_draws_here", "_law_most"] f fd
  d_grammar : ∃ f fd, Df K mg "_law_grammar" sGrammar ["_law_draws_here"] f fd
  d_texts : ∃ f fd, Df K mg "_law_texts" sTexts ["_law_symbol_here", "_law_rows"] f fd
  d_apart : ∃ f fd, Df K mg "_law_apart" sApart ["_law_first", "_law_second"] f fd
  d_words : ∃ f fd, Df K mg "_law_words" sWords ["_law_grammar_here", "_law_most"] f fd
  d_leads : ∃ f fd, Df K mg "_law_leads" sLeads ["_law_text_here", "_law_edits", "_law_new"] f fd
  d_fruit : ∃ f fd, Df K mg "_law_fruitful" sFruit ["_law_grammar_here"] f fd
  d_told : ∃ f fd, Df K mg "_law_told" sTold ["_law_call", "_law_grammar_here", "_law_text_here"] f fd
  d_checked : ∃ f fd, Df K mg "_law_checked" sChecked ["_law_grammar_here"] f fd
  d_same : ∃ f fd, Df K mg "_law_same" sSame ["_law_actual", "_law_expected"] f fd
  d_long : ∃ f fd, Df K mg "_law_long" sLong ["_law_draws_here"] f fd
  d_all : ∃ f fd, Df K mg "all_characters" sAllCh [] f fd
  d_canon : ∃ f fd, Df K mg "canon" sCanon ["text"] f fd
  d_isclass : ∃ f fd, Df K mg "is_class" sIsClass ["text"] f fd
  d_checkclass : ∃ f fd, Df K mg "check_class" sCheckClass ["text", "at"] f fd
  d_isname : ∃ f fd, Df K mg "is_name" sIsName ["text"] f fd
  d_rulesof : ∃ f fd, Df K mg "rules_of" sRulesOf ["grammar", "name"] f fd
  d_checksym : ∃ f fd, Df K mg "check_symbol" sCheckSym ["symbol", "at", "known"] f fd
  d_nullable : ∃ f fd, Df K mg "nullable" sNullable ["grammar"] f fd
  d_steps : ∃ f fd, Df K mg "steps_alone" sSteps ["grammar"] f fd
  d_cyclic : ∃ f fd, Df K mg "cyclic" sCyclic ["grammar"] f fd
  d_check : ∃ f fd, Df K mg "check" sCheck ["grammar"] f fd
  d_law : ∃ f fd, Df K mg "law" sLaw ["_law_script"] f fd
end
section
variable {P : Program} {w : World} {K : PySem.W.Frag} {mg : Str → Option Value} {base : Heap}
theorem law_all {fa a : Addr} {s : Shared} {H : Hp} {ns0 : List Int} (Z : Facts K mg) (hmg : mg "law" = some (.ref fa)) (hK : K.In s.heap) (e0 : Env0 P w K mg base callerA [] s H) (hS : SqL K H a (ns0.map V.int)) (hz : ns0.length ≤ 1000) :
    codeAny (model P w) callerA (.call (.ref fa) ⟨[.ref a], []⟩) (CR CX0 [] P w H s (fun v _ => v = .bl true) E0) s := by
  have T := Z.bi
  obtain ⟨f_rows, e_rows, D_rows⟩ := Z.d_rows
  obtain ⟨f_count, e_count, D_count⟩ := Z.d_count
  obtain ⟨f_joined, e_joined, D_joined⟩ := Z.d_joined
  obtain ⟨f_changes, e_changes, D_changes⟩ := Z.d_changes
  obtain ⟨f_lefts, e_lefts, D_lefts⟩ := Z.d_lefts
  obtain ⟨f_mend, e_mend, D_mend⟩ := Z.d_mend
  obtain ⟨f_distance, e_distance, D_distance⟩ := Z.d_distance
  obtain ⟨f_draws, e_draws, D_draws⟩ := Z.d_draws
  obtain ⟨f_draw, e_draw, D_draw⟩ := Z.d_draw
  obtain ⟨f_symbol, e_symbol, D_symbol⟩ := Z.d_symbol
  obtain ⟨f_text, e_text, D_text⟩ := Z.d_text
  obtain ⟨f_grammar, e_grammar, D_grammar⟩ := Z.d_grammar
  obtain ⟨f_texts, e_texts, D_texts⟩ := Z.d_texts
  obtain ⟨f_apart, e_apart, D_apart⟩ := Z.d_apart
  obtain ⟨f_words, e_words, D_words⟩ := Z.d_words
  obtain ⟨f_leads, e_leads, D_leads⟩ := Z.d_leads
  obtain ⟨f_fruit, e_fruit, D_fruit⟩ := Z.d_fruit
  obtain ⟨f_told, e_told, D_told⟩ := Z.d_told
  obtain ⟨f_checked, e_checked, D_checked⟩ := Z.d_checked
  obtain ⟨f_same, e_same, D_same⟩ := Z.d_same
  obtain ⟨f_long, e_long, D_long⟩ := Z.d_long
  obtain ⟨f_all, e_all, D_all⟩ := Z.d_all
  obtain ⟨f_canon, e_canon, D_canon⟩ := Z.d_canon
  obtain ⟨f_isclass, e_isclass, D_isclass⟩ := Z.d_isclass
  obtain ⟨f_checkclass, e_checkclass, D_checkclass⟩ := Z.d_checkclass
  obtain ⟨f_isname, e_isname, D_isname⟩ := Z.d_isname
  obtain ⟨f_rulesof, e_rulesof, D_rulesof⟩ := Z.d_rulesof
  obtain ⟨f_checksym, e_checksym, D_checksym⟩ := Z.d_checksym
  obtain ⟨f_nullable, e_nullable, D_nullable⟩ := Z.d_nullable
  obtain ⟨f_steps, e_steps, D_steps⟩ := Z.d_steps
  obtain ⟨f_cyclic, e_cyclic, D_cyclic⟩ := Z.d_cyclic
  obtain ⟨f_check, e_check, D_check⟩ := Z.d_check
  obtain ⟨f_law, e_law, D_law⟩ := Z.d_law
  obtain ⟨C, me⟩ := Z.me
  obtain ⟨X, TX⟩ := Z.tr
  obtain ⟨XG, SG, fG, eG, gc⟩ := Z.gr
  obtain ⟨f_mi, e_mi, M_mi⟩ := me.minit
  obtain ⟨f_li, e_li, M_li⟩ := me.literal
  obtain ⟨f_on, e_on, M_on⟩ := me.one
  obtain ⟨f_ru, e_ru, M_ru⟩ := me.rule
  obtain ⟨f_fi, e_fi, M_fi⟩ := me.fill
  obtain rfl : f_law = fa := by
    have := D_law.g.symm.trans hmg
    injection this with this
    injection this
  have T2 := me.mc
  have MkM : Mk K C f_mi := ⟨me.mkI, M_mi.m.at_, M_mi.m.fn, me.kp⟩
  have G_rows := ok_rows (P := P) (w := w) (base := base) D_rows.F T
  have G_count := ok_count (P := P) (w := w) (base := base) D_count.F D_rows G_rows
  have G_joined := ok_joined (P := P) (w := w) (mg := mg) (base := base) D_joined.F
  have G_changes := ok_changes (P := P) (w := w) (base := base) D_changes.F T D_rows G_rows
  have G_li := ok_literal (P := P) (w := w) (base := base) M_li.F T T2 D_count G_count
  have G_on := ok_one (P := P) (w := w) (base := base) M_on.F T T2 M_li.m M_li.b G_li
  have G_ru := ok_rule (P := P) (w := w) (base := base) M_ru.F T T2 M_on.m M_on.b G_on D_joined G_joined
  have G_fi := ok_fill (P := P) (w := w) (base := base) M_fi.F T T2 M_ru.m M_ru.b G_ru
  have G_lefts := ok_lefts (P := P) (w := w) (base := base) D_lefts.F T
  have G_mi := ok_minit (P := P) (w := w) (base := base) M_mi.F T T2 D_lefts G_lefts M_fi.m M_fi.b G_fi
  have G_mend := ok_mend (P := P) (w := w) (base := base) D_mend.F T T2 TX MkM me.g M_mi.b G_mi D_changes G_changes
  have G_distance := ok_distance (P := P) (w := w) (base := base) D_distance.F T D_mend G_mend
  have G_draws := ok_draws (P := P) (w := w) (base := base) D_draws.F T
  have G_draw := ok_draw (P := P) (w := w) (base := base) D_draw.F T
  have G_symbol := ok_symbol (P := P) (w := w) (base := base) D_symbol.F T D_draw G_draw
  have G_text := ok_text (P := P) (w := w) (base := base) D_text.F T D_draw G_draw
  have G_grammar := ok_grammar (P := P) (w := w) (base := base) D_grammar.F T D_draw G_draw D_symbol G_symbol
  have G_texts := ok_texts (P := P) (w := w) (base := base) D_texts.F T
  have G_apart := ok_apart (P := P) (w := w) (base := base) D_apart.F T
  have G_words := ok_words (P := P) (w := w) (base := base) D_words.F T D_texts G_texts
  have G_leads := ok_leads (P := P) (w := w) (base := base) D_leads.F T
  have G_fruit := ok_fruit (P := P) (w := w) (base := base) D_fruit.F T
  have G_same1 := ok_same (P := P) (w := w) (base := base) D_same T 1
  have G_same3 := ok_same (P := P) (w := w) (base := base) D_same T 3
  have G_long := ok_long (P := P) (w := w) (base := base) D_long.F T D_draw G_draw D_text G_text D_mend G_mend D_same G_same1 D_leads G_leads D_distance G_distance
  have G_toldM := ok_told (P := P) (w := w) (base := base) D_told.F TX D_mend (FnOk.mono G_mend (by decide))
  have G_toldD := ok_told (P := P) (w := w) (base := base) D_told.F TX D_distance G_distance
  have G_ginit := ok_ginit (P := P) (w := w) (base := base) gc.F T gc.gc
  have G_all := ok_all (P := P) (w := w) (base := base) D_all.F Z.ch
  have G_canon := ok_canon (P := P) (w := w) (base := base) D_canon.F T
  have G_isclass := ok_isclass (P := P) (w := w) (base := base) D_isclass.F T D_canon G_canon D_all G_all
  have G_checkclass := ok_checkclass (P := P) (w := w) (base := base) D_checkclass.F T gc.gc G_ginit gc.b D_isclass G_isclass
  have G_isname := ok_isname (P := P) (w := w) (base := base) D_isname.F T
  have G_rulesof := ok_rulesof (P := P) (w := w) (base := base) D_rulesof.F T
  have G_checksym := ok_checksym (P := P) (w := w) (base := base) D_checksym.F T gc.gc G_ginit gc.b D_isclass G_isclass D_canon G_canon D_checkclass G_checkclass
  have G_nullable := ok_nullable (P := P) (w := w) (base := base) D_nullable.F T
  have G_steps := ok_steps (P := P) (w := w) (base := base) D_steps.F T D_nullable G_nullable
  have G_cyclic := ok_cyclic (P := P) (w := w) (base := base) D_cyclic.F T D_steps G_steps D_lefts G_lefts
  have G_check := ok_check (P := P) (w := w) (base := base) D_check.F T gc.gc G_ginit gc.b D_lefts G_lefts D_isname G_isname D_cyclic G_cyclic D_rulesof G_rulesof D_checksym G_checksym
  have G_checked := ok_checked (P := P) (w := w) (base := base) D_checked.F gc.gc.gC gc.e D_check G_check
  exact law_top D_law.F T D_draws G_draws D_draw G_draw D_long G_long D_grammar G_grammar D_text G_text D_checked G_checked D_fruit G_fruit D_same G_same3 D_leads G_leads D_apart G_apart D_words G_words D_mend D_distance D_told G_toldM G_toldD
    ⟨rfl, by decide, by decide⟩ e0 (D_law.b s [.ref a] hK rfl) hS hz
end
theorem walk {l : PySem.W.OpenLaw} {q : Program} {loose : List Str} {XP : (Str → Option Value) → Heap → Prop} {YP : World → Heap → Prop} {d : DefRec} {K : Params → PySem.W.Frag} (hn : l.most = some 63) (hdf : d.params.defaults = []) (hd : d.name = "law")
    (hY : ∀ (w : World) (h : Heap), YP w h → (K w.params).In h) (F : ∀ (w : World) (mg : Str → Option Value) (h : Heap), (K w.params).In h → h.Ns mainGlobals mg → Facts (K w.params) mg) : PySem.W.WalkO q loose XP YP l.row.toRowW d [] (fun f vs => PySem.call f vs) := by
  refine Att.attach_call hn hdf fun w s₀ s₁ mg mb fa o pm cd doc a vs ns G Y ho hd' hcd hmg hobj hints hlen hg => ?_
  have KX := hY w _ Y
  have Z := F w mg _ KX G.T.g
  exact law_go KX G.T.g G.T.b G.T.builtins G.T.nolimit hg hobj hints (Nat.le_trans hlen (sz _ (by decide))) fun base H _ _ e0 hS => law_all Z (hd ▸ hmg) KX e0 hS (by omega)
end Ms
end TextH1
set_option linter.all false
set_option maxRecDepth 100000
open PySem PySem.W PyProof.Rows in
set_option maxRecDepth 100000 in
set_option maxHeartbeats 0 in
theorem PySem.Challenge.cw_scribeself_k81_whole_least_mends_holds : PySem.Challenge.rw_scribeself_k81_whole_least_mends.Holds := by
  w_on; o_law; k_head; (case hw => w_witness2)
  k_fill
  refine Ms.walk (l := PySem.Challenge.rw_scribeself_k81_whole_least_mends) rfl rfl rfl (fun w h Y => PySem.W.kIn_of Y) ?y_F
  case y_F =>
    intro w mg h KX G
    refine ⟨?y_bi, ?y_ch, ?y_me, ?y_tr, ?y_gr, ?y_d_rows, ?y_d_count, ?y_d_joined, ?y_d_changes, ?y_d_lefts, ?y_d_mend, ?y_d_distance, ?y_d_draws, ?y_d_draw, ?y_d_symbol, ?y_d_text, ?y_d_grammar, ?y_d_texts, ?y_d_apart, ?y_d_words, ?y_d_leads, ?y_d_fruit, ?y_d_told, ?y_d_checked, ?y_d_same, ?y_d_long, ?y_d_all, ?y_d_canon, ?y_d_isclass, ?y_d_checkclass, ?y_d_isname, ?y_d_rulesof, ?y_d_checksym, ?y_d_nullable, ?y_d_steps, ?y_d_cyclic, ?y_d_check, ?y_d_law⟩
    case y_bi =>
      refine' Ms.ex_bi KX G ?y_bi_len ?y_bi_sorted ?y_bi_set ?y_bi_all ?y_bi_enumerate ?y_bi_list ?y_bi_range ?y_bi_min ?y_bi_max ?y_bi_int ?y_bi_isinstance ?y_bi_tuple ?y_bi_str ?y_bi_bool ?y_bi_sum ?y_bi_repr
      (case y_bi_len => k_is)
      (case y_bi_sorted => k_is)
      (case y_bi_set => k_is)
      (case y_bi_all => k_is)
      (case y_bi_enumerate => k_is)
      (case y_bi_list => k_is)
      (case y_bi_range => k_is)
      (case y_bi_min => k_is)
      (case y_bi_max => k_is)
      (case y_bi_int => k_is)
      (case y_bi_isinstance => k_is)
      (case y_bi_tuple => k_is)
      (case y_bi_str => k_is)
      (case y_bi_bool => k_is)
      (case y_bi_sum => k_is)
      (case y_bi_repr => k_is)
    case y_ch =>
      refine' Ms.ex_ch KX G ?y_ch_a ?y_ch_z
      (case y_ch_a => k_is)
      (case y_ch_z => decide +kernel)
    case y_me =>
      refine' Ms.ex_mec KX G ?y_me_a ?y_me_pg ?y_me_hd ?y_me_po ?y_me_sa ?y_me_nG ?y_me_nT ?y_me_nR ?y_me_nL ?y_me_mk ?y_me_kp ?y_me_minit ?y_me_literal ?y_me_one ?y_me_rule ?y_me_fill
      (case y_me_a => k_is)
      (case y_me_pg => k_is)
      (case y_me_hd => k_is)
      (case y_me_po => k_is)
      (case y_me_sa => k_is)
      (case y_me_nG => k_is)
      (case y_me_nT => k_is)
      (case y_me_nR => k_is)
      (case y_me_nL => k_is)
      (case y_me_mk => k_is)
      (case y_me_kp => k_is)
      case y_me_minit =>
        refine' Ms.ex_mf (fun _ _ _ _ _ _ us hl => match us, hl with | [_, _, _], _ => rfl) ?y_minit_a ?y_minit_i ?y_minit_l ?y_minit_c ?y_minit_k
        (case y_minit_a => k_is)
        (case y_minit_i => k_is)
        (case y_minit_l => k_is)
        (case y_minit_c => k_is)
        (case y_minit_k => k_is)
      case y_me_literal =>
        refine' Ms.ex_mf (fun _ _ _ _ _ _ us hl => match us, hl with | [_, _, _, _], _ => rfl) ?y_literal_a ?y_literal_i ?y_literal_l ?y_literal_c ?y_literal_k
        (case y_literal_a => k_is)
        (case y_literal_i => k_is)
        (case y_literal_l => k_is)
        (case y_literal_c => k_is)
        (case y_literal_k => k_is)
      case y_me_one =>
        refine' Ms.ex_mf (fun _ _ _ _ _ _ us hl => match us, hl with | [_, _, _, _], _ => rfl) ?y_one_a ?y_one_i ?y_one_l ?y_one_c ?y_one_k
        (case y_one_a => k_is)
        (case y_one_i => k_is)
        (case y_one_l => k_is)
        (case y_one_c => k_is)
        (case y_one_k => k_is)
      case y_me_rule =>
        refine' Ms.ex_mf (fun _ _ _ _ _ _ us hl => match us, hl with | [_, _, _], _ => rfl) ?y_rule_a ?y_rule_i ?y_rule_l ?y_rule_c ?y_rule_k
        (case y_rule_a => k_is)
        (case y_rule_i => k_is)
        (case y_rule_l => k_is)
        (case y_rule_c => k_is)
        (case y_rule_k => k_is)
      case y_me_fill =>
        refine' Ms.ex_mf (fun _ _ _ _ _ _ us hl => match us, hl with | [_, _], _ => rfl) ?y_fill_a ?y_fill_i ?y_fill_l ?y_fill_c ?y_fill_k
        (case y_fill_a => k_is)
        (case y_fill_i => k_is)
        (case y_fill_l => k_is)
        (case y_fill_c => k_is)
        (case y_fill_k => k_is)
    case y_tr =>
      refine' Ms.ex_xc KX G ?y_tr_a ?y_tr_q ?y_tr_k ?y_tr_b ?y_tr_t ?y_tr_hd ?y_tr_s
      (case y_tr_a => k_is)
      (case y_tr_q => k_exc)
      (case y_tr_k => k_is)
      (case y_tr_b => k_is)
      (case y_tr_t => k_is)
      (case y_tr_hd => k_is)
      (case y_tr_s => k_is)
    case y_gr =>
      refine' Ms.ex_gc KX G ?y_gr_aC ?y_gr_aS ?y_gr_xL ?y_gr_rv ?y_gr_sa ?y_gr_b ?y_gr_t ?y_gr_kC ?y_gr_hd ?y_gr_s ?y_gr_sS ?y_gr_rS ?y_gr_vS ?y_gr_nR ?y_gr_nA ?y_gr_iC ?y_gr_tI ?y_gr_l ?y_gr_c ?y_gr_k
      (case y_gr_aC => k_is)
      (case y_gr_aS => k_is)
      (case y_gr_xL => k_is)
      (case y_gr_rv => decide +kernel)
      (case y_gr_sa => k_is)
      (case y_gr_b => k_is)
      (case y_gr_t => k_is)
      (case y_gr_kC => k_is)
      (case y_gr_hd => k_is)
      (case y_gr_s => k_is)
      (case y_gr_sS => k_is)
      (case y_gr_rS => k_is)
      (case y_gr_vS => k_is)
      (case y_gr_nR => k_is)
      (case y_gr_nA => k_is)
      (case y_gr_iC => k_is)
      (case y_gr_tI => k_is)
      (case y_gr_l => k_is)
      (case y_gr_c => k_is)
      (case y_gr_k => k_is)
    case y_d_rows =>
      refine' Ms.ex_df KX G (fun _ _ _ _ _ _ us hl => match us, hl with | [_, _], _ => rfl) ?y_drows_a ?y_drows_l ?y_drows_c ?y_drows_k
      (case y_drows_a => k_is)
      (case y_drows_l => k_is)
      (case y_drows_c => k_is)
      (case y_drows_k => k_is)
    case y_d_count =>
      refine' Ms.ex_df KX G (fun _ _ _ _ _ _ us hl => match us, hl with | [_, _], _ => rfl) ?y_dcount_a ?y_dcount_l ?y_dcount_c ?y_dcount_k
      (case y_dcount_a => k_is)
      (case y_dcount_l => k_is)
      (case y_dcount_c => k_is)
      (case y_dcount_k => k_is)
    case y_d_joined =>
      refine' Ms.ex_df KX G (fun _ _ _ _ _ _ us hl => match us, hl with | [_, _], _ => rfl) ?y_djoined_a ?y_djoined_l ?y_djoined_c ?y_djoined_k
      (case y_djoined_a => k_is)
      (case y_djoined_l => k_is)
      (case y_djoined_c => k_is)
      (case y_djoined_k => k_is)
    case y_d_changes =>
      refine' Ms.ex_df KX G (fun _ _ _ _ _ _ us hl => match us, hl with | [_, _], _ => rfl) ?y_dchanges_a ?y_dchanges_l ?y_dchanges_c ?y_dchanges_k
      (case y_dchanges_a => k_is)
      (case y_dchanges_l => k_is)
      (case y_dchanges_c => k_is)
      (case y_dchanges_k => k_is)
    case y_d_lefts =>
      refine' Ms.ex_df KX G (fun _ _ _ _ _ _ us hl => match us, hl with | [_], _ => rfl) ?y_dlefts_a ?y_dlefts_l ?y_dlefts_c ?y_dlefts_k
      (case y_dlefts_a => k_is)
      (case y_dlefts_l => k_is)
      (case y_dlefts_c => k_is)
      (case y_dlefts_k => k_is)
    case y_d_mend =>
      refine' Ms.ex_df KX G (fun _ _ _ _ _ _ us hl => match us, hl with | [_, _], _ => rfl) ?y_dmend_a ?y_dmend_l ?y_dmend_c ?y_dmend_k
      (case y_dmend_a => k_is)
      (case y_dmend_l => k_is)
      (case y_dmend_c => k_is)
      (case y_dmend_k => k_is)
    case y_d_distance =>
      refine' Ms.ex_df KX G (fun _ _ _ _ _ _ us hl => match us, hl with | [_, _], _ => rfl) ?y_ddistance_a ?y_ddistance_l ?y_ddistance_c ?y_ddistance_k
      (case y_ddistance_a => k_is)
      (case y_ddistance_l => k_is)
      (case y_ddistance_c => k_is)
      (case y_ddistance_k => k_is)
    case y_d_draws =>
      refine' Ms.ex_df KX G (fun _ _ _ _ _ _ us hl => match us, hl with | [_], _ => rfl) ?y_ddraws_a ?y_ddraws_l ?y_ddraws_c ?y_ddraws_k
      (case y_ddraws_a => k_is)
      (case y_ddraws_l => k_is)
      (case y_ddraws_c => k_is)
      (case y_ddraws_k => k_is)
    case y_d_draw =>
      refine' Ms.ex_df KX G (fun _ _ _ _ _ _ us hl => match us, hl with | [_, _], _ => rfl) ?y_ddraw_a ?y_ddraw_l ?y_ddraw_c ?y_ddraw_k
      (case y_ddraw_a => k_is)
      (case y_ddraw_l => k_is)
      (case y_ddraw_c => k_is)
      (case y_ddraw_k => k_is)
    case y_d_symbol =>
      refine' Ms.ex_df KX G (fun _ _ _ _ _ _ us hl => match us, hl with | [_, _], _ => rfl) ?y_dsymbol_a ?y_dsymbol_l ?y_dsymbol_c ?y_dsymbol_k
      (case y_dsymbol_a => k_is)
      (case y_dsymbol_l => k_is)
      (case y_dsymbol_c => k_is)
      (case y_dsymbol_k => k_is)
    case y_d_text =>
      refine' Ms.ex_df KX G (fun _ _ _ _ _ _ us hl => match us, hl with | [_, _], _ => rfl) ?y_dtext_a ?y_dtext_l ?y_dtext_c ?y_dtext_k
      (case y_dtext_a => k_is)
      (case y_dtext_l => k_is)
      (case y_dtext_c => k_is)
      (case y_dtext_k => k_is)
    case y_d_grammar =>
      refine' Ms.ex_df KX G (fun _ _ _ _ _ _ us hl => match us, hl with | [_], _ => rfl) ?y_dgrammar_a ?y_dgrammar_l ?y_dgrammar_c ?y_dgrammar_k
      (case y_dgrammar_a => k_is)
      (case y_dgrammar_l => k_is)
      (case y_dgrammar_c => k_is)
      (case y_dgrammar_k => k_is)
    case y_d_texts =>
      refine' Ms.ex_df KX G (fun _ _ _ _ _ _ us hl => match us, hl with | [_, _], _ => rfl) ?y_dtexts_a ?y_dtexts_l ?y_dtexts_c ?y_dtexts_k
      (case y_dtexts_a => k_is)
      (case y_dtexts_l => k_is)
      (case y_dtexts_c => k_is)
      (case y_dtexts_k => k_is)
    case y_d_apart =>
      refine' Ms.ex_df KX G (fun _ _ _ _ _ _ us hl => match us, hl with | [_, _], _ => rfl) ?y_dapart_a ?y_dapart_l ?y_dapart_c ?y_dapart_k
      (case y_dapart_a => k_is)
      (case y_dapart_l => k_is)
      (case y_dapart_c => k_is)
      (case y_dapart_k => k_is)
    case y_d_words =>
      refine' Ms.ex_df KX G (fun _ _ _ _ _ _ us hl => match us, hl with | [_, _], _ => rfl) ?y_dwords_a ?y_dwords_l ?y_dwords_c ?y_dwords_k
      (case y_dwords_a => k_is)
      (case y_dwords_l => k_is)
      (case y_dwords_c => k_is)
      (case y_dwords_k => k_is)
    case y_d_leads =>
      refine' Ms.ex_df KX G (fun _ _ _ _ _ _ us hl => match us, hl with | [_, _, _], _ => rfl) ?y_dleads_a ?y_dleads_l ?y_dleads_c ?y_dleads_k
      (case y_dleads_a => k_is)
      (case y_dleads_l => k_is)
      (case y_dleads_c => k_is)
      (case y_dleads_k => k_is)
    case y_d_fruit =>
      refine' Ms.ex_df KX G (fun _ _ _ _ _ _ us hl => match us, hl with | [_], _ => rfl) ?y_dfruit_a ?y_dfruit_l ?y_dfruit_c ?y_dfruit_k
      (case y_dfruit_a => k_is)
      (case y_dfruit_l => k_is)
      (case y_dfruit_c => k_is)
      (case y_dfruit_k => k_is)
    case y_d_told =>
      refine' Ms.ex_df KX G (fun _ _ _ _ _ _ us hl => match us, hl with | [_, _, _], _ => rfl) ?y_dtold_a ?y_dtold_l ?y_dtold_c ?y_dtold_k
      (case y_dtold_a => k_is)
      (case y_dtold_l => k_is)
      (case y_dtold_c => k_is)
      (case y_dtold_k => k_is)
    case y_d_checked =>
      refine' Ms.ex_df KX G (fun _ _ _ _ _ _ us hl => match us, hl with | [_], _ => rfl) ?y_dchecked_a ?y_dchecked_l ?y_dchecked_c ?y_dchecked_k
      (case y_dchecked_a => k_is)
      (case y_dchecked_l => k_is)
      (case y_dchecked_c => k_is)
      (case y_dchecked_k => k_is)
    case y_d_same =>
      refine' Ms.ex_df KX G (fun _ _ _ _ _ _ us hl => match us, hl with | [_, _], _ => rfl) ?y_dsame_a ?y_dsame_l ?y_dsame_c ?y_dsame_k
      (case y_dsame_a => k_is)
      (case y_dsame_l => k_is)
      (case y_dsame_c => k_is)
      (case y_dsame_k => k_is)
    case y_d_long =>
      refine' Ms.ex_df KX G (fun _ _ _ _ _ _ us hl => match us, hl with | [_], _ => rfl) ?y_dlong_a ?y_dlong_l ?y_dlong_c ?y_dlong_k
      (case y_dlong_a => k_is)
      (case y_dlong_l => k_is)
      (case y_dlong_c => k_is)
      (case y_dlong_k => k_is)
    case y_d_all =>
      refine' Ms.ex_df KX G (fun _ _ _ _ _ _ us hl => match us, hl with | [], _ => rfl) ?y_dall_a ?y_dall_l ?y_dall_c ?y_dall_k
      (case y_dall_a => k_is)
      (case y_dall_l => k_is)
      (case y_dall_c => k_is)
      (case y_dall_k => k_is)
    case y_d_canon =>
      refine' Ms.ex_df KX G (fun _ _ _ _ _ _ us hl => match us, hl with | [_], _ => rfl) ?y_dcanon_a ?y_dcanon_l ?y_dcanon_c ?y_dcanon_k
      (case y_dcanon_a => k_is)
      (case y_dcanon_l => k_is)
      (case y_dcanon_c => k_is)
      (case y_dcanon_k => k_is)
    case y_d_isclass =>
      refine' Ms.ex_df KX G (fun _ _ _ _ _ _ us hl => match us, hl with | [_], _ => rfl) ?y_disclass_a ?y_disclass_l ?y_disclass_c ?y_disclass_k
      (case y_disclass_a => k_is)
      (case y_disclass_l => k_is)
      (case y_disclass_c => k_is)
      (case y_disclass_k => k_is)
    case y_d_checkclass =>
      refine' Ms.ex_df KX G (fun _ _ _ _ _ _ us hl => match us, hl with | [_, _], _ => rfl) ?y_dcheckclass_a ?y_dcheckclass_l ?y_dcheckclass_c ?y_dcheckclass_k
      (case y_dcheckclass_a => k_is)
      (case y_dcheckclass_l => k_is)
      (case y_dcheckclass_c => k_is)
      (case y_dcheckclass_k => k_is)
    case y_d_isname =>
      refine' Ms.ex_df KX G (fun _ _ _ _ _ _ us hl => match us, hl with | [_], _ => rfl) ?y_disname_a ?y_disname_l ?y_disname_c ?y_disname_k
      (case y_disname_a => k_is)
      (case y_disname_l => k_is)
      (case y_disname_c => k_is)
      (case y_disname_k => k_is)
    case y_d_rulesof =>
      refine' Ms.ex_df KX G (fun _ _ _ _ _ _ us hl => match us, hl with | [_, _], _ => rfl) ?y_drulesof_a ?y_drulesof_l ?y_drulesof_c ?y_drulesof_k
      (case y_drulesof_a => k_is)
      (case y_drulesof_l => k_is)
      (case y_drulesof_c => k_is)
      (case y_drulesof_k => k_is)
    case y_d_checksym =>
      refine' Ms.ex_df KX G (fun _ _ _ _ _ _ us hl => match us, hl with | [_, _, _], _ => rfl) ?y_dchecksym_a ?y_dchecksym_l ?y_dchecksym_c ?y_dchecksym_k
      (case y_dchecksym_a => k_is)
      (case y_dchecksym_l => k_is)
      (case y_dchecksym_c => k_is)
      (case y_dchecksym_k => k_is)
    case y_d_nullable =>
      refine' Ms.ex_df KX G (fun _ _ _ _ _ _ us hl => match us, hl with | [_], _ => rfl) ?y_dnullable_a ?y_dnullable_l ?y_dnullable_c ?y_dnullable_k
      (case y_dnullable_a => k_is)
      (case y_dnullable_l => k_is)
      (case y_dnullable_c => k_is)
      (case y_dnullable_k => k_is)
    case y_d_steps =>
      refine' Ms.ex_df KX G (fun _ _ _ _ _ _ us hl => match us, hl with | [_], _ => rfl) ?y_dsteps_a ?y_dsteps_l ?y_dsteps_c ?y_dsteps_k
      (case y_dsteps_a => k_is)
      (case y_dsteps_l => k_is)
      (case y_dsteps_c => k_is)
      (case y_dsteps_k => k_is)
    case y_d_cyclic =>
      refine' Ms.ex_df KX G (fun _ _ _ _ _ _ us hl => match us, hl with | [_], _ => rfl) ?y_dcyclic_a ?y_dcyclic_l ?y_dcyclic_c ?y_dcyclic_k
      (case y_dcyclic_a => k_is)
      (case y_dcyclic_l => k_is)
      (case y_dcyclic_c => k_is)
      (case y_dcyclic_k => k_is)
    case y_d_check =>
      refine' Ms.ex_df KX G (fun _ _ _ _ _ _ us hl => match us, hl with | [_], _ => rfl) ?y_dcheck_a ?y_dcheck_l ?y_dcheck_c ?y_dcheck_k
      (case y_dcheck_a => k_is)
      (case y_dcheck_l => k_is)
      (case y_dcheck_c => k_is)
      (case y_dcheck_k => k_is)
    case y_d_law =>
      refine' Ms.ex_df KX G (fun _ _ _ _ _ _ us hl => match us, hl with | [_], _ => rfl) ?y_dlaw_a ?y_dlaw_l ?y_dlaw_c ?y_dlaw_k
      (case y_dlaw_a => k_is)
      (case y_dlaw_l => k_is)
      (case y_dlaw_c => k_is)
      (case y_dlaw_k => k_is)
#print axioms PySem.Challenge.cw_scribeself_k81_whole_least_mends_holds
