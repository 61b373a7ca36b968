import PyProof.Rows.All
import Wide.All
import OpenK.AllK
import Wide.FinOn
import PyProof.ZipIter
import KE.KDictZip
import KE.KItemsList
import HandS.ForMost
import HandS.ForExc
import HandS.Zip0
import HandS.Zip
import HandS.ListItems
import PyProof.Rows.TupDisplay
import HandS.TupLen
import HandS.Walk
import KE.GoesEnum
import KE.GoesMore
import HandS.ExcIs
import HandS.IsInst
import HandS.TupAny
import HandS.Style
import HandS.Property
import PySem.Challenge.RW_butfewrows_k12_whole_benches
import HandS.SortInts
import HandS.Conv
import HandS.Wide
set_option linter.all false
/-! BfM: the mathematics. Rows as paths in a finite graph; cnt l p: how many rows of l letters lead from p to an unlike pair. -/
namespace Bf

/-! ### sums of lists of numbers -/
theorem sum_zero : ∀ {l : List Nat}, (∀ x ∈ l, x = 0) → l.sum = 0
  | [], _ => rfl
  | a :: r, h => by
    rw [List.sum_cons, h a (List.mem_cons_self ..), sum_zero fun x hx => h x (List.mem_cons_of_mem _ hx)]
theorem sum_pos_ex : ∀ {l : List Nat}, 0 < l.sum → ∃ x ∈ l, 0 < x
  | [], h => by simp at h
  | a :: r, h => by
    rw [List.sum_cons] at h
    by_cases ha : 0 < a
    · exact ⟨a, List.mem_cons_self .., ha⟩
    · obtain ⟨x, hx, hp⟩ := sum_pos_ex (l := r) (by omega)
      exact ⟨x, List.mem_cons_of_mem _ hx, hp⟩
theorem le_sum : ∀ {l : List Nat} {x : Nat}, x ∈ l → x ≤ l.sum
  | a :: r, x, h => by
    rw [List.sum_cons]
    rcases List.mem_cons.mp h with e | h
    · omega
    · have := le_sum h
      omega
theorem sum_app (a b : List Nat) : (a ++ b).sum = a.sum + b.sum := by
  induction a with
  | nil => simp
  | cons x r ih => rw [List.cons_append, List.sum_cons, List.sum_cons, ih]; omega
/-- f 0 + .. + f (n - 1) -/
def sumTo (f : Nat → Nat) : Nat → Nat
  | 0 => 0
  | n + 1 => sumTo f n + f n
theorem sumTo_eq (f : Nat → Nat) : ∀ n, ((List.range n).map f).sum = sumTo f n
  | 0 => rfl
  | n + 1 => by
    rw [List.range_succ, List.map_append, sum_app, sumTo_eq f n]
    simp [sumTo]
theorem sumTo_zero {f : Nat → Nat} : ∀ {n : Nat}, (∀ l, l < n → f l = 0) → sumTo f n = 0
  | 0, _ => rfl
  | n + 1, h => by
    show sumTo f n + f n = 0
    rw [sumTo_zero fun l hl => h l (by omega), h n (by omega)]
theorem sumTo_stop {f : Nat → Nat} {N : Nat} (h : ∀ l, N ≤ l → f l = 0) : ∀ M, N ≤ M → sumTo f M = sumTo f N
  | 0, hm => by
    have : N = 0 := by omega
    rw [this]
  | M + 1, hm => by
    by_cases e : N = M + 1
    · rw [e]
    · have ih := sumTo_stop h M (by omega)
      show sumTo f M + f M = _
      rw [ih, h M (by omega)]
      omega
theorem sumTo_succ (f : Nat → Nat) : ∀ n, sumTo f (n + 1) = f 0 + sumTo (fun l => f (l + 1)) n
  | 0 => by simp [sumTo]
  | n + 1 => by
    have ih := sumTo_succ f n
    show sumTo f (n + 1) + f (n + 1) = f 0 + (sumTo (fun l => f (l + 1)) n + f (n + 1))
    rw [ih]
    omega
theorem sumTo_map {α : Type} (F : Nat → α → Nat) : ∀ (l : List α) (n : Nat), sumTo (fun i => (l.map (F i)).sum) n = (l.map fun a => sumTo (fun i => F i a) n).sum
  | l, 0 => by
    show 0 = _
    rw [sum_zero]
    intro x hx
    obtain ⟨a, _, e⟩ := List.mem_map.mp hx
    exact e.symm
  | l, n + 1 => by
    have ih := sumTo_map F l n
    show sumTo _ n + (l.map (F n)).sum = _
    rw [ih]
    clear ih
    induction l with
    | nil => rfl
    | cons a r ihr =>
      simp only [List.map_cons, List.sum_cons]
      have := ihr
      show _ + _ + (F n a + _) = (sumTo (fun i => F i a) n + F n a) + _
      omega
theorem sumTo_pos {f : Nat → Nat} : ∀ {n : Nat}, 0 < sumTo f n → ∃ l, l < n ∧ 0 < f l
  | 0, h => absurd h (by simp [sumTo])
  | n + 1, h => by
    have h' : 0 < sumTo f n + f n := h
    by_cases e : 0 < f n
    · exact ⟨n, by omega, e⟩
    · obtain ⟨l, h1, h2⟩ := sumTo_pos (f := f) (n := n) (by omega)
      exact ⟨l, by omega, h2⟩

/-! ### nodup lists in a list -/
section
variable {α : Type} [DecidableEq α]
theorem nodup_len : ∀ {L R : List α}, L.Nodup → (∀ x ∈ L, x ∈ R) → L.length ≤ R.length
  | [], R, _, _ => Nat.zero_le _
  | a :: L, R, hn, hs => by
    obtain ⟨h1, h2⟩ := List.nodup_cons.mp hn
    have ha : a ∈ R := hs a (List.mem_cons_self ..)
    have ih := nodup_len (L := L) (R := R.erase a) h2 fun x hx => by
      have hne : x ≠ a := fun e => h1 (by rw [← e]; exact hx)
      exact (List.mem_erase_of_ne hne).mpr (hs x (List.mem_cons_of_mem _ hx))
    rw [List.length_erase_of_mem ha] at ih
    have : 0 < R.length := List.length_pos_of_mem ha
    rw [List.length_cons]
    omega
/-- a nodup list as long as one that holds it holds that -/
theorem nodup_full {L R : List α} (hL : L.Nodup) (hs : ∀ x ∈ L, x ∈ R) (hl : R.length ≤ L.length) (hR : R.Nodup) : ∀ x ∈ R, x ∈ L := by
  intro x hx
  by_cases h : x ∈ L
  · exact h
  · have h2 : (x :: L).Nodup := List.nodup_cons.mpr ⟨h, hL⟩
    have := nodup_len h2 (R := R) fun y hy => by
      rcases List.mem_cons.mp hy with e | hy
      · rw [e]; exact hx
      · exact hs y hy
    rw [List.length_cons] at this
    omega
end

/-! ### paths -/
section
variable {α : Type} [DecidableEq α] (g : α → List α) (u : α → Bool)
def cnt : Nat → α → Nat
  | 0, p => if u p = true then 1 else 0
  | l + 1, p => ((g p).map (cnt l)).sum
variable {g u}
theorem cnt_step {l : Nat} {p q : α} (hq : q ∈ g p) (h : 0 < cnt g u l q) : 0 < cnt g u (l + 1) p := by
  show 0 < ((g p).map (cnt g u l)).sum
  have := le_sum (List.mem_map_of_mem (f := cnt g u l) hq)
  omega
theorem cnt_goal {l : Nat} {p : α} (h : 0 < cnt g u (l + 1) p) : ∃ q ∈ g p, 0 < cnt g u l q := by
  obtain ⟨x, hx, hp⟩ := sum_pos_ex (show 0 < ((g p).map (cnt g u l)).sum from h)
  obtain ⟨q, hq, e⟩ := List.mem_map.mp hx
  exact ⟨q, hq, by rw [e]; exact hp⟩
/-- what a count of rows is -/
def Res (g : α → List α) (u : α → Bool) (p : α) : Option Nat → Prop
  | none => ∀ N, ∃ l, N ≤ l ∧ 0 < cnt g u l p
  | some m => ∃ N, (∀ l, N ≤ l → cnt g u l p = 0) ∧ m = sumTo (fun l => cnt g u l p) N
theorem Res.inj {p : α} : ∀ {a b : Option Nat}, Res g u p a → Res g u p b → a = b
  | none, none, _, _ => rfl
  | none, some m, h, ⟨N, h1, _⟩ => by
    obtain ⟨l, h2, h3⟩ := h N
    rw [h1 l h2] at h3
    omega
  | some m, none, ⟨N, h1, _⟩, h => by
    obtain ⟨l, h2, h3⟩ := h N
    rw [h1 l h2] at h3
    omega
  | some m, some k, ⟨N, h1, h2⟩, ⟨M, h3, h4⟩ => by
    have e1 := sumTo_stop (f := fun l => cnt g u l p) h1 (N + M) (by omega)
    have e2 := sumTo_stop (f := fun l => cnt g u l p) h3 (N + M) (by omega)
    rw [h2, h4, ← e1, ← e2]
/-- R: closed under the steps -/
def Closed (g : α → List α) (R : List α) : Prop := ∀ p ∈ R, ∀ q ∈ g p, q ∈ R
theorem cnt_none {R : List α} (hc : Closed g R) (hu : ∀ p ∈ R, u p = false) : ∀ (l : Nat) (p : α), p ∈ R → cnt g u l p = 0
  | 0, p, hp => by show (if u p = true then 1 else 0) = 0; rw [hu p hp]; rfl
  | l + 1, p, hp => by
    show ((g p).map (cnt g u l)).sum = 0
    refine sum_zero fun x hx => ?_
    obtain ⟨q, hq, e⟩ := List.mem_map.mp hx
    rw [← e]
    exact cnt_none hc hu l q (hc p hp q hq)
/-- the shortest way is short -/
theorem short_way {R : List α} (hc : Closed g R) : ∀ (l : Nat) (p : α), p ∈ R → 0 < cnt g u l p → (∀ k, k < l → cnt g u k p = 0) →
    ∃ L : List α, L.Nodup ∧ (∀ x ∈ L, x ∈ R) ∧ L.length = l + 1 ∧ ∀ x ∈ L, ∃ k, k ≤ l ∧ 0 < cnt g u k x
  | 0, p, hp, h, _ => ⟨[p], by simp, fun x hx => by rw [List.mem_singleton.mp hx]; exact hp, rfl, fun x hx => by rw [List.mem_singleton.mp hx]; exact ⟨0, Nat.le_refl _, h⟩⟩
  | l + 1, p, hp, h, hm => by
    obtain ⟨q, hq, hpos⟩ := cnt_goal h
    have hq' : ∀ k, k < l → cnt g u k q = 0 := fun k hk => by
      by_cases e : 0 < cnt g u k q
      · have := cnt_step hq e
        rw [hm (k + 1) (by omega)] at this
        omega
      · omega
    obtain ⟨L, h1, h2, h3, h4⟩ := short_way hc l q (hc p hp q hq) hpos hq'
    refine ⟨p :: L, List.nodup_cons.mpr ⟨fun hpL => ?_, h1⟩, fun x hx => ?_, by rw [List.length_cons, h3], fun x hx => ?_⟩
    · obtain ⟨k, hk, hkp⟩ := h4 p hpL
      rw [hm k (by omega)] at hkp
      omega
    · rcases List.mem_cons.mp hx with e | hx
      · rw [e]; exact hp
      · exact h2 x hx
    · rcases List.mem_cons.mp hx with e | hx
      · rw [e]; exact ⟨l + 1, Nat.le_refl _, h⟩
      · obtain ⟨k, hk, hkp⟩ := h4 x hx
        exact ⟨k, by omega, hkp⟩
theorem least_ex {f : Nat → Nat} : ∀ {l : Nat}, 0 < f l → ∃ k, k ≤ l ∧ 0 < f k ∧ ∀ j, j < k → f j = 0
  | l, h => by
    induction l using Nat.strongRecOn with
    | ind l ih =>
      by_cases e : ∃ k, k < l ∧ 0 < f k
      · obtain ⟨k, hk, hp⟩ := e
        obtain ⟨j, h1, h2, h3⟩ := ih k hk hp
        exact ⟨j, by omega, h2, h3⟩
      · refine ⟨l, Nat.le_refl _, h, fun j hj => ?_⟩
        by_cases z : 0 < f j
        · exact absurd ⟨j, hj, z⟩ e
        · omega
theorem near {R : List α} (hc : Closed g R) {l : Nat} {p : α} (hp : p ∈ R) (h : 0 < cnt g u l p) : ∃ b, b < R.length ∧ 0 < cnt g u b p := by
  obtain ⟨k, _, h2, h3⟩ := least_ex (f := fun k => cnt g u k p) h
  obtain ⟨L, n1, n2, n3, _⟩ := short_way hc k p hp h2 h3
  have := nodup_len n1 n2
  exact ⟨k, by omega, h2⟩
/-- n steps on, then further -/
theorem cnt_split : ∀ (a : Nat) {b : Nat} {p : α}, 0 < cnt g u (a + b) p → ∃ q, 0 < cnt g u b q ∧ ∀ c, 0 < cnt g u c q → 0 < cnt g u (a + c) p
  | 0, b, p, h => ⟨p, by rw [Nat.zero_add] at h; exact h, fun c hc => by rw [Nat.zero_add]; exact hc⟩
  | a + 1, b, p, h => by
    have h' : 0 < cnt g u (a + b + 1) p := by rw [show a + b + 1 = a + 1 + b by omega]; exact h
    obtain ⟨q, hq, hp⟩ := cnt_goal h'
    obtain ⟨r, h1, h2⟩ := cnt_split a hp
    exact ⟨r, h1, fun c hc => by rw [show a + 1 + c = a + c + 1 by omega]; exact cnt_step hq (h2 c hc)⟩
theorem split_in {R : List α} (hc : Closed g R) : ∀ (a : Nat) {b : Nat} {p : α}, p ∈ R → 0 < cnt g u (a + b) p → ∃ q, q ∈ R ∧ 0 < cnt g u b q ∧ ∀ c, 0 < cnt g u c q → 0 < cnt g u (a + c) p
  | 0, b, p, hp, h => ⟨p, hp, by rw [Nat.zero_add] at h; exact h, fun c hc => by rw [Nat.zero_add]; exact hc⟩
  | a + 1, b, p, hp, h => by
    have h' : 0 < cnt g u (a + b + 1) p := by rw [show a + b + 1 = a + 1 + b by omega]; exact h
    obtain ⟨q, hq, hpos⟩ := cnt_goal h'
    obtain ⟨r, h0, h1, h2⟩ := split_in hc a (hc p hp q hq) hpos
    exact ⟨r, h0, h1, fun c hc => by rw [show a + 1 + c = a + c + 1 by omega]; exact cnt_step hq (h2 c hc)⟩
/-- where there are few rows, a way has no place twice -/
theorem tall {R : List α} (hc : Closed g R) : ∀ (l : Nat) (p : α), p ∈ R → 0 < cnt g u l p → (∃ N, ∀ k, N ≤ k → cnt g u k p = 0) →
    ∃ L : List α, L.Nodup ∧ (∀ x ∈ L, x ∈ R) ∧ L.length = l + 1 ∧ ∀ x ∈ L, ∀ k, 0 < cnt g u k x → ∃ k', k ≤ k' ∧ 0 < cnt g u k' p
  | 0, p, hp, h, _ => ⟨[p], by simp, fun x hx => by rw [List.mem_singleton.mp hx]; exact hp, rfl, fun x hx k hk => ⟨k, Nat.le_refl _, by rw [← List.mem_singleton.mp hx]; exact hk⟩⟩
  | l + 1, p, hp, h, ⟨N, hN⟩ => by
    obtain ⟨q, hq, hpos⟩ := cnt_goal h
    have fq : ∃ N, ∀ k, N ≤ k → cnt g u k q = 0 := ⟨N, fun k hk => by
      by_cases e : 0 < cnt g u k q
      · have := cnt_step hq e
        rw [hN (k + 1) (by omega)] at this
        omega
      · omega⟩
    obtain ⟨L, h1, h2, h3, h4⟩ := tall hc l q (hc p hp q hq) hpos fq
    refine ⟨p :: L, List.nodup_cons.mpr ⟨fun hpL => ?_, h1⟩, fun x hx => ?_, by rw [List.length_cons, h3], fun x hx => ?_⟩
    · have up : ∀ k, 0 < cnt g u k p → ∃ k', k + 1 ≤ k' ∧ 0 < cnt g u k' p := fun k hk => by
        obtain ⟨k', a, b⟩ := h4 p hpL k hk
        exact ⟨k' + 1, by omega, cnt_step hq b⟩
      have all : ∀ n, ∃ k, n ≤ k ∧ 0 < cnt g u k p := fun n => by
        induction n with
        | zero => exact ⟨l + 1, Nat.zero_le _, h⟩
        | succ n ih =>
          obtain ⟨k, a, b⟩ := ih
          obtain ⟨k', c, d⟩ := up k b
          exact ⟨k', by omega, d⟩
      obtain ⟨k, a, b⟩ := all N
      rw [hN k a] at b
      omega
    · rcases List.mem_cons.mp hx with e | hx
      · rw [e]; exact hp
      · exact h2 x hx
    · rcases List.mem_cons.mp hx with e | hx
      · rw [e]; exact fun k hk => ⟨k, Nat.le_refl _, hk⟩
      · intro k hk
        obtain ⟨k', a, b⟩ := h4 x hx k hk
        exact ⟨k' + 1, by omega, cnt_step hq b⟩
/-- THE LAW's road: counts by the number of letters up to twice the pairs -/
theorem res_layers {R : List α} (hc : Closed g R) {p : α} (hp : p ∈ R) :
    (0 < sumTo (fun l => cnt g u (R.length + l) p) R.length → Res g u p none) ∧
    (sumTo (fun l => cnt g u (R.length + l) p) R.length = 0 → Res g u p (some (sumTo (fun l => cnt g u l p) (2 * R.length)))) := by
  constructor
  · intro h
    obtain ⟨l, hl, hpos⟩ := sumTo_pos h
    intro N
    by_cases e : ∃ k, N ≤ k ∧ 0 < cnt g u k p
    · exact e
    · exfalso
      obtain ⟨L, n1, n2, n3, _⟩ := tall hc (R.length + l) p hp hpos ⟨N, fun k hk => by
        by_cases z : 0 < cnt g u k p
        · exact absurd ⟨k, hk, z⟩ e
        · omega⟩
      have := nodup_len n1 n2
      omega
  · intro h
    have far : ∀ l, R.length ≤ l → cnt g u l p = 0 := fun l hl => by
      by_cases z : 0 < cnt g u l p
      · exfalso
        obtain ⟨b, e⟩ : ∃ b, l = R.length + b := ⟨l - R.length, by omega⟩
        rw [e] at z
        obtain ⟨q, hq, h1, h2⟩ := split_in hc R.length hp z
        obtain ⟨c, hlt, hcp⟩ := near hc hq h1
        have h3 := h2 c hcp
        have h4 : ∀ n, c < n → 0 < sumTo (fun l => cnt g u (R.length + l) p) n := fun n hn => by
          induction n with
          | zero => omega
          | succ n ih =>
            show 0 < sumTo _ n + cnt g u (R.length + n) p
            by_cases e2 : c = n
            · rw [← e2]; omega
            · have := ih (by omega)
              omega
        have := h4 R.length hlt
        omega
      · omega
    exact ⟨2 * R.length, fun l hl => far l (by omega), rfl⟩

/-- THE PROGRAM's road: pair after pair, each behind those to which it leads -/
structure Known (g : α → List α) (u : α → Bool) (U : List α) (ks : List (α × Nat)) : Prop where
  nd : (ks.map (·.1)).Nodup
  sub : ∀ p ∈ ks.map (·.1), p ∈ U
  ok : ∀ (i : Nat) (p : α) (m : Nat), ks[i]? = some (p, m) → (∀ l, i + 1 ≤ l → cnt g u l p = 0) ∧ m = sumTo (fun l => cnt g u l p) (i + 1)
/-- the useful pairs of a closed set -/
structure Useful (g : α → List α) (u : α → Bool) (R U : List α) : Prop where
  nd : U.Nodup
  sub : ∀ p ∈ U, p ∈ R
  pos : ∀ p ∈ U, ∃ l, 0 < cnt g u l p
  all : ∀ p ∈ R, ∀ l, 0 < cnt g u l p → p ∈ U
theorem known_nil {U : List α} : Known g u U [] := ⟨List.nodup_nil, fun _ h => (nomatch h), fun i p m h => by simp at h⟩
/-- what is summed for a pair whose useful goals are known -/
theorem known_more {R U : List α} {ks : List (α × Nat)} (hc : Closed g R) (hU : Useful g u R U) (K : Known g u U ks) {p : α} (hp : p ∈ U) (hn : p ∉ ks.map (·.1))
    {ms : List Nat} (hm : ((g p).filter fun q => decide (q ∈ U)).length = ms.length) (hv : ∀ (j : Nat) (q : α) (m : Nat), ((g p).filter fun q => decide (q ∈ U))[j]? = some q → ms[j]? = some m → (q, m) ∈ ks) :
    Known g u U (ks ++ [(p, (if u p = true then 1 else 0) + ms.sum)]) := by
  have zero_out : ∀ q ∈ g p, q ∉ U → ∀ l, cnt g u l q = 0 := fun q hq hqU l => by
    by_cases z : 0 < cnt g u l q
    · exact absurd (hU.all q (hc p (hU.sub p hp) q hq) l z) hqU
    · omega
  have done : ∀ q m, (q, m) ∈ ks → (∀ l, ks.length ≤ l → cnt g u l q = 0) ∧ m = sumTo (fun l => cnt g u l q) ks.length := fun q m hqm => by
    obtain ⟨i, hi⟩ := List.mem_iff_getElem?.mp hqm
    have hlt : i < ks.length := (List.getElem?_eq_some_iff.mp hi).1
    obtain ⟨h1, h2⟩ := K.ok i q m hi
    refine ⟨fun l hl => h1 l (by omega), ?_⟩
    rw [h2]
    exact (sumTo_stop (f := fun l => cnt g u l q) h1 ks.length (by omega)).symm
  have goals : ∀ q ∈ g p, q ∈ U → ∃ m, (q, m) ∈ ks := fun q hq hqU => by
    have hf : q ∈ (g p).filter fun q => decide (q ∈ U) := List.mem_filter.mpr ⟨hq, by simpa using hqU⟩
    obtain ⟨j, hj⟩ := List.mem_iff_getElem?.mp hf
    have hlt : j < ms.length := by rw [← hm]; exact (List.getElem?_eq_some_iff.mp hj).1
    exact ⟨ms[j], hv j q ms[j] hj (List.getElem?_eq_getElem hlt)⟩
  have tot : ∀ (gs : List α) (ms : List Nat), (∀ q ∈ gs, q ∈ g p) → (gs.filter fun q => decide (q ∈ U)).length = ms.length →
      (∀ (j : Nat) (q : α) (m : Nat), (gs.filter fun q => decide (q ∈ U))[j]? = some q → ms[j]? = some m → (q, m) ∈ ks) → (gs.map fun q => sumTo (fun l => cnt g u l q) ks.length).sum = ms.sum := by
    intro gs
    induction gs with
    | nil =>
      intro ms _ hl _
      have : ms = [] := List.eq_nil_of_length_eq_zero hl.symm
      rw [this]
      rfl
    | cons q r ih =>
      intro ms hs hl hv
      by_cases hqU : q ∈ U
      · have e : (q :: r).filter (fun q => decide (q ∈ U)) = q :: r.filter fun q => decide (q ∈ U) := List.filter_cons_of_pos (by simpa using hqU)
        rw [e] at hl hv
        cases ms with
        | nil => simp at hl
        | cons m ms =>
          have h0 := hv 0 q m rfl rfl
          have ih' := ih ms (fun x hx => hs x (List.mem_cons_of_mem _ hx)) (by simpa using hl) fun j q' m' a b => hv (j + 1) q' m' a b
          rw [List.map_cons, List.sum_cons, List.sum_cons, ih', (done q m h0).2]
      · have e : (q :: r).filter (fun q => decide (q ∈ U)) = r.filter fun q => decide (q ∈ U) := List.filter_cons_of_neg (by simpa using hqU)
        rw [e] at hl hv
        have ih' := ih ms (fun x hx => hs x (List.mem_cons_of_mem _ hx)) hl hv
        rw [List.map_cons, List.sum_cons, ih', sumTo_zero fun l _ => zero_out q (hs q (List.mem_cons_self ..)) hqU l]
        omega
  refine ⟨?_, fun q hq => ?_, fun i q m h => ?_⟩
  · rw [List.map_append, List.map_cons, List.map_nil]
    refine List.nodup_append.mpr ⟨K.nd, by simp, fun a ha b hb e => hn ?_⟩
    have hb' : b = p := List.mem_singleton.mp hb
    rw [← hb', ← e]
    exact ha
  · rw [List.map_append, List.map_cons, List.map_nil] at hq
    rcases List.mem_append.mp hq with h | h
    · exact K.sub q h
    · rw [List.mem_singleton.mp h]; exact hp
  · by_cases hi : i < ks.length
    · rw [List.getElem?_append_left hi] at h
      exact K.ok i q m h
    · have hi2 : i = ks.length := by
        have := (List.getElem?_eq_some_iff.mp h).1
        rw [List.length_append, List.length_cons, List.length_nil] at this
        omega
      subst hi2
      rw [List.getElem?_append_right (Nat.le_refl _), Nat.sub_self] at h
      have h' : (p, (if u p = true then 1 else 0) + ms.sum) = (q, m) := Option.some.inj h
      cases h'
      constructor
      · intro l hl
        obtain ⟨k, rfl⟩ : ∃ k, l = k + 1 := ⟨l - 1, by omega⟩
        show ((g p).map (cnt g u k)).sum = 0
        refine sum_zero fun x hx => ?_
        obtain ⟨q, hq, e⟩ := List.mem_map.mp hx
        rw [← e]
        by_cases hqU : q ∈ U
        · obtain ⟨m, hm⟩ := goals q hq hqU
          exact (done q m hm).1 k (by omega)
        · exact zero_out q hq hqU k
      · rw [sumTo_succ]
        show _ = cnt g u 0 p + sumTo (fun l => ((g p).map (cnt g u l)).sum) ks.length
        rw [sumTo_map (fun l q => cnt g u l q), tot (g p) ms (fun q hq => hq) hm hv]
        rfl
/-- a way that never ends -/
theorem walk_on {S : α → Prop} (hS : ∀ p, S p → ∃ q ∈ g p, S q) (hpos : ∀ p, S p → ∃ l, 0 < cnt g u l p) : ∀ (n : Nat) (p : α), S p → ∃ l, n ≤ l ∧ 0 < cnt g u l p
  | 0, p, hp => by
    obtain ⟨l, hl⟩ := hpos p hp
    exact ⟨l, Nat.zero_le _, hl⟩
  | n + 1, p, hp => by
    obtain ⟨q, hq, hqS⟩ := hS p hp
    obtain ⟨l, h1, h2⟩ := walk_on hS hpos n q hqS
    exact ⟨l + 1, by omega, cnt_step hq h2⟩
/-- come to from p -/
inductive Reach (g : α → List α) (p : α) : α → Prop where
  | here : Reach g p p
  | step {q r : α} : Reach g p q → r ∈ g q → Reach g p r
theorem res_known {R U : List α} {ks : List (α × Nat)} {p : α} (hc : Closed g R) (hp : p ∈ R) (hr : ∀ q ∈ R, Reach g p q) (hU : Useful g u R U) (K : Known g u U ks)
    (stuck : ∀ q ∈ U, q ∉ ks.map (·.1) → ∃ r ∈ g q, r ∈ U ∧ r ∉ ks.map (·.1)) :
    (ks.length < U.length → Res g u p none) ∧ (¬ ks.length < U.length → ∀ m, (ks.find? fun e => decide (e.1 = p)).map (·.2) = some m → Res g u p (some m)) ∧
    (¬ ks.length < U.length → (ks.find? fun e => decide (e.1 = p)) = none → Res g u p (some 0)) := by
  refine ⟨fun hlt => ?_, fun hge m hm => ?_, fun hge hnone => ?_⟩
  · -- p itself is not known
    have back : ∀ q, Reach g p q → q ∈ U → p ∈ ks.map (·.1) → q ∈ ks.map (·.1) := by
      intro q hq
      induction hq with
      | here => exact fun _ h => h
      | @step q r hq hr ih =>
        intro hrU hpk
        have hqR : q ∈ R := by
          have : ∀ x, Reach g p x → x ∈ R := by
            intro x hx
            induction hx with
            | here => exact hp
            | step _ h ih2 => exact hc _ ih2 _ h
          exact this q hq
        obtain ⟨l, hl⟩ := hU.pos r hrU
        have hqU : q ∈ U := hU.all q hqR (l + 1) (cnt_step hr hl)
        have hqk := ih hqU hpk
        by_cases hrk : r ∈ ks.map (·.1)
        · exact hrk
        · exfalso
          obtain ⟨⟨q', m⟩, hqm, e⟩ := List.mem_map.mp hqk
          have e' : q' = q := e
          subst e'
          obtain ⟨i, hi⟩ := List.mem_iff_getElem?.mp hqm
          obtain ⟨hz, _⟩ := K.ok i q' m hi
          have := walk_on (g := g) (u := u) (S := fun x => x ∈ U ∧ x ∉ ks.map (·.1)) (fun x hx => by
            obtain ⟨y, hy, h1, h2⟩ := stuck x hx.1 hx.2
            exact ⟨y, hy, h1, h2⟩) (fun x hx => hU.pos x hx.1) (i + 1) r ⟨hrU, hrk⟩
          obtain ⟨k, hk, hkp⟩ := this
          have h3 := cnt_step hr hkp
          rw [hz (k + 1) (by omega)] at h3
          omega
    have some_out : ∃ q ∈ U, q ∉ ks.map (·.1) := by
      by_cases e : ∃ q ∈ U, q ∉ ks.map (·.1)
      · exact e
      · exfalso
        have := nodup_len hU.nd (R := ks.map (·.1)) fun x hx => by
          by_cases z : x ∈ ks.map (·.1)
          · exact z
          · exact absurd ⟨x, hx, z⟩ e
        rw [List.length_map] at this
        omega
    obtain ⟨q, hqU, hqk⟩ := some_out
    have hpk : p ∉ ks.map (·.1) := fun h => hqk (back q (hr q (hU.sub q hqU)) hqU h)
    have hpU : p ∈ U := by
      have up : ∀ x, Reach g p x → (∃ l, 0 < cnt g u l x) → ∃ l, 0 < cnt g u l p := by
        intro x hx
        induction hx with
        | here => exact fun h => h
        | step _ h ih => exact fun ⟨l, hl⟩ => ih ⟨l + 1, cnt_step h hl⟩
      obtain ⟨l, hl⟩ := up q (hr q (hU.sub q hqU)) (hU.pos q hqU)
      exact hU.all p hp l hl
    intro N
    exact walk_on (g := g) (u := u) (S := fun x => x ∈ U ∧ x ∉ ks.map (·.1)) (fun x hx => by
      obtain ⟨y, hy, h1, h2⟩ := stuck x hx.1 hx.2
      exact ⟨y, hy, h1, h2⟩) (fun x hx => hU.pos x hx.1) N p ⟨hpU, hpk⟩
  · obtain ⟨e, he, hem⟩ := Option.map_eq_some_iff.mp hm
    have h1 := List.mem_of_find?_eq_some he
    have h2 : e.1 = p := by simpa using List.find?_some he
    obtain ⟨i, hi⟩ := List.mem_iff_getElem?.mp h1
    obtain ⟨a, b⟩ := e
    have h2' : a = p := h2
    have h3' : b = m := hem
    subst h2' h3'
    obtain ⟨h3, h4⟩ := K.ok i a b hi
    exact ⟨i + 1, h3, h4⟩
  · have full := nodup_full K.nd K.sub (by rw [List.length_map]; omega) hU.nd
    have hpU : p ∉ U := fun h => by
      obtain ⟨e, he, h1⟩ := List.mem_map.mp (full p h)
      have := List.find?_eq_none.mp hnone e he
      exact this (by simpa using h1)
    have z : ∀ l, cnt g u l p = 0 := fun l => by
      by_cases e : 0 < cnt g u l p
      · exact absurd (hU.all p hp l e) hpU
      · omega
    exact ⟨0, fun l _ => z l, rfl⟩
end
end Bf
set_option Elab.async false
set_option linter.all false
set_option maxRecDepth 100000
set_option maxHeartbeats 2000000
/-! BfZ: zip of two tuples whose pairs are kept by whoever gets them: for x in zip(t, u) with one name, list(zip(t, u)). -/
namespace Bf
open PySem PySem.Spec PyProof.Rows L2 RZ
open PySem.Sem (wp)
abbrev IsZipG (h : Heap) (z TI TO : Addr) (v0 : Value) (f : Bool) : Prop :=
  h.get? z = some { cls := .type "zip", dict := none, data := .fields #[v0, .bool f, .bool false, .ref TI, .ref TO], slots := #[] }
section
variable {prog : Program} {w : World} {A : Around} {E : Value → Shared → Prop} {s : Shared}
theorem free_none {z TI TO : Addr} {f : Bool} {Q : Bool → Shared → Prop} (hz : IsZipG s.heap z TI TO .none f) (h : Q true s) : wpAny (model prog w) A (Builtin.SmallTypes.ownedTupleIsFree (.ref z)) Q E s := by
  unfold Builtin.SmallTypes.ownedTupleIsFree
  exact wpAny_bind (wpAny_field hz rfl (x := .none) rfl (wpAny_pure h))
theorem alive_none {a : Addr} {Q : Option Obj → Shared → Prop} (ha : s.heap.get? a = none) (h : Q none s) : wpAny (model prog w) A (loadIfAlive a) Q E s := by
  have h' : Q (s.heap.get? a) s := by rw [ha]; exact h
  exact fun _ _ _ => h'
theorem free_dead {z TI TO T : Addr} {f : Bool} {Q : Bool → Shared → Prop} (hz : IsZipG s.heap z TI TO (rawInt T) f) (hT : s.heap.get? T = none) (h : Q true s) : wpAny (model prog w) A (Builtin.SmallTypes.ownedTupleIsFree (.ref z)) Q E s := by
  unfold Builtin.SmallTypes.ownedTupleIsFree
  refine wpAny_bind (wpAny_field hz rfl (x := rawInt T) rfl ?_)
  show wpAny _ _ (loadIfAlive ((T : Int).toNat) >>= _) _ _ _
  rw [Int.toNat_natCast]
  refine wpAny_bind (alive_none hT ?_)
  simp only [Option.isNone_none, if_true]
  exact wpAny_pure h

/-- next where the tuple may be used again (none was given out, or the one that was is gone) -/
theorem zip_free_item {z TI TO i1 i2 l1 l2 : Addr} {k1 k2 : Nat} {xs ys : Array Value} {x y a b v0 : Value} {f : Bool} {Q : Value → Shared → Prop} (D : ZipApart z TI TO i1 i2 l1 l2)
    (hz : IsZipG s.heap z TI TO v0 f) (hfree : ∀ {Q : Bool → Shared → Prop} {E : Value → Shared → Prop}, Q true s → wpAny (model prog w) A (Builtin.SmallTypes.ownedTupleIsFree (.ref z)) Q E s)
    (hTI : IsPair s.heap TI (.ref i1) (.ref i2)) (hTO : IsPair s.heap TO a b)
    (h1 : s.heap.IsTupleIter i1 l1 k1) (h2 : s.heap.IsTupleIter i2 l2 k2) (hl1 : s.heap.IsTuple l1 xs) (hl2 : s.heap.IsTuple l2 ys) (hx : xs[k1]? = some x) (hy : ys[k2]? = some y)
    (hQ : ∀ h', IsZipG h' z TI TO (rawInt s.heap.objs.size) false → IsPair h' TO x y → h'.IsTupleIter i1 l1 (k1 + 1) → h'.IsTupleIter i2 l2 (k2 + 1) → IsPair h' s.heap.objs.size x y → h'.objs.size = s.heap.objs.size + 1 →
      (∀ c o, c ≠ z → c ≠ TO → c ≠ i1 → c ≠ i2 → s.heap.get? c = some o → h'.get? c = some o) → Q (.ref s.heap.objs.size) { s with heap := h' }) :
    wpAny (model prog w) A (Builtin.«zip.__next__» ⟨[.ref z], []⟩) (fun fin s' => ∃ v, fin = .done (.ret v) ∧ Q v s') E s := by
  show wpAny _ _ (field (.ref z) 2 >>= _) _ _ _
  refine wpAny_bind (wpAny_field hz rfl (x := .bool false) rfl ?_)
  show wpAny _ _ (field (.ref z) 3 >>= _) _ _ _
  refine wpAny_bind (wpAny_field hz rfl (x := .ref TI) rfl ?_)
  refine wpAny_bind (wpAny_seqItems hTI rfl ?_)
  show wpAny _ _ (Builtin.SmallTypes.ownedTupleIsFree (.ref z) >>= _) _ _ _
  refine wpAny_bind (hfree ?_)
  simp only [if_true]
  refine wpAny_bind (wpAny_rule ?_)
  refine wpAny_bind (wpAny_field hz rfl (x := .ref TO) rfl ?_)
  refine wpAny_bind (wpAny_setField_rec hz (by simp) fun h₁ hz₁ hs₁ => ?_)
  replace hz₁ : IsZipG h₁ z TI TO .ellipsis f := hz₁
  refine wpAny_bind ?_
  simp only [List.zipIdx_cons, List.zipIdx_nil, List.forIn_cons, List.forIn_nil]

  refine wpAny_bind (wpAny_bind (wpAny_onRaise ?_))
  show wpAny _ _ (Builtin.SmallTypes.nextOf (.ref i1) >>= _) _ _ _
  refine wpAny_bind (nextOf_tuple_item (h1.extBut hs₁.extBut D.i1z) (hl1.extBut hs₁.extBut D.l1z) hx fun h₂ h1₂ hs₂ => wpAny_pure ?_)
  have hTO₂ : IsPair h₂ TO a b := hs₂.extBut _ _ D.TOi1 (hs₁.extBut _ _ D.TOz hTO)
  refine wpAny_bind (wpAny_seqItems hTO₂ rfl ?_)
  refine wpAny_bind (wpAny_updateSeq_pair hTO₂ fun h₃ hTO₃ hs₃ => ?_)
  replace hTO₃ : IsPair h₃ TO x b := hTO₃
  refine wpAny_bind (wpAny_letGo (wpAny_pure ?_))

  refine wpAny_bind (wpAny_bind (wpAny_onRaise ?_))
  show wpAny _ _ (Builtin.SmallTypes.nextOf (.ref i2) >>= _) _ _ _
  refine wpAny_bind (nextOf_tuple_item (((h2.extBut hs₁.extBut D.i2z).extBut hs₂.extBut D.i12.symm).extBut hs₃.extBut D.TOi2.symm)
    (((hl2.extBut hs₁.extBut D.l2z).extBut hs₂.extBut D.l2i1).extBut hs₃.extBut D.l2TO) hy fun h₄ h2₄ hs₄ => wpAny_pure ?_)
  have hTO₄ : IsPair h₄ TO x b := hs₄.extBut _ _ D.TOi2 hTO₃
  refine wpAny_bind (wpAny_seqItems hTO₄ rfl ?_)
  refine wpAny_bind (wpAny_updateSeq_pair hTO₄ fun h₅ hTO₅ hs₅ => ?_)
  replace hTO₅ : IsPair h₅ TO x y := hTO₅
  refine wpAny_bind (wpAny_letGo (wpAny_pure (wpAny_pure ?_)))

  refine wpAny_bind (wpAny_seqItems hTO₅ rfl ?_)
  refine wpAny_bind (wpAny_newTuple ?_)
  have hsz : h₅.objs.size = s.heap.objs.size := by rw [hs₅.1, hs₄.1, hs₃.1, hs₂.1, hs₁.1]
  have hz₅ : IsZipG h₅ z TI TO .ellipsis f := hs₅.extBut _ _ D.TOz.symm (hs₄.extBut _ _ D.i2z.symm (hs₃.extBut _ _ D.TOz.symm (hs₂.extBut _ _ D.i1z.symm hz₁)))
  have hk₅ : ∀ c o, c ≠ z → c ≠ TO → c ≠ i1 → c ≠ i2 → s.heap.get? c = some o → h₅.get? c = some o := fun c o c1 c2 c3 c4 e =>
    hs₅.extBut _ _ c2 (hs₄.extBut _ _ c4 (hs₃.extBut _ _ c2 (hs₂.extBut _ _ c3 (hs₁.extBut _ _ c1 e))))
  have h1₅ : h₅.IsTupleIter i1 l1 (k1 + 1) := ((h1₂.extBut hs₃.extBut D.TOi1.symm).extBut hs₄.extBut D.i12).extBut hs₅.extBut D.TOi1.symm
  have h2₅ : h₅.IsTupleIter i2 l2 (k2 + 1) := h2₄.extBut hs₅.extBut D.TOi2.symm
  have hzlt : z < h₅.objs.size := Heap.lt_size hz₅
  show wpAny _ _ (Builtin.SmallTypes.ownedTupleHandOut (.ref z) (.ref h₅.objs.size) >>= _) _ _ _
  refine wpAny_bind ?_
  unfold Builtin.SmallTypes.ownedTupleHandOut
  have hz₆ : IsZipG (h₅.push { cls := .type "tuple", data := .seq #[x, y] }) z TI TO .ellipsis f := Heap.get?_push_of_some _ hz₅
  refine wpAny_bind (wpAny_setField_rec hz₆ (by simp) fun h₇ hz₇ hs₇ => ?_)
  replace hz₇ : IsZipG h₇ z TI TO (rawInt h₅.objs.size) f := hz₇
  refine wpAny_setField_rec hz₇ (by simp) fun h₈ hz₈ hs₈ => ?_
  replace hz₈ : IsZipG h₈ z TI TO (rawInt h₅.objs.size) false := hz₈
  have up : ∀ c o, c ≠ z → h₅.get? c = some o → h₈.get? c = some o := fun c o c1 e => hs₈.extBut _ _ c1 (hs₇.extBut _ _ c1 (Heap.get?_push_of_some _ e))
  have hT₈ : IsPair h₈ h₅.objs.size x y := hs₈.extBut _ _ (Nat.ne_of_gt hzlt) (hs₇.extBut _ _ (Nat.ne_of_gt hzlt) (Heap.get?_push_size _ rfl))
  have hz8 : h₈.objs.size = h₅.objs.size + 1 := by rw [hs₈.1, hs₇.1, Heap.size_push]
  rw [hsz] at hz₈ hT₈ hz8
  refine wpAny_pure ⟨_, rfl, ?_⟩
  show Q (.ref h₅.objs.size) _
  rw [hsz]
  exact hQ h₈ hz₈ (up _ _ D.TOz hTO₅) (h1₅.at fun o e => up _ o D.i1z e) (h2₅.at fun o e => up _ o D.i2z e) hT₈ hz8 fun c o c1 c2 c3 c4 e => up c o c1 (hk₅ c o c1 c2 c3 c4 e)

theorem zip_free_end {z TI TO i1 i2 l1 l2 : Addr} {k1 k2 : Nat} {xs ys : Array Value} {a b v0 : Value} {f : Bool} {Q : Fin → Shared → Prop} (hh : A.handled = none) (D : ZipApart z TI TO i1 i2 l1 l2)
    (hz : IsZipG s.heap z TI TO v0 f) (hfree : ∀ {Q : Bool → Shared → Prop} {E : Value → Shared → Prop}, Q true s → wpAny (model prog w) A (Builtin.SmallTypes.ownedTupleIsFree (.ref z)) Q E s)
    (hTI : IsPair s.heap TI (.ref i1) (.ref i2)) (hTO : IsPair s.heap TO a b)
    (h1 : s.heap.IsTupleIter i1 l1 k1) (h2 : s.heap.IsTupleIter i2 l2 k2) (hl1 : s.heap.IsTuple l1 xs) (hl2 : s.heap.IsTuple l2 ys) (hend : xs[k1]? = none ∨ ys[k2]? = none)
    (hE : ∀ h' e, (∀ c o, c ≠ z → c ≠ TO → c ≠ i1 → c ≠ i2 → s.heap.get? c = some o → h'.get? c = some o) → (∃ o, h'.get? e = some o ∧ o.cls = .type "StopIteration") → E (.ref e) { s with heap := h' }) :
    wpAny (model prog w) A (Builtin.«zip.__next__» ⟨[.ref z], []⟩) Q E s := by
  show wpAny _ _ (field (.ref z) 2 >>= _) _ _ _
  refine wpAny_bind (wpAny_field hz rfl (x := .bool false) rfl ?_)
  show wpAny _ _ (field (.ref z) 3 >>= _) _ _ _
  refine wpAny_bind (wpAny_field hz rfl (x := .ref TI) rfl ?_)
  refine wpAny_bind (wpAny_seqItems hTI rfl ?_)
  show wpAny _ _ (Builtin.SmallTypes.ownedTupleIsFree (.ref z) >>= _) _ _ _
  refine wpAny_bind (hfree ?_)
  simp only [if_true]
  refine wpAny_bind (wpAny_rule ?_)
  refine wpAny_bind (wpAny_field hz rfl (x := .ref TO) rfl ?_)
  refine wpAny_bind (wpAny_setField_rec hz (by simp) fun h₁ hz₁ hs₁ => ?_)
  replace hz₁ : IsZipG h₁ z TI TO .ellipsis f := hz₁
  refine wpAny_bind ?_
  simp only [List.zipIdx_cons, List.zipIdx_nil, List.forIn_cons, List.forIn_nil]
  refine wpAny_bind (wpAny_bind (wpAny_onRaise ?_))
  show wpAny _ _ (Builtin.SmallTypes.nextOf (.ref i1) >>= _) _ _ _
  cases hx : xs[k1]? with
  | none =>
    refine wpAny_bind (nextOf_tuple_end hh (h1.extBut hs₁.extBut D.i1z) (hl1.extBut hs₁.extBut D.l1z) hx fun h₂ e hs₂ he => ?_)
    obtain ⟨oe, hoe, hce⟩ := he
    have hz₂ : IsZipG h₂ z TI TO .ellipsis f := hs₂ _ _ D.i1z.symm hz₁
    have hez : e ≠ z := fun x => by subst x; rw [hz₂] at hoe; cases hoe; simp at hce
    refine wpAny_setField_rec hz₂ (by simp) fun h₃ _ hs₃ => hE h₃ e (fun c o c1 _ c3 _ x => hs₃.extBut _ _ c1 (hs₂ _ _ c3 (hs₁.extBut _ _ c1 x))) ⟨oe, hs₃.extBut _ _ hez hoe, hce⟩
  | some x =>
    have hy : ys[k2]? = none := by rcases hend with h | h; rw [hx] at h; cases h; exact h
    refine wpAny_bind (nextOf_tuple_item (h1.extBut hs₁.extBut D.i1z) (hl1.extBut hs₁.extBut D.l1z) hx fun h₂ h1₂ hs₂ => wpAny_pure ?_)
    have hTO₂ : IsPair h₂ TO a b := hs₂.extBut _ _ D.TOi1 (hs₁.extBut _ _ D.TOz hTO)
    refine wpAny_bind (wpAny_seqItems hTO₂ rfl ?_)
    refine wpAny_bind (wpAny_updateSeq_pair hTO₂ fun h₃ hTO₃ hs₃ => ?_)
    refine wpAny_bind (wpAny_letGo (wpAny_pure ?_))
    refine wpAny_bind (wpAny_bind (wpAny_onRaise ?_))
    show wpAny _ _ (Builtin.SmallTypes.nextOf (.ref i2) >>= _) _ _ _
    refine wpAny_bind (nextOf_tuple_end hh (((h2.extBut hs₁.extBut D.i2z).extBut hs₂.extBut D.i12.symm).extBut hs₃.extBut D.TOi2.symm)
      (((hl2.extBut hs₁.extBut D.l2z).extBut hs₂.extBut D.l2i1).extBut hs₃.extBut D.l2TO) hy fun h₄ e hs₄ he => ?_)
    obtain ⟨oe, hoe, hce⟩ := he
    have hz₄ : IsZipG h₄ z TI TO .ellipsis f := hs₄ _ _ D.i2z.symm (hs₃.extBut _ _ D.TOz.symm (hs₂.extBut _ _ D.i1z.symm hz₁))
    have hez : e ≠ z := fun x => by subst x; rw [hz₄] at hoe; cases hoe; simp at hce
    refine wpAny_setField_rec hz₄ (by simp) fun h₅ _ hs₅ => hE h₅ e (fun c o c1 c2 c3 c4 x => hs₅.extBut _ _ c1 (hs₄ _ _ c4 (hs₃.extBut _ _ c2 (hs₂.extBut _ _ c3 (hs₁.extBut _ _ c1 x))))) ⟨oe, hs₅.extBut _ _ hez hoe, hce⟩

/-- next while the tuple that was given out is still there -/
theorem zip_held_item {z TI TO T i1 i2 l1 l2 : Addr} {f : Bool} {oT : Obj} {k1 k2 : Nat} {xs ys : Array Value} {x y : Value} {Q : Value → Shared → Prop} (D : ZipApart z TI TO i1 i2 l1 l2)
    (hz : IsZipHeld s.heap z TI TO T f) (hT : s.heap.get? T = some oT) (hTI : IsPair s.heap TI (.ref i1) (.ref i2))
    (h1 : s.heap.IsTupleIter i1 l1 k1) (h2 : s.heap.IsTupleIter i2 l2 k2) (hl1 : s.heap.IsTuple l1 xs) (hl2 : s.heap.IsTuple l2 ys) (hx : xs[k1]? = some x) (hy : ys[k2]? = some y)
    (hQ : ∀ h', IsZipHeld h' z TI TO T true → h'.IsTupleIter i1 l1 (k1 + 1) → h'.IsTupleIter i2 l2 (k2 + 1) → IsPair h' s.heap.objs.size x y → h'.objs.size = s.heap.objs.size + 1 →
      (∀ c o, c ≠ z → c ≠ i1 → c ≠ i2 → s.heap.get? c = some o → h'.get? c = some o) → Q (.ref s.heap.objs.size) { s with heap := h' }) :
    wpAny (model prog w) A (Builtin.«zip.__next__» ⟨[.ref z], []⟩) (fun fin s' => ∃ v, fin = .done (.ret v) ∧ Q v s') E s := by
  show wpAny _ _ (field (.ref z) 2 >>= _) _ _ _
  refine wpAny_bind (wpAny_field hz rfl (x := .bool false) rfl ?_)
  show wpAny _ _ (field (.ref z) 3 >>= _) _ _ _
  refine wpAny_bind (wpAny_field hz rfl (x := .ref TI) rfl ?_)
  refine wpAny_bind (wpAny_seqItems hTI rfl ?_)
  show wpAny _ _ (Builtin.SmallTypes.ownedTupleIsFree (.ref z) >>= _) _ _ _
  refine wpAny_bind (wpAny_tupleHeld_zip hz hT fun h₁ hz₁ hs₁ => ?_)
  simp only [Bool.false_eq_true, if_false]
  refine wpAny_bind ?_
  rw [← Array.forIn_toList]
  simp only [List.forIn_cons, List.forIn_nil]
  refine wpAny_bind (wpAny_bind (wpAny_holding ?_))
  show wpAny _ _ (Builtin.SmallTypes.nextOf (.ref i1) >>= _) _ _ _
  refine wpAny_bind (nextOf_tuple_item (s := { s with heap := h₁ }) (h1.extBut hs₁.extBut D.i1z) (hl1.extBut hs₁.extBut D.l1z) hx fun h₂ h1₂ hs₂ => wpAny_pure ?_)
  refine wpAny_pure ?_
  refine wpAny_bind (wpAny_bind (wpAny_holding ?_))
  show wpAny _ _ (Builtin.SmallTypes.nextOf (.ref i2) >>= _) _ _ _
  refine wpAny_bind (nextOf_tuple_item (s := { s with heap := h₂ }) ((h2.extBut hs₁.extBut D.i2z).extBut hs₂.extBut D.i12.symm) ((hl2.extBut hs₁.extBut D.l2z).extBut hs₂.extBut D.l2i1) hy fun h₃ h2₃ hs₃ => wpAny_pure ?_)
  refine wpAny_pure (wpAny_pure ?_)
  show wpAny _ _ (newTuple [x, y] >>= _) _ _ _
  refine wpAny_bind (wpAny_newTuple ?_)
  have hsz : h₃.objs.size = s.heap.objs.size := by rw [hs₃.1, hs₂.1, hs₁.1]
  have hz₃ : IsZipHeld h₃ z TI TO T true := hs₃.extBut _ _ D.i2z.symm (hs₂.extBut _ _ D.i1z.symm hz₁)
  have hk : ∀ c o, c ≠ z → c ≠ i1 → c ≠ i2 → s.heap.get? c = some o → h₃.get? c = some o := fun c o c1 c2 c3 e => hs₃.extBut _ _ c3 (hs₂.extBut _ _ c2 (hs₁.extBut _ _ c1 e))
  have h1₃ : h₃.IsTupleIter i1 l1 (k1 + 1) := h1₂.extBut hs₃.extBut D.i12
  refine wpAny_pure ⟨_, rfl, ?_⟩
  show Q (.ref h₃.objs.size) _
  have hp : IsPair (h₃.push { cls := .type "tuple", data := .seq #[x, y] }) h₃.objs.size x y := Heap.get?_push_size _ rfl
  have hz4 : (h₃.push { cls := .type "tuple", data := .seq #[x, y] }).objs.size = h₃.objs.size + 1 := Heap.size_push ..
  rw [hsz] at hp hz4 ⊢
  exact hQ _ (Heap.get?_push_of_some _ hz₃) (h1₃.at fun o e => Heap.get?_push_of_some _ e) (h2₃.at fun o e => Heap.get?_push_of_some _ e) hp hz4 fun c o c1 c2 c3 e => Heap.get?_push_of_some _ (hk c o c1 c2 c3 e)

theorem zip_held_end {z TI TO T i1 i2 l1 l2 : Addr} {f : Bool} {oT : Obj} {k1 k2 : Nat} {xs ys : Array Value} {Q : Fin → Shared → Prop} (hh : A.handled = none) (D : ZipApart z TI TO i1 i2 l1 l2)
    (hz : IsZipHeld s.heap z TI TO T f) (hT : s.heap.get? T = some oT) (hTI : IsPair s.heap TI (.ref i1) (.ref i2))
    (h1 : s.heap.IsTupleIter i1 l1 k1) (h2 : s.heap.IsTupleIter i2 l2 k2) (hl1 : s.heap.IsTuple l1 xs) (hl2 : s.heap.IsTuple l2 ys) (hend : xs[k1]? = none ∨ ys[k2]? = none)
    (hE : ∀ h' e, (∀ c o, c ≠ z → c ≠ i1 → c ≠ i2 → s.heap.get? c = some o → h'.get? c = some o) → (∃ o, h'.get? e = some o ∧ o.cls = .type "StopIteration") → E (.ref e) { s with heap := h' }) :
    wpAny (model prog w) A (Builtin.«zip.__next__» ⟨[.ref z], []⟩) Q E s := by
  show wpAny _ _ (field (.ref z) 2 >>= _) _ _ _
  refine wpAny_bind (wpAny_field hz rfl (x := .bool false) rfl ?_)
  show wpAny _ _ (field (.ref z) 3 >>= _) _ _ _
  refine wpAny_bind (wpAny_field hz rfl (x := .ref TI) rfl ?_)
  refine wpAny_bind (wpAny_seqItems hTI rfl ?_)
  show wpAny _ _ (Builtin.SmallTypes.ownedTupleIsFree (.ref z) >>= _) _ _ _
  refine wpAny_bind (wpAny_tupleHeld_zip hz hT fun h₁ hz₁ hs₁ => ?_)
  simp only [Bool.false_eq_true, if_false]
  refine wpAny_bind ?_
  rw [← Array.forIn_toList]
  simp only [List.forIn_cons, List.forIn_nil]
  refine wpAny_bind (wpAny_bind (wpAny_holding ?_))
  show wpAny _ _ (Builtin.SmallTypes.nextOf (.ref i1) >>= _) _ _ _
  cases hx : xs[k1]? with
  | none =>
    refine wpAny_bind (nextOf_tuple_end (s := { s with heap := h₁ }) hh (h1.extBut hs₁.extBut D.i1z) (hl1.extBut hs₁.extBut D.l1z) hx fun h₂ e hs₂ he => ?_)
    exact hE h₂ e (fun c o c1 c2 _ x => hs₂ _ _ c2 (hs₁.extBut _ _ c1 x)) he
  | some x =>
    have hy : ys[k2]? = none := by rcases hend with h | h; rw [hx] at h; cases h; exact h
    refine wpAny_bind (nextOf_tuple_item (s := { s with heap := h₁ }) (h1.extBut hs₁.extBut D.i1z) (hl1.extBut hs₁.extBut D.l1z) hx fun h₂ h1₂ hs₂ => wpAny_pure ?_)
    refine wpAny_pure ?_
    refine wpAny_bind (wpAny_bind (wpAny_holding ?_))
    show wpAny _ _ (Builtin.SmallTypes.nextOf (.ref i2) >>= _) _ _ _
    refine wpAny_bind (nextOf_tuple_end (s := { s with heap := h₂ }) hh ((h2.extBut hs₁.extBut D.i2z).extBut hs₂.extBut D.i12.symm) ((hl2.extBut hs₁.extBut D.l2z).extBut hs₂.extBut D.l2i1) hy fun h₃ e hs₃ he => ?_)
    exact hE h₃ e (fun c o c1 c2 c3 x => hs₃ _ _ c3 (hs₂.extBut _ _ c2 (hs₁.extBut _ _ c1 x))) he

/-- a zip of two tuples at turn k, whatever it gave out before -/
def ZSt (h : Heap) (z TI TO i1 i2 l1 l2 : Addr) (k : Nat) : Prop :=
  IsPair h TI (.ref i1) (.ref i2) ∧ (∃ a b, IsPair h TO a b) ∧ h.IsTupleIter i1 l1 k ∧ h.IsTupleIter i2 l2 k ∧ (IsZipG h z TI TO .none false ∨ ∃ (T : Addr) (f : Bool), IsZipG h z TI TO (rawInt T) f)
theorem ZSt.at {h h' : Heap} {z TI TO i1 i2 l1 l2 : Addr} {k : Nat} (st : ZSt h z TI TO i1 i2 l1 l2 k) (hk : ∀ c, c = z ∨ c = TI ∨ c = TO ∨ c = i1 ∨ c = i2 → ∀ o, h.get? c = some o → h'.get? c = some o) : ZSt h' z TI TO i1 i2 l1 l2 k := by
  obtain ⟨a1, ⟨a, b, a2⟩, a3, a4, a5⟩ := st
  refine ⟨hk _ (.inr (.inl rfl)) _ a1, ⟨a, b, hk _ (.inr (.inr (.inl rfl))) _ a2⟩, a3.at fun o e => hk _ (.inr (.inr (.inr (.inl rfl)))) o e, a4.at fun o e => hk _ (.inr (.inr (.inr (.inr rfl)))) o e, ?_⟩
  rcases a5 with e | ⟨T, f, e⟩
  · exact .inl (hk _ (.inl rfl) _ e)
  · exact .inr ⟨T, f, hk _ (.inl rfl) _ e⟩
theorem ZSt.zip {h : Heap} {z TI TO i1 i2 l1 l2 : Addr} {k : Nat} (st : ZSt h z TI TO i1 i2 l1 l2 k) : ∃ v0 f, IsZipG h z TI TO v0 f := by
  rcases st.2.2.2.2 with e | ⟨T, f, e⟩
  · exact ⟨_, _, e⟩
  · exact ⟨_, _, e⟩
theorem zs_next {z TI TO i1 i2 l1 l2 : Addr} {k : Nat} {xs ys : Array Value} {x y : Value} {Q : Option Value → Shared → Prop} (D : ZipApart z TI TO i1 i2 l1 l2) (st : ZSt s.heap z TI TO i1 i2 l1 l2 k)
    (hl1 : s.heap.IsTuple l1 xs) (hl2 : s.heap.IsTuple l2 ys) (hx : xs[k]? = some x) (hy : ys[k]? = some y)
    (hQ : ∀ h', ZSt h' z TI TO i1 i2 l1 l2 (k + 1) → IsPair h' s.heap.objs.size x y → h'.objs.size = s.heap.objs.size + 1 →
      (∀ c o, c ≠ z → c ≠ TO → c ≠ i1 → c ≠ i2 → s.heap.get? c = some o → h'.get? c = some o) → Q (some (.ref s.heap.objs.size)) { s with heap := h' }) :
    wpAny (model prog w) A (pyNext (.ref z)) Q E s := by
  obtain ⟨a1, ⟨a, b, a2⟩, a3, a4, a5⟩ := st
  have hTy : s.TypeIs (.ref z) "zip" := by
    rcases a5 with e | ⟨T, f, e⟩
    · exact ⟨_, e, rfl⟩
    · exact ⟨_, e, rfl⟩
  unfold pyNext
  refine wpAny_bind (wpAny_attempt (wpAny_callSpecial?_slot (name := Str.ofString "__next__") hTy PySem.F.slot_zip_next
    (wpAny_call_entry PySem.F.slot_zip_next hTy PySem.F.entry_zip_next ?_ (PySem.F.args_zip_next_1 _))))
  rcases a5 with e | ⟨T, f, e⟩
  · exact zip_free_item D e (fun q => free_none e q) a1 a2 a3 a4 hl1 hl2 hx hy fun h' b1 b2 b3 b4 b5 b6 b7 =>
      wpAny_pure (hQ h' ⟨b7 _ _ D.TIz D.TITO D.TIi1 D.TIi2 a1, ⟨_, _, b2⟩, b3, b4, .inr ⟨_, _, b1⟩⟩ b5 b6 b7)
  · cases hT : s.heap.get? T with
    | none =>
      exact zip_free_item D e (fun q => free_dead e hT q) a1 a2 a3 a4 hl1 hl2 hx hy fun h' b1 b2 b3 b4 b5 b6 b7 =>
        wpAny_pure (hQ h' ⟨b7 _ _ D.TIz D.TITO D.TIi1 D.TIi2 a1, ⟨_, _, b2⟩, b3, b4, .inr ⟨_, _, b1⟩⟩ b5 b6 b7)
    | some oT =>
      exact zip_held_item D e hT a1 a3 a4 hl1 hl2 hx hy fun h' b1 b3 b4 b5 b6 b7 =>
        wpAny_pure (hQ h' ⟨b7 _ _ D.TIz D.TIi1 D.TIi2 a1, ⟨_, _, b7 _ _ D.TOz D.TOi1 D.TOi2 a2⟩, b3, b4, .inr ⟨_, _, b1⟩⟩ b5 b6 fun c o c1 _ c3 c4 x => b7 c o c1 c3 c4 x)
theorem zs_end {z TI TO i1 i2 l1 l2 : Addr} {k : Nat} {xs ys : Array Value} {Q : Option Value → Shared → Prop} (hh : A.handled = none) (D : ZipApart z TI TO i1 i2 l1 l2) (st : ZSt s.heap z TI TO i1 i2 l1 l2 k)
    (hl1 : s.heap.IsTuple l1 xs) (hl2 : s.heap.IsTuple l2 ys) (hend : xs[k]? = none ∨ ys[k]? = none)
    (hQ : ∀ h', (∀ c o, c ≠ z → c ≠ TO → c ≠ i1 → c ≠ i2 → s.heap.get? c = some o → h'.get? c = some o) → Q none { s with heap := h' }) : wpAny (model prog w) A (pyNext (.ref z)) Q E s := by
  obtain ⟨a1, ⟨a, b, a2⟩, a3, a4, a5⟩ := st
  have hTy : s.TypeIs (.ref z) "zip" := by
    rcases a5 with e | ⟨T, f, e⟩
    · exact ⟨_, e, rfl⟩
    · exact ⟨_, e, rfl⟩
  have fin : ∀ (h' : Heap) (e : Addr), (∀ c o, c ≠ z → c ≠ TO → c ≠ i1 → c ≠ i2 → s.heap.get? c = some o → h'.get? c = some o) → (∃ o, h'.get? e = some o ∧ o.cls = .type "StopIteration") →
      wpAny (model prog w) A (do if (← isInstance (.ref e) (.type "StopIteration")) then pure none else throw (.ref e)) Q E { s with heap := h' } := fun h' e hk ⟨o, ho, hc⟩ =>
    wpAny_bind (wpAny_isInstance (T := "StopIteration") (b := true) ⟨o, ho, hc⟩ isSubtype_stop (wpAny_pure (hQ _ hk)))
  unfold pyNext
  refine wpAny_bind (wpAny_attempt (wpAny_callSpecial?_slot (name := Str.ofString "__next__") hTy PySem.F.slot_zip_next
    (wpAny_call_entry PySem.F.slot_zip_next hTy PySem.F.entry_zip_next ?_ (PySem.F.args_zip_next_1 _))))
  rcases a5 with e | ⟨T, f, e⟩
  · exact zip_free_end hh D e (fun q => free_none e q) a1 a2 a3 a4 hl1 hl2 hend fun h' e hk he => fin h' e hk he
  · cases hT : s.heap.get? T with
    | none => exact zip_free_end hh D e (fun q => free_dead e hT q) a1 a2 a3 a4 hl1 hl2 hend fun h' e hk he => fin h' e hk he
    | some oT => exact zip_held_end hh D e hT a1 a3 a4 hl1 hl2 hend fun h' e hk he => fin h' e (fun c o c1 _ c3 c4 x => hk c o c1 c3 c4 x) he

/-! ### list(zip(t, u)) -/
theorem istup_at {h h' : Heap} {a : Addr} {items : Array Value} (x : h.IsTuple a items) (k : ∀ o, h.get? a = some o → h'.get? a = some o) : h'.IsTuple a items := let ⟨o, ho, r⟩ := x; ⟨o, k o ho, r⟩
structure ZG (xs ys : Array Value) (lo : Addr) (h : Heap) (as : List Addr) : Prop where
  rise : as.Pairwise (· < ·)
  above : ∀ a ∈ as, lo < a
  pairs : ∀ (j : Nat) (a : Addr), as[j]? = some a → ∃ x y, xs[j]? = some x ∧ ys[j]? = some y ∧ IsPair h a x y
theorem ZG.there {xs ys : Array Value} {lo : Addr} {h : Heap} {as : List Addr} (g : ZG xs ys lo h as) {a : Addr} (ha : a ∈ as) : a < h.objs.size := by
  obtain ⟨j, hj⟩ := List.mem_iff_getElem?.mp ha
  obtain ⟨_, _, _, _, e⟩ := g.pairs j a hj
  exact Heap.lt_size e
/-- the zip's own things lie below S -/
structure Below (S z TI TO i1 i2 l1 l2 : Addr) : Prop where
  z : z < S
  TI : TI < S
  TO : TO < S
  i1 : i1 < S
  i2 : i2 < S
  l1 : l1 < S
  l2 : l2 < S
section
variable {R : Result → Shared → Prop} {S z TI TO i1 i2 l1 l2 : Addr} {xs ys : Array Value}
theorem zl_loop (hh : A.handled = none) (D : ZipApart z TI TO i1 i2 l1 l2) (B : Below S z TI TO i1 i2 l1 l2) (hn : xs.size = ys.size) (hl : xs.size ≤ sizeLine) (res : Value) {h₁ : Heap}
    (hR : ∀ h' tk acc c as, (∀ b o, b ≠ S → b ≠ z → b ≠ TO → b ≠ i1 → b ≠ i2 → h₁.get? b = some o → h'.get? b = some o) → h'.get? S = some { cls := .type "list", dict := none, data := .seq acc c, slots := #[] } → as.length = xs.size → ZG xs ys S h' as →
      acc.toList = as.map Value.ref → R (.ok (.ret res)) { s with heap := h', toks := tk }) :
    ∀ (k i : Nat) (h : Heap) (tk c : Nat) (acc : Array Value) (as : List Addr), xs.size - i = k → i ≤ xs.size → ZSt h z TI TO i1 i2 l1 l2 i → h.IsTuple l1 xs → h.IsTuple l2 ys → (∀ b o, b ≠ S → b ≠ z → b ≠ TO → b ≠ i1 → b ≠ i2 → h₁.get? b = some o → h.get? b = some o) →
      h.get? S = some { cls := .type "list", dict := none, data := .seq acc c, slots := #[] } → acc.toList = as.map Value.ref → as.length = i → ZG xs ys S h as →
      codeAny (model prog w) A (.builtin "list.extend.loop" ⟨[.ref S, .ref z, res], []⟩) R { s with heap := h, toks := tk } := by
  have nz : S ≠ z := Nat.ne_of_gt B.z
  have nTO : S ≠ TO := Nat.ne_of_gt B.TO
  have n1 : S ≠ i1 := Nat.ne_of_gt B.i1
  have n2 : S ≠ i2 := Nat.ne_of_gt B.i2
  intro k
  induction k with
  | zero =>
    intro i h tk c acc as hk hi hst hl1 hl2 hkeep hS hacc hal hG
    have hin : i = xs.size := by omega
    refine codeAny_builtin PySem.F.entry_extend_loop ?_
    rw [Around.under_plainId PySem.F.plain_extend_loop _]
    show wpAny _ A.in1 (pyNext (.ref z) >>= _) _ _ _
    refine wpAny_bind (zs_end (s := { s with heap := h, toks := tk }) (A := A.in1) hh D hst hl1 hl2 (.inl (Array.getElem?_eq_none (by omega))) fun h' he => ?_)
    refine wpAny_pure (hR h' tk acc c as (fun b o h0 h1 h2 h3 h4 e => he b o h1 h2 h3 h4 (hkeep b o h0 h1 h2 h3 h4 e)) (he S _ nz nTO n1 n2 hS) (by omega) ⟨hG.rise, hG.above, fun j a hj => ?_⟩ hacc)
    obtain ⟨x, y, e1, e2, e3⟩ := hG.pairs j a hj
    have hb := hG.above a (List.mem_of_getElem? hj)
    exact ⟨x, y, e1, e2, he a _ (Nat.ne_of_gt (Nat.lt_trans B.z hb)) (Nat.ne_of_gt (Nat.lt_trans B.TO hb)) (Nat.ne_of_gt (Nat.lt_trans B.i1 hb)) (Nat.ne_of_gt (Nat.lt_trans B.i2 hb)) e3⟩
  | succ k ih =>
    intro i h tk c acc as hk hi hst hl1 hl2 hkeep hS hacc hal hG
    have hlt : i < xs.size := by omega
    have hx : xs[i]? = some xs[i] := Array.getElem?_eq_getElem hlt
    have hy : ys[i]? = some (ys[i]'(by omega)) := Array.getElem?_eq_getElem (by omega)
    have hsz : acc.size = i := by rw [← Array.length_toList, hacc, List.length_map, hal]
    refine codeAny_builtin PySem.F.entry_extend_loop ?_
    rw [Around.under_plainId PySem.F.plain_extend_loop _]
    show wpAny _ A.in1 (pyNext (.ref z) >>= _) _ _ _
    refine wpAny_bind (zs_next (s := { s with heap := h, toks := tk }) D hst hl1 hl2 hx hy fun h' hst' ht hz hkp => ?_)
    dsimp only at ht hz hkp ⊢
    have hS' := hkp S _ nz nTO n1 n2 hS
    have up : ∀ b o, b ≠ S → h'.get? b = some o → (h'.update S (Obj.mapSeq (·.push (Value.ref h.objs.size)))).get? b = some o := fun b o hb e => (Heap.get?_update_other _ _ (Ne.symm hb)).trans e
    have hSl : S < h.objs.size := Heap.lt_size hS
    show wpAny _ A.in1 (updateSeq S (·.push (Value.ref h.objs.size)) >>= _) _ _ _
    refine wpAny_bind ?_
    refine wpAny_updateSeq hS' rfl (wpAny_pure ⟨plainId_quiet PySem.F.plain_extend_loop _, ih (i + 1) _ tk _ (acc.push (Value.ref h.objs.size)) (as ++ [h.objs.size]) (by omega) hlt
      (hst'.at fun c hc o e => up c o (by
        rcases hc with q | q | q | q | q
        · rw [q]; exact Ne.symm nz
        · rw [q]; exact Nat.ne_of_lt B.TI
        · rw [q]; exact Ne.symm nTO
        · rw [q]; exact Ne.symm n1
        · rw [q]; exact Ne.symm n2) e)
      (istup_at hl1 fun o e => up l1 o (Nat.ne_of_lt B.l1) (hkp l1 o D.l1z D.l1TO D.l1i1 D.l1i2 e)) (istup_at hl2 fun o e => up l2 o (Nat.ne_of_lt B.l2) (hkp l2 o D.l2z D.l2TO D.l2i1 D.l2i2 e))
      (fun b o h0 h1 h2 h3 h4 e => up b o h0 (hkp b o h1 h2 h3 h4 (hkeep b o h0 h1 h2 h3 h4 e))) (Heap.get?_update_self _ hS' rfl) (by rw [Array.toList_push, hacc, List.map_append]; rfl) (by rw [List.length_append, hal]; rfl) ⟨?_, ?_, ?_⟩⟩) (by rw [hsz]; omega) (by show (acc.push (Value.ref h.objs.size)).size ≤ sizeLine + 1; rw [Array.size_push, hsz]; omega)
    · refine List.pairwise_append.mpr ⟨hG.rise, List.pairwise_singleton _ _, fun a ha b hb => ?_⟩
      rw [List.mem_singleton.mp hb]
      exact hG.there ha
    · intro a ha
      rcases List.mem_append.mp ha with ha | ha
      · exact hG.above a ha
      · rw [List.mem_singleton.mp ha]; exact hSl
    · intro j b hj
      rcases Nat.lt_trichotomy j as.length with h1 | h1 | h1
      · rw [List.getElem?_append_left h1] at hj
        obtain ⟨x', y', e1, e2, e3⟩ := hG.pairs j b hj
        have hb := hG.above b (List.mem_of_getElem? hj)
        exact ⟨x', y', e1, e2, up b _ (Nat.ne_of_gt hb) (hkp b _ (Nat.ne_of_gt (Nat.lt_trans B.z hb)) (Nat.ne_of_gt (Nat.lt_trans B.TO hb)) (Nat.ne_of_gt (Nat.lt_trans B.i1 hb)) (Nat.ne_of_gt (Nat.lt_trans B.i2 hb)) e3)⟩
      · subst h1
        have hb : h.objs.size = b := by simpa using hj
        subst hb
        exact ⟨_, _, by rw [hal]; exact hx, by rw [hal]; exact hy, up _ _ (Nat.ne_of_gt hSl) ht⟩
      · have hnone : (as ++ [h.objs.size])[j]? = none := List.getElem?_eq_none (by rw [List.length_append, List.length_singleton]; omega)
        rw [hnone] at hj; cases hj
theorem zip_len : typeLookup (.type "zip") "__len__" = pure none := am_miss_of_fast (by decide +kernel)
theorem zip_lhint : typeLookup (.type "zip") "__length_hint__" = pure none := am_miss_of_fast (by decide +kernel)
theorem zl_hint (hT : s.TypeIs (.ref z) "zip") {Q : Bool → Shared → Prop} (h : Q true s) : wpAny (model prog w) A (Builtin.List.listLengthHint (.ref z)) Q E s := by
  unfold Builtin.List.listLengthHint
  refine wpAny_bind (wpAny_specialOf hT zip_len ?_)
  wp_delta
  refine wpAny_ite_split (fun hab => absurd hab (by decide +kernel)) (fun _ => ?_)
  refine wpAny_ite_split (fun hab => absurd hab (by decide)) (fun _ => ?_)
  refine wpAny_bind (wpAny_specialOf hT zip_lhint ?_)
  exact wpAny_pure h
theorem zl_extend (hh : A.handled = none) (D : ZipApart z TI TO i1 i2 l1 l2) (B : Below S z TI TO i1 i2 l1 l2) (hst : ZSt s.heap z TI TO i1 i2 l1 l2 0) (hz : IsZip s.heap z TI TO .none) (hl1 : s.heap.IsTuple l1 xs) (hl2 : s.heap.IsTuple l2 ys) (hn : xs.size = ys.size) (hl : xs.size ≤ sizeLine)
    (res : Value) (c₀ : Nat) (hS : s.heap.get? S = some { cls := .type "list", data := .seq #[] c₀ })
    (hR : ∀ h' tk acc c as, (∀ b o, b ≠ S → b ≠ z → b ≠ TO → b ≠ i1 → b ≠ i2 → s.heap.get? b = some o → h'.get? b = some o) → h'.get? S = some { cls := .type "list", dict := none, data := .seq acc c, slots := #[] } → as.length = xs.size → ZG xs ys S h' as →
      acc.toList = as.map Value.ref → R (.ok (.ret res)) { s with heap := h', toks := tk }) :
    wpAny (model prog w) A.in1 (Builtin.List.listExtendWith (.ref S) (.ref z) res)
      (fun fin s' => match fin with | .done f => R (.ok f) s' | .again c' => c'.quiet = true ∧ codeAny (model prog w) A c' R s') (fun e s' => R (.error e) s') s := by
  have nz : S ≠ z := Nat.ne_of_gt B.z
  have key : ∀ (h : Heap) (c₁ tk : Nat), (∀ b o, b ≠ S → s.heap.get? b = some o → h.get? b = some o) →
      h.get? S = some { cls := .type "list", data := .seq #[] c₁ } → codeAny (model prog w) A (.builtin "list.extend.loop" ⟨[.ref S, .ref z, res], []⟩) R { s with heap := h, toks := tk } := by
    intro h c₁ tk hk hS₁
    refine zl_loop (s := s) (h₁ := s.heap) hh D B hn hl res hR xs.size 0 h tk c₁ #[] [] (Nat.sub_zero _) (Nat.zero_le _) (hst.at fun c hc o e => hk c o (by
        rcases hc with q | q | q | q | q
        · rw [q]; exact Ne.symm nz
        · rw [q]; exact Nat.ne_of_lt B.TI
        · rw [q]; exact Nat.ne_of_lt B.TO
        · rw [q]; exact Nat.ne_of_lt B.i1
        · rw [q]; exact Nat.ne_of_lt B.i2) e)
      (istup_at hl1 fun o e => hk l1 o (Nat.ne_of_lt B.l1) e) (istup_at hl2 fun o e => hk l2 o (Nat.ne_of_lt B.l2) e) (fun b o h0 _ _ _ _ e => hk b o h0 e) hS₁ rfl rfl
      ⟨List.Pairwise.nil, (fun _ ha => nomatch ha), (fun j a hj => by simp at hj)⟩
  have hTz : s.TypeIs (.ref z) "zip" := ⟨_, hz, rfl⟩
  unfold Builtin.List.listExtendWith
  refine wpAny_bind (wpAny_typeOf (T := "zip") hTz ?_)
  have h1 : Builtin.List.listSameRef (.ref S) (.ref z) = false := by simp [Builtin.List.listSameRef, nz]
  have h2 : (Value.type "zip" == Value.type "list") = false := by decide
  have h3 : (Value.type "zip" == Value.type "tuple") = false := by decide
  simp only [h1, h2, h3, Bool.or_false, Bool.false_eq_true, if_false]
  refine wpAny_bind (wpAny_pyIter_zip hz ?_)
  refine wpAny_bind (wpAny_holding (zl_hint hTz ?_))
  refine wpAny_ite_split (fun _ => ?_) (fun _ => wpAny_pure ⟨plainId_quiet PySem.F.plain_extend_loop _, key _ c₀ _ (fun b o _ e => e) hS⟩)
  refine wpAny_bind (wpAny_rule ?_)
  refine wpAny_bind ?_
  show wpAny _ _ (updateSeq S (·.push .none) >>= fun _ => updateSeq S (·.pop)) _ _ _
  refine wpAny_bind (wpAny_updateSeq hS rfl ?_)
  have hS₂ := Heap.get?_update_self (Obj.mapSeq (·.push Value.none)) hS rfl
  refine wpAny_updateSeq (hz := by seq_fits) hS₂ rfl ?_
  have hS₃ := Heap.get?_update_self (Obj.mapSeq (·.pop)) hS₂ rfl
  refine wpAny_pure ⟨plainId_quiet PySem.F.plain_extend_loop _, key _ _ _ (fun b o hb e => ?_) hS₃⟩
  exact (Heap.get?_update_other _ _ (Ne.symm hb)).trans ((Heap.get?_update_other _ _ (Ne.symm hb)).trans e)
theorem zl_init (hh : A.handled = none) (D : ZipApart z TI TO i1 i2 l1 l2) (B : Below S z TI TO i1 i2 l1 l2) (hst : ZSt s.heap z TI TO i1 i2 l1 l2 0) (hz : IsZip s.heap z TI TO .none) (hl1 : s.heap.IsTuple l1 xs) (hl2 : s.heap.IsTuple l2 ys) (hn : xs.size = ys.size) (hl : xs.size ≤ sizeLine)
    (hS : s.heap.get? S = some { cls := .type "list", data := .seq #[] })
    (hR : ∀ h' tk acc c as, (∀ b o, b ≠ S → b ≠ z → b ≠ TO → b ≠ i1 → b ≠ i2 → s.heap.get? b = some o → h'.get? b = some o) → h'.get? S = some { cls := .type "list", dict := none, data := .seq acc c, slots := #[] } → as.length = xs.size → ZG xs ys S h' as →
      acc.toList = as.map Value.ref → R (.ok (.ret .none)) { s with heap := h', toks := tk }) :
    wpAny (model prog w) A.in1 (Builtin.«list.__init__» ⟨[.ref S, .ref z], []⟩)
      (fun fin s' => match fin with | .done f => R (.ok f) s' | .again c' => c'.quiet = true ∧ codeAny (model prog w) A c' R s') (fun e s' => R (.error e) s') s := by
  show wpAny _ _ (do let old ← Builtin.List.listItems (.ref S); Builtin.List.listUpdate (.ref S) (fun _ => #[]); letGo old.toList.reverse; Builtin.List.listExtendWith (.ref S) (.ref z) .none) _ _ s
  refine wpAny_bind ?_
  unfold Builtin.List.listItems
  refine wpAny_bind (wpAny_seqItems hS rfl (wpAny_pure ?_))
  show wpAny _ _ (updateSeq S (fun _ => #[]) >>= fun _ => letGo (#[] : Array Value).toList.reverse >>= fun _ => Builtin.List.listExtendWith (.ref S) (.ref z) .none) _ _ s
  refine wpAny_bind (wpAny_updateSeq hS rfl ?_)
  have hS₂ := Heap.get?_update_self (Obj.mapSeq (fun _ => (#[] : Array Value))) hS rfl
  have oth : ∀ b o, b ≠ S → s.heap.get? b = some o → (s.heap.update S (Obj.mapSeq (fun _ => (#[] : Array Value)))).get? b = some o :=
    fun b o hb e => (Heap.get?_update_other _ _ (Ne.symm hb)).trans e
  refine wpAny_bind (wpAny_letGo ?_)
  refine zl_extend hh D B (hst.at fun c hc o e => oth c o (by
        rcases hc with q | q | q | q | q
        · rw [q]; exact Nat.ne_of_lt B.z
        · rw [q]; exact Nat.ne_of_lt B.TI
        · rw [q]; exact Nat.ne_of_lt B.TO
        · rw [q]; exact Nat.ne_of_lt B.i1
        · rw [q]; exact Nat.ne_of_lt B.i2) e) (oth z _ (Nat.ne_of_lt B.z) hz) (istup_at hl1 fun o e => oth l1 o (Nat.ne_of_lt B.l1) e) (istup_at hl2 fun o e => oth l2 o (Nat.ne_of_lt B.l2) e) hn hl .none _ hS₂ (fun h' tk acc c as hk hS' hl hG hacc => ?_)
  exact hR h' tk acc c as (fun b o hb h1 h2 h3 h4 e => hk b o hb h1 h2 h3 h4 (oth b o hb e)) hS' hl hG hacc
theorem zl_call {Q : Value → Shared → Prop} (hh : A.handled = none) (D : ZipApart z TI TO i1 i2 l1 l2) (B : Below s.heap.objs.size z TI TO i1 i2 l1 l2) (hst : ZSt s.heap z TI TO i1 i2 l1 l2 0) (hz : IsZip s.heap z TI TO .none) (hl1 : s.heap.IsTuple l1 xs) (hl2 : s.heap.IsTuple l2 ys) (hn : xs.size = ys.size) (hl : xs.size ≤ sizeLine)
    (hQ : ∀ h' tk acc c as, (∀ b o, b ≠ z → b ≠ TO → b ≠ i1 → b ≠ i2 → s.heap.get? b = some o → h'.get? b = some o) → h'.get? s.heap.objs.size = some { cls := .type "list", dict := none, data := .seq acc c, slots := #[] } → as.length = xs.size → ZG xs ys s.heap.objs.size h' as →
      acc.toList = as.map Value.ref → Q (.ref s.heap.objs.size) { s with heap := h', toks := tk }) :
    wpAny (model prog w) A (call (.type "list") [.ref z]) Q E s := by
  refine callType_codes (Q₁ := fun obj s₁ => obj = .ref s.heap.objs.size ∧ s₁ = { s with heap := s.heap.push { cls := .type "list", data := .seq #[] } }) PySem.F.called_list (PySem.F.typeCall_list_1 _) PySem.F.entry_list_init
    (code_list_new _ ⟨rfl, rfl⟩) fun obj s₁ h₁ => ?_
  obtain ⟨rfl, rfl⟩ := h₁
  have hS : (s.heap.push { cls := .type "list", data := .seq #[] }).get? s.heap.objs.size = some { cls := .type "list", data := .seq #[] } := Heap.get?_push_size _ rfl
  refine ⟨⟨_, hS, rfl⟩, PySem.F.args_list_init_2 _ _, zl_init (A := A.in1) hh D B (hst.at fun c hc o e => Heap.get?_push_of_some _ e) (Heap.get?_push_of_some _ hz) (istup_at hl1 fun o e => Heap.get?_push_of_some _ e) (istup_at hl2 fun o e => Heap.get?_push_of_some _ e) hn hl hS (fun h' tk acc c as hk hS' hl hG hacc => ?_)⟩
  exact ⟨rfl, hQ h' tk acc c as (fun b o h1 h2 h3 h4 e => hk b o (Nat.ne_of_lt (Heap.lt_size e)) h1 h2 h3 h4 (Heap.get?_push_of_some _ e)) hS' hl hG hacc⟩
end
end
end Bf
set_option Elab.async false
set_option linter.all false
set_option maxRecDepth 100000
set_option maxHeartbeats 2000000
/-! BfZ2: the rules: for x in zip(t, u), x one name; list(zip(t, u)). -/
namespace Bf
open PySem PySem.Spec PyProof.Rows L2 RZ
theorem apart_five (n a b : Addr) (ha : a < n) (hb : b < n) : ZipApart (n + 4) (n + 2) (n + 3) n (n + 1) a b := PySem.W.ktu_apart n a b ha hb
theorem iter_zipG {prog : Program} {w : World} {A : Around} {E : Value → Shared → Prop} {s : Shared} {z TI TO : Addr} {v0 : Value} {f : Bool} {Q : Value → Shared → Prop} (hz : IsZipG s.heap z TI TO v0 f) (h : Q (.ref z) s) : wpAny (model prog w) A (pyIter (.ref z)) Q E s := by
  have hT : s.TypeIs (.ref z) "zip" := ⟨_, hz, rfl⟩
  refine wpAny_pyIter_slot hT PySem.F.slot_zip_iter (wpAny_call_entry PySem.F.slot_zip_iter hT PySem.F.entry_zip_iter ?_ (PySem.F.args_zip_iter_1 _))
  show wpAny _ _ (ret (.ref z)) _ _ s
  exact wpAny_pure ⟨_, rfl, "zip", _, hT, PySem.F.slot_zip_next.lookup, h⟩
theorem turn_zipN {P : Program} {w : World} {K : PySem.W.Frag} {tg : Expr} {a b z TI TO i1 i2 : Addr} (D : ZipApart z TI TO i1 i2 a b) (htg : ∀ it v, letOwnedTupleGo tg it v = pure ()) :
    Turn P w K tg (ItzT K a b) [z, TI, TO, i1, i2] z (fun i h => ZSt h z TI TO i1 i2 a b i) where
  mem := by simp
  obj := fun i h st c hc => by
    obtain ⟨v0, f, hz⟩ := st.zip
    obtain ⟨hTI, ⟨x, y, hTO⟩, ⟨o1, e1, _, d1⟩, ⟨o2, e2, _, d2⟩, _⟩ := st
    have e' : c = z ∨ c = TI ∨ c = TO ∨ c = i1 ∨ c = i2 := by simpa using hc
    rcases e' with q | q | q | q | q
    · rw [q]; exact ⟨_, hz, fun v q => nomatch q⟩
    · rw [q]; exact ⟨_, hTI, fun v q => nomatch q⟩
    · rw [q]; exact ⟨_, hTO, fun v q => nomatch q⟩
    · rw [q]; exact ⟨o1, e1, fun v q => by rw [d1] at q; cases q⟩
    · rw [q]; exact ⟨o2, e2, fun v q => by rw [d2] at q; cases q⟩
  keep := fun i h h' st k => st.at fun c hc o e => k c (by
    rcases hc with q | q | q | q | q <;> rw [q] <;> simp) o e
  item := by
    intro X hP hw hK hc i pins s σ H E I hf st hg
    subst hP hw hK
    obtain ⟨v0, f, hz⟩ := st.zip
    obtain ⟨hTI, ⟨x0, y0, hTO⟩, h1, h2, _⟩ := id st
    obtain ⟨xs, ys, x, y, hqx, hqy, hx, hy⟩ := hg
    obtain ⟨its, rv, p, _⟩ := I.tuple hqx
    obtain ⟨its2, rv2, p2, _⟩ := I.tuple hqy
    obtain ⟨u, hu, ru⟩ := rv.get hx
    obtain ⟨u2, hu2, ru2⟩ := rv2.get hy
    refine zs_next D st (show s.heap.IsTuple a its.toArray from p) (show s.heap.IsTuple b its2.toArray from p2) (x := u) (y := u2) (by simpa using hu) (by simpa using hu2) fun h' st' hT hsz hk => ?_
    refine ⟨_, rfl, ?_⟩
    rw [htg]
    have new : ObjOk X.prog X.w (upd H s.heap.objs.size (.tup [x, y])) h' s.heap.objs.size (.tup [x, y]) :=
      ⟨by show 2 ≤ sizeLine; decide, [u, u2], .cons ru (.cons ru2 .nil), ⟨_, hT, rfl, _, rfl⟩⟩
    have I1 : Inv X pins σ (upd H s.heap.objs.size (.tup [x, y])) { s with heap := h' } :=
      I.turnedNew (t' := s.toks) (ch := [z, TI, TO, i1, i2]) (fun c o hb q => hk c o (fun q' => hb (by simp [q'])) (fun q' => hb (by simp [q'])) (fun q' => hb (by simp [q'])) (fun q' => hb (by simp [q'])) q) hf (Nat.le_refl _) new
    refine wpAny_pure ⟨.ref s.heap.objs.size, _, I1, rfl, ⟨_, x, y, rfl, I.hok.fresh (Nat.le_refl _), rfl, fun l hl => by rw [I.tuple_inj hl hqx]; exact hx, fun l hl => by rw [I.tuple_inj hl hqy]; exact hy⟩, st', fun c hcm => ?_⟩
    have hlt : c < s.heap.objs.size := by
      have e' : c = z ∨ c = TI ∨ c = TO ∨ c = i1 ∨ c = i2 := by simpa using hcm
      rcases e' with q | q | q | q | q
      · rw [q]; exact Heap.lt_size hz
      · rw [q]; exact Heap.lt_size hTI
      · rw [q]; exact Heap.lt_size hTO
      · rw [q]; obtain ⟨_, e1, _⟩ := h1; exact Heap.lt_size e1
      · rw [q]; obtain ⟨_, e2, _⟩ := h2; exact Heap.lt_size e2
    rw [upd_ne (Nat.ne_of_lt hlt)]
    exact (hf c hcm).1
  done := by
    intro X hP hw hK hc i pins s σ H E I hf st hg
    subst hP hw hK
    obtain ⟨xs, ys, hqx, hqy, hend⟩ := hg
    obtain ⟨its, rv, p, _⟩ := I.tuple hqx
    obtain ⟨its2, rv2, p2, _⟩ := I.tuple hqy
    have l1 := rv.length
    have l2 := rv2.length
    have he : its.toArray[i]? = none ∨ its2.toArray[i]? = none := by
      rcases hend with q | q
      · exact .inl (by simp; omega)
      · exact .inr (by simp; omega)
    exact zs_end (I.ok.hd hc) D st (show s.heap.IsTuple a its.toArray from p) (show s.heap.IsTuple b its2.toArray from p2) he fun h' hk => ⟨rfl, I.turnedL (t' := s.toks) (ch := [z, TI, TO, i1, i2]) (fun c o hb q =>
      hk c o (fun q' => hb (by simp [q'])) (fun q' => hb (by simp [q'])) (fun q' => hb (by simp [q'])) (fun q' => hb (by simp [q'])) q) hf⟩
  self := fun A i s Q E st h => by
    obtain ⟨v0, f, e⟩ := st.zip
    exact iter_zipG e h
section
variable {X : Cx}
theorem fresh_five {pins : List (Addr × Obj)} {σ : L2.St} {H : Hp} {s : Shared} (I : Inv X pins σ H s) :
    ∀ c, c ∈ [s.heap.objs.size + 4, s.heap.objs.size + 2, s.heap.objs.size + 3, s.heap.objs.size, s.heap.objs.size + 1] → FpOk X pins H c := fun c hcm => by
  have e' : c = s.heap.objs.size + 4 ∨ c = s.heap.objs.size + 2 ∨ c = s.heap.objs.size + 3 ∨ c = s.heap.objs.size ∨ c = s.heap.objs.size + 1 := by simpa using hcm
  have hle : s.heap.objs.size ≤ c := by
    rcases e' with z | z | z | z | z
    · rw [z]; exact Nat.le_add_right _ _
    · rw [z]; exact Nat.le_add_right _ _
    · rw [z]; exact Nat.le_add_right _ _
    · rw [z]; exact Nat.le_refl _
    · rw [z]; exact Nat.le_add_right _ _
  exact I.fpOk hle (I.hok.fresh hle)
def iZipN (K : PySem.W.Frag) (ta : TA) : TI := fun σ H R => ta σ H fun vs H1 => ∃ a b xs ys, vs = [.ref a, .ref b] ∧ SqT K H1 a xs ∧ SqT K H1 b ys ∧ R (ItzT K a b) H1
theorem pi_zipN {tg e e2 : Expr} {ta : TA} {p pos : Pos} (htg : ∀ it v, letOwnedTupleGo tg it v = pure ()) (hg : Gl X "zip") (hm : X.mg "zip" = none) (ha : PA X [e, e2] ta)
    (hs : starEach [e, e2] X.env = (false, eval e X.env) :: starEach [e2] X.env := by rfl) (hpl : (backTo pos (starEach [e2] X.env)).any (·.1) = false := by rfl) :
    PI X tg (.Call (.Name "zip" p) [e, e2] [] pos) (iZipN X.K ta) := by
  refine ⟨fun pins s σ H R I h => ?_⟩
  refine Call_ (ld_blt I hg hm PyProof.Rows.boot_zip (PyProof.Rows.callWith_type1 (thn (ha.run pos pins s σ H _ I h) fun us s1 ⟨vs, H1, I1, r1, q1⟩ => ?_) hs hpl))
  obtain ⟨a, b, xs, ys, ex, hqx, hqy, q⟩ := q1
  subst ex
  cases r1 with
  | cons r rr =>
    cases rr with
    | cons r' rr =>
      cases rr
      cases r
      cases r'
      obtain ⟨its, rv, p1, _⟩ := I1.tuple hqx
      obtain ⟨its2, rv2, p2, _⟩ := I1.tuple hqy
      obtain ⟨o1, ho1, _⟩ := id p1
      obtain ⟨o2, ho2, _⟩ := id p2
      refine call_zipT (show s1.heap.IsTuple a its.toArray from p1) (show s1.heap.IsTuple b its2.toArray from p2) fun h' hz hTI hTO h1 h2 hsz hk => wpAny_pyIter_zip hz ?_
      have I2 : Inv X pins σ H1 { s1 with heap := h' } := I1.kept (t' := s1.toks) hk
      exact ⟨s1.heap.objs.size + 4, [s1.heap.objs.size + 4, s1.heap.objs.size + 2, s1.heap.objs.size + 3, s1.heap.objs.size, s1.heap.objs.size + 1], _, _, H1, rfl, I2, turn_zipN (apart_five s1.heap.objs.size a b (Heap.lt_size ho1) (Heap.lt_size ho2)) htg, ⟨hTI, ⟨_, _, hTO⟩, h1, h2, .inl hz⟩, fresh_five I1, q⟩

/-! list(zip(t, u)) -/
/-- the pairs tracked at their addresses -/
def putP : Hp → List Addr → List (V × V) → Hp
  | H, a :: as, p :: ps => putP (upd H a (.tup [p.1, p.2])) as ps
  | H, _, _ => H
theorem putP_off {b : Addr} : ∀ (as : List Addr) (ps : List (V × V)) (H : Hp), b ∉ as → putP H as ps b = H b
  | [], _, _, _ => rfl
  | _ :: _, [], _, _ => rfl
  | a :: as, p :: ps, H, h => by
    show putP (upd H a (.tup [p.1, p.2])) as ps b = H b
    rw [putP_off as ps _ (fun z => h (List.mem_cons_of_mem _ z)), upd_ne (fun z => h (by rw [z]; exact List.mem_cons_self))]
theorem putP_at : ∀ (as : List Addr) (ps : List (V × V)) (H : Hp), as.length = ps.length → as.Nodup → ∀ (j : Nat) (t : Addr), as[j]? = some t → ∃ p, ps[j]? = some p ∧ putP H as ps t = some (.tup [p.1, p.2])
  | [], [], _, _, _, j, t, e => by simp at e
  | [], _ :: _, _, h, _, _, _, _ => by cases h
  | _ :: _, [], _, h, _, _, _, _ => by cases h
  | a :: as, p :: ps, H, h, hn, j, t, e => by
    have hn' := List.nodup_cons.mp hn
    cases j with
    | zero =>
      have e' : a = t := Option.some.inj e
      subst e'
      refine ⟨p, rfl, ?_⟩
      show putP (upd H a (.tup [p.1, p.2])) as ps a = some (.tup [p.1, p.2])
      rw [putP_off as ps _ hn'.1, upd_same]
    | succ j => exact putP_at as ps (upd H a (.tup [p.1, p.2])) (Nat.succ.inj h) hn'.2 j t e
/-- list(zip(t, u)), two tuples of one length -/
def rListZip (K : PySem.W.Frag) (vs : List V) (H : Hp) (Q : VK) : Prop := ∃ (a b : Addr) (xs ys : List V), vs = [.ref a, .ref b] ∧ SqT K H a xs ∧ SqT K H b ys ∧ xs.length = ys.length ∧
  ∀ (H' : Hp) (p : Addr) (ts : List Addr), Same H H' → H p = none → H' p = some (.lst (ts.map V.ref)) → ts.length = xs.length →
    (∀ (j : Nat) (t : Addr), ts[j]? = some t → H t = none ∧ ∃ x y, xs[j]? = some x ∧ ys[j]? = some y ∧ H' t = some (.tup [x, y])) → Q (.ref p) H'
def tListZip (K : PySem.W.Frag) (ta : TA) : TE := fun σ H Q => ta σ H fun vs H1 => rListZip K vs H1 Q
theorem zl_laid {pins : List (Addr × Obj)} {σ : L2.St} {H : Hp} {s : Shared} {S : Addr} {h' : Heap} {tk : Nat} {xs ys : List V} {its its2 : List Value} {acc : Array Value} {c : Nat} {as : List Addr} (I : Inv X pins σ H s) (hz : xs.length ≤ sizeLine) (hS0 : s.heap.objs.size ≤ S)
    (rx : Vals xs its) (ry : Vals ys its2) (hxy : xs.length = ys.length)
    (hk : ∀ b o, s.heap.get? b = some o → h'.get? b = some o) (hS : h'.get? S = some { cls := .type "list", dict := none, data := .seq acc c, slots := #[] }) (hl : as.length = xs.length) (hG : ZG its.toArray its2.toArray S h' as) (hacc : acc.toList = as.map Value.ref) :
    ∃ H' : Hp, Same H H' ∧ H S = none ∧ H' S = some (.lst (as.map V.ref)) ∧ (∀ (j : Nat) (t : Addr), as[j]? = some t → H t = none ∧ ∃ x y, xs[j]? = some x ∧ ys[j]? = some y ∧ H' t = some (.tup [x, y])) ∧ Inv X pins σ H' { s with heap := h', toks := tk } := by
  have hSn : S ∉ as := fun z => Nat.lt_irrefl _ (hG.above _ z)
  have nd : as.Nodup := List.Pairwise.imp (fun {a b} (h : a < b) => Nat.ne_of_lt h) hG.rise
  have new : ∀ t ∈ as, H t = none := fun t ht => I.hok.fresh (Nat.le_of_lt (Nat.lt_of_le_of_lt hS0 (hG.above t ht)))
  have newS : H S = none := I.hok.fresh hS0
  have lz : (xs.zip ys).length = as.length := by rw [List.length_zip, ← hxy, Nat.min_self, hl]
  have atP := putP_at as (xs.zip ys) (upd H S (.lst (as.map V.ref))) lz.symm nd
  have off : ∀ b, b ∉ as → b ≠ S → putP (upd H S (.lst (as.map V.ref))) as (xs.zip ys) b = H b := fun b h1 h2 => by rw [putP_off as _ _ h1, upd_ne h2]
  have low : ∀ b o, s.heap.get? b = some o → b ∉ as ∧ b ≠ S := fun b o e => ⟨fun z => absurd (Heap.lt_size e) (Nat.not_lt.mpr (Nat.le_trans hS0 (Nat.le_of_lt (hG.above b z)))), Nat.ne_of_lt (Nat.lt_of_lt_of_le (Heap.lt_size e) hS0)⟩
  have kp : Same H (putP (upd H S (.lst (as.map V.ref))) as (xs.zip ys)) := fun b u e => by
    rw [off b (fun z => by rw [new b z] at e; cases e) (fun z => by rw [z, newS] at e; cases e)]
    exact e
  have eS : putP (upd H S (.lst (as.map V.ref))) as (xs.zip ys) S = some (.lst (as.map V.ref)) := by rw [putP_off as _ _ hSn, upd_same]
  have at2 : ∀ (j : Nat) (t : Addr), as[j]? = some t → ∃ x y, xs[j]? = some x ∧ ys[j]? = some y ∧ putP (upd H S (.lst (as.map V.ref))) as (xs.zip ys) t = some (.tup [x, y]) := fun j t e => by
    obtain ⟨⟨x, y⟩, e1, e2⟩ := atP j t e
    obtain ⟨e3, e4⟩ := List.getElem?_zip_eq_some.mp e1
    exact ⟨x, y, e3, e4, e2⟩
  refine ⟨_, kp, newS, eS, fun j t e => ⟨new t (List.mem_of_getElem? e), at2 j t e⟩, ?_⟩
  refine I.call' (ch := []) rfl ⟨fun b o q _ _ _ => hk b o q, fun b o q _ _ _ => ⟨o.slots, hk b o q⟩, fun b o q n _ => ?_, fun b o q _ => ⟨o, hk b o q⟩, fun b xs q => kp b _ q, fun b o u q => kp b _ q, fun b ps q => ⟨#[], by rw [kp b _ q]; simp⟩⟩ (fun b u q => ?_) I.bare fun b z => by simp at z
  · obtain ⟨z1, z2⟩ := low b o q
    rw [off b z1 z2]
    exact n
  · by_cases hb : b ∈ as
    · obtain ⟨j, hj⟩ := List.mem_iff_getElem?.mp hb
      obtain ⟨x, y, e1, e2, e3⟩ := at2 j b hj
      rw [e3] at q
      cases q
      obtain ⟨vx, vy, f1, f2, f3⟩ := hG.pairs j b hj
      obtain ⟨ux, g1, g2⟩ := rx.get e1
      obtain ⟨uy, g3, g4⟩ := ry.get e2
      have ex : its[j]? = some vx := by simpa using f1
      have ey : its2[j]? = some vy := by simpa using f2
      rw [g1] at ex; cases ex
      rw [g3] at ey; cases ey
      exact ⟨by show 2 ≤ sizeLine; decide, [vx, vy], .cons g2 (.cons g4 .nil), ⟨_, f3, rfl, _, rfl⟩⟩
    · by_cases hb2 : b = S
      · subst hb2
        rw [eS] at q
        cases q
        refine ⟨by rw [List.length_map]; omega, acc.toList, c, by rw [hacc]; exact LiI.vals_refs as, ?_⟩
        rw [Array.toArray_toList]
        exact hS
      · rw [off b hb hb2] at q
        exact (I.hok b u q).stay (fun d v _ y => hk d v y) (fun d y => kp d _ y) fun d xs y => kp d _ y
theorem pe_listZip {e e2 : Expr} {ta : TA} {p p2 pos pos2 : Pos} (hc : X.calm = true) (hg : Gl X "list") (hm : X.mg "list" = none) (hgz : Gl X "zip") (hmz : X.mg "zip" = none) (hv : bootBuiltins "list" = some (.type "list")) (ha : PA X [e, e2] ta)
    (hs : starEach [.Call (.Name "zip" p2) [e, e2] [] pos2] X.env = (false, eval (.Call (.Name "zip" p2) [e, e2] [] pos2) X.env) :: starEach [] X.env := by rfl)
    (hs2 : starEach [e, e2] X.env = (false, eval e X.env) :: starEach [e2] X.env := by rfl) (hpl : (backTo pos2 (starEach [e2] X.env)).any (·.1) = false := by rfl) :
    PE X (.Call (.Name "list" p) [.Call (.Name "zip" p2) [e, e2] [] pos2] [] pos) (tListZip X.K ta) := by
  refine ⟨fun pins s σ H Q I hq => ?_⟩
  refine wpAny_Call_Name_kw (ld_blt I hg hm hv ?_)
  refine PyProof.Rows.callWith_type1 ?_ hs rfl
  rw [hs]
  show wpAny _ _ (spliced ((false, eval (.Call (.Name "zip" p2) [e, e2] [] pos2) X.env) :: backTo pos (starEach [] X.env))) _ _ s
  refine Calls.spliced_cons ?_
  refine Call_ (ld_blt I hgz hmz PyProof.Rows.boot_zip (PyProof.Rows.callWith_type1 (thn (ha.run pos2 pins s σ H _ I hq) fun us s1 ⟨vs, H1, I1, r1, q1⟩ => ?_) hs2 hpl))
  obtain ⟨a, b, xs, ys, ex, hqx, hqy, hxy, q⟩ := q1
  subst ex
  cases r1 with
  | cons r rr =>
    cases rr with
    | cons r' rr =>
      cases rr
      cases r
      cases r'
      obtain ⟨its, rv, p1, zx⟩ := I1.tuple hqx
      obtain ⟨its2, rv2, p2, zy⟩ := I1.tuple hqy
      obtain ⟨o1, ho1, _⟩ := id p1
      obtain ⟨o2, ho2, _⟩ := id p2
      refine call_zipT (show s1.heap.IsTuple a its.toArray from p1) (show s1.heap.IsTuple b its2.toArray from p2) fun h' hz hTI hTO h1 h2 hsz hk => ?_
      refine Calls.spliced_nil ?_
      have e1 : its.toArray.size = xs.length := by rw [List.size_toArray]; exact rv.length.symm
      have e2 : its2.toArray.size = ys.length := by rw [List.size_toArray]; exact rv2.length.symm
      have la := Heap.lt_size ho1
      have lb := Heap.lt_size ho2
      refine zl_call (s := { s1 with heap := h' }) (xs := its.toArray) (ys := its2.toArray) (I1.ok.hd hc) (apart_five s1.heap.objs.size a b la lb) ?_ ⟨hTI, ⟨_, _, hTO⟩, h1, h2, .inl hz⟩ hz (istup_at p1 fun o e => hk _ o e) (istup_at p2 fun o e => hk _ o e) (by omega) (by omega) fun h2' tk acc c as hk2 hS hl hG hacc => ?_
      · show Below h'.objs.size _ _ _ _ _ _ _
        rw [hsz]
        exact ⟨Nat.lt_succ_self _, Nat.add_lt_add_left (by decide) _, Nat.add_lt_add_left (by decide) _, Nat.lt_add_of_pos_right (by decide), Nat.add_lt_add_left (by decide) _, Nat.lt_of_lt_of_le la (Nat.le_add_right _ _), Nat.lt_of_lt_of_le lb (Nat.le_add_right _ _)⟩
      · have old : ∀ b o, s1.heap.get? b = some o → h2'.get? b = some o := fun b o e => by
          have hlt := Heap.lt_size e
          refine hk2 b o ?_ ?_ ?_ ?_ (hk b o e)
          · exact Nat.ne_of_lt (Nat.lt_of_lt_of_le hlt (Nat.le_add_right _ _))
          · exact Nat.ne_of_lt (Nat.lt_of_lt_of_le hlt (Nat.le_add_right _ _))
          · exact Nat.ne_of_lt hlt
          · exact Nat.ne_of_lt (Nat.lt_of_lt_of_le hlt (Nat.le_add_right _ _))
        have hS0 : s1.heap.objs.size ≤ h'.objs.size := by rw [hsz]; exact Nat.le_add_right _ _
        obtain ⟨H', k1, k2, k3, k4, J⟩ := zl_laid (tk := tk) I1 zx hS0 rv rv2 hxy old hS (by rw [← e1]; exact hl) hG hacc
        exact ⟨.ref _, H', J, rfl, q H' _ as k1 k2 k3 (by rw [← e1]; exact hl) k4⟩
end
end Bf
set_option Elab.async false
set_option linter.all false
set_option maxRecDepth 100000
set_option maxHeartbeats 2000000
/-! BfD: dicts whose keys are pairs of numbers, the pairs tracked, locked or of the written part. -/
namespace Bf
open PySem PySem.Spec PyProof.Rows L2
abbrev Pt := Nat × Nat
def pk (p : Pt) : List Key := [Sum.inl (p.1 : Int), Sum.inl (p.2 : Int)]
def pvs (p : Pt) : List V := [V.int (p.1 : Int), V.int (p.2 : Int)]
theorem pk_map (p : Pt) : (pk p).map kV = pvs p := rfl
theorem pk_inj {p q : Pt} (h : pk p = pk q) : p = q := by
  obtain ⟨a, b⟩ := p
  obtain ⟨c, d⟩ := q
  have h1 : (Sum.inl (a : Int) : Key) = Sum.inl (c : Int) := by injection h
  have h2 : (Sum.inl (b : Int) : Key) = Sum.inl (d : Int) := by
    injection h with _ h2
    injection h2
  have e1 : (a : Int) = c := by injection h1
  have e2 : (b : Int) = d := by injection h2
  have e1' : a = c := by omega
  have e2' : b = d := by omega
  rw [e1', e2']
/-- at a the pair p is to be read -/
def PtAt (K : PySem.W.Frag) (H : Hp) (a : Addr) (p : Pt) : Prop := SqT K H a (pvs p)
abbrev Ent := Pt × Addr × V
def getX (es : List Ent) (p : Pt) : Option V := (es.find? fun e => decide (e.1 = p)).map (·.2.2)
def putX (es : List Ent) (p : Pt) (b : Addr) (v : V) : List Ent :=
  if (getX es p).isSome = true then es.map (fun e => if e.1 = p then (e.1, e.2.1, v) else e) else es ++ [(p, b, v)]
theorem putX_new {es : List Ent} {p : Pt} (b : Addr) (v : V) (h : getX es p = none) : putX es p b v = es ++ [(p, b, v)] := by unfold putX; rw [h]; rfl
theorem putX_old {es : List Ent} {p : Pt} {y : V} (b : Addr) (v : V) (h : getX es p = some y) : putX es p b v = es.map (fun e => if e.1 = p then (e.1, e.2.1, v) else e) := by unfold putX; rw [h]; rfl
theorem putX_len (es : List Ent) (p : Pt) (b : Addr) (v : V) : (putX es p b v).length ≤ es.length + 1 := by
  unfold putX
  split
  · rw [List.length_map]; omega
  · rw [List.length_append, List.length_cons, List.length_nil]; omega
/-- each key of what a store leaves was there, or is the one that was stored -/
theorem putX_mem {es : List Ent} {p : Pt} {b : Addr} {v : V} {e : Ent} (h : e ∈ putX es p b v) : (∃ e' ∈ es, e'.1 = e.1 ∧ e'.2.1 = e.2.1) ∨ (e.1 = p ∧ e.2.1 = b) := by
  unfold putX at h
  split at h
  · obtain ⟨e', he, rfl⟩ := List.mem_map.mp h
    by_cases q : e'.1 = p
    · rw [if_pos q]
      exact .inl ⟨e', he, rfl, rfl⟩
    · rw [if_neg q]
      exact .inl ⟨e', he, rfl, rfl⟩
  · rcases List.mem_append.mp h with h | h
    · exact .inl ⟨e, h, rfl, rfl⟩
    · rw [List.mem_singleton.mp h]
      exact .inr ⟨rfl, rfl⟩
abbrev PX : List Ent → List (List Key × Addr × Value) → Prop := Paired fun e x => pk e.1 = x.1 ∧ e.2.1 = x.2.1 ∧ RelV e.2.2 x.2.2
/-- the dict at d, its entries in order -/
def dxO (P : Program) (w : World) (d : Addr) (es : List Ent) : HO := .ext fun h => es.length ≤ sizeLine ∧ (d == sysModules) = false ∧ ∃ xs, PX es xs ∧
  ∃ o e' ep, h.get? d = some o ∧ o.ExactDict ∧ o.data = .dict e' ep ∧ e'.toList = xs.map (entryOfKey (tupleKind (mixKind P w))) ∧ (xs.map (·.1)).Nodup
def Keys (K : PySem.W.Frag) (H : Hp) (es : List Ent) : Prop := ∀ e ∈ es, PtAt K H e.2.1 e.1
theorem PX.val {es : List Ent} {xs : List (List Key × Addr × Value)} (r : PX es xs) (p : Pt) : RelO (getX es p) ((atKey xs (pk p)).map (·.2)) := by
  induction r with
  | nil => exact True.intro
  | @cons e x es xs h t ih =>
    obtain ⟨h1, _, h2⟩ := h
    by_cases q : e.1 = p
    · have q' : x.1 = pk p := by rw [← h1, q]
      have a1 : atKey (x :: xs) (pk p) = some x.2 := by simp [atKey, List.find?_cons, q']
      have a2 : getX (e :: es) p = some e.2.2 := by simp [getX, List.find?_cons, q]
      rw [a1, a2]; exact h2
    · have q' : ¬ x.1 = pk p := fun z => q (pk_inj (h1.trans z))
      have a1 : atKey (x :: xs) (pk p) = atKey xs (pk p) := by simp [atKey, List.find?_cons, q']
      have a2 : getX (e :: es) p = getX es p := by simp [getX, List.find?_cons, q]
      rw [a1, a2]; exact ih
theorem PX.repl {es : List Ent} {xs : List (List Key × Addr × Value)} (r : PX es xs) (p : Pt) {y : V} {u : Value} (ry : RelV y u) :
    PX (es.map fun e => if e.1 = p then (e.1, e.2.1, y) else e) (xs.map (putAt (pk p) u)) := by
  induction r with
  | nil => exact .nil
  | @cons e x es xs h t ih =>
    rw [List.map_cons, List.map_cons]
    refine .cons ?_ ih
    obtain ⟨h1, h2, h3⟩ := h
    unfold putAt
    by_cases q : e.1 = p
    · rw [if_pos q, if_pos (show x.1 = pk p by rw [← h1, q])]; exact ⟨h1, h2, ry⟩
    · rw [if_neg q, if_neg (fun z => q (pk_inj (h1.trans z)))]; exact ⟨h1, h2, h3⟩
theorem PX.put {es : List Ent} {xs : List (List Key × Addr × Value)} (r : PX es xs) (p : Pt) {b : Addr} {y : V} {u : Value} (ry : RelV y u) : PX (putX es p b y) (storedH xs (pk p) b u) := by
  have e : (getX es p).isSome = (atKey xs (pk p)).isSome := by rw [(r.val p).isSome_eq, Option.isSome_map]
  unfold putX storedH
  rw [e]
  by_cases q : (atKey xs (pk p)).isSome = true
  · rw [if_pos q, if_pos q]; exact r.repl p ry
  · rw [if_neg q, if_neg q]; exact Paired.snoc r ⟨rfl, rfl, ry⟩
section
variable {X : Cx} {pins : List (Addr × Obj)} {σ : L2.St} {H : Hp} {s : Shared} {d b : Addr} {es : List Ent} {p : Pt} {A : Around} {E : Value → Shared → Prop}
theorem key_x (I : Inv X pins σ H s) (h : PtAt X.K H b p) : (tupleKind (mixKind X.prog X.w)).is s.heap (pk p) b := by
  obtain ⟨its, r, ⟨o, h1, h2, n, h3⟩, _⟩ := I.tuple (show SqT X.K H b (pvs p) from h)
  exact ⟨o, its.toArray, n, h1, h2, h3, by simpa using items_are (ks := pk p) (by rw [pk_map]; exact r)⟩
theorem dx_raw (I : Inv X pins σ H s) (rd : Rd H d (dxO X.prog X.w d es)) : es.length ≤ sizeLine ∧ (d == sysModules) = false ∧ ∃ xs, PX es xs ∧
    ∃ o e' ep, s.heap.get? d = some o ∧ o.ExactDict ∧ o.data = .dict e' ep ∧ e'.toList = xs.map (entryOfKey (tupleKind (mixKind X.prog X.w))) ∧ (xs.map (·.1)).Nodup := (rd.ok I.hok).1
theorem dx_heap (I : Inv X pins σ H s) (rd : Rd H d (dxO X.prog X.w d es)) (ks : Keys X.K H es) : es.length ≤ sizeLine ∧ (d == sysModules) = false ∧ ∃ xs, PX es xs ∧ s.heap.DictOfH (tupleKind (mixKind X.prog X.w)) d xs := by
  obtain ⟨z, y, xs, r, o, e', ep, h1, h2, h3, h4, h5⟩ := dx_raw I rd
  refine ⟨z, y, xs, r, o, e', ep, h1, h2, h3, h4, fun x hx => ?_, h5⟩
  have all : ∀ {l : List Ent} {m : List (List Key × Addr × Value)}, PX l m → (∀ e ∈ l, PtAt X.K H e.2.1 e.1) → ∀ x ∈ m, (tupleKind (mixKind X.prog X.w)).is s.heap x.1 x.2.1 := by
    intro l m q
    induction q with
    | nil => intro _ x hx; exact nomatch hx
    | @cons e x es xs hq t ih =>
      intro hk y hy
      rcases List.mem_cons.mp hy with z | hy
      · subst z
        rw [← hq.1, ← hq.2.1]
        exact key_x I (hk e (List.mem_cons_self ..))
      · exact ih (fun e he => hk e (List.mem_cons_of_mem _ he)) y hy
  exact all r ks x hx
theorem dx_obj {P : Program} {w : World} {H' : Hp} {h' : Heap} (z : es.length ≤ sizeLine) (y : (d == sysModules) = false) {xs : List (List Key × Addr × Value)} (r : PX es xs) {o : Obj} {e' : Array DictEntry} {ep : Nat} (h1 : h'.get? d = some o) (h2 : o.ExactDict) (h3 : o.data = .dict e' ep)
    (h4 : e'.toList = xs.map (entryOfKey (tupleKind (mixKind P w)))) (h5 : (xs.map (·.1)).Nodup) : ObjOk P w H' h' d (dxO P w d es) :=
  ⟨⟨z, y, xs, r, o, e', ep, h1, h2, h3, h4, h5⟩, ⟨o, h1⟩, fun g1 g2 ⟨z, y, xs, r, o, e', ep, h1, h2, h3, h4, h5⟩ k => ⟨z, y, xs, r, o, e', ep, k o h1, h2, h3, h4, h5⟩⟩
/-- what the dict x holds at the key y -/
def XGet (P : Program) (w : World) (K : PySem.W.Frag) (H : Hp) (x y : V) (r : Option V) : Prop :=
  ∃ d b es p, x = .ref d ∧ y = .ref b ∧ Rd H d (dxO P w d es) ∧ Keys K H es ∧ PtAt K H b p ∧ r = getX es p
/-- the heap behind x[y] = v -/
def XPut (P : Program) (w : World) (K : PySem.W.Frag) (H : Hp) (x y v : V) (H' : Hp) : Prop :=
  ∃ d b es p, x = .ref d ∧ y = .ref b ∧ H d = some (dxO P w d es) ∧ Keys K H es ∧ PtAt K H b p ∧ es.length < sizeLine ∧ H' = upd H d (dxO P w d (putX es p b v))
variable {x y v : V} {u r k : Value} {o : Option V}
theorem x_getItem {Q : Value → Shared → Prop} (hu : A.units + 1 < cLine) (I : Inv X pins σ H s) (g : XGet X.prog X.w X.K H x y (some v)) (rx : RelV x u) (ry : RelV y k) (h : ∀ w' s', Inv X pins σ H s' → RelV v w' → Q w' s') :
    wpAny (model X.prog X.w) A (getItem u k) Q E s := by
  obtain ⟨d, b, es, p, rfl, rfl, rd, ks, hb, l⟩ := g
  cases (show u = Value.ref d from rx)
  cases (show k = Value.ref b from ry)
  obtain ⟨z, hd, xs, rel, dd⟩ := dx_heap I rd ks
  obtain ⟨w', hw, rw'⟩ := RelO.some_of (v := v) (o := (atKey xs (pk p)).map (·.2)) (by rw [l]; exact rel.val p)
  obtain ⟨q, hp, hp2⟩ := Option.map_eq_some_iff.mp hw
  refine wpAny_getItem_heap (tupleKind_room_in1 hu) (key_x I hb) dd hp ?_
  rw [hp2]
  exact h w' _ (I.tok _) rw'
theorem x_type (I : Inv X pins σ H s) (g : XGet X.prog X.w X.K H x y o) (rx : RelV x u) : s.TypeIs u "dict" ∧ ∀ b, u = .ref b → ∃ ob, s.heap.get? b = some ob ∧ ob.dict = none := by
  obtain ⟨d, b, es, p, rfl, rfl, rd, ks, hb, l⟩ := g
  cases (show u = Value.ref d from rx)
  obtain ⟨z, hd, xs, rel, dd⟩ := dx_heap I rd ks
  refine ⟨dd.typeIs, fun b q => ?_⟩
  cases q
  obtain ⟨ob, _, _, h1, h2, _⟩ := dd
  exact ⟨ob, h1, h2.2.1⟩
theorem x_in {Q : Value → Shared → Prop} (hu : A.units + 1 < cLine) (I : Inv X pins σ H s) (g : XGet X.prog X.w X.K H x y o) (rx : RelV x u) (ry : RelV y k) (h : ∀ s', Inv X pins σ H s' → Q (.bool o.isSome) s') :
    wpAny (model X.prog X.w) A (compareOp .In k u) Q E s := by
  obtain ⟨d, b, es, p, rfl, rfl, rd, ks, hb, l⟩ := g
  cases (show u = Value.ref d from rx)
  cases (show k = Value.ref b from ry)
  obtain ⟨z, hd, xs, rel, dd⟩ := dx_heap I rd ks
  refine wpAny_in_heap (tupleKind_room_in1 hu) (key_x I hb) hd dd ?_
  have q := (rel.val p).isSome_eq
  rw [Option.isSome_map] at q
  rw [← q, ← l]
  exact h _ (I.tok _)
theorem x_notIn {Q : Value → Shared → Prop} (hu : A.units + 1 < cLine) (I : Inv X pins σ H s) (g : XGet X.prog X.w X.K H x y o) (rx : RelV x u) (ry : RelV y k) (h : ∀ s', Inv X pins σ H s' → Q (.bool (!o.isSome)) s') :
    wpAny (model X.prog X.w) A (compareOp .NotIn k u) Q E s := by
  obtain ⟨d, b, es, p, rfl, rfl, rd, ks, hb, l⟩ := g
  cases (show u = Value.ref d from rx)
  cases (show k = Value.ref b from ry)
  obtain ⟨z, hd, xs, rel, dd⟩ := dx_heap I rd ks
  refine wpAny_notIn_heap (tupleKind_room_in1 hu) (key_x I hb) hd dd ?_
  have q := (rel.val p).isSome_eq
  rw [Option.isSome_map] at q
  rw [← q, ← l]
  exact h _ (I.tok _)
theorem x_get2 {z : V} {Q : Value → Shared → Prop} (hu : A.units + 1 < cLine) (I : Inv X pins σ H s) (g : XGet X.prog X.w X.K H x y o) (rx : RelV x u) (ry : RelV y k) (rz : RelV z r) (h : ∀ w' s', Inv X pins σ H s' → RelV (o.getD z) w' → Q w' s') :
    wpAny (model X.prog X.w) A (call (.builtin "dict.get") [u, k, r]) Q E s := by
  obtain ⟨d, b, es, p, rfl, rfl, rd, ks, hb, l⟩ := g
  cases (show u = Value.ref d from rx)
  cases (show k = Value.ref b from ry)
  obtain ⟨z, hd, xs, rel, dd⟩ := dx_heap I rd ks
  refine call_meetsIn PySem.F.slot_dict_get dd.typeIs PySem.F.entry_dict_get (PySem.F.args_dict_get_3 _ _ _) (meetsH_dict_get_default (tupleKind (mixKind X.prog X.w)) d b hd r) ⟨tupleKind_room_in1 hu, pk p, xs, key_x I hb, dd, h _ _ (I.tok _) ?_⟩
  rw [l]
  exact (rel.val p).getD rz
theorem x_setItem {H' : Hp} {Q : Unit → Shared → Prop} (hu : A.units + 1 < cLine) (I : Inv X pins σ H s) (g : XPut X.prog X.w X.K H x y v H') (rx : RelV x u) (ry : RelV y k) (rv : RelV v r) (h : ∀ s', Inv X pins σ H' s' → Q () s') :
    wpAny (model X.prog X.w) A (setItem u k r) Q E s := by
  obtain ⟨d, b, es, p, rfl, rfl, e, ks, hb, l, eH⟩ := g
  subst eH
  cases (show u = Value.ref d from rx)
  cases (show k = Value.ref b from ry)
  obtain ⟨z, hd, xs, rel, dd⟩ := dx_heap I (.inl e) ks
  have hz : xs.length ≤ sizeLine := by rw [← Paired.length rel]; exact z
  have hl : (putX es p b v).length ≤ sizeLine := by have := putX_len es p b v; omega
  refine wpAny_setItem_heap (hsz := hz) (tupleKind_room_in1 hu) (key_x I hb) dd fun h' dd' hs => h _ ?_
  obtain ⟨q, es', ep, hq, h2, h3, h4, _, h5⟩ := dd'
  exact d_write I (by rw [e]; exact True.intro) hs ⟨q, hq⟩ (dx_obj hl hd (rel.put p rv) hq h2 h3 h4 h5)
end
/-! ### rules -/
def tXGet (P : Program) (w : World) (K : PySem.W.Frag) (td ty : TE) : TE := fun σ H Q => td σ H fun x H1 => ty σ H1 fun y H2 => ∃ v, XGet P w K H2 x y (some v) ∧ Q v H2
def tXIn (P : Program) (w : World) (K : PySem.W.Frag) (ty td : TE) : TE := fun σ H Q => ty σ H fun y H1 => td σ H1 fun x H2 => ∃ o, XGet P w K H2 x y o ∧ Q (.bl o.isSome) H2
def tXNotIn (P : Program) (w : World) (K : PySem.W.Frag) (ty td : TE) : TE := fun σ H Q => ty σ H fun y H1 => td σ H1 fun x H2 => ∃ o, XGet P w K H2 x y o ∧ Q (.bl (!o.isSome)) H2
def sXPut (P : Program) (w : World) (K : PySem.W.Frag) (td ty tv : TE) : TS := fun D σ H => tv σ H fun v H1 => td σ H1 fun x H2 => ty σ H2 fun y H3 => ∃ H4, XPut P w K H3 x y v H4 ∧ D.nx σ H4
def tXGet2 (P : Program) (w : World) (K : PySem.W.Frag) (td ty tx : TE) : TE := fun σ H Q => td σ H fun x H1 => (∃ d es, x = .ref d ∧ Rd H1 d (dxO P w d es) ∧ Keys K H1 es) ∧ ty σ H1 fun y H2 => tx σ H2 fun z H3 => ∃ o, XGet P w K H3 x y o ∧ Q (o.getD z) H3
def tXNew (P : Program) (w : World) : TE := fun _ H Q => ∀ p, H p = none → Q (.ref p) (upd H p (dxO P w p []))
def tXDisp (P : Program) (w : World) (K : PySem.W.Frag) (tk tv : TE) : TE := fun σ H Q => ∀ d, H d = none → tk σ (upd H d (dxO P w d [])) fun y H1 => tv σ H1 fun z H2 => H2 d = some (dxO P w d []) ∧
  ∃ b p, y = .ref b ∧ PtAt K H2 b p ∧ Q (.ref d) (upd H2 d (dxO P w d [(p, b, z)]))
section
variable {X : Cx} {o i e value : Expr} {pos pos' tpos : Pos} {td ty tv : TE}
theorem pe_xget (hu : X.A.units + 1 < cLine) (ho : PE X o td) (hi : PE X i ty) (hs : NoSl i) : PE X (.Subscript o i pos) (tXGet X.prog X.w X.K td ty) := by
  refine ⟨fun pins s σ H Q I h => ?_⟩
  refine subD_of PySem.F.slot_dict_getitem.lookup hs (thn (ho.run pins s σ H _ I h) fun u s1 ⟨x, H1, I1, rx, q1⟩ => thn (hi.run pins s1 σ H1 _ I1 q1) fun iv s2 ⟨y, H2, I2, ry, v, g, q2⟩ => ?_)
  exact ⟨(x_type I2 g rx).1, x_getItem hu I2 g rx ry fun w' s3 I3 rw' => ⟨v, H2, I3, rw', q2⟩⟩
theorem pc_xin (hu : X.A.units + 1 < cLine) (hi : PE X i ty) (ho : PE X o td) : PC X .In i o (tXIn X.prog X.w X.K ty td) := by
  refine ⟨fun pins s σ H Q I h => ?_⟩
  refine thn (hi.run pins s σ H _ I h) fun iv s1 ⟨y, H1, I1, ry, q1⟩ => thn (ho.run pins s1 σ H1 _ I1 q1) fun u s2 ⟨x, H2, I2, rx, ov, g, q2⟩ => ?_
  exact x_in hu I2 g rx ry fun s3 I3 => ⟨.bl ov.isSome, H2, I3, rfl, q2⟩
theorem pc_xnotin (hu : X.A.units + 1 < cLine) (hi : PE X i ty) (ho : PE X o td) : PC X .NotIn i o (tXNotIn X.prog X.w X.K ty td) := by
  refine ⟨fun pins s σ H Q I h => ?_⟩
  refine thn (hi.run pins s σ H _ I h) fun iv s1 ⟨y, H1, I1, ry, q1⟩ => thn (ho.run pins s1 σ H1 _ I1 q1) fun u s2 ⟨x, H2, I2, rx, ov, g, q2⟩ => ?_
  exact x_notIn hu I2 g rx ry fun s3 I3 => ⟨.bl (!ov.isSome), H2, I3, rfl, q2⟩
theorem ps_xput (hu : X.A.units + 1 < cLine) (ho : PE X o td) (hi : PE X i ty) (hv : PE X value tv) (hs : swapsWith value (some (.Subscript o i pos')) pos.line X.env = pure false) :
    PS X (.Assign [.Subscript o i pos'] value pos) (sXPut X.prog X.w X.K td ty tv) := by
  refine ⟨fun pins s σ H D I h => ?_⟩
  refine wpAny_Assign_Subscript (thn (hv.run pins s σ H _ I h) fun r s1 ⟨v, H1, I1, rv, q1⟩ => thn (ho.run pins s1 σ H1 _ I1 q1) fun u s2 ⟨x, H2, I2, rx, q2⟩ => thn (hi.run pins s2 σ H2 _ I2 q2) fun iv s3 ⟨y, H3, I3, ry, H4, g, q3⟩ => ?_) hs
  exact x_setItem hu I3 g rx ry rv fun s4 I4 => ⟨σ, H4, I4, q3⟩
theorem dx_empty {P : Program} {w : World} {H : Hp} (h : Heap) (hb : sysModules < h.objs.size) : ObjOk P w H (h.push { cls := .type "dict", data := .dict #[] }) h.objs.size (dxO P w h.objs.size []) :=
  dx_obj (Nat.zero_le _) (beq_eq_false_iff_ne.mpr (Ne.symm (Nat.ne_of_lt hb))) .nil (Heap.get?_push_size _ rfl) ⟨rfl, rfl, rfl⟩ (e' := #[]) (ep := 0) rfl rfl List.nodup_nil
theorem pe_xnew : PE X (.Dict [] [] pos) (tXNew X.prog X.w) := ⟨fun pins s σ H Q I h =>
  wpAny_Dict_empty ⟨.ref s.heap.objs.size, _, I.laid (a := s.heap.objs.size) (o := dxO X.prog X.w s.heap.objs.size []) (t' := s.toks) (fun _ _ q => Heap.get?_push_of_some _ q) (Nat.le_refl _) (dx_empty s.heap I.big), rfl, h _ (I.hok.fresh (Nat.le_refl _))⟩⟩
theorem pe_xdisp {k v : Expr} {tk : TE} (hu : X.A.units + 1 < cLine) (hk : PE X k tk) (hv : PE X v tv) : PE X (.Dict [some k] [v] pos) (tXDisp X.prog X.w X.K tk tv) := by
  refine ⟨fun pins s σ H Q I h => ?_⟩
  have I1 := I.laid (a := s.heap.objs.size) (o := dxO X.prog X.w s.heap.objs.size []) (t' := s.toks) (fun _ _ q => Heap.get?_push_of_some _ q) (Nat.le_refl _) (dx_empty s.heap I.big)
  refine wpAny_Dict_any rfl rfl (by simp) (by show 1 ≤ 15; decide) ?_
  refine pairTrees_cons_walk (thn (hk.run pins _ σ _ _ I1 (h _ (I.hok.fresh (Nat.le_refl _)))) fun u s1 ⟨y, H1, I2, ry, q1⟩ => thn (hv.run pins s1 σ H1 _ I2 q1) fun w2 s2 ⟨z, H2, I3, rz, hd, b, p, ey, hb, q2⟩ => ?_)
  refine pairTrees_nil_walk ?_
  subst ey
  cases (show u = Value.ref b from ry)
  unfold storeAll
  rw [List.forIn_cons]
  obtain ⟨zz, hs, xs, rel, dd⟩ := dx_heap I3 (.inl hd) (fun e he => nomatch he)
  cases rel
  refine wpAny_bind (wpAny_bind (wpAny_dictSet_heap (hsz := Nat.zero_le _) (show (tupleKind (mixKind X.prog X.w)).room X.A from Nat.lt_of_le_of_lt (Nat.le_succ _) hu) (key_x I3 hb) dd fun h' dd' hs' => wpAny_pure ?_))
  simp only [List.forIn_nil]
  refine wpAny_pure ?_
  obtain ⟨q, es', ep, hq, h2, h3, h4, _, h5⟩ := dd'
  have r1 : PX [(p, b, z)] (storedH [] (pk p) b w2) := .cons ⟨rfl, rfl, rz⟩ .nil
  exact ⟨.ref s.heap.objs.size, _, d_write I3 (by rw [hd]; exact True.intro) hs' ⟨q, hq⟩ (dx_obj (by rw [sizeLine_eq]; show 1 ≤ 16777216; decide) hs r1 hq h2 h3 h4 h5), rfl, q2⟩
theorem pe_xget2 {f : Expr} {tx : TE} {apos cpos : Pos} (hu : X.A.units + 1 < cLine) (ho : PE X o td) (hi : PE X i ty) (hf : PE X f tx) (m : M2 X o "get" apos i f cpos) : PE X (.Call (.Attribute o "get" apos) [i, f] [] cpos) (tXGet2 X.prog X.w X.K td ty tx) := by
  refine ⟨fun pins s σ H Q I h => ?_⟩
  refine wpAny_Call_method m.base m.few m.line PySem.F.plainAttrs_dict PySem.F.slot_dict_get PySem.F.type_dict_get (thn (ho.run pins s σ H _ I h) fun u s1 ⟨x, H1, I1, rx, ⟨d, es, ex, rd, ks⟩, q1⟩ => ?_)
  subst ex
  obtain rfl : u = Value.ref d := rx
  obtain ⟨z, hd, xs, rel, dd⟩ := dx_heap I1 rd ks
  refine ⟨dd.typeIs, fun b q => ?_, ?_⟩
  · cases q
    obtain ⟨ob, _, _, h1, h2, _⟩ := dd
    exact ⟨ob, h1, h2.2.1⟩
  · rw [m.trees]
    refine Calls.callWith_builtin rfl (Calls.evalArgs_plain (Calls.spliced_cons (thn (hi.run pins s1 σ H1 _ I1 q1) fun iv s2 ⟨y, H2, I2, ry, q2⟩ =>
      Calls.spliced_cons (thn (hf.run pins s2 σ H2 _ I2 q2) fun fv s3 ⟨z, H3, I3, rz, ov, g, q3⟩ => Calls.spliced_nil ?_))))
    exact x_get2 hu I3 g rfl ry rz fun w' s4 I4 rw' => ⟨_, H3, I4, rw', q3⟩
/-- len(d) -/
def rXLen (P : Program) (w : World) (K : PySem.W.Frag) : List V → Hp → VK → Prop := fun xs H Q => ∃ (d : Addr) (es : List Ent), xs = [.ref d] ∧ Rd H d (dxO P w d es) ∧ Keys K H es ∧ Q (.int ((es.length : Nat) : Int)) H
theorem call_xlen : CallR X (.builtin "len") (rXLen X.prog X.w X.K) := by
  intro pins s σ H xs us Q I r h
  obtain ⟨d, es, rfl, rd, ks, q⟩ := h
  obtain ⟨u, rfl, rx⟩ := vals1 r
  obtain rfl : u = .ref d := rx
  obtain ⟨z, hd, ys, rel, dd⟩ := dx_heap I rd ks
  have hl : es.length = ys.length := Paired.length rel
  refine call_len_dictH hd dd (by rw [← hl]; rw [sizeLine_eq] at z; omega) ?_
  rw [← hl]
  exact ⟨.int ((es.length : Nat) : Int), H, I.tok _, ⟨_, rfl⟩, q⟩
end
/-! ### for k in d -/
/-- the keys of the locked dict at d, in their order -/
def Itx (P : Program) (w : World) (d : Addr) (o : Obj) (es : List Ent) : It :=
  ⟨fun i H => H d = some (.frz o (dxO P w d es)) ∧ i < es.length, fun i H x H' => H' = H ∧ ∃ e : Ent, es[i]? = some e ∧ x = .ref e.2.1, fun i H => H d = some (.frz o (dxO P w d es)) ∧ es.length ≤ i⟩
theorem frzX {X : Cx} {pins : List (Addr × Obj)} {σ : L2.St} {H : Hp} {s : Shared} {d : Addr} {o : Obj} {es : List Ent} (I : Inv X pins σ H s) (h : H d = some (.frz o (dxO X.prog X.w d es))) :
    (d == sysModules) = false ∧ s.heap.get? d = some o ∧ o.ExactDict ∧ ∃ (e' : Array DictEntry) (ep : Nat), o.data = .dict e' ep ∧ e'.size = es.length ∧
      ∀ (i : Nat) (e : Ent), es[i]? = some e → ∃ en : DictEntry, e'[i]? = some en ∧ en.key = .ref e.2.1 := by
  obtain ⟨hd, _⟩ := I.hok d _ h
  obtain ⟨z, hs, xs, pr, o', e', ep, ho, hx, hdt, he, _⟩ := dx_raw I (.inr ⟨o, h⟩)
  rw [hd] at ho
  cases ho
  refine ⟨hs, hd, hx, e', ep, hdt, ?_, fun i e q => ?_⟩
  · have l1 : e'.size = xs.length := size_of_entries he
    have l2 : es.length = xs.length := Paired.length pr
    omega
  · obtain ⟨b, hb, e1, e2, _⟩ := L2.paired_get pr q
    have q := entry_at he i
    rw [hb] at q
    exact ⟨_, q, by rw [e2]; rfl⟩
theorem turn_x {P : Program} {w : World} {K : PySem.W.Frag} {tg : Expr} {d : Addr} {o : Obj} {e' : Array DictEntry} {ep : Nat} {es : List Ent} (it : Addr) (hod : o.data = .dict e' ep) : Turn P w K tg (Itx P w d o es) [it] it (fun i h => h.IsKeyIter it d i es.length ep) where
  mem := by simp
  obj := fun i h st b hb => by
    have e : b = it := by simpa using hb
    subst e
    obtain ⟨oi, e, c, dd⟩ := st
    exact ⟨oi, e, fun v z => by rw [dd] at z; cases z⟩
  keep := fun i h h' st k => st.at fun oi e => k it (by simp) oi e
  item := by
    intro X hP hw hK hc i pins s σ H E I hf st hg
    subst hP hw hK
    obtain ⟨hd, hi⟩ := hg
    obtain ⟨f0, f1, f2, f3, f4, f5⟩ := hf it (by simp)
    obtain ⟨hs, hgd, hx, es', ep', hdt, hsz, ent⟩ := frzX I hd
    obtain ⟨rfl, rfl⟩ := dict_ep hod hdt
    have hkv : es[i]? = some es[i] := List.getElem?_eq_getElem hi
    obtain ⟨en, hen, hkey⟩ := ent i _ hkv
    refine next_key_item st hgd hdt hsz hen fun h' st' sb => ?_
    have I1 : Inv X pins σ H { s with heap := h' } := I.turned (t' := s.toks) (fun b ob hb e => (sb.2 b hb).trans e) f0 f1 f3 f4 f5
    obtain ⟨oi, e, c, dd⟩ := id st'
    exact ⟨en.key, rfl, go_of (s := { s with heap := h' }) e c dd (by decide) ⟨.ref es[i].2.1, H, I1, hkey, ⟨rfl, es[i], hkv, rfl⟩, st', fun b hb => (hf b hb).1⟩⟩
  done := by
    intro X hP hw hK hc i pins s σ H E I hf st hg
    subst hP hw hK
    obtain ⟨hd, hi⟩ := hg
    obtain ⟨f0, f1, f2, f3, f4, f5⟩ := hf it (by simp)
    obtain ⟨hs, hgd, hx, es', ep', hdt, hsz, ent⟩ := frzX I hd
    obtain ⟨rfl, rfl⟩ := dict_ep hod hdt
    exact next_key_end (I.ok.hd hc) st hgd hdt hsz hi fun h' eb => ⟨rfl, I.turned (t' := s.toks) (fun b ob hb e => eb b ob hb e) f0 f1 f3 f4 f5⟩
  self := fun A i s Q E st h => by
    refine wpAny_pyIter_slot st.typeIs F.slot_dict_keyiterator_iter (wpAny_call_entry F.slot_dict_keyiterator_iter st.typeIs F.entry_dict_keyiterator_iter ?_ (F.args_dict_keyiterator_iter_1 _))
    show wpAny _ _ (ret (.ref it)) _ _ s
    exact wpAny_pure ⟨_, rfl, "dict_keyiterator", _, st.typeIs, F.slot_dict_keyiterator_next.lookup, h⟩
def iXKeys (P : Program) (w : World) (td : TE) : TI := fun σ H R => td σ H fun x H1 => ∃ d o es, x = .ref d ∧ H1 d = some (.frz o (dxO P w d es)) ∧ R (Itx P w d o es) H1
theorem pi_xkeys {X : Cx} {tg e : Expr} {td : TE} (he : PE X e td) : PI X tg e (iXKeys X.prog X.w td) := by
  refine ⟨fun pins s σ H R I h => ?_⟩
  refine thn (he.run pins s σ H _ I h) fun u s1 ⟨x, H1, I1, rx, d, o, es, ex, hd, q⟩ => ?_
  subst ex
  obtain rfl : u = Value.ref d := rx
  obtain ⟨hs, hgd, hx, e', ep, hdt, hsz, ent⟩ := frzX I1 hd
  refine iter_keys hs hgd hx hdt (pi_one (tk := s1.toks) I1 _ (turn_x _ hdt) ⟨_, Heap.get?_push_size _ rfl, rfl, ?_⟩ q)
  rw [hsz] <;> rfl
theorem walk_x {P : Program} {w : World} {d : Addr} {o : Obj} {es : List Ent} : Walk (Itx P w d o es) es.length (fun H => H d = some (.frz o (dxO P w d es))) (fun i H x H' => H' = H ∧ ∃ e : Ent, es[i]? = some e ∧ x = .ref e.2.1) :=
  ⟨fun _ _ hi q => ⟨q, hi⟩, fun _ q => ⟨q, Nat.le_refl _⟩, fun _ _ _ _ _ _ y => y⟩
end Bf
set_option Elab.async false
set_option linter.all false
set_option maxRecDepth 100000
set_option maxHeartbeats 2000000
/-! BfE: enumerate(tuple); try with several clauses that bear a name; raise X(); a method that may raise, called in a try. -/
namespace Bf
open PySem PySem.Spec PyProof.Rows L2
/-! ### enumerate(tuple) -/
set_option maxHeartbeats 1000000 in
theorem enum_new1 {v : Value} {o : Obj} {H : Heap → Prop} (B : Begins v o H) :
    Meets (Builtin.«enumerate.__new__» ⟨[.type "enumerate", v], []⟩) (fun _ R s => H s.heap ∧
      R (.ok (.ret (.ref (s.heap.push o).objs.size))) { s with heap := (s.heap.push o).push { cls := .type "enumerate", data := .fields #[.none, .bool false, .ref s.heap.objs.size, rawInt 0, .none, .none] } }) :=
  .of_wp fun prog w A R s h => by
    obtain ⟨hp, g, d, tk, os⟩ := s; obtain ⟨h1, h⟩ := h
    have hsub := sub_enumerate
    have q1 : ∀ {A' : Around} {E : Value → Shared → Prop} {Q : Value → Shared → Prop}, Q (.ref hp.objs.size) ⟨hp.push o, g, d, tk, os⟩ → wpAny (model prog w) A' (pyIter v) Q E ⟨hp, g, d, tk, os⟩ :=
      fun q => B.iter prog w _ _ ⟨hp, g, d, tk, os⟩ _ h1 q
    wp_walk using q1
    refine wpAny_stack_any fun st => wpAny_pure ?_
    split
    · rename_i c _ _ _ _ _
      cases (c == Value.type "enumerate")
      · wp_walk using q1
        exact ⟨_, rfl, h⟩
      · wp_walk using q1
        exact ⟨_, rfl, h⟩
    · wp_walk using q1
      exact ⟨_, rfl, h⟩
theorem call_enum1 {prog : Program} {w : World} {A : Around} {E : Value → Shared → Prop} {s : Shared} {v : Value} {o : Obj} {H : Heap → Prop} {Q : Value → Shared → Prop} (B : Begins v o H) (h1 : H s.heap)
    (h : ∀ h', IsEnum h' (s.heap.objs.size + 1) s.heap.objs.size 0 .none → h'.get? s.heap.objs.size = some o → h'.objs.size = s.heap.objs.size + 2 →
      (∀ b o, s.heap.get? b = some o → h'.get? b = some o) → Q (.ref (s.heap.objs.size + 1)) { s with heap := h' }) :
    wpAny (model prog w) A (call (.type "enumerate") [v]) Q E s := by
  refine callType_new PySem.F.called_enumerate (by decide) (PySem.F.typeCall_enumerate_1 _) (PySem.F.newCall_enumerate_1 _) (fun obj => PySem.F.args_object_init_2 obj _) PySem.F.entry_enumerate_new
    (enum_new1 B) ⟨h1, ?_⟩
  have hz : (s.heap.push o).objs.size = s.heap.objs.size + 1 := Heap.size_push ..
  show _ ∧ _
  rw [hz]
  have he : IsEnum ((s.heap.push o).push { cls := .type "enumerate", data := .fields #[.none, .bool false, .ref s.heap.objs.size, rawInt 0, .none, .none] }) (s.heap.objs.size + 1) s.heap.objs.size 0 .none := by
    have := Heap.get?_push_size (s.heap.push o) (o := { cls := .type "enumerate", data := .fields #[.none, .bool false, .ref s.heap.objs.size, rawInt 0, .none, .none] }) rfl
    rw [hz] at this; exact this
  refine ⟨⟨_, he, rfl⟩, h _ he (Heap.get?_push_of_some _ (Heap.get?_push_size _ B.free)) (by rw [Heap.size_push, hz]) fun b o x => Heap.get?_push_of_some _ (Heap.get?_push_of_some _ x)⟩
/-- the places and the items of the tuple at a, each in a new pair -/
def IteT (K : PySem.W.Frag) (a : Addr) : It :=
  ⟨fun i H => ∃ xs x, SqT K H a xs ∧ xs[i]? = some x, fun i H v H' => ∃ T x, v = .ref T ∧ H T = none ∧ H' = upd H T (.tup [.int (i : Nat), x]) ∧ ∀ xs, SqT K H a xs → xs[i]? = some x, fun i H => ∃ xs, SqT K H a xs ∧ xs.length = i⟩
theorem turn_enumT {P : Program} {w : World} {K : PySem.W.Frag} {elts : List Expr} {kk : Nat} {tpos : Pos} (a e it : Addr) :
    Turn P w K (.Tuple elts kk tpos) (IteT K a) [e, it] e (fun i h => (∃ old, IsEnum h e it ((i : Nat) : Int) old) ∧ h.IsTupleIter it a i ∧ e ≠ it ∧ a ≠ it ∧ a ≠ e) where
  mem := by simp
  obj := fun i h st b hb => by
    obtain ⟨⟨old, he⟩, ⟨o, ho, hc, hd⟩, _⟩ := st
    have e' : b = e ∨ b = it := by simpa using hb
    rcases e' with z | z
    · rw [z]; exact ⟨_, he, fun v q => nomatch q⟩
    · rw [z]; exact ⟨o, ho, fun v q => by rw [hd] at q; cases q⟩
  keep := fun i h h' st k => let ⟨⟨old, he⟩, hi, hne⟩ := st; ⟨⟨old, k e (by simp) _ he⟩, hi.at fun o q => k it (by simp) o q, hne⟩
  item := by
    intro X hP hw hK hc i pins s σ H E I hf st hg
    subst hP hw hK
    obtain ⟨⟨old, he⟩, hit, hne, hai, hae⟩ := st
    obtain ⟨xs, x, hq, hx⟩ := hg
    obtain ⟨its, rv, p, hz⟩ := I.tuple hq
    obtain ⟨u, hu, ru⟩ := rv.get hx
    have hel : e < s.heap.objs.size := Heap.lt_size he
    have hil : it < s.heap.objs.size := by obtain ⟨_, q, _⟩ := hit; exact Heap.lt_size q
    have hlt : i < its.toArray.size := by
      rw [List.size_toArray]
      exact (List.getElem?_eq_some_iff.mp hu).1
    refine wpAny_pyNext_enum_itemD (Draws.tuple (A := X.A.in1) (I.ok.hd hc) it a hai its.toArray) he ⟨hit, p⟩ hlt hne (by simp; exact ⟨hne, Ne.symm hae⟩) fun y h' tk hy ho hit' hT hsz hk => ?_
    have ey : u = y := by
      have hy' : its[i]? = some y := by simpa using hy
      rw [hu] at hy'
      exact Option.some.inj hy'
    subst ey
    refine ⟨_, rfl, wpAny_letOwnedTupleGo_enum (s := { s with heap := h', toks := tk + 1 }) ho fun h'' he' sb => ?_⟩
    have hT2 : h''.get? s.heap.objs.size = some { cls := .type "tuple", data := .seq #[.int i tk, u] } := (sb.2 _ (Nat.ne_of_gt hel)).trans hT
    have new : ObjOk X.prog X.w (upd H s.heap.objs.size (.tup [.int (i : Nat), x])) h'' s.heap.objs.size (.tup [.int (i : Nat), x]) :=
      ⟨by show 2 ≤ sizeLine; decide, [.int i tk, u], .cons ⟨_, rfl⟩ (.cons ru .nil), ⟨_, hT2, rfl, _, rfl⟩⟩
    have I1 : Inv X pins σ (upd H s.heap.objs.size (.tup [.int (i : Nat), x])) { s with heap := h'', toks := tk + 1 } :=
      I.turnedNew (ch := [e, it]) (fun b ob hb q => (sb.2 b (fun z => hb (by simp [z]))).trans (hk b ob (fun z => hb (by simp [z])) (fun z => hb (by simp [z])) q)) hf (Nat.le_refl _) new
    refine ⟨.ref s.heap.objs.size, _, I1, rfl, ⟨_, x, rfl, I.hok.fresh (Nat.le_refl _), rfl, fun ys hy => by rw [I.tuple_inj hy hq]; exact hx⟩, ⟨⟨u, ?_⟩, hit'.1.at fun o q => (sb.2 it (Ne.symm hne)).trans q, hne, hai, hae⟩, fun b hb => ?_⟩
    · have e1 : ((i + 1 : Nat) : Int) = (i : Int) + 1 := by omega
      rw [e1]; exact he'
    · have hb' : b < s.heap.objs.size := by
        have e' : b = e ∨ b = it := by simpa using hb
        rcases e' with z | z
        · rw [z]; exact hel
        · rw [z]; exact hil
      rw [upd_ne (Nat.ne_of_lt hb')]
      exact (hf b hb).1
  done := by
    intro X hP hw hK hc i pins s σ H E I hf st hg
    subst hP hw hK
    obtain ⟨⟨old, he⟩, hit, hne, hai, hae⟩ := st
    obtain ⟨xs, hq, hx⟩ := hg
    obtain ⟨its, rv, p, hz⟩ := I.tuple hq
    obtain ⟨f0, f1, f2, f3, f4, f5⟩ := hf it (by simp)
    have hl := rv.length
    have hn : its.toArray.size = i := by rw [List.size_toArray]; omega
    have hst : s.heap.IsTupleIter it a its.toArray.size ∧ s.heap.IsTuple a its.toArray := ⟨by rw [hn]; exact hit, p⟩
    exact wpAny_pyNext_enum_endD (Draws.tuple (A := X.A.in1) (I.ok.hd hc) it a hai its.toArray) he hst fun h' eb => ⟨rfl, I.turned (t' := s.toks) (fun b o hb q => eb b o hb q) f0 f1 f3 f4 f5⟩
  self := fun A i s Q E st h => let ⟨⟨_, he⟩, _⟩ := st; wpAny_pyIter_enum he h
def iEnumT (K : PySem.W.Frag) (ta : TA) : TI := fun σ H R => ta σ H fun vs H1 => ∃ a xs, vs = [.ref a] ∧ SqT K H1 a xs ∧ R (IteT K a) H1
theorem pi_enumT {X : Cx} {e : Expr} {ta : TA} {p pos tpos : Pos} {elts : List Expr} {kk : Nat} (hg : Gl X "enumerate") (hm : X.mg "enumerate" = none) (ha : PA X [e] ta) (hs : starEach [e] X.env = [(false, eval e X.env)] := by rfl) :
    PI X (.Tuple elts kk tpos) (.Call (.Name "enumerate" p) [e] [] pos) (iEnumT X.K ta) := by
  refine ⟨fun pins s σ H R I h => ?_⟩
  refine Call_ (ld_blt I hg hm boot_enumerate (PyProof.Rows.callWith_type1 (thn (ha.run pos pins s σ H _ I h) fun us s1 ⟨vs, H1, I1, r1, q1⟩ => ?_) hs rfl))
  obtain ⟨a, xs, ex, hq, q⟩ := q1
  subst ex
  cases r1 with
  | cons r rr =>
    cases rr
    cases r
    obtain ⟨its, rv, p', hz⟩ := I1.tuple hq
    have al := p'.lt
    refine call_enum1 (begins_tuple a its.toArray) p' fun h' he hit hsz hk => wpAny_pyIter_enum he ?_
    have I2 : Inv X pins σ H1 { s1 with heap := h' } := I1.kept (t' := s1.toks) hk
    refine ⟨s1.heap.objs.size + 1, [s1.heap.objs.size + 1, s1.heap.objs.size], _, _, H1, rfl, I2, turn_enumT a (s1.heap.objs.size + 1) s1.heap.objs.size, ⟨⟨.none, he⟩, ⟨_, hit, rfl, rfl⟩, Nat.succ_ne_self _, Nat.ne_of_lt al, Nat.ne_of_lt (Nat.lt_succ_of_lt al)⟩, fun b hb => ?_, q⟩
    have e' : b = s1.heap.objs.size + 1 ∨ b = s1.heap.objs.size := by simpa using hb
    rcases e' with z | z
    · rw [z]; exact I1.fpOk (Nat.le_succ _) (I1.hok.fresh (Nat.le_succ _))
    · rw [z]; exact I1.fpOk (Nat.le_refl _) (I1.hok.fresh (Nat.le_refl _))
theorem walk_enumT {K : PySem.W.Frag} {a : Addr} {xs : List V} : L2.Walk (IteT K a) xs.length (fun H => SqT K H a xs) (YPair (fun i => some (.int (i : Nat))) (fun i => xs[i]?)) := by
  refine ⟨fun i _ hi q => ⟨xs, xs[i], q, by simp [hi]⟩, fun _ q => ⟨xs, q, rfl⟩, fun i H v H' _ q y => ?_⟩
  obtain ⟨T, x, h1, h2, h3, h4⟩ := y
  exact ⟨T, .int (i : Nat), x, h1, h2, h3, rfl, h4 xs q⟩

/-! ### X(), X an own exception class without own __init__ -/
theorem pmk_own0 {X : Cx} {C : Addr} {bmB : List Value} {B newId initId : String} {x : Str} {p pos : Pos} (F : ExcBaseFacts B newId initId bmB) (q : PySem.W.excIn X.K C bmB newId = true) (gC : X.mg x = some (.ref C))
    (kC : PySem.W.keepIn X.K (.ref C) = true) (r : Raises X (.ref C)) (hg : Gl X x) (hdb : (x == ("__debug__" : Str)) = false := by decide) :
    PMk X (.Call (.Name x p) [] [] pos) (fun _ H Q => Q (.ref C) none H) := by
  intro pins s σ H Q I h
  refine wpAny_Call_Name_kw (ld_glob I hg gC ?_ hdb)
  refine PySem.W.callWith_K0 I.kIn kC ?_
  show wpAny _ _ (call (.ref C) []) _ _ _
  obtain ⟨bm, N, nm, qn, bs, hdct, sn, sub, ab, col, dd, k0, k1, k2, k3, k5, mN, hC, hN, hni, T⟩ := exc_obj I.kIn q
  exact wpAny_call_exc_subT F T hC hN hni (fun h' e hm => mk_of I hm r h (I.hok.gone hm.new)) (Nat.zero_le _)

/-! ### a method that may raise -/
def tMethZ (C : Addr) (m : Str) (sp : Sp) (E : L2.St → XK) (ta : TE) (t : TA) : TE := fun σ H Q => ta σ H fun x H1 => ∃ a dx fs, x = .ref a ∧ H1 a = some (.ins C dx fs) ∧ fs.lookup m = none ∧
  t σ H1 fun vs H2 => sp (x :: vs) H2 Q (E σ)
theorem pe_methZ {X : Cx} {CX : CXT} {k : Nat} {f C : Addr} {fd : FuncData} {ps : List Str} {sp : Sp} {E : L2.St → XK} {m : Str} {pos apos : Pos} {e o : Expr} {es : List Expr} {ta : TE} {t : TA} {pl : Sem Bool} (he : PE X o ta) (c : Cls X.K C) (hm : Meth X.K C m f)
    (F : FnOk X.prog X.w X.K X.mg X.base CX k f fd ps sp) (hr : Room k X.A) (hb : Binds X.K fd ps []) (hx : ∀ σ, PassesAt CX X σ (E σ)) (ha : PA X (e :: es) t)
    (hst : starEach (e :: es) X.env = (false, eval e X.env) :: starEach es X.env := by rfl) (hpl : (backTo pos (starEach es X.env)).any (·.1) = false := by rfl)
    (ht : eval (.Call (.Attribute o m apos) (e :: es) [] pos) X.env = (do
      let ov ← eval o X.env
      standAt apos.atName
      let (f, first) ← holding [ov] (getMethod ov m pl)
      callWith pos f first (backTo pos (starEach (e :: es) X.env)) (backToKw pos (keywordEach [] X.env))) := by rfl) :
    PE X (.Call (.Attribute o m apos) (e :: es) [] pos) (tMethZ C m sp E ta t) := by
  refine ⟨fun pins s σ H Q I h => ?_⟩
  refine PySem.W.methodCall_KW (pl := pl) (thn (he.run pins s σ H _ I h) fun u s1 ⟨x, H1, I1, rx, a, dx, fs, ex, ea, l, q⟩ => ?_) ht
  subst ex
  obtain rfl : u = Value.ref a := rx
  refine getmeth_ok I1 ea c hm l ?_
  refine PySem.W.callWith_K (first := [.ref a]) (h₀ := X.base) I.ok.mod.kin hm.kp (thn (ha.run pos pins s1 σ H1 _ I1 q) fun us s2 ⟨vs, H2, I2, r, q2⟩ => ⟨I2.kIn, ?_⟩) hst hpl
  exact run_fnS (us := .ref a :: us) (vs := .ref a :: vs) F hr hb (hx σ) I2 (.cons rfl r) q2

/-! ### try: .. except X as n: .. except Y as n: .. -/
def wManyAs (K : PySem.W.Frag) (Wout : WX) (D : Ends) : List (Value × Nat × (Addr → Value → Option Addr → TS)) → WX
  | [] => Wout
  | (c, i, ts) :: r => fun cls d σ H => ∃ b, PySem.W.exmOne K cls c = some b ∧
      (b = true → ∀ a, H a = none → ts a cls d { nx := fun σ' H' => D.nx (σ'.set i none) H', rt := D.rt, bk := fun σ' H' => D.bk (σ'.set i none) H', ct := fun σ' H' => D.ct (σ'.set i none) H' } (σ.set i (some (.ref a))) H) ∧
      (b = false → wManyAs K Wout D r cls d σ H)
inductive HdsAs (X : Cx) : List ExceptHandler → List (Value × Nat × (Addr → Value → Option Addr → TS)) → Prop
  | nil : HdsAs X [] []
  | cons {x n : Str} {c : Value} {i : Nat} {ts : Addr → Value → Option Addr → TS} {b₀ : Stmt} {suite : List Stmt} {np pos' : Pos} {hds : List ExceptHandler} {l : List (Value × Nat × (Addr → Value → Option Addr → TS))} (hi : X.N[i]? = some n) (hln : X.env.kindOf n = some .local) (hc : Names X x c)
      (hsu : ∀ (a : Addr) (oe : Obj) (cls : Value) (d : Option Addr) (pn : List (Addr × Obj)), Zc cls d oe → (∃ vs, oe.data = .fields vs) → PSs (X.suite a ((a, oe) :: pn)) (b₀ :: suite) (ts a cls d)) (r : HdsAs X hds l) :
      HdsAs X (.ExceptHandler (some (.Name x np)) (some n) (b₀ :: suite) pos' :: hds) ((c, i, ts) :: l)
section
variable {X : Cx} {body : List Stmt} {h₀ : ExceptHandler} {hds : List ExceptHandler} {l : List (Value × Nat × (Addr → Value → Option Addr → TS))} {pos : Pos} {tb : WX → TS} {Wout : WX}
theorem ps_try_manyAs (hs : X.stack = X.env :: X.outer) (hf : X.env.frame = some X.env.locals) (hN : X.N.Nodup) (tk : Takes X Wout)
    (hb : ∀ (W : WX) (pn : List (Addr × Obj)) (xe : Value → Shared → Prop), Takes (X.tr pn xe) W → PassesOwn (model X.prog X.w) X.A X.env xe → PSs (X.tr pn xe) body (tb W))
    (hh : HdsAs X (h₀ :: hds) l) : PS X (.Try body (h₀ :: hds) [] [] pos) (fun D σ H => tb (wManyAs X.K Wout D l) D σ H) := by
  refine ⟨fun pins s σ H D I h => ?_⟩
  have ok := I.ok
  have hfr : X.A.frames = some (X.env :: X.outer) := by rw [ok.frames, hs]
  refine wpAny_Try_except ?_
  refine wpAny_mono ((hb (wManyAs X.K Wout D l) (X.pn ++ pins) (fun e s₁ => wpAny (model X.prog X.w) X.A (noteFrame e X.env) (fun _ s₂ => wpAny (model X.prog X.w) X.A (setFlight e none) (fun _ s₃ =>
    wpAny (model X.prog X.w) X.A (handleBy e X.env (h₀ :: hds)) (SP X pins D) X.xe s₃) X.xe s₂) X.xe s₁) (fun u s' xx => ?_) PassesOwn.looking).run [] s σ H D (I.toTry _) h) (fun f s1 hsp => ?_) (fun e s1 he => he)
  · -- the catch
    obtain ⟨a, B, sI, pins', σ', H', cls, d, rfl, J', nb, up, sky, na, os, ag, w⟩ := xx
    have J : Inv X pins σ' H' sI := J'.ofTry ok
    have sky' : Sky B (X.env :: X.outer) a (Zc cls d) X.env.locals s'.heap := by rw [← hs]; exact sky
    show wpAny (model X.prog X.w) X.A (noteFrame (.ref a) X.env) _ _ _
    refine Sky.land Zc.steady hfr hf sky' fun h3 fl3 up3 => ?_
    have J3 : Inv X pins σ' H' { s' with heap := h3 } := J.landed nb fl3.1 (up.trans up3) os ag
    obtain ⟨oe3, vs3, he3, hz3, hd3⟩ := fl3.there
    have notFr : ∀ {h : Heap} {o : Obj} {vs : Array Value}, h.FunFrames B (X.env :: X.outer) → h.get? a = some o → o.data = .fields vs → a ∉ frs (X.env :: X.outer) := fun {h o vs} ff e dd hm => by
      obtain ⟨_, o', e', hnf⟩ := ff.mem hm
      rw [e] at e'; cases e'
      exact hnf _ dd
    have nfr := notFr fl3.2.2.1 he3 hd3
    have nL : a ≠ X.env.locals := fun z => nfr (List.mem_filterMap.mpr ⟨X.env, List.mem_cons_self, by rw [hf, z]⟩)
    have nF : a ∉ X.fs := fun hm => by
      obtain ⟨e, he, q⟩ := List.mem_filterMap.mp hm
      exact nfr (List.mem_filterMap.mpr ⟨e, List.mem_cons_of_mem _ he, q⟩)
    have S3 := J3.suite he3 hd3 na nL nF
    have go : ∀ {hds' : List ExceptHandler} {l' : List (Value × Nat × (Addr → Value → Option Addr → TS))}, HdsAs X hds' l' → wManyAs X.K Wout D l' cls d σ' H' →
        wpAny (model X.prog X.w) X.A (handleBy (.ref a) X.env hds') (SP X pins D) X.xe { s' with heap := h3 } := by
      intro hds' l' hk
      induction hk with
      | nil =>
        intro w
        refine wpAny_handleBy_nil ?_
        obtain ⟨k1, k2, k3, oe, vs, T, oT, ts', he, hz, hd, h1, hr⟩ := id fl3
        unfold PySem.passOn
        refine wpAny_bind (wpAny_field he hd h1 ?_)
        rw [if_neg (show ¬ ((Value.ref T == Value.none) = true) from by simp)]
        have fin : wpAny (model X.prog X.w) X.A (setFlight (.ref a) X.env.frame) (fun _ s4 => wpAny (model X.prog X.w) X.A (throw (.ref a) : Sem Flow) (SP X pins D) X.xe s4) X.xe { s' with heap := h3 } := by
          rw [hf]
          refine HandSPX.setFlight_upZ fl3 fun h4 hh4 up4 => wpAny_throw (tk _ _ ?_)
          exact ⟨a, B, sI, pins, σ', H', cls, d, rfl, J, nb, (up.trans up3).trans up4, .inr (.inr (by rw [hs]; exact hh4)), na, os, ag, w⟩
        first
          | exact wpAny_bind (wpAny_pure (wpAny_bind fin))
          | exact wpAny_bind fin
      | @cons x n c i ts b₀ suite np pos' hds2 l2 hi hln hc hsu r ih =>
        intro w
        obtain ⟨b, hb1, hyes, hno⟩ := w
        have hloc : Loc X.env.scope n := .inl hln
        refine wpAny_handleBy_cons (codeAny_handlers_test ?_) (by intro q; cases q)
        have LT : PySem.W.Looks (model X.prog X.w) h3 (typeOf (.ref a)) cls := fun A Q E s k q => wpAny_typeOf_ref (k _ _ he3) (by rw [hz3.1]; exact q)
        have LM := PySem.W.exm_one (M := model X.prog X.w) (J3.kIn) LT hb1
        have test : ∀ {Q : Value → Shared → Prop} {E : Value → Shared → Prop}, Q c { s' with heap := h3 } → wpAny (model X.prog X.w) (X.A.mark (some (.ref a))) (eval (.Name x np) X.env) Q E { s' with heap := h3 } := fun {Q E} q => by
          obtain ⟨hg, hdbg, hm | ⟨hm, hv, hnn⟩⟩ := hc
          · exact ld_glob (X := X.suite a ((a, oe3) :: (X.pn ++ pins))) S3 hg hm q hdbg
          · exact ld_blt (X := X.suite a ((a, oe3) :: (X.pn ++ pins))) S3 hg hm hv q hnn hdbg
        refine test (LM.here ?_)
        cases b with
        | true =>
          refine codeAny_handlers_suite_as ?_
          refine HandSPX.lands_againZ fl3 fun h4 fl4 up4 => ?_
          have J4 : Inv X pins σ' H' { s' with heap := h4 } := J.landed nb fl4.1 ((up.trans up3).trans up4) os ag
          obtain ⟨oe4, vs4, he4, hz4, hd4⟩ := fl4.there
          have S4 := J4.suite he4 hd4 na nL nF
          refine store_ok (X := X.suite a ((a, oe4) :: (X.pn ++ pins))) (v := .ref a) S4 hN hi hloc rfl (fun s5 S5 => ?_) (.inr hln)
          refine wpAny_mono ((hsu a oe4 cls d (X.pn ++ pins) hz4 ⟨_, hd4⟩).run [] s5 _ H' _ S5 (hyes rfl a na)) (fun f s6 hsp => ?_) (fun _ _ z => False.elim z)
          have end_ : ∀ {σ6 : L2.St} {H6 : Hp} {Q : Shared → Prop}, Inv (X.suite a ((a, oe4) :: (X.pn ++ pins))) [] σ6 H6 s6 → (∀ s7, Inv X pins (σ6.set i none) H6 s7 → Q s7) →
              wpAny (model X.prog X.w) X.A (do bindName X.env n .none; unbindBehindTheSuite X.env n pos') (fun _ s7 => Q s7) X.xe s6 := fun {σ6 H6 Q} S6 hq => gone_ok (S6.unsuite ok) hN hi hln hq
          cases f with
          | next =>
            obtain ⟨σ6, H6, S6, q6⟩ := hsp
            exact end_ S6 fun s7 J7 => ⟨_, _, J7, q6⟩
          | brk =>
            obtain ⟨σ6, H6, S6, q6⟩ := hsp
            exact end_ S6 fun s7 J7 => ⟨_, _, J7, q6⟩
          | cont =>
            obtain ⟨σ6, H6, S6, q6⟩ := hsp
            exact end_ S6 fun s7 J7 => ⟨_, _, J7, q6⟩
          | ret u =>
            obtain ⟨v6, σ6, H6, S6, r6, q6⟩ := hsp
            exact end_ S6 fun s7 J7 => ⟨_, _, _, J7, r6, q6⟩
        | false =>
          show wpAny _ X.A (handleBy (.ref a) X.env hds2) _ _ _
          exact ih (hno rfl)
    exact go hh w
  · cases f with
    | next =>
      obtain ⟨σ', H', J', q⟩ := hsp
      exact wpAny_execs_nil ⟨σ', H', J'.ofTry ok, q⟩
    | brk =>
      obtain ⟨σ', H', J', q⟩ := hsp
      exact ⟨σ', H', J'.ofTry ok, q⟩
    | cont =>
      obtain ⟨σ', H', J', q⟩ := hsp
      exact ⟨σ', H', J'.ofTry ok, q⟩
    | ret u =>
      obtain ⟨v, σ', H', J', r, q⟩ := hsp
      exact ⟨v, σ', H', J'.ofTry ok, r, q⟩
end
/-- isinstance(error, c), the error's class told by the reading -/
def rIsE2 (K : PySem.W.Frag) (cls : Value) (d : Option Addr) (a : Addr) : List V → Hp → VK → Prop := fun xs H Q => ∃ (D : Addr) (c : V) (cv : Value) (b : Bool), cls = .ref D ∧ d = none ∧ ExcC K D ∧ xs = [.ref a, c] ∧ (∀ u, RelV c u → u = cv) ∧ PySem.W.kitOne K (.ref D) cv = some b ∧ Q (.bl b) H
theorem call_isE2 {X : Cx} {a : Addr} {oe : Obj} {cls : Value} {d : Option Addr} {pn : List (Addr × Obj)} (hz : Zc cls d oe) (hf : ∃ vs, oe.data = .fields vs) : CallR (X.suite a ((a, oe) :: pn)) (.builtin "isinstance") (rIsE2 X.K cls d a) := by
  intro pins s σ H xs us Q I r h
  obtain ⟨D, c, cv, b, rfl, rfl, C, e, hcv, k, q⟩ := h
  exact call_isE C hz hf pins s σ H xs us Q I r ⟨c, cv, b, e, hcv, k, q⟩
end Bf
set_option Elab.async false
set_option linter.all false
set_option maxRecDepth 100000
/-! BfT: the text by places; the data as they lie in the heap. -/
namespace Bf
open PySem PySem.Spec PyProof.Rows L2
def top (i : Nat) : Stmt := PySem.Challenge.pw_butfewrows_k12_whole_benches.main.body.getD i (.Pass ⟨0, 0, 0, 0⟩)
/-- a def of the module as it stands behind the top -/
structure DefAt (K : PySem.W.Frag) (mg : Str → Option Value) (x : Str) (st : Stmt) (ps : List Str) (f : Addr) (fd : FuncData) : Prop where
  fn : Fun K x x st f fd
  b : Binds K fd ps []
  mg : mg x = some (.ref f)
/-- a method of a class -/
structure MethAt (K : PySem.W.Frag) (C : Addr) (m qual : Str) (st : Stmt) (ps : List Str) (f : Addr) (fd : FuncData) : Prop where
  fn : Fun K m qual st f fd
  b : Binds K fd ps []
  mt : Meth K C m f
/-- names that are the built-in ones -/
structure Bl (mg : Str → Option Value) : Prop where
  isinstance : mg "isinstance" = none
  int : mg "int" = none
  bool : mg "bool" = none
  str : mg "str" = none
  tuple : mg "tuple" = none
  list : mg "list" = none
  len : mg "len" = none
  enumerate : mg "enumerate" = none
  all : mg "all" = none
  any : mg "any" = none
  sum : mg "sum" = none
  max : mg "max" = none
  min : mg "min" = none
  zip : mg "zip" = none
  sorted : mg "sorted" = none
  range : mg "range" = none
theorem b_isinstance : bootBuiltins "isinstance" = some (.builtin "isinstance") := by decide +kernel
theorem b_int : bootBuiltins "int" = some (.type "int") := by decide +kernel
theorem b_bool : bootBuiltins "bool" = some (.type "bool") := by decide +kernel
theorem b_str : bootBuiltins "str" = some (.type "str") := by decide +kernel
theorem b_tuple : bootBuiltins "tuple" = some (.type "tuple") := by decide +kernel
theorem b_list : bootBuiltins "list" = some (.type "list") := by decide +kernel
theorem b_len : bootBuiltins "len" = some (.builtin "len") := by decide +kernel
theorem b_all : bootBuiltins "all" = some (.builtin "all") := by decide +kernel
theorem b_any : bootBuiltins "any" = some (.builtin "any") := by decide +kernel
theorem b_sum : bootBuiltins "sum" = some (.builtin "sum") := by decide +kernel
theorem b_max : bootBuiltins "max" = some (.builtin "max") := by decide +kernel
theorem b_min : bootBuiltins "min" = some (.builtin "min") := by decide +kernel
theorem b_sorted : bootBuiltins "sorted" = some (.builtin "sorted") := by decide +kernel
theorem nonever {P : Prop} (h : False) : P := h.elim
theorem two_line : 2 ≤ sizeLine := by decide
/-! ### the data -/
def vi (n : Nat) : V := V.int (n : Int)
structure Mac where
  st : List (List Nat)
  gd : List Nat
  deriving DecidableEq
structure Mac.Ok (m : Mac) (L : Nat) : Prop where
  n1 : 1 ≤ m.st.length
  n8 : m.st.length ≤ 8
  l1 : 1 ≤ L
  l3 : L ≤ 3
  row : ∀ r ∈ m.st, r.length = L ∧ ∀ x ∈ r, x < m.st.length
  up : m.gd.Pairwise (· < ·)
  gd : ∀ x ∈ m.gd, x < m.st.length
/-- rows at addresses -/
def RowsAt (H : Hp) (as : List Addr) (ss : List (List Nat)) : Prop := as.length = ss.length ∧ ∀ (i : Nat) (a : Addr) (r : List Nat), as[i]? = some a → ss[i]? = some r → H a = some (.tup (r.map vi))
def StepsAt (H : Hp) (a : Addr) (ss : List (List Nat)) : Prop := ∃ as, H a = some (.tup (as.map V.ref)) ∧ RowsAt H as ss
def GoodAt (H : Hp) (a : Addr) (g : List Nat) : Prop := H a = some (.tup (g.map vi))
/-- (steps, good) at a -/
def PartsAt (H : Hp) (a : Addr) (m : Mac) : Prop := ∃ s g, H a = some (.tup [.ref s, .ref g]) ∧ StepsAt H s m.st ∧ GoodAt H g m.gd
/-- a Machine at p -/
def MacAt (C : Addr) (H : Hp) (p : Addr) (m : Mac) : Prop := ∃ dx pp, H p = some (.ins C dx [("parts", .ref pp)]) ∧ PartsAt H pp m
/-- a Bench at p, the addresses of its machines -/
def BenchAt (CB CM : Addr) (H : Hp) (p : Addr) (ms : List Mac) : Prop := ∃ (dx t : Addr) (qs : List Addr), H p = some (.ins CB dx [("past", .ref t)]) ∧ H t = some (.tup (qs.map V.ref)) ∧ qs.length = ms.length ∧ ∀ (i : Nat) (q : Addr) (m : Mac), qs[i]? = some q → ms[i]? = some m → MacAt CM H q m
/-- what never changes -/
def Imm (CB : Addr) : HO → Prop
  | .tup _ => True
  | .ins C _ _ => C ≠ CB
  | _ => False
/-- what never changes stays -/
def Stay (CB : Addr) (H H' : Hp) : Prop := ∀ b o, Imm CB o → H b = some o → H' b = some o
theorem Stay.refl {CB : Addr} (H : Hp) : Stay CB H H := fun _ _ _ h => h
theorem Stay.trans {CB : Addr} {H H1 H2 : Hp} (a : Stay CB H H1) (b : Stay CB H1 H2) : Stay CB H H2 := fun c o i h => b c o i (a c o i h)
theorem _root_.L2.Same.stay {CB : Addr} {H H' : Hp} (s : Same H H') : Stay CB H H' := fun b o _ h => s b o h
section
variable {CB CM : Addr} {H H' : Hp} {a p : Addr}
theorem RowsAt.stay {as : List Addr} {ss : List (List Nat)} (h : RowsAt H as ss) (s : Stay CB H H') : RowsAt H' as ss := ⟨h.1, fun i a r e1 e2 => s a _ True.intro (h.2 i a r e1 e2)⟩
theorem StepsAt.stay {ss : List (List Nat)} (h : StepsAt H a ss) (s : Stay CB H H') : StepsAt H' a ss := let ⟨as, e, r⟩ := h; ⟨as, s a _ True.intro e, r.stay s⟩
theorem GoodAt.stay {g : List Nat} (h : GoodAt H a g) (s : Stay CB H H') : GoodAt H' a g := s a _ True.intro h
theorem PartsAt.stay {m : Mac} (h : PartsAt H a m) (s : Stay CB H H') : PartsAt H' a m := let ⟨st, g, e, h1, h2⟩ := h; ⟨st, g, s a _ True.intro e, h1.stay s, h2.stay s⟩
theorem MacAt.stay {m : Mac} (h : MacAt CM H p m) (hc : CM ≠ CB) (s : Stay CB H H') : MacAt CM H' p m := let ⟨dx, pp, e, h1⟩ := h; ⟨dx, pp, s p _ hc e, h1.stay s⟩
theorem RowsAt.same {as : List Addr} {ss : List (List Nat)} (h : RowsAt H as ss) (s : Same H H') : RowsAt H' as ss := ⟨h.1, fun i a r e1 e2 => s a _ (h.2 i a r e1 e2)⟩
theorem StepsAt.same {ss : List (List Nat)} (h : StepsAt H a ss) (s : Same H H') : StepsAt H' a ss := let ⟨as, e, r⟩ := h; ⟨as, s a _ e, r.same s⟩
theorem PartsAt.same {m : Mac} (h : PartsAt H a m) (s : Same H H') : PartsAt H' a m := let ⟨st, g, e, h1, h2⟩ := h; ⟨st, g, s a _ e, h1.same s, s g _ h2⟩
theorem MacAt.same {m : Mac} (h : MacAt CM H p m) (s : Same H H') : MacAt CM H' p m := let ⟨dx, pp, e, h1⟩ := h; ⟨dx, pp, s p _ e, h1.same s⟩
end
/-- a new object leaves all as it was -/
theorem same_new {H : Hp} {p : Addr} {o : HO} (n : H p = none) : Same H (upd H p o) := fun b u e => by rw [upd_ne (ne_of_none e n)]; exact e
/-- one that was made since, and is changed -/
theorem same_upd {H H1 : Hp} {p : Addr} {o : HO} (s : Same H H1) (n : H p = none) : Same H (upd H1 p o) := fun b u e => by rw [upd_ne (ne_of_none e n)]; exact s b u e
theorem Same.none {H H1 : Hp} {p : Addr} (s : Same H H1) (n : H1 p = Option.none) : H p = Option.none := s.free n
theorem tyes {σ : L2.St} {H : Hp} {A B : Hp → Prop} (h : A H) : tYes σ H (fun b H3 => if b = true then A H3 else B H3) := by
  show if true = true then A H else B H
  rw [if_pos rfl]
  exact h
/-! ### rules whose reading names the written part itself (for blocks of comprehensions) -/
def rLen (K : PySem.W.Frag) : List V → Hp → VK → Prop := fun xs H Q => ∃ p ys, xs = [.ref p] ∧ (SqL K H p ys ∨ SqT K H p ys) ∧ Q (.int ys.length) H
theorem c_len {X : Cx} {K : PySem.W.Frag} (hK : X.K = K := by rfl) : CallR X (.builtin "len") (rLen K) := by
  subst hK
  exact call_len_seq
theorem i_tup {X : Cx} {K : PySem.W.Frag} (hK : X.K = K := by rfl) : IxR X (rIxT K) := by
  subst hK
  exact ix_tup
theorem i_list {X : Cx} {K : PySem.W.Frag} (hK : X.K = K := by rfl) : IxR X (rIxL K) := by
  subst hK
  exact ix_list
theorem c_isi {X : Cx} {K : PySem.W.Frag} (hK : X.K = K := by rfl) : CallR X (.builtin "isinstance") (rIsi K) := by
  subst hK
  exact call_isi
section
variable {X : Cx} {P : Program} {w : World} {K : PySem.W.Frag} {o i : Expr} {pos : Pos} {td ty : TE}
theorem e_xget (hu : X.A.units + 1 < cLine) (ho : PE X o td) (hi : PE X i ty) (hs : NoSl i) (hP : X.prog = P := by rfl) (hw : X.w = w := by rfl) (hK : X.K = K := by rfl) : PE X (.Subscript o i pos) (tXGet P w K td ty) := by
  subst hP hw hK
  exact pe_xget hu ho hi hs
theorem c_xin (hu : X.A.units + 1 < cLine) (hi : PE X i ty) (ho : PE X o td) (hP : X.prog = P := by rfl) (hw : X.w = w := by rfl) (hK : X.K = K := by rfl) : PC X .In i o (tXIn P w K ty td) := by
  subst hP hw hK
  exact pc_xin hu hi ho
theorem c_xnotin (hu : X.A.units + 1 < cLine) (hi : PE X i ty) (ho : PE X o td) (hP : X.prog = P := by rfl) (hw : X.w = w := by rfl) (hK : X.K = K := by rfl) : PC X .NotIn i o (tXNotIn P w K ty td) := by
  subst hP hw hK
  exact pc_xnotin hu hi ho
end
end Bf
set_option Elab.async false
set_option linter.all false
set_option maxRecDepth 100000
set_option maxHeartbeats 4000000
/-! BfP1: butfewrows/machines. -/
namespace Bf
open PySem PySem.Spec PyProof.Rows L2
abbrev sIsInt : Stmt := top 10
abbrev nIsInt : List Str := ["thing", "low", "high"]
theorem scIsInt : FnScope nIsInt nIsInt (defScope sIsInt) := ⟨rfl, rfl, rfl, by decide +kernel, rfl, by decide +kernel, by decide +kernel⟩
/-- an integer in a range -/
def isI : V → Int → Int → Bool
  | .int i, lo, hi => decide (lo ≤ i) && decide (i ≤ hi)
  | _, _, _ => false
def Flat : V → Bool
  | .int _ => true
  | .bl _ => true
  | .non => true
  | .str _ => true
  | _ => false
def spIsInt : Sp := fun vs H Q _ => ∃ x lo hi, vs = [x, .int lo, .int hi] ∧ Flat x = true ∧ Q (.bl (isI x lo hi)) H
section
variable {P : Program} {w : World} {K : PySem.W.Frag} {mg : Str → Option Value} {base : Heap}
theorem kb_int_int : kitB "int" "int" = some true := by decide +kernel
theorem kb_int_bool : kitB "int" "bool" = some false := by decide +kernel
theorem kb_bool_int : kitB "bool" "int" = some true := by decide +kernel
theorem kb_bool_bool : kitB "bool" "bool" = some true := by decide +kernel
theorem kb_non_int : kitB "NoneType" "int" = some false := by decide +kernel
theorem kb_str_int : kitB "str" "int" = some false := by decide +kernel
theorem ok_isInt {f : Addr} {fd : FuncData} (F : DefAt K mg "is_integer" sIsInt nIsInt f fd) (B : Bl mg) : FnOk P w K mg base CX0 1 f fd nIsInt spIsInt := by
  refine F.fn.ok scIsInt (fun vs H Q E h => ?_) (fun cdv A outer s H vs Q E hr h => ?_)
  · obtain ⟨x, lo, hi, rfl, _⟩ := h
    rfl
  · obtain ⟨x, lo, hi, rfl, hx, k⟩ := h
    refine ⟨_, pss_one (ps_ret (pe_and (pe_callB call_isi (by rfl) B.isinstance b_isinstance (pa_cons (pv 0) (pa_cons (pe_bltn (v := .ty "int") (by rfl) B.int b_int rfl) pa_nil)))
      (pe_and (pe_not (pe_callB call_isi (by rfl) B.isinstance b_isinstance (pa_cons (pv 0) (pa_cons (pe_bltn (v := .ty "bool") (by rfl) B.bool b_bool rfl) pa_nil))))
        (pe_one (pe_chain op_le op_le (pv 1) (pv 0) (pv 2)))))), ?_⟩
    cases x with
    | int i =>
      refine ⟨_, rfl, _, _, _, _, true, rfl, .ty "int", .base (.int i), kit_ty kb_int_int, _, rfl, iteT ?_⟩
      refine ⟨_, rfl, _, _, _, _, false, rfl, .ty "bool", .base (.int i), kit_ty kb_int_bool, _, rfl, _, rfl, iteT ?_⟩
      refine ⟨_, rfl, _, rfl, _, _, rfl, rfl, _, rfl, ?_⟩
      by_cases h1 : lo ≤ i
      · rw [decide_eq_true h1]
        refine iteT ⟨_, rfl, _, _, rfl, rfl, ?_⟩
        have e : isI (.int i) lo hi = decide (i ≤ hi) := by show (decide (lo ≤ i) && decide (i ≤ hi)) = _; rw [decide_eq_true h1]; rfl
        show Q (.bl (decide (i ≤ hi))) H
        rw [← e]
        exact k
      · rw [decide_eq_false h1]
        refine iteF ?_
        have e : isI (.int i) lo hi = false := by show (decide (lo ≤ i) && decide (i ≤ hi)) = _; rw [decide_eq_false h1]; rfl
        show Q (.bl false) H
        rw [← e]
        exact k
    | bl b =>
      refine ⟨_, rfl, _, _, _, _, true, rfl, .ty "int", .base (.bl b), kit_ty kb_bool_int, _, rfl, iteT ?_⟩
      refine ⟨_, rfl, _, _, _, _, true, rfl, .ty "bool", .base (.bl b), kit_ty kb_bool_bool, _, rfl, _, rfl, iteF k⟩
    | non => exact ⟨_, rfl, _, _, _, _, false, rfl, .ty "int", .base .non, kit_ty kb_non_int, _, rfl, iteF k⟩
    | str z => exact ⟨_, rfl, _, _, _, _, false, rfl, .ty "int", .base (.str z), kit_ty kb_str_int, _, rfl, iteF k⟩
    | byt _ => cases hx
    | flt _ => cases hx
    | ref _ => cases hx
    | ty _ => cases hx

theorem kb_tup_tup : kitB "tuple" "tuple" = some true := by decide +kernel
theorem isI_vi {n : Nat} {lo hi : Int} (h1 : lo ≤ n) (h2 : (n : Int) ≤ hi) : isI (vi n) lo hi = true := by
  show (decide (lo ≤ (n : Int)) && decide ((n : Int) ≤ hi)) = true
  rw [decide_eq_true h1, decide_eq_true h2]
  rfl
abbrev sCheckSteps : Stmt := top 11
abbrev nCheckSteps : List Str := ["thing", "index", "row", "stand"]
theorem scCheckSteps : FnScope nCheckSteps ["thing"] (defScope sCheckSteps) := ⟨rfl, rfl, rfl, by decide +kernel, rfl, by decide +kernel, by decide +kernel⟩
/-- steps as they must be -/
structure OkSteps (ss : List (List Nat)) (L : Nat) : Prop where
  n1 : 1 ≤ ss.length
  n8 : ss.length ≤ 8
  l1 : 1 ≤ L
  l3 : L ≤ 3
  row : ∀ r ∈ ss, r.length = L ∧ ∀ x ∈ r, x < ss.length
theorem Mac.Ok.steps {m : Mac} {L : Nat} (h : m.Ok L) : OkSteps m.st L := ⟨h.n1, h.n8, h.l1, h.l3, h.row⟩
def spCheckSteps : Sp := fun vs H Q _ => ∃ a ss L, vs = [.ref a] ∧ StepsAt H a ss ∧ OkSteps ss L ∧ ∀ H', Same H H' → Q .non H'
theorem map_get {α β : Type} {f : α → β} {l : List α} {i : Nat} {y : β} (h : (l.map f)[i]? = some y) : ∃ x, l[i]? = some x ∧ y = f x := by
  rw [List.getElem?_map] at h
  obtain ⟨x, h1, h2⟩ := Option.map_eq_some_iff.mp h
  exact ⟨x, h1, h2.symm⟩
theorem ok_checkSteps {f f1 : Addr} {fd fd1 : FuncData} (F : DefAt K mg "check_steps" sCheckSteps ["thing"] f fd) (F1 : DefAt K mg "is_integer" sIsInt nIsInt f1 fd1) (B : Bl mg) {t1 t2 : Tok} (hS : mg "MOST_STANDS" = some (.int 8 t1)) (hL : mg "MOST_LETTERS" = some (.int 3 t2)) :
    FnOk P w K mg base CX0 2 f fd ["thing"] spCheckSteps := by
  refine F.fn.ok scCheckSteps (fun vs H Q E h => ?_) (fun cdv A outer s H vs Q E hr h => ?_)
  · obtain ⟨a, ss, L, rfl, _⟩ := h
    rfl
  · obtain ⟨a, ss, L, rfl, ⟨as, ha, hl, hrow⟩, ok, k⟩ := h
    have G1 : FnOk P w K mg base CX0 1 f1 fd1 nIsInt spIsInt := ok_isInt F1 B
    refine ⟨_, pss_cons (ps_if (PW.pt (pw_or (pt_not (pt_val (pe_callB call_isi (by rfl) B.isinstance b_isinstance (pa_cons (pv 0) (pa_cons (pe_bltn (v := .ty "tuple") (by rfl) B.tuple b_tuple rfl) pa_nil)))))
        (pw_or1 (pt_not (pt_chain op_le op_le pe_int (pe_callB c_len (by rfl) B.len b_len (pa_cons (pv 0) pa_nil)) (pe_glob (v := .int 8) (by rfl) hS ⟨_, rfl⟩)))))) (pss_one ps_never) pss_nil)
      (pss_one (ps_for PassesOwn.never rfl (pi_enumT (by rfl) B.enumerate (pa_cons (pv 0) pa_nil))
        (pg_tup rfl (pgs_cons (pg_name (i := 1) scCheckSteps.nd rfl (.inl rfl)) (pgs_cons (pg_name (i := 2) scCheckSteps.nd rfl (.inl rfl)) pgs_nil)))
        (pss_cons (ps_if (PW.pt (pw_or (pt_not (pt_val (pe_callB call_isi (by rfl) B.isinstance b_isinstance (pa_cons (pv 2) (pa_cons (pe_bltn (v := .ty "tuple") (by rfl) B.tuple b_tuple rfl) pa_nil)))))
            (pw_or (pt_not (pt_chain op_le op_le pe_int (pe_callB c_len (by rfl) B.len b_len (pa_cons (pv 2) pa_nil)) (pe_glob (v := .int 3) (by rfl) hL ⟨_, rfl⟩)))
            (pw_or1 (pt_cmpR op_ne (pe_callB c_len (by rfl) B.len b_len (pa_cons (pv 2) pa_nil)) (pe_callB c_len (by rfl) B.len b_len (pa_cons (pe_ix i_tup (pv 0) pe_int (fun _ _ => rfl)) pa_nil)) (nomark _)))))) (pss_one ps_never) pss_nil)
        (pss_one (ps_if (pt_not (pt_val (pe_callB (cr_all rfl) (by rfl) B.all b_all (pa_cons
            (pe_lc (own := [("stand", 3)]) (g := gName 3) (tt := tYes) rfl scCheckSteps.nd (pi_tup (pv 2)) (blkOk_by (N := nCheckSteps) (sc := defScope sCheckSteps) (by decide +kernel)) (fun _ _ _ _ _ => pg_name (i := 3) scCheckSteps.nd rfl (Or.inl rfl)) (fun _ _ _ _ _ => pts_nil)
              (fun _ _ _ _ _ => pe_call G1 hr (by rfl) F1.mg F1.fn.kp F1.b .nil pass0 (pa_cons (pv 3) (pa_cons pe_int (pa_cons (pe_op op_sub (pe_callB c_len (by rfl) B.len b_len (pa_cons (pv 0) pa_nil)) pe_int) pa_nil))))) pa_nil)))) (pss_one ps_never) pss_nil))))), ?_⟩
    have hlen : (as.map V.ref).length = ss.length := by rw [List.length_map]; exact hl
    refine ⟨_, rfl, _, _, _, _, true, rfl, .ty "tuple", .base (.tup ha), kit_ty kb_tup_tup, _, rfl, iteF ?_⟩
    refine ⟨_, rfl, _, _, rfl, .inr (SqT.of ha), _, _, rfl, rfl, _, rfl, ?_⟩
    rw [hlen]
    have n1 := ok.n1
    have n8 := ok.n8
    rw [decide_eq_true (show (1 : Int) ≤ (ss.length : Nat) by omega)]
    refine iteT ⟨_, _, rfl, rfl, _, rfl, ?_⟩
    rw [decide_eq_true (show ((ss.length : Nat) : Int) ≤ 8 by omega)]
    refine iteF ?_
    refine ⟨_, rfl, a, as.map V.ref, rfl, SqT.of ha, for_it walk_enumT (fun _ σ H2 => ∃ v1 v2 v3, σ = [some (.ref a), v1, v2, v3] ∧ Same H H2) ⟨none, none, none, rfl, Same.refl _⟩ (fun _ _ _ _ ⟨_, _, _, _, s2⟩ => SqT.of (s2 _ _ ha)) ?_ ?_⟩
    · rintro i x σ H2 H3 hi ⟨v1, v2, v3, rfl, s2⟩ ⟨T, x, y, rfl, nT, rfl, ex, ey⟩
      cases ex
      obtain ⟨b, hb, rfl⟩ := map_get ey
      have hlt : i < ss.length := by rw [hlen] at hi; exact hi
      have hr1 : ss[i]? = some ss[i] := List.getElem?_eq_getElem hlt
      have hbH := hrow i b _ hb hr1
      obtain ⟨hrl, hrx⟩ := ok.row ss[i] (List.getElem_mem hlt)
      have s3 : Same H (upd H2 T (.tup [.int (i : Nat), .ref b])) := s2.trans (same_new nT)
      have ha3 := s3 _ _ ha
      have hb3 := s3 _ _ hbH
      refine ⟨T, _, rfl, SqT.of upd_same, rfl, _, _, rfl, _, _, rfl, rfl, ?_⟩
      refine ⟨_, rfl, _, _, _, _, true, rfl, .ty "tuple", .base (.tup hb3), kit_ty kb_tup_tup, _, rfl, iteF ?_⟩
      refine ⟨_, rfl, _, _, rfl, .inr (SqT.of hb3), _, _, rfl, rfl, _, rfl, ?_⟩
      rw [List.length_map, hrl]
      have l1 := ok.l1
      have l3 := ok.l3
      rw [decide_eq_true (show (1 : Int) ≤ (L : Nat) by omega)]
      refine iteT ⟨_, _, rfl, rfl, _, rfl, ?_⟩
      rw [decide_eq_true (show ((L : Nat) : Int) ≤ 3 by omega)]
      refine iteF ?_
      have h0 : 0 < ss.length := ok.n1
      obtain ⟨b0, hb0⟩ : ∃ b0, as[0]? = some b0 := ⟨as[0]'(by omega), List.getElem?_eq_getElem (by omega)⟩
      have hr0 : ss[0]? = some ss[0] := List.getElem?_eq_getElem h0
      have hbH0 := s3 _ _ (hrow 0 b0 _ hb0 hr0)
      obtain ⟨hrl0, _⟩ := ok.row ss[0] (List.getElem_mem h0)
      refine ⟨_, rfl, _, _, rfl, .inr (SqT.of hb3), _, rfl, _, _, _, _, rfl, rfl, SqT.of ha3, atI_nat (by rw [List.getElem?_map, hb0]; rfl), _, _, rfl, .inr (SqT.of hbH0), rfl, _, rfl, ?_⟩
      rw [List.length_map, List.length_map, hrl, hrl0]
      refine iteNS rfl ?_
      refine ⟨_, rfl, b, rfl, ⟨_, SqT.of hb3⟩, fun D nD => lc_tup (K := K) (a := b) (xs := ss[i].map vi) (fun j H4 => H4 D = some (.lst ((List.replicate j true).map V.bl)) ∧ Same H H4)
        ⟨upd_same, same_upd s3 (s3.free nD)⟩ (fun _ _ _ ⟨_, s4⟩ => SqT.of (s4 _ _ hbH)) ?_ ?_⟩
      · rintro j x H4 hx ⟨hD, s4⟩
        obtain ⟨n, hn, rfl⟩ := map_get hx
        have hnlt : n < ss.length := hrx n (List.mem_of_getElem? hn)
        have hjlt : j < L := by
          have := (List.getElem?_eq_some_iff.mp hn).1
          omega
        refine ⟨rfl, ?_⟩
        refine tyes ?_
        refine ⟨_, rfl, _, rfl, _, _, rfl, .inr (SqT.of (s4 _ _ ha)), _, _, rfl, rfl, vi n, 0, _, rfl, rfl, ?_⟩
        rw [isI_vi (Int.natCast_nonneg n) (by rw [hlen]; omega)]
        refine ⟨_, hD, small1000 (by rw [List.length_map, List.length_replicate]; omega), ?_, same_upd s4 (s3.free nD)⟩
        rw [upd_same, List.replicate_succ', List.map_append]
        rfl
      · rintro H4 ⟨hD, s4⟩
        refine ⟨D, List.replicate _ true, rfl, SqL.of hD, _, rfl, ?_⟩
        have e : (List.replicate (ss[i].map vi).length true).all id = true := by rw [List.all_eq_true]; intro x hx; rw [List.eq_of_mem_replicate hx]; rfl
        rw [e]
        refine iteF ?_
        exact ⟨_, _, _, rfl, s4⟩
    · rintro σ H2 ⟨v1, v2, v3, rfl, s2⟩
      exact k H2 s2

abbrev sCheckGood : Stmt := top 12
abbrev nCheckGood : List Str := ["thing", "stands", "last", "stand"]
theorem scCheckGood : FnScope nCheckGood ["thing", "stands"] (defScope sCheckGood) := ⟨rfl, rfl, rfl, by decide +kernel, rfl, by decide +kernel, by decide +kernel⟩
def spCheckGood : Sp := fun vs H Q _ => ∃ a g n, vs = [.ref a, vi n] ∧ GoodAt H a g ∧ g.Pairwise (· < ·) ∧ (∀ x ∈ g, x < n) ∧ Q .non H
theorem ok_checkGood {f f1 : Addr} {fd fd1 : FuncData} (F : DefAt K mg "check_good" sCheckGood ["thing", "stands"] f fd) (F1 : DefAt K mg "is_integer" sIsInt nIsInt f1 fd1) (B : Bl mg) :
    FnOk P w K mg base CX0 2 f fd ["thing", "stands"] spCheckGood := by
  refine F.fn.ok scCheckGood (fun vs H Q E h => ?_) (fun cdv A outer s H vs Q E hr h => ?_)
  · obtain ⟨a, g, n, rfl, _⟩ := h
    rfl
  · obtain ⟨a, g, n, rfl, ha, hp, hb, k⟩ := h
    have ha : H a = some (.tup (g.map vi)) := ha
    have G1 : FnOk P w K mg base CX0 1 f1 fd1 nIsInt spIsInt := ok_isInt F1 B
    refine ⟨_, pss_cons (ps_if (pt_not (pt_val (pe_callB call_isi (by rfl) B.isinstance b_isinstance (pa_cons (pv 0) (pa_cons (pe_bltn (v := .ty "tuple") (by rfl) B.tuple b_tuple rfl) pa_nil))))) (pss_one ps_never) pss_nil)
      (pss_cons (ps_set (i := 2) scCheckGood.nd rfl (.inl rfl) (pe_un un_neg pe_int))
      (pss_one (ps_for PassesOwn.never rfl (pi_tup (pv 0)) (pg_name (i := 3) scCheckGood.nd rfl (.inl rfl))
        (pss_cons (ps_if (pt_not (pt_val (pe_call G1 hr (by rfl) F1.mg F1.fn.kp F1.b .nil pass0 (pa_cons (pv 3) (pa_cons (pe_op op_add (pv 2) pe_int) (pa_cons (pe_op op_sub (pv 1) pe_int) pa_nil)))))) (pss_one ps_never) pss_nil)
        (pss_one (ps_set (i := 2) scCheckGood.nd rfl (.inl rfl) (pv 3))))))), ?_⟩
    refine ⟨_, rfl, _, _, _, _, true, rfl, .ty "tuple", .base (.tup ha), kit_ty kb_tup_tup, _, rfl, iteF ?_⟩
    refine ⟨_, rfl, ?_⟩
    refine ⟨_, rfl, a, rfl, ⟨_, SqT.of ha⟩, for_tup (K := K) (a := a) (xs := g.map vi) (fun i σ H2 => ∃ (l : Int) (v3 : Option V), σ = [some (.ref a), some (vi n), some (.int l), v3] ∧ (∀ (j x : Nat), i ≤ j → g[j]? = some x → l < (x : Int)) ∧ (-1 ≤ l) ∧ H2 = H)
      ⟨-1, none, rfl, fun j x _ _ => by omega, by omega, rfl⟩ (fun _ _ _ _ ⟨_, _, _, _, _, e⟩ => by rw [e]; exact SqT.of ha) ?_ ?_⟩
    · rintro i x σ H2 hx ⟨l, v3, rfl, hl, hl1, rfl⟩
      obtain ⟨y, hy, rfl⟩ := map_get hx
      have hyn := hb y (List.mem_of_getElem? hy)
      have hly := hl i y (Nat.le_refl _) hy
      refine ⟨_, rfl, _, rfl, _, _, rfl, rfl, _, rfl, _, _, rfl, rfl, vi y, l + 1, (n : Int) - 1, rfl, rfl, _, rfl, ?_⟩
      rw [isI_vi (by omega) (by omega)]
      refine iteF ?_
      refine ⟨_, rfl, (y : Int), _, rfl, fun j x hj hx => ?_, by omega, rfl⟩
      have hpw := List.pairwise_iff_getElem.mp hp
      obtain ⟨h1, e1⟩ := List.getElem?_eq_some_iff.mp hy
      obtain ⟨h2, e2⟩ := List.getElem?_eq_some_iff.mp hx
      have := hpw i j h1 h2 (by omega)
      rw [e1, e2] at this
      omega
    · rintro σ H2 ⟨l, v3, rfl, _, _, rfl⟩
      exact k

/-! ### Machine -/
structure MacC (K : PySem.W.Frag) (mg : Str → Option Value) (C : Addr) : Prop where
  cl : Cls K C
  nP : NoAttr K C "parts"
  mg : mg "Machine" = some (.ref C)
abbrev sMInit : Stmt := inClass (top 13) 0
abbrev nMInit : List Str := ["self", "steps", "good"]
theorem scMInit : FnScope nMInit nMInit (defScope sMInit) := ⟨rfl, rfl, rfl, by decide +kernel, rfl, by decide +kernel, by decide +kernel⟩
def spMInit (C : Addr) : Sp := fun vs H Q _ => ∃ p dx s g m L, vs = [.ref p, .ref s, .ref g] ∧ H p = some (.ins C dx []) ∧ StepsAt H s m.st ∧ GoodAt H g m.gd ∧ Mac.Ok m L ∧
  ∀ H', (∀ b o, H b = some o → b ≠ p → H' b = some o) → MacAt C H' p m → Q .non H'
theorem ok_mInit {f f1 f2 f3 C : Addr} {fd fd1 fd2 fd3 : FuncData} (F : Fun K "__init__" "Machine.__init__" sMInit f fd) (T : MacC K mg C) (F1 : DefAt K mg "is_integer" sIsInt nIsInt f1 fd1)
    (F2 : DefAt K mg "check_steps" sCheckSteps ["thing"] f2 fd2) (F3 : DefAt K mg "check_good" sCheckGood ["thing", "stands"] f3 fd3) (B : Bl mg) {t1 t2 : Tok} (hS : mg "MOST_STANDS" = some (.int 8 t1)) (hL : mg "MOST_LETTERS" = some (.int 3 t2)) :
    FnOk P w K mg base CX0 3 f fd nMInit (spMInit C) := by
  refine F.ok scMInit (fun vs H Q E h => ?_) (fun cdv A outer s H vs Q E hr h => ?_)
  · obtain ⟨p, dx, s, g, m, L, rfl, _⟩ := h
    rfl
  · obtain ⟨p, dx, st, g, m, L, rfl, hp, ⟨as, has, hrow⟩, hg, ok, k⟩ := h
    have G2 : FnOk P w K mg base CX0 2 f2 fd2 ["thing"] spCheckSteps := ok_checkSteps F2 F1 B hS hL
    have G3 : FnOk P w K mg base CX0 2 f3 fd3 ["thing", "stands"] spCheckGood := ok_checkGood F3 F1 B
    refine ⟨_, pss_cons (ps_expr (pe_call G2 hr (by rfl) F2.mg F2.fn.kp F2.b .nil pass0 (pa_cons (pv 1) pa_nil)))
      (pss_cons (ps_expr (pe_call G3 hr (by rfl) F3.mg F3.fn.kp F3.b .nil pass0 (pa_cons (pv 2) (pa_cons (pe_callB c_len (by rfl) B.len b_len (pa_cons (pv 1) pa_nil)) pa_nil))))
      (pss_one (ps_fld (pv 0) (pe_tup (pa_cons (pv 1) (pa_cons (pv 2) pa_nil))) rfl))), ?_⟩
    refine ⟨_, rfl, st, m.st, L, rfl, ⟨as, has, hrow⟩, ok.steps, fun H1 s1 => ?_⟩
    have hg1 : GoodAt H1 g m.gd := s1 _ _ hg
    have e1 : (as.map V.ref).length = m.st.length := by rw [List.length_map]; exact hrow.1
    refine ⟨_, rfl, _, rfl, _, _, rfl, .inr (SqT.of (s1 _ _ has)), g, m.gd, m.st.length, by rw [e1]; rfl, hg1, ok.up, ok.gd, ?_⟩
    refine ⟨_, rfl, _, rfl, two_line, fun t nt => ?_⟩
    have hp1 := s1 _ _ hp
    have npt : p ≠ t := ne_of_none hp1 nt
    refine ⟨_, rfl, p, C, dx, [], rfl, (by rw [upd_ne npt]; exact hp1), T.cl, T.nP, (by show 0 < 1000; decide), ?_⟩
    have kp : ∀ b o, H b = some o → b ≠ p → (upd (upd H1 t (.tup [.ref st, .ref g])) p (.ins C dx (putF "parts" (.ref t) []))) b = some o := fun b o e ne => by
      rw [upd_ne ne, upd_ne (ne_of_none (s1 _ _ e) nt)]
      exact s1 _ _ e
    have np : ∀ b xs, H b = some (.tup xs) → b ≠ p := fun b xs e => ne_of e hp (fun z => nomatch z)
    refine k _ kp ⟨dx, t, upd_same, st, g, by rw [upd_ne npt.symm, upd_same], ⟨as, kp _ _ has (np _ _ has), hrow.1, fun i a r q1 q2 => ?_⟩, kp _ _ hg (np _ _ hg)⟩
    have := hrow.2 i a r q1 q2
    exact kp _ _ this (np _ _ this)
/-- the reading of Machine(steps, good) -/
theorem made_mac {C : Addr} {H1 : Hp} {x dx st g : Addr} {m : Mac} {L : Nat} {Q : VK} (nx : H1 x = none) (nd : H1 dx = none) (hst : StepsAt H1 st m.st) (hg : GoodAt H1 g m.gd) (ok : Mac.Ok m L) (E : XK)
    (k : ∀ H', Same H1 H' → MacAt C H' x m → Q (.ref x) H') : spMInit C (.ref x :: ([.ref st, .ref g] ++ [])) (upd (upd H1 dx (.own x)) x (.ins C dx [])) (fun v H2 => v = .non ∧ Q (.ref x) H2) E := by
  have s1 : Same H1 (upd (upd H1 dx (.own x)) x (.ins C dx [])) := same_upd (same_new nd) nx
  refine ⟨x, dx, st, g, m, L, rfl, upd_same, hst.same s1, s1 _ _ hg, ok, fun H' kp hm => ⟨rfl, k H' (fun b o e => kp b o (s1 _ _ e) (ne_of_none e nx)) hm⟩⟩
/-! ### its properties -/
abbrev sMSteps : Stmt := inClass (top 13) 1
abbrev sMGood : Stmt := inClass (top 13) 2
theorem scMSteps : FnScope ["self"] ["self"] (defScope sMSteps) := ⟨rfl, rfl, rfl, by decide +kernel, rfl, by decide +kernel, by decide +kernel⟩
theorem scMGood : FnScope ["self"] ["self"] (defScope sMGood) := ⟨rfl, rfl, rfl, by decide +kernel, rfl, by decide +kernel, by decide +kernel⟩
def spMSteps (C : Addr) : Sp := fun vs H Q _ => ∃ p m, vs = [.ref p] ∧ MacAt C H p m ∧ ∀ a, StepsAt H a m.st → Q (.ref a) H
def spMGood (C : Addr) : Sp := fun vs H Q _ => ∃ p m, vs = [.ref p] ∧ MacAt C H p m ∧ ∀ a, GoodAt H a m.gd → Q (.ref a) H
theorem ok_mSteps {f C : Addr} {fd : FuncData} (F : Fun K "steps" "Machine.steps" sMSteps f fd) (T : MacC K mg C) : FnOk P w K mg base CX0 1 f fd ["self"] (spMSteps C) := by
  refine F.ok scMSteps (fun vs H Q E h => ?_) (fun cdv A outer s H vs Q E hr h => ?_)
  · obtain ⟨p, m, rfl, _⟩ := h
    rfl
  · obtain ⟨p, m, rfl, ⟨dx, pp, hp, st, g, hpp, hst, hg⟩, k⟩ := h
    refine ⟨_, pss_one (ps_ret (pe_ix ix_tup (pe_fld (pv 0) rfl) pe_int (fun _ _ => rfl))), ?_⟩
    exact ⟨_, rfl, p, C, dx, _, _, rfl, hp, T.cl, T.nP, rfl, _, _, _, _, rfl, rfl, SqT.of hpp, atI_nat (j := 0) rfl, k st hst⟩
theorem ok_mGood {f C : Addr} {fd : FuncData} (F : Fun K "good" "Machine.good" sMGood f fd) (T : MacC K mg C) : FnOk P w K mg base CX0 1 f fd ["self"] (spMGood C) := by
  refine F.ok scMGood (fun vs H Q E h => ?_) (fun cdv A outer s H vs Q E hr h => ?_)
  · obtain ⟨p, m, rfl, _⟩ := h
    rfl
  · obtain ⟨p, m, rfl, ⟨dx, pp, hp, st, g, hpp, hst, hg⟩, k⟩ := h
    refine ⟨_, pss_one (ps_ret (pe_ix ix_tup (pe_fld (pv 0) rfl) pe_int (fun _ _ => rfl))), ?_⟩
    exact ⟨_, rfl, p, C, dx, _, _, rfl, hp, T.cl, T.nP, rfl, _, _, _, _, rfl, rfl, SqT.of hpp, atI_nat (j := 1) rfl, k g hg⟩
/-! ### errors -/
structure ExcF (K : PySem.W.Frag) (mg : Str → Option Value) (x : Str) (C : Addr) : Prop where
  ex : PySem.W.excIn K C [.type "ValueError", .type "Exception", .type "BaseException", .type "object"] "ValueError.__new__" = true
  mg : mg x = some (.ref C)
  kp : PySem.W.keepIn K (.ref C) = true
  sb : PySem.W.subIn K (.ref C) (.type "BaseException") = some true
  ty : PySem.W.typeIn K (.ref C) = some (.type "type")
abbrev sCheckStand : Stmt := top 14
abbrev nCheckStand : List Str := ["machine", "thing"]
theorem scCheckStand : FnScope nCheckStand nCheckStand (defScope sCheckStand) := ⟨rfl, rfl, rfl, by decide +kernel, rfl, by decide +kernel, by decide +kernel⟩
def spCheckStand (C CX : Addr) : Sp := fun vs H Q E => ∃ p x m, vs = [.ref p, x] ∧ MacAt C H p m ∧ Flat x = true ∧ (isI x 0 ((m.st.length : Int) - 1) = true → Q .non H) ∧ (isI x 0 ((m.st.length : Int) - 1) = false → E (.ref CX) none H)
theorem ok_checkStand {f f1 C CS : Addr} {fd fd1 : FuncData} (F : DefAt K mg "check_stand" sCheckStand nCheckStand f fd) (F1 : DefAt K mg "is_integer" sIsInt nIsInt f1 fd1) (T : MacC K mg C) (S : ExcF K mg "BadStand" CS) (B : Bl mg) :
    FnOk P w K mg base (L2.CX P w) 2 f fd nCheckStand (spCheckStand C CS) := by
  refine F.fn.okX scCheckStand (fun vs H Q E h => ?_) (fun cdv A outer s H vs Q E hr h => ?_)
  · obtain ⟨p, x, m, rfl, _⟩ := h
    rfl
  · obtain ⟨p, x, m, rfl, ⟨dx, pp, hp, st, g, hpp, ⟨as, has, hrow⟩, hg⟩, fx, k1, k2⟩ := h
    have G1 : FnOk P w K mg base CX0 1 f1 fd1 nIsInt spIsInt := ok_isInt F1 B
    refine ⟨_, pss_one (ps_if (pt_not (pt_val (pe_call G1 hr (by rfl) F1.mg F1.fn.kp F1.b .nil pass0 (pa_cons (pv 1) (pa_cons pe_int (pa_cons (pe_op op_sub (pe_callB c_len (by rfl) B.len b_len (pa_cons (pe_ix ix_tup (pe_fld (pv 0) rfl) pe_int (fun _ _ => rfl)) pa_nil)) pe_int) pa_nil))))))
      (pss_one (ps_raise rfl (takes_of rfl rfl rfl rfl) (pmk_own0 PySem.F.excBase_ValueError S.ex S.mg S.kp (raises_own S.sb S.ty) (by rfl)))) pss_nil), ?_⟩
    have e1 : (as.map V.ref).length = m.st.length := by rw [List.length_map]; exact hrow.1
    refine ⟨_, rfl, _, rfl, p, C, dx, _, _, rfl, hp, T.cl, T.nP, rfl, _, _, _, _, rfl, rfl, SqT.of hpp, atI_nat (j := 0) rfl, _, _, rfl, .inr (SqT.of has), _, _, rfl, rfl, x, 0, _, rfl, fx, _, rfl, ?_⟩
    rw [e1]
    cases e : isI x 0 ((m.st.length : Int) - 1) with
    | true => exact iteF (k1 e)
    | false => exact iteT (k2 e)
abbrev sCheckPair : Stmt := top 15
abbrev nCheckPair : List Str := ["one", "other"]
theorem scCheckPair : FnScope nCheckPair nCheckPair (defScope sCheckPair) := ⟨rfl, rfl, rfl, by decide +kernel, rfl, by decide +kernel, by decide +kernel⟩
def spCheckPair (C : Addr) : Sp := fun vs H Q _ => ∃ p q m k L, vs = [.ref p, .ref q] ∧ MacAt C H p m ∧ MacAt C H q k ∧ m.Ok L ∧ k.Ok L ∧ Q .non H
theorem row0 {H : Hp} {as : List Addr} {m : Mac} {L : Nat} (h : RowsAt H as m.st) (ok : m.Ok L) : ∃ b r, as[0]? = some b ∧ m.st[0]? = some r ∧ H b = some (.tup (r.map vi)) ∧ r.length = L := by
  have h0 : 0 < m.st.length := ok.n1
  have h1 : 0 < as.length := by rw [h.1]; exact h0
  exact ⟨as[0], m.st[0], List.getElem?_eq_getElem h1, List.getElem?_eq_getElem h0, h.2 0 _ _ (List.getElem?_eq_getElem h1) (List.getElem?_eq_getElem h0), (ok.row _ (List.getElem_mem h0)).1⟩
theorem ok_checkPair {f C : Addr} {fd : FuncData} (F : DefAt K mg "check_pair" sCheckPair nCheckPair f fd) (T : MacC K mg C) (B : Bl mg) : FnOk P w K mg base CX0 1 f fd nCheckPair (spCheckPair C) := by
  refine F.fn.ok scCheckPair (fun vs H Q E h => ?_) (fun cdv A outer s H vs Q E hr h => ?_)
  · obtain ⟨p, q, m, k, L, rfl, _⟩ := h
    rfl
  · obtain ⟨p, q, m, n, L, rfl, ⟨dx, pp, hp, st, g, hpp, ⟨as, has, hrow⟩, hg⟩, ⟨dx2, pp2, hp2, st2, g2, hpp2, ⟨as2, has2, hrow2⟩, hg2⟩, ok1, ok2, k⟩ := h
    refine ⟨_, pss_one (ps_if (pt_cmpR op_ne (pe_callB c_len (by rfl) B.len b_len (pa_cons (pe_ix ix_tup (pe_ix ix_tup (pe_fld (pv 0) rfl) pe_int (fun _ _ => rfl)) pe_int (fun _ _ => rfl)) pa_nil))
      (pe_callB c_len (by rfl) B.len b_len (pa_cons (pe_ix ix_tup (pe_ix ix_tup (pe_fld (pv 1) rfl) pe_int (fun _ _ => rfl)) pe_int (fun _ _ => rfl)) pa_nil)) (nomark _)) (pss_one ps_never) pss_nil), ?_⟩
    obtain ⟨b, r, hb, hr1, hbH, hl⟩ := row0 hrow ok1
    obtain ⟨b2, r2, hb2, hr2, hbH2, hl2⟩ := row0 hrow2 ok2
    refine ⟨_, rfl, p, C, dx, _, _, rfl, hp, T.cl, T.nP, rfl, _, _, _, _, rfl, rfl, SqT.of hpp, atI_nat (j := 0) rfl, _, _, _, _, rfl, rfl, SqT.of has, atI_nat (j := 0) (by rw [List.getElem?_map, hb]; rfl), _, _, rfl, .inr (SqT.of hbH), ?_⟩
    refine ⟨_, rfl, q, C, dx2, _, _, rfl, hp2, T.cl, T.nP, rfl, _, _, _, _, rfl, rfl, SqT.of hpp2, atI_nat (j := 0) rfl, _, _, _, _, rfl, rfl, SqT.of has2, atI_nat (j := 0) (by rw [List.getElem?_map, hb2]; rfl), _, _, rfl, .inr (SqT.of hbH2), ?_⟩
    rw [List.length_map, List.length_map, hl, hl2]
    exact ⟨rfl, _, rfl, iteNS rfl k⟩
end
end Bf
set_option Elab.async false
set_option linter.all false
set_option maxRecDepth 100000
set_option maxHeartbeats 4000000
/-! BfP2: butfewrows/pairs: is_unlike, goals_of. -/
namespace Bf
open PySem PySem.Spec PyProof.Rows L2
/-- where a pair leads -/
def gl (m k : Mac) (p : Pt) : List Pt := (m.st.getD p.1 []).zip (k.st.getD p.2 [])
def ul (m k : Mac) (p : Pt) : Bool := decide (p.1 ∈ m.gd) != decide (p.2 ∈ k.gd)
def Grid (m k : Mac) (p : Pt) : Prop := p.1 < m.st.length ∧ p.2 < k.st.length
section
variable {m k : Mac} {L : Nat} {p q : Pt}
theorem row_at (i : Nat) (h : i < m.st.length) : m.st[i]? = some (m.st.getD i []) := by
  rw [List.getD_eq_getElem?_getD, List.getElem?_eq_getElem h]
  rfl
theorem Mac.Ok.rowD (ok : m.Ok L) {i : Nat} (h : i < m.st.length) : (m.st.getD i []).length = L ∧ ∀ x ∈ m.st.getD i [], x < m.st.length :=
  ok.row _ (List.mem_of_getElem? (row_at i h))
theorem gl_grid (o1 : m.Ok L) (o2 : k.Ok L) (h : Grid m k p) (hq : q ∈ gl m k p) : Grid m k q := by
  obtain ⟨a, b⟩ := q
  have := List.of_mem_zip hq
  exact ⟨(o1.rowD h.1).2 _ this.1, (o2.rowD h.2).2 _ this.2⟩
theorem gl_len (o1 : m.Ok L) (o2 : k.Ok L) (h : Grid m k p) : (gl m k p).length = L := by
  unfold gl
  rw [List.length_zip, (o1.rowD h.1).1, (o2.rowD h.2).1, Nat.min_self]
theorem grid_len (o1 : m.Ok L) (o2 : k.Ok L) {l : List Pt} (hn : l.Nodup) (hg : ∀ x ∈ l, Grid m k x) : l.length ≤ 64 := by
  have h := nodup_len hn (R := (List.range m.st.length).flatMap fun a => (List.range k.st.length).map fun b => (a, b)) fun x hx => by
    obtain ⟨h1, h2⟩ := hg x hx
    exact List.mem_flatMap.mpr ⟨x.1, List.mem_range.mpr h1, List.mem_map.mpr ⟨x.2, List.mem_range.mpr h2, rfl⟩⟩
  have e : ((List.range m.st.length).flatMap fun a => (List.range k.st.length).map fun b => (a, b)).length = m.st.length * k.st.length := by
    rw [List.length_flatMap]
    have : ∀ n, ((List.range n).map fun a => ((List.range k.st.length).map fun b => (a, b)).length).sum = n * k.st.length := fun n => by
      induction n with
      | zero => simp
      | succ n ih => rw [List.range_succ, List.map_append, sum_app, ih]; simp [Nat.succ_mul]
    exact this _
  rw [e] at h
  have := Nat.mul_le_mul o1.n8 o2.n8
  omega
end
theorem SqT.same {K : PySem.W.Frag} {H H' : Hp} {a : Addr} {xs : List V} (h : SqT K H a xs) (e : Same H H') : SqT K H' a xs :=
  h.elim (fun h => .inl (h.elim (fun h => .inl (e _ _ h)) fun ⟨o, h⟩ => .inr ⟨o, e _ _ h⟩)) fun h => .inr h
theorem PtAt.same {K : PySem.W.Frag} {H H' : Hp} {a : Addr} {p : Pt} (h : PtAt K H a p) (e : Same H H') : PtAt K H' a p := SqT.same h e
theorem Keys.same {K : PySem.W.Frag} {H H' : Hp} {es : List Ent} (h : Keys K H es) (e : Same H H') : Keys K H' es := fun x hx => (h x hx).same e
/-- pairs at their addresses -/
def PtsAt (K : PySem.W.Frag) (H : Hp) (qs : List (Addr × Pt)) : Prop := ∀ e ∈ qs, PtAt K H e.1 e.2
theorem PtsAt.same {K : PySem.W.Frag} {H H' : Hp} {qs : List (Addr × Pt)} (h : PtsAt K H qs) (e : Same H H') : PtsAt K H' qs := fun x hx => (h x hx).same e
def refs (qs : List (Addr × Pt)) : List V := qs.map fun e => V.ref e.1
/-! `in` a tuple of numbers -/
theorem flat_vi (l : List Nat) : (l.map vi).all flatV = true := by
  rw [List.all_eq_true]
  intro x hx
  obtain ⟨n, _, e⟩ := List.mem_map.mp hx
  rw [← e]
  rfl
theorem inV_vi (n : Nat) : ∀ l : List Nat, inV (vi n) (l.map vi) = decide (n ∈ l)
  | [] => by simp [inV]
  | a :: r => by
    have ih := inV_vi n r
    show (eqV (vi a) (vi n) || inV (vi n) (r.map vi)) = _
    rw [ih]
    have e : eqV (vi a) (vi n) = decide (n = a) := by
      show ((a : Int) == (n : Int)) = _
      by_cases h : n = a
      · subst h; simp
      · rw [decide_eq_false h]
        have : ¬ (a : Int) = n := by omega
        simpa using this
    rw [e]
    by_cases h : n = a
    · simp [h]
    · simp [h]
theorem e_in {X : Cx} {K : PySem.W.Frag} (hK : X.K = K := by rfl) : OpR X (compareOp .In) (rIn K false) := by
  subst hK
  exact op_in_seq
abbrev nPair : List Str := ["one", "other", "pair"]
abbrev sIsUnlike : Stmt := top 17
theorem scIsUnlike : FnScope nPair nPair (defScope sIsUnlike) := ⟨rfl, rfl, rfl, by decide +kernel, rfl, by decide +kernel, by decide +kernel⟩
abbrev sGoals : Stmt := top 18
theorem scGoals : FnScope nPair nPair (defScope sGoals) := ⟨rfl, rfl, rfl, by decide +kernel, rfl, by decide +kernel, by decide +kernel⟩
section
variable {P : Program} {w : World} {K : PySem.W.Frag} {mg : Str → Option Value} {base : Heap}
def spIsUnlike (K : PySem.W.Frag) (C : Addr) : Sp := fun vs H Q _ => ∃ p q a m k t, vs = [.ref p, .ref q, .ref a] ∧ MacAt C H p m ∧ MacAt C H q k ∧ PtAt K H a t ∧ Q (.bl (ul m k t)) H
theorem scal_bl (a b : Bool) : scal (.bl a) (.bl b) = true := rfl
theorem ne_bl (a b : Bool) : (!decide (V.bl a = V.bl b)) = (a != b) := by cases a <;> cases b <;> rfl
theorem ok_isUnlike {f C : Addr} {fd : FuncData} (F : DefAt K mg "is_unlike" sIsUnlike nPair f fd) (T : MacC K mg C) : FnOk P w K mg base CX0 1 f fd nPair (spIsUnlike K C) := by
  refine F.fn.ok scIsUnlike (fun vs H Q E h => ?_) (fun cdv A outer s H vs Q E hr h => ?_)
  · obtain ⟨p, q, a, m, k, t, rfl, _⟩ := h
    rfl
  · obtain ⟨p, q, a, m, k, t, rfl, ⟨dx, pp, hp, st, g, hpp, hst, hg⟩, ⟨dx2, pp2, hp2, st2, g2, hpp2, hst2, hg2⟩, ht, kk⟩ := h
    refine ⟨_, pss_one (ps_ret (pe_cmpR op_ne (pe_cmpR op_in_seq (pe_ix ix_tup (pv 2) pe_int (fun _ _ => rfl)) (pe_ix ix_tup (pe_fld (pv 0) rfl) pe_int (fun _ _ => rfl)) (by with_unfolding_all rfl))
      (pe_cmpR op_in_seq (pe_ix ix_tup (pv 2) pe_int (fun _ _ => rfl)) (pe_ix ix_tup (pe_fld (pv 1) rfl) pe_int (fun _ _ => rfl)) (by with_unfolding_all rfl)) (nomark _))), ?_⟩
    refine ⟨_, rfl, _, _, _, _, rfl, rfl, ht, atI_nat (j := 0) rfl, _, rfl, p, C, dx, _, _, rfl, hp, T.cl, T.nP, rfl, _, _, _, _, rfl, rfl, SqT.of hpp, atI_nat (j := 1) rfl, _, _, rfl, .inr (SqT.of hg), rfl, flat_vi _, ?_⟩
    refine ⟨_, rfl, _, _, _, _, rfl, rfl, ht, atI_nat (j := 1) rfl, _, rfl, q, C, dx2, _, _, rfl, hp2, T.cl, T.nP, rfl, _, _, _, _, rfl, rfl, SqT.of hpp2, atI_nat (j := 1) rfl, _, _, rfl, .inr (SqT.of hg2), rfl, flat_vi _, ?_⟩
    refine ⟨rfl, ?_⟩
    show Q (.bl (!decide (V.bl (inV (vi t.1) (m.gd.map vi)) = V.bl (inV (vi t.2) (k.gd.map vi))))) H
    rw [inV_vi, inV_vi, ne_bl]
    exact kk
def spGoals (K : PySem.W.Frag) (C : Addr) : Sp := fun vs H Q _ => ∃ p q a m k L t, vs = [.ref p, .ref q, .ref a] ∧ MacAt C H p m ∧ MacAt C H q k ∧ m.Ok L ∧ k.Ok L ∧ PtAt K H a t ∧ Grid m k t ∧
  ∀ (H' : Hp) (l : Addr) (qs : List (Addr × Pt)), Same H H' → H l = none → H' l = some (.lst (refs qs)) → qs.map (·.2) = gl m k t → PtsAt K H' qs → Q (.ref l) H'
theorem zip_pts {K : PySem.W.Frag} {H H' : Hp} {rs ss : List Nat} {ts : List Addr} (hl : rs.length = ss.length) (ht : ts.length = (rs.map vi).length)
    (h : ∀ (j : Nat) (t : Addr), ts[j]? = some t → H t = none ∧ ∃ x y, (rs.map vi)[j]? = some x ∧ (ss.map vi)[j]? = some y ∧ H' t = some (.tup [x, y])) :
    refs (ts.zip (rs.zip ss)) = ts.map V.ref ∧ (ts.zip (rs.zip ss)).map (·.2) = rs.zip ss ∧ PtsAt K H' (ts.zip (rs.zip ss)) := by
  rw [List.length_map] at ht
  have e1 : (ts.zip (rs.zip ss)).map (·.1) = ts := List.map_fst_zip (by rw [List.length_zip]; omega)
  have e2 : (ts.zip (rs.zip ss)).map (·.2) = rs.zip ss := List.map_snd_zip (by rw [List.length_zip]; omega)
  refine ⟨?_, e2, fun e he => ?_⟩
  · have : refs (ts.zip (rs.zip ss)) = ((ts.zip (rs.zip ss)).map (·.1)).map V.ref := by unfold refs; rw [List.map_map]; rfl
    rw [this, e1]
  · obtain ⟨j, hj⟩ := List.mem_iff_getElem?.mp he
    obtain ⟨h1, h2⟩ := List.getElem?_zip_eq_some.mp hj
    obtain ⟨_, x, y, hx, hy, hH⟩ := h j _ h1
    obtain ⟨h3, h4⟩ := List.getElem?_zip_eq_some.mp h2
    obtain ⟨x', hx1, hx2⟩ := map_get hx
    obtain ⟨y', hy1, hy2⟩ := map_get hy
    rw [h3] at hx1
    rw [h4] at hy1
    cases hx1
    cases hy1
    subst hx2 hy2
    exact SqT.of hH
theorem row_in {H : Hp} {as : List Addr} {ss : List (List Nat)} (h : RowsAt H as ss) {i : Nat} (hi : i < ss.length) : ∃ b, as[i]? = some b ∧ H b = some (.tup ((ss.getD i []).map vi)) := by
  have h1 : i < as.length := by rw [h.1]; exact hi
  refine ⟨as[i], List.getElem?_eq_getElem h1, h.2 i _ _ (List.getElem?_eq_getElem h1) ?_⟩
  rw [List.getD_eq_getElem?_getD, List.getElem?_eq_getElem hi]
  rfl
theorem ref_get {as : List Addr} {i : Nat} {b : Addr} (h : as[i]? = some b) : (as.map V.ref)[i]? = some (.ref b) := by rw [List.getElem?_map, h]; rfl
theorem ok_goals {f C : Addr} {fd : FuncData} (F : DefAt K mg "goals_of" sGoals nPair f fd) (T : MacC K mg C) (B : Bl mg) : FnOk P w K mg base CX0 1 f fd nPair (spGoals K C) := by
  refine F.fn.ok scGoals (fun vs H Q E h => ?_) (fun cdv A outer s H vs Q E hr h => ?_)
  · obtain ⟨p, q, a, m, k, L, t, rfl, _⟩ := h
    rfl
  · obtain ⟨p, q, a, m, k, L, t, rfl, ⟨dx, pp, hp, st, g, hpp, ⟨as, has, hrow⟩, hg⟩, ⟨dx2, pp2, hp2, st2, g2, hpp2, ⟨as2, has2, hrow2⟩, hg2⟩, o1, o2, ht, gr, kk⟩ := h
    refine ⟨_, pss_one (ps_ret (pe_listZip rfl (by rfl) B.list (by rfl) B.zip b_list
      (pa_cons (pe_ix ix_tup (pe_ix ix_tup (pe_fld (pv 0) rfl) pe_int (fun _ _ => rfl)) (pe_ix ix_tup (pv 2) pe_int (fun _ _ => rfl)) (fun _ _ => rfl))
        (pa_cons (pe_ix ix_tup (pe_ix ix_tup (pe_fld (pv 1) rfl) pe_int (fun _ _ => rfl)) (pe_ix ix_tup (pv 2) pe_int (fun _ _ => rfl)) (fun _ _ => rfl)) pa_nil)))), ?_⟩
    obtain ⟨b, hb, hbH⟩ := row_in hrow gr.1
    obtain ⟨b2, hb2, hbH2⟩ := row_in hrow2 gr.2
    refine ⟨_, rfl, p, C, dx, _, _, rfl, hp, T.cl, T.nP, rfl, _, _, _, _, rfl, rfl, SqT.of hpp, atI_nat (j := 0) rfl, _, rfl, _, _, _, _, rfl, rfl, ht, atI_nat (j := 0) rfl, _, _, _, _, rfl, rfl, SqT.of has, atI_nat (j := t.1) (ref_get hb), ?_⟩
    refine ⟨_, rfl, q, C, dx2, _, _, rfl, hp2, T.cl, T.nP, rfl, _, _, _, _, rfl, rfl, SqT.of hpp2, atI_nat (j := 0) rfl, _, rfl, _, _, _, _, rfl, rfl, ht, atI_nat (j := 1) rfl, _, _, _, _, rfl, rfl, SqT.of has2, atI_nat (j := t.2) (ref_get hb2), ?_⟩
    have hl : (m.st.getD t.1 []).length = (k.st.getD t.2 []).length := by rw [(o1.rowD gr.1).1, (o2.rowD gr.2).1]
    refine ⟨b, b2, _, _, rfl, SqT.of hbH, SqT.of hbH2, by rw [List.length_map, List.length_map, hl], fun H' l ts s nl hl2 hts hall => ?_⟩
    obtain ⟨e1, e2, e3⟩ := zip_pts (K := K) hl hts hall
    exact kk H' l _ s nl (by rw [e1]; exact hl2) e2 e3
end
end Bf
set_option Elab.async false
set_option linter.all false
set_option maxRecDepth 100000
set_option maxHeartbeats 4000000
/-! BfP3: butfewrows/pairs: come_to. -/
namespace Bf
open PySem PySem.Spec PyProof.Rows L2
/-! ### dicts by pairs -/
theorem getX_isSome {es : List Ent} {p : Pt} : (getX es p).isSome = decide (p ∈ es.map (·.1)) := by
  unfold getX
  rw [Option.isSome_map]
  induction es with
  | nil => rfl
  | cons e r ih =>
    rw [List.find?_cons]
    by_cases h : e.1 = p
    · simp [h]
    · have h' : ¬ p = e.1 := fun z => h z.symm
      simp only [h, decide_false, List.map_cons, List.mem_cons, h', false_or]
      exact ih
theorem getX_in {es : List Ent} {p : Pt} (h : p ∈ es.map (·.1)) : ∃ v, getX es p = some v := by
  have : (getX es p).isSome = true := by rw [getX_isSome, decide_eq_true h]
  exact Option.isSome_iff_exists.mp this
theorem getX_out {es : List Ent} {p : Pt} (h : p ∉ es.map (·.1)) : getX es p = none := by
  have : (getX es p).isSome = false := by rw [getX_isSome, decide_eq_false h]
  simpa using this
theorem getX_mem {es : List Ent} {p : Pt} {v : V} (h : getX es p = some v) : ∃ b, (p, b, v) ∈ es := by
  unfold getX at h
  obtain ⟨e, h1, h2⟩ := Option.map_eq_some_iff.mp h
  have h3 : e.1 = p := by simpa using List.find?_some h1
  obtain ⟨a, b, c⟩ := e
  have h2' : c = v := h2
  have h3' : a = p := h3
  subst h2' h3'
  exact ⟨b, List.mem_of_find?_eq_some h1⟩
theorem getX_uniq {es : List Ent} (hn : (es.map (·.1)).Nodup) {p : Pt} {b : Addr} {v : V} (h : (p, b, v) ∈ es) : getX es p = some v := by
  unfold getX
  induction es with
  | nil => exact nomatch h
  | cons e r ih =>
    rw [List.map_cons] at hn
    obtain ⟨h1, h2⟩ := List.nodup_cons.mp hn
    rw [List.find?_cons]
    rcases List.mem_cons.mp h with e1 | h
    · rw [← e1]; simp
    · have : ¬ e.1 = p := fun z => h1 (by rw [z]; exact List.mem_map_of_mem (f := (·.1)) h)
      simp only [this, decide_false]
      exact ih h2 h
/-- what a store may write on -/
def noT : HO → Bool
  | .tup _ => false
  | .frz _ (.tup _) => false
  | _ => true
section
variable {K : PySem.W.Frag} {H : Hp} {a d : Addr} {p : Pt} {o o' : HO}
theorem SqT.put {xs : List V} (h : SqT K H a xs) (hd : H d = some o) (hn : noT o = true) : SqT K (upd H d o') a xs :=
  h.elim (fun h => .inl (h.elim (fun h => .inl (by
    rw [upd_ne (ne_of h hd fun z => by rw [← z] at hn; cases hn)]; exact h)) fun ⟨q, h⟩ => .inr ⟨q, by
    rw [upd_ne (ne_of h hd fun z => by rw [← z] at hn; cases hn)]; exact h⟩)) fun h => .inr h
theorem PtAt.put (h : PtAt K H a p) (hd : H d = some o) (hn : noT o = true) : PtAt K (upd H d o') a p := SqT.put h hd hn
theorem Keys.put {es : List Ent} (h : Keys K H es) (hd : H d = some o) (hn : noT o = true) : Keys K (upd H d o') es := fun x hx => (h x hx).put hd hn
theorem PtsAt.put {qs : List (Addr × Pt)} (h : PtsAt K H qs) (hd : H d = some o) (hn : noT o = true) : PtsAt K (upd H d o') qs := fun x hx => (h x hx).put hd hn
end
/-- the entries of a line of pairs -/
def lineE (qs : List (Addr × Pt)) : List Ent := qs.map fun e => (e.2, e.1, V.bl true)
theorem lineE_keys (qs : List (Addr × Pt)) : (lineE qs).map (·.1) = qs.map (·.2) := by unfold lineE; rw [List.map_map]; rfl
theorem lineE_app (qs : List (Addr × Pt)) (e : Addr × Pt) : lineE (qs ++ [e]) = lineE qs ++ [(e.2, e.1, V.bl true)] := by unfold lineE; rw [List.map_append]; rfl
theorem PtsAt.keys {K : PySem.W.Frag} {H : Hp} {qs : List (Addr × Pt)} (h : PtsAt K H qs) : Keys K H (lineE qs) := fun e he => by
  obtain ⟨x, hx, e1⟩ := List.mem_map.mp he
  rw [← e1]
  exact h x hx
theorem refs_len (qs : List (Addr × Pt)) : (refs qs).length = qs.length := List.length_map ..
theorem refs_app (qs : List (Addr × Pt)) (e : Addr × Pt) : refs (qs ++ [e]) = refs qs ++ [V.ref e.1] := by unfold refs; rw [List.map_append]; rfl
theorem refs_get {qs : List (Addr × Pt)} {i : Nat} {x : V} (h : (refs qs)[i]? = some x) : ∃ e, qs[i]? = some e ∧ x = .ref e.1 := map_get h
theorem PtsAt.app {K : PySem.W.Frag} {H : Hp} {qs : List (Addr × Pt)} {e : Addr × Pt} (h : PtsAt K H qs) (he : PtAt K H e.1 e.2) : PtsAt K H (qs ++ [e]) := fun x hx => by
  rcases List.mem_append.mp hx with h1 | h1
  · exact h x h1
  · rw [List.mem_singleton.mp h1]; exact he
abbrev nComeTo : List Str := ["one", "other", "begin", "known", "line", "found", "here", "goal"]
abbrev nThree : List Str := ["one", "other", "begin"]
abbrev sComeTo : Stmt := top 19
theorem scComeTo : FnScope nComeTo nThree (defScope sComeTo) := ⟨rfl, rfl, rfl, by decide +kernel, rfl, by decide +kernel, by decide +kernel⟩
/-- all that is come to from t, at its addresses -/
structure Come (m k : Mac) (t : Pt) (ps : List Pt) : Prop where
  nd : ps.Nodup
  mem : t ∈ ps
  cl : Closed (gl m k) ps
  grid : ∀ x ∈ ps, Grid m k x
section
variable {P : Program} {w : World} {K : PySem.W.Frag} {mg : Str → Option Value} {base : Heap}
def spComeTo (K : PySem.W.Frag) (C : Addr) : Sp := fun vs H Q _ => ∃ p q a m k L t, vs = [.ref p, .ref q, .ref a] ∧ MacAt C H p m ∧ MacAt C H q k ∧ m.Ok L ∧ k.Ok L ∧ PtAt K H a t ∧ Grid m k t ∧
  ∀ (H' : Hp) (l : Addr) (qs : List (Addr × Pt)), Same H H' → H l = none → H' l = some (.lst (refs qs)) → PtsAt K H' qs → Come m k t (qs.map (·.2)) → (∀ x ∈ qs.map (·.2), Reach (gl m k) t x) → Q (.ref l) H'
/-- how far it has come -/
structure ComeI (P : Program) (w : World) (K : PySem.W.Frag) (m k : Mac) (t : Pt) (H H1 : Hp) (d l fo : Addr) (qs : List (Addr × Pt)) (n : Nat) : Prop where
  same : Same H H1
  nd : H d = none
  nl : H l = none
  nf : H fo = none
  lf : l ≠ fo
  hd : H1 d = some (dxO P w d (lineE qs))
  hl : H1 l = some (.lst (refs qs))
  hf : H1 fo = some (.lst (refs (qs.take n)))
  pts : PtsAt K H1 qs
  nod : (qs.map (·.2)).Nodup
  mem : t ∈ qs.map (·.2)
  grid : ∀ x ∈ qs.map (·.2), Grid m k x
  reach : ∀ x ∈ qs.map (·.2), Reach (gl m k) t x
  le : n ≤ qs.length
theorem dx_noT {d : Addr} {es : List Ent} : noT (dxO P w d es) = true := rfl
theorem ok_comeTo {f f1 C : Addr} {fd fd1 : FuncData} (F : DefAt K mg "come_to" sComeTo nThree f fd) (F1 : DefAt K mg "goals_of" sGoals nPair f1 fd1) (T : MacC K mg C) (B : Bl mg) : FnOk P w K mg base CX0 2 f fd nThree (spComeTo K C) := by
  refine F.fn.ok scComeTo (fun vs H Q E h => ?_) (fun cdv A outer s H vs Q E hr h => ?_)
  · obtain ⟨p, q, a, m, k, L, t, rfl, _⟩ := h
    rfl
  · obtain ⟨p, q, a, m, k, L, t, rfl, hp, hq, o1, o2, ht, gr, kk⟩ := h
    have G1 : FnOk P w K mg base CX0 1 f1 fd1 nPair (spGoals K C) := ok_goals F1 T B
    refine ⟨_, pss_cons (ps_par (i := 3) (j := 4) rfl scComeTo.nd rfl rfl (by decide) rfl rfl (pa_cons (pe_xdisp (hu_of hr) (pv 2) pe_bl) (pa_cons (pe_lst (pa_cons (pv 2) pa_nil)) pa_nil)) (by rfl))
      (pss_cons (ps_set (i := 5) scComeTo.nd rfl (.inl rfl) (pe_lst pa_nil))
      (pss_cons (ps_while PassesOwn.never (pt_cmpR op_lt (pe_callB c_len (by rfl) B.len b_len (pa_cons (pv 5) pa_nil)) (pe_callB c_len (by rfl) B.len b_len (pa_cons (pv 4) pa_nil)) (nomark _))
        (pss_cons (ps_set (i := 6) scComeTo.nd rfl (.inl rfl) (pe_ix ix_list (pv 4) (pe_callB c_len (by rfl) B.len b_len (pa_cons (pv 5) pa_nil)) (fun _ _ => rfl)))
        (pss_cons (ps_expr (pe_bm PySem.F.plainAttrs_list PySem.F.slot_list_append PySem.F.type_list_append mt_append (pv 5) (pa_cons (pv 6) pa_nil)))
        (pss_one (ps_for PassesOwn.never rfl (pi_list (pe_call G1 hr (by rfl) F1.mg F1.fn.kp F1.b .nil pass0 (pa_cons (pv 0) (pa_cons (pv 1) (pa_cons (pv 6) pa_nil))))) (pg_name (i := 7) scComeTo.nd rfl (.inl rfl))
          (pss_one (ps_if (pt_cmp (pc_xnotin (hu_of hr) (pv 7) (pv 3)))
            (pss_cons (ps_xput (hu_of hr) (pv 3) (pv 7) pe_bl (by rfl))
            (pss_one (ps_expr (pe_bm PySem.F.plainAttrs_list PySem.F.slot_list_append PySem.F.type_list_append mt_append (pv 4) (pa_cons (pv 7) pa_nil))))) pss_nil)))))))
      (pss_one (ps_ret (pv 5))))), ?_⟩
    intro d nd
    have s1 : Same H (upd H d (dxO P w d [])) := same_new nd
    refine ⟨_, rfl, upd_same, a, t, rfl, ht.same s1, ?_⟩
    rw [upd_upd]
    have s2 : Same H (upd H d (dxO P w d [(t, a, V.bl true)])) := same_new nd
    refine ⟨_, rfl, by show 1 ≤ sizeLine; decide, fun l nl => ⟨_, _, rfl, ?_⟩⟩
    have nl0 := s2.free nl
    have s3 := s2.trans (same_new nl (o := .lst [.ref a]))
    refine ⟨by show 0 ≤ sizeLine; decide, fun fo nf => ?_⟩
    have nf0 := s3.free nf
    have s4 := s3.trans (same_new nf (o := .lst []))
    have ndl : d ≠ l := fun z => by rw [← z, upd_same] at nl; cases nl
    have nlf : l ≠ fo := fun z => by rw [z, upd_same] at nf; cases nf
    have ndf : d ≠ fo := fun z => by rw [← z, upd_ne ndl, upd_same] at nf; cases nf
    refine ⟨fun mm σ H1 => ∃ qs n v6 v7, σ = [some (.ref p), some (.ref q), some (.ref a), some (.ref d), some (.ref l), some (.ref fo), v6, v7] ∧ ComeI P w K m k t H H1 d l fo qs n ∧
      (∀ (i : Nat) (x : Pt), i < n → (qs.map (·.2))[i]? = some x → ∀ y ∈ gl m k x, y ∈ qs.map (·.2)) ∧ mm = 65 - n, ⟨65, [(a, t)], 0, none, none, rfl, ?_, fun i x h => absurd h (by omega), rfl⟩, ?_⟩
    · refine ⟨s4, nd, nl0, nf0, nlf, ?_, ?_, upd_same, fun e he => ?_, by simp, by simp, fun x hx => ?_, fun x hx => ?_, by simp⟩
      · rw [upd_ne ndf, upd_ne ndl, upd_same]; rfl
      · rw [upd_ne nlf, upd_same]; rfl
      · rw [List.mem_singleton.mp he]; exact ht.same s4
      · have : x = t := by simpa using hx
        rw [this]; exact gr
      · have : x = t := by simpa using hx
        rw [this]; exact .here
    · rintro mm σ H1 ⟨qs, n, v6, v7, rfl, I, hcl, rfl⟩
      have h64 := grid_len o1 o2 I.nod I.grid
      rw [List.length_map] at h64
      have htl : (qs.take n).length = n := by rw [List.length_take]; exact Nat.min_eq_left I.le
      refine ⟨_, rfl, _, _, rfl, .inl (SqL.of I.hf), _, rfl, _, _, rfl, .inl (SqL.of I.hl), _, _, rfl, rfl, _, rfl, ?_⟩
      rw [refs_len, refs_len, htl]
      by_cases hlt : n < qs.length
      · rw [decide_eq_true (show ((n : Nat) : Int) < ((qs.length : Nat) : Int) by omega)]
        refine iteT ⟨fun σ H2 => ∃ qs2 v6 v7, σ = [some (.ref p), some (.ref q), some (.ref a), some (.ref d), some (.ref l), some (.ref fo), v6, v7] ∧ ComeI P w K m k t H H2 d l fo qs2 (n + 1) ∧
          (∀ (i : Nat) (x : Pt), i < n + 1 → (qs2.map (·.2))[i]? = some x → ∀ y ∈ gl m k x, y ∈ qs2.map (·.2)), fun σ H2 ⟨qs2, v6, v7, e, I2, h2⟩ => ⟨65 - (n + 1), by omega, qs2, n + 1, v6, v7, e, I2, h2, rfl⟩, ?_⟩
        have hx : qs[n]? = some qs[n] := List.getElem?_eq_getElem hlt
        obtain ⟨⟨b, x⟩, hx⟩ : ∃ e, qs[n]? = some e := ⟨_, hx⟩
        have hmem : (b, x) ∈ qs := List.mem_of_getElem? hx
        have hbx : PtAt K H1 b x := I.pts _ hmem
        have hxm : x ∈ qs.map (·.2) := List.mem_map_of_mem (f := (·.2)) hmem
        have e0 : (refs qs)[(refs (qs.take n)).length]? = some (V.ref b) := by
          rw [refs_len, htl]
          unfold refs
          rw [List.getElem?_map, hx]
          rfl
        refine ⟨_, rfl, _, rfl, _, _, rfl, .inl (SqL.of I.hf), _, _, _, _, rfl, rfl, SqL.of I.hl, atI_nat e0, ?_⟩
        refine ⟨_, rfl, .inl ⟨rfl, _, SqL.of I.hf⟩, _, rfl, _, _, _, rfl, rfl, I.hf, small1000 (by rw [refs_len, htl]; omega), ?_⟩
        have e1 : refs (qs.take n) ++ [V.ref b] = refs (qs.take (n + 1)) := by
          rw [List.take_succ, hx]
          exact (refs_app (qs.take n) (b, x)).symm
        rw [show (refs (qs.take n) ++ [V.ref (b, x).1]) = refs (qs.take (n + 1)) from e1]
        have ndf1 : d ≠ fo := ne_of I.hd I.hf (fun z => nomatch z)
        have I2 : ComeI P w K m k t H (upd H1 fo (.lst (refs (qs.take (n + 1))))) d l fo qs (n + 1) :=
          ⟨same_upd I.same I.nf, I.nd, I.nl, I.nf, I.lf, by rw [upd_ne ndf1]; exact I.hd, by rw [upd_ne I.lf]; exact I.hl, upd_same, I.pts.put I.hf rfl, I.nod, I.mem, I.grid, I.reach, hlt⟩
        refine ⟨_, rfl, _, rfl, _, rfl, p, q, b, m, k, L, x, rfl, hp.same I2.same, hq.same I2.same, o1, o2, hbx.put I.hf rfl, I.grid _ hxm, fun H3 la gs s3 nla hla hgs hpts => ?_⟩
        have I3 : ComeI P w K m k t H H3 d l fo qs (n + 1) := ⟨I2.same.trans s3, I.nd, I.nl, I.nf, I.lf, s3 _ _ I2.hd, s3 _ _ I2.hl, s3 _ _ I2.hf, I2.pts.same s3, I.nod, I.mem, I.grid, I.reach, hlt⟩
        have nlad : la ≠ d := fun z => by rw [z, I2.hd] at nla; cases nla
        have nlal : la ≠ l := fun z => by rw [z, I2.hl] at nla; cases nla
        refine ⟨la, rfl, ⟨_, SqL.of hla⟩, for_list (K := K) (a := la) (xs := refs gs) (fun i σ H4 => ∃ qs2 v7, σ = [some (.ref p), some (.ref q), some (.ref a), some (.ref d), some (.ref l), some (.ref fo), some (.ref b), v7] ∧ ComeI P w K m k t H H4 d l fo qs2 (n + 1) ∧
          H4 la = some (.lst (refs gs)) ∧ PtsAt K H4 gs ∧ (∃ more, qs2 = qs ++ more) ∧ ∀ y ∈ (gs.take i).map (·.2), y ∈ qs2.map (·.2)) ⟨qs, v7, rfl, I3, hla, hpts, ⟨[], by simp⟩, fun y hy => by simp at hy⟩ (fun _ _ _ _ ⟨_, _, _, _, e, _⟩ => SqL.of e) ?_ ?_⟩
        · rintro i y σ H4 hy ⟨qs2, v7, rfl, I4, hla4, hpts4, ⟨more, hmore⟩, hin⟩
          obtain ⟨⟨g, z⟩, hg, rfl⟩ := refs_get hy
          have hgm : (g, z) ∈ gs := List.mem_of_getElem? hg
          have hgz : PtAt K H4 g z := hpts4 _ hgm
          have hzg : z ∈ gl m k x := by rw [← hgs]; exact List.mem_map_of_mem (f := (·.2)) hgm
          have hzG : Grid m k z := gl_grid o1 o2 (I.grid _ hxm) hzg
          have etk : (gs.take (i + 1)).map (·.2) = (gs.take i).map (·.2) ++ [z] := by rw [List.take_succ, hg, List.map_append]; rfl
          refine ⟨_, rfl, _, rfl, getX (lineE qs2) z, ⟨d, g, lineE qs2, z, rfl, rfl, .inl I4.hd, I4.pts.keys, hgz, rfl⟩, _, rfl, ?_⟩
          rw [getX_isSome, lineE_keys]
          by_cases hz : z ∈ qs2.map (·.2)
          · rw [decide_eq_true hz]
            refine iteF ⟨qs2, _, rfl, I4, hla4, hpts4, ⟨more, hmore⟩, fun y hy => ?_⟩
            rw [etk] at hy
            rcases List.mem_append.mp hy with h1 | h1
            · exact hin y h1
            · rw [List.mem_singleton.mp h1]; exact hz
          · rw [decide_eq_false hz]
            have hk64 : qs2.length ≤ 64 := by have := grid_len o1 o2 I4.nod I4.grid; rwa [List.length_map] at this
            refine iteT ?_
            refine ⟨_, rfl, _, rfl, _, ⟨d, g, lineE qs2, z, rfl, rfl, I4.hd, I4.pts.keys, hgz, small1000 (by unfold lineE; rw [List.length_map]; omega), rfl⟩, ?_⟩
            rw [putX_new g (V.bl true) (getX_out (by rw [lineE_keys]; exact hz)), ← lineE_app qs2 (g, z)]
            have hl5 : (upd H4 d (dxO P w d (lineE (qs2 ++ [(g, z)])))) l = some (.lst (refs qs2)) := by rw [upd_ne (ne_of I4.hl I4.hd (fun z => nomatch z))]; exact I4.hl
            refine ⟨_, rfl, .inl ⟨rfl, _, SqL.of hl5⟩, _, rfl, _, _, _, rfl, rfl, hl5, small1000 (by rw [refs_len]; omega), ?_⟩
            rw [← refs_app qs2 (g, z)]
            have ndl4 : d ≠ l := ne_of I4.hd I4.hl (fun z => nomatch z)
            have ndf4 : d ≠ fo := ne_of I4.hd I4.hf (fun z => nomatch z)
            have pt1 : ∀ {e y}, PtAt K H4 e y → PtAt K (upd (upd H4 d (dxO P w d (lineE (qs2 ++ [(g, z)])))) l (.lst (refs (qs2 ++ [(g, z)])))) e y := fun h => (h.put I4.hd rfl).put hl5 rfl
            have etk2 : (qs2 ++ [(g, z)]).take (n + 1) = qs2.take (n + 1) := List.take_append_of_le_length I4.le
            refine ⟨qs2 ++ [(g, z)], _, rfl, ⟨same_upd (same_upd I4.same I.nd) I.nl, I.nd, I.nl, I.nf, I.lf, by rw [upd_ne ndl4]; exact upd_same, upd_same, ?_, PtsAt.app (fun e he => pt1 (I4.pts e he)) (pt1 hgz), ?_, ?_, fun y hy => ?_, fun y hy => ?_, by rw [List.length_append]; have := I4.le; omega⟩, ?_, fun e he => pt1 (hpts4 e he), ⟨more ++ [(g, z)], by rw [hmore, List.append_assoc]⟩, fun y hy => ?_⟩
            · rw [upd_ne I.lf.symm, upd_ne ndf4.symm, etk2]; exact I4.hf
            · rw [List.map_append]
              refine List.nodup_append.mpr ⟨I4.nod, by simp, fun a ha b hb e => hz ?_⟩
              have hb' : b = z := by simpa using hb
              rw [← hb', ← e]; exact ha
            · rw [List.map_append]; exact List.mem_append_left _ I4.mem
            · rw [List.map_append] at hy
              rcases List.mem_append.mp hy with h1 | h1
              · exact I4.grid y h1
              · have : y = z := by simpa using h1
                rw [this]; exact hzG
            · rw [List.map_append] at hy
              rcases List.mem_append.mp hy with h1 | h1
              · exact I4.reach y h1
              · have : y = z := by simpa using h1
                rw [this]; exact .step (I.reach _ hxm) hzg
            · rw [upd_ne nlal, upd_ne nlad]; exact hla4
            · rw [etk] at hy
              rw [List.map_append]
              rcases List.mem_append.mp hy with h1 | h1
              · exact List.mem_append_left _ (hin y h1)
              · have : y = z := by simpa using h1
                rw [this]; exact List.mem_append_right _ (by simp)
        · rintro σ H4 ⟨qs2, v7, rfl, I4, hla4, hpts4, ⟨more, hmore⟩, hin⟩
          refine ⟨qs2, _, _, rfl, I4, fun i x' hi hx' y hy => ?_⟩
          have hql : n < qs.length := hlt
          have hsub : ∀ y ∈ qs.map (·.2), y ∈ qs2.map (·.2) := fun y hy => by rw [hmore, List.map_append]; exact List.mem_append_left _ hy
          have hx2 : (qs.map (·.2))[i]? = some x' := by
            rw [hmore, List.map_append, List.getElem?_append_left (by rw [List.length_map]; omega)] at hx'
            exact hx'
          by_cases hin2 : i < n
          · exact hsub y (hcl i x' hin2 hx2 y hy)
          · have ei : i = n := by omega
            subst ei
            rw [List.getElem?_map, hx] at hx2
            cases hx2
            rw [refs_len, List.take_length, hgs] at hin
            exact hin y hy
      · rw [decide_eq_false (show ¬ ((n : Nat) : Int) < ((qs.length : Nat) : Int) by omega)]
        refine iteF ?_
        have en : n = qs.length := by have := I.le; omega
        subst en
        refine ⟨_, rfl, kk H1 fo qs I.same I.nf (by rw [I.hf, List.take_length]) I.pts ⟨I.nod, I.mem, fun x hx y hy => ?_, I.grid⟩ I.reach⟩
        obtain ⟨i, hi⟩ := List.mem_iff_getElem?.mp hx
        have hlt := (List.getElem?_eq_some_iff.mp hi).1
        rw [List.length_map] at hlt
        exact hcl i x hlt hi y hy
end
end Bf
set_option Elab.async false
set_option linter.all false
set_option maxRecDepth 100000
set_option maxHeartbeats 4000000
/-! BfP4: butfewrows/pairs: useful. -/
namespace Bf
open PySem PySem.Spec PyProof.Rows L2
theorem putX_keys {es : List Ent} {p : Pt} (b : Addr) (v : V) : (putX es p b v).map (·.1) = if p ∈ es.map (·.1) then es.map (·.1) else es.map (·.1) ++ [p] := by
  by_cases h : p ∈ es.map (·.1)
  · rw [if_pos h]
    obtain ⟨y, hy⟩ := getX_in h
    rw [putX_old b v hy, List.map_map]
    refine List.map_congr_left fun e _ => ?_
    show (if e.1 = p then (e.1, e.2.1, v) else e).1 = e.1
    split <;> rfl
  · rw [if_neg h, putX_new b v (getX_out h), List.map_append]
    rfl
theorem putX_nodup {es : List Ent} {p : Pt} {b : Addr} {v : V} (h : (es.map (·.1)).Nodup) : ((putX es p b v).map (·.1)).Nodup := by
  rw [putX_keys]
  split
  · exact h
  · rename_i hn
    refine List.nodup_append.mpr ⟨h, by simp, fun a ha c hc e => hn ?_⟩
    have : c = p := by simpa using hc
    rw [← this, ← e]; exact ha
theorem putX_in {es : List Ent} {p q : Pt} {b : Addr} {v : V} : q ∈ (putX es p b v).map (·.1) ↔ q ∈ es.map (·.1) ∨ q = p := by
  rw [putX_keys]
  split
  · rename_i hp
    exact ⟨.inl, fun h => h.elim id fun e => by rw [e]; exact hp⟩
  · simp
theorem Keys.putX {K : PySem.W.Frag} {H : Hp} {es : List Ent} {p : Pt} {b : Addr} {v : V} (h : Keys K H es) (hb : PtAt K H b p) : Keys K H (putX es p b v) := fun e he => by
  rcases putX_mem he with ⟨e', h1, h2, h3⟩ | ⟨h1, h2⟩
  · rw [← h2, ← h3]; exact h e' h1
  · rw [h1, h2]; exact hb
abbrev nUseful : List Str := ["one", "other", "begin", "known", "found", "pair", "before", "goal"]
abbrev sUseful : Stmt := top 20
theorem scUseful : FnScope nUseful nThree (defScope sUseful) := ⟨rfl, rfl, rfl, by decide +kernel, rfl, by decide +kernel, by decide +kernel⟩
section
variable {P : Program} {w : World} {K : PySem.W.Frag} {mg : Str → Option Value} {base : Heap}
/-- what it has found so far -/
structure UseI (P : Program) (w : World) (K : PySem.W.Frag) (m k : Mac) (R : List Pt) (H H1 : Hp) (d : Addr) (es : List Ent) : Prop where
  same : Same H H1
  nd : H d = none
  hd : H1 d = some (dxO P w d es)
  keys : Keys K H1 es
  nod : (es.map (·.1)).Nodup
  sub : ∀ x ∈ es.map (·.1), x ∈ R
  pos : ∀ x ∈ es.map (·.1), ∃ l, 0 < cnt (gl m k) (ul m k) l x
theorem UseI.len {m k : Mac} {R : List Pt} {H H1 : Hp} {d : Addr} {es : List Ent} {L : Nat} {t : Pt} (I : UseI P w K m k R H H1 d es) (o1 : m.Ok L) (o2 : k.Ok L) (cm : Come m k t R) : es.length ≤ 64 := by
  have := grid_len o1 o2 I.nod fun x hx => cm.grid x (I.sub x hx)
  rwa [List.length_map] at this
theorem UseI.put {m k : Mac} {R : List Pt} {H H1 : Hp} {d : Addr} {es : List Ent} {x : Pt} {b : Addr} {v : V} (I : UseI P w K m k R H H1 d es) (hb : PtAt K H1 b x) (hR : x ∈ R) (hp : ∃ l, 0 < cnt (gl m k) (ul m k) l x) :
    UseI P w K m k R H (upd H1 d (dxO P w d (putX es x b v))) d (putX es x b v) :=
  ⟨same_upd I.same I.nd, I.nd, upd_same, (I.keys.putX hb).put I.hd rfl, putX_nodup I.nod, fun y hy => (putX_in.mp hy).elim (I.sub y) fun e => by rw [e]; exact hR, fun y hy => (putX_in.mp hy).elim (I.pos y) fun e => by rw [e]; exact hp⟩
def spUseful (P : Program) (w : World) (K : PySem.W.Frag) (C : Addr) : Sp := fun vs H Q _ => ∃ p q a m k L t, vs = [.ref p, .ref q, .ref a] ∧ MacAt C H p m ∧ MacAt C H q k ∧ m.Ok L ∧ k.Ok L ∧ PtAt K H a t ∧ Grid m k t ∧
  ∀ (H' : Hp) (d : Addr) (es : List Ent) (R : List Pt), Same H H' → H d = none → H' d = some (dxO P w d es) → Keys K H' es → Come m k t R → (∀ x ∈ R, Reach (gl m k) t x) → Useful (gl m k) (ul m k) R (es.map (·.1)) → Q (.ref d) H'
theorem any_take (gs : List (Addr × Pt)) (U : List Pt) : ((gs.map fun e => decide (e.2 ∈ U)).any id = true) ↔ ∃ q ∈ gs.map (·.2), q ∈ U := by
  rw [List.any_eq_true]
  constructor
  · rintro ⟨b, hb, h⟩
    obtain ⟨e, he, rfl⟩ := List.mem_map.mp hb
    exact ⟨e.2, List.mem_map_of_mem (f := (·.2)) he, by simpa using h⟩
  · rintro ⟨q, hq, h⟩
    obtain ⟨e, he, rfl⟩ := List.mem_map.mp hq
    exact ⟨_, List.mem_map_of_mem (f := fun e => decide (e.2 ∈ U)) he, by simpa using h⟩
theorem ok_useful {f f1 f2 f3 C : Addr} {fd fd1 fd2 fd3 : FuncData} (F : DefAt K mg "useful" sUseful nThree f fd) (F1 : DefAt K mg "goals_of" sGoals nPair f1 fd1) (F2 : DefAt K mg "come_to" sComeTo nThree f2 fd2)
    (F3 : DefAt K mg "is_unlike" sIsUnlike nPair f3 fd3) (T : MacC K mg C) (B : Bl mg) : FnOk P w K mg base CX0 3 f fd nThree (spUseful P w K C) := by
  refine F.fn.ok scUseful (fun vs H Q E h => ?_) (fun cdv A outer s H vs Q E hr h => ?_)
  · obtain ⟨p, q, a, m, k, L, t, rfl, _⟩ := h
    rfl
  · obtain ⟨p, q, a, m, k, L, t, rfl, hp, hq, o1, o2, ht, gr, kk⟩ := h
    have G1 : FnOk P w K mg base CX0 2 f1 fd1 nPair (spGoals K C) := (ok_goals F1 T B).mono (by decide)
    have G2 : FnOk P w K mg base CX0 2 f2 fd2 nThree (spComeTo K C) := ok_comeTo F2 F1 T B
    have G3 : FnOk P w K mg base CX0 2 f3 fd3 nPair (spIsUnlike K C) := (ok_isUnlike F3 T).mono (by decide)
    refine ⟨_, pss_cons (ps_set (i := 3) scUseful.nd rfl (.inl rfl) (pe_call G2 hr (by rfl) F2.mg F2.fn.kp F2.b .nil pass0 (pa_cons (pv 0) (pa_cons (pv 1) (pa_cons (pv 2) pa_nil)))))
      (pss_cons (ps_set (i := 4) scUseful.nd rfl (.inr rfl) pe_xnew)
      (pss_cons (ps_for PassesOwn.never rfl (pi_list (pv 3)) (pg_name (i := 5) scUseful.nd rfl (.inl rfl))
        (pss_one (ps_if (pt_val (pe_call G3 hr (by rfl) F3.mg F3.fn.kp F3.b .nil pass0 (pa_cons (pv 0) (pa_cons (pv 1) (pa_cons (pv 5) pa_nil)))))
          (pss_one (ps_xput (hu_of hr) (pv 4) (pv 5) pe_bl (by rfl))) pss_nil)))
      (pss_cons (ps_set (i := 6) scUseful.nd rfl (.inl rfl) (pe_un un_neg pe_int))
      (pss_cons (ps_while PassesOwn.never (pt_cmpR op_lt (pv 6) (pe_callB call_xlen (by rfl) B.len b_len (pa_cons (pv 4) pa_nil)) (nomark _))
        (pss_cons (ps_set (i := 6) scUseful.nd rfl (.inl rfl) (pe_callB call_xlen (by rfl) B.len b_len (pa_cons (pv 4) pa_nil)))
        (pss_one (ps_for PassesOwn.never rfl (pi_list (pv 3)) (pg_name (i := 5) scUseful.nd rfl (.inl rfl))
          (pss_one (ps_if (pt_val (pe_callB (cr_any rfl) (by rfl) B.any b_any (pa_cons
              (pe_lc (own := [("goal", 7)]) (g := gName 7) (tt := tYes) rfl scUseful.nd (pi_list (pe_call G1 hr (by rfl) F1.mg F1.fn.kp F1.b .nil pass0 (pa_cons (pv 0) (pa_cons (pv 1) (pa_cons (pv 5) pa_nil)))))
                (blkOk_by (N := nUseful) (sc := defScope sUseful) (by decide +kernel)) (fun _ _ _ _ _ => pg_name (i := 7) scUseful.nd rfl (Or.inl rfl)) (fun _ _ _ _ _ => pts_nil)
                (fun _ _ _ _ _ => pe_cmp (c_xin (hu_of hr) (pv 7) (pv 4)))) pa_nil)))
            (pss_one (ps_xput (hu_of hr) (pv 4) (pv 5) pe_bl (by rfl))) pss_nil))))))
      (pss_one (ps_ret (pv 4))))))), ?_⟩
    refine ⟨_, rfl, _, rfl, _, rfl, p, q, a, m, k, L, t, rfl, hp, hq, o1, o2, ht, gr, fun H0 kn qs s0 nkn hkn hpts cm hreach => ?_⟩
    intro d nd0
    have nd : H d = none := s0.free nd0
    have hlen : qs.length ≤ 64 := by have := grid_len o1 o2 cm.nd cm.grid; rwa [List.length_map] at this
    have hdkn : d ≠ kn := fun z => by rw [z, hkn] at nd0; cases nd0
    have onR : ∀ {i b x}, qs[i]? = some (b, x) → x ∈ qs.map (·.2) := fun h => List.mem_map_of_mem (f := (·.2)) (List.mem_of_getElem? h)
    have s1 : Same H0 (upd H0 d (dxO P w d [])) := same_new nd0
    refine ⟨_, rfl, kn, rfl, ⟨_, SqL.of (s1 _ _ hkn)⟩, for_list (K := K) (a := kn) (xs := refs qs) (fun i σ H1 => ∃ es v5, σ = [some (.ref p), some (.ref q), some (.ref a), some (.ref kn), some (.ref d), v5, none, none] ∧ Same H0 H1 ∧ UseI P w K m k (qs.map (·.2)) H0 H1 d es ∧
      ∀ x ∈ (qs.take i).map (·.2), ul m k x = true → x ∈ es.map (·.1)) ⟨[], none, rfl, s1, ⟨s1, nd0, upd_same, fun e he => (nomatch he), List.nodup_nil, fun x hx => (nomatch hx), fun x hx => (nomatch hx)⟩, fun x hx => by simp at hx⟩
      (fun _ _ _ _ ⟨_, _, _, s2, _⟩ => SqL.of (s2 _ _ hkn)) ?_ ?_⟩
    · rintro i y σ H1 hy ⟨es, v5, rfl, s2, I, hin⟩
      obtain ⟨⟨b, x⟩, hx, rfl⟩ := refs_get hy
      have hbx : PtAt K H1 b x := (hpts _ (List.mem_of_getElem? hx)).same s2
      have etk : (qs.take (i + 1)).map (·.2) = (qs.take i).map (·.2) ++ [x] := by rw [List.take_succ, hx, List.map_append]; rfl
      refine ⟨_, rfl, _, rfl, _, rfl, p, q, b, m, k, x, rfl, (hp.same s0).same s2, (hq.same s0).same s2, hbx, _, rfl, ?_⟩
      cases hu : ul m k x with
      | false =>
        refine iteF ⟨es, _, rfl, s2, I, fun y hy h => ?_⟩
        rw [etk] at hy
        rcases List.mem_append.mp hy with h1 | h1
        · exact hin y h1 h
        · rw [List.mem_singleton.mp h1, hu] at h; cases h
      | true =>
        refine iteT ⟨_, rfl, _, rfl, _, ⟨d, b, es, x, rfl, rfl, I.hd, I.keys, hbx, small1000 (by have := I.len o1 o2 cm; omega), rfl⟩, ?_⟩
        refine ⟨_, _, rfl, same_upd s2 nd0, I.put hbx (onR hx) ⟨0, by show 0 < (if ul m k x = true then 1 else 0); rw [hu]; decide⟩, fun y hy h => putX_in.mpr ?_⟩
        rw [etk] at hy
        rcases List.mem_append.mp hy with h1 | h1
        · exact .inl (hin y h1 h)
        · exact .inr (List.mem_singleton.mp h1)
    · rintro σ H1 ⟨es, v5, rfl, s2, I, hin⟩
      rw [refs_len, List.take_length] at hin
      refine ⟨_, rfl, ?_⟩
      refine ⟨fun mm σ H2 => ∃ (es : List Ent) (bf : Int) (v5 : Option V), σ = [some (.ref p), some (.ref q), some (.ref a), some (.ref kn), some (.ref d), v5, some (.int bf), none] ∧ UseI P w K m k (qs.map (·.2)) H0 H2 d es ∧
        (∀ x ∈ qs.map (·.2), ul m k x = true → x ∈ es.map (·.1)) ∧ -1 ≤ bf ∧ bf ≤ es.length ∧ (bf = es.length → ∀ x ∈ qs.map (·.2), (∃ y ∈ gl m k x, y ∈ es.map (·.1)) → x ∈ es.map (·.1)) ∧ mm = (65 - bf).toNat,
        ⟨66, es, -1, v5, rfl, I, hin, by omega, by omega, fun h => absurd h (by omega), rfl⟩, ?_⟩
      rintro mm σ H2 ⟨es, bf, v5, rfl, I, hin, hb1, hb2, hst, rfl⟩
      have h64 := I.len o1 o2 cm
      refine ⟨_, rfl, _, rfl, d, es, rfl, .inl I.hd, I.keys, _, _, rfl, rfl, _, rfl, ?_⟩
      by_cases hlt : bf < (es.length : Int)
      · rw [decide_eq_true hlt]
        refine iteT ⟨fun σ H3 => ∃ es2 v5, σ = [some (.ref p), some (.ref q), some (.ref a), some (.ref kn), some (.ref d), v5, some (.int (es.length : Nat)), none] ∧ UseI P w K m k (qs.map (·.2)) H0 H3 d es2 ∧
          (∀ x ∈ qs.map (·.2), ul m k x = true → x ∈ es2.map (·.1)) ∧ es.length ≤ es2.length ∧ (es.length = es2.length → ∀ x ∈ qs.map (·.2), (∃ y ∈ gl m k x, y ∈ es2.map (·.1)) → x ∈ es2.map (·.1)),
          fun σ H3 ⟨es2, v5, e, I2, h1, h2, h3⟩ => ⟨(65 - (es.length : Int)).toNat, by omega, es2, (es.length : Nat), v5, e, I2, h1, by omega, by omega, fun h => h3 (by omega), rfl⟩, ?_⟩
        refine ⟨_, rfl, d, es, rfl, .inl I.hd, I.keys, ?_⟩
        refine ⟨_, rfl, kn, rfl, ⟨_, SqL.of (I.same _ _ hkn)⟩, for_list (K := K) (a := kn) (xs := refs qs) (fun i σ H3 => ∃ es2 v5, σ = [some (.ref p), some (.ref q), some (.ref a), some (.ref kn), some (.ref d), v5, some (.int (es.length : Nat)), none] ∧ UseI P w K m k (qs.map (·.2)) H0 H3 d es2 ∧
          (∀ x ∈ qs.map (·.2), ul m k x = true → x ∈ es2.map (·.1)) ∧ es.length ≤ es2.length ∧ (es.length = es2.length → ∀ x ∈ (qs.take i).map (·.2), (∃ y ∈ gl m k x, y ∈ es2.map (·.1)) → x ∈ es2.map (·.1)))
          ⟨es, v5, rfl, I, hin, Nat.le_refl _, fun _ x hx => by simp at hx⟩ (fun _ _ _ _ ⟨_, _, _, I2, _⟩ => SqL.of (I2.same _ _ hkn)) ?_ ?_⟩
        · rintro i y σ H3 hy ⟨es2, v5, rfl, I2, hin2, hle, hst2⟩
          obtain ⟨⟨b, x⟩, hx, rfl⟩ := refs_get hy
          have hbx : PtAt K H3 b x := (hpts _ (List.mem_of_getElem? hx)).same I2.same
          have h64b := I2.len o1 o2 cm
          have hxR := onR hx
          have etk : (qs.take (i + 1)).map (·.2) = (qs.take i).map (·.2) ++ [x] := by rw [List.take_succ, hx, List.map_append]; rfl
          refine ⟨_, rfl, _, rfl, _, rfl, p, q, b, m, k, L, x, rfl, (hp.same s0).same I2.same, (hq.same s0).same I2.same, o1, o2, hbx, cm.grid _ hxR, fun H4 la gs s4 nla hla hgs hgp => ⟨la, rfl, ⟨_, SqL.of hla⟩, fun D nD => ?_⟩⟩
          have s4D : ∀ {o}, Same H4 (upd H4 D o) := same_new nD
          refine lc_list (K := K) (a := la) (xs := refs gs) (fun j H5 => H5 D = some (.lst (((gs.take j).map fun e => decide (e.2 ∈ es2.map (·.1))).map V.bl)) ∧ Same H4 H5) ⟨upd_same, s4D⟩ (fun _ _ _ ⟨_, s5⟩ => SqL.of (s5 _ _ hla)) ?_ ?_
          · rintro j y H5 hy ⟨hD, s5⟩
            obtain ⟨⟨g, z⟩, hg, rfl⟩ := refs_get hy
            have hgz : PtAt K H5 g z := (hgp _ (List.mem_of_getElem? hg)).same s5
            refine ⟨rfl, ?_⟩
            refine tyes ?_
            refine ⟨_, rfl, _, rfl, getX es2 z, ⟨d, g, es2, z, rfl, rfl, .inl (s5 _ _ (s4 _ _ I2.hd)), (I2.keys.same s4).same s5, hgz, rfl⟩, ?_⟩
            have glen : gs.length = L := by
              have := gl_len o1 o2 (cm.grid _ hxR)
              rw [← hgs, List.length_map] at this
              exact this
            have hj : j < gs.length := (List.getElem?_eq_some_iff.mp hg).1
            have l3 := o1.l3
            refine ⟨_, hD, small1000 (by rw [List.length_map, List.length_map, List.length_take]; omega), ?_, same_upd s5 nD⟩
            rw [upd_same, getX_isSome, List.take_succ, hg, List.map_append, List.map_append]
            rfl
          · rintro H5 ⟨hD, s5⟩
            rw [refs_len, List.take_length] at hD
            refine ⟨D, _, rfl, SqL.of hD, _, rfl, ?_⟩
            have s35 : Same H3 H5 := s4.trans s5
            have I5 : UseI P w K m k (qs.map (·.2)) H0 H5 d es2 := ⟨I2.same.trans s35, I2.nd, s35 _ _ I2.hd, I2.keys.same s35, I2.nod, I2.sub, I2.pos⟩
            by_cases hany : ∃ y ∈ gs.map (·.2), y ∈ es2.map (·.1)
            · rw [(any_take gs (es2.map (·.1))).mpr hany]
              refine iteT ⟨_, rfl, _, rfl, _, ⟨d, b, es2, x, rfl, rfl, I5.hd, I5.keys, hbx.same s35, small1000 (by omega), rfl⟩, ?_⟩
              have hpos : ∃ l, 0 < cnt (gl m k) (ul m k) l x := by
                obtain ⟨y, hy, hyU⟩ := hany
                obtain ⟨l, hl⟩ := I2.pos y hyU
                exact ⟨l + 1, cnt_step (by rw [← hgs]; exact hy) hl⟩
              have elen : (putX es2 x b (V.bl true)).length = ((putX es2 x b (V.bl true)).map (·.1)).length := (List.length_map ..).symm
              refine ⟨_, _, rfl, I5.put (hbx.same s35) hxR hpos, fun y hy h => putX_in.mpr (.inl (hin2 y hy h)), ?_, fun he z hz hex => ?_⟩
              · rw [elen, putX_keys]
                split
                · rw [List.length_map]; exact hle
                · rw [List.length_append, List.length_map]; omega
              · by_cases hxU : x ∈ es2.map (·.1)
                · have ek : (putX es2 x b (V.bl true)).map (·.1) = es2.map (·.1) := by rw [putX_keys, if_pos hxU]
                  rw [ek] at hex ⊢
                  rw [etk] at hz
                  rcases List.mem_append.mp hz with h1 | h1
                  · exact hst2 (by rw [elen, ek, List.length_map] at he; exact he) z h1 hex
                  · rw [List.mem_singleton.mp h1]; exact hxU
                · rw [elen, putX_keys, if_neg hxU, List.length_append, List.length_map] at he
                  simp only [List.length_singleton] at he
                  omega
            · have : ((gs.map fun e => decide (e.2 ∈ es2.map (·.1))).any id) = false := by
                cases e : (gs.map fun e => decide (e.2 ∈ es2.map (·.1))).any id with
                | false => rfl
                | true => exact absurd ((any_take gs _).mp e) hany
              rw [this]
              refine iteF ⟨es2, _, rfl, I5, hin2, hle, fun he z hz hex => ?_⟩
              rw [etk] at hz
              rcases List.mem_append.mp hz with h1 | h1
              · exact hst2 he z h1 hex
              · rw [List.mem_singleton.mp h1, ← hgs] at hex; exact absurd hex hany
        · rintro σ H3 ⟨es2, v5, rfl, I2, hin2, hle, hst2⟩
          rw [refs_len, List.take_length] at hst2
          exact ⟨es2, v5, rfl, I2, hin2, hle, hst2⟩
      · rw [decide_eq_false hlt]
        refine iteF ⟨_, rfl, kk H2 d es (qs.map (·.2)) (s0.trans I.same) nd I.hd I.keys cm hreach ⟨I.nod, I.sub, I.pos, fun x hx l hl => ?_⟩⟩
        have hst' := hst (by omega)
        have all : ∀ l x, x ∈ qs.map (·.2) → 0 < cnt (gl m k) (ul m k) l x → x ∈ es.map (·.1) := by
          intro l
          induction l with
          | zero =>
            intro x hx h
            refine hin x hx ?_
            cases hu : ul m k x with
            | true => rfl
            | false =>
              have h' : 0 < (if ul m k x = true then 1 else 0) := h
              rw [hu] at h'
              exact absurd h' (by decide)
          | succ l ih =>
            intro x hx h
            obtain ⟨y, hy, h1⟩ := cnt_goal h
            exact hst' x hx ⟨y, hy, ih y (cm.cl x hx y hy) h1⟩
        exact all l x hx hl
end
end Bf
set_option Elab.async false
set_option linter.all false
set_option maxRecDepth 100000
set_option maxHeartbeats 4000000
/-! BfP5: butfewrows/pairs: counted; butfewrows/differing. -/
namespace Bf
open PySem PySem.Spec PyProof.Rows L2
abbrev nCounted : List Str := ["one", "other", "begin", "some", "known", "changed", "pair", "goals", "own", "many", "goal"]
abbrev sCounted : Stmt := top 21
theorem scCounted : FnScope nCounted nThree (defScope sCounted) := ⟨rfl, rfl, rfl, by decide +kernel, rfl, by decide +kernel, by decide +kernel⟩
/-- an entry of the known ones -/
def KnV (H : Hp) (e : Ent) (q : Pt × Nat) : Prop := e.1 = q.1 ∧ ∃ (ta : Addr) (far : Int), e.2.2 = .ref ta ∧ H ta = some (.tup [.int (q.2 : Nat), .int far])
theorem kn_keys {H : Hp} {es : List Ent} {ks : List (Pt × Nat)} (h : Paired (KnV H) es ks) : es.map (·.1) = ks.map (·.1) := by
  induction h with
  | nil => rfl
  | cons h _ ih => rw [List.map_cons, List.map_cons, ih, h.1]
theorem kn_get {H : Hp} {es : List Ent} {ks : List (Pt × Nat)} (h : Paired (KnV H) es ks) (p : Pt) : (getX es p = none ∧ (ks.find? fun e => decide (e.1 = p)) = none) ∨
    ∃ (ta : Addr) (far : Int) (n : Nat), getX es p = some (.ref ta) ∧ H ta = some (.tup [.int (n : Nat), .int far]) ∧ (ks.find? fun e => decide (e.1 = p)) = some (p, n) := by
  unfold getX
  induction h with
  | nil => exact .inl ⟨rfl, rfl⟩
  | @cons e q es ks h _ ih =>
    obtain ⟨h1, ta, far, h2, h3⟩ := h
    rw [List.find?_cons, List.find?_cons]
    by_cases hp : e.1 = p
    · have hq : q.1 = p := by rw [← h1]; exact hp
      rw [decide_eq_true hp, decide_eq_true hq]
      refine .inr ⟨ta, far, q.2, by rw [← h2]; rfl, h3, ?_⟩
      rw [← hq]
    · have hq : ¬ q.1 = p := by rw [← h1]; exact hp
      rw [decide_eq_false hp, decide_eq_false hq]
      exact ih
theorem KnV.same {H H' : Hp} (s : Same H H') (e : Ent) (q : Pt × Nat) (h : KnV H e q) : KnV H' e q := let ⟨h1, ta, far, h2, h3⟩ := h; ⟨h1, ta, far, h2, s _ _ h3⟩
theorem KnV.put {H : Hp} {d : Addr} {o o' : HO} (hd : H d = some o) (hn : noT o = true) (e : Ent) (q : Pt × Nat) (h : KnV H e q) : KnV (upd H d o') e q := let ⟨h1, ta, far, h2, h3⟩ := h;
  ⟨h1, ta, far, h2, by rw [upd_ne (ne_of h3 hd fun z => by rw [← z] at hn; cases hn)]; exact h3⟩
section
variable {P : Program} {w : World} {K : PySem.W.Frag} {mg : Str → Option Value} {base : Heap}
structure CntI (P : Program) (w : World) (K : PySem.W.Frag) (m k : Mac) (U : List Pt) (H H1 : Hp) (dS : Addr) (oS : HO) (esS : List Ent) (dK : Addr) (esK : List Ent) (ks : List (Pt × Nat)) : Prop where
  same : Same H H1
  nS : H dS = none
  nK : H dK = none
  ne : dS ≠ dK
  hS : H1 dS = some oS
  keysS : Keys K H1 esS
  hK : H1 dK = some (dxO P w dK esK)
  keysK : Keys K H1 esK
  vals : Paired (KnV H1) esK ks
  kn : Known (gl m k) (ul m k) U ks
section
variable {m k : Mac} {U : List Pt} {H H1 H2 : Hp} {dS dK : Addr} {oS oS' : HO} {esS esK : List Ent} {ks : List (Pt × Nat)}
theorem CntI.step (I : CntI P w K m k U H H1 dS oS esS dK esK ks) (s : Same H1 H2) : CntI P w K m k U H H2 dS oS esS dK esK ks :=
  ⟨I.same.trans s, I.nS, I.nK, I.ne, s _ _ I.hS, I.keysS.same s, s _ _ I.hK, I.keysK.same s, L2.Paired.mapP I.vals (KnV.same s), I.kn⟩
theorem CntI.relock (I : CntI P w K m k U H H1 dS oS esS dK esK ks) (hn : noT oS = true) : CntI P w K m k U H (upd H1 dS oS') dS oS' esS dK esK ks :=
  ⟨same_upd I.same I.nS, I.nS, I.nK, I.ne, upd_same, I.keysS.put I.hS hn, by rw [upd_ne I.ne.symm]; exact I.hK, I.keysK.put I.hS hn, L2.Paired.mapP I.vals (KnV.put I.hS hn), I.kn⟩
theorem CntI.put (I : CntI P w K m k U H H1 dS oS esS dK esK ks) {b ta : Addr} {x : Pt} {n : Nat} {far : Int} (hb : PtAt K H1 b x) (hx : x ∉ ks.map (·.1)) (ht : H1 ta = some (.tup [.int (n : Nat), .int far])) (kn : Known (gl m k) (ul m k) U (ks ++ [(x, n)])) :
    CntI P w K m k U H (upd H1 dK (dxO P w dK (putX esK x b (.ref ta)))) dS oS esS dK (esK ++ [(x, b, .ref ta)]) (ks ++ [(x, n)]) := by
  have e : putX esK x b (.ref ta) = esK ++ [(x, b, .ref ta)] := putX_new b (.ref ta) (getX_out (by rw [kn_keys I.vals]; exact hx))
  have hkk : Keys K H1 (esK ++ [(x, b, .ref ta)]) := by rw [← e]; exact I.keysK.putX hb
  rw [e]
  exact ⟨same_upd I.same I.nK, I.nS, I.nK, I.ne, by rw [upd_ne I.ne]; exact I.hS, I.keysS.put I.hK rfl, upd_same, hkk.put I.hK rfl, (L2.Paired.mapP I.vals (KnV.put I.hK rfl)).snoc (KnV.put I.hK rfl _ _ ⟨rfl, ta, far, rfl, ht⟩), kn⟩
theorem CntI.len (I : CntI P w K m k U H H1 dS oS esS dK esK ks) : ks.length ≤ U.length := by
  have := nodup_len I.kn.nd I.kn.sub
  rwa [List.length_map] at this
end
def spCounted (K : PySem.W.Frag) (C : Addr) : Sp := fun vs H Q _ => ∃ p q a m k L t, vs = [.ref p, .ref q, .ref a] ∧ MacAt C H p m ∧ MacAt C H q k ∧ m.Ok L ∧ k.Ok L ∧ PtAt K H a t ∧ Grid m k t ∧
  (∀ H', Same H H' → Res (gl m k) (ul m k) t none → Q .non H') ∧ ∀ (H' : Hp) (ta : Addr) (n : Nat) (far : Int), Same H H' → Res (gl m k) (ul m k) t (some n) → H' ta = some (.tup [.int (n : Nat), .int far]) → Q (.ref ta) H'
theorem tif_own {b : Bool} {σ : L2.St} {H : Hp} {Q : VK} (h : Q (.int (((if b = true then 1 else 0 : Nat) : Nat) : Int)) H) : if b = true then tC (.int 1) σ H Q else tC (.int 0) σ H Q := by
  cases b with
  | true => exact iteT h
  | false => exact iteF h
theorem sum_cast (ms : List Nat) : (ms.map fun n : Nat => ((n : Nat) : Int)).sum = ((ms.sum : Nat) : Int) := by
  induction ms with
  | nil => rfl
  | cons a r ih => rw [List.map_cons, List.sum_cons, List.sum_cons, ih]; omega
theorem map_vi (ms : List Nat) : ms.map vi = (ms.map fun n : Nat => ((n : Nat) : Int)).map V.int := by rw [List.map_map]; rfl
theorem filter_pts {gs : List (Addr × Pt)} {U : List Pt} : (gs.filter fun e => decide (e.2 ∈ U)).map (·.2) = (gs.map (·.2)).filter fun q => decide (q ∈ U) := by
  rw [List.filter_map]
  rfl
theorem take_mem_next {es : List Ent} {i : Nat} {e : Ent} (h : es[i]? = some e) : (es.take (i + 1)).map (·.1) = (es.take i).map (·.1) ++ [e.1] := by rw [List.take_succ, h, List.map_append]; rfl
theorem ok_counted {f f1 f2 f3 f4 C : Addr} {fd fd1 fd2 fd3 fd4 : FuncData} (F : DefAt K mg "counted" sCounted nThree f fd) (F1 : DefAt K mg "goals_of" sGoals nPair f1 fd1) (F2 : DefAt K mg "come_to" sComeTo nThree f2 fd2)
    (F3 : DefAt K mg "is_unlike" sIsUnlike nPair f3 fd3) (F4 : DefAt K mg "useful" sUseful nThree f4 fd4) (T : MacC K mg C) (B : Bl mg) : FnOk P w K mg base CX0 4 f fd nThree (spCounted K C) := by
  refine F.fn.ok scCounted (fun vs H Q E h => ?_) (fun cdv A outer s H vs Q E hr h => ?_)
  · obtain ⟨p, q, a, m, k, L, t, rfl, _⟩ := h
    rfl
  · obtain ⟨p, q, a, m, k, L, t, rfl, hp, hq, o1, o2, ht, gr, kk1, kk2⟩ := h
    have G1 : FnOk P w K mg base CX0 3 f1 fd1 nPair (spGoals K C) := (ok_goals F1 T B).mono (by decide)
    have G3 : FnOk P w K mg base CX0 3 f3 fd3 nPair (spIsUnlike K C) := (ok_isUnlike F3 T).mono (by decide)
    have G4 : FnOk P w K mg base CX0 3 f4 fd4 nThree (spUseful P w K C) := ok_useful F4 F1 F2 F3 T B
    have blk : ∀ {sc : Scope}, blkC nCounted (defScope sCounted) sc [("goal", 10)] = true → BlkOk nCounted (defScope sCounted) sc [("goal", 10)] := fun h => blkOk_by h
    refine ⟨_, pss_cons (ps_asg (pe_tup (pa_cons (pe_call G4 hr (by rfl) F4.mg F4.fn.kp F4.b .nil pass0 (pa_cons (pv 0) (pa_cons (pv 1) (pa_cons (pv 2) pa_nil)))) (pa_cons pe_xnew pa_nil)))
        (pg_tup rfl (pgs_cons (pg_name (i := 3) scCounted.nd rfl (.inr rfl)) (pgs_cons (pg_name (i := 4) scCounted.nd rfl (.inr rfl)) pgs_nil))) (by rfl) (by rfl))
      (pss_cons (ps_set (i := 5) scCounted.nd rfl (.inl rfl) pe_bl)
      (pss_cons (ps_while PassesOwn.never (pt_val (pv 5))
        (pss_cons (ps_set (i := 5) scCounted.nd rfl (.inl rfl) pe_bl)
        (pss_one (ps_lock (ps_for PassesOwn.never rfl (pi_xkeys (pv 3)) (pg_name (i := 6) scCounted.nd rfl (.inl rfl))
          (pss_cons (ps_setLc (i := 7) (own := [("goal", 10)]) (g := gName 10) rfl scCounted.nd rfl rfl (sw_true rfl rfl rfl (by decide +kernel))
              (pi_list (pe_call G1 hr (by rfl) F1.mg F1.fn.kp F1.b .nil pass0 (pa_cons (pv 0) (pa_cons (pv 1) (pa_cons (pv 6) pa_nil))))) (blk (by decide +kernel))
              (fun _ _ _ _ _ => pg_name (i := 10) scCounted.nd rfl (Or.inl rfl)) (fun _ _ _ _ _ => pts_one (pt_cmp (c_xin (hu_of hr) (pv 10) (pv 3)))) (fun _ _ _ _ _ => pv 10))
          (pss_one (ps_if (PW.pt (pw_and (pt_cmp (pc_xnotin (hu_of hr) (pv 6) (pv 4))) (pw_and1 (pt_val (pe_callB (cr_all rfl) (by rfl) B.all b_all (pa_cons
                (pe_lc (own := [("goal", 10)]) (g := gName 10) (tt := tYes) rfl scCounted.nd (pi_list (pv 7)) (blk (by decide +kernel)) (fun _ _ _ _ _ => pg_name (i := 10) scCounted.nd rfl (Or.inl rfl)) (fun _ _ _ _ _ => pts_nil)
                  (fun _ _ _ _ _ => pe_cmp (c_xin (hu_of hr) (pv 10) (pv 4)))) pa_nil))))))
            (pss_cons (ps_set (i := 8) scCounted.nd rfl (.inl rfl) (pe_ifExp (pt_val (pe_call G3 hr (by rfl) F3.mg F3.fn.kp F3.b .nil pass0 (pa_cons (pv 0) (pa_cons (pv 1) (pa_cons (pv 6) pa_nil))))) pe_int pe_int))
            (pss_cons (ps_set (i := 9) scCounted.nd rfl (.inl rfl) (pe_op op_add (pv 8) (pe_callB (cr_sum rfl) (by rfl) B.sum b_sum (pa_cons
                (pe_lc (own := [("goal", 10)]) (g := gName 10) (tt := tYes) rfl scCounted.nd (pi_list (pv 7)) (blk (by decide +kernel)) (fun _ _ _ _ _ => pg_name (i := 10) scCounted.nd rfl (Or.inl rfl)) (fun _ _ _ _ _ => pts_nil)
                  (fun _ _ _ _ _ => pe_ix i_tup (e_xget (hu_of hr) (pv 4) (pv 10) (fun _ _ => rfl)) pe_int (fun _ _ => rfl))) pa_nil))))
            (pss_cons (ps_xput (hu_of hr) (pv 4) (pv 6) (pe_tup (pa_cons (pv 9) (pa_cons (pe_callB (cr_max rfl) (by rfl) B.max b_max (pa_cons (pe_op op_cat (pe_lst (pa_cons (pe_op op_sub (pv 8) pe_int) pa_nil))
                (pe_lc (own := [("goal", 10)]) (g := gName 10) (tt := tYes) rfl scCounted.nd (pi_list (pv 7)) (blk (by decide +kernel)) (fun _ _ _ _ _ => pg_name (i := 10) scCounted.nd rfl (Or.inl rfl)) (fun _ _ _ _ _ => pts_nil)
                  (fun _ _ _ _ _ => pe_op op_add (pe_ix i_tup (e_xget (hu_of hr) (pv 4) (pv 10) (fun _ _ => rfl)) pe_int (fun _ _ => rfl)) pe_int))) pa_nil)) pa_nil))) (by rfl))
            (pss_one (ps_set (i := 5) scCounted.nd rfl (.inl rfl) pe_bl))))) pss_nil))))))))
      (pss_cons (ps_if (pt_cmpR op_lt (pe_callB call_xlen (by rfl) B.len b_len (pa_cons (pv 4) pa_nil)) (pe_callB call_xlen (by rfl) B.len b_len (pa_cons (pv 3) pa_nil)) (nomark _)) (pss_one (ps_ret pe_non)) pss_nil)
      (pss_one (ps_ret (pe_xget2 (hu_of hr) (pv 4) (pv 2) (pe_tup (pa_cons pe_int (pa_cons (pe_un un_neg pe_int) pa_nil))) ⟨by rfl, by rfl, by rfl, by rfl⟩)))))), ?_⟩
    refine ⟨_, rfl, _, rfl, _, rfl, p, q, a, m, k, L, t, rfl, hp, hq, o1, o2, ht, gr, fun H0 dS esS R s0 nS hdS hkS cm hreach hU => ?_⟩
    intro dK nK0
    have nK : H dK = none := s0.free nK0
    have hne : dS ≠ dK := fun z => by rw [← z, hdS] at nK0; cases nK0
    refine ⟨two_line, fun T0 nT0 => ⟨T0, _, rfl, SqT.of upd_same, rfl, _, _, rfl, _, _, rfl, rfl, ?_⟩⟩
    have sA : Same H0 (upd H0 dK (dxO P w dK [])) := same_new nK0
    have sB := sA.trans (same_new nT0 (o := .tup [.ref dS, .ref dK]))
    have hUlen : (esS.map (·.1)).length ≤ 64 := grid_len o1 o2 hU.nd fun x hx => cm.grid x (hU.sub x hx)
    have hSlen : esS.length ≤ 64 := by rwa [List.length_map] at hUlen
    have nKT : dK ≠ T0 := fun z => by rw [← z, upd_same] at nT0; cases nT0
    have I0 : CntI P w K m k (esS.map (·.1)) H (upd (upd H0 dK (dxO P w dK [])) T0 (.tup [.ref dS, .ref dK])) dS (dxO P w dS esS) esS dK [] [] :=
      ⟨s0.trans sB, nS, nK, hne, sB _ _ hdS, hkS.same sB, by rw [upd_ne nKT]; exact upd_same, fun e he => (nomatch he), .nil, known_nil⟩
    refine ⟨fun mm σ H1 => ∃ (b : Bool) (v6 v7 v8 v9 : Option V) (esK : List Ent) (ks : List (Pt × Nat)), σ = [some (.ref p), some (.ref q), some (.ref a), some (.ref dS), some (.ref dK), some (.bl b), v6, v7, v8, v9, none] ∧
      CntI P w K m k (esS.map (·.1)) H H1 dS (dxO P w dS esS) esS dK esK ks ∧ (b = false → ∀ x ∈ esS.map (·.1), x ∉ ks.map (·.1) → ∃ r ∈ gl m k x, r ∈ esS.map (·.1) ∧ r ∉ ks.map (·.1)) ∧
      mm = 2 * (65 - ks.length) + (if b = true then 1 else 0), ⟨_, true, none, none, none, none, [], [], rfl, I0, fun h => (nomatch h), rfl⟩, ?_⟩
    rintro mm σ H1 ⟨b, v6, v7, v8, v9, esK, ks, rfl, I, hst, rfl⟩
    have hks64 : ks.length ≤ 64 := Nat.le_trans I.len hUlen
    refine ⟨_, rfl, b, rfl, ?_⟩
    cases b with
    | false =>
      refine iteF ?_
      refine ⟨_, rfl, dK, esK, rfl, .inl I.hK, I.keysK, _, rfl, dS, esS, rfl, .inl I.hS, I.keysS, _, _, rfl, rfl, _, rfl, ?_⟩
      have hl : esK.length = ks.length := Paired.length I.vals
      have key := res_known cm.cl cm.mem hreach hU I.kn (hst rfl)
      rw [List.length_map] at key
      by_cases hlt : ks.length < esS.length
      · rw [decide_eq_true (show ((esK.length : Nat) : Int) < ((esS.length : Nat) : Int) by omega)]
        exact iteT (kk1 H1 I.same (key.1 hlt))
      · rw [decide_eq_false (show ¬ ((esK.length : Nat) : Int) < ((esS.length : Nat) : Int) by omega)]
        refine iteF ?_
        refine ⟨_, rfl, ⟨dK, esK, rfl, .inl I.hK, I.keysK⟩, _, rfl, ?_⟩
        refine ⟨_, rfl, two_line, fun T1 nT1 => ⟨getX esK t, ⟨dK, a, esK, t, rfl, rfl, .inl (same_new nT1 _ _ I.hK), I.keysK.same (same_new nT1), (ht.same I.same).same (same_new nT1), rfl⟩, ?_⟩⟩
        rcases kn_get I.vals t with ⟨h1, h2⟩ | ⟨ta, far, n, h1, h2, h3⟩
        · rw [h1]
          exact kk2 _ T1 0 (-1) (I.same.trans (same_new nT1)) (key.2.2 hlt h2) upd_same
        · rw [h1]
          exact kk2 _ ta n far (I.same.trans (same_new nT1)) (key.2.1 hlt n (by rw [h3]; rfl)) (same_new nT1 _ _ h2)
    | true =>
      refine iteT ⟨fun σ H3 => ∃ (b : Bool) (v6 v7 v8 v9 : Option V) (esK2 : List Ent) (ks2 : List (Pt × Nat)), σ = [some (.ref p), some (.ref q), some (.ref a), some (.ref dS), some (.ref dK), some (.bl b), v6, v7, v8, v9, none] ∧
        CntI P w K m k (esS.map (·.1)) H H3 dS (dxO P w dS esS) esS dK esK2 ks2 ∧ ((b = true ∧ ks.length < ks2.length) ∨ (b = false ∧ ks2 = ks ∧ ∀ x ∈ esS.map (·.1), x ∉ ks.map (·.1) → ∃ r ∈ gl m k x, r ∈ esS.map (·.1) ∧ r ∉ ks.map (·.1))), ?_, ?_⟩
      · rintro σ H3 ⟨b, v6, v7, v8, v9, esK2, ks2, e, I3, h⟩
        refine ⟨_, ?_, b, v6, v7, v8, v9, esK2, ks2, e, I3, fun hb => ?_, rfl⟩
        · have := I3.len
          rcases h with ⟨rfl, h⟩ | ⟨rfl, rfl, _⟩
          · simp only [if_true]; omega
          · simp
        · rcases h with ⟨rfl, h⟩ | ⟨_, rfl, h⟩
          · cases hb
          · exact h
      refine ⟨dS, _, I.hS, True.intro, fun od => ?_⟩
      refine ⟨_, rfl, dS, od, esS, rfl, upd_same, for_it walk_x (fun i σ H3 => ∃ (b : Bool) (v6 v7 v8 v9 : Option V) (esK2 : List Ent) (ks2 : List (Pt × Nat)), σ = [some (.ref p), some (.ref q), some (.ref a), some (.ref dS), some (.ref dK), some (.bl b), v6, v7, v8, v9, none] ∧
        CntI P w K m k (esS.map (·.1)) H H3 dS (.frz od (dxO P w dS esS)) esS dK esK2 ks2 ∧ ((b = true ∧ ks.length < ks2.length) ∨ (b = false ∧ ks2 = ks ∧ ∀ x ∈ (esS.take i).map (·.1), x ∉ ks.map (·.1) → ∃ r ∈ gl m k x, r ∈ esS.map (·.1) ∧ r ∉ ks.map (·.1))))
        ⟨false, v6, v7, v8, v9, esK, ks, rfl, I.relock rfl, .inr ⟨rfl, rfl, fun x hx => by simp at hx⟩⟩ (fun _ _ _ _ ⟨_, _, _, _, _, _, _, _, I3, _⟩ => I3.hS) ?_ ?_⟩
      · rintro i y σ H3 H3' hi ⟨b, v6, v7, v8, v9, esK2, ks2, rfl, I3, hor⟩ ⟨rfl, e, he, rfl⟩
        have heU : e.1 ∈ esS.map (·.1) := List.mem_map_of_mem (f := (·.1)) (List.mem_of_getElem? he)
        have hbx : PtAt K H3' e.2.1 e.1 := I3.keysS e (List.mem_of_getElem? he)
        have etk := take_mem_next he
        have hk2 : ks2.length ≤ 64 := Nat.le_trans I3.len hUlen
        refine ⟨_, rfl, _, rfl, _, rfl, p, q, e.2.1, m, k, L, e.1, rfl, hp.same I3.same, hq.same I3.same, o1, o2, hbx, cm.grid _ (hU.sub _ heU), fun H4 la gs s4 nla hla hgs hgp => ⟨la, rfl, ⟨_, SqL.of hla⟩, fun D nD => ?_⟩⟩
        have glen : gs.length = L := by
          have := gl_len o1 o2 (cm.grid _ (hU.sub _ heU))
          rw [← hgs, List.length_map] at this
          exact this
        have l3 := o1.l3
        refine lc_list (K := K) (a := la) (xs := refs gs) (fun j H5 => H5 D = some (.lst (refs ((gs.take j).filter fun e => decide (e.2 ∈ esS.map (·.1))))) ∧ Same H4 H5) ⟨upd_same, same_new nD⟩ (fun _ _ _ ⟨_, s5⟩ => SqL.of (s5 _ _ hla)) ?_ ?_
        · rintro j y H5 hy ⟨hD, s5⟩
          obtain ⟨⟨g, z⟩, hg, rfl⟩ := refs_get hy
          have hgz : PtAt K H5 g z := (hgp _ (List.mem_of_getElem? hg)).same s5
          have hj : j < gs.length := (List.getElem?_eq_some_iff.mp hg).1
          refine ⟨rfl, ?_⟩
          refine ⟨_, rfl, _, rfl, getX esS z, ⟨dS, g, esS, z, rfl, rfl, .inr ⟨od, s5 _ _ (s4 _ _ I3.hS)⟩, (I3.keysS.same s4).same s5, hgz, rfl⟩, _, rfl, ?_⟩
          rw [getX_isSome]
          have et : (gs.take (j + 1)).filter (fun e => decide (e.2 ∈ esS.map (·.1))) = (gs.take j).filter (fun e => decide (e.2 ∈ esS.map (·.1))) ++ [((g, z) : Addr × Pt)].filter (fun e => decide (e.2 ∈ esS.map (·.1))) := by rw [List.take_succ, hg, List.filter_append]; rfl
          by_cases hz : z ∈ esS.map (·.1)
          · rw [decide_eq_true hz]
            have e2 : [((g, z) : Addr × Pt)].filter (fun e => decide (e.2 ∈ esS.map (·.1))) = [(g, z)] := List.filter_cons_of_pos (by simpa using hz)
            refine iteT ⟨_, rfl, _, hD, small1000 ?_, ?_, same_upd s5 nD⟩
            · rw [refs_len]
              have h1 := List.length_filter_le (fun e => decide (e.2 ∈ esS.map (·.1))) (gs.take j)
              have h2 : (gs.take j).length ≤ gs.length := by rw [List.length_take]; omega
              omega
            · rw [upd_same, et, e2, refs_app]
          · rw [decide_eq_false hz]
            have e2 : [((g, z) : Addr × Pt)].filter (fun e => decide (e.2 ∈ esS.map (·.1))) = [] := List.filter_cons_of_neg (by simpa using hz)
            exact iteF ⟨by rw [et, e2, List.append_nil]; exact hD, s5⟩
        · rintro H5 ⟨hD, s5⟩
          rw [refs_len, List.take_length] at hD
          have I5 := I3.step (s4.trans s5)
          have hbx5 : PtAt K H5 e.2.1 e.1 := (hbx.same s4).same s5
          have hfs : ((gs.filter fun e => decide (e.2 ∈ esS.map (·.1)))).map (·.2) = (gl m k e.1).filter fun q => decide (q ∈ esS.map (·.1)) := by rw [filter_pts, hgs]
          have hfp : PtsAt K H5 (gs.filter fun e => decide (e.2 ∈ esS.map (·.1))) := fun x hx => (hgp x (List.mem_filter.mp hx).1).same s5
          have hfl : (gs.filter fun e => decide (e.2 ∈ esS.map (·.1))).length ≤ 3 := by
            have := List.length_filter_le (fun e => decide (e.2 ∈ esS.map (·.1))) gs
            omega
          generalize hFS : (gs.filter fun e => decide (e.2 ∈ esS.map (·.1))) = fs at hD hfs hfp hfl
          refine ⟨_, rfl, _, rfl, getX esK2 e.1, ⟨dK, e.2.1, esK2, e.1, rfl, rfl, .inl I5.hK, I5.keysK, hbx5, rfl⟩, _, rfl, ?_⟩
          rw [getX_isSome, kn_keys I5.vals]
          by_cases hek : e.1 ∈ ks2.map (·.1)
          · rw [decide_eq_true hek]
            refine iteF (iteF ⟨b, _, _, _, _, esK2, ks2, rfl, I5, ?_⟩)
            rcases hor with h | ⟨h1, h2, h3⟩
            · exact .inl h
            · refine .inr ⟨h1, h2, fun x hx hxn => ?_⟩
              rw [etk] at hx
              rcases List.mem_append.mp hx with h4 | h4
              · exact h3 x h4 hxn
              · rw [List.mem_singleton.mp h4, ← h2] at hxn; exact absurd hek hxn
          · rw [decide_eq_false hek]
            refine iteT ?_
            refine ⟨_, rfl, D, rfl, ⟨_, SqL.of hD⟩, fun D2 nD2 => ?_⟩
            refine lc_list (K := K) (a := D) (xs := refs fs) (fun j H6 => H6 D2 = some (.lst (((fs.take j).map fun e => decide (e.2 ∈ ks2.map (·.1))).map V.bl)) ∧ Same H5 H6) ⟨upd_same, same_new nD2⟩ (fun _ _ _ ⟨_, s6⟩ => SqL.of (s6 _ _ hD)) ?_ ?_
            · rintro j y H6 hy ⟨hD2, s6⟩
              obtain ⟨⟨g, z⟩, hg, rfl⟩ := refs_get hy
              have hgz : PtAt K H6 g z := (hfp _ (List.mem_of_getElem? hg)).same s6
              have hj : j < fs.length := (List.getElem?_eq_some_iff.mp hg).1
              have I6 := I5.step s6
              refine ⟨rfl, ?_⟩
              refine tyes ?_
              refine ⟨_, rfl, _, rfl, getX esK2 z, ⟨dK, g, esK2, z, rfl, rfl, .inl I6.hK, I6.keysK, hgz, rfl⟩, ?_⟩
              refine ⟨_, hD2, small1000 (by rw [List.length_map, List.length_map, List.length_take]; omega), ?_, same_upd s6 nD2⟩
              rw [upd_same, getX_isSome, kn_keys I6.vals, List.take_succ, hg, List.map_append, List.map_append]
              rfl
            · rintro H6 ⟨hD2, s6⟩
              rw [refs_len, List.take_length] at hD2
              refine ⟨D2, _, rfl, SqL.of hD2, _, rfl, ?_⟩
              have I6 := I5.step s6
              by_cases hall : ∀ r ∈ fs, r.2 ∈ ks2.map (·.1)
              · have hall' : ((fs.map fun e => decide (e.2 ∈ ks2.map (·.1))).all id) = true := by
                  rw [List.all_eq_true]
                  intro x hx
                  obtain ⟨r, hr1, rfl⟩ := List.mem_map.mp hx
                  simpa using hall r hr1
                rw [hall']
                refine iteT ?_
                refine ⟨_, rfl, _, rfl, _, rfl, p, q, e.2.1, m, k, e.1, rfl, hp.same I6.same, hq.same I6.same, hbx5.same s6, _, rfl, ?_⟩
                refine tif_own ?_
                generalize hown : (if ul m k e.1 = true then 1 else 0 : Nat) = own
                refine ⟨_, rfl, _, rfl, D, rfl, ⟨_, SqL.of (s6 _ _ hD)⟩, fun D3 nD3 => ?_⟩
                refine lc_list (K := K) (a := D) (xs := refs fs) (fun j H7 => ∃ ms : List Nat, ms.length = j ∧ H7 D3 = some (.lst (ms.map vi)) ∧ Same H6 H7 ∧ ∀ (i : Nat) (x : Addr × Pt) (n : Nat), fs[i]? = some x → ms[i]? = some n → (x.2, n) ∈ ks2)
                  ⟨[], rfl, upd_same, same_new nD3, fun i x n _ h => by simp at h⟩ (fun _ _ _ ⟨_, _, _, s7, _⟩ => SqL.of (s7 _ _ (s6 _ _ hD))) ?_ ?_
                · rintro j y H7 hy ⟨ms, hml, hD3, s7, hms⟩
                  obtain ⟨⟨g, z⟩, hg, rfl⟩ := refs_get hy
                  have hgz : PtAt K H7 g z := ((hfp _ (List.mem_of_getElem? hg)).same s6).same s7
                  have hj : j < fs.length := (List.getElem?_eq_some_iff.mp hg).1
                  have I7 := I6.step s7
                  have hzk : z ∈ ks2.map (·.1) := hall _ (List.mem_of_getElem? hg)
                  rcases kn_get I7.vals z with ⟨h1, h2⟩ | ⟨ta, far, n, h1, h2, h3⟩
                  · have : z ∈ esK2.map (·.1) := by rw [kn_keys I7.vals]; exact hzk
                    obtain ⟨v, hv⟩ := getX_in this
                    rw [hv] at h1; cases h1
                  · refine ⟨rfl, ?_⟩
                    refine tyes ?_
                    refine ⟨_, rfl, _, rfl, _, ⟨dK, g, esK2, z, rfl, rfl, .inl I7.hK, I7.keysK, hgz, h1.symm⟩, _, _, _, _, rfl, rfl, SqT.of h2, atI_nat (j := 0) rfl, ?_⟩
                    refine ⟨_, hD3, small1000 (by rw [List.length_map]; omega), ms ++ [n], by rw [List.length_append, hml]; rfl, ?_, same_upd s7 nD3, fun i x n' h4 h5 => ?_⟩
                    · rw [upd_same, List.map_append]; rfl
                    · by_cases hi : i < ms.length
                      · rw [List.getElem?_append_left hi] at h5
                        exact hms i x n' h4 h5
                      · have hi2 : i = ms.length := by
                          have := (List.getElem?_eq_some_iff.mp h5).1
                          rw [List.length_append, List.length_singleton] at this
                          omega
                        subst hi2
                        rw [List.getElem?_append_right (Nat.le_refl _), Nat.sub_self] at h5
                        cases h5
                        rw [hml, hg] at h4
                        cases h4
                        exact List.mem_of_find?_eq_some h3
                · rintro H7 ⟨ms, hml, hD3, s7, hms⟩
                  rw [refs_len] at hml
                  rw [map_vi] at hD3
                  refine ⟨D3, _, rfl, SqL.of hD3, _, _, rfl, rfl, ?_⟩
                  rw [sum_cast]
                  have I7 := I6.step s7
                  refine ⟨_, rfl, ?_⟩
                  refine ⟨_, rfl, _, _, rfl, rfl, by show 1 ≤ sizeLine; decide, fun E1 nE1 => ?_⟩
                  have hDE : ∀ {o}, Same H7 (upd H7 E1 o) := same_new nE1
                  refine ⟨_, rfl, D, rfl, ⟨_, SqL.of (hDE _ _ (s7 _ _ (s6 _ _ hD)))⟩, fun D4 nD4 => ?_⟩
                  refine lc_list (K := K) (a := D) (xs := refs fs) (fun j H8 => ∃ ns : List Int, ns.length = j ∧ H8 D4 = some (.lst (ns.map V.int)) ∧ Same (upd H7 E1 (.lst [.int ((own : Int) - 1)])) H8) ⟨[], rfl, upd_same, same_new nD4⟩ (fun _ _ _ ⟨_, _, _, s8⟩ => SqL.of (s8 _ _ (hDE _ _ (s7 _ _ (s6 _ _ hD))))) ?_ ?_
                  · rintro j y H8 hy ⟨ns, hnl, hD4, s8⟩
                    obtain ⟨⟨g, z⟩, hg, rfl⟩ := refs_get hy
                    have hgz : PtAt K H8 g z := ((((hfp _ (List.mem_of_getElem? hg)).same s6).same s7).same hDE).same s8
                    have hj : j < fs.length := (List.getElem?_eq_some_iff.mp hg).1
                    have I8 := (I7.step hDE).step s8
                    have hzk : z ∈ ks2.map (·.1) := hall _ (List.mem_of_getElem? hg)
                    rcases kn_get I8.vals z with ⟨h1, h2⟩ | ⟨ta, far, n, h1, h2, h3⟩
                    · have : z ∈ esK2.map (·.1) := by rw [kn_keys I8.vals]; exact hzk
                      obtain ⟨v, hv⟩ := getX_in this
                      rw [hv] at h1; cases h1
                    · refine ⟨rfl, ?_⟩
                      refine tyes ?_
                      refine ⟨_, rfl, _, rfl, _, ⟨dK, g, esK2, z, rfl, rfl, .inl I8.hK, I8.keysK, hgz, h1.symm⟩, _, _, _, _, rfl, rfl, SqT.of h2, atI_nat (j := 1) rfl, _, _, rfl, rfl, ?_⟩
                      refine ⟨_, hD4, small1000 (by rw [List.length_map]; omega), ns ++ [far + 1], by rw [List.length_append, hnl]; rfl, ?_, same_upd s8 nD4⟩
                      rw [upd_same, List.map_append]; rfl
                  · rintro H8 ⟨ns, hnl, hD4, s8⟩
                    rw [refs_len] at hnl
                    have hE8 := s8 _ _ (upd_same (H := H7) (a := E1) (o := .lst [.int ((own : Int) - 1)]))
                    refine ⟨E1, D4, _, _, rfl, rfl, hE8, hD4, Nat.le_of_lt (small1000 (by rw [List.length_map, List.length_singleton]; omega)), fun E2 nE2 => ?_⟩
                    refine ⟨E2, ((own : Int) - 1) :: ns, rfl, SqL.of (by rw [upd_same]; rfl), by simp, fun far _ _ => ?_⟩
                    refine ⟨two_line, fun T2 nT2 => ?_⟩
                    have s9 : Same H8 (upd (upd H8 E2 (.lst ([.int ((own : Int) - 1)] ++ ns.map V.int))) T2 (.tup [.int ((own : Int) + ((ms.sum : Nat) : Int)), .int far])) := (same_new nE2).trans (same_new nT2)
                    have I9 := ((I7.step hDE).step s8).step s9
                    have hb9 : PtAt K _ e.2.1 e.1 := ((((hbx5.same s6).same s7).same hDE).same s8).same s9
                    have hl9 : esK2.length = ks2.length := Paired.length I9.vals
                    refine ⟨_, rfl, _, rfl, _, ⟨dK, e.2.1, esK2, e.1, rfl, rfl, I9.hK, I9.keysK, hb9, small1000 (by omega), rfl⟩, ?_⟩
                    have hkn := known_more cm.cl hU I9.kn heU hek (ms := ms) (by
                        refine Eq.trans (congrArg List.length (List.filter_congr fun x _ => decide_eq_decide.mpr Iff.rfl)) ((congrArg List.length hfs.symm).trans ?_)
                        rw [List.length_map]; omega) (fun j q n h4 h5 => by
                      have h4' : (fs.map (·.2))[j]? = some q := by
                        rw [hfs, ← h4]
                        exact congrArg (fun l => l[j]?) (List.filter_congr fun x _ => decide_eq_decide.mpr Iff.rfl)
                      obtain ⟨x, hx, rfl⟩ := map_get h4'
                      exact hms j x n hx h5)
                    rw [hown] at hkn
                    have eT : upd (upd H8 E2 (.lst ([.int ((own : Int) - 1)] ++ ns.map V.int))) T2 (.tup [.int ((own : Int) + ((ms.sum : Nat) : Int)), .int far]) T2 = some (.tup [.int ((own + ms.sum : Nat) : Int), .int far]) := by
                      rw [upd_same]
                      congr 4
                    refine ⟨true, _, _, _, _, _, ks2 ++ [(e.1, own + ms.sum)], rfl, I9.put hb9 hek eT hkn, .inl ⟨rfl, ?_⟩⟩
                    rw [List.length_append, List.length_singleton]
                    rcases hor with h | ⟨_, h2, _⟩
                    · omega
                    · rw [h2]; omega
              · have hall' : ((fs.map fun e => decide (e.2 ∈ ks2.map (·.1))).all id) = false := by
                  cases he2 : (fs.map fun e => decide (e.2 ∈ ks2.map (·.1))).all id with
                  | false => rfl
                  | true =>
                    refine absurd (fun r hr1 => ?_) hall
                    have := List.all_eq_true.mp he2 _ (List.mem_map_of_mem (f := fun e : Addr × Pt => decide (e.2 ∈ ks2.map (·.1))) hr1)
                    simpa using this
                rw [hall']
                refine iteF ⟨b, _, _, _, _, esK2, ks2, rfl, I6, ?_⟩
                rcases hor with h | ⟨h1, h2, h3⟩
                · exact .inl h
                · refine .inr ⟨h1, h2, fun x hx hxn => ?_⟩
                  rw [etk] at hx
                  rcases List.mem_append.mp hx with h4 | h4
                  · exact h3 x h4 hxn
                  · rw [List.mem_singleton.mp h4]
                    obtain ⟨r, hr1⟩ := Classical.not_forall.mp hall
                    obtain ⟨hr2, hr3⟩ := Classical.not_imp.mp hr1
                    have hr4 : r.2 ∈ fs.map (·.2) := List.mem_map_of_mem (f := (·.2)) hr2
                    rw [hfs] at hr4
                    obtain ⟨h5, h6⟩ := List.mem_filter.mp hr4
                    exact ⟨r.2, h5, by simpa using h6, by rw [← h2]; exact hr3⟩
      · rintro σ H3 ⟨b, v6, v7, v8, v9, esK2, ks2, rfl, I3, hor⟩
        rw [List.take_length] at hor
        exact ⟨I3.hS, b, v6, v7, v8, v9, esK2, ks2, rfl, I3.relock rfl, hor⟩
abbrev nCountUnlike : List Str := ["one", "other", "found"]
abbrev nTwo : List Str := ["one", "other"]
abbrev sCountUnlike : Stmt := top 24
theorem scCountUnlike : FnScope nCountUnlike nTwo (defScope sCountUnlike) := ⟨rfl, rfl, rfl, by decide +kernel, rfl, by decide +kernel, by decide +kernel⟩
/-- the count that is given back -/
def optV : Option Nat → V
  | none => .non
  | some n => vi n
def spCountUnlike (C : Addr) : Sp := fun vs H Q _ => ∃ p q m k L, vs = [.ref p, .ref q] ∧ MacAt C H p m ∧ MacAt C H q k ∧ m.Ok L ∧ k.Ok L ∧
  ∀ H' r, Same H H' → Res (gl m k) (ul m k) (0, 0) r → Q (optV r) H'
theorem ok_countUnlike {f f1 f2 f3 f4 f5 f6 C bb : Addr} {fd fd1 fd2 fd3 fd4 fd5 fd6 : FuncData} (F : DefAt K mg "count_unlike" sCountUnlike nTwo f fd) (F1 : DefAt K mg "goals_of" sGoals nPair f1 fd1) (F2 : DefAt K mg "come_to" sComeTo nThree f2 fd2)
    (F3 : DefAt K mg "is_unlike" sIsUnlike nPair f3 fd3) (F4 : DefAt K mg "useful" sUseful nThree f4 fd4) (F5 : DefAt K mg "counted" sCounted nThree f5 fd5) (F6 : DefAt K mg "check_pair" sCheckPair nCheckPair f6 fd6) (T : MacC K mg C) (B : Bl mg)
    (hb : mg "BEGIN" = some (.ref bb)) (hbK : ∀ H, PtAt K H bb (0, 0)) : FnOk P w K mg base CX0 5 f fd nTwo (spCountUnlike C) := by
  refine F.fn.ok scCountUnlike (fun vs H Q E h => ?_) (fun cdv A outer s H vs Q E hr h => ?_)
  · obtain ⟨p, q, m, k, L, rfl, _⟩ := h
    rfl
  · obtain ⟨p, q, m, k, L, rfl, hp, hq, o1, o2, kk⟩ := h
    have G5 : FnOk P w K mg base CX0 4 f5 fd5 nThree (spCounted K C) := ok_counted F5 F1 F2 F3 F4 T B
    have G6 : FnOk P w K mg base CX0 4 f6 fd6 nCheckPair (spCheckPair C) := (ok_checkPair F6 T B).mono (by decide)
    refine ⟨_, pss_cons (ps_expr (pe_call G6 hr (by rfl) F6.mg F6.fn.kp F6.b .nil pass0 (pa_cons (pv 0) (pa_cons (pv 1) pa_nil))))
      (pss_cons (ps_set (i := 2) scCountUnlike.nd rfl (.inl rfl) (pe_call G5 hr (by rfl) F5.mg F5.fn.kp F5.b .nil pass0 (pa_cons (pv 0) (pa_cons (pv 1) (pa_cons (pe_glob (v := .ref bb) (by rfl) hb rfl) pa_nil)))))
      (pss_one (ps_ret (pe_ifExp (pt_cmpR op_notN (pv 2) pe_non (nomark _)) (pe_ix ix_tup (pv 2) pe_int (fun _ _ => rfl)) pe_non)))), ?_⟩
    refine ⟨_, rfl, _, rfl, p, q, m, k, L, rfl, hp, hq, o1, o2, ?_⟩
    refine ⟨_, rfl, _, rfl, p, q, bb, m, k, L, (0, 0), rfl, hp, hq, o1, o2, hbK H, ⟨o1.n1, o2.n1⟩, fun H' s' hR => ?_, fun H' ta n far s' hR hT => ?_⟩
    · exact ⟨_, rfl, rfl, _, rfl, iteF (kk H' none s' hR)⟩
    · exact ⟨_, rfl, rfl, _, rfl, iteT ⟨_, rfl, _, _, _, _, rfl, rfl, SqT.of hT, atI_nat (j := 0) rfl, kk H' (some n) s' hR⟩⟩
end
end Bf
set_option Elab.async false
set_option linter.all false
set_option maxRecDepth 100000
set_option maxHeartbeats 4000000
/-! BfP6: butfewrows/changing: with_step, check_step. -/
namespace Bf
open PySem PySem.Spec PyProof.Rows L2
/-! ### parts of tuples -/
theorem cut_take (xs : List V) (i : Nat) (h : i ≤ xs.length) : cutV xs none (some (i : Int)) = xs.take i := by
  unfold cutV
  rw [HT.sIx_none, HT.sIx_nat, Nat.min_eq_left h]
  simp
theorem cut_drop (xs : List V) (i : Nat) (h : i ≤ xs.length) : cutV xs (some (i : Int)) none = xs.drop i := by
  unfold cutV
  rw [HT.sIx_none, HT.sIx_nat, Nat.min_eq_left h]
  exact List.take_of_length_le (by rw [List.length_drop]; exact Nat.le_refl _)
theorem cut_last (xs : List V) (h : 0 < xs.length) : cutV xs none (some (-1)) = xs.dropLast := by
  unfold cutV
  have e : HT.sIx xs.length xs.length (some (-1)) = xs.length - 1 := by
    show (if (-1 : Int) < 0 then ((-1 : Int) + (xs.length : Int)).toNat else min (-1 : Int).toNat xs.length) = _
    rw [if_pos (by decide)]
    omega
  rw [HT.sIx_none, e, List.dropLast_eq_take]
  rfl
section
variable {K : PySem.W.Frag} {H : Hp} {a b : Addr} {xs ys : List V} {Q : VK} {lo hi : Option Int}
theorem sl_any (ha : H a = some (.tup xs)) (k : ∀ H' p, Same H H' → H' p = some (.tup (cutV xs lo hi)) → Q (.ref p) H') : rSlA K (.ref a) lo hi H Q := by
  refine ⟨a, xs, rfl, SqT.of ha, fun hw => k H a (Same.refl _) ?_, fun _ p np => k _ p (same_new np) upd_same⟩
  have e : cutV xs lo hi = xs := by
    unfold cutV
    rw [hw.1, hw.2]
    simp
  rw [e]
  exact ha
theorem sl_take {i : Nat} (ha : H a = some (.tup xs)) (hi : i ≤ xs.length) (k : ∀ H' p, Same H H' → H' p = some (.tup (xs.take i)) → Q (.ref p) H') : rSlA K (.ref a) none (some (i : Int)) H Q :=
  sl_any ha fun H' p s e => k H' p s (by rw [← cut_take xs i hi]; exact e)
theorem sl_drop {i : Nat} (ha : H a = some (.tup xs)) (hi : i ≤ xs.length) (k : ∀ H' p, Same H H' → H' p = some (.tup (xs.drop i)) → Q (.ref p) H') : rSlA K (.ref a) (some (i : Int)) none H Q :=
  sl_any ha fun H' p s e => k H' p s (by rw [← cut_drop xs i hi]; exact e)
theorem sl_dropN {i : Nat} {σ : L2.St} (ha : H a = some (.tup xs)) (hi : i ≤ xs.length) (k : ∀ H' p, Same H H' → H' p = some (.tup (xs.drop i)) → Q (.ref p) H') : tNoPart σ H fun u H3 => rSlA K (.ref a) (some (i : Int)) u H3 Q := sl_drop ha hi k
theorem cat_any (ha : H a = some (.tup xs)) (hb : H b = some (.tup ys)) (hz : xs.length + ys.length ≤ sizeLine) (k : ∀ H' p, Same H H' → H' p = some (.tup (xs ++ ys)) → Q (.ref p) H') : rCatA K (.ref a) (.ref b) H Q := by
  refine ⟨a, b, xs, ys, rfl, rfl, SqT.of ha, SqT.of hb, hz, fun e => k H b (Same.refl _) (by rw [e]; exact hb), fun _ e => k H a (Same.refl _) (by rw [e, List.append_nil]; exact ha), fun _ _ p np => k _ p (same_new np) upd_same⟩
end
theorem set_split {α : Type} {l : List α} {i : Nat} (x : α) (h : i < l.length) : l.take i ++ [x] ++ l.drop (i + 1) = l.set i x := by
  rw [List.set_eq_take_append_cons_drop, if_pos h, List.append_assoc]
  rfl
/-- a step led elsewhere -/
def stepM (m : Mac) (s l g : Nat) : Mac := ⟨m.st.set s ((m.st.getD s []).set l g), m.gd⟩
theorem stepM_ok {m : Mac} {L s l g : Nat} (ok : m.Ok L) (hs : s < m.st.length) (hg : g < m.st.length) : (stepM m s l g).Ok L := by
  have hl : (stepM m s l g).st.length = m.st.length := List.length_set ..
  refine ⟨by rw [hl]; exact ok.n1, by rw [hl]; exact ok.n8, ok.l1, ok.l3, fun r hr => ?_, ok.up, fun x hx => by rw [hl]; exact ok.gd x hx⟩
  rw [hl]
  rcases List.mem_or_eq_of_mem_set hr with h | h
  · exact ok.row r h
  · obtain ⟨h1, h2⟩ := ok.rowD hs
    subst h
    refine ⟨by rw [List.length_set]; exact h1, fun x hx => ?_⟩
    rcases List.mem_or_eq_of_mem_set hx with h | h
    · exact h2 x h
    · rw [h]; exact hg
/-- a class that is made by its __init__ -/
structure MkX (K : PySem.W.Frag) (C : Addr) (m qual : Str) (st : Stmt) (ps : List Str) where
  f : Addr
  fd : FuncData
  fn : Fun K m qual st f fd
  b : Binds K fd ps []
  made : Mk K C f
abbrev nWithStep : List Str := ["machine", "stand", "letter", "goal", "steps", "good", "row"]
abbrev nFour : List Str := ["machine", "stand", "letter", "goal"]
abbrev sWithStep : Stmt := top 26
theorem scWithStep : FnScope nWithStep nFour (defScope sWithStep) := ⟨rfl, rfl, rfl, by decide +kernel, rfl, by decide +kernel, by decide +kernel⟩
section
variable {P : Program} {w : World} {K : PySem.W.Frag} {mg : Str → Option Value} {base : Heap}
def spWithStep (C : Addr) : Sp := fun vs H Q _ => ∃ p m L s l g, vs = [.ref p, vi s, vi l, vi g] ∧ MacAt C H p m ∧ m.Ok L ∧ s < m.st.length ∧ l < L ∧ g < m.st.length ∧ ∀ H' q, Same H H' → MacAt C H' q (stepM m s l g) → Q (.ref q) H'
theorem ok_withStep {f f1 f2 f3 C : Addr} {fd fd1 fd2 fd3 : FuncData} (F : DefAt K mg "with_step" sWithStep nFour f fd) (T : MacC K mg C) (MK : MkX K C "__init__" "Machine.__init__" sMInit nMInit) (F1 : DefAt K mg "is_integer" sIsInt nIsInt f1 fd1)
    (F2 : DefAt K mg "check_steps" sCheckSteps ["thing"] f2 fd2) (F3 : DefAt K mg "check_good" sCheckGood ["thing", "stands"] f3 fd3) (B : Bl mg) {t1 t2 : Tok} (hS : mg "MOST_STANDS" = some (.int 8 t1)) (hL : mg "MOST_LETTERS" = some (.int 3 t2)) :
    FnOk P w K mg base CX0 5 f fd nFour (spWithStep C) := by
  refine F.fn.ok scWithStep (fun vs H Q E h => ?_) (fun cdv A outer s H vs Q E hr h => ?_)
  · obtain ⟨p, m, L, s, l, g, rfl, _⟩ := h
    rfl
  · obtain ⟨p, m, L, s, l, g, rfl, ⟨dx, pp, hp, st, gd, hpp, ⟨as, has, hrow⟩, hg⟩, ok, hs, hl, hgl, kk⟩ := h
    have GM : FnOk P w K mg base CX0 3 MK.f MK.fd nMInit (spMInit C) := ok_mInit MK.fn T F1 F2 F3 B hS hL
    refine ⟨_, pss_cons (ps_asg (pe_fld (pv 0) rfl) (pg_tup rfl (pgs_cons (pg_name (i := 4) scWithStep.nd rfl (.inl rfl)) (pgs_cons (pg_name (i := 5) scWithStep.nd rfl (.inl rfl)) pgs_nil))) (by rfl) (by rfl))
      (pss_cons (ps_set (i := 6) scWithStep.nd rfl (.inl rfl) (pe_op op_catA (pe_op op_catA (pe_slice sl_tupA (pe_ix ix_tup (pv 4) (pv 1) (fun _ _ => rfl)) po_none (po_some (pv 2))) (pe_tup (pa_cons (pv 3) pa_nil)))
        (pe_slice sl_tupA (pe_ix ix_tup (pv 4) (pv 1) (fun _ _ => rfl)) (po_some (pe_op op_add (pv 2) pe_int)) po_none)))
      (pss_one (ps_ret (pe_make MK.made GM hr (by rfl) T.mg MK.b .nil pass0 (pa_cons (pe_op op_catA (pe_op op_catA (pe_slice sl_tupA (pv 4) po_none (po_some (pv 1))) (pe_tup (pa_cons (pv 6) pa_nil)))
        (pe_slice sl_tupA (pv 4) (po_some (pe_op op_add (pv 1) pe_int)) po_none)) (pa_cons (pv 5) pa_nil)))))), ?_⟩
    obtain ⟨b, hb, hbH⟩ := row_in hrow hs
    obtain ⟨hrl, hrx⟩ := ok.rowD hs
    have n8 := ok.n8
    have l3 := ok.l3
    have hasl : (as.map V.ref).length = m.st.length := by rw [List.length_map]; exact hrow.1
    have hrvl : ((m.st.getD s []).map vi).length = L := by rw [List.length_map, hrl]
    have small : ∀ {n : Nat}, n ≤ 1000 → n ≤ sizeLine := fun h => Nat.le_of_lt (small1000 h)
    refine ⟨_, rfl, p, C, dx, _, _, rfl, hp, T.cl, T.nP, rfl, pp, _, rfl, SqT.of hpp, rfl, _, _, rfl, _, _, rfl, rfl, ?_⟩
    refine ⟨_, rfl, _, rfl, _, _, _, _, rfl, rfl, SqT.of has, atI_nat (j := s) (ref_get hb), _, rfl, _, rfl, sl_take (i := l) hbH (by omega) fun H1 r1 s1 e1 => ?_⟩
    refine ⟨_, rfl, by show 1 ≤ sizeLine; decide, fun r2 nr2 => ?_⟩
    have s2 : Same H1 (upd H1 r2 (.tup [vi g])) := same_new nr2
    have t2 : ((m.st.getD s []).map vi).take l = ((m.st.getD s []).take l).map vi := List.map_take.symm
    refine cat_any (s2 _ _ e1) upd_same (small (by rw [List.length_take]; show _ + 1 ≤ 1000; omega)) fun H3 r3 s3 e3 => ?_
    have s03 := (s1.trans s2).trans s3
    refine ⟨_, rfl, _, rfl, _, _, _, _, rfl, rfl, SqT.of (s03 _ _ has), atI_nat (j := s) (ref_get hb), _, rfl, _, _, rfl, rfl, _, rfl, ?_⟩
    refine sl_dropN (i := l + 1) (s03 _ _ hbH) (by omega) fun H4 r4 s4 e4 => ?_
    refine cat_any (s4 _ _ e3) e4 (small (by rw [List.length_append, List.length_take, List.length_drop]; show _ + 1 + _ ≤ 1000; omega)) fun H5 r5 s5 e5 => ?_
    have s05 := (s03.trans s4).trans s5
    have eRow : ((m.st.getD s []).map vi).take l ++ [vi g] ++ ((m.st.getD s []).map vi).drop (l + 1) = ((m.st.getD s []).set l g).map vi := by
      rw [set_split (vi g) (by omega), List.map_set]
    rw [eRow] at e5
    refine ⟨_, rfl, _, rfl, _, rfl, sl_take (i := s) (s05 _ _ has) (by omega) fun H6 q1 s6 e6 => ?_⟩
    refine ⟨_, rfl, by show 1 ≤ sizeLine; decide, fun q2 nq2 => ?_⟩
    have s7 : Same H6 (upd H6 q2 (.tup [.ref r5])) := same_new nq2
    refine cat_any (s7 _ _ e6) upd_same (small (by rw [List.length_take]; show _ + 1 ≤ 1000; omega)) fun H8 q3 s8 e8 => ?_
    have s08 := ((s05.trans s6).trans s7).trans s8
    refine ⟨_, rfl, _, rfl, _, _, rfl, rfl, _, rfl, ?_⟩
    refine sl_dropN (i := s + 1) (s08 _ _ has) (by omega) fun H9 q4 s9 e9 => ?_
    refine cat_any (s9 _ _ e8) e9 (small (by rw [List.length_append, List.length_take, List.length_drop]; show _ + 1 + _ ≤ 1000; omega)) fun HA q5 sA eA => ?_
    have s0A := (s08.trans s9).trans sA
    have eSteps : (as.map V.ref).take s ++ [V.ref r5] ++ (as.map V.ref).drop (s + 1) = (as.set s r5).map V.ref := by
      rw [set_split (V.ref r5) (by omega), List.map_set]
    rw [eSteps] at eA
    have r5A : HA r5 = some (.tup (((m.st.getD s []).set l g).map vi)) := sA _ _ (s9 _ _ (s8 _ _ (s7 _ _ (s6 _ _ e5))))
    have hst : StepsAt HA q5 (stepM m s l g).st := by
      refine ⟨_, eA, ?_, fun i a r h1 h2 => ?_⟩
      · show (as.set s r5).length = (m.st.set s _).length
        rw [List.length_set, List.length_set]; exact hrow.1
      · by_cases hi : i = s
        · subst hi
          rw [List.getElem?_set_self (by rw [hrow.1]; exact hs)] at h1
          have h2' : (m.st.set i ((m.st.getD i []).set l g))[i]? = some r := h2
          rw [List.getElem?_set_self hs] at h2'
          cases h1
          cases h2'
          exact r5A
        · rw [List.getElem?_set_ne (Ne.symm hi)] at h1
          have h2' : (m.st.set s ((m.st.getD s []).set l g))[i]? = some r := h2
          rw [List.getElem?_set_ne (Ne.symm hi)] at h2'
          exact s0A _ _ (hrow.2 i a r h1 h2')
    refine ⟨_, rfl, fun x dx nx ndx nex => made_mac nx ndx hst (s0A _ _ hg) (stepM_ok ok hs hgl) _ fun H' s' hm => kk H' x (s0A.trans s') hm⟩
end
end Bf
set_option Elab.async false
set_option linter.all false
set_option maxRecDepth 100000
set_option maxHeartbeats 4000000
/-! BfP7: butfewrows/changing: check_step, Bench. -/
namespace Bf
open PySem PySem.Spec PyProof.Rows L2
structure DefX (K : PySem.W.Frag) (mg : Str → Option Value) (x : Str) (st : Stmt) (ps : List Str) where
  f : Addr
  fd : FuncData
  at_ : DefAt K mg x st ps f fd
structure MethX (K : PySem.W.Frag) (C : Addr) (m qual : Str) (st : Stmt) (ps : List Str) where
  f : Addr
  fd : FuncData
  fn : Fun K m qual st f fd
  b : Binds K fd ps []
  mt : Meth K C m f
/-- the program's own defs as they stand behind the top -/
structure Prog (K : PySem.W.Frag) (mg : Str → Option Value) where
  C : Addr
  CB : Addr
  CS : Addr
  CP : Addr
  bb : Addr
  tS : Tok
  tL : Tok
  T : MacC K mg C
  MK : MkX K C "__init__" "Machine.__init__" sMInit nMInit
  xS : ExcF K mg "BadStand" CS
  xP : ExcF K mg "BadStep" CP
  B : Bl mg
  hS : mg "MOST_STANDS" = some (.int 8 tS)
  hL : mg "MOST_LETTERS" = some (.int 3 tL)
  isInt : DefX K mg "is_integer" sIsInt nIsInt
  checkSteps : DefX K mg "check_steps" sCheckSteps ["thing"]
  checkGood : DefX K mg "check_good" sCheckGood ["thing", "stands"]
  checkStand : DefX K mg "check_stand" sCheckStand nCheckStand
  checkPair : DefX K mg "check_pair" sCheckPair nCheckPair
  isUnlike : DefX K mg "is_unlike" sIsUnlike nPair
  goals : DefX K mg "goals_of" sGoals nPair
  comeTo : DefX K mg "come_to" sComeTo nThree
  useful : DefX K mg "useful" sUseful nThree
  counted : DefX K mg "counted" sCounted nThree
  hbb : mg "BEGIN" = some (.ref bb)
  hbK : ∀ H, PtAt K H bb (0, 0)
  countUnlike : DefX K mg "count_unlike" sCountUnlike nTwo
  withStep : DefX K mg "with_step" sWithStep nFour
  ne : C ≠ CB
  cB : Cls K CB
  nB : NoAttr K CB "past"
  mB : mg "Bench" = some (.ref CB)
theorem isI_nat {x : V} {n : Nat} (h : isI x 0 ((n : Int) - 1) = true) : ∃ s, x = vi s ∧ s < n := by
  cases x with
  | int i =>
    have h' : (decide (0 ≤ i) && decide (i ≤ (n : Int) - 1)) = true := h
    simp only [Bool.and_eq_true, decide_eq_true_eq] at h'
    exact ⟨i.toNat, by show V.int i = V.int (i.toNat : Int); rw [Int.toNat_of_nonneg h'.1], by omega⟩
  | _ => cases h
theorem isI_lt {s n : Nat} (h : s < n) : isI (vi s) 0 ((n : Int) - 1) = true := isI_vi (Int.natCast_nonneg s) (by omega)
theorem atI_m1 {α : Type} {xs : List α} {v : α} (h : xs[xs.length - 1]? = some v) : atI xs (-1) = some v := by
  have hl : xs.length - 1 < xs.length := (List.getElem?_eq_some_iff.mp h).1
  have e : ixN xs.length (-1) = some (xs.length - 1) := by
    unfold ixN
    rw [if_neg (by decide), if_pos (by omega)]
    congr 1
    omega
  unfold atI
  rw [e]
  exact h
section
variable {P : Program} {w : World} {K : PySem.W.Frag} {mg : Str → Option Value} {base : Heap}
abbrev sCheckStep : Stmt := top 27
theorem scCheckStep : FnScope nFour nFour (defScope sCheckStep) := ⟨rfl, rfl, rfl, by decide +kernel, rfl, by decide +kernel, by decide +kernel⟩
def spCheckStep (C CS CP : Addr) : Sp := fun vs H Q E => ∃ p a b c m L, vs = [.ref p, a, b, c] ∧ MacAt C H p m ∧ m.Ok L ∧ Flat a = true ∧ Flat b = true ∧ Flat c = true ∧
  (isI a 0 ((m.st.length : Int) - 1) = false → E (.ref CS) none H) ∧ (isI a 0 ((m.st.length : Int) - 1) = true → isI b 0 ((L : Int) - 1) = false → E (.ref CP) none H) ∧
  (isI a 0 ((m.st.length : Int) - 1) = true → isI b 0 ((L : Int) - 1) = true → isI c 0 ((m.st.length : Int) - 1) = false → E (.ref CS) none H) ∧
  (isI a 0 ((m.st.length : Int) - 1) = true → isI b 0 ((L : Int) - 1) = true → isI c 0 ((m.st.length : Int) - 1) = true → Q .non H)
theorem ok_checkStep {f : Addr} {fd : FuncData} (F : DefAt K mg "check_step" sCheckStep nFour f fd) (G : Prog K mg) : FnOk P w K mg base (L2.CX P w) 3 f fd nFour (spCheckStep G.C G.CS G.CP) := by
  refine F.fn.okX scCheckStep (fun vs H Q E h => ?_) (fun cdv A outer s H vs Q E hr h => ?_)
  · obtain ⟨p, a, b, c, m, L, rfl, _⟩ := h
    rfl
  · obtain ⟨p, a, b, c, m, L, rfl, hm, ok, fa, fb, fc, k1, k2, k3, k4⟩ := h
    have G1 : FnOk P w K mg base CX0 2 G.isInt.f G.isInt.fd nIsInt spIsInt := (ok_isInt G.isInt.at_ G.B).mono (by decide)
    have G2 : FnOk P w K mg base (L2.CX P w) 2 G.checkStand.f G.checkStand.fd nCheckStand (spCheckStand G.C G.CS) := ok_checkStand G.checkStand.at_ G.isInt.at_ G.T G.xS G.B
    refine ⟨_, pss_cons (ps_expr (pe_call G2 hr (by rfl) G.checkStand.at_.mg G.checkStand.at_.fn.kp G.checkStand.at_.b .nil (passes_call (takes_of rfl rfl rfl rfl) fun _ _ _ _ h => h) (pa_cons (pv 0) (pa_cons (pv 1) pa_nil))))
      (pss_cons (ps_if (pt_not (pt_val (pe_call G1 hr (by rfl) G.isInt.at_.mg G.isInt.at_.fn.kp G.isInt.at_.b .nil pass0 (pa_cons (pv 2) (pa_cons pe_int (pa_cons (pe_op op_sub (pe_callB c_len (by rfl) G.B.len b_len (pa_cons (pe_ix ix_tup (pe_ix ix_tup (pe_fld (pv 0) rfl) pe_int (fun _ _ => rfl)) pe_int (fun _ _ => rfl)) pa_nil)) pe_int) pa_nil))))))
        (pss_one (ps_raise rfl (takes_of rfl rfl rfl rfl) (pmk_own0 PySem.F.excBase_ValueError G.xP.ex G.xP.mg G.xP.kp (raises_own G.xP.sb G.xP.ty) (by rfl)))) pss_nil)
      (pss_one (ps_expr (pe_call G2 hr (by rfl) G.checkStand.at_.mg G.checkStand.at_.fn.kp G.checkStand.at_.b .nil (passes_call (takes_of rfl rfl rfl rfl) fun _ _ _ _ h => h) (pa_cons (pv 0) (pa_cons (pv 3) pa_nil)))))), ?_⟩
    refine ⟨_, rfl, _, rfl, p, a, m, rfl, hm, fa, fun ea => ?_, k1⟩
    obtain ⟨dx, pp, hp, st, g, hpp, ⟨as, has, hrow⟩, hg⟩ := id hm
    obtain ⟨b0, r0, hb0, hr0, hbH0, hl0⟩ := row0 hrow ok
    refine ⟨_, rfl, _, rfl, p, G.C, dx, _, _, rfl, hp, G.T.cl, G.T.nP, rfl, _, _, _, _, rfl, rfl, SqT.of hpp, atI_nat (j := 0) rfl, _, _, _, _, rfl, rfl, SqT.of has, atI_nat (j := 0) (ref_get hb0), _, _, rfl, .inr (SqT.of hbH0), _, _, rfl, rfl, b, 0, _, rfl, fb, _, rfl, ?_⟩
    rw [List.length_map, hl0]
    cases eb : isI b 0 ((L : Int) - 1) with
    | false => exact iteT (k2 ea eb)
    | true =>
      refine iteF ⟨_, rfl, _, rfl, p, c, m, rfl, hm, fc, fun ec => k4 ea eb ec, fun ec => k3 ea eb ec⟩
end
end Bf
set_option Elab.async false
set_option linter.all false
set_option maxRecDepth 100000
set_option maxHeartbeats 4000000
/-! BfP8: butfewrows/changing: Bench. -/
namespace Bf
open PySem PySem.Spec PyProof.Rows L2
/-- all but p is as it was -/
def But (p : Addr) (H H' : Hp) : Prop := ∀ b o, H b = some o → b ≠ p → H' b = some o
theorem But.of {p : Addr} {H H' : Hp} (s : Same H H') : But p H H' := fun b o e _ => s b o e
theorem But.upd {p : Addr} {H H1 : Hp} {o : HO} (s : Same H H1) : But p H (upd H1 p o) := fun b u e ne => by rw [upd_ne ne]; exact s b u e
theorem But.then {p : Addr} {H H1 H2 : Hp} (a : But p H H1) (s : Same H1 H2) : But p H H2 := fun b o e ne => s b o (a b o e ne)
theorem But.stay {p CB dx : Addr} {fs : List (Str × V)} {H H' : Hp} (b : But p H H') (hp : H p = some (.ins CB dx fs)) : Stay CB H H' := fun c o i e => b c o e fun z => by
  rw [z, hp] at e
  cases e
  exact i rfl
theorem put_past (v x : V) : putF "past" v [(("past" : Str), x)] = [(("past" : Str), v)] := by
  show (if ("past" : Str) = "past" then [(("past" : Str), v)] else (("past" : Str), x) :: putF "past" v []) = [(("past" : Str), v)]
  rw [if_pos rfl]
/-- what is undone -/
def turnM (m : Mac) (s : Nat) : Mac := ⟨m.st, (List.range m.st.length).filter fun i => decide (i ∈ m.gd) != decide (i = s)⟩
theorem turnM_ok {m : Mac} {L s : Nat} (ok : m.Ok L) : (turnM m s).Ok L :=
  ⟨ok.n1, ok.n8, ok.l1, ok.l3, ok.row, List.Pairwise.filter _ List.pairwise_lt_range, fun x hx => List.mem_range.mp (List.mem_filter.mp hx).1⟩
theorem sorted_ext : ∀ {a b : List Nat}, a.Pairwise (· < ·) → b.Pairwise (· < ·) → (∀ x, x ∈ a ↔ x ∈ b) → a = b
  | [], [], _, _, _ => rfl
  | [], y :: b, _, _, h => by have := (h y).mpr (List.mem_cons_self ..); cases this
  | x :: a, [], _, _, h => by have := (h x).mp (List.mem_cons_self ..); cases this
  | x :: a, y :: b, ha, hb, h => by
    obtain ⟨ha1, ha2⟩ := List.pairwise_cons.mp ha
    obtain ⟨hb1, hb2⟩ := List.pairwise_cons.mp hb
    have exy : x = y := by
      rcases List.mem_cons.mp ((h x).mp (List.mem_cons_self ..)) with e | e
      · exact e
      · rcases List.mem_cons.mp ((h y).mpr (List.mem_cons_self ..)) with e' | e'
        · exact e'.symm
        · have := hb1 x e
          have := ha1 y e'
          omega
    subst exy
    rw [sorted_ext ha2 hb2 fun z => ⟨fun hz => ?_, fun hz => ?_⟩]
    · rcases List.mem_cons.mp ((h z).mp (List.mem_cons_of_mem _ hz)) with e | e
      · have := ha1 z hz; omega
      · exact e
    · rcases List.mem_cons.mp ((h z).mpr (List.mem_cons_of_mem _ hz)) with e | e
      · have := hb1 z hz; omega
      · exact e
theorem turn_out {m : Mac} {L s : Nat} (ok : m.Ok L) (hs : s ∈ m.gd) : m.gd.filter (fun i => !decide (i = s)) = (turnM m s).gd := by
  refine sorted_ext (List.Pairwise.filter _ ok.up) (turnM_ok ok).up fun x => ?_
  show _ ↔ x ∈ (List.range m.st.length).filter fun i => decide (i ∈ m.gd) != decide (i = s)
  simp only [List.mem_filter, List.mem_range]
  by_cases h1 : x ∈ m.gd
  · have := ok.gd x h1
    by_cases h2 : x = s <;> simp [h1, h2, this]
    all_goals exact fun _ => hs
  · by_cases h2 : x = s
    · subst h2; exact absurd hs h1
    · simp [h1, h2]
theorem turn_in {m : Mac} {L s : Nat} (ok : m.Ok L) (hs : s ∉ m.gd) (hn : s < m.st.length) {ns : List Int} (hp : ns.Perm ((m.gd ++ [s]).map fun n : Nat => ((n : Nat) : Int))) (hr : ns.Pairwise (· ≤ ·)) : ns.map V.int = (turnM m s).gd.map vi := by
  have hnn : ∀ x ∈ ns, 0 ≤ x := fun x hx => by
    obtain ⟨n, _, e⟩ := List.mem_map.mp (hp.mem_iff.mp hx)
    rw [← e]; exact Int.natCast_nonneg n
  have e1 : (ns.map Int.toNat).map vi = ns.map V.int := by
    rw [List.map_map]
    refine List.map_congr_left fun x hx => ?_
    show V.int ((x.toNat : Nat) : Int) = V.int x
    rw [Int.toNat_of_nonneg (hnn x hx)]
  have hp2 : (ns.map Int.toNat).Perm (m.gd ++ [s]) := by
    have := hp.map Int.toNat
    rw [List.map_map] at this
    have e : (m.gd ++ [s]).map (Int.toNat ∘ fun n : Nat => ((n : Nat) : Int)) = m.gd ++ [s] := by
      rw [show (Int.toNat ∘ fun n : Nat => ((n : Nat) : Int)) = id from funext fun n => Int.toNat_natCast n, List.map_id]
    rwa [e] at this
  have nd : (m.gd ++ [s]).Nodup := List.nodup_append.mpr ⟨ok.up.imp fun h => Nat.ne_of_lt h, by simp, fun a ha b hb e => hs (by
    have : b = s := by simpa using hb
    rw [← this, ← e]; exact ha)⟩
  have nd2 : (ns.map Int.toNat).Nodup := hp2.nodup_iff.mpr nd
  have rs : (ns.map Int.toNat).Pairwise (· ≤ ·) := List.pairwise_map.mpr (hr.imp fun {a b} h => Int.toNat_le_toNat h)
  have rs2 : (ns.map Int.toNat).Pairwise (· < ·) := by
    have := List.Pairwise.and rs nd2
    exact this.imp fun {a b} h => Nat.lt_of_le_of_ne h.1 h.2
  rw [← e1]
  refine congrArg (List.map vi) (sorted_ext rs2 (turnM_ok ok).up fun x => ?_)
  rw [hp2.mem_iff]
  show _ ↔ x ∈ (List.range m.st.length).filter fun i => decide (i ∈ m.gd) != decide (i = s)
  simp only [List.mem_filter, List.mem_range, List.mem_append, List.mem_singleton]
  by_cases h1 : x ∈ m.gd
  · have := ok.gd x h1
    by_cases h2 : x = s
    · subst h2; exact absurd h1 hs
    · simp [h1, h2, this]
  · by_cases h2 : x = s
    · subst h2; simp [h1, hn]
    · simp [h1, h2]
section
variable {CB C : Addr} {H H' : Hp} {p : Addr} {ms : List Mac}
theorem BenchAt.but {q : Addr} (h : BenchAt CB C H p ms) (hc : C ≠ CB) (b : But q H H') (hq : ∃ dx fs, H q = some (.ins CB dx fs)) (ne : p ≠ q) : BenchAt CB C H' p ms := by
  obtain ⟨dx, t, qs, h1, h2, h3, h4⟩ := h
  obtain ⟨dq, fs, hq⟩ := hq
  have s := b.stay hq
  exact ⟨dx, t, qs, b p _ h1 ne, s t _ True.intro h2, h3, fun i q m a b => (h4 i q m a b).stay hc s⟩
theorem BenchAt.same (h : BenchAt CB C H p ms) (s : Same H H') : BenchAt CB C H' p ms := by
  obtain ⟨dx, t, qs, h1, h2, h3, h4⟩ := h
  exact ⟨dx, t, qs, s p _ h1, s t _ h2, h3, fun i q m a b => (h4 i q m a b).same s⟩
theorem BenchAt.ins (h : BenchAt CB C H p ms) : ∃ dx fs, H p = some (.ins CB dx fs) := let ⟨dx, _, _, h1, _⟩ := h; ⟨dx, _, h1⟩
end
abbrev sBInit : Stmt := inClass (top 28) 0
abbrev sBMachine : Stmt := inClass (top 28) 1
abbrev sBLead : Stmt := inClass (top 28) 2
abbrev sBTurn : Stmt := inClass (top 28) 3
abbrev sBUndo : Stmt := inClass (top 28) 4
abbrev sBLen : Stmt := inClass (top 28) 5
abbrev sBCopy : Stmt := inClass (top 28) 6
abbrev nBInit : List Str := ["self", "machine"]
abbrev nLead : List Str := ["self", "stand", "letter", "goal"]
abbrev nTurn : List Str := ["self", "stand", "steps", "good", "later", "one"]
abbrev nTurnP : List Str := ["self", "stand"]
abbrev nCopy : List Str := ["self", "found"]
theorem scBInit : FnScope nBInit nBInit (defScope sBInit) := ⟨rfl, rfl, rfl, by decide +kernel, rfl, by decide +kernel, by decide +kernel⟩
theorem scBMachine : FnScope ["self"] ["self"] (defScope sBMachine) := ⟨rfl, rfl, rfl, by decide +kernel, rfl, by decide +kernel, by decide +kernel⟩
theorem scBLead : FnScope nLead nLead (defScope sBLead) := ⟨rfl, rfl, rfl, by decide +kernel, rfl, by decide +kernel, by decide +kernel⟩
theorem scBTurn : FnScope nTurn nTurnP (defScope sBTurn) := ⟨rfl, rfl, rfl, by decide +kernel, rfl, by decide +kernel, by decide +kernel⟩
theorem scBUndo : FnScope ["self"] ["self"] (defScope sBUndo) := ⟨rfl, rfl, rfl, by decide +kernel, rfl, by decide +kernel, by decide +kernel⟩
theorem scBLen : FnScope ["self"] ["self"] (defScope sBLen) := ⟨rfl, rfl, rfl, by decide +kernel, rfl, by decide +kernel, by decide +kernel⟩
theorem scBCopy : FnScope nCopy ["self"] (defScope sBCopy) := ⟨rfl, rfl, rfl, by decide +kernel, rfl, by decide +kernel, by decide +kernel⟩
section
variable {P : Program} {w : World} {K : PySem.W.Frag} {mg : Str → Option Value} {base : Heap}
def spBInit (CB C : Addr) : Sp := fun vs H Q _ => ∃ p dx q m, vs = [.ref p, .ref q] ∧ H p = some (.ins CB dx []) ∧ MacAt C H q m ∧ ∀ H', But p H H' → BenchAt CB C H' p [m] → Q .non H'
theorem ok_bInit {f : Addr} {fd : FuncData} (F : Fun K "__init__" "Bench.__init__" sBInit f fd) (G : Prog K mg) : FnOk P w K mg base CX0 1 f fd nBInit (spBInit G.CB G.C) := by
  refine F.ok scBInit (fun vs H Q E h => ?_) (fun cdv A outer s H vs Q E hr h => ?_)
  · obtain ⟨p, dx, q, m, rfl, _⟩ := h
    rfl
  · obtain ⟨p, dx, q, m, rfl, hp, hm, kk⟩ := h
    refine ⟨_, pss_one (ps_fld (pv 0) (pe_tup (pa_cons (pv 1) pa_nil)) rfl), ?_⟩
    refine ⟨_, rfl, by show 1 ≤ sizeLine; decide, fun t nt => ?_⟩
    have s1 : Same H (upd H t (.tup [.ref q])) := same_new nt
    have hp1 := s1 _ _ hp
    have b1 := But.upd (p := p) (o := .ins G.CB dx (putF "past" (.ref t) [])) s1
    have npt : t ≠ p := fun z => by rw [z, hp] at nt; cases nt
    have st := b1.stay hp
    refine ⟨_, rfl, p, G.CB, dx, [], rfl, hp1, G.cB, G.nB, by show 0 < 1000; decide, kk _ b1 ⟨dx, t, [q], upd_same, by rw [upd_ne npt, upd_same]; rfl, rfl, fun i q' m' h1 h2 => ?_⟩⟩
    cases i with
    | zero =>
      cases h1
      cases h2
      exact hm.stay G.ne st
    | succ i => cases h1
theorem made_bench {CB C : Addr} {H1 : Hp} {x dx q : Addr} {m : Mac} {R : Hp → Prop} (nx : H1 x = none) (nd : H1 dx = none) (hm : MacAt C H1 q m) (E : XK)
    (k : ∀ H', Same H1 H' → BenchAt CB C H' x [m] → R H') : spBInit CB C (.ref x :: ([.ref q] ++ [])) (upd (upd H1 dx (.own x)) x (.ins CB dx [])) (fun v H2 => v = .non ∧ R H2) E := by
  have s1 : Same H1 (upd (upd H1 dx (.own x)) x (.ins CB dx [])) := same_upd (same_new nd) nx
  exact ⟨x, dx, q, m, rfl, upd_same, hm.same s1, fun H' kp hb => ⟨rfl, k H' (fun b o e => kp b o (s1 _ _ e) (ne_of_none e nx)) hb⟩⟩
theorem made_mac2 {C : Addr} {H1 : Hp} {x dx st g : Addr} {m : Mac} {L : Nat} {R : Hp → Prop} (nx : H1 x = none) (nd : H1 dx = none) (hst : StepsAt H1 st m.st) (hg : GoodAt H1 g m.gd) (ok : Mac.Ok m L) (E : XK)
    (k : ∀ H', Same H1 H' → MacAt C H' x m → R H') : spMInit C (.ref x :: ([.ref st, .ref g] ++ [])) (upd (upd H1 dx (.own x)) x (.ins C dx [])) (fun v H2 => v = .non ∧ R H2) E :=
  made_mac (Q := fun _ H2 => R H2) nx nd hst hg ok E k
def spBMachine (CB C : Addr) : Sp := fun vs H Q _ => ∃ p ms m, vs = [.ref p] ∧ BenchAt CB C H p ms ∧ ms[ms.length - 1]? = some m ∧ ∀ q, MacAt C H q m → Q (.ref q) H
theorem bench_last {CB C : Addr} {H : Hp} {qs : List Addr} {ms : List Mac} {m : Mac} (h3 : qs.length = ms.length) (h4 : ∀ (i : Nat) (q : Addr) (m : Mac), qs[i]? = some q → ms[i]? = some m → MacAt C H q m) (hm : ms[ms.length - 1]? = some m) :
    ∃ q, atI (qs.map V.ref) (-1) = some (.ref q) ∧ MacAt C H q m := by
  have hl : ms.length - 1 < ms.length := (List.getElem?_eq_some_iff.mp hm).1
  obtain ⟨q, hq⟩ : ∃ q, qs[ms.length - 1]? = some q := ⟨_, List.getElem?_eq_getElem (by omega)⟩
  exact ⟨q, atI_m1 (by rw [List.length_map, h3, List.getElem?_map, hq]; rfl), h4 _ _ _ hq hm⟩
theorem bench_head {CB C : Addr} {H : Hp} {qs : List Addr} {ms : List Mac} {m : Mac} (h3 : qs.length = ms.length) (h4 : ∀ (i : Nat) (q : Addr) (m : Mac), qs[i]? = some q → ms[i]? = some m → MacAt C H q m) (hm : ms[0]? = some m) :
    ∃ q, atI (qs.map V.ref) 0 = some (.ref q) ∧ MacAt C H q m := by
  have hl : 0 < ms.length := (List.getElem?_eq_some_iff.mp hm).1
  have hq : qs[0]? = some (qs[0]'(by omega)) := List.getElem?_eq_getElem (by omega)
  exact ⟨_, atI_nat (j := 0) (ref_get hq), h4 _ _ _ hq hm⟩
theorem ok_bMachine {f : Addr} {fd : FuncData} (F : Fun K "machine" "Bench.machine" sBMachine f fd) (G : Prog K mg) : FnOk P w K mg base CX0 1 f fd ["self"] (spBMachine G.CB G.C) := by
  refine F.ok scBMachine (fun vs H Q E h => ?_) (fun cdv A outer s H vs Q E hr h => ?_)
  · obtain ⟨p, ms, m, rfl, _⟩ := h
    rfl
  · obtain ⟨p, ms, m, rfl, ⟨dx, t, qs, hp, ht, h3, h4⟩, hm, kk⟩ := h
    obtain ⟨q, hq, hqm⟩ := bench_last (CB := G.CB) h3 h4 hm
    refine ⟨_, pss_one (ps_ret (pe_ix ix_tup (pe_fld (pv 0) rfl) (pe_un un_neg pe_int) (fun _ _ => rfl))), ?_⟩
    exact ⟨_, rfl, p, G.CB, dx, _, _, rfl, hp, G.cB, G.nB, rfl, _, rfl, _, _, _, _, rfl, rfl, SqT.of ht, hq, kk q hqm⟩
def spBLen (CB C : Addr) : Sp := fun vs H Q _ => ∃ p ms, vs = [.ref p] ∧ BenchAt CB C H p ms ∧ 0 < ms.length ∧ ∀ H', Same H H' → Q (vi (ms.length - 1)) H'
theorem ok_bLen {f : Addr} {fd : FuncData} (F : Fun K "__len__" "Bench.__len__" sBLen f fd) (G : Prog K mg) : FnOk P w K mg base CX0 1 f fd ["self"] (spBLen G.CB G.C) := by
  refine F.ok scBLen (fun vs H Q E h => ?_) (fun cdv A outer s H vs Q E hr h => ?_)
  · obtain ⟨p, ms, rfl, _⟩ := h
    rfl
  · obtain ⟨p, ms, rfl, ⟨dx, t, qs, hp, ht, h3, h4⟩, hl, kk⟩ := h
    refine ⟨_, pss_one (ps_ret (pe_callB c_len (by rfl) G.B.len b_len (pa_cons (pe_slice sl_tupA (pe_fld (pv 0) rfl) (po_some pe_int) po_none) pa_nil))), ?_⟩
    refine ⟨_, rfl, p, G.CB, dx, _, _, rfl, hp, G.cB, G.nB, rfl, _, rfl, ?_⟩
    refine sl_dropN (i := 1) ht (by rw [List.length_map]; omega) fun H' t' s' e' => ⟨_, _, rfl, .inr (SqT.of e'), ?_⟩
    rw [List.length_drop, List.length_map, h3]
    exact kk H' s'
def spBUndo (CB C : Addr) : Sp := fun vs H Q _ => ∃ p ms, vs = [.ref p] ∧ BenchAt CB C H p ms ∧ 0 < ms.length ∧ (ms.length = 1 → Q (.bl false) H) ∧ (1 < ms.length → ∀ H', But p H H' → BenchAt CB C H' p ms.dropLast → Q (.bl true) H')
theorem ok_bUndo {f : Addr} {fd : FuncData} (F : Fun K "undo" "Bench.undo" sBUndo f fd) (G : Prog K mg) : FnOk P w K mg base CX0 1 f fd ["self"] (spBUndo G.CB G.C) := by
  refine F.ok scBUndo (fun vs H Q E h => ?_) (fun cdv A outer s H vs Q E hr h => ?_)
  · obtain ⟨p, ms, rfl, _⟩ := h
    rfl
  · obtain ⟨p, ms, rfl, ⟨dx, t, qs, hp, ht, h3, h4⟩, hl, k1, k2⟩ := h
    refine ⟨_, pss_cons (ps_if (pt_cmpR op_eq (pe_callB c_len (by rfl) G.B.len b_len (pa_cons (pe_fld (pv 0) rfl) pa_nil)) pe_int (nomark _)) (pss_one (ps_ret pe_bl)) pss_nil)
      (pss_cons (ps_fld (pv 0) (pe_slice sl_tupA (pe_fld (pv 0) rfl) po_none (po_some (pe_un un_neg pe_int))) rfl) (pss_one (ps_ret pe_bl))), ?_⟩
    refine ⟨_, rfl, p, G.CB, dx, _, _, rfl, hp, G.cB, G.nB, rfl, _, _, rfl, .inr (SqT.of ht), rfl, _, rfl, ?_⟩
    rw [List.length_map, h3]
    by_cases h1 : ms.length = 1
    · rw [h1]
      exact k1 h1
    · rw [decide_eq_false (show ¬ V.int ((ms.length : Nat) : Int) = V.int 1 from fun z => h1 (by injection z with z; omega))]
      refine iteF ?_
      refine ⟨_, rfl, p, G.CB, dx, _, _, rfl, hp, G.cB, G.nB, rfl, _, rfl, _, rfl, ?_⟩
      refine sl_any ht fun H1 t1 s1 e1 => ?_
      rw [cut_last _ (by rw [List.length_map]; omega)] at e1
      have hp1 := s1 _ _ hp
      have b1 := But.upd (p := p) (o := .ins G.CB dx (putF "past" (.ref t1) [("past", .ref t)])) s1
      have npt : t1 ≠ p := ne_of e1 hp1 (fun z => nomatch z)
      refine ⟨_, rfl, p, G.CB, dx, _, rfl, hp1, G.cB, G.nB, by show 1 < 1000; decide, k2 (by omega) _ b1 ⟨dx, t1, qs.dropLast, ?_, ?_, by rw [List.length_dropLast, List.length_dropLast, h3], fun i q m h5 h6 => ?_⟩⟩
      · rw [upd_same, put_past]
      · rw [upd_ne npt, e1, List.map_dropLast]
      · rw [List.dropLast_eq_take, List.getElem?_take] at h5 h6
        by_cases hi : i < qs.length - 1
        · rw [if_pos hi] at h5
          rw [if_pos (by omega)] at h6
          exact (h4 i q m h5 h6).stay G.ne (b1.stay hp)
        · rw [if_neg hi] at h5; cases h5
def spBCopy (CB C : Addr) : Sp := fun vs H Q _ => ∃ p ms, vs = [.ref p] ∧ BenchAt CB C H p ms ∧ 0 < ms.length ∧ ∀ H' x, Same H H' → H x = none → BenchAt CB C H' x ms → Q (.ref x) H'
theorem ok_bCopy {f : Addr} {fd : FuncData} (F : Fun K "copy" "Bench.copy" sBCopy f fd) (G : Prog K mg) (MB : MkX K G.CB "__init__" "Bench.__init__" sBInit nBInit) : FnOk P w K mg base CX0 3 f fd ["self"] (spBCopy G.CB G.C) := by
  refine F.ok scBCopy (fun vs H Q E h => ?_) (fun cdv A outer s H vs Q E hr h => ?_)
  · obtain ⟨p, ms, rfl, _⟩ := h
    rfl
  · obtain ⟨p, ms, rfl, ⟨dx, t, qs, hp, ht, h3, h4⟩, hl, kk⟩ := h
    have GB : FnOk P w K mg base CX0 1 MB.f MB.fd nBInit (spBInit G.CB G.C) := ok_bInit MB.fn G
    obtain ⟨q, hq, hqm⟩ := bench_head (CB := G.CB) h3 h4 (List.getElem?_eq_getElem hl)
    refine ⟨_, pss_cons (ps_set (i := 1) scBCopy.nd rfl (.inl rfl) (pe_make MB.made GB hr (by rfl) G.mB MB.b .nil pass0 (pa_cons (pe_ix ix_tup (pe_fld (pv 0) rfl) pe_int (fun _ _ => rfl)) pa_nil)))
      (pss_cons (ps_fld (pv 1) (pe_fld (pv 0) rfl) rfl) (pss_one (ps_ret (pv 1)))), ?_⟩
    refine ⟨_, rfl, p, G.CB, dx, _, _, rfl, hp, G.cB, G.nB, rfl, _, _, _, _, rfl, rfl, SqT.of ht, hq, fun x dx2 nx ndx nex => ?_⟩
    refine made_bench nx ndx hqm _ ?_
    intro H1 s1 hb
    obtain ⟨dx3, t3, qs3, hx, _⟩ := hb
    refine ⟨_, rfl, p, G.CB, dx, _, _, rfl, s1 _ _ hp, G.cB, G.nB, rfl, ?_⟩
    have b1 : Same H (upd H1 x (.ins G.CB dx3 (putF "past" (.ref t) [("past", .ref t3)]))) := same_upd s1 nx
    refine ⟨_, rfl, x, G.CB, dx3, _, rfl, hx, G.cB, G.nB, by show 1 < 1000; decide, ?_⟩
    refine ⟨_, rfl, kk _ x b1 nx ⟨dx3, t, qs, by rw [upd_same, put_past], b1 _ _ ht, h3, fun i q m a b => (h4 i q m a b).same b1⟩⟩
end
end Bf
set_option Elab.async false
set_option linter.all false
set_option maxRecDepth 100000
set_option maxHeartbeats 4000000
/-! BfP9: butfewrows/changing: lead, turn. -/
namespace Bf
open PySem PySem.Spec PyProof.Rows L2
section
variable {P : Program} {w : World} {K : PySem.W.Frag} {mg : Str → Option Value} {base : Heap}
/-- the count between two machines -/
def ResM (m k : Mac) (r : Option Nat) : Prop := Res (gl m k) (ul m k) (0, 0) r
def spLead (CB C CS CP : Addr) : Sp := fun vs H Q E => ∃ p a b c ms L m m0, vs = [.ref p, a, b, c] ∧ BenchAt CB C H p ms ∧ (∀ x ∈ ms, Mac.Ok x L) ∧ ms[ms.length - 1]? = some m ∧ ms[0]? = some m0 ∧ ms.length ≤ 100 ∧ Flat a = true ∧ Flat b = true ∧ Flat c = true ∧
  (isI a 0 ((m.st.length : Int) - 1) = false → E (.ref CS) none H) ∧ (isI a 0 ((m.st.length : Int) - 1) = true → isI b 0 ((L : Int) - 1) = false → E (.ref CP) none H) ∧
  (isI a 0 ((m.st.length : Int) - 1) = true → isI b 0 ((L : Int) - 1) = true → isI c 0 ((m.st.length : Int) - 1) = false → E (.ref CS) none H) ∧
  ∀ s l g, a = vi s → b = vi l → c = vi g → s < m.st.length → l < L → g < m.st.length → ∀ H' r, But p H H' → BenchAt CB C H' p (ms ++ [stepM m s l g]) → ResM m0 (stepM m s l g) r → Q (optV r) H'
theorem bench_push {CB C : Addr} {H H1 : Hp} {p dx t t1 q : Addr} {qs : List Addr} {ms : List Mac} {m : Mac} (ne : C ≠ CB) (hp : H p = some (.ins CB dx [(("past" : Str), .ref t)])) (h3 : qs.length = ms.length)
    (h4 : ∀ (i : Nat) (q : Addr) (m : Mac), qs[i]? = some q → ms[i]? = some m → MacAt C H q m) (s1 : Same H H1) (e1 : H1 t1 = some (.tup (qs.map V.ref ++ [.ref q]))) (hq : MacAt C H1 q m) :
    BenchAt CB C (upd H1 p (.ins CB dx (putF "past" (.ref t1) [(("past" : Str), .ref t)]))) p (ms ++ [m]) := by
  have hp1 := s1 _ _ hp
  have b1 : But p H1 (upd H1 p (.ins CB dx (putF "past" (.ref t1) [(("past" : Str), .ref t)]))) := But.upd (Same.refl _)
  have st := b1.stay hp1
  have npt : t1 ≠ p := ne_of e1 hp1 (fun z => nomatch z)
  refine ⟨dx, t1, qs ++ [q], by rw [upd_same, put_past], by rw [upd_ne npt, e1, List.map_append]; rfl, by rw [List.length_append, List.length_append, h3]; rfl, fun i q' m' h5 h6 => ?_⟩
  by_cases hi : i < qs.length
  · rw [List.getElem?_append_left hi] at h5
    rw [List.getElem?_append_left (by omega)] at h6
    exact ((h4 i q' m' h5 h6).same s1).stay ne st
  · have hl := (List.getElem?_eq_some_iff.mp h5).1
    rw [List.length_append, List.length_singleton] at hl
    have e : i = qs.length := by omega
    subst e
    rw [List.getElem?_append_right (Nat.le_refl _), Nat.sub_self] at h5
    rw [h3, List.getElem?_append_right (Nat.le_refl _), Nat.sub_self] at h6
    cases h5
    cases h6
    exact hq.stay ne st
theorem last_app {ms : List Mac} {m : Mac} : (ms ++ [m])[(ms ++ [m]).length - 1]? = some m := by
  rw [List.length_append, List.length_singleton, Nat.add_sub_cancel, List.getElem?_append_right (Nat.le_refl _), Nat.sub_self]
  rfl
theorem head_app {ms : List Mac} {m m0 : Mac} (h : ms[0]? = some m0) : (ms ++ [m])[0]? = some m0 := by
  rw [List.getElem?_append_left (List.getElem?_eq_some_iff.mp h).1]
  exact h
theorem ok_bLead {f : Addr} {fd : FuncData} (F : Fun K "lead" "Bench.lead" sBLead f fd) (G : Prog K mg) (CStep : DefX K mg "check_step" sCheckStep nFour) : FnOk P w K mg base (L2.CX P w) 6 f fd nLead (spLead G.CB G.C G.CS G.CP) := by
  refine F.okX scBLead (fun vs H Q E h => ?_) (fun cdv A outer s H vs Q E hr h => ?_)
  · obtain ⟨p, a, b, c, ms, L, m, m0, rfl, _⟩ := h
    rfl
  · obtain ⟨p, a, b, c, ms, L, m, m0, rfl, ⟨dx, t, qs, hp, ht, h3, h4⟩, hok, hm, hm0, h100, fa, fb, fc, k1, k2, k3, k4⟩ := h
    have G1 : FnOk P w K mg base (L2.CX P w) 5 CStep.f CStep.fd nFour (spCheckStep G.C G.CS G.CP) := (ok_checkStep CStep.at_ G).mono (by decide)
    have G2 : FnOk P w K mg base CX0 5 G.withStep.f G.withStep.fd nFour (spWithStep G.C) := ok_withStep G.withStep.at_ G.T G.MK G.isInt.at_ G.checkSteps.at_ G.checkGood.at_ G.B G.hS G.hL
    have G3 : FnOk P w K mg base CX0 5 G.countUnlike.f G.countUnlike.fd nTwo (spCountUnlike G.C) := ok_countUnlike G.countUnlike.at_ G.goals.at_ G.comeTo.at_ G.isUnlike.at_ G.useful.at_ G.counted.at_ G.checkPair.at_ G.T G.B G.hbb G.hbK
    obtain ⟨q, hq, hqm⟩ := bench_last (CB := G.CB) h3 h4 hm
    have okm : m.Ok L := hok m (List.mem_of_getElem? hm)
    refine ⟨_, pss_cons (ps_expr (pe_call G1 hr (by rfl) CStep.at_.mg CStep.at_.fn.kp CStep.at_.b .nil (passes_call (takes_of rfl rfl rfl rfl) fun _ _ _ _ h => h)
        (pa_cons (pe_ix ix_tup (pe_fld (pv 0) rfl) (pe_un un_neg pe_int) (fun _ _ => rfl)) (pa_cons (pv 1) (pa_cons (pv 2) (pa_cons (pv 3) pa_nil))))))
      (pss_cons (ps_fld (pv 0) (pe_op op_catA (pe_fld (pv 0) rfl) (pe_tup (pa_cons (pe_call G2 hr (by rfl) G.withStep.at_.mg G.withStep.at_.fn.kp G.withStep.at_.b .nil pass0
        (pa_cons (pe_ix ix_tup (pe_fld (pv 0) rfl) (pe_un un_neg pe_int) (fun _ _ => rfl)) (pa_cons (pv 1) (pa_cons (pv 2) (pa_cons (pv 3) pa_nil))))) pa_nil))) rfl)
      (pss_one (ps_ret (pe_call G3 hr (by rfl) G.countUnlike.at_.mg G.countUnlike.at_.fn.kp G.countUnlike.at_.b .nil pass0
        (pa_cons (pe_ix ix_tup (pe_fld (pv 0) rfl) pe_int (fun _ _ => rfl)) (pa_cons (pe_ix ix_tup (pe_fld (pv 0) rfl) (pe_un un_neg pe_int) (fun _ _ => rfl)) pa_nil)))))), ?_⟩
    refine ⟨_, rfl, p, G.CB, dx, _, _, rfl, hp, G.cB, G.nB, rfl, _, rfl, _, _, _, _, rfl, rfl, SqT.of ht, hq, _, rfl, _, rfl, _, rfl, q, a, b, c, m, L, rfl, hqm, okm, fa, fb, fc, k1, k2, k3, fun ea eb ec => ?_⟩
    obtain ⟨s', rfl, hs⟩ := isI_nat ea
    obtain ⟨l, rfl, hl⟩ := isI_nat eb
    obtain ⟨g, rfl, hg⟩ := isI_nat ec
    refine ⟨_, rfl, p, G.CB, dx, _, _, rfl, hp, G.cB, G.nB, rfl, _, rfl, p, G.CB, dx, _, _, rfl, hp, G.cB, G.nB, rfl, _, rfl, _, _, _, _, rfl, rfl, SqT.of ht, hq, _, rfl, _, rfl, _, rfl, q, m, L, s', l, g, rfl, hqm, okm, hs, hl, hg, fun H1 q1 s1 hq1 => ?_⟩
    refine ⟨by show 1 ≤ sizeLine; decide, fun r nr => ?_⟩
    have s2 : Same H1 (upd H1 r (.tup [.ref q1])) := same_new nr
    have s02 := s1.trans s2
    refine cat_any (s02 _ _ ht) upd_same (Nat.le_of_lt (small1000 (by rw [List.length_map, h3]; show _ + 1 ≤ 1000; omega))) fun H3 t3 s3 e3 => ?_
    have s03 := s02.trans s3
    have hp3 := s03 _ _ hp
    refine ⟨_, rfl, p, G.CB, dx, _, rfl, hp3, G.cB, G.nB, by show 1 < 1000; decide, ?_⟩
    have bb := bench_push G.ne hp h3 h4 s03 e3 ((hq1.same s2).same s3)
    have b0 : But p H _ := But.upd (p := p) (o := .ins G.CB dx (putF "past" (.ref t3) [(("past" : Str), .ref t)])) s03
    obtain ⟨dy, t5, qs5, hp5, ht5, h35, h45⟩ := id bb
    obtain ⟨qa, hqa, hma⟩ := bench_head (CB := G.CB) h35 h45 (head_app hm0)
    obtain ⟨qb, hqb, hmb⟩ := bench_last (CB := G.CB) h35 h45 last_app
    refine ⟨_, rfl, p, G.CB, dy, _, _, rfl, hp5, G.cB, G.nB, rfl, _, _, _, _, rfl, rfl, SqT.of ht5, hqa, _, rfl, p, G.CB, dy, _, _, rfl, hp5, G.cB, G.nB, rfl, _, rfl, _, _, _, _, rfl, rfl, SqT.of ht5, hqb, qa, qb, m0, _, L, rfl, hma, hmb, hok m0 (List.mem_of_getElem? hm0), stepM_ok okm hs hg, fun H6 r s6 hR => ?_⟩
    exact k4 s' l g rfl rfl rfl hs hl hg H6 r (b0.then s6) (bb.same s6) hR
def spTurn (CB C CS : Addr) : Sp := fun vs H Q E => ∃ p a ms L m m0, vs = [.ref p, a] ∧ BenchAt CB C H p ms ∧ (∀ x ∈ ms, Mac.Ok x L) ∧ ms[ms.length - 1]? = some m ∧ ms[0]? = some m0 ∧ ms.length ≤ 100 ∧ Flat a = true ∧
  (isI a 0 ((m.st.length : Int) - 1) = false → E (.ref CS) none H) ∧
  ∀ s, a = vi s → s < m.st.length → ∀ H' r, But p H H' → BenchAt CB C H' p (ms ++ [turnM m s]) → ResM m0 (turnM m s) r → Q (optV r) H'
theorem gd_len {m : Mac} {L : Nat} (ok : m.Ok L) : m.gd.length ≤ 8 := by
  have := nodup_len (ok.up.imp fun h => Nat.ne_of_lt h) (R := List.range m.st.length) fun x hx => List.mem_range.mpr (ok.gd x hx)
  rw [List.length_range] at this
  have := ok.n8
  omega
theorem ne_vi (a b : Nat) : (!decide (V.int (a : Int) = V.int (b : Int))) = !decide (a = b) := by
  by_cases h : a = b
  · subst h; simp
  · have : ¬ V.int (a : Int) = V.int (b : Int) := fun z => h (by injection z with z; omega)
    rw [decide_eq_false h, decide_eq_false this]
theorem ite_rest {c : Prop} [Decidable c] {A B : TE} {σ : L2.St} {H : Hp} {Q : VK} (R : V → Hp → Prop) (hr : ∀ x H1, R x H1 → Q x H1) (hk : ∀ Q' : VK, (∀ x H1, R x H1 → Q' x H1) → if c then A σ H Q' else B σ H Q') : if c then A σ H Q else B σ H Q := hk Q hr
theorem ok_bTurn {f : Addr} {fd : FuncData} (F : Fun K "turn" "Bench.turn" sBTurn f fd) (G : Prog K mg) : FnOk P w K mg base (L2.CX P w) 6 f fd nTurnP (spTurn G.CB G.C G.CS) := by
  refine F.okX scBTurn (fun vs H Q E h => ?_) (fun cdv A outer s H vs Q E hr h => ?_)
  · obtain ⟨p, a, ms, L, m, m0, rfl, _⟩ := h
    rfl
  · obtain ⟨p, a, ms, L, m, m0, rfl, ⟨dx, t, qs, hp, ht, h3, h4⟩, hok, hm, hm0, h100, fa, k1, k4⟩ := h
    have G1 : FnOk P w K mg base (L2.CX P w) 5 G.checkStand.f G.checkStand.fd nCheckStand (spCheckStand G.C G.CS) := (ok_checkStand G.checkStand.at_ G.isInt.at_ G.T G.xS G.B).mono (by decide)
    have GM : FnOk P w K mg base CX0 4 G.MK.f G.MK.fd nMInit (spMInit G.C) := (ok_mInit G.MK.fn G.T G.isInt.at_ G.checkSteps.at_ G.checkGood.at_ G.B G.hS G.hL).mono (by decide)
    have G3 : FnOk P w K mg base CX0 5 G.countUnlike.f G.countUnlike.fd nTwo (spCountUnlike G.C) := ok_countUnlike G.countUnlike.at_ G.goals.at_ G.comeTo.at_ G.isUnlike.at_ G.useful.at_ G.counted.at_ G.checkPair.at_ G.T G.B G.hbb G.hbK
    obtain ⟨q, hq, hqm⟩ := bench_last (CB := G.CB) h3 h4 hm
    have okm : m.Ok L := hok m (List.mem_of_getElem? hm)
    refine ⟨_, pss_cons (ps_expr (pe_call G1 hr (by rfl) G.checkStand.at_.mg G.checkStand.at_.fn.kp G.checkStand.at_.b .nil (passes_call (takes_of rfl rfl rfl rfl) fun _ _ _ _ h => h)
        (pa_cons (pe_ix ix_tup (pe_fld (pv 0) rfl) (pe_un un_neg pe_int) (fun _ _ => rfl)) (pa_cons (pv 1) pa_nil))))
      (pss_cons (ps_asg (pe_fld (pe_ix ix_tup (pe_fld (pv 0) rfl) (pe_un un_neg pe_int) (fun _ _ => rfl)) rfl) (pg_tup rfl (pgs_cons (pg_name (i := 2) scBTurn.nd rfl (.inl rfl)) (pgs_cons (pg_name (i := 3) scBTurn.nd rfl (.inl rfl)) pgs_nil))) (by rfl) (by rfl))
      (pss_cons (ps_set (i := 4) scBTurn.nd rfl (.inl rfl) (pe_ifExp (pt_cmpR op_in_seq (pv 1) (pv 3) (by with_unfolding_all rfl))
          (pe_lc (own := [("one", 5)]) (g := gName 5) rfl scBTurn.nd (pi_tup (pv 3)) (blkOk_by (N := nTurn) (sc := defScope sBTurn) (by decide +kernel)) (fun _ _ _ _ _ => pg_name (i := 5) scBTurn.nd rfl (Or.inl rfl))
            (fun _ _ _ _ _ => pts_one (pt_cmpR op_ne (pv 5) (pv 1) (nomark _))) (fun _ _ _ _ _ => pv 5))
          (pe_callB cr_sortedI (by rfl) G.B.sorted b_sorted (pa_cons (pe_op op_cat (pe_callTy call_list_of (by rfl) G.B.list b_list (pa_cons (pv 3) pa_nil)) (pe_lst (pa_cons (pv 1) pa_nil))) pa_nil))))
      (pss_cons (ps_fld (pv 0) (pe_op op_catA (pe_fld (pv 0) rfl) (pe_tup (pa_cons (pe_make G.MK.made GM hr (by rfl) G.T.mg G.MK.b .nil pass0 (pa_cons (pv 2) (pa_cons (pe_tupleOf (by rfl) G.B.tuple (pv 4)) pa_nil))) pa_nil))) rfl)
      (pss_one (ps_ret (pe_call G3 hr (by rfl) G.countUnlike.at_.mg G.countUnlike.at_.fn.kp G.countUnlike.at_.b .nil pass0
        (pa_cons (pe_ix ix_tup (pe_fld (pv 0) rfl) pe_int (fun _ _ => rfl)) (pa_cons (pe_ix ix_tup (pe_fld (pv 0) rfl) (pe_un un_neg pe_int) (fun _ _ => rfl)) pa_nil)))))))), ?_⟩
    refine ⟨_, rfl, p, G.CB, dx, _, _, rfl, hp, G.cB, G.nB, rfl, _, rfl, _, _, _, _, rfl, rfl, SqT.of ht, hq, _, rfl, q, a, m, rfl, hqm, fa, fun ea => ?_, k1⟩
    obtain ⟨s', rfl, hs⟩ := isI_nat ea
    obtain ⟨dm, pp, hqH, st, gd, hpp, hst, hgd⟩ := id hqm
    refine ⟨_, rfl, p, G.CB, dx, _, _, rfl, hp, G.cB, G.nB, rfl, _, rfl, _, _, _, _, rfl, rfl, SqT.of ht, hq, q, G.C, dm, _, _, rfl, hqH, G.T.cl, G.T.nP, rfl, pp, _, rfl, SqT.of hpp, rfl, _, _, rfl, _, _, rfl, rfl, ?_⟩
    have g8 := gd_len okm
    refine ⟨_, rfl, _, rfl, _, _, rfl, .inr (SqT.of hgd), rfl, flat_vi _, _, rfl, ?_⟩
    refine ite_rest (fun x H1 => ∃ D, x = .ref D ∧ Same H H1 ∧ H1 D = some (.lst ((turnM m s').gd.map vi))) ?_ ?_
    · rintro x0 H1 ⟨D, rfl, s1, hD⟩
      refine ⟨_, rfl, p, G.CB, dx, _, _, rfl, s1 _ _ hp, G.cB, G.nB, rfl, _, rfl, _, rfl, .inl ⟨D, _, rfl, SqL.of hD, fun g2 ng2 => ?_⟩⟩
      have s2 : Same H1 (upd H1 g2 (.tup ((turnM m s').gd.map vi))) := same_new ng2
      intro x dx2 nx ndx nex
      refine made_mac2 (m := turnM m s') nx ndx ((hst.same s1).same s2) upd_same (turnM_ok okm) _ ?_
      intro H3 s3 hx
      refine ⟨by show 1 ≤ sizeLine; decide, fun r nr => ?_⟩
      have s4 : Same H3 (upd H3 r (.tup [.ref x])) := same_new nr
      have s04 := ((s1.trans s2).trans s3).trans s4
      refine cat_any (s04 _ _ ht) upd_same (Nat.le_of_lt (small1000 (by rw [List.length_map, h3]; show _ + 1 ≤ 1000; omega))) fun H5 t5 s5 e5 => ?_
      have s05 := s04.trans s5
      have hp5 := s05 _ _ hp
      refine ⟨_, rfl, p, G.CB, dx, _, rfl, hp5, G.cB, G.nB, by show 1 < 1000; decide, ?_⟩
      have bb := bench_push G.ne hp h3 h4 s05 e5 ((hx.same s4).same s5)
      have b0 : But p H _ := But.upd (p := p) (o := .ins G.CB dx (putF "past" (.ref t5) [(("past" : Str), .ref t)])) s05
      obtain ⟨dy, t6, qs6, hp6, ht6, h36, h46⟩ := id bb
      obtain ⟨qa, hqa, hma⟩ := bench_head (CB := G.CB) h36 h46 (head_app hm0)
      obtain ⟨qb, hqb, hmb⟩ := bench_last (CB := G.CB) h36 h46 last_app
      refine ⟨_, rfl, p, G.CB, dy, _, _, rfl, hp6, G.cB, G.nB, rfl, _, _, _, _, rfl, rfl, SqT.of ht6, hqa, _, rfl, p, G.CB, dy, _, _, rfl, hp6, G.cB, G.nB, rfl, _, rfl, _, _, _, _, rfl, rfl, SqT.of ht6, hqb, qa, qb, m0, _, L, rfl, hma, hmb, hok m0 (List.mem_of_getElem? hm0), turnM_ok okm, fun H6 r s6 hR => ?_⟩
      exact k4 s' rfl hs H6 r (b0.then s6) (bb.same s6) hR
    intro Q' rest
    show if inV (vi s') (m.gd.map vi) = true then _ else _
    rw [inV_vi]
    by_cases hin : s' ∈ m.gd
    · rw [decide_eq_true hin]
      refine iteT ⟨_, rfl, gd, rfl, ⟨_, SqT.of hgd⟩, fun D nD => ?_⟩
      refine lc_tup (K := K) (a := gd) (xs := m.gd.map vi) (fun j H5 => H5 D = some (.lst (((m.gd.take j).filter fun i => !decide (i = s')).map vi)) ∧ Same H H5) ⟨upd_same, same_new nD⟩ (fun _ _ _ ⟨_, s5⟩ => SqT.of (s5 _ _ hgd)) ?_ ?_
      · rintro j y H5 hy ⟨hD, s5⟩
        obtain ⟨n, hn, rfl⟩ := map_get hy
        refine ⟨rfl, ?_⟩
        refine ⟨_, rfl, _, rfl, rfl, _, rfl, ?_⟩
        show if (!decide (V.int (n : Int) = V.int (s' : Int))) = true then _ else _
        rw [ne_vi]
        have et : (m.gd.take (j + 1)).filter (fun i => !decide (i = s')) = (m.gd.take j).filter (fun i => !decide (i = s')) ++ [n].filter (fun i => !decide (i = s')) := by rw [List.take_succ, hn, List.filter_append]; rfl
        by_cases hns : n = s'
        · have e2 : [n].filter (fun i => !decide (i = s')) = [] := List.filter_cons_of_neg (by simp [hns])
          rw [decide_eq_true hns]
          exact iteF ⟨by rw [et, e2, List.append_nil]; exact hD, s5⟩
        · have e2 : [n].filter (fun i => !decide (i = s')) = [n] := List.filter_cons_of_pos (by simp [hns])
          rw [decide_eq_false hns]
          refine iteT ⟨_, rfl, _, hD, small1000 ?_, ?_, same_upd s5 nD⟩
          · rw [List.length_map]
            have h1 := List.length_filter_le (fun i => !decide (i = s')) (m.gd.take j)
            have h2 : (m.gd.take j).length ≤ m.gd.length := by rw [List.length_take]; omega
            omega
          · rw [upd_same, et, e2, List.map_append]; rfl
      · rintro H5 ⟨hD, s5⟩
        rw [List.length_map, List.take_length, turn_out okm hin] at hD
        exact rest _ H5 ⟨D, rfl, s5, hD⟩
    · rw [decide_eq_false hin]
      refine iteF ⟨_, rfl, gd, _, rfl, .inr (SqT.of hgd), fun l1 nl1 => ?_⟩
      have s1 : Same H (upd H l1 (.lst (m.gd.map vi))) := same_new nl1
      refine ⟨_, rfl, by show 1 ≤ sizeLine; decide, fun l2 nl2 => ?_⟩
      have s2 := s1.trans (same_new nl2 (o := .lst [vi s']))
      have n12 : l1 ≠ l2 := fun z => by rw [← z, upd_same] at nl2; cases nl2
      refine ⟨l1, l2, _, _, rfl, rfl, by rw [upd_ne n12]; exact upd_same, upd_same, Nat.le_of_lt (small1000 (by rw [List.length_map]; show _ + 1 ≤ 1000; omega)), fun l3 nl3 => ?_⟩
      have s3 := s2.trans (same_new nl3 (o := .lst (m.gd.map vi ++ [vi s'])))
      have e3 : m.gd.map vi ++ [vi s'] = ((m.gd ++ [s']).map fun n : Nat => ((n : Nat) : Int)).map V.int := by rw [List.map_map, List.map_append]; rfl
      refine ⟨l3, (m.gd ++ [s']).map fun n : Nat => ((n : Nat) : Int), rfl, SqL.of (by rw [← e3]; exact upd_same), fun ns l4 hperm hsort nl4 => ?_⟩
      have s4 := s3.trans (same_new nl4 (o := .lst (ns.map V.int)))
      exact rest _ _ ⟨l4, rfl, s4, by rw [upd_same, turn_in okm hin hs hperm hsort]⟩
end
end Bf
set_option Elab.async false
set_option linter.all false
set_option maxRecDepth 100000
set_option maxHeartbeats 4000000
/-! BfL1: the law's draws. -/
namespace Bf
open PySem PySem.Spec PyProof.Rows L2
abbrev sMix : Stmt := top 30
abbrev sNext : Stmt := top 31
abbrev sPick : Stmt := top 33
abbrev nMixP : List Str := ["_law_script", "_law_seed"]
abbrev nMix : List Str := ["_law_script", "_law_seed", "_law_state", "_law_cell"]
abbrev nNextP : List Str := ["_law_h", "_law_cap"]
abbrev nNext : List Str := ["_law_h", "_law_cap", "_law_cell"]
abbrev nPick : List Str := ["_law_h", "_law_things"]
theorem scMix : FnScope nMix nMixP (defScope sMix) := ⟨rfl, rfl, rfl, by decide +kernel, rfl, by decide +kernel, by decide +kernel⟩
theorem scNext : FnScope nNext nNextP (defScope sNext) := ⟨rfl, rfl, rfl, by decide +kernel, rfl, by decide +kernel, by decide +kernel⟩
theorem scPick : FnScope nPick nPick (defScope sPick) := ⟨rfl, rfl, rfl, by decide +kernel, rfl, by decide +kernel, by decide +kernel⟩
/-- the draws' list at h, its cells at c -/
def RngAt (H : Hp) (h c : Addr) : Prop := c ≠ h ∧ ∃ (st : Int) (ns : List Int) (i : Nat), 0 ≤ st ∧ st < 2147483647 ∧ ns.length ≤ 900 ∧ H h = some (.lst [.int st, .ref c, vi i]) ∧ H c = some (.lst (ns.map V.int))
/-- all but h and c is as it was -/
def Fr (h c : Addr) (H H' : Hp) : Prop := ∀ b o, H b = some o → b ≠ h → b ≠ c → H' b = some o
theorem Fr.refl {h c : Addr} {H : Hp} : Fr h c H H := fun _ _ e _ _ => e
theorem Fr.trans {h c : Addr} {H H1 H2 : Hp} (a : Fr h c H H1) (b : Fr h c H1 H2) : Fr h c H H2 := fun x o e n1 n2 => b x o (a x o e n1 n2) n1 n2
theorem Fr.of {h c : Addr} {H H' : Hp} (s : Same H H') : Fr h c H H' := fun x o e _ _ => s x o e
theorem RngAt.same {h c : Addr} {H H' : Hp} (r : RngAt H h c) (s : Same H H') : RngAt H' h c := by
  obtain ⟨n, st, ns, i, h1, h2, h3, h4, h5⟩ := r
  exact ⟨n, st, ns, i, h1, h2, h3, s _ _ h4, s _ _ h5⟩
theorem RngAt.put {h c d : Addr} {H : Hp} {o : HO} (r : RngAt H h c) (n1 : h ≠ d) (n2 : c ≠ d) : RngAt (upd H d o) h c := by
  obtain ⟨n, st, ns, i, h1, h2, h3, h4, h5⟩ := r
  exact ⟨n, st, ns, i, h1, h2, h3, by rw [upd_ne n1]; exact h4, by rw [upd_ne n2]; exact h5⟩
/-- what the draws leave alone -/
theorem RngAt.ap {h c d : Addr} {H : Hp} (r : RngAt H h c) (n : H d = none) : d ≠ h ∧ d ≠ c := by
  obtain ⟨_, st, ns, i, h1, h2, h3, h4, h5⟩ := r
  exact ⟨fun z => by (rw [z, h4] at n; cases n), fun z => by (rw [z, h5] at n; cases n)⟩
theorem RngAt.ap2 {h c d : Addr} {H : Hp} {o : HO} (r : RngAt H h c) (e : H d = some o) (n : ∀ xs, o ≠ .lst xs) : d ≠ h ∧ d ≠ c := by
  obtain ⟨_, st, ns, i, h1, h2, h3, h4, h5⟩ := r
  exact ⟨ne_of e h4 (n _), ne_of e h5 (n _)⟩
/-- what never changes stays -/
theorem Fr.tup {h c : Addr} {H H' : Hp} (f : Fr h c H H') (r : RngAt H h c) {a : Addr} {xs : List V} (e : H a = some (.tup xs)) : H' a = some (.tup xs) :=
  let ⟨n1, n2⟩ := r.ap2 e (fun _ z => nomatch z); f a _ e n1 n2
theorem Fr.stay {CB h c : Addr} {H H' : Hp} (f : Fr h c H H') (r : RngAt H h c) : Stay CB H H' := fun b o i e => by
  obtain ⟨n1, n2⟩ := r.ap2 e (fun xs z => by rw [z] at i; exact i)
  exact f b o e n1 n2
section
variable {P : Program} {w : World} {K : PySem.W.Frag} {mg : Str → Option Value} {base : Heap}
def spMix (K : PySem.W.Frag) : Sp := fun vs H Q _ => ∃ (a : Addr) (ns : List Int), vs = [.ref a, .int 12] ∧ SqL K H a (ns.map V.int) ∧ ns.length ≤ 63 ∧ ∀ H' h c, Same H H' → H h = none → H c = none → RngAt H' h c → Q (.ref h) H'
theorem mul_small {a b : Int} (h1 : 0 ≤ a) (h2 : a < 2147483647) : CMul a b := .inl ⟨by omega, by omega⟩
theorem ok_mix {f : Addr} {fd : FuncData} (F : DefAt K mg "_law_mix" sMix nMixP f fd) (B : Bl mg) : FnOk P w K mg base CX0 1 f fd nMixP (spMix K) := by
  refine F.fn.ok scMix (fun vs H Q E h => ?_) (fun cdv A outer s H vs Q E hr h => ?_)
  · obtain ⟨a, ns, rfl, _⟩ := h
    rfl
  · obtain ⟨a, ns, rfl, hS, hl, kk⟩ := h
    refine ⟨_, pss_cons (ps_set (i := 2) scMix.nd rfl (.inl rfl) (pv 1))
      (pss_cons (ps_for PassesOwn.never rfl (pi_list (pv 0)) (pg_name (i := 3) scMix.nd rfl (.inl rfl))
        (pss_one (ps_set (i := 2) scMix.nd rfl (.inl rfl) (pe_op op_mod (pe_callTy call_int1 (by rfl) B.int b_int (pa_cons (pe_op op_add (pe_op op_add (pe_op op_mul (pv 2) pe_int)
          (pe_op op_mod (pe_callTy call_int1 (by rfl) B.int b_int (pa_cons (pv 3) pa_nil)) pe_int)) pe_int) pa_nil)) pe_int))))
      (pss_one (ps_ret (pe_lst (pa_cons (pv 2) (pa_cons (pe_callTy call_list_of (by rfl) B.list b_list (pa_cons (pv 0) pa_nil)) (pa_cons pe_int pa_nil))))))), ?_⟩
    refine ⟨_, rfl, ?_⟩
    refine ⟨_, rfl, a, rfl, ⟨_, hS⟩, for_list (K := K) (a := a) (xs := ns.map V.int) (fun i σ H2 => ∃ (st : Int) (v : Option V), σ = [some (.ref a), some (.int 12), some (.int st), v] ∧ 0 ≤ st ∧ st < 2147483647 ∧ H2 = H)
      ⟨12, none, rfl, by decide, by decide, rfl⟩ (fun _ _ _ _ ⟨_, _, _, _, _, e⟩ => by rw [e]; exact hS) ?_ ?_⟩
    · rintro i x σ H2 hx ⟨st, v, rfl, h0, h1, rfl⟩
      obtain ⟨n, _, rfl⟩ := map_get hx
      refine ⟨_, rfl, _, _, rfl, rfl, mul_small h0 h1, _, rfl, .inl ⟨_, rfl, _, _, rfl, rfl, by show (0 : Int) < 2147483629; decide, ?_⟩⟩
      refine ⟨_, _, rfl, rfl, _, _, rfl, rfl, .inl ⟨_, rfl, _, _, rfl, rfl, by show (0 : Int) < 2147483647; decide, ?_⟩⟩
      exact ⟨_, _, rfl, Int.emod_nonneg _ (by decide), Int.emod_lt_of_pos _ (by decide), rfl⟩
    · rintro σ H2 ⟨st, v, rfl, h0, h1, rfl⟩
      refine ⟨_, rfl, _, rfl, a, _, rfl, .inl hS, fun c nc => ?_⟩
      refine ⟨by show 3 ≤ sizeLine; decide, fun h nh => ?_⟩
      have s1 : Same H2 (upd H2 c (.lst (ns.map V.int))) := same_new nc
      have nhc : h ≠ c := fun z => by rw [z, upd_same] at nh; cases nh
      exact kk _ h c (s1.trans (same_new nh)) (s1.free nh) nc ⟨nhc.symm, st, ns, 0, h0, h1, by omega, upd_same, by rw [upd_ne nhc.symm]; exact upd_same⟩
def spNext : Sp := fun vs H Q _ => ∃ h c cap, vs = [.ref h, vi cap] ∧ RngAt H h c ∧ 0 < cap ∧ cap ≤ 1000 ∧ ∀ H' r, RngAt H' h c → Fr h c H H' → r < cap → Q (vi r) H'
theorem emod_vi (x : Int) (cap : Nat) (h : 0 < cap) : ∃ r : Nat, r < cap ∧ V.int (x % (cap : Int)) = vi r := by
  have h1 := Int.emod_nonneg x (show (cap : Int) ≠ 0 by omega)
  have h2 := Int.emod_lt_of_pos x (show (0 : Int) < cap by omega)
  exact ⟨(x % (cap : Int)).toNat, by omega, by show V.int _ = V.int (((x % (cap : Int)).toNat : Nat) : Int); rw [Int.toNat_of_nonneg h1]⟩
theorem ok_next {f : Addr} {fd : FuncData} (F : DefAt K mg "_law_next" sNext nNextP f fd) (B : Bl mg) : FnOk P w K mg base CX0 1 f fd nNextP spNext := by
  refine F.fn.ok scNext (fun vs H Q E h => ?_) (fun cdv A outer s H vs Q E hr h => ?_)
  · obtain ⟨h, c, cap, rfl, _⟩ := h
    rfl
  · obtain ⟨h, c, cap, rfl, hR, hc0, hc1, kk⟩ := h
    obtain ⟨hne, st, ns, i, h0, h1, hnl, hh, hc⟩ := id hR
    refine ⟨_, pss_cons (ps_set (i := 2) scNext.nd rfl (.inl rfl) (pe_ix ix_list (pe_op op_cat (pe_ix ix_list (pv 0) pe_int (fun _ _ => rfl)) (pe_lst (pa_cons pe_int pa_nil)))
          (pe_op op_mod (pe_callTy call_int1 (by rfl) B.int b_int (pa_cons (pe_ix ix_list (pv 0) pe_int (fun _ _ => rfl)) pa_nil))
            (pe_callB (call_max2 rfl) (by rfl) B.max b_max (pa_cons pe_int (pa_cons (pe_callB c_len (by rfl) B.len b_len (pa_cons (pe_ix ix_list (pv 0) pe_int (fun _ _ => rfl)) pa_nil)) pa_nil)))) (fun _ _ => rfl)))
      (pss_cons (ps_if (pt_cmpR op_ge (pv 2) (pe_op op_pow pe_int pe_int) (nomark _))
        (pss_cons (ps_asg (pe_op op_fdivW (pv 2) (pv 1)) (pg_sub (pe_ix ix_list (pv 0) pe_int (fun _ _ => rfl))
          (pe_op op_mod (pe_callTy call_int1 (by rfl) B.int b_int (pa_cons (pe_ix ix_list (pv 0) pe_int (fun _ _ => rfl)) pa_nil)) (pe_callB c_len (by rfl) B.len b_len (pa_cons (pe_ix ix_list (pv 0) pe_int (fun _ _ => rfl)) pa_nil))) set_list) (by rfl) (by rfl))
        (pss_one (ps_ret (pe_op op_mod (pe_callTy call_int1 (by rfl) B.int b_int (pa_cons (pv 2) pa_nil)) (pv 1))))) pss_nil)
      (pss_cons (ps_asg (pe_op op_mod (pe_callTy call_int1 (by rfl) B.int b_int (pa_cons (pe_op op_add (pe_op op_add (pe_op op_mul (pe_ix ix_list (pv 0) pe_int (fun _ _ => rfl)) pe_int) (pe_op op_mul (pv 2) pe_int)) pe_int) pa_nil)) pe_int)
          (pg_sub (pv 0) pe_int set_list) (by rfl) (by rfl))
      (pss_cons (ps_asg (pe_op op_add (pe_ix ix_list (pv 0) pe_int (fun _ _ => rfl)) pe_int) (pg_sub (pv 0) pe_int set_list) (by rfl) (by rfl))
      (pss_one (ps_ret (pe_op op_mod (pe_callTy call_int1 (by rfl) B.int b_int (pa_cons (pe_op op_fdiv (pe_ix ix_list (pv 0) pe_int (fun _ _ => rfl)) pe_int) pa_nil)) (pv 1))))))), ?_⟩
    refine ⟨_, rfl, _, _, _, _, rfl, rfl, SqL.of hh, atI_nat (j := 1) rfl, ?_⟩
    refine ⟨by show 1 ≤ sizeLine; decide, fun l1 nl1 => ?_⟩
    have s1 : Same H (upd H l1 (.lst [.int 0])) := same_new nl1
    refine ⟨c, l1, _, _, rfl, rfl, s1 _ _ hc, upd_same, Nat.le_of_lt (small1000 (by rw [List.length_map]; show _ + 1 ≤ 1000; omega)), fun l2 nl2 => ?_⟩
    have s2 := s1.trans (same_new nl2 (o := .lst (ns.map V.int ++ [.int 0])))
    refine ⟨_, rfl, _, _, _, _, rfl, rfl, SqL.of (s2 _ _ hh), atI_nat (j := 2) rfl, .inl ⟨_, rfl, _, rfl, _, _, _, _, rfl, rfl, SqL.of (s2 _ _ hh), atI_nat (j := 1) rfl, _, _, rfl, .inl (SqL.of (s2 _ _ hc)), _, _, rfl, ?_⟩⟩
    rw [List.length_map]
    have hmx : 0 < (if ((ns.length : Nat) : Int) > 1 then ((ns.length : Nat) : Int) else 1) := by split <;> omega
    refine ⟨_, _, rfl, rfl, hmx, ?_⟩
    obtain ⟨k, hk, hkc⟩ : ∃ k : Nat, ((i : Int) % (if ((ns.length : Nat) : Int) > 1 then ((ns.length : Nat) : Int) else 1)) = (k : Int) ∧ ∃ cell, (ns ++ [0])[k]? = some cell ∧ (ns = [] → cell = 0) ∧ (ns ≠ [] → k < ns.length ∧ (i : Int) % (ns.length : Int) = (k : Int)) := by
      have h1 := Int.emod_nonneg (i : Int) (show (if ((ns.length : Nat) : Int) > 1 then ((ns.length : Nat) : Int) else 1) ≠ 0 by omega)
      have h2 := Int.emod_lt_of_pos (i : Int) hmx
      refine ⟨((i : Int) % (if ((ns.length : Nat) : Int) > 1 then ((ns.length : Nat) : Int) else 1)).toNat, by omega, ?_⟩
      generalize hx : ((i : Int) % (if ((ns.length : Nat) : Int) > 1 then ((ns.length : Nat) : Int) else 1)) = x at h1 h2
      cases ns with
      | nil =>
        have hx0 : x.toNat = 0 := by
          have : x < 1 := h2
          omega
        exact ⟨0, by rw [hx0]; rfl, fun _ => rfl, fun z => absurd rfl z⟩
      | cons a r =>
        have hl : (if (((a :: r).length : Nat) : Int) > 1 then (((a :: r).length : Nat) : Int) else 1) = (((a :: r).length : Nat) : Int) := by
          have : 0 < (a :: r).length := by simp
          split <;> omega
        rw [hl] at h2 hx
        have hlt : x.toNat < (a :: r).length := by omega
        exact ⟨(a :: r)[x.toNat], by rw [List.getElem?_append_left hlt, List.getElem?_eq_getElem hlt], fun z => (nomatch z), fun _ => ⟨hlt, by rw [hx]; omega⟩⟩
    obtain ⟨cell, hcell, hce, hcn⟩ := hkc
    show rIxL K (V.ref l2) (V.int ((i : Int) % (if ((ns.length : Nat) : Int) > 1 then ((ns.length : Nat) : Int) else 1))) _ _
    rw [hk]
    have hat : (ns.map V.int ++ [V.int 0])[k]? = some (.int cell) := by
      have : ns.map V.int ++ [V.int 0] = (ns ++ [0]).map V.int := by rw [List.map_append]; rfl
      rw [this, List.getElem?_map, hcell]
      rfl
    refine ⟨_, _, _, _, rfl, rfl, SqL.of upd_same, atI_nat hat, ?_⟩
    have hh2 := s2 _ _ hh
    have hc2 := s2 _ _ hc
    refine ⟨_, rfl, _, _, rfl, rfl, ⟨by decide, by decide, by decide⟩, _, _, rfl, rfl, _, rfl, ?_⟩
    by_cases hbig : (10 : Int) ^ (18 : Int).toNat ≤ cell
    · rw [decide_eq_true hbig]
      have hnn : ns ≠ [] := fun z => by
        rw [hce z] at hbig
        exact absurd hbig (by decide)
      obtain ⟨hkl, hkm⟩ := hcn hnn
      have hlog : (cap : Int).natAbs.log2 < 9000 := by
        have h1 : (cap : Int).natAbs ≤ 1000 := by omega
        have h2 : (cap : Int).natAbs.log2 ≤ (cap : Int).natAbs := Nat.log2_le_self _
        omega
      refine iteT ⟨_, rfl, _, rfl, _, _, rfl, rfl, ⟨by omega, hlog⟩, ?_⟩
      refine ⟨_, rfl, _, _, _, _, rfl, rfl, SqL.of hh2, atI_nat (j := 1) rfl, _, rfl, _, _, _, _, rfl, rfl, SqL.of hh2, atI_nat (j := 2) rfl, .inl ⟨_, rfl, _, rfl, _, _, _, _, rfl, rfl, SqL.of hh2, atI_nat (j := 1) rfl, _, _, rfl, .inl (SqL.of hc2), _, _, rfl, rfl, ?_⟩⟩
      rw [List.length_map]
      refine ⟨by omega, ?_⟩
      show rSetL (V.ref c) (V.int ((i : Int) % (ns.length : Int))) _ _ _
      rw [hkm]
      refine ⟨c, _, _, k, rfl, rfl, hc2, ?_, ?_⟩
      · unfold ixN
        rw [if_pos (by omega), if_pos (by rw [List.length_map]; omega)]
        simp
      obtain ⟨r, hr1, hr2⟩ := emod_vi cell cap hc0
      refine ⟨_, rfl, .inl ⟨_, rfl, _, rfl, _, _, rfl, rfl, by omega, ?_⟩⟩
      show Q (V.int (cell % (cap : Int))) _
      rw [hr2]
      refine kk _ r ⟨hne, st, ns.set k (cell / (cap : Int)), i, h0, h1, by rw [List.length_set]; exact hnl, by rw [upd_ne hne.symm]; exact hh2, by rw [upd_same, List.map_set]⟩ (fun b o e n1 n2 => by rw [upd_ne n2]; exact s2 b o e) hr1
    · rw [decide_eq_false hbig]
      refine iteF ?_
      refine ⟨_, rfl, _, _, _, _, rfl, rfl, SqL.of hh2, atI_nat (j := 0) rfl, _, _, rfl, rfl, mul_small h0 h1, _, rfl, _, _, rfl, rfl, .inr ⟨by decide, by decide⟩, _, _, rfl, rfl, _, _, rfl, rfl, .inl ⟨_, rfl, _, _, rfl, rfl, by show (0 : Int) < 2147483647; decide, ?_⟩⟩
      have g0 : 0 ≤ (st * 48271 + cell * 69621 + 11) % 2147483647 := Int.emod_nonneg _ (by decide)
      have g1 : (st * 48271 + cell * 69621 + 11) % 2147483647 < 2147483647 := Int.emod_lt_of_pos _ (by decide)
      refine ⟨_, rfl, h, _, 0, 0, rfl, rfl, hh2, rfl, ?_⟩
      refine ⟨_, rfl, _, _, _, _, rfl, rfl, SqL.of upd_same, atI_nat (j := 2) rfl, _, _, rfl, rfl, ?_⟩
      refine ⟨_, rfl, h, _, 2, 2, rfl, rfl, upd_same, rfl, ?_⟩
      rw [upd_upd]
      refine ⟨_, rfl, _, _, _, _, rfl, rfl, SqL.of upd_same, atI_nat (j := 0) rfl, _, _, rfl, rfl, ⟨by decide, by decide⟩, .inl ⟨_, rfl, _, rfl, _, _, rfl, rfl, by omega, ?_⟩⟩
      obtain ⟨r, hr1, hr2⟩ := emod_vi ((st * 48271 + cell * 69621 + 11) % 2147483647 / 7) cap hc0
      show Q (V.int ((st * 48271 + cell * 69621 + 11) % 2147483647 / 7 % (cap : Int))) _
      rw [hr2]
      refine kk _ r ⟨hne, _, ns, i + 1, g0, g1, hnl, upd_same, by rw [upd_ne hne]; exact hc2⟩ (fun b o e n1 n2 => by rw [upd_ne n1]; exact s2 b o e) hr1
/-- one of the things that are offered -/
def spPick : Sp := fun vs H Q _ => ∃ (h c l : Addr) (xs : List V), vs = [.ref h, .ref l] ∧ RngAt H h c ∧ H l = some (.lst xs) ∧ l ≠ h ∧ l ≠ c ∧ 0 < xs.length ∧ xs.length ≤ 1000 ∧ ∀ H' x, x ∈ xs → RngAt H' h c → Fr h c H H' → Q x H'
theorem ok_pick {f f1 : Addr} {fd fd1 : FuncData} (F : DefAt K mg "_law_pick" sPick nPick f fd) (F1 : DefAt K mg "_law_next" sNext nNextP f1 fd1) (B : Bl mg) : FnOk P w K mg base CX0 2 f fd nPick spPick := by
  refine F.fn.ok scPick (fun vs H Q E h => ?_) (fun cdv A outer s H vs Q E hr h => ?_)
  · obtain ⟨h, c, l, xs, rfl, _⟩ := h
    rfl
  · obtain ⟨h, c, l, xs, rfl, hR, hl, n1, n2, h0, h1, kk⟩ := h
    have G1 : FnOk P w K mg base CX0 1 f1 fd1 nNextP spNext := ok_next F1 B
    refine ⟨_, pss_one (ps_ret (pe_ix ix_list (pv 1) (pe_call G1 hr (by rfl) F1.mg F1.fn.kp F1.b .nil pass0 (pa_cons (pv 0) (pa_cons (pe_callB c_len (by rfl) B.len b_len (pa_cons (pv 1) pa_nil)) pa_nil))) (fun _ _ => rfl))), ?_⟩
    refine ⟨_, rfl, _, rfl, _, rfl, _, _, rfl, .inl (SqL.of hl), h, c, xs.length, rfl, hR, h0, h1, fun H' r hR' hF hr' => ?_⟩
    refine ⟨_, _, _, _, rfl, rfl, SqL.of (hF _ _ hl n1 n2), atI_nat (j := r) (List.getElem?_eq_getElem hr'), kk H' _ (List.getElem_mem hr') hR' hF⟩
end
end Bf
set_option Elab.async false
set_option linter.all false
set_option maxRecDepth 100000
set_option maxHeartbeats 4000000
/-! BfL2: a machine is drawn. -/
namespace Bf
open PySem PySem.Spec PyProof.Rows L2
/-- a value by what one wants to know of it -/
def tCut (te : TE) : TE := fun σ H Q => ∃ R : VK, te σ H R ∧ ∀ x H', R x H' → Q x H'
theorem pe_cut {X : Cx} {e : Expr} {te : TE} (h : PE X e te) : PE X e (tCut te) := by
  refine ⟨fun pins s σ H Q I hw => ?_⟩
  obtain ⟨R, h1, h2⟩ := hw
  exact wpAny_mono (h.run pins s σ H R I h1) (fun v s' ⟨x, H1, I1, r, q⟩ => ⟨x, H1, I1, r, h2 x H1 q⟩) fun _ _ z => z
theorem Fr.upd {h c d : Addr} {H H1 : Hp} {o : HO} (f : Fr h c H H1) (n : H d = none) : Fr h c H (upd H1 d o) := fun b u e n1 n2 => by
  rw [upd_ne (ne_of_none e n)]
  exact f b u e n1 n2
abbrev sParts : Stmt := top 34
abbrev nPartsP : List Str := ["_law_h", "_law_letters"]
abbrev nParts : List Str := ["_law_h", "_law_letters", "_law_many", "_law_early", "_law_steps", "_law_good", "_law_stand", "_law_low", "_law_letter"]
theorem scParts : FnScope nParts nPartsP (defScope sParts) := ⟨rfl, rfl, rfl, by decide +kernel, rfl, by decide +kernel, by decide +kernel⟩
section
variable {P : Program} {w : World} {K : PySem.W.Frag} {mg : Str → Option Value} {base : Heap}
def spParts : Sp := fun vs H Q _ => ∃ h c L, vs = [.ref h, vi L] ∧ RngAt H h c ∧ 1 ≤ L ∧ L ≤ 3 ∧ ∀ H' a m, RngAt H' h c → Fr h c H H' → PartsAt H' a m → Mac.Ok m L → Q (.ref a) H'
theorem sub_vi {a b : Nat} (h : b ≤ a) : V.int ((a : Int) - (b : Int)) = vi (a - b) := by
  show V.int _ = V.int (((a - b : Nat) : Nat) : Int)
  congr 1
  omega
theorem vi_zero (r : Nat) : decide (vi r = V.int 0) = decide (r = 0) := by
  by_cases h : r = 0
  · subst h; rfl
  · have : ¬ vi r = V.int 0 := fun z => h (by injection z with z; omega)
    rw [decide_eq_false h, decide_eq_false this]
/-- what has been drawn so far -/
structure DrawI (h c : Addr) (H0 H : Hp) (n L i : Nat) (sl gl : Addr) (as : List Addr) (ss : List (List Nat)) (g : List Nat) : Prop where
  rng : RngAt H h c
  fr : Fr h c H0 H
  ns : H0 sl = none
  ng : H0 gl = none
  ne : sl ≠ gl
  hs : H sl = some (.lst (as.map V.ref))
  hg : H gl = some (.lst (g.map vi))
  rows : RowsAt H as ss
  len : ss.length = i
  row : ∀ r ∈ ss, r.length = L ∧ ∀ x ∈ r, x < n
  up : g.Pairwise (· < ·)
  lt : ∀ x ∈ g, x < i
theorem ok_parts {f f1 f2 : Addr} {fd fd1 fd2 : FuncData} (F : DefAt K mg "_law_parts" sParts nPartsP f fd) (F1 : DefAt K mg "_law_next" sNext nNextP f1 fd1) (F2 : DefAt K mg "_law_pick" sPick nPick f2 fd2) (B : Bl mg) : FnOk P w K mg base CX0 3 f fd nPartsP spParts := by
  refine F.fn.ok scParts (fun vs H Q E h => ?_) (fun cdv A outer s H vs Q E hr h => ?_)
  · obtain ⟨h, c, L, rfl, _⟩ := h
    rfl
  · obtain ⟨h, c, L, rfl, hR, l1, l3, kk⟩ := h
    have G1 : FnOk P w K mg base CX0 2 f1 fd1 nNextP spNext := (ok_next F1 B).mono (by decide)
    have G2 : FnOk P w K mg base CX0 2 f2 fd2 nPick spPick := ok_pick F2 F1 B
    refine ⟨_, pss_cons (ps_asg (pe_cut (pe_tup (pa_cons (pe_op op_add pe_int (pe_call G1 hr (by rfl) F1.mg F1.fn.kp F1.b .nil pass0 (pa_cons (pv 0) (pa_cons (pe_call G2 hr (by rfl) F2.mg F2.fn.kp F2.b .nil pass0 (pa_cons (pv 0) (pa_cons (pe_lst (pa_cons pe_int (pa_cons pe_int pa_nil))) pa_nil))) pa_nil))))
        (pa_cons (pe_call G1 hr (by rfl) F1.mg F1.fn.kp F1.b .nil pass0 (pa_cons (pv 0) (pa_cons pe_int pa_nil))) pa_nil))))
        (pg_tup rfl (pgs_cons (pg_name (i := 2) scParts.nd rfl (.inr rfl)) (pgs_cons (pg_name (i := 3) scParts.nd rfl (.inl rfl)) pgs_nil))) (by rfl) (by rfl))
      (pss_cons (ps_par (i := 4) (j := 5) rfl scParts.nd rfl rfl (by decide) rfl rfl (pa_cons (pe_lst pa_nil) (pa_cons (pe_lst pa_nil) pa_nil)) (by rfl))
      (pss_cons (ps_for PassesOwn.never rfl (pi_range1 (by rfl) B.range (pa_cons (pv 2) pa_nil)) (pg_name (i := 6) scParts.nd rfl (.inl rfl))
        (pss_cons (ps_set (i := 7) scParts.nd rfl (.inr rfl) (pe_cut (pe_ifExp (PW.pt (pw_and (pt_cmpR op_lt (pv 6) (pv 3) (nomark _)) (pw_and1 (pt_cmpR op_lt (pe_op op_add (pv 6) pe_int) (pv 2) (nomark _)))))
            (pe_op op_add (pv 6) pe_int)
            (pe_call G2 hr (by rfl) F2.mg F2.fn.kp F2.b .nil pass0 (pa_cons (pv 0) (pa_cons (pe_lst (pa_cons pe_int (pa_cons (pe_callB (call_min2 rfl) (by rfl) B.min b_min (pa_cons (pv 3) (pa_cons (pe_op op_sub (pv 2) pe_int) pa_nil))) pa_nil))) pa_nil))))))
        (pss_cons (ps_expr (pe_bm PySem.F.plainAttrs_list PySem.F.slot_list_append PySem.F.type_list_append mt_append (pv 4) (pa_cons (pe_tupleOf (by rfl) B.tuple
            (pe_lc (own := [("_law_letter", 8)]) (g := gName 8) (tt := tYes) rfl scParts.nd (pi_range1 (by rfl) B.range (pa_cons (pv 1) pa_nil)) (blkOk_by (N := nParts) (sc := defScope sParts) (by decide +kernel)) (fun _ _ _ _ _ => pg_name (i := 8) scParts.nd rfl (Or.inl rfl)) (fun _ _ _ _ _ => pts_nil)
              (fun _ _ _ _ _ => pe_op op_add (pv 7) (pe_call G1 hr (by rfl) F1.mg F1.fn.kp F1.b .nil pass0 (pa_cons (pv 0) (pa_cons (pe_op op_sub (pv 2) (pv 7)) pa_nil)))))) pa_nil)))
        (pss_one (ps_if (pt_cmpR op_eq (pe_call G1 hr (by rfl) F1.mg F1.fn.kp F1.b .nil pass0 (pa_cons (pv 0) (pa_cons pe_int pa_nil))) pe_int (nomark _))
          (pss_one (ps_expr (pe_bm PySem.F.plainAttrs_list PySem.F.slot_list_append PySem.F.type_list_append mt_append (pv 5) (pa_cons (pv 6) pa_nil)))) pss_nil)))))
      (pss_one (ps_ret (pe_tup (pa_cons (pe_tupleOf (by rfl) B.tuple (pv 4)) (pa_cons (pe_tupleOf (by rfl) B.tuple (pv 5)) pa_nil))))))), ?_⟩
    refine ⟨fun x H4 => ∃ (n ey : Nat) (T : Addr), x = .ref T ∧ H4 T = some (.tup [vi n, vi ey]) ∧ 1 ≤ n ∧ n ≤ 8 ∧ RngAt H4 h c ∧ Fr h c H H4, ?_, ?_⟩
    · refine ⟨_, rfl, _, rfl, by show 2 ≤ sizeLine; decide, fun l0 nl0 => ?_⟩
      have s1 : Same H (upd H l0 (.lst [.int 3, .int 8])) := same_new nl0
      obtain ⟨a1, a2⟩ := hR.ap nl0
      refine ⟨h, c, l0, [.int 3, .int 8], rfl, hR.same s1, upd_same, a1, a2, by decide, by decide, fun H1 x hx hR1 hF1 => ?_⟩
      obtain ⟨cap, hcap, hc0, hc8⟩ : ∃ cap : Nat, x = vi cap ∧ 0 < cap ∧ cap ≤ 8 := by
        rcases List.mem_cons.mp hx with e | hx
        · exact ⟨3, e, by decide, by decide⟩
        · exact ⟨8, List.mem_singleton.mp hx, by decide, by decide⟩
      subst hcap
      refine ⟨h, c, cap, rfl, hR1, hc0, by omega, fun H2 r hR2 hF2 hr' => ?_⟩
      refine ⟨_, _, rfl, rfl, _, rfl, h, c, 5, rfl, hR2, by decide, by decide, fun H3 ey hR3 hF3 hey => ?_⟩
      refine ⟨two_line, fun T nT => ⟨1 + r, ey, T, rfl, upd_same, by omega, by omega, hR3.same (same_new nT), ((((Fr.of s1).trans hF1).trans hF2).trans hF3).trans (Fr.of (same_new nT))⟩⟩
    rintro x H4 ⟨n, ey, T, rfl, hT, n1, n8, hR4, f0⟩
    refine ⟨T, _, rfl, SqT.of hT, rfl, _, _, rfl, _, _, rfl, rfl, ?_⟩
    refine ⟨by show 0 ≤ sizeLine; decide, fun sl nsl => ⟨by show 0 ≤ sizeLine; decide, fun gl ngl => ⟨_, _, rfl, ?_⟩⟩⟩
    have s5 : Same H4 (upd H4 sl (.lst [])) := same_new nsl
    have s6 := s5.trans (same_new ngl (o := .lst []))
    have ngl4 := s5.free ngl
    have nsg : sl ≠ gl := fun z => by rw [← z, upd_same] at ngl; cases ngl
    refine ⟨_, rfl, (n : Int), rfl, by omega, by omega, ?_⟩
    rw [Int.toNat_natCast]
    refine for_range (lo := 0) (n := n) (fun i σ H5 => ∃ (as : List Addr) (ss : List (List Nat)) (g : List Nat) (v6 v7 : Option V), σ = [some (.ref h), some (vi L), some (vi n), some (vi ey), some (.ref sl), some (.ref gl), v6, v7, none] ∧ DrawI h c H4 H5 n L i sl gl as ss g)
      ⟨[], [], [], none, none, rfl, hR4.same s6, Fr.of s6, nsl, ngl4, nsg, by rw [upd_ne nsg]; exact upd_same, upd_same, ⟨rfl, fun i a r e => by simp at e⟩, rfl, fun r hr => (nomatch hr), List.Pairwise.nil, fun x hx => (nomatch hx)⟩ ?_ ?_
    · rintro i σ H5 hi ⟨as, ss, g, v6, v7, rfl, I⟩
      rw [show ((0 : Int) + (i : Int)) = (i : Int) by omega]
      refine ⟨fun x H6 => ∃ low : Nat, x = vi low ∧ low < n ∧ RngAt H6 h c ∧ Fr h c H5 H6, ?_, ?_⟩
      · refine ⟨_, rfl, _, rfl, _, _, rfl, rfl, _, rfl, ?_⟩
        have els : ∀ (Q' : VK), (∀ x H6, (∃ low : Nat, x = vi low ∧ low < n ∧ RngAt H6 h c ∧ Fr h c H5 H6) → Q' x H6) → ∀ l1, H5 l1 = none → spPick [.ref h, .ref l1] (upd H5 l1 (.lst [.int 0, .int (if (n : Int) - 1 < (ey : Int) then (n : Int) - 1 else (ey : Int))])) Q' E0 := fun Q' hQ l1 nl1 => by
          have s7 : Same H5 (upd H5 l1 (.lst [.int 0, .int (if (n : Int) - 1 < (ey : Int) then (n : Int) - 1 else (ey : Int))])) := same_new nl1
          obtain ⟨a1, a2⟩ := I.rng.ap nl1
          refine ⟨h, c, l1, _, rfl, I.rng.same s7, upd_same, a1, a2, by simp, by simp, fun H6 x hx hR6 hF6 => hQ x H6 ?_⟩
          rcases List.mem_cons.mp hx with e | hx
          · exact ⟨0, e, by omega, hR6, (Fr.of s7).trans hF6⟩
          · have e := List.mem_singleton.mp hx
            refine ⟨(if (n : Int) - 1 < (ey : Int) then (n : Int) - 1 else (ey : Int)).toNat, ?_, ?_, hR6, (Fr.of s7).trans hF6⟩
            · rw [e]
              show V.int _ = V.int _
              congr 1
              split <;> omega
            · split <;> omega
        by_cases c1 : (i : Int) < (ey : Int)
        · rw [decide_eq_true c1]
          refine iteT ⟨_, rfl, _, _, rfl, rfl, _, rfl, _, _, rfl, rfl, _, rfl, ?_⟩
          by_cases c2 : (i : Int) + 1 < (n : Int)
          · rw [decide_eq_true c2]
            exact iteT ⟨_, rfl, _, _, rfl, rfl, i + 1, rfl, by omega, I.rng, Fr.refl⟩
          · rw [decide_eq_false c2]
            exact iteF ⟨_, rfl, _, rfl, _, rfl, _, _, rfl, rfl, _, _, rfl, by show 2 ≤ sizeLine; decide, els _ fun x H6 h => h⟩
        · rw [decide_eq_false c1]
          exact iteF (iteF ⟨_, rfl, _, rfl, _, rfl, _, _, rfl, rfl, _, _, rfl, by show 2 ≤ sizeLine; decide, els _ fun x H6 h => h⟩)
      rintro x H6 ⟨low, rfl, hlow, hR6, hF6⟩
      have st6 : ∀ {b o}, H5 b = some o → b ≠ h → b ≠ c → H6 b = some o := fun e n1 n2 => hF6 _ _ e n1 n2
      obtain ⟨b1, b2⟩ := hR4.ap I.ns
      obtain ⟨b3, b4⟩ := hR4.ap I.ng
      have hs6 := st6 I.hs b1 b2
      have hg6 := st6 I.hg b3 b4
      refine ⟨_, rfl, .inl ⟨rfl, _, SqL.of hs6⟩, ?_⟩
      refine ⟨_, rfl, (L : Int), rfl, by omega, by omega, fun D nD => ?_⟩
      rw [Int.toNat_natCast]
      obtain ⟨d1, d2⟩ := hR6.ap nD
      refine lc_range (lo := 0) (n := L) (fun j H7 => ∃ r : List Nat, r.length = j ∧ H7 D = some (.lst (r.map vi)) ∧ (∀ x ∈ r, x < n) ∧ RngAt H7 h c ∧ Fr h c H6 H7) ⟨[], rfl, upd_same, fun x hx => (nomatch hx), hR6.same (same_new nD), Fr.of (same_new nD)⟩ ?_ ?_
      · rintro j H7 hj ⟨r, hr', hD, hrn, hR7, hF7⟩
        refine ⟨rfl, ?_⟩
        refine tyes ?_
        refine ⟨_, rfl, _, rfl, _, rfl, _, rfl, _, _, rfl, rfl, h, c, n - low, ?_, hR7, by omega, by omega, fun H8 x hR8 hF8 hx => ?_⟩
        · show [V.ref h, V.int ((n : Int) - (low : Int))] ++ [] = [V.ref h, vi (n - low)]
          rw [sub_vi (by omega)]
          rfl
        · refine ⟨_, _, rfl, rfl, _, hF8 _ _ hD d1 d2, small1000 (by rw [List.length_map]; omega), r ++ [low + x], by rw [List.length_append, hr']; rfl, ?_, fun y hy => ?_, hR8.put d1.symm d2.symm, (hF7.trans hF8).upd nD⟩
          · rw [upd_same, List.map_append]; rfl
          · rcases List.mem_append.mp hy with h1 | h1
            · exact hrn y h1
            · rw [List.mem_singleton.mp h1]; omega
      · rintro H7 ⟨r, hr', hD, hrn, hR7, hF7⟩
        refine .inl ⟨D, _, rfl, SqL.of hD, fun rt nrt => ?_⟩
        have s8 : Same H7 (upd H7 rt (.tup (r.map vi))) := same_new nrt
        have f67 : Fr h c H6 (upd H7 rt (.tup (r.map vi))) := hF7.trans (Fr.of s8)
        have hs8 := f67 _ _ hs6 b1 b2
        have hg8 := f67 _ _ hg6 b3 b4
        refine ⟨sl, _, _, rfl, rfl, hs8, small1000 (by rw [List.length_map, I.rows.1, I.len]; omega), ?_⟩
        have rows8 : RowsAt (upd (upd H7 rt (.tup (r.map vi))) sl (.lst ((as ++ [rt]).map V.ref))) (as ++ [rt]) (ss ++ [r]) := by
          refine ⟨by rw [List.length_append, List.length_append, I.rows.1]; rfl, fun k a r' e1 e2 => ?_⟩
          by_cases hk : k < as.length
          · rw [List.getElem?_append_left hk] at e1
            rw [List.getElem?_append_left (by rw [← I.rows.1]; exact hk)] at e2
            have e3 := I.rows.2 k a r' e1 e2
            have e4 := f67.tup hR6 (hF6.tup I.rng e3)
            rw [upd_ne (ne_of e4 hs8 (fun z => nomatch z))]
            exact e4
          · have hl := (List.getElem?_eq_some_iff.mp e1).1
            rw [List.length_append, List.length_singleton] at hl
            have ek : k = as.length := by omega
            subst ek
            rw [List.getElem?_append_right (Nat.le_refl _), Nat.sub_self] at e1
            rw [I.rows.1, List.getElem?_append_right (Nat.le_refl _), Nat.sub_self] at e2
            cases e1
            cases e2
            rw [upd_ne (ne_of (upd_same : upd H7 rt (.tup (r.map vi)) rt = _) hs8 (fun z => nomatch z))]
            exact upd_same
        have e9 : as.map V.ref ++ [V.ref rt] = (as ++ [rt]).map V.ref := by rw [List.map_append]; rfl
        have hs9 : (upd (upd H7 rt (.tup (r.map vi))) sl (.lst (as.map V.ref ++ [V.ref rt]))) sl = some (.lst ((as ++ [rt]).map V.ref)) := by rw [upd_same, e9]
        rw [← e9] at rows8
        have hR9 : RngAt (upd (upd H7 rt (.tup (r.map vi))) sl (.lst (as.map V.ref ++ [V.ref rt]))) h c := (hR7.same s8).put b1.symm b2.symm
        have hg9 : (upd (upd H7 rt (.tup (r.map vi))) sl (.lst (as.map V.ref ++ [V.ref rt]))) gl = some (.lst (g.map vi)) := by rw [upd_ne nsg.symm]; exact hg8
        have f9 : Fr h c H4 (upd (upd H7 rt (.tup (r.map vi))) sl (.lst (as.map V.ref ++ [V.ref rt]))) := ((I.fr.trans hF6).trans f67).upd nsl
        refine ⟨_, rfl, h, c, 2, rfl, hR9, by decide, by decide, fun H10 z hR10 hF10 hz => ?_⟩
        have rows10 : RowsAt H10 (as ++ [rt]) (ss ++ [r]) := ⟨rows8.1, fun k a r' e1 e2 => hF10.tup hR9 (rows8.2 k a r' e1 e2)⟩
        have hs10 := hF10 _ _ hs9 b1 b2
        have hg10 := hF10 _ _ hg9 b3 b4
        have fin : ∀ (g2 : List Nat) (H11 : Hp), RngAt H11 h c → Fr h c H4 H11 → H11 sl = some (.lst ((as ++ [rt]).map V.ref)) → H11 gl = some (.lst (g2.map vi)) → RowsAt H11 (as ++ [rt]) (ss ++ [r]) → g2.Pairwise (· < ·) → (∀ x ∈ g2, x < i + 1) →
            DrawI h c H4 H11 n L (i + 1) sl gl (as ++ [rt]) (ss ++ [r]) g2 := fun g2 H11 q1 q2 q3 q4 q5 q6 q7 =>
          ⟨q1, q2, nsl, ngl4, nsg, q3, q4, q5, by rw [List.length_append, I.len]; rfl, fun r' hr'' => by
            rcases List.mem_append.mp hr'' with h1 | h1
            · exact I.row r' h1
            · rw [List.mem_singleton.mp h1]; exact ⟨hr', hrn⟩, q6, q7⟩
        refine ⟨rfl, _, rfl, ?_⟩
        show if decide (vi z = V.int 0) = true then _ else _
        rw [vi_zero]
        by_cases hz0 : z = 0
        · rw [decide_eq_true hz0]
          have hgl : g.length ≤ 8 := by
            have := nodup_len (I.up.imp fun h => Nat.ne_of_lt h) (R := List.range i) fun x hx => List.mem_range.mpr (I.lt x hx)
            rw [List.length_range] at this
            omega
          refine iteT ⟨_, rfl, .inl ⟨rfl, _, SqL.of hg10⟩, _, rfl, _, _, _, rfl, rfl, hg10, small1000 (by rw [List.length_map]; omega), ?_⟩
          refine ⟨as ++ [rt], ss ++ [r], g ++ [i], _, _, rfl, fin _ _ (hR10.put b3.symm b4.symm) ((f9.trans hF10).upd ngl4) (by rw [upd_ne nsg]; exact hs10) (by rw [upd_same, List.map_append]; rfl) ⟨rows10.1, fun k a r' e1 e2 => ?_⟩ ?_ fun x hx => ?_⟩
          · have e3 := rows10.2 k a r' e1 e2
            rw [upd_ne (ne_of e3 hg10 (fun z => nomatch z))]
            exact e3
          · refine List.pairwise_append.mpr ⟨I.up, List.pairwise_singleton .., fun a ha b hb => ?_⟩
            rw [List.mem_singleton.mp hb]
            exact I.lt a ha
          · rcases List.mem_append.mp hx with h1 | h1
            · have := I.lt x h1; omega
            · rw [List.mem_singleton.mp h1]; omega
        · rw [decide_eq_false hz0]
          exact iteF ⟨as ++ [rt], ss ++ [r], g, _, _, rfl, fin g H10 hR10 (f9.trans hF10) hs10 hg10 rows10 I.up fun x hx => by have := I.lt x hx; omega⟩
    · rintro σ H5 ⟨as, ss, g, v6, v7, rfl, I⟩
      refine ⟨_, rfl, .inl ⟨sl, _, rfl, SqL.of I.hs, fun t1 nt1 => ?_⟩⟩
      have s7 : Same H5 (upd H5 t1 (.tup (as.map V.ref))) := same_new nt1
      refine ⟨_, rfl, .inl ⟨gl, _, rfl, SqL.of (s7 _ _ I.hg), fun t2 nt2 => ?_⟩⟩
      have s8 := s7.trans (same_new nt2 (o := .tup (g.map vi)))
      refine ⟨two_line, fun t3 nt3 => ?_⟩
      have s9 : Same _ (upd _ t3 (.tup [.ref t1, .ref t2])) := same_new nt3
      have n12 : t1 ≠ t2 := fun z => by rw [← z, upd_same] at nt2; cases nt2
      refine kk _ t3 ⟨ss, g⟩ (I.rng.same (s8.trans s9)) ((f0.trans I.fr).trans (Fr.of (s8.trans s9))) ⟨t1, t2, upd_same, ⟨as, s9 _ _ (by rw [upd_ne n12]; exact upd_same), I.rows.same (s8.trans s9)⟩, s9 _ _ upd_same⟩
        ⟨by show 1 ≤ ss.length; rw [I.len]; exact n1, by show ss.length ≤ 8; rw [I.len]; exact n8, l1, l3, fun r hr' => ?_, I.up, fun x hx => ?_⟩
      · show r.length = L ∧ ∀ x ∈ r, x < ss.length
        rw [I.len]
        exact I.row r hr'
      · show x < ss.length
        rw [I.len]
        exact I.lt x hx
end
end Bf
set_option Elab.async false
set_option linter.all false
set_option maxRecDepth 100000
set_option maxHeartbeats 4000000
/-! BfL3: the law's comparison. -/
namespace Bf
open PySem PySem.Spec PyProof.Rows L2
theorem kb_int_str : kitB "int" "str" = some false := by decide +kernel
theorem kb_bool_str : kitB "bool" "str" = some false := by decide +kernel
theorem kb_non_str : kitB "NoneType" "str" = some false := by decide +kernel
theorem kb_str_str : kitB "str" "str" = some true := by decide +kernel
theorem kb_tup_list : kitB "tuple" "list" = some false := by decide +kernel
theorem kb_list_list : kitB "list" "list" = some true := by decide +kernel
theorem kb_list_tup : kitB "list" "tuple" = some false := by decide +kernel
theorem kb_int_tup : kitB "int" "tuple" = some false := by decide +kernel
theorem kb_int_list : kitB "int" "list" = some false := by decide +kernel
theorem kb_bool_tup : kitB "bool" "tuple" = some false := by decide +kernel
theorem kb_bool_list : kitB "bool" "list" = some false := by decide +kernel
theorem kb_non_tup : kitB "NoneType" "tuple" = some false := by decide +kernel
theorem kb_non_list : kitB "NoneType" "list" = some false := by decide +kernel
theorem kb_str_tup : kitB "str" "tuple" = some false := by decide +kernel
theorem kb_str_list : kitB "str" "list" = some false := by decide +kernel
section
variable {K : PySem.W.Frag}
theorem kita_tup : PySem.W.kitAny K (.type "tuple") [.type "tuple", .type "list"] = some true := kitAny_cons (kit_ty kb_tup_tup) (fun z => (nomatch z)) fun _ => rfl
theorem kita_lst : PySem.W.kitAny K (.type "list") [.type "tuple", .type "list"] = some true := kitAny_cons (kit_ty kb_list_tup) (fun _ => kitAny_cons (kit_ty kb_list_list) (fun z => (nomatch z)) fun _ => rfl) fun _ => rfl
theorem kita_int : PySem.W.kitAny K (.type "int") [.type "tuple", .type "list"] = some false := kitAny_cons (kit_ty kb_int_tup) (fun _ => kitAny_cons (kit_ty kb_int_list) (fun _ => kitAny_nil) fun z => (nomatch z)) fun z => (nomatch z)
theorem kita_bool : PySem.W.kitAny K (.type "bool") [.type "tuple", .type "list"] = some false := kitAny_cons (kit_ty kb_bool_tup) (fun _ => kitAny_cons (kit_ty kb_bool_list) (fun _ => kitAny_nil) fun z => (nomatch z)) fun z => (nomatch z)
theorem kita_non : PySem.W.kitAny K (.type "NoneType") [.type "tuple", .type "list"] = some false := kitAny_cons (kit_ty kb_non_tup) (fun _ => kitAny_cons (kit_ty kb_non_list) (fun _ => kitAny_nil) fun z => (nomatch z)) fun z => (nomatch z)
theorem kita_str : PySem.W.kitAny K (.type "str") [.type "tuple", .type "list"] = some false := kitAny_cons (kit_ty kb_str_tup) (fun _ => kitAny_cons (kit_ty kb_str_list) (fun _ => kitAny_nil) fun z => (nomatch z)) fun z => (nomatch z)
theorem clsTL : Paired ClsV [.ty "tuple", .ty "list"] [.type "tuple", .type "list"] := .cons (.ty _) (.cons (.ty _) .nil)
end
theorem ite_dec {p : Prop} [Decidable p] {A B : Prop} (h : p) (k : A) : if decide p = true then A else B := by rw [decide_eq_true h]; exact iteT k
theorem dec_q {p : Prop} [Decidable p] {Q : VK} {H : Hp} (h : p) (k : Q (.bl true) H) : Q (.bl (decide p)) H := by rw [decide_eq_true h]; exact k
theorem i_seq {X : Cx} {K : PySem.W.Frag} (hK : X.K = K := by rfl) : IxR X (rIx K) := by
  subst hK
  exact ix_seq
/-- alike, to the depth n -/
inductive Alk (H : Hp) : Nat → V → V → Prop where
  | same {n : Nat} {x : V} : Flat x = true → Alk H n x x
  | tup {n : Nat} {a b : Addr} {xs ys : List V} : H a = some (.tup xs) → H b = some (.tup ys) → xs.length = ys.length → ys.length ≤ 1000 → (∀ (i : Nat) (x y : V), xs[i]? = some x → ys[i]? = some y → Alk H n x y) → Alk H (n + 1) (.ref a) (.ref b)
  | lst {n : Nat} {a b : Addr} {xs ys : List V} : H a = some (.lst xs) → H b = some (.lst ys) → xs.length = ys.length → ys.length ≤ 1000 → (∀ (i : Nat) (x y : V), xs[i]? = some x → ys[i]? = some y → Alk H n x y) → Alk H (n + 1) (.ref a) (.ref b)
theorem Alk.same' {H H' : Hp} (s : Same H H') {n : Nat} {x y : V} (h : Alk H n x y) : Alk H' n x y := by
  induction h with
  | same h => exact .same h
  | tup h1 h2 h3 h4 _ ih => exact .tup (s _ _ h1) (s _ _ h2) h3 h4 ih
  | lst h1 h2 h3 h4 _ ih => exact .lst (s _ _ h1) (s _ _ h2) h3 h4 ih
abbrev sAlike : Stmt := top 32
abbrev nAlikeP : List Str := ["_law_found", "_law_due"]
abbrev nAlike : List Str := ["_law_found", "_law_due", "_law_k"]
theorem scAlike : FnScope nAlike nAlikeP (defScope sAlike) := ⟨rfl, rfl, rfl, by decide +kernel, rfl, by decide +kernel, by decide +kernel⟩
section
variable {P : Program} {w : World} {K : PySem.W.Frag} {mg : Str → Option Value} {base : Heap}
def spAlike (n : Nat) : Sp := fun vs H Q _ => ∃ x y, vs = [x, y] ∧ Alk H n x y ∧ ∀ H', Same H H' → Q (.bl true) H'
theorem ok_alike0 {f : Addr} {fd : FuncData} (F : DefAt K mg "_law_alike" sAlike nAlikeP f fd) (B : Bl mg) : FnOk P w K mg base CX0 (0 + 1) f fd nAlikeP (spAlike 0) := by
  refine F.fn.ok scAlike (fun vs H Q E h => ?_) (fun cdv A outer s H vs Q E hr h => ?_)
  · obtain ⟨x, y, rfl, _⟩ := h
    rfl
  · obtain ⟨x, y, rfl, hA, kk⟩ := h
    refine ⟨_, pss_cons (ps_if (pt_val (pe_callB call_isiT (by rfl) B.isinstance b_isinstance (pa_cons (pv 1) (pa_cons (pe_tup (pa_cons (pe_bltn (v := .ty "tuple") (by rfl) B.tuple b_tuple rfl) (pa_cons (pe_bltn (v := .ty "list") (by rfl) B.list b_list rfl) pa_nil))) pa_nil)))) pss_never pss_nil)
      (pss_cons (ps_if (PW.pt (pw_or (pt_cmpR op_isN (pv 1) pe_non (nomark _)) (pw_or1 (pt_val (pe_callB call_isi (by rfl) B.isinstance b_isinstance (pa_cons (pv 1) (pa_cons (pe_bltn (v := .ty "str") (by rfl) B.str b_str rfl) pa_nil)))))))
          (pss_one (ps_ret (pe_and (pe_cmpR op_eq (pv 0) (pv 1) (nomark _)) (pe_one (pe_cmpR op_eq (pe_callB call_isi (by rfl) B.isinstance b_isinstance (pa_cons (pv 0) (pa_cons (pe_bltn (v := .ty "str") (by rfl) B.str b_str rfl) pa_nil))) (pe_callB call_isi (by rfl) B.isinstance b_isinstance (pa_cons (pv 1) (pa_cons (pe_bltn (v := .ty "str") (by rfl) B.str b_str rfl) pa_nil))) (nomark _)))))) pss_nil)
      (pss_one (ps_ret (pe_and (pe_callB call_isi (by rfl) B.isinstance b_isinstance (pa_cons (pv 0) (pa_cons (pe_bltn (v := .ty "int") (by rfl) B.int b_int rfl) pa_nil))) (pe_and (pe_cmpR op_eq (pe_callB call_isi (by rfl) B.isinstance b_isinstance (pa_cons (pv 0) (pa_cons (pe_bltn (v := .ty "bool") (by rfl) B.bool b_bool rfl) pa_nil))) (pe_callB call_isi (by rfl) B.isinstance b_isinstance (pa_cons (pv 1) (pa_cons (pe_bltn (v := .ty "bool") (by rfl) B.bool b_bool rfl) pa_nil))) (nomark _)) (pe_one (pe_cmpR op_eq (pv 0) (pv 1) (nomark _)))))))), ?_⟩
    cases hA with
    | @same m x hx =>
      cases x with
      | int i =>
        refine ⟨_, rfl, two_line, fun tp ntp => ?_⟩
        refine ⟨_, tp, _, _, _, false, rfl, upd_same, clsTL, .base (.int i), kita_int, _, rfl, iteF ?_⟩
        refine ⟨_, rfl, rfl, _, rfl, iteF ⟨_, rfl, _, _, _, _, false, rfl, .ty "str", .base (.int i), kit_ty kb_int_str, _, rfl, iteF ?_⟩⟩
        refine ⟨_, rfl, _, _, _, _, true, rfl, .ty "int", .base (.int i), kit_ty kb_int_int, _, rfl, iteT ⟨_, rfl, _, _, _, _, false, rfl, .ty "bool", .base (.int i), kit_ty kb_int_bool, _, rfl, _, _, _, _, false, rfl, .ty "bool", .base (.int i), kit_ty kb_int_bool, rfl, _, rfl, ?_⟩⟩
        refine ite_dec rfl ⟨_, rfl, _, rfl, rfl, ?_⟩
        exact dec_q rfl (kk _ (same_new ntp))
      | bl b =>
        refine ⟨_, rfl, two_line, fun tp ntp => ?_⟩
        refine ⟨_, tp, _, _, _, false, rfl, upd_same, clsTL, .base (.bl b), kita_bool, _, rfl, iteF ?_⟩
        refine ⟨_, rfl, rfl, _, rfl, iteF ⟨_, rfl, _, _, _, _, false, rfl, .ty "str", .base (.bl b), kit_ty kb_bool_str, _, rfl, iteF ?_⟩⟩
        refine ⟨_, rfl, _, _, _, _, true, rfl, .ty "int", .base (.bl b), kit_ty kb_bool_int, _, rfl, iteT ⟨_, rfl, _, _, _, _, true, rfl, .ty "bool", .base (.bl b), kit_ty kb_bool_bool, _, rfl, _, _, _, _, true, rfl, .ty "bool", .base (.bl b), kit_ty kb_bool_bool, rfl, _, rfl, ?_⟩⟩
        refine ite_dec rfl ⟨_, rfl, _, rfl, rfl, ?_⟩
        exact dec_q rfl (kk _ (same_new ntp))
      | non =>
        refine ⟨_, rfl, two_line, fun tp ntp => ?_⟩
        refine ⟨_, tp, _, _, _, false, rfl, upd_same, clsTL, .base .non, kita_non, _, rfl, iteF ?_⟩
        refine ⟨_, rfl, rfl, _, rfl, iteT (iteT ?_)⟩
        refine ⟨_, rfl, _, rfl, rfl, _, rfl, ite_dec rfl ?_⟩
        refine ⟨_, rfl, _, _, _, _, false, rfl, .ty "str", .base .non, kit_ty kb_non_str, _, rfl, _, _, _, _, false, rfl, .ty "str", .base .non, kit_ty kb_non_str, rfl, ?_⟩
        exact dec_q rfl (kk _ (same_new ntp))
      | str z =>
        refine ⟨_, rfl, two_line, fun tp ntp => ?_⟩
        refine ⟨_, tp, _, _, _, false, rfl, upd_same, clsTL, .base (.str z), kita_str, _, rfl, iteF ?_⟩
        refine ⟨_, rfl, rfl, _, rfl, iteF ⟨_, rfl, _, _, _, _, true, rfl, .ty "str", .base (.str z), kit_ty kb_str_str, _, rfl, iteT ?_⟩⟩
        refine ⟨_, rfl, _, rfl, rfl, _, rfl, ite_dec rfl ?_⟩
        refine ⟨_, rfl, _, _, _, _, true, rfl, .ty "str", .base (.str z), kit_ty kb_str_str, _, rfl, _, _, _, _, true, rfl, .ty "str", .base (.str z), kit_ty kb_str_str, rfl, ?_⟩
        exact dec_q rfl (kk _ (same_new ntp))
      | byt _ => cases hx
      | flt _ => cases hx
      | ref _ => cases hx
      | ty _ => cases hx

theorem ok_alikeS {f : Addr} {fd : FuncData} (F : DefAt K mg "_law_alike" sAlike nAlikeP f fd) (B : Bl mg) {n : Nat} (IH : FnOk P w K mg base CX0 (n + 1) f fd nAlikeP (spAlike n)) : FnOk P w K mg base CX0 ((n + 1) + 1) f fd nAlikeP (spAlike (n + 1)) := by
  refine F.fn.ok scAlike (fun vs H Q E h => ?_) (fun cdv A outer s H vs Q E hr h => ?_)
  · obtain ⟨x, y, rfl, _⟩ := h
    rfl
  · obtain ⟨x, y, rfl, hA, kk⟩ := h
    refine ⟨_, pss_cons (ps_if (pt_val (pe_callB call_isiT (by rfl) B.isinstance b_isinstance (pa_cons (pv 1) (pa_cons (pe_tup (pa_cons (pe_bltn (v := .ty "tuple") (by rfl) B.tuple b_tuple rfl) (pa_cons (pe_bltn (v := .ty "list") (by rfl) B.list b_list rfl) pa_nil))) pa_nil)))) (pss_cons (ps_if (PW.pt (pw_or (pt_not (pt_val (pe_callB call_isiT (by rfl) B.isinstance b_isinstance (pa_cons (pv 0) (pa_cons (pe_tup (pa_cons (pe_bltn (v := .ty "tuple") (by rfl) B.tuple b_tuple rfl) (pa_cons (pe_bltn (v := .ty "list") (by rfl) B.list b_list rfl) pa_nil))) pa_nil))))) (pw_or1 (pt_cmpR op_ne (pe_callB call_isi (by rfl) B.isinstance b_isinstance (pa_cons (pv 0) (pa_cons (pe_bltn (v := .ty "list") (by rfl) B.list b_list rfl) pa_nil))) (pe_callB call_isi (by rfl) B.isinstance b_isinstance (pa_cons (pv 1) (pa_cons (pe_bltn (v := .ty "list") (by rfl) B.list b_list rfl) pa_nil))) (nomark _))))) (pss_one (ps_ret pe_bl)) pss_nil)
        (pss_cons (ps_if (pt_cmpR op_ne (pe_callB c_len (by rfl) B.len b_len (pa_cons (pv 0) pa_nil)) (pe_callB c_len (by rfl) B.len b_len (pa_cons (pv 1) pa_nil)) (nomark _)) (pss_one (ps_ret pe_bl)) pss_nil)
        (pss_one (ps_ret (pe_cmpR (op_eqD hr.units) (pe_lc (own := [("_law_k", 2)]) (g := gName 2) rfl scAlike.nd (pi_range1 (by rfl) B.range (pa_cons (pe_callB c_len (by rfl) B.len b_len (pa_cons (pv 1) pa_nil)) pa_nil)) (blkOk_by (N := nAlike) (sc := defScope sAlike) (by decide +kernel))
            (fun _ _ _ _ _ => pg_name (i := 2) scAlike.nd rfl (Or.inl rfl))
            (fun _ _ _ _ _ => pts_one (pt_not (pt_val (pe_call IH hr (by rfl) F.mg F.fn.kp F.b .nil pass0 (pa_cons (pe_ix i_seq (pv 0) (pv 2) (fun _ _ => rfl)) (pa_cons (pe_ix i_seq (pv 1) (pv 2) (fun _ _ => rfl)) pa_nil))))))
            (fun _ _ _ _ _ => pv 2)) (pe_lst pa_nil) (nomark _)))))) pss_nil)
      (pss_cons (ps_if (PW.pt (pw_or (pt_cmpR op_isN (pv 1) pe_non (nomark _)) (pw_or1 (pt_val (pe_callB call_isi (by rfl) B.isinstance b_isinstance (pa_cons (pv 1) (pa_cons (pe_bltn (v := .ty "str") (by rfl) B.str b_str rfl) pa_nil)))))))
          (pss_one (ps_ret (pe_and (pe_cmpR op_eq (pv 0) (pv 1) (nomark _)) (pe_one (pe_cmpR op_eq (pe_callB call_isi (by rfl) B.isinstance b_isinstance (pa_cons (pv 0) (pa_cons (pe_bltn (v := .ty "str") (by rfl) B.str b_str rfl) pa_nil))) (pe_callB call_isi (by rfl) B.isinstance b_isinstance (pa_cons (pv 1) (pa_cons (pe_bltn (v := .ty "str") (by rfl) B.str b_str rfl) pa_nil))) (nomark _)))))) pss_nil)
      (pss_one (ps_ret (pe_and (pe_callB call_isi (by rfl) B.isinstance b_isinstance (pa_cons (pv 0) (pa_cons (pe_bltn (v := .ty "int") (by rfl) B.int b_int rfl) pa_nil))) (pe_and (pe_cmpR op_eq (pe_callB call_isi (by rfl) B.isinstance b_isinstance (pa_cons (pv 0) (pa_cons (pe_bltn (v := .ty "bool") (by rfl) B.bool b_bool rfl) pa_nil))) (pe_callB call_isi (by rfl) B.isinstance b_isinstance (pa_cons (pv 1) (pa_cons (pe_bltn (v := .ty "bool") (by rfl) B.bool b_bool rfl) pa_nil))) (nomark _)) (pe_one (pe_cmpR op_eq (pv 0) (pv 1) (nomark _)))))))), ?_⟩
    cases hA with
    | @same m x hx =>
      cases x with
      | int i =>
        refine ⟨_, rfl, two_line, fun tp ntp => ?_⟩
        refine ⟨_, tp, _, _, _, false, rfl, upd_same, clsTL, .base (.int i), kita_int, _, rfl, iteF ?_⟩
        refine ⟨_, rfl, rfl, _, rfl, iteF ⟨_, rfl, _, _, _, _, false, rfl, .ty "str", .base (.int i), kit_ty kb_int_str, _, rfl, iteF ?_⟩⟩
        refine ⟨_, rfl, _, _, _, _, true, rfl, .ty "int", .base (.int i), kit_ty kb_int_int, _, rfl, iteT ⟨_, rfl, _, _, _, _, false, rfl, .ty "bool", .base (.int i), kit_ty kb_int_bool, _, rfl, _, _, _, _, false, rfl, .ty "bool", .base (.int i), kit_ty kb_int_bool, rfl, _, rfl, ?_⟩⟩
        refine ite_dec rfl ⟨_, rfl, _, rfl, rfl, ?_⟩
        exact dec_q rfl (kk _ (same_new ntp))
      | bl b =>
        refine ⟨_, rfl, two_line, fun tp ntp => ?_⟩
        refine ⟨_, tp, _, _, _, false, rfl, upd_same, clsTL, .base (.bl b), kita_bool, _, rfl, iteF ?_⟩
        refine ⟨_, rfl, rfl, _, rfl, iteF ⟨_, rfl, _, _, _, _, false, rfl, .ty "str", .base (.bl b), kit_ty kb_bool_str, _, rfl, iteF ?_⟩⟩
        refine ⟨_, rfl, _, _, _, _, true, rfl, .ty "int", .base (.bl b), kit_ty kb_bool_int, _, rfl, iteT ⟨_, rfl, _, _, _, _, true, rfl, .ty "bool", .base (.bl b), kit_ty kb_bool_bool, _, rfl, _, _, _, _, true, rfl, .ty "bool", .base (.bl b), kit_ty kb_bool_bool, rfl, _, rfl, ?_⟩⟩
        refine ite_dec rfl ⟨_, rfl, _, rfl, rfl, ?_⟩
        exact dec_q rfl (kk _ (same_new ntp))
      | non =>
        refine ⟨_, rfl, two_line, fun tp ntp => ?_⟩
        refine ⟨_, tp, _, _, _, false, rfl, upd_same, clsTL, .base .non, kita_non, _, rfl, iteF ?_⟩
        refine ⟨_, rfl, rfl, _, rfl, iteT (iteT ?_)⟩
        refine ⟨_, rfl, _, rfl, rfl, _, rfl, ite_dec rfl ?_⟩
        refine ⟨_, rfl, _, _, _, _, false, rfl, .ty "str", .base .non, kit_ty kb_non_str, _, rfl, _, _, _, _, false, rfl, .ty "str", .base .non, kit_ty kb_non_str, rfl, ?_⟩
        exact dec_q rfl (kk _ (same_new ntp))
      | str z =>
        refine ⟨_, rfl, two_line, fun tp ntp => ?_⟩
        refine ⟨_, tp, _, _, _, false, rfl, upd_same, clsTL, .base (.str z), kita_str, _, rfl, iteF ?_⟩
        refine ⟨_, rfl, rfl, _, rfl, iteF ⟨_, rfl, _, _, _, _, true, rfl, .ty "str", .base (.str z), kit_ty kb_str_str, _, rfl, iteT ?_⟩⟩
        refine ⟨_, rfl, _, rfl, rfl, _, rfl, ite_dec rfl ?_⟩
        refine ⟨_, rfl, _, _, _, _, true, rfl, .ty "str", .base (.str z), kit_ty kb_str_str, _, rfl, _, _, _, _, true, rfl, .ty "str", .base (.str z), kit_ty kb_str_str, rfl, ?_⟩
        exact dec_q rfl (kk _ (same_new ntp))
      | byt _ => cases hx
      | flt _ => cases hx
      | ref _ => cases hx
      | ty _ => cases hx
    | @tup m a b xs ys ha hb hl hsm hall =>
      refine ⟨_, rfl, two_line, fun tp ntp => ?_⟩
      have s1 : Same H (upd H tp (.tup [.ty "tuple", .ty "list"])) := same_new ntp
      have ha1 := s1 _ _ ha
      have hb1 := s1 _ _ hb
      refine ⟨_, tp, _, _, _, true, rfl, upd_same, clsTL, .base (.tup hb1), kita_tup, _, rfl, iteT ?_⟩
      refine ⟨_, rfl, two_line, fun tq ntq => ?_⟩
      have s2 := s1.trans (same_new ntq (o := .tup [.ty "tuple", .ty "list"]))
      have ha2 := s2 _ _ ha
      have hb2 := s2 _ _ hb
      refine ⟨_, tq, _, _, _, true, rfl, upd_same, clsTL, .base (.tup ha2), kita_tup, _, rfl, iteF ?_⟩
      refine ⟨_, rfl, _, _, _, _, false, rfl, .ty "list", .base (.tup ha2), kit_ty kb_tup_list, _, rfl, _, _, _, _, false, rfl, .ty "list", .base (.tup hb2), kit_ty kb_tup_list, rfl, _, rfl, iteNS rfl ?_⟩
      refine ⟨_, rfl, _, _, rfl, .inr (SqT.of ha2), _, rfl, _, _, rfl, .inr (SqT.of hb2), rfl, _, rfl, ?_⟩
      rw [hl]
      refine iteNS rfl ?_
      refine ⟨_, rfl, _, _, rfl, .inr (SqT.of hb2), (ys.length : Int), rfl, by omega, by omega, fun D nD => ?_⟩
      rw [Int.toNat_natCast]
      refine lc_range (lo := 0) (n := ys.length) (fun j H5 => H5 D = some (.lst []) ∧ Same H H5) ⟨upd_same, s2.trans (same_new nD)⟩ ?_ ?_
      · rintro j H5 hj ⟨hD, s5⟩
        obtain ⟨x, hx⟩ : ∃ x, xs[j]? = some x := ⟨_, List.getElem?_eq_getElem (by omega)⟩
        obtain ⟨y, hy⟩ : ∃ y, ys[j]? = some y := ⟨_, List.getElem?_eq_getElem hj⟩
        rw [show ((0 : Int) + (j : Int)) = (j : Int) by omega]
        refine ⟨rfl, ?_⟩
        refine ⟨_, rfl, _, rfl, .inr (.inl ⟨_, _, _, _, rfl, rfl, SqT.of (s5 _ _ ha), atI_nat (j := j) hx, _, rfl, _, rfl, .inr (.inl ⟨_, _, _, _, rfl, rfl, SqT.of (s5 _ _ hb), atI_nat (j := j) hy, ?_⟩)⟩)⟩
        refine ⟨x, y, rfl, (hall j x y hx hy).same' s5, fun H6 s6 => ⟨_, rfl, iteF ⟨s6 _ _ hD, s5.trans s6⟩⟩⟩
      · rintro H5 ⟨hD, s5⟩
        refine ⟨by show 0 ≤ sizeLine; decide, fun E0 nE0 => ?_⟩
        have s6 : Same H5 (upd H5 E0 (.lst [])) := same_new nE0
        exact ⟨.list [], .list [], .lst (SqL.of (s6 _ _ hD)) .nil, .lst (SqL.of upd_same) .nil, by decide, by decide, kk _ (s5.trans s6)⟩
    | @lst m a b xs ys ha hb hl hsm hall =>
      refine ⟨_, rfl, two_line, fun tp ntp => ?_⟩
      have s1 : Same H (upd H tp (.tup [.ty "tuple", .ty "list"])) := same_new ntp
      have ha1 := s1 _ _ ha
      have hb1 := s1 _ _ hb
      refine ⟨_, tp, _, _, _, true, rfl, upd_same, clsTL, .base (.lst hb1), kita_lst, _, rfl, iteT ?_⟩
      refine ⟨_, rfl, two_line, fun tq ntq => ?_⟩
      have s2 := s1.trans (same_new ntq (o := .tup [.ty "tuple", .ty "list"]))
      have ha2 := s2 _ _ ha
      have hb2 := s2 _ _ hb
      refine ⟨_, tq, _, _, _, true, rfl, upd_same, clsTL, .base (.lst ha2), kita_lst, _, rfl, iteF ?_⟩
      refine ⟨_, rfl, _, _, _, _, true, rfl, .ty "list", .base (.lst ha2), kit_ty kb_list_list, _, rfl, _, _, _, _, true, rfl, .ty "list", .base (.lst hb2), kit_ty kb_list_list, rfl, _, rfl, iteNS rfl ?_⟩
      refine ⟨_, rfl, _, _, rfl, .inl (SqL.of ha2), _, rfl, _, _, rfl, .inl (SqL.of hb2), rfl, _, rfl, ?_⟩
      rw [hl]
      refine iteNS rfl ?_
      refine ⟨_, rfl, _, _, rfl, .inl (SqL.of hb2), (ys.length : Int), rfl, by omega, by omega, fun D nD => ?_⟩
      rw [Int.toNat_natCast]
      refine lc_range (lo := 0) (n := ys.length) (fun j H5 => H5 D = some (.lst []) ∧ Same H H5) ⟨upd_same, s2.trans (same_new nD)⟩ ?_ ?_
      · rintro j H5 hj ⟨hD, s5⟩
        obtain ⟨x, hx⟩ : ∃ x, xs[j]? = some x := ⟨_, List.getElem?_eq_getElem (by omega)⟩
        obtain ⟨y, hy⟩ : ∃ y, ys[j]? = some y := ⟨_, List.getElem?_eq_getElem hj⟩
        rw [show ((0 : Int) + (j : Int)) = (j : Int) by omega]
        refine ⟨rfl, ?_⟩
        refine ⟨_, rfl, _, rfl, .inl ⟨_, _, _, _, rfl, rfl, SqL.of (s5 _ _ ha), atI_nat (j := j) hx, _, rfl, _, rfl, .inl ⟨_, _, _, _, rfl, rfl, SqL.of (s5 _ _ hb), atI_nat (j := j) hy, ?_⟩⟩⟩
        refine ⟨x, y, rfl, (hall j x y hx hy).same' s5, fun H6 s6 => ⟨_, rfl, iteF ⟨s6 _ _ hD, s5.trans s6⟩⟩⟩
      · rintro H5 ⟨hD, s5⟩
        refine ⟨by show 0 ≤ sizeLine; decide, fun E0 nE0 => ?_⟩
        have s6 : Same H5 (upd H5 E0 (.lst [])) := same_new nE0
        exact ⟨.list [], .list [], .lst (SqL.of (s6 _ _ hD)) .nil, .lst (SqL.of upd_same) .nil, by decide, by decide, kk _ (s5.trans s6)⟩
theorem ok_alike {f : Addr} {fd : FuncData} (F : DefAt K mg "_law_alike" sAlike nAlikeP f fd) (B : Bl mg) : ∀ n, FnOk P w K mg base CX0 (n + 1) f fd nAlikeP (spAlike n)
  | 0 => ok_alike0 F B
  | n + 1 => ok_alikeS F B (ok_alike F B n)
end
end Bf
set_option Elab.async false
set_option linter.all false
set_option maxRecDepth 100000
set_option maxHeartbeats 4000000
/-! BfL4: the law's count by lengths. -/
namespace Bf
open PySem PySem.Spec PyProof.Rows L2
/-! ### weights -/
def natV : V → Nat
  | .int i => i.toNat
  | _ => 0
theorem natV_vi (n : Nat) : natV (vi n) = n := rfl
def wsum (f : Pt → Nat) (es : List Ent) : Nat := (es.map fun e => natV e.2.2 * f e.1).sum
theorem wsum_app (f : Pt → Nat) (a b : List Ent) : wsum f (a ++ b) = wsum f a + wsum f b := by unfold wsum; rw [List.map_append, sum_app]
theorem wsum_one (f : Pt → Nat) (e : Ent) : wsum f [e] = natV e.2.2 * f e.1 := by unfold wsum; simp
def NatE (es : List Ent) : Prop := ∀ e ∈ es, e.2.2 = vi (natV e.2.2)
theorem getX_cons (e : Ent) (es : List Ent) (p : Pt) : getX (e :: es) p = if e.1 = p then some e.2.2 else getX es p := by
  unfold getX
  rw [List.find?_cons]
  by_cases h : e.1 = p
  · rw [decide_eq_true h, if_pos h]; rfl
  · rw [decide_eq_false h, if_neg h]
theorem wsum_old (f : Pt → Nat) (p : Pt) (x : Nat) : ∀ (es : List Ent) (v : V), (es.map (·.1)).Nodup → getX es p = some v → wsum f (es.map fun e => if e.1 = p then (e.1, e.2.1, vi x) else e) + natV v * f p = wsum f es + x * f p
  | [], v, _, h => by simp [getX] at h
  | e :: es, v, hn, h => by
    rw [List.map_cons] at hn
    obtain ⟨h1, h2⟩ := List.nodup_cons.mp hn
    rw [getX_cons] at h
    have ew : ∀ (e : Ent) (r : List Ent), wsum f (e :: r) = natV e.2.2 * f e.1 + wsum f r := fun e r => by unfold wsum; simp
    rw [List.map_cons, ew, ew]
    by_cases hp : e.1 = p
    · rw [if_pos hp] at h ⊢
      have hv : e.2.2 = v := Option.some.inj h
      have er : (es.map fun e => if e.1 = p then (e.1, e.2.1, vi x) else e) = es := by
        refine (List.map_congr_left fun a ha => ?_).trans (List.map_id es)
        rw [if_neg fun z => h1 (by rw [hp, ← z]; exact List.mem_map_of_mem (f := (·.1)) ha)]
        rfl
      rw [er, hv, hp]
      show x * f p + wsum f es + natV v * f p = natV v * f p + wsum f es + x * f p
      omega
    · rw [if_neg hp] at h ⊢
      have ih := wsum_old f p x es v h2 h
      omega
theorem wsum_put (f : Pt → Nat) {es : List Ent} (hn : (es.map (·.1)).Nodup) (p : Pt) (b : Addr) (w : Nat) : wsum f (putX es p b (vi (natV ((getX es p).getD (vi 0)) + w))) = wsum f es + w * f p := by
  cases h : getX es p with
  | none =>
    rw [putX_new b _ h, wsum_app, wsum_one]
    show wsum f es + (natV (vi 0) + w) * f p = _
    rw [natV_vi, Nat.zero_add]
  | some v =>
    rw [putX_old b _ h]
    have := wsum_old f p (natV v + w) es v hn h
    rw [Nat.add_mul] at this
    show wsum f (es.map fun e => if e.1 = p then (e.1, e.2.1, vi (natV v + w)) else e) = _
    omega
theorem NatE.put {es : List Ent} (h : NatE es) (p : Pt) (b : Addr) (x : Nat) : NatE (putX es p b (vi x)) := fun e he => by
  unfold putX at he
  split at he
  · obtain ⟨e', h1, h2⟩ := List.mem_map.mp he
    by_cases hp : e'.1 = p
    · rw [if_pos hp] at h2
      rw [← h2]; rfl
    · rw [if_neg hp] at h2
      rw [← h2]; exact h e' h1
  · rcases List.mem_append.mp he with h1 | h1
    · exact h e h1
    · rw [List.mem_singleton.mp h1]; rfl
theorem NatE.getD {es : List Ent} (h : NatE es) (p : Pt) : (getX es p).getD (vi 0) = vi (natV ((getX es p).getD (vi 0))) := by
  cases e : getX es p with
  | none => rfl
  | some v =>
    obtain ⟨b, hb⟩ := getX_mem e
    exact h _ hb
abbrev sLengths : Stmt := top 35
abbrev nLengthsP : List Str := ["_law_one", "_law_other", "_law_begin", "_law_most"]
abbrev nLengths : List Str := ["_law_one", "_law_other", "_law_begin", "_law_most", "_law_found", "_law_here", "_law_length", "_law_later_here", "_law_own", "_law_pair", "_law_goal"]
theorem scLengths : FnScope nLengths nLengthsP (defScope sLengths) := ⟨rfl, rfl, rfl, by decide +kernel, rfl, by decide +kernel, by decide +kernel⟩
section
variable {P : Program} {w : World} {K : PySem.W.Frag} {mg : Str → Option Value} {base : Heap}
structure LenI (P : Program) (w : World) (K : PySem.W.Frag) (m k : Mac) (H H2 : Hp) (fl dH : Addr) (oH : HO) (esH : List Ent) (dL : Addr) (esL : List Ent) (F : List V) : Prop where
  same : Same H H2
  nf : H fl = none
  nH : H dH = none
  nL : H dL = none
  ne : dH ≠ dL
  hf : H2 fl = some (.lst F)
  hH : H2 dH = some oH
  keysH : Keys K H2 esH
  hL : H2 dL = some (dxO P w dL esL)
  keysL : Keys K H2 esL
  nodL : (esL.map (·.1)).Nodup
  gridL : ∀ x ∈ esL.map (·.1), Grid m k x
  natL : NatE esL
section
variable {m k : Mac} {H H2 H3 : Hp} {fl dH dL : Addr} {oH oH' : HO} {esH esL : List Ent} {F : List V}
theorem LenI.step (I : LenI P w K m k H H2 fl dH oH esH dL esL F) (s : Same H2 H3) : LenI P w K m k H H3 fl dH oH esH dL esL F :=
  ⟨I.same.trans s, I.nf, I.nH, I.nL, I.ne, s _ _ I.hf, s _ _ I.hH, I.keysH.same s, s _ _ I.hL, I.keysL.same s, I.nodL, I.gridL, I.natL⟩
theorem LenI.put (I : LenI P w K m k H H2 fl dH oH esH dL esL F) {q : Pt} {b : Addr} (hb : PtAt K H2 b q) (hg : Grid m k q) (x : Nat) :
    LenI P w K m k H (upd H2 dL (dxO P w dL (putX esL q b (vi x)))) fl dH oH esH dL (putX esL q b (vi x)) F :=
  ⟨same_upd I.same I.nL, I.nf, I.nH, I.nL, I.ne, by rw [upd_ne (ne_of I.hf I.hL (fun z => nomatch z))]; exact I.hf, by rw [upd_ne I.ne]; exact I.hH, I.keysH.put I.hL rfl, upd_same, (I.keysL.putX hb).put I.hL rfl, putX_nodup I.nodL,
    fun y hy => (putX_in.mp hy).elim (I.gridL y) fun e => by rw [e]; exact hg, I.natL.put q b x⟩
end
def spLengths (K : PySem.W.Frag) : Sp := fun vs H Q _ => ∃ a1 a2 b m k L t most, vs = [.ref a1, .ref a2, .ref b, vi most] ∧ PartsAt H a1 m ∧ PartsAt H a2 k ∧ m.Ok L ∧ k.Ok L ∧ PtAt K H b t ∧ Grid m k t ∧ most ≤ 200 ∧
  ∀ H' fl, Same H H' → H fl = none → H' fl = some (.lst ((List.range most).map fun i => vi (cnt (gl m k) (ul m k) i t))) → Q (.ref fl) H'
theorem ne_test (a b : Bool) {A B : Prop} (h1 : (a != b) = true → A) (h2 : (a != b) = false → B) : if (!decide (V.bl a = V.bl b)) = true then A else B := by
  rw [ne_bl]
  cases e : (a != b) with
  | true => exact iteT (h1 e)
  | false => exact iteF (h2 e)
theorem ok_lengths {f : Addr} {fd : FuncData} (F : DefAt K mg "_law_lengths" sLengths nLengthsP f fd) (B : Bl mg) : FnOk P w K mg base CX0 1 f fd nLengthsP (spLengths K) := by
  refine F.fn.ok scLengths (fun vs H Q E h => ?_) (fun cdv A outer s H vs Q E hr h => ?_)
  · obtain ⟨a1, a2, b, m, k, L, t, most, rfl, _⟩ := h
    rfl
  · obtain ⟨a1, a2, b, m, k, L, t, most, rfl, ⟨st, g, hpp, ⟨as, has, hrow⟩, hg⟩, ⟨st2, g2, hpp2, ⟨as2, has2, hrow2⟩, hg2⟩, o1, o2, ht, gr, hmost, kk⟩ := h
    refine ⟨_, pss_cons (ps_par (i := 4) (j := 5) rfl scLengths.nd rfl rfl (by decide) rfl rfl (pa_cons (pe_lst pa_nil) (pa_cons (pe_xdisp (hu_of hr) (pv 2) pe_int) pa_nil)) (by rfl))
      (pss_cons (ps_for PassesOwn.never rfl (pi_range1 (by rfl) B.range (pa_cons (pv 3) pa_nil)) (pg_name (i := 6) scLengths.nd rfl (.inl rfl))
        (pss_cons (ps_par (i := 7) (j := 8) rfl scLengths.nd rfl rfl (by decide) rfl rfl (pa_cons pe_xnew (pa_cons pe_int pa_nil)) (by rfl))
        (pss_cons (ps_lock (ps_for PassesOwn.never rfl (pi_xkeys (pv 5)) (pg_name (i := 9) scLengths.nd rfl (.inl rfl))
          (pss_cons (ps_set (i := 8) scLengths.nd rfl (.inl rfl) (pe_op op_add (pv 8) (pe_cut (pe_ifExp (pt_cmpR op_ne
              (pe_cmpR op_in_seq (pe_ix ix_tup (pv 9) pe_int (fun _ _ => rfl)) (pe_ix ix_tup (pv 0) pe_int (fun _ _ => rfl)) (by with_unfolding_all rfl))
              (pe_cmpR op_in_seq (pe_ix ix_tup (pv 9) pe_int (fun _ _ => rfl)) (pe_ix ix_tup (pv 1) pe_int (fun _ _ => rfl)) (by with_unfolding_all rfl)) (nomark _)) (pe_xget (hu_of hr) (pv 5) (pv 9) (fun _ _ => rfl)) pe_int))))
          (pss_one (ps_for PassesOwn.never rfl (pi_zipN (fun _ _ => rfl) (by rfl) B.zip
              (pa_cons (pe_ix ix_tup (pe_ix ix_tup (pv 0) pe_int (fun _ _ => rfl)) (pe_ix ix_tup (pv 9) pe_int (fun _ _ => rfl)) (fun _ _ => rfl))
                (pa_cons (pe_ix ix_tup (pe_ix ix_tup (pv 1) pe_int (fun _ _ => rfl)) (pe_ix ix_tup (pv 9) pe_int (fun _ _ => rfl)) (fun _ _ => rfl)) pa_nil))) (pg_name (i := 10) scLengths.nd rfl (.inl rfl))
            (pss_one (ps_xput (hu_of hr) (pv 7) (pv 10) (pe_op op_add (pe_xget2 (hu_of hr) (pv 7) (pv 10) pe_int ⟨by rfl, by rfl, by rfl, by rfl⟩) (pe_xget (hu_of hr) (pv 5) (pv 9) (fun _ _ => rfl))) (by rfl))))))))
        (pss_cons (ps_expr (pe_bm PySem.F.plainAttrs_list PySem.F.slot_list_append PySem.F.type_list_append mt_append (pv 4) (pa_cons (pv 8) pa_nil)))
        (pss_one (ps_set (i := 5) scLengths.nd rfl (.inl rfl) (pv 7)))))))
      (pss_one (ps_ret (pv 4)))), ?_⟩
    refine ⟨by show 0 ≤ sizeLine; decide, fun fl nfl => ?_⟩
    intro d nd
    have s1 : Same H (upd H fl (.lst [])) := same_new nfl
    have nd0 := s1.free nd
    refine ⟨_, rfl, upd_same, b, t, rfl, (ht.same s1).same (same_new nd), ?_⟩
    rw [upd_upd]
    have s2 : Same H (upd (upd H fl (.lst [])) d (dxO P w d [(t, b, V.int 1)])) := s1.trans (same_new nd)
    have nfd : fl ≠ d := fun z => by rw [← z, upd_same] at nd; cases nd
    refine ⟨_, _, rfl, ?_⟩
    refine ⟨_, rfl, (most : Int), rfl, by omega, by omega, ?_⟩
    rw [Int.toNat_natCast]
    refine for_range (lo := 0) (n := most) (fun l σ H1 => ∃ (dH : Addr) (esH : List Ent) (v6 v7 v8 v9 v10 : Option V), σ = [some (.ref a1), some (.ref a2), some (.ref b), some (vi most), some (.ref fl), some (.ref dH), v6, v7, v8, v9, v10] ∧
      Same H H1 ∧ H dH = none ∧ H1 fl = some (.lst ((List.range l).map fun i => vi (cnt (gl m k) (ul m k) i t))) ∧ H1 dH = some (dxO P w dH esH) ∧ Keys K H1 esH ∧ (esH.map (·.1)).Nodup ∧ (∀ x ∈ esH.map (·.1), Grid m k x) ∧ NatE esH ∧
      ∀ j, wsum (cnt (gl m k) (ul m k) j) esH = cnt (gl m k) (ul m k) (l + j) t) ⟨d, [(t, b, V.int 1)], none, none, none, none, none, rfl, s2, nd0, by rw [upd_ne nfd]; exact upd_same, upd_same, fun e he => ?_, by simp, fun x hx => ?_, fun e he => ?_, fun j => ?_⟩ ?_ ?_
    · rw [List.mem_singleton.mp he]; exact ht.same s2
    · rw [List.mem_singleton.mp hx]; exact gr
    · rw [List.mem_singleton.mp he]; rfl
    · rw [wsum_one, Nat.zero_add]
      show 1 * _ = _
      rw [Nat.one_mul]
    · rintro l σ H1 hl ⟨dH, esH, v6, v7, v8, v9, v10, rfl, s3, nH, hfl, hdH, hkH, hndH, hgH, hnatH, hws⟩
      rw [show ((0 : Int) + (l : Int)) = (l : Int) by omega]
      intro dL ndL
      have ndL0 := s3.free ndL
      have hne : dH ≠ dL := fun z => by rw [← z, hdH] at ndL; cases ndL
      have s4 : Same H1 (upd H1 dL (dxO P w dL [])) := same_new ndL
      refine ⟨_, _, rfl, ?_⟩
      have I0 : LenI P w K m k H (upd H1 dL (dxO P w dL [])) fl dH (dxO P w dH esH) esH dL [] ((List.range l).map fun i => vi (cnt (gl m k) (ul m k) i t)) :=
        ⟨s3.trans s4, nfl, nH, ndL0, hne, s4 _ _ hfl, s4 _ _ hdH, hkH.same s4, upd_same, fun e he => (nomatch he), List.nodup_nil, fun x hx => (nomatch hx), fun e he => (nomatch he)⟩
      have relock : ∀ {H2 : Hp} {oH oH' : HO} {esL : List Ent} {FF : List V}, noT oH = true → LenI P w K m k H H2 fl dH oH esH dL esL FF → (∀ xs, oH ≠ .lst xs) → LenI P w K m k H (upd H2 dH oH') fl dH oH' esH dL esL FF := fun hn I hnl =>
        ⟨same_upd I.same I.nH, I.nf, I.nH, I.nL, I.ne, by rw [upd_ne (ne_of I.hf I.hH fun z => hnl _ z.symm)]; exact I.hf, upd_same, I.keysH.put I.hH hn, by rw [upd_ne I.ne.symm]; exact I.hL, I.keysL.put I.hH hn, I.nodL, I.gridL, I.natL⟩
      refine ⟨dH, _, I0.hH, True.intro, fun od => ?_⟩
      refine ⟨_, rfl, dH, od, esH, rfl, upd_same, for_it walk_x (fun i σ H2 => ∃ (esL : List Ent) (v9 v10 : Option V) (own : Nat), σ = [some (.ref a1), some (.ref a2), some (.ref b), some (vi most), some (.ref fl), some (.ref dH), some (vi l), some (.ref dL), some (vi own), v9, v10] ∧
        LenI P w K m k H H2 fl dH (.frz od (dxO P w dH esH)) esH dL esL ((List.range l).map fun i => vi (cnt (gl m k) (ul m k) i t)) ∧ own = wsum (cnt (gl m k) (ul m k) 0) (esH.take i) ∧
        ∀ f : Pt → Nat, wsum f esL = wsum (fun p => ((gl m k p).map f).sum) (esH.take i)) ⟨[], v9, v10, 0, rfl, relock rfl I0 (fun _ z => nomatch z), rfl, fun f => rfl⟩ (fun _ _ _ _ ⟨_, _, _, _, _, I, _⟩ => I.hH) ?_ ?_⟩
      · rintro i y σ H2 H2' hi ⟨esL, v9, v10, own, rfl, I, hown, hwL⟩ ⟨rfl, e, he, rfl⟩
        have hem : e ∈ esH := List.mem_of_getElem? he
        have hbx : PtAt K H2' e.2.1 e.1 := I.keysH e hem
        have heg : Grid m k e.1 := hgH _ (List.mem_map_of_mem (f := (·.1)) hem)
        have hev : getX esH e.1 = some e.2.2 := getX_uniq hndH (p := e.1) (b := e.2.1) (v := e.2.2) hem
        have henat : e.2.2 = vi (natV e.2.2) := hnatH e hem
        have etk : esH.take (i + 1) = esH.take i ++ [e] := by rw [List.take_succ, he]; rfl
        refine ⟨_, rfl, fun x H' => x = vi (natV e.2.2 * cnt (gl m k) (ul m k) 0 e.1) ∧ H' = H2', ?_, ?_⟩
        · refine ⟨_, rfl, _, _, _, _, rfl, rfl, hbx, atI_nat (j := 0) rfl, _, rfl, _, _, _, _, rfl, rfl, SqT.of (I.same _ _ hpp), atI_nat (j := 1) rfl, _, _, rfl, .inr (SqT.of (I.same _ _ hg)), rfl, flat_vi _, ?_⟩
          refine ⟨_, rfl, _, _, _, _, rfl, rfl, hbx, atI_nat (j := 1) rfl, _, rfl, _, _, _, _, rfl, rfl, SqT.of (I.same _ _ hpp2), atI_nat (j := 1) rfl, _, _, rfl, .inr (SqT.of (I.same _ _ hg2)), rfl, flat_vi _, rfl, _, rfl, ?_⟩
          show if (!decide (V.bl (inV (vi e.1.1) (m.gd.map vi)) = V.bl (inV (vi e.1.2) (k.gd.map vi)))) = true then _ else _
          rw [inV_vi, inV_vi]
          refine ne_test _ _ (fun hu => ⟨_, rfl, _, rfl, _, ⟨dH, e.2.1, esH, e.1, rfl, rfl, .inr ⟨od, I.hH⟩, I.keysH, hbx, hev.symm⟩, ?_, rfl⟩) (fun hu => ⟨?_, rfl⟩)
          · rw [henat]
            show vi (natV e.2.2) = vi (natV e.2.2 * (if ul m k e.1 = true then 1 else 0))
            rw [if_pos (show ul m k e.1 = true from hu), Nat.mul_one]
          · show V.int 0 = vi (natV e.2.2 * (if ul m k e.1 = true then 1 else 0))
            rw [show ul m k e.1 = false from hu]
            rfl
        rintro x H' ⟨rfl, rfl⟩
        refine ⟨_, _, rfl, rfl, ?_⟩
        obtain ⟨b1, hb1, hbH1⟩ := row_in hrow heg.1
        obtain ⟨b2, hb2, hbH2⟩ := row_in hrow2 heg.2
        have hrl : ((m.st.getD e.1.1 []).map vi).length = ((k.st.getD e.1.2 []).map vi).length := by rw [List.length_map, List.length_map, (o1.rowD heg.1).1, (o2.rowD heg.2).1]
        refine ⟨_, rfl, _, _, _, _, rfl, rfl, SqT.of (I.same _ _ hpp), atI_nat (j := 0) rfl, _, rfl, _, _, _, _, rfl, rfl, hbx, atI_nat (j := 0) rfl, _, _, _, _, rfl, rfl, SqT.of (I.same _ _ has), atI_nat (j := e.1.1) (ref_get hb1), ?_⟩
        refine ⟨_, rfl, _, _, _, _, rfl, rfl, SqT.of (I.same _ _ hpp2), atI_nat (j := 0) rfl, _, rfl, _, _, _, _, rfl, rfl, hbx, atI_nat (j := 1) rfl, _, _, _, _, rfl, rfl, SqT.of (I.same _ _ has2), atI_nat (j := e.1.2) (ref_get hb2), ?_⟩
        refine ⟨b1, b2, _, _, rfl, SqT.of (I.same _ _ hbH1), SqT.of (I.same _ _ hbH2), RZ.for_zipT hrl (fun j σ H3 => ∃ (esL2 : List Ent) (v10 : Option V), σ = [some (.ref a1), some (.ref a2), some (.ref b), some (vi most), some (.ref fl), some (.ref dH), some (vi l), some (.ref dL), some (vi (own + natV e.2.2 * cnt (gl m k) (ul m k) 0 e.1)), some (.ref e.2.1), v10] ∧
          LenI P w K m k H H3 fl dH (.frz od (dxO P w dH esH)) esH dL esL2 ((List.range l).map fun i => vi (cnt (gl m k) (ul m k) i t)) ∧
          ∀ f : Pt → Nat, wsum f esL2 = wsum (fun p => ((gl m k p).map f).sum) (esH.take i) + natV e.2.2 * (((gl m k e.1).take j).map f).sum) ⟨esL, v10, rfl, I, fun f => by rw [hwL f]; simp⟩ (fun _ _ _ ⟨_, _, _, I3, _⟩ => ⟨SqT.of (I3.same _ _ hbH1), SqT.of (I3.same _ _ hbH2)⟩) ?_ ?_⟩
        · rintro j x y T σ H3 hx hy ⟨esL2, v10, rfl, I3, hw3⟩ nT
          obtain ⟨x, hx1, rfl⟩ := map_get hx
          obtain ⟨y, hy1, rfl⟩ := map_get hy
          have I4 := I3.step (same_new nT (o := .tup [vi x, vi y]))
          have hT : PtAt K (upd H3 T (.tup [vi x, vi y])) T (x, y) := SqT.of upd_same
          have hgz : (gl m k e.1)[j]? = some (x, y) := by
            unfold gl
            rw [List.getElem?_zip_eq_some]
            exact ⟨hx1, hy1⟩
          have hgr : Grid m k (x, y) := gl_grid o1 o2 heg (List.mem_of_getElem? hgz)
          have hb4 : PtAt K (upd H3 T (.tup [vi x, vi y])) e.2.1 e.1 := I4.keysH e hem
          have hl64 : esL2.length ≤ 64 := by
            have := grid_len o1 o2 I4.nodL I4.gridL
            rwa [List.length_map] at this
          refine ⟨_, rfl, ⟨dL, esL2, rfl, .inl I4.hL, I4.keysL⟩, _, rfl, getX esL2 (x, y), ⟨dL, T, esL2, (x, y), rfl, rfl, .inl I4.hL, I4.keysL, hT, rfl⟩, _, rfl, _, rfl, _, ⟨dH, e.2.1, esH, e.1, rfl, rfl, .inr ⟨od, I4.hH⟩, I4.keysH, hb4, hev.symm⟩, _, _, I4.natL.getD (x, y), henat, ?_⟩
          refine ⟨_, rfl, _, rfl, _, ⟨dL, T, esL2, (x, y), rfl, rfl, I4.hL, I4.keysL, hT, small1000 (by omega), rfl⟩, ?_⟩
          refine ⟨_, _, rfl, I4.put hT hgr (natV ((getX esL2 (x, y)).getD (vi 0)) + natV e.2.2), fun f => ?_⟩
          rw [wsum_put f I4.nodL (x, y) T (natV e.2.2), hw3 f, List.take_succ, hgz, List.map_append, sum_app]
          show _ + _ + natV e.2.2 * f (x, y) = _ + natV e.2.2 * (_ + ([f (x, y)]).sum)
          rw [List.sum_cons, List.sum_nil, Nat.add_zero, Nat.mul_add]
          omega
        · rintro σ H3 ⟨esL2, v10, rfl, I3, hw3⟩
          refine ⟨esL2, _, _, _, rfl, I3, ?_, fun f => ?_⟩
          · rw [etk, wsum_app, wsum_one, hown]
          · have hgl : (gl m k e.1).take ((m.st.getD e.1.1 []).map vi).length = gl m k e.1 := by
              rw [List.take_of_length_le]
              rw [gl_len o1 o2 heg, List.length_map, (o1.rowD heg.1).1]
              exact Nat.le_refl _
            rw [hw3 f, hgl, etk, wsum_app, wsum_one]
      · rintro σ H2 ⟨esL, v9, v10, own, rfl, I, hown, hwL⟩
        rw [List.take_length] at hown hwL
        have I2 := relock (oH' := dxO P w dH esH) rfl I (fun _ z => nomatch z)
        have hF : ((List.range l).map fun i => vi (cnt (gl m k) (ul m k) i t)) ++ [vi own] = (List.range (l + 1)).map fun i => vi (cnt (gl m k) (ul m k) i t) := by
          rw [List.range_succ, List.map_append, hown, hws 0]
          rfl
        refine ⟨I.hH, ?_⟩
        refine ⟨_, rfl, .inl ⟨rfl, _, SqL.of I2.hf⟩, _, rfl, _, _, _, rfl, rfl, I2.hf, small1000 (by rw [List.length_map, List.length_range]; omega), ?_⟩
        rw [hF]
        have nld : dL ≠ fl := ne_of I2.hL I2.hf (fun z => nomatch z)
        refine ⟨_, rfl, dL, esL, _, _, _, _, _, rfl, same_upd I2.same I2.nf, I2.nL, upd_same, by rw [upd_ne nld]; exact I2.hL, I2.keysL.put I2.hf rfl, I2.nodL, I2.gridL, I2.natL, fun j => ?_⟩
        rw [hwL, show l + 1 + j = l + (j + 1) by omega, ← hws (j + 1)]
        rfl
    · rintro σ H1 ⟨dH, esH, v6, v7, v8, v9, v10, rfl, s3, nH, hfl, hdH, hkH, hndH, hgH, hnatH, hws⟩
      exact ⟨_, rfl, kk H1 fl s3 nfl hfl⟩
end
end Bf
set_option Elab.async false
set_option linter.all false
set_option maxRecDepth 100000
set_option maxHeartbeats 4000000
/-! BfL5: the law's pairs, the law's count. -/
namespace Bf
open PySem PySem.Spec PyProof.Rows L2
/-- a pair as data -/
def pd (e : Addr × Pt) : PyData := .tuple [.int (e.2.1 : Int), .int (e.2.2 : Int)]
theorem dp_all {K : PySem.W.Frag} {H : Hp} : ∀ {qs : List (Addr × Pt)}, PtsAt K H qs → DpAll K H (refs qs) (qs.map pd)
  | [], _ => .nil
  | e :: qs, h => .cons (.tup (show SqT K H e.1 (pvs e.2) from h e (List.mem_cons_self ..)) (.cons (.int _) (.cons (.int _) .nil))) (dp_all fun x hx => h x (List.mem_cons_of_mem _ hx))
theorem pd_lay : ∀ qs : List (Addr × Pt), PyData.canLayAll0 (qs.map pd) = true
  | [] => rfl
  | e :: qs => by
    rw [List.map_cons]
    show (PyData.canLay0 (pd e) && PyData.canLayAll0 (qs.map pd)) = true
    rw [pd_lay qs]
    rfl
theorem pd_depth : ∀ qs : List (Addr × Pt), PyData.depthAll (qs.map pd) ≤ 3
  | [] => by decide
  | e :: qs => by
    have ih := pd_depth qs
    rw [List.map_cons]
    show max (PyData.depth (pd e)) (PyData.depthAll (qs.map pd)) ≤ 3
    have : PyData.depth (pd e) ≤ 3 := by
      show PyData.depth (.tuple [.int _, .int _]) ≤ 3
      simp [PyData.depth, PyData.depthAll]
    omega
theorem pd_shaped (qs : List (Addr × Pt)) : SeqAt.shaped (.list (qs.map pd)) = true := by
  unfold SeqAt.shaped
  have h1 : PyData.canLay0 (.list (qs.map pd)) = true := pd_lay qs
  have h2 : PyData.depth (.list (qs.map pd)) ≤ 64 := by
    have := pd_depth qs
    simp only [PyData.depth]
    omega
  rw [h1, decide_eq_true h2]
  rfl
theorem eqv_nil (qs : List (Addr × Pt)) : PyData.eqv (.list (qs.map pd)) (.list []) = decide (qs = []) := by
  cases qs with
  | nil => rfl
  | cons e qs => rfl
abbrev sPairs : Stmt := top 36
abbrev nPairsP : List Str := ["_law_one", "_law_other", "_law_begin"]
abbrev nPairs : List Str := ["_law_one", "_law_other", "_law_begin", "_law_known", "_law_row", "_law_pair", "_law_goal"]
theorem scPairs : FnScope nPairs nPairsP (defScope sPairs) := ⟨rfl, rfl, rfl, by decide +kernel, rfl, by decide +kernel, by decide +kernel⟩
section
variable {P : Program} {w : World} {K : PySem.W.Frag} {mg : Str → Option Value} {base : Heap}
structure PairI (P : Program) (w : World) (K : PySem.W.Frag) (m k : Mac) (t : Pt) (H H1 : Hp) (d r : Addr) (es : List Ent) (qs : List (Addr × Pt)) : Prop where
  same : Same H H1
  nd : H d = none
  nr : H r = none
  hd : H1 d = some (dxO P w d es)
  keys : Keys K H1 es
  hr : H1 r = some (.lst (refs qs))
  pts : PtsAt K H1 qs
  nod : (es.map (·.1)).Nodup
  grid : ∀ x ∈ es.map (·.1), Grid m k x
  mem : t ∈ es.map (·.1)
  sub : ∀ e ∈ qs, e.2 ∈ es.map (·.1)
theorem PairI.step {m k : Mac} {t : Pt} {H H1 H2 : Hp} {d r : Addr} {es : List Ent} {qs : List (Addr × Pt)} (I : PairI P w K m k t H H1 d r es qs) (s : Same H1 H2) : PairI P w K m k t H H2 d r es qs :=
  ⟨I.same.trans s, I.nd, I.nr, s _ _ I.hd, I.keys.same s, s _ _ I.hr, I.pts.same s, I.nod, I.grid, I.mem, I.sub⟩
theorem PairI.row {m k : Mac} {t : Pt} {H H1 : Hp} {d r : Addr} {es : List Ent} {qs qs' : List (Addr × Pt)} (I : PairI P w K m k t H H1 d r es qs) (hp : PtsAt K H1 qs') (hs : ∀ e ∈ qs', e.2 ∈ es.map (·.1)) : PairI P w K m k t H (upd H1 r (.lst (refs qs'))) d r es qs' :=
  ⟨same_upd I.same I.nr, I.nd, I.nr, by rw [upd_ne (ne_of I.hd I.hr (fun z => nomatch z))]; exact I.hd, I.keys.put I.hr rfl, upd_same, hp.put I.hr rfl, I.nod, I.grid, I.mem, hs⟩
theorem PairI.put {m k : Mac} {t : Pt} {H H1 : Hp} {d r : Addr} {es : List Ent} {qs : List (Addr × Pt)} (I : PairI P w K m k t H H1 d r es qs) {b : Addr} {q : Pt} {v : V} (hb : PtAt K H1 b q) (hg : Grid m k q) : PairI P w K m k t H (upd H1 d (dxO P w d (putX es q b v))) d r (putX es q b v) qs :=
  ⟨same_upd I.same I.nd, I.nd, I.nr, upd_same, (I.keys.putX hb).put I.hd rfl, by rw [upd_ne (ne_of I.hr I.hd (fun z => nomatch z))]; exact I.hr, I.pts.put I.hd rfl, putX_nodup I.nod, fun y hy => (putX_in.mp hy).elim (I.grid y) fun e => by rw [e]; exact hg,
    putX_in.mpr (.inl I.mem), fun e he => putX_in.mpr (.inl (I.sub e he))⟩
theorem PairI.len {m k : Mac} {L : Nat} {t : Pt} {H H1 : Hp} {d r : Addr} {es : List Ent} {qs : List (Addr × Pt)} (I : PairI P w K m k t H H1 d r es qs) (o1 : m.Ok L) (o2 : k.Ok L) : es.length ≤ 64 := by
  have := grid_len o1 o2 I.nod I.grid
  rwa [List.length_map] at this
def spPairs (P : Program) (w : World) (K : PySem.W.Frag) : Sp := fun vs H Q _ => ∃ a1 a2 b m k L t, vs = [.ref a1, .ref a2, .ref b] ∧ PartsAt H a1 m ∧ PartsAt H a2 k ∧ m.Ok L ∧ k.Ok L ∧ PtAt K H b t ∧ Grid m k t ∧
  ∀ H' d es, Same H H' → H d = none → H' d = some (dxO P w d es) → Keys K H' es → Come m k t (es.map (·.1)) → Q (.ref d) H'
theorem ok_pairs {f : Addr} {fd : FuncData} (F : DefAt K mg "_law_pairs" sPairs nPairsP f fd) (B : Bl mg) : FnOk P w K mg base CX0 1 f fd nPairsP (spPairs P w K) := by
  refine F.fn.ok scPairs (fun vs H Q E h => ?_) (fun cdv A outer s H vs Q E hr h => ?_)
  · obtain ⟨a1, a2, b, m, k, L, t, rfl, _⟩ := h
    rfl
  · obtain ⟨a1, a2, b, m, k, L, t, rfl, ⟨st, g, hpp, ⟨as, has, hrow⟩, hg⟩, ⟨st2, g2, hpp2, ⟨as2, has2, hrow2⟩, hg2⟩, o1, o2, ht, gr, kk⟩ := h
    refine ⟨_, pss_cons (ps_par (i := 3) (j := 4) rfl scPairs.nd rfl rfl (by decide) rfl rfl (pa_cons (pe_xdisp (hu_of hr) (pv 2) pe_bl) (pa_cons (pe_lst (pa_cons (pv 2) pa_nil)) pa_nil)) (by rfl))
      (pss_cons (ps_while PassesOwn.never (pt_cmpR (op_neD hr.units) (pv 4) (pe_lst pa_nil) (nomark _))
        (pss_cons (ps_set (i := 5) scPairs.nd rfl (.inl rfl) (pe_bm0 PySem.F.plainAttrs_list PySem.F.slot_list_pop PySem.F.type_list_pop mt_pop (pv 4)))
        (pss_one (ps_for PassesOwn.never rfl (pi_zipN (fun _ _ => rfl) (by rfl) B.zip
              (pa_cons (pe_ix ix_tup (pe_ix ix_tup (pv 0) pe_int (fun _ _ => rfl)) (pe_ix ix_tup (pv 5) pe_int (fun _ _ => rfl)) (fun _ _ => rfl))
                (pa_cons (pe_ix ix_tup (pe_ix ix_tup (pv 1) pe_int (fun _ _ => rfl)) (pe_ix ix_tup (pv 5) pe_int (fun _ _ => rfl)) (fun _ _ => rfl)) pa_nil))) (pg_name (i := 6) scPairs.nd rfl (.inl rfl))
          (pss_one (ps_if (pt_cmp (pc_xnotin (hu_of hr) (pv 6) (pv 3)))
            (pss_cons (ps_xput (hu_of hr) (pv 3) (pv 6) pe_bl (by rfl))
            (pss_one (ps_expr (pe_bm PySem.F.plainAttrs_list PySem.F.slot_list_append PySem.F.type_list_append mt_append (pv 4) (pa_cons (pv 6) pa_nil))))) pss_nil))))))
      (pss_one (ps_ret (pv 3)))), ?_⟩
    intro d nd
    have s1 : Same H (upd H d (dxO P w d [])) := same_new nd
    refine ⟨_, rfl, upd_same, b, t, rfl, ht.same s1, ?_⟩
    rw [upd_upd]
    have s2 : Same H (upd H d (dxO P w d [(t, b, V.bl true)])) := same_new nd
    refine ⟨_, rfl, by show 1 ≤ sizeLine; decide, fun r nr => ⟨_, _, rfl, ?_⟩⟩
    have s3 := s2.trans (same_new nr (o := .lst [.ref b]))
    have ndr : d ≠ r := fun z => by rw [← z, upd_same] at nr; cases nr
    refine ⟨fun mm σ H1 => ∃ (es : List Ent) (qs : List (Addr × Pt)) (v5 v6 : Option V), σ = [some (.ref a1), some (.ref a2), some (.ref b), some (.ref d), some (.ref r), v5, v6] ∧ PairI P w K m k t H H1 d r es qs ∧
      (∀ x ∈ es.map (·.1), x ∈ qs.map (·.2) ∨ ∀ y ∈ gl m k x, y ∈ es.map (·.1)) ∧ mm = 2 * (65 - es.length) + qs.length ∧ mm ≤ 129, ⟨_, [(t, b, V.bl true)], [(b, t)], none, none, rfl,
        ⟨s3, nd, s2.free nr, by rw [upd_ne ndr]; exact upd_same, fun e he => by rw [List.mem_singleton.mp he]; exact ht.same s3, upd_same, fun e he => by rw [List.mem_singleton.mp he]; exact ht.same s3, by simp, fun x hx => by rw [List.mem_singleton.mp hx]; exact gr, by simp, fun e he => by rw [List.mem_singleton.mp he]; simp⟩,
        fun x hx => ?_, rfl, by simp⟩, ?_⟩
    · have : x = t := List.mem_singleton.mp hx
      rw [this]
      exact .inl (by simp)
    rintro mm σ H1 ⟨es, qs, v5, v6, rfl, I, hcl, rfl, hmm⟩
    have h64 := I.len o1 o2
    refine ⟨_, rfl, by show 0 ≤ sizeLine; decide, fun l0 nl0 => ?_⟩
    have I1 := I.step (same_new nl0 (o := .lst []))
    refine ⟨.list (qs.map pd), .list [], .lst (SqL.of I1.hr) (dp_all I1.pts), .lst (SqL.of upd_same) .nil, pd_shaped qs, by decide, _, rfl, ?_⟩
    rw [eqv_nil]
    by_cases hq : qs = []
    · rw [decide_eq_true hq]
      subst hq
      refine iteF ⟨_, rfl, kk _ d es I1.same nd I1.hd I1.keys ⟨I1.nod, I1.mem, fun x hx y hy => ?_, I1.grid⟩⟩
      rcases hcl x hx with h1 | h1
      · cases h1
      · exact h1 y hy
    · rw [decide_eq_false hq]
      refine iteT ⟨fun σ H3 => ∃ (es2 : List Ent) (qs2 : List (Addr × Pt)) (v5 v6 : Option V), σ = [some (.ref a1), some (.ref a2), some (.ref b), some (.ref d), some (.ref r), v5, v6] ∧ PairI P w K m k t H H3 d r es2 qs2 ∧
        (∀ x ∈ es2.map (·.1), x ∈ qs2.map (·.2) ∨ ∀ y ∈ gl m k x, y ∈ es2.map (·.1)) ∧ 2 * (65 - es2.length) + qs2.length < 2 * (65 - es.length) + qs.length, fun σ H3 ⟨es2, qs2, v5, v6, e, I2, h2, h3⟩ => ⟨_, h3, es2, qs2, v5, v6, e, I2, h2, rfl, by omega⟩, ?_⟩
      obtain ⟨qs0, ⟨bx, x⟩, rfl⟩ : ∃ qs0 e, qs = qs0 ++ [e] := ⟨qs.dropLast, qs.getLast hq, (List.dropLast_concat_getLast hq).symm⟩
      have hmem : (bx, x) ∈ qs0 ++ [(bx, x)] := by simp
      have hbx : PtAt K _ bx x := I1.pts _ hmem
      have hxg : Grid m k x := I1.grid _ (I1.sub _ hmem)
      have hlen0 : (refs (qs0 ++ [(bx, x)])).length - 1 = (refs qs0).length := by rw [refs_len, refs_len, List.length_append]; rfl
      refine ⟨_, rfl, .inl ⟨rfl, _, SqL.of I1.hr⟩, r, _, .ref bx, rfl, rfl, I1.hr, by rw [hlen0, refs_app, List.getElem?_append_right (Nat.le_refl _), Nat.sub_self]; rfl, ?_⟩
      have I2 := I1.row (qs' := qs0) (fun e he => I1.pts e (List.mem_append_left _ he)) fun e he => I1.sub e (List.mem_append_left _ he)
      have hdl : (refs (qs0 ++ [(bx, x)])).dropLast = refs qs0 := by rw [refs_app, List.dropLast_concat]
      rw [hdl]
      have hbx2 : PtAt K _ bx x := hbx.put I1.hr rfl (o' := .lst (refs qs0))
      obtain ⟨b1, hb1, hbH1⟩ := row_in hrow hxg.1
      obtain ⟨b2, hb2, hbH2⟩ := row_in hrow2 hxg.2
      have hrl : ((m.st.getD x.1 []).map vi).length = ((k.st.getD x.2 []).map vi).length := by rw [List.length_map, List.length_map, (o1.rowD hxg.1).1, (o2.rowD hxg.2).1]
      refine ⟨_, rfl, _, _, _, _, rfl, rfl, SqT.of (I2.same _ _ hpp), atI_nat (j := 0) rfl, _, rfl, _, _, _, _, rfl, rfl, hbx2, atI_nat (j := 0) rfl, _, _, _, _, rfl, rfl, SqT.of (I2.same _ _ has), atI_nat (j := x.1) (ref_get hb1), ?_⟩
      refine ⟨_, rfl, _, _, _, _, rfl, rfl, SqT.of (I2.same _ _ hpp2), atI_nat (j := 0) rfl, _, rfl, _, _, _, _, rfl, rfl, hbx2, atI_nat (j := 1) rfl, _, _, _, _, rfl, rfl, SqT.of (I2.same _ _ has2), atI_nat (j := x.2) (ref_get hb2), ?_⟩
      refine ⟨b1, b2, _, _, rfl, SqT.of (I2.same _ _ hbH1), SqT.of (I2.same _ _ hbH2), RZ.for_zipT hrl (fun j σ H3 => ∃ (es2 : List Ent) (qs2 : List (Addr × Pt)) (v6 : Option V), σ = [some (.ref a1), some (.ref a2), some (.ref b), some (.ref d), some (.ref r), some (.ref bx), v6] ∧ PairI P w K m k t H H3 d r es2 qs2 ∧
        (∀ y ∈ es2.map (·.1), y ∈ qs2.map (·.2) ∨ y = x ∨ ∀ z ∈ gl m k y, z ∈ es2.map (·.1)) ∧ (∀ z ∈ (gl m k x).take j, z ∈ es2.map (·.1)) ∧ 2 * (65 - es2.length) + qs2.length < 2 * (65 - es.length) + (qs0 ++ [(bx, x)]).length) ⟨es, qs0, v6, rfl, I2, fun y hy => ?_, fun z hz => by simp at hz, by rw [List.length_append, List.length_singleton]; omega⟩
        (fun _ _ _ ⟨_, _, _, _, I3, _⟩ => ⟨SqT.of (I3.same _ _ hbH1), SqT.of (I3.same _ _ hbH2)⟩) ?_ ?_⟩
      · rcases hcl y hy with h1 | h1
        · rw [List.map_append] at h1
          rcases List.mem_append.mp h1 with h2 | h2
          · exact .inl h2
          · exact .inr (.inl (by simpa using h2))
        · exact .inr (.inr h1)
      · rintro j xx yy T σ H3 hx hy ⟨es2, qs2, v6, rfl, I3, hcl3, hin3, hme3⟩ nT
        obtain ⟨xx, hx1, rfl⟩ := map_get hx
        obtain ⟨yy, hy1, rfl⟩ := map_get hy
        have I4 := I3.step (same_new nT (o := .tup [vi xx, vi yy]))
        have hT : PtAt K (upd H3 T (.tup [vi xx, vi yy])) T (xx, yy) := SqT.of upd_same
        have hgz : (gl m k x)[j]? = some (xx, yy) := by
          unfold gl
          rw [List.getElem?_zip_eq_some]
          exact ⟨hx1, hy1⟩
        have hgr : Grid m k (xx, yy) := gl_grid o1 o2 hxg (List.mem_of_getElem? hgz)
        have h64b := I4.len o1 o2
        have etk : (gl m k x).take (j + 1) = (gl m k x).take j ++ [(xx, yy)] := by rw [List.take_succ, hgz]; rfl
        refine ⟨_, rfl, _, rfl, getX es2 (xx, yy), ⟨d, T, es2, (xx, yy), rfl, rfl, .inl I4.hd, I4.keys, hT, rfl⟩, _, rfl, ?_⟩
        rw [getX_isSome]
        by_cases hz : (xx, yy) ∈ es2.map (·.1)
        · rw [decide_eq_true hz]
          refine iteF ⟨es2, qs2, _, rfl, I4, hcl3, fun z hz2 => ?_, hme3⟩
          rw [etk] at hz2
          rcases List.mem_append.mp hz2 with h1 | h1
          · exact hin3 z h1
          · rw [List.mem_singleton.mp h1]; exact hz
        · rw [decide_eq_false hz]
          refine iteT ⟨_, rfl, _, rfl, _, ⟨d, T, es2, (xx, yy), rfl, rfl, I4.hd, I4.keys, hT, small1000 (by omega), rfl⟩, ?_⟩
          have I5 := I4.put (v := .bl true) hT hgr
          have hT5 := PtAt.put (o' := dxO P w d (putX es2 (xx, yy) T (.bl true))) hT I4.hd rfl
          have hq64 : qs2.length ≤ 200 := by omega
          refine ⟨_, rfl, .inl ⟨rfl, _, SqL.of I5.hr⟩, _, rfl, _, _, _, rfl, rfl, I5.hr, small1000 (by rw [refs_len]; omega), ?_⟩
          rw [← refs_app qs2 (T, (xx, yy))]
          have I6 := I5.row (qs' := qs2 ++ [(T, (xx, yy))]) (I5.pts.app hT5) fun e he => by
            rcases List.mem_append.mp he with h1 | h1
            · exact I5.sub e h1
            · rw [List.mem_singleton.mp h1]; exact putX_in.mpr (.inr rfl)
          have hlp : (putX es2 (xx, yy) T (.bl true)).length = es2.length + 1 := by rw [putX_new _ _ (getX_out hz), List.length_append]; rfl
          have h64c := I6.len o1 o2
          refine ⟨_, _, _, rfl, I6, fun y hy => ?_, fun z hz2 => ?_, ?_⟩
          · rcases putX_in.mp hy with h1 | h1
            · rcases hcl3 y h1 with h2 | h2 | h2
              · rw [List.map_append]; exact .inl (List.mem_append_left _ h2)
              · exact .inr (.inl h2)
              · exact .inr (.inr fun z hz => putX_in.mpr (.inl (h2 z hz)))
            · rw [List.map_append, h1]; exact .inl (List.mem_append_right _ (by simp))
          · rw [etk] at hz2
            rcases List.mem_append.mp hz2 with h1 | h1
            · exact putX_in.mpr (.inl (hin3 z h1))
            · rw [List.mem_singleton.mp h1]; exact putX_in.mpr (.inr rfl)
          · rw [hlp] at h64c ⊢
            rw [List.length_append, List.length_singleton]
            omega
      · rintro σ H3 ⟨es2, qs2, v6, rfl, I3, hcl3, hin3, hme3⟩
        refine ⟨es2, qs2, _, _, rfl, I3, fun y hy => ?_, hme3⟩
        have hgl : (gl m k x).take ((m.st.getD x.1 []).map vi).length = gl m k x := by
          rw [List.take_of_length_le]
          rw [gl_len o1 o2 hxg, List.length_map, (o1.rowD hxg.1).1]
          exact Nat.le_refl _
        rw [hgl] at hin3
        rcases hcl3 y hy with h1 | h1 | h1
        · exact .inl h1
        · rw [h1]; exact .inr hin3
        · exact .inr h1
end
end Bf
set_option Elab.async false
set_option linter.all false
set_option maxRecDepth 100000
set_option maxHeartbeats 4000000
/-! BfL6: the law's count. -/
namespace Bf
open PySem PySem.Spec PyProof.Rows L2
abbrev sUnlike : Stmt := top 37
abbrev nUnlikeP : List Str := ["_law_one", "_law_other", "_law_begin"]
abbrev nUnlike : List Str := ["_law_one", "_law_other", "_law_begin", "_law_known", "_law_many", "_law_found", "_law_pair", "_law_k"]
theorem scUnlike : FnScope nUnlike nUnlikeP (defScope sUnlike) := ⟨rfl, rfl, rfl, by decide +kernel, rfl, by decide +kernel, by decide +kernel⟩
theorem range_drop (a b : Nat) (F : Nat → V) : ((List.range (a + b)).map F).drop a = (List.range b).map fun l => F (a + l) := by
  rw [List.range_add, List.map_append, List.drop_left' (by rw [List.length_map, List.length_range]), List.map_map]
  rfl
theorem range_vi (n : Nat) (F : Nat → Nat) : ((List.range n).map fun i => vi (F i)) = (((List.range n).map F).map fun x : Nat => ((x : Nat) : Int)).map V.int := by rw [List.map_map, List.map_map]; rfl
section
variable {P : Program} {w : World} {K : PySem.W.Frag} {mg : Str → Option Value} {base : Heap}
def spUnlike (K : PySem.W.Frag) : Sp := fun vs H Q _ => ∃ a1 a2 b m k L, vs = [.ref a1, .ref a2, .ref b] ∧ PartsAt H a1 m ∧ PartsAt H a2 k ∧ m.Ok L ∧ k.Ok L ∧ PtAt K H b (0, 0) ∧
  (∀ H', Same H H' → ResM m k none → Q .non H') ∧ ∀ (H' : Hp) (ta : Addr) (n : Nat) (far : Int), Same H H' → ResM m k (some n) → H' ta = some (.tup [.int (n : Nat), .int far]) → Q (.ref ta) H'
theorem ok_unlike {f f1 f2 : Addr} {fd fd1 fd2 : FuncData} (F : DefAt K mg "_law_unlike" sUnlike nUnlikeP f fd) (F1 : DefAt K mg "_law_lengths" sLengths nLengthsP f1 fd1) (F2 : DefAt K mg "_law_pairs" sPairs nPairsP f2 fd2) (B : Bl mg) : FnOk P w K mg base CX0 2 f fd nUnlikeP (spUnlike K) := by
  refine F.fn.ok scUnlike (fun vs H Q E h => ?_) (fun cdv A outer s H vs Q E hr h => ?_)
  · obtain ⟨a1, a2, b, m, k, L, rfl, _⟩ := h
    rfl
  · obtain ⟨a1, a2, b, m, k, L, rfl, hA, hB, o1, o2, ht, kk1, kk2⟩ := h
    obtain ⟨st, g, hpp, hst, hg⟩ := id hA
    obtain ⟨st2, g2, hpp2, hst2, hg2⟩ := id hB
    have G1 : FnOk P w K mg base CX0 1 f1 fd1 nLengthsP (spLengths K) := ok_lengths F1 B
    have G2 : FnOk P w K mg base CX0 1 f2 fd2 nPairsP (spPairs P w K) := ok_pairs F2 B
    have gr : Grid m k (0, 0) := ⟨o1.n1, o2.n1⟩
    refine ⟨_, pss_cons (ps_set (i := 3) scUnlike.nd rfl (.inl rfl) (pe_call G2 hr (by rfl) F2.mg F2.fn.kp F2.b .nil pass0 (pa_cons (pv 0) (pa_cons (pv 1) (pa_cons (pv 2) pa_nil)))))
      (pss_cons (ps_if (pt_cmpR (op_eqD hr.units) (pe_lock (pe_lc (own := [("_law_pair", 6)]) (g := gName 6) rfl scUnlike.nd (pi_xkeys (pv 3)) (blkOk_by (N := nUnlike) (sc := defScope sUnlike) (by decide +kernel))
            (fun _ _ _ _ _ => pg_name (i := 6) scUnlike.nd rfl (Or.inl rfl))
            (fun _ _ _ _ _ => pts_one (pt_cmpR op_ne (pe_cmpR e_in (pe_ix i_tup (pv 6) pe_int (fun _ _ => rfl)) (pe_ix i_tup (pv 0) pe_int (fun _ _ => rfl)) (by with_unfolding_all rfl))
              (pe_cmpR e_in (pe_ix i_tup (pv 6) pe_int (fun _ _ => rfl)) (pe_ix i_tup (pv 1) pe_int (fun _ _ => rfl)) (by with_unfolding_all rfl)) (nomark _)))
            (fun _ _ _ _ _ => pv 6))) (pe_lst pa_nil) (nomark _)) (pss_one (ps_ret (pe_tup (pa_cons pe_int (pa_cons (pe_un un_neg pe_int) pa_nil))))) pss_nil)
      (pss_cons (ps_set (i := 4) scUnlike.nd rfl (.inl rfl) (pe_callB call_xlen (by rfl) B.len b_len (pa_cons (pv 3) pa_nil)))
      (pss_cons (ps_set (i := 5) scUnlike.nd rfl (.inr rfl) (pe_call G1 hr (by rfl) F1.mg F1.fn.kp F1.b .nil pass0 (pa_cons (pv 0) (pa_cons (pv 1) (pa_cons (pv 2) (pa_cons (pe_op op_mul pe_int (pv 4)) pa_nil))))))
      (pss_cons (ps_if (pt_cmpR op_gt (pe_callB (cr_sum rfl) (by rfl) B.sum b_sum (pa_cons (pe_slice sl_list (pv 5) (po_some (pv 4)) po_none) pa_nil)) pe_int (nomark _)) (pss_one (ps_ret pe_non)) pss_nil)
      (pss_one (ps_ret (pe_tup (pa_cons (pe_callB (cr_sum rfl) (by rfl) B.sum b_sum (pa_cons (pv 5) pa_nil)) (pa_cons (pe_callB (cr_max rfl) (by rfl) B.max b_max (pa_cons (pe_op op_cat (pe_lst (pa_cons (pe_un un_neg pe_int) pa_nil))
        (pe_lc (own := [("_law_k", 7)]) (g := gName 7) rfl scUnlike.nd (pi_range1 (by rfl) B.range (pa_cons (pv 4) pa_nil)) (blkOk_by (N := nUnlike) (sc := defScope sUnlike) (by decide +kernel))
            (fun _ _ _ _ _ => pg_name (i := 7) scUnlike.nd rfl (Or.inl rfl)) (fun _ _ _ _ _ => pts_one (pt_cmpR op_gt (pe_ix i_list (pv 5) (pv 7) (fun _ _ => rfl)) pe_int (nomark _))) (fun _ _ _ _ _ => pv 7))) pa_nil)) pa_nil))))))))), ?_⟩
    refine ⟨_, rfl, _, rfl, _, rfl, a1, a2, b, m, k, L, (0, 0), rfl, hA, hB, o1, o2, ht, gr, fun H1 d es s1 nd hd hk cm => ?_⟩
    have h64 : es.length ≤ 64 := by
      have := grid_len o1 o2 cm.nd cm.grid
      rwa [List.length_map] at this
    refine ⟨d, _, hd, True.intro, fun od => ?_⟩
    have relock : ∀ {o'}, Same H (upd H1 d o') := same_upd s1 nd
    have hk2 : Keys K (upd H1 d (.frz od (dxO P w d es))) es := hk.put hd rfl
    refine ⟨_, rfl, d, od, es, rfl, upd_same, fun D nD => ?_⟩
    have ndD : d ≠ D := fun z => by rw [← z, upd_same] at nD; cases nD
    refine lc_it walk_x (fun i H5 => ∃ qs : List (Addr × Pt), H5 D = some (.lst (refs qs)) ∧ PtsAt K H5 qs ∧ qs.map (·.2) = ((es.take i).map (·.1)).filter (fun p => ul m k p) ∧ Same (upd H1 d (.frz od (dxO P w d es))) H5) ⟨[], upd_same, fun e he => (nomatch he), rfl, same_new nD⟩ (fun _ _ _ ⟨_, _, _, _, s5⟩ => s5 _ _ upd_same) ?_ ?_
    · rintro i y H5 H5' hi ⟨qs, hD, hpt, hqs, s5⟩ ⟨rfl, e, he, rfl⟩
      have hbx : PtAt K H5' e.2.1 e.1 := (hk2 e (List.mem_of_getElem? he)).same s5
      have sH : Same H H5' := relock.trans s5
      have etk := take_mem_next he
      refine ⟨rfl, ?_⟩
      refine ⟨_, rfl, _, _, _, _, rfl, rfl, hbx, atI_nat (j := 0) rfl, _, rfl, _, _, _, _, rfl, rfl, SqT.of (sH _ _ hpp), atI_nat (j := 1) rfl, _, _, rfl, .inr (SqT.of (sH _ _ hg)), rfl, flat_vi _, ?_⟩
      refine ⟨_, rfl, _, _, _, _, rfl, rfl, hbx, atI_nat (j := 1) rfl, _, rfl, _, _, _, _, rfl, rfl, SqT.of (sH _ _ hpp2), atI_nat (j := 1) rfl, _, _, rfl, .inr (SqT.of (sH _ _ hg2)), rfl, flat_vi _, rfl, _, rfl, ?_⟩
      show if (!decide (V.bl (inV (vi e.1.1) (m.gd.map vi)) = V.bl (inV (vi e.1.2) (k.gd.map vi)))) = true then _ else _
      rw [inV_vi, inV_vi]
      have hql : qs.length ≤ 64 := by
        have h1 : (qs.map (·.2)).length ≤ ((es.take i).map (·.1)).length := by rw [hqs]; exact List.length_filter_le _ _
        rw [List.length_map, List.length_map, List.length_take] at h1
        omega
      refine ne_test _ _ (fun hu => ⟨_, rfl, _, hD, small1000 (by rw [refs_len]; omega), qs ++ [(e.2.1, e.1)], by rw [upd_same, refs_app], (hpt.put hD rfl).app (hbx.put hD rfl), ?_, same_upd s5 nD⟩) (fun hu => ⟨qs, hD, hpt, ?_, s5⟩)
      · rw [etk, List.filter_append, List.map_append, hqs, List.filter_cons_of_pos (show ul m k e.1 = true from hu)]
        rfl
      · rw [etk, List.filter_append, hqs, List.filter_cons_of_neg (by rw [show ul m k e.1 = false from hu]; exact Bool.false_ne_true), List.filter_nil, List.append_nil]
    · rintro H5 ⟨qs, hD, hpt, hqs, s5⟩
      rw [List.take_length] at hqs
      have hdf : H5 d = some (.frz od (dxO P w d es)) := s5 _ _ upd_same
      refine ⟨hdf, by show 0 ≤ sizeLine; decide, fun l0 nl0 => ?_⟩
      have sH5 : Same H (upd H5 d (dxO P w d es)) := same_upd (relock.trans s5) nd
      have hD6 : (upd H5 d (dxO P w d es)) D = some (.lst (refs qs)) := by rw [upd_ne ndD.symm]; exact hD
      have hp6 : PtsAt K (upd H5 d (dxO P w d es)) qs := hpt.put hdf rfl
      have hk6 : Keys K (upd H5 d (dxO P w d es)) es := (hk2.same s5).put hdf rfl
      have s7 : Same (upd H5 d (dxO P w d es)) (upd (upd H5 d (dxO P w d es)) l0 (.lst [])) := same_new nl0
      have sH7 := sH5.trans s7
      refine ⟨.list (qs.map pd), .list [], .lst (SqL.of (s7 _ _ hD6)) (dp_all (hp6.same s7)), .lst (SqL.of upd_same) .nil, pd_shaped qs, by decide, _, rfl, ?_⟩
      rw [eqv_nil]
      by_cases hq : qs = []
      · rw [decide_eq_true hq]
        subst hq
        refine iteT ⟨_, rfl, two_line, fun T nT => kk2 _ T 0 (-1) (sH7.trans (same_new nT)) ⟨0, fun l _ => ?_, rfl⟩ upd_same⟩
        refine cnt_none cm.cl (fun p hp => ?_) l (0, 0) cm.mem
        cases hu : ul m k p with
        | false => rfl
        | true =>
          have : p ∈ (es.map (·.1)).filter (fun p => ul m k p) := List.mem_filter.mpr ⟨hp, hu⟩
          rw [← hqs] at this
          cases this
      · rw [decide_eq_false hq]
        refine iteF ?_
        refine ⟨_, rfl, d, es, rfl, .inl (s7 _ _ upd_same), hk6.same s7, ?_⟩
        refine ⟨_, rfl, _, rfl, _, rfl, _, rfl, _, _, rfl, rfl, .inl ⟨by decide, by decide⟩, a1, a2, b, m, k, L, (0, 0), 2 * es.length, ?_, ?_⟩
        · show [V.ref a1, V.ref a2, V.ref b, V.int (2 * ((es.length : Nat) : Int))] ++ [] = _
          rw [show (2 * ((es.length : Nat) : Int)) = ((2 * es.length : Nat) : Int) by omega]
          rfl
        refine ⟨hA.same sH7, hB.same sH7, o1, o2, ht.same sH7, gr, by omega, fun H8 fl s8 nfl hfl => ?_⟩
        have sH8 := sH7.trans s8
        have hres := res_layers (u := ul m k) cm.cl cm.mem
        rw [List.length_map] at hres
        refine ⟨_, rfl, _, rfl, _, rfl, fl, _, rfl, SqL.of hfl, fun l1 nl1 => ?_⟩
        have s9 : Same H8 (upd H8 l1 (.lst (cutV ((List.range (2 * es.length)).map fun i => vi (cnt (gl m k) (ul m k) i (0, 0))) (some ((es.length : Nat) : Int)) none))) := same_new nl1
        have ecut : cutV ((List.range (2 * es.length)).map fun i => vi (cnt (gl m k) (ul m k) i (0, 0))) (some ((es.length : Nat) : Int)) none = (((List.range es.length).map fun l => cnt (gl m k) (ul m k) (es.length + l) (0, 0)).map fun x : Nat => ((x : Nat) : Int)).map V.int := by
          rw [cut_drop _ _ (by rw [List.length_map, List.length_range]; omega), show 2 * es.length = es.length + es.length by omega, range_drop, range_vi]
        refine ⟨l1, ((List.range es.length).map fun l => cnt (gl m k) (ul m k) (es.length + l) (0, 0)).map fun x : Nat => ((x : Nat) : Int), rfl, SqL.of (by rw [upd_same, ecut]), _, _, rfl, rfl, _, rfl, ?_⟩
        rw [sum_cast, sumTo_eq]
        have hcast : ∀ {HX : Hp}, HX fl = some (.lst ((List.range (2 * es.length)).map fun i => vi (cnt (gl m k) (ul m k) i (0, 0)))) → HX fl = some (.lst ((((List.range (2 * es.length)).map fun i => cnt (gl m k) (ul m k) i (0, 0)).map fun x : Nat => ((x : Nat) : Int)).map V.int)) := fun h => by
          rw [← range_vi]
          exact h
        have hfl9 := hcast (s9 _ _ hfl)
        by_cases hpos : 0 < sumTo (fun l => cnt (gl m k) (ul m k) (es.length + l) (0, 0)) es.length
        · rw [decide_eq_true (show (0 : Int) < ((sumTo (fun l => cnt (gl m k) (ul m k) (es.length + l) (0, 0)) es.length : Nat) : Int) by omega)]
          exact iteT (kk1 _ (sH8.trans s9) (hres.1 hpos))
        · rw [decide_eq_false (show ¬ (0 : Int) < ((sumTo (fun l => cnt (gl m k) (ul m k) (es.length + l) (0, 0)) es.length : Nat) : Int) by omega)]
          refine iteF ?_
          refine ⟨_, rfl, fl, _, rfl, SqL.of hfl9, ?_⟩
          rw [sum_cast, sumTo_eq]
          refine ⟨_, rfl, by show 1 ≤ sizeLine; decide, fun E1 nE1 => ?_⟩
          have sE : ∀ {o}, Same (upd H8 l1 (.lst (cutV ((List.range (2 * es.length)).map fun i => vi (cnt (gl m k) (ul m k) i (0, 0))) (some ((es.length : Nat) : Int)) none))) (upd (upd H8 l1 (.lst (cutV ((List.range (2 * es.length)).map fun i => vi (cnt (gl m k) (ul m k) i (0, 0))) (some ((es.length : Nat) : Int)) none))) E1 o) := same_new nE1
          refine ⟨_, rfl, ((es.length : Nat) : Int), rfl, by omega, by omega, fun D4 nD4 => ?_⟩
          rw [Int.toNat_natCast]
          refine lc_range (lo := 0) (n := es.length) (fun j H9 => ∃ ns : List Int, ns.length ≤ j ∧ H9 D4 = some (.lst (ns.map V.int)) ∧ Same (upd (upd H8 l1 (.lst (cutV ((List.range (2 * es.length)).map fun i => vi (cnt (gl m k) (ul m k) i (0, 0))) (some ((es.length : Nat) : Int)) none))) E1 (.lst [.int (-1)])) H9) ⟨[], Nat.le_refl _, upd_same, same_new nD4⟩ ?_ ?_
          · rintro j H9 hj ⟨ns, hnl, hD4, s10⟩
            rw [show ((0 : Int) + (j : Int)) = (j : Int) by omega]
            refine ⟨rfl, ?_⟩
            have hgj : (((List.range (2 * es.length)).map fun i => cnt (gl m k) (ul m k) i (0, 0)).map fun x : Nat => ((x : Nat) : Int)).map V.int = (List.range (2 * es.length)).map fun i => vi (cnt (gl m k) (ul m k) i (0, 0)) := (range_vi _ _).symm
            refine ⟨_, rfl, _, rfl, _, _, _, _, rfl, rfl, SqL.of (s10 _ _ (sE _ _ hfl9)), atI_nat (j := j) (v := vi (cnt (gl m k) (ul m k) j (0, 0))) ?_, _, _, rfl, rfl, _, rfl, ?_⟩
            · rw [hgj, List.getElem?_map, List.getElem?_range (by omega)]
              rfl
            · by_cases hc : (0 : Int) < ((cnt (gl m k) (ul m k) j (0, 0) : Nat) : Int)
              · rw [decide_eq_true hc]
                exact iteT ⟨_, rfl, _, hD4, small1000 (by rw [List.length_map]; omega), ns ++ [(j : Int)], by rw [List.length_append]; simp; omega, by rw [upd_same, List.map_append]; rfl, same_upd s10 nD4⟩
              · rw [decide_eq_false hc]
                exact iteF ⟨ns, by omega, hD4, s10⟩
          · rintro H9 ⟨ns, hnl, hD4, s10⟩
            have hE9 := s10 _ _ (upd_same (H := (upd H8 l1 (.lst (cutV ((List.range (2 * es.length)).map fun i => vi (cnt (gl m k) (ul m k) i (0, 0))) (some ((es.length : Nat) : Int)) none)))) (a := E1) (o := .lst [.int (-1)]))
            refine ⟨E1, D4, _, _, rfl, rfl, hE9, hD4, Nat.le_of_lt (small1000 (by rw [List.length_map, List.length_singleton]; omega)), fun E2 nE2 => ?_⟩
            refine ⟨E2, (-1 : Int) :: ns, rfl, SqL.of (by rw [upd_same]; rfl), by simp, fun far _ _ => ?_⟩
            refine ⟨two_line, fun T2 nT2 => ?_⟩
            exact kk2 _ T2 _ far ((((sH8.trans s9).trans sE).trans s10).trans ((same_new nE2).trans (same_new nT2))) (hres.2 (by omega)) upd_same
end
end Bf
set_option Elab.async false
set_option linter.all false
set_option maxRecDepth 100000
set_option maxHeartbeats 4000000
/-! BfL7: len of an own object; the law's look at a bench. -/
namespace Bf
open PySem PySem.Spec PyProof.Rows L2
/-- len(o), o of a class with an own __len__ -/
def rLenOwn (C : Addr) (sp : Sp) : List V → Hp → VK → Prop := fun xs H Q => ∃ a dx fs, xs = [.ref a] ∧ H a = some (.ins C dx fs) ∧ sp [.ref a] H (fun v H' => ∃ n : Int, v = .int n ∧ 0 ≤ n ∧ n < 2 ^ 63 ∧ Q (.int n) H') E0
theorem call_lenOwn {X : Cx} {k : Nat} {f C : Addr} {fd : FuncData} {ps : List Str} {sp : Sp} (hs : PySem.W.findIn X.K (.ref C) "__len__" = some (some (.ref f))) (hf : PySem.W.isFn X.K (.ref f) = true) (F : FnOk X.prog X.w X.K X.mg X.base CX0 k f fd ps sp)
    (hr : Room (k + 1) X.A) (hb : Binds X.K fd ps []) : CallR X (.builtin "len") (rLenOwn C sp) := by
  intro pins s σ H xs us Q I r h
  obtain ⟨a, dx, fs, rfl, ea, h⟩ := h
  obtain ⟨u, rfl, ru⟩ := vals1 r
  obtain rfl : u = Value.ref a := ru
  obtain ⟨mA, O, _⟩ := ins_get I.hok ea
  obtain ⟨od, J, _⟩ := O.look
  obtain ⟨m, hF⟩ := I.fr
  refine PySem.W.len_K hF I.ok.mod.kin J hs hf ?_
  have hl := F.len _ _ _ _ h
  refine wpAny_call (codeAny_mono (F.run X.A.in1 X.stack s H ⟨[.ref a], []⟩ [.ref a] [.ref a] _ E0 hr.in1 I.env0.in1 (by
    have := hb s [.ref a] I.kIn (by simpa using hl)
    simpa using this) (.cons rfl .nil) h) fun r s' hq => ?_)
  cases r with
  | error e => exact False.elim hq
  | ok fl =>
    cases fl with
    | ret u =>
      obtain ⟨v, H', I3, rv, n, rfl, h0, h1, q3⟩ := I.after hq
      obtain ⟨t, rfl⟩ := rv
      exact ⟨⟨h0, h1⟩, .int n, H', I3.tok _, ⟨_, rfl⟩, q3⟩
    | next => exact False.elim hq
    | brk => exact False.elim hq
    | cont => exact False.elim hq
structure PropX (K : PySem.W.Frag) (C : Addr) (m qual : Str) (st : Stmt) where
  p : Addr
  f : Addr
  fd : FuncData
  fn : Fun K m qual st f fd
  b : Binds K fd ["self"] []
  pr : PropOf K C m p f
/-- Bench's methods, Machine's properties -/
structure Meths (K : PySem.W.Frag) (mg : Str → Option Value) (G : Prog K mg) where
  MB : MkX K G.CB "__init__" "Bench.__init__" sBInit nBInit
  steps : PropX K G.C "steps" "Machine.steps" sMSteps
  good : PropX K G.C "good" "Machine.good" sMGood
  machine : PropX K G.CB "machine" "Bench.machine" sBMachine
  lead : MethX K G.CB "lead" "Bench.lead" sBLead nLead
  turn : MethX K G.CB "turn" "Bench.turn" sBTurn nTurnP
  undo : MethX K G.CB "undo" "Bench.undo" sBUndo ["self"]
  copy : MethX K G.CB "copy" "Bench.copy" sBCopy ["self"]
  lenF : Addr
  lenD : FuncData
  lenFn : Fun K "__len__" "Bench.__len__" sBLen lenF lenD
  lenB : Binds K lenD ["self"] []
  lenM : PySem.W.findIn K (.ref G.CB) "__len__" = some (some (.ref lenF))
  lenI : PySem.W.isFn K (.ref lenF) = true
  step : DefX K mg "check_step" sCheckStep nFour
  alike : DefX K mg "_law_alike" sAlike nAlikeP
/-- the rows' list -/
def RowsL (H : Hp) (r : Addr) (ms : List Mac) : Prop := ∃ as : List Addr, H r = some (.lst (as.map V.ref)) ∧ as.length = ms.length ∧ ∀ (i : Nat) (a : Addr) (m : Mac), as[i]? = some a → ms[i]? = some m → PartsAt H a m
theorem RowsL.same {H H' : Hp} {r : Addr} {ms : List Mac} (h : RowsL H r ms) (s : Same H H') : RowsL H' r ms := let ⟨as, h1, h2, h3⟩ := h; ⟨as, s _ _ h1, h2, fun i a m e1 e2 => (h3 i a m e1 e2).same s⟩
theorem rows_last {H : Hp} {as : List Addr} {ms : List Mac} {m : Mac} (h2 : as.length = ms.length) (h3 : ∀ (i : Nat) (a : Addr) (m : Mac), as[i]? = some a → ms[i]? = some m → PartsAt H a m) (hm : ms[ms.length - 1]? = some m) :
    ∃ a, (as.map V.ref)[ms.length - 1]? = some (.ref a) ∧ PartsAt H a m := by
  have hl : ms.length - 1 < ms.length := (List.getElem?_eq_some_iff.mp hm).1
  obtain ⟨q, hq⟩ : ∃ q, as[ms.length - 1]? = some q := ⟨_, List.getElem?_eq_getElem (by omega)⟩
  exact ⟨q, ref_get hq, h3 _ _ _ hq hm⟩
theorem alk_row {H : Hp} {a b : Addr} {r : List Nat} {n : Nat} (ha : H a = some (.tup (r.map vi))) (hb : H b = some (.tup (r.map vi))) (hl : r.length ≤ 1000) : Alk H (n + 1) (.ref a) (.ref b) :=
  .tup ha hb rfl (by rw [List.length_map]; exact hl) fun i x y e1 e2 => by
    rw [e1] at e2
    cases e2
    obtain ⟨k, _, rfl⟩ := map_get e1
    exact .same rfl
theorem alk_steps {H : Hp} {a b : Addr} {ss : List (List Nat)} {L : Nat} (ok : OkSteps ss L) (ha : StepsAt H a ss) (hb : StepsAt H b ss) : Alk H 2 (.ref a) (.ref b) := by
  obtain ⟨as, e1, h1, h2⟩ := ha
  obtain ⟨bs, e2, h3, h4⟩ := hb
  have n8 := ok.n8
  refine .tup e1 e2 (by rw [List.length_map, List.length_map, h1, h3]) (by rw [List.length_map]; omega) fun i x y q1 q2 => ?_
  obtain ⟨x, hx, rfl⟩ := map_get q1
  obtain ⟨y, hy, rfl⟩ := map_get q2
  have hi : i < ss.length := by rw [← h1]; exact (List.getElem?_eq_some_iff.mp hx).1
  have hs : ss[i]? = some ss[i] := List.getElem?_eq_getElem hi
  have l3 := ok.l3
  exact alk_row (h2 i x _ hx hs) (h4 i y _ hy hs) (by rw [(ok.row _ (List.getElem_mem hi)).1]; omega)
abbrev sStandsSo : Stmt := top 40
abbrev nStandsSoP : List Str := ["_law_bench", "_law_rows"]
abbrev nStandsSo : List Str := ["_law_bench", "_law_rows", "_law_now"]
theorem scStandsSo : FnScope nStandsSo nStandsSoP (defScope sStandsSo) := ⟨rfl, rfl, rfl, by decide +kernel, rfl, by decide +kernel, by decide +kernel⟩
section
variable {P : Program} {w : World} {K : PySem.W.Frag} {mg : Str → Option Value} {base : Heap}
/-- machines that go on from m0 -/
structure MsOk (L : Nat) (m0 : Mac) (ms : List Mac) : Prop where
  hd : ms[0]? = some m0
  ok : ∀ x ∈ ms, Mac.Ok x L
  len : ms.length ≤ 50
theorem MsOk.pos {L : Nat} {m0 : Mac} {ms : List Mac} (h : MsOk L m0 ms) : 0 < ms.length := (List.getElem?_eq_some_iff.mp h.hd).1
theorem MsOk.last {L : Nat} {m0 : Mac} {ms : List Mac} (h : MsOk L m0 ms) : ∃ m, ms[ms.length - 1]? = some m ∧ m.Ok L := by
  have := h.pos
  have hm : ms[ms.length - 1]? = some (ms[ms.length - 1]'(by omega)) := List.getElem?_eq_getElem (by omega)
  exact ⟨_, hm, h.ok _ (List.mem_of_getElem? hm)⟩
def spStandsSo (CB C : Addr) : Sp := fun vs H Q _ => ∃ p r ms L m0, vs = [.ref p, .ref r] ∧ BenchAt CB C H p ms ∧ RowsL H r ms ∧ MsOk L m0 ms ∧ ∀ H', Same H H' → Q (.bl true) H'
theorem ok_standsSo {f : Addr} {fd : FuncData} (F : DefAt K mg "_law_stands_so" sStandsSo nStandsSoP f fd) (G : Prog K mg) (M : Meths K mg G) : FnOk P w K mg base CX0 5 f fd nStandsSoP (spStandsSo G.CB G.C) := by
  refine F.fn.ok scStandsSo (fun vs H Q E h => ?_) (fun cdv A outer s H vs Q E hr h => ?_)
  · obtain ⟨p, r, ms, L, m0, rfl, _⟩ := h
    rfl
  · obtain ⟨p, r, ms, L, m0, rfl, hB, ⟨as, hr1, h2, h3⟩, mo, kk⟩ := h
    obtain ⟨m, hm, ok⟩ := mo.last
    have hpos := mo.pos
    have h50 := mo.len
    have GA : FnOk P w K mg base CX0 4 M.alike.f M.alike.fd nAlikeP (spAlike 3) := ok_alike M.alike.at_ G.B 3
    have GS : FnOk P w K mg base CX0 1 M.steps.f M.steps.fd ["self"] (spMSteps G.C) := ok_mSteps M.steps.fn G.T
    have GG : FnOk P w K mg base CX0 1 M.good.f M.good.fd ["self"] (spMGood G.C) := ok_mGood M.good.fn G.T
    have GM : FnOk P w K mg base CX0 1 M.machine.f M.machine.fd ["self"] (spBMachine G.CB G.C) := ok_bMachine M.machine.fn G
    have GL : FnOk P w K mg base CX0 1 M.lenF M.lenD ["self"] (spBLen G.CB G.C) := ok_bLen M.lenFn G
    have hr2 := hr.mono (show 2 ≤ 4 by decide)
    refine ⟨_, pss_cons (ps_set (i := 2) scStandsSo.nd rfl (.inl rfl) (pe_ix ix_list (pv 1) (pe_op op_sub (pe_callB c_len (by rfl) G.B.len b_len (pa_cons (pv 1) pa_nil)) pe_int) (fun _ _ => rfl)))
      (pss_one (ps_ret (pe_call GA hr (by rfl) M.alike.at_.mg M.alike.at_.fn.kp M.alike.at_.b .nil pass0
        (pa_cons (pe_lst (pa_cons (pe_prop (pe_prop (pv 0) G.cB M.machine.pr GM hr2 M.machine.b .nil pass0 rfl) G.T.cl M.steps.pr GS hr2 M.steps.b .nil pass0 rfl)
            (pa_cons (pe_prop (pe_prop (pv 0) G.cB M.machine.pr GM hr2 M.machine.b .nil pass0 rfl) G.T.cl M.good.pr GG hr2 M.good.b .nil pass0 rfl)
              (pa_cons (pe_callB (call_lenOwn M.lenM M.lenI GL hr2 M.lenB) (by rfl) G.B.len b_len (pa_cons (pv 0) pa_nil)) pa_nil))))
          (pa_cons (pe_lst (pa_cons (pe_ix ix_tup (pv 2) pe_int (fun _ _ => rfl)) (pa_cons (pe_ix ix_tup (pv 2) pe_int (fun _ _ => rfl)) (pa_cons (pe_op op_sub (pe_callB c_len (by rfl) G.B.len b_len (pa_cons (pv 1) pa_nil)) pe_int) pa_nil)))) pa_nil))))), ?_⟩
    obtain ⟨a, ha, haP⟩ := rows_last h2 h3 hm
    have hlm : (as.map V.ref).length = ms.length := by rw [List.length_map, h2]
    refine ⟨_, rfl, _, rfl, _, _, rfl, .inl (SqL.of hr1), _, _, rfl, rfl, ?_⟩
    rw [hlm]
    show rIxL K (.ref r) (V.int (((ms.length : Nat) : Int) - ((1 : Nat) : Int))) _ _
    rw [sub_vi (by omega)]
    refine ⟨_, _, _, _, rfl, rfl, SqL.of hr1, atI_nat ha, ?_⟩
    obtain ⟨dx, fs, hp⟩ := hB.ins
    obtain ⟨st, g, hpp, hst, hg⟩ := id haP
    refine ⟨_, rfl, p, dx, fs, rfl, hp, p, ms, m, rfl, hB, hm, fun q hq => ?_⟩
    obtain ⟨dm, pp, hqH, hqP⟩ := id hq
    refine ⟨q, dm, _, rfl, hqH, q, m, rfl, hq, fun sa hsa => ?_⟩
    refine ⟨_, rfl, p, dx, fs, rfl, hp, p, ms, m, rfl, hB, hm, fun q2 hq2 => ?_⟩
    obtain ⟨dm2, pp2, hqH2, hqP2⟩ := id hq2
    refine ⟨q2, dm2, _, rfl, hqH2, q2, m, rfl, hq2, fun ga hga => ?_⟩
    refine ⟨_, rfl, p, dx, fs, rfl, hp, p, ms, rfl, hB, hpos, fun H1 s1 => ⟨((ms.length - 1 : Nat) : Int), rfl, by omega, by omega, ?_⟩⟩
    refine ⟨by show 3 ≤ sizeLine; decide, fun l1 nl1 => ?_⟩
    have s2 := s1.trans (same_new nl1 (o := .lst [.ref sa, .ref ga, vi (ms.length - 1)]))
    refine ⟨_, rfl, _, _, _, _, rfl, rfl, SqT.of (s2 _ _ hpp), atI_nat (j := 0) rfl, _, rfl, _, _, _, _, rfl, rfl, SqT.of (s2 _ _ hpp), atI_nat (j := 1) rfl, _, rfl, _, _, rfl, .inl (SqL.of (s2 _ _ hr1)), _, _, rfl, rfl, ?_⟩
    rw [hlm]
    refine ⟨by show 3 ≤ sizeLine; decide, fun l2 nl2 => ?_⟩
    have s3 := s2.trans (same_new nl2 (o := .lst [.ref st, .ref g, V.int (((ms.length : Nat) : Int) - 1)]))
    have e1 : V.int (((ms.length : Nat) : Int) - 1) = vi (ms.length - 1) := sub_vi (b := 1) (by omega)
    have n12 : l1 ≠ l2 := fun z => by rw [← z, upd_same] at nl2; cases nl2
    refine ⟨.ref l1, .ref l2, rfl, .lst (xs := [.ref sa, .ref ga, vi (ms.length - 1)]) (ys := [.ref st, .ref g, V.int (((ms.length : Nat) : Int) - 1)]) (by rw [upd_ne n12]; exact upd_same) upd_same rfl (by show 3 ≤ 1000; decide) ?_, fun H4 s4 => kk H4 (s3.trans s4)⟩
    intro i x y hx hy
    rw [e1] at hy
    rcases i with _ | _ | _ | i
    · cases hx
      cases hy
      exact alk_steps ok.steps (hsa.same (s1.trans (same_new nl1)) |>.same (same_new nl2)) (hst.same s3)
    · cases hx
      cases hy
      exact alk_row (s3 _ _ hga) (s3 _ _ hg) (by have := gd_len ok; omega)
    · cases hx
      cases hy
      exact .same rfl
    · cases hx
end
end Bf
set_option Elab.async false
set_option linter.all false
set_option maxRecDepth 100000
set_option maxHeartbeats 4000000
/-! BfL8: a deed: drawn, done, told. -/
namespace Bf
open PySem PySem.Spec PyProof.Rows L2
/-- a deed, what is due, the machine behind it -/
inductive Deed (m : Mac) (L : Nat) : List V → V → Option Mac → Prop where
  | lead {s l g : Nat} : s < m.st.length → l < L → g < m.st.length → Deed m L [vi s, vi l, vi g] .non (some (stepM m s l g))
  | turn {s : Nat} : s < m.st.length → Deed m L [vi s] .non (some (turnM m s))
  | badT {b : V} : Flat b = true → isI b 0 ((m.st.length : Int) - 1) = false → Deed m L [b] (.str "stand") none
  | bad3 {b x y : V} : Flat b = true → Flat x = true → Flat y = true → isI b 0 ((m.st.length : Int) - 1) = false → Deed m L [b, x, y] (.str "stand") none
  | step {s : Nat} {x y : V} : s < m.st.length → Flat x = true → Flat y = true → isI x 0 ((L : Int) - 1) = false → Deed m L [vi s, x, y] (.str "step") none
  | goal {s l : Nat} {y : V} : s < m.st.length → l < L → Flat y = true → isI y 0 ((m.st.length : Int) - 1) = false → Deed m L [vi s, vi l, y] (.str "stand") none
/-- the law's errors -/
structure Errs (K : PySem.W.Frag) (mg : Str → Option Value) (G : Prog K mg) where
  CM : Addr
  mM : mg "MachineError" = some (.ref CM)
  exSS : PySem.W.exmOne K (.ref G.CS) (.ref G.CS) = some true
  exPS : PySem.W.exmOne K (.ref G.CP) (.ref G.CS) = some false
  exPP : PySem.W.exmOne K (.ref G.CP) (.ref G.CP) = some true
  kS : PySem.W.kitOne K (.ref G.CS) (.ref CM) = some true
  kP : PySem.W.kitOne K (.ref G.CP) (.ref CM) = some true
  cS : ExcC K G.CS
  cP : ExcC K G.CP
theorem ite_ndec {p : Prop} [Decidable p] {A B : Prop} (h : ¬ p) (k : B) : if decide p = true then A else B := by rw [decide_eq_false h]; exact iteF k
theorem lk_turn (v : V) : ([(("past" : Str), v)] : List (Str × V)).lookup ("turn" : Str) = none := by
  rw [List.lookup_cons, show (("turn" : Str) == ("past" : Str)) = false from by decide +kernel]
  rfl
theorem lk_lead (v : V) : ([(("past" : Str), v)] : List (Str × V)).lookup ("lead" : Str) = none := by
  rw [List.lookup_cons, show (("lead" : Str) == ("past" : Str)) = false from by decide +kernel]
  rfl
theorem lk_undo (v : V) : ([(("past" : Str), v)] : List (Str × V)).lookup ("undo" : Str) = none := by
  rw [List.lookup_cons, show (("undo" : Str) == ("past" : Str)) = false from by decide +kernel]
  rfl
theorem lk_copy (v : V) : ([(("past" : Str), v)] : List (Str × V)).lookup ("copy" : Str) = none := by
  rw [List.lookup_cons, show (("copy" : Str) == ("past" : Str)) = false from by decide +kernel]
  rfl
theorem vi_flat (n : Nat) : Flat (vi n) = true := rfl
abbrev sDone : Stmt := top 38
abbrev nDoneP : List Str := ["_law_bench", "_law_some"]
abbrev nDone : List Str := ["_law_bench", "_law_some", "_law_found", "error"]
theorem scDone : FnScope nDone nDoneP (defScope sDone) := ⟨rfl, rfl, rfl, by decide +kernel, rfl, by decide +kernel, by decide +kernel⟩
section
variable {P : Program} {w : World} {K : PySem.W.Frag} {mg : Str → Option Value} {base : Heap}
def spDone (CB C : Addr) : Sp := fun vs H Q _ => ∃ p z ms L m0 m xs due nm, vs = [.ref p, .ref z] ∧ BenchAt CB C H p ms ∧ MsOk L m0 ms ∧ ms[ms.length - 1]? = some m ∧ H z = some (.tup xs) ∧ Deed m L xs due nm ∧
  (∀ m', nm = some m' → ∀ H' r, But p H H' → BenchAt CB C H' p (ms ++ [m']) → ResM m0 m' r → Q (optV r) H') ∧ (nm = none → Q due H)
theorem ok_done {f : Addr} {fd : FuncData} (F : DefAt K mg "_law_done" sDone nDoneP f fd) (G : Prog K mg) (M : Meths K mg G) (X : Errs K mg G) : FnOk P w K mg base CX0 7 f fd nDoneP (spDone G.CB G.C) := by
  refine F.fn.ok scDone (fun vs H Q E h => ?_) (fun cdv A outer s H vs Q E hr h => ?_)
  · obtain ⟨p, z, ms, L, m0, m, xs, due, nm, rfl, _⟩ := h
    rfl
  · obtain ⟨p, z, ms, L, m0, m, xs, due, nm, rfl, hB, mo, hm, hz, hD, k1, k2⟩ := h
    have GL : FnOk P w K mg base (L2.CX P w) 6 M.lead.f M.lead.fd nLead (spLead G.CB G.C G.CS G.CP) := ok_bLead M.lead.fn G M.step
    have GT : FnOk P w K mg base (L2.CX P w) 6 M.turn.f M.turn.fd nTurnP (spTurn G.CB G.C G.CS) := ok_bTurn M.turn.fn G
    have h50 := mo.len
    refine ⟨_, pss_cons (ps_set (i := 2) scDone.nd rfl (.inl rfl) pe_non)
      (pss_cons (ps_try_manyAs rfl rfl scDone.nd takes0
        (fun W pn xe tk _ => pss_one (ps_set (i := 2) scDone.nd rfl (.inl rfl) (pe_ifExp (pt_cmpR op_eq (pe_callB c_len (by rfl) G.B.len b_len (pa_cons (pv 1) pa_nil)) pe_int (nomark _))
          (pe_methZ (pv 0) G.cB M.turn.mt GT hr M.turn.b (passAt tk) (pa_cons (pe_ix i_tup (pv 1) pe_int (fun _ _ => rfl)) pa_nil))
          (pe_methZ (pv 0) G.cB M.lead.mt GL hr M.lead.b (passAt tk) (pa_cons (pe_ix i_tup (pv 1) pe_int (fun _ _ => rfl)) (pa_cons (pe_ix i_tup (pv 1) pe_int (fun _ _ => rfl)) (pa_cons (pe_ix i_tup (pv 1) pe_int (fun _ _ => rfl)) pa_nil)))))))
        (.cons (i := 3) (c := .ref G.CS) rfl rfl ⟨by rfl, by decide, .inl G.xS.mg⟩ (fun a oe cls d pn hz hf => pss_one (ps_set (i := 2) scDone.nd rfl (.inl rfl) (pe_ifExp (pt_val (pe_callB (call_isE2 hz hf) (by rfl) G.B.isinstance b_isinstance (pa_cons (pv 3) (pa_cons (pe_glob (v := .ref X.CM) (by rfl) X.mM rfl) pa_nil)))) pe_str pe_str)))
        (.cons (i := 3) (c := .ref G.CP) rfl rfl ⟨by rfl, by decide, .inl G.xP.mg⟩ (fun a oe cls d pn hz hf => pss_one (ps_set (i := 2) scDone.nd rfl (.inl rfl) (pe_ifExp (pt_val (pe_callB (call_isE2 hz hf) (by rfl) G.B.isinstance b_isinstance (pa_cons (pv 3) (pa_cons (pe_glob (v := .ref X.CM) (by rfl) X.mM rfl) pa_nil)))) pe_str pe_str))) .nil)))
      (pss_one (ps_ret (pv 2)))), ?_⟩
    obtain ⟨dx, t, qs, hp, ht, h3, h4⟩ := id hB
    cases hD with
    | turn hs =>
      refine ⟨_, rfl, _, _, rfl, .inr (SqT.of hz), rfl, _, rfl, ite_dec rfl ?_⟩
      refine ⟨_, rfl, p, dx, _, rfl, hp, lk_turn _, _, rfl, _, _, _, _, rfl, rfl, SqT.of hz, atI_nat (j := 0) rfl, p, _, ms, L, m, m0, rfl, hB, mo.ok, hm, mo.hd, by omega, rfl, fun e => ?_, fun s' e hs' H' r hbut hb hR => ?_⟩
      · rw [isI_lt hs] at e; cases e
      · have e' := e
        injection e' with e'
        have e2 : s' = _ := (Int.ofNat.inj e').symm
        subst e2
        exact ⟨_, rfl, k1 _ rfl H' r hbut hb hR⟩
    | badT fb hb =>
      refine ⟨_, rfl, _, _, rfl, .inr (SqT.of hz), rfl, _, rfl, ite_dec rfl ?_⟩
      refine ⟨_, rfl, p, dx, _, rfl, hp, lk_turn _, _, rfl, _, _, _, _, rfl, rfl, SqT.of hz, atI_nat (j := 0) rfl, p, _, ms, L, m, m0, rfl, hB, mo.ok, hm, mo.hd, by omega, fb, fun e => ?_, fun s' e hs' => ?_⟩
      · exact ⟨true, X.exSS, fun _ a na => ⟨_, rfl, G.CS, .ref X.CM, .ref X.CM, true, rfl, rfl, X.cS, rfl, fun u h => h, X.kS, _, rfl, iteT ⟨_, rfl, k2 rfl⟩⟩, fun z => nomatch z⟩
      · rw [e, isI_lt hs'] at hb; cases hb
    | @lead s l g hs hl hg =>
      refine ⟨_, rfl, _, _, rfl, .inr (SqT.of hz), rfl, _, rfl, ite_ndec (by show ¬ V.int 3 = V.int 1; decide) ?_⟩
      refine ⟨_, rfl, p, dx, _, rfl, hp, lk_lead _, _, rfl, _, _, _, _, rfl, rfl, SqT.of hz, atI_nat (j := 0) rfl, _, rfl, _, _, _, _, rfl, rfl, SqT.of hz, atI_nat (j := 1) rfl, _, rfl, _, _, _, _, rfl, rfl, SqT.of hz, atI_nat (j := 2) rfl, p, vi s, vi l, vi g, ms, L, m, m0, rfl, hB, mo.ok, hm, mo.hd, by omega, rfl, rfl, rfl, fun e => ?_, fun _ e => ?_, fun _ _ e => ?_, fun s' l' g' e1 e2 e3 hs' hl' hg' H' r hbut hb hR => ?_⟩
      · rw [isI_lt hs] at e; cases e
      · rw [isI_lt hl] at e; cases e
      · rw [isI_lt hg] at e; cases e
      · injection e1 with e1
        injection e2 with e2
        injection e3 with e3
        obtain rfl : s = s' := by omega
        obtain rfl : l = l' := by omega
        obtain rfl : g = g' := by omega
        exact ⟨_, rfl, k1 _ rfl H' r hbut hb hR⟩
    | @bad3 b x y fb fx fy hb =>
      refine ⟨_, rfl, _, _, rfl, .inr (SqT.of hz), rfl, _, rfl, ite_ndec (by show ¬ V.int 3 = V.int 1; decide) ?_⟩
      refine ⟨_, rfl, p, dx, _, rfl, hp, lk_lead _, _, rfl, _, _, _, _, rfl, rfl, SqT.of hz, atI_nat (j := 0) rfl, _, rfl, _, _, _, _, rfl, rfl, SqT.of hz, atI_nat (j := 1) rfl, _, rfl, _, _, _, _, rfl, rfl, SqT.of hz, atI_nat (j := 2) rfl, p, b, x, y, ms, L, m, m0, rfl, hB, mo.ok, hm, mo.hd, by omega, fb, fx, fy, fun e => ?_, fun e _ => ?_, fun e _ _ => ?_, fun s' l' g' e1 e2 e3 hs' hl' hg' H' r hbut hb2 hR => ?_⟩
      · exact ⟨true, X.exSS, fun _ a na => ⟨_, rfl, G.CS, .ref X.CM, .ref X.CM, true, rfl, rfl, X.cS, rfl, fun u h => h, X.kS, _, rfl, iteT ⟨_, rfl, k2 rfl⟩⟩, fun z => nomatch z⟩
      · rw [hb] at e; cases e
      · rw [hb] at e; cases e
      · rw [e1, isI_lt hs'] at hb; cases hb
    | @step s x y hs fx fy hx =>
      refine ⟨_, rfl, _, _, rfl, .inr (SqT.of hz), rfl, _, rfl, ite_ndec (by show ¬ V.int 3 = V.int 1; decide) ?_⟩
      refine ⟨_, rfl, p, dx, _, rfl, hp, lk_lead _, _, rfl, _, _, _, _, rfl, rfl, SqT.of hz, atI_nat (j := 0) rfl, _, rfl, _, _, _, _, rfl, rfl, SqT.of hz, atI_nat (j := 1) rfl, _, rfl, _, _, _, _, rfl, rfl, SqT.of hz, atI_nat (j := 2) rfl, p, vi s, x, y, ms, L, m, m0, rfl, hB, mo.ok, hm, mo.hd, by omega, rfl, fx, fy, fun e => ?_, fun _ e => ?_, fun _ e _ => ?_, fun s' l' g' e1 e2 e3 hs' hl' hg' H' r hbut hb2 hR => ?_⟩
      · rw [isI_lt hs] at e; cases e
      · exact ⟨false, X.exPS, fun z => (nomatch z), fun _ => ⟨true, X.exPP, fun _ a na => ⟨_, rfl, G.CP, .ref X.CM, .ref X.CM, true, rfl, rfl, X.cP, rfl, fun u h => h, X.kP, _, rfl, iteT ⟨_, rfl, k2 rfl⟩⟩, fun z => nomatch z⟩⟩
      · rw [hx] at e; cases e
      · rw [e2, isI_lt hl'] at hx; cases hx
    | @goal s l y hs hl fy hy =>
      refine ⟨_, rfl, _, _, rfl, .inr (SqT.of hz), rfl, _, rfl, ite_ndec (by show ¬ V.int 3 = V.int 1; decide) ?_⟩
      refine ⟨_, rfl, p, dx, _, rfl, hp, lk_lead _, _, rfl, _, _, _, _, rfl, rfl, SqT.of hz, atI_nat (j := 0) rfl, _, rfl, _, _, _, _, rfl, rfl, SqT.of hz, atI_nat (j := 1) rfl, _, rfl, _, _, _, _, rfl, rfl, SqT.of hz, atI_nat (j := 2) rfl, p, vi s, vi l, y, ms, L, m, m0, rfl, hB, mo.ok, hm, mo.hd, by omega, rfl, rfl, fy, fun e => ?_, fun _ e => ?_, fun _ _ e => ?_, fun s' l' g' e1 e2 e3 hs' hl' hg' H' r hbut hb2 hR => ?_⟩
      · rw [isI_lt hs] at e; cases e
      · rw [isI_lt hl] at e; cases e
      · exact ⟨true, X.exSS, fun _ a na => ⟨_, rfl, G.CS, .ref X.CM, .ref X.CM, true, rfl, rfl, X.cS, rfl, fun u h => h, X.kS, _, rfl, iteT ⟨_, rfl, k2 rfl⟩⟩, fun z => nomatch z⟩
      · rw [e3, isI_lt hg'] at hy; cases hy
end
end Bf
set_option Elab.async false
set_option linter.all false
set_option maxRecDepth 100000
set_option maxHeartbeats 4000000
/-! BfL9: a deed told, drawn. -/
namespace Bf
open PySem PySem.Spec PyProof.Rows L2
abbrev sLater : Stmt := top 39
abbrev nLaterP : List Str := ["_law_parts_here", "_law_some"]
abbrev nLater : List Str := ["_law_parts_here", "_law_some", "_law_steps", "_law_good", "_law_row", "_law_one"]
theorem scLater : FnScope nLater nLaterP (defScope sLater) := ⟨rfl, rfl, rfl, by decide +kernel, rfl, by decide +kernel, by decide +kernel⟩
abbrev sDrawn : Stmt := top 41
abbrev nDrawnP : List Str := ["_law_h", "_law_parts_here"]
abbrev nDrawn : List Str := ["_law_h", "_law_parts_here", "_law_many", "_law_letters", "_law_stand", "_law_letter", "_law_goal", "_law_bad", "_law_odd", "_law_sorts"]
theorem scDrawn : FnScope nDrawn nDrawnP (defScope sDrawn) := ⟨rfl, rfl, rfl, by decide +kernel, rfl, by decide +kernel, by decide +kernel⟩
theorem Deed.okM {m m' : Mac} {L : Nat} {xs : List V} {due : V} (d : Deed m L xs due (some m')) (ok : m.Ok L) : m'.Ok L := by
  cases d with
  | lead hs hl hg => exact stepM_ok ok hs hg
  | turn hs => exact turnM_ok ok
section
variable {P : Program} {w : World} {K : PySem.W.Frag} {mg : Str → Option Value} {base : Heap}
def spLater : Sp := fun vs H Q _ => ∃ a z m L xs due m', vs = [.ref a, .ref z] ∧ PartsAt H a m ∧ m.Ok L ∧ H z = some (.tup xs) ∧ Deed m L xs due (some m') ∧ ∀ H' a', Same H H' → PartsAt H' a' m' → Q (.ref a') H'
theorem eq_vi (a b : Nat) : decide (V.int (a : Int) = V.int (b : Int)) = decide (a = b) := by
  have := ne_vi a b
  have h2 : ∀ x y : Bool, (!x) = !y → x = y := by decide
  exact h2 _ _ this
theorem ok_later {f : Addr} {fd : FuncData} (F : DefAt K mg "_law_later" sLater nLaterP f fd) (B : Bl mg) : FnOk P w K mg base CX0 1 f fd nLaterP spLater := by
  refine F.fn.ok scLater (fun vs H Q E h => ?_) (fun cdv A outer s H vs Q E hr h => ?_)
  · obtain ⟨a, z, m, L, xs, due, m', rfl, _⟩ := h
    rfl
  · obtain ⟨a, z, m, L, xs, due, m', rfl, ⟨st, gd, hpp, ⟨as, has, hrow⟩, hg⟩, ok, hz, hD, kk⟩ := h
    refine ⟨_, pss_cons (ps_asg (pv 0) (pg_tup rfl (pgs_cons (pg_name (i := 2) scLater.nd rfl (.inl rfl)) (pgs_cons (pg_name (i := 3) scLater.nd rfl (.inr rfl)) pgs_nil))) (by rfl) (by rfl))
      (pss_cons (ps_if (pt_cmpR op_eq (pe_callB c_len (by rfl) B.len b_len (pa_cons (pv 1) pa_nil)) pe_int (nomark _))
        (pss_one (ps_ret (pe_tup (pa_cons (pv 2) (pa_cons (pe_tupleOf (by rfl) B.tuple
          (pe_lc (own := [("_law_one", 5)]) (g := gName 5) rfl scLater.nd (pi_range1 (by rfl) B.range (pa_cons (pe_callB c_len (by rfl) B.len b_len (pa_cons (pv 2) pa_nil)) pa_nil)) (blkOk_by (N := nLater) (sc := defScope sLater) (by decide +kernel))
            (fun _ _ _ _ _ => pg_name (i := 5) scLater.nd rfl (Or.inl rfl))
            (fun _ _ _ _ _ => pts_one (pt_cmpR op_ne (pe_cmpR e_in (pv 5) (pv 3) (by with_unfolding_all rfl)) (pe_cmpR op_eq (pv 5) (pe_ix i_tup (pv 1) pe_int (fun _ _ => rfl)) (nomark _)) (nomark _)))
            (fun _ _ _ _ _ => pv 5))) pa_nil))))) pss_nil)
      (pss_cons (ps_set (i := 4) scLater.nd rfl (.inl rfl) (pe_op op_catA (pe_op op_catA (pe_slice sl_tupA (pe_ix ix_tup (pv 2) (pe_ix ix_tup (pv 1) pe_int (fun _ _ => rfl)) (fun _ _ => rfl)) po_none (po_some (pe_ix ix_tup (pv 1) pe_int (fun _ _ => rfl))))
          (pe_tup (pa_cons (pe_ix ix_tup (pv 1) pe_int (fun _ _ => rfl)) pa_nil)))
        (pe_slice sl_tupA (pe_ix ix_tup (pv 2) (pe_ix ix_tup (pv 1) pe_int (fun _ _ => rfl)) (fun _ _ => rfl)) (po_some (pe_op op_add (pe_ix ix_tup (pv 1) pe_int (fun _ _ => rfl)) pe_int)) po_none)))
      (pss_one (ps_ret (pe_tup (pa_cons (pe_op op_catA (pe_op op_catA (pe_slice sl_tupA (pv 2) po_none (po_some (pe_ix ix_tup (pv 1) pe_int (fun _ _ => rfl)))) (pe_tup (pa_cons (pv 4) pa_nil)))
        (pe_slice sl_tupA (pv 2) (po_some (pe_op op_add (pe_ix ix_tup (pv 1) pe_int (fun _ _ => rfl)) pe_int)) po_none)) (pa_cons (pv 3) pa_nil))))))), ?_⟩
    have n8 := ok.n8
    have hasl : (as.map V.ref).length = m.st.length := by rw [List.length_map]; exact hrow.1
    refine ⟨_, rfl, a, _, rfl, SqT.of hpp, rfl, _, _, rfl, _, _, rfl, rfl, ?_⟩
    cases hD with
    | @turn s' hs =>
      refine ⟨_, rfl, _, _, rfl, .inr (SqT.of hz), rfl, _, rfl, ite_dec rfl ?_⟩
      refine ⟨_, rfl, _, rfl, _, _, rfl, .inr (SqT.of has), ((m.st.length : Nat) : Int), by rw [hasl], by omega, by omega, fun D nD => ?_⟩
      rw [Int.toNat_natCast]
      refine lc_range (lo := 0) (n := m.st.length) (fun j H5 => H5 D = some (.lst (((List.range j).filter fun i => decide (i ∈ m.gd) != decide (i = s')).map vi)) ∧ Same H H5) ⟨upd_same, same_new nD⟩ ?_ ?_
      · rintro j H5 hj ⟨hD, s5⟩
        rw [show ((0 : Int) + (j : Int)) = (j : Int) by omega]
        refine ⟨rfl, ?_⟩
        refine ⟨_, rfl, _, rfl, _, _, rfl, .inr (SqT.of (s5 _ _ hg)), rfl, flat_vi _, _, rfl, _, rfl, _, _, _, _, rfl, rfl, SqT.of (s5 _ _ hz), atI_nat (j := 0) rfl, rfl, rfl, _, rfl, ?_⟩
        show if (!decide (V.bl (inV (vi j) (m.gd.map vi)) = V.bl (decide (V.int (j : Int) = V.int (s' : Int))))) = true then _ else _
        rw [inV_vi, eq_vi]
        have et : (List.range (j + 1)).filter (fun i => decide (i ∈ m.gd) != decide (i = s')) = (List.range j).filter (fun i => decide (i ∈ m.gd) != decide (i = s')) ++ [j].filter (fun i => decide (i ∈ m.gd) != decide (i = s')) := by rw [List.range_succ, List.filter_append]
        refine ne_test _ _ (fun hu => ⟨_, rfl, _, hD, small1000 ?_, ?_, same_upd s5 nD⟩) (fun hu => ⟨?_, s5⟩)
        · rw [List.length_map]
          have := List.length_filter_le (fun i => decide (i ∈ m.gd) != decide (i = s')) (List.range j)
          rw [List.length_range] at this
          omega
        · have e2 : [j].filter (fun i => decide (i ∈ m.gd) != decide (i = s')) = [j] := List.filter_cons_of_pos hu
          rw [upd_same, et, e2, List.map_append]; rfl
        · have e2 : [j].filter (fun i => decide (i ∈ m.gd) != decide (i = s')) = [] := List.filter_cons_of_neg (by rw [hu]; exact Bool.false_ne_true)
          rw [et, e2, List.append_nil]
          exact hD
      · rintro H5 ⟨hD, s5⟩
        refine .inl ⟨D, _, rfl, SqL.of hD, fun g2 ng2 => ?_⟩
        have s6 : Same H5 (upd H5 g2 (.tup (((List.range m.st.length).filter fun i => decide (i ∈ m.gd) != decide (i = s')).map vi))) := same_new ng2
        refine ⟨two_line, fun t3 nt3 => ?_⟩
        have s7 := s6.trans (same_new nt3 (o := .tup [.ref st, .ref g2]))
        exact kk _ t3 (s5.trans s7) ⟨st, g2, upd_same, ⟨as, s7 _ _ (s5 _ _ has), (hrow.same s5).same s7⟩, same_new nt3 _ _ upd_same⟩
    | @lead s' l g hs hl hgl =>
      refine ⟨_, rfl, _, _, rfl, .inr (SqT.of hz), rfl, _, rfl, ite_ndec (by show ¬ V.int 3 = V.int 1; decide) ?_⟩
      obtain ⟨b, hb, hbH⟩ := row_in hrow hs
      obtain ⟨hrl, hrx⟩ := ok.rowD hs
      have l3 := ok.l3
      have hrvl : ((m.st.getD s' []).map vi).length = L := by rw [List.length_map, hrl]
      have small : ∀ {n : Nat}, n ≤ 1000 → n ≤ sizeLine := fun h => Nat.le_of_lt (small1000 h)
      refine ⟨_, rfl, _, rfl, _, _, _, _, rfl, rfl, SqT.of hz, atI_nat (j := 0) rfl, _, _, _, _, rfl, rfl, SqT.of has, atI_nat (j := s') (ref_get hb), _, rfl, _, _, _, _, rfl, rfl, SqT.of hz, atI_nat (j := 1) rfl, _, rfl, sl_take (i := l) hbH (by omega) fun H1 r1 s1 e1 => ?_⟩
      refine ⟨_, rfl, _, _, _, _, rfl, rfl, SqT.of (s1 _ _ hz), atI_nat (j := 2) rfl, by show 1 ≤ sizeLine; decide, fun r2 nr2 => ?_⟩
      have s2 : Same H1 (upd H1 r2 (.tup [vi g])) := same_new nr2
      refine cat_any (s2 _ _ e1) upd_same (small (by rw [List.length_take]; show _ + 1 ≤ 1000; omega)) fun H3 r3 s3 e3 => ?_
      have s03 := (s1.trans s2).trans s3
      refine ⟨_, rfl, _, rfl, _, _, _, _, rfl, rfl, SqT.of (s03 _ _ hz), atI_nat (j := 0) rfl, _, _, _, _, rfl, rfl, SqT.of (s03 _ _ has), atI_nat (j := s') (ref_get hb), _, rfl, _, _, _, _, rfl, rfl, SqT.of (s03 _ _ hz), atI_nat (j := 1) rfl, _, _, rfl, rfl, _, rfl, ?_⟩
      refine sl_dropN (i := l + 1) (s03 _ _ hbH) (by omega) fun H4 r4 s4 e4 => ?_
      refine cat_any (s4 _ _ e3) e4 (small (by rw [List.length_append, List.length_take, List.length_drop]; show _ + 1 + _ ≤ 1000; omega)) fun H5 r5 s5 e5 => ?_
      have s05 := (s03.trans s4).trans s5
      have eRow : ((m.st.getD s' []).map vi).take l ++ [vi g] ++ ((m.st.getD s' []).map vi).drop (l + 1) = ((m.st.getD s' []).set l g).map vi := by
        rw [set_split (vi g) (by omega), List.map_set]
      rw [eRow] at e5
      refine ⟨_, rfl, _, rfl, _, _, _, _, rfl, rfl, SqT.of (s05 _ _ hz), atI_nat (j := 0) rfl, _, rfl, sl_take (i := s') (s05 _ _ has) (by omega) fun H6 q1 s6 e6 => ?_⟩
      refine ⟨_, rfl, by show 1 ≤ sizeLine; decide, fun q2 nq2 => ?_⟩
      have s7 : Same H6 (upd H6 q2 (.tup [.ref r5])) := same_new nq2
      refine cat_any (s7 _ _ e6) upd_same (small (by rw [List.length_take]; show _ + 1 ≤ 1000; omega)) fun H8 q3 s8 e8 => ?_
      have s08 := ((s05.trans s6).trans s7).trans s8
      refine ⟨_, rfl, _, rfl, _, _, _, _, rfl, rfl, SqT.of (s08 _ _ hz), atI_nat (j := 0) rfl, _, _, rfl, rfl, _, rfl, ?_⟩
      refine sl_dropN (i := s' + 1) (s08 _ _ has) (by omega) fun H9 q4 s9 e9 => ?_
      refine cat_any (s9 _ _ e8) e9 (small (by rw [List.length_append, List.length_take, List.length_drop]; show _ + 1 + _ ≤ 1000; omega)) fun HA q5 sA eA => ?_
      have s0A := (s08.trans s9).trans sA
      have eSteps : (as.map V.ref).take s' ++ [V.ref r5] ++ (as.map V.ref).drop (s' + 1) = (as.set s' r5).map V.ref := by
        rw [set_split (V.ref r5) (by omega), List.map_set]
      rw [eSteps] at eA
      have r5A : HA r5 = some (.tup (((m.st.getD s' []).set l g).map vi)) := sA _ _ (s9 _ _ (s8 _ _ (s7 _ _ (s6 _ _ e5))))
      have hst : StepsAt HA q5 (stepM m s' l g).st := by
        refine ⟨_, eA, ?_, fun i a r h1 h2 => ?_⟩
        · show (as.set s' r5).length = (m.st.set s' _).length
          rw [List.length_set, List.length_set]; exact hrow.1
        · by_cases hi : i = s'
          · subst hi
            rw [List.getElem?_set_self (by rw [hrow.1]; exact hs)] at h1
            have h2' : (m.st.set i ((m.st.getD i []).set l g))[i]? = some r := h2
            rw [List.getElem?_set_self hs] at h2'
            cases h1
            cases h2'
            exact r5A
          · rw [List.getElem?_set_ne (Ne.symm hi)] at h1
            have h2' : (m.st.set s' ((m.st.getD s' []).set l g))[i]? = some r := h2
            rw [List.getElem?_set_ne (Ne.symm hi)] at h2'
            exact s0A _ _ (hrow.2 i a r h1 h2')
      refine ⟨_, rfl, two_line, fun T nT => ?_⟩
      have sT := same_new nT (o := .tup [.ref q5, .ref gd])
      exact kk _ T (s0A.trans sT) ⟨q5, gd, upd_same, hst.same sT, sT _ _ (s0A _ _ hg)⟩
end
end Bf
set_option Elab.async false
set_option linter.all false
set_option maxRecDepth 100000
set_option maxHeartbeats 4000000
/-! BfLA: a deed is drawn. -/
namespace Bf
open PySem PySem.Spec PyProof.Rows L2
/-- (deed, due) at u -/
def DeedAt (m : Mac) (L : Nat) (H : Hp) (u : V) : Prop := ∃ T z xs due nm, u = .ref T ∧ H T = some (.tup [.ref z, due]) ∧ H z = some (.tup xs) ∧ Deed m L xs due nm
theorem DeedAt.same {m : Mac} {L : Nat} {H H' : Hp} {u : V} (d : DeedAt m L H u) (s : Same H H') : DeedAt m L H' u := let ⟨T, z, xs, due, nm, h1, h2, h3, h4⟩ := d; ⟨T, z, xs, due, nm, h1, s _ _ h2, s _ _ h3, h4⟩
theorem DeedAt.fr {m : Mac} {L : Nat} {H H' : Hp} {u : V} {h c : Addr} (d : DeedAt m L H u) (r : RngAt H h c) (f : Fr h c H H') : DeedAt m L H' u := let ⟨T, z, xs, due, nm, h1, h2, h3, h4⟩ := d; ⟨T, z, xs, due, nm, h1, f.tup r h2, f.tup r h3, h4⟩
theorem deed_made {m : Mac} {L : Nat} {H0 H : Hp} {z T : Addr} {xs : List V} {due : V} {nm : Option Mac} (s : Same H0 H) (nz : H z = none) (nT : (upd H z (.tup xs)) T = none) (d : Deed m L xs due nm) :
    Same H0 (upd (upd H z (.tup xs)) T (.tup [.ref z, due])) ∧ DeedAt m L (upd (upd H z (.tup xs)) T (.tup [.ref z, due])) (.ref T) := by
  have n : z ≠ T := fun e => by rw [← e, upd_same] at nT; cases nT
  exact ⟨(s.trans (same_new nz)).trans (same_new nT), T, z, xs, due, nm, rfl, upd_same, by rw [upd_ne n]; exact upd_same, d⟩
theorem bad_ok {n : Nat} {b : Bool} {x : V} (h : x ∈ [vi n, V.int (-1), V.non, V.bl b]) : Flat x = true ∧ isI x 0 ((n : Int) - 1) = false := by
  have e0 : isI (vi n) 0 ((n : Int) - 1) = false := by
    show (decide ((0 : Int) ≤ (n : Int)) && decide ((n : Int) ≤ (n : Int) - 1)) = false
    rw [decide_eq_false (show ¬ (n : Int) ≤ (n : Int) - 1 by omega), Bool.and_false]
  simp only [List.mem_cons, List.not_mem_nil, or_false] at h
  rcases h with rfl | rfl | rfl | rfl
  · exact ⟨rfl, e0⟩
  · exact ⟨rfl, rfl⟩
  · exact ⟨rfl, rfl⟩
  · exact ⟨rfl, rfl⟩
section
variable {P : Program} {w : World} {K : PySem.W.Frag} {mg : Str → Option Value} {base : Heap}
def spDrawn : Sp := fun vs H Q _ => ∃ h c a m L, vs = [.ref h, .ref a] ∧ RngAt H h c ∧ PartsAt H a m ∧ m.Ok L ∧ ∀ H' u, RngAt H' h c → Fr h c H H' → DeedAt m L H' u → Q u H'
theorem PartsAt.fr {H H' : Hp} {a h c : Addr} {m : Mac} (p : PartsAt H a m) (r : RngAt H h c) (f : Fr h c H H') : PartsAt H' a m := p.stay (CB := h) (f.stay r)
theorem ok_drawn {f f1 f2 : Addr} {fd fd1 fd2 : FuncData} (F : DefAt K mg "_law_drawn" sDrawn nDrawnP f fd) (F1 : DefAt K mg "_law_next" sNext nNextP f1 fd1) (F2 : DefAt K mg "_law_pick" sPick nPick f2 fd2) (B : Bl mg) : FnOk P w K mg base CX0 3 f fd nDrawnP spDrawn := by
  refine F.fn.ok scDrawn (fun vs H Q E h => ?_) (fun cdv A outer s H vs Q E hr h => ?_)
  · obtain ⟨h, c, a, m, L, rfl, _⟩ := h
    rfl
  · obtain ⟨h, c, a, m, L, rfl, hR, ⟨st, gd, hpp, ⟨as, has, hrow⟩, hg⟩, ok, kk⟩ := h
    have G1 : FnOk P w K mg base CX0 2 f1 fd1 nNextP spNext := (ok_next F1 B).mono (by decide)
    have G2 : FnOk P w K mg base CX0 2 f2 fd2 nPick spPick := ok_pick F2 F1 B
    refine ⟨_, pss_cons (ps_par (i := 2) (j := 3) rfl scDrawn.nd rfl rfl (by decide) rfl rfl (pa_cons (pe_callB c_len (by rfl) B.len b_len (pa_cons (pe_ix ix_tup (pv 1) pe_int (fun _ _ => rfl)) pa_nil))
        (pa_cons (pe_callB c_len (by rfl) B.len b_len (pa_cons (pe_ix ix_tup (pe_ix ix_tup (pv 1) pe_int (fun _ _ => rfl)) pe_int (fun _ _ => rfl)) pa_nil)) pa_nil)) (by rfl))
      (pss_cons (ps_par3 (i := 4) (j := 5) (l := 6) rfl scDrawn.nd rfl rfl rfl (by decide) (by decide) (by decide) rfl rfl rfl
        (pa_cons (pe_call G1 hr (by rfl) F1.mg F1.fn.kp F1.b .nil pass0 (pa_cons (pv 0) (pa_cons (pv 2) pa_nil))) (pa_cons (pe_call G1 hr (by rfl) F1.mg F1.fn.kp F1.b .nil pass0 (pa_cons (pv 0) (pa_cons (pv 3) pa_nil)))
          (pa_cons (pe_call G1 hr (by rfl) F1.mg F1.fn.kp F1.b .nil pass0 (pa_cons (pv 0) (pa_cons (pv 2) pa_nil))) pa_nil))) (by rfl))
      (pss_cons (ps_par (i := 7) (j := 8) rfl scDrawn.nd rfl rfl (by decide) rfl rfl
        (pa_cons (pe_call G2 hr (by rfl) F2.mg F2.fn.kp F2.b .nil pass0 (pa_cons (pv 0) (pa_cons (pe_lst (pa_cons (pv 2) (pa_cons (pe_un un_neg pe_int) (pa_cons pe_non (pa_cons pe_bl (pa_cons pe_str pa_nil)))))) pa_nil)))
          (pa_cons (pe_call G2 hr (by rfl) F2.mg F2.fn.kp F2.b .nil pass0 (pa_cons (pv 0) (pa_cons (pe_lst (pa_cons (pv 3) (pa_cons (pe_un un_neg pe_int) (pa_cons pe_non (pa_cons pe_bl pa_nil))))) pa_nil))) pa_nil)) (by rfl))
      (pss_cons (ps_set (i := 9) scDrawn.nd rfl (.inl rfl) (pe_op op_cat (pe_op op_rep (pe_lst (pa_cons (pe_cut (pe_tup (pa_cons (pe_tup (pa_cons (pv 4) (pa_cons (pv 5) (pa_cons (pv 6) pa_nil)))) (pa_cons pe_non pa_nil)))) pa_nil)) pe_int)
        (pe_lst (pa_cons (pe_cut (pe_tup (pa_cons (pe_tup (pa_cons (pv 4) pa_nil)) (pa_cons pe_non pa_nil)))) (pa_cons (pe_cut (pe_tup (pa_cons (pe_tup (pa_cons (pv 4) pa_nil)) (pa_cons pe_non pa_nil))))
          (pa_cons (pe_cut (pe_tup (pa_cons (pe_tup (pa_cons (pv 7) pa_nil)) (pa_cons pe_str pa_nil)))) pa_nil))))))
      (pss_cons (ps_set (i := 9) scDrawn.nd rfl (.inl rfl) (pe_op op_cat (pv 9) (pe_lst (pa_cons (pe_cut (pe_tup (pa_cons (pe_tup (pa_cons (pv 7) (pa_cons (pv 8) (pa_cons (pv 6) pa_nil)))) (pa_cons pe_str pa_nil))))
          (pa_cons (pe_cut (pe_tup (pa_cons (pe_tup (pa_cons (pv 4) (pa_cons (pv 8) (pa_cons (pv 7) pa_nil)))) (pa_cons pe_str pa_nil)))) (pa_cons (pe_cut (pe_tup (pa_cons (pe_tup (pa_cons (pv 4) (pa_cons (pv 5) (pa_cons (pv 7) pa_nil)))) (pa_cons pe_str pa_nil)))) pa_nil))))))
      (pss_one (ps_ret (pe_call G2 hr (by rfl) F2.mg F2.fn.kp F2.b .nil pass0 (pa_cons (pv 0) (pa_cons (pv 9) pa_nil))))))))), ?_⟩
    have n1 := ok.n1
    have n8 := ok.n8
    have l1 := ok.l1
    have l3 := ok.l3
    have hasl : (as.map V.ref).length = m.st.length := by rw [List.length_map]; exact hrow.1
    obtain ⟨b, r, hb, hr1, hbH, hl⟩ := row0 hrow ok
    refine ⟨_, rfl, _, _, _, _, rfl, rfl, SqT.of hpp, atI_nat (j := 0) rfl, _, _, rfl, .inr (SqT.of has), ?_⟩
    refine ⟨_, rfl, _, _, _, _, rfl, rfl, SqT.of hpp, atI_nat (j := 0) rfl, _, _, _, _, rfl, rfl, SqT.of has, atI_nat (j := 0) (ref_get hb), _, _, rfl, .inr (SqT.of hbH), _, _, rfl, ?_⟩
    rw [hasl, List.length_map, hl]
    refine ⟨_, rfl, _, rfl, h, c, m.st.length, rfl, hR, by omega, by omega, fun H1 s1 hR1 hF1 hs1 => ?_⟩
    refine ⟨_, rfl, _, rfl, h, c, L, rfl, hR1, by omega, by omega, fun H2 l2 hR2 hF2 hl2 => ?_⟩
    refine ⟨_, rfl, _, rfl, h, c, m.st.length, rfl, hR2, by omega, by omega, fun H3 g3 hR3 hF3 hg3 => ⟨_, _, _, rfl, ?_⟩⟩
    refine ⟨_, rfl, _, rfl, _, rfl, by show 5 ≤ sizeLine; decide, fun q1 nq1 => ?_⟩
    have s4 := same_new nq1 (o := .lst [vi m.st.length, .int (-1), .non, .bl true, .str "0"])
    obtain ⟨a1, a2⟩ := hR3.ap nq1
    refine ⟨h, c, q1, [vi m.st.length, .int (-1), .non, .bl true, .str "0"], rfl, hR3.same s4, upd_same, a1, a2, by show 0 < 5; decide, by show 5 ≤ 1000; decide, fun H5 bad hbad hR5 hF5 => ?_⟩
    obtain ⟨fb, ib⟩ : Flat bad = true ∧ isI bad 0 ((m.st.length : Int) - 1) = false := by
      simp only [List.mem_cons, List.not_mem_nil, or_false] at hbad
      rcases hbad with e | e | e | e | e
      · exact bad_ok (b := true) (by rw [e]; simp)
      · exact bad_ok (b := true) (by rw [e]; simp)
      · exact bad_ok (b := true) (by rw [e]; simp)
      · exact bad_ok (b := true) (by rw [e]; simp)
      · rw [e]; exact ⟨rfl, rfl⟩
    refine ⟨_, rfl, _, rfl, _, rfl, by show 4 ≤ sizeLine; decide, fun q2 nq2 => ?_⟩
    have s6 := same_new nq2 (o := .lst [vi L, .int (-1), .non, .bl false])
    obtain ⟨a3, a4⟩ := hR5.ap nq2
    refine ⟨h, c, q2, [vi L, .int (-1), .non, .bl false], rfl, hR5.same s6, upd_same, a3, a4, by show 0 < 4; decide, by show 4 ≤ 1000; decide, fun H7 odd hodd hR7 hF7 => ⟨_, _, rfl, ?_⟩⟩
    obtain ⟨fo, io⟩ := bad_ok hodd
    have f7 : Fr h c H H7 := (((((hF1.trans hF2).trans hF3).trans (Fr.of s4)).trans hF5).trans (Fr.of s6)).trans hF7
    refine ⟨fun x H' => Same H7 H' ∧ DeedAt m L H' x, ⟨_, rfl, _, rfl, _, rfl, by show 3 ≤ sizeLine; decide, fun z nz => ⟨two_line, fun T nT => deed_made (Same.refl _) nz nT (.lead hs1 hl2 hg3)⟩⟩, ?_⟩
    rintro x1 H8 ⟨s8, d1⟩
    refine ⟨by show 1 ≤ sizeLine; decide, fun w1 nw1 => ⟨w1, 3, [x1], rfl, rfl, upd_same, by decide, by decide, by show 1 * 3 ≤ sizeLine; decide, fun w2 nw2 => ?_⟩⟩
    have s9 := s8.trans ((same_new nw1 (o := .lst [x1])).trans (same_new nw2 (o := .lst (List.replicate (3 : Int).toNat [x1]).flatten)))
    have d1' := (d1.same (same_new nw1 (o := .lst [x1]))).same (same_new nw2 (o := .lst (List.replicate (3 : Int).toNat [x1]).flatten))
    have hw2 : (upd (upd H8 w1 (.lst [x1])) w2 (.lst (List.replicate (3 : Int).toNat [x1]).flatten)) w2 = some (.lst [x1, x1, x1]) := upd_same
    refine ⟨fun x H' => Same (upd (upd H8 w1 (.lst [x1])) w2 (.lst (List.replicate (3 : Int).toNat [x1]).flatten)) H' ∧ DeedAt m L H' x, ⟨_, rfl, by show 1 ≤ sizeLine; decide, fun z nz => ⟨two_line, fun T nT => deed_made (Same.refl _) nz nT (.turn hs1)⟩⟩, ?_⟩
    rintro x2 HA ⟨sA, d2⟩
    refine ⟨fun x H' => Same HA H' ∧ DeedAt m L H' x, ⟨_, rfl, by show 1 ≤ sizeLine; decide, fun z nz => ⟨two_line, fun T nT => deed_made (Same.refl _) nz nT (.turn hs1)⟩⟩, ?_⟩
    rintro x3 HB ⟨sB, d3⟩
    refine ⟨fun x H' => Same HB H' ∧ DeedAt m L H' x, ⟨_, rfl, by show 1 ≤ sizeLine; decide, fun z nz => ⟨two_line, fun T nT => deed_made (Same.refl _) nz nT (.badT fb ib)⟩⟩, ?_⟩
    rintro x4 HC ⟨sC, d4⟩
    refine ⟨by show 3 ≤ sizeLine; decide, fun w3 nw3 => ?_⟩
    have sD := same_new nw3 (o := .lst [x2, x3, x4])
    have sAD := ((sA.trans sB).trans sC).trans sD
    refine ⟨w2, w3, _, _, rfl, rfl, sAD _ _ hw2, upd_same, by show 3 + 3 ≤ sizeLine; decide, fun w4 nw4 => ?_⟩
    have sE := same_new nw4 (o := .lst ([x1, x1, x1] ++ [x2, x3, x4]))
    have s7E := s9.trans (sAD.trans sE)
    refine ⟨_, rfl, ?_⟩
    refine ⟨fun x H' => Same _ H' ∧ DeedAt m L H' x, ⟨_, rfl, _, rfl, _, rfl, by show 3 ≤ sizeLine; decide, fun z nz => ⟨two_line, fun T nT => deed_made (Same.refl _) nz nT (.bad3 fb fo (vi_flat _) ib)⟩⟩, ?_⟩
    rintro x5 HF ⟨sF, d5⟩
    refine ⟨fun x H' => Same HF H' ∧ DeedAt m L H' x, ⟨_, rfl, _, rfl, _, rfl, by show 3 ≤ sizeLine; decide, fun z nz => ⟨two_line, fun T nT => deed_made (Same.refl _) nz nT (.step hs1 fo fb io)⟩⟩, ?_⟩
    rintro x6 HG ⟨sG, d6⟩
    refine ⟨fun x H' => Same HG H' ∧ DeedAt m L H' x, ⟨_, rfl, _, rfl, _, rfl, by show 3 ≤ sizeLine; decide, fun z nz => ⟨two_line, fun T nT => deed_made (Same.refl _) nz nT (.goal hs1 hl2 fb ib)⟩⟩, ?_⟩
    rintro x7 HI ⟨sI, d7⟩
    refine ⟨by show 3 ≤ sizeLine; decide, fun w5 nw5 => ?_⟩
    have sJ := same_new nw5 (o := .lst [x5, x6, x7])
    have sFJ := ((sF.trans sG).trans sI).trans sJ
    refine ⟨w4, w5, _, _, rfl, rfl, sFJ _ _ upd_same, upd_same, by show 6 + 3 ≤ sizeLine; decide, fun w6 nw6 => ?_⟩
    have sK := same_new nw6 (o := .lst ([x1, x1, x1] ++ [x2, x3, x4] ++ [x5, x6, x7]))
    have s7K := s7E.trans (sFJ.trans sK)
    have hRK := hR7.same s7K
    have nw6' : w6 ≠ h ∧ w6 ≠ c := (hR7.same (s7E.trans sFJ)).ap nw6
    refine ⟨_, rfl, _, rfl, h, c, w6, _, rfl, hRK, upd_same, nw6'.1, nw6'.2, by show 0 < 9; decide, by show 9 ≤ 1000; decide, fun HL u hu hRL hFL => ?_⟩
    refine kk HL u hRL ((f7.trans (Fr.of s7K)).trans hFL) (DeedAt.fr ?_ hRK hFL)
    have toK : ∀ {v : V}, DeedAt m L _ v → DeedAt m L _ v := fun {v} d => d.same ((sFJ).trans sK)
    simp only [List.mem_append, List.mem_cons, List.not_mem_nil, or_false] at hu
    rcases hu with ((rfl | rfl | rfl) | (rfl | rfl | rfl)) | (rfl | rfl | rfl)
    · exact toK ((d1'.same sAD).same sE)
    · exact toK ((d1'.same sAD).same sE)
    · exact toK ((d1'.same sAD).same sE)
    · exact toK (d2.same (((sB.trans sC).trans sD).trans sE))
    · exact toK (d3.same ((sC.trans sD).trans sE))
    · exact toK (d4.same (sD.trans sE))
    · exact d5.same (((sG.trans sI).trans sJ).trans sK)
    · exact d6.same ((sI.trans sJ).trans sK)
    · exact d7.same (sJ.trans sK)
end
end Bf
set_option Elab.async false
set_option linter.all false
set_option maxRecDepth 100000
set_option maxHeartbeats 4000000
/-! BfLB: what the law keeps from turn to turn. -/
namespace Bf
open PySem PySem.Spec PyProof.Rows L2
/-! ### a statement by what one wants to know of its end -/
def tCutS (t : TS) : TS := fun D σ H => ∃ R : L2.St → Hp → Prop, t { D with nx := R } σ H ∧ ∀ σ' H', R σ' H' → D.nx σ' H'
theorem ps_cut {X : Cx} {st : Stmt} {t : TS} (h : PS X st t) : PS X st (tCutS t) := by
  refine ⟨fun pins s σ H D I hw => ?_⟩
  obtain ⟨R, h1, h2⟩ := hw
  refine wpAny_mono (h.run pins s σ H _ I h1) (fun f s' q => ?_) fun _ _ z => z
  cases f with
  | next => obtain ⟨σ', H', I', q⟩ := q; exact ⟨σ', H', I', h2 σ' H' q⟩
  | brk => exact q
  | cont => exact q
  | ret u => exact q
/-! ### what is left alone -/
def Keep (S : List Addr) (H H' : Hp) : Prop := ∀ b o, H b = some o → b ∉ S → H' b = some o
/-- S: none but what may change -/
def Mtb (CB : Addr) (H : Hp) (S : List Addr) : Prop := ∀ s ∈ S, ∀ o, H s = some o → ¬ Imm CB o
section
variable {CB C : Addr} {H H' : Hp} {S : List Addr} {p r h c a : Addr} {m : Mac} {ms : List Mac}
theorem Keep.stay (k : Keep S H H') (m : Mtb CB H S) : Stay CB H H' := fun b o i e => k b o e fun hb => m b hb o e i
theorem BenchAt.keep (hB : BenchAt CB C H p ms) (ne : C ≠ CB) (k : Keep S H H') (m : Mtb CB H S) (hp : p ∉ S) : BenchAt CB C H' p ms := by
  obtain ⟨dx, t, qs, h1, h2, h3, h4⟩ := hB
  have s := k.stay m
  exact ⟨dx, t, qs, k p _ h1 hp, s t _ True.intro h2, h3, fun i q m a b => (h4 i q m a b).stay ne s⟩
theorem RowsL.keep (hr : RowsL H r ms) (k : Keep S H H') (m : Mtb CB H S) (hp : r ∉ S) : RowsL H' r ms := by
  obtain ⟨as, h1, h2, h3⟩ := hr
  exact ⟨as, k r _ h1 hp, h2, fun i a m' e1 e2 => (h3 i a m' e1 e2).stay (k.stay m)⟩
theorem RngAt.keep (hr : RngAt H h c) (k : Keep S H H') (h1 : h ∉ S) (h2 : c ∉ S) : RngAt H' h c := by
  obtain ⟨n, st, ns, i, a1, a2, a3, a4, a5⟩ := hr
  exact ⟨n, st, ns, i, a1, a2, a3, k _ _ a4 h1, k _ _ a5 h2⟩
theorem Fr.keep (f : Fr h c H H') : Keep [h, c] H H' := fun b o e n => f b o e (fun z => n (by simp [z])) (fun z => n (by simp [z]))
theorem But.keep (f : But p H H') : Keep [p] H H' := fun b o e n => f b o e fun z => n (by simp [z])
theorem RngAt.mtb (hr : RngAt H h c) : Mtb CB H [h, c] := by
  obtain ⟨n, st, ns, i, a1, a2, a3, a4, a5⟩ := hr
  intro s hs o e im
  rcases List.mem_cons.mp hs with z | hs
  · rw [z, a4] at e; cases e; exact im
  · rw [List.mem_singleton.mp hs, a5] at e; cases e; exact im
theorem BenchAt.mtb (hB : BenchAt CB C H p ms) : Mtb CB H [p] := by
  obtain ⟨dx, fs, e1⟩ := hB.ins
  intro s hs o e im
  rw [List.mem_singleton.mp hs, e1] at e
  cases e
  exact im rfl
theorem lst_mtb {xs : List V} (e1 : H r = some (.lst xs)) : Mtb CB H [r] := by
  intro s hs o e im
  rw [List.mem_singleton.mp hs, e1] at e
  cases e
  exact im
theorem bench_ne_list (hB : BenchAt CB C H p ms) {xs : List V} (e : H r = some (.lst xs)) : p ≠ r := by
  obtain ⟨dx, fs, e1⟩ := hB.ins
  exact ne_of e1 e (fun z => nomatch z)
end
/-- one that was kept: the pair, the bench, its rows -/
abbrev Kept := Addr × Addr × Addr × List Mac
structure KeptAt (CB C : Addr) (L : Nat) (m0 : Mac) (h c kl : Addr) (H : Hp) (e : Kept) : Prop where
  tup : H e.1 = some (.tup [.ref e.2.1, .ref e.2.2.1])
  bench : BenchAt CB C H e.2.1 e.2.2.2
  mo : MsOk L m0 e.2.2.2
  rows : RowsL H e.2.2.1 e.2.2.2
  out : e.2.2.1 ≠ h ∧ e.2.2.1 ≠ c ∧ e.2.2.1 ≠ kl
structure LawI (CB C : Addr) (L : Nat) (m0 : Mac) (h c a0 p2 kl : Addr) (kv : List V) (H : Hp) (p rl : Addr) (ms mr : List Mac) (ks : List Kept) : Prop where
  rng : RngAt H h c
  kout : kl ≠ h ∧ kl ≠ c
  parts : PartsAt H a0 m0
  bench : BenchAt CB C H p ms
  mo : MsOk L m0 ms
  side : BenchAt CB C H p2 [m0]
  rows : RowsL H rl mr
  rout : rl ≠ h ∧ rl ≠ c ∧ rl ≠ kl
  kept : H kl = some (.lst kv)
  each : ∀ e ∈ ks, KeptAt CB C L m0 h c kl H e
  nd : (p :: p2 :: ks.map (·.2.1)).Nodup
section
variable {CB C : Addr} {L : Nat} {m0 : Mac} {h c a0 p2 kl p p' rl rl' : Addr} {kv kv' : List V} {H H' : Hp} {ms ms' mr mr' : List Mac} {ks : List Kept} {S : List Addr}
theorem LawI.move (I : LawI CB C L m0 h c a0 p2 kl kv H p rl ms mr ks) (ne : C ≠ CB) (k : Keep S H H') (m : Mtb CB H S) (r' : RngAt H' h c) (b' : BenchAt CB C H' p' ms') (mo' : MsOk L m0 ms') (w' : RowsL H' rl' mr') (o' : rl' ≠ h ∧ rl' ≠ c ∧ rl' ≠ kl)
    (kl' : H' kl = some (.lst kv')) (s2 : p2 ∉ S) (se : ∀ e ∈ ks, e.2.1 ∉ S ∧ e.2.2.1 ∉ S) (nd' : (p' :: p2 :: ks.map (·.2.1)).Nodup) : LawI CB C L m0 h c a0 p2 kl kv' H' p' rl' ms' mr' ks :=
  ⟨r', I.kout, I.parts.stay (k.stay m), b', mo', I.side.keep ne k m s2, w', o', kl', fun e he => by
    have q := I.each e he
    exact ⟨k.stay m _ _ True.intro q.tup, q.bench.keep ne k m (se e he).1, q.mo, q.rows.keep k m (se e he).2, q.out⟩, nd'⟩
theorem nb_rng {q : Addr} {ms : List Mac} (r : RngAt H h c) (b : BenchAt CB C H q ms) : q ∉ [h, c] := fun z => by
  obtain ⟨dx, fs, e1⟩ := b.ins
  obtain ⟨n1, n2⟩ := r.ap2 e1 (fun _ z => nomatch z)
  rcases List.mem_cons.mp z with z | z
  · exact n1 z
  · exact n2 (List.mem_singleton.mp z)
/-- behind a draw -/
theorem LawI.fr (I : LawI CB C L m0 h c a0 p2 kl kv H p rl ms mr ks) (ne : C ≠ CB) (f : Fr h c H H') (r' : RngAt H' h c) : LawI CB C L m0 h c a0 p2 kl kv H' p rl ms mr ks := by
  have k := f.keep
  have m : Mtb CB H [h, c] := I.rng.mtb
  have nl : ∀ {r : Addr}, r ≠ h → r ≠ c → r ∉ [h, c] := fun a b z => by
    rcases List.mem_cons.mp z with z | z
    · exact a z
    · exact b (List.mem_singleton.mp z)
  exact I.move ne k m r' (I.bench.keep ne k m (nb_rng I.rng I.bench)) I.mo (I.rows.keep k m (nl I.rout.1 I.rout.2.1)) I.rout (k _ _ I.kept (nl I.kout.1 I.kout.2)) (nb_rng I.rng I.side) (fun e he => ⟨nb_rng I.rng (I.each e he).bench, nl (I.each e he).out.1 (I.each e he).out.2.1⟩) I.nd
theorem LawI.same (I : LawI CB C L m0 h c a0 p2 kl kv H p rl ms mr ks) (ne : C ≠ CB) (s : Same H H') : LawI CB C L m0 h c a0 p2 kl kv H' p rl ms mr ks := I.fr ne (Fr.of s) (I.rng.same s)
/-- other rows -/
theorem LawI.row (I : LawI CB C L m0 h c a0 p2 kl kv H p rl ms mr ks) (w' : RowsL H rl' mr') (o' : rl' ≠ h ∧ rl' ≠ c ∧ rl' ≠ kl) : LawI CB C L m0 h c a0 p2 kl kv H p rl' ms mr' ks :=
  ⟨I.rng, I.kout, I.parts, I.bench, I.mo, I.side, w', o', I.kept, I.each, I.nd⟩
/-- a bench has changed -/
theorem LawI.but {q : Addr} {xs : List Mac} (I : LawI CB C L m0 h c a0 p2 kl kv H p rl ms mr ks) (ne : C ≠ CB) (hq : BenchAt CB C H q xs) (f : But q H H') (b' : BenchAt CB C H' p ms') (mo' : MsOk L m0 ms')
    (hp2 : p2 ≠ q) (hk : ∀ e ∈ ks, e.2.1 ≠ q) : LawI CB C L m0 h c a0 p2 kl kv H' p rl ms' mr ks := by
  have k := f.keep
  have m : Mtb CB H [q] := hq.mtb
  have nl : ∀ {r : Addr} {xs : List V}, H r = some (.lst xs) → r ∉ [q] := fun e z => bench_ne_list hq e (List.mem_singleton.mp z).symm
  have rw' : ∀ {r : Addr} {ms : List Mac}, RowsL H r ms → r ∉ [q] := fun ⟨_, e, _⟩ => nl e
  obtain ⟨_, st, ns, i, _, _, _, a4, a5⟩ := id I.rng
  exact I.move ne k m (I.rng.keep k (nl a4) (nl a5)) b' mo' (I.rows.keep k m (rw' I.rows)) I.rout (k _ _ I.kept (nl I.kept)) (fun z => hp2 (List.mem_singleton.mp z)) (fun e he => ⟨fun z => hk e he (List.mem_singleton.mp z), rw' (I.each e he).rows⟩) I.nd
theorem LawI.p2p (I : LawI CB C L m0 h c a0 p2 kl kv H p rl ms mr ks) : p2 ≠ p := fun z => (List.nodup_cons.mp I.nd).1 (by rw [z]; exact List.mem_cons_self ..)
theorem LawI.kp (I : LawI CB C L m0 h c a0 p2 kl kv H p rl ms mr ks) : ∀ e ∈ ks, e.2.1 ≠ p := fun e he z => (List.nodup_cons.mp I.nd).1 (List.mem_cons_of_mem _ (by rw [← z]; exact List.mem_map_of_mem (f := (·.2.1)) he))
/-- one more is kept -/
theorem LawI.add {x q T : Addr} (I : LawI CB C L m0 h c a0 p2 kl kv H p rl ms ms ks) (ne : C ≠ CB) (hx : BenchAt CB C H x ms) (nx : x ∉ p :: p2 :: ks.map (·.2.1)) (hT : H T = some (.tup [.ref q, .ref rl])) (sel : (p' = p ∧ q = x) ∨ (p' = x ∧ q = p)) :
    LawI CB C L m0 h c a0 p2 kl (kv ++ [.ref T]) (upd H kl (.lst (kv ++ [.ref T]))) p' rl ms ms (ks ++ [(T, q, rl, ms)]) := by
  have k : Keep [kl] H (upd H kl (.lst (kv ++ [.ref T]))) := fun b o e n => by rw [upd_ne (fun z => n (by simp [z]))]; exact e
  have m : Mtb CB H [kl] := lst_mtb I.kept
  have nl : ∀ {r : Addr}, r ≠ kl → r ∉ [kl] := fun a z => a (List.mem_singleton.mp z)
  have nb : ∀ {q : Addr} {ms : List Mac}, BenchAt CB C H q ms → q ∉ [kl] := fun b => nl (bench_ne_list b I.kept)
  have bp' : BenchAt CB C H p' ms := by rcases sel with ⟨e1, _⟩ | ⟨e1, _⟩ <;> rw [e1] <;> first | exact I.bench | exact hx
  have bq : BenchAt CB C H q ms := by rcases sel with ⟨_, e1⟩ | ⟨_, e1⟩ <;> rw [e1] <;> first | exact hx | exact I.bench
  have hn : (p' :: p2 :: (ks ++ [(T, q, rl, ms)]).map (·.2.1)).Nodup := by
    rw [List.map_append]
    show (p' :: p2 :: (ks.map (·.2.1) ++ [q])).Nodup
    obtain ⟨n1, n2⟩ := List.nodup_cons.mp I.nd
    obtain ⟨n3, n4⟩ := List.nodup_cons.mp n2
    have nx1 : x ≠ p := fun z => nx (by rw [z]; exact List.mem_cons_self ..)
    have nx2 : x ≠ p2 := fun z => nx (by rw [z]; exact List.mem_cons_of_mem _ (List.mem_cons_self ..))
    have nx3 : x ∉ ks.map (·.2.1) := fun z => nx (List.mem_cons_of_mem _ (List.mem_cons_of_mem _ z))
    have np2 : p ≠ p2 := fun z => n1 (by rw [z]; exact List.mem_cons_self ..)
    have np3 : p ∉ ks.map (·.2.1) := fun z => n1 (List.mem_cons_of_mem _ z)
    have app : ∀ {y : Addr}, y ∉ ks.map (·.2.1) → (ks.map (·.2.1) ++ [y]).Nodup := fun {y} hy => List.nodup_append.mpr ⟨n4, by simp, fun a ha b hb e => hy (by
      have : b = y := by simpa using hb
      rw [← this, ← e]; exact ha)⟩
    have mem : ∀ {y z : Addr}, z ∈ ks.map (·.2.1) ++ [y] → z ∈ ks.map (·.2.1) ∨ z = y := fun hz => by
      rcases List.mem_append.mp hz with h1 | h1
      · exact .inl h1
      · exact .inr (List.mem_singleton.mp h1)
    rcases sel with ⟨e1, e2⟩ | ⟨e1, e2⟩
    · rw [e1, e2]
      refine List.nodup_cons.mpr ⟨fun z => ?_, List.nodup_cons.mpr ⟨fun z => ?_, app nx3⟩⟩
      · rcases List.mem_cons.mp z with z | z
        · exact np2 z
        · rcases mem z with z | z
          · exact np3 z
          · exact nx1 z.symm
      · rcases mem z with z | z
        · exact n3 z
        · exact nx2 z.symm
    · rw [e1, e2]
      refine List.nodup_cons.mpr ⟨fun z => ?_, List.nodup_cons.mpr ⟨fun z => ?_, app np3⟩⟩
      · rcases List.mem_cons.mp z with z | z
        · exact nx2 z
        · rcases mem z with z | z
          · exact nx3 z
          · exact nx1 z
      · rcases mem z with z | z
        · exact n3 z
        · exact np2 z.symm
  have each' : ∀ e ∈ ks ++ [(T, q, rl, ms)], KeptAt CB C L m0 h c kl (upd H kl (.lst (kv ++ [.ref T]))) e := fun e he => by
    have q' : KeptAt CB C L m0 h c kl H e := by
      rcases List.mem_append.mp he with h1 | h1
      · exact I.each e h1
      · rw [List.mem_singleton.mp h1]; exact ⟨hT, bq, I.mo, I.rows, I.rout⟩
    exact ⟨k.stay m _ _ True.intro q'.tup, q'.bench.keep ne k m (nb q'.bench), q'.mo, q'.rows.keep k m (nl q'.out.2.2), q'.out⟩
  exact ⟨I.rng.keep k (nl I.kout.1.symm) (nl I.kout.2.symm), I.kout, I.parts.stay (k.stay m), bp'.keep ne k m (nb bp'), I.mo, I.side.keep ne k m (nb I.side), I.rows.keep k m (nl I.rout.2.2), I.rout, upd_same, each', hn⟩
/-- one that was kept is done with -/
theorem LawI.drop {e : Kept} (I : LawI CB C L m0 h c a0 p2 kl kv H p rl ms mr (e :: ks)) : LawI CB C L m0 h c a0 p2 kl kv H p rl ms mr ks := by
  refine ⟨I.rng, I.kout, I.parts, I.bench, I.mo, I.side, I.rows, I.rout, I.kept, fun e' he => I.each e' (List.mem_cons_of_mem _ he), ?_⟩
  obtain ⟨n1, n2⟩ := List.nodup_cons.mp I.nd
  obtain ⟨n3, n4⟩ := List.nodup_cons.mp n2
  rw [List.map_cons] at n1 n3 n4
  refine List.nodup_cons.mpr ⟨fun z => n1 ?_, List.nodup_cons.mpr ⟨fun z => n3 (List.mem_cons_of_mem _ z), (List.nodup_cons.mp n4).2⟩⟩
  rcases List.mem_cons.mp z with z | z
  · rw [z]; exact List.mem_cons_self ..
  · exact List.mem_cons_of_mem _ (List.mem_cons_of_mem _ z)
theorem LawI.first {e : Kept} (I : LawI CB C L m0 h c a0 p2 kl kv H p rl ms mr (e :: ks)) : p ≠ e.2.1 ∧ p2 ≠ e.2.1 ∧ ∀ e' ∈ ks, e'.2.1 ≠ e.2.1 := by
  obtain ⟨n1, n2⟩ := List.nodup_cons.mp I.nd
  obtain ⟨n3, n4⟩ := List.nodup_cons.mp n2
  rw [List.map_cons] at n1 n3 n4
  refine ⟨fun z => n1 ?_, fun z => n3 ?_, fun e' he z => (List.nodup_cons.mp n4).1 ?_⟩
  · rw [z]; exact List.mem_cons_of_mem _ (List.mem_cons_self ..)
  · rw [z]; exact List.mem_cons_self ..
  · rw [← z]; exact List.mem_map_of_mem (f := (·.2.1)) he
end
end Bf
set_option Elab.async false
set_option linter.all false
set_option maxRecDepth 100000
set_option maxHeartbeats 8000000
/-! BfLC: the law. -/
namespace Bf
open PySem PySem.Spec PyProof.Rows L2
structure Laws (K : PySem.W.Frag) (mg : Str → Option Value) (G : Prog K mg) where
  M : Meths K mg G
  E : Errs K mg G
  mix : DefX K mg "_law_mix" sMix nMixP
  next : DefX K mg "_law_next" sNext nNextP
  pick : DefX K mg "_law_pick" sPick nPick
  parts : DefX K mg "_law_parts" sParts nPartsP
  lengths : DefX K mg "_law_lengths" sLengths nLengthsP
  pairs : DefX K mg "_law_pairs" sPairs nPairsP
  unlike : DefX K mg "_law_unlike" sUnlike nUnlikeP
  done : DefX K mg "_law_done" sDone nDoneP
  later : DefX K mg "_law_later" sLater nLaterP
  stands : DefX K mg "_law_stands_so" sStandsSo nStandsSoP
  drawn : DefX K mg "_law_drawn" sDrawn nDrawnP
abbrev sLaw : Stmt := top 42
abbrev nLaw : List Str := ["_law_script", "_law_h", "_law_parts_here", "_law_bench", "_law_side", "_law_rows", "_law_kept", "_law_turn", "_law_kind", "_law_twin", "_law_some", "_law_due", "_law_found", "_law_elder"]
theorem scLaw : FnScope nLaw ["_law_script"] (defScope sLaw) := ⟨rfl, rfl, rfl, by decide +kernel, rfl, by decide +kernel, by decide +kernel⟩
theorem Deed.due {m : Mac} {L : Nat} {xs : List V} {due : V} {nm : Option Mac} (d : Deed m L xs due nm) : Flat due = true ∧ ((∃ m', nm = some m' ∧ due = .non) ∨ (nm = none ∧ due ≠ .non)) := by
  cases d with
  | lead => exact ⟨rfl, .inl ⟨_, rfl, rfl⟩⟩
  | turn => exact ⟨rfl, .inl ⟨_, rfl, rfl⟩⟩
  | badT => exact ⟨rfl, .inr ⟨rfl, fun z => nomatch z⟩⟩
  | bad3 => exact ⟨rfl, .inr ⟨rfl, fun z => nomatch z⟩⟩
  | step => exact ⟨rfl, .inr ⟨rfl, fun z => nomatch z⟩⟩
  | goal => exact ⟨rfl, .inr ⟨rfl, fun z => nomatch z⟩⟩
theorem optV_flat (r : Option Nat) : Flat (optV r) = true := by cases r <;> rfl
theorem MsOk.add {L : Nat} {m0 m' : Mac} {ms : List Mac} (h : MsOk L m0 ms) (ok : m'.Ok L) (hl : ms.length < 50) : MsOk L m0 (ms ++ [m']) :=
  ⟨head_app h.hd, fun x hx => by
    rcases List.mem_append.mp hx with h1 | h1
    · exact h.ok x h1
    · rw [List.mem_singleton.mp h1]; exact ok, by rw [List.length_append, List.length_singleton]; omega⟩
theorem MsOk.cut {L : Nat} {m0 : Mac} {ms : List Mac} (h : MsOk L m0 ms) (hl : 1 < ms.length) : MsOk L m0 ms.dropLast :=
  ⟨by
    rw [List.dropLast_eq_take, List.getElem?_take, if_pos (by omega)]
    exact h.hd, fun x hx => h.ok x (List.dropLast_subset _ hx), by rw [List.length_dropLast]; have := h.len; omega⟩
theorem str_un : ¬ V.str "deed" = V.str "undo" := fun z => by injection z with z; exact absurd z (by decide +kernel)
theorem str_dc : ¬ V.str "deed" = V.str "copy" := fun z => by injection z with z; exact absurd z (by decide +kernel)
theorem str_cu : ¬ V.str "copy" = V.str "undo" := fun z => by injection z with z; exact absurd z (by decide +kernel)
section
variable {P : Program} {w : World} {K : PySem.W.Frag} {mg : Str → Option Value} {base : Heap}
def spLaw (K : PySem.W.Frag) : Sp := fun vs H Q _ => ∃ (a : Addr) (ns : List Int), vs = [.ref a] ∧ SqL K H a (ns.map V.int) ∧ ns.length ≤ 63 ∧ ∀ H', Q (.bl true) H'
/-- rows[len(rows) - 1] -/
theorem rd_last {σ : L2.St} {H : Hp} {Q : VK} {i : Nat} {rl : Addr} {ms : List Mac} {m : Mac} (hσ : σ[i]? = some (some (.ref rl))) (hr : RowsL H rl ms) (hm : ms[ms.length - 1]? = some m) (k : ∀ a, PartsAt H a m → Q (.ref a) H) :
    (tOp (rIxL K) (tVar i) (tOp (rI0 fun i j => .int (i - j)) (tCB (rLen K) (tCons (tVar i) tNil)) (tC (.int 1)))) σ H Q := by
  obtain ⟨as, h1, h2, h3⟩ := hr
  obtain ⟨a, ha, haP⟩ := rows_last h2 h3 hm
  have hl : ms.length - 1 < ms.length := (List.getElem?_eq_some_iff.mp hm).1
  refine ⟨_, hσ, _, hσ, _, _, rfl, .inl (SqL.of h1), _, _, rfl, rfl, ?_⟩
  rw [List.length_map, h2]
  show rIxL K (.ref rl) (V.int (((ms.length : Nat) : Int) - ((1 : Nat) : Int))) _ _
  rw [sub_vi (by omega)]
  exact ⟨_, _, _, _, rfl, rfl, SqL.of h1, atI_nat ha, k a haP⟩
theorem ok_law {f : Addr} {fd : FuncData} (F : DefAt K mg "law" sLaw ["_law_script"] f fd) (G : Prog K mg) (W : Laws K mg G) : FnOk P w K mg base CX0 8 f fd ["_law_script"] (spLaw K) := by
  refine F.fn.ok scLaw (fun vs H Q E h => ?_) (fun cdv A outer s H vs Q E hr h => ?_)
  · obtain ⟨a, ns, rfl, _⟩ := h
    rfl
  · obtain ⟨a, ns, rfl, hS, hlen, kk⟩ := h
    have GMix : FnOk P w K mg base CX0 7 W.mix.f W.mix.fd nMixP (spMix K) := (ok_mix W.mix.at_ G.B).mono (by decide)
    have GNext : FnOk P w K mg base CX0 7 W.next.f W.next.fd nNextP spNext := (ok_next W.next.at_ G.B).mono (by decide)
    have GPick : FnOk P w K mg base CX0 7 W.pick.f W.pick.fd nPick spPick := (ok_pick W.pick.at_ W.next.at_ G.B).mono (by decide)
    have GParts : FnOk P w K mg base CX0 7 W.parts.f W.parts.fd nPartsP spParts := (ok_parts W.parts.at_ W.next.at_ W.pick.at_ G.B).mono (by decide)
    have GUn : FnOk P w K mg base CX0 7 W.unlike.f W.unlike.fd nUnlikeP (spUnlike K) := (ok_unlike W.unlike.at_ W.lengths.at_ W.pairs.at_ G.B).mono (by decide)
    have GDone : FnOk P w K mg base CX0 7 W.done.f W.done.fd nDoneP (spDone G.CB G.C) := ok_done W.done.at_ G W.M W.E
    have GLater : FnOk P w K mg base CX0 7 W.later.f W.later.fd nLaterP spLater := (ok_later W.later.at_ G.B).mono (by decide)
    have GSt : FnOk P w K mg base CX0 7 W.stands.f W.stands.fd nStandsSoP (spStandsSo G.CB G.C) := (ok_standsSo W.stands.at_ G W.M).mono (by decide)
    have GDr : FnOk P w K mg base CX0 7 W.drawn.f W.drawn.fd nDrawnP spDrawn := (ok_drawn W.drawn.at_ W.next.at_ W.pick.at_ G.B).mono (by decide)
    have GA : FnOk P w K mg base CX0 7 W.M.alike.f W.M.alike.fd nAlikeP (spAlike 0) := (ok_alike W.M.alike.at_ G.B 0).mono (by decide)
    have GUndo : FnOk P w K mg base CX0 7 W.M.undo.f W.M.undo.fd ["self"] (spBUndo G.CB G.C) := (ok_bUndo W.M.undo.fn G).mono (by decide)
    have GCopy : FnOk P w K mg base CX0 7 W.M.copy.f W.M.copy.fd ["self"] (spBCopy G.CB G.C) := (ok_bCopy W.M.copy.fn G W.M.MB).mono (by decide)
    have GM : FnOk P w K mg base CX0 6 G.MK.f G.MK.fd nMInit (spMInit G.C) := (ok_mInit G.MK.fn G.T G.isInt.at_ G.checkSteps.at_ G.checkGood.at_ G.B G.hS G.hL).mono (by decide)
    have GB : FnOk P w K mg base CX0 6 W.M.MB.f W.M.MB.fd nBInit (spBInit G.CB G.C) := (ok_bInit W.M.MB.fn G).mono (by decide)
    refine ⟨_, (pss_cons (ps_set (i := 1) scLaw.nd rfl (.inl rfl) (pe_call GMix hr (by rfl) W.mix.at_.mg W.mix.at_.fn.kp W.mix.at_.b .nil pass0 (pa_cons (pv 0) (pa_cons pe_int pa_nil))))
      (pss_cons (ps_set (i := 2) scLaw.nd rfl (.inl rfl) (pe_call GParts hr (by rfl) W.parts.at_.mg W.parts.at_.fn.kp W.parts.at_.b .nil pass0 (pa_cons (pv 1) (pa_cons (pe_op op_add pe_int (pe_call GNext hr (by rfl) W.next.at_.mg W.next.at_.fn.kp W.next.at_.b .nil pass0 (pa_cons (pv 1) (pa_cons pe_int pa_nil)))) pa_nil))))
      (pss_cons (ps_par (i := 3) (j := 4) rfl scLaw.nd rfl rfl (by decide) rfl rfl (pa_cons (pe_cut (pe_make W.M.MB.made GB hr (by rfl) G.mB W.M.MB.b .nil pass0 (pa_cons (pe_make G.MK.made GM hr (by rfl) G.T.mg G.MK.b .nil pass0 (pa_cons (pe_ix ix_tup (pv 2) pe_int (fun _ _ => rfl)) (pa_cons (pe_ix ix_tup (pv 2) pe_int (fun _ _ => rfl)) pa_nil))) pa_nil))) (pa_cons (pe_cut (pe_make W.M.MB.made GB hr (by rfl) G.mB W.M.MB.b .nil pass0 (pa_cons (pe_make G.MK.made GM hr (by rfl) G.T.mg G.MK.b .nil pass0 (pa_cons (pe_ix ix_tup (pv 2) pe_int (fun _ _ => rfl)) (pa_cons (pe_ix ix_tup (pv 2) pe_int (fun _ _ => rfl)) pa_nil))) pa_nil))) pa_nil)) (by rfl))
      (pss_cons (ps_par (i := 5) (j := 6) rfl scLaw.nd rfl rfl (by decide) rfl rfl (pa_cons (pe_lst (pa_cons (pv 2) pa_nil)) (pa_cons (pe_lst pa_nil) pa_nil)) (by rfl))
      (pss_cons (ps_for PassesOwn.never rfl (pi_range1 (by rfl) G.B.range (pa_cons (pe_op op_add pe_int (pe_call GNext hr (by rfl) W.next.at_.mg W.next.at_.fn.kp W.next.at_.b .nil pass0 (pa_cons (pv 1) (pa_cons pe_int pa_nil)))) pa_nil)) (pg_name (i := 7) scLaw.nd rfl (.inl rfl)) (pss_cons (ps_set (i := 8) scLaw.nd rfl (.inl rfl) (pe_call GPick hr (by rfl) W.pick.at_.mg W.pick.at_.fn.kp W.pick.at_.b .nil pass0 (pa_cons (pv 1) (pa_cons (pe_lst (pa_cons pe_str (pa_cons pe_str (pa_cons pe_str (pa_cons pe_str (pa_cons pe_str pa_nil)))))) pa_nil))))
      (pss_cons (ps_cut (ps_if (pt_cmpR op_eq (pv 8) pe_str (nomark _)) (pss_cons (ps_if (pt_not (pt_val (pe_call GA hr (by rfl) W.M.alike.at_.mg W.M.alike.at_.fn.kp W.M.alike.at_.b .nil pass0 (pa_cons (pe_meth0 (pv 3) G.cB W.M.undo.mt GUndo hr W.M.undo.b .nil pass0) (pa_cons (pe_cmpR op_gt (pe_callB c_len (by rfl) G.B.len b_len (pa_cons (pv 5) pa_nil)) pe_int (nomark _)) pa_nil))))) (pss_one ps_never) pss_nil)
      (pss_one (ps_set (i := 5) scLaw.nd rfl (.inl rfl) (pe_ifExp (pt_cmpR op_gt (pe_callB c_len (by rfl) G.B.len b_len (pa_cons (pv 5) pa_nil)) pe_int (nomark _)) (pe_slice sl_list (pv 5) po_none (po_some (pe_un un_neg pe_int))) (pv 5))))) (pss_one (ps_if (pt_cmpR op_eq (pv 8) pe_str (nomark _)) (pss_cons (ps_set (i := 9) scLaw.nd rfl (.inl rfl) (pe_meth0 (pv 3) G.cB W.M.copy.mt GCopy hr W.M.copy.b .nil pass0))
      (pss_cons (ps_if (pt_cmpR op_eq (pe_call GNext hr (by rfl) W.next.at_.mg W.next.at_.fn.kp W.next.at_.b .nil pass0 (pa_cons (pv 1) (pa_cons pe_int pa_nil))) pe_int (nomark _)) (pss_one (ps_par (i := 3) (j := 9) rfl scLaw.nd rfl rfl (by decide) rfl rfl (pa_cons (pv 9) (pa_cons (pv 3) pa_nil)) (by rfl))) pss_nil)
      (pss_one (ps_expr (pe_bm PySem.F.plainAttrs_list PySem.F.slot_list_append PySem.F.type_list_append mt_append (pv 6) (pa_cons (pe_tup (pa_cons (pv 9) (pa_cons (pv 5) pa_nil))) pa_nil)))))) (pss_cons (ps_asg (pe_call GDr hr (by rfl) W.drawn.at_.mg W.drawn.at_.fn.kp W.drawn.at_.b .nil pass0 (pa_cons (pv 1) (pa_cons (pe_ix i_list (pv 5) (pe_op op_sub (pe_callB c_len (by rfl) G.B.len b_len (pa_cons (pv 5) pa_nil)) pe_int) (fun _ _ => rfl)) pa_nil))) (pg_tup rfl (pgs_cons (pg_name (i := 10) scLaw.nd rfl (.inl rfl)) (pgs_cons (pg_name (i := 11) scLaw.nd rfl (.inl rfl)) pgs_nil))) (by rfl) (by rfl))
      (pss_cons (ps_cut (ps_if (pt_cmpR op_isN (pv 11) pe_non (nomark _)) (pss_cons (ps_set (i := 5) scLaw.nd rfl (.inl rfl) (pe_op op_cat (pv 5) (pe_lst (pa_cons (pe_call GLater hr (by rfl) W.later.at_.mg W.later.at_.fn.kp W.later.at_.b .nil pass0 (pa_cons (pe_ix i_list (pv 5) (pe_op op_sub (pe_callB c_len (by rfl) G.B.len b_len (pa_cons (pv 5) pa_nil)) pe_int) (fun _ _ => rfl)) (pa_cons (pv 10) pa_nil))) pa_nil))))
      (pss_cons (ps_set (i := 12) scLaw.nd rfl (.inl rfl) (pe_call GUn hr (by rfl) W.unlike.at_.mg W.unlike.at_.fn.kp W.unlike.at_.b .nil pass0 (pa_cons (pv 2) (pa_cons (pe_ix i_list (pv 5) (pe_op op_sub (pe_callB c_len (by rfl) G.B.len b_len (pa_cons (pv 5) pa_nil)) pe_int) (fun _ _ => rfl)) (pa_cons (pe_tup (pa_cons pe_int (pa_cons pe_int pa_nil))) pa_nil)))))
      (pss_one (ps_set (i := 11) scLaw.nd rfl (.inl rfl) (pe_ifExp (pt_cmpR op_notN (pv 12) pe_non (nomark _)) (pe_ix ix_tup (pv 12) pe_int (fun _ _ => rfl)) pe_non))))) pss_nil))
      (pss_one (ps_if (pt_not (pt_val (pe_call GA hr (by rfl) W.M.alike.at_.mg W.M.alike.at_.fn.kp W.M.alike.at_.b .nil pass0 (pa_cons (pe_call GDone hr (by rfl) W.done.at_.mg W.done.at_.fn.kp W.done.at_.b .nil pass0 (pa_cons (pv 3) (pa_cons (pv 10) pa_nil))) (pa_cons (pv 11) pa_nil))))) (pss_one ps_never) pss_nil))))))))
      (pss_one (ps_if (pt_not (pt_val (pe_call GSt hr (by rfl) W.stands.at_.mg W.stands.at_.fn.kp W.stands.at_.b .nil pass0 (pa_cons (pv 3) (pa_cons (pv 5) pa_nil))))) (pss_one ps_never) pss_nil)))))
      (pss_cons (ps_for PassesOwn.never rfl (pi_list (pv 6)) (pg_tup rfl (pgs_cons (pg_name (i := 13) scLaw.nd rfl (.inl rfl)) (pgs_cons (pg_name (i := 10) scLaw.nd rfl (.inl rfl)) pgs_nil))) (pss_one (ps_if (PW.pt (pw_or (pt_not (pt_val (pe_call GSt hr (by rfl) W.stands.at_.mg W.stands.at_.fn.kp W.stands.at_.b .nil pass0 (pa_cons (pv 13) (pa_cons (pv 10) pa_nil))))) (pw_or1 (pt_not (pt_val (pe_call GA hr (by rfl) W.M.alike.at_.mg W.M.alike.at_.fn.kp W.M.alike.at_.b .nil pass0 (pa_cons (pe_meth0 (pv 13) G.cB W.M.undo.mt GUndo hr W.M.undo.b .nil pass0) (pa_cons (pe_cmpR op_gt (pe_callB c_len (by rfl) G.B.len b_len (pa_cons (pv 10) pa_nil)) pe_int (nomark _)) pa_nil)))))))) (pss_one ps_never) pss_nil)))
      (pss_one (ps_ret (pe_and (pe_call GSt hr (by rfl) W.stands.at_.mg W.stands.at_.fn.kp W.stands.at_.b .nil pass0 (pa_cons (pv 3) (pa_cons (pv 5) pa_nil))) (pe_one (pe_call GSt hr (by rfl) W.stands.at_.mg W.stands.at_.fn.kp W.stands.at_.b .nil pass0 (pa_cons (pv 4) (pa_cons (pe_lst (pa_cons (pv 2) pa_nil)) pa_nil))))))))))))), ?_⟩
    refine ⟨_, rfl, a, ns, rfl, hS, hlen, fun H1 h c s1 nh nc hR1 => ?_⟩
    refine ⟨_, rfl, _, rfl, h, c, 3, rfl, hR1, by decide, by decide, fun H2 r hR2 hF2 hr3 => ⟨_, _, rfl, rfl, h, c, 1 + r, rfl, hR2, by omega, by omega, fun H3 a0 m0 hR3 hF3 hP3 ok0 => ?_⟩⟩
    obtain ⟨st, gd, hpp, hst, hgd⟩ := id hP3
    refine ⟨fun x H' => ∃ p, x = .ref p ∧ Same H3 H' ∧ H3 p = none ∧ BenchAt G.CB G.C H' p [m0], ?_, ?_⟩
    · refine ⟨_, rfl, _, _, _, _, rfl, rfl, SqT.of hpp, atI_nat (j := 0) rfl, _, rfl, _, _, _, _, rfl, rfl, SqT.of hpp, atI_nat (j := 1) rfl, fun x dx nx ndx nex => ?_⟩
      refine made_mac2 nx ndx hst hgd ok0 _ ?_
      intro H' s' hm x2 dx2 nx2 ndx2 nex2
      refine made_bench nx2 ndx2 hm _ ?_
      intro H'' s'' hb
      exact ⟨x2, rfl, s'.trans s'', s'.free nx2, hb⟩
    rintro x H4 ⟨p, rfl, s4, np, hb4⟩
    refine ⟨fun x H' => ∃ p2, x = .ref p2 ∧ Same H4 H' ∧ H4 p2 = none ∧ BenchAt G.CB G.C H' p2 [m0], ?_, ?_⟩
    · refine ⟨_, rfl, _, _, _, _, rfl, rfl, SqT.of (s4 _ _ hpp), atI_nat (j := 0) rfl, _, rfl, _, _, _, _, rfl, rfl, SqT.of (s4 _ _ hpp), atI_nat (j := 1) rfl, fun x dx nx ndx nex => ?_⟩
      refine made_mac2 nx ndx (hst.same s4) (s4 _ _ hgd) ok0 _ ?_
      intro H' s' hm x2 dx2 nx2 ndx2 nex2
      refine made_bench nx2 ndx2 hm _ ?_
      intro H'' s'' hb
      exact ⟨x2, rfl, s'.trans s'', s'.free nx2, hb⟩
    rintro x H5 ⟨p2, rfl, s5, np2, hb5⟩
    refine ⟨_, _, rfl, ?_⟩
    refine ⟨_, rfl, by show 1 ≤ sizeLine; decide, fun rl nrl => ⟨by show 0 ≤ sizeLine; decide, fun kl nkl => ⟨_, _, rfl, ?_⟩⟩⟩
    have s6 : Same H5 (upd H5 rl (.lst [.ref a0])) := same_new nrl
    have s7 := s6.trans (same_new nkl (o := .lst []))
    have nkl5 := s6.free nkl
    have nrk : rl ≠ kl := fun z => by rw [← z, upd_same] at nkl; cases nkl
    have hR5 : RngAt H5 h c := (hR3.same s4).same s5
    have I0 : LawI G.CB G.C (1 + r) m0 h c a0 p2 kl [] (upd (upd H5 rl (.lst [.ref a0])) kl (.lst [])) p rl [m0] [m0] [] := by
      refine ⟨hR5.same s7, hR5.ap nkl5, ((hP3.same s4).same s5).same s7, (hb4.same s5).same s7, ⟨rfl, fun x hx => by rw [List.mem_singleton.mp hx]; exact ok0, by show 1 ≤ 50; decide⟩, hb5.same s7, ⟨[a0], ?_, rfl, fun i a m e1 e2 => ?_⟩, ⟨(hR5.ap nrl).1, (hR5.ap nrl).2, nrk⟩, upd_same, fun e he => (nomatch he), ?_⟩
      · rw [upd_ne nrk]; exact upd_same
      · cases i with
        | zero => cases e1; cases e2; exact ((hP3.same s4).same s5).same s7
        | succ i => cases e1
      · obtain ⟨dx, fs, e⟩ := hb4.ins
        exact List.nodup_cons.mpr ⟨fun z => ne_of_none e np2 (List.mem_singleton.mp z), by simp⟩
    refine ⟨_, rfl, h, c, 8, rfl, I0.rng, by decide, by decide, fun H8 r8 hR8 hF8 hr8 => ⟨_, _, rfl, rfl, _, rfl, by omega, by omega, ?_⟩⟩
    have I1 := I0.fr G.ne hF8 hR8
    refine for_range (lo := 0) (n := ((3 : Int) + (r8 : Int)).toNat) (fun i σ H => ∃ (p rl : Addr) (ms : List Mac) (ks : List Kept) (v7 v8 v9 v10 v11 v12 : Option V), σ = [some (.ref a), some (.ref h), some (.ref a0), some (.ref p), some (.ref p2), some (.ref rl), some (.ref kl), v7, v8, v9, v10, v11, v12, none] ∧
      LawI G.CB G.C (1 + r) m0 h c a0 p2 kl (ks.map fun e => V.ref e.1) H p rl ms ms ks ∧ ms.length ≤ i + 1 ∧ ks.length ≤ i) ⟨p, rl, [m0], [], none, none, none, none, none, none, rfl, I1, Nat.le_refl _, Nat.le_refl _⟩ ?_ ?_
    · rintro i σ H0 hi ⟨p, rl, ms, ks, v7, v8, v9, v10, v11, v12, rfl, I, hml, hkl⟩
      have hi11 : i < 11 := by omega
      refine ⟨_, rfl, by show 5 ≤ sizeLine; decide, fun l0 nl0 => ?_⟩
      have IA := I.same G.ne (same_new nl0 (o := .lst [.str "deed", .str "deed", .str "deed", .str "undo", .str "copy"]))
      obtain ⟨b1, b2⟩ := I.rng.ap nl0
      refine ⟨h, c, l0, [.str "deed", .str "deed", .str "deed", .str "undo", .str "copy"], rfl, IA.rng, upd_same, b1, b2, by decide, by decide, fun HA kind hkind hRA hFA => ?_⟩
      have I2 := IA.fr G.ne hFA hRA
      obtain ⟨m, hm, okm⟩ := I2.mo.last
      obtain ⟨dx, t, qs, hp, ht, h3, h4⟩ := id I2.bench
      obtain ⟨as, hrl, hrl2, hrl3⟩ := id I2.rows
      have hpos := I2.mo.pos
      have hln : (as.map V.ref).length = ms.length := by rw [List.length_map, hrl2]
      refine ⟨fun σ' H' => ∃ (p rl : Addr) (ms : List Mac) (ks : List Kept) (v7 v8 v9 v10 v11 v12 : Option V), σ' = [some (.ref a), some (.ref h), some (.ref a0), some (.ref p), some (.ref p2), some (.ref rl), some (.ref kl), v7, v8, v9, v10, v11, v12, none] ∧
        LawI G.CB G.C (1 + r) m0 h c a0 p2 kl (ks.map fun e => V.ref e.1) H' p rl ms ms ks ∧ ms.length ≤ i + 2 ∧ ks.length ≤ i + 1, ?_, ?_⟩
      · have hk : kind = .str "undo" ∨ kind = .str "copy" ∨ kind = .str "deed" := by
          simp only [List.mem_cons, List.not_mem_nil, or_false] at hkind
          rcases hkind with e | e | e | e | e
          · exact .inr (.inr e)
          · exact .inr (.inr e)
          · exact .inr (.inr e)
          · exact .inl e
          · exact .inr (.inl e)
        rcases hk with rfl | rfl | rfl
        · -- undo
          refine ⟨_, rfl, rfl, _, rfl, ite_dec rfl ?_⟩
          refine ⟨_, rfl, p, dx, _, rfl, hp, lk_undo _, p, ms, rfl, I2.bench, hpos, fun hm1 => ?_, fun hm1 HB hbut hb' => ?_⟩
          · refine ⟨_, rfl, _, _, rfl, .inl (SqL.of hrl), _, _, rfl, rfl, .bl false, _, rfl, ?_, fun HB sB => ⟨_, rfl, iteF ?_⟩⟩
            · rw [hln, hm1]; exact .same rfl
            refine ⟨_, rfl, _, _, rfl, .inl (SqL.of (sB _ _ hrl)), _, _, rfl, rfl, _, rfl, ?_⟩
            rw [hln, hm1]
            exact iteF ⟨_, rfl, p, rl, ms, ks, _, _, _, _, _, _, rfl, I2.same G.ne sB, by omega, by omega⟩
          · have I3 := I2.but G.ne I2.bench hbut hb' (I2.mo.cut hm1) I2.p2p I2.kp
            obtain ⟨as, hrl, hrl2, hrl3⟩ := id I3.rows
            have hln : (as.map V.ref).length = ms.length := by rw [List.length_map, hrl2]
            have hgt : decide ((1 : Int) < ((ms.length : Nat) : Int)) = true := decide_eq_true (by omega)
            refine ⟨_, rfl, _, _, rfl, .inl (SqL.of hrl), _, _, rfl, rfl, .bl true, _, rfl, ?_, fun HC sC => ⟨_, rfl, iteF ?_⟩⟩
            · rw [hln]
              show Alk _ 0 (.bl true) (.bl (decide ((1 : Int) < ((ms.length : Nat) : Int))))
              rw [hgt]
              exact .same rfl
            refine ⟨_, rfl, _, _, rfl, .inl (SqL.of (sC _ _ hrl)), _, _, rfl, rfl, _, rfl, ?_⟩
            rw [hln, hgt]
            refine iteT ⟨_, rfl, _, rfl, _, rfl, rl, _, rfl, SqL.of (sC _ _ hrl), fun rl' nrl' => ?_⟩
            rw [cut_last _ (by omega)]
            have sD := same_new nrl' (o := .lst (as.map V.ref).dropLast)
            have I4 := I3.same G.ne (sC.trans sD)
            obtain ⟨b3, b4⟩ := (I3.rng.same sC).ap nrl'
            have b5 : rl' ≠ kl := fun z => by
              have := sC _ _ I3.kept
              rw [← z, nrl'] at this
              cases this
            have w' : RowsL (upd HC rl' (.lst (as.map V.ref).dropLast)) rl' ms.dropLast := by
              refine ⟨as.dropLast, by rw [upd_same, List.map_dropLast], by rw [List.length_dropLast, List.length_dropLast, hrl2], fun j a' m' e1 e2 => ?_⟩
              rw [List.dropLast_eq_take, List.getElem?_take] at e1 e2
              by_cases hj : j < as.length - 1
              · rw [if_pos hj] at e1
                rw [if_pos (by omega)] at e2
                exact (hrl3 j a' m' e1 e2).same (sC.trans sD)
              · rw [if_neg hj] at e1; cases e1
            exact ⟨p, rl', ms.dropLast, ks, _, _, _, _, _, _, rfl, I4.row w' ⟨b3, b4, b5⟩, by rw [List.length_dropLast]; omega, by omega⟩
        · -- copy
          refine ⟨_, rfl, rfl, _, rfl, ite_ndec str_cu ?_⟩
          refine ⟨_, rfl, rfl, _, rfl, ite_dec rfl ?_⟩
          refine ⟨_, rfl, p, dx, _, rfl, hp, lk_copy _, p, ms, rfl, I2.bench, hpos, fun HB x sB nx hbx => ?_⟩
          have I3 := I2.same G.ne sB
          refine ⟨_, rfl, h, c, 2, rfl, I3.rng, by decide, by decide, fun HC z hRC hFC hz => ⟨rfl, _, rfl, ?_⟩⟩
          have I4 := I3.fr G.ne hFC hRC
          have hbx4 : BenchAt G.CB G.C HC x ms := hbx.keep G.ne hFC.keep I3.rng.mtb (nb_rng I3.rng hbx)
          have nbx : ∀ {q : Addr} {ys : List Mac}, BenchAt G.CB G.C HA q ys → x ≠ q := fun b => by
            obtain ⟨_, _, e⟩ := b.ins
            exact (ne_of_none e nx).symm
          have nxs : x ∉ p :: p2 :: ks.map (·.2.1) := fun z => by
            rcases List.mem_cons.mp z with z | z
            · exact nbx I2.bench z
            · rcases List.mem_cons.mp z with z | z
              · exact nbx I2.side z
              · obtain ⟨e, he, e1⟩ := List.mem_map.mp z
                exact nbx (I2.each e he).bench e1.symm
          have fin : ∀ p' q : Addr, ((p' = p ∧ q = x) ∨ (p' = x ∧ q = p)) → ∀ T, HC T = none → LawI G.CB G.C (1 + r) m0 h c a0 p2 kl ((ks.map fun e => V.ref e.1) ++ [.ref T]) (upd (upd HC T (.tup [.ref q, .ref rl])) kl (.lst ((ks.map fun e => V.ref e.1) ++ [.ref T]))) p' rl ms ms (ks ++ [(T, q, rl, ms)]) := fun p' q sel T nT =>
            (I4.same G.ne (same_new nT (o := .tup [.ref q, .ref rl]))).add G.ne (hbx4.same (same_new nT)) nxs upd_same sel
          have emap : ∀ (T q : Addr), (ks.map fun e : Kept => V.ref e.1) ++ [V.ref T] = (ks ++ [((T, q, rl, ms) : Kept)]).map fun e : Kept => V.ref e.1 := fun T q => by rw [List.map_append]; rfl
          show if decide (vi z = V.int 0) = true then _ else _
          rw [vi_zero]
          by_cases hz0 : z = 0
          · rw [decide_eq_true hz0]
            refine iteT ⟨_, rfl, _, rfl, _, _, rfl, ?_⟩
            refine ⟨_, rfl, .inl ⟨rfl, _, SqL.of I4.kept⟩, _, rfl, _, rfl, two_line, fun T nT => ?_⟩
            have I5 := fin x p (.inr ⟨rfl, rfl⟩) T nT
            refine ⟨kl, _, _, rfl, rfl, same_new nT _ _ I4.kept, small1000 (by rw [List.length_map]; omega), ?_⟩
            refine ⟨x, rl, ms, ks ++ [(T, p, rl, ms)], _, _, _, _, _, _, rfl, ?_, by omega, by rw [List.length_append, List.length_singleton]; omega⟩
            rw [← emap T p]
            exact I5
          · rw [decide_eq_false hz0]
            refine iteF ?_
            refine ⟨_, rfl, .inl ⟨rfl, _, SqL.of I4.kept⟩, _, rfl, _, rfl, two_line, fun T nT => ?_⟩
            have I5 := fin p x (.inl ⟨rfl, rfl⟩) T nT
            refine ⟨kl, _, _, rfl, rfl, same_new nT _ _ I4.kept, small1000 (by rw [List.length_map]; omega), ?_⟩
            refine ⟨p, rl, ms, ks ++ [(T, x, rl, ms)], _, _, _, _, _, _, rfl, ?_, by omega, by rw [List.length_append, List.length_singleton]; omega⟩
            rw [← emap T x]
            exact I5
        · -- deed
          refine ⟨_, rfl, rfl, _, rfl, ite_ndec str_un ?_⟩
          refine ⟨_, rfl, rfl, _, rfl, ite_ndec str_dc ?_⟩
          refine ⟨_, rfl, ?_⟩
          refine rd_last (i := 5) rfl I2.rows hm fun am ham => ?_
          refine ⟨h, c, am, m, 1 + r, rfl, I2.rng, ham, okm, fun HB u hRB hFB hd => ?_⟩
          have I3 := I2.fr G.ne hFB hRB
          obtain ⟨T, z, xs, due, nm, rfl, hT, hz, d⟩ := hd
          obtain ⟨fdue, hdue⟩ := d.due
          refine ⟨T, _, rfl, SqT.of hT, rfl, _, _, rfl, _, _, rfl, rfl, ?_⟩
          refine ⟨fun σ' H' => ∃ (rl : Addr) (mr : List Mac) (dv : V) (v8 v12 : Option V), σ' = [some (.ref a), some (.ref h), some (.ref a0), some (.ref p), some (.ref p2), some (.ref rl), some (.ref kl), some (.int (0 + (i : Int))), v8, v9, some (.ref z), some dv, v12, none] ∧
            LawI G.CB G.C (1 + r) m0 h c a0 p2 kl (ks.map fun e => V.ref e.1) H' p rl ms mr ks ∧ H' z = some (.tup xs) ∧ (∀ m', nm = some m' → mr = ms ++ [m'] ∧ ∃ r', ResM m0 m' r' ∧ dv = optV r') ∧ (nm = none → mr = ms ∧ dv = due), ?_, ?_⟩
          · refine ⟨_, rfl, rfl, _, rfl, ?_⟩
            rcases hdue with ⟨m', e1, e2⟩ | ⟨e1, e2⟩
            · subst e1 e2
              have okm' := d.okM okm
              refine ite_dec rfl ?_
              obtain ⟨as, hrl, hrl2, hrl3⟩ := id I3.rows
              refine ⟨_, rfl, ?_⟩
              refine rd_last (i := 5) rfl I3.rows hm fun am2 ham2 => ?_
              refine ⟨_, rfl, am2, z, m, 1 + r, xs, _, m', rfl, ham2, okm, hz, d, fun HC a' sC haP => ⟨by show 1 ≤ sizeLine; decide, fun l1 nl1 => ?_⟩⟩
              have sD := sC.trans (same_new nl1 (o := .lst [.ref a']))
              refine ⟨rl, l1, _, _, rfl, rfl, sD _ _ hrl, upd_same, Nat.le_of_lt (small1000 (by rw [List.length_map, hrl2]; show _ + 1 ≤ 1000; omega)), fun l2 nl2 => ?_⟩
              have sE := sD.trans (same_new nl2 (o := .lst (as.map V.ref ++ [.ref a'])))
              have I4 := I3.same G.ne sE
              have w' : RowsL (upd (upd HC l1 (.lst [.ref a'])) l2 (.lst (as.map V.ref ++ [.ref a']))) l2 (ms ++ [m']) := by
                refine ⟨as ++ [a'], by rw [upd_same, List.map_append]; rfl, by rw [List.length_append, List.length_append, hrl2]; rfl, fun j b' mm e1 e2 => ?_⟩
                by_cases hj : j < as.length
                · rw [List.getElem?_append_left hj] at e1
                  rw [List.getElem?_append_left (by omega)] at e2
                  exact (hrl3 j b' mm e1 e2).same sE
                · have hl := (List.getElem?_eq_some_iff.mp e1).1
                  rw [List.length_append, List.length_singleton] at hl
                  have ej : j = as.length := by omega
                  subst ej
                  rw [List.getElem?_append_right (Nat.le_refl _), Nat.sub_self] at e1
                  rw [hrl2, List.getElem?_append_right (Nat.le_refl _), Nat.sub_self] at e2
                  cases e1
                  cases e2
                  exact (haP.same (same_new nl1)).same (same_new nl2)
              obtain ⟨b3, b4⟩ := (I3.rng.same sD).ap nl2
              have b5 : l2 ≠ kl := fun z => by
                have := sD _ _ I3.kept
                rw [← z, nl2] at this
                cases this
              have I5 := I4.row w' ⟨b3, b4, b5⟩
              have hz5 := sE _ _ hz
              refine ⟨_, rfl, ?_⟩
              refine rd_last (i := 5) rfl I5.rows last_app fun am3 ham3 => ?_
              refine ⟨two_line, fun bb nbb => ?_⟩
              have sF := same_new nbb (o := .tup [.int 0, .int 0])
              refine ⟨a0, am3, bb, m0, m', 1 + r, rfl, I5.parts.same sF, ham3.same sF, ok0, okm', SqT.of upd_same, fun HG sG hres => ?_, fun HG ta n far sG hres hta => ?_⟩
              · exact ⟨_, rfl, rfl, _, rfl, iteF ⟨l2, ms ++ [m'], .non, _, _, rfl, I5.same G.ne (sF.trans sG), (sF.trans sG) _ _ hz5, fun m2 e => by cases e; exact ⟨rfl, none, hres, rfl⟩, fun e => nomatch e⟩⟩
              · exact ⟨_, rfl, rfl, _, rfl, iteT ⟨_, rfl, _, _, _, _, rfl, rfl, SqT.of hta, atI_nat (j := 0) rfl, l2, ms ++ [m'], _, _, _, rfl, I5.same G.ne (sF.trans sG), (sF.trans sG) _ _ hz5, fun m2 e => by cases e; exact ⟨rfl, some n, hres, rfl⟩, fun e => nomatch e⟩⟩
            · exact ite_ndec e2 ⟨rl, ms, due, _, _, rfl, I3, hz, fun m2 e => (by rw [e1] at e; cases e), fun _ => ⟨rfl, rfl⟩⟩
          rintro σ' HC ⟨rl', mr, dv, v8', v12', rfl, I4, hz4, hsome, hnone⟩
          refine ⟨_, rfl, _, rfl, p, z, ms, 1 + r, m0, m, xs, due, nm, rfl, I4.bench, I4.mo, hm, hz4, d, fun m' e HD r' hbut hb' hres => ?_, fun e => ?_⟩
          · obtain ⟨e1, r2, hres2, e2⟩ := hsome m' e
            subst e e1 e2
            have er : r2 = r' := Res.inj hres2 hres
            subst er
            have I5 := I4.but G.ne I4.bench hbut hb' (I4.mo.add (d.okM okm) (by omega)) I4.p2p I4.kp
            refine ⟨_, rfl, _, _, rfl, .same (optV_flat r2), fun HE sE => ⟨_, rfl, iteF ⟨p, rl', ms ++ [m'], ks, _, _, _, _, _, _, rfl, I5.same G.ne sE, by rw [List.length_append, List.length_singleton]; omega, by omega⟩⟩⟩
          · obtain ⟨e1, e2⟩ := hnone e
            subst e1 e2
            refine ⟨_, rfl, _, _, rfl, .same fdue, fun HE sE => ⟨_, rfl, iteF ⟨p, rl', _, ks, _, _, _, _, _, _, rfl, I4.same G.ne sE, by omega, by omega⟩⟩⟩
      · -- if not stands_so(bench, rows)
        rintro σ' HB ⟨p, rl, ms, ks, v7, v8, v9, v10, v11, v12, rfl, I3, hml', hkl'⟩
        refine ⟨_, rfl, _, rfl, p, rl, ms, 1 + r, m0, rfl, I3.bench, I3.rows, I3.mo, fun HC sC => ⟨_, rfl, iteF ?_⟩⟩
        exact ⟨p, rl, ms, ks, _, _, _, _, _, _, rfl, I3.same G.ne sC, by omega, hkl'⟩
    · -- for elder, some in kept
      rintro σ H9 ⟨p, rl, ms, ks, v7, v8, v9, v10, v11, v12, rfl, I, hml, hkl⟩
      refine ⟨_, rfl, kl, rfl, ⟨_, SqL.of I.kept⟩, for_list (K := K) (a := kl) (xs := ks.map fun e => V.ref e.1) (fun j σ H => ∃ (v10 v13 : Option V), σ = [some (.ref a), some (.ref h), some (.ref a0), some (.ref p), some (.ref p2), some (.ref rl), some (.ref kl), v7, v8, v9, v10, v11, v12, v13] ∧
        LawI G.CB G.C (1 + r) m0 h c a0 p2 kl (ks.map fun e => V.ref e.1) H p rl ms ms (ks.drop j)) ⟨v10, none, rfl, I⟩ (fun _ _ _ _ ⟨_, _, _, I2⟩ => SqL.of I2.kept) ?_ ?_⟩
      · rintro j x σ H hx ⟨v10, v13, rfl, I2⟩
        obtain ⟨e, he, rfl⟩ := map_get hx
        have hd : ks.drop j = e :: ks.drop (j + 1) := by
          obtain ⟨hj, e1⟩ := List.getElem?_eq_some_iff.mp he
          rw [← e1]
          exact List.drop_eq_getElem_cons hj
        rw [hd] at I2
        have q := I2.each e (List.mem_cons_self ..)
        obtain ⟨n1, n2, n3⟩ := I2.first
        refine ⟨e.1, _, rfl, SqT.of q.tup, rfl, _, _, rfl, _, _, rfl, rfl, ?_⟩
        refine ⟨_, rfl, _, rfl, e.2.1, e.2.2.1, e.2.2.2, 1 + r, m0, rfl, q.bench, q.rows, q.mo, fun HB sB => ⟨_, rfl, iteF ?_⟩⟩
        have I3 := I2.same G.ne sB
        have q3 := I3.each e (List.mem_cons_self ..)
        obtain ⟨dx, t, qs, hp, ht, h3, h4⟩ := id q3.bench
        have hln : ∀ {H' : Hp}, RowsL H' e.2.2.1 e.2.2.2 → ∃ as : List V, H' e.2.2.1 = some (.lst as) ∧ as.length = e.2.2.2.length := fun ⟨as, h1, h2, _⟩ => ⟨_, h1, by rw [List.length_map, h2]⟩
        refine ⟨_, rfl, e.2.1, dx, _, rfl, hp, lk_undo _, e.2.1, e.2.2.2, rfl, q3.bench, q3.mo.pos, fun hm1 => ?_, fun hm1 HC hbut hb' => ?_⟩
        · obtain ⟨as, hr1, hr2⟩ := hln q3.rows
          refine ⟨_, rfl, _, _, rfl, .inl (SqL.of hr1), _, _, rfl, rfl, .bl false, _, rfl, ?_, fun HD sD => ⟨_, rfl, iteF ?_⟩⟩
          · rw [hr2, hm1]; exact .same rfl
          · exact ⟨_, _, rfl, I3.drop.same G.ne sD⟩
        · have I4 := I3.drop.but G.ne q3.bench hbut (I3.bench.keep G.ne hbut.keep q3.bench.mtb fun z => n1 (List.mem_singleton.mp z)) I3.mo n2 n3
          obtain ⟨as, hr1, hr2⟩ := hln (q3.rows.keep hbut.keep q3.bench.mtb fun z => by
            obtain ⟨as, hr1, _⟩ := q3.rows
            exact bench_ne_list q3.bench hr1 (List.mem_singleton.mp z).symm)
          have hgt : decide ((1 : Int) < ((e.2.2.2.length : Nat) : Int)) = true := decide_eq_true (by omega)
          refine ⟨_, rfl, _, _, rfl, .inl (SqL.of hr1), _, _, rfl, rfl, .bl true, _, rfl, ?_, fun HD sD => ⟨_, rfl, iteF ?_⟩⟩
          · rw [hr2]
            show Alk _ 0 (.bl true) (.bl (decide ((1 : Int) < ((e.2.2.2.length : Nat) : Int))))
            rw [hgt]
            exact .same rfl
          · exact ⟨_, _, rfl, I4.same G.ne sD⟩
      · -- return stands_so(bench, rows) and stands_so(side, [parts])
        rintro σ H ⟨v10, v13, rfl, I2⟩
        refine ⟨_, rfl, _, rfl, p, rl, ms, 1 + r, m0, rfl, I2.bench, I2.rows, I2.mo, fun HB sB => ⟨true, rfl, iteT ?_⟩⟩
        have I3 := I2.same G.ne sB
        refine ⟨_, rfl, _, rfl, by show 1 ≤ sizeLine; decide, fun l1 nl1 => ?_⟩
        have sC := same_new nl1 (o := .lst [.ref a0])
        refine ⟨p2, l1, [m0], 1 + r, m0, rfl, I3.side.same sC, ⟨[a0], upd_same, rfl, fun i a m e1 e2 => ?_⟩, ⟨rfl, fun x hx => by rw [List.mem_singleton.mp hx]; exact ok0, by show 1 ≤ 50; decide⟩, fun H' _ => kk H'⟩
        cases i with
        | zero => cases e1; cases e2; exact I3.parts.same sC
        | succ i => cases e1
end
end Bf
set_option Elab.async false
set_option linter.all false
set_option maxRecDepth 100000
set_option maxHeartbeats 8000000
/-! BfEnd: what the top has written; the law's statement. -/
namespace Bf
open PySem PySem.Spec PyProof.Rows L2
theorem all_mk {l : PySem.W.OpenLaw} {w : World} {K : PySem.W.Frag} {h : Heap} {mg : Str → Option Value} {fa : Addr} (X : K.In h) (G : h.Ns mainGlobals mg) (hfa : mg "law" = some (.ref fa))
    {C CB CS CP CM bb : Addr} {tS tL tb1 tb2 : Tok} {dB : Option Addr} {nB : Nat} {slB : Array (Option Value)}
    {oc_isInt kV_isInt dc_isInt pm_isInt cd_isInt ct_isInt : Value} {od_isInt an_isInt : Option Addr} {sl_isInt : Array (Option Value)} {f_isInt : Addr}
    {oc_checkSteps kV_checkSteps dc_checkSteps pm_checkSteps cd_checkSteps ct_checkSteps : Value} {od_checkSteps an_checkSteps : Option Addr} {sl_checkSteps : Array (Option Value)} {f_checkSteps : Addr}
    {oc_checkGood kV_checkGood dc_checkGood pm_checkGood cd_checkGood ct_checkGood : Value} {od_checkGood an_checkGood : Option Addr} {sl_checkGood : Array (Option Value)} {f_checkGood : Addr}
    {oc_checkStand kV_checkStand dc_checkStand pm_checkStand cd_checkStand ct_checkStand : Value} {od_checkStand an_checkStand : Option Addr} {sl_checkStand : Array (Option Value)} {f_checkStand : Addr}
    {oc_checkPair kV_checkPair dc_checkPair pm_checkPair cd_checkPair ct_checkPair : Value} {od_checkPair an_checkPair : Option Addr} {sl_checkPair : Array (Option Value)} {f_checkPair : Addr}
    {oc_isUnlike kV_isUnlike dc_isUnlike pm_isUnlike cd_isUnlike ct_isUnlike : Value} {od_isUnlike an_isUnlike : Option Addr} {sl_isUnlike : Array (Option Value)} {f_isUnlike : Addr}
    {oc_goals kV_goals dc_goals pm_goals cd_goals ct_goals : Value} {od_goals an_goals : Option Addr} {sl_goals : Array (Option Value)} {f_goals : Addr}
    {oc_comeTo kV_comeTo dc_comeTo pm_comeTo cd_comeTo ct_comeTo : Value} {od_comeTo an_comeTo : Option Addr} {sl_comeTo : Array (Option Value)} {f_comeTo : Addr}
    {oc_useful kV_useful dc_useful pm_useful cd_useful ct_useful : Value} {od_useful an_useful : Option Addr} {sl_useful : Array (Option Value)} {f_useful : Addr}
    {oc_counted kV_counted dc_counted pm_counted cd_counted ct_counted : Value} {od_counted an_counted : Option Addr} {sl_counted : Array (Option Value)} {f_counted : Addr}
    {oc_countUnlike kV_countUnlike dc_countUnlike pm_countUnlike cd_countUnlike ct_countUnlike : Value} {od_countUnlike an_countUnlike : Option Addr} {sl_countUnlike : Array (Option Value)} {f_countUnlike : Addr}
    {oc_withStep kV_withStep dc_withStep pm_withStep cd_withStep ct_withStep : Value} {od_withStep an_withStep : Option Addr} {sl_withStep : Array (Option Value)} {f_withStep : Addr}
    {oc_step kV_step dc_step pm_step cd_step ct_step : Value} {od_step an_step : Option Addr} {sl_step : Array (Option Value)} {f_step : Addr}
    {oc_alike kV_alike dc_alike pm_alike cd_alike ct_alike : Value} {od_alike an_alike : Option Addr} {sl_alike : Array (Option Value)} {f_alike : Addr}
    {oc_mix kV_mix dc_mix pm_mix cd_mix ct_mix : Value} {od_mix an_mix : Option Addr} {sl_mix : Array (Option Value)} {f_mix : Addr}
    {oc_next kV_next dc_next pm_next cd_next ct_next : Value} {od_next an_next : Option Addr} {sl_next : Array (Option Value)} {f_next : Addr}
    {oc_pick kV_pick dc_pick pm_pick cd_pick ct_pick : Value} {od_pick an_pick : Option Addr} {sl_pick : Array (Option Value)} {f_pick : Addr}
    {oc_parts kV_parts dc_parts pm_parts cd_parts ct_parts : Value} {od_parts an_parts : Option Addr} {sl_parts : Array (Option Value)} {f_parts : Addr}
    {oc_lengths kV_lengths dc_lengths pm_lengths cd_lengths ct_lengths : Value} {od_lengths an_lengths : Option Addr} {sl_lengths : Array (Option Value)} {f_lengths : Addr}
    {oc_pairs kV_pairs dc_pairs pm_pairs cd_pairs ct_pairs : Value} {od_pairs an_pairs : Option Addr} {sl_pairs : Array (Option Value)} {f_pairs : Addr}
    {oc_unlike kV_unlike dc_unlike pm_unlike cd_unlike ct_unlike : Value} {od_unlike an_unlike : Option Addr} {sl_unlike : Array (Option Value)} {f_unlike : Addr}
    {oc_done kV_done dc_done pm_done cd_done ct_done : Value} {od_done an_done : Option Addr} {sl_done : Array (Option Value)} {f_done : Addr}
    {oc_later kV_later dc_later pm_later cd_later ct_later : Value} {od_later an_later : Option Addr} {sl_later : Array (Option Value)} {f_later : Addr}
    {oc_stands kV_stands dc_stands pm_stands cd_stands ct_stands : Value} {od_stands an_stands : Option Addr} {sl_stands : Array (Option Value)} {f_stands : Addr}
    {oc_drawn kV_drawn dc_drawn pm_drawn cd_drawn ct_drawn : Value} {od_drawn an_drawn : Option Addr} {sl_drawn : Array (Option Value)} {f_drawn : Addr}
    {oc_law kV_law dc_law pm_law cd_law ct_law : Value} {od_law an_law : Option Addr} {sl_law : Array (Option Value)} {f_law : Addr}
    {oc_mmInit kV_mmInit dc_mmInit pm_mmInit cd_mmInit ct_mmInit : Value} {od_mmInit an_mmInit : Option Addr} {sl_mmInit : Array (Option Value)} {f_mmInit : Addr}
    {oc_mbInit kV_mbInit dc_mbInit pm_mbInit cd_mbInit ct_mbInit : Value} {od_mbInit an_mbInit : Option Addr} {sl_mbInit : Array (Option Value)} {f_mbInit : Addr}
    {oc_mlead kV_mlead dc_mlead pm_mlead cd_mlead ct_mlead : Value} {od_mlead an_mlead : Option Addr} {sl_mlead : Array (Option Value)} {f_mlead : Addr}
    {oc_mturn kV_mturn dc_mturn pm_mturn cd_mturn ct_mturn : Value} {od_mturn an_mturn : Option Addr} {sl_mturn : Array (Option Value)} {f_mturn : Addr}
    {oc_mundo kV_mundo dc_mundo pm_mundo cd_mundo ct_mundo : Value} {od_mundo an_mundo : Option Addr} {sl_mundo : Array (Option Value)} {f_mundo : Addr}
    {oc_mcopy kV_mcopy dc_mcopy pm_mcopy cd_mcopy ct_mcopy : Value} {od_mcopy an_mcopy : Option Addr} {sl_mcopy : Array (Option Value)} {f_mcopy : Addr}
    {oc_mblen kV_mblen dc_mblen pm_mblen cd_mblen ct_mblen : Value} {od_mblen an_mblen : Option Addr} {sl_mblen : Array (Option Value)} {f_mblen : Addr}
    {p_steps : Addr} {rest_steps : List Value}
    {oc_psteps kV_psteps dc_psteps pm_psteps cd_psteps ct_psteps : Value} {od_psteps an_psteps : Option Addr} {sl_psteps : Array (Option Value)} {f_psteps : Addr}
    {p_good : Addr} {rest_good : List Value}
    {oc_pgood kV_pgood dc_pgood pm_pgood cd_pgood ct_pgood : Value} {od_pgood an_pgood : Option Addr} {sl_pgood : Array (Option Value)} {f_pgood : Addr}
    {p_machine : Addr} {rest_machine : List Value}
    {oc_pmachine kV_pmachine dc_pmachine pm_pmachine cd_pmachine ct_pmachine : Value} {od_pmachine an_pmachine : Option Addr} {sl_pmachine : Array (Option Value)} {f_pmachine : Addr}
    (a_C : PySem.W.nsIn K mainGlobals "Machine" = some (some (.ref C)))
    (a_CB : PySem.W.nsIn K mainGlobals "Bench" = some (some (.ref CB)))
    (a_CS : PySem.W.nsIn K mainGlobals "BadStand" = some (some (.ref CS)))
    (a_CP : PySem.W.nsIn K mainGlobals "BadStep" = some (some (.ref CP)))
    (a_CM : PySem.W.nsIn K mainGlobals "MachineError" = some (some (.ref CM)))
    (pg_C : PySem.W.plainGet K C Str.empty = true)
    (hd_C : PySem.W.hasDictIn K C = true)
    (po_C : PySem.W.plainOver K C = true)
    (sa_C : PySem.W.findIn K (.ref C) "__setattr__" = some (some (.builtin "object.__setattr__")))
    (mk_C : PySem.W.makesIn K C = true)
    (kc_C : PySem.W.keepIn K (.ref C) = true)
    (na_C : PySem.W.findIn K (.ref C) "parts" = some none)
    (pg_CB : PySem.W.plainGet K CB Str.empty = true)
    (hd_CB : PySem.W.hasDictIn K CB = true)
    (po_CB : PySem.W.plainOver K CB = true)
    (sa_CB : PySem.W.findIn K (.ref CB) "__setattr__" = some (some (.builtin "object.__setattr__")))
    (mk_CB : PySem.W.makesIn K CB = true)
    (kc_CB : PySem.W.keepIn K (.ref CB) = true)
    (na_CB : PySem.W.findIn K (.ref CB) "past" = some none)
    (nl_C : PySem.W.findIn K (.ref C) "lead" = some none)
    (ex_CS : PySem.W.excIn K CS [.type "ValueError", .type "Exception", .type "BaseException", .type "object"] "ValueError.__new__" = true)
    (kx_CS : PySem.W.keepIn K (.ref CS) = true)
    (sb_CS : PySem.W.subIn K (.ref CS) (.type "BaseException") = some true)
    (ty_CS : PySem.W.typeIn K (.ref CS) = some (.type "type"))
    (xg_CS : PySem.W.findIn K (.ref CS) "__getattribute__" = some (some (.builtin "BaseException.__getattribute__")))
    (xk_CS : PySem.W.findIn K (.ref CS) "__getattr__" = some none)
    (xd_CS : PySem.W.hasDictIn K CS = true)
    (xa_CS : PySem.W.findIn K (.ref CS) "__class__" = some (some (.builtin "object.__class__")))
    (xm_CS : PySem.W.mroIn K CS (.type "object") = some true)
    (kt_CS : PySem.W.kitOne K (.ref CS) (.ref CM) = some true)
    (ex_CP : PySem.W.excIn K CP [.type "ValueError", .type "Exception", .type "BaseException", .type "object"] "ValueError.__new__" = true)
    (kx_CP : PySem.W.keepIn K (.ref CP) = true)
    (sb_CP : PySem.W.subIn K (.ref CP) (.type "BaseException") = some true)
    (ty_CP : PySem.W.typeIn K (.ref CP) = some (.type "type"))
    (xg_CP : PySem.W.findIn K (.ref CP) "__getattribute__" = some (some (.builtin "BaseException.__getattribute__")))
    (xk_CP : PySem.W.findIn K (.ref CP) "__getattr__" = some none)
    (xd_CP : PySem.W.hasDictIn K CP = true)
    (xa_CP : PySem.W.findIn K (.ref CP) "__class__" = some (some (.builtin "object.__class__")))
    (xm_CP : PySem.W.mroIn K CP (.type "object") = some true)
    (kt_CP : PySem.W.kitOne K (.ref CP) (.ref CM) = some true)
    (xn : PySem.W.specialIn K (.builtin "object.__class__") "__get__" = some (some (.builtin "getset_descriptor.__get__")))
    (xt : PySem.W.takesIn K (.builtin "object.__class__") = some true)
    (em_SS : PySem.W.exmOne K (.ref CS) (.ref CS) = some true)
    (em_PS : PySem.W.exmOne K (.ref CP) (.ref CS) = some false)
    (em_PP : PySem.W.exmOne K (.ref CP) (.ref CP) = some true)
    (a_MS : PySem.W.nsIn K mainGlobals "MOST_STANDS" = some (some (.int 8 tS)))
    (a_ML : PySem.W.nsIn K mainGlobals "MOST_LETTERS" = some (some (.int 3 tL)))
    (a_BG : PySem.W.nsIn K mainGlobals "BEGIN" = some (some (.ref bb)))
    (l_BG : K.lookup bb = some ⟨.type "tuple", dB, .seq #[.int 0 tb1, .int 0 tb2] nB, slB⟩)
    (z_isinstance : PySem.W.nsIn K mainGlobals "isinstance" = some none)
    (z_int : PySem.W.nsIn K mainGlobals "int" = some none)
    (z_bool : PySem.W.nsIn K mainGlobals "bool" = some none)
    (z_str : PySem.W.nsIn K mainGlobals "str" = some none)
    (z_tuple : PySem.W.nsIn K mainGlobals "tuple" = some none)
    (z_list : PySem.W.nsIn K mainGlobals "list" = some none)
    (z_len : PySem.W.nsIn K mainGlobals "len" = some none)
    (z_enumerate : PySem.W.nsIn K mainGlobals "enumerate" = some none)
    (z_all : PySem.W.nsIn K mainGlobals "all" = some none)
    (z_any : PySem.W.nsIn K mainGlobals "any" = some none)
    (z_sum : PySem.W.nsIn K mainGlobals "sum" = some none)
    (z_max : PySem.W.nsIn K mainGlobals "max" = some none)
    (z_min : PySem.W.nsIn K mainGlobals "min" = some none)
    (z_zip : PySem.W.nsIn K mainGlobals "zip" = some none)
    (z_sorted : PySem.W.nsIn K mainGlobals "sorted" = some none)
    (z_range : PySem.W.nsIn K mainGlobals "range" = some none)
    (a_isInt : PySem.W.nsIn K mainGlobals "is_integer" = some (some (.ref f_isInt)))
    (l_isInt : K.lookup f_isInt = some ⟨oc_isInt, od_isInt, .func (PySem.W.fnOf "is_integer" "is_integer" (defArgs sIsInt) (defBody sIsInt) (defScope sIsInt) .none kV_isInt dc_isInt pm_isInt an_isInt cd_isInt ct_isInt), sl_isInt⟩)
    (c_isInt : PySem.W.codeIn K cd_isInt "is_integer" = true)
    (k_isInt : PySem.W.keepIn K (.ref f_isInt) = true)
    (a_checkSteps : PySem.W.nsIn K mainGlobals "check_steps" = some (some (.ref f_checkSteps)))
    (l_checkSteps : K.lookup f_checkSteps = some ⟨oc_checkSteps, od_checkSteps, .func (PySem.W.fnOf "check_steps" "check_steps" (defArgs sCheckSteps) (defBody sCheckSteps) (defScope sCheckSteps) .none kV_checkSteps dc_checkSteps pm_checkSteps an_checkSteps cd_checkSteps ct_checkSteps), sl_checkSteps⟩)
    (c_checkSteps : PySem.W.codeIn K cd_checkSteps "check_steps" = true)
    (k_checkSteps : PySem.W.keepIn K (.ref f_checkSteps) = true)
    (a_checkGood : PySem.W.nsIn K mainGlobals "check_good" = some (some (.ref f_checkGood)))
    (l_checkGood : K.lookup f_checkGood = some ⟨oc_checkGood, od_checkGood, .func (PySem.W.fnOf "check_good" "check_good" (defArgs sCheckGood) (defBody sCheckGood) (defScope sCheckGood) .none kV_checkGood dc_checkGood pm_checkGood an_checkGood cd_checkGood ct_checkGood), sl_checkGood⟩)
    (c_checkGood : PySem.W.codeIn K cd_checkGood "check_good" = true)
    (k_checkGood : PySem.W.keepIn K (.ref f_checkGood) = true)
    (a_checkStand : PySem.W.nsIn K mainGlobals "check_stand" = some (some (.ref f_checkStand)))
    (l_checkStand : K.lookup f_checkStand = some ⟨oc_checkStand, od_checkStand, .func (PySem.W.fnOf "check_stand" "check_stand" (defArgs sCheckStand) (defBody sCheckStand) (defScope sCheckStand) .none kV_checkStand dc_checkStand pm_checkStand an_checkStand cd_checkStand ct_checkStand), sl_checkStand⟩)
    (c_checkStand : PySem.W.codeIn K cd_checkStand "check_stand" = true)
    (k_checkStand : PySem.W.keepIn K (.ref f_checkStand) = true)
    (a_checkPair : PySem.W.nsIn K mainGlobals "check_pair" = some (some (.ref f_checkPair)))
    (l_checkPair : K.lookup f_checkPair = some ⟨oc_checkPair, od_checkPair, .func (PySem.W.fnOf "check_pair" "check_pair" (defArgs sCheckPair) (defBody sCheckPair) (defScope sCheckPair) .none kV_checkPair dc_checkPair pm_checkPair an_checkPair cd_checkPair ct_checkPair), sl_checkPair⟩)
    (c_checkPair : PySem.W.codeIn K cd_checkPair "check_pair" = true)
    (k_checkPair : PySem.W.keepIn K (.ref f_checkPair) = true)
    (a_isUnlike : PySem.W.nsIn K mainGlobals "is_unlike" = some (some (.ref f_isUnlike)))
    (l_isUnlike : K.lookup f_isUnlike = some ⟨oc_isUnlike, od_isUnlike, .func (PySem.W.fnOf "is_unlike" "is_unlike" (defArgs sIsUnlike) (defBody sIsUnlike) (defScope sIsUnlike) .none kV_isUnlike dc_isUnlike pm_isUnlike an_isUnlike cd_isUnlike ct_isUnlike), sl_isUnlike⟩)
    (c_isUnlike : PySem.W.codeIn K cd_isUnlike "is_unlike" = true)
    (k_isUnlike : PySem.W.keepIn K (.ref f_isUnlike) = true)
    (a_goals : PySem.W.nsIn K mainGlobals "goals_of" = some (some (.ref f_goals)))
    (l_goals : K.lookup f_goals = some ⟨oc_goals, od_goals, .func (PySem.W.fnOf "goals_of" "goals_of" (defArgs sGoals) (defBody sGoals) (defScope sGoals) .none kV_goals dc_goals pm_goals an_goals cd_goals ct_goals), sl_goals⟩)
    (c_goals : PySem.W.codeIn K cd_goals "goals_of" = true)
    (k_goals : PySem.W.keepIn K (.ref f_goals) = true)
    (a_comeTo : PySem.W.nsIn K mainGlobals "come_to" = some (some (.ref f_comeTo)))
    (l_comeTo : K.lookup f_comeTo = some ⟨oc_comeTo, od_comeTo, .func (PySem.W.fnOf "come_to" "come_to" (defArgs sComeTo) (defBody sComeTo) (defScope sComeTo) .none kV_comeTo dc_comeTo pm_comeTo an_comeTo cd_comeTo ct_comeTo), sl_comeTo⟩)
    (c_comeTo : PySem.W.codeIn K cd_comeTo "come_to" = true)
    (k_comeTo : PySem.W.keepIn K (.ref f_comeTo) = true)
    (a_useful : PySem.W.nsIn K mainGlobals "useful" = some (some (.ref f_useful)))
    (l_useful : K.lookup f_useful = some ⟨oc_useful, od_useful, .func (PySem.W.fnOf "useful" "useful" (defArgs sUseful) (defBody sUseful) (defScope sUseful) .none kV_useful dc_useful pm_useful an_useful cd_useful ct_useful), sl_useful⟩)
    (c_useful : PySem.W.codeIn K cd_useful "useful" = true)
    (k_useful : PySem.W.keepIn K (.ref f_useful) = true)
    (a_counted : PySem.W.nsIn K mainGlobals "counted" = some (some (.ref f_counted)))
    (l_counted : K.lookup f_counted = some ⟨oc_counted, od_counted, .func (PySem.W.fnOf "counted" "counted" (defArgs sCounted) (defBody sCounted) (defScope sCounted) .none kV_counted dc_counted pm_counted an_counted cd_counted ct_counted), sl_counted⟩)
    (c_counted : PySem.W.codeIn K cd_counted "counted" = true)
    (k_counted : PySem.W.keepIn K (.ref f_counted) = true)
    (a_countUnlike : PySem.W.nsIn K mainGlobals "count_unlike" = some (some (.ref f_countUnlike)))
    (l_countUnlike : K.lookup f_countUnlike = some ⟨oc_countUnlike, od_countUnlike, .func (PySem.W.fnOf "count_unlike" "count_unlike" (defArgs sCountUnlike) (defBody sCountUnlike) (defScope sCountUnlike) .none kV_countUnlike dc_countUnlike pm_countUnlike an_countUnlike cd_countUnlike ct_countUnlike), sl_countUnlike⟩)
    (c_countUnlike : PySem.W.codeIn K cd_countUnlike "count_unlike" = true)
    (k_countUnlike : PySem.W.keepIn K (.ref f_countUnlike) = true)
    (a_withStep : PySem.W.nsIn K mainGlobals "with_step" = some (some (.ref f_withStep)))
    (l_withStep : K.lookup f_withStep = some ⟨oc_withStep, od_withStep, .func (PySem.W.fnOf "with_step" "with_step" (defArgs sWithStep) (defBody sWithStep) (defScope sWithStep) .none kV_withStep dc_withStep pm_withStep an_withStep cd_withStep ct_withStep), sl_withStep⟩)
    (c_withStep : PySem.W.codeIn K cd_withStep "with_step" = true)
    (k_withStep : PySem.W.keepIn K (.ref f_withStep) = true)
    (a_step : PySem.W.nsIn K mainGlobals "check_step" = some (some (.ref f_step)))
    (l_step : K.lookup f_step = some ⟨oc_step, od_step, .func (PySem.W.fnOf "check_step" "check_step" (defArgs sCheckStep) (defBody sCheckStep) (defScope sCheckStep) .none kV_step dc_step pm_step an_step cd_step ct_step), sl_step⟩)
    (c_step : PySem.W.codeIn K cd_step "check_step" = true)
    (k_step : PySem.W.keepIn K (.ref f_step) = true)
    (a_alike : PySem.W.nsIn K mainGlobals "_law_alike" = some (some (.ref f_alike)))
    (l_alike : K.lookup f_alike = some ⟨oc_alike, od_alike, .func (PySem.W.fnOf "_law_alike" "_law_alike" (defArgs sAlike) (defBody sAlike) (defScope sAlike) .none kV_alike dc_alike pm_alike an_alike cd_alike ct_alike), sl_alike⟩)
    (c_alike : PySem.W.codeIn K cd_alike "_law_alike" = true)
    (k_alike : PySem.W.keepIn K (.ref f_alike) = true)
    (a_mix : PySem.W.nsIn K mainGlobals "_law_mix" = some (some (.ref f_mix)))
    (l_mix : K.lookup f_mix = some ⟨oc_mix, od_mix, .func (PySem.W.fnOf "_law_mix" "_law_mix" (defArgs sMix) (defBody sMix) (defScope sMix) .none kV_mix dc_mix pm_mix an_mix cd_mix ct_mix), sl_mix⟩)
    (c_mix : PySem.W.codeIn K cd_mix "_law_mix" = true)
    (k_mix : PySem.W.keepIn K (.ref f_mix) = true)
    (a_next : PySem.W.nsIn K mainGlobals "_law_next" = some (some (.ref f_next)))
    (l_next : K.lookup f_next = some ⟨oc_next, od_next, .func (PySem.W.fnOf "_law_next" "_law_next" (defArgs sNext) (defBody sNext) (defScope sNext) .none kV_next dc_next pm_next an_next cd_next ct_next), sl_next⟩)
    (c_next : PySem.W.codeIn K cd_next "_law_next" = true)
    (k_next : PySem.W.keepIn K (.ref f_next) = true)
    (a_pick : PySem.W.nsIn K mainGlobals "_law_pick" = some (some (.ref f_pick)))
    (l_pick : K.lookup f_pick = some ⟨oc_pick, od_pick, .func (PySem.W.fnOf "_law_pick" "_law_pick" (defArgs sPick) (defBody sPick) (defScope sPick) .none kV_pick dc_pick pm_pick an_pick cd_pick ct_pick), sl_pick⟩)
    (c_pick : PySem.W.codeIn K cd_pick "_law_pick" = true)
    (k_pick : PySem.W.keepIn K (.ref f_pick) = true)
    (a_parts : PySem.W.nsIn K mainGlobals "_law_parts" = some (some (.ref f_parts)))
    (l_parts : K.lookup f_parts = some ⟨oc_parts, od_parts, .func (PySem.W.fnOf "_law_parts" "_law_parts" (defArgs sParts) (defBody sParts) (defScope sParts) .none kV_parts dc_parts pm_parts an_parts cd_parts ct_parts), sl_parts⟩)
    (c_parts : PySem.W.codeIn K cd_parts "_law_parts" = true)
    (k_parts : PySem.W.keepIn K (.ref f_parts) = true)
    (a_lengths : PySem.W.nsIn K mainGlobals "_law_lengths" = some (some (.ref f_lengths)))
    (l_lengths : K.lookup f_lengths = some ⟨oc_lengths, od_lengths, .func (PySem.W.fnOf "_law_lengths" "_law_lengths" (defArgs sLengths) (defBody sLengths) (defScope sLengths) .none kV_lengths dc_lengths pm_lengths an_lengths cd_lengths ct_lengths), sl_lengths⟩)
    (c_lengths : PySem.W.codeIn K cd_lengths "_law_lengths" = true)
    (k_lengths : PySem.W.keepIn K (.ref f_lengths) = true)
    (a_pairs : PySem.W.nsIn K mainGlobals "_law_pairs" = some (some (.ref f_pairs)))
    (l_pairs : K.lookup f_pairs = some ⟨oc_pairs, od_pairs, .func (PySem.W.fnOf "_law_pairs" "_law_pairs" (defArgs sPairs) (defBody sPairs) (defScope sPairs) .none kV_pairs dc_pairs pm_pairs an_pairs cd_pairs ct_pairs), sl_pairs⟩)
    (c_pairs : PySem.W.codeIn K cd_pairs "_law_pairs" = true)
    (k_pairs : PySem.W.keepIn K (.ref f_pairs) = true)
    (a_unlike : PySem.W.nsIn K mainGlobals "_law_unlike" = some (some (.ref f_unlike)))
    (l_unlike : K.lookup f_unlike = some ⟨oc_unlike, od_unlike, .func (PySem.W.fnOf "_law_unlike" "_law_unlike" (defArgs sUnlike) (defBody sUnlike) (defScope sUnlike) .none kV_unlike dc_unlike pm_unlike an_unlike cd_unlike ct_unlike), sl_unlike⟩)
    (c_unlike : PySem.W.codeIn K cd_unlike "_law_unlike" = true)
    (k_unlike : PySem.W.keepIn K (.ref f_unlike) = true)
    (a_done : PySem.W.nsIn K mainGlobals "_law_done" = some (some (.ref f_done)))
    (l_done : K.lookup f_done = some ⟨oc_done, od_done, .func (PySem.W.fnOf "_law_done" "_law_done" (defArgs sDone) (defBody sDone) (defScope sDone) .none kV_done dc_done pm_done an_done cd_done ct_done), sl_done⟩)
    (c_done : PySem.W.codeIn K cd_done "_law_done" = true)
    (k_done : PySem.W.keepIn K (.ref f_done) = true)
    (a_later : PySem.W.nsIn K mainGlobals "_law_later" = some (some (.ref f_later)))
    (l_later : K.lookup f_later = some ⟨oc_later, od_later, .func (PySem.W.fnOf "_law_later" "_law_later" (defArgs sLater) (defBody sLater) (defScope sLater) .none kV_later dc_later pm_later an_later cd_later ct_later), sl_later⟩)
    (c_later : PySem.W.codeIn K cd_later "_law_later" = true)
    (k_later : PySem.W.keepIn K (.ref f_later) = true)
    (a_stands : PySem.W.nsIn K mainGlobals "_law_stands_so" = some (some (.ref f_stands)))
    (l_stands : K.lookup f_stands = some ⟨oc_stands, od_stands, .func (PySem.W.fnOf "_law_stands_so" "_law_stands_so" (defArgs sStandsSo) (defBody sStandsSo) (defScope sStandsSo) .none kV_stands dc_stands pm_stands an_stands cd_stands ct_stands), sl_stands⟩)
    (c_stands : PySem.W.codeIn K cd_stands "_law_stands_so" = true)
    (k_stands : PySem.W.keepIn K (.ref f_stands) = true)
    (a_drawn : PySem.W.nsIn K mainGlobals "_law_drawn" = some (some (.ref f_drawn)))
    (l_drawn : K.lookup f_drawn = some ⟨oc_drawn, od_drawn, .func (PySem.W.fnOf "_law_drawn" "_law_drawn" (defArgs sDrawn) (defBody sDrawn) (defScope sDrawn) .none kV_drawn dc_drawn pm_drawn an_drawn cd_drawn ct_drawn), sl_drawn⟩)
    (c_drawn : PySem.W.codeIn K cd_drawn "_law_drawn" = true)
    (k_drawn : PySem.W.keepIn K (.ref f_drawn) = true)
    (a_law : PySem.W.nsIn K mainGlobals "law" = some (some (.ref f_law)))
    (l_law : K.lookup f_law = some ⟨oc_law, od_law, .func (PySem.W.fnOf "law" "law" (defArgs sLaw) (defBody sLaw) (defScope sLaw) .none kV_law dc_law pm_law an_law cd_law ct_law), sl_law⟩)
    (c_law : PySem.W.codeIn K cd_law "law" = true)
    (k_law : PySem.W.keepIn K (.ref f_law) = true)
    (a_mmInit : PySem.W.findIn K (.ref C) "__init__" = some (some (.ref f_mmInit)))
    (i_mmInit : PySem.W.isFn K (.ref f_mmInit) = true)
    (l_mmInit : K.lookup f_mmInit = some ⟨oc_mmInit, od_mmInit, .func (PySem.W.fnOf "__init__" "Machine.__init__" (defArgs sMInit) (defBody sMInit) (defScope sMInit) .none kV_mmInit dc_mmInit pm_mmInit an_mmInit cd_mmInit ct_mmInit), sl_mmInit⟩)
    (c_mmInit : PySem.W.codeIn K cd_mmInit "Machine.__init__" = true)
    (k_mmInit : PySem.W.keepIn K (.ref f_mmInit) = true)
    (a_mbInit : PySem.W.findIn K (.ref CB) "__init__" = some (some (.ref f_mbInit)))
    (i_mbInit : PySem.W.isFn K (.ref f_mbInit) = true)
    (l_mbInit : K.lookup f_mbInit = some ⟨oc_mbInit, od_mbInit, .func (PySem.W.fnOf "__init__" "Bench.__init__" (defArgs sBInit) (defBody sBInit) (defScope sBInit) .none kV_mbInit dc_mbInit pm_mbInit an_mbInit cd_mbInit ct_mbInit), sl_mbInit⟩)
    (c_mbInit : PySem.W.codeIn K cd_mbInit "Bench.__init__" = true)
    (k_mbInit : PySem.W.keepIn K (.ref f_mbInit) = true)
    (a_mlead : PySem.W.findIn K (.ref CB) "lead" = some (some (.ref f_mlead)))
    (i_mlead : PySem.W.isFn K (.ref f_mlead) = true)
    (l_mlead : K.lookup f_mlead = some ⟨oc_mlead, od_mlead, .func (PySem.W.fnOf "lead" "Bench.lead" (defArgs sBLead) (defBody sBLead) (defScope sBLead) .none kV_mlead dc_mlead pm_mlead an_mlead cd_mlead ct_mlead), sl_mlead⟩)
    (c_mlead : PySem.W.codeIn K cd_mlead "Bench.lead" = true)
    (k_mlead : PySem.W.keepIn K (.ref f_mlead) = true)
    (a_mturn : PySem.W.findIn K (.ref CB) "turn" = some (some (.ref f_mturn)))
    (i_mturn : PySem.W.isFn K (.ref f_mturn) = true)
    (l_mturn : K.lookup f_mturn = some ⟨oc_mturn, od_mturn, .func (PySem.W.fnOf "turn" "Bench.turn" (defArgs sBTurn) (defBody sBTurn) (defScope sBTurn) .none kV_mturn dc_mturn pm_mturn an_mturn cd_mturn ct_mturn), sl_mturn⟩)
    (c_mturn : PySem.W.codeIn K cd_mturn "Bench.turn" = true)
    (k_mturn : PySem.W.keepIn K (.ref f_mturn) = true)
    (a_mundo : PySem.W.findIn K (.ref CB) "undo" = some (some (.ref f_mundo)))
    (i_mundo : PySem.W.isFn K (.ref f_mundo) = true)
    (l_mundo : K.lookup f_mundo = some ⟨oc_mundo, od_mundo, .func (PySem.W.fnOf "undo" "Bench.undo" (defArgs sBUndo) (defBody sBUndo) (defScope sBUndo) .none kV_mundo dc_mundo pm_mundo an_mundo cd_mundo ct_mundo), sl_mundo⟩)
    (c_mundo : PySem.W.codeIn K cd_mundo "Bench.undo" = true)
    (k_mundo : PySem.W.keepIn K (.ref f_mundo) = true)
    (a_mcopy : PySem.W.findIn K (.ref CB) "copy" = some (some (.ref f_mcopy)))
    (i_mcopy : PySem.W.isFn K (.ref f_mcopy) = true)
    (l_mcopy : K.lookup f_mcopy = some ⟨oc_mcopy, od_mcopy, .func (PySem.W.fnOf "copy" "Bench.copy" (defArgs sBCopy) (defBody sBCopy) (defScope sBCopy) .none kV_mcopy dc_mcopy pm_mcopy an_mcopy cd_mcopy ct_mcopy), sl_mcopy⟩)
    (c_mcopy : PySem.W.codeIn K cd_mcopy "Bench.copy" = true)
    (k_mcopy : PySem.W.keepIn K (.ref f_mcopy) = true)
    (a_mblen : PySem.W.findIn K (.ref CB) "__len__" = some (some (.ref f_mblen)))
    (i_mblen : PySem.W.isFn K (.ref f_mblen) = true)
    (l_mblen : K.lookup f_mblen = some ⟨oc_mblen, od_mblen, .func (PySem.W.fnOf "__len__" "Bench.__len__" (defArgs sBLen) (defBody sBLen) (defScope sBLen) .none kV_mblen dc_mblen pm_mblen an_mblen cd_mblen ct_mblen), sl_mblen⟩)
    (c_mblen : PySem.W.codeIn K cd_mblen "Bench.__len__" = true)
    (k_mblen : PySem.W.keepIn K (.ref f_mblen) = true)
    (a_psteps : PySem.W.findIn K (.ref C) "steps" = some (some (.ref p_steps)))
    (g_psteps : PySem.W.specialIn K (.ref p_steps) "__get__" = some (some (.builtin "property.__get__")))
    (t_psteps : PySem.W.takesIn K (.ref p_steps) = some true)
    (r_psteps : PySem.W.recIn K p_steps "property" = some (.ref f_psteps :: rest_steps))
    (l_psteps : K.lookup f_psteps = some ⟨oc_psteps, od_psteps, .func (PySem.W.fnOf "steps" "Machine.steps" (defArgs sMSteps) (defBody sMSteps) (defScope sMSteps) .none kV_psteps dc_psteps pm_psteps an_psteps cd_psteps ct_psteps), sl_psteps⟩)
    (c_psteps : PySem.W.codeIn K cd_psteps "Machine.steps" = true)
    (k_psteps : PySem.W.keepIn K (.ref f_psteps) = true)
    (a_pgood : PySem.W.findIn K (.ref C) "good" = some (some (.ref p_good)))
    (g_pgood : PySem.W.specialIn K (.ref p_good) "__get__" = some (some (.builtin "property.__get__")))
    (t_pgood : PySem.W.takesIn K (.ref p_good) = some true)
    (r_pgood : PySem.W.recIn K p_good "property" = some (.ref f_pgood :: rest_good))
    (l_pgood : K.lookup f_pgood = some ⟨oc_pgood, od_pgood, .func (PySem.W.fnOf "good" "Machine.good" (defArgs sMGood) (defBody sMGood) (defScope sMGood) .none kV_pgood dc_pgood pm_pgood an_pgood cd_pgood ct_pgood), sl_pgood⟩)
    (c_pgood : PySem.W.codeIn K cd_pgood "Machine.good" = true)
    (k_pgood : PySem.W.keepIn K (.ref f_pgood) = true)
    (a_pmachine : PySem.W.findIn K (.ref CB) "machine" = some (some (.ref p_machine)))
    (g_pmachine : PySem.W.specialIn K (.ref p_machine) "__get__" = some (some (.builtin "property.__get__")))
    (t_pmachine : PySem.W.takesIn K (.ref p_machine) = some true)
    (r_pmachine : PySem.W.recIn K p_machine "property" = some (.ref f_pmachine :: rest_machine))
    (l_pmachine : K.lookup f_pmachine = some ⟨oc_pmachine, od_pmachine, .func (PySem.W.fnOf "machine" "Bench.machine" (defArgs sBMachine) (defBody sBMachine) (defScope sBMachine) .none kV_pmachine dc_pmachine pm_pmachine an_pmachine cd_pmachine ct_pmachine), sl_pmachine⟩)
    (c_pmachine : PySem.W.codeIn K cd_pmachine "Bench.machine" = true)
    (k_pmachine : PySem.W.keepIn K (.ref f_pmachine) = true) :
    ∃ fd : FuncData, (∀ (s : Shared) (v : Value), BindsTo s fd ⟨[v], []⟩ [("_law_script", v)]) ∧ ∀ base : Heap, K.In base → base.Ns mainGlobals mg → FnOk l.prog w K mg base CX0 8 fa fd ["_law_script"] (spLaw K) := by
  have e := hfa.symm.trans (PySem.W.mg_of X G a_law)
  cases e
  have F_isInt := fun_mk (st := sIsInt) l_isInt c_isInt k_isInt
  have D_isInt : DefAt K mg "is_integer" sIsInt nIsInt _ _ := ⟨F_isInt, (F_isInt.binds (ps := nIsInt) fun _ _ _ _ _ _ us hl => match us, hl with | [_, _, _], _ => rfl), PySem.W.mg_of X G a_isInt⟩
  have F_checkSteps := fun_mk (st := sCheckSteps) l_checkSteps c_checkSteps k_checkSteps
  have D_checkSteps : DefAt K mg "check_steps" sCheckSteps ["thing"] _ _ := ⟨F_checkSteps, (F_checkSteps.binds (ps := ["thing"]) fun _ _ _ _ _ _ us hl => match us, hl with | [_], _ => rfl), PySem.W.mg_of X G a_checkSteps⟩
  have F_checkGood := fun_mk (st := sCheckGood) l_checkGood c_checkGood k_checkGood
  have D_checkGood : DefAt K mg "check_good" sCheckGood ["thing", "stands"] _ _ := ⟨F_checkGood, (F_checkGood.binds (ps := ["thing", "stands"]) fun _ _ _ _ _ _ us hl => match us, hl with | [_, _], _ => rfl), PySem.W.mg_of X G a_checkGood⟩
  have F_checkStand := fun_mk (st := sCheckStand) l_checkStand c_checkStand k_checkStand
  have D_checkStand : DefAt K mg "check_stand" sCheckStand nCheckStand _ _ := ⟨F_checkStand, (F_checkStand.binds (ps := nCheckStand) fun _ _ _ _ _ _ us hl => match us, hl with | [_, _], _ => rfl), PySem.W.mg_of X G a_checkStand⟩
  have F_checkPair := fun_mk (st := sCheckPair) l_checkPair c_checkPair k_checkPair
  have D_checkPair : DefAt K mg "check_pair" sCheckPair nCheckPair _ _ := ⟨F_checkPair, (F_checkPair.binds (ps := nCheckPair) fun _ _ _ _ _ _ us hl => match us, hl with | [_, _], _ => rfl), PySem.W.mg_of X G a_checkPair⟩
  have F_isUnlike := fun_mk (st := sIsUnlike) l_isUnlike c_isUnlike k_isUnlike
  have D_isUnlike : DefAt K mg "is_unlike" sIsUnlike nPair _ _ := ⟨F_isUnlike, (F_isUnlike.binds (ps := nPair) fun _ _ _ _ _ _ us hl => match us, hl with | [_, _, _], _ => rfl), PySem.W.mg_of X G a_isUnlike⟩
  have F_goals := fun_mk (st := sGoals) l_goals c_goals k_goals
  have D_goals : DefAt K mg "goals_of" sGoals nPair _ _ := ⟨F_goals, (F_goals.binds (ps := nPair) fun _ _ _ _ _ _ us hl => match us, hl with | [_, _, _], _ => rfl), PySem.W.mg_of X G a_goals⟩
  have F_comeTo := fun_mk (st := sComeTo) l_comeTo c_comeTo k_comeTo
  have D_comeTo : DefAt K mg "come_to" sComeTo nThree _ _ := ⟨F_comeTo, (F_comeTo.binds (ps := nThree) fun _ _ _ _ _ _ us hl => match us, hl with | [_, _, _], _ => rfl), PySem.W.mg_of X G a_comeTo⟩
  have F_useful := fun_mk (st := sUseful) l_useful c_useful k_useful
  have D_useful : DefAt K mg "useful" sUseful nThree _ _ := ⟨F_useful, (F_useful.binds (ps := nThree) fun _ _ _ _ _ _ us hl => match us, hl with | [_, _, _], _ => rfl), PySem.W.mg_of X G a_useful⟩
  have F_counted := fun_mk (st := sCounted) l_counted c_counted k_counted
  have D_counted : DefAt K mg "counted" sCounted nThree _ _ := ⟨F_counted, (F_counted.binds (ps := nThree) fun _ _ _ _ _ _ us hl => match us, hl with | [_, _, _], _ => rfl), PySem.W.mg_of X G a_counted⟩
  have F_countUnlike := fun_mk (st := sCountUnlike) l_countUnlike c_countUnlike k_countUnlike
  have D_countUnlike : DefAt K mg "count_unlike" sCountUnlike nTwo _ _ := ⟨F_countUnlike, (F_countUnlike.binds (ps := nTwo) fun _ _ _ _ _ _ us hl => match us, hl with | [_, _], _ => rfl), PySem.W.mg_of X G a_countUnlike⟩
  have F_withStep := fun_mk (st := sWithStep) l_withStep c_withStep k_withStep
  have D_withStep : DefAt K mg "with_step" sWithStep nFour _ _ := ⟨F_withStep, (F_withStep.binds (ps := nFour) fun _ _ _ _ _ _ us hl => match us, hl with | [_, _, _, _], _ => rfl), PySem.W.mg_of X G a_withStep⟩
  have F_step := fun_mk (st := sCheckStep) l_step c_step k_step
  have D_step : DefAt K mg "check_step" sCheckStep nFour _ _ := ⟨F_step, (F_step.binds (ps := nFour) fun _ _ _ _ _ _ us hl => match us, hl with | [_, _, _, _], _ => rfl), PySem.W.mg_of X G a_step⟩
  have F_alike := fun_mk (st := sAlike) l_alike c_alike k_alike
  have D_alike : DefAt K mg "_law_alike" sAlike nAlikeP _ _ := ⟨F_alike, (F_alike.binds (ps := nAlikeP) fun _ _ _ _ _ _ us hl => match us, hl with | [_, _], _ => rfl), PySem.W.mg_of X G a_alike⟩
  have F_mix := fun_mk (st := sMix) l_mix c_mix k_mix
  have D_mix : DefAt K mg "_law_mix" sMix nMixP _ _ := ⟨F_mix, (F_mix.binds (ps := nMixP) fun _ _ _ _ _ _ us hl => match us, hl with | [_, _], _ => rfl), PySem.W.mg_of X G a_mix⟩
  have F_next := fun_mk (st := sNext) l_next c_next k_next
  have D_next : DefAt K mg "_law_next" sNext nNextP _ _ := ⟨F_next, (F_next.binds (ps := nNextP) fun _ _ _ _ _ _ us hl => match us, hl with | [_, _], _ => rfl), PySem.W.mg_of X G a_next⟩
  have F_pick := fun_mk (st := sPick) l_pick c_pick k_pick
  have D_pick : DefAt K mg "_law_pick" sPick nPick _ _ := ⟨F_pick, (F_pick.binds (ps := nPick) fun _ _ _ _ _ _ us hl => match us, hl with | [_, _], _ => rfl), PySem.W.mg_of X G a_pick⟩
  have F_parts := fun_mk (st := sParts) l_parts c_parts k_parts
  have D_parts : DefAt K mg "_law_parts" sParts nPartsP _ _ := ⟨F_parts, (F_parts.binds (ps := nPartsP) fun _ _ _ _ _ _ us hl => match us, hl with | [_, _], _ => rfl), PySem.W.mg_of X G a_parts⟩
  have F_lengths := fun_mk (st := sLengths) l_lengths c_lengths k_lengths
  have D_lengths : DefAt K mg "_law_lengths" sLengths nLengthsP _ _ := ⟨F_lengths, (F_lengths.binds (ps := nLengthsP) fun _ _ _ _ _ _ us hl => match us, hl with | [_, _, _, _], _ => rfl), PySem.W.mg_of X G a_lengths⟩
  have F_pairs := fun_mk (st := sPairs) l_pairs c_pairs k_pairs
  have D_pairs : DefAt K mg "_law_pairs" sPairs nPairsP _ _ := ⟨F_pairs, (F_pairs.binds (ps := nPairsP) fun _ _ _ _ _ _ us hl => match us, hl with | [_, _, _], _ => rfl), PySem.W.mg_of X G a_pairs⟩
  have F_unlike := fun_mk (st := sUnlike) l_unlike c_unlike k_unlike
  have D_unlike : DefAt K mg "_law_unlike" sUnlike nUnlikeP _ _ := ⟨F_unlike, (F_unlike.binds (ps := nUnlikeP) fun _ _ _ _ _ _ us hl => match us, hl with | [_, _, _], _ => rfl), PySem.W.mg_of X G a_unlike⟩
  have F_done := fun_mk (st := sDone) l_done c_done k_done
  have D_done : DefAt K mg "_law_done" sDone nDoneP _ _ := ⟨F_done, (F_done.binds (ps := nDoneP) fun _ _ _ _ _ _ us hl => match us, hl with | [_, _], _ => rfl), PySem.W.mg_of X G a_done⟩
  have F_later := fun_mk (st := sLater) l_later c_later k_later
  have D_later : DefAt K mg "_law_later" sLater nLaterP _ _ := ⟨F_later, (F_later.binds (ps := nLaterP) fun _ _ _ _ _ _ us hl => match us, hl with | [_, _], _ => rfl), PySem.W.mg_of X G a_later⟩
  have F_stands := fun_mk (st := sStandsSo) l_stands c_stands k_stands
  have D_stands : DefAt K mg "_law_stands_so" sStandsSo nStandsSoP _ _ := ⟨F_stands, (F_stands.binds (ps := nStandsSoP) fun _ _ _ _ _ _ us hl => match us, hl with | [_, _], _ => rfl), PySem.W.mg_of X G a_stands⟩
  have F_drawn := fun_mk (st := sDrawn) l_drawn c_drawn k_drawn
  have D_drawn : DefAt K mg "_law_drawn" sDrawn nDrawnP _ _ := ⟨F_drawn, (F_drawn.binds (ps := nDrawnP) fun _ _ _ _ _ _ us hl => match us, hl with | [_, _], _ => rfl), PySem.W.mg_of X G a_drawn⟩
  have F_law := fun_mk (st := sLaw) l_law c_law k_law
  have D_law : DefAt K mg "law" sLaw ["_law_script"] _ _ := ⟨F_law, (F_law.binds (ps := ["_law_script"]) fun _ _ _ _ _ _ us hl => match us, hl with | [_], _ => rfl), PySem.W.mg_of X G a_law⟩
  have F_mmInit := fun_mk (st := sMInit) l_mmInit c_mmInit k_mmInit
  have b_mmInit := (F_mmInit.binds (ps := nMInit) fun _ _ _ _ _ _ us hl => match us, hl with | [_, _, _], _ => rfl)
  have F_mbInit := fun_mk (st := sBInit) l_mbInit c_mbInit k_mbInit
  have b_mbInit := (F_mbInit.binds (ps := nBInit) fun _ _ _ _ _ _ us hl => match us, hl with | [_, _], _ => rfl)
  have F_mlead := fun_mk (st := sBLead) l_mlead c_mlead k_mlead
  have b_mlead := (F_mlead.binds (ps := nLead) fun _ _ _ _ _ _ us hl => match us, hl with | [_, _, _, _], _ => rfl)
  have F_mturn := fun_mk (st := sBTurn) l_mturn c_mturn k_mturn
  have b_mturn := (F_mturn.binds (ps := nTurnP) fun _ _ _ _ _ _ us hl => match us, hl with | [_, _], _ => rfl)
  have F_mundo := fun_mk (st := sBUndo) l_mundo c_mundo k_mundo
  have b_mundo := (F_mundo.binds (ps := ["self"]) fun _ _ _ _ _ _ us hl => match us, hl with | [_], _ => rfl)
  have F_mcopy := fun_mk (st := sBCopy) l_mcopy c_mcopy k_mcopy
  have b_mcopy := (F_mcopy.binds (ps := ["self"]) fun _ _ _ _ _ _ us hl => match us, hl with | [_], _ => rfl)
  have F_mblen := fun_mk (st := sBLen) l_mblen c_mblen k_mblen
  have b_mblen := (F_mblen.binds (ps := ["self"]) fun _ _ _ _ _ _ us hl => match us, hl with | [_], _ => rfl)
  have F_psteps := fun_mk (st := sMSteps) l_psteps c_psteps k_psteps
  have b_psteps := (F_psteps.binds (ps := ["self"]) fun _ _ _ _ _ _ us hl => match us, hl with | [_], _ => rfl)
  have F_pgood := fun_mk (st := sMGood) l_pgood c_pgood k_pgood
  have b_pgood := (F_pgood.binds (ps := ["self"]) fun _ _ _ _ _ _ us hl => match us, hl with | [_], _ => rfl)
  have F_pmachine := fun_mk (st := sBMachine) l_pmachine c_pmachine k_pmachine
  have b_pmachine := (F_pmachine.binds (ps := ["self"]) fun _ _ _ _ _ _ us hl => match us, hl with | [_], _ => rfl)
  have BL : Bl mg := ⟨PySem.W.mg_none_of X G z_isinstance, PySem.W.mg_none_of X G z_int, PySem.W.mg_none_of X G z_bool, PySem.W.mg_none_of X G z_str, PySem.W.mg_none_of X G z_tuple, PySem.W.mg_none_of X G z_list, PySem.W.mg_none_of X G z_len, PySem.W.mg_none_of X G z_enumerate, PySem.W.mg_none_of X G z_all, PySem.W.mg_none_of X G z_any, PySem.W.mg_none_of X G z_sum, PySem.W.mg_none_of X G z_max, PySem.W.mg_none_of X G z_min, PySem.W.mg_none_of X G z_zip, PySem.W.mg_none_of X G z_sorted, PySem.W.mg_none_of X G z_range⟩
  have hne : C ≠ CB := fun z => by
    rw [z, a_mlead] at nl_C
    cases nl_C
  have hbK : ∀ H, PtAt K H bb (0, 0) := fun H => .inr ⟨_, _, _, l_BG, rfl, rfl, by show 2 ≤ sizeLine; decide, .cons ⟨_, rfl⟩ (.cons ⟨_, rfl⟩ .nil)⟩
  let PG : Prog K mg := { C := C, CB := CB, CS := CS, CP := CP, bb := bb, tS := tS, tL := tL, T := ⟨⟨pg_C, hd_C, po_C, sa_C⟩, na_C, PySem.W.mg_of X G a_C⟩, MK := ⟨f_mmInit, _, F_mmInit, b_mmInit, ⟨mk_C, a_mmInit, i_mmInit, kc_C⟩⟩, xS := ⟨ex_CS, PySem.W.mg_of X G a_CS, kx_CS, sb_CS, ty_CS⟩, xP := ⟨ex_CP, PySem.W.mg_of X G a_CP, kx_CP, sb_CP, ty_CP⟩, B := BL, hS := PySem.W.mg_of X G a_MS, hL := PySem.W.mg_of X G a_ML, isInt := ⟨f_isInt, _, D_isInt⟩, checkSteps := ⟨f_checkSteps, _, D_checkSteps⟩, checkGood := ⟨f_checkGood, _, D_checkGood⟩, checkStand := ⟨f_checkStand, _, D_checkStand⟩, checkPair := ⟨f_checkPair, _, D_checkPair⟩, isUnlike := ⟨f_isUnlike, _, D_isUnlike⟩, goals := ⟨f_goals, _, D_goals⟩, comeTo := ⟨f_comeTo, _, D_comeTo⟩, useful := ⟨f_useful, _, D_useful⟩, counted := ⟨f_counted, _, D_counted⟩, hbb := PySem.W.mg_of X G a_BG, hbK := hbK, countUnlike := ⟨f_countUnlike, _, D_countUnlike⟩, withStep := ⟨f_withStep, _, D_withStep⟩, ne := hne, cB := ⟨pg_CB, hd_CB, po_CB, sa_CB⟩, nB := na_CB, mB := PySem.W.mg_of X G a_CB }
  let MM : Meths K mg PG := { MB := ⟨f_mbInit, _, F_mbInit, b_mbInit, ⟨mk_CB, a_mbInit, i_mbInit, kc_CB⟩⟩, steps := ⟨p_steps, f_psteps, _, F_psteps, b_psteps, ⟨a_psteps, g_psteps, t_psteps, ⟨rest_steps, r_psteps⟩⟩⟩, good := ⟨p_good, f_pgood, _, F_pgood, b_pgood, ⟨a_pgood, g_pgood, t_pgood, ⟨rest_good, r_pgood⟩⟩⟩, machine := ⟨p_machine, f_pmachine, _, F_pmachine, b_pmachine, ⟨a_pmachine, g_pmachine, t_pmachine, ⟨rest_machine, r_pmachine⟩⟩⟩, lead := ⟨f_mlead, _, F_mlead, b_mlead, ⟨a_mlead, i_mlead, k_mlead⟩⟩, turn := ⟨f_mturn, _, F_mturn, b_mturn, ⟨a_mturn, i_mturn, k_mturn⟩⟩, undo := ⟨f_mundo, _, F_mundo, b_mundo, ⟨a_mundo, i_mundo, k_mundo⟩⟩, copy := ⟨f_mcopy, _, F_mcopy, b_mcopy, ⟨a_mcopy, i_mcopy, k_mcopy⟩⟩, lenF := f_mblen, lenD := _, lenFn := F_mblen, lenB := b_mblen, lenM := a_mblen, lenI := i_mblen, step := ⟨f_step, _, D_step⟩, alike := ⟨f_alike, _, D_alike⟩ }
  let EE : Errs K mg PG := { CM := CM, mM := PySem.W.mg_of X G a_CM, exSS := em_SS, exPS := em_PS, exPP := em_PP, kS := kt_CS, kP := kt_CP, cS := ⟨xg_CS, xk_CS, sb_CS, xd_CS, xa_CS, xn, xt, xm_CS⟩, cP := ⟨xg_CP, xk_CP, sb_CP, xd_CP, xa_CP, xn, xt, xm_CP⟩ }
  let LL : Laws K mg PG := { M := MM, E := EE, mix := ⟨f_mix, _, D_mix⟩, next := ⟨f_next, _, D_next⟩, pick := ⟨f_pick, _, D_pick⟩, parts := ⟨f_parts, _, D_parts⟩, lengths := ⟨f_lengths, _, D_lengths⟩, pairs := ⟨f_pairs, _, D_pairs⟩, unlike := ⟨f_unlike, _, D_unlike⟩, done := ⟨f_done, _, D_done⟩, later := ⟨f_later, _, D_later⟩, stands := ⟨f_stands, _, D_stands⟩, drawn := ⟨f_drawn, _, D_drawn⟩ }
  exact ⟨PySem.W.fnOf "law" "law" (defArgs sLaw) (defBody sLaw) (defScope sLaw) .none kV_law dc_law pm_law an_law cd_law ct_law, fun s v => .of_eq rfl, fun base _ _ => ok_law D_law PG LL⟩
theorem bench_walk {l : PySem.W.OpenLaw} {q : Program} {loose : List Str} {XP : (Str → Option Value) → Heap → Prop} {YP : World → Heap → Prop} {d : DefRec} {K : Params → PySem.W.Frag} (hn : l.most = some 63) (hdf : d.params.defaults = [])
    (hY : ∀ (w : World) (h : Heap), YP w h → (K w.params).In h)
    (F : ∀ (w : World) (mg : Str → Option Value) (fa : Addr) (h : Heap), (K w.params).In h → h.Ns mainGlobals mg → mg d.name = some (.ref fa) →
      ∃ fd : FuncData, (∀ (s : Shared) (u : Value), BindsTo s fd ⟨[u], []⟩ [("_law_script", u)]) ∧ ∀ base : Heap, (K w.params).In base → base.Ns mainGlobals mg → FnOk l.prog w (K w.params) mg base CX0 8 fa fd ["_law_script"] (spLaw (K w.params))) :
    PySem.W.WalkO q loose XP YP l.row.toRowW d [] (fun f vs => PySem.call f vs) :=
  L2.walk_of (n := 63) (k := 8) (x := "_law_script") (CX := fun _ => CX0) (sp := fun w => spLaw (K w.params)) hn (by decide) hdf ⟨rfl, by decide, by decide⟩ hY F (fun _ _ a ns hl _ hS => ⟨a, ns, rfl, hS, hl, fun _ => rfl⟩) fun _ _ _ _ _ z => z
end Bf
open PySem PySem.W PyProof.Rows
set_option Elab.async false
set_option maxRecDepth 100000 in
set_option maxHeartbeats 0 in
theorem PySem.Challenge.cw_butfewrows_k12_whole_benches_holds : PySem.Challenge.rw_butfewrows_k12_whole_benches.Holds := by
  w_on; o_law; k_head; (case hw => w_witness2)
  k_fill
  refine Bf.bench_walk (l := PySem.Challenge.rw_butfewrows_k12_whole_benches) rfl rfl (fun w h Y => PySem.W.kIn_of Y) ?F
  case F =>
    intro w mg fa h KX G hmg
    refine' Bf.all_mk KX G hmg ?a_C ?a_CB ?a_CS ?a_CP ?a_CM ?pg_C ?hd_C ?po_C ?sa_C ?mk_C ?kc_C ?na_C ?pg_CB ?hd_CB ?po_CB ?sa_CB ?mk_CB ?kc_CB ?na_CB ?nl_C ?ex_CS ?kx_CS ?sb_CS ?ty_CS ?xg_CS ?xk_CS ?xd_CS ?xa_CS ?xm_CS ?kt_CS ?ex_CP ?kx_CP ?sb_CP ?ty_CP ?xg_CP ?xk_CP ?xd_CP ?xa_CP ?xm_CP ?kt_CP ?xn ?xt ?em_SS ?em_PS ?em_PP ?a_MS ?a_ML ?a_BG ?l_BG ?z_isinstance ?z_int ?z_bool ?z_str ?z_tuple ?z_list ?z_len ?z_enumerate ?z_all ?z_any ?z_sum ?z_max ?z_min ?z_zip ?z_sorted ?z_range ?a_isInt ?l_isInt ?c_isInt ?k_isInt ?a_checkSteps ?l_checkSteps ?c_checkSteps ?k_checkSteps ?a_checkGood ?l_checkGood ?c_checkGood ?k_checkGood ?a_checkStand ?l_checkStand ?c_checkStand ?k_checkStand ?a_checkPair ?l_checkPair ?c_checkPair ?k_checkPair ?a_isUnlike ?l_isUnlike ?c_isUnlike ?k_isUnlike ?a_goals ?l_goals ?c_goals ?k_goals ?a_comeTo ?l_comeTo ?c_comeTo ?k_comeTo ?a_useful ?l_useful ?c_useful ?k_useful ?a_counted ?l_counted ?c_counted ?k_counted ?a_countUnlike ?l_countUnlike ?c_countUnlike ?k_countUnlike ?a_withStep ?l_withStep ?c_withStep ?k_withStep ?a_step ?l_step ?c_step ?k_step ?a_alike ?l_alike ?c_alike ?k_alike ?a_mix ?l_mix ?c_mix ?k_mix ?a_next ?l_next ?c_next ?k_next ?a_pick ?l_pick ?c_pick ?k_pick ?a_parts ?l_parts ?c_parts ?k_parts ?a_lengths ?l_lengths ?c_lengths ?k_lengths ?a_pairs ?l_pairs ?c_pairs ?k_pairs ?a_unlike ?l_unlike ?c_unlike ?k_unlike ?a_done ?l_done ?c_done ?k_done ?a_later ?l_later ?c_later ?k_later ?a_stands ?l_stands ?c_stands ?k_stands ?a_drawn ?l_drawn ?c_drawn ?k_drawn ?a_law ?l_law ?c_law ?k_law ?a_mmInit ?i_mmInit ?l_mmInit ?c_mmInit ?k_mmInit ?a_mbInit ?i_mbInit ?l_mbInit ?c_mbInit ?k_mbInit ?a_mlead ?i_mlead ?l_mlead ?c_mlead ?k_mlead ?a_mturn ?i_mturn ?l_mturn ?c_mturn ?k_mturn ?a_mundo ?i_mundo ?l_mundo ?c_mundo ?k_mundo ?a_mcopy ?i_mcopy ?l_mcopy ?c_mcopy ?k_mcopy ?a_mblen ?i_mblen ?l_mblen ?c_mblen ?k_mblen ?a_psteps ?g_psteps ?t_psteps ?r_psteps ?l_psteps ?c_psteps ?k_psteps ?a_pgood ?g_pgood ?t_pgood ?r_pgood ?l_pgood ?c_pgood ?k_pgood ?a_pmachine ?g_pmachine ?t_pmachine ?r_pmachine ?l_pmachine ?c_pmachine ?k_pmachine
    (case a_C => first | k_is | k_exc | rfl)
    (case a_CB => first | k_is | k_exc | rfl)
    (case a_CS => first | k_is | k_exc | rfl)
    (case a_CP => first | k_is | k_exc | rfl)
    (case a_CM => first | k_is | k_exc | rfl)
    (case pg_C => first | k_is | k_exc | rfl)
    (case hd_C => first | k_is | k_exc | rfl)
    (case po_C => first | k_is | k_exc | rfl)
    (case sa_C => first | k_is | k_exc | rfl)
    (case mk_C => first | k_is | k_exc | rfl)
    (case kc_C => first | k_is | k_exc | rfl)
    (case na_C => first | k_is | k_exc | rfl)
    (case pg_CB => first | k_is | k_exc | rfl)
    (case hd_CB => first | k_is | k_exc | rfl)
    (case po_CB => first | k_is | k_exc | rfl)
    (case sa_CB => first | k_is | k_exc | rfl)
    (case mk_CB => first | k_is | k_exc | rfl)
    (case kc_CB => first | k_is | k_exc | rfl)
    (case na_CB => first | k_is | k_exc | rfl)
    (case nl_C => first | k_is | k_exc | rfl)
    (case ex_CS => first | k_is | k_exc | rfl)
    (case kx_CS => first | k_is | k_exc | rfl)
    (case sb_CS => first | k_is | k_exc | rfl)
    (case ty_CS => first | k_is | k_exc | rfl)
    (case xg_CS => first | k_is | k_exc | rfl)
    (case xk_CS => first | k_is | k_exc | rfl)
    (case xd_CS => first | k_is | k_exc | rfl)
    (case xa_CS => first | k_is | k_exc | rfl)
    (case xm_CS => first | k_is | k_exc | rfl)
    (case kt_CS => first | k_is | k_exc | rfl)
    (case ex_CP => first | k_is | k_exc | rfl)
    (case kx_CP => first | k_is | k_exc | rfl)
    (case sb_CP => first | k_is | k_exc | rfl)
    (case ty_CP => first | k_is | k_exc | rfl)
    (case xg_CP => first | k_is | k_exc | rfl)
    (case xk_CP => first | k_is | k_exc | rfl)
    (case xd_CP => first | k_is | k_exc | rfl)
    (case xa_CP => first | k_is | k_exc | rfl)
    (case xm_CP => first | k_is | k_exc | rfl)
    (case kt_CP => first | k_is | k_exc | rfl)
    (case xn => first | k_is | k_exc | rfl)
    (case xt => first | k_is | k_exc | rfl)
    (case em_SS => first | k_is | k_exc | rfl)
    (case em_PS => first | k_is | k_exc | rfl)
    (case em_PP => first | k_is | k_exc | rfl)
    (case a_MS => first | k_is | k_exc | rfl)
    (case a_ML => first | k_is | k_exc | rfl)
    (case a_BG => first | k_is | k_exc | rfl)
    (case l_BG => first | k_is | k_exc | rfl)
    (case z_isinstance => first | k_is | k_exc | rfl)
    (case z_int => first | k_is | k_exc | rfl)
    (case z_bool => first | k_is | k_exc | rfl)
    (case z_str => first | k_is | k_exc | rfl)
    (case z_tuple => first | k_is | k_exc | rfl)
    (case z_list => first | k_is | k_exc | rfl)
    (case z_len => first | k_is | k_exc | rfl)
    (case z_enumerate => first | k_is | k_exc | rfl)
    (case z_all => first | k_is | k_exc | rfl)
    (case z_any => first | k_is | k_exc | rfl)
    (case z_sum => first | k_is | k_exc | rfl)
    (case z_max => first | k_is | k_exc | rfl)
    (case z_min => first | k_is | k_exc | rfl)
    (case z_zip => first | k_is | k_exc | rfl)
    (case z_sorted => first | k_is | k_exc | rfl)
    (case z_range => first | k_is | k_exc | rfl)
    (case a_isInt => first | k_is | k_exc | rfl)
    (case l_isInt => first | k_is | k_exc | rfl)
    (case c_isInt => first | k_is | k_exc | rfl)
    (case k_isInt => first | k_is | k_exc | rfl)
    (case a_checkSteps => first | k_is | k_exc | rfl)
    (case l_checkSteps => first | k_is | k_exc | rfl)
    (case c_checkSteps => first | k_is | k_exc | rfl)
    (case k_checkSteps => first | k_is | k_exc | rfl)
    (case a_checkGood => first | k_is | k_exc | rfl)
    (case l_checkGood => first | k_is | k_exc | rfl)
    (case c_checkGood => first | k_is | k_exc | rfl)
    (case k_checkGood => first | k_is | k_exc | rfl)
    (case a_checkStand => first | k_is | k_exc | rfl)
    (case l_checkStand => first | k_is | k_exc | rfl)
    (case c_checkStand => first | k_is | k_exc | rfl)
    (case k_checkStand => first | k_is | k_exc | rfl)
    (case a_checkPair => first | k_is | k_exc | rfl)
    (case l_checkPair => first | k_is | k_exc | rfl)
    (case c_checkPair => first | k_is | k_exc | rfl)
    (case k_checkPair => first | k_is | k_exc | rfl)
    (case a_isUnlike => first | k_is | k_exc | rfl)
    (case l_isUnlike => first | k_is | k_exc | rfl)
    (case c_isUnlike => first | k_is | k_exc | rfl)
    (case k_isUnlike => first | k_is | k_exc | rfl)
    (case a_goals => first | k_is | k_exc | rfl)
    (case l_goals => first | k_is | k_exc | rfl)
    (case c_goals => first | k_is | k_exc | rfl)
    (case k_goals => first | k_is | k_exc | rfl)
    (case a_comeTo => first | k_is | k_exc | rfl)
    (case l_comeTo => first | k_is | k_exc | rfl)
    (case c_comeTo => first | k_is | k_exc | rfl)
    (case k_comeTo => first | k_is | k_exc | rfl)
    (case a_useful => first | k_is | k_exc | rfl)
    (case l_useful => first | k_is | k_exc | rfl)
    (case c_useful => first | k_is | k_exc | rfl)
    (case k_useful => first | k_is | k_exc | rfl)
    (case a_counted => first | k_is | k_exc | rfl)
    (case l_counted => first | k_is | k_exc | rfl)
    (case c_counted => first | k_is | k_exc | rfl)
    (case k_counted => first | k_is | k_exc | rfl)
    (case a_countUnlike => first | k_is | k_exc | rfl)
    (case l_countUnlike => first | k_is | k_exc | rfl)
    (case c_countUnlike => first | k_is | k_exc | rfl)
    (case k_countUnlike => first | k_is | k_exc | rfl)
    (case a_withStep => first | k_is | k_exc | rfl)
    (case l_withStep => first | k_is | k_exc | rfl)
    (case c_withStep => first | k_is | k_exc | rfl)
    (case k_withStep => first | k_is | k_exc | rfl)
    (case a_step => first | k_is | k_exc | rfl)
    (case l_step => first | k_is | k_exc | rfl)
    (case c_step => first | k_is | k_exc | rfl)
    (case k_step => first | k_is | k_exc | rfl)
    (case a_alike => first | k_is | k_exc | rfl)
    (case l_alike => first | k_is | k_exc | rfl)
    (case c_alike => first | k_is | k_exc | rfl)
    (case k_alike => first | k_is | k_exc | rfl)
    (case a_mix => first | k_is | k_exc | rfl)
    (case l_mix => first | k_is | k_exc | rfl)
    (case c_mix => first | k_is | k_exc | rfl)
    (case k_mix => first | k_is | k_exc | rfl)
    (case a_next => first | k_is | k_exc | rfl)
    (case l_next => first | k_is | k_exc | rfl)
    (case c_next => first | k_is | k_exc | rfl)
    (case k_next => first | k_is | k_exc | rfl)
    (case a_pick => first | k_is | k_exc | rfl)
    (case l_pick => first | k_is | k_exc | rfl)
    (case c_pick => first | k_is | k_exc | rfl)
    (case k_pick => first | k_is | k_exc | rfl)
    (case a_parts => first | k_is | k_exc | rfl)
    (case l_parts => first | k_is | k_exc | rfl)
    (case c_parts => first | k_is | k_exc | rfl)
    (case k_parts => first | k_is | k_exc | rfl)
    (case a_lengths => first | k_is | k_exc | rfl)
    (case l_lengths => first | k_is | k_exc | rfl)
    (case c_lengths => first | k_is | k_exc | rfl)
    (case k_lengths => first | k_is | k_exc | rfl)
    (case a_pairs => first | k_is | k_exc | rfl)
    (case l_pairs => first | k_is | k_exc | rfl)
    (case c_pairs => first | k_is | k_exc | rfl)
    (case k_pairs => first | k_is | k_exc | rfl)
    (case a_unlike => first | k_is | k_exc | rfl)
    (case l_unlike => first | k_is | k_exc | rfl)
    (case c_unlike => first | k_is | k_exc | rfl)
    (case k_unlike => first | k_is | k_exc | rfl)
    (case a_done => first | k_is | k_exc | rfl)
    (case l_done => first | k_is | k_exc | rfl)
    (case c_done => first | k_is | k_exc | rfl)
    (case k_done => first | k_is | k_exc | rfl)
    (case a_later => first | k_is | k_exc | rfl)
    (case l_later => first | k_is | k_exc | rfl)
    (case c_later => first | k_is | k_exc | rfl)
    (case k_later => first | k_is | k_exc | rfl)
    (case a_stands => first | k_is | k_exc | rfl)
    (case l_stands => first | k_is | k_exc | rfl)
    (case c_stands => first | k_is | k_exc | rfl)
    (case k_stands => first | k_is | k_exc | rfl)
    (case a_drawn => first | k_is | k_exc | rfl)
    (case l_drawn => first | k_is | k_exc | rfl)
    (case c_drawn => first | k_is | k_exc | rfl)
    (case k_drawn => first | k_is | k_exc | rfl)
    (case a_law => first | k_is | k_exc | rfl)
    (case l_law => first | k_is | k_exc | rfl)
    (case c_law => first | k_is | k_exc | rfl)
    (case k_law => first | k_is | k_exc | rfl)
    (case a_mmInit => first | k_is | k_exc | rfl)
    (case i_mmInit => first | k_is | k_exc | rfl)
    (case l_mmInit => first | k_is | k_exc | rfl)
    (case c_mmInit => first | k_is | k_exc | rfl)
    (case k_mmInit => first | k_is | k_exc | rfl)
    (case a_mbInit => first | k_is | k_exc | rfl)
    (case i_mbInit => first | k_is | k_exc | rfl)
    (case l_mbInit => first | k_is | k_exc | rfl)
    (case c_mbInit => first | k_is | k_exc | rfl)
    (case k_mbInit => first | k_is | k_exc | rfl)
    (case a_mlead => first | k_is | k_exc | rfl)
    (case i_mlead => first | k_is | k_exc | rfl)
    (case l_mlead => first | k_is | k_exc | rfl)
    (case c_mlead => first | k_is | k_exc | rfl)
    (case k_mlead => first | k_is | k_exc | rfl)
    (case a_mturn => first | k_is | k_exc | rfl)
    (case i_mturn => first | k_is | k_exc | rfl)
    (case l_mturn => first | k_is | k_exc | rfl)
    (case c_mturn => first | k_is | k_exc | rfl)
    (case k_mturn => first | k_is | k_exc | rfl)
    (case a_mundo => first | k_is | k_exc | rfl)
    (case i_mundo => first | k_is | k_exc | rfl)
    (case l_mundo => first | k_is | k_exc | rfl)
    (case c_mundo => first | k_is | k_exc | rfl)
    (case k_mundo => first | k_is | k_exc | rfl)
    (case a_mcopy => first | k_is | k_exc | rfl)
    (case i_mcopy => first | k_is | k_exc | rfl)
    (case l_mcopy => first | k_is | k_exc | rfl)
    (case c_mcopy => first | k_is | k_exc | rfl)
    (case k_mcopy => first | k_is | k_exc | rfl)
    (case a_mblen => first | k_is | k_exc | rfl)
    (case i_mblen => first | k_is | k_exc | rfl)
    (case l_mblen => first | k_is | k_exc | rfl)
    (case c_mblen => first | k_is | k_exc | rfl)
    (case k_mblen => first | k_is | k_exc | rfl)
    (case a_psteps => first | k_is | k_exc | rfl)
    (case g_psteps => first | k_is | k_exc | rfl)
    (case t_psteps => first | k_is | k_exc | rfl)
    (case r_psteps => first | k_is | k_exc | rfl)
    (case l_psteps => first | k_is | k_exc | rfl)
    (case c_psteps => first | k_is | k_exc | rfl)
    (case k_psteps => first | k_is | k_exc | rfl)
    (case a_pgood => first | k_is | k_exc | rfl)
    (case g_pgood => first | k_is | k_exc | rfl)
    (case t_pgood => first | k_is | k_exc | rfl)
    (case r_pgood => first | k_is | k_exc | rfl)
    (case l_pgood => first | k_is | k_exc | rfl)
    (case c_pgood => first | k_is | k_exc | rfl)
    (case k_pgood => first | k_is | k_exc | rfl)
    (case a_pmachine => first | k_is | k_exc | rfl)
    (case g_pmachine => first | k_is | k_exc | rfl)
    (case t_pmachine => first | k_is | k_exc | rfl)
    (case r_pmachine => first | k_is | k_exc | rfl)
    (case l_pmachine => first | k_is | k_exc | rfl)
    (case c_pmachine => first | k_is | k_exc | rfl)
    (case k_pmachine => first | k_is | k_exc | rfl)
