import PyProof.Rows.All
import Wide.All
import OpenK.AllK
import Wide.FinOn
import KE.KStateDown
import Lean
import HandS.ForMost
import HandS.Exc
import HandS.Defaults
import HandS.Slots
import HandS.SlotsOwn
import HandS.Head0
import HandS.Head1
import HandS.Head2
import HandS.HeadEnd
import HandS.HeadHook1
import HandS.HeadHook2
import PySem.Challenge.RW_standwaves_k67_whole_ends_of_turned_and
import PyProof.StrOps2
import KE.GoesMore
import KE.GoesEnum
import HandS.Walk
import HandS.Codes
import HandS.IsInst
import HandS.Style
import HandS.SortInts
set_option Elab.async false
set_option linter.all false
set_option maxRecDepth 100000
set_option maxHeartbeats 0
/-! Standing waves, plain mathematics (no program): rings of signs 0, 1, 2 as periodic functions of whole numbers, the rule 0111 with one rest, lifts (heights). -/
namespace Sw

def rul (a b c : Nat) : Nat := if b = 0 then (if a = 1 ∨ c = 1 then 1 else 0) else if b = 1 then 2 else 0
def F (x : Int → Nat) : Int → Nat := fun i => rul (x (i - 1)) (x i) (x (i + 1))
def it : Nat → (Int → Nat) → (Int → Nat)
  | 0, x => x
  | t + 1, x => F (it t x)

theorem rul_lt (a b c : Nat) : rul a b c < 3 := by
  unfold rul; split
  · split <;> omega
  · split <;> omega
theorem rul_two {a b c : Nat} (hb : b < 3) : rul a b c = 2 ↔ b = 1 := by
  unfold rul; split
  · split <;> omega
  · split <;> omega
theorem rul_comm (a b c : Nat) : rul a b c = rul c b a := by
  unfold rul
  simp only [Or.comm (a := a = 1)]

/-- signs, with a period -/
structure Per (n : Nat) (x : Int → Nat) : Prop where
  pos : 0 < n
  lt : ∀ i, x i < 3
  per : ∀ i, x (i + n) = x i

theorem F_lt (x : Int → Nat) (i : Int) : F x i < 3 := rul_lt _ _ _
theorem Per.F {n : Nat} {x : Int → Nat} (P : Per n x) : Per n (F x) := by
  refine ⟨P.pos, F_lt x, fun i => ?_⟩
  unfold Sw.F
  rw [show i + n - 1 = i - 1 + n by omega, show i + (n : Int) + 1 = i + 1 + n by omega, P.per, P.per, P.per]
theorem Per.it {n : Nat} {x : Int → Nat} (P : Per n x) : ∀ t, Per n (it t x)
  | 0 => P
  | t + 1 => (Per.it P t).F
theorem it_succ (x : Int → Nat) : ∀ t, it (t + 1) x = it t (F x)
  | 0 => rfl
  | t + 1 => by
    show F (it (t + 1) x) = F (it t (F x))
    rw [it_succ x t]
theorem it_add (x : Int → Nat) (s : Nat) : ∀ t, it (t + s) x = it t (it s x)
  | 0 => by rw [Nat.zero_add]; rfl
  | t + 1 => by
    rw [show t + 1 + s = (t + s) + 1 by omega]
    show F (it (t + s) x) = F (it t (it s x))
    rw [it_add x s t]

/-! ### the symmetries -/
def sh (p : Int) (x : Int → Nat) : Int → Nat := fun i => x (i - p)
def mi (x : Int → Nat) : Int → Nat := fun i => x (-1 - i)
theorem F_sh (p : Int) (x : Int → Nat) : F (sh p x) = sh p (F x) := by
  funext i
  show rul (x (i - 1 - p)) (x (i - p)) (x (i + 1 - p)) = rul (x (i - p - 1)) (x (i - p)) (x (i - p + 1))
  rw [show i - 1 - p = i - p - 1 by omega, show i + 1 - p = i - p + 1 by omega]
theorem F_mi (x : Int → Nat) : F (mi x) = mi (F x) := by
  funext i
  show rul (x (-1 - (i - 1))) (x (-1 - i)) (x (-1 - (i + 1))) = rul (x (-1 - i - 1)) (x (-1 - i)) (x (-1 - i + 1))
  rw [show -1 - (i - 1) = -1 - i + 1 by omega, show -1 - (i + 1) = -1 - i - 1 by omega]
  exact rul_comm _ _ _
theorem it_sh (p : Int) (x : Int → Nat) : ∀ t, it t (sh p x) = sh p (it t x)
  | 0 => rfl
  | t + 1 => by
    show F (it t (sh p x)) = sh p (F (it t x))
    rw [it_sh p x t, F_sh]
theorem it_mi (x : Int → Nat) : ∀ t, it t (mi x) = mi (it t x)
  | 0 => rfl
  | t + 1 => by
    show F (it t (mi x)) = mi (F (it t x))
    rw [it_mi x t, F_mi]
theorem sh_sh (p q : Int) (x : Int → Nat) : sh p (sh q x) = sh (p + q) x := by
  funext i
  show x (i - p - q) = x (i - (p + q))
  rw [show i - p - q = i - (p + q) by omega]
theorem sh_zero (x : Int → Nat) : sh 0 x = x := by
  funext i
  show x (i - 0) = x i
  rw [Int.sub_zero]
theorem mi_mi (x : Int → Nat) : mi (mi x) = x := by
  funext i
  show x (-1 - (-1 - i)) = x i
  rw [show -1 - (-1 - i) = i by omega]
theorem mi_sh (p : Int) (x : Int → Nat) : mi (sh p x) = sh (-p) (mi x) := by
  funext i
  show x (-1 - i - p) = x (-1 - (i - -p))
  rw [show -1 - i - p = -1 - (i - -p) by omega]
theorem Per.mul {n : Nat} {x : Int → Nat} (P : Per n x) : ∀ (k : Nat) (i : Int), x (i + (k * n : Nat)) = x i
  | 0, i => by rw [Nat.zero_mul]; simp
  | k + 1, i => by
    rw [show i + ((k + 1) * n : Nat) = i + (k * n : Nat) + n by rw [Nat.succ_mul]; omega, P.per, Per.mul P k i]
theorem Per.back {n : Nat} {x : Int → Nat} (P : Per n x) (i : Int) : x (i - n) = x i := by
  have := P.per (i - n)
  rw [show i - (n : Int) + n = i by omega] at this
  exact this.symm
theorem Per.sh {n : Nat} {x : Int → Nat} (P : Per n x) (p : Int) : Per n (sh p x) :=
  ⟨P.pos, fun i => P.lt _, fun i => by show x (i + n - p) = x (i - p); rw [show i + n - p = i - p + n by omega, P.per]⟩
theorem Per.mi {n : Nat} {x : Int → Nat} (P : Per n x) : Per n (mi x) :=
  ⟨P.pos, fun i => P.lt _, fun i => by show x (-1 - (i + n)) = x (-1 - i); rw [show -1 - (i + (n : Int)) = -1 - i - n by omega, P.back]⟩
theorem Per.rep {n : Nat} {x : Int → Nat} (P : Per n x) {k : Nat} (hk : 0 < k) : Per (k * n) x :=
  ⟨Nat.mul_pos hk P.pos, P.lt, fun i => P.mul k i⟩
theorem Per.mod {n : Nat} {x : Int → Nat} (P : Per n x) (i : Int) : x (i % n) = x i := by
  have hn : (0 : Int) < n := by have := P.pos; omega
  have e := Int.emod_add_mul_ediv i n
  have key : ∀ (k : Int) (j : Int), x (j + n * k) = x j := by
    intro k j
    obtain ⟨m, rfl | rfl⟩ := Int.eq_nat_or_neg k
    · have := P.mul m j
      rw [show (n : Int) * m = ((m * n : Nat) : Int) by rw [Int.natCast_mul, Int.mul_comm]]
      exact this
    · have := P.mul m (j + n * -(m : Int))
      rw [show j + (n : Int) * -(m : Int) + ((m * n : Nat) : Int) = j by rw [Int.natCast_mul, Int.mul_neg, Int.mul_comm (m : Int) (n : Int)]; omega] at this
      exact this.symm
  have := key (i / n) (i % n)
  rw [e] at this
  exact this.symm

/-! ### lifts -/
structure Lift (x : Int → Nat) (h : Int → Int) : Prop where
  md : ∀ i, h i % 3 = x i
  up : ∀ i, h (i + 1) - h i ≤ 1
  dn : ∀ i, h i - h (i + 1) ≤ 1
def hF (x : Int → Nat) (h : Int → Int) : Int → Int := fun i => if x i = 0 ∧ x (i - 1) ≠ 1 ∧ x (i + 1) ≠ 1 then h i else h i + 1
def hit (x : Int → Nat) (h : Int → Int) : Nat → Int → Int
  | 0 => h
  | t + 1 => hF (it t x) (hit x h t)

theorem hF_ge (x : Int → Nat) (h : Int → Int) (i : Int) : h i ≤ hF x h i := by unfold hF; split <;> omega
theorem hF_le (x : Int → Nat) (h : Int → Int) (i : Int) : hF x h i ≤ h i + 1 := by unfold hF; split <;> omega
section
variable {x : Int → Nat} {h : Int → Int}
theorem Lift.prev (L : Lift x h) (i : Int) : h i - h (i - 1) ≤ 1 ∧ h (i - 1) - h i ≤ 1 := by
  have a := L.up (i - 1)
  have b := L.dn (i - 1)
  rw [show i - 1 + 1 = i by omega] at a b
  exact ⟨a, b⟩
theorem Lift.step (L : Lift x h) : Lift (F x) (hF x h) := by
  have prevs := L.prev
  refine ⟨fun i => ?_, fun i => ?_, fun i => ?_⟩
  · have m0 := L.md (i - 1); have m1 := L.md i; have m2 := L.md (i + 1)
    unfold hF F rul
    split <;> split <;> (try split) <;> omega
  · have m0 := L.md (i - 1); have m1 := L.md i; have m2 := L.md (i + 1); have m3 := L.md (i + 1 + 1)
    have p := prevs i; have u := L.up i; have d := L.dn i; have u2 := L.up (i + 1); have d2 := L.dn (i + 1)
    unfold hF
    rw [show i + 1 - 1 = i by omega]
    split <;> split <;> omega
  · have m0 := L.md (i - 1); have m1 := L.md i; have m2 := L.md (i + 1); have m3 := L.md (i + 1 + 1)
    have p := prevs i; have u := L.up i; have d := L.dn i; have u2 := L.up (i + 1); have d2 := L.dn (i + 1)
    unfold hF
    rw [show i + 1 - 1 = i by omega]
    split <;> split <;> omega
theorem Lift.it (L : Lift x h) : ∀ t, Lift (it t x) (hit x h t)
  | 0 => L
  | t + 1 => (Lift.it L t).step
/-- the ceilings go to the greatest of three -/
theorem Lift.ceil (L : Lift x h) (k i : Int) : 3 * k + 1 ≤ hF x h i ↔ 3 * k + 1 ≤ h (i - 1) ∨ 3 * k + 1 ≤ h i ∨ 3 * k + 1 ≤ h (i + 1) := by
  have m0 := L.md (i - 1); have m1 := L.md i; have m2 := L.md (i + 1)
  have p := L.prev i; have u := L.up i; have d := L.dn i
  unfold hF
  split <;> constructor <;> intro q <;> omega
theorem Lift.reach (L : Lift x h) (k : Int) : ∀ (t : Nat) (i : Int), 3 * k + 1 ≤ hit x h t i ↔ ∃ j, i - t ≤ j ∧ j ≤ i + t ∧ 3 * k + 1 ≤ h j
  | 0, i => by
    constructor
    · intro q
      exact ⟨i, by omega, by omega, q⟩
    · rintro ⟨j, h1, h2, q⟩
      have e : j = i := by omega
      subst e
      exact q
  | t + 1, i => by
    show 3 * k + 1 ≤ hF (Sw.it t x) (hit x h t) i ↔ _
    rw [(L.it t).ceil k i, L.reach k t (i - 1), L.reach k t i, L.reach k t (i + 1)]
    constructor
    · rintro (⟨j, h1, h2, q⟩ | ⟨j, h1, h2, q⟩ | ⟨j, h1, h2, q⟩) <;> exact ⟨j, by omega, by omega, q⟩
    · rintro ⟨j, h1, h2, q⟩
      by_cases c1 : j ≤ i - 1 + t
      · exact .inl ⟨j, by omega, c1, q⟩
      · by_cases c2 : j ≤ i + t
        · exact .inr (.inl ⟨j, by omega, c2, q⟩)
        · exact .inr (.inr ⟨j, by omega, by omega, q⟩)
theorem hit_ge (t : Nat) (i : Int) : h i ≤ hit x h t i := by
  induction t with
  | zero => exact Int.le_refl _
  | succ t a => exact Int.le_trans a (hF_ge _ _ i)
theorem hit_le (t : Nat) (i : Int) : hit x h t i ≤ h i + t := by
  induction t with
  | zero => show h i ≤ h i + ((0 : Nat) : Int); omega
  | succ t a =>
    have b := hF_le (Sw.it t x) (hit x h t) i
    show hF (Sw.it t x) (hit x h t) i ≤ _
    omega
theorem hit_add (s : Nat) : ∀ (t : Nat), hit x h (t + s) = hit (it s x) (hit x h s) t
  | 0 => by rw [Nat.zero_add]; rfl
  | t + 1 => by
    rw [show t + 1 + s = (t + s) + 1 by omega]
    show hF (Sw.it (t + s) x) (hit x h (t + s)) = hF (Sw.it t (Sw.it s x)) (hit (Sw.it s x) (hit x h s) t)
    rw [hit_add s t, it_add]
end

/-! ### quiet -/
def Zero (x : Int → Nat) : Prop := ∀ i, x i = 0
/-- heights whose greatest, rounded up to a multiple of three, is top -/
structure Top (h : Int → Int) (top : Int) : Prop where
  md : top % 3 = 0
  le : ∀ i, h i ≤ top
  ex : ∃ i, top - 2 ≤ h i
section
variable {x : Int → Nat} {h : Int → Int} {top : Int}
theorem Top.hit (T : Top h top) (L : Lift x h) (t : Nat) (i : Int) : Sw.hit x h t i ≤ top := by
  by_cases c : Sw.hit x h t i ≤ top
  · exact c
  · exfalso
    have m := T.md
    have q := (L.reach (top / 3) t i).mp (by omega)
    obtain ⟨j, _, _, q⟩ := q
    have := T.le j
    omega
theorem const_of (g : Int → Int) (hg : ∀ i, g (i + 1) = g i) (i : Int) : g i = g 0 := by
  obtain ⟨m, rfl | rfl⟩ := Int.eq_nat_or_neg i
  · induction m with
    | zero => rfl
    | succ m ih =>
      rw [show ((m + 1 : Nat) : Int) = (m : Int) + 1 by omega, hg]
      exact ih
  · induction m with
    | zero => rfl
    | succ m ih =>
      have := hg (-((m + 1 : Nat) : Int))
      rw [show -((m + 1 : Nat) : Int) + 1 = -(m : Int) by omega] at this
      rw [← this]
      exact ih
theorem zero_iff_top (T : Top h top) (L : Lift x h) (t : Nat) : Zero (it t x) ↔ ∀ i, hit x h t i = top := by
  have Lt := L.it t
  constructor
  · intro z
    have m0 : ∀ i, hit x h t i % 3 = 0 := fun i => by rw [Lt.md i, z i]; rfl
    have st : ∀ i, hit x h t (i + 1) = hit x h t i := fun i => by
      have a := m0 i; have b := m0 (i + 1); have u := Lt.up i; have d := Lt.dn i
      omega
    obtain ⟨i0, e0⟩ := T.ex
    intro i
    have e1 : hit x h t i = hit x h t i0 := (const_of _ st i).trans (const_of _ st i0).symm
    have g := hit_ge (x := x) (h := h) t i0
    have l := T.hit L t i0
    have a := m0 i0
    have b := T.md
    omega
  · intro z i
    have a := Lt.md i
    have b := T.md
    rw [z i] at a
    omega
theorem high_up (T : Top h top) (L : Lift x h) (i : Int) (hi : top - 2 ≤ h i) : ∀ t : Nat, top ≤ hit x h t i ∨ h i + t ≤ hit x h t i
  | 0 => .inr (by show h i + ((0 : Nat) : Int) ≤ h i; omega)
  | t + 1 => by
    have g := hF_ge (Sw.it t x) (Sw.hit x h t) i
    rcases high_up T L i hi t with q | q
    · exact .inl (Int.le_trans q g)
    · by_cases c : top ≤ Sw.hit x h t i
      · exact .inl (Int.le_trans c g)
      · have m := (L.it t).md i
        have b := T.md
        have g0 := hit_ge (x := x) (h := h) t i
        refine .inr ?_
        show h i + ((t + 1 : Nat) : Int) ≤ hF (Sw.it t x) (Sw.hit x h t) i
        unfold hF
        split
        · omega
        · omega
/-- a high seat is at the top after as many beats as it lacks -/
theorem high_top (T : Top h top) (L : Lift x h) {i : Int} (hi : top - 2 ≤ h i) (t : Nat) : hit x h t i = top ↔ top - h i ≤ t := by
  have l := T.hit L t i
  have u := hit_le (x := x) (h := h) t i
  have g := hit_ge (x := x) (h := h) t i
  have q := high_up T L i hi t
  constructor <;> intro e <;> omega
/-- .. and one that is not high two beats after it is -/
theorem low_top (T : Top h top) (L : Lift x h) {i : Int} (hi : h i < top - 2) (t : Nat) : hit x h t i = top ↔ ∃ s : Nat, s + 2 ≤ t ∧ ∃ j, i - s ≤ j ∧ j ≤ i + s ∧ top - 2 ≤ h j := by
  have m := T.md
  have reach : ∀ (s : Nat), top - 2 ≤ hit x h s i ↔ ∃ j, i - s ≤ j ∧ j ≤ i + s ∧ top - 2 ≤ h j := fun s => by
    have r := L.reach ((top - 3) / 3) s i
    rw [show 3 * ((top - 3) / 3) + 1 = top - 2 by omega] at r
    exact r
  constructor
  · intro e
    have u := hit_le (x := x) (h := h) t i
    have ht : 2 ≤ t := by omega
    refine ⟨t - 2, by omega, (reach (t - 2)).mp ?_⟩
    have u2 := hit_le (x := it (t - 2) x) (h := hit x h (t - 2)) 2 i
    rw [← hit_add, show 2 + (t - 2) = t by omega] at u2
    omega
  · rintro ⟨s, hs, q⟩
    have a := (reach s).mpr q
    have Ts : Top (hit x h s) top := ⟨m, fun j => T.hit L s j, i, a⟩
    have r := (high_top Ts (L.it s) a (t - s)).mpr (by omega)
    rw [← hit_add, show t - s + s = t by omega] at r
    exact r
end

/-! ### moving -/
/-- a beat turns it by p -/
def Mv (p : Int) (x : Int → Nat) : Prop := F x = sh p x
theorem Mv.F {p : Int} {x : Int → Nat} (m : Mv p x) : Mv p (F x) := by
  unfold Mv at m ⊢
  rw [m, F_sh, m]
theorem Mv.it {p : Int} {x : Int → Nat} (m : Mv p x) : ∀ t, Mv p (it t x)
  | 0 => m
  | t + 1 => (Mv.it m t).F
theorem Mv.turn {p : Int} {x : Int → Nat} (m : Mv p x) : ∀ t : Nat, Sw.it t x = sh (p * t) x
  | 0 => by rw [show p * ((0 : Nat) : Int) = 0 by simp, sh_zero]; rfl
  | t + 1 => by
    have e : Sw.F (Sw.it t x) = sh p (Sw.it t x) := m.it t
    show Sw.F (Sw.it t x) = _
    rw [e, Mv.turn m t, sh_sh]
    congr 1
    rw [show ((t + 1 : Nat) : Int) = (t : Int) + 1 by omega, Int.mul_add, Int.mul_one, Int.add_comm]
theorem Mv.mi {p : Int} {x : Int → Nat} (m : Mv p x) : Mv (-p) (mi x) := by
  unfold Mv at m ⊢
  rw [F_mi, m, mi_sh]
theorem Mv.sh {p : Int} {x : Int → Nat} (m : Mv p x) (q : Int) : Mv p (sh q x) := by
  unfold Mv at m ⊢
  rw [F_sh, m, sh_sh, sh_sh, Int.add_comm]
section
variable {x : Int → Nat} {h : Int → Int}
theorem one_iff (L : Lift x h) (t : Nat) (i : Int) : it (t + 1) x i = 1 ↔ ∃ k : Int, 3 * k + 1 ≤ hit x h (t + 1) i ∧ ¬ 3 * k + 1 ≤ hit x h t i := by
  have m := (L.it t).md i
  have m1 := (L.it (t + 1)).md i
  have a := hF_ge (it t x) (hit x h t) i
  have b := hF_le (it t x) (hit x h t) i
  have a' : hit x h t i ≤ hit x h (t + 1) i := a
  have b' : hit x h (t + 1) i ≤ hit x h t i + 1 := b
  constructor
  · intro e
    refine ⟨hit x h (t + 1) i / 3, by omega, fun q => ?_⟩
    have e2 : hit x h (t + 1) i = hit x h t i := by omega
    have e3 : it t x i = 1 := by omega
    have e4 : it (t + 1) x i = 2 := (rul_two (by omega)).mpr e3
    omega
  · rintro ⟨k, q1, q2⟩
    omega
theorem moves_up {n : Nat} {c : Int} (hn : 0 < n) (hc : 0 ≤ c) (L : Lift x h) (hp : ∀ i, h (i + n) = h i + 3 * c) (hP : Per n x) : Mv (-1) (it (n + 2) x) := by
  -- from n beats on the ceilings move
  have C : ∀ (t : Nat) (k i : Int), n ≤ t → (3 * k + 1 ≤ hit x h (t + 1) i ↔ 3 * k + 1 ≤ hit x h t (i + 1)) := fun t k i ht => by
    rw [L.reach k (t + 1) i, L.reach k t (i + 1)]
    constructor
    · rintro ⟨j, h1, h2, q⟩
      by_cases cj : i + 1 - t ≤ j
      · exact ⟨j, cj, by omega, q⟩
      · refine ⟨j + n + n, by omega, by omega, ?_⟩
        rw [hp, hp]
        omega
    · rintro ⟨j, h1, h2, q⟩
      exact ⟨j, by omega, by omega, q⟩
  have ones : ∀ (t : Nat) (i : Int), n ≤ t → (it (t + 2) x i = 1 ↔ it (t + 1) x (i + 1) = 1) := fun t i ht => by
    rw [one_iff L (t + 1) i, one_iff L t (i + 1)]
    constructor
    · rintro ⟨k, q1, q2⟩
      exact ⟨k, (C (t + 1) k i (by omega)).mp q1, fun z => q2 ((C t k i ht).mpr z)⟩
    · rintro ⟨k, q1, q2⟩
      exact ⟨k, (C (t + 1) k i (by omega)).mpr q1, fun z => q2 ((C t k i ht).mp z)⟩
  have two : ∀ (t : Nat) (i : Int), it (t + 1) x i = 2 ↔ it t x i = 1 := fun t i => rul_two ((hP.it t).lt i)
  unfold Mv
  funext i
  show it (n + 3) x i = it (n + 2) x (i - -1)
  rw [show i - -1 = i + 1 by omega]
  have o1 := ones (n + 1) i (by omega)
  have o0 := ones n i (Nat.le_refl _)
  have t1 := two (n + 2) i
  have t0 := two (n + 1) (i + 1)
  have l1 := (hP.it (n + 3)).lt i
  have l0 := (hP.it (n + 2)).lt (i + 1)
  rw [show n + 1 + 2 = n + 3 by omega, show n + 1 + 1 = n + 2 by omega] at o1
  rw [show n + 2 + 1 = n + 3 by omega] at t1
  rw [show n + 1 + 1 = n + 2 by omega] at t0
  omega
theorem Lift.mi (L : Lift x h) : Lift (mi x) (fun i => h (-1 - i)) := by
  refine ⟨fun i => L.md _, fun i => ?_, fun i => ?_⟩
  · have := L.dn (-1 - (i + 1))
    rw [show -1 - (i + 1) + 1 = -1 - i by omega] at this
    show h (-1 - (i + 1)) - h (-1 - i) ≤ 1
    omega
  · have := L.up (-1 - (i + 1))
    rw [show -1 - (i + 1) + 1 = -1 - i by omega] at this
    show h (-1 - i) - h (-1 - (i + 1)) ≤ 1
    omega
theorem Lift.sh (L : Lift x h) (p : Int) : Lift (sh p x) (fun i => h (i - p)) := by
  refine ⟨fun i => L.md _, fun i => ?_, fun i => ?_⟩
  · have := L.up (i - p)
    show h (i + 1 - p) - h (i - p) ≤ 1
    rw [show i + 1 - p = i - p + 1 by omega]
    exact this
  · have := L.dn (i - p)
    show h (i - p) - h (i + 1 - p) ≤ 1
    rw [show i + 1 - p = i - p + 1 by omega]
    exact this
theorem moves_down {n : Nat} {c : Int} (hn : 0 < n) (hc : c ≤ 0) (L : Lift x h) (hp : ∀ i, h (i + n) = h i + 3 * c) (hP : Per n x) : Mv 1 (it (n + 2) x) := by
  have q := moves_up (c := -c) hn (by omega) L.mi (fun i => by
    have := hp (-1 - (i + n))
    rw [show -1 - (i + (n : Int)) + n = -1 - i by omega] at this
    show h (-1 - (i + n)) = h (-1 - i) + 3 * -c
    omega) hP.mi
  have r := q.mi
  rw [it_mi, mi_mi] at r
  exact r
end

/-! ### steps, their sum, the lift made of them -/
def stp (a b : Nat) : Int := if ((b : Int) - (a : Int)) % 3 = 2 then -1 else ((b : Int) - (a : Int)) % 3
theorem stp_bd (a b : Nat) : -1 ≤ stp a b ∧ stp a b ≤ 1 := by unfold stp; split <;> omega
theorem stp_md (a b : Nat) : ((a : Int) + stp a b) % 3 = (b : Int) % 3 := by unfold stp; split <;> omega
def sumTo (f : Nat → Int) : Nat → Int
  | 0 => 0
  | k + 1 => sumTo f k + f k
def hgt (x : Int → Nat) : Int → Int
  | .ofNat k => (x 0 : Int) + sumTo (fun j => stp (x j) (x (j + 1))) k
  | .negSucc k => (x 0 : Int) - sumTo (fun j => stp (x (-((j : Int) + 1))) (x (-(j : Int)))) (k + 1)
theorem hgt_zero (x : Int → Nat) : hgt x 0 = x 0 := by
  show (x 0 : Int) + 0 = x 0
  omega
theorem hgt_step (x : Int → Nat) (i : Int) : hgt x (i + 1) - hgt x i = stp (x i) (x (i + 1)) := by
  cases i with
  | ofNat k =>
    show (x 0 : Int) + (sumTo (fun j => stp (x j) (x (j + 1))) k + stp (x k) (x (k + 1))) - ((x 0 : Int) + sumTo (fun j => stp (x j) (x (j + 1))) k) = stp (x (k : Int)) (x ((k : Int) + 1))
    omega
  | negSucc k =>
    cases k with
    | zero =>
      show (x 0 : Int) + 0 - ((x 0 : Int) - (0 + stp (x (-(((0 : Nat) : Int) + 1))) (x (-((0 : Nat) : Int))))) = stp (x (-1)) (x 0)
      have e : stp (x (-(((0 : Nat) : Int) + 1))) (x (-((0 : Nat) : Int))) = stp (x (-1)) (x 0) := rfl
      omega
    | succ k =>
      have e : Int.negSucc (k + 1) + 1 = Int.negSucc k := by omega
      rw [e]
      show (x 0 : Int) - sumTo (fun j => stp (x (-((j : Int) + 1))) (x (-(j : Int)))) (k + 1) - ((x 0 : Int) - (sumTo (fun j => stp (x (-((j : Int) + 1))) (x (-(j : Int)))) (k + 1) + stp (x (-(((k + 1 : Nat) : Int) + 1))) (x (-((k + 1 : Nat) : Int))))) = stp (x (Int.negSucc (k + 1))) (x (Int.negSucc k))
      have e2 : -(((k + 1 : Nat) : Int) + 1) = Int.negSucc (k + 1) := by omega
      have e3 : -((k + 1 : Nat) : Int) = Int.negSucc k := by omega
      rw [e2, e3]
      omega
theorem lift_hgt {x : Int → Nat} (hx : ∀ i, x i < 3) : Lift x (hgt x) := by
  have st := hgt_step x
  refine ⟨fun i => ?_, fun i => ?_, fun i => ?_⟩
  · have c : ∀ i, (hgt x i - x i) % 3 = 0 := fun i => by
      have z := const_of (fun i => (hgt x i - x i) % 3) (fun i => by
        have a := st i
        have b := stp_md (x i) (x (i + 1))
        show (hgt x (i + 1) - x (i + 1)) % 3 = (hgt x i - x i) % 3
        omega) i
      have z' : (hgt x i - x i) % 3 = (hgt x 0 - x 0) % 3 := z
      rw [z', hgt_zero]
      omega
    have := c i
    have := hx i
    omega
  · have a := st i
    have b := stp_bd (x i) (x (i + 1))
    omega
  · have a := st i
    have b := stp_bd (x i) (x (i + 1))
    omega
/-- any lift's steps are the steps -/
theorem Lift.stp {x : Int → Nat} {h : Int → Int} (L : Lift x h) (i : Int) : h (i + 1) - h i = stp (x i) (x (i + 1)) := by
  have a := L.md i; have b := L.md (i + 1); have u := L.up i; have d := L.dn i
  unfold Sw.stp
  split <;> omega
/-- the sum of the steps of a ring of n seats -/
def S (n : Nat) (x : Int → Nat) : Int := sumTo (fun j => stp (x j) (x (j + 1))) n
theorem Lift.sum {x : Int → Nat} {h : Int → Int} (L : Lift x h) : ∀ n : Nat, S n x = h n - h 0
  | 0 => by show (0 : Int) = h 0 - h 0; omega
  | n + 1 => by
    have e := L.sum n
    have s := L.stp n
    show S n x + Sw.stp (x n) (x (n + 1)) = h ((n + 1 : Nat) : Int) - h 0
    rw [show ((n + 1 : Nat) : Int) = (n : Int) + 1 by omega]
    omega
theorem Lift.period {n : Nat} {x : Int → Nat} {h : Int → Int} (L : Lift x h) (P : Per n x) (i : Int) : h (i + n) = h i + S n x := by
  have z := const_of (fun i => h (i + n) - h i) (fun i => by
    have a := L.stp i
    have b := L.stp (i + n)
    show h (i + 1 + n) - h (i + 1) = h (i + n) - h i
    rw [show i + 1 + (n : Int) = i + n + 1 by omega]
    rw [P.per, show i + (n : Int) + 1 = i + 1 + n by omega, P.per] at b
    rw [show i + (n : Int) + 1 = i + 1 + n by omega]
    omega) i
  have z' : h (i + n) - h i = h (0 + n) - h 0 := z
  have e := L.sum n
  rw [show (0 : Int) + n = n by omega] at z'
  omega
/-- the turning number -/
def T (n : Nat) (x : Int → Nat) : Int := S n x / 3
theorem S_mod {n : Nat} {x : Int → Nat} (P : Per n x) : S n x = 3 * T n x := by
  have L := lift_hgt P.lt
  have e := L.period P 0
  have a := L.md 0
  have b := L.md (0 + n)
  rw [P.per] at b
  unfold T
  omega
theorem Lift.period3 {n : Nat} {x : Int → Nat} {h : Int → Int} (L : Lift x h) (P : Per n x) (i : Int) : h (i + n) = h i + 3 * T n x := by
  rw [← S_mod P]
  exact L.period P i
theorem T_of {n : Nat} {x : Int → Nat} {h : Int → Int} {c : Int} (L : Lift x h) (P : Per n x) (i : Int) (e : h (i + n) = h i + 3 * c) : T n x = c := by
  have := L.period3 P i
  omega
theorem T_F {n : Nat} {x : Int → Nat} (P : Per n x) : T n (F x) = T n x := by
  have L := lift_hgt P.lt
  refine T_of L.step P.F 0 ?_
  have e := L.period3 P 0
  have a := P.per 0
  have b := P.per (0 - 1)
  have c := P.per (0 + 1)
  unfold hF
  rw [show (0 : Int) + n - 1 = 0 - 1 + n by omega, show (0 : Int) + n + 1 = 0 + 1 + n by omega, a, b, c]
  split <;> omega
theorem T_it {n : Nat} {x : Int → Nat} (P : Per n x) : ∀ t, T n (it t x) = T n x
  | 0 => rfl
  | t + 1 => (T_F (P.it t)).trans (T_it P t)
theorem T_sh {n : Nat} {x : Int → Nat} (P : Per n x) (p : Int) : T n (sh p x) = T n x := by
  have L := lift_hgt P.lt
  refine T_of (L.sh p) (P.sh p) 0 ?_
  have e := L.period3 P (0 - p)
  show hgt x (0 + n - p) = hgt x (0 - p) + 3 * T n x
  rw [show (0 : Int) + n - p = 0 - p + n by omega]
  exact e
theorem T_mi {n : Nat} {x : Int → Nat} (P : Per n x) : T n (mi x) = - T n x := by
  have L := lift_hgt P.lt
  refine T_of L.mi P.mi 0 ?_
  have e := L.period3 P (-1 - (0 + n))
  show hgt x (-1 - (0 + n)) = hgt x (-1 - 0) + 3 * -T n x
  rw [show -1 - (0 + (n : Int)) + n = -1 - 0 by omega] at e
  omega
theorem T_rep {n : Nat} {x : Int → Nat} (P : Per n x) {k : Nat} (hk : 0 < k) : T (k * n) x = k * T n x := by
  have L := lift_hgt P.lt
  refine T_of L (P.rep hk) 0 ?_
  have all : ∀ k : Nat, hgt x (0 + (k * n : Nat)) = hgt x 0 + 3 * (k * T n x) := fun k => by
    induction k with
    | zero => simp
    | succ k ih =>
      have e := L.period3 P (0 + (k * n : Nat))
      rw [show (0 : Int) + ((k + 1) * n : Nat) = 0 + (k * n : Nat) + n by rw [Nat.succ_mul]; omega, e, ih, show ((k + 1 : Nat) : Int) = (k : Int) + 1 by omega, Int.add_mul, Int.one_mul]
      omega
  exact all k
end Sw
/-! The rings as lists of signs: turned, mirrored, repeated, a beat later; ends. -/
namespace Sw
/-- the signs of a ring, read round -/
def per (l : List Nat) : Int → Nat := fun i => l.getD (i % l.length).toNat 0
def ofF {α : Type} (n : Nat) (f : Int → α) : List α := (List.range n).map fun (i : Nat) => f (i : Int)
/-- a stand -/
structure Ok (l : List Nat) : Prop where
  pos : 0 < l.length
  lt : ∀ d ∈ l, d < 3
theorem ofF_len {α : Type} (n : Nat) (f : Int → α) : (ofF n f).length = n := by simp [ofF]
theorem ofF_get {α : Type} {n i : Nat} (f : Int → α) (h : i < n) : (ofF n f)[i]? = some (f i) := by
  unfold ofF
  rw [List.getElem?_map, List.getElem?_range h]
  rfl
theorem ofF_congr {α : Type} {n : Nat} {f g : Int → α} (h : ∀ i : Nat, i < n → f i = g i) : ofF n f = ofF n g := by
  unfold ofF
  exact List.map_congr_left fun i hi => h i (List.mem_range.mp hi)
theorem ofF_eq {α : Type} {n : Nat} {f : Int → α} {l : List α} (hl : l.length = n) (h : ∀ i : Nat, i < n → l[i]? = some (f i)) : ofF n f = l := by
  apply List.ext_getElem?
  intro i
  by_cases c : i < n
  · rw [ofF_get f c, h i c]
  · rw [List.getElem?_eq_none (by rw [ofF_len]; omega), List.getElem?_eq_none (by omega)]
theorem mem_ofF {α : Type} {n : Nat} {f : Int → α} {x : α} : x ∈ ofF n f ↔ ∃ i : Nat, i < n ∧ f i = x := by
  unfold ofF
  simp [List.mem_map, List.mem_range]
theorem per_nat {l : List Nat} {i : Nat} (h : i < l.length) : l[i]? = some (per l i) := by
  unfold per
  have e : ((i : Int) % l.length).toNat = i := by
    rw [Int.emod_eq_of_lt (by omega) (by omega)]
    omega
  rw [e, List.getD_eq_getElem?_getD, List.getElem?_eq_getElem h]
  rfl
theorem per_lt {l : List Nat} (h : Ok l) (i : Int) : per l i < 3 := by
  have hp := h.pos
  have h1 : 0 ≤ i % l.length := Int.emod_nonneg _ (by omega)
  have h2 : i % l.length < l.length := Int.emod_lt_of_pos _ (by omega)
  unfold per
  have hlt : (i % l.length).toNat < l.length := by omega
  rw [List.getD_eq_getElem?_getD, List.getElem?_eq_getElem hlt]
  exact h.lt _ (List.getElem_mem hlt)
theorem Ok.per {l : List Nat} (h : Ok l) : Per l.length (per l) := by
  refine ⟨h.pos, per_lt h, fun i => ?_⟩
  unfold Sw.per
  rw [Int.add_emod_right]
theorem ofF_per (l : List Nat) : ofF l.length (per l) = l := ofF_eq rfl fun i h => per_nat h
theorem per_ofF {n : Nat} {x : Int → Nat} (P : Per n x) : per (ofF n x) = x := by
  funext i
  have hn := P.pos
  have h1 : 0 ≤ i % n := Int.emod_nonneg _ (by omega)
  have h2 : i % n < n := Int.emod_lt_of_pos _ (by omega)
  unfold per
  rw [ofF_len, List.getD_eq_getElem?_getD, ofF_get x (show (i % n).toNat < n by omega)]
  show x (((i % n).toNat : Nat) : Int) = x i
  rw [Int.toNat_of_nonneg h1]
  exact P.mod i
theorem ofF_ok {n : Nat} {x : Int → Nat} (P : Per n x) : Ok (ofF n x) := by
  refine ⟨by rw [ofF_len]; exact P.pos, fun d hd => ?_⟩
  obtain ⟨i, _, e⟩ := mem_ofF.mp hd
  rw [← e]
  exact P.lt _
/-- two rings of one size that read alike are one -/
theorem per_inj {l m : List Nat} (hl : l.length = m.length) (h : per l = per m) : l = m := by
  rw [← ofF_per l, ← ofF_per m, hl, h]

/-! ### a beat later -/
def ring (l : List Nat) : List Nat := ofF l.length (F (per l))
def rn (t : Nat) (l : List Nat) : List Nat := ofF l.length (it t (per l))
theorem rn_len (t : Nat) (l : List Nat) : (rn t l).length = l.length := ofF_len _ _
theorem rn_zero (l : List Nat) : rn 0 l = l := ofF_per l
theorem per_rn {l : List Nat} (h : Ok l) (t : Nat) : per (rn t l) = it t (per l) := per_ofF (h.per.it t)
theorem rn_ok {l : List Nat} (h : Ok l) (t : Nat) : Ok (rn t l) := ofF_ok (h.per.it t)
theorem rn_succ {l : List Nat} (h : Ok l) (t : Nat) : ring (rn t l) = rn (t + 1) l := by
  unfold ring
  rw [per_rn h t, rn_len]
  rfl
theorem rn_add {l : List Nat} (h : Ok l) (t s : Nat) : rn t (rn s l) = rn (t + s) l := by
  unfold rn
  rw [ofF_len, per_ofF (h.per.it s), it_add]
/-- the row of the ring between its last and its first sign -/
theorem row_get {l : List Nat} (h : Ok l) {z a : Nat} (hz : l[l.length - 1]? = some z) (ha : l[0]? = some a) (i : Nat) (hi : i < l.length + 2) : (z :: (l ++ [a]))[i]? = some (per l ((i : Int) - 1)) := by
  have hp := h.pos
  have P := h.per
  cases i with
  | zero =>
    rw [List.getElem?_cons_zero, ← hz, per_nat (show l.length - 1 < l.length by omega)]
    have e := P.per (-1)
    rw [show (-1 : Int) + l.length = ((l.length - 1 : Nat) : Int) by omega] at e
    rw [e]
    rfl
  | succ i =>
    rw [List.getElem?_cons_succ, show (((i + 1 : Nat) : Int) - 1) = (i : Int) by omega]
    by_cases c : i < l.length
    · rw [List.getElem?_append_left c, per_nat c]
    · have e : i = l.length := by omega
      subst e
      rw [List.getElem?_append_right (Nat.le_refl _), Nat.sub_self, List.getElem?_cons_zero, ← ha, per_nat hp]
      have e := P.per 0
      rw [show (0 : Int) + l.length = (l.length : Int) by omega] at e
      rw [e]
      rfl

/-! ### turned, mirrored, repeated -/
def turn (p : Int) (l : List Nat) : List Nat := ofF l.length (sh p (per l))
def mir (l : List Nat) : List Nat := l.reverse
def rep (k : Nat) (l : List Nat) : List Nat := (List.replicate k l).flatten
theorem turn_len (p : Int) (l : List Nat) : (turn p l).length = l.length := ofF_len _ _
theorem turn_ok {l : List Nat} (h : Ok l) (p : Int) : Ok (turn p l) := ofF_ok (h.per.sh p)
theorem per_turn {l : List Nat} (h : Ok l) (p : Int) : per (turn p l) = sh p (per l) := per_ofF (h.per.sh p)
/-- as the program writes it -/
theorem turn_cut {l : List Nat} (h : Ok l) (p : Int) {k : Nat} (hk : (k : Int) = p % l.length) : l.drop (l.length - k) ++ l.take (l.length - k) = turn p l := by
  have hp := h.pos
  have h2 : p % l.length < l.length := Int.emod_lt_of_pos _ (by omega)
  have hkl : k < l.length := by omega
  have P := h.per
  have ep : ∀ i : Int, per l (i - p) = per l (i - k) := fun i => by
    have e := Int.emod_add_mul_ediv p l.length
    rw [← P.mod (i - p), ← P.mod (i - k)]
    congr 1
    rw [show i - p = i - k - (l.length : Int) * (p / l.length) by omega, Int.sub_mul_emod_self_left]
  symm
  unfold turn
  refine ofF_eq (by simp) fun i hi => ?_
  show (l.drop (l.length - k) ++ l.take (l.length - k))[i]? = some (per l ((i : Int) - p))
  rw [ep]
  by_cases c : i < k
  · rw [List.getElem?_append_left (by simp; omega), List.getElem?_drop, per_nat (show l.length - k + i < l.length by omega)]
    have e := P.per ((i : Int) - k)
    rw [show (i : Int) - k + l.length = ((l.length - k + i : Nat) : Int) by omega] at e
    rw [e]
  · rw [List.getElem?_append_right (by simp; omega), List.length_drop, show i - (l.length - (l.length - k)) = i - k by omega, List.getElem?_take_of_lt (by omega), per_nat (show i - k < l.length by omega), show ((i - k : Nat) : Int) = (i : Int) - k by omega]
theorem turn_zero (l : List Nat) : turn 0 l = l := by
  unfold turn
  rw [sh_zero]
  exact ofF_per l
theorem turn_turn {l : List Nat} (h : Ok l) (p q : Int) : turn p (turn q l) = turn (p + q) l := by
  unfold turn
  rw [ofF_len, per_ofF (h.per.sh q), sh_sh]
theorem mir_len (l : List Nat) : (mir l).length = l.length := List.length_reverse
theorem mir_ok {l : List Nat} (h : Ok l) : Ok (mir l) := ⟨by rw [mir_len]; exact h.pos, fun d hd => h.lt d (List.mem_reverse.mp hd)⟩
theorem mir_eq {l : List Nat} (h : Ok l) : ofF l.length (mi (per l)) = mir l := by
  have P := h.per
  refine ofF_eq (mir_len l) fun i hi => ?_
  unfold mir
  rw [List.getElem?_reverse hi, per_nat (by omega)]
  have e := P.per (-1 - (i : Int))
  rw [show -1 - (i : Int) + l.length = ((l.length - 1 - i : Nat) : Int) by omega] at e
  rw [e]
  rfl
theorem per_mir {l : List Nat} (h : Ok l) : per (mir l) = mi (per l) := by
  rw [← mir_eq h]
  exact per_ofF h.per.mi
theorem rep_len (k : Nat) (l : List Nat) : (rep k l).length = k * l.length := by
  unfold rep
  rw [List.length_flatten, List.map_replicate, List.sum_replicate_nat]
theorem rep_ok {l : List Nat} (h : Ok l) {k : Nat} (hk : 0 < k) : Ok (rep k l) := by
  refine ⟨by rw [rep_len]; exact Nat.mul_pos hk h.pos, fun d hd => ?_⟩
  unfold rep at hd
  obtain ⟨m, hm, hd⟩ := List.mem_flatten.mp hd
  rw [(List.mem_replicate.mp hm).2] at hd
  exact h.lt d hd
theorem rep_get {l : List Nat} : ∀ (k i : Nat), i < k * l.length → (rep k l)[i]? = l[i % l.length]?
  | 0, i, h => by rw [Nat.zero_mul] at h; omega
  | k + 1, i, h => by
    have e : rep (k + 1) l = l ++ rep k l := by
      unfold rep
      rw [List.replicate_succ, List.flatten_cons]
    rw [e]
    by_cases c : i < l.length
    · rw [List.getElem?_append_left c, Nat.mod_eq_of_lt c]
    · rw [List.getElem?_append_right (by omega), rep_get k (i - l.length) (by rw [Nat.succ_mul] at h; omega), ← Nat.mod_eq_sub_mod (by omega)]
theorem per_rep {l : List Nat} (h : Ok l) {k : Nat} (hk : 0 < k) : per (rep k l) = per l := by
  have P := h.per
  have e : ofF (k * l.length) (per l) = rep k l := ofF_eq (rep_len k l) fun i hi => by
    rw [rep_get k i hi, per_nat (Nat.mod_lt _ h.pos), ← P.mod i]
    congr 1
  rw [← e]
  exact per_ofF (P.rep hk)
theorem rn_turn {l : List Nat} (h : Ok l) (p : Int) (t : Nat) : rn t (turn p l) = turn p (rn t l) := by
  unfold rn turn
  rw [ofF_len, ofF_len, per_ofF (h.per.sh p), per_ofF (h.per.it t), it_sh]
theorem rn_mir {l : List Nat} (h : Ok l) (t : Nat) : rn t (mir l) = mir (rn t l) := by
  have hr := rn_ok h t
  refine per_inj (by rw [rn_len, mir_len, mir_len, rn_len]) ?_
  rw [per_rn (mir_ok h), per_mir h, per_mir hr, per_rn h, it_mi]
theorem rn_rep {l : List Nat} (h : Ok l) {k : Nat} (hk : 0 < k) (t : Nat) : rn t (rep k l) = rep k (rn t l) := by
  have hr := rn_ok h t
  refine per_inj (by rw [rn_len, rep_len, rep_len, rn_len]) ?_
  rw [per_rn (rep_ok h hk), per_rep h hk, per_rep hr hk, per_rn h]

/-! ### the turning number -/
def tn (l : List Nat) : Int := T l.length (per l)
theorem tn_rn {l : List Nat} (h : Ok l) (t : Nat) : tn (rn t l) = tn l := by
  unfold tn
  rw [rn_len, per_rn h, T_it h.per]
theorem tn_turn {l : List Nat} (h : Ok l) (p : Int) : tn (turn p l) = tn l := by
  unfold tn
  rw [turn_len, per_turn h, T_sh h.per]
theorem tn_mir {l : List Nat} (h : Ok l) : tn (mir l) = - tn l := by
  unfold tn
  rw [mir_len, per_mir h, T_mi h.per]
theorem tn_rep {l : List Nat} (h : Ok l) {k : Nat} (hk : 0 < k) : tn (rep k l) = k * tn l := by
  unfold tn
  rw [rep_len, per_rep h hk, T_rep h.per hk]
/-- the steps -/
def stL (l : List Nat) : List Int := ofF l.length fun i => stp (per l i) (per l (i + 1))
theorem stL_len (l : List Nat) : (stL l).length = l.length := ofF_len _ _
theorem sum_ofF (f : Int → Int) : ∀ n : Nat, (ofF n f).sum = sumTo (fun j => f j) n
  | 0 => rfl
  | n + 1 => by
    have e := sum_ofF f n
    unfold ofF at e ⊢
    rw [List.range_succ, List.map_append, List.sum_append, e]
    show sumTo (fun j => f j) n + (f n + 0) = sumTo (fun j => f j) n + f n
    omega
theorem stL_sum (l : List Nat) : (stL l).sum = S l.length (per l) := sum_ofF _ _
theorem tn_eq (l : List Nat) : (stL l).sum / 3 = tn l := by
  rw [stL_sum]
  rfl
theorem sum_zero_iff {l : List Nat} (h : Ok l) : (stL l).sum = 0 ↔ tn l = 0 := by
  rw [stL_sum, S_mod h.per]
  unfold tn
  omega
theorem stL_bd {l : List Nat} {s : Int} (hs : s ∈ stL l) : -1 ≤ s ∧ s ≤ 1 := by
  obtain ⟨i, _, e⟩ := mem_ofF.mp hs
  rw [← e]
  exact stp_bd _ _

/-! ### ends -/
/-- from q beats on it is still -/
def Qt (x : Int → Nat) (q : Nat) : Prop := ∀ t : Nat, q ≤ t ↔ Zero (it t x)
/-- from m beats on each beat turns it by p -/
def Mt (p : Int) (x : Int → Nat) (m : Nat) : Prop := ∀ t : Nat, m ≤ t ↔ Mv p (it t x)
theorem Qt.inj {x : Int → Nat} {q r : Nat} (a : Qt x q) (b : Qt x r) : q = r := Nat.le_antisymm ((a r).mpr ((b r).mp (Nat.le_refl _))) ((b q).mpr ((a q).mp (Nat.le_refl _)))
theorem Mt.inj {p : Int} {x : Int → Nat} {q r : Nat} (a : Mt p x q) (b : Mt p x r) : q = r := Nat.le_antisymm ((a r).mpr ((b r).mp (Nat.le_refl _))) ((b q).mpr ((a q).mp (Nat.le_refl _)))
/-- by how much a late beat turns it -/
def pc (l : List Nat) : Int := if tn l = 0 then 0 else if 0 < tn l then -1 else 1
/-- after how many beats all is as in the end -/
structure En (l : List Nat) (e : Nat) : Prop where
  q : tn l = 0 → Qt (per l) e
  m : tn l ≠ 0 → Mt (pc l) (per l) e
theorem En.inj {l : List Nat} {e f : Nat} (a : En l e) (b : En l f) : e = f := by
  by_cases c : tn l = 0
  · exact (a.q c).inj (b.q c)
  · exact (a.m c).inj (b.m c)
theorem zero_sh {p : Int} {x : Int → Nat} : Zero (sh p x) ↔ Zero x := by
  constructor
  · intro z i
    have := z (i + p)
    rw [show sh p x (i + p) = x (i + p - p) from rfl, show i + p - p = i by omega] at this
    exact this
  · intro z i
    exact z _
theorem zero_mi {x : Int → Nat} : Zero (mi x) ↔ Zero x := by
  constructor
  · intro z i
    have := z (-1 - i)
    rw [show mi x (-1 - i) = x (-1 - (-1 - i)) from rfl, show -1 - (-1 - i) = i by omega] at this
    exact this
  · intro z i
    exact z _
theorem mv_sh {p q : Int} {x : Int → Nat} : Mv p (sh q x) ↔ Mv p x := by
  constructor
  · intro m
    have := m.sh (-q)
    rw [sh_sh, show -q + q = 0 by omega, sh_zero] at this
    exact this
  · intro m
    exact m.sh q
theorem mv_mi {p : Int} {x : Int → Nat} : Mv (-p) (mi x) ↔ Mv p x := by
  constructor
  · intro m
    have := m.mi
    rw [mi_mi, Int.neg_neg] at this
    exact this
  · intro m
    exact m.mi
theorem En.turn {l : List Nat} {e : Nat} (h : Ok l) (E : En l e) (p : Int) : En (turn p l) e := by
  refine ⟨fun z t => ?_, fun z t => ?_⟩
  · rw [tn_turn h] at z
    rw [per_turn h, it_sh, zero_sh]
    exact E.q z t
  · rw [tn_turn h] at z
    have ep : pc (Sw.turn p l) = pc l := by unfold pc; rw [tn_turn h]
    rw [per_turn h, it_sh, mv_sh, ep]
    exact E.m z t
theorem pc_mir {l : List Nat} (h : Ok l) : pc (mir l) = - pc l := by
  unfold pc
  rw [tn_mir h]
  split
  · rw [if_pos (by omega)]
    rfl
  · split
    · rw [if_neg (by omega), if_neg (by omega)]
    · rw [if_neg (by omega), if_pos (by omega)]
      rfl
theorem En.mir {l : List Nat} {e : Nat} (h : Ok l) (E : En l e) : En (mir l) e := by
  refine ⟨fun z t => ?_, fun z t => ?_⟩
  · rw [tn_mir h] at z
    rw [per_mir h, it_mi, zero_mi]
    exact E.q (by omega) t
  · rw [tn_mir h] at z
    rw [per_mir h, it_mi, pc_mir h, mv_mi]
    exact E.m (by omega) t
theorem pc_rep {l : List Nat} (h : Ok l) {k : Nat} (hk : 0 < k) : pc (rep k l) = pc l := by
  have hk2 : (0 : Int) < k := by omega
  have e0 : (k : Int) * tn l = 0 ↔ tn l = 0 := by
    constructor
    · intro e
      rcases Int.mul_eq_zero.mp e with e | e
      · omega
      · exact e
    · intro e
      rw [e, Int.mul_zero]
  have e1 : 0 < (k : Int) * tn l ↔ 0 < tn l := by
    constructor
    · intro e
      rcases Int.lt_or_le 0 (tn l) with c | c
      · exact c
      · have := Int.mul_le_mul_of_nonneg_left c (Int.le_of_lt hk2)
        rw [Int.mul_zero] at this
        omega
    · intro e
      exact Int.mul_pos hk2 e
  unfold pc
  rw [tn_rep h hk]
  simp only [e0, e1]
theorem En.rep {l : List Nat} {e : Nat} (h : Ok l) (E : En l e) {k : Nat} (hk : 0 < k) : En (rep k l) e := by
  have e0 : tn (Sw.rep k l) = 0 ↔ tn l = 0 := by
    rw [tn_rep h hk]
    constructor
    · intro e
      rcases Int.mul_eq_zero.mp e with e | e
      · omega
      · exact e
    · intro e
      rw [e, Int.mul_zero]
  refine ⟨fun z t => ?_, fun z t => ?_⟩
  · rw [per_rep h hk]
    exact E.q (e0.mp z) t
  · rw [per_rep h hk, pc_rep h hk]
    exact E.m (fun c => z (e0.mpr c)) t
theorem En.rn {l : List Nat} {e : Nat} (h : Ok l) (E : En l e) (s : Nat) : En (rn s l) (e - s) := by
  refine ⟨fun z t => ?_, fun z t => ?_⟩
  · rw [tn_rn h] at z
    rw [per_rn h, ← it_add]
    rw [← E.q z (t + s)]
    omega
  · rw [tn_rn h] at z
    have ep : pc (Sw.rn s l) = pc l := by unfold pc; rw [tn_rn h]
    rw [per_rn h, ← it_add, ep]
    rw [← E.m z (t + s)]
    omega
/-- moving comes -/
theorem mv_ex {l : List Nat} (h : Ok l) (z : tn l ≠ 0) : Mv (pc l) (it (l.length + 2) (per l)) := by
  have P := h.per
  have L := lift_hgt P.lt
  have hp := L.period3 P
  unfold pc
  rw [if_neg z]
  by_cases c : 0 < tn l
  · rw [if_pos c]
    exact moves_up (c := tn l) h.pos (by omega) L hp P
  · rw [if_neg c]
    exact moves_down (c := tn l) h.pos (by omega) L hp P
theorem mt_of {p : Int} {x : Int → Nat} {m : Nat} (a : Mv p (it m x)) (b : ∀ t, t < m → ¬ Mv p (it t x)) : Mt p x m := by
  intro t
  constructor
  · intro c
    have := a.it (t - m)
    rw [← it_add, show t - m + m = t by omega] at this
    exact this
  · intro c
    rcases Nat.lt_or_ge t m with d | d
    · exact absurd c (b t d)
    · exact d
/-- the late stand: what the program reckons is the stand many beats later -/
theorem late_eq {l : List Nat} {e : Nat} (h : Ok l) (E : En l e) (k : Nat) : turn (pc l * ((k : Int) - (min k e : Nat))) (rn (min k e) l) = rn k l := by
  by_cases c : k ≤ e
  · rw [Nat.min_eq_left c, Int.sub_self, Int.mul_zero, turn_zero]
  · have ce : e ≤ k := by omega
    rw [Nat.min_eq_right ce]
    by_cases z : tn l = 0
    · have ep : pc l = 0 := by unfold pc; rw [if_pos z]
      rw [ep, Int.zero_mul, turn_zero]
      have z1 := (E.q z e).mp (Nat.le_refl _)
      have z2 := (E.q z k).mp ce
      unfold Sw.rn
      exact ofF_congr fun i _ => (z1 i).trans (z2 i).symm
    · have m := (E.m z e).mp (Nat.le_refl _)
      have t := m.turn (k - e)
      rw [← it_add, show k - e + e = k by omega, show ((k - e : Nat) : Int) = (k : Int) - e by omega] at t
      have hr := rn_ok h e
      refine per_inj (by rw [turn_len, rn_len, rn_len]) ?_
      rw [per_turn hr, per_rn h, per_rn h]
      exact t.symm
end Sw
/-! When a stand is still: the program's formula over heights; who stands last. -/
namespace Sw
theorem mod_of {α : Type} {n : Nat} (g : Int → α) (hg : ∀ i, g (i + n) = g i) (i : Int) : g (i % n) = g i := by
  have up : ∀ (m : Nat) (j : Int), g (j + n * m) = g j := fun m => by
    induction m with
    | zero => intro j; simp
    | succ m ih =>
      intro j
      rw [show j + (n : Int) * ((m + 1 : Nat) : Int) = j + n * m + n by rw [show ((m + 1 : Nat) : Int) = (m : Int) + 1 by omega, Int.mul_add, Int.mul_one]; omega, hg, ih]
  have all : ∀ (k : Int) (j : Int), g (j + n * k) = g j := fun k j => by
    obtain ⟨m, rfl | rfl⟩ := Int.eq_nat_or_neg k
    · exact up m j
    · have := up m (j + n * -(m : Int))
      rw [show j + (n : Int) * -(m : Int) + n * m = j by rw [Int.mul_neg]; omega] at this
      exact this.symm
  have := all (i / n) (i % n)
  rw [Int.emod_add_mul_ediv] at this
  exact this.symm
/-- the heights of a stand -/
def hts (l : List Nat) : List Int := ofF l.length (hgt (per l))
def topOf (m : Int) : Int := -((-m) / 3) * 3
section
variable {l : List Nat} (h : Ok l) (z : tn l = 0)
include h z
theorem hgt_per (i : Int) : hgt (per l) (i + l.length) = hgt (per l) i := by
  have e := (lift_hgt h.per.lt).period3 h.per i
  have z' : T l.length (per l) = 0 := z
  rw [z'] at e
  omega
theorem hit_per (t : Nat) (i : Int) : hit (per l) (hgt (per l)) t (i + l.length) = hit (per l) (hgt (per l)) t i := by
  have e := ((lift_hgt h.per.lt).it t).period3 (h.per.it t) i
  have z' : T l.length (it t (per l)) = 0 := (T_it h.per t).trans z
  rw [z'] at e
  omega
theorem top_is {m : Int} (hm : m ∈ hts l) (hle : ∀ y ∈ hts l, y ≤ m) : Top (hgt (per l)) (topOf m) := by
  have hp := h.pos
  refine ⟨by unfold topOf; omega, fun i => ?_, ?_⟩
  · have e := mod_of (hgt (per l)) (hgt_per h z) i
    have h1 : 0 ≤ i % l.length := Int.emod_nonneg _ (by omega)
    have h2 : i % l.length < l.length := Int.emod_lt_of_pos _ (by omega)
    have q := hle (hgt (per l) (i % l.length)) (mem_ofF.mpr ⟨(i % l.length).toNat, by omega, by rw [Int.toNat_of_nonneg h1]⟩)
    rw [e] at q
    unfold topOf
    omega
  · obtain ⟨i, _, e⟩ := mem_ofF.mp hm
    refine ⟨i, ?_⟩
    rw [e]
    unfold topOf
    omega
end
/-- how far two seats lie apart, round the ring -/
def cd (n i j : Int) : Int := if n - (if i - j < 0 then -(i - j) else i - j) < (if i - j < 0 then -(i - j) else i - j) then n - (if i - j < 0 then -(i - j) else i - j) else (if i - j < 0 then -(i - j) else i - j)
theorem cd_near {n i j : Int} (hi : 0 ≤ i ∧ i < n) (hj : 0 ≤ j ∧ j < n) : 0 ≤ cd n i j ∧ ∃ k : Int, (k = j ∨ k = j + n ∨ k = j - n) ∧ i - cd n i j ≤ k ∧ k ≤ i + cd n i j := by
  unfold cd
  by_cases c : i - j < 0
  · simp only [if_pos c]
    by_cases d : n - -(i - j) < -(i - j)
    · simp only [if_pos d]
      exact ⟨by omega, j - n, .inr (.inr rfl), by omega, by omega⟩
    · simp only [if_neg d]
      exact ⟨by omega, j, .inl rfl, by omega, by omega⟩
  · simp only [if_neg c]
    by_cases d : n - (i - j) < i - j
    · simp only [if_pos d]
      exact ⟨by omega, j + n, .inr (.inl rfl), by omega, by omega⟩
    · simp only [if_neg d]
      exact ⟨by omega, j, .inl rfl, by omega, by omega⟩
theorem cd_le {n i j k : Int} (hn : 0 < n) (hi : 0 ≤ i ∧ i < n) (hj : j = k % n) {s : Int} (h1 : i - s ≤ k) (h2 : k ≤ i + s) : cd n i j ≤ s := by
  have e := Int.emod_add_mul_ediv k n
  have j0 : 0 ≤ j := by rw [hj]; exact Int.emod_nonneg _ (by omega)
  have j1 : j < n := by rw [hj]; exact Int.emod_lt_of_pos _ hn
  rw [← hj] at e
  have q : k / n = 0 ∨ n ≤ n * (k / n) ∨ n * (k / n) ≤ -n := by
    rcases Int.lt_trichotomy (k / n) 0 with c | c | c
    · have := Int.mul_le_mul_of_nonneg_left (show k / n ≤ -1 by omega) (Int.le_of_lt hn)
      rw [Int.mul_neg, Int.mul_one] at this
      exact .inr (.inr this)
    · exact .inl c
    · have := Int.mul_le_mul_of_nonneg_left (show 1 ≤ k / n by omega) (Int.le_of_lt hn)
      rw [Int.mul_one] at this
      exact .inr (.inl this)
  unfold cd
  rcases q with q | q | q
  · rw [q, Int.mul_zero] at e
    split <;> split <;> (try split) <;> omega
  · generalize n * (k / n) = y at e q
    split <;> split <;> (try split) <;> omega
  · generalize n * (k / n) = y at e q
    split <;> split <;> (try split) <;> omega
section
variable {l : List Nat} (h : Ok l) (z : tn l = 0) {top : Int} (Tp : Top (hgt (per l)) top)
include h z Tp
theorem low_iff {i : Nat} (hi : i < l.length) (hl : hgt (per l) i < top - 2) {mn : Int}
    (hmem : ∃ j : Nat, j < l.length ∧ top - 2 ≤ hgt (per l) j ∧ mn = cd l.length i j) (hle : ∀ j : Nat, j < l.length → top - 2 ≤ hgt (per l) j → mn ≤ cd l.length i j) (t : Nat) :
    mn + 2 ≤ t ↔ hit (per l) (hgt (per l)) t i = top := by
  rw [low_top Tp (lift_hgt h.per.lt) hl t]
  have hp := hgt_per h z
  constructor
  · intro c
    obtain ⟨j, hj, hh, e⟩ := hmem
    obtain ⟨d0, k, hk, k1, k2⟩ := cd_near (n := l.length) (i := i) (j := j) ⟨by omega, by omega⟩ ⟨by omega, by omega⟩
    rw [← e] at d0 k1 k2
    refine ⟨mn.toNat, by omega, k, by omega, by omega, ?_⟩
    have hh' : hgt (per l) k = hgt (per l) j := by
      rcases hk with rfl | rfl | rfl
      · rfl
      · exact hp _
      · have := hp ((j : Int) - l.length)
        rw [show (j : Int) - l.length + l.length = j by omega] at this
        exact this.symm
    rw [hh']
    exact hh
  · rintro ⟨s, hs, k, k1, k2, hk⟩
    have hlp := h.pos
    have e := mod_of (hgt (per l)) hp k
    have h1 : 0 ≤ k % l.length := Int.emod_nonneg _ (by omega)
    have h2 : k % l.length < l.length := Int.emod_lt_of_pos _ (by omega)
    have q := hle (k % l.length).toNat (by omega) (by rw [Int.toNat_of_nonneg h1, e]; exact hk)
    rw [Int.toNat_of_nonneg h1] at q
    have q2 := cd_le (n := l.length) (i := i) (k := k) (by omega) ⟨by omega, by omega⟩ rfl k1 k2
    omega
theorem high_iff {i : Nat} (hh : top - 2 ≤ hgt (per l) i) (t : Nat) : top - hgt (per l) i ≤ t ↔ hit (per l) (hgt (per l)) t i = top := (high_top Tp (lift_hgt h.per.lt) hh t).symm
theorem quiet_is {q : Int} (q0 : 0 ≤ q) (hq : ∀ t : Nat, q ≤ t ↔ ∀ j : Nat, j < l.length → hit (per l) (hgt (per l)) t j = top) : Qt (per l) q.toNat := by
  intro t
  rw [zero_iff_top Tp (lift_hgt h.per.lt) t]
  have a := hq t
  constructor
  · intro c i
    have b := a.mp (by omega)
    have hp := h.pos
    have h1 : 0 ≤ i % l.length := Int.emod_nonneg _ (by omega)
    have h2 : i % l.length < l.length := Int.emod_lt_of_pos _ (by omega)
    have e := mod_of (hit (per l) (hgt (per l)) t) (hit_per h z t) i
    have r := b (i % l.length).toNat (by omega)
    rw [Int.toNat_of_nonneg h1, e] at r
    exact r
  · intro c
    have := a.mpr fun j _ => c j
    omega
end
/-- heights, one by one -/
theorem hts_next {l : List Nat} (h : Ok l) (i : Nat) : hgt (per l) i + stp (per l i) (per l (i + 1)) = hgt (per l) ((i + 1 : Nat) : Int) := by
  have e := hgt_step (per l) i
  rw [show ((i + 1 : Nat) : Int) = (i : Int) + 1 by omega]
  omega

/-! ### who stands -/
def ones (l : List Nat) : List Nat := (List.range l.length).filter fun i => decide (per l i = 1)
theorem mem_ones {l : List Nat} {i : Nat} : i ∈ ones l ↔ i < l.length ∧ per l i = 1 := by simp [ones]
theorem ones_nil {l : List Nat} (h : Ok l) : ones l = [] ↔ 1 ∉ l := by
  constructor
  · intro e c
    obtain ⟨i, hi, e2⟩ := List.mem_iff_getElem.mp c
    have : i ∈ ones l := mem_ones.mpr ⟨hi, by
      have := per_nat hi
      rw [List.getElem?_eq_getElem hi, e2] at this
      exact (Option.some.inj this).symm⟩
    rw [e] at this
    cases this
  · intro c
    rw [List.eq_nil_iff_forall_not_mem]
    intro i hi
    obtain ⟨h1, h2⟩ := mem_ones.mp hi
    refine c (List.mem_iff_getElem.mpr ⟨i, h1, ?_⟩)
    have := per_nat h1
    rw [List.getElem?_eq_getElem h1, h2] at this
    exact Option.some.inj this
/-- the seats that stood last, of the first k stands -/
def lastL (l : List Nat) : Nat → List Nat
  | 0 => []
  | k + 1 => if 1 ∈ rn k l then ones (rn k l) else lastL l k
theorem no_one {l : List Nat} (h : Ok l) (c : 1 ∉ l) : 1 ∉ ring l := by
  intro m
  obtain ⟨i, hi, e⟩ := mem_ofF.mp m
  have no : ∀ j : Int, per l j ≠ 1 := fun j q => by
    have hp := h.pos
    have h1 : 0 ≤ j % l.length := Int.emod_nonneg _ (by omega)
    have h2 : j % l.length < l.length := Int.emod_lt_of_pos _ (by omega)
    have g := per_nat (l := l) (i := (j % l.length).toNat) (by omega)
    rw [Int.toNat_of_nonneg h1, h.per.mod, q] at g
    exact c (List.mem_of_getElem? g)
  have e' : rul (per l ((i : Int) - 1)) (per l i) (per l ((i : Int) + 1)) = 1 := e
  unfold rul at e'
  split at e'
  · rw [if_neg (by rintro (q | q); exact no _ q; exact no _ q)] at e'
    omega
  · split at e' <;> omega
theorem no_one_rn {l : List Nat} (h : Ok l) (c : 1 ∉ l) : ∀ t, 1 ∉ rn t l
  | 0 => by rw [rn_zero]; exact c
  | t + 1 => by
    rw [← rn_succ h t]
    exact no_one (rn_ok h t) (no_one_rn h c t)
theorem lastL_nil {l : List Nat} (h : Ok l) (k : Nat) : lastL l (k + 1) = [] ↔ 1 ∉ l := by
  constructor
  · intro e c
    induction k with
    | zero =>
      unfold lastL at e
      rw [rn_zero, if_pos c] at e
      exact (ones_nil h).mp e c
    | succ k ih =>
      unfold lastL at e
      by_cases d : 1 ∈ rn (k + 1) l
      · rw [if_pos d] at e
        exact (ones_nil (rn_ok h _)).mp e d
      · rw [if_neg d] at e
        exact ih e
  · intro c
    induction k with
    | zero =>
      unfold lastL
      rw [if_neg (no_one_rn h c 0)]
      rfl
    | succ k ih =>
      unfold lastL
      rw [if_neg (no_one_rn h c (k + 1))]
      exact ih
theorem mem_turn {l : List Nat} (h : Ok l) (p : Int) (d : Nat) : d ∈ turn p l ↔ d ∈ l := by
  have one : ∀ {l : List Nat}, Ok l → ∀ p : Int, d ∈ turn p l → d ∈ l := fun {l} h p hd => by
    obtain ⟨i, _, e⟩ := mem_ofF.mp hd
    have hp := h.pos
    have h1 : 0 ≤ ((i : Int) - p) % l.length := Int.emod_nonneg _ (by omega)
    have h2 : ((i : Int) - p) % l.length < l.length := Int.emod_lt_of_pos _ (by omega)
    have g := per_nat (l := l) (i := (((i : Int) - p) % l.length).toNat) (by omega)
    rw [Int.toNat_of_nonneg h1, h.per.mod] at g
    have e' : per l ((i : Int) - p) = d := e
    rw [e'] at g
    exact List.mem_of_getElem? g
  constructor
  · exact one h p
  · intro hd
    refine one (turn_ok h p) (-p) ?_
    rw [turn_turn h, show -p + p = 0 by omega, turn_zero]
    exact hd
/-- the next seat, round the ring -/
def nx (n : Nat) (s : Nat) : Int := ((s : Int) + 1) % n
theorem ones_sorted (l : List Nat) : ((ones l).map fun (i : Nat) => (i : Int)).Pairwise (· ≤ ·) := by
  rw [List.pairwise_map]
  unfold ones
  refine List.Pairwise.filter _ ?_
  refine (List.pairwise_lt_range).imp fun hab => ?_
  omega
theorem sorted_inj {xs ys : List Int} (p : xs.Perm ys) (hx : xs.Pairwise (· ≤ ·)) (hy : ys.Pairwise (· ≤ ·)) : xs = ys :=
  List.Perm.eq_of_pairwise (fun a b _ _ h1 h2 => Int.le_antisymm h1 h2) hx hy p
theorem ones_turn {l : List Nat} (h : Ok l) : ((ones (turn 1 l)).map fun (i : Nat) => (i : Int)).Perm ((ones l).map (nx l.length)) := by
  have hp := h.pos
  -- the seats of the turned stand, by their elder places
  have key : ∀ k : Nat, k + 1 = l.length → ((ones (turn 1 l)).map fun (i : Nat) => (i : Int)).Perm ((ones l).map (nx l.length)) := fun k hk => by
    unfold ones
    rw [turn_len, per_turn h]
    rw [← hk, List.range_succ]
    conv => lhs; rw [← List.range_succ, List.range_succ_eq_map]
    rw [List.filter_append, List.map_append]
    have e0 : sh 1 (per l) 0 = per l k := by
      show per l (0 - 1) = per l k
      have := h.per.per (0 - 1)
      rw [show (0 : Int) - 1 + l.length = k by omega] at this
      exact this.symm
    have tail : (((List.range k).map Nat.succ).filter fun (i : Nat) => decide (sh 1 (per l) i = 1)).map (fun (i : Nat) => (i : Int)) = ((List.range k).filter fun (i : Nat) => decide (per l i = 1)).map (nx (k + 1)) := by
      rw [List.filter_map, List.map_map]
      have ef : ((fun (i : Nat) => decide (sh 1 (per l) i = 1)) ∘ Nat.succ) = fun (i : Nat) => decide (per l i = 1) := by
        funext i
        show decide (per l (((i + 1 : Nat) : Int) - 1) = 1) = decide (per l i = 1)
        rw [show ((i + 1 : Nat) : Int) - 1 = (i : Int) by omega]
      rw [ef]
      refine List.map_congr_left fun i hi => ?_
      have hik : i < k := List.mem_range.mp (List.mem_filter.mp hi).1
      show ((i + 1 : Nat) : Int) = ((i : Int) + 1) % ((k + 1 : Nat) : Int)
      rw [Int.emod_eq_of_lt (by omega) (by omega)]
      omega
    by_cases c : per l k = 1
    · have l1 : ((0 :: (List.range k).map Nat.succ).filter fun (i : Nat) => decide (sh 1 (per l) i = 1)) = 0 :: (((List.range k).map Nat.succ).filter fun (i : Nat) => decide (sh 1 (per l) i = 1)) := by
        rw [List.filter_cons_of_pos]
        exact decide_eq_true (e0.trans c)
      have l2 : ([k].filter fun (i : Nat) => decide (per l i = 1)).map (nx (k + 1)) = [0] := by
        rw [List.filter_cons_of_pos (by exact decide_eq_true c), List.filter_nil]
        show [((k : Int) + 1) % ((k + 1 : Nat) : Int)] = [0]
        rw [show (k : Int) + 1 = ((k + 1 : Nat) : Int) by omega, Int.emod_self]
      rw [l1, l2, List.map_cons, tail]
      exact List.perm_append_comm (l₁ := [0])
    · have l1 : ((0 :: (List.range k).map Nat.succ).filter fun (i : Nat) => decide (sh 1 (per l) i = 1)) = (((List.range k).map Nat.succ).filter fun (i : Nat) => decide (sh 1 (per l) i = 1)) := by
        rw [List.filter_cons_of_neg]
        intro q
        exact c (e0.symm.trans (of_decide_eq_true q))
      have l2 : ([k].filter fun (i : Nat) => decide (per l i = 1)).map (nx (k + 1)) = [] := by
        rw [List.filter_cons_of_neg (by intro q; exact c (of_decide_eq_true q)), List.filter_nil]
        rfl
      rw [l1, l2, tail, List.append_nil]
  exact key (l.length - 1) (by omega)
theorem lastL_turn {l : List Nat} (h : Ok l) : ∀ k : Nat, ((lastL (turn 1 l) k).map fun (i : Nat) => (i : Int)).Perm ((lastL l k).map (nx l.length))
  | 0 => List.Perm.refl _
  | k + 1 => by
    unfold lastL
    rw [rn_turn h]
    have hr := rn_ok h k
    by_cases c : 1 ∈ rn k l
    · rw [if_pos c, if_pos ((mem_turn hr 1 1).mpr c)]
      have := ones_turn hr
      rw [rn_len] at this
      exact this
    · rw [if_neg c, if_neg (fun q => c ((mem_turn hr 1 1).mp q))]
      exact lastL_turn h k
theorem lastL_sorted (l : List Nat) : ∀ k : Nat, ((lastL l k).map fun (i : Nat) => (i : Int)).Pairwise (· ≤ ·)
  | 0 => List.Pairwise.nil
  | k + 1 => by
    unfold lastL
    split
    · exact ones_sorted _
    · exact lastL_sorted l k
theorem lastL_len (l : List Nat) : ∀ k : Nat, (lastL l k).length ≤ l.length
  | 0 => Nat.zero_le _
  | k + 1 => by
    unfold lastL
    split
    · unfold ones
      refine Nat.le_trans (List.length_filter_le _ _) ?_
      rw [List.length_range, rn_len]
      exact Nat.le_refl _
    · exact lastL_len l k
end Sw
/-! That ends come, and when; that stands come again. -/
namespace Sw
theorem max_ex : ∀ xs : List Int, xs ≠ [] → ∃ m, m ∈ xs ∧ ∀ y ∈ xs, y ≤ m
  | [], h => absurd rfl h
  | [x], _ => ⟨x, List.mem_singleton.mpr rfl, fun y hy => by rw [List.mem_singleton.mp hy]; exact Int.le_refl _⟩
  | x :: z :: r, _ => by
    obtain ⟨m, hm, hle⟩ := max_ex (z :: r) (List.cons_ne_nil _ _)
    by_cases c : x ≤ m
    · exact ⟨m, List.mem_cons_of_mem _ hm, fun y hy => by
        rcases List.mem_cons.mp hy with e | hy
        · rw [e]; exact c
        · exact hle y hy⟩
    · exact ⟨x, List.mem_cons_self, fun y hy => by
        rcases List.mem_cons.mp hy with e | hy
        · rw [e]; exact Int.le_refl _
        · have := hle y hy
          omega⟩
theorem zero_ex {l : List Nat} (h : Ok l) (z : tn l = 0) : Zero (it (l.length + 2) (per l)) := by
  have hp := h.pos
  have hne : hts l ≠ [] := fun e => by
    have : (hts l).length = 0 := by rw [e]; rfl
    unfold hts at this
    rw [ofF_len] at this
    omega
  obtain ⟨m, hm, hle⟩ := max_ex _ hne
  have Tp := top_is h z hm hle
  have L := lift_hgt h.per.lt
  rw [zero_iff_top Tp L]
  intro i
  by_cases c : topOf m - 2 ≤ hgt (per l) i
  · obtain ⟨j, hj⟩ := Tp.ex
    have := Tp.le i
    exact (high_top Tp L c _).mpr (by omega)
  · refine (low_top Tp L (by omega) _).mpr ⟨l.length, by omega, ?_⟩
    obtain ⟨j, hj⟩ := Tp.ex
    have e3 := mod_of (n := l.length) (fun y => hgt (per l) (i + y)) (fun y => by
      show hgt (per l) (i + (y + l.length)) = hgt (per l) (i + y)
      rw [show i + (y + (l.length : Int)) = i + y + l.length by omega]
      exact hgt_per h z _) (j - i)
    have e4 : hgt (per l) (i + (j - i) % l.length) = hgt (per l) (i + (j - i)) := e3
    rw [show i + (j - i) = j by omega] at e4
    have h1 : 0 ≤ (j - i) % l.length := Int.emod_nonneg _ (by omega)
    have h2 : (j - i) % l.length < l.length := Int.emod_lt_of_pos _ (by omega)
    exact ⟨i + (j - i) % l.length, by omega, by omega, by rw [e4]; exact hj⟩
theorem Zero.F {x : Int → Nat} (z : Zero x) : Zero (F x) := fun i => by
  show rul (x (i - 1)) (x i) (x (i + 1)) = 0
  rw [z, z, z]
  rfl
theorem Zero.it {x : Int → Nat} (z : Zero x) : ∀ t, Zero (it t x)
  | 0 => z
  | t + 1 => (Zero.it z t).F
theorem qt_of {x : Int → Nat} {m : Nat} (a : Zero (it m x)) (b : ∀ t, t < m → ¬ Zero (it t x)) : Qt x m := by
  intro t
  constructor
  · intro c
    have := a.it (t - m)
    rw [← it_add, show t - m + m = t by omega] at this
    exact this
  · intro c
    rcases Nat.lt_or_ge t m with d | d
    · exact absurd c (b t d)
    · exact d
/-- the least number that has a property -/
theorem least (p : Nat → Prop) : ∀ n, p n → ∃ m, m ≤ n ∧ p m ∧ ∀ t, t < m → ¬ p t := by
  intro n
  induction n using Nat.strongRecOn with
  | ind n ih =>
    intro h
    by_cases c : ∃ t, t < n ∧ p t
    · obtain ⟨t, ht, pt⟩ := c
      obtain ⟨m, hm, a, b⟩ := ih t ht pt
      exact ⟨m, by omega, a, b⟩
    · exact ⟨n, Nat.le_refl _, h, fun t ht pt => c ⟨t, ht, pt⟩⟩
theorem qt_ex {l : List Nat} (h : Ok l) (z : tn l = 0) : ∃ q, q ≤ l.length + 2 ∧ Qt (per l) q := by
  obtain ⟨m, hm, a, b⟩ := least (fun t => Zero (it t (per l))) _ (zero_ex h z)
  exact ⟨m, hm, qt_of a b⟩
theorem mt_ex {l : List Nat} (h : Ok l) (z : tn l ≠ 0) : ∃ m, m ≤ l.length + 2 ∧ Mt (pc l) (per l) m := by
  obtain ⟨m, hm, a, b⟩ := least (fun t => Mv (pc l) (it t (per l))) _ (mv_ex h z)
  exact ⟨m, hm, mt_of a b⟩
theorem En.le {l : List Nat} {e : Nat} (h : Ok l) (E : En l e) : e ≤ l.length + 2 := by
  by_cases z : tn l = 0
  · exact (E.q z _).mpr (zero_ex h z)
  · exact (E.m z _).mpr (mv_ex h z)
theorem en_ex {l : List Nat} (h : Ok l) : ∃ e, e ≤ l.length + 2 ∧ En l e := by
  by_cases z : tn l = 0
  · obtain ⟨q, hq, a⟩ := qt_ex h z
    exact ⟨q, hq, fun _ => a, fun c => absurd z c⟩
  · obtain ⟨m, hm, a⟩ := mt_ex h z
    exact ⟨m, hm, fun c => absurd c z, fun _ => a⟩
/-- a ring of nought alone has the turning number 0 -/
theorem tn_zero {l : List Nat} (h : Ok l) {t : Nat} (z : Zero (it t (per l))) : tn l = 0 := by
  have e := T_it h.per t
  have s : S l.length (it t (per l)) = 0 := by
    unfold S
    have : ∀ n, sumTo (fun j => stp (it t (per l) j) (it t (per l) (j + 1))) n = 0 := fun n => by
      induction n with
      | zero => rfl
      | succ n ih =>
        unfold sumTo
        rw [ih]
        show 0 + stp (it t (per l) n) (it t (per l) (n + 1)) = 0
        rw [z, z]
        rfl
    exact this _
  unfold tn
  rw [← e]
  unfold T
  rw [s]
  rfl
theorem zero_list {l : List Nat} (h : Ok l) (t : Nat) : Zero (it t (per l)) ↔ ∀ d ∈ rn t l, d = 0 := by
  constructor
  · intro z d hd
    obtain ⟨i, _, e⟩ := mem_ofF.mp hd
    rw [← e]
    exact z _
  · intro z i
    have hp := h.pos
    have P := h.per.it t
    have h1 : 0 ≤ i % l.length := Int.emod_nonneg _ (by omega)
    have h2 : i % l.length < l.length := Int.emod_lt_of_pos _ (by omega)
    rw [← P.mod i]
    exact z _ (mem_ofF.mpr ⟨(i % l.length).toNat, by omega, by rw [Int.toNat_of_nonneg h1]⟩)
theorem mv_list {l : List Nat} (h : Ok l) (p : Int) (t : Nat) : Mv p (it t (per l)) ↔ ring (rn t l) = turn p (rn t l) := by
  have hr := rn_ok h t
  constructor
  · intro m
    refine per_inj (by rw [turn_len]; exact ofF_len _ _) ?_
    rw [per_turn hr, per_rn h]
    unfold ring
    rw [per_ofF hr.per.F, per_rn h]
    exact m
  · intro e
    have e2 : per (ring (rn t l)) = per (turn p (rn t l)) := by rw [e]
    rw [per_turn hr, per_rn h] at e2
    unfold ring at e2
    rw [per_ofF hr.per.F, per_rn h] at e2
    exact e2
/-- it comes again -/
theorem again {l : List Nat} {e : Nat} (h : Ok l) (E : En l e) : rn (e + l.length) l = rn e l := by
  by_cases z : tn l = 0
  · have z1 := (E.q z e).mp (Nat.le_refl _)
    have z2 := (E.q z (e + l.length)).mp (Nat.le_add_right _ _)
    unfold rn
    exact ofF_congr fun i _ => (z2 i).trans (z1 i).symm
  · have m := (E.m z e).mp (Nat.le_refl _)
    have t := m.turn l.length
    rw [← it_add, Nat.add_comm] at t
    have P := h.per.it e
    have es : sh (pc l * (l.length : Int)) (it e (per l)) = it e (per l) := by
      funext i
      show it e (per l) (i - pc l * l.length) = it e (per l) i
      rw [← P.mod (i - pc l * l.length), ← P.mod i]
      congr 1
      rw [Int.mul_comm, Int.sub_mul_emod_self_left]
    rw [es] at t
    unfold rn
    rw [t]
/-- a stand that came again ahead of q beats: then it is not still for the first time at q -/
theorem no_loop {l : List Nat} (h : Ok l) {q j k : Nat} (Q : Qt (per l) q) (hjk : j < k) (hkq : k ≤ q) (e : rn k l = rn j l) : False := by
  have e2 : it k (per l) = it j (per l) := by rw [← per_rn h, ← per_rn h, e]
  have a := (Q q).mp (Nat.le_refl _)
  have e3 : it q (per l) = it (q - k + j) (per l) := by
    have := it_add (per l) k (q - k)
    rw [show q - k + k = q by omega] at this
    rw [this, e2, ← it_add]
  rw [e3] at a
  have := (Q _).mpr a
  omega
end Sw
/-! The head: what the top leaves, told by names; one kernel run. -/
namespace SwP
open PySem PySem.Spec PyProof.Rows L2
/-- the i-th statement of the top -/
def top (i : Nat) : Stmt := PySem.Challenge.pw_standwaves_k67_whole_ends_of_turned_and.main.body.getD i (.Pass ⟨0, 0, 0, 0⟩)
/-- the j-th statement of the class Rule -/
def inRule (j : Nat) : Stmt := inClass (top 15) j
/-- a plain def of the module -/
def dd (x : Str) (i : Nat) : He.DefD := ⟨(x, none), x, x, defArgs (top i), defBody (top i), defScope (top i), [], []⟩
def dm (m q : Str) (j : Nat) (ds : List He.Dv) : He.DefD := ⟨("Rule", some m), m, q, defArgs (inRule j), defBody (inRule j), defScope (inRule j), ds, []⟩
def fn : List He.DefD := [dd "is_integer" 7, dd "is_row" 8, dd "is_table" 9, dd "sign_after" 13, dd "row_after_beat" 14, dd "turned_by" 17, dd "mirror_of" 18, dd "after" 20, dd "path_of" 21, dd "still_from" 22,
  dd "step_between" 24, dd "steps_of" 25, dd "turning_number" 26, dd "heights_of" 27, dd "plain_rule" 29, dd "quiet_after" 30, dd "pace_of" 31, dd "moving_from" 32, dd "end_of" 33, dd "late_stand" 34, dd "last_standing" 35,
  dd "_law_bag" 37, dd "_law_take" 38, dd "_law_text" 39, dd "_law_step" 40, dd "_law_steps" 41, dd "_law_even_text" 42, dd "_law_wide" 43, dd "_law_plain_text" 44, dd "_law_ended" 45, dd "_law_right" 46, dd "law" 47,
  dm "__init__" "Rule.__init__" 1 [.int 1], dm "ring_after" "Rule.ring_after" 6 [], dm "is_still" "Rule.is_still" 12 []]
def fa : List He.Fa := [.glo "is_integer", .glo "is_row", .glo "is_table", .glo "sign_after", .glo "row_after_beat", .glo "turned_by", .glo "mirror_of", .glo "after", .glo "path_of", .glo "still_from",
  .glo "step_between", .glo "steps_of", .glo "turning_number", .glo "heights_of", .glo "plain_rule", .glo "quiet_after", .glo "pace_of", .glo "moving_from", .glo "end_of", .glo "late_stand", .glo "last_standing",
  .glo "_law_bag", .glo "_law_take", .glo "_law_text", .glo "_law_step", .glo "_law_steps", .glo "_law_even_text", .glo "_law_wide", .glo "_law_plain_text", .glo "_law_ended", .glo "_law_right", .glo "law",
  .glo "Rule", .meth "Rule" "ring_after", .meth "Rule" "is_still", .mkr "Rule", .str "SIGNS" "0123", .int "MOST_RESTS" 2,
  .free "len", .free "range", .free "int", .free "str", .free "bool", .free "isinstance", .free "all", .free "zip", .free "enumerate", .free "sum", .free "max", .free "min", .free "abs", .free "sorted"]
/-! ### what is asked of Rule besides -/
abbrev cR (K : PySem.W.Frag) : Addr := He.ga K "Rule"
def slB (K : PySem.W.Frag) (f : Str) (i : Nat) : Bool :=
  He.eqO (PySem.W.findIn K (.ref (cR K)) f) (some (some (.ref (He.ma K (cR K) f)))) && (decide (PySem.W.specialIn K (.ref (He.ma K (cR K) f)) "__get__" = some (some (.builtin "member_descriptor.__get__")))
    && (decide (PySem.W.takesIn K (.ref (He.ma K (cR K) f)) = some true) && (decide (PySem.W.typeIn K (.ref (He.ma K (cR K) f)) = some (.type "member_descriptor")) && decide (PySem.W.slotIn K (He.ma K (cR K) f) (cR K) = some i))))
/-- the property signs, its getter -/
abbrev pS (K : PySem.W.Frag) : Addr := He.ma K (cR K) "signs"
def gS (K : PySem.W.Frag) : Addr := match PySem.W.recIn K (pS K) "property" with
  | some (.ref g :: _) => g
  | _ => 0
def recB (K : PySem.W.Frag) : Bool := match PySem.W.recIn K (pS K) "property" with
  | some (.ref _ :: _) => true
  | _ => false
def codeB (K : PySem.W.Frag) (a : Addr) (q : Str) : Bool := match K.lookup a with
  | some ⟨_, _, .func fd, _⟩ => PySem.W.codeIn K fd.code q && He.dflB K fd.defaults []
  | _ => false
def exR (K : PySem.W.Frag) : Bool :=
  (PySem.W.plainGet K (cR K) Str.empty && (PySem.W.isClsIn K (cR K) && (PySem.W.plainOver K (cR K) && He.eqO (PySem.W.findIn K (.ref (cR K)) "__setattr__") (some (some (.builtin "object.__setattr__"))))))
  && ((slB K "its_table" 1 && slB K "its_rests" 0)
  && ((He.eqO (PySem.W.findIn K (.ref (cR K)) "signs") (some (some (.ref (pS K)))) && (decide (PySem.W.specialIn K (.ref (pS K)) "__get__" = some (some (.builtin "property.__get__"))) && (decide (PySem.W.takesIn K (.ref (pS K)) = some true) && recB K)))
  && (PySem.W.keepIn K (.ref (gS K)) && codeB K (gS K) "Rule.signs")))
def fnAt (K : PySem.W.Frag) (a : Addr) : He.FnW := match K.lookup a with
  | some ⟨_, _, .func fd, _⟩ => some (fd.name, fd.qualname, fd.params, fd.body, fd.scope, fd.globals, fd.closure, fd.builtins)
  | _ => none
def dS : He.DefD := dm "signs" "Rule.signs" 4 []
abbrev AlS : Type := He.AlD × (Bool × He.FnW)
def obsS (K : PySem.W.Frag) : AlS := (He.obsD fa fn K, exR K, fnAt K (gS K))
def valS : AlS := (He.valD fn, true, dS.val)
/-- what is told of the written part -/
def Says (K : PySem.W.Frag) : Prop := obsS K = valS
def obsSG (g : Addr → Option Obj) : AlS := obsS (He.frG g (He.asD g 5))
def hk : PySem.W.Hook where
  α := AlS
  obs := fun s => obsSG s.heap.get?
  val := fun _ => valS
  says := fun _ h => ∃ K : PySem.W.Frag, K.In h ∧ Says K
  of := fun _ _ e => ⟨_, He.frG_in, e⟩
  keeps := fun _ _ _ ⟨K, hK, c⟩ k => ⟨K, PySem.W.Frag.In.keeps hK k, c⟩
abbrev R : PySem.W.OpenRow := PySem.W.OpenLaw.row PySem.Challenge.rw_standwaves_k67_whole_ends_of_turned_and
def ob (s : PySem.W.SharedT) : AlS := obsSG (HandSHeadRun.getT s)
theorem ob_eq (s : PySem.W.SharedT) : ob s = hk.obs s.abs := congrArg obsSG (funext fun a => HandSHeadRun.getT_eq s a)
def names1 : List PySem.Str := ["_wall", "WaveError", "Wrong", "Jump", "Turns", "is_integer", "is_row", "is_table", "SIGNS", "MOST_RESTS"]
def names2 : List PySem.Str := ["sign_after", "row_after_beat", "Rule", "turned_by", "mirror_of", "after", "path_of", "still_from", "step_between", "steps_of"]
def names3 : List PySem.Str := ["turning_number", "heights_of", "plain_rule", "quiet_after", "pace_of", "moving_from", "end_of", "late_stand", "last_standing", "_law_bag"]
def names4 : List PySem.Str := ["_law_take", "_law_text", "_law_step", "_law_steps", "_law_even_text", "_law_wide", "_law_plain_text", "_law_ended", "_law_right"]
def names : List PySem.Str := names1 ++ (names2 ++ (names3 ++ names4))
theorem run (w : World) : HandSHeadRun.RunEq R (PySem.W.view R.prog [47]) hk ob 3600 names w := by
  intro os
  kernel_rfl
end SwP
/-! Own rules: text * int, text[::-1], xs[i] op= e, a slot as one of several targets, zip of two texts, enumerate of a text. -/
namespace SwR
open PySem PySem.Spec PyProof.Rows L2
section
variable {X : Cx}
/-! ### text * int -/
def repS (z : Str) (k : Nat) : Str := ⟨(List.replicate k z.cps.toList).flatten.toArray⟩
theorem foldl_cat (z : Array Nat) : ∀ (k : Nat) (acc : Array Nat), ((List.replicate k z).foldl (· ++ ·) acc).toList = acc.toList ++ (List.replicate k z.toList).flatten
  | 0, acc => by simp
  | k + 1, acc => by
    rw [List.replicate_succ, List.foldl_cons, foldl_cat z k, List.replicate_succ, List.flatten_cons, Array.toList_append, List.append_assoc]
theorem repS_eq (z : Str) (k : Nat) : (⟨(List.replicate k z.cps).foldl (· ++ ·) #[]⟩ : Str) = repS z k := by
  unfold repS
  congr 1
  have e := foldl_cat z.cps k #[]
  rw [show (#[] : Array Nat).toList = [] from rfl, List.nil_append] at e
  rw [← e]
theorem repS_len (z : Str) (k : Nat) : (repS z k).length = k * z.length := by
  show (List.replicate k z.cps.toList).flatten.toArray.size = k * z.cps.size
  rw [List.size_toArray, List.length_flatten, List.map_replicate, List.sum_replicate_nat, Array.length_toList]
def rRepS : R2 := fun x y H Q => ∃ z k, x = .str z ∧ y = .int k ∧ -(2 ^ 62) ≤ k ∧ k < 2 ^ 30 ∧ z.length * k.toNat ≤ 16777216 ∧ Q (.str (repS z k.toNat)) H
theorem op_rep_str : OpR X (binaryOp .Mult) rRepS := by
  intro pins s σ H x y v u Q I rx ry h
  obtain ⟨z, k, rfl, rfl, h1, h2, h3, q⟩ := h
  obtain ⟨t, rfl⟩ := rx
  obtain ⟨t', rfl⟩ := ry
  have g1 : decide (k < -(2 ^ 63 : Int)) = false := decide_eq_false (by omega)
  have g2 : decide (k ≥ (2 ^ 63 : Int)) = false := decide_eq_false (by omega)
  have hsz : z.length * k.toNat ≤ sizeLine := by rw [sizeLine_eq]; exact h3
  refine P.mul_str (by rw [g1, g2]; rfl) (fun c1 _ => ?_) (fun _ _ => ?_) ?_
  · have hz : (z.length : Int) * 1 ≤ 2 ^ 30 * 1 := by
      have hz2 : z.length * 1 ≤ z.length * k.toNat := Nat.mul_le_mul_left _ (by omega)
      omega
    have hd : (2 : Int) ^ 33 ≤ (2 ^ 63 - 1) / k := (Int.le_ediv_iff_mul_le (by omega)).mpr (by omega)
    omega
  · unfold Builtin.Str.tooLong
    exact decide_eq_false (by omega)
  · by_cases c1 : k < 1
    · rw [if_pos c1]
      have e : k.toNat = 0 := by omega
      rw [e] at q
      exact ⟨by decide, .str _, H, I.tok _, ⟨_, rfl⟩, q⟩
    · rw [if_neg c1]
      by_cases c2 : (k == 1 || z.length == 0) = true
      · rw [if_pos c2]
        refine ⟨.str z, H, I, ⟨t, rfl⟩, ?_⟩
        have e : repS z k.toNat = z := by
          rcases Bool.or_eq_true_iff.mp c2 with c | c
          · have e1 : k.toNat = 1 := by
              have := beq_iff_eq.mp c
              omega
            unfold repS
            rw [e1, List.replicate_one, List.flatten_cons, List.flatten_nil, List.append_nil]
          · have e0 : z.cps.toList = [] := List.eq_nil_of_length_eq_zero (beq_iff_eq.mp c)
            unfold repS
            rw [e0, List.flatten_replicate_nil]
            obtain ⟨cps⟩ := z
            have e1 : cps.toList = [] := e0
            congr 1
            rw [← e1]
        rw [e] at q
        exact q
      · rw [if_neg c2, repS_eq]
        refine ⟨?_, .str _, H, I.tok _, ⟨_, rfl⟩, q⟩
        rw [repS_len, Nat.mul_comm]
        exact hsz
/-! ### text[::-1] -/
def tRevS (te : TE) : TE := fun σ H Q => te σ H fun x H1 => ∃ z, x = .str z ∧ z.length ≤ 16777216 ∧ Q (.str ⟨z.cps.toList.reverse.toArray⟩) H1
theorem rev_eq (z : Str) (u : Tok) : Txt.sliceBy z none none (-1, u) = ⟨z.cps.toList.reverse.toArray⟩ := by
  have e := step_rev_list z u
  have h : (Txt.sliceBy z none none (-1, u)).cps.toList = z.cps.toList.reverse := by
    rw [e]
    apply List.ext_getElem
    · simp [Str.length]
    · intro i h1 h2
      simp only [List.getElem_map, List.getElem_range, List.getElem_reverse, Array.length_toList, Array.getElem_toList]
      have hlt : z.cps.size - 1 - i < z.cps.size := by
        simp [Str.length] at h1
        omega
      show z.cps.getD (z.cps.size - 1 - i) 0 = _
      rw [Array.getD_eq_getD_getElem?, Array.getElem?_eq_getElem hlt]
      rfl
  generalize Txt.sliceBy z none none (-1, u) = y at h
  obtain ⟨cps⟩ := y
  congr 1
  rw [← show cps.toList = z.cps.toList.reverse from h]
theorem pe_revS {e : Expr} {te : TE} {k : Nat} {p1 p2 p3 pos : Pos} (he : PE X e te) : PE X (.Subscript e (.Slice none none (some (.UnaryOp .USub (.Constant (.int 1) k p1) p2)) p3) pos) (tRevS te) := by
  refine ⟨fun pins s σ H Q I h => ?_⟩
  refine Subscript_ (thn (he.run pins s σ H _ I h) fun v s1 ⟨x, H1, I1, r1, z, ex, hz, q⟩ => ?_)
  subst ex
  obtain ⟨t, rfl⟩ := r1
  have hst : PO X (some (.UnaryOp .USub (.Constant (.int 1) k p1) p2)) (tPart (tUn (rU fun i => .int (-i)) (tC (.int 1)))) := po_some (pe_un un_neg pe_int)
  refine wpAny_Slice (thn (po_none.run pins s1 σ H1 (fun o H2 => o = none ∧ H2 = H1) I1 ⟨rfl, rfl⟩) fun vl s2 ⟨l, H2, I2, pl, el, e2⟩ => ?_)
  subst el; subst e2
  refine thn (po_none.run pins s2 σ H2 (fun o H3 => o = none ∧ H3 = H2) I2 ⟨rfl, rfl⟩) fun vu s3 ⟨u, H3, I3, pu, eu, e3⟩ => ?_
  subst eu; subst e3
  refine thn (hst.run pins s3 σ H3 (fun o H4 => o = some (-1) ∧ H4 = H3) I3 ⟨1, rfl, -1, rfl, rfl, rfl⟩) fun vs s4 ⟨o, H4, I4, ps, eo, e4⟩ => ?_
  subst eo; subst e4
  obtain ⟨l, rfl, el⟩ := IsPart.raw pl
  obtain ⟨u, rfl, eu⟩ := IsPart.raw pu
  obtain ⟨st, rfl, es⟩ := IsPart.raw ps
  have ln : l = none := by cases l with | none => rfl | some p => cases el
  have un : u = none := by cases u with | none => rfl | some p => cases eu
  subst ln; subst un
  obtain ⟨ts, rfl⟩ : ∃ ts, st = some (-1, ts) := by
    cases st with
    | none => cases es
    | some p =>
      obtain ⟨i, ts⟩ := p
      have e : i = -1 := by
        have := Option.some.inj es
        exact this
      subst e
      exact ⟨ts, rfl⟩
  have I5 := I4.kept (t' := s4.toks) (h' := s4.heap.push { cls := .type "slice", data := .fields #[partValue none, partValue none, partValue (some (-1, ts))] }) fun b ob q => Heap.get?_push_of_some _ q
  have I6 := I5.tok (s4.toks + 1)
  refine tail_any (ops := [.str z t, .ref s4.heap.objs.size]) (T := "str") (typeIs_str _ _ _) (F.slot_str_getitem.lookup) ?_ (by with_unfolding_all rfl)
  refine wpAny_getItem_str_slice (l := none) (u := none) (st := some (-1, ts)) ⟨_, Heap.get?_push_size _ rfl, rfl, rfl⟩ rfl ?_
  have hle : (Txt.sliceBy z none none (-1, ts)).length ≤ sizeLine := by
    rw [sizeLine_eq]
    exact Nat.le_trans (Txt.sliceBy_le z none none (-1, ts) (show (-1 : Int) ≠ 0 by decide)) hz
  rw [← rev_eq z ts] at q
  unfold Txt.sliceBy at q hle
  show Made.post (if _ then Made.val (.str z t) else Made.str _) _ _
  split
  · rename_i c
    rw [if_pos c] at q
    exact ⟨.str z, H4, I5, ⟨t, rfl⟩, q⟩
  · rename_i c
    rw [if_neg c] at q hle
    exact ⟨hle, .str _, H4, I6, ⟨_, rfl⟩, q⟩
/-! ### xs[i] op= e -/
def gL (K : PySem.W.Frag) : V → V → Hp → VK → Prop := fun o i H Q => ∃ p xs k z, o = .ref p ∧ i = .int k ∧ SqL K H p xs ∧ 0 ≤ k ∧ xs[k.toNat]? = some z ∧ Q z H
theorem get_list : PGet X (gL X.K) := by
  intro pins s σ H o i ov iv Q I ro ri h
  obtain ⟨p, xs, k, z, rfl, rfl, hq, h0, hz, q⟩ := h
  cases ro
  obtain ⟨t, rfl⟩ := ri
  obtain ⟨its, rv, pl, hl⟩ := I.list hq
  obtain ⟨u, hu, ru⟩ := rv.get hz
  have hlt : k.toNat < xs.length := by
    rcases Nat.lt_or_ge k.toNat xs.length with c | c
    · exact c
    · rw [List.getElem?_eq_none c] at hz
      cases hz
  rw [sizeLine_eq] at hl
  exact wpAny_getItem_list pl.isList h0 (by omega) (by simpa using hu) ⟨z, H, I, ru, q⟩
/-! ### a slot as one of several targets -/
def gSlt (K : PySem.W.Frag) (to : TE) (f : Str) : TG := fun v σ H Q => to σ H fun x H2 => ∃ a C dx p vs i, x = .ref a ∧ SlX.Slt H2 a C dx vs ∧ SlX.SCls K C ∧ SlX.Slot1 K C f p i ∧ Q σ (SlX.slH H2 a C dx (SlX.putS i v vs))
theorem pg_slt {o : Expr} {f : Str} {pos : Pos} {to : TE} (ho : PE X o to) : PG X (.Attribute o f pos) (gSlt X.K to f) := by
  refine ⟨fun pins s σ H v u Q I r h => ?_⟩
  rw [assign_Attribute]
  refine wpAny_bind (wpAny_holding (thn (ho.run pins s σ H _ I h) fun ov s2 ⟨x, H2, I2, rx, a, C, dx, p, vs, i, ex, hsl, c, t, q2⟩ => ?_))
  subst ex
  obtain rfl : ov = Value.ref a := rx
  refine wpAny_bind (wpAny_standAt (wpAny_bind (wpAny_holding ?_)))
  exact SlX.setslot_ok I2 hsl c t r fun s3 I3 => wpAny_release ⟨σ, _, I3, q2⟩
/-! ### walks that hand out pairs -/
/-- n turns; the i-th gives a new pair of what P and R tell -/
def Itw (n : Nat) (P1 P2 : Nat → V → Prop) : It :=
  ⟨fun i _ => i < n, fun i H v H' => ∃ T x y, v = .ref T ∧ H T = none ∧ H' = upd H T (.tup [x, y]) ∧ P1 i x ∧ P2 i y, fun i _ => n ≤ i⟩
theorem turn_pairs {P : Program} {w : World} {K : PySem.W.Frag} {elts : List Expr} {kk : Nat} {tpos : Pos} {it : Addr} {fp wr : List Addr} {n : Nat} {Pt : Nat → Array Value → Prop} {St : Nat → Heap → Prop} {Mid : Nat → Addr → Heap → Prop} {P1 P2 : Nat → V → Prop}
    (W : ∀ A : Around, A.handled = none → WalksT P w A it fp wr n Pt St Mid) (hm : it ∈ fp) (hobj : ∀ i h, St i h → ∀ b ∈ fp, ∃ o, h.get? b = some o ∧ ∀ v, o.data ≠ .cell v)
    (hself : ∀ (A : Around) (i : Nat) (s : Shared) (Q : Value → Shared → Prop) (E : Value → Shared → Prop), St i s.heap → Q (.ref it) s → wpAny (model P w) A (pyIter (.ref it)) Q E s)
    (hP : ∀ i vals, Pt i vals → ∃ x y u v, vals = #[u, v] ∧ P1 i x ∧ P2 i y ∧ RelV x u ∧ RelV y v) :
    Turn P w K (.Tuple elts kk tpos) (Itw n P1 P2) fp it (fun i h => i ≤ n ∧ St i h) where
  mem := hm
  obj := fun i h st => hobj i h st.2
  keep := fun i h h' st k => ⟨st.1, (W callerA rfl).frame i h h' st.2 k⟩
  item := by
    intro X hP1 hw hK hc i pins s σ H E I hf st hg
    subst hP1 hw hK
    have W1 := W X.A (I.ok.hd hc)
    refine W1.item i s _ E hg st.2 fun T vals h' tk pt hT hIs mid kk1 => ⟨_, rfl, ?_⟩
    refine W1.go elts kk tpos i T { s with heap := h', toks := tk } _ E mid fun h2 st2 kk2 => ?_
    obtain ⟨x, y, u, v, rfl, p1, p2, r1, r2⟩ := hP i vals pt
    have hTw : T ∉ wr := W1.apart i T h' mid
    obtain ⟨o, ho, hcl, m, hd⟩ := hIs
    have new : ObjOk X.prog X.w (upd H T (.tup [x, y])) h2 T (.tup [x, y]) :=
      ⟨by rw [sizeLine_eq]; show 2 ≤ 16777216; decide, [u, v], .cons r1 (.cons r2 .nil), ⟨o, kk2 T o hTw ho, hcl, m, hd⟩⟩
    have I1 : Inv X pins σ (upd H T (.tup [x, y])) { s with heap := h2, toks := tk } :=
      I.turnedNew (ch := fp) (fun b ob hb q => kk2 b ob (fun z => hb (W1.sub b z)) (kk1 b ob (fun z => hb (W1.sub b z)) q)) hf hT new
    refine ⟨.ref T, _, I1, rfl, ⟨T, x, y, rfl, I.hok.fresh hT, rfl, p1, p2⟩, ⟨hg, st2⟩, fun b hb => ?_⟩
    obtain ⟨ob, hob, _⟩ := hobj i s.heap st.2 b hb
    have hlt : b < s.heap.objs.size := Heap.lt_size hob
    rw [upd_ne (Nat.ne_of_lt (Nat.lt_of_lt_of_le hlt hT))]
    exact (hf b hb).1
  done := by
    intro X hP1 hw hK hc i pins s σ H E I hf st hg
    subst hP1 hw hK
    have W1 := W X.A (I.ok.hd hc)
    have e : i = n := Nat.le_antisymm st.1 hg
    subst e
    refine W1.done s _ E st.2 fun h' tk kk1 => ⟨rfl, ?_⟩
    have I1 : Inv X pins σ H { s with heap := h', toks := tk } := by
      refine I.step (g' := s.gens) (d' := s.drawn) (ch := fp) (fun b hb => ⟨(hf b hb).2.2.2.1, (hf b hb).2.1, (hf b hb).2.2.2.2.1, (hf b hb).2.2.2.2.2⟩)
        (fun b o _ _ hc' e _ => kk1 b o (fun z => hc' (W1.sub b z)) e) (fun b o _ _ hc' e _ => ⟨o.slots, kk1 b o (fun z => hc' (W1.sub b z)) e⟩) (fun _ _ _ _ n => n)
        (fun b o hc' e => ⟨o, kk1 b o (fun z => hc' (W1.sub b z)) e⟩) (fun _ _ e => e) (fun _ _ _ e => e) (fun b ps e => ⟨#[], by rw [e]; simp⟩) (fun m hm2 => ?_) (fun b u e => ?_) I.bare
      · obtain ⟨o, es, ep, ho, r⟩ := hm2
        exact ⟨o, es, ep, kk1 _ o (fun z => (hf _ (W1.sub _ z)).2.1 rfl) ho, r⟩
      · have nit : ∀ c y, H c = some y → c ∉ fp := fun c y q z => by
          rw [(hf c z).1] at q
          cases q
        refine (I.hok b u e).stay (fun c v hc' q => kk1 c v (fun z => ?_) q) (fun _ q => q) fun _ _ q => q
        rcases hc' with y | y
        · rw [y] at z
          exact nit b u e (W1.sub b z)
        · exact nit c _ y (W1.sub c z)
    exact I1
  self := fun A i s Q E st h => hself A i s Q E st.2 h
theorem walk_pairs {n : Nat} {P1 P2 : Nat → V → Prop} : Walk (Itw n P1 P2) n (fun _ => True) (fun i H v H' => ∃ T x y, v = .ref T ∧ H T = none ∧ H' = upd H T (.tup [x, y]) ∧ P1 i x ∧ P2 i y) :=
  ⟨fun _ _ hi _ => hi, fun _ _ => Nat.le_refl _, fun _ _ _ _ _ _ y => y⟩
/-- the i-th sign of a text -/
def Sg (x : Str) : Nat → V → Prop := fun i v => ∃ c, x.cps[i]? = some c ∧ v = .str ⟨#[c]⟩
theorem strIter_obj {h : Heap} {it : Addr} {ty : String} {x : Str} {t : Tok} {i : Nat} (st : h.IsStrIter it ty x t i) : ∃ o, h.get? it = some o ∧ ∀ v, o.data ≠ .cell v := by
  obtain ⟨o, e, _, d⟩ := st
  exact ⟨o, e, fun v z => by rw [d] at z; cases z⟩
def iZipS (ta : TA) : TI := fun σ H R => ta σ H fun vs H1 => ∃ x y : Str, vs = [.str x, .str y] ∧ R (Itw (min x.cps.size y.cps.size) (Sg x) (Sg y)) H1
theorem pi_zipS {e e2 : Expr} {ta : TA} {p pos tpos : Pos} {elts : List Expr} {kk : Nat} (hg : Gl X "zip") (hm : X.mg "zip" = none) (ha : PA X [e, e2] ta)
    (hs : starEach [e, e2] X.env = (false, eval e X.env) :: starEach [e2] X.env := by rfl) (hpl : (backTo pos (starEach [e2] X.env)).any (·.1) = false := by rfl) :
    PI X (.Tuple elts kk tpos) (.Call (.Name "zip" p) [e, e2] [] pos) (iZipS ta) := by
  refine ⟨fun pins s σ H R I h => Call_ (ld_blt I hg hm PyProof.Rows.boot_zip (PyProof.Rows.callWith_type1 (thn (ha.run pos pins s σ H _ I h) fun us s1 hh => ?_) hs hpl))⟩
  obtain ⟨ws, H1, I1, r1, x, y, rfl, q⟩ := hh
  obtain ⟨u1, u2, rfl, r1, r2⟩ := r1.two
  obtain ⟨t1, rfl⟩ := r1
  obtain ⟨t2, rfl⟩ := r2
  refine zip_begins2 (begins_text x t1) (begins_text y t2) trivial trivial fun h' hz hTI hTO h1 h2 hsz hk => wpAny_pyIter_zip hz ?_
  have I2 : Inv X pins σ H1 { s1 with heap := h' } := I1.kept (t' := s1.toks) hk
  have hs1 : h'.IsStrIter s1.heap.objs.size (strIterType x) x t1 0 := ⟨_, h1, rfl, rfl⟩
  have hs2 : h'.IsStrIter (s1.heap.objs.size + 1) (strIterType y) y t2 0 := ⟨_, h2, rfl, rfl⟩
  have sep := zip_sep2 (N := s1.heap.objs.size) (fp1 := []) (fp2 := []) (fun b hb => by cases hb) (fun b hb => by cases hb)
  refine ⟨s1.heap.objs.size + 4, (s1.heap.objs.size + 4) :: (s1.heap.objs.size + 2) :: (s1.heap.objs.size + 3) :: ([s1.heap.objs.size] ++ [s1.heap.objs.size + 1]), _, _, H1, rfl, I2,
    turn_pairs (P1 := Sg x) (P2 := Sg y) (fun A hh => WalksT.zipD2 sep (Draws.text (A := A.in1) hh s1.heap.objs.size x t1) (Draws.text (A := A.in1) hh (s1.heap.objs.size + 1) y t2)) (by simp) ?_ ?_ ?_,
    ⟨Nat.zero_le _, hz, hTI, ⟨_, _, hTO⟩, hs1, hs2⟩, fun b hb => ?_, q⟩
  · rintro i h ⟨g1, g2, ⟨a1, a2, g3⟩, g4, g5⟩ b hb
    have e' : b = s1.heap.objs.size + 4 ∨ b = s1.heap.objs.size + 2 ∨ b = s1.heap.objs.size + 3 ∨ b = s1.heap.objs.size ∨ b = s1.heap.objs.size + 1 := by simpa using hb
    rcases e' with z | z | z | z | z
    · rw [z]; exact ⟨_, g1, fun v q => nomatch q⟩
    · rw [z]; exact ⟨_, g2, fun v q => nomatch q⟩
    · rw [z]; exact ⟨_, g3, fun v q => nomatch q⟩
    · rw [z]; exact strIter_obj g4
    · rw [z]; exact strIter_obj g5
  · intro A i s Q E st hQ
    exact wpAny_pyIter_zip st.1 hQ
  · rintro i vals ⟨v1, v2, ⟨c1, k1, e1, rfl⟩, ⟨c2, k2, e2', rfl⟩, rfl⟩
    exact ⟨.str ⟨#[c1]⟩, .str ⟨#[c2]⟩, _, _, rfl, ⟨c1, e1, rfl⟩, ⟨c2, e2', rfl⟩, ⟨_, rfl⟩, ⟨_, rfl⟩⟩
  · have e' : b = s1.heap.objs.size + 4 ∨ b = s1.heap.objs.size + 2 ∨ b = s1.heap.objs.size + 3 ∨ b = s1.heap.objs.size ∨ b = s1.heap.objs.size + 1 := by simpa using hb
    have hle : s1.heap.objs.size ≤ b := by
      rcases e' with z | z | z | z | z <;> rw [z] <;> simp
    exact I1.fpOk hle (I1.hok.fresh hle)
def iEnumS (ta : TA) : TI := fun σ H R => ta σ H fun vs H1 => ∃ x : Str, vs = [.str x] ∧ R (Itw x.cps.size (fun i v => v = .int (i : Nat)) (Sg x)) H1
theorem pi_enumS {e : Expr} {ta : TA} {p pos tpos : Pos} {elts : List Expr} {kk : Nat} (hg : Gl X "enumerate") (hm : X.mg "enumerate" = none) (ha : PA X [e] ta) (hs : starEach [e] X.env = [(false, eval e X.env)] := by rfl) :
    PI X (.Tuple elts kk tpos) (.Call (.Name "enumerate" p) [e] [] pos) (iEnumS ta) := by
  refine ⟨fun pins s σ H R I h => Call_ (ld_blt I hg hm boot_enumerate (PyProof.Rows.callWith_type1 (thn (ha.run pos pins s σ H _ I h) fun us s1 hh => ?_) hs rfl))⟩
  obtain ⟨ws, H1, I1, rr, x, rfl, q⟩ := hh
  obtain ⟨u1, rfl, r1⟩ := rr.one
  have r2 : ∃ t, u1 = Value.str x t := r1
  obtain ⟨t1, rfl⟩ := r2
  refine call_enumerate_str (x := x) (t := t1) ?_
  intro h' he hit hsz hk
  refine wpAny_pyIter_enum he ?_
  have I2 : Inv X pins σ H1 { s1 with heap := h' } := I1.kept (t' := s1.toks) hk
  have ne : (s1.heap.objs.size + 1 : Nat) ≠ s1.heap.objs.size := by omega
  refine ⟨s1.heap.objs.size + 1, (s1.heap.objs.size + 1) :: [s1.heap.objs.size], _, _, H1, rfl, I2,
    turn_pairs (P1 := fun i v => v = .int (i : Nat)) (P2 := Sg x) (fun A hh => WalksT.enumerateD (Draws.text (A := A.in1) hh s1.heap.objs.size x t1) (s1.heap.objs.size + 1) ne (by simpa using ne) (by simp)) (by simp) ?_ ?_ ?_,
    ⟨Nat.zero_le _, ⟨_, he⟩, hit⟩, fun b hb => ?_, q⟩
  · rintro i h ⟨⟨old, g1⟩, g2⟩ b hb
    have e' : b = s1.heap.objs.size + 1 ∨ b = s1.heap.objs.size := by simpa using hb
    rcases e' with z | z
    · rw [z]; exact ⟨_, g1, fun v q => nomatch q⟩
    · rw [z]; exact strIter_obj g2
  · rintro A i s Q E ⟨⟨old, g1⟩, g2⟩ hQ
    exact wpAny_pyIter_enum g1 hQ
  · rintro i vals ⟨t, v, ⟨c, k, e1, rfl⟩, rfl⟩
    exact ⟨.int (i : Nat), .str ⟨#[c]⟩, _, _, rfl, rfl, ⟨c, e1, rfl⟩, ⟨_, rfl⟩, ⟨_, rfl⟩⟩
  · have e' : b = s1.heap.objs.size + 1 ∨ b = s1.heap.objs.size := by simpa using hb
    have hle : s1.heap.objs.size ≤ b := by
      rcases e' with z | z <;> rw [z] <;> simp
    exact I1.fpOk hle (I1.hok.fresh hle)
end
end SwR
/-! The facts by names, texts as lists of signs, calls, comprehensions. -/
namespace SwP
open PySem PySem.Spec PyProof.Rows L2
abbrev FnP (K : PySem.W.Frag) (x q : Str) (st : Stmt) (f : Addr) (fd : FuncData) : Prop := FunD K x q (defArgs st) (defBody st) (defScope st) [] [] f fd
/-- what is asked of the class Rule -/
structure RuleTxt (K : PySem.W.Frag) : Prop where
  cls : SlX.SCls K (cR K)
  tab : SlX.Slot1 K (cR K) "its_table" (He.ma K (cR K) "its_table") 1
  res : SlX.Slot1 K (cR K) "its_rests" (He.ma K (cR K) "its_rests") 0
  pat : PySem.W.findIn K (.ref (cR K)) "signs" = some (some (.ref (pS K)))
  pget : PySem.W.specialIn K (.ref (pS K)) "__get__" = some (some (.builtin "property.__get__"))
  ptk : PySem.W.takesIn K (.ref (pS K)) = some true
  prec : ∃ more, PySem.W.recIn K (pS K) "property" = some (.ref (gS K) :: more)
theorem slB_ok {K : PySem.W.Frag} {f : Str} {i : Nat} (hi : i < 1000) (h : slB K f i = true) : SlX.Slot1 K (cR K) f (He.ma K (cR K) f) i := by
  obtain ⟨h1, h2⟩ := He.ba h
  obtain ⟨h2, h3⟩ := He.ba h2
  obtain ⟨h3, h4⟩ := He.ba h3
  obtain ⟨h4, h5⟩ := He.ba h4
  exact ⟨He.eqO_ok h1, of_decide_eq_true h2, of_decide_eq_true h3, of_decide_eq_true h4, of_decide_eq_true h5, hi⟩
section
variable {K : PySem.W.Frag}
theorem Says.d (c : Says K) : He.SaysD fa fn K := congrArg (fun z : AlS => z.1) c
theorem Says.ex (c : Says K) : exR K = true := congrArg (fun z : AlS => z.2.1) c
theorem Says.gt (c : Says K) : fnAt K (gS K) = dS.val := congrArg (fun z : AlS => z.2.2) c
theorem Says.rule (c : Says K) : RuleTxt K := by
  obtain ⟨h1, h2⟩ := He.ba c.ex
  obtain ⟨h2, h3⟩ := He.ba h2
  obtain ⟨h3, _⟩ := He.ba h3
  obtain ⟨a1, a2⟩ := He.ba h1
  obtain ⟨a2, a3⟩ := He.ba a2
  obtain ⟨a3, a4⟩ := He.ba a3
  obtain ⟨b1, b2⟩ := He.ba h2
  obtain ⟨c1, c2⟩ := He.ba h3
  obtain ⟨c2, c3⟩ := He.ba c2
  obtain ⟨c3, c4⟩ := He.ba c3
  refine ⟨⟨a1, a2, a3, He.eqO_ok a4⟩, slB_ok (by decide) b1, slB_ok (by decide) b2, He.eqO_ok c1, of_decide_eq_true c2, of_decide_eq_true c3, ?_⟩
  unfold recB at c4
  unfold gS
  cases q : PySem.W.recIn K (pS K) "property" with
  | none => rw [q] at c4; cases c4
  | some vs =>
    cases vs with
    | nil => rw [q] at c4; cases c4
    | cons v r =>
      cases v with
      | ref g => exact ⟨r, rfl⟩
      | _ => rw [q] at c4; cases c4
theorem Says.getter (c : Says K) : ∃ fd, FnP K "signs" "Rule.signs" (inRule 4) (gS K) fd := by
  obtain ⟨_, h2⟩ := He.ba c.ex
  obtain ⟨_, h3⟩ := He.ba h2
  obtain ⟨_, h4⟩ := He.ba h3
  obtain ⟨kp, cb⟩ := He.ba h4
  have e := c.gt
  unfold fnAt at e
  unfold codeB at cb
  cases q : K.lookup (gS K) with
  | none => rw [q] at cb; cases cb
  | some o =>
    obtain ⟨oc, od, dt, osl⟩ := o
    rw [q] at cb e
    cases dt with
    | func fd =>
      obtain ⟨n1, n2, n3, n4, n5, n6, n7, n8, n9, n10, n11, n12, n13, n14, n15⟩ := fd
      have e2 : (some (n1, n2, n3, n4, n5, n6, n7, n15) : He.FnW) = (some (("signs" : Str), ("Rule.signs" : Str), defArgs (inRule 4), FuncBody.stmts (defBody (inRule 4)), defScope (inRule 4), mainGlobals, [], builtinsNs) : He.FnW) := e
      simp only [Option.some.injEq, Prod.mk.injEq] at e2
      obtain ⟨g1, g2, g3, g4, g5, g6, g7, g8⟩ := e2
      subst g1 g2 g3 g4 g5 g6 g7 g8
      obtain ⟨k1, k2⟩ := He.ba (show (PySem.W.codeIn K n13 "Rule.signs" && He.dflB K n8 []) = true from cb)
      exact ⟨_, ⟨oc, od, n8, n9, n10, n11, n12, n13, n14, osl, rfl, q, k1, He.dflB_ok k2, .inl rfl⟩, kp⟩
    | _ => cases cb
end
/-- what the written part says, by names -/
structure Txt (K : PySem.W.Frag) (mg : Str → Option Value) : Prop where
  g_is_integer : mg "is_integer" = some (.ref (He.ga K "is_integer"))
  g_is_row : mg "is_row" = some (.ref (He.ga K "is_row"))
  g_is_table : mg "is_table" = some (.ref (He.ga K "is_table"))
  g_sign_after : mg "sign_after" = some (.ref (He.ga K "sign_after"))
  g_row_after_beat : mg "row_after_beat" = some (.ref (He.ga K "row_after_beat"))
  g_turned_by : mg "turned_by" = some (.ref (He.ga K "turned_by"))
  g_mirror_of : mg "mirror_of" = some (.ref (He.ga K "mirror_of"))
  g_after : mg "after" = some (.ref (He.ga K "after"))
  g_path_of : mg "path_of" = some (.ref (He.ga K "path_of"))
  g_still_from : mg "still_from" = some (.ref (He.ga K "still_from"))
  g_step_between : mg "step_between" = some (.ref (He.ga K "step_between"))
  g_steps_of : mg "steps_of" = some (.ref (He.ga K "steps_of"))
  g_turning_number : mg "turning_number" = some (.ref (He.ga K "turning_number"))
  g_heights_of : mg "heights_of" = some (.ref (He.ga K "heights_of"))
  g_plain_rule : mg "plain_rule" = some (.ref (He.ga K "plain_rule"))
  g_quiet_after : mg "quiet_after" = some (.ref (He.ga K "quiet_after"))
  g_pace_of : mg "pace_of" = some (.ref (He.ga K "pace_of"))
  g_moving_from : mg "moving_from" = some (.ref (He.ga K "moving_from"))
  g_end_of : mg "end_of" = some (.ref (He.ga K "end_of"))
  g_late_stand : mg "late_stand" = some (.ref (He.ga K "late_stand"))
  g_last_standing : mg "last_standing" = some (.ref (He.ga K "last_standing"))
  g_l_bag : mg "_law_bag" = some (.ref (He.ga K "_law_bag"))
  g_l_take : mg "_law_take" = some (.ref (He.ga K "_law_take"))
  g_l_text : mg "_law_text" = some (.ref (He.ga K "_law_text"))
  g_l_step : mg "_law_step" = some (.ref (He.ga K "_law_step"))
  g_l_steps : mg "_law_steps" = some (.ref (He.ga K "_law_steps"))
  g_l_even_text : mg "_law_even_text" = some (.ref (He.ga K "_law_even_text"))
  g_l_wide : mg "_law_wide" = some (.ref (He.ga K "_law_wide"))
  g_l_plain_text : mg "_law_plain_text" = some (.ref (He.ga K "_law_plain_text"))
  g_l_ended : mg "_law_ended" = some (.ref (He.ga K "_law_ended"))
  g_l_right : mg "_law_right" = some (.ref (He.ga K "_law_right"))
  g_law : mg "law" = some (.ref (He.ga K "law"))
  g_Rule : mg "Rule" = some (.ref (He.ga K "Rule"))
  m_ring_after : Meth K (cR K) "ring_after" (He.ma K (cR K) "ring_after")
  m_is_still : Meth K (cR K) "is_still" (He.ma K (cR K) "is_still")
  made : Mk K (cR K) (He.ma K (cR K) "__init__")
  signs : ∃ t, mg "SIGNS" = some (.str "0123" t)
  most : ∃ t, mg "MOST_RESTS" = some (.int 2 t)
  n_len : mg "len" = none
  n_range : mg "range" = none
  n_int : mg "int" = none
  n_str : mg "str" = none
  n_bool : mg "bool" = none
  n_isinstance : mg "isinstance" = none
  n_all : mg "all" = none
  n_zip : mg "zip" = none
  n_enumerate : mg "enumerate" = none
  n_sum : mg "sum" = none
  n_max : mg "max" = none
  n_min : mg "min" = none
  n_abs : mg "abs" = none
  n_sorted : mg "sorted" = none
  d_is_integer : ∃ fd, FnP K "is_integer" "is_integer" (top 7) (He.ga K "is_integer") fd
  d_is_row : ∃ fd, FnP K "is_row" "is_row" (top 8) (He.ga K "is_row") fd
  d_is_table : ∃ fd, FnP K "is_table" "is_table" (top 9) (He.ga K "is_table") fd
  d_sign_after : ∃ fd, FnP K "sign_after" "sign_after" (top 13) (He.ga K "sign_after") fd
  d_row_after_beat : ∃ fd, FnP K "row_after_beat" "row_after_beat" (top 14) (He.ga K "row_after_beat") fd
  d_turned_by : ∃ fd, FnP K "turned_by" "turned_by" (top 17) (He.ga K "turned_by") fd
  d_mirror_of : ∃ fd, FnP K "mirror_of" "mirror_of" (top 18) (He.ga K "mirror_of") fd
  d_after : ∃ fd, FnP K "after" "after" (top 20) (He.ga K "after") fd
  d_path_of : ∃ fd, FnP K "path_of" "path_of" (top 21) (He.ga K "path_of") fd
  d_still_from : ∃ fd, FnP K "still_from" "still_from" (top 22) (He.ga K "still_from") fd
  d_step_between : ∃ fd, FnP K "step_between" "step_between" (top 24) (He.ga K "step_between") fd
  d_steps_of : ∃ fd, FnP K "steps_of" "steps_of" (top 25) (He.ga K "steps_of") fd
  d_turning_number : ∃ fd, FnP K "turning_number" "turning_number" (top 26) (He.ga K "turning_number") fd
  d_heights_of : ∃ fd, FnP K "heights_of" "heights_of" (top 27) (He.ga K "heights_of") fd
  d_plain_rule : ∃ fd, FnP K "plain_rule" "plain_rule" (top 29) (He.ga K "plain_rule") fd
  d_quiet_after : ∃ fd, FnP K "quiet_after" "quiet_after" (top 30) (He.ga K "quiet_after") fd
  d_pace_of : ∃ fd, FnP K "pace_of" "pace_of" (top 31) (He.ga K "pace_of") fd
  d_moving_from : ∃ fd, FnP K "moving_from" "moving_from" (top 32) (He.ga K "moving_from") fd
  d_end_of : ∃ fd, FnP K "end_of" "end_of" (top 33) (He.ga K "end_of") fd
  d_late_stand : ∃ fd, FnP K "late_stand" "late_stand" (top 34) (He.ga K "late_stand") fd
  d_last_standing : ∃ fd, FnP K "last_standing" "last_standing" (top 35) (He.ga K "last_standing") fd
  d_l_bag : ∃ fd, FnP K "_law_bag" "_law_bag" (top 37) (He.ga K "_law_bag") fd
  d_l_take : ∃ fd, FnP K "_law_take" "_law_take" (top 38) (He.ga K "_law_take") fd
  d_l_text : ∃ fd, FnP K "_law_text" "_law_text" (top 39) (He.ga K "_law_text") fd
  d_l_step : ∃ fd, FnP K "_law_step" "_law_step" (top 40) (He.ga K "_law_step") fd
  d_l_steps : ∃ fd, FnP K "_law_steps" "_law_steps" (top 41) (He.ga K "_law_steps") fd
  d_l_even_text : ∃ fd, FnP K "_law_even_text" "_law_even_text" (top 42) (He.ga K "_law_even_text") fd
  d_l_wide : ∃ fd, FnP K "_law_wide" "_law_wide" (top 43) (He.ga K "_law_wide") fd
  d_l_plain_text : ∃ fd, FnP K "_law_plain_text" "_law_plain_text" (top 44) (He.ga K "_law_plain_text") fd
  d_l_ended : ∃ fd, FnP K "_law_ended" "_law_ended" (top 45) (He.ga K "_law_ended") fd
  d_l_right : ∃ fd, FnP K "_law_right" "_law_right" (top 46) (He.ga K "_law_right") fd
  d_law : ∃ fd, FnP K "law" "law" (top 47) (He.ga K "law") fd
  d_init : ∃ fd, FunD K "__init__" "Rule.__init__" (defArgs (inRule 1)) (defBody (inRule 1)) (defScope (inRule 1)) [.int 1] [] (He.ma K (cR K) "__init__") fd
  d_ring_after : ∃ fd, FnP K "ring_after" "Rule.ring_after" (inRule 6) (He.ma K (cR K) "ring_after") fd
  d_is_still : ∃ fd, FnP K "is_still" "Rule.is_still" (inRule 12) (He.ma K (cR K) "is_still") fd
  d_signs : ∃ fd, FnP K "signs" "Rule.signs" (inRule 4) (gS K) fd
  rule : RuleTxt K
theorem txt_of {K : PySem.W.Frag} {h : Heap} {mg : Str → Option Value} (X : K.In h) (G : h.Ns mainGlobals mg) (c : Says K) : Txt K mg := by
  have d := c.d
  exact {
    g_is_integer := He.glo_ok X G (d.fact 0 (f := .glo "is_integer") rfl),
    g_is_row := He.glo_ok X G (d.fact 1 (f := .glo "is_row") rfl),
    g_is_table := He.glo_ok X G (d.fact 2 (f := .glo "is_table") rfl),
    g_sign_after := He.glo_ok X G (d.fact 3 (f := .glo "sign_after") rfl),
    g_row_after_beat := He.glo_ok X G (d.fact 4 (f := .glo "row_after_beat") rfl),
    g_turned_by := He.glo_ok X G (d.fact 5 (f := .glo "turned_by") rfl),
    g_mirror_of := He.glo_ok X G (d.fact 6 (f := .glo "mirror_of") rfl),
    g_after := He.glo_ok X G (d.fact 7 (f := .glo "after") rfl),
    g_path_of := He.glo_ok X G (d.fact 8 (f := .glo "path_of") rfl),
    g_still_from := He.glo_ok X G (d.fact 9 (f := .glo "still_from") rfl),
    g_step_between := He.glo_ok X G (d.fact 10 (f := .glo "step_between") rfl),
    g_steps_of := He.glo_ok X G (d.fact 11 (f := .glo "steps_of") rfl),
    g_turning_number := He.glo_ok X G (d.fact 12 (f := .glo "turning_number") rfl),
    g_heights_of := He.glo_ok X G (d.fact 13 (f := .glo "heights_of") rfl),
    g_plain_rule := He.glo_ok X G (d.fact 14 (f := .glo "plain_rule") rfl),
    g_quiet_after := He.glo_ok X G (d.fact 15 (f := .glo "quiet_after") rfl),
    g_pace_of := He.glo_ok X G (d.fact 16 (f := .glo "pace_of") rfl),
    g_moving_from := He.glo_ok X G (d.fact 17 (f := .glo "moving_from") rfl),
    g_end_of := He.glo_ok X G (d.fact 18 (f := .glo "end_of") rfl),
    g_late_stand := He.glo_ok X G (d.fact 19 (f := .glo "late_stand") rfl),
    g_last_standing := He.glo_ok X G (d.fact 20 (f := .glo "last_standing") rfl),
    g_l_bag := He.glo_ok X G (d.fact 21 (f := .glo "_law_bag") rfl),
    g_l_take := He.glo_ok X G (d.fact 22 (f := .glo "_law_take") rfl),
    g_l_text := He.glo_ok X G (d.fact 23 (f := .glo "_law_text") rfl),
    g_l_step := He.glo_ok X G (d.fact 24 (f := .glo "_law_step") rfl),
    g_l_steps := He.glo_ok X G (d.fact 25 (f := .glo "_law_steps") rfl),
    g_l_even_text := He.glo_ok X G (d.fact 26 (f := .glo "_law_even_text") rfl),
    g_l_wide := He.glo_ok X G (d.fact 27 (f := .glo "_law_wide") rfl),
    g_l_plain_text := He.glo_ok X G (d.fact 28 (f := .glo "_law_plain_text") rfl),
    g_l_ended := He.glo_ok X G (d.fact 29 (f := .glo "_law_ended") rfl),
    g_l_right := He.glo_ok X G (d.fact 30 (f := .glo "_law_right") rfl),
    g_law := He.glo_ok X G (d.fact 31 (f := .glo "law") rfl),
    g_Rule := He.glo_ok X G (d.fact 32 (f := .glo "Rule") rfl),
    m_ring_after := He.meth_ok (d.fact 33 (f := .meth "Rule" "ring_after") rfl),
    m_is_still := He.meth_ok (d.fact 34 (f := .meth "Rule" "is_still") rfl),
    made := He.mkr_ok (d.fact 35 (f := .mkr "Rule") rfl),
    signs := He.str_ok X G (d.fact 36 (f := .str "SIGNS" "0123") rfl),
    most := He.int_ok X G (d.fact 37 (f := .int "MOST_RESTS" 2) rfl),
    n_len := He.free_ok X G (d.fact 38 (f := .free "len") rfl),
    n_range := He.free_ok X G (d.fact 39 (f := .free "range") rfl),
    n_int := He.free_ok X G (d.fact 40 (f := .free "int") rfl),
    n_str := He.free_ok X G (d.fact 41 (f := .free "str") rfl),
    n_bool := He.free_ok X G (d.fact 42 (f := .free "bool") rfl),
    n_isinstance := He.free_ok X G (d.fact 43 (f := .free "isinstance") rfl),
    n_all := He.free_ok X G (d.fact 44 (f := .free "all") rfl),
    n_zip := He.free_ok X G (d.fact 45 (f := .free "zip") rfl),
    n_enumerate := He.free_ok X G (d.fact 46 (f := .free "enumerate") rfl),
    n_sum := He.free_ok X G (d.fact 47 (f := .free "sum") rfl),
    n_max := He.free_ok X G (d.fact 48 (f := .free "max") rfl),
    n_min := He.free_ok X G (d.fact 49 (f := .free "min") rfl),
    n_abs := He.free_ok X G (d.fact 50 (f := .free "abs") rfl),
    n_sorted := He.free_ok X G (d.fact 51 (f := .free "sorted") rfl),
    d_is_integer := d.def_ 0 (d := dd "is_integer" 7) rfl,
    d_is_row := d.def_ 1 (d := dd "is_row" 8) rfl,
    d_is_table := d.def_ 2 (d := dd "is_table" 9) rfl,
    d_sign_after := d.def_ 3 (d := dd "sign_after" 13) rfl,
    d_row_after_beat := d.def_ 4 (d := dd "row_after_beat" 14) rfl,
    d_turned_by := d.def_ 5 (d := dd "turned_by" 17) rfl,
    d_mirror_of := d.def_ 6 (d := dd "mirror_of" 18) rfl,
    d_after := d.def_ 7 (d := dd "after" 20) rfl,
    d_path_of := d.def_ 8 (d := dd "path_of" 21) rfl,
    d_still_from := d.def_ 9 (d := dd "still_from" 22) rfl,
    d_step_between := d.def_ 10 (d := dd "step_between" 24) rfl,
    d_steps_of := d.def_ 11 (d := dd "steps_of" 25) rfl,
    d_turning_number := d.def_ 12 (d := dd "turning_number" 26) rfl,
    d_heights_of := d.def_ 13 (d := dd "heights_of" 27) rfl,
    d_plain_rule := d.def_ 14 (d := dd "plain_rule" 29) rfl,
    d_quiet_after := d.def_ 15 (d := dd "quiet_after" 30) rfl,
    d_pace_of := d.def_ 16 (d := dd "pace_of" 31) rfl,
    d_moving_from := d.def_ 17 (d := dd "moving_from" 32) rfl,
    d_end_of := d.def_ 18 (d := dd "end_of" 33) rfl,
    d_late_stand := d.def_ 19 (d := dd "late_stand" 34) rfl,
    d_last_standing := d.def_ 20 (d := dd "last_standing" 35) rfl,
    d_l_bag := d.def_ 21 (d := dd "_law_bag" 37) rfl,
    d_l_take := d.def_ 22 (d := dd "_law_take" 38) rfl,
    d_l_text := d.def_ 23 (d := dd "_law_text" 39) rfl,
    d_l_step := d.def_ 24 (d := dd "_law_step" 40) rfl,
    d_l_steps := d.def_ 25 (d := dd "_law_steps" 41) rfl,
    d_l_even_text := d.def_ 26 (d := dd "_law_even_text" 42) rfl,
    d_l_wide := d.def_ 27 (d := dd "_law_wide" 43) rfl,
    d_l_plain_text := d.def_ 28 (d := dd "_law_plain_text" 44) rfl,
    d_l_ended := d.def_ 29 (d := dd "_law_ended" 45) rfl,
    d_l_right := d.def_ 30 (d := dd "_law_right" 46) rfl,
    d_law := d.def_ 31 (d := dd "law" 47) rfl,
    d_init := d.def_ 32 (d := dm "__init__" "Rule.__init__" 1 [.int 1]) rfl,
    d_ring_after := d.def_ 33 (d := dm "ring_after" "Rule.ring_after" 6 []) rfl,
    d_is_still := d.def_ 34 (d := dm "is_still" "Rule.is_still" 12 []) rfl,
    d_signs := c.getter,
    rule := c.rule }
/-! ### texts of signs -/
/-- the text of these signs -/
def tx (l : List Nat) : Str := SX.S (l.map (· + 48))
theorem tx_len (l : List Nat) : (tx l).length = l.length := by
  unfold tx
  rw [SX.S_len, List.length_map]
theorem tx_tl (l : List Nat) : (tx l).cps.toList = l.map (· + 48) := by
  unfold tx SX.S
  rfl
theorem tx_size (l : List Nat) : (tx l).cps.size = l.length := tx_len l
theorem tx_inj {a b : List Nat} (h : tx a = tx b) : a = b := by
  have e := SX.S_inj h
  exact (List.map_inj_right (f := (· + 48)) (fun x y q => Nat.add_right_cancel q)).mp e
theorem tx_cat (a b : List Nat) : tx a ++ tx b = tx (a ++ b) := by
  unfold tx
  rw [SX.S_cat, List.map_append]
theorem tx_get {l : List Nat} {i d : Nat} (h : l[i]? = some d) : (tx l).cps[i]? = some (d + 48) := by
  rw [← Array.getElem?_toList, tx_tl, List.getElem?_map, h]
  rfl
theorem tx_gets {l : List Nat} {i c : Nat} (h : (tx l).cps[i]? = some c) : ∃ d, l[i]? = some d ∧ c = d + 48 := by
  rw [← Array.getElem?_toList, tx_tl, List.getElem?_map] at h
  cases e : l[i]? with
  | none => rw [e] at h; cases h
  | some d =>
    rw [e] at h
    exact ⟨d, rfl, (Option.some.inj h).symm⟩
theorem tx_one (d : Nat) : (⟨#[d + 48]⟩ : Str) = tx [d] := rfl
theorem tx_cut (l : List Nat) (lo hi : Option Int) : cutS (tx l) lo hi = tx ((l.drop (HT.sIx l.length 0 lo)).take (HT.sIx l.length l.length hi - HT.sIx l.length 0 lo)) := by
  unfold cutS
  rw [tx_len, tx_tl]
  unfold tx
  rw [← List.map_drop, ← List.map_take]
theorem tx_rep (l : List Nat) (k : Nat) : SwR.repS (tx l) k = tx (Sw.rep k l) := by
  unfold SwR.repS Sw.rep
  rw [tx_tl]
  unfold tx SX.S
  rw [List.map_flatten, List.map_replicate]
theorem tx_rev (l : List Nat) : (⟨(tx l).cps.toList.reverse.toArray⟩ : Str) = tx (Sw.mir l) := by
  rw [tx_tl]
  unfold Sw.mir tx SX.S
  rw [List.map_reverse]
theorem joinL_nil : ∀ ps : List (List Nat), TL.joinL [] ps = ps.flatten
  | [] => rfl
  | [p] => by simp [TL.joinL]
  | p :: q :: r => by
    have e := joinL_nil (q :: r)
    simp only [TL.joinL, List.append_nil] at e ⊢
    rw [List.flatten_cons, e]
    simp
theorem tx_join (l : List Nat) : Txt.join "" (l.map fun d => tx [d]) = tx l := by
  have e := SX.join_S [] (l.map fun d => [d + 48])
  rw [List.map_map] at e
  have e2 : (l.map fun d => tx [d]) = l.map (SX.S ∘ fun d => [d + 48]) := List.map_congr_left fun d _ => rfl
  rw [e2]
  refine e.trans ?_
  rw [joinL_nil]
  unfold tx
  congr 1
  induction l with
  | nil => rfl
  | cons a r ih => rw [List.map_cons, List.flatten_cons, List.map_cons, ih (by simpa using SX.join_S [] (r.map fun d => [d + 48])) (List.map_congr_left fun d _ => rfl)]; rfl
theorem small3 {d : Nat} (h : d < 3) : d = 0 ∨ d = 1 ∨ d = 2 := by omega
theorem int_tx {d : Nat} (h : d < 3) : PySem.intText? (tx [d]) = some (d : Int) := by
  rcases small3 h with rfl | rfl | rfl <;> decide +kernel
theorem tx_line {l : List Nat} (h : l.length ≤ 1000) : (tx l).length ≤ sizeLine := by
  rw [tx_len]
  exact Nat.le_of_lt (small1000 h)
/-! ### the heap -/
/-- a Rule of the table 0111 and one rest -/
def RuleAt (K : PySem.W.Frag) (H : Hp) (a : Addr) : Prop := ∃ dx, H a = some (SlX.SlO a (cR K) dx [some (.int 1), some (.str "0111")]) ∧ H dx = some (.xd [])
theorem RuleAt.slt {K : PySem.W.Frag} {H : Hp} {a : Addr} (r : RuleAt K H a) : ∃ dx, SlX.Slt H a (cR K) dx [some (.int 1), some (.str "0111")] := by
  obtain ⟨dx, h1, h2⟩ := r
  exact ⟨dx, .inr ⟨h1, h2⟩⟩
theorem RuleAt.same {K : PySem.W.Frag} {H H' : Hp} {a : Addr} (r : RuleAt K H a) (s : Same H H') : RuleAt K H' a := by
  obtain ⟨dx, h1, h2⟩ := r
  exact ⟨dx, s _ _ h1, s _ _ h2⟩
theorem same_new {H : Hp} {p : Addr} {o : HO} (h : H p = none) : Same H (upd H p o) := fun b x e => by
  rw [upd_ne (ne_of_none e h)]
  exact e
theorem same_last {H H' : Hp} {p : Addr} {o : HO} (s : Same H H') (h : H' p = none) : Same H (upd H' p o) := fun b x e => by
  rw [upd_ne (ne_of_none (s _ _ e) h)]
  exact s _ _ e
/-- no tests -/
theorem yesT {te : TE} {σ : L2.St} {H : Hp} {Kc : V → Hp → Prop} {Ke : Hp → Prop} (h : te σ H Kc) : tYes σ H fun b H3 => if b = true then te σ H3 Kc else Ke H3 := by
  show (if true = true then te σ H Kc else Ke H)
  rw [if_pos rfl]
  exact h
/-! ### defs and their calls -/
section
variable {P : Program} {w : World} {K : PySem.W.Frag} {mg : Str → Option Value} {base : Heap}
/-- a def of the module, by its body -/
theorem cal_of {x : Str} {st : Stmt} {f : Addr} {N ps : List Str} {k : Nat} {sp : Sp} (hm : mg x = some (.ref f)) (hF : ∃ fd, FnP K x x st f fd) (S : FnScope N ps (defScope st))
    (hb : ∀ (kV doc pm : Value) (an : Option Addr) (cdv ct : Value) (us : List Value), us.length = ps.length → bindArgs (PySem.W.fnOf x x (defArgs st) (defBody st) (defScope st) .none kV doc pm an cdv ct) ⟨us, []⟩ = pure (ps.zip us))
    (len : ∀ vs H Q E, sp vs H Q E → vs.length = ps.length)
    (body : ∀ (cdv : Value) (A : Around) (outer : List Env) (s : Shared) (H : Hp) (vs : List V) (Q : VK) (E : XK), Room k (A.deeper (envOfC x (defScope st) s.heap.objs.size f cdv)) → sp vs H Q E →
      ∃ t, PSs (cxOf C8.CX0 P w K mg base N x (defScope st) f cdv A outer s H E).nox (defBody st) t ∧ t { nx := fun _ H' => Q .non H', rt := Q } (start N vs) H) : C8.Cal P w K mg base (k + 1) x sp [] := by
  obtain ⟨fd, F⟩ := hF
  refine ⟨f, fd, ps, [], F.ok S len fun cdv A outer s H vs Q E hr h => ?_, hm, F.kp, FunD.bindsN F hb, .nil⟩
  obtain ⟨t, h1, h2⟩ := body cdv A outer s H vs Q E hr h
  exact ⟨t, PSs.nox h1, h2⟩
/-- a method, by its body: its raw promise -/
theorem raw_of {x q : Str} {st : Stmt} {f : Addr} {N ps : List Str} {k : Nat} {sp : Sp} (hF : ∃ fd, FnP K x q st f fd) (S : FnScope N ps (defScope st))
    (hb : ∀ (kV doc pm : Value) (an : Option Addr) (cdv ct : Value) (us : List Value), us.length = ps.length → bindArgs (PySem.W.fnOf x q (defArgs st) (defBody st) (defScope st) .none kV doc pm an cdv ct) ⟨us, []⟩ = pure (ps.zip us))
    (len : ∀ vs H Q E, sp vs H Q E → vs.length = ps.length)
    (body : ∀ (cdv : Value) (A : Around) (outer : List Env) (s : Shared) (H : Hp) (vs : List V) (Q : VK) (E : XK), Room k (A.deeper (envOfC q (defScope st) s.heap.objs.size f cdv)) → sp vs H Q E →
      ∃ t, PSs (cxOf C8.CX0 P w K mg base N q (defScope st) f cdv A outer s H E).nox (defBody st) t ∧ t { nx := fun _ H' => Q .non H', rt := Q } (start N vs) H) : FnR P w K mg base C8.CX0 (k + 1) f sp := by
  obtain ⟨fd, F⟩ := hF
  have ok : FnOk P w K mg base C8.CX0 (k + 1) f fd ps sp := F.ok S len fun cdv A outer s H vs Q E hr h => by
    obtain ⟨t, h1, h2⟩ := body cdv A outer s H vs Q E hr h
    exact ⟨t, PSs.nox h1, h2⟩
  exact (ok.raw (FunD.bindsN F hb) .nil).imp fun vs H Q E h => by rw [List.append_nil]; exact h
end
section
variable {X : Cx} {k j : Nat} {x : Str} {sp : Sp} {p pos : Pos} {e : Expr} {es : List Expr} {t : TA}
/-- f(e, ..) -/
theorem pe_f (c : C8.Cal X.prog X.w X.K X.mg X.base k x sp []) (hr : Room j X.A) (ha : PA X (e :: es) t) (hk : k ≤ j := by decide) (hg : Gl X x := by rfl)
    (hdb : (x == ("__debug__" : Str)) = false := by decide) (he : starEach (e :: es) X.env = (false, eval e X.env) :: starEach es X.env := by rfl) (hpl : (backTo pos (starEach es X.env)).any (·.1) = false := by rfl) :
    PE X (.Call (.Name x p) (e :: es) [] pos) (tCall sp [] C8.E0 t) := C8.pe_c c hr hk hg ha hdb he hpl
/-- f() -/
theorem pe_f0 (c : C8.Cal X.prog X.w X.K X.mg X.base k x sp []) (hr : Room j X.A) (hk : k ≤ j := by decide) (hg : Gl X x := by rfl) (hdb : (x == ("__debug__" : Str)) = false := by decide) :
    PE X (.Call (.Name x p) [] [] pos) (tCall sp [] C8.E0 tNil) := by
  obtain ⟨f, fd, ps, ds, F, hm, kp, b, d⟩ := c.ex
  exact pe_call0 F (hr.mono hk) hg hm kp b d C8.pass0 hdb
end
/-! ### a comprehension that leaves what stood -/
theorem lc_same {J : It} {n : Nat} {G : Hp → Prop} {Y : Nat → Hp → V → Hp → Prop} (w : Walk J n G Y) {g : TG} {tt : TT} {te : TE} {vs : List Nat} {σ : L2.St} {H1 : Hp} {D : Addr} {Qd : Hp → Prop} (keep : Nat → Bool) (val : Nat → V)
    (hD : H1 D = none) (hn : n ≤ 1100) (hG : ∀ H, Same H1 H → G H)
    (hs : ∀ i x H H' (Kc : V → Hp → Prop) (Ke : Hp → Prop), i < n → Same H1 H → Y i H x H' → (keep i = true → ∀ H4, Same H H4 → Kc (val i) H4) → (keep i = false → ∀ H4, Same H H4 → Ke H4) →
      g x (wipe σ vs) H' fun σ2 H2 => wipe σ2 vs = wipe σ vs ∧ tt σ2 H2 fun b H3 => if b = true then te σ2 H3 Kc else Ke H3)
    (hd : ∀ H, Same H1 H → H D = some (.lst (((List.range n).filter keep).map val)) → Qd H) :
    ∃ W : Nat → Nat → Hp → Prop, (∃ m, W 0 m (upd H1 D (.lst []))) ∧ ∀ i m H, W i m H →
      (J.stop i H ∧ Qd H) ∨ (J.go i H ∧ ∃ Nx : Hp → Prop, (∀ H', Nx H' → ∃ m', m' < m ∧ W (i + 1) m' H') ∧ ∀ x H', J.yld i H x H' → g x (wipe σ vs) H' fun σ2 H2 => wipe σ2 vs = wipe σ vs ∧ tt σ2 H2 fun b H3 =>
        if b = true then te σ2 H3 fun y H4 => ∃ acc, H4 D = some (.lst acc) ∧ acc.length < sizeLine ∧ Nx (upd H4 D (.lst (acc ++ [y]))) else Nx H3) := by
  refine lc_it w (fun i H => Same H1 H ∧ H D = some (.lst (((List.range i).filter keep).map val))) ⟨same_new hD, upd_same⟩ (fun i H _ h => hG H h.1) ?_ fun H h => hd H h.1 h.2
  rintro i x H H' hi ⟨s, e⟩ y
  refine hs i x H H' _ _ hi s y (fun k H4 s4 => ?_) (fun k H4 s4 => ?_)
  · refine ⟨_, s4 _ _ e, ?_, fun b o q => ?_, ?_⟩
    · rw [List.length_map]
      refine Nat.lt_of_le_of_lt (List.length_filter_le _ _) ?_
      rw [List.length_range, sizeLine_eq]
      omega
    · rw [upd_ne (ne_of_none q hD)]
      exact s4 _ _ (s _ _ q)
    · rw [upd_same, List.range_succ, List.filter_append, List.filter_cons_of_pos k, List.filter_nil, List.map_append]
      rfl
  · refine ⟨s.trans s4, ?_⟩
    rw [s4 _ _ e, List.range_succ, List.filter_append, List.filter_cons_of_neg (by rw [k]; decide), List.filter_nil, List.append_nil]
theorem keep_all (n : Nat) : (List.range n).filter (fun _ => true) = List.range n := by simp
end SwP
/-! The defs, 1: kinds and rules. -/
namespace SwP
open PySem PySem.Spec PyProof.Rows L2
abbrev tab : Str := "0111"
theorem tab_tx : tab = tx [0, 1, 1, 1] := by decide +kernel
theorem two_tx : ("2" : Str) = tx [2] := by decide +kernel
theorem one_tx : ("1" : Str) = tx [1] := by decide +kernel
theorem nul_tx : ("0" : Str) = tx [0] := by decide +kernel
theorem emp_tx : ("" : Str) = tx [] := by decide +kernel
theorem line4 : tab.length ≤ sizeLine := by
  rw [tab_tx]
  exact tx_line (by decide)
section
variable {P : Program} {w : World} {K : PySem.W.Frag} {mg : Str → Option Value} {base : Heap}
theorem scInt : FnScope ["thing"] ["thing"] (defScope (top 7)) := ⟨rfl, rfl, rfl, by decide +kernel, rfl, by decide +kernel, by decide +kernel⟩
def spInt : Sp := fun vs H Q _ => vs = [.int 1] ∧ Q (.bl true) H
theorem ok_is_integer (T : Txt K mg) : C8.Cal P w K mg base 1 "is_integer" spInt [] := by
  refine cal_of T.g_is_integer T.d_is_integer scInt (ps := ["thing"]) (fun _ _ _ _ _ _ us hl => match us, hl with | [_], _ => rfl) (fun vs H Q E h => by rw [h.1]; rfl) (fun cdv A outer s H vs Q E hr h => ?_)
  obtain ⟨rfl, q⟩ := h
  refine ⟨_, pss_one (ps_ret (pe_and (pe_callB call_isi (by rfl) T.n_isinstance boot_isinstance (pa_cons (pv 0) (pa_cons (pe_bltn (v := .ty "int") (by rfl) T.n_int boot_int rfl) pa_nil)))
    (pe_one (pe_not (pe_callB call_isi (by rfl) T.n_isinstance boot_isinstance (pa_cons (pv 0) (pa_cons (pe_bltn (v := .ty "bool") (by rfl) T.n_bool boot_bool rfl) pa_nil))))))), ?_⟩
  refine ⟨_, rfl, .int 1, .ty "int", .type "int", .type "int", true, rfl, .ty _, .base (.int 1), kit_ty (by decide +kernel), true, rfl, iteT ?_⟩
  exact ⟨_, rfl, .int 1, .ty "bool", .type "int", .type "bool", false, rfl, .ty _, .base (.int 1), kit_ty (by decide +kernel), false, rfl, q⟩
theorem scRow : FnScope ["thing", "signs", "sign"] ["thing", "signs"] (defScope (top 8)) := ⟨rfl, rfl, rfl, by decide +kernel, rfl, by decide +kernel, by decide +kernel⟩
def spRow : Sp := fun vs H Q _ => vs = [.str tab, .str "01"] ∧ ∀ H', Same H H' → Q (.bl true) H'
theorem ok_is_row (T : Txt K mg) : C8.Cal P w K mg base 1 "is_row" spRow [] := by
  refine cal_of T.g_is_row T.d_is_row scRow (ps := ["thing", "signs"]) (fun _ _ _ _ _ _ us hl => match us, hl with | [_, _], _ => rfl) (fun vs H Q E h => by rw [h.1]; rfl) (fun cdv A outer s H vs Q E hr h => ?_)
  obtain ⟨rfl, q⟩ := h
  refine ⟨_, pss_one (ps_ret (pe_and (pe_callB call_isi (by rfl) T.n_isinstance boot_isinstance (pa_cons (pv 0) (pa_cons (pe_bltn (v := .ty "str") (by rfl) T.n_str boot_str rfl) pa_nil)))
    (pe_one (pe_callB (cr_all rfl) (by rfl) T.n_all (by decide +kernel) (pa_cons (pe_lc (own := [("sign", 2)]) (g := gName 2) (tt := tYes) rfl scRow.nd (pi_str (pv 0)) (blkOk_by (N := ["thing", "signs", "sign"]) (sc := defScope (top 8)) (by decide +kernel))
      (fun _ _ _ _ _ => pg_name (i := 2) scRow.nd rfl (Or.inl rfl)) (fun _ _ _ _ _ => pts_nil) (fun _ _ _ _ _ => pe_cmpR op_in_sign (pv 2) (pv 1) (by rfl))) pa_nil))))), ?_⟩
  refine ⟨_, rfl, .str tab, .ty "str", .type "str", .type "str", true, rfl, .ty _, .base (.str tab), kit_ty (by decide +kernel), true, rfl, iteT ?_⟩
  refine ⟨.str tab, rfl, tab, rfl, fun D hD => lc_same walk_str (fun _ => true) (fun _ => .bl true) hD (by decide +kernel) (fun _ _ => trivial) ?_ ?_⟩
  · rintro i x H1 H' Kc Ke hi s1 ⟨rfl, c, hc, rfl⟩ k1 k2
    refine ⟨rfl, yesT ?_⟩
    refine ⟨_, rfl, _, rfl, c, "01", rfl, rfl, ?_⟩
    have e : decide (c ∈ ("01" : Str).cps.toList) = true := by
      rw [tab_tx] at hc
      obtain ⟨d, hd, rfl⟩ := tx_gets hc
      have hm := List.mem_of_getElem? hd
      rw [show ("01" : Str).cps.toList = [48, 49] by decide +kernel]
      simp at hm
      rcases hm with rfl | rfl <;> rfl
    rw [e]
    exact k1 rfl _ (Same.refl _)
  · intro H1 s1 e
    refine ⟨D, ((List.range tab.cps.size).filter fun _ => true).map fun _ => true, rfl, SqL.of (by rw [e, List.map_map]; rfl), ?_⟩
    have ea : ((((List.range tab.cps.size).filter fun _ => true).map fun _ => true).all id) = true := by simp
    rw [ea]
    exact q _ s1
theorem scTab : FnScope ["thing"] ["thing"] (defScope (top 9)) := ⟨rfl, rfl, rfl, by decide +kernel, rfl, by decide +kernel, by decide +kernel⟩
def spTab : Sp := fun vs H Q _ => vs = [.str tab] ∧ ∀ H', Same H H' → Q (.bl true) H'
theorem ok_is_table (T : Txt K mg) : C8.Cal P w K mg base 2 "is_table" spTab [] := by
  refine cal_of T.g_is_table T.d_is_table scTab (ps := ["thing"]) (fun _ _ _ _ _ _ us hl => match us, hl with | [_], _ => rfl) (fun vs H Q E h => by rw [h.1]; rfl) (fun cdv A outer s H vs Q E hr h => ?_)
  obtain ⟨rfl, q⟩ := h
  refine ⟨_, pss_one (ps_ret (pe_and (pe_f (ok_is_row T) hr (pa_cons (pv 0) (pa_cons pe_str pa_nil)))
    (pe_one (pe_cmpR op_eq (pe_callB call_len_str (by rfl) T.n_len boot_len (pa_cons (pv 0) pa_nil)) pe_int (nomark _))))), ?_⟩
  refine ⟨.str tab, rfl, rfl, fun H' sm => ⟨true, rfl, iteT ?_⟩⟩
  refine ⟨.str tab, rfl, tab, rfl, line4, rfl, ?_⟩
  have e : decide (V.int (tab.length : Int) = V.int 4) = true := by decide +kernel
  rw [e]
  exact q _ sm
/-! ### a Rule is made -/
theorem scInit : FnScope ["self", "table", "rests"] ["self", "table", "rests"] (defScope (inRule 1)) := ⟨rfl, rfl, rfl, by decide +kernel, rfl, by decide +kernel, by decide +kernel⟩
def spInit (K : PySem.W.Frag) : Sp := fun vs H Q _ => ∃ x dx, vs = [.ref x, .str tab, .int 1] ∧ dx ≠ x ∧ H x = some (.ins (cR K) dx []) ∧ (∃ o, H dx = some o) ∧
  ∀ H', (∀ b o, b ≠ x → b ≠ dx → H b = some o → H' b = some o) → H' x = some (SlX.SlO x (cR K) dx [some (.int 1), some (.str tab)]) → H' dx = some (.xd []) → Q .non H'
theorem ok_init (T : Txt K mg) : ∃ fd, FunD K "__init__" "Rule.__init__" (defArgs (inRule 1)) (defBody (inRule 1)) (defScope (inRule 1)) [.int 1] [] (He.ma K (cR K) "__init__") fd ∧
    FnOk P w K mg base C8.CX0 3 (He.ma K (cR K) "__init__") fd ["self", "table", "rests"] (spInit K) := by
  obtain ⟨fd, F⟩ := T.d_init
  obtain ⟨tm, hmost⟩ := T.most
  refine ⟨fd, F, F.ok scInit (fun vs H Q E h => ?_) fun cdv A outer s H vs Q E hr h => ?_⟩
  · obtain ⟨x, dx, rfl, _⟩ := h
    rfl
  · obtain ⟨x, dx, rfl, hne, hx, ⟨od, hdx⟩, q⟩ := h
    refine ⟨_, PSs.nox (pss_cons (ps_if (pt_not (pt_val (pe_f (ok_is_table T) hr (pa_cons (pv 1) pa_nil)))) pss_never pss_nil)
      (pss_cons (ps_if (PW.pt (pw_or (pt_not (pt_val (pe_f (ok_is_integer T) hr (pa_cons (pv 2) pa_nil)))) (pw_or1 (pt_not (pt_chain op_le op_le pe_int (pv 2) (pe_glob (v := .int 2) (by rfl) hmost ⟨_, rfl⟩)))))) pss_never pss_nil)
      (pss_one (ps_asg (pe_tup (pa_cons (pv 1) (pa_cons (pv 2) pa_nil))) (pg_tup rfl (pgs_cons (SwR.pg_slt (pv 0)) (pgs_cons (SwR.pg_slt (pv 0)) pgs_nil))))))), ?_⟩
    refine ⟨.str tab, rfl, rfl, fun H1 s1 => ⟨true, rfl, iteF ?_⟩⟩
    refine ⟨.int 1, rfl, rfl, true, rfl, iteF ?_⟩
    refine ⟨.int 1, rfl, 0, 1, rfl, rfl, true, rfl, iteT ?_⟩
    refine ⟨1, 2, rfl, rfl, true, rfl, iteF ?_⟩
    refine ⟨.str tab, rfl, .int 1, rfl, (by show 2 ≤ sizeLine; rw [sizeLine_eq]; decide), fun p hp => ?_⟩
    have s2 := same_last s1 hp (o := .tup [.str tab, .int 1])
    have hx2 := s2 _ _ hx
    refine ⟨p, _, rfl, SqT.of upd_same, rfl, .str tab, _, rfl, .ref x, rfl, x, cR K, dx, _, [], 1, rfl, .inl ⟨hx2, rfl⟩, T.rule.cls, T.rule.tab, ?_⟩
    refine ⟨.int 1, _, rfl, .ref x, rfl, x, cR K, dx, _, _, 0, rfl, SlX.slH_slt hne, T.rule.cls, T.rule.res, rfl, ?_⟩
    rw [SlX.slH_twice hne]
    refine q _ (fun b o b1 b2 e => ?_) ?_ ?_
    · rw [SlX.slH_ne b1 b2]
      exact s2 _ _ e
    · exact upd_same
    · unfold SlX.slH
      rw [upd_ne hne, upd_same]
theorem mk_rule (T : Txt K mg) : C8.Mak P w K mg base 3 "Rule" (cR K) (spInit K) [.int 1] := by
  obtain ⟨fd, F, ok⟩ := ok_init (P := P) (w := w) (base := base) T
  obtain ⟨ds, hd, hb⟩ := F.binds1 (ps := ["self", "table", "rests"]) 2 0 (List.cons_ne_nil _ _) rfl (fun T kV doc pm an cdv ct us its hu hi => match us, its, hu, hi with | [_, _], [_], _, _ => ⟨_, rfl, rfl⟩)
  exact ⟨_, fd, _, ds, T.made, ok, T.g_Rule, hb, hd⟩
/-- Rule("0111"), wherever it is written -/
def rMk (K : PySem.W.Frag) : Hp → VK → Prop := fun H Q => ∀ a H', Same H H' → RuleAt K H' a → Q (.ref a) H'
theorem mk_read {H : Hp} {Q : VK} {E : XK} (q : rMk K H Q) : tMake (cR K) (spInit K) [.int 1] E (tCons (tC (.str tab)) tNil) [] H Q := by
  intro x dx hx hdx hne
  refine ⟨x, dx, rfl, hne, upd_same, ⟨_, by rw [upd_ne hne, upd_same]⟩, fun H' k e1 e2 => ⟨rfl, q x H' (fun b o e => ?_) ⟨dx, e1, e2⟩⟩⟩
  refine k b o (ne_of_none e hx) (ne_of_none e hdx) ?_
  rw [upd_ne (ne_of_none e hx), upd_ne (ne_of_none e hdx)]
  exact e
theorem scPlain : FnScope [] [] (defScope (top 29)) := ⟨rfl, rfl, rfl, by decide +kernel, rfl, by decide +kernel, by decide +kernel⟩
def spPlain (K : PySem.W.Frag) : Sp := fun vs H Q _ => vs = [] ∧ rMk K H Q
theorem ok_plain_rule (T : Txt K mg) : C8.Cal P w K mg base 5 "plain_rule" (spPlain K) [] := by
  refine cal_of T.g_plain_rule T.d_plain_rule scPlain (ps := []) (fun _ _ _ _ _ _ us hl => match us, hl with | [], _ => rfl) (fun vs H Q E h => by rw [h.1]; rfl) (fun cdv A outer s H vs Q E hr h => ?_)
  obtain ⟨rfl, q⟩ := h
  exact ⟨_, pss_one (ps_ret (C8.pe_mk (mk_rule T) hr (by decide) (by rfl) (pa_cons pe_str pa_nil))), mk_read q⟩
end
end SwP
/-! The defs, 2: a beat; turned, mirrored; many beats. -/
namespace SwP
open PySem PySem.Spec PyProof.Rows L2
theorem sig_eq (a b : Nat) : decide (V.str (tx [a]) = V.str (tx [b])) = decide (a = b) := by
  by_cases c : a = b
  · rw [c, decide_eq_true rfl, decide_eq_true rfl]
  · rw [decide_eq_false c, decide_eq_false]
    intro e
    exact c (List.cons.inj (tx_inj (V.str.inj e))).1
section
variable {P : Program} {w : World} {K : PySem.W.Frag} {mg : Str → Option Value} {base : Heap}
theorem scSign : FnScope ["table", "last", "left", "seat", "right"] ["table", "last", "left", "seat", "right"] (defScope (top 13)) := ⟨rfl, rfl, rfl, by decide +kernel, rfl, by decide +kernel, by decide +kernel⟩
def spSign : Sp := fun vs H Q _ => ∃ a b c : Nat, a < 3 ∧ b < 3 ∧ c < 3 ∧ vs = [.str tab, .str "2", .str (tx [a]), .str (tx [b]), .str (tx [c])] ∧ Q (.str (tx [Sw.rul a b c])) H
theorem at_tab {i : Int} {d : Nat} (h : (i = 0 ∧ d = 0) ∨ ((i = 1 ∨ i = 2 ∨ i = 3) ∧ d = 1)) : atI tab.cps.toList i = some (d + 48) := by
  rw [tab_tx, tx_tl]
  rcases h with ⟨rfl, rfl⟩ | ⟨rfl | rfl | rfl, rfl⟩ <;> rfl
theorem at_signs {b : Nat} (h : b < 2) : atI ("0123" : Str).cps.toList ((b : Int) + 1) = some (b + 1 + 48) := by
  rw [show ("0123" : Str).cps.toList = [48, 49, 50, 51] by decide +kernel]
  have : b = 0 ∨ b = 1 := by omega
  rcases this with rfl | rfl <;> rfl
theorem ok_sign_after (T : Txt K mg) : C8.Cal P w K mg base 1 "sign_after" spSign [] := by
  obtain ⟨ts, hsig⟩ := T.signs
  refine cal_of T.g_sign_after T.d_sign_after scSign (ps := ["table", "last", "left", "seat", "right"]) (fun _ _ _ _ _ _ us hl => match us, hl with | [_, _, _, _, _], _ => rfl) (fun vs H Q E h => ?_) (fun cdv A outer s H vs Q E hr h => ?_)
  · obtain ⟨a, b, c, _, _, _, rfl, _⟩ := h
    rfl
  · obtain ⟨a, b, c, ha, hb, hc, rfl, q⟩ := h
    refine ⟨_, pss_cons (ps_if (pt_cmpR op_eq (pv 3) pe_str (nomark _)) (pss_one (ps_ret (pe_ix ix_str (pv 0) (pe_op op_add
        (pe_op op_mul pe_int (pe_callTy call_int1 (by rfl) T.n_int boot_int (pa_cons (pe_cmpR op_eq (pv 2) pe_str (nomark _)) pa_nil)))
        (pe_callTy call_int1 (by rfl) T.n_int boot_int (pa_cons (pe_cmpR op_eq (pv 4) pe_str (nomark _)) pa_nil))) (fun _ _ => rfl)))) pss_nil)
      (pss_one (ps_ret (pe_ifExp (pt_cmpR op_eq (pv 3) (pv 1) (nomark _)) pe_str
        (pe_ix ix_str (pe_glob (v := .str "0123") (by rfl) hsig ⟨_, rfl⟩) (pe_op op_add (pe_callTy call_int_str (by rfl) T.n_int boot_int (pa_cons (pv 3) pa_nil)) pe_int) (fun _ _ => rfl))))), ?_⟩
    refine ⟨_, rfl, rfl, _, rfl, ?_⟩
    rw [nul_tx, sig_eq]
    by_cases h0 : b = 0
    · rw [decide_eq_true h0]
      refine iteT ?_
      refine ⟨_, rfl, _, rfl, rfl, .inr ⟨_, rfl, 2, _, rfl, rfl, .inl ⟨by decide, by decide⟩, _, rfl, rfl, .inr ⟨_, rfl, _, _, rfl, rfl, tab, _, Sw.rul a b c + 48, rfl, rfl, line4, at_tab ?_, q⟩⟩⟩
      rw [one_tx, sig_eq, sig_eq]
      unfold Sw.rul
      by_cases h1 : a = 1 <;> by_cases h2 : c = 1 <;> simp [h0, h1, h2]
    · rw [decide_eq_false h0]
      refine iteF ?_
      refine ⟨_, rfl, _, rfl, rfl, _, rfl, ?_⟩
      rw [two_tx, sig_eq]
      by_cases h2 : b = 2
      · rw [decide_eq_true h2]
        refine iteT ?_
        have e : Sw.rul a b c = 0 := by
          unfold Sw.rul
          rw [if_neg h0, if_neg (by omega)]
        rw [e] at q
        exact q
      · rw [decide_eq_false h2]
        refine iteF ?_
        have e : Sw.rul a b c = b + 1 := by
          unfold Sw.rul
          rw [if_neg h0, if_pos (by omega)]
          omega
        rw [e] at q
        refine ⟨_, rfl, _, (b : Int), rfl, int_tx hb, by rw [tx_len]; show 1 ≤ 640; decide, (b : Int), 1, rfl, rfl, "0123", _, b + 1 + 48, rfl, rfl, ?_, at_signs (by omega), q⟩
        show ("0123" : Str).length ≤ sizeLine
        rw [sizeLine_eq]
        decide +kernel
theorem scBeat : FnScope ["table", "last", "row", "at"] ["table", "last", "row"] (defScope (top 14)) := ⟨rfl, rfl, rfl, by decide +kernel, rfl, by decide +kernel, by decide +kernel⟩
/-- what becomes of the inner signs of a row -/
def inner (r : List Nat) : List Nat := (List.range (r.length - 2)).map fun i => Sw.rul (r.getD i 0) (r.getD (i + 1) 0) (r.getD (i + 2) 0)
def spBeat : Sp := fun vs H Q _ => ∃ r : List Nat, 2 ≤ r.length ∧ r.length ≤ 1000 ∧ (∀ d ∈ r, d < 3) ∧ vs = [.str tab, .str "2", .str (tx r)] ∧ ∀ H', Same H H' → Q (.str (tx (inner r))) H'
theorem getD_some {r : List Nat} {i : Nat} (h : i < r.length) : r[i]? = some (r.getD i 0) := by
  rw [List.getD_eq_getElem?_getD, List.getElem?_eq_getElem h]
  rfl
theorem at_tx {r : List Nat} {i : Nat} {k : Int} (h : i < r.length) (e : k = i) : atI (tx r).cps.toList k = some (r.getD i 0 + 48) := by
  subst e
  refine atI_nat ?_
  rw [tx_tl, List.getElem?_map, getD_some h]
  rfl
theorem ok_row_after_beat (T : Txt K mg) : C8.Cal P w K mg base 2 "row_after_beat" spBeat [] := by
  refine cal_of T.g_row_after_beat T.d_row_after_beat scBeat (ps := ["table", "last", "row"]) (fun _ _ _ _ _ _ us hl => match us, hl with | [_, _, _], _ => rfl) (fun vs H Q E h => ?_) (fun cdv A outer s H vs Q E hr h => ?_)
  · obtain ⟨r, _, _, _, rfl, _⟩ := h
    rfl
  · obtain ⟨r, h2, hlen, hr3, rfl, q⟩ := h
    refine ⟨_, pss_one (ps_ret (pe_join pe_str (pe_lc (own := [("at", 3)]) (g := gName 3) (tt := tYes) rfl scBeat.nd
      (pi_range1 (by rfl) T.n_range (pa_cons (pe_op op_sub (pe_callB call_len_str (by rfl) T.n_len boot_len (pa_cons (pv 2) pa_nil)) pe_int) pa_nil))
      (blkOk_by (N := ["table", "last", "row", "at"]) (sc := defScope (top 14)) (by decide +kernel)) (fun _ _ _ _ _ => pg_name (i := 3) scBeat.nd rfl (Or.inl rfl)) (fun _ _ _ _ _ => pts_nil)
      (fun _ _ _ _ _ => pe_f (ok_sign_after T) hr (pa_cons (pv 0) (pa_cons (pv 1) (pa_cons (pe_ix ix_str (pv 2) (pv 3) (fun _ _ => rfl)) (pa_cons (pe_ix ix_str (pv 2) (pe_op op_add (pv 3) pe_int) (fun _ _ => rfl))
        (pa_cons (pe_ix ix_str (pv 2) (pe_op op_add (pv 3) pe_int) (fun _ _ => rfl)) pa_nil))))) (by decide) (by rfl))))), ?_⟩
    refine ⟨⟨_, rfl⟩, _, rfl, tx r, rfl, tx_line hlen, ((tx r).length : Int), 2, rfl, rfl, _, rfl, by rw [tx_len]; omega, by rw [tx_len]; omega, ?_⟩
    have en : (((tx r).length : Int) - 2).toNat = r.length - 2 := by rw [tx_len]; omega
    rw [en]
    intro D hD
    refine lc_same walk_range (fun _ => true) (fun i => .str (tx [Sw.rul (r.getD i 0) (r.getD (i + 1) 0) (r.getD (i + 2) 0)])) hD (by omega) (fun _ _ => trivial) ?_ ?_
    · rintro i x H1 H' Kc Ke hi s1 ⟨rfl, rfl⟩ k1 k2
      have d3 : ∀ j, j < r.length → r.getD j 0 < 3 := fun j hj => hr3 _ (List.mem_of_getElem? (getD_some hj))
      refine ⟨rfl, yesT ?_⟩
      refine ⟨_, rfl, _, rfl, _, rfl, _, rfl, tx r, _, r.getD i 0 + 48, rfl, rfl, tx_line hlen, at_tx (by omega) (by omega), ?_⟩
      refine ⟨_, rfl, _, rfl, _, _, rfl, rfl, tx r, _, r.getD (i + 1) 0 + 48, rfl, rfl, tx_line hlen, at_tx (by omega) (by omega), ?_⟩
      refine ⟨_, rfl, _, rfl, _, _, rfl, rfl, tx r, _, r.getD (i + 2) 0 + 48, rfl, rfl, tx_line hlen, at_tx (by omega) (by omega), ?_⟩
      exact ⟨_, _, _, d3 i (by omega), d3 (i + 1) (by omega), d3 (i + 2) (by omega), rfl, k1 rfl _ (Same.refl _)⟩
    · intro H1 s1 e
      refine ⟨"", D, (inner r).map fun d => tx [d], rfl, rfl, .inl (SqL.of ?_), ?_, ?_⟩
      · rw [e, keep_all]
        unfold inner
        rw [List.map_map, List.map_map]
        rfl
      · rw [List.map_map, show (fun (x : Str) => x.length) ∘ (fun (d : Nat) => tx [d]) = fun _ => 1 from funext fun d => tx_len [d], List.length_map, List.map_const', List.sum_replicate_nat]
        unfold inner
        rw [List.length_map, List.length_range]
        show (r.length - 2) * 1 + (r.length - 2) * ("" : Str).length ≤ 16777216
        rw [show ("" : Str).length = 0 by decide +kernel]
        omega
      · rw [tx_join]
        exact q _ s1
/-! ### the methods -/
theorem scSigns : FnScope ["self"] ["self"] (defScope (inRule 4)) := ⟨rfl, rfl, rfl, by decide +kernel, rfl, by decide +kernel, by decide +kernel⟩
def spSigns (K : PySem.W.Frag) : Sp := fun vs H Q _ => ∃ a, vs = [.ref a] ∧ RuleAt K H a ∧ Q (.str "012") H
theorem ok_signs (T : Txt K mg) : FnR P w K mg base C8.CX0 1 (gS K) (spSigns K) := by
  obtain ⟨ts, hsig⟩ := T.signs
  refine raw_of T.d_signs scSigns (ps := ["self"]) (fun _ _ _ _ _ _ us hl => match us, hl with | [_], _ => rfl) (fun vs H Q E h => ?_) (fun cdv A outer s H vs Q E hr h => ?_)
  · obtain ⟨a, rfl, _⟩ := h
    rfl
  · obtain ⟨a, rfl, ra, q⟩ := h
    obtain ⟨dx, hs⟩ := ra.slt
    refine ⟨_, pss_one (ps_ret (pe_slice sl_str (pe_glob (v := .str "0123") (by rfl) hsig ⟨_, rfl⟩) po_none (po_some (pe_op op_add pe_int (SlX.pe_sl (pv 0)))))), ?_⟩
    refine ⟨_, rfl, a, cR K, dx, _, _, 0, .int 1, rfl, hs, T.rule.cls, T.rule.res, rfl, 2, 1, rfl, rfl, _, rfl, "0123", rfl, ?_, ?_⟩
    · rw [sizeLine_eq]
      decide +kernel
    · rw [show cutS ("0123" : Str) none (some (2 + 1)) = "012" by decide +kernel]
      exact q
/-- rule.signs -/
theorem pe_signs {K : PySem.W.Frag} {mg : Str → Option Value} {X : Cx} {e : Expr} {pos : Pos} {ta : TE} {j : Nat} (T : Txt K mg) (hr : Room j X.A) (he : PE X e ta) (hj : 2 ≤ j := by decide) (hb : attributeBase e "signs" X.env (eval e X.env) = eval e X.env := by rfl)
    (hK : X.K = K := by rfl) (hmg : X.mg = mg := by rfl) : PE X (.Attribute e "signs" pos) (SlX.tPropSl (cR K) (spSigns K) C8.E0 ta) := by
  subst hK hmg
  exact SlX.pe_propSl he T.rule.cls T.rule.pat T.rule.pget T.rule.ptk T.rule.prec (ok_signs T) (hr.mono hj) (fun _ _ _ _ h => h) hb
theorem scRing : FnScope ["self", "text"] ["self", "text"] (defScope (inRule 6)) := ⟨rfl, rfl, rfl, by decide +kernel, rfl, by decide +kernel, by decide +kernel⟩
def spRing (K : PySem.W.Frag) : Sp := fun vs H Q _ => ∃ a l, vs = [.ref a, .str (tx l)] ∧ RuleAt K H a ∧ Sw.Ok l ∧ l.length ≤ 900 ∧ ∀ H', Same H H' → Q (.str (tx (Sw.ring l))) H'
theorem inner_ring {l : List Nat} (h : Sw.Ok l) {z a : Nat} (hz : l[l.length - 1]? = some z) (ha : l[0]? = some a) : inner (z :: (l ++ [a])) = Sw.ring l := by
  have len : (z :: (l ++ [a])).length = l.length + 2 := by simp
  have g : ∀ i, i < l.length + 2 → (z :: (l ++ [a])).getD i 0 = Sw.per l ((i : Int) - 1) := fun i hi => by
    rw [List.getD_eq_getElem?_getD, Sw.row_get h hz ha i hi]
    rfl
  unfold inner Sw.ring Sw.ofF
  rw [len, Nat.add_sub_cancel]
  refine List.map_congr_left fun i hi => ?_
  have hi2 := List.mem_range.mp hi
  rw [g i (by omega), g (i + 1) (by omega), g (i + 2) (by omega)]
  unfold Sw.F
  rw [show ((i + 1 : Nat) : Int) - 1 = (i : Int) by omega, show ((i + 2 : Nat) : Int) - 1 = (i : Int) + 1 by omega]
theorem at_end {l : List Nat} {z : Nat} (h : 0 < l.length) (hz : l[l.length - 1]? = some z) : atI (tx l).cps.toList (-1) = some (z + 48) := by
  have hl : (tx l).cps.toList.length = l.length := by rw [tx_tl, List.length_map]
  have e : (tx l).cps.toList[l.length - 1]? = some (z + 48) := by
    rw [tx_tl, List.getElem?_map, hz]
    rfl
  unfold atI ixN
  rw [hl, if_neg (by decide), if_pos (by omega)]
  show (tx l).cps.toList[((-1 : Int) + (l.length : Int)).toNat]? = _
  rw [show ((-1 : Int) + (l.length : Int)).toNat = l.length - 1 by omega]
  exact e
theorem ok_ring_after (T : Txt K mg) : FnR P w K mg base C8.CX0 3 (He.ma K (cR K) "ring_after") (spRing K) := by
  refine raw_of T.d_ring_after scRing (ps := ["self", "text"]) (fun _ _ _ _ _ _ us hl => match us, hl with | [_, _], _ => rfl) (fun vs H Q E h => ?_) (fun cdv A outer s H vs Q E hr h => ?_)
  · obtain ⟨a, l, rfl, _⟩ := h
    rfl
  · obtain ⟨a, l, rfl, ra, ok, hlen, q⟩ := h
    obtain ⟨dx, hs⟩ := ra.slt
    have hp := ok.pos
    have hz := getD_some (r := l) (i := l.length - 1) (by omega)
    have ha := getD_some (r := l) (i := 0) hp
    generalize l.getD (l.length - 1) 0 = z at hz
    generalize l.getD 0 0 = f at ha
    refine ⟨_, pss_one (ps_ret (pe_f (ok_row_after_beat T) hr (pa_cons (SlX.pe_sl (pv 0)) (pa_cons (pe_ix ix_str (pe_signs T hr (pv 0)) (pe_un un_neg pe_int) (fun _ _ => rfl))
      (pa_cons (pe_op op_add_str (pe_op op_add_str (pe_ix ix_str (pv 1) (pe_un un_neg pe_int) (fun _ _ => rfl)) (pv 1)) (pe_ix ix_str (pv 1) pe_int (fun _ _ => rfl))) pa_nil))) (by decide) (by rfl))), ?_⟩
    refine ⟨_, rfl, a, cR K, dx, _, _, 1, .str tab, rfl, hs, T.rule.cls, T.rule.tab, rfl, ?_⟩
    refine ⟨_, rfl, a, dx, _, rfl, hs, a, rfl, ra, 1, rfl, "012", -1, 50, rfl, rfl, by rw [sizeLine_eq]; decide +kernel, by decide +kernel, ?_⟩
    refine ⟨_, rfl, 1, rfl, tx l, -1, z + 48, rfl, rfl, tx_line (by omega), at_end hp hz, ?_⟩
    refine ⟨_, rfl, tx [z], tx l, rfl, rfl, by rw [tx_len, tx_len, sizeLine_eq]; show 1 + l.length ≤ _; omega, ?_⟩
    refine ⟨_, rfl, tx l, 0, f + 48, rfl, rfl, tx_line (by omega), ?_, ?_⟩
    · refine atI_nat (j := 0) ?_
      rw [tx_tl, List.getElem?_map, ha]
      rfl
    refine ⟨tx [z] ++ tx l, tx [f], rfl, rfl, by rw [tx_cat, tx_len, tx_len, sizeLine_eq]; simp; omega, ?_⟩
    rw [tx_cat, tx_cat]
    refine ⟨[z] ++ l ++ [f], by simp, by simp; omega, fun d hd => ?_, ?_, fun H' sm => ?_⟩
    · rcases List.mem_append.mp hd with hd | hd
      · rcases List.mem_append.mp hd with hd | hd
        · rw [List.mem_singleton.mp hd]
          exact ok.lt _ (List.mem_of_getElem? hz)
        · exact ok.lt _ hd
      · rw [List.mem_singleton.mp hd]
        exact ok.lt _ (List.mem_of_getElem? ha)
    · rw [show (⟨#[50]⟩ : Str) = "2" by decide +kernel]
      rfl
    · rw [show inner ([z] ++ l ++ [f]) = Sw.ring l from inner_ring ok hz ha]
      exact q _ sm
/-- rule.ring_after(e) -/
theorem pe_ring {K : PySem.W.Frag} {mg : Str → Option Value} {X : Cx} {o e : Expr} {pos apos : Pos} {ta te : TE} {j : Nat} {pl : Sem Bool} (T : Txt K mg) (hr : Room j X.A) (ho : PE X o ta) (ha : PA X [e] (tCons te tNil)) (hj : 3 ≤ j := by decide)
    (hst : starEach [e] X.env = (false, eval e X.env) :: starEach [] X.env := by rfl) (hpl : (backTo pos (starEach [] X.env)).any (·.1) = false := by rfl)
    (ht : eval (.Call (.Attribute o "ring_after" apos) [e] [] pos) X.env = (do
      let ov ← eval o X.env
      standAt apos.atName
      let (f, first) ← holding [ov] (getMethod ov "ring_after" pl)
      callWith pos f first (backTo pos (starEach [e] X.env)) (backToKw pos (keywordEach [] X.env))) := by rfl) (hK : X.K = K := by rfl) (hmg : X.mg = mg := by rfl) :
    PE X (.Call (.Attribute o "ring_after" apos) [e] [] pos) (SlX.tMethSl (cR K) (spRing K) C8.E0 ta (tCons te tNil)) := by
  subst hK hmg
  exact SlX.pe_methSl (pl := pl) ho T.rule.cls T.m_ring_after (ok_ring_after T) (hr.mono hj) C8.pass0 ha hst hpl ht
end
end SwP
/-! The defs, 3: turned, mirrored, still, many beats; steps, the turning number, heights. -/
namespace SwP
open PySem PySem.Spec PyProof.Rows L2
theorem cut_from (l : List Nat) {k : Nat} {i : Int} (e : i = k) (hk : k ≤ l.length) : cutS (tx l) (some i) none = tx (l.drop k) := by
  subst e
  rw [tx_cut, HT.sIx_nat, HT.sIx_none, Nat.min_eq_left hk, List.take_of_length_le (by rw [List.length_drop]; omega)]
theorem cut_to (l : List Nat) {k : Nat} {i : Int} (e : i = k) : cutS (tx l) none (some i) = tx (l.take k) := by
  subst e
  rw [tx_cut, HT.sIx_nat, HT.sIx_none, List.drop_zero, Nat.sub_zero]
  by_cases c : k ≤ l.length
  · rw [Nat.min_eq_left c]
  · rw [Nat.min_eq_right (by omega), List.take_of_length_le (by omega), List.take_of_length_le (by omega)]
section
variable {P : Program} {w : World} {K : PySem.W.Frag} {mg : Str → Option Value} {base : Heap}
theorem scTurn : FnScope ["text", "places", "at"] ["text", "places"] (defScope (top 17)) := ⟨rfl, rfl, rfl, by decide +kernel, rfl, by decide +kernel, by decide +kernel⟩
def spTurn : Sp := fun vs H Q _ => ∃ l p, vs = [.str (tx l), .int p] ∧ Sw.Ok l ∧ l.length ≤ 900 ∧ Q (.str (tx (Sw.turn p l))) H
theorem ok_turned_by (T : Txt K mg) : C8.Cal P w K mg base 1 "turned_by" spTurn [] := by
  refine cal_of T.g_turned_by T.d_turned_by scTurn (ps := ["text", "places"]) (fun _ _ _ _ _ _ us hl => match us, hl with | [_, _], _ => rfl) (fun vs H Q E h => ?_) (fun cdv A outer s H vs Q E hr h => ?_)
  · obtain ⟨l, p, rfl, _⟩ := h
    rfl
  · obtain ⟨l, p, rfl, ok, hlen, q⟩ := h
    have hp := ok.pos
    refine ⟨_, pss_cons (ps_set (i := 2) scTurn.nd rfl (Or.inl rfl) (pe_op op_mod (pv 1) (pe_callB call_len_str (by rfl) T.n_len boot_len (pa_cons (pv 0) pa_nil))))
      (pss_one (ps_ret (pe_op op_add_str
        (pe_slice sl_str (pv 0) (po_some (pe_op op_sub (pe_callB call_len_str (by rfl) T.n_len boot_len (pa_cons (pv 0) pa_nil)) (pv 2))) po_none)
        (pe_slice sl_str (pv 0) po_none (po_some (pe_op op_sub (pe_callB call_len_str (by rfl) T.n_len boot_len (pa_cons (pv 0) pa_nil)) (pv 2))))))), ?_⟩
    have h1 : 0 ≤ p % (l.length : Int) := Int.emod_nonneg _ (by omega)
    have h2 : p % (l.length : Int) < l.length := Int.emod_lt_of_pos _ (by omega)
    refine ⟨_, rfl, _, rfl, tx l, rfl, tx_line (by omega), p, _, rfl, rfl, by rw [tx_len]; omega, ?_⟩
    rw [tx_len]
    obtain ⟨k, hk⟩ : ∃ k : Nat, (k : Int) = p % (l.length : Int) := ⟨(p % (l.length : Int)).toNat, by omega⟩
    show gName 2 (V.int (p % (l.length : Int))) _ _ _
    rw [← hk]
    refine ⟨_, rfl, _, rfl, tx l, rfl, tx_line (by omega), _, rfl, _, _, rfl, rfl, _, rfl, tx l, rfl, tx_line (by omega), ?_⟩
    refine ⟨_, rfl, _, rfl, tx l, rfl, tx_line (by omega), _, rfl, _, _, rfl, rfl, _, rfl, tx l, rfl, tx_line (by omega), ?_⟩
    rw [tx_len, cut_from l (k := l.length - k) (by omega) (by omega), cut_to l (k := l.length - k) (by omega)]
    refine ⟨_, _, rfl, rfl, ?_, ?_⟩
    · rw [tx_len, tx_len, sizeLine_eq, List.length_drop, List.length_take]
      omega
    · rw [tx_cat, Sw.turn_cut ok p hk]
      exact q
theorem scMir : FnScope ["text"] ["text"] (defScope (top 18)) := ⟨rfl, rfl, rfl, by decide +kernel, rfl, by decide +kernel, by decide +kernel⟩
def spMir : Sp := fun vs H Q _ => ∃ l, vs = [.str (tx l)] ∧ l.length ≤ 900 ∧ Q (.str (tx (Sw.mir l))) H
theorem ok_mirror_of (T : Txt K mg) : C8.Cal P w K mg base 1 "mirror_of" spMir [] := by
  refine cal_of T.g_mirror_of T.d_mirror_of scMir (ps := ["text"]) (fun _ _ _ _ _ _ us hl => match us, hl with | [_], _ => rfl) (fun vs H Q E h => ?_) (fun cdv A outer s H vs Q E hr h => ?_)
  · obtain ⟨l, rfl, _⟩ := h
    rfl
  · obtain ⟨l, rfl, hlen, q⟩ := h
    refine ⟨_, pss_one (ps_ret (SwR.pe_revS (pv 0))), ?_⟩
    refine ⟨_, rfl, tx l, rfl, by rw [tx_len]; omega, ?_⟩
    rw [tx_rev]
    exact q
theorem scStill : FnScope ["self", "text", "sign"] ["self", "text"] (defScope (inRule 12)) := ⟨rfl, rfl, rfl, by decide +kernel, rfl, by decide +kernel, by decide +kernel⟩
def spStill (K : PySem.W.Frag) : Sp := fun vs H Q _ => ∃ a l, vs = [.ref a, .str (tx l)] ∧ RuleAt K H a ∧ l.length ≤ 900 ∧ ∀ b H', (b = true ↔ ∀ d ∈ l, d = 0) → Same H H' → Q (.bl b) H'
theorem ok_is_still (T : Txt K mg) : FnR P w K mg base C8.CX0 1 (He.ma K (cR K) "is_still") (spStill K) := by
  refine raw_of T.d_is_still scStill (ps := ["self", "text"]) (fun _ _ _ _ _ _ us hl => match us, hl with | [_, _], _ => rfl) (fun vs H Q E h => ?_) (fun cdv A outer s H vs Q E hr h => ?_)
  · obtain ⟨a, l, rfl, _⟩ := h
    rfl
  · obtain ⟨a, l, rfl, ra, hlen, q⟩ := h
    obtain ⟨dx, hs⟩ := ra.slt
    refine ⟨_, pss_one (ps_ret (pe_and (pe_cmpR op_eq (pe_ix ix_str (SlX.pe_sl (pv 0)) pe_int (fun _ _ => rfl)) pe_str (nomark _))
      (pe_one (pe_callB (cr_all rfl) (by rfl) T.n_all (by decide +kernel) (pa_cons (pe_lc (own := [("sign", 2)]) (g := gName 2) (tt := tYes) rfl scStill.nd (pi_str (pv 1)) (blkOk_by (N := ["self", "text", "sign"]) (sc := defScope (inRule 12)) (by decide +kernel))
        (fun _ _ _ _ _ => pg_name (i := 2) scStill.nd rfl (Or.inl rfl)) (fun _ _ _ _ _ => pts_nil) (fun _ _ _ _ _ => pe_cmpR op_eq (pv 2) pe_str (nomark _))) pa_nil))))), ?_⟩
    refine ⟨_, rfl, a, cR K, dx, _, _, 1, .str tab, rfl, hs, T.rule.cls, T.rule.tab, rfl, tab, 0, 48, rfl, rfl, line4, at_tab (.inl ⟨rfl, rfl⟩), rfl, ?_⟩
    refine ⟨true, ?_, iteT ?_⟩
    · rw [nul_tx]
      exact congrArg V.bl ((sig_eq 0 0).trans (by decide))
    refine ⟨_, rfl, tx l, rfl, fun D hD => lc_same walk_str (fun _ => true) (fun i => .bl (decide (l.getD i 0 = 0))) hD (by rw [tx_size]; omega) (fun _ _ => trivial) ?_ ?_⟩
    · rintro i x H1 H' Kc Ke hi s1 ⟨rfl, c, hc, rfl⟩ k1 k2
      obtain ⟨d, hd, rfl⟩ := tx_gets hc
      refine ⟨rfl, yesT ?_⟩
      refine ⟨_, rfl, rfl, ?_⟩
      rw [show (⟨#[d + 48]⟩ : Str) = tx [d] from rfl, nul_tx, sig_eq]
      have e : l.getD i 0 = d := by rw [List.getD_eq_getElem?_getD, hd]; rfl
      rw [← e]
      exact k1 rfl _ (Same.refl _)
    · intro H1 s1 e
      refine ⟨D, (List.range l.length).map fun i => decide (l.getD i 0 = 0), rfl, SqL.of ?_, ?_⟩
      · rw [e, keep_all, tx_size, List.map_map]
        rfl
      · refine q _ _ ?_ s1
        rw [List.all_eq_true]
        constructor
        · intro h d hd
          obtain ⟨i, hi, ei⟩ := List.mem_iff_getElem.mp hd
          have := h (decide (l.getD i 0 = 0)) (List.mem_map.mpr ⟨i, List.mem_range.mpr hi, rfl⟩)
          have e0 := of_decide_eq_true this
          rw [List.getD_eq_getElem?_getD, List.getElem?_eq_getElem hi, ei] at e0
          exact e0
        · intro h b hb
          obtain ⟨i, hi, rfl⟩ := List.mem_map.mp hb
          exact decide_eq_true (h _ (List.mem_of_getElem? (getD_some (List.mem_range.mp hi))))
theorem scAfter : FnScope ["rule", "text", "many", "turn"] ["rule", "text", "many"] (defScope (top 20)) := ⟨rfl, rfl, rfl, by decide +kernel, rfl, by decide +kernel, by decide +kernel⟩
def spAfter (K : PySem.W.Frag) : Sp := fun vs H Q _ => ∃ a l, ∃ m : Nat, vs = [.ref a, .str (tx l), .int m] ∧ RuleAt K H a ∧ Sw.Ok l ∧ l.length ≤ 900 ∧ m ≤ 1000000 ∧ ∀ H', Same H H' → Q (.str (tx (Sw.rn m l))) H'
theorem ok_after (T : Txt K mg) : C8.Cal P w K mg base 4 "after" (spAfter K) [] := by
  refine cal_of T.g_after T.d_after scAfter (ps := ["rule", "text", "many"]) (fun _ _ _ _ _ _ us hl => match us, hl with | [_, _, _], _ => rfl) (fun vs H Q E h => ?_) (fun cdv A outer s H vs Q E hr h => ?_)
  · obtain ⟨a, l, m, rfl, _⟩ := h
    rfl
  · obtain ⟨a, l, m, rfl, ra, ok, hlen, hm, q⟩ := h
    refine ⟨_, pss_cons (ps_for PassesOwn.never rfl (pi_range1 (by rfl) T.n_range (pa_cons (pv 2) pa_nil)) (pg_name (i := 3) scAfter.nd rfl (Or.inl rfl))
        (pss_one (ps_set (i := 1) scAfter.nd rfl (Or.inl rfl) (pe_ring T hr (pv 0) (pa_cons (pv 1) pa_nil)))))
      (pss_one (ps_ret (pv 1))), ?_⟩
    refine ⟨_, rfl, (m : Int), rfl, by omega, by omega, ?_⟩
    rw [Int.toNat_natCast]
    refine for_range (lo := 0) (n := m) (fun i σ H' => ∃ y, σ = [some (.ref a), some (.str (tx (Sw.rn i l))), some (.int m), y] ∧ Same H H') ⟨none, ?_, Same.refl _⟩ ?_ ?_
    · rw [Sw.rn_zero]
      rfl
    · rintro i σ H' hi ⟨y, rfl, sm⟩
      obtain ⟨dx, hs⟩ := (ra.same sm).slt
      refine ⟨_, rfl, a, dx, _, rfl, hs, _, rfl, a, _, rfl, ra.same sm, Sw.rn_ok ok i, by rw [Sw.rn_len]; exact hlen, fun H2 s2 => ⟨some (.int (0 + (i : Int))), ?_, sm.trans s2⟩⟩
      rw [Sw.rn_succ ok i]
      rfl
    · rintro σ H' ⟨y, rfl, sm⟩
      exact ⟨_, rfl, q _ sm⟩
end
end SwP
/-! The defs, 4: steps, the turning number, heights. -/
namespace SwP
open PySem PySem.Spec PyProof.Rows L2
theorem stL_get {l : List Nat} {i : Nat} (h : i < l.length) : (Sw.stL l)[i]? = some (Sw.stp (Sw.per l i) (Sw.per l (i + 1))) := Sw.ofF_get _ h
theorem no_two (l : List Nat) : inV (.int 2) ((Sw.stL l).map V.int) = false := by
  unfold inV
  rw [List.any_map, List.any_eq_false]
  intro s hs
  have := Sw.stL_bd hs
  show ¬ ((s == 2) = true)
  intro e
  have := beq_iff_eq.mp e
  omega
theorem flat_ints (ns : List Int) : (ns.map V.int).all flatV = true := by
  rw [List.all_map, List.all_eq_true]
  intro _ _
  rfl
section
variable {P : Program} {w : World} {K : PySem.W.Frag} {mg : Str → Option Value} {base : Heap}
theorem scStep : FnScope ["signs", "left", "right", "found"] ["signs", "left", "right"] (defScope (top 24)) := ⟨rfl, rfl, rfl, by decide +kernel, rfl, by decide +kernel, by decide +kernel⟩
def spStep : Sp := fun vs H Q _ => ∃ a b : Nat, a < 3 ∧ b < 3 ∧ vs = [.str "012", .str (tx [a]), .str (tx [b])] ∧ Q (.int (Sw.stp a b)) H
theorem len012 : ("012" : Str).length = 3 := by decide +kernel
theorem line012 : ("012" : Str).length ≤ sizeLine := by rw [sizeLine_eq, len012]; decide
theorem ok_step_between (T : Txt K mg) : C8.Cal P w K mg base 1 "step_between" spStep [] := by
  refine cal_of T.g_step_between T.d_step_between scStep (ps := ["signs", "left", "right"]) (fun _ _ _ _ _ _ us hl => match us, hl with | [_, _, _], _ => rfl) (fun vs H Q E h => ?_) (fun cdv A outer s H vs Q E hr h => ?_)
  · obtain ⟨a, b, _, _, rfl, _⟩ := h
    rfl
  · obtain ⟨a, b, ha, hb, rfl, q⟩ := h
    refine ⟨_, pss_cons (ps_set (i := 3) scStep.nd rfl (Or.inl rfl) (pe_op op_mod (pe_op op_sub (pe_callTy call_int_str (by rfl) T.n_int boot_int (pa_cons (pv 2) pa_nil)) (pe_callTy call_int_str (by rfl) T.n_int boot_int (pa_cons (pv 1) pa_nil)))
        (pe_callB call_len_str (by rfl) T.n_len boot_len (pa_cons (pv 0) pa_nil))))
      (pss_one (ps_ret (pe_ifExp (pt_cmpR op_eq (pv 3) (pe_op op_sub (pe_callB call_len_str (by rfl) T.n_len boot_len (pa_cons (pv 0) pa_nil)) pe_int) (nomark _)) (pe_un un_neg pe_int) (pv 3)))), ?_⟩
    have l1 : ∀ d : Nat, (tx [d]).length ≤ 640 := fun d => by rw [tx_len]; show 1 ≤ 640; decide
    refine ⟨_, rfl, _, (b : Int), rfl, int_tx hb, l1 b, _, rfl, _, (a : Int), rfl, int_tx ha, l1 a, _, _, rfl, rfl, _, rfl, "012", rfl, line012, _, _, rfl, rfl, by rw [len012]; show (0 : Int) < 3; decide, ?_⟩
    rw [len012]
    refine ⟨_, rfl, _, rfl, "012", rfl, line012, _, _, rfl, rfl, rfl, _, rfl, ?_⟩
    rw [len012]
    unfold Sw.stp at q
    have e : decide (V.int (((b : Int) - (a : Int)) % ((3 : Nat) : Int)) = V.int (((3 : Nat) : Int) - 1)) = decide (((b : Int) - (a : Int)) % 3 = 2) := by
      by_cases c : ((b : Int) - (a : Int)) % 3 = 2
      · rw [decide_eq_true c]
        exact decide_eq_true (congrArg V.int c)
      · rw [decide_eq_false c]
        exact decide_eq_false fun z => c (V.int.inj z)
    rw [e]
    by_cases c : ((b : Int) - (a : Int)) % 3 = 2
    · rw [if_pos c] at q
      rw [decide_eq_true c]
      exact iteT ⟨1, rfl, q⟩
    · rw [if_neg c] at q
      rw [decide_eq_false c]
      exact iteF ⟨_, rfl, q⟩
theorem scSteps : FnScope ["rule", "text", "left", "right"] ["rule", "text"] (defScope (top 25)) := ⟨rfl, rfl, rfl, by decide +kernel, rfl, by decide +kernel, by decide +kernel⟩
def spSteps (K : PySem.W.Frag) : Sp := fun vs H Q _ => ∃ a l, vs = [.ref a, .str (tx l)] ∧ RuleAt K H a ∧ Sw.Ok l ∧ l.length ≤ 900 ∧ ∀ H' D, Same H H' → H D = none → H' D = some (.lst ((Sw.stL l).map V.int)) → Q (.ref D) H'
theorem ok_steps_of (T : Txt K mg) : C8.Cal P w K mg base 3 "steps_of" (spSteps K) [] := by
  refine cal_of T.g_steps_of T.d_steps_of scSteps (ps := ["rule", "text"]) (fun _ _ _ _ _ _ us hl => match us, hl with | [_, _], _ => rfl) (fun vs H Q E h => ?_) (fun cdv A outer s H vs Q E hr h => ?_)
  · obtain ⟨a, l, rfl, _⟩ := h
    rfl
  · obtain ⟨a, l, rfl, ra, ok, hlen, q⟩ := h
    have hp := ok.pos
    refine ⟨_, pss_one (ps_ret (pe_lc (own := [("left", 2), ("right", 3)]) (g := gTup K 2 (gCons (gName 2) (gCons (gName 3) gNil))) (tt := tYes) rfl scSteps.nd
      (SwR.pi_zipS (by rfl) T.n_zip (pa_cons (pv 1) (pa_cons (pe_op op_add_str (pe_slice sl_str (pv 1) (po_some pe_int) po_none) (pe_ix ix_str (pv 1) pe_int (fun _ _ => rfl))) pa_nil)))
      (blkOk_by (N := ["rule", "text", "left", "right"]) (sc := defScope (top 25)) (by decide +kernel))
      (fun _ _ _ _ _ => pg_tup rfl (pgs_cons (pg_name (i := 2) scSteps.nd rfl (Or.inl rfl)) (pgs_cons (pg_name (i := 3) scSteps.nd rfl (Or.inl rfl)) pgs_nil))) (fun _ _ _ _ _ => pts_nil)
      (fun _ _ _ _ _ => pe_f (ok_step_between T) hr (pa_cons (pe_signs T hr (pv 0)) (pa_cons (pv 2) (pa_cons (pv 3) pa_nil))) (by decide) (by rfl)))), ?_⟩
    have ha := getD_some (r := l) (i := 0) hp
    have e0 : l.getD 0 0 = Sw.per l 0 := Option.some.inj (ha.symm.trans (Sw.per_nat hp))
    refine ⟨_, rfl, _, rfl, 1, rfl, tx l, rfl, tx_line (by omega), ?_⟩
    rw [cut_from l (k := 1) (i := 1) rfl (by omega)]
    refine ⟨_, rfl, tx l, 0, l.getD 0 0 + 48, rfl, rfl, tx_line (by omega), ?_, ?_⟩
    · refine atI_nat (j := 0) ?_
      rw [tx_tl, List.getElem?_map, ha]
      rfl
    refine ⟨tx (l.drop 1), tx [l.getD 0 0], rfl, rfl, ?_, ?_⟩
    · rw [tx_len, tx_len, sizeLine_eq, List.length_drop]
      show l.length - 1 + 1 ≤ _
      omega
    rw [tx_cat]
    refine ⟨tx l, tx (l.drop 1 ++ [l.getD 0 0]), rfl, ?_⟩
    have em : min (tx l).cps.size (tx (l.drop 1 ++ [l.getD 0 0])).cps.size = l.length := by
      rw [tx_size, tx_size, List.length_append, List.length_drop]
      show min l.length (l.length - 1 + 1) = l.length
      omega
    rw [em]
    intro D hD
    refine lc_same SwR.walk_pairs (fun _ => true) (fun i => .int (Sw.stp (Sw.per l i) (Sw.per l (i + 1)))) hD (by omega) (fun _ _ => trivial) ?_ ?_
    · rintro i x H1 H' Kc Ke hi s1 ⟨Tp, x1, y1, rfl, hT, rfl, ⟨c1, hc1, rfl⟩, ⟨c2, hc2, rfl⟩⟩ k1 k2
      obtain ⟨d1, hd1, rfl⟩ := tx_gets hc1
      obtain ⟨d2, hd2, rfl⟩ := tx_gets hc2
      have e1 : d1 = Sw.per l i := Option.some.inj (hd1.symm.trans (Sw.per_nat hi))
      have e2 : d2 = Sw.per l (i + 1) := by
        by_cases c : i + 1 < l.length
        · rw [List.getElem?_append_left (by rw [List.length_drop]; omega), List.getElem?_drop, Nat.add_comm 1 i, Sw.per_nat c] at hd2
          rw [← Option.some.inj hd2]
          congr 1
        · have ei : i = l.length - 1 := by omega
          rw [List.getElem?_append_right (by rw [List.length_drop]; omega), List.length_drop, ei, Nat.sub_self, List.getElem?_cons_zero, e0] at hd2
          rw [← Option.some.inj hd2]
          have := ok.per.per 0
          rw [show (0 : Int) + l.length = (i : Int) + 1 by omega] at this
          exact this.symm
      have l1 : d1 < 3 := by rw [e1]; exact Sw.per_lt ok _
      have l2 : d2 < 3 := by rw [e2]; exact Sw.per_lt ok _
      have s2 : Same H1 (upd H1 Tp (.tup [.str (tx [d1]), .str (tx [d2])])) := same_new hT
      refine ⟨Tp, _, rfl, SqT.of upd_same, rfl, _, _, rfl, _, _, rfl, rfl, ?_⟩
      refine ⟨rfl, yesT ?_⟩
      obtain ⟨dx, hs⟩ := ((ra.same s1).same s2).slt
      refine ⟨_, rfl, a, dx, _, rfl, hs, a, rfl, (ra.same s1).same s2, ?_⟩
      refine ⟨_, rfl, _, rfl, d1, d2, l1, l2, rfl, ?_⟩
      have := k1 rfl _ s2
      rw [← e1, ← e2] at this
      exact this
    · intro H1 s1 e
      refine q _ _ s1 hD ?_
      rw [e, keep_all]
      unfold Sw.stL Sw.ofF
      rw [List.map_map]
      rfl
theorem scTn : FnScope ["rule", "text", "steps"] ["rule", "text"] (defScope (top 26)) := ⟨rfl, rfl, rfl, by decide +kernel, rfl, by decide +kernel, by decide +kernel⟩
def spTn (K : PySem.W.Frag) : Sp := fun vs H Q _ => ∃ a l, vs = [.ref a, .str (tx l)] ∧ RuleAt K H a ∧ Sw.Ok l ∧ l.length ≤ 900 ∧ ∀ H', Same H H' → Q (.int (Sw.tn l)) H'
theorem ok_turning_number (T : Txt K mg) : C8.Cal P w K mg base 4 "turning_number" (spTn K) [] := by
  refine cal_of T.g_turning_number T.d_turning_number scTn (ps := ["rule", "text"]) (fun _ _ _ _ _ _ us hl => match us, hl with | [_, _], _ => rfl) (fun vs H Q E h => ?_) (fun cdv A outer s H vs Q E hr h => ?_)
  · obtain ⟨a, l, rfl, _⟩ := h
    rfl
  · obtain ⟨a, l, rfl, ra, ok, hlen, q⟩ := h
    refine ⟨_, pss_cons (ps_set (i := 2) scTn.nd rfl (Or.inl rfl) (pe_f (ok_steps_of T) hr (pa_cons (pv 0) (pa_cons (pv 1) pa_nil))))
      (pss_cons (ps_if (pt_cmpR op_in_seq pe_int (pv 2) (by rfl)) pss_never pss_nil)
      (pss_one (ps_ret (pe_op op_fdiv (pe_callB (cr_sum rfl) (by rfl) T.n_sum (by decide +kernel) (pa_cons (pv 2) pa_nil)) (pe_callB call_len_str (by rfl) T.n_len boot_len (pa_cons (pe_signs T hr (pv 0)) pa_nil)))))), ?_⟩
    refine ⟨_, rfl, _, rfl, a, l, rfl, ra, ok, hlen, fun H1 D s1 nD hD => ?_⟩
    have hS : SqL K H1 D ((Sw.stL l).map V.int) := SqL.of hD
    refine ⟨_, rfl, D, _, rfl, .inl hS, rfl, flat_ints _, ?_⟩
    refine ⟨false, congrArg V.bl (no_two l), iteF ?_⟩
    obtain ⟨dx, hs⟩ := (ra.same s1).slt
    refine ⟨_, rfl, D, Sw.stL l, rfl, hS, _, rfl, a, dx, _, rfl, hs, a, rfl, ra.same s1, "012", rfl, line012, _, _, rfl, rfl, ⟨by rw [len012]; decide, by rw [len012]; decide⟩, ?_⟩
    rw [len012]
    show Q (.int ((Sw.stL l).sum / 3)) H1
    rw [Sw.tn_eq]
    exact q _ s1
theorem scHts : FnScope ["rule", "text", "steps", "found", "step"] ["rule", "text"] (defScope (top 27)) := ⟨rfl, rfl, rfl, by decide +kernel, rfl, by decide +kernel, by decide +kernel⟩
def spHts (K : PySem.W.Frag) : Sp := fun vs H Q _ => ∃ a l, vs = [.ref a, .str (tx l)] ∧ RuleAt K H a ∧ Sw.Ok l ∧ l.length ≤ 900 ∧ (Sw.tn l ≠ 0 → ∀ H', Same H H' → Q .non H') ∧
  (Sw.tn l = 0 → ∀ H' D, Same H H' → H D = none → H' D = some (.lst ((Sw.hts l).map V.int)) → Q (.ref D) H')
theorem cut_all_but {xs : List V} (h : 0 < xs.length) : cutV xs none (some (-1)) = xs.take (xs.length - 1) := by
  unfold cutV
  rw [HT.sIx_none, List.drop_zero, Nat.sub_zero]
  congr 1
  show (if (-1 : Int) < 0 then ((-1 : Int) + (xs.length : Int)).toNat else min (-1 : Int).toNat xs.length) = xs.length - 1
  rw [if_pos (by decide)]
  omega
theorem at_lastV {xs : List V} {v : V} {n : Nat} (hn : xs.length = n + 1) (h : xs[n]? = some v) : atI xs (-1) = some v := by
  unfold atI ixN
  rw [hn, if_neg (by decide), if_pos (by omega)]
  show xs[((-1 : Int) + ((n + 1 : Nat) : Int)).toNat]? = _
  rw [show ((-1 : Int) + ((n + 1 : Nat) : Int)).toNat = n by omega]
  exact h
theorem ok_heights_of (T : Txt K mg) : C8.Cal P w K mg base 4 "heights_of" (spHts K) [] := by
  refine cal_of T.g_heights_of T.d_heights_of scHts (ps := ["rule", "text"]) (fun _ _ _ _ _ _ us hl => match us, hl with | [_, _], _ => rfl) (fun vs H Q E h => ?_) (fun cdv A outer s H vs Q E hr h => ?_)
  · obtain ⟨a, l, rfl, _⟩ := h
    rfl
  · obtain ⟨a, l, rfl, ra, ok, hlen, qn, qz⟩ := h
    have hp := ok.pos
    refine ⟨_, pss_cons (ps_set (i := 2) scHts.nd rfl (Or.inl rfl) (pe_f (ok_steps_of T) hr (pa_cons (pv 0) (pa_cons (pv 1) pa_nil))))
      (pss_cons (ps_if (PW.pt (pw_or (pt_cmpR op_in_seq pe_int (pv 2) (by rfl)) (pw_or1 (pt_cmpR op_ne (pe_callB (cr_sum rfl) (by rfl) T.n_sum (by decide +kernel) (pa_cons (pv 2) pa_nil)) pe_int (nomark _))))) (pss_one (ps_ret pe_non)) pss_nil)
      (pss_cons (ps_set (i := 3) scHts.nd rfl (Or.inl rfl) (pe_lst (pa_cons (pe_callTy call_int_str (by rfl) T.n_int boot_int (pa_cons (pe_ix ix_str (pv 1) pe_int (fun _ _ => rfl)) pa_nil)) pa_nil)))
      (pss_cons (ps_for PassesOwn.never rfl (pi_list (pe_slice sl_list (pv 2) po_none (po_some (pe_un un_neg pe_int)))) (pg_name (i := 4) scHts.nd rfl (Or.inl rfl))
        (pss_one (ps_expr (pe_bm PySem.F.plainAttrs_list PySem.F.slot_list_append PySem.F.type_list_append mt_append (pv 3) (pa_cons (pe_op op_add (pe_ix ix_list (pv 3) (pe_un un_neg pe_int) (fun _ _ => rfl)) (pv 4)) pa_nil)))))
      (pss_one (ps_ret (pv 3)))))), ?_⟩
    refine ⟨_, rfl, _, rfl, a, l, rfl, ra, ok, hlen, fun H1 D s1 nD hD => ?_⟩
    have hS : SqL K H1 D ((Sw.stL l).map V.int) := SqL.of hD
    refine ⟨_, rfl, D, _, rfl, .inl hS, rfl, flat_ints _, ?_⟩
    refine ⟨false, congrArg V.bl (no_two l), iteF ?_⟩
    refine ⟨_, rfl, D, Sw.stL l, rfl, hS, rfl, ?_⟩
    by_cases z : Sw.tn l = 0
    · have e0 := (Sw.sum_zero_iff ok).mpr z
      refine ⟨_, rfl, ?_⟩
      rw [e0]
      refine iteF ?_
      -- found = [int(text[0])]
      have ha := Sw.per_nat hp
      refine ⟨_, rfl, tx l, 0, Sw.per l 0 + 48, rfl, rfl, tx_line (by omega), ?_, _, (Sw.per l 0 : Int), rfl, int_tx (Sw.per_lt ok 0), by rw [show (⟨#[Sw.per l 0 + 48]⟩ : Str) = tx [Sw.per l 0] from rfl, tx_len]; show 1 ≤ 640; decide, ?_⟩
      · refine atI_nat (j := 0) ?_
        rw [tx_tl, List.getElem?_map, ha]
        rfl
      refine ⟨by rw [sizeLine_eq]; show 1 ≤ 16777216; decide, fun p np => ?_⟩
      have s2 := same_last s1 np (o := .lst [.int (Sw.per l 0)])
      have hD2 : (upd H1 p (.lst [.int (Sw.per l 0)])) D = some (.lst ((Sw.stL l).map V.int)) := by
        rw [upd_ne (ne_of_none hD np)]
        exact hD
      refine ⟨_, rfl, 1, rfl, _, rfl, D, _, rfl, SqL.of hD2, fun c nc => ?_⟩
      have nst : ((Sw.stL l).map V.int).length = l.length := by rw [List.length_map, Sw.stL_len]
      rw [show (-1 : Int) = -1 from rfl, cut_all_but (by omega), nst]
      have ncp : c ≠ p := fun e => by
        rw [e, upd_same] at nc
        cases nc
      have npH : H p = none := s1.free np
      have ncH : H c = none := s2.free nc
      generalize hxs : ((Sw.stL l).map V.int).take (l.length - 1) = xs
      have lxs : xs.length = l.length - 1 := by rw [← hxs, List.length_take, nst]; omega
      refine ⟨c, rfl, ⟨_, SqL.of upd_same⟩, for_list (K := K) (a := c) (xs := xs) (fun i σ H' => ∃ y, σ = [some (.ref a), some (.str (tx l)), some (.ref D), some (.ref p), y] ∧ Same H H' ∧ H' c = some (.lst xs) ∧
        H' p = some (.lst ((Sw.ofF (i + 1) (Sw.hgt (Sw.per l))).map V.int))) ⟨none, rfl, same_last s2 nc, upd_same, ?_⟩ (fun i σ H' _ ⟨_, _, _, e, _⟩ => SqL.of e) ?_ ?_⟩
      · rw [upd_ne ncp.symm, upd_same]
        show some (HO.lst [.int (Sw.per l 0)]) = some (.lst [.int (Sw.hgt (Sw.per l) ((0 : Nat) : Int))])
        rw [show ((0 : Nat) : Int) = 0 from rfl, Sw.hgt_zero]
      · rintro i x σ H' hi ⟨y, rfl, sm, ec, ep⟩
        have hil : i < l.length - 1 := by
          rw [← lxs]
          exact (List.getElem?_eq_some_iff.mp hi).1
        have ex : x = .int (Sw.stp (Sw.per l i) (Sw.per l (i + 1))) := by
          rw [← hxs, List.getElem?_take_of_lt hil, List.getElem?_map, stL_get (by omega)] at hi
          exact (Option.some.inj hi).symm
        subst ex
        have lf : ((Sw.ofF (i + 1) (Sw.hgt (Sw.per l))).map V.int).length = i + 1 := by rw [List.length_map, Sw.ofF_len]
        refine ⟨.ref p, rfl, .inl ⟨rfl, _, SqL.of ep⟩, _, rfl, 1, rfl, p, _, -1, .int (Sw.hgt (Sw.per l) i), rfl, rfl, SqL.of ep, at_lastV lf ?_, _, rfl, _, _, rfl, rfl, p, _, _, rfl, rfl, ep, ?_, ?_⟩
        · rw [List.getElem?_map, Sw.ofF_get _ (Nat.lt_succ_self i)]
          rfl
        · rw [lf, sizeLine_eq]
          omega
        · refine ⟨_, rfl, fun b o e => ?_, ?_, ?_⟩
          · rw [upd_ne (ne_of_none e npH)]
            exact sm _ _ e
          · rw [upd_ne ncp]
            exact ec
          · rw [upd_same]
            show some (HO.lst (_ ++ [V.int (Sw.hgt (Sw.per l) i + Sw.stp (Sw.per l i) (Sw.per l (i + 1)))])) = _
            rw [Sw.hts_next ok i]
            unfold Sw.ofF
            rw [List.range_succ (n := i + 1), List.map_append, List.map_append]
            rfl
      · rintro σ H' ⟨y, rfl, sm, ec, ep⟩
        refine ⟨_, rfl, qz z _ _ sm npH ?_⟩
        rw [ep, lxs, show l.length - 1 + 1 = l.length by omega]
        rfl
    · have e0 : (Sw.stL l).sum ≠ 0 := fun e => z ((Sw.sum_zero_iff ok).mp e)
      refine ⟨_, rfl, ?_⟩
      have e1 : (!decide (V.int (Sw.stL l).sum = V.int 0)) = true := by
        rw [decide_eq_false fun e => e0 (V.int.inj e)]
        rfl
      rw [e1]
      exact iteT (qn z _ s1)
end
end SwP
/-! The defs, 5: when a stand is still. -/
namespace SwP
open PySem PySem.Spec PyProof.Rows L2
/-- what quiet_after hands back -/
def QuV (l : List Nat) (v : V) : Prop := (Sw.tn l ≠ 0 ∧ v = .non) ∨ (Sw.tn l = 0 ∧ ∃ q : Nat, Sw.Qt (Sw.per l) q ∧ v = .int q)
section
variable {P : Program} {w : World} {K : PySem.W.Frag} {mg : Str → Option Value} {base : Heap}
abbrev nQ : List Str := ["text", "heights", "top", "seat", "height", "high", "found", "ways", "other"]
theorem scQ : FnScope nQ ["text"] (defScope (top 30)) := ⟨rfl, rfl, rfl, by decide +kernel, rfl, by decide +kernel, by decide +kernel⟩
def spQ : Sp := fun vs H Q _ => ∃ l, vs = [.str (tx l)] ∧ Sw.Ok l ∧ l.length ≤ 900 ∧ ∀ v H', QuV l v → Same H H' → Q v H'
/-- the high seats -/
def hiL (l : List Nat) (top : Int) : List Nat := (List.range l.length).filter fun i => decide (top - 2 ≤ Sw.hgt (Sw.per l) i)
theorem mem_hiL {l : List Nat} {top : Int} {i : Nat} : i ∈ hiL l top ↔ i < l.length ∧ top - 2 ≤ Sw.hgt (Sw.per l) i := by simp [hiL]
theorem hiL_ne {l : List Nat} (ok : Sw.Ok l) (z : Sw.tn l = 0) {top : Int} (Tp : Sw.Top (Sw.hgt (Sw.per l)) top) : hiL l top ≠ [] := by
  obtain ⟨j, hj⟩ := Tp.ex
  have hp := ok.pos
  have e := Sw.mod_of (Sw.hgt (Sw.per l)) (Sw.hgt_per ok z) j
  have h1 : 0 ≤ j % l.length := Int.emod_nonneg _ (by omega)
  have h2 : j % l.length < l.length := Int.emod_lt_of_pos _ (by omega)
  have : (j % l.length).toNat ∈ hiL l top := mem_hiL.mpr ⟨by omega, by rw [Int.toNat_of_nonneg h1, e]; exact hj⟩
  intro e0
  rw [e0] at this
  cases this
theorem hts_get {l : List Nat} {i : Nat} (h : i < l.length) : ((Sw.hts l).map V.int)[i]? = some (.int (Sw.hgt (Sw.per l) i)) := by
  rw [List.getElem?_map]
  unfold Sw.hts
  rw [Sw.ofF_get _ h]
  rfl
theorem hts_len (l : List Nat) : ((Sw.hts l).map V.int).length = l.length := by
  rw [List.length_map]
  exact Sw.ofF_len _ _
/-- min(abs(seat - other), len(text) - abs(seat - other)) -/
theorem ok_quiet_after (T : Txt K mg) : C8.Cal P w K mg base 6 "quiet_after" spQ [] := by
  refine cal_of T.g_quiet_after T.d_quiet_after scQ (ps := ["text"]) (fun _ _ _ _ _ _ us hl => match us, hl with | [_], _ => rfl) (fun vs H Q E h => ?_) (fun cdv A outer s H vs Q E hr h => ?_)
  · obtain ⟨l, rfl, _⟩ := h
    rfl
  · obtain ⟨l, rfl, ok, hlen, q⟩ := h
    have hp := ok.pos
    refine ⟨_, pss_cons (ps_set (i := 1) scQ.nd rfl (Or.inl rfl) (pe_f (ok_heights_of T) hr (pa_cons (pe_f0 (ok_plain_rule T) hr) (pa_cons (pv 0) pa_nil))))
      (pss_cons (ps_if (pt_cmp (pc_isN (pv 1)) rfl) (pss_one (ps_ret pe_non)) pss_nil)
      (pss_cons (ps_set (i := 2) scQ.nd rfl (Or.inr rfl) (pe_op op_mul (pe_un un_neg (pe_op op_fdiv (pe_un un_neg (pe_callB (cr_max rfl) (by rfl) T.n_max (by decide +kernel) (pa_cons (pv 1) pa_nil))) pe_int)) pe_int))
      (pss_cons (ps_setLc (i := 5) (own := [("seat", 3), ("height", 4)]) (g := gTup K 2 (gCons (gName 3) (gCons (gName 4) gNil))) rfl scQ.nd rfl rfl (sw_true rfl rfl rfl (by decide +kernel))
        (pi_enum (by rfl) T.n_enumerate (pa_cons (pv 1) pa_nil)) (blkOk_by (N := nQ) (sc := defScope (top 30)) (by decide +kernel))
        (fun _ _ _ _ _ => pg_tup rfl (pgs_cons (pg_name (i := 3) scQ.nd rfl (Or.inl rfl)) (pgs_cons (pg_name (i := 4) scQ.nd rfl (Or.inl rfl)) pgs_nil)))
        (fun _ _ _ _ _ => pts_one (pt_cmpR op_ge (pv 4) (pe_op op_sub (pv 2) pe_int) (nomark _))) (fun _ _ _ _ _ => pv 3))
      (pss_cons (ps_set (i := 6) scQ.nd rfl (Or.inl rfl) pe_int)
      (pss_cons (ps_for PassesOwn.never rfl (pi_enum (by rfl) T.n_enumerate (pa_cons (pv 1) pa_nil)) (pg_tup rfl (pgs_cons (pg_name (i := 3) scQ.nd rfl (Or.inr rfl)) (pgs_cons (pg_name (i := 4) scQ.nd rfl (Or.inl rfl)) pgs_nil)))
        (pss_cons (ps_setLc (i := 7) (own := [("other", 8)]) (g := gName 8) (tt := tYes) rfl scQ.nd rfl rfl (sw_true rfl rfl rfl (by decide +kernel)) (pi_list (pv 5)) (blkOk_by (N := nQ) (sc := defScope (top 30)) (by decide +kernel))
            (fun _ _ _ _ _ => pg_name (i := 8) scQ.nd rfl (Or.inl rfl)) (fun _ _ _ _ _ => pts_nil)
            (fun _ _ _ _ _ => pe_callB (call_min2 rfl) (by rfl) T.n_min (by decide +kernel) (pa_cons (pe_callB call_abs (by rfl) T.n_abs (by decide +kernel) (pa_cons (pe_op op_sub (pv 3) (pv 8)) pa_nil))
              (pa_cons (pe_op op_sub (pe_callB call_len_str (by rfl) T.n_len boot_len (pa_cons (pv 0) pa_nil)) (pe_callB call_abs (by rfl) T.n_abs (by decide +kernel) (pa_cons (pe_op op_sub (pv 3) (pv 8)) pa_nil))) pa_nil))))
          (pss_one (ps_set (i := 6) scQ.nd rfl (Or.inl rfl) (pe_callB (call_max2 rfl) (by rfl) T.n_max (by decide +kernel) (pa_cons (pv 6) (pa_cons
            (pe_ifExp (pt_cmpR op_ge (pv 4) (pe_op op_sub (pv 2) pe_int) (nomark _)) (pe_op op_sub (pv 2) (pv 4)) (pe_op op_add (pe_callB (cr_min rfl) (by rfl) T.n_min (by decide +kernel) (pa_cons (pv 7) pa_nil)) pe_int)) pa_nil)))))))
      (pss_one (ps_ret (pv 6)))))))), ?_⟩
    refine ⟨rfl, fun a H1 s1 ra => ⟨_, rfl, a, l, rfl, ra, ok, hlen, fun nz H2 s2 => ?_, fun z H2 D s2 nD hD => ?_⟩⟩
    · -- None
      refine ⟨_, rfl, _, rfl, ?_⟩
      exact iteT (q _ _ (.inl ⟨nz, rfl⟩) (s1.trans s2))
    · refine ⟨_, rfl, _, rfl, iteF ?_⟩
      have sH2 := s1.trans s2
      have hS : SqL K H2 D ((Sw.hts l).map V.int) := SqL.of hD
      refine ⟨_, rfl, D, Sw.hts l, rfl, hS, by unfold Sw.hts; rw [Sw.ofF_len]; exact hp, fun m hm hle => ?_⟩
      have Tp := Sw.top_is ok z hm hle
      refine ⟨m, rfl, _, _, rfl, rfl, ⟨by decide, by decide⟩, _, rfl, _, _, rfl, rfl, .inr ⟨by decide, by decide⟩, ?_⟩
      show gName 2 (V.int (Sw.topOf m)) _ _ _
      generalize Sw.topOf m = top at Tp
      -- high
      refine ⟨.ref D, rfl, D, _, rfl, hS, fun D1 hD1 => ?_⟩
      refine lc_same (walk_enum (K := K) (a := D) (xs := (Sw.hts l).map V.int)) (fun i => decide (top - 2 ≤ Sw.hgt (Sw.per l) i)) (fun i => .int (i : Nat)) hD1 (by rw [hts_len]; omega) (fun H3 s3 => s3.seq hS) ?_ ?_
      · rintro i x H3 H4 Kc Ke hi s3 ⟨Tq, x1, y1, rfl, hT, rfl, e1, e2⟩ k1 k2
        rw [hts_len] at hi
        obtain rfl : V.int (i : Nat) = x1 := Option.some.inj e1
        obtain rfl : V.int (Sw.hgt (Sw.per l) i) = y1 := Option.some.inj ((hts_get hi).symm.trans e2)
        have s4 : Same H3 (upd H3 Tq (.tup [.int (i : Nat), .int (Sw.hgt (Sw.per l) i)])) := same_new hT
        refine ⟨Tq, _, rfl, SqT.of upd_same, rfl, _, _, rfl, _, _, rfl, rfl, ?_⟩
        refine ⟨rfl, ?_⟩
        refine ⟨_, rfl, _, rfl, _, _, rfl, rfl, _, _, rfl, rfl, _, rfl, ite2 (fun c => ?_) (fun c => ?_)⟩
        · exact ⟨_, rfl, k1 c _ s4⟩
        · exact k2 (by simpa using c) _ s4
      · intro H3 s3 e3
        rw [hts_len] at e3
        have e3' : H3 D1 = some (.lst ((hiL l top).map fun i => V.int (i : Nat))) := e3
        refine ⟨.ref D, rfl, D, _, rfl, s3.seq hS, ?_⟩
        have sH3 := sH2.trans s3
        refine for_it (walk_enum (K := K) (a := D) (xs := (Sw.hts l).map V.int)) (fun k σ H' => ∃ s3 s4 s7, ∃ f : Int, σ = [some (.str (tx l)), some (.ref D), some (.int top), s3, s4, some (.ref D1), some (.int f), s7, none] ∧ Same H3 H' ∧ 0 ≤ f ∧
          ∀ t : Nat, f ≤ t ↔ ∀ j : Nat, j < k → Sw.hit (Sw.per l) (Sw.hgt (Sw.per l)) t j = top) ⟨none, none, none, 0, rfl, Same.refl _, Int.le_refl _, fun t => ⟨fun _ j hj => absurd hj (Nat.not_lt_zero _), fun _ => by omega⟩⟩ (fun k σ H' _ hh => ?_) ?_ ?_
        · obtain ⟨_, _, _, _, _, sm, _⟩ := hh
          exact sm.seq (s3.seq hS)
        · rintro k x σ H4 H5 hk ⟨u3, u4, u7, f, rfl, sm, f0, hf⟩ ⟨Tq, x1, y1, rfl, hT, rfl, e1, e2⟩
          rw [hts_len] at hk
          obtain rfl : V.int (k : Nat) = x1 := Option.some.inj e1
          obtain rfl : V.int (Sw.hgt (Sw.per l) k) = y1 := Option.some.inj ((hts_get hk).symm.trans e2)
          have s5 : Same H4 (upd H4 Tq (.tup [.int (k : Nat), .int (Sw.hgt (Sw.per l) k)])) := same_new hT
          refine ⟨Tq, _, rfl, SqT.of upd_same, rfl, _, _, rfl, _, _, rfl, rfl, ?_⟩
          have eD1 := s5 _ _ (sm _ _ e3')
          generalize upd H4 Tq (.tup [.int (k : Nat), .int (Sw.hgt (Sw.per l) k)]) = H6 at s5 eD1
          refine ⟨.ref D1, rfl, D1, rfl, ⟨_, SqL.of eD1⟩, fun D2 hD2 => ?_⟩
          refine lc_same (walk_list (K := K) (a := D1) (xs := (hiL l top).map fun i => V.int (i : Nat))) (fun _ => true) (fun i => .int (Sw.cd l.length k ((hiL l top).getD i 0))) hD2 ?_ (fun H7 s7 => s7.seq (SqL.of eD1)) ?_ ?_
          · rw [List.length_map]
            refine Nat.le_trans (List.length_filter_le _ _) ?_
            rw [List.length_range]
            omega
          · rintro i x H7 H8 Kc Ke hi s7 ⟨rfl, ex⟩ k1 k2
            rw [List.length_map] at hi
            rw [List.getElem?_map, getD_some hi] at ex
            cases Option.some.inj ex
            refine ⟨rfl, yesT ?_⟩
            refine ⟨_, rfl, _, rfl, _, _, rfl, rfl, _, rfl, ?_⟩
            refine ⟨_, rfl, tx l, rfl, tx_line (by omega), _, rfl, _, rfl, _, _, rfl, rfl, _, rfl, _, _, rfl, rfl, _, _, rfl, ?_⟩
            rw [tx_len]
            exact k1 rfl _ (Same.refl _)
          · intro H7 s7 e7
            rw [keep_all, List.length_map] at e7
            have ew : H7 D2 = some (.lst (((hiL l top).map fun (j : Nat) => Sw.cd l.length k j).map V.int)) := by
              rw [e7]
              congr 2
              apply List.ext_getElem?
              intro i
              rw [List.map_map, List.getElem?_map, List.getElem?_map]
              by_cases c : i < (hiL l top).length
              · rw [List.getElem?_range c, getD_some c]
                rfl
              · rw [List.getElem?_eq_none (by rw [List.length_range]; omega), List.getElem?_eq_none (by omega)]
                rfl
            have sm7 : Same H3 H7 := (sm.trans s5).trans s7
            -- the new value
            have fin : ∀ v : Int, (∀ t : Nat, v ≤ t ↔ Sw.hit (Sw.per l) (Sw.hgt (Sw.per l)) t k = top) → (0 ≤ (if v > f then v else f)) ∧
                ∀ t : Nat, (if v > f then v else f) ≤ t ↔ ∀ j : Nat, j < k + 1 → Sw.hit (Sw.per l) (Sw.hgt (Sw.per l)) t j = top := fun v hv => by
              refine ⟨by split <;> omega, fun t => ?_⟩
              have a := hv t
              have b := hf t
              constructor
              · intro c j hj
                by_cases d : j < k
                · exact b.mp (by split at c <;> omega) j d
                · rw [show j = k by omega]
                  exact a.mp (by split at c <;> omega)
              · intro c
                have c1 := a.mpr (c k (Nat.lt_succ_self k))
                have c2 := b.mpr fun j hj => c j (by omega)
                split <;> omega
            refine ⟨_, rfl, ?_⟩
            refine ⟨_, rfl, _, rfl, _, _, rfl, rfl, _, _, rfl, rfl, _, rfl, ite2 (fun c => ?_) (fun c => ?_)⟩
            · have c' : top - 2 ≤ Sw.hgt (Sw.per l) k := of_decide_eq_true c
              obtain ⟨g1, g2⟩ := fin (top - Sw.hgt (Sw.per l) k) (Sw.high_iff ok z Tp c')
              exact ⟨_, rfl, _, rfl, _, _, rfl, rfl, _, _, rfl, some (.int (k : Nat)), some (.int (Sw.hgt (Sw.per l) k)), some (.ref D2), _, rfl, sm7, g1, g2⟩
            · have c' : Sw.hgt (Sw.per l) k < top - 2 := by
                have : ¬ (top - 2 ≤ Sw.hgt (Sw.per l) k) := fun y => c (decide_eq_true y)
                omega
              have hne := hiL_ne ok z Tp
              refine ⟨_, rfl, D2, _, rfl, SqL.of ew, by rw [List.length_map]; exact List.length_pos_iff.mpr hne, fun mn hmn hmle => ?_⟩
              obtain ⟨g1, g2⟩ := fin (mn + 2) (Sw.low_iff ok z Tp hk c' (by
                obtain ⟨j, hj, ej⟩ := List.mem_map.mp hmn
                obtain ⟨j1, j2⟩ := mem_hiL.mp hj
                exact ⟨j, j1, j2, ej.symm⟩) (fun j j1 j2 => hmle _ (List.mem_map.mpr ⟨j, mem_hiL.mpr ⟨j1, j2⟩, rfl⟩)))
              exact ⟨_, _, rfl, rfl, _, _, rfl, some (.int (k : Nat)), some (.int (Sw.hgt (Sw.per l) k)), some (.ref D2), _, rfl, sm7, g1, g2⟩
        · rintro σ H' ⟨u3, u4, u7, f, rfl, sm, f0, hf⟩
          refine ⟨_, rfl, q _ _ (.inr ⟨z, f.toNat, ?_, ?_⟩) (sH3.trans sm)⟩
          · rw [hts_len] at hf
            exact Sw.quiet_is ok z Tp f0 hf
          · rw [Int.toNat_of_nonneg f0]
end
end SwP
/-! The defs, 6: moving, ends, late stands. -/
namespace SwP
open PySem PySem.Spec PyProof.Rows L2
/-- what moving_from hands back -/
def MoV (l : List Nat) (v : V) : Prop := (Sw.tn l = 0 ∧ v = .non) ∨ (Sw.tn l ≠ 0 ∧ ∃ m : Nat, Sw.Mt (Sw.pc l) (Sw.per l) m ∧ v = .int m)
section
variable {P : Program} {w : World} {K : PySem.W.Frag} {mg : Str → Option Value} {base : Heap}
theorem dec_int (a b : Int) : decide (V.int a = V.int b) = decide (a = b) := by
  by_cases c : a = b
  · rw [c, decide_eq_true rfl, decide_eq_true rfl]
  · rw [decide_eq_false c, decide_eq_false fun e => c (V.int.inj e)]
theorem dec_tx (a b : List Nat) : decide (V.str (tx a) = V.str (tx b)) = decide (a = b) := by
  by_cases c : a = b
  · rw [c, decide_eq_true rfl, decide_eq_true rfl]
  · rw [decide_eq_false c, decide_eq_false fun e => c (tx_inj (V.str.inj e))]
theorem scPace : FnScope ["text", "number"] ["text"] (defScope (top 31)) := ⟨rfl, rfl, rfl, by decide +kernel, rfl, by decide +kernel, by decide +kernel⟩
def spPace : Sp := fun vs H Q _ => ∃ l, vs = [.str (tx l)] ∧ Sw.Ok l ∧ l.length ≤ 900 ∧ ∀ H', Same H H' → Q (.int (Sw.pc l)) H'
theorem ok_pace_of (T : Txt K mg) : C8.Cal P w K mg base 6 "pace_of" spPace [] := by
  refine cal_of T.g_pace_of T.d_pace_of scPace (ps := ["text"]) (fun _ _ _ _ _ _ us hl => match us, hl with | [_], _ => rfl) (fun vs H Q E h => ?_) (fun cdv A outer s H vs Q E hr h => ?_)
  · obtain ⟨l, rfl, _⟩ := h
    rfl
  · obtain ⟨l, rfl, ok, hlen, q⟩ := h
    refine ⟨_, pss_cons (ps_set (i := 1) scPace.nd rfl (Or.inl rfl) (pe_f (ok_turning_number T) hr (pa_cons (pe_f0 (ok_plain_rule T) hr) (pa_cons (pv 0) pa_nil))))
      (pss_one (ps_ret (pe_ifExp (pt_cmpR op_eq (pv 1) pe_int (nomark _)) pe_int (pe_ifExp (pt_cmpR op_gt (pv 1) pe_int (nomark _)) (pe_un un_neg pe_int) pe_int)))), ?_⟩
    refine ⟨rfl, fun a H1 s1 ra => ⟨_, rfl, a, l, rfl, ra, ok, hlen, fun H2 s2 => ?_⟩⟩
    refine ⟨_, rfl, rfl, _, rfl, ?_⟩
    have fin := q H2 (s1.trans s2)
    unfold Sw.pc at fin
    rw [dec_int]
    by_cases c : Sw.tn l = 0
    · rw [if_pos c] at fin
      rw [decide_eq_true c]
      exact iteT fin
    · rw [if_neg c] at fin
      rw [decide_eq_false c]
      refine iteF ⟨_, rfl, _, _, rfl, rfl, _, rfl, ?_⟩
      by_cases d : 0 < Sw.tn l
      · rw [if_pos d] at fin
        rw [decide_eq_true d]
        exact iteT ⟨1, rfl, fin⟩
      · rw [if_neg d] at fin
        rw [decide_eq_false d]
        exact iteF fin
theorem scMov : FnScope ["text", "pace", "found"] ["text"] (defScope (top 32)) := ⟨rfl, rfl, rfl, by decide +kernel, rfl, by decide +kernel, by decide +kernel⟩
def spMov : Sp := fun vs H Q _ => ∃ l, vs = [.str (tx l)] ∧ Sw.Ok l ∧ l.length ≤ 900 ∧ ∀ v H', MoV l v → Same H H' → Q v H'
theorem ok_moving_from (T : Txt K mg) : C8.Cal P w K mg base 7 "moving_from" spMov [] := by
  refine cal_of T.g_moving_from T.d_moving_from scMov (ps := ["text"]) (fun _ _ _ _ _ _ us hl => match us, hl with | [_], _ => rfl) (fun vs H Q E h => ?_) (fun cdv A outer s H vs Q E hr h => ?_)
  · obtain ⟨l, rfl, _⟩ := h
    rfl
  · obtain ⟨l, rfl, ok, hlen, q⟩ := h
    refine ⟨_, pss_cons (ps_par (i := 1) (j := 2) (by rfl) scMov.nd rfl rfl (by decide) rfl rfl (pa_cons (pe_f (ok_pace_of T) hr (pa_cons (pv 0) pa_nil)) (pa_cons pe_int pa_nil)) (by rfl))
      (pss_cons (ps_if (pt_cmpR op_eq (pv 1) pe_int (nomark _)) (pss_one (ps_ret pe_non)) pss_nil)
      (pss_cons (ps_while PassesOwn.never (pt_cmpR op_ne (pe_ring T hr (pe_f0 (ok_plain_rule T) hr) (pa_cons (pv 0) pa_nil)) (pe_f (ok_turned_by T) hr (pa_cons (pv 0) (pa_cons (pv 1) pa_nil))) (nomark _))
        (pss_one (ps_par (i := 0) (j := 2) (by rfl) scMov.nd rfl rfl (by decide) rfl rfl (pa_cons (pe_ring T hr (pe_f0 (ok_plain_rule T) hr) (pa_cons (pv 0) pa_nil)) (pa_cons (pe_op op_add (pv 2) pe_int) pa_nil)) (by rfl))))
      (pss_one (ps_ret (pv 2))))), ?_⟩
    refine ⟨_, rfl, l, rfl, ok, hlen, fun H1 s1 => ⟨_, _, rfl, _, rfl, rfl, _, rfl, ?_⟩⟩
    have pc0 : Sw.pc l = 0 ↔ Sw.tn l = 0 := by
      unfold Sw.pc
      constructor
      · intro c
        split at c
        · assumption
        · split at c <;> omega
      · intro c
        rw [if_pos c]
    rw [dec_int]
    by_cases z : Sw.tn l = 0
    · rw [decide_eq_true (pc0.mpr z)]
      exact iteT (q _ _ (.inl ⟨z, rfl⟩) s1)
    · rw [decide_eq_false fun c => z (pc0.mp c)]
      refine iteF ?_
      -- the loop
      refine ⟨fun m σ H' => ∃ k, m = l.length + 2 - k ∧ k ≤ l.length + 2 ∧ σ = [some (.str (tx (Sw.rn k l))), some (.int (Sw.pc l)), some (.int (k : Nat))] ∧ Same H H' ∧ ∀ j, j < k → ¬ Sw.Mv (Sw.pc l) (Sw.it j (Sw.per l)),
        ⟨_, 0, rfl, Nat.zero_le _, by rw [Sw.rn_zero]; rfl, s1, fun j hj => absurd hj (Nat.not_lt_zero j)⟩, ?_⟩
      rintro m σ H2 ⟨k, rfl, hk, rfl, sm, no⟩
      have okk := Sw.rn_ok ok k
      have lenk : (Sw.rn k l).length ≤ 900 := by rw [Sw.rn_len]; exact hlen
      refine ⟨rfl, fun a H3 s3 ra => ?_⟩
      obtain ⟨dx, hs⟩ := ra.slt
      refine ⟨a, dx, _, rfl, hs, _, rfl, a, _, rfl, ra, okk, lenk, fun H4 s4 => ?_⟩
      refine ⟨_, rfl, _, rfl, _, _, rfl, okk, lenk, rfl, _, rfl, ?_⟩
      rw [dec_tx]
      by_cases e : Sw.ring (Sw.rn k l) = Sw.turn (Sw.pc l) (Sw.rn k l)
      · rw [decide_eq_true e]
        refine iteF ?_
        exact ⟨_, rfl, q _ _ (.inr ⟨z, k, Sw.mt_of ((Sw.mv_list ok _ k).mpr e) no, rfl⟩) ((sm.trans s3).trans s4)⟩
      · rw [decide_eq_false e]
        refine iteT ?_
        have nk : ¬ Sw.Mv (Sw.pc l) (Sw.it k (Sw.per l)) := fun c => e ((Sw.mv_list ok _ k).mp c)
        have hk2 : k < l.length + 2 := by
          rcases Nat.lt_or_ge k (l.length + 2) with c | c
          · exact c
          · have : k = l.length + 2 := by omega
            rw [this] at nk
            exact absurd (Sw.mv_ex ok z) nk
        refine ⟨fun σ' H' => σ' = [some (.str (tx (Sw.rn (k + 1) l))), some (.int (Sw.pc l)), some (.int ((k + 1 : Nat) : Int))] ∧ Same H H', ?_, ?_⟩
        · rintro σ' H' ⟨rfl, s9⟩
          refine ⟨l.length + 2 - (k + 1), by omega, k + 1, rfl, by omega, rfl, s9, fun j hj => ?_⟩
          by_cases c : j < k
          · exact no j c
          · rw [show j = k by omega]
            exact nk
        · refine ⟨rfl, fun a2 H5 s5 ra2 => ?_⟩
          obtain ⟨dx2, hs2⟩ := ra2.slt
          refine ⟨a2, dx2, _, rfl, hs2, _, rfl, a2, _, rfl, ra2, okk, lenk, fun H6 s6 => ?_⟩
          refine ⟨_, rfl, _, _, rfl, rfl, _, _, rfl, ?_, (((sm.trans s3).trans s4).trans s5).trans s6⟩
          rw [Sw.rn_succ ok k]
          rfl
end
end SwP
/-! The defs, 7: ends, late stands, who stood last; runs. -/
namespace SwP
open PySem PySem.Spec PyProof.Rows L2
section
variable {P : Program} {w : World} {K : PySem.W.Frag} {mg : Str → Option Value} {base : Heap}
theorem QuV.en {l : List Nat} {v : V} (h : QuV l v) (z : Sw.tn l = 0) : ∃ e : Nat, Sw.En l e ∧ v = .int e := by
  rcases h with ⟨c, _⟩ | ⟨_, q, hq, rfl⟩
  · exact absurd z c
  · exact ⟨q, ⟨fun _ => hq, fun c => absurd z c⟩, rfl⟩
theorem MoV.en {l : List Nat} {v : V} (h : MoV l v) (z : Sw.tn l ≠ 0) : ∃ e : Nat, Sw.En l e ∧ v = .int e := by
  rcases h with ⟨c, _⟩ | ⟨_, q, hq, rfl⟩
  · exact absurd c z
  · exact ⟨q, ⟨fun c => absurd c z, fun _ => hq⟩, rfl⟩
theorem scEnd : FnScope ["text", "number"] ["text"] (defScope (top 33)) := ⟨rfl, rfl, rfl, by decide +kernel, rfl, by decide +kernel, by decide +kernel⟩
def spEnd : Sp := fun vs H Q _ => ∃ l, vs = [.str (tx l)] ∧ Sw.Ok l ∧ l.length ≤ 900 ∧ ∀ (e : Nat) H' p, Sw.En l e → Same H H' → H p = none → H' p = some (.tup [.int (Sw.tn l), .int e]) → Q (.ref p) H'
theorem ok_end_of (T : Txt K mg) : C8.Cal P w K mg base 8 "end_of" spEnd [] := by
  refine cal_of T.g_end_of T.d_end_of scEnd (ps := ["text"]) (fun _ _ _ _ _ _ us hl => match us, hl with | [_], _ => rfl) (fun vs H Q E h => ?_) (fun cdv A outer s H vs Q E hr h => ?_)
  · obtain ⟨l, rfl, _⟩ := h
    rfl
  · obtain ⟨l, rfl, ok, hlen, q⟩ := h
    refine ⟨_, pss_cons (ps_set (i := 1) scEnd.nd rfl (Or.inl rfl) (pe_f (ok_turning_number T) hr (pa_cons (pe_f0 (ok_plain_rule T) hr) (pa_cons (pv 0) pa_nil))))
      (pss_one (ps_ret (pe_tup (pa_cons (pv 1) (pa_cons (pe_ifExp (pt_cmpR op_eq (pv 1) pe_int (nomark _)) (pe_f (ok_quiet_after T) hr (pa_cons (pv 0) pa_nil)) (pe_f (ok_moving_from T) hr (pa_cons (pv 0) pa_nil))) pa_nil))))), ?_⟩
    refine ⟨rfl, fun a H1 s1 ra => ⟨_, rfl, a, l, rfl, ra, ok, hlen, fun H2 s2 => ?_⟩⟩
    refine ⟨_, rfl, _, rfl, rfl, _, rfl, ?_⟩
    rw [dec_int]
    have s12 := s1.trans s2
    have two : (2 : Nat) ≤ sizeLine := by rw [sizeLine_eq]; decide
    by_cases z : Sw.tn l = 0
    · rw [decide_eq_true z]
      refine iteT ⟨_, rfl, l, rfl, ok, hlen, fun v H3 hv s3 => ⟨two, fun p hp => ?_⟩⟩
      obtain ⟨e, E, rfl⟩ := hv.en z
      exact q e _ p E (same_last (s12.trans s3) hp) ((s12.trans s3).free hp) upd_same
    · rw [decide_eq_false z]
      refine iteF ⟨_, rfl, l, rfl, ok, hlen, fun v H3 hv s3 => ⟨two, fun p hp => ?_⟩⟩
      obtain ⟨e, E, rfl⟩ := hv.en z
      exact q e _ p E (same_last (s12.trans s3) hp) ((s12.trans s3).free hp) upd_same
theorem scLate : FnScope ["text", "many", "early"] ["text", "many"] (defScope (top 34)) := ⟨rfl, rfl, rfl, by decide +kernel, rfl, by decide +kernel, by decide +kernel⟩
def spLate : Sp := fun vs H Q _ => ∃ l, ∃ m : Nat, vs = [.str (tx l), .int m] ∧ Sw.Ok l ∧ l.length ≤ 900 ∧ ∀ H', Same H H' → Q (.str (tx (Sw.rn m l))) H'
theorem pc_bd (l : List Nat) : -1 ≤ Sw.pc l ∧ Sw.pc l ≤ 1 := by
  unfold Sw.pc
  split
  · omega
  · split <;> omega
theorem ok_late_stand (T : Txt K mg) : C8.Cal P w K mg base 9 "late_stand" spLate [] := by
  refine cal_of T.g_late_stand T.d_late_stand scLate (ps := ["text", "many"]) (fun _ _ _ _ _ _ us hl => match us, hl with | [_, _], _ => rfl) (fun vs H Q E h => ?_) (fun cdv A outer s H vs Q E hr h => ?_)
  · obtain ⟨l, m, rfl, _⟩ := h
    rfl
  · obtain ⟨l, m, rfl, ok, hlen, q⟩ := h
    refine ⟨_, pss_cons (ps_set (i := 2) scLate.nd rfl (Or.inl rfl) (pe_callB (call_min2 rfl) (by rfl) T.n_min (by decide +kernel) (pa_cons (pv 1) (pa_cons (pe_ix ix_tup (pe_f (ok_end_of T) hr (pa_cons (pv 0) pa_nil)) pe_int (fun _ _ => rfl)) pa_nil))))
      (pss_one (ps_ret (pe_f (ok_turned_by T) hr (pa_cons (pe_f (ok_after T) hr (pa_cons (pe_f0 (ok_plain_rule T) hr) (pa_cons (pv 0) (pa_cons (pv 2) pa_nil))))
        (pa_cons (pe_op op_mul (pe_f (ok_pace_of T) hr (pa_cons (pv 0) pa_nil)) (pe_op op_sub (pv 1) (pv 2))) pa_nil))))), ?_⟩
    refine ⟨_, rfl, _, rfl, l, rfl, ok, hlen, fun e H1 p E s1 np hp => ?_⟩
    refine ⟨p, _, 1, .int e, rfl, rfl, SqT.of hp, rfl, _, _, rfl, ?_⟩
    have em : (if (e : Int) < (m : Int) then (e : Int) else (m : Int)) = ((min m e : Nat) : Int) := by
      split <;> omega
    show gName 2 (V.int (if (e : Int) < (m : Int) then (e : Int) else (m : Int))) _ _ _
    rw [em]
    have hle := E.le ok
    have hme : min m e ≤ 1000000 := by
      have := Nat.min_le_right m e
      omega
    refine ⟨rfl, fun a H2 s2 ra => ⟨_, rfl, _, rfl, a, l, min m e, rfl, ra, ok, hlen, hme, fun H3 s3 => ?_⟩⟩
    refine ⟨_, rfl, l, rfl, ok, hlen, fun H4 s4 => ⟨_, rfl, _, rfl, _, _, rfl, rfl, _, _, rfl, rfl, .inl ?_, ?_⟩⟩
    · have := pc_bd l
      constructor <;> omega
    · refine ⟨Sw.rn (min m e) l, _, rfl, Sw.rn_ok ok _, by rw [Sw.rn_len]; exact hlen, ?_⟩
      show Q (.str (tx (Sw.turn (Sw.pc l * ((m : Int) - ((min m e : Nat) : Int))) (Sw.rn (min m e) l)))) H4
      rw [Sw.late_eq ok E]
      exact q _ (((s1.trans s2).trans s3).trans s4)
abbrev nL : List Str := ["text", "number", "late", "found", "many", "stand", "seat", "sign"]
theorem scLast : FnScope nL ["text"] (defScope (top 35)) := ⟨rfl, rfl, rfl, by decide +kernel, rfl, by decide +kernel, by decide +kernel⟩
def spLast : Sp := fun vs H Q _ => ∃ l, vs = [.str (tx l)] ∧ Sw.Ok l ∧ l.length ≤ 900 ∧ Sw.tn l = 0 ∧ ∀ (e : Nat) H' p, Sw.En l e → Same H H' → H p = none → H' p = some (.lst ((Sw.lastL l (e + 1)).map fun (i : Nat) => .int i)) → Q (.ref p) H'
theorem one_in (l : List Nat) : decide (49 ∈ (tx l).cps.toList) = decide (1 ∈ l) := by
  by_cases c : 1 ∈ l
  · rw [decide_eq_true c]
    exact decide_eq_true (by rw [tx_tl]; exact List.mem_map.mpr ⟨1, c, rfl⟩)
  · rw [decide_eq_false c]
    refine decide_eq_false fun h => c ?_
    rw [tx_tl] at h
    obtain ⟨d, hd, e⟩ := List.mem_map.mp h
    have : d = 1 := by omega
    rw [← this]
    exact hd
theorem ok_last_standing (T : Txt K mg) : C8.Cal P w K mg base 9 "last_standing" spLast [] := by
  refine cal_of T.g_last_standing T.d_last_standing scLast (ps := ["text"]) (fun _ _ _ _ _ _ us hl => match us, hl with | [_], _ => rfl) (fun vs H Q E h => ?_) (fun cdv A outer s H vs Q E hr h => ?_)
  · obtain ⟨l, rfl, _⟩ := h
    rfl
  · obtain ⟨l, rfl, ok, hlen, z, q⟩ := h
    refine ⟨_, pss_cons (ps_asg (pe_f (ok_end_of T) hr (pa_cons (pv 0) pa_nil)) (pg_tup (by rfl) (pgs_cons (pg_name (i := 1) scLast.nd rfl (Or.inl rfl)) (pgs_cons (pg_name (i := 2) scLast.nd rfl (Or.inl rfl)) pgs_nil))))
      (pss_cons (ps_if (pt_cmpR op_ne (pv 1) pe_int (nomark _)) pss_never pss_nil)
      (pss_cons (ps_set (i := 3) scLast.nd rfl (Or.inl rfl) (pe_lst pa_nil))
      (pss_cons (ps_for PassesOwn.never rfl (pi_range1 (by rfl) T.n_range (pa_cons (pe_op op_add (pv 2) pe_int) pa_nil)) (pg_name (i := 4) scLast.nd rfl (Or.inl rfl))
        (pss_cons (ps_set (i := 5) scLast.nd rfl (Or.inl rfl) (pe_f (ok_after T) hr (pa_cons (pe_f0 (ok_plain_rule T) hr) (pa_cons (pv 0) (pa_cons (pv 4) pa_nil)))))
        (pss_one (ps_if (pt_cmpR op_in_sign pe_str (pv 5) (by rfl))
          (pss_one (ps_setLc (i := 3) (own := [("seat", 6), ("sign", 7)]) (g := gTup K 2 (gCons (gName 6) (gCons (gName 7) gNil))) rfl scLast.nd rfl rfl (sw_true rfl rfl rfl (by decide +kernel))
            (SwR.pi_enumS (by rfl) T.n_enumerate (pa_cons (pv 5) pa_nil)) (blkOk_by (N := nL) (sc := defScope (top 35)) (by decide +kernel))
            (fun _ _ _ _ _ => pg_tup rfl (pgs_cons (pg_name (i := 6) scLast.nd rfl (Or.inl rfl)) (pgs_cons (pg_name (i := 7) scLast.nd rfl (Or.inl rfl)) pgs_nil)))
            (fun _ _ _ _ _ => pts_one (pt_cmpR op_eq (pv 7) pe_str (nomark _))) (fun _ _ _ _ _ => pv 6))) pss_nil))))
      (pss_one (ps_ret (pv 3)))))), ?_⟩
    refine ⟨_, rfl, l, rfl, ok, hlen, fun e H1 p E s1 np hp => ?_⟩
    refine ⟨p, _, rfl, SqT.of hp, rfl, _, _, rfl, _, _, rfl, rfl, ?_⟩
    refine ⟨_, rfl, rfl, _, rfl, ?_⟩
    rw [dec_int, decide_eq_true z]
    refine iteF ?_
    refine ⟨Nat.zero_le _, fun f0 nf0 => ?_⟩
    have hle := E.le ok
    refine ⟨_, rfl, _, _, rfl, rfl, _, rfl, by omega, by omega, ?_⟩
    rw [show ((e : Int) + 1).toNat = e + 1 by omega]
    refine for_range (lo := 0) (n := e + 1) (fun i σ H' => ∃ f s4 s5, σ = [some (.str (tx l)), some (.int (Sw.tn l)), some (.int e), some (.ref f), s4, s5, none, none] ∧ Same H H' ∧ H f = none ∧ H' f = some (.lst ((Sw.lastL l i).map fun (i : Nat) => .int i)))
      ⟨f0, none, none, rfl, same_last s1 nf0, s1.free nf0, upd_same⟩ ?_ ?_
    · rintro i σ H2 hi ⟨f, s4, s5, rfl, sm, nf, ef⟩
      refine ⟨rfl, fun a H3 s3 ra => ⟨_, rfl, _, rfl, a, l, i, by rw [Int.zero_add]; rfl, ra, ok, hlen, by omega, fun H4 s4' => ?_⟩⟩
      have sm4 := (sm.trans s3).trans s4'
      refine ⟨_, rfl, 49, tx (Sw.rn i l), by rw [show ("1" : Str) = ⟨#[49]⟩ by decide +kernel], rfl, _, rfl, ?_⟩
      rw [one_in]
      have hr3 := Sw.rn_ok ok i
      by_cases c : 1 ∈ Sw.rn i l
      · rw [decide_eq_true c]
        refine iteT ⟨_, rfl, tx (Sw.rn i l), rfl, fun D hD => ?_⟩
        refine lc_same SwR.walk_pairs (fun j => decide (Sw.per (Sw.rn i l) j = 1)) (fun j => .int (j : Nat)) hD (by rw [tx_size, Sw.rn_len]; omega) (fun _ _ => trivial) ?_ ?_
        · rintro j x H5 H6 Kc Ke hj s5' ⟨Tp, x1, y1, rfl, hT, rfl, rfl, ⟨c1, hc1, rfl⟩⟩ k1 k2
          obtain ⟨d, hd, rfl⟩ := tx_gets hc1
          have hjl : j < (Sw.rn i l).length := by rw [tx_size] at hj; exact hj
          have ed : d = Sw.per (Sw.rn i l) j := Option.some.inj (hd.symm.trans (Sw.per_nat hjl))
          have s6 : Same H5 (upd H5 Tp (.tup [.int (j : Nat), .str (tx [d])])) := same_new hT
          refine ⟨Tp, _, rfl, SqT.of upd_same, rfl, _, _, rfl, _, _, rfl, rfl, ?_⟩
          refine ⟨rfl, ?_⟩
          refine ⟨_, rfl, rfl, _, rfl, ?_⟩
          rw [show (⟨#[d + 48]⟩ : Str) = tx [d] from rfl, one_tx, sig_eq, ed]
          by_cases g : Sw.per (Sw.rn i l) j = 1
          · rw [decide_eq_true g]
            exact iteT ⟨_, rfl, k1 (decide_eq_true g) _ (by rw [← ed]; exact s6)⟩
          · rw [decide_eq_false g]
            exact iteF (k2 (decide_eq_false g) _ (by rw [← ed]; exact s6))
        · intro H5 s5' e5
          refine ⟨D, some (.int (0 + (i : Int))), some (.str (tx (Sw.rn i l))), rfl, sm4.trans s5', sm4.free hD, ?_⟩
          rw [e5, tx_size]
          unfold Sw.lastL
          rw [if_pos c]
          rfl
      · rw [decide_eq_false c]
        refine iteF ⟨f, some (.int (0 + (i : Int))), some (.str (tx (Sw.rn i l))), rfl, sm4, nf, ?_⟩
        unfold Sw.lastL
        rw [if_neg c]
        exact s4' _ _ (s3 _ _ ef)
    · rintro σ H2 ⟨f, s4, s5, rfl, sm, nf, ef⟩
      exact ⟨_, rfl, q e _ f E sm nf ef⟩
end
end SwP
/-! The defs, 8: a stand's path, and when it is still by it. -/
namespace SwP
open PySem PySem.Spec PyProof.Rows L2
section
variable {P : Program} {w : World} {K : PySem.W.Frag} {mg : Str → Option Value} {base : Heap}
/-- k stands ahead of the first that came before -/
structure Path (l : List Nat) (k : Nat) : Prop where
  apart : ∀ i j : Nat, i < j → j < k → Sw.rn j l ≠ Sw.rn i l
  back : ∃ j : Nat, j < k ∧ Sw.rn k l = Sw.rn j l
def seenK (l : List Nat) (k : Nat) : List (Key × V) := (List.range k).map fun j => ((Sum.inr (tx (Sw.rn j l)) : Key), V.bl true)
theorem seen_some (l : List Nat) (k m : Nat) : (valV (seenK l k) (Sum.inr (tx (Sw.rn m l)) : Key)).isSome = decide (∃ j : Nat, j < k ∧ Sw.rn m l = Sw.rn j l) := by
  rw [← valV_any]
  unfold seenK
  rw [List.any_map]
  by_cases c : ∃ j : Nat, j < k ∧ Sw.rn m l = Sw.rn j l
  · rw [decide_eq_true c, List.any_eq_true]
    obtain ⟨j, hj, e⟩ := c
    exact ⟨j, List.mem_range.mpr hj, decide_eq_true (by show (Sum.inr (tx (Sw.rn j l)) : Key) = Sum.inr (tx (Sw.rn m l)); rw [e])⟩
  · rw [decide_eq_false c, List.any_eq_false]
    intro j hj d
    have e := of_decide_eq_true d
    exact c ⟨j, List.mem_range.mp hj, (tx_inj (Sum.inr.inj e)).symm⟩
theorem seen_put (l : List Nat) (k : Nat) (h : ¬ ∃ j : Nat, j < k ∧ Sw.rn k l = Sw.rn j l) : putK (seenK l k) (Sum.inr (tx (Sw.rn k l)) : Key) (.bl true) = seenK l (k + 1) := by
  unfold putK
  rw [valV_any, seen_some, decide_eq_false h, if_neg Bool.false_ne_true]
  unfold seenK
  rw [List.range_succ, List.map_append]
  rfl
theorem scPath : FnScope ["rule", "text", "found", "seen"] ["rule", "text"] (defScope (top 21)) := ⟨rfl, rfl, rfl, by decide +kernel, rfl, by decide +kernel, by decide +kernel⟩
def spPath (K : PySem.W.Frag) : Sp := fun vs H Q _ => ∃ a l, vs = [.ref a, .str (tx l)] ∧ RuleAt K H a ∧ Sw.Ok l ∧ l.length ≤ 900 ∧ ∀ (k : Nat) H' D, Path l k → k ≤ 2000 → Same H H' → H D = none → H' D = some (.lst ((List.range k).map fun j => .str (tx (Sw.rn j l)))) → Q (.ref D) H'
theorem ok_path_of (T : Txt K mg) : C8.Cal P w K mg base 4 "path_of" (spPath K) [] := by
  refine cal_of T.g_path_of T.d_path_of scPath (ps := ["rule", "text"]) (fun _ _ _ _ _ _ us hl => match us, hl with | [_, _], _ => rfl) (fun vs H Q E h => ?_) (fun cdv A outer s H vs Q E hr h => ?_)
  · obtain ⟨a, l, rfl, _⟩ := h
    rfl
  · obtain ⟨a, l, rfl, ra, ok, hlen, q⟩ := h
    refine ⟨_, pss_cons (ps_par (i := 2) (j := 3) (by rfl) scPath.nd rfl rfl (by decide) rfl rfl (pa_cons (pe_lst pa_nil) (pa_cons pe_dnewK pa_nil)) (by rfl))
      (pss_cons (ps_while PassesOwn.never (pt_cmp (pc_dnotin (hu_of hr) (pv 1) (pv 3)) rfl)
        (pss_cons (ps_dput (hu_of hr) (pv 3) (pv 1) pe_bl rfl)
        (pss_cons (ps_expr (pe_bm PySem.F.plainAttrs_list PySem.F.slot_list_append PySem.F.type_list_append mt_append (pv 2) (pa_cons (pv 1) pa_nil)))
        (pss_one (ps_set (i := 1) scPath.nd rfl (Or.inl rfl) (pe_ring T hr (pv 0) (pa_cons (pv 1) pa_nil)))))))
      (pss_one (ps_ret (pv 2)))), ?_⟩
    refine ⟨Nat.zero_le _, fun f nf d nd => ⟨_, _, rfl, ?_⟩⟩
    have nfd : f ≠ d := fun e => by
      rw [← e, upd_same] at nd
      cases nd
    have s1 : Same H (upd (upd H f (.lst [])) d (.dK [])) := same_last (same_new nf) nd
    have ndH : H d = none := (same_new nf).free nd
    obtain ⟨e, hle, E⟩ := Sw.en_ex ok
    refine ⟨fun m σ H' => ∃ k, m = e + l.length - k ∧ k ≤ e + l.length ∧ σ = [some (.ref a), some (.str (tx (Sw.rn k l))), some (.ref f), some (.ref d)] ∧ Same H H' ∧ H' d = some (.dK (seenK l k)) ∧ H' f = some (.lst ((List.range k).map fun j => .str (tx (Sw.rn j l)))) ∧
      ∀ i j : Nat, i < j → j < k → Sw.rn j l ≠ Sw.rn i l, ⟨_, 0, rfl, Nat.zero_le _, by rw [Sw.rn_zero]; rfl, s1, upd_same, by rw [upd_ne nfd, upd_same]; rfl, fun i j _ h => absurd h (Nat.not_lt_zero _)⟩, ?_⟩
    rintro m σ H2 ⟨k, rfl, hk, rfl, sm, ed, ef, ap⟩
    have okk := Sw.rn_ok ok k
    have lenk : (Sw.rn k l).length ≤ 900 := by rw [Sw.rn_len]; exact hlen
    refine ⟨_, rfl, _, rfl, d, _, rfl, DGet.k (k := Sum.inr (tx (Sw.rn k l))) ed, _, rfl, ?_⟩
    rw [seen_some]
    by_cases c : ∃ j : Nat, j < k ∧ Sw.rn k l = Sw.rn j l
    · rw [decide_eq_true c]
      exact iteF ⟨_, rfl, q k _ f ⟨ap, c⟩ (by omega) sm nf ef⟩
    · rw [decide_eq_false c]
      refine iteT ?_
      have hk2 : k < e + l.length := by
        rcases Nat.lt_or_ge k (e + l.length) with h | h
        · exact h
        · have ek : k = e + l.length := by omega
          have hp := ok.pos
          exact absurd ⟨e, by omega, by rw [ek]; exact Sw.again ok E⟩ c
      refine ⟨fun σ' H' => σ' = [some (.ref a), some (.str (tx (Sw.rn (k + 1) l))), some (.ref f), some (.ref d)] ∧ Same H H' ∧ H' d = some (.dK (seenK l (k + 1))) ∧ H' f = some (.lst ((List.range (k + 1)).map fun j => .str (tx (Sw.rn j l)))), ?_, ?_⟩
      · rintro σ' H' ⟨rfl, s9, e1, e2⟩
        refine ⟨e + l.length - (k + 1), by omega, k + 1, rfl, by omega, rfl, s9, e1, e2, fun i j hij hj => ?_⟩
        by_cases g : j < k
        · exact ap i j hij g
        · have ej : j = k := by omega
          rw [ej]
          intro y
          exact c ⟨i, by omega, y⟩
      · have dl : (seenK l k).length < sizeLine := by
          unfold seenK
          rw [List.length_map, List.length_range, sizeLine_eq]
          omega
        refine ⟨_, rfl, _, rfl, d, _, rfl, DPut.k (k := Sum.inr (tx (Sw.rn k l))) ed dl, ?_⟩
        rw [seen_put l k c]
        have ef2 : (upd H2 d (.dK (seenK l (k + 1)))) f = some (.lst ((List.range k).map fun j => .str (tx (Sw.rn j l)))) := by
          rw [upd_ne nfd]
          exact ef
        refine ⟨_, rfl, .inl ⟨rfl, _, SqL.of ef2⟩, _, rfl, f, _, _, rfl, rfl, ef2, ?_, ?_⟩
        · rw [List.length_map, List.length_range, sizeLine_eq]
          omega
        · have s3 : Same H (upd (upd H2 d (.dK (seenK l (k + 1)))) f (.lst ((List.range k).map (fun j => V.str (tx (Sw.rn j l))) ++ [V.str (tx (Sw.rn k l))]))) := fun b o eb => by
            rw [upd_ne (ne_of_none eb nf), upd_ne (ne_of_none eb ndH)]
            exact sm _ _ eb
          obtain ⟨dx, hs⟩ := (ra.same s3).slt
          refine ⟨_, rfl, a, dx, _, rfl, hs, _, rfl, a, _, rfl, ra.same s3, okk, lenk, fun H4 s4 => ⟨?_, s3.trans s4, s4 _ _ ?_, s4 _ _ ?_⟩⟩
          · rw [Sw.rn_succ ok k]
            rfl
          · rw [upd_ne nfd.symm, upd_same]
          · rw [upd_same, List.range_succ, List.map_append]
            rfl
theorem scSf : FnScope ["rule", "text", "many", "stand"] ["rule", "text"] (defScope (top 22)) := ⟨rfl, rfl, rfl, by decide +kernel, rfl, by decide +kernel, by decide +kernel⟩
def spSf (K : PySem.W.Frag) : Sp := fun vs H Q _ => ∃ a l, vs = [.ref a, .str (tx l)] ∧ RuleAt K H a ∧ Sw.Ok l ∧ l.length ≤ 900 ∧ ∀ v H', QuV l v → Same H H' → Q v H'
theorem ok_still_from (T : Txt K mg) : C8.Cal P w K mg base 5 "still_from" (spSf K) [] := by
  refine cal_of T.g_still_from T.d_still_from scSf (ps := ["rule", "text"]) (fun _ _ _ _ _ _ us hl => match us, hl with | [_, _], _ => rfl) (fun vs H Q E h => ?_) (fun cdv A outer s H vs Q E hr h => ?_)
  · obtain ⟨a, l, rfl, _⟩ := h
    rfl
  · obtain ⟨a, l, rfl, ra, ok, hlen, q⟩ := h
    refine ⟨_, pss_cons (ps_for PassesOwn.never rfl (pi_enum (by rfl) T.n_enumerate (pa_cons (pe_f (ok_path_of T) hr (pa_cons (pv 0) (pa_cons (pv 1) pa_nil))) pa_nil))
        (pg_tup rfl (pgs_cons (pg_name (i := 2) scSf.nd rfl (Or.inl rfl)) (pgs_cons (pg_name (i := 3) scSf.nd rfl (Or.inl rfl)) pgs_nil)))
        (pss_one (ps_if (pt_val (SlX.pe_methSl (E := C8.E0) (pv 0) T.rule.cls T.m_is_still (ok_is_still T) (hr.mono (by decide)) C8.pass0 (pa_cons (pv 3) pa_nil))) (pss_one (ps_ret (pv 2))) pss_nil)))
      (pss_one (ps_ret pe_non)), ?_⟩
    refine ⟨_, rfl, _, rfl, a, l, rfl, ra, ok, hlen, fun k H1 D pk hk s1 nD hD => ⟨D, _, rfl, SqL.of hD, ?_⟩⟩
    have len : ((List.range k).map fun j => V.str (tx (Sw.rn j l))).length = k := by rw [List.length_map, List.length_range]
    refine for_it (walk_enum (K := K) (a := D) (xs := (List.range k).map fun j => V.str (tx (Sw.rn j l)))) (fun i σ H' => ∃ s2 s3, σ = [some (.ref a), some (.str (tx l)), s2, s3] ∧ Same H1 H' ∧ ∀ j, j < i → ¬ Sw.Zero (Sw.it j (Sw.per l)))
      ⟨none, none, rfl, Same.refl _, fun j hj => absurd hj (Nat.not_lt_zero j)⟩ (fun i σ H' _ hh => ?_) ?_ ?_
    · obtain ⟨_, _, _, sm, _⟩ := hh
      exact sm.seq (SqL.of hD)
    · rintro i x σ H2 H3 hi ⟨u2, u3, rfl, sm, no⟩ ⟨Tp, x1, y1, rfl, hT, rfl, e1, e2⟩
      rw [len] at hi
      obtain rfl : V.int (i : Nat) = x1 := Option.some.inj e1
      have e3 : ((List.range k).map fun j => V.str (tx (Sw.rn j l)))[i]? = some (.str (tx (Sw.rn i l))) := by
        rw [List.getElem?_map, List.getElem?_range hi]
        rfl
      obtain rfl : V.str (tx (Sw.rn i l)) = y1 := Option.some.inj (e3.symm.trans e2)
      have s5 : Same H2 (upd H2 Tp (.tup [.int (i : Nat), .str (tx (Sw.rn i l))])) := same_new hT
      refine ⟨Tp, _, rfl, SqT.of upd_same, rfl, _, _, rfl, _, _, rfl, rfl, ?_⟩
      have s6 := (s1.trans sm).trans s5
      obtain ⟨dx, hs⟩ := (ra.same s6).slt
      refine ⟨_, rfl, a, dx, _, rfl, hs, _, rfl, a, Sw.rn i l, rfl, ra.same s6, by rw [Sw.rn_len]; exact hlen, fun b H4 hb s7 => ⟨b, rfl, ?_⟩⟩
      have hz : b = true ↔ Sw.Zero (Sw.it i (Sw.per l)) := hb.trans (Sw.zero_list ok i).symm
      cases b with
      | true =>
        have z := hz.mp rfl
        exact iteT ⟨_, rfl, q _ _ (.inr ⟨Sw.tn_zero ok z, i, Sw.qt_of z no, rfl⟩) (s6.trans s7)⟩
      | false =>
        refine iteF ⟨some (.int (i : Nat)), some (.str (tx (Sw.rn i l))), rfl, (sm.trans s5).trans s7, fun j hj => ?_⟩
        by_cases c : j < i
        · exact no j c
        · rw [show j = i by omega]
          intro z
          have := hz.mpr z
          cases this
    · rintro σ H2 ⟨u2, u3, rfl, sm, no⟩
      rw [len] at no
      refine q _ _ (.inl ⟨fun z => ?_, rfl⟩) (s1.trans sm)
      obtain ⟨qq, _, hq⟩ := Sw.qt_ex ok z
      obtain ⟨j, hj, ej⟩ := pk.back
      refine Sw.no_loop ok hq hj ?_ ej
      rcases Nat.lt_or_ge qq k with c | c
      · exact absurd ((hq qq).mp (Nat.le_refl _)) (no qq c)
      · exact c
end
end SwP
/-! The law's own defs, 1: the bag and what is drawn from it. -/
namespace SwP
open PySem PySem.Spec PyProof.Rows L2
/-- the bag at b, as it stands -/
structure BagAt (H : Hp) (b : Addr) (A B C : Int) (d : Addr) (ns : List Int) : Prop where
  at_ : H b = some (.lst [.int A, .int B, .int C, .ref d])
  ne : d ≠ b
  cells : H d = some (.lst (ns.map V.int))
  a0 : 0 ≤ A
  b0 : 0 ≤ B
  b1 : B < 2147483647
  c0 : 0 ≤ C
  n0 : ∀ x ∈ ns, 0 ≤ x
def Bag (H : Hp) (b d : Addr) (ns : List Int) : Prop := ∃ A B C, BagAt H b A B C d ns
/-- all but the bag is as it was -/
def Keep (b : Addr) (H H' : Hp) : Prop := ∀ a o, a ≠ b → H a = some o → H' a = some o
theorem Keep.refl (b : Addr) (H : Hp) : Keep b H H := fun _ _ _ h => h
theorem Keep.trans {b : Addr} {H H1 H2 : Hp} (x : Keep b H H1) (y : Keep b H1 H2) : Keep b H H2 := fun a o n h => y a o n (x a o n h)
theorem Same.keep {b : Addr} {H H' : Hp} (s : Same H H') : Keep b H H' := fun a o _ h => s a o h
theorem Keep.upd {b : Addr} {H H' : Hp} {o : HO} (k : Keep b H H') : Keep b H (upd H' b o) := fun a u n h => by
  rw [upd_ne n]
  exact k a u n h
theorem BagAt.same {H H' : Hp} {b d : Addr} {A B C : Int} {ns : List Int} (g : BagAt H b A B C d ns) (s : Same H H') : BagAt H' b A B C d ns :=
  ⟨s _ _ g.at_, g.ne, s _ _ g.cells, g.a0, g.b0, g.b1, g.c0, g.n0⟩
theorem Bag.same {H H' : Hp} {b d : Addr} {ns : List Int} (g : Bag H b d ns) (s : Same H H') : Bag H' b d ns := by
  obtain ⟨A, B, C, g⟩ := g
  exact ⟨A, B, C, g.same s⟩
theorem Bag.ne {H : Hp} {b d p : Addr} {ns : List Int} (g : Bag H b d ns) (np : H p = none) : p ≠ b := by
  obtain ⟨A, B, C, g⟩ := g
  exact (ne_of_none g.at_ np).symm
theorem Bag.ned {H : Hp} {b d p : Addr} {ns : List Int} (g : Bag H b d ns) (np : H p = none) : p ≠ d := by
  obtain ⟨A, B, C, g⟩ := g
  exact (ne_of_none g.cells np).symm
theorem Bag.upd {H : Hp} {b d p : Addr} {ns : List Int} {o : HO} (g : Bag H b d ns) (h1 : p ≠ b) (h2 : p ≠ d) : Bag (upd H p o) b d ns := by
  obtain ⟨A, B, C, g⟩ := g
  exact ⟨A, B, C, by rw [upd_ne h1.symm]; exact g.at_, g.ne, by rw [upd_ne h2.symm]; exact g.cells, g.a0, g.b0, g.b1, g.c0, g.n0⟩
theorem BagAt.put {H : Hp} {b d : Addr} {A B C A' B' C' : Int} {ns : List Int} (g : BagAt H b A B C d ns) (a0 : 0 ≤ A') (b0 : 0 ≤ B') (b1 : B' < 2147483647) (c0 : 0 ≤ C') : BagAt (upd H b (.lst [.int A', .int B', .int C', .ref d])) b A' B' C' d ns :=
  ⟨upd_same, g.ne, by rw [upd_ne g.ne]; exact g.cells, a0, b0, b1, c0, g.n0⟩
section
variable {P : Program} {w : World} {K : PySem.W.Frag} {mg : Str → Option Value} {base : Heap}
abbrev nT : List Str := ["_law_bag_here", "_law_many", "_law_cell", "_law_mixed", "_law_value", "_law_begin", "_law_second"]
theorem scTake : FnScope nT ["_law_bag_here", "_law_many"] (defScope (top 38)) := ⟨rfl, rfl, rfl, by decide +kernel, rfl, by decide +kernel, by decide +kernel⟩
def spTake : Sp := fun vs H Q _ => ∃ (b d : Addr) (ns : List Int) (m : Int), vs = [.ref b, .int m] ∧ 1 ≤ m ∧ m ≤ 1000 ∧ Bag H b d ns ∧ ∀ (v : Nat) H', (v : Int) < m → Keep b H H' → Bag H' b d ns → Q (.int v) H'
/-- _law_bag_here[i] -/
theorem bag_ix {X : Cx} {i : Nat} {p p2 p3 : Pos} {k : Nat} {j : Int} (hN : X.N[i]? = some ("_law_bag_here" : Str) := by rfl) (hv : Vis X.env.scope "_law_bag_here" := by first | exact Or.inl rfl | exact Or.inr (Or.inl rfl) | exact Or.inr (Or.inr rfl)) :
    PE X (.Subscript (.Name "_law_bag_here" p) (.Constant (.int j) k p2) p3) (tOp (rIxL X.K) (tVar i) (tC (.int j))) := pe_ix ix_list (pe_var hN hv) pe_int (fun _ _ => rfl)
theorem at_int {xs : List V} {i : Int} {v : V} (h : 0 ≤ i) (e : xs[i.toNat]? = some v) : atI xs i = some v := by
  have := atI_nat e
  rw [Int.toNat_of_nonneg h] at this
  exact this
theorem ok_take (T : Txt K mg) : C8.Cal P w K mg base 1 "_law_take" spTake [] := by
  refine cal_of T.g_l_take T.d_l_take scTake (ps := ["_law_bag_here", "_law_many"]) (fun _ _ _ _ _ _ us hl => match us, hl with | [_, _], _ => rfl) (fun vs H Q E h => ?_) (fun cdv A0 outer s H vs Q E hr h => ?_)
  · obtain ⟨b, d, ns, m, rfl, _⟩ := h
    rfl
  · obtain ⟨b, d, ns, m, rfl, m1, m2, ⟨A, B, C, g⟩, q⟩ := h
    have int1 := @call_int1
    refine ⟨_, C8.pss_cut (ps_if (pt_cmpR op_eq (pe_ix ix_list (pv 0) pe_int (fun _ _ => rfl)) pe_int (nomark _))
        (pss_cons (ps_set (i := 2) scTake.nd rfl (Or.inl rfl) pe_int)
        (C8.pss_cut (ps_if (pt_cmpR op_lt (pe_ix ix_list (pv 0) pe_int (fun _ _ => rfl)) (pe_callB call_len_seq (by rfl) T.n_len boot_len (pa_cons (pe_ix ix_list (pv 0) pe_int (fun _ _ => rfl)) pa_nil)) (nomark _))
          (pss_one (ps_set (i := 2) scTake.nd rfl (Or.inl rfl) (pe_ix ix_list (pe_ix ix_list (pv 0) pe_int (fun _ _ => rfl)) (pe_ix ix_list (pv 0) pe_int (fun _ _ => rfl)) (fun _ _ => rfl)))) pss_nil)
        (pss_cons (ps_augS (pv 0) pe_int SwR.get_list pe_int ip_add set_list)
        (C8.pss_cut (ps_if (pt_cmpR op_ge (pv 2) pe_int (nomark _)) (pss_one (ps_asg (pv 2) (pg_sub (pv 0) pe_int set_list))) pss_nil)
        (pss_cons (ps_set (i := 3) scTake.nd rfl (Or.inl rfl) (pe_op op_add (pe_op op_add (pe_op op_mul (pe_ix ix_list (pv 0) pe_int (fun _ _ => rfl)) pe_int)
            (pe_op op_mod (pe_callTy call_int1 (by rfl) T.n_int boot_int (pa_cons (pv 2) pa_nil)) pe_int)) (pe_op op_mul pe_int (pe_ix ix_list (pv 0) pe_int (fun _ _ => rfl)))))
        (pss_one (ps_asg (pe_op op_mod (pe_callTy call_int1 (by rfl) T.n_int boot_int (pa_cons (pv 3) pa_nil)) pe_int) (pg_sub (pv 0) pe_int set_list)))))))) pss_nil)
      (pss_cons (ps_if (pt_cmpR op_gt (pe_ix ix_list (pv 0) pe_int (fun _ _ => rfl)) pe_int (nomark _))
        (pss_cons (ps_set (i := 4) scTake.nd rfl (Or.inl rfl) (pe_op op_mod (pe_callTy call_int1 (by rfl) T.n_int boot_int (pa_cons (pe_ix ix_list (pv 0) pe_int (fun _ _ => rfl)) pa_nil)) (pv 1)))
        (pss_cons (ps_asg (pe_op op_fdiv (pe_ix ix_list (pv 0) pe_int (fun _ _ => rfl)) (pv 1)) (pg_sub (pv 0) pe_int set_list))
        (pss_one (ps_ret (pv 4))))) pss_nil)
      (pss_cons (ps_set (i := 5) scTake.nd rfl (Or.inl rfl) (pe_op op_mod (pe_callTy call_int1 (by rfl) T.n_int boot_int (pa_cons (pe_op op_mul (pe_op op_add (pe_ix ix_list (pv 0) pe_int (fun _ _ => rfl)) pe_int) pe_int) pa_nil)) pe_int))
      (pss_cons (ps_set (i := 6) scTake.nd rfl (Or.inl rfl) (pe_op op_mod (pe_callTy call_int1 (by rfl) T.n_int boot_int (pa_cons (pe_op op_mul (pe_op op_mod (pe_callTy call_int1 (by rfl) T.n_int boot_int (pa_cons (pe_op op_mul (pv 5) (pv 5)) pa_nil)) pe_int) pe_int) pa_nil)) pe_int))
      (pss_cons (ps_if (pt_cmpR op_gt (pv 1) pe_int (nomark _)) pss_never pss_nil)
      (pss_one (ps_ret (pe_op op_mod (pe_callTy call_int1 (by rfl) T.n_int boot_int (pa_cons (pe_op op_fdiv (pv 6) pe_int) pa_nil)) (pv 1)))))))), ?_⟩
    refine ⟨fun σ' H' => ∃ s2 s3, σ' = [some (.ref b), some (.int m), s2, s3, none, none, none] ∧ Keep b H H' ∧ Bag H' b d ns, ?_, ?_⟩
    · -- if the cell is used up
      refine ⟨_, rfl, b, _, 0, .int A, rfl, rfl, SqL.of g.at_, rfl, rfl, _, rfl, ite2 (fun c => ?_) (fun c => ?_)⟩
      · refine ⟨fun σ' H' => ∃ cell : Int, 0 ≤ cell ∧ σ' = [some (.ref b), some (.int m), some (.int cell), none, none, none, none] ∧ H' = H, ?_, ?_⟩
        · refine ⟨_, rfl, b, _, 2, .int C, rfl, rfl, SqL.of g.at_, rfl, _, rfl, b, _, 3, .ref d, rfl, rfl, SqL.of g.at_, rfl, d, _, rfl, .inl (SqL.of g.cells), _, _, rfl, rfl, _, rfl, ite2 (fun e => ?_) (fun e => ?_)⟩
          · have e' : C < (ns.length : Int) := by
              have := of_decide_eq_true e
              rw [List.length_map] at this
              exact this
            have hc0 := g.c0
            have hi : C.toNat < ns.length := by omega
            obtain ⟨x, hx, x0⟩ : ∃ x, (ns.map V.int)[C.toNat]? = some (.int x) ∧ 0 ≤ x := ⟨ns[C.toNat], by rw [List.getElem?_map, List.getElem?_eq_getElem hi]; rfl, g.n0 _ (List.getElem_mem hi)⟩
            exact ⟨_, rfl, b, _, 3, .ref d, rfl, rfl, SqL.of g.at_, rfl, _, rfl, b, _, 2, .int C, rfl, rfl, SqL.of g.at_, rfl, d, _, C, .int x, rfl, rfl, SqL.of g.cells, at_int g.c0 hx, _, x0, rfl, rfl⟩
          · exact ⟨0, Int.le_refl _, rfl, rfl⟩
        · rintro σ' H' ⟨cell, hcell, rfl, rfl⟩
          have hc0 := g.c0
          refine ⟨_, rfl, b, _, 2, .int C, rfl, rfl, SqL.of g.at_, by decide, rfl, C, 1, rfl, rfl, b, _, 2, 2, rfl, rfl, g.at_, rfl, ?_⟩
          have g1 : BagAt (upd H' b (.lst [.int A, .int B, .int (C + 1), .ref d])) b A B (C + 1) d ns := g.put g.a0 g.b0 g.b1 (by omega)
          have k1 : Keep b H' (upd H' b (.lst [.int A, .int B, .int (C + 1), .ref d])) := (Keep.refl b H').upd
          refine ⟨fun σ2 H3 => ∃ A2, σ2 = [some (.ref b), some (.int m), some (.int cell), none, none, none, none] ∧ BagAt H3 b A2 B (C + 1) d ns ∧ Keep b H' H3, ?_, ?_⟩
          · refine ⟨_, rfl, _, _, rfl, rfl, _, rfl, ite2 (fun e => ?_) (fun e => ?_)⟩
            · exact ⟨_, rfl, _, rfl, b, _, 0, 0, rfl, rfl, g1.at_, rfl, cell, rfl, g1.put hcell g1.b0 g1.b1 g1.c0, k1.upd⟩
            · exact ⟨A, rfl, g1, k1⟩
          · rintro σ2 H3 ⟨A2, rfl, g2, k2⟩
            have p7 : (0 : Int) < 2147483647 := by decide
            refine ⟨_, rfl, b, _, 1, .int B, rfl, rfl, SqL.of g2.at_, rfl, _, _, rfl, rfl, .inr ⟨by decide, by decide⟩, _, rfl, .inl ⟨_, rfl, _, _, rfl, rfl, p7, _, _, rfl, rfl, ?_⟩⟩
            refine ⟨_, rfl, b, _, 2, .int (C + 1), rfl, rfl, SqL.of g2.at_, rfl, _, _, rfl, rfl, .inl ⟨by decide, by decide⟩, _, _, rfl, rfl, ?_⟩
            refine ⟨_, rfl, .inl ⟨_, rfl, _, _, rfl, rfl, p7, _, rfl, b, _, 1, 1, rfl, rfl, g2.at_, rfl, ?_⟩⟩
            exact ⟨_, _, rfl, k2.upd, _, _, _, g2.put g2.a0 (Int.emod_nonneg _ (by decide)) (Int.emod_lt_of_pos _ p7) g2.c0⟩
      · exact ⟨none, none, rfl, Keep.refl _ _, _, _, _, g⟩
    · rintro σ' H' ⟨s2, s3, rfl, kp, A, B, C, g⟩
      have m0 : 0 < m := by omega
      refine ⟨_, rfl, b, _, 0, .int A, rfl, rfl, SqL.of g.at_, rfl, _, _, rfl, rfl, _, rfl, ite2 (fun c => ?_) (fun c => ?_)⟩
      · refine ⟨_, rfl, b, _, 0, .int A, rfl, rfl, SqL.of g.at_, rfl, .inl ⟨_, rfl, _, rfl, _, _, rfl, rfl, m0, ?_⟩⟩
        refine ⟨_, rfl, b, _, 0, .int A, rfl, rfl, SqL.of g.at_, rfl, _, rfl, _, _, rfl, rfl, ⟨m0, by omega⟩, _, rfl, b, _, 0, 0, rfl, rfl, g.at_, rfl, _, rfl, ?_⟩
        have v0 : 0 ≤ A % m := Int.emod_nonneg _ (by omega)
        have v1 : A % m < m := Int.emod_lt_of_pos _ m0
        have := q (A % m).toNat (upd H' b (.lst [.int (A / m), .int B, .int C, .ref d])) (by omega) kp.upd ⟨_, _, _, g.put (Int.ediv_nonneg g.a0 (by omega)) g.b0 g.b1 g.c0⟩
        rw [Int.toNat_of_nonneg v0] at this
        exact this
      · have q7 : (0 : Int) < 1000000007 := by decide
        have q9 : (0 : Int) < 998244353 := by decide
        have gb0 := g.b0
        have gb1 := g.b1
        refine ⟨_, rfl, b, _, 1, .int B, rfl, rfl, SqL.of g.at_, rfl, _, _, rfl, rfl, _, _, rfl, rfl, .inr ⟨by decide, by decide⟩, .inl ⟨_, rfl, _, _, rfl, rfl, q7, ?_⟩⟩
        have x0 : 0 ≤ ((B + 1) * 39373) % 1000000007 := Int.emod_nonneg _ (by decide)
        have x1 : ((B + 1) * 39373) % 1000000007 < 1000000007 := Int.emod_lt_of_pos _ q7
        show gName 5 (V.int (((B + 1) * 39373) % 1000000007)) _ _ _
        generalize ((B + 1) * 39373) % 1000000007 = x at x0 x1
        refine ⟨_, rfl, _, rfl, _, _, rfl, rfl, .inl ⟨by omega, by omega⟩, .inl ⟨_, rfl, _, _, rfl, rfl, q9, _, _, rfl, rfl, .inr ⟨by decide, by decide⟩, .inl ⟨_, rfl, _, _, rfl, rfl, q9, ?_⟩⟩⟩
        refine ⟨_, rfl, _, _, rfl, rfl, _, rfl, ?_⟩
        rw [show decide ((1000000 : Int) < m) = false from decide_eq_false (by omega)]
        refine iteF ⟨_, rfl, _, _, rfl, rfl, ⟨by decide, by decide⟩, .inl ⟨_, rfl, _, rfl, _, _, rfl, rfl, m0, ?_⟩⟩
        show Q (.int (((x * x) % 998244353 * 30011 % 998244353) / 7 % m)) H'
        generalize ((x * x) % 998244353 * 30011 % 998244353) / 7 = y
        have v0 : 0 ≤ y % m := Int.emod_nonneg _ (by omega)
        have v1 : y % m < m := Int.emod_lt_of_pos _ m0
        have := q (y % m).toNat H' (by omega) kp ⟨_, _, _, g⟩
        rw [Int.toNat_of_nonneg v0] at this
        exact this
end
end SwP
/-! The law's own defs, 2: what is drawn. -/
namespace SwP
open PySem PySem.Spec PyProof.Rows L2
section
variable {P : Program} {w : World} {K : PySem.W.Frag} {mg : Str → Option Value} {base : Heap}
theorem scBag : FnScope ["_law_script", "_law_cell"] ["_law_script"] (defScope (top 37)) := ⟨rfl, rfl, rfl, by decide +kernel, rfl, by decide +kernel, by decide +kernel⟩
def spBag (K : PySem.W.Frag) : Sp := fun vs H Q _ => ∃ (a : Addr) (ns : List Int), vs = [.ref a] ∧ SqL K H a (ns.map V.int) ∧ ns.length ≤ 63 ∧ ∀ b d ms H', H b = none → Same H H' → Bag H' b d ms → Q (.ref b) H'
theorem ok_bag (T : Txt K mg) : C8.Cal P w K mg base 1 "_law_bag" (spBag K) [] := by
  refine cal_of T.g_l_bag T.d_l_bag scBag (ps := ["_law_script"]) (fun _ _ _ _ _ _ us hl => match us, hl with | [_], _ => rfl) (fun vs H Q E h => ?_) (fun cdv A outer s H vs Q E hr h => ?_)
  · obtain ⟨a, ns, rfl, _⟩ := h
    rfl
  · obtain ⟨a, ns, rfl, hS, hlen, q⟩ := h
    refine ⟨_, pss_one (ps_ret (pe_lst (pa_cons pe_int (pa_cons pe_int (pa_cons pe_int (pa_cons (pe_lc (own := [("_law_cell", 1)]) (g := gName 1) (tt := tYes) rfl scBag.nd
      (pi_list (pe_slice sl_list (pv 0) po_none (po_some pe_int))) (blkOk_by (N := ["_law_script", "_law_cell"]) (sc := defScope (top 37)) (by decide +kernel))
      (fun _ _ _ _ _ => pg_name (i := 1) scBag.nd rfl (Or.inl rfl)) (fun _ _ _ _ _ => pts_nil) (fun _ _ _ _ _ => pe_callB call_abs (by rfl) T.n_abs (by decide +kernel) (pa_cons (pv 1) pa_nil))) pa_nil)))))), ?_⟩
    refine ⟨_, rfl, 63, rfl, a, _, rfl, hS, fun c nc => ?_⟩
    have ec : cutV (ns.map V.int) none (some 63) = ns.map V.int := by
      unfold cutV
      rw [HT.sIx_none, List.drop_zero, Nat.sub_zero, show (63 : Int) = ((63 : Nat) : Int) from rfl, HT.sIx_nat, List.length_map, Nat.min_eq_right hlen]
      exact List.take_of_length_le (by rw [List.length_map]; omega)
    rw [ec]
    refine ⟨c, rfl, ⟨_, SqL.of upd_same⟩, fun D hD => ?_⟩
    have s1 : Same H (upd H c (.lst (ns.map V.int))) := same_new nc
    refine lc_same (walk_list (K := K) (a := c) (xs := ns.map V.int)) (fun _ => true) (fun i => .int (if ns.getD i 0 < 0 then -(ns.getD i 0) else ns.getD i 0)) hD (by rw [List.length_map]; omega) (fun H7 s7 => s7.seq (SqL.of upd_same)) ?_ ?_
    · rintro i x H7 H8 Kc Ke hi s7 ⟨rfl, ex⟩ k1 k2
      rw [List.length_map] at hi
      have e : x = .int (ns.getD i 0) := by
        rw [List.getElem?_map, List.getElem?_eq_getElem hi] at ex
        rw [List.getD_eq_getElem?_getD, List.getElem?_eq_getElem hi]
        exact (Option.some.inj ex).symm
      subst e
      exact ⟨rfl, yesT ⟨_, rfl, _, rfl, k1 rfl _ (Same.refl _)⟩⟩
    · intro H7 s7 e7
      refine ⟨by rw [sizeLine_eq]; show 4 ≤ 16777216; decide, fun b nb => ?_⟩
      have s2 := s1.trans s7
      have hDH : H D = none := s1.free hD
      rw [keep_all, List.length_map] at e7
      refine q b D ((List.range ns.length).map fun i => if ns.getD i 0 < 0 then -(ns.getD i 0) else ns.getD i 0) _ (s2.free nb) (same_last s2 nb) ⟨0, 1234567891, 0, ?_⟩
      have nDb : D ≠ b := ne_of_none e7 nb
      refine ⟨upd_same, nDb, ?_, by decide, by decide, by decide, by decide, fun x hx => ?_⟩
      · rw [upd_ne nDb, e7, List.map_map]
        rfl
      · obtain ⟨i, _, rfl⟩ := List.mem_map.mp hx
        split <;> omega
theorem scText : FnScope ["_law_bag_here", "_law_rests", "_law_most", "_law_signs", "_law_k"] ["_law_bag_here", "_law_rests", "_law_most"] (defScope (top 39)) := ⟨rfl, rfl, rfl, by decide +kernel, rfl, by decide +kernel, by decide +kernel⟩
/-- a drawn stand of at most n seats -/
def rDraw (b d : Addr) (ns : List Int) (n : Nat) : Hp → VK → Prop := fun H Q => ∀ l H', Sw.Ok l → l.length ≤ n → Keep b H H' → Bag H' b d ns → Q (.str (tx l)) H'
def spText : Sp := fun vs H Q _ => ∃ (b d : Addr) (ns : List Int) (n : Nat), vs = [.ref b, .int 1, .int n] ∧ 1 ≤ n ∧ n ≤ 900 ∧ Bag H b d ns ∧ rDraw b d ns n H Q
theorem cut012 : cutS ("0123" : Str) none (some (1 + 2)) = "012" := by decide +kernel
theorem at012 {d : Nat} (h : d < 3) : atI ("012" : Str).cps.toList (d : Int) = some (d + 48) := by
  rw [show ("012" : Str).cps.toList = [48, 49, 50] by decide +kernel]
  rcases small3 h with rfl | rfl | rfl <;> rfl
theorem line0123 : ("0123" : Str).length ≤ sizeLine := by rw [sizeLine_eq]; decide +kernel
theorem ok_text (T : Txt K mg) : C8.Cal P w K mg base 2 "_law_text" spText [] := by
  refine cal_of T.g_l_text T.d_l_text scText (ps := ["_law_bag_here", "_law_rests", "_law_most"]) (fun _ _ _ _ _ _ us hl => match us, hl with | [_, _, _], _ => rfl) (fun vs H Q E h => ?_) (fun cdv A outer s H vs Q E hr h => ?_)
  · obtain ⟨b, bd, bn, n, rfl, _⟩ := h
    rfl
  · obtain ⟨b, bd, bn, n, rfl, n1, n2, g, q⟩ := h
    refine ⟨_, pss_cons (ps_set (i := 3) scText.nd rfl (Or.inr rfl) (pe_slice sl_str pe_str po_none (po_some (pe_op op_add (pv 1) pe_int))))
      (pss_one (ps_ret (pe_join pe_str (pe_lc (own := [("_law_k", 4)]) (g := gName 4) (tt := tYes) rfl scText.nd
        (pi_range1 (by rfl) T.n_range (pa_cons (pe_op op_add pe_int (pe_f (ok_take T) hr (pa_cons (pv 0) (pa_cons (pv 2) pa_nil)))) pa_nil))
        (blkOk_by (N := ["_law_bag_here", "_law_rests", "_law_most", "_law_signs", "_law_k"]) (sc := defScope (top 39)) (by decide +kernel))
        (fun _ _ _ _ _ => pg_name (i := 4) scText.nd rfl (Or.inl rfl)) (fun _ _ _ _ _ => pts_nil)
        (fun _ _ _ _ _ => pe_ix ix_str (pv 3) (pe_f (ok_take T) hr (pa_cons (pv 0) (pa_cons (pe_callB call_len_str (by rfl) T.n_len boot_len (pa_cons (pv 3) pa_nil)) pa_nil)) (by decide) (by rfl)) (fun _ _ => rfl)))))), ?_⟩
    refine ⟨_, rfl, _, _, rfl, rfl, _, rfl, "0123", rfl, line0123, ?_⟩
    show gName 3 (V.str (cutS ("0123" : Str) none (some (1 + 2)))) _ _ _
    rw [cut012]
    refine ⟨⟨_, rfl⟩, _, rfl, _, rfl, b, bd, bn, (n : Int), rfl, by omega, by omega, g, fun v H1 hv kp g1 => ?_⟩
    refine ⟨_, _, rfl, rfl, _, rfl, by omega, by omega, ?_⟩
    rw [show ((1 : Int) + (v : Int)).toNat = v + 1 by omega]
    intro D hD
    have nDb : D ≠ b := g1.ne hD
    have nDd : D ≠ bd := g1.ned hD
    have s0 : Same H1 (upd H1 D (.lst [])) := same_new hD
    refine lc_it walk_range (fun i H' => Keep b H1 H' ∧ Bag H' b bd bn ∧ ∃ ds : List Nat, ds.length = i ∧ (∀ d ∈ ds, d < 3) ∧ H' D = some (.lst (ds.map fun d => .str (tx [d])))) ⟨Same.keep s0, g1.same s0, [], rfl, fun d hd => (nomatch hd), upd_same⟩ (fun _ _ _ _ => trivial) ?_ ?_
    · rintro i x H2 H3 hi ⟨k2, g2, ds, hds, h3, ed⟩ ⟨rfl, rfl⟩
      refine ⟨rfl, yesT ?_⟩
      refine ⟨_, rfl, _, rfl, _, rfl, "012", rfl, line012, ?_⟩
      rw [len012]
      refine ⟨b, bd, bn, 3, rfl, by decide, by decide, g2, fun d H4 hd k4 g4 => ?_⟩
      have hd3 : d < 3 := by omega
      refine ⟨"012", (d : Int), d + 48, rfl, rfl, line012, at012 hd3, ?_⟩
      refine ⟨_, k4 _ _ nDb ed, ?_, ?_, ?_, ds ++ [d], ?_, ?_, ?_⟩
      · rw [List.length_map, sizeLine_eq]
        omega
      · intro a o na e
        have naD : a ≠ D := ne_of_none e hD
        rw [upd_ne naD]
        exact k4 _ _ na (k2 _ _ na e)
      · exact g4.upd nDb nDd
      · rw [List.length_append, hds]
        rfl
      · intro e he
        rcases List.mem_append.mp he with he | he
        · exact h3 _ he
        · rw [List.mem_singleton.mp he]
          exact hd3
      · rw [upd_same, List.map_append]
        rfl
    · rintro H2 ⟨k2, g2, ds, hds, h3, ed⟩
      refine ⟨"", D, ds.map fun d => tx [d], rfl, rfl, .inl (SqL.of (by rw [ed, List.map_map]; rfl)), ?_, ?_⟩
      · rw [List.map_map, show (fun (x : Str) => x.length) ∘ (fun (d : Nat) => tx [d]) = fun _ => 1 from funext fun d => tx_len [d], List.length_map, List.map_const', List.sum_replicate_nat, hds]
        show (v + 1) * 1 + (v + 1) * ("" : Str).length ≤ 16777216
        rw [show ("" : Str).length = 0 by decide +kernel]
        omega
      · rw [tx_join]
        exact q ds _ ⟨by omega, h3⟩ (by omega) (kp.trans k2) g2
end
end SwP
/-! The law's own defs, 3: steps, even texts. -/
namespace SwP
open PySem PySem.Spec PyProof.Rows L2
section
variable {P : Program} {w : World} {K : PySem.W.Frag} {mg : Str → Option Value} {base : Heap}
theorem scLstep : FnScope ["_law_many", "_law_left", "_law_right_here", "_law_found"] ["_law_many", "_law_left", "_law_right_here"] (defScope (top 40)) := ⟨rfl, rfl, rfl, by decide +kernel, rfl, by decide +kernel, by decide +kernel⟩
def spLstep : Sp := fun vs H Q _ => ∃ a b : Nat, a < 3 ∧ b < 3 ∧ vs = [.int 3, .str (tx [a]), .str (tx [b])] ∧ ∀ H', Same H H' → Q (.int (Sw.stp a b)) H'
theorem ok_lstep (T : Txt K mg) : C8.Cal P w K mg base 1 "_law_step" spLstep [] := by
  refine cal_of T.g_l_step T.d_l_step scLstep (ps := ["_law_many", "_law_left", "_law_right_here"]) (fun _ _ _ _ _ _ us hl => match us, hl with | [_, _, _], _ => rfl) (fun vs H Q E h => ?_) (fun cdv A outer s H vs Q E hr h => ?_)
  · obtain ⟨a, b, _, _, rfl, _⟩ := h
    rfl
  · obtain ⟨a, b, ha, hb, rfl, q⟩ := h
    refine ⟨_, pss_cons (ps_set (i := 3) scLstep.nd rfl (Or.inl rfl) (pe_op op_mod (pe_callTy call_int1 (by rfl) T.n_int boot_int (pa_cons (pe_op op_sub (pe_callTy call_int_str (by rfl) T.n_int boot_int (pa_cons (pv 2) pa_nil))
          (pe_callTy call_int_str (by rfl) T.n_int boot_int (pa_cons (pv 1) pa_nil))) pa_nil)) (pv 0)))
      (pss_one (ps_ret (pe_ifExp (pt_cmpR op_eq (pv 0) pe_int (nomark _)) (pe_ix ix_list (pe_lst (pa_cons pe_int (pa_cons pe_int (pa_cons pe_int (pa_cons (pe_un un_neg pe_int) pa_nil))))) (pv 3) (fun _ _ => rfl))
        (pe_ix ix_list (pe_lst (pa_cons pe_int (pa_cons pe_int (pa_cons (pe_un un_neg pe_int) pa_nil)))) (pv 3) (fun _ _ => rfl))))), ?_⟩
    have l1 : ∀ d : Nat, (tx [d]).length ≤ 640 := fun d => by rw [tx_len]; show 1 ≤ 640; decide
    have p3 : (0 : Int) < 3 := by decide
    refine ⟨_, rfl, _, (b : Int), rfl, int_tx hb, l1 b, _, rfl, _, (a : Int), rfl, int_tx ha, l1 a, _, _, rfl, rfl, .inl ⟨_, rfl, _, rfl, _, _, rfl, rfl, p3, ?_⟩⟩
    refine ⟨_, rfl, rfl, false, rfl, iteF ?_⟩
    refine ⟨1, rfl, by rw [sizeLine_eq]; show 3 ≤ 16777216; decide, fun p np => ⟨_, rfl, p, _, _, .int (Sw.stp a b), rfl, rfl, SqL.of upd_same, ?_, q _ (same_new np)⟩⟩
    show atI [V.int 0, V.int 1, V.int (-1)] (((b : Int) - (a : Int)) % 3) = _
    unfold Sw.stp
    have h0 : 0 ≤ ((b : Int) - (a : Int)) % 3 := Int.emod_nonneg _ (by decide)
    have h1 : ((b : Int) - (a : Int)) % 3 < 3 := Int.emod_lt_of_pos _ p3
    generalize ((b : Int) - (a : Int)) % 3 = x at h0 h1
    have : x = 0 ∨ x = 1 ∨ x = 2 := by omega
    rcases this with rfl | rfl | rfl <;> rfl
theorem scLsteps : FnScope ["_law_rests", "_law_text_here", "_law_k"] ["_law_rests", "_law_text_here"] (defScope (top 41)) := ⟨rfl, rfl, rfl, by decide +kernel, rfl, by decide +kernel, by decide +kernel⟩
def spLsteps : Sp := fun vs H Q _ => ∃ l, vs = [.int 1, .str (tx l)] ∧ Sw.Ok l ∧ l.length ≤ 900 ∧ ∀ H' D, Same H H' → H' D = some (.lst ((Sw.stL l).map V.int)) → Q (.ref D) H'
theorem per_at {l : List Nat} (ok : Sw.Ok l) {i : Nat} {k : Int} (h : i < l.length) (e : k = i) : atI (tx l).cps.toList k = some (Sw.per l i + 48) := by
  subst e
  refine atI_nat ?_
  rw [tx_tl, List.getElem?_map, Sw.per_nat h]
  rfl
theorem ok_lsteps (T : Txt K mg) : C8.Cal P w K mg base 2 "_law_steps" spLsteps [] := by
  refine cal_of T.g_l_steps T.d_l_steps scLsteps (ps := ["_law_rests", "_law_text_here"]) (fun _ _ _ _ _ _ us hl => match us, hl with | [_, _], _ => rfl) (fun vs H Q E h => ?_) (fun cdv A outer s H vs Q E hr h => ?_)
  · obtain ⟨l, rfl, _⟩ := h
    rfl
  · obtain ⟨l, rfl, ok, hlen, q⟩ := h
    have hp := ok.pos
    refine ⟨_, pss_one (ps_ret (pe_lc (own := [("_law_k", 2)]) (g := gName 2) (tt := tYes) rfl scLsteps.nd
      (pi_range1 (by rfl) T.n_range (pa_cons (pe_callB call_len_str (by rfl) T.n_len boot_len (pa_cons (pv 1) pa_nil)) pa_nil))
      (blkOk_by (N := ["_law_rests", "_law_text_here", "_law_k"]) (sc := defScope (top 41)) (by decide +kernel)) (fun _ _ _ _ _ => pg_name (i := 2) scLsteps.nd rfl (Or.inl rfl)) (fun _ _ _ _ _ => pts_nil)
      (fun _ _ _ _ _ => pe_f (ok_lstep T) hr (pa_cons (pe_op op_add (pv 0) pe_int) (pa_cons (pe_ix ix_str (pv 1) (pv 2) (fun _ _ => rfl))
        (pa_cons (pe_ix ix_str (pv 1) (pe_op op_mod (pe_callTy call_int1 (by rfl) T.n_int boot_int (pa_cons (pe_op op_add (pv 2) pe_int) pa_nil)) (pe_callB call_len_str (by rfl) T.n_len boot_len (pa_cons (pv 1) pa_nil))) (fun _ _ => rfl)) pa_nil))) (by decide) (by rfl)))), ?_⟩
    refine ⟨_, rfl, tx l, rfl, tx_line (by omega), _, rfl, by rw [tx_len]; omega, by rw [tx_len]; omega, ?_⟩
    rw [tx_len, Int.toNat_natCast]
    intro D hD
    refine lc_same walk_range (fun _ => true) (fun i => .int (Sw.stp (Sw.per l i) (Sw.per l (i + 1)))) hD (by omega) (fun _ _ => trivial) ?_ ?_
    · rintro i x H1 H' Kc Ke hi s1 ⟨rfl, rfl⟩ k1 k2
      refine ⟨rfl, yesT ?_⟩
      refine ⟨_, rfl, _, _, rfl, rfl, ?_⟩
      refine ⟨_, rfl, _, rfl, tx l, _, Sw.per l i + 48, rfl, rfl, tx_line (by omega), per_at ok hi (by omega), ?_⟩
      have p1 : (0 : Int) < ((tx l).length : Int) := by rw [tx_len]; omega
      refine ⟨_, rfl, _, rfl, _, _, rfl, rfl, .inl ⟨_, rfl, _, rfl, tx l, rfl, tx_line (by omega), _, _, rfl, rfl, p1, ?_⟩⟩
      have hm : (0 + (i : Int) + 1) % ((tx l).length : Int) = (((i + 1) % l.length : Nat) : Int) := by
        rw [tx_len, show (0 : Int) + (i : Int) + 1 = ((i + 1 : Nat) : Int) by omega]
        rfl
      refine ⟨tx l, _, Sw.per l ((i : Int) + 1) + 48, rfl, rfl, tx_line (by omega), ?_, ?_⟩
      · have e := per_at ok (Nat.mod_lt (i + 1) hp) hm
        rw [e]
        have e2 := ok.per.mod ((i + 1 : Nat) : Int)
        rw [show (((i + 1) % l.length : Nat) : Int) = ((i + 1 : Nat) : Int) % (l.length : Int) from rfl, e2, show ((i + 1 : Nat) : Int) = (i : Int) + 1 by omega]
      · exact ⟨_, _, Sw.per_lt ok _, Sw.per_lt ok _, rfl, fun H4 s4 => k1 rfl _ s4⟩
    · intro H1 s1 e
      refine q _ _ s1 ?_
      rw [e, keep_all]
      unfold Sw.stL Sw.ofF
      rw [List.map_map]
      rfl
abbrev nE : List Str := ["_law_bag_here", "_law_rests", "_law_most", "_law_many", "_law_size", "_law_found", "_law_k"]
theorem scEven : FnScope nE ["_law_bag_here", "_law_rests", "_law_most"] (defScope (top 42)) := ⟨rfl, rfl, rfl, by decide +kernel, rfl, by decide +kernel, by decide +kernel⟩
theorem str_dig {d : Nat} (h : d < 3) : (toString (d : Int) : Str) = tx [d] := by
  rcases small3 h with rfl | rfl | rfl <;> decide +kernel
theorem log_small {i : Int} (h0 : 0 ≤ i) (h1 : i < 1000) : i.natAbs.log2 < 1920 := by
  have : i.natAbs.log2 < 10 ∨ i.natAbs = 0 := by
    rcases Nat.eq_zero_or_pos i.natAbs with c | c
    · exact .inr c
    · exact .inl ((Nat.log2_lt (by omega)).mpr (by omega))
  rcases this with c | c
  · omega
  · rw [c]
    decide
theorem ok_even (T : Txt K mg) : C8.Cal P w K mg base 3 "_law_even_text" spText [] := by
  refine cal_of T.g_l_even_text T.d_l_even_text scEven (ps := ["_law_bag_here", "_law_rests", "_law_most"]) (fun _ _ _ _ _ _ us hl => match us, hl with | [_, _, _], _ => rfl) (fun vs H Q E h => ?_) (fun cdv A outer s H vs Q E hr h => ?_)
  · obtain ⟨b, bd, bn, n, rfl, _⟩ := h
    rfl
  · obtain ⟨b, bd, bn, n, rfl, n1, n2, g, q⟩ := h
    refine ⟨_, pss_cons (ps_par (i := 3) (j := 4) (by rfl) scEven.nd rfl rfl (by decide) rfl rfl (pa_cons (pe_op op_add (pv 1) pe_int) (pa_cons (pe_op op_add pe_int (pe_f (ok_take T) hr (pa_cons (pv 0) (pa_cons (pv 2) pa_nil)))) pa_nil)) (by rfl))
      (pss_cons (ps_set (i := 5) scEven.nd rfl (Or.inl rfl) (pe_callTy call_str_int (by rfl) T.n_str boot_str (pa_cons (pe_f (ok_take T) hr (pa_cons (pv 0) (pa_cons (pv 3) pa_nil))) pa_nil)))
      (pss_cons (ps_for PassesOwn.never rfl (pi_range1 (by rfl) T.n_range (pa_cons (pe_op op_sub (pv 4) pe_int) pa_nil)) (pg_name (i := 6) scEven.nd rfl (Or.inl rfl))
        (pss_one (ps_set (i := 5) scEven.nd rfl (Or.inl rfl) (pe_op op_add_str (pv 5) (pe_callTy call_str_int (by rfl) T.n_str boot_str (pa_cons (pe_op op_mod (pe_callTy call_int1 (by rfl) T.n_int boot_int (pa_cons
          (pe_op op_add (pe_callTy call_int_str (by rfl) T.n_int boot_int (pa_cons (pe_ix ix_str (pv 5) (pe_un un_neg pe_int) (fun _ _ => rfl)) pa_nil))
            (pe_ix ix_list (pe_lst (pa_cons pe_int (pa_cons pe_int (pa_cons pe_int (pa_cons (pe_op op_sub (pv 3) pe_int) (pa_cons pe_int pa_nil)))))) (pe_f (ok_take T) hr (pa_cons (pv 0) (pa_cons pe_int pa_nil))) (fun _ _ => rfl))) pa_nil)) (pv 3)) pa_nil))))))
      (pss_cons (ps_while PassesOwn.never (pt_cmpR op_in_seq pe_int (pe_f (ok_lsteps T) hr (pa_cons (pv 1) (pa_cons (pv 5) pa_nil))) (by rfl)) pss_never)
      (pss_one (ps_ret (pv 5)))))), ?_⟩
    refine ⟨_, rfl, _, _, rfl, rfl, _, rfl, _, rfl, b, bd, bn, (n : Int), rfl, by omega, by omega, g, fun v H1 hv kp g1 => ?_⟩
    refine ⟨_, _, rfl, rfl, _, _, rfl, ?_⟩
    refine ⟨_, rfl, _, rfl, b, bd, bn, 3, rfl, by decide, by decide, g1, fun d H2 hd k2 g2 => ?_⟩
    have hd3 : d < 3 := by omega
    refine ⟨_, rfl, log_small (by omega) (by omega), ?_⟩
    rw [str_dig hd3]
    refine ⟨_, rfl, _, _, rfl, rfl, _, rfl, by omega, by omega, ?_⟩
    rw [show ((1 : Int) + (v : Int) - 1).toNat = v by omega]
    have kp2 := kp.trans k2
    refine for_range (lo := 0) (n := v) (fun i σ H' => ∃ l s6, σ = [some (.ref b), some (.int 1), some (.int n), some (.int 3), some (.int (1 + (v : Int))), some (.str (tx l)), s6] ∧ Sw.Ok l ∧ l.length = i + 1 ∧ Keep b H H' ∧ Bag H' b bd bn)
      ⟨[d], none, rfl, ⟨Nat.zero_lt_one, fun e he => by rw [List.mem_singleton.mp he]; exact hd3⟩, rfl, kp2, g2⟩ ?_ ?_
    · rintro i σ H3 hi ⟨l, s6, rfl, ok, ll, k3, g3⟩
      have hp := ok.pos
      have hz := getD_some (r := l) (i := l.length - 1) (by omega)
      have hz3 : l.getD (l.length - 1) 0 < 3 := ok.lt _ (List.mem_of_getElem? hz)
      generalize l.getD (l.length - 1) 0 = z at hz hz3
      refine ⟨_, rfl, _, rfl, 1, rfl, tx l, -1, z + 48, rfl, rfl, tx_line (by omega), at_end hp hz, _, (z : Int), rfl, int_tx hz3, by rw [show (⟨#[z + 48]⟩ : Str) = tx [z] from rfl, tx_len]; show 1 ≤ 640; decide, ?_⟩
      refine ⟨_, rfl, _, _, rfl, rfl, by rw [sizeLine_eq]; show 5 ≤ 16777216; decide, fun p np => ?_⟩
      have npb : p ≠ b := g3.ne np
      refine ⟨_, rfl, b, bd, bn, 5, rfl, by decide, by decide, g3.same (same_new np), fun u H4 hu k4 g4 => ?_⟩
      have ep : H4 p = some (.lst [.int 0, .int 1, .int 1, .int 2, .int 0]) := k4 _ _ npb upd_same
      obtain ⟨x, hx, x0, x1⟩ : ∃ x : Int, atI [V.int 0, .int 1, .int 1, .int 2, .int 0] (u : Int) = some (.int x) ∧ 0 ≤ x ∧ x ≤ 2 := by
        have : u = 0 ∨ u = 1 ∨ u = 2 ∨ u = 3 ∨ u = 4 := by omega
        rcases this with rfl | rfl | rfl | rfl | rfl
        · exact ⟨0, rfl, by decide, by decide⟩
        · exact ⟨1, rfl, by decide, by decide⟩
        · exact ⟨1, rfl, by decide, by decide⟩
        · exact ⟨2, rfl, by decide, by decide⟩
        · exact ⟨0, rfl, by decide, by decide⟩
      have p3 : (0 : Int) < 3 := by decide
      refine ⟨p, _, _, .int x, rfl, rfl, SqL.of ep, hx, _, _, rfl, rfl, .inl ⟨_, rfl, _, rfl, _, _, rfl, rfl, p3, ?_⟩⟩
      obtain ⟨y, hy, y3⟩ : ∃ y : Nat, ((z : Int) + x) % 3 = y ∧ y < 3 := ⟨(((z : Int) + x) % 3).toNat, by omega, by omega⟩
      refine ⟨_, rfl, ?_, ?_⟩
      · show (((z : Int) + x) % 3).natAbs.log2 < 1920
        exact log_small (by omega) (by omega)
      show ∃ i j, _
      refine ⟨tx l, (toString (((z : Int) + x) % 3) : Str), rfl, rfl, ?_, ?_⟩
      · rw [hy, str_dig y3, tx_len, tx_len, sizeLine_eq, ll]
        show i + 1 + 1 ≤ 16777216
        omega
      · rw [hy, str_dig y3, tx_cat]
        refine ⟨l ++ [y], some (.int (0 + (i : Int))), rfl, ⟨by simp, fun e he => ?_⟩, by rw [List.length_append, ll]; rfl, ?_, g4⟩
        · rcases List.mem_append.mp he with he | he
          · exact ok.lt _ he
          · rw [List.mem_singleton.mp he]
            exact y3
        · exact (k3.trans (Same.keep (same_new np))).trans k4
    · rintro σ H3 ⟨l, s6, rfl, ok, ll, k3, g3⟩
      have hlen : l.length ≤ 900 := by omega
      refine ⟨fun m σ' H' => m = 0 ∧ σ' = [some (.ref b), some (.int 1), some (.int n), some (.int 3), some (.int (1 + (v : Int))), some (.str (tx l)), s6] ∧ Keep b H H' ∧ Bag H' b bd bn, ⟨0, rfl, rfl, k3, g3⟩, ?_⟩
      rintro m σ' H4 ⟨rfl, rfl, k4, g4⟩
      refine ⟨_, rfl, _, rfl, l, rfl, ok, hlen, fun H5 D s5 eD => ?_⟩
      refine ⟨D, _, rfl, .inl (SqL.of eD), rfl, flat_ints _, false, congrArg V.bl (no_two l), ?_⟩
      refine iteF ⟨_, rfl, ?_⟩
      exact q l _ ok (by omega) (k4.trans (Same.keep s5)) (g4.same s5)
end
end SwP
/-! The law's own defs, 4: wide numbers, plain texts. -/
namespace SwP
open PySem PySem.Spec PyProof.Rows L2
section
variable {P : Program} {w : World} {K : PySem.W.Frag} {mg : Str → Option Value} {base : Heap}
theorem scWide : FnScope ["_law_bag_here", "_law_many"] ["_law_bag_here", "_law_many"] (defScope (top 43)) := ⟨rfl, rfl, rfl, by decide +kernel, rfl, by decide +kernel, by decide +kernel⟩
def spWide : Sp := fun vs H Q _ => ∃ (b d : Addr) (ns : List Int), vs = [.ref b, .int 30] ∧ Bag H b d ns ∧ ∀ (v : Nat) H', Keep b H H' → Bag H' b d ns → Q (.int v) H'
theorem wide_int {k : Nat} (h : k < 30) : PySem.intText? (tx (1 :: List.replicate k 0)) = some (((10 ^ k : Nat)) : Int) := by
  have all : ∀ k ∈ List.range 30, PySem.intText? (tx (1 :: List.replicate k 0)) = some (((10 ^ k : Nat)) : Int) := by decide +kernel
  exact all k (List.mem_range.mpr h)
theorem rep_one (d k : Nat) : Sw.rep k [d] = List.replicate k d := by
  unfold Sw.rep
  induction k with
  | zero => rfl
  | succ k ih => rw [List.replicate_succ, List.flatten_cons, ih]; rfl
theorem ok_wide (T : Txt K mg) : C8.Cal P w K mg base 2 "_law_wide" spWide [] := by
  refine cal_of T.g_l_wide T.d_l_wide scWide (ps := ["_law_bag_here", "_law_many"]) (fun _ _ _ _ _ _ us hl => match us, hl with | [_, _], _ => rfl) (fun vs H Q E h => ?_) (fun cdv A outer s H vs Q E hr h => ?_)
  · obtain ⟨b, d, ns, rfl, _⟩ := h
    rfl
  · obtain ⟨b, d, ns, rfl, g, q⟩ := h
    refine ⟨_, pss_one (ps_ret (pe_callTy call_int_str (by rfl) T.n_int boot_int (pa_cons (pe_op op_add_str pe_str (pe_op SwR.op_rep_str pe_str (pe_f (ok_take T) hr (pa_cons (pv 0) (pa_cons (pv 1) pa_nil))))) pa_nil))), ?_⟩
    refine ⟨_, rfl, _, rfl, b, d, ns, 30, rfl, by decide, by decide, g, fun k H1 hk k1 g1 => ?_⟩
    have hk2 : k < 30 := by omega
    refine ⟨"0", (k : Int), rfl, rfl, by omega, by omega, ?_, ?_⟩
    · rw [nul_tx, tx_len]
      show 1 * ((k : Int)).toNat ≤ 16777216
      omega
    · rw [nul_tx, tx_rep, Int.toNat_natCast, rep_one, one_tx]
      refine ⟨tx [1], _, rfl, rfl, ?_, ?_⟩
      · rw [tx_len, tx_len, sizeLine_eq, List.length_replicate]
        show 1 + k ≤ 16777216
        omega
      · rw [tx_cat]
        refine ⟨_, _, rfl, wide_int hk2, ?_, q _ _ k1 g1⟩
        rw [tx_len]
        show (1 :: List.replicate k 0).length ≤ 640
        rw [List.length_cons, List.length_replicate]
        omega
abbrev nP : List Str := ["_law_bag_here", "_law_most", "_law_way", "_law_found", "_law_k"]
theorem scPt : FnScope nP ["_law_bag_here", "_law_most"] (defScope (top 44)) := ⟨rfl, rfl, rfl, by decide +kernel, rfl, by decide +kernel, by decide +kernel⟩
def spPt : Sp := fun vs H Q _ => ∃ (b d : Addr) (ns : List Int), vs = [.ref b, .int 13] ∧ Bag H b d ns ∧ rDraw b d ns 13 H Q
theorem waves {u : Nat} (h : u < 5) : ∃ m : List Nat, (0 < m.length ∧ m.length ≤ 3) ∧ (∀ d ∈ m, d < 3) ∧ atI [V.str "012", .str "021", .str "12", .str "1", .str "2"] (u : Int) = some (.str (tx m)) := by
  have : u = 0 ∨ u = 1 ∨ u = 2 ∨ u = 3 ∨ u = 4 := by omega
  rcases this with rfl | rfl | rfl | rfl | rfl
  · exact ⟨[0, 1, 2], by decide, by decide, congrArg (fun z => some (V.str z)) (by decide +kernel : ("012" : Str) = tx [0, 1, 2])⟩
  · exact ⟨[0, 2, 1], by decide, by decide, congrArg (fun z => some (V.str z)) (by decide +kernel : ("021" : Str) = tx [0, 2, 1])⟩
  · exact ⟨[1, 2], by decide, by decide, congrArg (fun z => some (V.str z)) (by decide +kernel : ("12" : Str) = tx [1, 2])⟩
  · exact ⟨[1], by decide, by decide, congrArg (fun z => some (V.str z)) (by decide +kernel : ("1" : Str) = tx [1])⟩
  · exact ⟨[2], by decide, by decide, congrArg (fun z => some (V.str z)) (by decide +kernel : ("2" : Str) = tx [2])⟩
theorem ok_plain_text (T : Txt K mg) : C8.Cal P w K mg base 4 "_law_plain_text" spPt [] := by
  refine cal_of T.g_l_plain_text T.d_l_plain_text scPt (ps := ["_law_bag_here", "_law_most"]) (fun _ _ _ _ _ _ us hl => match us, hl with | [_, _], _ => rfl) (fun vs H Q E h => ?_) (fun cdv A outer s H vs Q E hr h => ?_)
  · obtain ⟨b, d, ns, rfl, _⟩ := h
    rfl
  · obtain ⟨b, bd, bn, rfl, g, q⟩ := h
    refine ⟨_, pss_cons (ps_set (i := 2) scPt.nd rfl (Or.inl rfl) (pe_f (ok_take T) hr (pa_cons (pv 0) (pa_cons pe_int pa_nil))))
      (pss_cons (ps_if (pt_cmpR op_lt (pv 2) pe_int (nomark _)) (pss_one (ps_ret (pe_f (ok_text T) hr (pa_cons (pv 0) (pa_cons pe_int (pa_cons (pv 1) pa_nil)))))) pss_nil)
      (pss_cons (ps_if (pt_cmpR op_eq (pv 2) pe_int (nomark _)) (pss_one (ps_ret (pe_f (ok_even T) hr (pa_cons (pv 0) (pa_cons pe_int (pa_cons (pv 1) pa_nil)))))) pss_nil)
      (pss_cons (ps_set (i := 3) scPt.nd rfl (Or.inl rfl) pe_str)
      (pss_cons (ps_for PassesOwn.never rfl (pi_range1 (by rfl) T.n_range (pa_cons (pe_op op_add pe_int (pe_f (ok_take T) hr (pa_cons (pv 0) (pa_cons pe_int pa_nil)))) pa_nil)) (pg_name (i := 4) scPt.nd rfl (Or.inl rfl))
        (pss_one (ps_set (i := 3) scPt.nd rfl (Or.inl rfl) (pe_op op_add_str (pe_op op_add_str (pv 3) (pe_op SwR.op_rep_str pe_str (pe_f (ok_take T) hr (pa_cons (pv 0) (pa_cons pe_int pa_nil)))))
          (pe_ix ix_list (pe_lst (pa_cons pe_str (pa_cons pe_str (pa_cons pe_str (pa_cons pe_str (pa_cons pe_str pa_nil)))))) (pe_f (ok_take T) hr (pa_cons (pv 0) (pa_cons pe_int pa_nil))) (fun _ _ => rfl))))))
      (pss_cons (ps_set (i := 3) scPt.nd rfl (Or.inl rfl) (pe_slice sl_str (pv 3) po_none (po_some (pv 1))))
      (pss_one (ps_ret (pe_ifExp (PW.pt (pw_and (pt_cmpR op_eq (pv 2) pe_int (nomark _)) (pw_and1 (pt_cmpR op_le (pe_op op_mul pe_int (pe_callB call_len_str (by rfl) T.n_len boot_len (pa_cons (pv 3) pa_nil))) (pv 1) (nomark _)))))
        (pe_op op_add_str (pv 3) (SwR.pe_revS (pv 3))) (pv 3))))))))), ?_⟩
    refine ⟨_, rfl, b, bd, bn, 6, rfl, by decide, by decide, g, fun v H1 hv k1 g1 => ?_⟩
    refine ⟨_, rfl, _, _, rfl, rfl, _, rfl, ite2 (fun c => ?_) (fun c => ?_)⟩
    · exact ⟨_, rfl, _, rfl, b, bd, bn, 13, rfl, by decide, by decide, g1, fun l H2 ok hl k2 g2 => q l H2 ok hl (k1.trans k2) g2⟩
    · refine ⟨_, rfl, rfl, _, rfl, ite2 (fun c2 => ?_) (fun c2 => ?_)⟩
      · exact ⟨_, rfl, _, rfl, b, bd, bn, 13, rfl, by decide, by decide, g1, fun l H2 ok hl k2 g2 => q l H2 ok hl (k1.trans k2) g2⟩
      · refine ⟨_, rfl, b, bd, bn, 5, rfl, by decide, by decide, g1, fun n H2 hn k2 g2 => ⟨_, _, rfl, rfl, _, rfl, by omega, by omega, ?_⟩⟩
        rw [show ((1 : Int) + (n : Int)).toNat = n + 1 by omega]
        have k12 := k1.trans k2
        refine for_range (lo := 0) (n := n + 1) (fun i σ H' => ∃ l s4, σ = [some (.ref b), some (.int 13), some (.int v), some (.str (tx l)), s4] ∧ (∀ d ∈ l, d < 3) ∧ i ≤ l.length ∧ l.length ≤ 7 * i ∧ Keep b H H' ∧ Bag H' b bd bn)
          ⟨[], none, by rw [← emp_tx]; rfl, fun e he => (nomatch he), Nat.le_refl _, Nat.le_refl _, k12, g2⟩ ?_ ?_
        · rintro i σ H3 hi ⟨l, s4, rfl, l3, li, ll, k3, g3⟩
          refine ⟨_, rfl, _, rfl, b, bd, bn, 5, rfl, by decide, by decide, g3, fun z H4 hz k4 g4 => ?_⟩
          refine ⟨"0", (z : Int), rfl, rfl, by omega, by omega, ?_, ?_⟩
          · rw [nul_tx, tx_len]
            show 1 * ((z : Int)).toNat ≤ 16777216
            omega
          rw [nul_tx, tx_rep, Int.toNat_natCast, rep_one]
          refine ⟨tx l, tx (List.replicate z 0), rfl, rfl, ?_, ?_⟩
          · rw [tx_len, tx_len, sizeLine_eq, List.length_replicate]
            omega
          rw [tx_cat]
          refine ⟨by rw [sizeLine_eq]; show 5 ≤ 16777216; decide, fun p np => ?_⟩
          have npb : p ≠ b := g4.ne np
          refine ⟨_, rfl, b, bd, bn, 5, rfl, by decide, by decide, g4.same (same_new np), fun u H5 hu k5 g5 => ?_⟩
          have ep : H5 p = some (.lst [.str "012", .str "021", .str "12", .str "1", .str "2"]) := k5 _ _ npb upd_same
          obtain ⟨m, ⟨m0, m3⟩, mlt, em⟩ := waves (u := u) (by omega)
          refine ⟨p, _, _, .str (tx m), rfl, rfl, SqL.of ep, em, tx (l ++ List.replicate z 0), tx m, rfl, rfl, ?_, ?_⟩
          · rw [tx_len, tx_len, sizeLine_eq, List.length_append, List.length_replicate]
            omega
          rw [tx_cat]
          refine ⟨l ++ List.replicate z 0 ++ m, some (.int (0 + (i : Int))), rfl, fun e he => ?_, ?_, ?_, ((k3.trans k4).trans (Same.keep (same_new np))).trans k5, g5⟩
          · rcases List.mem_append.mp he with he | he
            · rcases List.mem_append.mp he with he | he
              · exact l3 _ he
              · rw [(List.mem_replicate.mp he).2]
                decide
            · exact mlt _ he
          · rw [List.length_append, List.length_append, List.length_replicate]
            omega
          · rw [List.length_append, List.length_append, List.length_replicate]
            omega
        · rintro σ H3 ⟨l, s4, rfl, l3, li, ll, k3, g3⟩
          refine ⟨_, rfl, _, rfl, 13, rfl, tx l, rfl, tx_line (by omega), ?_⟩
          rw [cut_to l (k := 13) (i := 13) rfl]
          have ok : Sw.Ok (l.take 13) := ⟨by rw [List.length_take]; omega, fun d hd => l3 _ (List.mem_of_mem_take hd)⟩
          have lt13 : (l.take 13).length ≤ 13 := by rw [List.length_take]; omega
          generalize l.take 13 = m at ok lt13
          refine ⟨_, rfl, rfl, _, rfl, ite2 (fun c3 => ?_) (fun c3 => ?_)⟩
          · refine ⟨_, rfl, tx m, rfl, tx_line (by omega), _, _, rfl, rfl, .inl ⟨by decide, by decide⟩, _, rfl, _, _, rfl, rfl, _, rfl, ite2 (fun c4 => ?_) (fun c4 => ?_)⟩
            · have h4 := of_decide_eq_true c4
              rw [tx_len] at h4
              refine ⟨_, rfl, _, rfl, tx m, rfl, by rw [tx_len]; omega, ?_⟩
              rw [tx_rev]
              refine ⟨tx m, tx (Sw.mir m), rfl, rfl, by rw [tx_len, tx_len, sizeLine_eq, Sw.mir_len]; omega, ?_⟩
              rw [tx_cat]
              have okm := Sw.mir_ok ok
              refine q _ _ ⟨by rw [List.length_append]; have := ok.pos; omega, fun d hd => ?_⟩ ?_ k3 g3
              · rcases List.mem_append.mp hd with hd | hd
                · exact ok.lt _ hd
                · exact okm.lt _ hd
              · rw [List.length_append, Sw.mir_len]
                omega
            · exact ⟨_, rfl, q _ _ ok lt13 k3 g3⟩
          · refine iteF ?_
            exact ⟨_, rfl, q _ _ ok lt13 k3 g3⟩
end
end SwP
/-! The law's own defs, 5: ends as tuples; what the law asks of a text. -/
namespace SwP
open PySem PySem.Spec PyProof.Rows L2
def qV (t : Int) (e : Nat) : V := if t = 0 then .int e else .non
def mV (t : Int) (e : Nat) : V := if t = 0 then .non else .int e
def endV (t : Int) (e : Nat) : List V := [.int t, .int e, qV t e, mV t e]
def qD (t : Int) (e : Nat) : PyData := if t = 0 then .int e else .none
def mD (t : Int) (e : Nat) : PyData := if t = 0 then .none else .int e
def endD (t : Int) (e : Nat) : PyData := .tuple [.int t, .int e, qD t e, mD t e]
theorem qV_dp {K : PySem.W.Frag} {H : Hp} (t : Int) (e : Nat) : Dp K H (qV t e) (qD t e) := by
  unfold qV qD
  split
  · exact .int _
  · exact .non
theorem mV_dp {K : PySem.W.Frag} {H : Hp} (t : Int) (e : Nat) : Dp K H (mV t e) (mD t e) := by
  unfold mV mD
  split
  · exact .non
  · exact .int _
theorem endD_ok (t : Int) (e : Nat) : SeqAt.shaped (endD t e) = true := by
  unfold endD qD mD
  by_cases c : t = 0
  · rw [if_pos c, if_pos c]
    rfl
  · rw [if_neg c, if_neg c]
    rfl
theorem shaped_self {d : PyData} (h : SeqAt.shaped d = true) : PyData.eqv d d = true := SeqAt.eqv_refl d (Bool.and_eq_true_iff.mp h).1
theorem qD_eq {t t2 : Int} {e : Nat} (c : t = 0 ↔ t2 = 0) : qD t e = qD t2 e := by
  unfold qD
  by_cases d : t = 0
  · rw [if_pos d, if_pos (c.mp d)]
  · rw [if_neg d, if_neg fun z => d (c.mpr z)]
theorem mD_eq {t t2 : Int} {e : Nat} (c : t = 0 ↔ t2 = 0) : mD t e = mD t2 e := by
  unfold mD
  by_cases d : t = 0
  · rw [if_pos d, if_pos (c.mp d)]
  · rw [if_neg d, if_neg fun z => d (c.mpr z)]
theorem endV_dp {K : PySem.W.Frag} {H : Hp} {p : Addr} {t t2 : Int} {e : Nat} (h : H p = some (.tup [.int t, .int e, qV t2 e, mV t2 e])) (c : t = 0 ↔ t2 = 0) : Dp K H (.ref p) (endD t e) := by
  refine .tup (SqT.of h) (.cons (.int _) (.cons (.int _) (.cons ?_ (.cons ?_ .nil))))
  · rw [qD_eq c]
    exact qV_dp t2 e
  · rw [mD_eq c]
    exact mV_dp t2 e
theorem ended_ne {K : PySem.W.Frag} {H : Hp} {p p2 : Addr} {t t2 t3 : Int} {e : Nat} {Q : VK} (h : H p = some (.tup (endV t e))) (h2 : H p2 = some (.tup [.int t3, .int e, qV t2 e, mV t2 e])) (et : t3 = t) (c : t = 0 ↔ t2 = 0) (q : Q (.bl false) H) : rNeD K (.ref p) (.ref p2) H Q := by
  subst et
  refine ⟨endD t3 e, endD t3 e, endV_dp h Iff.rfl, endV_dp h2 c, endD_ok _ _, endD_ok _ _, ?_⟩
  rw [shaped_self (endD_ok _ _)]
  exact q
theorem texts_dp {K : PySem.W.Frag} {H : Hp} {p : Addr} {a b c : Str} (h : H p = some (.lst [.str a, .str b, .str c])) : Dp K H (.ref p) (.list [.str a, .str b, .str c]) :=
  .lst (SqL.of h) (.cons (.str _) (.cons (.str _) (.cons (.str _) .nil)))
theorem tx_ok {l : List Nat} (h : Sw.Ok l) : PyData.strOk (tx l) = true := by
  unfold PyData.strOk
  rw [← Array.all_toList, tx_tl, List.all_eq_true]
  intro c hc
  obtain ⟨d, hd, rfl⟩ := List.mem_map.mp hc
  have := h.lt d hd
  exact decide_eq_true (by omega)
theorem texts_ok {a b c : List Nat} (ha : Sw.Ok a) (hb : Sw.Ok b) (hc : Sw.Ok c) : SeqAt.shaped (.list [.str (tx a), .str (tx b), .str (tx c)]) = true := by simp [SeqAt.shaped, PyData.canLay0, PyData.canLayAll0, PyData.depth, PyData.depthAll, tx_ok ha, tx_ok hb, tx_ok hc]
theorem texts_ne {K : PySem.W.Frag} {H : Hp} {p p2 : Addr} {a b c : List Nat} {Q : VK} (ha : Sw.Ok a) (hb : Sw.Ok b) (hc : Sw.Ok c) (h : H p = some (.lst [.str (tx a), .str (tx b), .str (tx c)])) (h2 : H p2 = some (.lst [.str (tx a), .str (tx b), .str (tx c)])) (q : Q (.bl false) H) : rNeD K (.ref p) (.ref p2) H Q := by
  refine ⟨_, _, texts_dp h, texts_dp h2, texts_ok ha hb hc, texts_ok ha hb hc, ?_⟩
  rw [shaped_self (texts_ok ha hb hc)]
  exact q
theorem pair_ne {K : PySem.W.Frag} {H : Hp} {p p2 : Addr} {a b : Int} {Q : VK} (h : H p = some (.tup [.int a, .int b])) (h2 : H p2 = some (.tup [.int a, .int b])) (q : Q (.bl false) H) : rNeD K (.ref p) (.ref p2) H Q := by
  refine ⟨.tuple [.int a, .int b], .tuple [.int a, .int b], .tup (SqT.of h) (.cons (.int _) (.cons (.int _) .nil)), .tup (SqT.of h2) (.cons (.int _) (.cons (.int _) .nil)), rfl, rfl, ?_⟩
  rw [shaped_self rfl]
  exact q
theorem QuV.is {l : List Nat} {v : V} {e : Nat} (h : QuV l v) (E : Sw.En l e) : v = qV (Sw.tn l) e := by
  unfold qV
  rcases h with ⟨c, rfl⟩ | ⟨c, q, hq, rfl⟩
  · rw [if_neg c]
  · rw [if_pos c, hq.inj (E.1 c)]
theorem MoV.is {l : List Nat} {v : V} {e : Nat} (h : MoV l v) (E : Sw.En l e) : v = mV (Sw.tn l) e := by
  unfold mV
  rcases h with ⟨c, rfl⟩ | ⟨c, q, hq, rfl⟩
  · rw [if_pos c]
  · rw [if_neg c, hq.inj (E.2 c)]
section
variable {P : Program} {w : World} {K : PySem.W.Frag} {mg : Str → Option Value} {base : Heap}
theorem scEnded : FnScope ["_law_text_here"] ["_law_text_here"] (defScope (top 45)) := ⟨rfl, rfl, rfl, by decide +kernel, rfl, by decide +kernel, by decide +kernel⟩
def spEnded : Sp := fun vs H Q _ => ∃ l, vs = [.str (tx l)] ∧ Sw.Ok l ∧ l.length ≤ 900 ∧ ∀ (e : Nat) H' p, Sw.En l e → Same H H' → H p = none → H' p = some (.tup (endV (Sw.tn l) e)) → Q (.ref p) H'
theorem ok_ended (T : Txt K mg) : C8.Cal P w K mg base 9 "_law_ended" spEnded [] := by
  refine cal_of T.g_l_ended T.d_l_ended scEnded (ps := ["_law_text_here"]) (fun _ _ _ _ _ _ us hl => match us, hl with | [_], _ => rfl) (fun vs H Q E h => ?_) (fun cdv A outer s H vs Q E hr h => ?_)
  · obtain ⟨l, rfl, _⟩ := h
    rfl
  · obtain ⟨l, rfl, ok, hlen, q⟩ := h
    refine ⟨_, pss_one (ps_ret (pe_tup (pa_cons (pe_ix ix_tup (pe_f (ok_end_of T) hr (pa_cons (pv 0) pa_nil)) pe_int (fun _ _ => rfl)) (pa_cons (pe_ix ix_tup (pe_f (ok_end_of T) hr (pa_cons (pv 0) pa_nil)) pe_int (fun _ _ => rfl))
      (pa_cons (pe_f (ok_quiet_after T) hr (pa_cons (pv 0) pa_nil)) (pa_cons (pe_f (ok_moving_from T) hr (pa_cons (pv 0) pa_nil)) pa_nil)))))), ?_⟩
    refine ⟨_, rfl, l, rfl, ok, hlen, fun e H1 p E s1 np hp => ⟨p, _, 0, .int (Sw.tn l), rfl, rfl, SqT.of hp, rfl, ?_⟩⟩
    refine ⟨_, rfl, l, rfl, ok, hlen, fun e2 H2 p2 E2 s2 np2 hp2 => ⟨p2, _, 1, .int e2, rfl, rfl, SqT.of hp2, rfl, ?_⟩⟩
    obtain rfl := E.inj E2
    refine ⟨_, rfl, l, rfl, ok, hlen, fun v1 H3 hv1 s3 => ?_⟩
    refine ⟨_, rfl, l, rfl, ok, hlen, fun v2 H4 hv2 s4 => ⟨by rw [sizeLine_eq]; show 4 ≤ 16777216; decide, fun p5 hp5 => ?_⟩⟩
    have s14 := ((s1.trans s2).trans s3).trans s4
    rw [hv1.is E, hv2.is E]
    exact q e _ p5 E (same_last s14 hp5) (s14.free hp5) upd_same
end
end SwP
/-! The law's own defs, 6: what the law asks of a text. -/
namespace SwP
open PySem PySem.Spec PyProof.Rows L2
theorem ended_on {K : PySem.W.Frag} {H0 H : Hp} {p p2 : Addr} {t t2 t3 : Int} {e : Nat} {Q : VK} (s : Same H0 H) (h : H p = some (.tup (endV t e))) (n : H p2 = none) (et : t3 = t) (c : t = 0 ↔ t2 = 0) (q : ∀ H', Same H0 H' → Q (.bl false) H') :
    rNeD K (.ref p) (.ref p2) (upd H p2 (.tup [.int t3, .int e, qV t2 e, mV t2 e])) Q := ended_ne (same_new n _ _ h) upd_same et c (q _ (same_last s n))
theorem texts_on {K : PySem.W.Frag} {H0 H : Hp} {p p2 : Addr} {a b c : List Nat} {Q : VK} (ha : Sw.Ok a) (hb : Sw.Ok b) (hc : Sw.Ok c) (s : Same H0 H) (h : H p = some (.lst [.str (tx a), .str (tx b), .str (tx c)])) (n : H p2 = none) (q : ∀ H', Same H0 H' → Q (.bl false) H') :
    rNeD K (.ref p) (.ref p2) (upd H p2 (.lst [.str (tx a), .str (tx b), .str (tx c)])) Q := texts_ne ha hb hc (same_new n _ _ h) upd_same (q _ (same_last s n))
theorem pair_on {K : PySem.W.Frag} {H0 H : Hp} {p p2 : Addr} {a b a2 b2 : Int} {Q : VK} (s : Same H0 H) (h : H p = some (.tup [.int a, .int b])) (n : H p2 = none) (ea : a2 = a) (eb : b2 = b) (q : ∀ H', Same H0 H' → Q (.bl false) H') :
    rNeD K (.ref p) (.ref p2) (upd H p2 (.tup [.int a2, .int b2])) Q := by
  subst ea eb
  exact pair_ne (same_new n _ _ h) upd_same (q _ (same_last s n))
theorem both {u : TT} {σ : L2.St} {H : Hp} {Q : Bool → Hp → Prop} {c : Bool} (k : c = true → (∀ H', Same H H' → Q false H') → u σ H Q) (r : ∀ H', Same H H' → Q false H') : if c = true then u σ H Q else Q false H := by
  cases c with
  | true => exact k rfl r
  | false => exact r H (Same.refl _)
theorem mk_fin {K : PySem.W.Frag} {H : Hp} {x dx : Addr} {Q : Hp → Prop} {E : XK} (hx : H x = none) (hdx : H dx = none) (hne : dx ≠ x) (q : ∀ H', Same H H' → RuleAt K H' x → Q H') :
    spInit K (.ref x :: ([.str "0111"] ++ [.int 1])) (upd (upd H dx (.own x)) x (.ins (cR K) dx [])) (fun v H2 => v = .non ∧ Q H2) E := by
  refine ⟨x, dx, rfl, hne, upd_same, ⟨_, by rw [upd_ne hne, upd_same]⟩, fun H' k e1 e2 => ⟨rfl, q H' (fun b o e => ?_) ⟨dx, e1, e2⟩⟩⟩
  refine k b o (ne_of_none e hx) (ne_of_none e hdx) ?_
  rw [upd_ne (ne_of_none e hx), upd_ne (ne_of_none e hdx)]
  exact e
section
variable {P : Program} {w : World} {K : PySem.W.Frag} {mg : Str → Option Value} {base : Heap}
theorem zero_rn {l : List Nat} {e m : Nat} (ok : Sw.Ok l) (E : Sw.En l e) (z : Sw.tn l = 0) (h : e ≤ m) : Sw.rn m l = List.replicate l.length 0 := by
  have c := (Sw.zero_list ok m).mp ((E.1 z m).mp h)
  rw [List.eq_replicate_iff]
  exact ⟨Sw.rn_len m l, c⟩
abbrev nR : List Str := ["_law_bag_here", "_law_text_here", "_law_number", "_law_many", "_law_quiet", "_law_moving", "_law_places", "_law_times", "_law_late", "_law_stand", "_law_found", "_law_some", "_law_further"]
theorem scRt : FnScope nR ["_law_bag_here", "_law_text_here"] (defScope (top 46)) := ⟨rfl, rfl, rfl, by decide +kernel, rfl, by decide +kernel, by decide +kernel⟩
def spRt : Sp := fun vs H Q _ => ∃ (b d : Addr) (ns : List Int) (l : List Nat), vs = [.ref b, .str (tx l)] ∧ Bag H b d ns ∧ Sw.Ok l ∧ l.length ≤ 13 ∧ ∀ H', Keep b H H' → Bag H' b d ns → Q (.bl true) H'
theorem ok_right (T : Txt K mg) : C8.Cal P w K mg base 10 "_law_right" spRt [] := by
  refine cal_of T.g_l_right T.d_l_right scRt (ps := ["_law_bag_here", "_law_text_here"]) (fun _ _ _ _ _ _ us hl => match us, hl with | [_, _], _ => rfl) (fun vs H Q E h => ?_) (fun cdv A outer s H vs Q E hr h => ?_)
  · obtain ⟨b, d, ns, l, rfl, _⟩ := h
    rfl
  · obtain ⟨b, bd, bn, l, rfl, g, ok, hl, q⟩ := h
    have hlen : l.length ≤ 900 := by omega
    refine ⟨_, pss_cons (ps_asg (pe_f (ok_ended T) hr (pa_cons (pv 1) pa_nil)) (pg_tup (by rfl) (pgs_cons (pg_name (i := 2) scRt.nd rfl (Or.inl rfl)) (pgs_cons (pg_name (i := 3) scRt.nd rfl (Or.inl rfl)) (pgs_cons (pg_name (i := 4) scRt.nd rfl (Or.inl rfl)) (pgs_cons (pg_name (i := 5) scRt.nd rfl (Or.inl rfl)) pgs_nil))))))
      (pss_cons (ps_par3 (i := 6) (j := 7) (l := 8) (by rfl) scRt.nd rfl rfl rfl (by decide) (by decide) (by decide) rfl rfl rfl
        (pa_cons (pe_op op_sub (pe_f (ok_take T) hr (pa_cons (pv 0) (pa_cons pe_int pa_nil))) pe_int) (pa_cons (pe_op op_add pe_int (pe_f (ok_take T) hr (pa_cons (pv 0) (pa_cons pe_int pa_nil))))
          (pa_cons (pe_op op_add (pe_f (ok_wide T) hr (pa_cons (pv 0) (pa_cons pe_int pa_nil))) (pe_f (ok_take T) hr (pa_cons (pv 0) (pa_cons pe_int pa_nil)))) pa_nil))) (by rfl))
      (pss_cons (ps_if (pt_cmpR (op_neD hr.units) (pe_f (ok_ended T) hr (pa_cons (pe_f (ok_turned_by T) hr (pa_cons (pv 1) (pa_cons (pv 6) pa_nil))) pa_nil)) (pe_tup (pa_cons (pv 2) (pa_cons (pv 3) (pa_cons (pv 4) (pa_cons (pv 5) pa_nil))))) (nomark _)) (pss_one (ps_ret pe_bl)) pss_nil)
      (pss_cons (ps_if (pt_cmpR (op_neD hr.units) (pe_f (ok_ended T) hr (pa_cons (pe_f (ok_mirror_of T) hr (pa_cons (pv 1) pa_nil)) pa_nil)) (pe_tup (pa_cons (pe_op op_sub pe_int (pv 2)) (pa_cons (pv 3) (pa_cons (pv 4) (pa_cons (pv 5) pa_nil))))) (nomark _)) (pss_one (ps_ret pe_bl)) pss_nil)
      (pss_cons (ps_if (pt_cmpR (op_neD hr.units) (pe_f (ok_ended T) hr (pa_cons (pe_op SwR.op_rep_str (pv 1) (pv 7)) pa_nil)) (pe_tup (pa_cons (pe_op op_mul (pv 7) (pv 2)) (pa_cons (pv 3) (pa_cons (pv 4) (pa_cons (pv 5) pa_nil))))) (nomark _)) (pss_one (ps_ret pe_bl)) pss_nil)
      (pss_cons (ps_set (i := 9) scRt.nd rfl (Or.inl rfl) (pe_f (ok_late_stand T) hr (pa_cons (pv 1) (pa_cons (pv 8) pa_nil))))
      (pss_cons (ps_set (i := 10) scRt.nd rfl (Or.inl rfl) (pe_lst (pa_cons (pe_f (ok_late_stand T) hr (pa_cons (pe_f (ok_turned_by T) hr (pa_cons (pv 1) (pa_cons (pv 6) pa_nil))) (pa_cons (pv 8) pa_nil)))
        (pa_cons (pe_f (ok_late_stand T) hr (pa_cons (pe_f (ok_mirror_of T) hr (pa_cons (pv 1) pa_nil)) (pa_cons (pv 8) pa_nil))) pa_nil))))
      (pss_cons (ps_expr (pe_bm PySem.F.plainAttrs_list PySem.F.slot_list_append PySem.F.type_list_append mt_append (pv 10) (pa_cons (pe_f (ok_late_stand T) hr (pa_cons (pe_op SwR.op_rep_str (pv 1) (pv 7)) (pa_cons (pv 8) pa_nil))) pa_nil)))
      (pss_cons (ps_if (pt_cmpR (op_neD hr.units) (pv 10) (pe_lst (pa_cons (pe_f (ok_turned_by T) hr (pa_cons (pv 9) (pa_cons (pv 6) pa_nil))) (pa_cons (pe_f (ok_mirror_of T) hr (pa_cons (pv 9) pa_nil)) (pa_cons (pe_op SwR.op_rep_str (pv 9) (pv 7)) pa_nil)))) (nomark _)) (pss_one (ps_ret pe_bl)) pss_nil)
      (pss_cons (ps_set (i := 11) scRt.nd rfl (Or.inl rfl) (pe_f (ok_take T) hr (pa_cons (pv 0) (pa_cons pe_int pa_nil))))
      (pss_cons (ps_set (i := 12) scRt.nd rfl (Or.inl rfl) (pe_f (ok_after T) hr (pa_cons (C8.pe_mk (mk_rule T) hr (by decide) (by rfl) (pa_cons pe_str pa_nil)) (pa_cons (pv 1) (pa_cons (pv 11) pa_nil)))))
      (pss_cons (ps_if (pt_cmpR (op_neD hr.units) (pe_slice sl_tup (pe_f (ok_ended T) hr (pa_cons (pv 12) pa_nil)) po_none (po_some pe_int)) (pe_tup (pa_cons (pv 2) (pa_cons (pe_callB (call_max2 rfl) (by rfl) T.n_max (by decide +kernel) (pa_cons pe_int (pa_cons (pe_op op_sub (pv 3) (pv 11)) pa_nil))) pa_nil))) (nomark _)) (pss_one (ps_ret pe_bl)) pss_nil)
      (pss_cons (ps_if (pt_cmpR op_ne (pe_f (ok_late_stand T) hr (pa_cons (pv 12) (pa_cons (pv 8) pa_nil))) (pe_f (ok_late_stand T) hr (pa_cons (pv 1) (pa_cons (pe_op op_add (pv 8) (pv 11)) pa_nil))) (nomark _)) (pss_one (ps_ret pe_bl)) pss_nil)
      (pss_cons (ps_if (PW.pt (pw_and (pt_cmpR op_lt (pe_callB call_len_str (by rfl) T.n_len boot_len (pa_cons (pv 1) pa_nil)) pe_int (nomark _)) (pw_and1 (pt_cmpR op_ne (pe_f (ok_still_from T) hr (pa_cons (C8.pe_mk (mk_rule T) hr (by decide) (by rfl) (pa_cons pe_str pa_nil)) (pa_cons (pv 1) pa_nil))) (pv 4) (nomark _))))) (pss_one (ps_ret pe_bl)) pss_nil)
      (pss_cons (ps_if (PW.pt (pw_and (pt_cmpR op_eq (pv 2) pe_int (nomark _)) (pw_and (pt_cmpR op_ge (pv 8) (pv 3) (nomark _)) (pw_and1 (pt_cmpR op_ne (pv 9) (pe_op SwR.op_rep_str pe_str (pe_callB call_len_str (by rfl) T.n_len boot_len (pa_cons (pv 1) pa_nil))) (nomark _)))))) (pss_one (ps_ret pe_bl)) pss_nil)
      (pss_one (ps_ret (pe_cmpR op_eq (pe_f (ok_turning_number T) hr (pa_cons (C8.pe_mk (mk_rule T) hr (by decide) (by rfl) (pa_cons pe_str pa_nil)) (pa_cons (pv 1) pa_nil))) (pv 2) (nomark _)))))))))))))))))), ?_⟩
    have four : (4 : Nat) ≤ sizeLine := by rw [sizeLine_eq]; decide
    refine ⟨_, rfl, l, rfl, ok, hlen, fun e H1 p E s1 np hp => ?_⟩
    refine ⟨p, _, rfl, SqT.of hp, rfl, _, _, rfl, _, _, rfl, _, _, rfl, _, _, rfl, rfl, ?_⟩
    refine ⟨_, rfl, b, bd, bn, 30, rfl, by decide, by decide, g.same s1, fun v1 H2 hv1 k2 g2 => ⟨_, _, rfl, rfl, ?_⟩⟩
    refine ⟨_, rfl, b, bd, bn, 3, rfl, by decide, by decide, g2, fun v2 H3 hv2 k3 g3 => ⟨_, _, rfl, rfl, ?_⟩⟩
    refine ⟨_, rfl, b, bd, bn, rfl, g3, fun v3 H4 k4 g4 => ?_⟩
    refine ⟨_, rfl, b, bd, bn, 9, rfl, by decide, by decide, g4, fun v4 H5 hv4 k5 g5 => ⟨_, _, rfl, rfl, ?_⟩⟩
    have k15 := (((Same.keep s1).trans k2).trans k3).trans (k4.trans k5)
    refine ⟨_, _, _, rfl, ?_⟩
    have e3 : ((v3 : Int) + (v4 : Int)) = ((v3 + v4 : Nat) : Int) := by omega
    have e2 : (1 : Int) + (v2 : Int) = ((v2 + 1 : Nat) : Int) := by omega
    have st : ∀ (pl : Int) (la k : Nat), 0 < k → k ≤ 3 → [some (V.ref b), some (.str (tx l)), some (.int (Sw.tn l)), some (.int e), some (qV (Sw.tn l) e), some (mV (Sw.tn l) e), some (.int pl), some (.int k), some (.int la), none, none, none, none] = [some (V.ref b), some (.str (tx l)), some (.int (Sw.tn l)), some (.int e), some (qV (Sw.tn l) e), some (mV (Sw.tn l) e), some (.int pl), some (.int k), some (.int la), none, none, none, none] := fun _ _ _ _ _ => rfl
    show tSeq _ _ _ [some (V.ref b), some (.str (tx l)), some (.int (Sw.tn l)), some (.int e), some (qV (Sw.tn l) e), some (mV (Sw.tn l) e), some (.int ((v1 : Int) - 9)), some (.int ((1 : Int) + (v2 : Int))), some (.int ((v3 : Int) + (v4 : Int))), none, none, none, none] H5
    rw [e3, e2]
    generalize (v1 : Int) - 9 = pl
    have k0 : 0 < v2 + 1 := Nat.succ_pos _
    have k3' : v2 + 1 ≤ 3 := by omega
    generalize v2 + 1 = k at k0 k3'
    generalize v3 + v4 = la
    clear e3 e2 st
    have okt := Sw.turn_ok ok pl
    have okm := Sw.mir_ok ok
    have okr := Sw.rep_ok ok k0
    have lt : (Sw.turn pl l).length ≤ 900 := by rw [Sw.turn_len]; exact hlen
    have lm : (Sw.mir l).length ≤ 900 := by rw [Sw.mir_len]; exact hlen
    have lr : (Sw.rep k l).length ≤ 900 := by
      rw [Sw.rep_len]
      have := Nat.mul_le_mul k3' hl
      omega
    have repB : ∀ {z : List Nat}, z.length ≤ 13 → -(2 ^ 62) ≤ (k : Int) ∧ (k : Int) < 2 ^ 30 ∧ (tx z).length * ((k : Int)).toNat ≤ 16777216 := fun {z} hz => by
      refine ⟨by omega, by omega, ?_⟩
      rw [tx_len, Int.toNat_natCast]
      have := Nat.mul_le_mul hz k3'
      omega
    -- turned
    refine ⟨_, rfl, _, rfl, l, pl, rfl, ok, hlen, ?_⟩
    refine ⟨Sw.turn pl l, rfl, okt, lt, fun f1 H6 p6 F1 s6 n6 h6 => ⟨_, rfl, _, rfl, _, rfl, _, rfl, four, fun q6 hq6 => ?_⟩⟩
    obtain rfl := (E.turn ok pl).inj F1
    rw [Sw.tn_turn ok] at h6
    refine ended_on s6 h6 hq6 rfl Iff.rfl fun H7 t7 => ⟨_, rfl, iteF ?_⟩
    clear s6 n6 h6 hq6
    -- mirrored
    refine ⟨_, rfl, l, rfl, hlen, ?_⟩
    refine ⟨Sw.mir l, rfl, okm, lm, fun f2 H8 p8 F2 s8 n8 h8 => ⟨_, rfl, _, _, rfl, rfl, _, rfl, _, rfl, _, rfl, four, fun q8 hq8 => ?_⟩⟩
    obtain rfl := (E.mir ok).inj F2
    refine ended_on s8 h8 hq8 (by rw [Sw.tn_mir ok]; omega) (by rw [Sw.tn_mir ok]; omega) fun H9 t9 => ⟨_, rfl, iteF ?_⟩
    clear s8 n8 h8 hq8
    -- repeated
    obtain ⟨kb1, kb2, kb3⟩ := repB hl
    refine ⟨_, rfl, _, rfl, tx l, (k : Int), rfl, rfl, kb1, kb2, kb3, ?_⟩
    rw [tx_rep, Int.toNat_natCast]
    refine ⟨Sw.rep k l, rfl, okr, lr, fun f3 H10 p10 F3 s10 n10 h10 => ⟨_, rfl, _, rfl, _, _, rfl, rfl, .inl ⟨by omega, by omega⟩, _, rfl, _, rfl, _, rfl, four, fun q10 hq10 => ?_⟩⟩
    obtain rfl := (E.rep ok k0).inj F3
    refine ended_on s10 h10 hq10 (by rw [Sw.tn_rep ok k0]) (by rw [Sw.tn_rep ok k0, Int.mul_eq_zero]; omega) fun H11 t11 => ⟨_, rfl, iteF ?_⟩
    clear s10 n10 h10 hq10
    have t5 := (t7.trans t9).trans t11
    clear t7 t9 t11
    -- stands
    refine ⟨_, rfl, _, rfl, l, la, rfl, ok, hlen, fun H12 s12 => ?_⟩
    refine ⟨_, rfl, _, rfl, l, pl, rfl, ok, hlen, _, rfl, Sw.turn pl l, la, rfl, okt, lt, fun H13 s13 => ?_⟩
    refine ⟨_, rfl, l, rfl, hlen, _, rfl, Sw.mir l, la, rfl, okm, lm, fun H14 s14 => ⟨by rw [sizeLine_eq]; show 2 ≤ 16777216; decide, fun f nf => ?_⟩⟩
    have t14 := ((t5.trans s12).trans s13).trans s14
    clear s12 s13 s14 t5
    have n5 := t14.free nf
    refine ⟨_, rfl, .inl ⟨rfl, _, SqL.of upd_same⟩, _, rfl, _, rfl, tx l, (k : Int), rfl, rfl, kb1, kb2, kb3, ?_⟩
    rw [tx_rep, Int.toNat_natCast]
    refine ⟨_, rfl, Sw.rep k l, la, rfl, okr, lr, fun H15 s15 => ⟨f, _, _, rfl, rfl, s15 _ _ upd_same, by rw [sizeLine_eq]; show 2 < 16777216; decide, ?_⟩⟩
    have t15 := (same_last t14 nf).trans s15
    have t16 : Same H5 (upd H15 f (.lst [.str (tx (Sw.rn la (Sw.turn pl l))), .str (tx (Sw.rn la (Sw.mir l))), .str (tx (Sw.rn la (Sw.rep k l)))])) := fun z o ez => by
      rw [upd_ne (ne_of_none ez n5)]
      exact t15 z o ez
    have h16 : (upd H15 f (.lst [.str (tx (Sw.rn la (Sw.turn pl l))), .str (tx (Sw.rn la (Sw.mir l))), .str (tx (Sw.rn la (Sw.rep k l)))])) f = some (.lst [.str (tx (Sw.turn pl (Sw.rn la l))), .str (tx (Sw.mir (Sw.rn la l))), .str (tx (Sw.rep k (Sw.rn la l)))]) := by
      rw [← Sw.rn_turn ok, ← Sw.rn_mir ok, ← Sw.rn_rep ok k0]
      exact upd_same
    show tSeq _ _ _ [some (V.ref b), some (.str (tx l)), some (.int (Sw.tn l)), some (.int e), some (qV (Sw.tn l) e), some (mV (Sw.tn l) e), some (.int pl), some (.int k), some (.int la), some (.str (tx (Sw.rn la l))), some (.ref f), none, none] (upd H15 f (.lst [.str (tx (Sw.rn la (Sw.turn pl l))), .str (tx (Sw.rn la (Sw.mir l))), .str (tx (Sw.rn la (Sw.rep k l)))]))
    generalize (upd H15 f (.lst [.str (tx (Sw.rn la (Sw.turn pl l))), .str (tx (Sw.rn la (Sw.mir l))), .str (tx (Sw.rn la (Sw.rep k l)))])) = H16 at t16 h16
    clear t14 nf s15 t15
    -- the same as the stand so moved
    have oks := Sw.rn_ok ok la
    have ls : (Sw.rn la l).length ≤ 900 := by rw [Sw.rn_len]; exact hlen
    have ls13 : (Sw.rn la l).length ≤ 13 := by rw [Sw.rn_len]; exact hl
    obtain ⟨kc1, kc2, kc3⟩ := repB ls13
    refine ⟨_, rfl, _, rfl, _, rfl, Sw.rn la l, pl, rfl, oks, ls, _, rfl, Sw.rn la l, rfl, ls, _, rfl, _, rfl, tx (Sw.rn la l), (k : Int), rfl, rfl, kc1, kc2, kc3, ?_⟩
    rw [tx_rep, Int.toNat_natCast]
    refine ⟨by rw [sizeLine_eq]; show 3 ≤ 16777216; decide, fun q17 hq17 => ?_⟩
    refine texts_on (Sw.turn_ok oks pl) (Sw.mir_ok oks) (Sw.rep_ok oks k0) t16 h16 hq17 fun H17 t17 => ⟨_, rfl, iteF ?_⟩
    clear h16 hq17
    -- further on
    refine ⟨_, rfl, b, bd, bn, 12, rfl, by decide, by decide, g5.same t17, fun v5 H18 hv5 k18 g18 => ?_⟩
    have k58 : Keep b H H18 := (k15.trans (Same.keep t17)).trans k18
    clear t16 t17 k18 g2 g3 g4 g5 k2 k3 k4 k5 k15
    intro a1 dx1 hx1 hdx1 hne1
    refine mk_fin hx1 hdx1 hne1 fun H19 s19 ra1 => ⟨_, rfl, _, rfl, a1, l, v5, rfl, ra1, ok, hlen, by omega, fun H20 s20 => ?_⟩
    show tSeq _ _ _ [some (V.ref b), some (.str (tx l)), some (.int (Sw.tn l)), some (.int e), some (qV (Sw.tn l) e), some (mV (Sw.tn l) e), some (.int pl), some (.int k), some (.int la), some (.str (tx (Sw.rn la l))), some (.ref f), some (.int v5), some (.str (tx (Sw.rn v5 l)))] H20
    have t20 := s19.trans s20
    clear s19 s20 ra1
    have okf := Sw.rn_ok ok v5
    have lf : (Sw.rn v5 l).length ≤ 900 := by rw [Sw.rn_len]; exact hlen
    refine ⟨_, rfl, Sw.rn v5 l, rfl, okf, lf, fun f4 H21 p21 F4 s21 n21 h21 => ?_⟩
    obtain rfl := (E.rn ok v5).inj F4
    refine ⟨2, rfl, p21, _, rfl, SqT.of h21, by show ¬(HT.sIx 4 0 none = 0 ∧ HT.sIx 4 4 (some 2) = 4); decide, fun p22 hp22 => ?_⟩
    refine ⟨_, rfl, _, rfl, _, rfl, _, _, rfl, rfl, _, _, rfl, by rw [sizeLine_eq]; show 2 ≤ 16777216; decide, fun p23 hp23 => ?_⟩
    have em : (if (e : Int) - (v5 : Int) > 0 then (e : Int) - (v5 : Int) else 0) = ((e - v5 : Nat) : Int) := by split <;> omega
    have t22 : Same H18 (upd H21 p22 (.tup (cutV (endV (Sw.tn (Sw.rn v5 l)) (e - v5)) none (some 2)))) := same_last (t20.trans s21) hp22
    have h22 : (upd H21 p22 (.tup (cutV (endV (Sw.tn (Sw.rn v5 l)) (e - v5)) none (some 2)))) p22 = some (.tup [.int (Sw.tn l), .int (e - v5 : Nat)]) := by
      rw [upd_same, Sw.tn_rn ok]
      rfl
    refine pair_on t22 h22 hp23 rfl em fun H23 t23 => ⟨_, rfl, iteF ?_⟩
    clear t22 h22 hp23 hp22 h21 n21 s21 t20
    -- late, then or now
    refine ⟨_, rfl, _, rfl, Sw.rn v5 l, la, rfl, okf, lf, fun H24 s24 => ?_⟩
    refine ⟨_, rfl, _, rfl, _, rfl, _, _, rfl, rfl, l, la + v5, rfl, ok, hlen, fun H25 s25 => ⟨rfl, _, rfl, ?_⟩⟩
    rw [dec_tx, Sw.rn_add ok, decide_eq_true rfl]
    refine iteF ?_
    have t25 := (t23.trans s24).trans s25
    clear t23 s24 s25
    -- still from
    refine ⟨_, rfl, tx l, rfl, tx_line (by omega), _, _, rfl, rfl, _, rfl, both (fun _ rest => ?_) (fun H26 t26 => iteF ?_)⟩
    · intro a2 dx2 hx2 hdx2 hne2
      refine mk_fin hx2 hdx2 hne2 fun H26 s26 ra2 => ⟨_, rfl, a2, l, rfl, ra2, ok, hlen, fun v H27 hv s27 => ⟨_, rfl, ?_, _, rfl, ?_⟩⟩
      · rw [hv.is E]
        unfold qV
        split <;> rfl
      · rw [hv.is E, decide_eq_true rfl]
        exact rest H27 (s26.trans s27)
    · replace t26 := t25.trans t26
      refine ⟨_, rfl, rfl, _, rfl, both (fun c rest => ?_) (fun H27 t27 => iteF ?_)⟩
      · have z : Sw.tn l = 0 := V.int.inj (of_decide_eq_true c)
        refine ⟨_, rfl, _, rfl, _, _, rfl, rfl, _, rfl, both (fun c2 rest2 => ?_) rest⟩
        have le : e ≤ la := by
          have := of_decide_eq_true c2
          omega
        refine ⟨_, rfl, _, rfl, tx l, rfl, tx_line (by omega), "0", ((tx l).length : Int), rfl, rfl, by omega, by rw [tx_len]; omega, ?_, rfl, _, rfl, ?_⟩
        · rw [nul_tx, tx_len, tx_len]
          show 1 * ((l.length : Int)).toNat ≤ 16777216
          omega
        · rw [nul_tx, tx_rep, Int.toNat_natCast, rep_one, dec_tx, tx_len, zero_rn ok E z le, decide_eq_true rfl]
          exact rest2 _ (Same.refl _)
      · replace t27 := t26.trans t27
        intro a3 dx3 hx3 hdx3 hne3
        refine mk_fin hx3 hdx3 hne3 fun H28 s28 ra3 => ⟨_, rfl, a3, l, rfl, ra3, ok, hlen, fun H29 s29 => ⟨_, rfl, rfl, ?_⟩⟩
        rw [decide_eq_true rfl]
        have t29 := (t27.trans s28).trans s29
        exact q H29 (k58.trans (Same.keep t29)) (g18.same t29)
end
end SwP
/-! The law's own defs, 7: the law. -/
namespace SwP
open PySem PySem.Spec PyProof.Rows L2
theorem ints_all {K : PySem.W.Frag} {H : Hp} : ∀ ns : List Int, DpAll K H (ns.map V.int) (ns.map PyData.int)
  | [] => .nil
  | n :: ns => .cons (.int n) (ints_all ns)
theorem ints_dp {K : PySem.W.Frag} {H : Hp} {p : Addr} {ns : List Int} (h : SqL K H p (ns.map V.int)) : Dp K H (.ref p) (.list (ns.map PyData.int)) := .lst h (ints_all ns)
theorem ints_eqv (ns : List Int) : PyData.eqv (.list (ns.map .int)) (.list []) = decide (ns = []) := by
  cases ns with
  | nil => rfl
  | cons n ns => simp [PyData.eqv, PyData.eqvAll]
theorem tOr_both {u : TT} {σ : L2.St} {H : Hp} {Q : Bool → Hp → Prop} (k : u σ H Q) : if false = true then Q true H else u σ H Q := k
section
variable {P : Program} {w : World} {K : PySem.W.Frag} {mg : Str → Option Value} {base : Heap}
abbrev nW : List Str := ["_law_script", "_law_bag_here", "_law_turn", "_law_text_here", "_law_seats", "_law_other", "_law_seat"]
theorem scLaw : FnScope nW ["_law_script"] (defScope (top 47)) := ⟨rfl, rfl, rfl, by decide +kernel, rfl, by decide +kernel, by decide +kernel⟩
def spLaw (K : PySem.W.Frag) : Sp := fun vs H Q _ => ∃ (a : Addr) (ns : List Int), vs = [.ref a] ∧ SqL K H a (ns.map V.int) ∧ ns.length ≤ 63 ∧ ∀ H', Q (.bl true) H'
theorem ok_by {x q : Str} {st : Stmt} {f : Addr} {fd : FuncData} {N ps : List Str} {k : Nat} {sp : Sp} (F : FnP K x q st f fd) (S : FnScope N ps (defScope st))
    (len : ∀ vs H Q E, sp vs H Q E → vs.length = ps.length)
    (body : ∀ (cdv : Value) (A : Around) (outer : List Env) (s : Shared) (H : Hp) (vs : List V) (Q : VK) (E : XK), Room k (A.deeper (envOfC q (defScope st) s.heap.objs.size f cdv)) → sp vs H Q E →
      ∃ t, PSs (cxOf C8.CX0 P w K mg base N q (defScope st) f cdv A outer s H E).nox (defBody st) t ∧ t { nx := fun _ H' => Q .non H', rt := Q } (start N vs) H) : FnOk P w K mg base C8.CX0 (k + 1) f fd ps sp := F.ok S len fun cdv A outer s H vs Q E hr h => by
  obtain ⟨t, h1, h2⟩ := body cdv A outer s H vs Q E hr h
  exact ⟨t, PSs.nox h1, h2⟩
theorem ok_law (T : Txt K mg) {f : Addr} {fd : FuncData} (F : FnP K "law" "law" (top 47) f fd) : FnOk P w K mg base C8.CX0 11 f fd ["_law_script"] (spLaw K) := by
  refine ok_by F scLaw (fun vs H Q E h => ?_) (fun cdv A outer s H vs Q E hr h => ?_)
  · obtain ⟨a, ns, rfl, _⟩ := h
    rfl
  · obtain ⟨a, ns, rfl, hS, hns, q⟩ := h
    refine ⟨_, pss_cons (ps_set (i := 1) scLaw.nd rfl (Or.inl rfl) (pe_f (ok_bag T) hr (pa_cons (pv 0) pa_nil)))
      (pss_cons (ps_for PassesOwn.never rfl (pi_range1 (by rfl) T.n_range (pa_cons pe_int pa_nil)) (pg_name (i := 2) scLaw.nd rfl (Or.inl rfl))
        (pss_cons (ps_set (i := 3) scLaw.nd rfl (Or.inr rfl) (pe_f (ok_plain_text T) hr (pa_cons (pv 1) (pa_cons pe_int pa_nil))))
        (pss_cons (ps_if (pt_not (pt_val (pe_f (ok_right T) hr (pa_cons (pv 1) (pa_cons (pv 3) pa_nil))))) (pss_one (ps_ret pe_bl)) pss_nil)
        (pss_one (ps_if (pt_cmpR op_eq (pe_ix ix_tup (pe_f (ok_end_of T) hr (pa_cons (pv 3) pa_nil)) pe_int (fun _ _ => rfl)) pe_int (nomark _))
          (pss_cons (ps_set (i := 4) scLaw.nd rfl (Or.inl rfl) (pe_f (ok_last_standing T) hr (pa_cons (pv 3) pa_nil)))
          (pss_cons (ps_set (i := 5) scLaw.nd rfl (Or.inl rfl) (pe_callB cr_sortedI (by rfl) T.n_sorted (by decide +kernel) (pa_cons
            (pe_lc (own := [("_law_seat", 6)]) (g := gName 6) (tt := tYes) rfl scLaw.nd (pi_list (pv 4)) (blkOk_by (N := nW) (sc := defScope (top 47)) (by decide +kernel))
              (fun _ _ _ _ _ => pg_name (i := 6) scLaw.nd rfl (Or.inl rfl)) (fun _ _ _ _ _ => pts_nil)
              (fun _ _ _ _ _ => pe_op op_mod (pe_callTy call_int1 (by rfl) T.n_int boot_int (pa_cons (pe_op op_add (pv 6) pe_int) pa_nil)) (pe_callB call_len_str (by rfl) T.n_len boot_len (pa_cons (pv 3) pa_nil)))) pa_nil)))
          (pss_one (ps_if (PW.pt (pw_or (pt_cmpR (op_neD hr.units) (pe_f (ok_last_standing T) hr (pa_cons (pe_f (ok_turned_by T) hr (pa_cons (pv 3) (pa_cons pe_int pa_nil))) pa_nil)) (pv 5) (nomark _))
            (pw_or1 (pt_cmpR op_ne (pe_cmpR (op_eqD hr.units) (pv 4) (pe_lst pa_nil) (nomark _)) (pe_cmpR op_notIn_sign pe_str (pv 3) (by rfl)) (nomark _))))) (pss_one (ps_ret pe_bl)) pss_nil)))) pss_nil)))))
      (pss_one (ps_ret pe_bl))), ?_⟩
    refine ⟨_, rfl, a, ns, rfl, hS, hns, fun b bd bn H1 _ _ g1 => ?_⟩
    refine ⟨_, rfl, by decide, by decide, ?_⟩
    refine for_range (lo := 0) (n := 6) (fun i σ H' => ∃ s2 s3 s4 s5, σ = [some (.ref a), some (.ref b), s2, s3, s4, s5, none] ∧ Bag H' b bd bn)
      ⟨none, none, none, none, rfl, g1⟩ ?_ ?_
    · rintro i σ H2 hi ⟨u2, u3, u4, u5, rfl, g2⟩
      refine ⟨_, rfl, b, bd, bn, rfl, g2, fun l H3 ok hl k3 g3 => ?_⟩
      have hlen : l.length ≤ 900 := by omega
      refine ⟨_, rfl, _, rfl, b, bd, bn, l, rfl, g3, ok, hl, fun H4 k4 g4 => ⟨_, rfl, iteF ?_⟩⟩
      refine ⟨_, rfl, l, rfl, ok, hlen, fun e H5 p E s5 np hp => ⟨p, _, 0, .int (Sw.tn l), rfl, rfl, SqT.of hp, rfl, rfl, _, rfl, ite2 (fun c => ?_) (fun c => ?_)⟩⟩
      · have z : Sw.tn l = 0 := V.int.inj (of_decide_eq_true c)
        refine ⟨_, rfl, l, rfl, ok, hlen, z, fun e2 H6 p6 E2 s6 n6 h6 => ?_⟩
        obtain rfl := E.inj E2
        rw [show ((Sw.lastL l (e + 1)).map fun (i : Nat) => V.int i) = (((Sw.lastL l (e + 1)).map fun (i : Nat) => (i : Int)).map V.int) by rw [List.map_map]; rfl] at h6
        have p1 : (0 : Int) < ((tx l).length : Int) := by
          rw [tx_len]
          have := ok.pos
          omega
        refine ⟨_, rfl, p6, rfl, ⟨_, SqL.of h6⟩, fun D hD => ?_⟩
        refine lc_same (walk_list (K := K) (a := p6) (xs := ((Sw.lastL l (e + 1)).map fun (i : Nat) => (i : Int)).map V.int)) (fun _ => true) (fun i => .int (Sw.nx l.length ((Sw.lastL l (e + 1)).getD i 0))) hD ?_ (fun H7 s7 => s7.seq (SqL.of h6)) ?_ ?_
        · rw [List.length_map, List.length_map]
          have := Sw.lastL_len l (e + 1)
          omega
        · rintro i2 x H7 H8 Kc Ke hi2 s7 ⟨rfl, ex⟩ k1 k2
          rw [List.length_map, List.length_map] at hi2
          rw [List.getElem?_map, List.getElem?_map, getD_some hi2] at ex
          cases Option.some.inj ex
          refine ⟨rfl, yesT ?_⟩
          refine ⟨_, rfl, _, _, rfl, rfl, .inl ⟨_, rfl, _, rfl, tx l, rfl, tx_line (by omega), _, _, rfl, rfl, p1, ?_⟩⟩
          rw [tx_len]
          exact k1 rfl _ (Same.refl _)
        · intro H7 s7 e7
          rw [keep_all, List.length_map, List.length_map] at e7
          have e8 : H7 D = some (.lst (((Sw.lastL l (e + 1)).map (Sw.nx l.length)).map V.int)) := by
            rw [e7]
            congr 2
            apply List.ext_getElem?
            intro j
            rw [List.map_map, List.getElem?_map, List.getElem?_map]
            by_cases c : j < (Sw.lastL l (e + 1)).length
            · rw [List.getElem?_range c, getD_some c]
              rfl
            · rw [List.getElem?_eq_none (by rw [List.length_range]; omega), List.getElem?_eq_none (by omega)]
              rfl
          refine ⟨D, _, rfl, SqL.of e8, fun ns' q8 perm srt nq8 => ?_⟩
          have okt := Sw.turn_ok ok 1
          have lt : (Sw.turn 1 l).length ≤ 900 := by rw [Sw.turn_len]; exact hlen
          refine ⟨_, rfl, l, 1, rfl, ok, hlen, Sw.turn 1 l, rfl, okt, lt, by rw [Sw.tn_turn ok]; exact z, fun e3 H9 p9 E3 s9 n9 h9 => ?_⟩
          obtain rfl := (E.turn ok 1).inj E3
          rw [show ((Sw.lastL (Sw.turn 1 l) (e + 1)).map fun (i : Nat) => V.int i) = (((Sw.lastL (Sw.turn 1 l) (e + 1)).map fun (i : Nat) => (i : Int)).map V.int) by rw [List.map_map]; rfl] at h9
          rw [Sw.sorted_inj ((Sw.lastL_turn ok (e + 1)).trans perm.symm) (Sw.lastL_sorted _ _) srt] at h9
          have h6' := s9 _ _ (same_new nq8 _ _ (s7 _ _ h6))
          refine ⟨_, rfl, .list (ns'.map .int), .list (ns'.map .int), ints_dp (SqL.of h9), ints_dp (SqL.of (s9 _ _ upd_same)), PySem.W.ke_shaped_ints ns', PySem.W.ke_shaped_ints ns', ?_⟩
          rw [shaped_self (PySem.W.ke_shaped_ints ns')]
          refine ⟨_, rfl, iteF ?_⟩
          refine ⟨_, rfl, Nat.zero_le _, fun q10 nq10 => ⟨_, .list [], ints_dp (SqL.of (same_new nq10 _ _ h6')), .lst (SqL.of upd_same) .nil, PySem.W.ke_shaped_ints _, rfl, ?_⟩⟩
          rw [ints_eqv]
          refine ⟨_, rfl, 49, tx l, by rw [show ("1" : Str) = ⟨#[49]⟩ by decide +kernel], rfl, rfl, _, rfl, ?_⟩
          rw [one_in]
          have fin : decide (((Sw.lastL l (e + 1)).map fun (i : Nat) => (i : Int)) = []) = !decide (1 ∈ l) := by
            have h := Sw.lastL_nil ok e
            by_cases c : 1 ∈ l
            · rw [decide_eq_true c]
              refine decide_eq_false fun d => ?_
              exact h.mp (List.map_eq_nil_iff.mp d) c
            · rw [decide_eq_false c]
              refine decide_eq_true ?_
              rw [h.mpr c]
              rfl
          rw [fin, decide_eq_true rfl]
          refine iteF ⟨some (.int (0 + (i : Int))), some (.str (tx l)), some (.ref p6), some (.ref q8), rfl, ?_⟩
          have sa := (((s5.trans s6).trans s7).trans (same_new nq8)).trans s9
          exact (g4.same sa).same (same_new nq10)
      · exact ⟨some (.int (0 + (i : Int))), some (.str (tx l)), u4, u5, rfl, g4.same s5⟩
    · rintro σ H2 ⟨u2, u3, u4, u5, rfl, g2⟩
      exact q H2
end
end SwP
/-! The end: the law holds. -/
namespace SwP
open PySem PySem.Spec PyProof.Rows L2
theorem facts {P : Program} {w : World} {K : PySem.W.Frag} {h : Heap} {mg : Str → Option Value} {f : Addr} (X : K.In h) (G : h.Ns mainGlobals mg) (hfa : mg ("law" : Str) = some (.ref f)) (c : Says K) :
    ∃ fd : FuncData, (∀ (s : Shared) (v : Value), BindsTo s fd ⟨[v], []⟩ [("_law_script", v)]) ∧ ∀ base : Heap, K.In base → base.Ns mainGlobals mg → FnOk P w K mg base C8.CX0 11 f fd ["_law_script"] (spLaw K) := by
  have T := txt_of X G c
  obtain ⟨fd, F⟩ := T.d_law
  have e := hfa.symm.trans T.g_law
  cases e
  have b := FunD.bindsA (ps := ["_law_script"]) F fun _ _ _ _ _ _ us hl => match us, hl with | [_], _ => rfl
  exact ⟨fd, fun s v => b s [v] rfl, fun base _ _ => ok_law T F⟩
end SwP
open PySem PySem.W PySem.Calls PyProof.Rows
theorem PySem.Challenge.cw_standwaves_k67_whole_ends_of_turned_and_holds : PySem.Challenge.rw_standwaves_k67_whole_ends_of_turned_and.Holds := by
  w_on; o_law
  refine HandSHeadRun.head_any (r := OpenLaw.row PySem.Challenge.rw_standwaves_k67_whole_ends_of_turned_and) (q := view (OpenLaw.row PySem.Challenge.rw_standwaves_k67_whole_ends_of_turned_and).prog [47]) (H := SwP.hk) (ob := SwP.ob) (M := 3600) (loose := SwP.names) (d := HandSHeadRun.topDef (OpenLaw.row PySem.Challenge.rw_standwaves_k67_whole_ends_of_turned_and).prog 47) (kwd := []) SwP.ob_eq
    (by kernel_rfl) (fun s => by kernel_rfl) SwP.run (by kernel_rfl) (by kernel_rfl) (by kernel_rfl) (by rfl) (by first | assumption | decide +kernel) (by decide +kernel) ⟨rfl, rfl, rfl, rfl, rfl, by decide +kernel⟩ ?hw ?hc
  case hw => w_witness2
  case hc =>
    refine L2.walk_ofE (l := PySem.Challenge.rw_standwaves_k67_whole_ends_of_turned_and) (n := 63) (k := 11) (x := "_law_script") (CX := C8.CX0) rfl (by decide) (by kernel_rfl) ⟨rfl, by decide, by decide⟩ ?F (fun _ _ _ _ z => z)
    intro w mg fa h Y G hmg0
    obtain ⟨K, KX, c⟩ := Y
    have hmg : mg ("law" : PySem.Str) = some (.ref fa) := by
      have e : (HandSHeadRun.topDef (OpenLaw.row PySem.Challenge.rw_standwaves_k67_whole_ends_of_turned_and).prog 47).name = ("law" : PySem.Str) := by kernel_rfl
      rw [← e]
      exact hmg0
    obtain ⟨fd, hb, hF⟩ := SwP.facts (P := (PySem.Challenge.rw_standwaves_k67_whole_ends_of_turned_and).prog) (w := w) KX G hmg c
    exact ⟨K, fd, SwP.spLaw K, KX, hb, fun H a ns hl _ hS => ⟨a, ns, rfl, hS, hl, fun _ => rfl⟩, hF⟩
