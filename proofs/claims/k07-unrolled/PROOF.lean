import PyProof.Rows.All
import Wide.All
import OpenK.AllK
import Wide.FinOn
import PySem.Challenge.RW_meanhold_k07_whole_ways_unrolled
import HandS.ForMost
import HandS.ForExc
import HandS.Evl
import HandS.Gcd
import HandS.IsInst
import HandS.Zip
import HandS.Flow
import HandS.Style
import KE.KExcSuper
import PyProof.ReprLen
/-! Numbers as pairs in lowest terms; Euclid's turns; ways laid on a path. Plain Lean, no program. -/
set_option Elab.async false
namespace Mh

/-! ### numbers -/
/-- n divided by d in lowest terms, d above 0 -/
def numb (n d : Int) : Int × Int := (n / ((Nat.gcd n.natAbs d.natAbs : Nat) : Int), d / ((Nat.gcd n.natAbs d.natAbs : Nat) : Int))

theorem gcd_pos {n d : Int} (h : 0 < d) : 0 < Nat.gcd n.natAbs d.natAbs := Nat.gcd_pos_of_pos_right _ (by omega)

theorem numb_eq {a b k m : Int} (hb : 0 < b) (hm : 0 < m) (h : a * m = k * b) : numb a b = numb k m := by
  have g1 := gcd_pos (n := a) hb
  have g2 := gcd_pos (n := k) hm
  have hn : a.natAbs * m.natAbs = k.natAbs * b.natAbs := by rw [← Int.natAbs_mul, ← Int.natAbs_mul, h]
  have key : m.natAbs * Nat.gcd a.natAbs b.natAbs = b.natAbs * Nat.gcd k.natAbs m.natAbs := by
    rw [← Nat.gcd_mul_left, ← Nat.gcd_mul_left, Nat.mul_comm m.natAbs a.natAbs, hn, Nat.mul_comm k.natAbs b.natAbs, Nat.mul_comm m.natAbs b.natAbs]
  have kI : m * ((Nat.gcd a.natAbs b.natAbs : Nat) : Int) = b * ((Nat.gcd k.natAbs m.natAbs : Nat) : Int) := by
    have e1 : ((m.natAbs : Nat) : Int) = m := by omega
    have e2 : ((b.natAbs : Nat) : Int) = b := by omega
    have := congrArg (fun z : Nat => (z : Int)) key
    simp only [Int.natCast_mul, e1, e2] at this
    exact this
  generalize hG1 : ((Nat.gcd a.natAbs b.natAbs : Nat) : Int) = G1 at kI
  generalize hG2 : ((Nat.gcd k.natAbs m.natAbs : Nat) : Int) = G2 at kI
  have p1 : 0 < G1 := by rw [← hG1]; omega
  have p2 : 0 < G2 := by rw [← hG2]; omega
  have da : G1 ∣ a := by rw [← hG1]; exact Int.ofNat_dvd_left.mpr (Nat.gcd_dvd_left _ _)
  have db : G1 ∣ b := by rw [← hG1]; exact Int.ofNat_dvd_left.mpr (Nat.gcd_dvd_right _ _)
  have dk : G2 ∣ k := by rw [← hG2]; exact Int.ofNat_dvd_left.mpr (Nat.gcd_dvd_left _ _)
  have dm : G2 ∣ m := by rw [← hG2]; exact Int.ofNat_dvd_left.mpr (Nat.gcd_dvd_right _ _)
  obtain ⟨a', rfl⟩ := da
  obtain ⟨b', rfl⟩ := db
  obtain ⟨k', rfl⟩ := dk
  obtain ⟨m', rfl⟩ := dm
  unfold numb
  rw [hG1, hG2]
  have n1 : G1 ≠ 0 := by omega
  have n2 : G2 ≠ 0 := by omega
  rw [Int.mul_ediv_cancel_left _ n1, Int.mul_ediv_cancel_left _ n1, Int.mul_ediv_cancel_left _ n2, Int.mul_ediv_cancel_left _ n2]
  have e1 : m' = b' := by
    have : (G2 * G1) * m' = (G2 * G1) * b' := by
      calc (G2 * G1) * m' = G2 * m' * G1 := by rw [Int.mul_assoc, Int.mul_comm G1 m', ← Int.mul_assoc]
        _ = G1 * b' * G2 := kI
        _ = (G2 * G1) * b' := by rw [Int.mul_comm (G1 * b') G2, ← Int.mul_assoc]
    exact Int.eq_of_mul_eq_mul_left (Int.mul_ne_zero n2 n1) this
  subst e1
  have m0 : m' ≠ 0 := by
    intro z
    rw [z, Int.mul_zero] at hm
    omega
  have e2 : a' = k' := by
    have : (G1 * G2 * m') * a' = (G1 * G2 * m') * k' := by
      calc (G1 * G2 * m') * a' = G1 * a' * (G2 * m') := by
            rw [Int.mul_assoc G1 G2 m', Int.mul_assoc G1 (G2 * m') a', Int.mul_comm (G2 * m') a', ← Int.mul_assoc]
        _ = G2 * k' * (G1 * m') := h
        _ = (G1 * G2 * m') * k' := by
            rw [Int.mul_comm (G2 * k') (G1 * m'), Int.mul_assoc G1 m' (G2 * k'), ← Int.mul_assoc m' G2 k', Int.mul_comm m' G2, ← Int.mul_assoc G1 (G2 * m') k', ← Int.mul_assoc G1 G2 m']
    exact Int.eq_of_mul_eq_mul_left (Int.mul_ne_zero (Int.mul_ne_zero n1 n2) m0) this
  rw [e2]

/-- the number k divided by 420 -/
def nk (k : Int) : Int × Int := numb k 420
theorem nk_spec (k : Int) : (nk k).1 * 420 = k * (nk k).2 ∧ 0 < (nk k).2 ∧ (nk k).2 ≤ 420 := by
  have g := gcd_pos (n := k) (d := 420) (by omega)
  unfold nk numb
  have d1 : ((Nat.gcd k.natAbs (420 : Int).natAbs : Nat) : Int) ∣ k := Int.ofNat_dvd_left.mpr (Nat.gcd_dvd_left _ _)
  have d2 : ((Nat.gcd k.natAbs (420 : Int).natAbs : Nat) : Int) ∣ 420 := Int.ofNat_dvd_left.mpr (Nat.gcd_dvd_right _ _)
  generalize hG : ((Nat.gcd k.natAbs (420 : Int).natAbs : Nat) : Int) = G at d1 d2 ⊢
  have p : 0 < G := by rw [← hG]; omega
  obtain ⟨a, ha⟩ := d1
  obtain ⟨b, hb⟩ := d2
  have n0 : G ≠ 0 := by omega
  have e1 : k / G = a := by rw [ha, Int.mul_ediv_cancel_left _ n0]
  have e2 : (420 : Int) / G = b := by rw [hb, Int.mul_ediv_cancel_left _ n0]
  have bp : 0 < b := by
    rcases Int.lt_or_le 0 b with h | h
    · exact h
    · have := Int.mul_nonpos_of_nonneg_of_nonpos (Int.le_of_lt p) h
      omega
  have b2 : b ≤ 420 := by
    have := Int.mul_le_mul_of_nonneg_right (show (1 : Int) ≤ G by omega) (Int.le_of_lt bp)
    omega
  rw [e1, e2]
  refine ⟨?_, bp, b2⟩
  calc a * 420 = a * (G * b) := by rw [← hb]
    _ = G * a * b := by rw [← Int.mul_assoc, Int.mul_comm a G]
    _ = k * b := by rw [← ha]
theorem numb_add {x y : Int × Int} {i j : Int} (hx : x = nk i) (hy : y = nk j) : numb (x.1 * y.2 + y.1 * x.2) (x.2 * y.2) = nk (i + j) := by
  obtain ⟨e1, p1, _⟩ := nk_spec i
  obtain ⟨e2, p2, _⟩ := nk_spec j
  rw [← hx] at e1 p1
  rw [← hy] at e2 p2
  refine numb_eq (Int.mul_pos p1 p2) (by omega) ?_
  calc (x.1 * y.2 + y.1 * x.2) * 420 = x.1 * 420 * y.2 + y.1 * 420 * x.2 := by
        rw [Int.add_mul, Int.mul_assoc, Int.mul_comm y.2 420, ← Int.mul_assoc, Int.mul_assoc y.1 x.2 420, Int.mul_comm x.2 420, ← Int.mul_assoc]
    _ = i * x.2 * y.2 + j * y.2 * x.2 := by rw [e1, e2]
    _ = (i + j) * (x.2 * y.2) := by rw [Int.add_mul, Int.mul_assoc, Int.mul_assoc j, Int.mul_comm y.2 x.2]
theorem nk_zero : nk 0 = (0, 1) := by decide
theorem numb_nk {n d : Int} (hd : 0 < d) (h : d ∣ 420) : ∃ k, numb n d = nk k := by
  obtain ⟨c, hc⟩ := h
  exact ⟨n * c, numb_eq hd (by omega) (by rw [hc, Int.mul_comm d c, ← Int.mul_assoc])⟩
theorem numb_bound {n d : Int} (hd : 0 < d) : (numb n d).1.natAbs ≤ n.natAbs ∧ 0 < (numb n d).2 ∧ (numb n d).2 ≤ d := by
  have g := gcd_pos (n := n) hd
  unfold numb
  have d1 : ((Nat.gcd n.natAbs d.natAbs : Nat) : Int) ∣ n := Int.ofNat_dvd_left.mpr (Nat.gcd_dvd_left _ _)
  have d2 : ((Nat.gcd n.natAbs d.natAbs : Nat) : Int) ∣ d := Int.ofNat_dvd_left.mpr (Nat.gcd_dvd_right _ _)
  generalize hG : ((Nat.gcd n.natAbs d.natAbs : Nat) : Int) = G at d1 d2 ⊢
  have p : 0 < G := by rw [← hG]; omega
  obtain ⟨a, ha⟩ := d1
  obtain ⟨b, hb⟩ := d2
  have n0 : G ≠ 0 := by omega
  have e1 : n / G = a := by rw [ha, Int.mul_ediv_cancel_left _ n0]
  have e2 : d / G = b := by rw [hb, Int.mul_ediv_cancel_left _ n0]
  have bp : 0 < b := by
    rcases Int.lt_or_le 0 b with h | h
    · exact h
    · have := Int.mul_nonpos_of_nonneg_of_nonpos (Int.le_of_lt p) h
      omega
  have b2 : b ≤ d := by
    have := Int.mul_le_mul_of_nonneg_right (show (1 : Int) ≤ G by omega) (Int.le_of_lt bp)
    omega
  rw [e1, e2]
  refine ⟨?_, bp, b2⟩
  rw [ha, Int.natAbs_mul]
  exact Nat.le_mul_of_pos_left _ (by omega)
end Mh

/-! Ways and paths. -/
set_option Elab.async false
namespace Mh

/-! ### Euclid's turns: behind i of them -/
/-- a, b behind i turns from a0, b0 -/
structure Eu (g : Nat) (B : Nat) (i : Nat) (a b : Int) : Prop where
  a0 : 0 ≤ a
  b0 : 0 ≤ b
  g : Nat.gcd a.natAbs b.natAbs = g
  sz : i = 0 ∨ (b < a ∧ a.natAbs * b.natAbs * 2 ^ i ≤ B) ∨ b = 0
theorem Eu.start {a b : Int} : Eu (Nat.gcd a.natAbs b.natAbs) (2 * (b.natAbs * b.natAbs)) 0 ((a.natAbs : Nat) : Int) ((b.natAbs : Nat) : Int) :=
  ⟨by omega, by omega, by simp, .inl rfl⟩
theorem Eu.step {b0 : Nat} {g i : Nat} {a b : Int} (h : Eu g (2 * (b0 * b0)) i a b) (h0 : i = 0 → b.natAbs = b0) (hb : b ≠ 0) : Eu g (2 * (b0 * b0)) (i + 1) b (a % b) := by
  obtain ⟨h1, h2, h3, h4⟩ := h
  have bp : 0 < b := by omega
  have m1 := Int.emod_nonneg a hb
  have m2 := Int.emod_lt_of_pos a bp
  obtain ⟨x, rfl⟩ := Int.eq_ofNat_of_zero_le h1
  obtain ⟨y, rfl⟩ := Int.eq_ofNat_of_zero_le h2
  have e : ((x : Int) % (y : Int)) = ((x % y : Nat) : Int) := by omega
  rw [e] at m1 m2 ⊢
  have yp : 0 < y := by omega
  have lt : x % y < y := Nat.mod_lt _ yp
  refine ⟨by omega, by omega, ?_, ?_⟩
  · simp only [Int.natAbs_natCast] at h3 ⊢
    rw [← h3, Nat.gcd_comm x y, Nat.gcd_rec y x, Nat.gcd_comm]
  · refine .inr (.inl ⟨by omega, ?_⟩)
    simp only [Int.natAbs_natCast] at h4 ⊢
    rcases h4 with h4 | h4 | h4
    · have e0 := h0 h4
      simp only [Int.natAbs_natCast] at e0
      subst e0
      rw [h4]
      show y * (x % y) * 2 ^ (0 + 1) ≤ 2 * (y * y)
      have := Nat.mul_le_mul_left y (Nat.le_of_lt lt)
      omega
    · obtain ⟨hlt, hle⟩ := h4
      have xy : y < x := by omega
      have half : 2 * (x % y) ≤ x := by
        have h5 : x % y ≤ x - y := by
          rw [Nat.mod_eq_sub_mod (Nat.le_of_lt xy)]
          exact Nat.mod_le _ _
        omega
      calc y * (x % y) * 2 ^ (i + 1) = y * (2 * (x % y)) * 2 ^ i := by
            rw [Nat.pow_succ, Nat.mul_comm (2 ^ i) 2, ← Nat.mul_assoc, Nat.mul_assoc y, Nat.mul_comm (x % y) 2]
        _ ≤ y * x * 2 ^ i := Nat.mul_le_mul_right _ (Nat.mul_le_mul_left _ half)
        _ = x * y * 2 ^ i := by rw [Nat.mul_comm y x]
        _ ≤ _ := hle
    · omega
/-- behind all turns nothing is left -/
theorem Eu.over {g B i : Nat} {a b : Int} (h : Eu g B i a b) (hi : i ≠ 0) (hB : B < 2 ^ i) : b = 0 ∧ a = (g : Int) := by
  obtain ⟨h1, h2, h3, h4⟩ := h
  have hb : b = 0 := by
    rcases h4 with h4 | ⟨h4, h5⟩ | h4
    · exact absurd h4 hi
    · rcases Int.lt_or_le 0 b with p | p
      · have q : 1 ≤ a.natAbs * b.natAbs := Nat.mul_pos (by omega) (by omega)
        have := Nat.mul_le_mul_right (2 ^ i) q
        omega
      · omega
    · exact h4
  refine ⟨hb, ?_⟩
  subst hb
  simp at h3
  omega
theorem Eu.zero {g B i : Nat} {a : Int} (h : Eu g B i a 0) : a = (g : Int) := by
  have := h.g
  simp at this
  have := h.a0
  omega

/-! ### ways -/
/-- the targets of the place x -/
def tg (T : List (List Int)) (x : Int) : List Int := T.getD x.toNat []
def stp (T : List (List Int)) (x b : Int) : Int := (tg T x).getD b.toNat 0
/-- where a way ends -/
def en (T : List (List Int)) (x : Int) (l : List Int) : Int := l.foldl (stp T) x
/-- its places -/
def wk (T : List (List Int)) : Int → List Int → List Int
  | x, [] => [x]
  | x, b :: r => x :: wk T (stp T x b) r
/-- it is one -/
def ok (T : List (List Int)) : Int → List Int → Prop
  | _, [] => True
  | x, b :: r => (0 ≤ b ∧ b < ((tg T x).length : Int)) ∧ ok T (stp T x b) r
/-- a game: all targets are places -/
def Good (T : List (List Int)) : Prop := ∀ l ∈ T, 0 < l.length ∧ l.length ≤ 6 ∧ ∀ t ∈ l, 0 ≤ t ∧ t < (T.length : Int)

section
variable {T : List (List Int)}
theorem en_nil (x : Int) : en T x [] = x := rfl
theorem en_app (x : Int) (l m : List Int) : en T x (l ++ m) = en T (en T x l) m := by
  unfold en
  rw [List.foldl_append]
theorem en_snoc (x : Int) (l : List Int) (b : Int) : en T x (l ++ [b]) = stp T (en T x l) b := by
  rw [en_app]
  rfl
theorem wk_app : ∀ (x : Int) (l m : List Int), wk T x (l ++ m) = (wk T x l).dropLast ++ wk T (en T x l) m
  | x, [], m => rfl
  | x, b :: r, m => by
    show x :: wk T (stp T x b) (r ++ m) = (x :: wk T (stp T x b) r).dropLast ++ _
    rw [wk_app]
    have : wk T (stp T x b) r ≠ [] := by cases r <;> simp [wk]
    rw [List.dropLast_cons_of_ne_nil this]
    rfl
theorem wk_ne (x : Int) (l : List Int) : wk T x l ≠ [] := by cases l <;> simp [wk]
theorem wk_len : ∀ (x : Int) (l : List Int), (wk T x l).length = l.length + 1
  | x, [] => rfl
  | x, b :: r => by
    show (wk T (stp T x b) r).length + 1 = _
    rw [wk_len]
    rfl
theorem wk_last : ∀ (x : Int) (l : List Int), wk T x l = (wk T x l).dropLast ++ [en T x l]
  | x, [] => rfl
  | x, b :: r => by
    have e := wk_last (stp T x b) r
    show x :: wk T (stp T x b) r = (x :: wk T (stp T x b) r).dropLast ++ [en T (stp T x b) r]
    rw [List.dropLast_cons_of_ne_nil (wk_ne _ _), List.cons_append, ← e]
theorem wk_snoc (x : Int) (l : List Int) (b : Int) : wk T x (l ++ [b]) = wk T x l ++ [stp T (en T x l) b] := by
  rw [wk_app]
  show _ ++ [en T x l, stp T (en T x l) b] = _
  conv => rhs; rw [wk_last x l]
  rw [List.append_assoc]
  rfl
theorem wk_take : ∀ (x : Int) (l : List Int) (k : Nat), k ≤ l.length → wk T x (l.take k) = (wk T x l).take (k + 1)
  | x, l, 0, _ => by cases l <;> rfl
  | x, [], k + 1, h => by simp at h
  | x, b :: r, k + 1, h => by
    show x :: wk T (stp T x b) (r.take k) = x :: (wk T (stp T x b) r).take (k + 1)
    rw [wk_take _ _ _ (by simpa using h)]
theorem wk_drop : ∀ (x : Int) (l : List Int) (k : Nat), k ≤ l.length → wk T (en T x (l.take k)) (l.drop k) = (wk T x l).drop k
  | x, l, 0, _ => by cases l <;> rfl
  | x, [], k + 1, h => by simp at h
  | x, b :: r, k + 1, h => by
    show wk T (en T (stp T x b) (r.take k)) (r.drop k) = (wk T (stp T x b) r).drop k
    exact wk_drop _ _ _ (by simpa using h)
theorem wk_get (x : Int) (l : List Int) (k : Nat) (h : k ≤ l.length) : (wk T x l)[k]? = some (en T x (l.take k)) := by
  have e := wk_take (T := T) x l k h
  have e2 := wk_last (T := T) x (l.take k)
  have hl : (wk T x (l.take k)).length = k + 1 := by
    rw [wk_len, List.length_take]
    omega
  have e3 : (wk T x (l.take k))[k]? = some (en T x (l.take k)) := by
    rw [e2, List.getElem?_append_right (by rw [List.length_dropLast]; omega), List.length_dropLast]
    have : k - ((wk T x (l.take k)).length - 1) = 0 := by omega
    rw [this]
    rfl
  rw [e, List.getElem?_take_of_lt (by omega)] at e3
  exact e3
theorem ok_app : ∀ (x : Int) (l m : List Int), ok T x (l ++ m) ↔ ok T x l ∧ ok T (en T x l) m
  | x, [], m => by simp [ok, en]
  | x, b :: r, m => by
    show _ ∧ ok T (stp T x b) (r ++ m) ↔ (_ ∧ ok T (stp T x b) r) ∧ ok T (en T (stp T x b) r) m
    rw [ok_app]
    simp only [and_assoc]
theorem stp_in (G : Good T) {x b : Int} (hx : 0 ≤ x ∧ x < (T.length : Int)) (hb : 0 ≤ b ∧ b < ((tg T x).length : Int)) : 0 ≤ stp T x b ∧ stp T x b < (T.length : Int) := by
  have hm : tg T x ∈ T := by
    unfold tg
    rw [List.getD_eq_getElem?_getD, List.getElem?_eq_getElem (by omega)]
    exact List.getElem_mem _
  have := (G _ hm).2.2
  unfold stp
  rw [List.getD_eq_getElem?_getD, List.getElem?_eq_getElem (by omega)]
  exact this _ (List.getElem_mem _)
theorem tg_in (G : Good T) {x : Int} (hx : 0 ≤ x ∧ x < (T.length : Int)) : 0 < (tg T x).length ∧ (tg T x).length ≤ 6 ∧ ∀ t ∈ tg T x, 0 ≤ t ∧ t < (T.length : Int) := by
  have hm : tg T x ∈ T := by
    unfold tg
    rw [List.getD_eq_getElem?_getD, List.getElem?_eq_getElem (by omega)]
    exact List.getElem_mem _
  exact G _ hm
theorem en_in (G : Good T) : ∀ {x : Int} {l : List Int}, (0 ≤ x ∧ x < (T.length : Int)) → ok T x l → 0 ≤ en T x l ∧ en T x l < (T.length : Int)
  | x, [], hx, _ => hx
  | x, b :: r, hx, h => en_in (x := stp T x b) (l := r) G (stp_in G hx h.1) h.2

/-! ### a way's sum -/
def sm (T : List (List Int)) (K : Int → Int) : Int → List Int → Int
  | _, [] => 0
  | x, b :: r => K x + sm T K (stp T x b) r
theorem sm_app {K : Int → Int} : ∀ (x : Int) (l m : List Int), sm T K x (l ++ m) = sm T K x l + sm T K (en T x l) m
  | x, [], m => by simp [sm, en]
  | x, b :: r, m => by
    show K x + sm T K (stp T x b) (r ++ m) = K x + sm T K (stp T x b) r + sm T K (en T (stp T x b) r) m
    rw [sm_app, Int.add_assoc]
theorem sm_sum {K : Int → Int} : ∀ (x : Int) (l : List Int), ((wk T x l).dropLast.map K).sum = sm T K x l
  | x, [] => rfl
  | x, b :: r => by
    show ((x :: wk T (stp T x b) r).dropLast.map K).sum = _
    rw [List.dropLast_cons_of_ne_nil (wk_ne _ _), List.map_cons, List.sum_cons, sm_sum]
    rfl

/-! ### a way is laid on a path -/
structure Un where
  p : List (Int × Int)
  e : Int
  c : List (Int × List Int)
def ulay (T : List (List Int)) (S : Un) (b : Int) : Un :=
  match ((S.p ++ [(S.e, b)]).map (·.1)).idxOf? (stp T S.e b) with
  | some k => ⟨(S.p ++ [(S.e, b)]).take k, stp T S.e b, S.c ++ [(stp T S.e b, ((S.p ++ [(S.e, b)]).drop k).map (·.2))]⟩
  | none => ⟨S.p ++ [(S.e, b)], stp T S.e b, S.c⟩
def unr (T : List (List Int)) (x : Int) (l : List Int) : Un := l.foldl (ulay T) ⟨[], x, []⟩
theorem unr_snoc (x : Int) (l : List Int) (b : Int) : unr T x (l ++ [b]) = ulay T (unr T x l) b := by
  unfold unr
  rw [List.foldl_append]
  rfl
/-- a circle -/
def Circ (T : List (List Int)) (c : Int × List Int) : Prop := (0 ≤ c.1 ∧ c.1 < (T.length : Int)) ∧ 0 < c.2.length ∧ ok T c.1 c.2 ∧ en T c.1 c.2 = c.1 ∧ (wk T c.1 c.2).dropLast.Nodup
structure UnOk (T : List (List Int)) (K : Int → Int) (x : Int) (l : List Int) (S : Un) : Prop where
  e : S.e = en T x l
  pl : wk T x (S.p.map (·.2)) = S.p.map (·.1) ++ [S.e]
  okp : ok T x (S.p.map (·.2))
  nd : (S.p.map (·.1) ++ [S.e]).Nodup
  cs : ∀ c ∈ S.c, Circ T c
  len : l.length = S.p.length + (S.c.map fun c => c.2.length).sum
  sum : sm T K x l = sm T K x (S.p.map (·.2)) + (S.c.map fun c => sm T K c.1 c.2).sum
theorem UnOk.en {K : Int → Int} {x : Int} {l : List Int} {S : Un} (h : UnOk T K x l S) : en T x (S.p.map (·.2)) = S.e := by
  have e := wk_last (T := T) x (S.p.map (·.2))
  rw [h.pl] at e
  have e2 := congrArg List.getLast? e
  rw [List.getLast?_append, List.getLast?_append] at e2
  simpa using e2.symm
theorem unr_ok (G : Good T) {K : Int → Int} {x : Int} (hx : 0 ≤ x ∧ x < (T.length : Int)) : ∀ (l : List Int), ok T x l → UnOk T K x l (unr T x l) := by
  have step : ∀ (l : List Int) (b : Int) (S : Un), ok T x (l ++ [b]) → UnOk T K x l S → UnOk T K x (l ++ [b]) (ulay T S b) := by
    intro l b S hok h
    have hen := h.en
    obtain ⟨he, hpl, hokp, hnd, hcs, hlen, hsum⟩ := h
    have hok2 := (ok_app _ _ _).mp hok
    have hb : 0 ≤ b ∧ b < ((tg T S.e).length : Int) := by
      have := hok2.2.1
      rw [← he] at this
      exact this
    have hein : 0 ≤ S.e ∧ S.e < (T.length : Int) := by
      rw [he]
      exact en_in G hx hok2.1
    have hin := stp_in G hein hb
    -- the step is laid on
    generalize hP : S.p ++ [(S.e, b)] = P
    generalize hy : stp T S.e b = y at hin
    have hP1 : P.map (·.1) = S.p.map (·.1) ++ [S.e] := by rw [← hP]; simp
    have hP2 : P.map (·.2) = S.p.map (·.2) ++ [b] := by rw [← hP]; simp
    have e1 : Mh.en T x (P.map (·.2)) = y := by
      rw [hP2, en_snoc, hen, hy]
    have w1 : wk T x (P.map (·.2)) = P.map (·.1) ++ [y] := by
      rw [hP2, wk_snoc, hpl, hen, hy, hP1]
    have o1 : ok T x (P.map (·.2)) := by
      rw [hP2, ok_app]
      refine ⟨hokp, ?_⟩
      rw [hen]
      exact ⟨hb, trivial⟩
    have nd1 : (P.map (·.1)).Nodup := by rw [hP1]; exact hnd
    have len1 : (l ++ [b]).length = P.length + (S.c.map fun c => c.2.length).sum := by
      rw [← hP, List.length_append, List.length_append, hlen]
      simp only [List.length_cons, List.length_nil]
      omega
    have sum1 : sm T K x (l ++ [b]) = sm T K x (P.map (·.2)) + (S.c.map fun c => sm T K c.1 c.2).sum := by
      rw [sm_app, hsum, hP2, sm_app, hen, ← he]
      omega
    have hend : Mh.en T x (l ++ [b]) = y := by rw [en_snoc, ← he, hy]
    unfold ulay
    rw [hP, hy]
    cases hk : (P.map (·.1)).idxOf? y with
    | none =>
      have hno : y ∉ P.map (·.1) := by
        intro hm
        have := List.isSome_idxOf?.mpr hm
        rw [hk] at this
        simp at this
      refine ⟨hend.symm, w1, o1, ?_, hcs, len1, sum1⟩
      show (P.map (·.1) ++ [y]).Nodup
      rw [List.nodup_append]
      refine ⟨nd1, by simp, ?_⟩
      intro a ha c hc
      simp at hc
      subst hc
      intro z
      subst z
      exact hno ha
    | some k =>
      have hk1 : k < (P.map (·.1)).length ∧ (P.map (·.1))[k]? = some y := by
        have hk' := hk
        rw [List.idxOf?_eq_some_iff] at hk'
        obtain ⟨h1, h2, _⟩ := hk'
        refine ⟨h1, ?_⟩
        rw [List.getElem?_eq_getElem h1]
        simpa using h2
      obtain ⟨hkl, hky⟩ := hk1
      have hkl' : k < P.length := by simpa using hkl
      have hkb : k ≤ (P.map (·.2)).length := by simp; omega
      have et : (P.take k).map (·.2) = (P.map (·.2)).take k := by rw [List.map_take]
      have ed : (P.drop k).map (·.2) = (P.map (·.2)).drop k := by rw [List.map_drop]
      have et1 : (P.take k).map (·.1) = (P.map (·.1)).take k := by rw [List.map_take]
      have ek : Mh.en T x ((P.map (·.2)).take k) = y := by
        have g := wk_get (T := T) x (P.map (·.2)) k hkb
        rw [w1, List.getElem?_append_left hkl, hky] at g
        exact (Option.some.inj g).symm
      have tk : (P.map (·.1)).take (k + 1) = (P.map (·.1)).take k ++ [y] := by
        rw [List.take_add_one, hky]
        rfl
      have split := List.take_append_drop k (P.map (·.2))
      have oks : ok T x ((P.map (·.2)).take k) ∧ ok T y ((P.map (·.2)).drop k) := by
        have z := o1
        rw [← split, ok_app, ek] at z
        exact z
      have wd : wk T y ((P.map (·.2)).drop k) = (P.map (·.1)).drop k ++ [y] := by
        have z := wk_drop (T := T) x (P.map (·.2)) k hkb
        rw [ek, w1, List.drop_append_of_le_length (Nat.le_of_lt hkl)] at z
        exact z
      refine ⟨hend.symm, ?_, ?_, ?_, ?_, ?_, ?_⟩
      · show wk T x ((P.take k).map (·.2)) = (P.take k).map (·.1) ++ [y]
        rw [et, et1, wk_take _ _ _ hkb, w1, List.take_append_of_le_length (by omega), tk]
      · show ok T x ((P.take k).map (·.2))
        rw [et]
        exact oks.1
      · show ((P.take k).map (·.1) ++ [y]).Nodup
        rw [et1, ← tk]
        exact nd1.sublist (List.take_sublist _ _)
      · intro c hc
        rcases List.mem_append.mp hc with hc | hc
        · exact hcs c hc
        · simp only [List.mem_cons, List.not_mem_nil, or_false] at hc
          subst hc
          show _ ∧ 0 < ((P.drop k).map (·.2)).length ∧ ok T y ((P.drop k).map (·.2)) ∧ Mh.en T y ((P.drop k).map (·.2)) = y ∧ (wk T y ((P.drop k).map (·.2))).dropLast.Nodup
          rw [ed]
          refine ⟨hin, ?_, oks.2, ?_, ?_⟩
          · rw [List.length_drop, List.length_map]
            omega
          · have z := e1
            rw [← split, en_app, ek] at z
            exact z
          · rw [wd, List.dropLast_concat]
            exact nd1.sublist (List.drop_sublist _ _)
      · show (l ++ [b]).length = (P.take k).length + ((S.c ++ [(y, (P.drop k).map (·.2))]).map fun c => c.2.length).sum
        rw [len1, List.map_append, List.sum_append, List.length_take]
        simp only [List.map_cons, List.map_nil, List.sum_cons, List.sum_nil, List.length_map, List.length_drop]
        omega
      · show sm T K x (l ++ [b]) = sm T K x ((P.take k).map (·.2)) + ((S.c ++ [(y, (P.drop k).map (·.2))]).map fun c => sm T K c.1 c.2).sum
        rw [sum1, List.map_append, List.sum_append, et, ed]
        simp only [List.map_cons, List.map_nil, List.sum_cons, List.sum_nil]
        have z : sm T K x (P.map (·.2)) = sm T K x ((P.map (·.2)).take k) + sm T K y ((P.map (·.2)).drop k) := by
          conv => lhs; rw [← split]
          rw [sm_app, ek]
        rw [z]
        omega
  intro l
  have all : ∀ (n : Nat) (l : List Int), l.length = n → ok T x l → UnOk T K x l (unr T x l) := by
    intro n
    induction n with
    | zero =>
      intro l hl _
      have : l = [] := List.eq_nil_of_length_eq_zero hl
      subst this
      exact ⟨rfl, rfl, trivial, by simp [unr], by simp [unr], by simp [unr], by simp [unr, sm]⟩
    | succ n ih =>
      intro l hl hok
      have hne : l ≠ [] := by intro z; subst z; simp at hl
      have e := List.dropLast_concat_getLast hne
      rw [← e] at hok ⊢
      rw [unr_snoc]
      refine step _ _ _ hok (ih _ (by rw [List.length_dropLast]; omega) ((ok_app _ _ _).mp hok).1)
  exact all _ l rfl
end
end Mh

set_option Elab.async false
set_option linter.all false
set_option maxRecDepth 100000
/-! what is told of heaps and data, and rules of our own in the style of Evl -/
namespace Mh
open PySem PySem.Spec PyProof.Rows L2 Evl

/-! ### data stays -/
mutual
theorem dp_mono {K : PySem.W.Frag} {H H' : Hp} (e : Ex H H') : ∀ (d : PyData) (v : V), Dp K H v d → Dp K H' v d
  | .none, _, h => by cases h; exact .non
  | .bool b, _, h => by cases h; exact .bl b
  | .int i, _, h => by cases h; exact .int i
  | .str x, _, h => by cases h; exact .str x
  | .list ds, _, h => by
    cases h with
    | lst hs ha => exact .lst (ex_l e hs) (dpa_mono e ds _ ha)
  | .tuple ds, _, h => by
    cases h with
    | tup hs ha => exact .tup (ex_t e hs) (dpa_mono e ds _ ha)
  | .dict _, _, h => by cases h
theorem dpa_mono {K : PySem.W.Frag} {H H' : Hp} (e : Ex H H') : ∀ (ds : List PyData) (vs : List V), DpAll K H vs ds → DpAll K H' vs ds
  | [], _, h => by cases h; exact .nil
  | d :: ds, _, h => by
    cases h with
    | cons h1 h2 => exact .cons (dp_mono e d _ h1) (dpa_mono e ds _ h2)
end
section
variable {K : PySem.W.Frag} {H H' : Hp}
theorem dpa_ints : ∀ ns : List Int, DpAll K H (ns.map V.int) (ns.map PyData.int)
  | [] => .nil
  | n :: r => .cons (.int n) (dpa_ints r)
theorem ints_dpa : ∀ {ns : List Int} {vs : List V}, DpAll K H vs (ns.map PyData.int) → vs = ns.map V.int
  | [], _, h => by cases h; rfl
  | n :: r, _, h => by
    cases h with
    | cons h1 h2 =>
      cases h1
      rw [ints_dpa h2]
      rfl
theorem dpa_len : ∀ {ds : List PyData} {vs : List V}, DpAll K H vs ds → vs.length = ds.length
  | [], _, h => by cases h; rfl
  | d :: ds, _, h => by
    cases h with
    | cons h1 h2 => simp [dpa_len h2]
theorem dpa_app : ∀ {ds es : List PyData} {vs ws : List V}, DpAll K H vs ds → DpAll K H ws es → DpAll K H (vs ++ ws) (ds ++ es)
  | [], _, _, _, h, h' => by cases h; exact h'
  | d :: ds, _, _, _, h, h' => by
    cases h with
    | cons h1 h2 => exact .cons h1 (dpa_app h2 h')
theorem dpa_at : ∀ {ds : List PyData} {vs : List V} {i : Nat} {d : PyData}, DpAll K H vs ds → ds[i]? = some d → ∃ v, vs[i]? = some v ∧ Dp K H v d
  | [], _, _, _, _, h => by simp at h
  | d :: ds, _, 0, _, h, e => by
    cases h with
    | cons h1 h2 =>
      simp at e
      subst e
      exact ⟨_, rfl, h1⟩
  | d :: ds, _, i + 1, _, h, e => by
    cases h with
    | cons h1 h2 =>
      obtain ⟨v, q1, q2⟩ := dpa_at (i := i) h2 (by simpa using e)
      exact ⟨v, by simpa using q1, q2⟩
theorem dp_list {v : V} {ds : List PyData} (h : Dp K H v (.list ds)) : ∃ a xs, v = .ref a ∧ SqL K H a xs ∧ DpAll K H xs ds := by
  cases h with
  | lst hs ha => exact ⟨_, _, rfl, hs, ha⟩
theorem dp_tup {v : V} {ds : List PyData} (h : Dp K H v (.tuple ds)) : ∃ a xs, v = .ref a ∧ SqT K H a xs ∧ DpAll K H xs ds := by
  cases h with
  | tup hs ha => exact ⟨_, _, rfl, hs, ha⟩

/-! ### new data: all of it lies in a part of the heap that was not there before -/
def Fd (K : PySem.W.Frag) (d : PyData) (H : Hp) (v : V) (H' : Hp) : Prop := ∃ G : Hp, Ex G H' ∧ (∀ a o, G a = some o → H a = none) ∧ Dp K G v d
def FdAll (K : PySem.W.Frag) (ds : List PyData) (H : Hp) (vs : List V) (H' : Hp) : Prop := ∃ G : Hp, Ex G H' ∧ (∀ a o, G a = some o → H a = none) ∧ DpAll K G vs ds
theorem Fd.dp {d : PyData} {v : V} {H2 : Hp} (h : Fd K d H v H2) : Dp K H2 v d := by
  obtain ⟨G, e, _, q⟩ := h
  exact dp_mono e _ _ q
theorem Fd.back {d : PyData} {v : V} {H0 H1 H2 : Hp} (h : Fd K d H1 v H2) (e : Ex H0 H1) : Fd K d H0 v H2 := by
  obtain ⟨G, e1, f, q⟩ := h
  exact ⟨G, e1, fun a o z => fresh_back e (f a o z), q⟩
theorem Fd.on {d : PyData} {v : V} {H0 H1 H2 : Hp} (h : Fd K d H0 v H1) (e : Ex H1 H2) : Fd K d H0 v H2 := by
  obtain ⟨G, e1, f, q⟩ := h
  exact ⟨G, e1.trans e, f, q⟩
/-- an object that was there before may change -/
theorem Fd.mut {d : PyData} {v : V} {H0 H1 : Hp} {p : Addr} {o : HO} (h : Fd K d H0 v H1) (hp : H0 p ≠ none) : Fd K d H0 v (upd H1 p o) := by
  obtain ⟨G, e1, f, q⟩ := h
  refine ⟨G, fun a u ha => ?_, f, q⟩
  have : a ≠ p := fun z => hp (z ▸ f a u ha)
  rw [upd_ne this]
  exact e1 a u ha
theorem FdAll.mut {ds : List PyData} {vs : List V} {H0 H1 : Hp} {p : Addr} {o : HO} (h : FdAll K ds H0 vs H1) (hp : H0 p ≠ none) : FdAll K ds H0 vs (upd H1 p o) := by
  obtain ⟨G, e1, f, q⟩ := h
  refine ⟨G, fun a u ha => ?_, f, q⟩
  have : a ≠ p := fun z => hp (z ▸ f a u ha)
  rw [upd_ne this]
  exact e1 a u ha
theorem FdAll.on {ds : List PyData} {vs : List V} {H0 H1 H2 : Hp} (h : FdAll K ds H0 vs H1) (e : Ex H1 H2) : FdAll K ds H0 vs H2 := by
  obtain ⟨G, e1, f, q⟩ := h
  exact ⟨G, e1.trans e, f, q⟩
theorem FdAll.back {ds : List PyData} {vs : List V} {H0 H1 H2 : Hp} (h : FdAll K ds H1 vs H2) (e : Ex H0 H1) : FdAll K ds H0 vs H2 := by
  obtain ⟨G, e1, f, q⟩ := h
  exact ⟨G, e1, fun a o z => fresh_back e (f a o z), q⟩
def join (G1 G2 : Hp) : Hp := fun a => match G1 a with | some o => some o | none => G2 a
theorem join_l {G1 G2 : Hp} : Ex G1 (join G1 G2) := fun a o h => by unfold join; rw [h]
theorem join_r {G1 G2 H : Hp} (h1 : Ex G1 H) (h2 : Ex G2 H) : Ex G2 (join G1 G2) := fun a o h => by
  unfold join
  cases e : G1 a with
  | none => exact h
  | some u =>
    have := h1 a u e
    rw [h2 a o h] at this
    exact this.symm ▸ rfl
theorem join_ex {G1 G2 H : Hp} (h1 : Ex G1 H) (h2 : Ex G2 H) : Ex (join G1 G2) H := fun a o h => by
  unfold join at h
  cases e : G1 a with
  | none => rw [e] at h; exact h2 a o h
  | some u => rw [e] at h; exact h1 a o (by rw [e]; exact h)
theorem join_fresh {G1 G2 H : Hp} (h1 : ∀ a o, G1 a = some o → H a = none) (h2 : ∀ a o, G2 a = some o → H a = none) : ∀ a o, join G1 G2 a = some o → H a = none := fun a o h => by
  unfold join at h
  cases e : G1 a with
  | none => rw [e] at h; exact h2 a o h
  | some u => exact h1 a u e
theorem fda_nil : FdAll K [] H [] H' := ⟨fun _ => none, fun _ _ h => (nomatch h), fun _ _ h => (nomatch h), .nil⟩
theorem fda_snoc {ds : List PyData} {vs : List V} {d : PyData} {v : V} (h : FdAll K ds H vs H') (h2 : Fd K d H v H') : FdAll K (ds ++ [d]) H (vs ++ [v]) H' := by
  obtain ⟨G1, e1, f1, q1⟩ := h
  obtain ⟨G2, e2, f2, q2⟩ := h2
  exact ⟨join G1 G2, join_ex e1 e2, join_fresh f1 f2, dpa_app (dpa_mono join_l _ _ q1) (.cons (dp_mono (join_r e1 e2) _ _ q2) .nil)⟩
theorem fda_cons {ds : List PyData} {vs : List V} {d : PyData} {v : V} (h2 : Fd K d H v H') (h : FdAll K ds H vs H') : FdAll K (d :: ds) H (v :: vs) H' := by
  obtain ⟨G1, e1, f1, q1⟩ := h
  obtain ⟨G2, e2, f2, q2⟩ := h2
  exact ⟨join G2 G1, join_ex e2 e1, join_fresh f2 f1, .cons (dp_mono join_l _ _ q2) (dpa_mono (join_r e2 e1) _ _ q1)⟩
theorem fd_int (i : Int) : Fd K (.int i) H (.int i) H' := ⟨fun _ => none, fun _ _ h => (nomatch h), fun _ _ h => (nomatch h), .int i⟩
theorem fd_str (i : Str) : Fd K (.str i) H (.str i) H' := ⟨fun _ => none, fun _ _ h => (nomatch h), fun _ _ h => (nomatch h), .str i⟩
theorem fda_ints (ns : List Int) : FdAll K (ns.map PyData.int) H (ns.map V.int) H' := ⟨fun _ => none, fun _ _ h => (nomatch h), fun _ _ h => (nomatch h), dpa_ints ns⟩
theorem fd_list {ds : List PyData} {vs : List V} {p : Addr} (h : FdAll K ds H vs H') (hp : H p = none) (h' : H' p = some (.lst vs)) : Fd K (.list ds) H (.ref p) H' := by
  obtain ⟨G, e, f, q⟩ := h
  have e1 : Ex G (join G (fun a => if a = p then some (.lst vs) else none)) := join_l
  have e2 : Ex (fun a => if a = p then some (.lst vs) else none) H' := fun a o z => by
    by_cases hz : a = p
    · subst hz; simp at z; rw [h', z]
    · simp [hz] at z
  refine ⟨join G (fun a => if a = p then some (.lst vs) else none), join_ex e e2, join_fresh f (fun a o z => ?_), ?_⟩
  · by_cases hz : a = p
    · rw [hz]; exact hp
    · simp [hz] at z
  · exact .lst (.inl (.inl (join_r e e2 p _ (by simp)))) (dpa_mono e1 _ _ q)
theorem fd_tup {ds : List PyData} {vs : List V} {p : Addr} (h : FdAll K ds H vs H') (hp : H p = none) (h' : H' p = some (.tup vs)) : Fd K (.tuple ds) H (.ref p) H' := by
  obtain ⟨G, e, f, q⟩ := h
  have e1 : Ex G (join G (fun a => if a = p then some (.tup vs) else none)) := join_l
  have e2 : Ex (fun a => if a = p then some (.tup vs) else none) H' := fun a o z => by
    by_cases hz : a = p
    · subst hz; simp at z; rw [h', z]
    · simp [hz] at z
  refine ⟨join G (fun a => if a = p then some (.tup vs) else none), join_ex e e2, join_fresh f (fun a o z => ?_), ?_⟩
  · by_cases hz : a = p
    · rw [hz]; exact hp
    · simp [hz] at z
  · exact .tup (.inl (.inl (join_r e e2 p _ (by simp)))) (dpa_mono e1 _ _ q)
end
end Mh

set_option Elab.async false
set_option linter.all false
set_option maxRecDepth 100000
namespace Mh
open PySem PySem.Spec PyProof.Rows L2 Evl

section
variable {K : PySem.W.Frag} {σ : L2.St} {H H' H0 : Hp} {ta tb te tx : TE} {t u : TT} {x y z v : V} {r : R2} {D : Ends} {tu tw tz : TS} {g : TG}

theorem rv_ixs {p : Addr} {xs : List V} {i : Int} (h : SqL K H p xs) (ha : atI xs i = some v) : RV (rIx K) (.ref p) (.int i) H v := fun H1 e Q q => .inl (rv_ixL h ha H1 e Q q)
theorem rv_ixt {p : Addr} {xs : List V} {i : Int} (h : SqT K H p xs) (ha : atI xs i = some v) : RV (rIx K) (.ref p) (.int i) H v := fun H1 e Q q => .inr (.inl (rv_ixT h ha H1 e Q q))
theorem ev_ixL {p : Addr} {xs : List V} {i : Int} (ho : Ev ta σ H (.ref p)) (hi : Ev tb σ H (.int i)) (h : SqL K H p xs) (ha : atI xs i = some v) : Ev (tOp (rIx K) ta tb) σ H v := ev_op ho hi (rv_ixs h ha)
theorem ev_ixT {p : Addr} {xs : List V} {i : Int} (ho : Ev ta σ H (.ref p)) (hi : Ev tb σ H (.int i)) (h : SqT K H p xs) (ha : atI xs i = some v) : Ev (tOp (rIx K) ta tb) σ H v := ev_op ho hi (rv_ixt h ha)
theorem ev_ixNL {xs : List V} {i : Int} (ho : EvL ta σ H xs) (hi : ∀ H1, Ex H H1 → Ev tb σ H1 (.int i)) (ha : atI xs i = some v) : Ev (tOp (rIx K) ta tb) σ H v := ev_opL1 ho hi fun p H1 h e => rv_ixs (sq_of h) ha
theorem atI_lst {xs : List V} {i : Nat} (h : xs[i]? = some v) : atI xs (i : Int) = some v := atI_nat h
theorem ru_int {i : Int} : RC (fun xs H Q => (∃ i, xs = [V.int i] ∧ Q (V.int i) H) ∨ ∃ k, xs = [V.bl k] ∧ Q (V.int (if k then 1 else 0)) H) [.int i] H (.int i) := fun H1 _ Q q => .inl ⟨i, rfl, q H1 (Ex.refl H1)⟩
theorem ev_int {i : Int} (h : Ev ta σ H (.int i)) : Ev (tCB (fun xs H Q => (∃ i, xs = [V.int i] ∧ Q (V.int i) H) ∨ ∃ k, xs = [V.bl k] ∧ Q (V.int (if k then 1 else 0)) H) (tCons ta tNil)) σ H (.int i) := ev_cb (ea_cons h ea_nil) ru_int
theorem ev_add {i j : Int} (ha : Ev ta σ H (.int i)) (hb : Ev tb σ H (.int j)) : Ev (tOp (rI0 fun i j => .int (i + j)) ta tb) σ H (.int (i + j)) := ev_op ha hb rv_I0
theorem ev_sub {i j : Int} (ha : Ev ta σ H (.int i)) (hb : Ev tb σ H (.int j)) : Ev (tOp (rI0 fun i j => .int (i - j)) ta tb) σ H (.int (i - j)) := ev_op ha hb rv_I0
theorem ev_mul {i j : Int} (ha : Ev ta σ H (.int i)) (hb : Ev tb σ H (.int j)) (hc : CMul i j) : Ev (tOp (rI CMul fun i j => .int (i * j)) ta tb) σ H (.int (i * j)) := ev_op ha hb (rv_I hc)
theorem ev_mod {i j : Int} (ha : Ev ta σ H (.int i)) (hb : Ev tb σ H (.int j)) (hc : 0 < j) : Ev (tOp (rI (fun _ j => 0 < j) fun i j => .int (i % j)) ta tb) σ H (.int (i % j)) := ev_op ha hb (rv_I (C := fun _ j => 0 < j) hc)
theorem ev_div {i j : Int} (ha : Ev ta σ H (.int i)) (hb : Ev tb σ H (.int j)) (hc : 0 < j ∧ j < 1073741824) : Ev (tOp (rI CDiv fun i j => .int (i / j)) ta tb) σ H (.int (i / j)) := ev_op ha hb (rv_I (C := CDiv) hc)
theorem ev_neg {i : Int} (ha : Ev ta σ H (.int i)) : Ev (tUn (rU fun i => .int (-i)) ta) σ H (.int (-i)) := ev_un ha ru_neg
theorem et_eq {b : Bool} (ha : Ev ta σ H x) (hb : Ev tb σ H y) (hs : scal x y = true) (hd : decide (x = y) = b) : EvT (tTest (tOp rEq ta tb)) σ H b := et_test (ev_is (ev_op ha hb (rv_eq hs)) (by rw [hd]))
theorem et_ne {b : Bool} (ha : Ev ta σ H x) (hb : Ev tb σ H y) (hs : scal x y = true) (hd : (!decide (x = y)) = b) : EvT (tTest (tOp rNe ta tb)) σ H b := et_test (ev_is (ev_op ha hb (rv_ne hs)) (by rw [hd]))
theorem et_lt {i j : Int} (ha : Ev ta σ H (.int i)) (hb : Ev tb σ H (.int j)) : EvT (tTest (tOp (rI0 fun i j => .bl (decide (i < j))) ta tb)) σ H (decide (i < j)) := et_test (ev_op ha hb rv_I0)
theorem et_gt {i j : Int} (ha : Ev ta σ H (.int i)) (hb : Ev tb σ H (.int j)) : EvT (tTest (tOp (rI0 fun i j => .bl (decide (j < i))) ta tb)) σ H (decide (j < i)) := et_test (ev_op ha hb rv_I0)
theorem et_ge {i j : Int} (ha : Ev ta σ H (.int i)) (hb : Ev tb σ H (.int j)) : EvT (tTest (tOp (rI0 fun i j => .bl (decide (j ≤ i))) ta tb)) σ H (decide (j ≤ i)) := et_test (ev_op ha hb rv_I0)
theorem dec_int {i j : Int} {b : Bool} (h : decide (i = j) = b) : decide (V.int i = V.int j) = b := by
  rw [← h]
  by_cases e : i = j
  · subst e; simp
  · have : V.int i ≠ V.int j := fun z => e (V.int.inj z)
    simp [e, this]
theorem et_eqI {i j : Int} {b : Bool} (ha : Ev ta σ H (.int i)) (hb : Ev tb σ H (.int j)) (h : decide (i = j) = b) : EvT (tTest (tOp rEq ta tb)) σ H b := et_eq ha hb rfl (dec_int h)
theorem et_neI {i j : Int} {b : Bool} (ha : Ev ta σ H (.int i)) (hb : Ev tb σ H (.int j)) (h : (!decide (i = j)) = b) : EvT (tTest (tOp rNe ta tb)) σ H b := et_ne ha hb rfl (by rw [dec_int rfl]; exact h)
/-- 0 <= a < b -/
theorem et_within {lo a b : Int} (h1 : Ev ta σ H (.int lo)) (h2 : Ev tb σ H (.int a)) (h3 : Ev te σ H (.int b)) :
    EvT (tTest (tChain (rI0 fun i j => .bl (decide (i ≤ j))) (rI0 fun i j => .bl (decide (i < j))) ta tb te)) σ H (decide (lo ≤ a ∧ a < b)) := fun H1 e Q q =>
  h1 H1 e _ fun H2 e2 => h2 H2 (e.trans e2) _ fun H3 e3 => ⟨lo, a, rfl, rfl, decide (lo ≤ a), rfl, by
    by_cases c : lo ≤ a
    · rw [decide_eq_true c, if_pos rfl]
      refine h3 H3 ((e.trans e2).trans e3) _ fun H4 e4 => ⟨a, b, rfl, rfl, decide (a < b), rfl, ?_⟩
      have z : decide (lo ≤ a ∧ a < b) = decide (a < b) := by simp [c]
      rw [z] at q
      exact q H4 ((e2.trans e3).trans e4)
    · rw [decide_eq_false c, if_neg Bool.false_ne_true]
      have z : decide (lo ≤ a ∧ a < b) = false := by simp [c]
      rw [z] at q
      exact ⟨false, rfl, q H3 (e2.trans e3)⟩⟩
theorem inV_int (n : Int) (ns : List Int) : inV (.int n) (ns.map V.int) = decide (n ∈ ns) := by
  induction ns with
  | nil => rfl
  | cons m r ih =>
    show (eqV (.int m) (.int n) || inV (.int n) (r.map V.int)) = _
    rw [ih]
    have e : eqV (.int m) (.int n) = decide (n = m) := by
      show (decide _) = _
      first
        | (simp [eqV, eq_comm]; done)
        | (by_cases h : m = n <;> simp [eqV, h, eq_comm])
    rw [e]
    by_cases h : n = m
    · simp [h]
    · simp [h]
theorem flat_ints (ns : List Int) : (ns.map V.int).all flatV = true := by
  rw [List.all_eq_true]
  intro v hv
  obtain ⟨n, _, rfl⟩ := List.mem_map.mp hv
  rfl
/-- n in a list of ints -/
theorem rv_isI {p : Addr} {ns : List Int} {n : Int} (h : SqL K H p (ns.map V.int)) : RV (rIn K false) (.int n) (.ref p) H (.bl (decide (n ∈ ns))) := by
  have z := rv_isL (x := .int n) h rfl (flat_ints ns)
  rw [inV_int] at z
  exact z
theorem rv_niI {p : Addr} {ns : List Int} {n : Int} (h : SqL K H p (ns.map V.int)) : RV (rIn K true) (.int n) (.ref p) H (.bl (!decide (n ∈ ns))) := by
  have z := rv_niL (x := .int n) h rfl (flat_ints ns)
  rw [inV_int] at z
  exact z

/-! ### the general form, calls, statements -/
def EvP (te : TE) (σ : L2.St) (H : Hp) (P : Hp → V → Hp → Prop) : Prop := ∀ H1, Ex H H1 → ∀ Q : VK, (∀ v H2, Ex H1 H2 → P H1 v H2 → Q v H2) → te σ H1 Q
def SpU (sp : Sp) (vs : List V) (H : Hp) (xs : List V) : Prop := ∀ H1, Ex H H1 → ∀ Q : VK, (∀ p H2, H1 p = none → Ex H1 H2 → H2 p = some (.tup xs) → Q (.ref p) H2) → ∀ E : XK, sp vs H1 Q E
def SpP (sp : Sp) (vs : List V) (H : Hp) (P : Hp → V → Hp → Prop) : Prop := ∀ H1, Ex H H1 → ∀ Q : VK, (∀ v H2, Ex H1 H2 → P H1 v H2 → Q v H2) → ∀ E : XK, sp vs H1 Q E
theorem eu_call {sp : Sp} {dvs vs xs : List V} {E : XK} {ta : TA} (h : EvA ta σ H vs) (hs : SpU sp (vs ++ dvs) H xs) : EvU (tCall sp dvs E ta) σ H xs := fun H1 e Q q =>
  h H1 e _ fun H2 e2 => hs H2 (e.trans e2) Q (fun p H3 hp e3 h3 => q p H3 (fresh_back e2 hp) (e2.trans e3) h3) E
theorem ep_call {sp : Sp} {dvs vs : List V} {E : XK} {ta : TA} {P : Hp → V → Hp → Prop} (h : EvA ta σ H vs) (hs : SpP sp (vs ++ dvs) H P) (back : ∀ H0 H1 v H2, Ex H0 H1 → P H1 v H2 → P H0 v H2) : EvP (tCall sp dvs E ta) σ H P := fun H1 e Q q =>
  h H1 e _ fun H2 e2 => hs H2 (e.trans e2) Q (fun v H3 e3 h3 => q v H3 (e2.trans e3) (back _ _ _ _ e2 h3)) E
theorem q_asgP {i : Nat} {P : Hp → V → Hp → Prop} (h : EvP te σ H P) (k : ∀ v H1, Ex H H1 → P H v H1 → tz D (σ.set i (some v)) H1) : tSeq (tAsg te (gName i)) tz D σ H := h H (Ex.refl H) _ fun v H1 e p => k v H1 e p
theorem s_asgP {i : Nat} {P : Hp → V → Hp → Prop} (h : EvP te σ H P) (k : ∀ v H1, Ex H H1 → P H v H1 → D.nx (σ.set i (some v)) H1) : tAsg te (gName i) D σ H := h H (Ex.refl H) _ fun v H1 e p => k v H1 e p
theorem s_retP {P : Hp → V → Hp → Prop} (h : EvP te σ H P) (k : ∀ v H1, Ex H H1 → P H v H1 → D.rt v H1) : tRet te D σ H := h H (Ex.refl H) _ fun v H1 e p => k v H1 e p
theorem g2 {i j : Nat} {p : Addr} {Q : L2.St → Hp → Prop} (h : SqT K H p [x, y]) (k : Q ((σ.set i (some x)).set j (some y)) H) : gTup K 2 (gCons (gName i) (gCons (gName j) gNil)) (.ref p) σ H Q := ⟨p, [x, y], rfl, h, rfl, x, [y], rfl, y, [], rfl, rfl, k⟩
theorem g3 {i j l : Nat} {p : Addr} {Q : L2.St → Hp → Prop} (h : SqT K H p [x, y, z]) (k : Q (((σ.set i (some x)).set j (some y)).set l (some z)) H) : gTup K 3 (gCons (gName i) (gCons (gName j) (gCons (gName l) gNil))) (.ref p) σ H Q := ⟨p, [x, y, z], rfl, h, rfl, x, [y, z], rfl, y, [z], rfl, z, [], rfl, rfl, k⟩
/-- a slice of a new list -/
theorem el_slN {tl th : TO} {xs : List V} {lo hi : Option Int} (h : EvL te σ H xs) (h1 : ∀ H1, Ex H H1 → EvO tl σ H1 lo) (h2 : ∀ H1, Ex H H1 → EvO th σ H1 hi) : EvL (tSl (rSlL K) te tl th) σ H (cutV xs lo hi) := fun H1 e _ q =>
  h H1 e _ fun a H2 ha e2 hx => h1 H2 (e.trans e2) H2 (Ex.refl H2) _ fun H3 e3 => h2 H3 ((e.trans e2).trans e3) H3 (Ex.refl H3) _ fun H4 e4 =>
    ⟨a, xs, rfl, ex_l (e3.trans e4) (sq_of hx), fun p hp => q p _ (fresh_back ((e2.trans e3).trans e4) hp) (((e2.trans e3).trans e4).trans (Ex.new hp)) upd_same⟩
theorem cut_from {xs : List V} (k : Nat) : cutV xs (some (k : Int)) none = xs.drop k := by
  unfold cutV
  rw [HT.sIx_nat, HT.sIx_none]
  rcases Nat.le_total k xs.length with h | h
  · rw [Nat.min_eq_left h]
    exact List.take_of_length_le (Nat.le_of_eq (List.length_drop (i := k) (l := xs)))
  · rw [Nat.min_eq_right h, List.drop_eq_nil_of_le h, List.drop_eq_nil_of_le (Nat.le_refl _)]
    simp
theorem cut_to {xs : List V} (k : Nat) : cutV xs none (some (k : Int)) = xs.take k := by
  unfold cutV
  rw [HT.sIx_nat, HT.sIx_none]
  rcases Nat.le_total k xs.length with h | h
  · rw [Nat.min_eq_left h]
    simp
  · rw [Nat.min_eq_right h]
    simp [List.take_of_length_le h]
theorem cut_last {xs : List V} : cutV xs none (some (-1)) = xs.dropLast := by
  unfold cutV
  rw [HT.sIx_none]
  have : HT.sIx xs.length xs.length (some (-1)) = xs.length - 1 := by
    unfold HT.sIx
    simp only [show ((-1 : Int) < 0) from by decide, if_true]
    omega
  rw [this, List.dropLast_eq_take]
  simp
theorem cut_part {xs : List V} (a b : Nat) : cutV xs (some (a : Int)) (some (b : Int)) = (xs.drop (min a xs.length)).take (min b xs.length - min a xs.length) := by
  unfold cutV
  rw [HT.sIx_nat, HT.sIx_nat]
/-- for i, x in enumerate(xs) -/
theorem q_forE {ta : TA} {a : Addr} {xs : List V} (h : EvA ta σ H [.ref a]) (hx : SqL K H a xs) (Pv : Nat → L2.St → Hp → Prop) (h0 : ∀ H1, Ex H H1 → Pv 0 σ H1) (hl : ∀ i σ' H', i ≤ xs.length → Pv i σ' H' → SqL K H' a xs)
    (hs : ∀ (i : Nat) x (p : Addr) σ' H', xs[i]? = some x → Pv i σ' H' → H' p = none → g (.ref p) σ' (upd H' p (.tup [.int (i : Int), x])) fun σ2 H2 => tu { D with nx := Pv (i + 1), ct := Pv (i + 1), bk := tz D } σ2 H2) (hd : ∀ σ' H', Pv xs.length σ' H' → tz D σ' H') :
    tSeq (tFor (iEnum K ta) g tu) tz D σ H := h H (Ex.refl H) _ fun H1 e => ⟨a, xs, rfl, ex_l e hx, by
  refine ⟨fun i m σ H => m = xs.length - i ∧ i ≤ xs.length ∧ Pv i σ H, ⟨xs.length, rfl, Nat.zero_le _, h0 H1 e⟩, ?_⟩
  rintro i m σ' H' ⟨rfl, hi, p⟩
  have q := hl i σ' H' hi p
  by_cases hlt : i < xs.length
  · refine .inr ⟨⟨xs, xs[i], q, by simp [hlt]⟩, Pv (i + 1), fun σ2 H2 p' => ⟨xs.length - (i + 1), by omega, rfl, hlt, p'⟩, fun v H2 y => ?_⟩
    obtain ⟨T, x, rfl, hT, rfl, f⟩ := y
    exact hs i x T σ' H' (f xs q) p hT
  · have e : i = xs.length := by omega
    subst e
    exact .inl ⟨⟨xs, q, Nat.le_refl _⟩, hd σ' H' p⟩⟩
/-- for x, y in zip(a new list, ys) -/
theorem q_forZ {tl tr : TE} {b : Addr} {xs ys : List V} (h : EvL tl σ H xs) (h2 : ∀ H1, Ex H H1 → Ev tr σ H1 (.ref b)) (hy : SqL K H b ys) (hlen : xs.length = ys.length) (Pv : Addr → Nat → L2.St → Hp → Prop)
    (h0 : ∀ p H1, H p = none → Ex H H1 → H1 p = some (.lst xs) → Pv p 0 σ H1) (hq : ∀ p i σ' H', Pv p i σ' H' → SqL K H' p xs ∧ SqL K H' b ys)
    (hs : ∀ p (i : Nat) x y (q : Addr) σ' H', xs[i]? = some x → ys[i]? = some y → Pv p i σ' H' → H' q = none → g (.ref q) σ' (upd H' q (.tup [x, y])) fun σ2 H2 => tu { D with nx := Pv p (i + 1), ct := Pv p (i + 1), bk := tz D } σ2 H2)
    (hd : ∀ p σ' H', Pv p xs.length σ' H' → tz D σ' H') : tSeq (tFor (iZip K (tCons tl (tCons tr tNil))) g tu) tz D σ H :=
  h H (Ex.refl H) _ fun p H1 hp e hx => h2 H1 e H1 (Ex.refl H1) _ fun H2 e2 => ⟨p, b, xs, ys, rfl, sq_of (e2 p _ hx), ex_l (e.trans e2) hy,
    RZ.for_zipL hlen (Pv p) (h0 p H2 hp (e.trans e2) (e2 p _ hx)) (hq p) (fun i x y T σ' H' a1 a2 a3 a4 => hs p i x y T σ' H' a1 a2 a3 a4) (hd p)⟩
theorem q_par {i j : Nat} {ta : TA} {v w : V} (h : EvA ta σ H [v, w]) (k : ∀ H1, Ex H H1 → tz D ((σ.set i (some v)).set j (some w)) H1) : tSeq (tPar i j ta) tz D σ H := h H (Ex.refl H) _ fun H1 e => ⟨v, w, rfl, k H1 e⟩

/-! ### new data -/
/-- it gives data of which P holds, new over H0 -/
def EvD (K : PySem.W.Frag) (H0 : Hp) (te : TE) (σ : L2.St) (H : Hp) (P : PyData → Prop) : Prop := ∀ H1, Ex H H1 → ∀ Q : VK, (∀ v d H2, Ex H1 H2 → P d → Fd K d H0 v H2 → Q v H2) → te σ H1 Q
def EvDA (K : PySem.W.Frag) (H0 : Hp) (ta : TA) (σ : L2.St) (H : Hp) (P : List PyData → Prop) : Prop := ∀ H1, Ex H H1 → ∀ Q : List V → Hp → Prop, (∀ vs ds H2, Ex H1 H2 → P ds → FdAll K ds H0 vs H2 → vs.length = ds.length → Q vs H2) → ta σ H1 Q
theorem ed_int {n : Int} (h : Ev te σ H (.int n)) : EvD K H0 te σ H (· = .int n) := fun H1 e Q q => h H1 e Q fun H2 e2 => q _ _ H2 e2 rfl (fd_int n)
theorem ed_str {n : Str} (h : Ev te σ H (.str n)) : EvD K H0 te σ H (· = .str n) := fun H1 e Q q => h H1 e Q fun H2 e2 => q _ _ H2 e2 rfl (fd_str n)
theorem ed_var {i : Nat} {d : PyData} (h : σ[i]? = some (some v)) (hf : Fd K d H0 v H) : EvD K H0 (tVar i) σ H (· = d) := fun H1 e Q q => ⟨v, h, q _ _ H1 (Ex.refl H1) rfl (hf.on e)⟩
theorem ed_intsL {ns : List Int} (e0 : Ex H0 H) (h : EvL te σ H (ns.map V.int)) : EvD K H0 te σ H (· = .list (ns.map PyData.int)) := fun H1 e Q q =>
  h H1 e Q fun p H2 hp e2 hx => q _ _ H2 e2 rfl (fd_list (fda_ints ns) (fresh_back (e0.trans e) hp) hx)
theorem ed_intsU {ns : List Int} (e0 : Ex H0 H) (h : EvU te σ H (ns.map V.int)) : EvD K H0 te σ H (· = .tuple (ns.map PyData.int)) := fun H1 e Q q =>
  h H1 e Q fun p H2 hp e2 hx => q _ _ H2 e2 rfl (fd_tup (fda_ints ns) (fresh_back (e0.trans e) hp) hx)
theorem ed_imp {P P' : PyData → Prop} (h : EvD K H0 te σ H P) (k : ∀ d, P d → P' d) : EvD K H0 te σ H P' := fun H1 e Q q => h H1 e Q fun v d H2 e2 p f => q v d H2 e2 (k d p) f
theorem ed_mono {P : PyData → Prop} (e : Ex H H') (h : EvD K H0 te σ H P) : EvD K H0 te σ H' P := fun H1 a Q q => h H1 (e.trans a) Q q
theorem eda_nil : EvDA K H0 tNil σ H (· = []) := fun H1 _ Q q => q _ _ H1 (Ex.refl H1) rfl fda_nil rfl
theorem eda_cons {tr : TA} {P : PyData → Prop} {Ps : List PyData → Prop} (h : EvD K H0 te σ H P) (hr : EvDA K H0 tr σ H Ps) : EvDA K H0 (tCons te tr) σ H (fun ds => ∃ d r, ds = d :: r ∧ P d ∧ Ps r) := fun H1 e Q q =>
  h H1 e _ fun v d H2 e2 p f => hr H2 (e.trans e2) _ fun vs ds H3 e3 ps fs hl => q _ _ H3 (e2.trans e3) ⟨d, ds, rfl, p, ps⟩ (fda_cons (f.on e3) fs) (by simp [hl])
theorem ed_tup {ta : TA} {Ps : List PyData → Prop} (e0 : Ex H0 H) (h : EvDA K H0 ta σ H Ps) (hl : ∀ ds, Ps ds → ds.length ≤ 100000) : EvD K H0 (tTup ta) σ H (fun d => ∃ ds, d = .tuple ds ∧ Ps ds) := fun H1 e Q q =>
  h H1 e _ fun vs ds H2 e2 ps f hv => ⟨sz_of (by rw [hv]; exact hl ds ps), fun p hp =>
    q _ _ _ (e2.trans (Ex.new hp)) ⟨ds, rfl, ps⟩ (fd_tup (f.on (Ex.new hp)) (fresh_back ((e0.trans e).trans e2) hp) upd_same)⟩
theorem ed_lst {ta : TA} {Ps : List PyData → Prop} (e0 : Ex H0 H) (h : EvDA K H0 ta σ H Ps) (hl : ∀ ds, Ps ds → ds.length ≤ 100000) : EvD K H0 (tLst ta) σ H (fun d => ∃ ds, d = .list ds ∧ Ps ds) := fun H1 e Q q =>
  h H1 e _ fun vs ds H2 e2 ps f hv => ⟨sz_of (by rw [hv]; exact hl ds ps), fun p hp =>
    q _ _ _ (e2.trans (Ex.new hp)) ⟨ds, rfl, ps⟩ (fd_list (f.on (Ex.new hp)) (fresh_back ((e0.trans e).trans e2) hp) upd_same)⟩
/-- [e for i in range(n)], each a new data of which P i holds -/
theorem ed_lcR {ta : TA} {j : Nat} {vs : List Nat} {n : Int} {P : Nat → PyData → Prop} (e0 : Ex H0 H) (h : EvA ta σ H [.int n]) (hn : 0 ≤ n ∧ n ≤ 40000) (hw : ∀ x, wipe ((wipe σ vs).set j (some x)) vs = wipe σ vs)
    (he : ∀ (i : Nat) H1, Ex H H1 → (i : Int) < n → EvD K H1 te ((wipe σ vs).set j (some (.int (i : Int)))) H1 (P i)) :
    EvD K H0 (tLc (iRng1 ta) (gName j) tYes te vs) σ H (fun d => ∃ ds : List PyData, d = .list ds ∧ (ds.length : Int) = n ∧ ∀ i d, ds[i]? = some d → P i d) := fun H1 e Q q =>
  h H1 e _ fun H2 e2 => ⟨n, rfl, by omega, by omega, fun Dl hD =>
    lc_range (lo := 0) (n := n.toNat) (fun i H' => ∃ (vs : List V) (ds : List PyData), Ex H2 H' ∧ H' Dl = some (.lst vs) ∧ FdAll K ds (upd H2 Dl (.lst [])) vs H' ∧ vs.length = i ∧ ds.length = i ∧ ∀ i d, ds[i]? = some d → P i d)
      ⟨[], [], Ex.new hD, upd_same, fda_nil, rfl, rfl, fun i d z => by simp at z⟩ (fun i H' hi p => by
        obtain ⟨vs', ds, p1, p2, p3, p4, p5, p6⟩ := p
        have ez : (0 : Int) + (i : Int) = (i : Int) := Int.zero_add _
        show wipe ((wipe σ vs).set j (some (.int ((0 : Int) + (i : Int))))) vs = wipe σ vs ∧ te ((wipe σ vs).set j (some (.int ((0 : Int) + (i : Int))))) H' fun y H4 => ∃ acc, H4 Dl = some (.lst acc) ∧ acc.length < sizeLine ∧ _
        rw [ez]
        refine ⟨hw _, he i H' ((e.trans e2).trans p1) (by omega) H' (Ex.refl H') _ fun v d H4 e4 pd fd => ⟨vs', e4 Dl _ p2, sz_lt (by omega), vs' ++ [v], ds ++ [d], Ex.mut (p1.trans e4) hD, upd_same, ?_, by simp [p4], by simp [p5], fun k d' hk => ?_⟩⟩
        · have hex : Ex (upd H2 Dl (.lst [])) (upd H' Dl (.lst [])) := fun a o ha => by
            by_cases hz : a = Dl
            · subst hz; rw [upd_same] at ha ⊢; exact ha
            · rw [upd_ne hz] at ha ⊢; exact p1 a o ha
          have hDn : (upd H2 Dl (.lst [])) Dl ≠ none := by rw [upd_same]; simp
          have f1 := (p3.on e4).mut (p := Dl) (o := .lst (vs' ++ [v])) hDn
          have f2 : Fd K d (upd H2 Dl (.lst [])) v H4 := by
            obtain ⟨G, g1, g2, g3⟩ := fd
            refine ⟨G, g1, fun a o z => ?_, g3⟩
            have := g2 a o z
            by_cases hz : a = Dl
            · subst hz; rw [p2] at this; simp at this
            · rw [upd_ne hz]; exact fresh_back p1 this
          exact fda_snoc f1 (f2.mut hDn)
        · rcases Nat.lt_or_ge k ds.length with hk' | hk'
          · rw [List.getElem?_append_left hk'] at hk
            exact p6 k d' hk
          · rw [List.getElem?_append_right hk'] at hk
            have : k = ds.length := by
              rcases Nat.lt_or_ge ds.length k with z | z
              · rw [List.getElem?_eq_none (by simp; omega)] at hk; cases hk
              · omega
            subst this
            simp at hk
            subst hk
            rw [p5]
            exact pd) (fun H' p => by
        obtain ⟨vs', ds, p1, p2, p3, p4, p5, p6⟩ := p
        refine q _ _ H' (e2.trans p1) ⟨ds, rfl, by omega, p6⟩ ?_
        obtain ⟨G, g1, g2, g3⟩ := p3
        refine fd_list ⟨G, g1, fun a o z => ?_, g3⟩ (fresh_back ((e0.trans e).trans e2) hD) p2
        have := g2 a o z
        by_cases hz : a = Dl
        · subst hz; rw [upd_same] at this; cases this
        · rw [upd_ne hz] at this; exact fresh_back ((e0.trans e).trans e2) this)⟩
end

/-! ### built-ins by short names -/
section
variable {X : Cx}
theorem crLen : CallR X (.builtin "len") (rLenS X.K) := call_len_seq
theorem crList : CallR X (.type "list") (rListS X.K) := call_list_of
/-- repr of data -/
def rRepr (K : PySem.W.Frag) : List V → Hp → VK → Prop := fun xs H Q => ∃ a d, xs = [.ref a] ∧ Dp K H (.ref a) d ∧ d.showable = true ∧ d.hasDict = false ∧ d.depth ≤ 60 ∧ d.shown.length ≤ sizeLine ∧ Q (.str d.shown) H
theorem crRepr (hg : X.A.guards = some []) (hu : X.A.units + 64 < cLine) : CallR X (.builtin "repr") (rRepr X.K) := by
  intro pins s σ H xs us Q I r h
  obtain ⟨a, d, rfl, hd, h1, h2, h3, h4, q⟩ := h
  obtain ⟨u, rfl, ru⟩ := vals1 r
  obtain rfl : u = Value.ref a := ru
  obtain ⟨as, rd⟩ := Dp.reads I d (.ref a) (.ref a) hd rfl
  exact repr_of_reads' rd h1 (fun z => by rw [h2] at z; cases z) hg (by omega) (fun _ _ z => z) (fun h' u tk k => ⟨.str d.shown, H, I.kept k, ⟨_, rfl⟩, q⟩) h4
end
end Mh

set_option Elab.async false
set_option linter.all false
set_option maxRecDepth 100000
namespace Mh
open PySem PySem.Spec PyProof.Rows L2 Evl
def topS (i : Nat) : Stmt := PySem.Challenge.pw_meanhold_k07_whole_ways_unrolled.main.body.getD i (.Pass ⟨0, 0, 0, 0⟩)
/-- a def of the text as it stands behind the top -/
structure At (K : PySem.W.Frag) (mg : Str → Option Value) (x : Str) (st : Stmt) (p : Addr × FuncData) : Prop where
  F : Fun K x x st p.1 p.2
  g : mg x = some (.ref p.1)
theorem At.kp {K : PySem.W.Frag} {mg : Str → Option Value} {x : Str} {st : Stmt} {p : Addr × FuncData} (A : At K mg x st p) : PySem.W.keepIn K (.ref p.1) = true := A.F.kp

/-! number: 0 n 1 d 2 common -/
abbrev s_number : Stmt := topS 6
abbrev N_number : List Str := ["n", "d", "common"]
theorem sc_number : FnScope N_number ["n", "d"] (defScope s_number) := ⟨rfl, rfl, rfl, by decide +kernel, rfl, by decide +kernel, by decide +kernel⟩
theorem bd_number {K : PySem.W.Frag} {mg : Str → Option Value} {p : Addr × FuncData} (A : At K mg "number" s_number p) : Binds K p.2 ["n", "d"] [] := A.F.binds fun _ _ _ _ _ _ us hl => match us, hl with | [_, _], _ => rfl
/-! plus: 0 a 1 b -/
abbrev s_plus : Stmt := topS 7
abbrev N_plus : List Str := ["a", "b"]
theorem sc_plus : FnScope N_plus ["a", "b"] (defScope s_plus) := ⟨rfl, rfl, rfl, by decide +kernel, rfl, by decide +kernel, by decide +kernel⟩
theorem bd_plus {K : PySem.W.Frag} {mg : Str → Option Value} {p : Addr × FuncData} (A : At K mg "plus" s_plus p) : Binds K p.2 ["a", "b"] [] := A.F.binds fun _ _ _ _ _ _ us hl => match us, hl with | [_, _], _ => rfl
/-! total: 0 numbers 1 found 2 one -/
abbrev s_total : Stmt := topS 8
abbrev N_total : List Str := ["numbers", "found", "one"]
theorem sc_total : FnScope N_total ["numbers"] (defScope s_total) := ⟨rfl, rfl, rfl, by decide +kernel, rfl, by decide +kernel, by decide +kernel⟩
theorem bd_total {K : PySem.W.Frag} {mg : Str → Option Value} {p : Addr × FuncData} (A : At K mg "total" s_total p) : Binds K p.2 ["numbers"] [] := A.F.binds fun _ _ _ _ _ _ us hl => match us, hl with | [_], _ => rfl
/-! targets: 0 game 1 place 2 gain 3 kind 4 branches 5 chance 6 target -/
abbrev s_targets : Stmt := topS 10
abbrev N_targets : List Str := ["game", "place", "gain", "kind", "branches", "chance", "target"]
theorem sc_targets : FnScope N_targets ["game", "place"] (defScope s_targets) := ⟨rfl, rfl, rfl, by decide +kernel, rfl, by decide +kernel, by decide +kernel⟩
theorem bd_targets {K : PySem.W.Frag} {mg : Str → Option Value} {p : Addr × FuncData} (A : At K mg "targets" s_targets p) : Binds K p.2 ["game", "place"] [] := A.F.binds fun _ _ _ _ _ _ us hl => match us, hl with | [_, _], _ => rfl
/-! walk: 0 game 1 start 2 branches 3 first 4 places 5 step 6 branch 7 found -/
abbrev s_walk : Stmt := topS 12
abbrev N_walk : List Str := ["game", "start", "branches", "first", "places", "step", "branch", "found"]
theorem sc_walk : FnScope N_walk ["game", "start", "branches", "first"] (defScope s_walk) := ⟨rfl, rfl, rfl, by decide +kernel, rfl, by decide +kernel, by decide +kernel⟩
theorem bd_walk {K : PySem.W.Frag} {mg : Str → Option Value} {p : Addr × FuncData} (A : At K mg "walk" s_walk p) : Binds K p.2 ["game", "start", "branches", "first"] [] := A.F.binds fun _ _ _ _ _ _ us hl => match us, hl with | [_, _, _, _], _ => rfl
/-! places_on: 0 game 1 start 2 branches -/
abbrev s_places_on : Stmt := topS 13
abbrev N_places_on : List Str := ["game", "start", "branches"]
theorem sc_places_on : FnScope N_places_on ["game", "start", "branches"] (defScope s_places_on) := ⟨rfl, rfl, rfl, by decide +kernel, rfl, by decide +kernel, by decide +kernel⟩
theorem bd_places_on {K : PySem.W.Frag} {mg : Str → Option Value} {p : Addr × FuncData} (A : At K mg "places_on" s_places_on p) : Binds K p.2 ["game", "start", "branches"] [] := A.F.binds fun _ _ _ _ _ _ us hl => match us, hl with | [_, _, _], _ => rfl
/-! sum_of: 0 game 1 start 2 branches 3 place -/
abbrev s_sum_of : Stmt := topS 14
abbrev N_sum_of : List Str := ["game", "start", "branches", "place"]
theorem sc_sum_of : FnScope N_sum_of ["game", "start", "branches"] (defScope s_sum_of) := ⟨rfl, rfl, rfl, by decide +kernel, rfl, by decide +kernel, by decide +kernel⟩
theorem bd_sum_of {K : PySem.W.Frag} {mg : Str → Option Value} {p : Addr × FuncData} (A : At K mg "sum_of" s_sum_of p) : Binds K p.2 ["game", "start", "branches"] [] := A.F.binds fun _ _ _ _ _ _ us hl => match us, hl with | [_, _, _], _ => rfl
/-! unrolled: 0 game 1 start 2 branches 3 places 4 path 5 circles 6 target 7 branch 8 at -/
abbrev s_unrolled : Stmt := topS 15
abbrev N_unrolled : List Str := ["game", "start", "branches", "places", "path", "circles", "target", "branch", "at"]
theorem sc_unrolled : FnScope N_unrolled ["game", "start", "branches"] (defScope s_unrolled) := ⟨rfl, rfl, rfl, by decide +kernel, rfl, by decide +kernel, by decide +kernel⟩
theorem bd_unrolled {K : PySem.W.Frag} {mg : Str → Option Value} {p : Addr × FuncData} (A : At K mg "unrolled" s_unrolled p) : Binds K p.2 ["game", "start", "branches"] [] := A.F.binds fun _ _ _ _ _ _ us hl => match us, hl with | [_, _, _], _ => rfl
/-! _law_draws: 0 _law_script 1 _law_count 2 _law_cell 3 _law_rests 4 _law_draws_here 5 _law_k 6 _law_value 7 _law_at 8 _law_mixed -/
abbrev s_l_draws : Stmt := topS 17
abbrev N_l_draws : List Str := ["_law_script", "_law_count", "_law_cell", "_law_rests", "_law_draws_here", "_law_k", "_law_value", "_law_at", "_law_mixed"]
theorem sc_l_draws : FnScope N_l_draws ["_law_script", "_law_count"] (defScope s_l_draws) := ⟨rfl, rfl, rfl, by decide +kernel, rfl, by decide +kernel, by decide +kernel⟩
theorem bd_l_draws {K : PySem.W.Frag} {mg : Str → Option Value} {p : Addr × FuncData} (A : At K mg "_law_draws" s_l_draws p) : Binds K p.2 ["_law_script", "_law_count"] [] := A.F.binds fun _ _ _ _ _ _ us hl => match us, hl with | [_, _], _ => rfl
/-! _law_gcd: 0 _law_a 1 _law_b 2 _law_step 3 _law_rest -/
abbrev s_l_gcd : Stmt := topS 18
abbrev N_l_gcd : List Str := ["_law_a", "_law_b", "_law_step", "_law_rest"]
theorem sc_l_gcd : FnScope N_l_gcd ["_law_a", "_law_b"] (defScope s_l_gcd) := ⟨rfl, rfl, rfl, by decide +kernel, rfl, by decide +kernel, by decide +kernel⟩
theorem bd_l_gcd {K : PySem.W.Frag} {mg : Str → Option Value} {p : Addr × FuncData} (A : At K mg "_law_gcd" s_l_gcd p) : Binds K p.2 ["_law_a", "_law_b"] [] := A.F.binds fun _ _ _ _ _ _ us hl => match us, hl with | [_, _], _ => rfl
/-! _law_number: 0 _law_n 1 _law_d 2 _law_common -/
abbrev s_l_number : Stmt := topS 19
abbrev N_l_number : List Str := ["_law_n", "_law_d", "_law_common"]
theorem sc_l_number : FnScope N_l_number ["_law_n", "_law_d"] (defScope s_l_number) := ⟨rfl, rfl, rfl, by decide +kernel, rfl, by decide +kernel, by decide +kernel⟩
theorem bd_l_number {K : PySem.W.Frag} {mg : Str → Option Value} {p : Addr × FuncData} (A : At K mg "_law_number" s_l_number p) : Binds K p.2 ["_law_n", "_law_d"] [] := A.F.binds fun _ _ _ _ _ _ us hl => match us, hl with | [_, _], _ => rfl
/-! _law_plus: 0 _law_a 1 _law_b -/
abbrev s_l_plus : Stmt := topS 20
abbrev N_l_plus : List Str := ["_law_a", "_law_b"]
theorem sc_l_plus : FnScope N_l_plus ["_law_a", "_law_b"] (defScope s_l_plus) := ⟨rfl, rfl, rfl, by decide +kernel, rfl, by decide +kernel, by decide +kernel⟩
theorem bd_l_plus {K : PySem.W.Frag} {mg : Str → Option Value} {p : Addr × FuncData} (A : At K mg "_law_plus" s_l_plus p) : Binds K p.2 ["_law_a", "_law_b"] [] := A.F.binds fun _ _ _ _ _ _ us hl => match us, hl with | [_, _], _ => rfl
/-! _law_place: 0 _law_draws_here 1 _law_many 2 _law_kind 3 _law_gain 4 _law_size 5 _law_k 6 _law_places_here 7 _law_weights -/
abbrev s_l_place : Stmt := topS 23
abbrev N_l_place : List Str := ["_law_draws_here", "_law_many", "_law_kind", "_law_gain", "_law_size", "_law_k", "_law_places_here", "_law_weights"]
theorem sc_l_place : FnScope N_l_place ["_law_draws_here", "_law_many"] (defScope s_l_place) := ⟨rfl, rfl, rfl, by decide +kernel, rfl, by decide +kernel, by decide +kernel⟩
theorem bd_l_place {K : PySem.W.Frag} {mg : Str → Option Value} {p : Addr × FuncData} (A : At K mg "_law_place" s_l_place p) : Binds K p.2 ["_law_draws_here", "_law_many"] [] := A.F.binds fun _ _ _ _ _ _ us hl => match us, hl with | [_, _], _ => rfl
/-! _law_game: 0 _law_draws_here 1 _law_most 2 _law_many 3 _law_k -/
abbrev s_l_game : Stmt := topS 24
abbrev N_l_game : List Str := ["_law_draws_here", "_law_most", "_law_many", "_law_k"]
theorem sc_l_game : FnScope N_l_game ["_law_draws_here", "_law_most"] (defScope s_l_game) := ⟨rfl, rfl, rfl, by decide +kernel, rfl, by decide +kernel, by decide +kernel⟩
theorem bd_l_game {K : PySem.W.Frag} {mg : Str → Option Value} {p : Addr × FuncData} (A : At K mg "_law_game" s_l_game p) : Binds K p.2 ["_law_draws_here", "_law_most"] [] := A.F.binds fun _ _ _ _ _ _ us hl => match us, hl with | [_, _], _ => rfl
/-! _law_targets: 0 _law_place_here 1 _law_chance 2 _law_target -/
abbrev s_l_targets : Stmt := topS 25
abbrev N_l_targets : List Str := ["_law_place_here", "_law_chance", "_law_target"]
theorem sc_l_targets : FnScope N_l_targets ["_law_place_here"] (defScope s_l_targets) := ⟨rfl, rfl, rfl, by decide +kernel, rfl, by decide +kernel, by decide +kernel⟩
theorem bd_l_targets {K : PySem.W.Frag} {mg : Str → Option Value} {p : Addr × FuncData} (A : At K mg "_law_targets" s_l_targets p) : Binds K p.2 ["_law_place_here"] [] := A.F.binds fun _ _ _ _ _ _ us hl => match us, hl with | [_], _ => rfl
/-! _law_same: 0 _law_actual 1 _law_due 2 _law_k -/
abbrev s_l_same : Stmt := topS 26
abbrev N_l_same : List Str := ["_law_actual", "_law_due", "_law_k"]
theorem sc_l_same : FnScope N_l_same ["_law_actual", "_law_due"] (defScope s_l_same) := ⟨rfl, rfl, rfl, by decide +kernel, rfl, by decide +kernel, by decide +kernel⟩
theorem bd_l_same {K : PySem.W.Frag} {mg : Str → Option Value} {p : Addr × FuncData} (A : At K mg "_law_same" s_l_same p) : Binds K p.2 ["_law_actual", "_law_due"] [] := A.F.binds fun _ _ _ _ _ _ us hl => match us, hl with | [_, _], _ => rfl
/-! _law_way: 0 _law_game_here 1 _law_start 2 _law_draws_here 3 _law_found 4 _law_here 5 _law_draw 6 _law_targets_here -/
abbrev s_l_way : Stmt := topS 27
abbrev N_l_way : List Str := ["_law_game_here", "_law_start", "_law_draws_here", "_law_found", "_law_here", "_law_draw", "_law_targets_here"]
theorem sc_l_way : FnScope N_l_way ["_law_game_here", "_law_start", "_law_draws_here"] (defScope s_l_way) := ⟨rfl, rfl, rfl, by decide +kernel, rfl, by decide +kernel, by decide +kernel⟩
theorem bd_l_way {K : PySem.W.Frag} {mg : Str → Option Value} {p : Addr × FuncData} (A : At K mg "_law_way" s_l_way p) : Binds K p.2 ["_law_game_here", "_law_start", "_law_draws_here"] [] := A.F.binds fun _ _ _ _ _ _ us hl => match us, hl with | [_, _, _], _ => rfl
/-! _law_places: 0 _law_game_here 1 _law_start 2 _law_branches 3 _law_found 4 _law_branch -/
abbrev s_l_places : Stmt := topS 28
abbrev N_l_places : List Str := ["_law_game_here", "_law_start", "_law_branches", "_law_found", "_law_branch"]
theorem sc_l_places : FnScope N_l_places ["_law_game_here", "_law_start", "_law_branches"] (defScope s_l_places) := ⟨rfl, rfl, rfl, by decide +kernel, rfl, by decide +kernel, by decide +kernel⟩
theorem bd_l_places {K : PySem.W.Frag} {mg : Str → Option Value} {p : Addr × FuncData} (A : At K mg "_law_places" s_l_places p) : Binds K p.2 ["_law_game_here", "_law_start", "_law_branches"] [] := A.F.binds fun _ _ _ _ _ _ us hl => match us, hl with | [_, _, _], _ => rfl
/-! _law_unrolled: 0 _law_game_here 1 _law_start 2 _law_branches 3 _law_path 4 _law_end 5 _law_circles 6 _law_branch 7 _law_k 8 _law_pair -/
abbrev s_l_unrolled : Stmt := topS 29
abbrev N_l_unrolled : List Str := ["_law_game_here", "_law_start", "_law_branches", "_law_path", "_law_end", "_law_circles", "_law_branch", "_law_k", "_law_pair"]
theorem sc_l_unrolled : FnScope N_l_unrolled ["_law_game_here", "_law_start", "_law_branches"] (defScope s_l_unrolled) := ⟨rfl, rfl, rfl, by decide +kernel, rfl, by decide +kernel, by decide +kernel⟩
theorem bd_l_unrolled {K : PySem.W.Frag} {mg : Str → Option Value} {p : Addr × FuncData} (A : At K mg "_law_unrolled" s_l_unrolled p) : Binds K p.2 ["_law_game_here", "_law_start", "_law_branches"] [] := A.F.binds fun _ _ _ _ _ _ us hl => match us, hl with | [_, _, _], _ => rfl
/-! _law_refused: 0 _law_game_here 1 _law_start 2 _law_branches 3 e -/
abbrev s_l_refused : Stmt := topS 30
abbrev N_l_refused : List Str := ["_law_game_here", "_law_start", "_law_branches", "e"]
theorem sc_l_refused : FnScope N_l_refused ["_law_game_here", "_law_start", "_law_branches"] (defScope s_l_refused) := ⟨rfl, rfl, rfl, by decide +kernel, rfl, by decide +kernel, by decide +kernel⟩
theorem bd_l_refused {K : PySem.W.Frag} {mg : Str → Option Value} {p : Addr × FuncData} (A : At K mg "_law_refused" s_l_refused p) : Binds K p.2 ["_law_game_here", "_law_start", "_law_branches"] [] := A.F.binds fun _ _ _ _ _ _ us hl => match us, hl with | [_, _, _], _ => rfl
/-! law: 0 _law_script 1 _law_draws_here 2 _law_game_here 3 _law_k 4 _law_start 5 _law_branches 6 _law_kept 7 _law_due 8 _law_turn 9 _law_told 10 _law_place_here 11 _law_circle 12 _law_path 13 _law_circles 14 _law_places_here 15 _law_total_here 16 _law_steps 17 _law_ring -/
abbrev s_law : Stmt := topS 31
abbrev N_law : List Str := ["_law_script", "_law_draws_here", "_law_game_here", "_law_k", "_law_start", "_law_branches", "_law_kept", "_law_due", "_law_turn", "_law_told", "_law_place_here", "_law_circle", "_law_path", "_law_circles", "_law_places_here", "_law_total_here", "_law_steps", "_law_ring"]
theorem sc_law : FnScope N_law ["_law_script"] (defScope s_law) := ⟨rfl, rfl, rfl, by decide +kernel, rfl, by decide +kernel, by decide +kernel⟩
theorem bd_law {K : PySem.W.Frag} {mg : Str → Option Value} {p : Addr × FuncData} (A : At K mg "law" s_law p) : Binds K p.2 ["_law_script"] [] := A.F.binds fun _ _ _ _ _ _ us hl => match us, hl with | [_], _ => rfl
structure Ad where
  (number plus total targets walk places_on sum_of unrolled l_draws l_gcd l_number l_plus l_place l_game l_targets l_same l_way l_places l_unrolled l_refused : Addr × FuncData)
  (C fI n0 : Addr)
structure Txt (K : PySem.W.Frag) (mg : Str → Option Value) (a : Ad) : Prop where
  number : At K mg "number" s_number a.number
  plus : At K mg "plus" s_plus a.plus
  total : At K mg "total" s_total a.total
  targets : At K mg "targets" s_targets a.targets
  walk : At K mg "walk" s_walk a.walk
  places_on : At K mg "places_on" s_places_on a.places_on
  sum_of : At K mg "sum_of" s_sum_of a.sum_of
  unrolled : At K mg "unrolled" s_unrolled a.unrolled
  l_draws : At K mg "_law_draws" s_l_draws a.l_draws
  l_gcd : At K mg "_law_gcd" s_l_gcd a.l_gcd
  l_number : At K mg "_law_number" s_l_number a.l_number
  l_plus : At K mg "_law_plus" s_l_plus a.l_plus
  l_place : At K mg "_law_place" s_l_place a.l_place
  l_game : At K mg "_law_game" s_l_game a.l_game
  l_targets : At K mg "_law_targets" s_l_targets a.l_targets
  l_same : At K mg "_law_same" s_l_same a.l_same
  l_way : At K mg "_law_way" s_l_way a.l_way
  l_places : At K mg "_law_places" s_l_places a.l_places
  l_unrolled : At K mg "_law_unrolled" s_l_unrolled a.l_unrolled
  l_refused : At K mg "_law_refused" s_l_refused a.l_refused
  z_len : mg "len" = none
  z_list : mg "list" = none
  z_tuple : mg "tuple" = none
  z_bool : mg "bool" = none
  z_int : mg "int" = none
  z_str : mg "str" = none
  z_abs : mg "abs" = none
  z_sum : mg "sum" = none
  z_all : mg "all" = none
  z_any : mg "any" = none
  z_isinstance : mg "isinstance" = none
  z_repr : mg "repr" = none
  z_range : mg "range" = none
  z_zip : mg "zip" = none
  z_enumerate : mg "enumerate" = none
  z_super : mg "super" = none
  gcd : mg "gcd" = some (.builtin "math.gcd")
  nought : mg "NOUGHT" = some (.ref a.n0)
  nought_is : ∃ (o : Obj) (n : Nat) (t u : Tok), K.lookup a.n0 = some o ∧ o.cls = .type "tuple" ∧ o.data = .seq #[.int 0 t, .int 1 u] n
end Mh

set_option Elab.async false
set_option linter.all false
set_option maxRecDepth 100000
namespace Mh
open PySem PySem.Spec PyProof.Rows L2 Evl
section
variable {P : Program} {w : World} {K : PySem.W.Frag} {mg : Str → Option Value} {base : Heap} {a : Ad}
/-- a new tuple -/
def RetU (xs : List V) (H : Hp) (Q : VK) : Prop := ∀ p H2, H p = none → Ex H H2 → H2 p = some (.tup xs) → Q (.ref p) H2
theorem RetU.go {H H' : Hp} {xs : List V} {Q : VK} (k : RetU xs H Q) (e : Ex H H') {p : Addr} {H2 : Hp} (hp : H' p = none) (e2 : Ex H' H2) (h : H2 p = some (.tup xs)) : Q (.ref p) H2 := k p H2 (fresh_back e hp) (e.trans e2) h
def nv (x : Int × Int) : List V := [.int x.1, .int x.2]
def spNumber : Sp := fun vs H Q _ => ∃ n d : Int, vs = [.int n, .int d] ∧ 0 < d ∧ d < 1073741824 ∧ RetU (nv (numb n d)) H Q
theorem numb_div {n d : Int} (hd : 0 < d) (hs : d < 1073741824) : 0 < ((Nat.gcd n.natAbs d.natAbs : Nat) : Int) ∧ ((Nat.gcd n.natAbs d.natAbs : Nat) : Int) < 1073741824 := by
  have h1 := gcd_pos (n := n) hd
  have h2 := Nat.gcd_le_right n.natAbs (show 0 < d.natAbs by omega)
  omega
theorem ok_number (T : Txt K mg a) : FnOk P w K mg base CX0 1 a.number.1 a.number.2 ["n", "d"] spNumber := by
  refine T.number.F.ok sc_number (fun vs H Q E h => ?_) (fun cdv A outer s H vs Q E hr h => ?_)
  · obtain ⟨n, d, rfl, _⟩ := h
    rfl
  · obtain ⟨n, d, rfl, hd, hs, q⟩ := h
    refine ⟨_, (pss_cons (ps_if (pt_cmpR op_lt (pv 1) pe_int (nomark _)) (pss_one ps_never) pss_nil)
      (pss_cons (ps_set (i := 2) sc_number.nd rfl (Or.inl rfl) (pe_callBfun cr_gcd (by rfl) T.gcd (pa_cons (pv 0) (pa_cons (pv 1) pa_nil))))
      (pss_one (ps_ret (pe_tup (pa_cons (pe_op op_fdiv (pv 0) (pv 2)) (pa_cons (pe_op op_fdiv (pv 1) (pv 2)) pa_nil))))))), ?_⟩
    refine q_when (et_is (et_lt (ev_var rfl) ev_c) (decide_eq_false (by omega))) (fun hb => Bool.noConfusion hb) fun _ H1 e1 => ?_
    refine q_asg (ev_cb (ea_cons (ev_var rfl) (ea_cons (ev_var rfl) ea_nil)) (fun H2 e2 Q q => ⟨n, d, rfl, q H2 (Ex.refl H2)⟩)) fun H2 e2 => ?_
    refine s_retU (eu_tup (ea_cons (ev_div (ev_var rfl) (ev_var rfl) (numb_div hd hs)) (ea_cons (ev_div (ev_var rfl) (ev_var rfl) (numb_div hd hs)) ea_nil)) (show 2 ≤ 100000 by decide)) fun p H3 hp e3 h3 => ?_
    exact q.go (e1.trans e2) hp e3 h3
/-- a number in a tuple -/
def spPlus (K : PySem.W.Frag) : Sp := fun vs H Q _ => ∃ (p1 p2 : Addr) (x y : Int × Int), vs = [.ref p1, .ref p2] ∧ SqT K H p1 (nv x) ∧ SqT K H p2 (nv y) ∧ (0 < x.2 ∧ x.2 ≤ 420) ∧ (0 < y.2 ∧ y.2 ≤ 420) ∧
  RetU (nv (numb (x.1 * y.2 + y.1 * x.2) (x.2 * y.2))) H Q
theorem mul_le {a b : Int} (ha : 0 < a ∧ a ≤ 420) (hb : 0 < b ∧ b ≤ 420) : 0 < a * b ∧ a * b < 1073741824 := by
  refine ⟨Int.mul_pos ha.1 hb.1, ?_⟩
  have := Int.mul_le_mul ha.2 hb.2 (Int.le_of_lt hb.1) (by omega)
  omega
theorem cmul_r {i j : Int} (h : 0 < j ∧ j ≤ 420) : CMul i j := .inr ⟨by have := h.1; omega, by have := h.2; omega⟩
theorem ok_plus (T : Txt K mg a) : FnOk P w K mg base CX0 2 a.plus.1 a.plus.2 ["a", "b"] (spPlus K) := by
  have G_number := ok_number (P := P) (w := w) (base := base) T
  have b_number := bd_number T.number
  refine T.plus.F.ok sc_plus (fun vs H Q E h => ?_) (fun cdv A outer s H vs Q E hr h => ?_)
  · obtain ⟨_, _, _, _, rfl, _⟩ := h
    rfl
  · obtain ⟨p1, p2, x, y, rfl, h1, h2, hx, hy, q⟩ := h
    refine ⟨_, (pss_one (ps_ret (pe_call G_number (hr.mono (by decide)) (by rfl) T.number.g T.number.kp b_number .nil pass0 (pa_cons (pe_op op_add (pe_op op_mul (pe_ix ix_seq (pv 0) pe_int (fun _ _ => rfl)) (pe_ix ix_seq (pv 1) pe_int (fun _ _ => rfl))) (pe_op op_mul (pe_ix ix_seq (pv 1) pe_int (fun _ _ => rfl)) (pe_ix ix_seq (pv 0) pe_int (fun _ _ => rfl)))) (pa_cons (pe_op op_mul (pe_ix ix_seq (pv 0) pe_int (fun _ _ => rfl)) (pe_ix ix_seq (pv 1) pe_int (fun _ _ => rfl))) pa_nil))))), ?_⟩
    have i0 : ∀ {z : Int × Int}, atI (nv z) (0 : Int) = some (V.int z.1) := atI_nat (j := 0) rfl
    have i1 : ∀ {z : Int × Int}, atI (nv z) (1 : Int) = some (V.int z.2) := atI_nat (j := 1) rfl
    refine s_retU (eu_call (ea_cons (ev_add (ev_mul (ev_ixT (ev_var rfl) ev_c h1 i0) (ev_ixT (ev_var rfl) ev_c h2 i1) (cmul_r hy)) (ev_mul (ev_ixT (ev_var rfl) ev_c h2 i0) (ev_ixT (ev_var rfl) ev_c h1 i1) (cmul_r hx)))
      (ea_cons (ev_mul (ev_ixT (ev_var rfl) ev_c h1 i1) (ev_ixT (ev_var rfl) ev_c h2 i1) (cmul_r hy)) ea_nil)) (fun H1 e1 Q1 q1 E1 => ?_)) fun p H2 hp e2 h2 => q p H2 hp e2 h2
    exact ⟨_, _, rfl, (mul_le hx hy).1, (mul_le hx hy).2, q1⟩
/-- a tuple of numbers is at p -/
def Nm (K : PySem.W.Frag) (k : Int) (H : Hp) (v : V) : Prop := ∃ p, v = .ref p ∧ SqT K H p (nv (nk k))
theorem Nm.on {k : Int} {H H' : Hp} {v : V} (h : Nm K k H v) (e : Ex H H') : Nm K k H' v := by
  obtain ⟨p, r, q⟩ := h
  exact ⟨p, r, ex_t e q⟩
def spTotal (K : PySem.W.Frag) : Sp := fun vs H Q _ => ∃ (l : Addr) (xs : List V) (ks : List Int), vs = [.ref l] ∧ SqL K H l xs ∧ xs.length = ks.length ∧ (∀ (i : Nat) (x : V) (k : Int), xs[i]? = some x → ks[i]? = some k → Nm K k H x) ∧
  ∀ v H', Ex H H' → Nm K ks.sum H' v → Q v H'
theorem nought_nm (T : Txt K mg a) {H : Hp} : Nm K 0 H (.ref a.n0) := by
  obtain ⟨o, n, t, u, h1, h2, h3⟩ := T.nought_is
  refine ⟨a.n0, rfl, .inr ⟨o, _, n, h1, h2, h3, (show 2 ≤ sizeLine by decide), ?_⟩⟩
  rw [nk_zero]
  exact .cons ⟨t, rfl⟩ (.cons ⟨u, rfl⟩ .nil)
theorem nk_bd (k : Int) : 0 < (nk k).2 ∧ (nk k).2 ≤ 420 := (nk_spec k).2
theorem ok_total (T : Txt K mg a) : FnOk P w K mg base CX0 3 a.total.1 a.total.2 ["numbers"] (spTotal K) := by
  have G_plus := ok_plus (P := P) (w := w) (base := base) T
  have b_plus := bd_plus T.plus
  refine T.total.F.ok sc_total (fun vs H Q E h => ?_) (fun cdv A outer s H vs Q E hr h => ?_)
  · obtain ⟨_, _, _, rfl, _⟩ := h
    rfl
  · obtain ⟨l, xs, ks, rfl, hl, hlen, hk, q⟩ := h
    refine ⟨_, (pss_cons (ps_set (i := 1) sc_total.nd rfl (Or.inl rfl) (pe_glob (by rfl) T.nought (v := .ref a.n0) rfl))
      (pss_cons (ps_for PassesOwn.never rfl (pi_list (pv 0)) (pg_name (i := 2) sc_total.nd rfl (Or.inl rfl))
        (pss_one (ps_set (i := 1) sc_total.nd rfl (Or.inl rfl) (pe_call G_plus (hr.mono (by decide)) (by rfl) T.plus.g T.plus.kp b_plus .nil pass0 (pa_cons (pv 1) (pa_cons (pv 2) pa_nil))))))
      (pss_one (ps_ret (pv 1))))), ?_⟩
    refine q_asg ev_c fun H1 e1 => ?_
    refine q_forLn (ev_var rfl) (ex_l e1 hl) (fun i σ H' => ∃ v y, σ = [some (.ref l), some v, y] ∧ Ex H H' ∧ Nm K (ks.take i).sum H' v) (fun H2 e2 => ⟨_, none, rfl, e1.trans e2, nought_nm T⟩) (fun i σ' H' _ p => ?_) (fun i x σ' H' hx p => ?_) (fun σ' H' p => ?_)
    · obtain ⟨_, _, _, e, _⟩ := p
      exact ex_l e hl
    · obtain ⟨v, y, rfl, e, n⟩ := p
      have hi : i < ks.length := by
        have := (List.getElem?_eq_some_iff.mp hx).1
        omega
      have hki : ks[i]? = some ks[i] := List.getElem?_eq_getElem hi
      obtain ⟨p1, rfl, s1⟩ := n
      obtain ⟨p2, rfl, s2⟩ := (hk i x _ hx hki).on e
      refine s_asgU (eu_call (ea_cons (ev_var rfl) (ea_cons (ev_var rfl) ea_nil)) (fun H2 e2 Q1 q1 E1 => ⟨p1, p2, _, _, rfl, ex_t e2 s1, ex_t e2 s2, nk_bd _, nk_bd _, q1⟩)) fun p H2 hp e2 h2 => ?_
      refine ⟨.ref p, _, rfl, e.trans e2, p, rfl, ?_⟩
      rw [numb_add rfl rfl] at h2
      have hs : (ks.take (i + 1)).sum = (ks.take i).sum + ks[i] := sum_take hki
      rw [hs]
      exact st_of h2
    · obtain ⟨v, y, rfl, e, n⟩ := p
      refine s_ret (ev_var rfl) fun H2 e2 => q v H2 (e.trans e2) ?_
      have : ks.take xs.length = ks := List.take_of_length_le (by omega)
      rw [this] at n
      exact n.on e2

/-! ### the law's own numbers -/
def spGcd : Sp := fun vs H Q _ => ∃ m n : Int, vs = [.int m, .int n] ∧ n.natAbs < 1073741824 ∧ RetV (.int ((Nat.gcd m.natAbs n.natAbs : Nat) : Int)) H Q
theorem abs_eq (i : Int) : (if i < 0 then -i else i) = ((i.natAbs : Nat) : Int) := by
  split <;> omega
theorem ru_abs {i : Int} {H : Hp} : RC (fun xs H Q => ∃ i, xs = [V.int i] ∧ Q (V.int (if i < 0 then -i else i)) H) [.int i] H (.int ((i.natAbs : Nat) : Int)) := fun H1 _ Q q => ⟨i, rfl, by rw [abs_eq]; exact q H1 (Ex.refl H1)⟩
theorem eu_bound {n : Nat} (h : n < 1073741824) : 2 * (n * n) < 2 ^ 4000 := by
  have h1 : n * n ≤ 1073741824 * 1073741824 := Nat.mul_le_mul (Nat.le_of_lt h) (Nat.le_of_lt h)
  have h2 : (2 : Nat) ^ 62 ≤ 2 ^ 4000 := Nat.pow_le_pow_right (by decide) (by decide)
  have h3 : (2 : Nat) ^ 62 = 4611686018427387904 := by decide
  omega
theorem ok_l_gcd (T : Txt K mg a) : FnOk P w K mg base CX0 1 a.l_gcd.1 a.l_gcd.2 ["_law_a", "_law_b"] spGcd := by
  refine T.l_gcd.F.ok sc_l_gcd (fun vs H Q E h => ?_) (fun cdv A outer s H vs Q E hr h => ?_)
  · obtain ⟨_, _, rfl, _⟩ := h
    rfl
  · obtain ⟨m, n, rfl, hn, q⟩ := h
    refine ⟨_, (pss_cons (ps_set (i := 0) sc_l_gcd.nd rfl (Or.inl rfl) (pe_callB call_abs (by rfl) T.z_abs (by decide +kernel) (pa_cons (pv 0) pa_nil)))
      (pss_cons (ps_set (i := 1) sc_l_gcd.nd rfl (Or.inl rfl) (pe_callB call_abs (by rfl) T.z_abs (by decide +kernel) (pa_cons (pv 1) pa_nil)))
      (pss_cons (ps_for PassesOwn.never rfl (pi_range1 (by rfl) T.z_range (pa_cons pe_int pa_nil)) (pg_name (i := 2) sc_l_gcd.nd rfl (Or.inl rfl))
      (pss_cons (ps_if (pt_cmpR op_eq (pv 1) pe_int (nomark _)) (pss_one ps_break) pss_nil)
      (pss_cons (ps_set (i := 3) sc_l_gcd.nd rfl (Or.inl rfl) (pe_op op_mod (pe_callTy call_int1 (by rfl) T.z_int (by decide +kernel) (pa_cons (pv 0) pa_nil)) (pv 1)))
      (pss_cons (ps_set (i := 0) sc_l_gcd.nd rfl (Or.inl rfl) (pv 1))
      (pss_one (ps_set (i := 1) sc_l_gcd.nd rfl (Or.inl rfl) (pv 3)))))))
      (pss_one (ps_ret (pv 0)))))), ?_⟩
    refine q_asg (ev_cb (ea_cons (ev_var rfl) ea_nil) ru_abs) fun H1 e1 => ?_
    refine q_asg (ev_cb (ea_cons (ev_var rfl) ea_nil) ru_abs) fun H2 e2 => ?_
    have done : ∀ (x y : V) (σ : L2.St) (H' : Hp), (∃ b y2 y3, σ = [some (.int ((Nat.gcd m.natAbs n.natAbs : Nat) : Int)), some b, y2, y3]) → Ex H H' → tRet (tVar 0) { nx := fun _ H' => Q .non H', rt := Q } σ H' := by
      intro x y σ H' ⟨b, y2, y3, hσ⟩ e
      subst hσ
      exact s_ret (ev_var rfl) fun H3 e3 => q H3 (e.trans e3)
    refine q_forR1 (n := 4000) (ea_cons ev_c ea_nil) (by decide) (fun i σ H' => ∃ x y z r, σ = [some (.int x), some (.int y), z, r] ∧ Ex H H' ∧ Eu (Nat.gcd m.natAbs n.natAbs) (2 * (n.natAbs * n.natAbs)) i x y ∧ (i = 0 → y.natAbs = n.natAbs))
      (fun H3 e3 => ⟨_, _, none, none, rfl, (e1.trans e2).trans e3, Eu.start, fun _ => by simp⟩) (fun i σ' H' hi p => ?_) (fun σ' H' p => ?_)
    · obtain ⟨x, y, z, r, rfl, e, eu, h0⟩ := p
      by_cases hy : y = 0
      · subst hy
        refine q_if (et_eqI (ev_var rfl) ev_c (decide_eq_true rfl)) (fun _ H3 e3 => ?_) fun hb => Bool.noConfusion hb
        have ez := eu.zero
        subst ez
        exact done (.int 0) (.int 0) _ _ ⟨_, _, _, rfl⟩ (e.trans e3)
      · refine q_if (et_eqI (ev_var rfl) ev_c (decide_eq_false hy)) (fun hb => Bool.noConfusion hb) fun _ H3 e3 => ?_
        have yp : 0 < y := by have := eu.b0; omega
        refine q_asg (ev_mod (ev_int (ev_var rfl)) (ev_var rfl) yp) fun H4 e4 => ?_
        refine q_asg (ev_var rfl) fun H5 e5 => ?_
        refine s_asg (ev_var rfl) fun H6 e6 => ?_
        exact ⟨y, x % y, _, _, rfl, (((e.trans e3).trans e4).trans e5).trans e6, eu.step h0 hy, fun z => by omega⟩
    · obtain ⟨x, y, z, r, rfl, e, eu, h0⟩ := p
      obtain ⟨rfl, rfl⟩ := eu.over (by decide) (eu_bound hn)
      exact done (.int 0) (.int 0) _ _ ⟨_, _, _, rfl⟩ e
theorem ok_l_number (T : Txt K mg a) : FnOk P w K mg base CX0 2 a.l_number.1 a.l_number.2 ["_law_n", "_law_d"] spNumber := by
  have G_l_gcd := ok_l_gcd (P := P) (w := w) (base := base) T
  have b_l_gcd := bd_l_gcd T.l_gcd
  refine T.l_number.F.ok sc_l_number (fun vs H Q E h => ?_) (fun cdv A outer s H vs Q E hr h => ?_)
  · obtain ⟨n, d, rfl, _⟩ := h
    rfl
  · obtain ⟨n, d, rfl, hd, hs, q⟩ := h
    refine ⟨_, (pss_cons (ps_if (pt_cmpR op_lt (pv 1) pe_int (nomark _)) (pss_cons ps_never (pss_one ps_never)) pss_nil)
      (pss_cons (ps_set (i := 2) sc_l_number.nd rfl (Or.inl rfl) (pe_call G_l_gcd (hr.mono (by decide)) (by rfl) T.l_gcd.g T.l_gcd.kp b_l_gcd .nil pass0 (pa_cons (pv 0) (pa_cons (pv 1) pa_nil))))
      (pss_one (ps_ret (pe_tup (pa_cons (pe_op op_fdiv (pv 0) (pv 2)) (pa_cons (pe_op op_fdiv (pv 1) (pv 2)) pa_nil))))))), ?_⟩
    refine q_when (et_is (et_lt (ev_var rfl) ev_c) (decide_eq_false (by omega))) (fun hb => Bool.noConfusion hb) fun _ H1 e1 => ?_
    refine q_asg (ev_call (ea_cons (ev_var rfl) (ea_cons (ev_var rfl) ea_nil)) (fun H2 e2 Q1 q1 E1 => ⟨n, d, rfl, by omega, q1⟩)) fun H2 e2 => ?_
    refine s_retU (eu_tup (ea_cons (ev_div (ev_var rfl) (ev_var rfl) (numb_div hd hs)) (ea_cons (ev_div (ev_var rfl) (ev_var rfl) (numb_div hd hs)) ea_nil)) (show 2 ≤ 100000 by decide)) fun p H3 hp e3 h3 => ?_
    exact q.go (e1.trans e2) hp e3 h3
theorem ok_l_plus (T : Txt K mg a) : FnOk P w K mg base CX0 3 a.l_plus.1 a.l_plus.2 ["_law_a", "_law_b"] (spPlus K) := by
  have G_l_number := ok_l_number (P := P) (w := w) (base := base) T
  have b_l_number := bd_l_number T.l_number
  refine T.l_plus.F.ok sc_l_plus (fun vs H Q E h => ?_) (fun cdv A outer s H vs Q E hr h => ?_)
  · obtain ⟨_, _, _, _, rfl, _⟩ := h
    rfl
  · obtain ⟨p1, p2, x, y, rfl, h1, h2, hx, hy, q⟩ := h
    refine ⟨_, (pss_one (ps_ret (pe_call G_l_number (hr.mono (by decide)) (by rfl) T.l_number.g T.l_number.kp b_l_number .nil pass0 (pa_cons (pe_op op_add (pe_op op_mul (pe_ix ix_seq (pv 0) pe_int (fun _ _ => rfl)) (pe_ix ix_seq (pv 1) pe_int (fun _ _ => rfl))) (pe_op op_mul (pe_ix ix_seq (pv 1) pe_int (fun _ _ => rfl)) (pe_ix ix_seq (pv 0) pe_int (fun _ _ => rfl)))) (pa_cons (pe_op op_mul (pe_ix ix_seq (pv 0) pe_int (fun _ _ => rfl)) (pe_ix ix_seq (pv 1) pe_int (fun _ _ => rfl))) pa_nil))))), ?_⟩
    have i0 : ∀ {z : Int × Int}, atI (nv z) (0 : Int) = some (V.int z.1) := atI_nat (j := 0) rfl
    have i1 : ∀ {z : Int × Int}, atI (nv z) (1 : Int) = some (V.int z.2) := atI_nat (j := 1) rfl
    refine s_retU (eu_call (ea_cons (ev_add (ev_mul (ev_ixT (ev_var rfl) ev_c h1 i0) (ev_ixT (ev_var rfl) ev_c h2 i1) (cmul_r hy)) (ev_mul (ev_ixT (ev_var rfl) ev_c h2 i0) (ev_ixT (ev_var rfl) ev_c h1 i1) (cmul_r hx)))
      (ea_cons (ev_mul (ev_ixT (ev_var rfl) ev_c h1 i1) (ev_ixT (ev_var rfl) ev_c h2 i1) (cmul_r hy)) ea_nil)) (fun H1 e1 Q1 q1 E1 => ?_)) fun p H2 hp e2 h2 => q p H2 hp e2 h2
    exact ⟨_, _, rfl, (mul_le hx hy).1, (mul_le hx hy).2, q1⟩
end
end Mh

set_option Elab.async false
set_option linter.all false
set_option maxRecDepth 100000
set_option maxHeartbeats 4000000
/-! the error NoBranch: its __init__ says super().__init__('..') and stores one field -/
namespace Mh
open PySem PySem.Spec PyProof.Rows L2 Evl
abbrev nS : Stmt := inClass (topS 3) 0
/-- what the written part says of NoBranch, at C, and of its __init__, at fI -/
structure NbTxt (P : Program) (K : PySem.W.Frag) (mg : Str → Option Value) (C fI : Addr) : Prop where
  gC : mg "NoBranch" = some (.ref C)
  cls : ∃ nm q N bs bm sn sub ab col dd k0 k1 k2 k3 k5, K.lookup C = some (excClassObj nm q C N bs bm true sn sub ab col dd k0 k1 k2 k3 k5 "ValueError.__new__") ∧ PySem.HandSPX.refsVE bm = true
  sa : PySem.W.findIn K (.ref C) "__setattr__" = some (some (.builtin "object.__setattr__"))
  ga : PySem.W.findIn K (.ref C) "__getattribute__" = some (some (.builtin "BaseException.__getattribute__"))
  gg : PySem.W.findIn K (.ref C) "__getattr__" = some none
  noN : PySem.W.findIn K (.ref C) "at" = some none
  iC : PySem.W.findIn K (.ref C) "__init__" = some (some (.ref fI))
  tC : PySem.W.typeIn K (.ref fI) = some (.type "function")
  kC : PySem.W.keepIn K (.ref C) = true
  exC : PySem.W.subIn K (.ref C) (.type "BaseException") = some true
  veC : PySem.W.subIn K (.ref C) (.type "ValueError") = some true
  tyC : PySem.W.typeIn K (.ref C) = some (.type "type")
  hdC : PySem.W.hasDictIn K C = true
  te : PySem.W.exmOne K (.ref C) (.ref C) = some true
  su : PySem.W.ks_superIn K C C "__init__" = some (some (.builtin "ValueError.__init__"))
  op : PySem.W.nsIn K cStatics "thirdparty.any" = some none
  sb : PySem.W.mroIn K C (.ref C) = some true
  ms : mg "super" = none
  fn : ∃ (oc : Value) (od : Option Addr) (doc pm : Value) (an : Option Addr) (cda : Addr) (ct : Value) (osl : Array (Option Value)) (cc : Addr) (cl : Value) (cld : Option Addr) (csl : Array (Option Value)) (ccl : Value) (cdd : Option Addr) (vs : Array Value) (ccs : Array (Option Value)) (file : Str) (tf : Tok),
    K.lookup fI = some ⟨oc, od, .func (PySem.W.ksFn "__init__" "NoBranch.__init__" (defArgs nS) (defBody nS) (defScope nS) .none .none doc pm an (.ref cda) ct cc), osl⟩ ∧ PySem.W.codeIn K (.ref cda) "NoBranch.__init__" = true ∧
    K.lookup cc = some ⟨cl, cld, .cell (some (.ref C)), csl⟩ ∧ K.lookup cda = some ⟨ccl, cdd, .fields vs, ccs⟩ ∧ vs[2]? = some (.str file tf) ∧ ((P.main.file : Str) == file) = true
  top : (P.main.scope.names.lookup ("super" : Str)).isSome = false

section
open PySem.W PySem.Calls PySem.HandSPX
variable {prog : Program} {w : World} {A : Around} {E : Value → Shared → Prop} {R : Result → Shared → Prop} {s : Shared} {K : Frag} {mg : Str → Option Value} {C fI : Addr}
/-- super().__init__(..), the bound __init__ of ValueError called -/
theorem nb_call {h : Heap} {g : Array GenState} {d : Drawn} {t : Nat} {os : OsState} {u e t0 : Addr} {rest : List Value} {Q : Value → Shared → Prop} {nm q : Str} {N : Addr} {bs bm : List Value} {hdct : Bool} {sn : List Str} {sub : List Value} {ab : Bool} {col : Option Bool} {dd : Option Addr} {k0 k1 k2 k3 k5 : Option Value}
    (hC : h.get? C = some (excClassObj nm q C N bs bm hdct sn sub ab col dd k0 k1 k2 k3 k5 "ValueError.__new__")) (he : h.get? e = some (excO C t0)) (hu : h.get? u = some (kxs_mw "ValueError.__init__" e)) (hz : rest.length ≤ sizeLine)
    (hq : ∀ h' t1, (∀ b o, b ≠ e → h.get? b = some o → h'.get? b = some o) → h'.get? e = some (excO C t1) → Q .none ⟨h', g, d, t, os⟩) :
    wpAny (model prog w) A (call (.ref u) rest) Q E ⟨h, g, d, t, os⟩ := by
  refine wpAny_call (codeAny_of_tree ?_)
  show wpAny _ A.in1 (callAny (.ref u) ⟨rest, []⟩) _ _ _
  simp only [callAny]
  refine wpAny_bind (wpAny_load hu ?_)
  simp only [kxs_mw, show (Value.type "method-wrapper" == Value.type "method" || Value.type "method-wrapper" == Value.type "builtin_function_or_method" || Value.type "method-wrapper" == Value.type "method-wrapper") = true by decide, if_true]
  refine KFB.if_so (by decide) ?_
  refine wpAny_bind (check_bound_init F.excBase_ValueError.toExcCallFacts hC he rfl ?_)
  refine wpAny_bind (wpAny_pure (wpAny_pure ?_))
  refine ⟨plainId_quiet F.excBase_ValueError.init.plain _, codeAny_builtin F.excBase_ValueError.initEntry ?_⟩
  exact exc_init_tree (cls := .ref C) (t0 := t0) (dv := none) (c2 := .none) (c3 := .none) (b4 := .bool false) he hz fun h' k e1 _ => hq h' _ k e1
theorem nb_callWith1 {M : Model} {i : String} {u x : Addr} {pos : Pos} {env : Env} {e : Expr} {rest : List Expr} {Q : Value → Shared → Prop} (h : wpAny M A (spliced (backTo pos (starEach (e :: rest) env))) (fun vs s₁ => KxsAt i u x s₁.heap ∧ wpAny M A (call (.ref u) vs) Q E s₁) E s)
    (he : starEach (e :: rest) env = (false, eval e env) :: starEach rest env := by rfl) (hplain : (backTo pos (starEach rest env)).any (·.1) = false := by rfl) :
    wpAny M A (callWith pos (.ref u) [] (backTo pos (starEach (e :: rest) env)) []) Q E s := by
  have h' := h
  rw [he] at h' ⊢
  have hp : ((false, eval e env) :: backTo pos (starEach rest env)).any (·.1) = false := by
    rw [List.any_cons, hplain] <;> rfl
  exact kxs_callWith (i := i) (x := x) hp (evalArgs_plain h')
/-- what __init__ leaves of a fresh exception at x -/
structure NbEnd (h h' : Heap) (x C dx t1 : Addr) (v : Value) : Prop where
  keep : ∀ b o, b ≠ x → h.get? b = some o → h'.get? b = some o
  obj : h'.get? x = some { cls := .ref C, dict := some dx, data := .fields #[.ref t1, .none, .none, .none, .bool false, .none] }
  dbig : h.objs.size ≤ dx
  dne : dx ≠ x
  ns : h'.Ns1 dx (fun y => if y = "at" then some v else none)
theorem nb_init {t0 x : Addr} {v : Value} (T : NbTxt prog K mg C fI) (X : K.In s.heap) (hG : s.heap.Ns mainGlobals mg) (hB : ∃ mb, s.heap.Ns builtinsNs mb ∧ ∀ x : Str, x ≠ "__name__" → mb x = bootBuiltins x) (hlim : s.heap.NoLimit)
    (hx : s.heap.get? x = some (excO C t0)) (hnx : K.lookup x = none) (hroom : A.depth < recursionLimit)
    (hq : ∀ h' tk dx t1, NbEnd s.heap h' x C dx t1 v → R (.ok (.ret .none)) { s with heap := h', toks := tk }) :
    codeAny (model prog w) A (.call (.ref fI) ⟨[.ref x, v], []⟩) R s := by
  obtain ⟨oc, od, doc, pm, an, cda, ct, osl, cc, cl, cld, csl, ccl, cdd, vs, ccs, file, tf, ho, hcd, hcell, hcode, hvs, hfile⟩ := T.fn
  obtain ⟨nm, q, N, bs, bm, sn, sub, ab, col, dd, k0, k1, k2, k3, k5, hC, hbm⟩ := T.cls
  have hcl : clsIn K C = some { name := nm, bases := bs, mro := .ref C :: bm, ns := N, qualname := q, hasDict := true, slotNames := sn, subclasses := sub, abstract := ab, collection := col, hasDel := false } := by unfold clsIn; rw [hC] <;> rfl
  refine ks_codeAny_call_defAt (fd := ksFn "__init__" "NoBranch.__init__" (defArgs nS) (defBody nS) (defScope nS) .none .none doc pm an (.ref cda) ct cc) (body := defBody nS) (binds := [("self", .ref x), ("at", v)]) hroom (X _ _ ho) rfl hlim (codeRec_of X hcd) rfl (BindsTo.of_eq (by rfl)) (show ∀ x ∈ (defScope nS).names, x.2 ≠ .cell by decide +kernel) (locs rfl) (fun h₁ hns k => ?_) rfl rfl rfl
  have hxL : s.heap.objs.size ≠ x := Nat.ne_of_gt (Heap.lt_size hx)
  have X₁ : K.In h₁ := X.keeps k
  have hx₁ := k _ _ hx
  have hG₁ : h₁.Ns mainGlobals mg := hG.keeps k
  obtain ⟨mb, hB0, hB1⟩ := hB
  have hB₁ : h₁.Ns builtinsNs mb := hB0.keeps k
  obtain ⟨sh, sg, sd, stk, sos⟩ := s
  -- super()
  refine ks_wpAt_execs_cons (ks_wpAt_Expr_any (ks_wpAt_MethodCall ?_))
  refine ks_wpAt_super_base (f := fI) (cc := cda) rfl rfl (by decide) rfl (X₁ _ _ ho) rfl (ar := { arg := "self", annotation := none, pos := _ }) rfl rfl (X₁ _ _ hcode) rfl hvs hfile T.top ?_
  refine ks_loadName_global rfl rfl (loadGlobal_builtin hG₁ T.ms hB₁ ((hB1 _ (by decide +kernel)).trans (by decide +kernel)) ⟨rfl, ?_⟩)
  refine wpAny_loadName_free rfl rfl rfl ⟨_, X₁ _ _ hcell, rfl⟩ ?_
  refine wpAny_loadName_local rfl rfl hns (by rfl) ?_
  have hCd : h₁.get? C = some (excClassObj nm q C N bs bm true sn sub ab col dd k0 k1 k2 k3 k5 "ValueError.__new__") := X₁ _ _ hC
  refine ks_wpAny_isType_cls hCd rfl ⟨rfl, ?_⟩
  refine ks_wpAny_call_super hCd rfl hx₁ rfl (fun c e => by cases e) (looks_mroIn X₁ T.sb) (fun h₂ hso k₂ => ?_)
  have X₂ : K.In h₂ := X₁.keeps k₂
  have hx₂ := k₂ _ _ hx₁
  have I₂ : InstAt h₂ x (excO C t0) C none := ⟨hx₂, rfl, rfl, trivial⟩
  have hI : Looks (model prog w) h₂ (isInstance (.ref x) (.type "ValueError")) true := I₂.type.andThen (looks_subIn X₂ T.veC)
  have hsu := T.su
  unfold ks_superIn at hsu
  rw [hcl] at hsu
  refine kxs_getMethod kxs_ValueError hso (looks_opaque X₂ T.op) (l₀ := .ref C :: bm) (fun A Q E s k q => wpAny_bind ((looks_clsIn X₂ hcl) A _ E s k (wpAny_pure q))) rfl X₂ hsu hI (ks_ne X₂ I₂ hcl) (by decide) ?_
  refine nb_callWith1 (i := "ValueError.__init__") (x := x) ?_
  have k₃ : ∀ b o, h₂.get? b = some o → (h₂.push (kxs_mw "ValueError.__init__" x)).get? b = some o := fun b o e => Heap.get?_push_of_some _ e
  refine Calls.spliced_cons ?_
  refine Calls.Constant_str (k := 0) (pos := ⟨8, 25, 8, 65⟩) ?_
  refine Calls.spliced_nil ⟨Heap.get?_push_at rfl rfl, ?_⟩
  refine nb_call (k₃ _ _ (k₂ _ _ hCd)) (k₃ _ _ hx₂) (Heap.get?_push_at rfl rfl) (show 1 ≤ sizeLine by decide) fun h₄ t1 k₄ hx₄ => ?_
  -- self.at = at
  have old : ∀ b o, b ≠ x → h₁.get? b = some o → h₄.get? b = some o := fun b o hb e => k₄ b o hb (k₃ _ _ (k₂ _ _ e))
  have X₄ : K.In h₄ := fun b o e => old b o (fun z => by rw [z, hnx] at e; cases e) (X₁ b o e)
  have hns₄ : h₄.Ns sh.objs.size (fun y => List.lookup y ([("self", .ref x), ("at", v)] : List (Str × Value)).reverse) := by
    obtain ⟨oN, es, ep, e1, e2, e3⟩ := hns
    exact ⟨oN, es, ep, old _ _ hxL e1, e2, e3⟩
  refine wpAt_of_wpAny ?_
  refine wpAny_execs_cons (plainObj_wpAny_Assign_Attribute ?_)
  refine wpAny_Name (wpAny_loadName_local (v := v) rfl rfl hns₄ (by rfl) ?_) (by decide)
  refine wpAny_Name (wpAny_loadName_local (v := .ref x) rfl rfl hns₄ (by rfl) ?_) (by decide)
  refine set_plain X₄ (ox := excO C t1) (od := none) ⟨hx₄, rfl, rfl, trivial⟩ T.sa ?_
  refine exc_osa X₄ hx₄ hcl (show refsVE (.ref C :: bm) = true from hbm) rfl T.noN (fun h₅ tk₅ dx k₅ dn dne hx₅ hn₅ => ?_)
  refine wpAny_execs_nil (hq h₅ tk₅ dx t1 ⟨fun b o hb e => k₅ b o hb (old b o hb (k b o e)), hx₅, ?_, dne, hn₅⟩)
  have hlt : sh.objs.size < h₄.objs.size := hns₄.lt
  exact Nat.le_of_lt (Nat.lt_of_lt_of_le hlt dn)
/-- a made NoBranch -/
structure NbMade (h h' : Heap) (e C d : Addr) (v : Value) : Prop where
  keep : ∀ b o, h.get? b = some o → h'.get? b = some o
  new : h.objs.size ≤ e
  obj : ∃ oe vs, h'.get? e = some oe ∧ oe.cls = .ref C ∧ oe.dict = some d ∧ oe.data = .fields vs ∧ vs[1]? = some .none
  dbig : h.objs.size ≤ d
  dne : d ≠ e
  ns : h'.Ns1 d (fun y => if y = "at" then some v else none)
theorem nb_made {v : Value} (T : NbTxt prog K mg C fI) (X : K.In s.heap) (hG : s.heap.Ns mainGlobals mg) (hB : ∃ mb, s.heap.Ns builtinsNs mb ∧ ∀ x : Str, x ≠ "__name__" → mb x = bootBuiltins x) (hlim : s.heap.NoLimit) (hroom : A.depth + 1 < recursionLimit)
    (hq : ∀ h' tk e d, NbMade s.heap h' e C d v → R (.ok (.ret (.ref e))) { s with heap := h', toks := tk }) :
    codeAny (model prog w) A (.call (.ref C) ⟨[v], []⟩) R s := by
  obtain ⟨nm, q, N, bs, bm, sn, sub, ab, col, dd, k0, k1, k2, k3, k5, hC, hbm⟩ := T.cls
  obtain ⟨hp, g, dr, tk, os⟩ := s
  have k : ∀ b o, hp.get? b = some o → ((hp.push (kdv_tup [v])).push (excO C hp.objs.size)).get? b = some o := fun b o e => Heap.get?_push_of_some _ (Heap.get?_push_of_some _ e)
  have hget : ((hp.push (kdv_tup [v])).push (excO C hp.objs.size)).get? (hp.objs.size + 1) = some (excO C hp.objs.size) := by heap_get
  have hnx : K.lookup (hp.objs.size + 1) = none := by
    cases e : K.lookup (hp.objs.size + 1) with
    | none => rfl
    | some o =>
      have z : hp.get? (hp.objs.size + 1) = some o := X _ _ e
      exact absurd (Nat.lt_of_succ_lt (Heap.lt_size z)) (Nat.lt_irrefl _)
  obtain ⟨mb, hB0, hB1⟩ := hB
  refine call_own F.excBase_ValueError (fun X => refsVE_contains X bm hbm) (X _ _ hC) (looks_findIn X T.iC) (fun self => bind_fn X self T.tC) (show 1 ≤ sizeLine by decide) ?_
  refine nb_init (s := ⟨(hp.push (kdv_tup [v])).push (excO C hp.objs.size), g, dr, tk, os⟩) T (X.keeps k) (hG.keeps k) ⟨mb, hB0.keeps k, hB1⟩ (hlim.keeps k) hget hnx ?_ fun h' tk' dx t1 ⟨k', hx, dn, dne, hns⟩ => ?_
  · show A.depth + 1 < recursionLimit
    exact hroom
  · have old : ∀ b o, hp.get? b = some o → h'.get? b = some o := fun b o e => k' b o (Nat.ne_of_lt (Nat.lt_succ_of_lt (Heap.lt_size e))) (k b o e)
    have z : hp.objs.size + 1 + 1 ≤ dx := by
      first
        | (simpa only [Heap.size_push] using dn)
        | exact dn
        | (have q := dn; rw [Heap.size_push, Heap.size_push] at q; exact q)
    exact ⟨rfl, hq h' tk' (hp.objs.size + 1) dx ⟨old, Nat.le_succ _, ⟨_, _, hx, rfl, rfl, rfl, rfl⟩, Nat.le_trans (Nat.le_trans (Nat.le_succ _) (Nat.le_succ _)) z, dne, hns⟩⟩
end
end Mh

set_option Elab.async false
set_option linter.all false
set_option maxRecDepth 100000
set_option maxHeartbeats 4000000
namespace Mh
open PySem PySem.Spec PyProof.Rows L2 Evl
theorem relO_at {v : V} {v' : Value} (r : RelV v v') (f : Str) : RelO (List.lookup f [(("at" : Str), v)]) (if f = "at" then some v' else none) := by
  by_cases hw : f = "at"
  · subst hw
    rw [if_pos rfl]
    have q : List.lookup ("at" : Str) [(("at" : Str), v)] = some v := by simp [List.lookup]
    rw [q]
    exact r
  · rw [if_neg hw]
    have qw : (f == ("at" : Str)) = false := by simpa using hw
    have q2 : List.lookup f [(("at" : Str), v)] = none := by simp [List.lookup, qw]
    rw [q2]
    trivial
section
variable {X : Cx} {C fI : Addr}
/-- NoBranch(e) -/
def tMkNb (C : Addr) (ta : TA) : L2.St → Hp → XK → Prop := fun σ H Q => ta σ H fun vs H1 => ∃ v, vs = [v] ∧ ∀ d, H1 d = none → Q (.ref C) (some d) (upd H1 d (.xd [(("at" : Str), v)]))
theorem pmk_nb {a : Expr} {ta : TA} {p pos : Pos} {k : Nat} (T : NbTxt X.prog X.K X.mg C fI) (hr : Room k X.A) (ha : PA X [a] ta) (hg : Gl X "NoBranch" := by rfl)
    (he : starEach (a :: []) X.env = (false, eval a X.env) :: starEach [] X.env := by rfl) (hpl : (backTo pos (starEach [] X.env)).any (·.1) = false := by rfl) :
    PMk X (.Call (.Name "NoBranch" p) [a] [] pos) (tMkNb C ta) := by
  intro pins s σ H Q I h
  refine wpAny_Call_Name_kw (ld_glob I hg T.gC ?_)
  refine PySem.W.callWith_K (h₀ := X.base) I.ok.mod.kin T.kC (thn (ha.run pos pins s σ H _ I h) fun us s1 hh => ?_) he hpl
  obtain ⟨vs, H1, I1, r1, v, ev, q1⟩ := hh
  subst ev
  refine ⟨I1.kIn, ?_⟩
  cases r1 with
  | cons rv rn =>
    rename_i v' us'
    cases rn
    show wpAny _ _ (call (.ref C) [v']) _ _ _
    have hlim := I1.nolimit
    have hG : s1.heap.Ns mainGlobals X.mg := I1.mod.glob.keeps I1.bk
    have hB : ∃ mb, s1.heap.Ns builtinsNs mb ∧ ∀ x : Str, x ≠ "__name__" → mb x = bootBuiltins x := by
      obtain ⟨mb, h1, h2⟩ := I1.mod.blt
      exact ⟨mb, h1.keeps I1.bk, h2⟩
    obtain ⟨hp, g, dr, tk, os⟩ := s1
    refine wpAny_call (nb_made T I1.kIn hG hB hlim (by have := hr.dp; omega) fun h' tk' e d M => ?_)
    show MkP X pins σ Q (.ref e) ⟨h', g, dr, tk', os⟩
    obtain ⟨oe, fv, hoe, hc, hd, hdat, h1⟩ := M.obj
    have hns := M.ns
    obtain ⟨G', g1, g2⟩ := restrict h' fun b => decide (b ≠ e)
    have gk : ∀ b, b ≠ e → G'.get? b = h'.get? b := fun b hb => g1 b (decide_eq_true hb)
    have ge : G'.get? e = none := g2 e (by simp)
    have old : ∀ b o, hp.get? b = some o → G'.get? b = some o := fun b o q => (gk b (Nat.ne_of_lt (Nat.lt_of_lt_of_le (Heap.lt_size q) M.new))).trans (M.keep b o q)
    have ob : ObjOk X.prog X.w (upd H1 d (.xd [(("at" : Str), v)])) G' d (.xd [(("at" : Str), v)]) :=
      ⟨_, hns.at (fun o q => (gk d M.dne).trans q), fun f => relO_at rv f⟩
    have J : Inv X pins σ (upd H1 d (.xd [(("at" : Str), v)])) ⟨G', g, dr, tk', os⟩ := I1.laid (t' := tk') old M.dbig ob
    refine ⟨e, oe, fv, ⟨G', g, dr, tk', os⟩, _, .ref C, some d, rfl, J, fun b o q => ?_, ge, hoe, ⟨hc, hd⟩, hdat, h1, ?_, rfl, I1.bare, raises_own T.exC T.tyC, q1 d (I1.hok.fresh M.dbig)⟩
    · by_cases hb : b = e
      · have q' : G'.get? b = some o := q
        rw [hb, ge] at q'; cases q'
      · exact (gk b hb).symm.trans q
    · rw [upd_ne (Ne.symm M.dne)]
      exact I1.hok.fresh M.new
/-- raise NoBranch(e) -/
def tRaiseNb (C : Addr) (W : WX) (ta : TA) : TS := fun _ σ H => tMkNb C ta σ H fun cls d H' => W cls d σ H'
theorem ps_raiseNb {a : Expr} {ta : TA} {W : WX} {p pos pos2 : Pos} {k : Nat} (hc : X.calm = true) (T : NbTxt X.prog X.K X.mg C fI) (hr : Room k X.A) (tk : Takes X W) (ha : PA X [a] ta) (hg : Gl X "NoBranch" := by rfl)
    (he : starEach (a :: []) X.env = (false, eval a X.env) :: starEach [] X.env := by rfl) (hpl : (backTo pos (starEach [] X.env)).any (·.1) = false := by rfl) :
    PS X (.Raise (some (.Call (.Name "NoBranch" p) [a] [] pos)) none pos2) (tRaiseNb C W ta) := ps_raise hc tk (pmk_nb T hr ha hg he hpl)
/-- e.at, e the exception that the suite holds (at a; its class cls, its dict d) -/
def tByNb (C : Addr) (a : Addr) (cls : Value) (d : Option Addr) (te : TE) : TE := fun σ H Q => te σ H fun x H1 => x = .ref a ∧ cls = .ref C ∧ ∃ (dd : Addr) (v : V), d = some dd ∧ H1 dd = some (.xd [(("at" : Str), v)]) ∧ Q v H1
theorem pe_byNb {a : Addr} {oe : Obj} {cls : Value} {d : Option Addr} {pn : List (Addr × Obj)} {e : Expr} {te : TE} {pos : Pos} (T : NbTxt X.prog X.K X.mg C fI) (hz : Zc cls d oe) (hf : ∃ vs, oe.data = .fields vs) (he : PE (X.suite a ((a, oe) :: pn)) e te)
    (hb : attributeBase e "at" X.env (eval e X.env) = eval e X.env := by rfl) :
    PE (X.suite a ((a, oe) :: pn)) (.Attribute e "at" pos) (tByNb C a cls d te) := by
  refine ⟨fun pins s σ H Q I h => ?_⟩
  refine attr_of hb (thn (he.run pins s σ H _ I h) fun u s1 hh => ?_)
  obtain ⟨x, H1, I1, rx, ex, ec, dd, v, ed, ea, q⟩ := hh
  subst ex
  obtain rfl : u = Value.ref a := rx
  subst ec
  subst ed
  obtain ⟨ha, _⟩ := I1.pin (a, oe) (List.mem_append_left _ List.mem_cons_self)
  obtain ⟨vs, hd⟩ := hf
  have hx : ObjOk X.prog X.w H1 s1.heap dd (.xd [(("at" : Str), v)]) := I1.hok dd _ ea
  obtain ⟨mA, hns, hr⟩ := hx
  obtain ⟨od, ho, hl⟩ := lookIn_ns hns
  have l : List.lookup ("at" : Str) [(("at" : Str), v)] = some v := by simp [List.lookup]
  obtain ⟨u, hu, ru⟩ := RelO.some_of (v := v) (o := mA "at") (by rw [← l]; exact hr "at")
  have J : PySem.W.InstAt s1.heap a oe C (some od) := ⟨ha, hz.1, by unfold PySem.W.notCls; rw [hd] <;> rfl, by rw [hz.2]; exact ho⟩
  exact HandSPX.exc_get I1.kIn J T.ga T.gg T.exC (PySem.W.findObj_own T.hdC T.noN rfl (by rw [hl, hu])) (handed_of ru) ⟨v, H1, I1.tok _, ru, q⟩
end
end Mh

set_option Elab.async false
set_option linter.all false
set_option maxRecDepth 100000
set_option maxHeartbeats 1000000
namespace Mh
open PySem PySem.Spec PyProof.Rows L2 Evl

/-! ### games -/
inductive Br where
  | draw (l : List ((Int × Int) × Int))
  | pick (s : Str) (l : List Int)
structure Pl where
  k : Int
  br : Br
def Br.tgs : Br → List Int
  | .draw l => l.map (·.2)
  | .pick _ l => l
def Br.kind : Br → Str
  | .draw _ => "draw"
  | .pick s _ => s
def nd (x : Int × Int) : PyData := .tuple [.int x.1, .int x.2]
def Br.items : Br → List PyData
  | .draw l => l.map fun c => .tuple [nd c.1, .int c.2]
  | .pick _ l => l.map .int
def plD (p : Pl) : PyData := .tuple [nd (nk p.k), .str p.br.kind, .list p.br.items]
def gmD (g : List Pl) : PyData := .list (g.map plD)
def TT (g : List Pl) : List (List Int) := g.map fun p => p.br.tgs
def KK (g : List Pl) (x : Int) : Int := match g[x.toNat]? with | some p => p.k | none => 0
/-- small enough to be shown -/
def Sml (x : Int × Int) : Prop := x.1.natAbs ≤ 1000 ∧ 0 < x.2 ∧ x.2 ≤ 1000
def Br.Ok : Br → Prop
  | .draw l => ∀ c ∈ l, Sml c.1
  | .pick s _ => s = "ours" ∨ s = "theirs"
structure GmOk (g : List Pl) : Prop where
  good : Good (TT g)
  len : 0 < g.length ∧ g.length ≤ 12
  br : ∀ p ∈ g, p.br.Ok ∧ Sml (nk p.k)
section
variable {P : Program} {w : World} {K : PySem.W.Frag} {mg : Str → Option Value} {base : Heap} {a : Ad} {g : List Pl} {H H' : Hp}
theorem TT_len : (TT g).length = g.length := by simp [TT]
theorem nd_at {x : Int × Int} {v : V} (h : Dp K H v (nd x)) : ∃ p, v = .ref p ∧ SqT K H p (nv x) := by
  obtain ⟨p, xs, rfl, s, h⟩ := dp_tup h
  refine ⟨p, rfl, ?_⟩
  cases h with
  | cons h1 h =>
    cases h1
    cases h with
    | cons h2 h =>
      cases h2
      cases h
      exact s
/-- a place's parts -/
structure PlAt (K : PySem.W.Frag) (H : Hp) (p q r : Addr) (pl : Pl) : Prop where
  t : SqT K H p [.ref q, .str pl.br.kind, .ref r]
  g : SqT K H q (nv (nk pl.k))
  b : Dp K H (.ref r) (.list pl.br.items)
theorem PlAt.on {p q r : Addr} {pl : Pl} (h : PlAt K H p q r pl) (e : Ex H H') : PlAt K H' p q r pl := ⟨ex_t e h.t, ex_t e h.g, dp_mono e _ _ h.b⟩
theorem pl_at {pl : Pl} {v : V} (h : Dp K H v (plD pl)) : ∃ p q r, v = .ref p ∧ PlAt K H p q r pl := by
  obtain ⟨p, xs, rfl, s, h⟩ := dp_tup h
  cases h with
  | cons h1 h =>
    obtain ⟨q, rfl, sq⟩ := nd_at h1
    cases h with
    | cons h2 h =>
      cases h2
      cases h with
      | cons h3 h =>
        cases h
        obtain ⟨r, ys, rfl, _, _⟩ := dp_list h3
        exact ⟨p, q, r, rfl, s, sq, h3⟩
theorem pl_ats : ∀ {g : List Pl} {vs : List V}, DpAll K H vs (g.map plD) → ∃ ps qs rs : List Addr, vs = ps.map V.ref ∧ ps.length = g.length ∧ qs.length = g.length ∧ rs.length = g.length ∧
    ∀ (i : Nat) (pl : Pl), g[i]? = some pl → ∃ p q r, ps[i]? = some p ∧ qs[i]? = some q ∧ rs[i]? = some r ∧ PlAt K H p q r pl
  | [], _, h => by
    cases h
    exact ⟨[], [], [], rfl, rfl, rfl, rfl, fun i pl z => by simp at z⟩
  | pl :: g, _, h => by
    cases h with
    | cons h1 h =>
      obtain ⟨p, q, r, rfl, z⟩ := pl_at h1
      obtain ⟨ps, qs, rs, rfl, l1, l2, l3, f⟩ := pl_ats h
      refine ⟨p :: ps, q :: qs, r :: rs, rfl, by simp [l1], by simp [l2], by simp [l3], fun i pl' e => ?_⟩
      cases i with
      | zero =>
        simp at e
        subst e
        exact ⟨p, q, r, rfl, rfl, rfl, z⟩
      | succ i =>
        obtain ⟨p', q', r', e1, e2, e3, z'⟩ := f i pl' (by simpa using e)
        exact ⟨p', q', r', by simpa using e1, by simpa using e2, by simpa using e3, z'⟩
theorem gm_at {v : V} (h : Dp K H v (gmD g)) : ∃ (l : Addr) (ps qs rs : List Addr), v = .ref l ∧ SqL K H l (ps.map V.ref) ∧ ps.length = g.length ∧ qs.length = g.length ∧ rs.length = g.length ∧
    ∀ (i : Nat) (pl : Pl), g[i]? = some pl → ∃ p q r, ps[i]? = some p ∧ qs[i]? = some q ∧ rs[i]? = some r ∧ PlAt K H p q r pl := by
  obtain ⟨l, xs, rfl, s, h⟩ := dp_list h
  obtain ⟨ps, qs, rs, rfl, z⟩ := pl_ats h
  exact ⟨l, ps, qs, rs, rfl, s, z⟩
/-- game[x] -/
theorem gm_ix {l : Addr} (h : Dp K H (.ref l) (gmD g)) {x : Int} (hx : 0 ≤ x ∧ x < ((TT g).length : Int)) : ∃ (xs : List V) (p q r : Addr) (pl : Pl), SqL K H l xs ∧ xs.length = g.length ∧ atI xs x = some (.ref p) ∧ g[x.toNat]? = some pl ∧ PlAt K H p q r pl ∧ tg (TT g) x = pl.br.tgs ∧ KK g x = pl.k := by
  obtain ⟨l', ps, qs, rs, e, s, l1, _, _, f⟩ := gm_at h
  cases e
  rw [TT_len] at hx
  have hi : x.toNat < g.length := by omega
  obtain ⟨p, q, r, e1, _, _, z⟩ := f x.toNat g[x.toNat] (List.getElem?_eq_getElem hi)
  refine ⟨_, p, q, r, g[x.toNat], s, by simp [l1], ?_, List.getElem?_eq_getElem hi, z, ?_, ?_⟩
  · exact at_of (j := x.toNat) (by omega) (by rw [List.getElem?_map, e1]; rfl)
  · unfold tg TT
    rw [List.getD_eq_getElem?_getD, List.getElem?_map, List.getElem?_eq_getElem hi]
    rfl
  · unfold KK
    rw [List.getElem?_eq_getElem hi]

/-! ### comprehensions over a list whose items are pairs -/
theorem given_all (n : Nat) (v : Nat → V) : given n (fun _ => true) v = (List.range n).map v := by
  unfold given
  rw [List.filter_eq_self.mpr (fun _ _ => rfl)]
theorem el_lcG {σ : L2.St} {l : Addr} {xs : List V} {tl te : TE} {gt : TG} {vs : List Nat} (v : Nat → V) (s2 : Nat → L2.St) (h : Ev tl σ H (.ref l)) (hx : SqL K H l xs) (hz : xs.length ≤ 40000)
    (hg : ∀ (i : Nat) (x : V) (H1 : Hp) (Q : L2.St → Hp → Prop), Ex H H1 → xs[i]? = some x → Q (s2 i) H1 → gt x (wipe σ vs) H1 Q) (hw : ∀ i, i < xs.length → wipe (s2 i) vs = wipe σ vs)
    (he : ∀ (i : Nat) H1, Ex H H1 → i < xs.length → Ev te (s2 i) H1 (v i)) : EvL (tLc (iList K tl) gt tYes te vs) σ H ((List.range xs.length).map v) := fun H0 e Q q => h H0 e _ fun H1 e1 => ⟨l, rfl, ⟨xs, ex_l (e.trans e1) hx⟩, fun Dl hD =>
  lc_list (xs := xs) (Cw H1 (fun _ => true) v Dl) ⟨hD, Ex.new hD, upd_same⟩ (fun i H' _ p => ex_l ((e.trans e1).trans p.2.1) hx) (fun i x H' hi p => hg i x H' _ ((e.trans e1).trans p.2.1) hi ⟨hw i (List.getElem?_eq_some_iff.mp hi).1,
      cw_turn p (by have := (List.getElem?_eq_some_iff.mp hi).1; omega) (fun H2 _ Q2 q2 => q2 H2 (Ex.refl H2)) (fun _ => he i H1 (e.trans e1) (List.getElem?_eq_some_iff.mp hi).1)⟩)
    (fun H' p => by
      have z := p.2.2
      rw [given_all] at z
      exact q Dl H' (fresh_back e1 p.1) (e1.trans p.2.1) z)⟩
theorem map_range_get (xs : List Int) : (List.range xs.length).map (fun i => V.int (xs.getD i 0)) = xs.map V.int := by
  apply List.ext_getElem?
  intro i
  rw [List.getElem?_map, List.getElem?_map]
  rcases Nat.lt_or_ge i xs.length with h | h
  · rw [List.getElem?_range h, List.getElem?_eq_getElem h]
    simp [List.getD_eq_getElem?_getD, List.getElem?_eq_getElem h]
  · rw [List.getElem?_eq_none (by simpa using h), List.getElem?_eq_none h]
    rfl
theorem q_asgG {te : TE} {gt : TG} {tz : TS} {D : Ends} {σ : L2.St} {v : V} (h : Ev te σ H v) (k : ∀ H1, Ex H H1 → gt v σ H1 (tz D)) : tSeq (tAsg te gt) tz D σ H := h H (Ex.refl H) _ k
/-- the targets of a place's branches, by either comprehension -/
theorem el_tgs {σ : L2.St} {r : Addr} {l : List ((Int × Int) × Int)} {tl : TE} {i j : Nat} {vs : List Nat} (h : Ev tl σ H (.ref r)) (hb : Dp K H (.ref r) (.list (Br.draw l).items)) (hz : l.length ≤ 40000)
    (hw : ∀ x y, wipe (((wipe σ vs).set i (some x)).set j (some y)) vs = wipe σ vs) (hj : ∀ x y, (((wipe σ vs).set i (some x)).set j (some y))[j]? = some (some y)) :
    EvL (tLc (iList K tl) (gTup K 2 (gCons (gName i) (gCons (gName j) gNil))) tYes (tVar j) vs) σ H ((Br.draw l).tgs.map V.int) := by
  obtain ⟨r', xs, e, s, d⟩ := dp_list hb
  cases e
  have hl : xs.length = l.length := by rw [dpa_len d]; simp [Br.items]
  have parts : ∀ k, k < xs.length → ∃ (p q : Addr) (c : (Int × Int) × Int), xs[k]? = some (.ref p) ∧ l[k]? = some c ∧ SqT K H p [.ref q, .int c.2] := by
    intro k hk
    have hk' : k < l.length := by omega
    obtain ⟨v, e1, e2⟩ := dpa_at (i := k) (d := .tuple [nd l[k].1, .int l[k].2]) d (by simp [Br.items, hk'])
    obtain ⟨p, ys, rfl, sp, dd⟩ := dp_tup e2
    cases dd with
    | cons h1 dd =>
      obtain ⟨q, rfl, _⟩ := nd_at h1
      cases dd with
      | cons h2 dd =>
        cases h2
        cases dd
        exact ⟨p, q, l[k], e1, List.getElem?_eq_getElem hk', sp⟩
  have key : ∀ k, ∃ q : Addr, k < xs.length → ∃ (p : Addr) (c : (Int × Int) × Int), xs[k]? = some (.ref p) ∧ l[k]? = some c ∧ SqT K H p [.ref q, .int c.2] := by
    intro k
    by_cases hk : k < xs.length
    · obtain ⟨p, q, c, e1, e2, e3⟩ := parts k hk
      exact ⟨q, fun _ => ⟨p, c, e1, e2, e3⟩⟩
    · exact ⟨0, fun z => absurd z hk⟩
  obtain ⟨qf, hq⟩ := Classical.axiomOfChoice key
  have et : (Br.draw l).tgs = l.map (·.2) := rfl
  have gd : ∀ (k : Nat) (c : (Int × Int) × Int), l[k]? = some c → (l.map (·.2)).getD k 0 = c.2 := fun k c e => by
    rw [List.getD_eq_getElem?_getD, List.getElem?_map, e]
    rfl
  have z := el_lcG (K := K) (H := H) (gt := gTup K 2 (gCons (gName i) (gCons (gName j) gNil))) (te := tVar j) (vs := vs) (fun k => V.int ((l.map (·.2)).getD k 0)) (fun k => ((wipe σ vs).set i (some (.ref (qf k)))).set j (some (.int ((l.map (·.2)).getD k 0)))) h s (by omega)
    (fun k x H1 Q e1 hx q => by
      obtain ⟨p, c, e2, e3, e4⟩ := hq k (List.getElem?_eq_some_iff.mp hx).1
      rw [hx] at e2
      cases e2
      rw [gd k c e3] at q
      exact g2 (ex_t e1 e4) q) (fun k _ => hw _ _) (fun k H1 e1 hk => ev_var (hj _ _))
  have len2 : xs.length = (l.map (·.2)).length := by simp [hl]
  rw [len2, map_range_get] at z
  rw [et]
  exact z
theorem kd_ne {s : Str} (h : s = "ours" ∨ s = "theirs") : decide (V.str s = V.str "draw") = false := by
  rcases h with rfl | rfl
  · decide
  · decide
theorem kd_eq : decide (V.str ("draw" : Str) = V.str "draw") = true := by decide
theorem pick_list {r : Addr} {s : Str} {l : List Int} (h : Dp K H (.ref r) (.list (Br.pick s l).items)) : SqL K H r (l.map V.int) := by
  obtain ⟨r', xs, e, sq, d⟩ := dp_list h
  cases e
  rw [ints_dpa d] at sq
  exact sq
def spTargets (K : PySem.W.Frag) : Sp := fun vs H Q _ => ∃ (l : Addr) (x : Int) (g : List Pl), vs = [.ref l, .int x] ∧ Dp K H (.ref l) (gmD g) ∧ GmOk g ∧ (0 ≤ x ∧ x < ((TT g).length : Int)) ∧ RetL ((tg (TT g) x).map V.int) H Q
theorem GmOk.at (G : GmOk g) {i : Nat} {pl : Pl} (h : g[i]? = some pl) : pl.br.Ok ∧ pl.br.tgs.length ≤ 6 := by
  have hm := List.mem_of_getElem? h
  refine ⟨(G.br pl hm).1, ?_⟩
  exact (G.good pl.br.tgs (List.mem_map.mpr ⟨pl, hm, rfl⟩)).2.1
theorem ok_targets (T : Txt K mg a) : FnOk P w K mg base CX0 1 a.targets.1 a.targets.2 ["game", "place"] (spTargets K) := by
  refine T.targets.F.ok sc_targets (fun vs H Q E h => ?_) (fun cdv A outer s H vs Q E hr h => ?_)
  · obtain ⟨_, _, _, rfl, _⟩ := h
    rfl
  · obtain ⟨l, x, g, rfl, hg, G, hx, q⟩ := h
    obtain ⟨xs, p, qq, r, pl, s1, s2, s3, s4, z, s5, _⟩ := gm_ix hg hx
    obtain ⟨hok, hsz⟩ := G.at s4
    refine ⟨_, (pss_cons (ps_asg (pe_ix ix_seq (pv 0) (pv 1) (fun _ _ => rfl)) (pg_tup rfl (pgs_cons (pg_name (i := 2) sc_targets.nd rfl (Or.inl rfl)) (pgs_cons (pg_name (i := 3) sc_targets.nd rfl (Or.inl rfl)) (pgs_cons (pg_name (i := 4) sc_targets.nd rfl (Or.inl rfl)) pgs_nil)))))
      (pss_cons (ps_if (pt_cmpR op_eq (pv 3) pe_str (nomark _))
      (pss_one (ps_ret (pe_lc (own := [("chance", 5), ("target", 6)]) (g := gTup K 2 (gCons (gName 5) (gCons (gName 6) gNil))) (tt := tYes) rfl sc_targets.nd (pi_list (pv 4)) (blkOk_by (N := N_targets) (sc := defScope s_targets) (by decide +kernel)) (fun _ _ _ _ _ => by exact (pg_tup rfl (by exact (pgs_cons (by exact (pg_name (i := 5) sc_targets.nd rfl (Or.inl rfl))) (by exact (pgs_cons (by exact (pg_name (i := 6) sc_targets.nd rfl (Or.inl rfl))) pgs_nil)))))) (fun _ _ _ _ _ => pts_nil) (fun _ _ _ _ _ => (pv 6)))))
      pss_nil)
      (pss_one (ps_ret (pe_callTy crList (by rfl) T.z_list (by decide +kernel) (pa_cons (pv 4) pa_nil)))))), ?_⟩
    refine q_asgG (ev_ixL (ev_var rfl) (ev_var rfl) s1 s3) fun H1 e1 => g3 (ex_t e1 z.t) ?_
    rw [s5] at q
    have zb := z.b
    cases hb : pl.br with
    | draw lb =>
      rw [hb] at q zb hsz
      refine q_if (et_eq (b := true) (ev_var rfl) ev_c rfl kd_eq) (fun _ H2 e2 => ?_) fun z => Bool.noConfusion z
      refine s_retL (el_tgs (l := lb) (ev_var rfl) (dp_mono (e1.trans e2) _ _ zb) (by simp [Br.tgs] at hsz; omega) (fun _ _ => rfl) (fun _ _ => rfl)) fun p' H3 hp e3 h3 => ?_
      exact q.go (e1.trans e2) hp e3 h3
    | pick sd lb =>
      rw [hb] at q zb hok
      refine q_if (et_eq (b := false) (ev_var rfl) ev_c rfl (kd_ne hok)) (fun z => Bool.noConfusion z) fun _ H2 e2 => ?_
      refine s_retL (el_list (ev_var rfl) (ex_l (e1.trans e2) (pick_list zb))) fun p' H3 hp e3 h3 => ?_
      exact q.go (e1.trans e2) hp e3 h3
/-- the law's own: of a place -/
def spLTargets (K : PySem.W.Frag) : Sp := fun vs H Q _ => ∃ (p q r : Addr) (pl : Pl), vs = [.ref p] ∧ PlAt K H p q r pl ∧ pl.br.Ok ∧ pl.br.tgs.length ≤ 6 ∧ RetL (pl.br.tgs.map V.int) H Q
theorem ok_l_targets (T : Txt K mg a) : FnOk P w K mg base CX0 1 a.l_targets.1 a.l_targets.2 ["_law_place_here"] (spLTargets K) := by
  refine T.l_targets.F.ok sc_l_targets (fun vs H Q E h => ?_) (fun cdv A outer s H vs Q E hr h => ?_)
  · obtain ⟨_, _, _, _, rfl, _⟩ := h
    rfl
  · obtain ⟨p, qq, r, pl, rfl, z, hok, hsz, q⟩ := h
    refine ⟨_, (pss_cons (ps_if (pt_cmpR op_eq (pe_ix ix_seq (pv 0) pe_int (fun _ _ => rfl)) pe_str (nomark _))
      (pss_one (ps_ret (pe_lc (own := [("_law_chance", 1), ("_law_target", 2)]) (g := gTup K 2 (gCons (gName 1) (gCons (gName 2) gNil))) (tt := tYes) rfl sc_l_targets.nd (pi_list (pe_ix ix_seq (pv 0) pe_int (fun _ _ => rfl))) (blkOk_by (N := N_l_targets) (sc := defScope s_l_targets) (by decide +kernel)) (fun _ _ _ _ _ => by exact (pg_tup rfl (by exact (pgs_cons (by exact (pg_name (i := 1) sc_l_targets.nd rfl (Or.inl rfl))) (by exact (pgs_cons (by exact (pg_name (i := 2) sc_l_targets.nd rfl (Or.inl rfl))) pgs_nil)))))) (fun _ _ _ _ _ => pts_nil) (fun _ _ _ _ _ => (pv 2)))))
      pss_nil)
      (pss_one (ps_ret (pe_callTy crList (by rfl) T.z_list (by decide +kernel) (pa_cons (pe_ix ix_seq (pv 0) pe_int (fun _ _ => rfl)) pa_nil))))), ?_⟩
    have zb := z.b
    have zt := z.t
    cases hb : pl.br with
    | draw lb =>
      rw [hb] at q zb hsz zt
      refine q_if (et_eq (b := true) (ev_ixT (ev_var rfl) ev_c zt (atI_nat (j := 1) rfl)) ev_c rfl kd_eq) (fun _ H2 e2 => ?_) fun z => Bool.noConfusion z
      refine s_retL (el_tgs (l := lb) (ev_ixT (ev_var rfl) ev_c (ex_t e2 zt) (atI_nat (j := 2) rfl)) (dp_mono e2 _ _ zb) (by simp [Br.tgs] at hsz; omega) (fun _ _ => rfl) (fun _ _ => rfl)) fun p' H3 hp e3 h3 => ?_
      exact q.go e2 hp e3 h3
    | pick sd lb =>
      rw [hb] at q zb hok zt
      refine q_if (et_eq (b := false) (ev_ixT (ev_var rfl) ev_c zt (atI_nat (j := 1) rfl)) ev_c rfl (kd_ne hok)) (fun z => Bool.noConfusion z) fun _ H2 e2 => ?_
      refine s_retL (el_list (ev_ixT (ev_var rfl) ev_c (ex_t e2 zt) (atI_nat (j := 2) rfl)) (ex_l e2 (pick_list zb))) fun p' H3 hp e3 h3 => ?_
      exact q.go e2 hp e3 h3
end
end Mh

set_option Elab.async false
set_option linter.all false
set_option maxRecDepth 100000
set_option maxHeartbeats 1000000
namespace Mh
open PySem PySem.Spec PyProof.Rows L2 Evl
section
variable {P : Program} {w : World} {K : PySem.W.Frag} {mg : Str → Option Value} {base : Heap} {a : Ad} {g : List Pl} {H H' : Hp}
theorem s_retC {sp : Sp} {dvs vs : List V} {E : XK} {ta : TA} {σ : L2.St} {D : Ends} (h : EvA ta σ H vs) (k : ∀ H1, Ex H H1 → sp (vs ++ dvs) H1 D.rt E) : tRet (tCall sp dvs E ta) D σ H := h H (Ex.refl H) _ k
theorem s_raise {C : Addr} {W : WX} {v : V} {ta : TA} {σ : L2.St} {D : Ends} (h : EvA ta σ H [v]) (k : ∀ H1, Ex H H1 → ∀ d, H1 d = none → W (.ref C) (some d) σ (upd H1 d (.xd [(("at" : Str), v)]))) : tRaiseNb C W ta D σ H := h H (Ex.refl H) _ fun H1 e => ⟨v, rfl, fun d hd => k H1 e d hd⟩
theorem s_retCL {sp : Sp} {dvs xs : List V} {E : XK} {te : TE} {σ : L2.St} {D : Ends} (h : EvL te σ H xs) (k : ∀ p H1, H p = none → Ex H H1 → H1 p = some (.lst xs) → sp ([.ref p] ++ dvs) H1 D.rt E) : tRet (tCall sp dvs E (tCons te tNil)) D σ H := h H (Ex.refl H) _ k
theorem drop_get {W : List Int} {i : Nat} {y : Int} (h : W.dropLast[i]? = some y) : W[i]? = some y := by
  have hi := (List.getElem?_eq_some_iff.mp h).1
  rw [List.length_dropLast] at hi
  rw [List.dropLast_eq_take, List.getElem?_take_of_lt hi] at h
  exact h
theorem last_map (T : List (List Int)) (x : Int) (bs : List Int) : atI ((wk T x bs).map V.int) (-1) = some (.int (en T x bs)) := by
  rw [wk_last, List.map_append]
  exact atI_last _ _
theorem get_stp {T : List (List Int)} {x y : Int} (h : 0 ≤ y ∧ y < ((tg T x).length : Int)) : atI ((tg T x).map V.int) y = some (.int (stp T x y)) := by
  have hy : y.toNat < (tg T x).length := by omega
  refine at_of (j := y.toNat) (by omega) ?_
  rw [List.getElem?_map, List.getElem?_eq_getElem hy]
  unfold stp
  rw [List.getD_eq_getElem?_getD, List.getElem?_eq_getElem hy]
  rfl
theorem ints_get {bs : List Int} {i : Nat} {v : V} (h : (bs.map V.int)[i]? = some v) : ∃ y, bs[i]? = some y ∧ v = .int y := by
  rw [List.getElem?_map] at h
  cases e : bs[i]? with
  | none => rw [e] at h; cases h
  | some y =>
    rw [e] at h
    exact ⟨y, rfl, (Option.some.inj h).symm⟩
theorem take_snoc {bs : List Int} {i : Nat} {y : Int} (h : bs[i]? = some y) : bs.take (i + 1) = bs.take i ++ [y] := by
  rw [List.take_add_one, h]
  rfl
theorem ok_next {T : List (List Int)} {x : Int} {bs : List Int} {i : Nat} {y : Int} (h : bs[i]? = some y) (ho : ok T x bs) : 0 ≤ y ∧ y < ((tg T (en T x (bs.take i))).length : Int) := by
  have e := List.take_append_drop (i + 1) bs
  rw [← e, ok_app, take_snoc h, ok_app] at ho
  exact ho.1.2.1
theorem ok_take {T : List (List Int)} {x : Int} {bs : List Int} (i : Nat) (ho : ok T x bs) : ok T x (bs.take i) := by
  have e := List.take_append_drop i bs
  rw [← e, ok_app] at ho
  exact ho.1
/-- an error of NoBranch leaves: its field is k -/
def RaisesAt (C : Addr) (k : Int) (H : Hp) (E : XK) : Prop := ∀ d H', Ex H H' → H' d = some (.xd [(("at" : Str), .int k)]) → E (.ref C) (some d) H'
/-- a game and a place of it -/
def Gm (K : PySem.W.Frag) (H : Hp) (l : Addr) (g : List Pl) (x : Int) : Prop := Dp K H (.ref l) (gmD g) ∧ GmOk g ∧ 0 ≤ x ∧ x < ((TT g).length : Int)
theorem Gm.on {l : Addr} {x : Int} (h : Gm K H l g x) (e : Ex H H') : Gm K H' l g x := ⟨dp_mono e _ _ h.1, h.2⟩
theorem Gm.to {l : Addr} {x : Int} (h : Gm K H l g x) {bs : List Int} (ho : ok (TT g) x bs) : Gm K H l g (en (TT g) x bs) := ⟨h.1, h.2.1, en_in h.2.1.good h.2.2 ho⟩
def spWalk (K : PySem.W.Frag) (C : Addr) : Sp := fun vs H Q E => ∃ (l b : Addr) (x f : Int) (g : List Pl) (bs : List Int), vs = [.ref l, .int x, .ref b, .int f] ∧ Gm K H l g x ∧ SqL K H b (bs.map V.int) ∧ bs.length ≤ 1000 ∧
  ((ok (TT g) x bs ∧ RetL ((wk (TT g) x bs).map V.int) H Q) ∨
    ∃ (b1 b2 : List Int) (c : Int), bs = b1 ++ c :: b2 ∧ ok (TT g) x b1 ∧ ¬ (0 ≤ c ∧ c < ((tg (TT g) (en (TT g) x b1)).length : Int)) ∧ RaisesAt C (f + b1.length) H E)
theorem sp_targets {l : Addr} {x : Int} (h : Gm K H l g x) : SpL (spTargets K) ([.ref l, .int x] ++ []) H ((tg (TT g) x).map V.int) := fun H1 e Q q E => ⟨l, x, g, rfl, (h.on e).1, h.2.1, h.2.2, q⟩
theorem ok_walk (T : Txt K mg a) (N : NbTxt P K mg a.C a.fI) : FnOk P w K mg base (L2.CX P w) 4 a.walk.1 a.walk.2 ["game", "start", "branches", "first"] (spWalk K a.C) := by
  have G_targets := ok_targets (P := P) (w := w) (base := base) T
  have b_targets := bd_targets T.targets
  refine T.walk.F.okX sc_walk (fun vs H Q E h => ?_) (fun cdv A outer s H vs Q E hr h => ?_)
  · obtain ⟨_, _, _, _, _, _, rfl, _⟩ := h
    rfl
  · obtain ⟨l, b, x, f, g, bs, rfl, hG, hb, hlen, q⟩ := h
    refine ⟨_, (pss_cons (ps_set (i := 4) sc_walk.nd rfl (Or.inl rfl) (pe_lst (pa_cons (pv 1) pa_nil)))
      (pss_cons (ps_for (passes_of rfl) rfl (pi_enum (by rfl) T.z_enumerate (pa_cons (pv 2) pa_nil)) (pg_tup rfl (pgs_cons (pg_name (i := 5) sc_walk.nd rfl (Or.inl rfl)) (pgs_cons (pg_name (i := 6) sc_walk.nd rfl (Or.inl rfl)) pgs_nil)))
      (pss_cons (ps_set (i := 7) sc_walk.nd rfl (Or.inl rfl) (pe_call G_targets (hr.mono (by decide)) (by rfl) T.targets.g T.targets.kp b_targets .nil pass0 (pa_cons (pv 0) (pa_cons (pe_ix ix_seq (pv 4) (pe_un un_neg pe_int) (fun _ _ => rfl)) pa_nil))))
      (pss_cons (ps_if (pt_not (pt_chain op_le op_lt pe_int (pv 6) (pe_callB crLen (by rfl) T.z_len (by decide +kernel) (pa_cons (pv 7) pa_nil))))
      (pss_one (ps_raiseNb rfl N hr (takes_of rfl rfl rfl rfl) (by exact (pa_cons (pe_op op_add (pv 3) (pv 5)) pa_nil))))
      pss_nil)
      (pss_one (ps_expr (pe_bm PySem.F.plainAttrs_list PySem.F.slot_list_append PySem.F.type_list_append mt_append (pv 4) (pa_cons (pe_ix ix_seq (pv 7) (pv 6) (fun _ _ => rfl)) pa_nil)))))))
      (pss_one (ps_ret (pv 4))))), ?_⟩
    refine q_asgL (el_lst (ea_cons (ev_var rfl) ea_nil) (show 1 ≤ 100000 by decide)) fun pl H1 hpl e1 h1 => ?_
    refine q_forE (ea_cons (ev_var rfl) ea_nil) (ex_l e1 hb) (fun i σ H' => ∃ s5 s6 s7, σ = [some (.ref l), some (.int x), some (.ref b), some (.int f), some (.ref pl), s5, s6, s7] ∧ Ex H H' ∧ H' pl = some (.lst ((wk (TT g) x (bs.take i)).map V.int)) ∧ ok (TT g) x (bs.take i))
      (fun H2 e2 => ⟨none, none, none, rfl, e1.trans e2, e2 _ _ h1, trivial⟩) (fun i σ' H' _ p => ?_) (fun i v p σ' H' hv pv' hp => ?_) (fun σ' H' p => ?_)
    · obtain ⟨_, _, _, _, e, _⟩ := p
      exact ex_l e hb
    · obtain ⟨s5, s6, s7, rfl, e, hpl', hok⟩ := pv'
      obtain ⟨y, hy, rfl⟩ := ints_get hv
      refine g2 (st_of upd_same) ?_
      have e2 : Ex H' (upd H' p (.tup [.int (i : Int), .int y])) := Ex.new hp
      have hP := e2 _ _ hpl'
      have hG2 := (hG.to hok).on (e.trans e2)
      refine q_asgL (el_call (ea_cons (ev_var rfl) (ea_cons (ev_ixL (ev_var rfl) (ev_neg ev_c) (sq_of hP) (last_map _ _ _)) ea_nil)) (sp_targets hG2)) fun fo H3 hfo e3 h3 => ?_
      have hF := sq_of (K := K) h3
      refine q_when (et_not (et_within ev_c (ev_var rfl) (ev_len (ev_var rfl) hF))) (fun hb' H4 e4 => ?_) (fun hb' H4 e4 => ?_)
      · -- raise
        have hno : ¬ (0 ≤ y ∧ y < ((tg (TT g) (en (TT g) x (bs.take i))).length : Int)) := by
          rw [List.length_map] at hb'
          simpa only [Bool.not_eq_true', decide_eq_false_iff_not] using hb'
        rcases q with ⟨hall, _⟩ | ⟨b1, b2, c, hbs, hok1, hno1, q⟩
        · exact absurd (ok_next hy hall) hno
        · have hi : i = b1.length := by
            rcases Nat.lt_trichotomy i b1.length with z | z | z
            · have hy1 : b1[i]? = some y := by
                rw [hbs, List.getElem?_append_left z] at hy
                exact hy
              have := ok_next hy1 hok1
              rw [hbs, List.take_append_of_le_length (Nat.le_of_lt z)] at hno
              exact absurd this hno
            · exact z
            · have hc : (bs.take i)[b1.length]? = some c := by
                rw [List.getElem?_take_of_lt z, hbs, List.getElem?_append_right (Nat.le_refl _)]
                simp
              have := ok_next hc hok
              rw [List.take_take, Nat.min_eq_left (Nat.le_of_lt z), hbs, List.take_left] at this
              exact absurd this hno1
          subst hi
          refine s_raise (ea_cons (ev_add (ev_var rfl) (ev_var rfl)) ea_nil) fun H5 e5 d hd => ?_
          exact q d _ (((((e.trans e2).trans e3).trans e4).trans e5).trans (Ex.new hd)) upd_same
      · have hin : 0 ≤ y ∧ y < ((tg (TT g) (en (TT g) x (bs.take i))).length : Int) := by
          simpa using hb'
        refine s_app ((e3.trans e4) _ _ hP) (ev_var rfl) (ev_ixL (ev_var rfl) (ev_var rfl) (ex_l e4 hF) (get_stp hin)) ?_ fun H5 e5 => ?_
        · rw [List.length_map, wk_len, List.length_take]
          omega
        · refine ⟨_, _, _, rfl, Ex.mut ((((e.trans e2).trans e3).trans e4).trans e5) hpl, ?_, ?_⟩
          · rw [upd_same, take_snoc hy, wk_snoc, List.map_append]
            rfl
          · rw [take_snoc hy, ok_app]
            exact ⟨hok, hin, trivial⟩
    · obtain ⟨s5, s6, s7, rfl, e, hpl', hok⟩ := p
      rw [List.length_map, List.take_length] at hok hpl'
      rcases q with ⟨_, q⟩ | ⟨b1, b2, c, hbs, hok1, hno1, q⟩
      · exact s_ret (ev_var rfl) fun H5 e5 => q pl H5 hpl (e.trans e5) (e5 _ _ hpl')
      · have hc : bs[b1.length]? = some c := by
          rw [hbs, List.getElem?_append_right (Nat.le_refl _)]
          simp
        have := ok_next hc hok
        rw [hbs, List.take_left] at this
        exact absurd this hno1
def spPlacesOn (K : PySem.W.Frag) (C : Addr) : Sp := fun vs H Q E => ∃ (l b : Addr) (x : Int) (g : List Pl) (bs : List Int), vs = [.ref l, .int x, .ref b] ∧ Gm K H l g x ∧ SqL K H b (bs.map V.int) ∧ bs.length ≤ 1000 ∧
  ((ok (TT g) x bs ∧ RetL ((wk (TT g) x bs).map V.int) H Q) ∨
    ∃ (b1 b2 : List Int) (c : Int), bs = b1 ++ c :: b2 ∧ ok (TT g) x b1 ∧ ¬ (0 ≤ c ∧ c < ((tg (TT g) (en (TT g) x b1)).length : Int)) ∧ RaisesAt C b1.length H E)
theorem ret_on {xs : List V} {Q : VK} (k : RetL xs H Q) (e : Ex H H') : RetL xs H' Q := fun p H2 hp e2 h => k p H2 (fresh_back e hp) (e.trans e2) h
theorem raises_on {C : Addr} {k : Int} {E : XK} (q : RaisesAt C k H E) (e : Ex H H') : RaisesAt C k H' E := fun d H2 e2 h => q d H2 (e.trans e2) h
theorem ok_places_on (T : Txt K mg a) (N : NbTxt P K mg a.C a.fI) : FnOk P w K mg base (L2.CX P w) 5 a.places_on.1 a.places_on.2 ["game", "start", "branches"] (spPlacesOn K a.C) := by
  have G_walk := ok_walk (P := P) (w := w) (base := base) T N
  have b_walk := bd_walk T.walk
  refine T.places_on.F.okX sc_places_on (fun vs H Q E h => ?_) (fun cdv A outer s H vs Q E hr h => ?_)
  · obtain ⟨_, _, _, _, _, rfl, _⟩ := h
    rfl
  · obtain ⟨l, b, x, g, bs, rfl, hG, hb, hlen, q⟩ := h
    refine ⟨_, (pss_one (ps_ret (pe_call (E := E) G_walk (hr.mono (by decide)) (by rfl) T.walk.g T.walk.kp b_walk .nil (passes_call (takes_of rfl rfl rfl rfl) (fun _ _ _ _ h => h)) (pa_cons (pv 0) (pa_cons (pv 1) (pa_cons (pv 2) (pa_cons pe_int pa_nil))))))), ?_⟩
    refine s_retC (ea_cons (ev_var rfl) (ea_cons (ev_var rfl) (ea_cons (ev_var rfl) (ea_cons ev_c ea_nil)))) fun H1 e1 => ?_
    refine ⟨l, b, x, 0, g, bs, rfl, hG.on e1, ex_l e1 hb, hlen, ?_⟩
    rcases q with ⟨ho, q⟩ | ⟨b1, b2, c, h1, h2, h3, q⟩
    · exact .inl ⟨ho, ret_on q e1⟩
    · refine .inr ⟨b1, b2, c, h1, h2, h3, ?_⟩
      rw [Int.zero_add]
      exact raises_on q e1
theorem sp_places {l b : Addr} {x : Int} {bs : List Int} {C : Addr} (h : Gm K H l g x) (hb : SqL K H b (bs.map V.int)) (hl : bs.length ≤ 1000) (ho : ok (TT g) x bs) : SpL (spPlacesOn K C) ([.ref l, .int x, .ref b] ++ []) H ((wk (TT g) x bs).map V.int) := fun H1 e Q q E =>
  ⟨l, b, x, g, bs, rfl, h.on e, ex_l e hb, hl, .inl ⟨ho, q⟩⟩
def spSumOf (K : PySem.W.Frag) : Sp := fun vs H Q E => ∃ (l b : Addr) (x : Int) (g : List Pl) (bs : List Int), vs = [.ref l, .int x, .ref b] ∧ Gm K H l g x ∧ SqL K H b (bs.map V.int) ∧ bs.length ≤ 1000 ∧ ok (TT g) x bs ∧
  ∀ v H', Ex H H' → Nm K (sm (TT g) (KK g) x bs) H' v → Q v H'
theorem wk_in (G : Good (TT g)) {x : Int} {bs : List Int} (hx : 0 ≤ x ∧ x < ((TT g).length : Int)) (ho : ok (TT g) x bs) {i : Nat} {y : Int} (h : (wk (TT g) x bs)[i]? = some y) : 0 ≤ y ∧ y < ((TT g).length : Int) := by
  have hi := (List.getElem?_eq_some_iff.mp h).1
  rw [wk_len] at hi
  rw [wk_get _ _ _ (by omega)] at h
  cases h
  exact en_in G hx (ok_take i ho)
theorem ok_sum_of (T : Txt K mg a) (N : NbTxt P K mg a.C a.fI) : FnOk P w K mg base CX0 6 a.sum_of.1 a.sum_of.2 ["game", "start", "branches"] (spSumOf K) := by
  have G_places_on := ok_places_on (P := P) (w := w) (base := base) T N
  have b_places_on := bd_places_on T.places_on
  have G_total := ok_total (P := P) (w := w) (base := base) T
  have b_total := bd_total T.total
  refine T.sum_of.F.ok sc_sum_of (fun vs H Q E h => ?_) (fun cdv A outer s H vs Q E hr h => ?_)
  · obtain ⟨_, _, _, _, _, rfl, _⟩ := h
    rfl
  · obtain ⟨l, b, x, g, bs, rfl, hG, hb, hlen, ho, q⟩ := h
    refine ⟨_, (pss_one (ps_ret (pe_call G_total (hr.mono (by decide)) (by rfl) T.total.g T.total.kp b_total .nil pass0 (pa_cons (pe_lc (own := [("place", 3)]) (g := gName 3) (tt := tYes) (te := tOp (rIx K) (tOp (rIx K) (tVar 0) (tVar 3)) (tC (.int 0))) rfl sc_sum_of.nd (pi_list (pe_slice sl_list (pe_call G_places_on (hr.mono (by decide)) (by rfl) T.places_on.g T.places_on.kp b_places_on .nil passL (pa_cons (pv 0) (pa_cons (pv 1) (pa_cons (pv 2) pa_nil)))) po_none (po_some (pe_un un_neg pe_int)))) (blkOk_by (N := N_sum_of) (sc := defScope s_sum_of) (by decide +kernel)) (fun _ _ _ _ _ => (pg_name (i := 3) sc_sum_of.nd rfl (Or.inl rfl))) (fun _ _ _ _ _ => pts_nil) (fun _ _ _ _ _ => by exact (pe_ix ix_seq (pe_ix ix_seq (pv 0) (pv 3) (fun _ _ => rfl)) pe_int (fun _ _ => rfl)))) pa_nil)))), ?_⟩
    obtain ⟨l', ps, qs, rs, el, s1, l1, l2, l3, f⟩ := gm_at hG.1
    cases el
    generalize hW : wk (TT g) x bs = W
    have hWl : W.length = bs.length + 1 := by rw [← hW, wk_len]
    have ecut : cutV (W.map V.int) none (some (-1)) = W.dropLast.map V.int := by rw [cut_last, List.map_dropLast]
    have hpl : EvL (tSl (rSlL K) (tCall (spPlacesOn K a.C) [] E0 (tCons (tVar 0) (tCons (tVar 1) (tCons (tVar 2) tNil)))) tNoPart (tPart (tUn (rU fun i => .int (-i)) (tC (.int 1))))) (start N_sum_of [.ref l, .int x, .ref b]) H (W.dropLast.map V.int) := by
      have z := el_slN (K := K) (te := tCall (spPlacesOn K a.C) [] E0 (tCons (tVar 0) (tCons (tVar 1) (tCons (tVar 2) tNil)))) (σ := start N_sum_of [.ref l, .int x, .ref b]) (H := H) (tl := tNoPart) (th := tPart (tUn (rU fun i => .int (-i)) (tC (.int 1)))) (lo := none) (hi := some (-1))
        (el_call (ea_cons (ev_var rfl) (ea_cons (ev_var rfl) (ea_cons (ev_var rfl) ea_nil))) (sp_places hG hb hlen ho)) (fun H1 e1 => eo_none) (fun H1 e1 => eo_some (ev_neg ev_c))
      rw [hW, ecut] at z
      exact z
    -- each item's gain
    have item : ∀ (i : Nat) (v : V), (W.dropLast.map V.int)[i]? = some v → ∃ (y : Int) (p q r : Addr) (pl : Pl), W.dropLast[i]? = some y ∧ v = .int y ∧ atI (ps.map V.ref) y = some (.ref p) ∧ qs[y.toNat]? = some q ∧ PlAt K H p q r pl ∧ KK g y = pl.k := by
      intro i v hv
      obtain ⟨y, hy, rfl⟩ := ints_get hv
      have hyW : W[i]? = some y := drop_get hy
      rw [← hW] at hyW
      have hin := wk_in hG.2.1.good hG.2.2 ho hyW
      rw [TT_len] at hin
      have hi : y.toNat < g.length := by omega
      obtain ⟨p, q', r, e1, e2, _, z⟩ := f y.toNat g[y.toNat] (List.getElem?_eq_getElem hi)
      refine ⟨y, p, q', r, _, hy, rfl, at_of (j := y.toNat) (by omega) (by rw [List.getElem?_map, e1]; rfl), e2, z, ?_⟩
      unfold KK
      rw [List.getElem?_eq_getElem hi]
    have comp := el_lcNL (K := K) (t := tYes) (te := tOp (rIx K) (tOp (rIx K) (tVar 0) (tVar 3)) (tC (.int 0))) (j := 3) (vs := [3]) (fun _ => true) (fun i => .ref (qs.getD (W.getD i 0).toNat 0)) hpl (by rw [List.length_map, List.length_dropLast]; omega) (fun _ => rfl) (fun i v H1 _ _ H2 _ Q2 q2 => q2 H2 (Ex.refl H2))
      (fun i v H1 e1 hv _ => by
        obtain ⟨y, p, q', r, pl, h1, rfl, h3, h4, z, _⟩ := item i v hv
        have hyW : W.getD i 0 = y := by
          rw [List.getD_eq_getElem?_getD, drop_get h1]
          rfl
        rw [hyW, List.getD_eq_getElem?_getD, h4]
        exact ev_ixT (ev_ixL (ev_var rfl) (ev_var rfl) (ex_l e1 s1) h3) ev_c (ex_t e1 z.t) (atI_nat (j := 0) rfl))
    rw [given_all, List.length_map] at comp
    refine s_retCL comp fun p H1 hp e1 h1 => ?_
    refine ⟨p, _, W.dropLast.map (KK g), rfl, sq_of h1, by simp, fun i v k hv hk => ?_, fun v H2 e2 n => ?_⟩
    · rw [List.getElem?_map] at hv hk
      have hi : i < W.dropLast.length := by
        rcases Nat.lt_or_ge i W.dropLast.length with z | z
        · exact z
        · rw [List.getElem?_eq_none z] at hk
          cases hk
      rw [List.getElem?_range hi] at hv
      simp only [Option.map_some, Option.some.injEq] at hv
      subst hv
      obtain ⟨y, p', q', r, pl, h2, _, h3, h4, z, hk2⟩ := item i (.int W.dropLast[i]) (by rw [List.getElem?_map, List.getElem?_eq_getElem hi]; rfl)
      rw [h2] at hk
      simp only [Option.map_some, Option.some.injEq] at hk
      subst hk
      have hyW : W.getD i 0 = y := by
        rw [List.getD_eq_getElem?_getD, drop_get h2]
        rfl
      rw [hyW, List.getD_eq_getElem?_getD, h4, hk2]
      exact ⟨q', rfl, ex_t e1 z.g⟩
    · refine q v H2 (e1.trans e2) ?_
      rw [← hW, sm_sum] at n
      exact n
end
end Mh

set_option Elab.async false
set_option linter.all false
set_option maxRecDepth 100000
set_option maxHeartbeats 1000000
namespace Mh
open PySem PySem.Spec PyProof.Rows L2 Evl
section
variable {P : Program} {w : World} {K : PySem.W.Frag} {mg : Str → Option Value} {base : Heap} {a : Ad} {g : List Pl} {H H' : Hp} {σ : L2.St} {D : Ends} {tz : TS} {ta te tl tv : TE}
/-- circles in a part G of the heap -/
def CsG (G : Hp) (rs : List V) (cs : List (Int × List Int)) : Prop := rs.length = cs.length ∧ ∀ (i : Nat) (c : Int × List Int), cs[i]? = some c → ∃ u b : Addr, rs[i]? = some (.ref u) ∧ G u = some (.tup [.int c.1, .ref b]) ∧ G b = some (.lst (c.2.map V.int))
theorem CsG.on {G G' : Hp} {rs : List V} {cs : List (Int × List Int)} (h : CsG G rs cs) (e : Ex G G') : CsG G' rs cs := ⟨h.1, fun i c z => by
  obtain ⟨u, b, h1, h2, h3⟩ := h.2 i c z
  exact ⟨u, b, h1, e _ _ h2, e _ _ h3⟩⟩
theorem CsG.nil {G : Hp} : CsG G [] [] := ⟨rfl, fun i c z => by simp at z⟩
theorem CsG.snoc {G : Hp} {rs : List V} {cs : List (Int × List Int)} {c : Int × List Int} {u b : Addr} (h : CsG G rs cs) (hu : G u = some (.tup [.int c.1, .ref b])) (hb : G b = some (.lst (c.2.map V.int))) : CsG G (rs ++ [.ref u]) (cs ++ [c]) := by
  refine ⟨by simp [h.1], fun i c' z => ?_⟩
  rcases Nat.lt_or_ge i cs.length with hi | hi
  · rw [List.getElem?_append_left hi] at z
    obtain ⟨u', b', h1, h2, h3⟩ := h.2 i c' z
    exact ⟨u', b', by rw [List.getElem?_append_left (by rw [h.1]; exact hi)]; exact h1, h2, h3⟩
  · rw [List.getElem?_append_right hi] at z
    have : i = cs.length := by
      rcases Nat.lt_or_ge cs.length i with q | q
      · rw [List.getElem?_eq_none (by simp; omega)] at z; cases z
      · omega
    subst this
    simp at z
    subst z
    refine ⟨u, b, ?_, hu, hb⟩
    rw [List.getElem?_append_right (by rw [h.1]; exact Nat.le_refl _), h.1]
    simp
/-- what an unrolled way is told by: new in H', a tuple of a list and the circles' list -/
structure UnAt (H H' : Hp) (t p c : Addr) (rs : List V) (path : List Int) (cs : List (Int × List Int)) : Prop where
  ex : Ex H H'
  nt : H t = none
  np : H p = none
  nc : H c = none
  pc : p ≠ c
  at_ : H' t = some (.tup [.ref p, .ref c])
  ap : H' p = some (.lst (path.map V.int))
  ac : H' c = some (.lst rs)
  gs : ∃ G : Hp, Ex G H' ∧ (∀ b o, G b = some o → H b = none ∧ b ≠ p ∧ b ≠ c) ∧ CsG G rs cs
def RetUn (U : Un) (H : Hp) (Q : VK) : Prop := ∀ t p c rs H', UnAt H H' t p c rs (U.p.map (·.2)) U.c → Q (.ref t) H'
theorem sum_ge : ∀ (c : List (Int × List Int)), (∀ x ∈ c, 0 < x.2.length) → c.length ≤ (c.map fun x => x.2.length).sum
  | [], _ => Nat.zero_le _
  | x :: c, h => by
    have h1 := h x List.mem_cons_self
    have h2 := sum_ge c fun y hy => h y (List.mem_cons_of_mem _ hy)
    simp only [List.map_cons, List.sum_cons, List.length_cons]
    omega
/-! ### rules -/
/-- l.append((v, a new list)) -/
theorem q_appTL {l : Addr} {xs ys : List V} {v : V} (hl : H l = some (.lst xs)) (ha : Ev ta σ H (.ref l)) (hv : Ev tv σ H v) (h : EvL te σ H ys) (hz : xs.length < 100000)
    (k : ∀ u b H1, H u = none → H b = none → u ≠ b → Ex H H1 → H1 u = some (.tup [v, .ref b]) → H1 b = some (.lst ys) → tz D σ (upd H1 l (.lst (xs ++ [.ref u])))) :
    tSeq (tDrop (tBM K "list" rAppend ta (tCons (tTup (tCons tv (tCons te tNil))) tNil))) tz D σ H := ha H (Ex.refl H) _ fun H1 e1 =>
  ⟨Or.inl ⟨rfl, xs, sq_of (e1 l _ hl)⟩, hv H1 e1 _ fun H2 e2 => h H2 (e1.trans e2) _ fun b H3 hb e3 h3 => ⟨(show 2 ≤ sizeLine by decide), fun u hu =>
    ⟨l, xs, .ref u, rfl, rfl, by rw [upd_ne (ne_of_none (e3 _ _ (e2 _ _ (e1 l _ hl))) hu)]; exact e3 _ _ (e2 _ _ (e1 l _ hl)), sz_lt hz,
      k u b _ (fresh_back ((e1.trans e2).trans e3) hu) (fresh_back (e1.trans e2) hb) (fun z => by rw [z, h3] at hu; cases hu) (((e1.trans e2).trans e3).trans (Ex.new hu)) upd_same
        (by rw [upd_ne (ne_of_none h3 hu)]; exact h3)⟩⟩⟩
theorem eqV_int (m n : Int) : eqV (.int m) (.int n) = decide (m = n) := by
  by_cases h : m = n <;> simp [eqV, h]
/-- places.index(n) -/
theorem ev_index {l : Addr} {ns : List Int} {n : Int} {j : Nat} (ha : Ev ta σ H (.ref l)) (hl : SqL K H l (ns.map V.int)) (he : Ev te σ H (.int n)) (hj : ns.idxOf? n = some j) :
    Ev (tBM K "list" (rIndex K) ta (tCons te tNil)) σ H (.int (j : Int)) := fun H1 e1 Q q => ha H1 e1 _ fun H2 e2 =>
  ⟨Or.inl ⟨rfl, _, ex_l (e1.trans e2) hl⟩, he H2 (e1.trans e2) _ fun H3 e3 => by
    rw [List.idxOf?_eq_some_iff] at hj
    obtain ⟨h1, h2, h3⟩ := hj
    have e4 : ns[j] = n := by simpa using h2
    refine ⟨l, ns.map V.int, .int n, j, .int n, rfl, rfl, ex_l ((e1.trans e2).trans e3) hl, rfl, flat_ints ns, ?_, by rw [eqV_int]; simp, fun m z hm hz => ?_, q H3 (e2.trans e3)⟩
    · rw [List.getElem?_map, List.getElem?_eq_getElem h1, e4]
      rfl
    · obtain ⟨y, hy, rfl⟩ := ints_get hz
      rw [eqV_int]
      have := h3 m hm
      have hm1 : m < ns.length := by omega
      rw [List.getElem?_eq_getElem hm1] at hy
      cases hy
      simpa using this⟩
theorem mem_idx {ns : List Int} {n : Int} : (∃ j, ns.idxOf? n = some j) ∨ (ns.idxOf? n = none ∧ n ∉ ns) := by
  cases h : ns.idxOf? n with
  | some j => exact .inl ⟨j, rfl⟩
  | none =>
    refine .inr ⟨rfl, fun hm => ?_⟩
    have := List.isSome_idxOf?.mpr hm
    rw [h] at this
    cases this
theorem idx_mem {ns : List Int} {n : Int} {j : Nat} (h : ns.idxOf? n = some j) : n ∈ ns := List.isSome_idxOf?.mp (by rw [h]; rfl)
theorem s_forZraise {sp : Sp} {dvs vs : List V} {E : XK} {tA tr : TA} {r : V → Option Int → Option Int → Hp → VK → Prop} {lo hi : TO} {gt : TG} {tu : TS} (h : EvA tA σ H vs) (k : ∀ H1, Ex H H1 → ∀ Q, sp (vs ++ dvs) H1 Q E) :
    tSeq (tFor (iZip K (tCons (tSl r (tCall sp dvs E tA) lo hi) tr)) gt tu) tz D σ H := h H (Ex.refl H) _ fun H1 e => k H1 e _
/-- what is asked of a way: it is one, or it breaks off at a number that is no branch -/
def WayOr (C : Addr) (g : List Pl) (x : Int) (bs : List Int) (H : Hp) (E : XK) (A : Prop) : Prop := (ok (TT g) x bs ∧ A) ∨
    ∃ (b1 b2 : List Int) (c : Int), bs = b1 ++ c :: b2 ∧ ok (TT g) x b1 ∧ ¬ (0 ≤ c ∧ c < ((tg (TT g) (en (TT g) x b1)).length : Int)) ∧ RaisesAt C b1.length H E
def spUnrolled (K : PySem.W.Frag) (C : Addr) : Sp := fun vs H Q E => ∃ (l b : Addr) (x : Int) (g : List Pl) (bs : List Int), vs = [.ref l, .int x, .ref b] ∧ Gm K H l g x ∧ SqL K H b (bs.map V.int) ∧ bs.length ≤ 1000 ∧
  WayOr C g x bs H E (RetUn (unr (TT g) x bs) H Q)
theorem ok_unrolled (T : Txt K mg a) (N : NbTxt P K mg a.C a.fI) : FnOk P w K mg base (L2.CX P w) 6 a.unrolled.1 a.unrolled.2 ["game", "start", "branches"] (spUnrolled K a.C) := by
  have G_places_on := ok_places_on (P := P) (w := w) (base := base) T N
  have b_places_on := bd_places_on T.places_on
  refine T.unrolled.F.okX sc_unrolled (fun vs H Q E h => ?_) (fun cdv A outer s H vs Q E hr h => ?_)
  · obtain ⟨_, _, _, _, _, rfl, _⟩ := h
    rfl
  · obtain ⟨l, b, x, g, bs, rfl, hG, hb, hlen, q⟩ := h
    refine ⟨_, (pss_cons (ps_set (i := 3) sc_unrolled.nd rfl (Or.inl rfl) (pe_lst (pa_cons (pv 1) pa_nil)))
      (pss_cons (ps_set (i := 4) sc_unrolled.nd rfl (Or.inl rfl) (pe_lst pa_nil))
      (pss_cons (ps_set (i := 5) sc_unrolled.nd rfl (Or.inl rfl) (pe_lst pa_nil))
      (pss_cons (ps_for (passes_of rfl) rfl (pi_zip (by rfl) T.z_zip (pa_cons (pe_slice sl_list (pe_call (E := E) G_places_on (hr.mono (by decide)) (by rfl) T.places_on.g T.places_on.kp b_places_on .nil (passes_call (takes_of rfl rfl rfl rfl) (fun _ _ _ _ h => h)) (pa_cons (pv 0) (pa_cons (pv 1) (pa_cons (pv 2) pa_nil)))) (po_some pe_int) po_none) (pa_cons (pv 2) pa_nil))) (pg_tup rfl (pgs_cons (pg_name (i := 6) sc_unrolled.nd rfl (Or.inl rfl)) (pgs_cons (pg_name (i := 7) sc_unrolled.nd rfl (Or.inl rfl)) pgs_nil)))
      (pss_cons (ps_expr (pe_bm PySem.F.plainAttrs_list PySem.F.slot_list_append PySem.F.type_list_append mt_append (pv 4) (pa_cons (pv 7) pa_nil)))
      (pss_one (ps_if (pt_cmpR op_in_seq (pv 6) (pv 3) (by rfl))
      (pss_cons (ps_set (i := 8) sc_unrolled.nd rfl (Or.inl rfl) (pe_bm PySem.F.plainAttrs_list PySem.F.slot_list_index PySem.F.type_list_index mt_index (pv 3) (pa_cons (pv 6) pa_nil)))
      (pss_cons (ps_expr (pe_bm PySem.F.plainAttrs_list PySem.F.slot_list_append PySem.F.type_list_append mt_append (pv 5) (pa_cons (pe_tup (pa_cons (pv 6) (pa_cons (pe_slice sl_list (pv 4) (po_some (pv 8)) po_none) pa_nil))) pa_nil)))
      (pss_cons (ps_set (i := 4) sc_unrolled.nd rfl (Or.inl rfl) (pe_slice sl_list (pv 4) po_none (po_some (pv 8))))
      (pss_one (ps_set (i := 3) sc_unrolled.nd rfl (Or.inl rfl) (pe_slice sl_list (pv 3) po_none (po_some (pe_op op_add (pv 8) pe_int))))))))
      (pss_one (ps_expr (pe_bm PySem.F.plainAttrs_list PySem.F.slot_list_append PySem.F.type_list_append mt_append (pv 3) (pa_cons (pv 6) pa_nil))))))))
      (pss_one (ps_ret (pe_tup (pa_cons (pv 4) (pa_cons (pv 5) pa_nil))))))))), ?_⟩
    refine q_asgL (el_lst (ea_cons (ev_var rfl) ea_nil) (show 1 ≤ 100000 by decide)) fun pl0 H1 hpl e1 h1 => ?_
    refine q_asgL (el_lst ea_nil (show 0 ≤ 100000 by decide)) fun pa0 H2 hpa e2 h2 => ?_
    refine q_asgL (el_lst ea_nil (show 0 ≤ 100000 by decide)) fun ci H3 hci e3 h3 => ?_
    have e13 := (e1.trans e2).trans e3
    rcases q with ⟨ho, q⟩ | ⟨b1, b2, c, hb1, hb2, hb3, q⟩
    rotate_left
    · exact s_forZraise (ea_cons (ev_var rfl) (ea_cons (ev_var rfl) (ea_cons (ev_var rfl) ea_nil))) fun H4 e4 Q' => ⟨l, b, x, g, bs, rfl, hG.on (e13.trans e4), ex_l (e13.trans e4) hb, hlen, .inr ⟨b1, b2, c, hb1, hb2, hb3, raises_on q (e13.trans e4)⟩⟩
    have hUn : ∀ i, UnOk (TT g) (KK g) x (bs.take i) (unr (TT g) x (bs.take i)) := fun i => unr_ok hG.2.1.good hG.2.2 _ (ok_take i ho)
    have ecut : cutV ((wk (TT g) x bs).map V.int) (some ((1 : Nat) : Int)) none = ((wk (TT g) x bs).drop 1).map V.int := by rw [cut_from, List.map_drop]
    have hsl : EvL (tSl (rSlL K) (tCall (spPlacesOn K a.C) [] E (tCons (tVar 0) (tCons (tVar 1) (tCons (tVar 2) tNil)))) (tPart (tC (.int 1))) tNoPart) [some (.ref l), some (.int x), some (.ref b), some (.ref pl0), some (.ref pa0), some (.ref ci), none, none, none] H3 (((wk (TT g) x bs).drop 1).map V.int) := by
      rw [← ecut]
      exact el_slN (el_call (ea_cons (ev_var rfl) (ea_cons (ev_var rfl) (ea_cons (ev_var rfl) ea_nil))) (sp_places (hG.on e13) (ex_l e13 hb) hlen ho)) (fun H1 e1 => eo_some ev_c) (fun H1 e1 => eo_none)
    refine q_forZ hsl (fun H4 e4 => ev_var rfl) (ex_l e13 hb) (by rw [List.length_map, List.length_map, List.length_drop, wk_len]; omega)
      (fun z i σ' H' => ∃ (pl pa : Addr) (rs : List V) (G : Hp) (s6 s7 s8 : Option V), σ' = [some (.ref l), some (.int x), some (.ref b), some (.ref pl), some (.ref pa), some (.ref ci), s6, s7, s8] ∧ Ex H H' ∧ H z = none ∧ H' z = some (.lst (((wk (TT g) x bs).drop 1).map V.int)) ∧ z ≠ pl ∧ z ≠ pa ∧ z ≠ ci ∧
        H pl = none ∧ H pa = none ∧ pl ≠ pa ∧ pl ≠ ci ∧ pa ≠ ci ∧ H' pl = some (.lst (((unr (TT g) x (bs.take i)).p.map (·.1) ++ [(unr (TT g) x (bs.take i)).e]).map V.int)) ∧ H' pa = some (.lst (((unr (TT g) x (bs.take i)).p.map (·.2)).map V.int)) ∧ H' ci = some (.lst rs) ∧
        Ex G H' ∧ (∀ b o, G b = some o → H b = none ∧ b ≠ pl ∧ b ≠ pa ∧ b ≠ ci ∧ b ≠ z) ∧ CsG G rs (unr (TT g) x (bs.take i)).c)
      (fun z H4 hz e4 h4 => ?_) (fun z i σ' H' p => ?_) (fun z i v1 v2 t σ' H' hv1 hv2 p ht => ?_) (fun z σ' H' p => ?_)
    · refine ⟨pl0, pa0, [], fun _ => none, none, none, none, rfl, e13.trans e4, fresh_back e13 hz, h4, ?_, ?_, ?_, hpl, fresh_back e1 hpa, ?_, ?_, ?_, ?_, ?_, e4 _ _ h3, fun _ _ z => (nomatch z), fun _ _ z => (nomatch z), CsG.nil⟩
      · exact (ne_of_none (e3 _ _ (e2 _ _ h1)) hz).symm
      · exact (ne_of_none (e3 _ _ h2) hz).symm
      · exact (ne_of_none h3 hz).symm
      · exact ne_of_none h1 hpa
      · exact ne_of_none (e2 _ _ h1) hci
      · exact ne_of_none h2 hci
      · exact e4 _ _ (e3 _ _ (e2 _ _ h1))
      · exact e4 _ _ (e3 _ _ h2)
    · obtain ⟨pl, pa, rs, G, s6, s7, s8, _, e, _, hz, _⟩ := p
      exact ⟨sq_of hz, ex_l e hb⟩
    · obtain ⟨pl, pa, rs, G, s6, s7, s8, rfl, e, hz0, hz, nz1, nz2, nz3, n1, n2, n3, n4, n5, hPl, hPa, hCi, eG, fG, cG⟩ := p
      obtain ⟨y, hy, rfl⟩ := ints_get hv2
      obtain ⟨tgt, hy1, rfl⟩ := ints_get hv1
      have hU := hUn i
      generalize hS : unr (TT g) x (bs.take i) = S at hPl hPa cG hU
      have hi : i < bs.length := (List.getElem?_eq_some_iff.mp hy).1
      have hS' : unr (TT g) x (bs.take (i + 1)) = ulay (TT g) S y := by rw [take_snoc hy, unr_snoc, hS]
      have htgt : tgt = stp (TT g) S.e y := by
        rw [List.getElem?_drop, wk_get _ _ _ (by omega)] at hy1
        cases hy1
        rw [Nat.add_comm 1 i, take_snoc hy, en_snoc, ← hU.e]
      subst htgt
      generalize hPP : S.p ++ [(S.e, y)] = PP
      have hP1 : S.p.map (·.1) ++ [S.e] = PP.map (·.1) := by rw [← hPP]; simp
      have hP2 : S.p.map (·.2) ++ [y] = PP.map (·.2) := by rw [← hPP]; simp
      have hSl : S.p.length ≤ 1000 := by
        have := hU.len
        rw [List.length_take] at this
        omega
      have hPPl : PP.length ≤ 1001 := by rw [← hPP]; simp; omega
      refine g2 (st_of upd_same) ?_
      have e5 : Ex H' (upd H' t (.tup [.int (stp (TT g) S.e y), .int y])) := Ex.new ht
      refine q_app (e5 _ _ hPa) (ev_var rfl) (ev_var rfl) (by simp; omega) fun H6 e6 => ?_
      have e56 := e5.trans e6
      have hpaE : List.map V.int (List.map (fun x => x.snd) S.p) ++ [V.int y] = (PP.map (·.2)).map V.int := by rw [← hP2, List.map_append]; rfl
      rw [hpaE]
      generalize hH7 : upd H6 pa (.lst ((PP.map (·.2)).map V.int)) = H7
      have f7 : ∀ {p : Addr} {o : HO}, p ≠ pa → H' p = some o → H7 p = some o := fun {p o} hne h => by rw [← hH7, upd_ne hne]; exact e56 _ _ h
      have g7 : Ex G H7 := fun p o h => f7 (fG p o h).2.2.1 (eG p o h)
      have eH7 : Ex H H7 := by rw [← hH7]; exact Ex.mut (e.trans e56) n2
      have hPa7 : H7 pa = some (.lst ((PP.map (·.2)).map V.int)) := by rw [← hH7]; exact upd_same
      have hPl7 := f7 n3 hPl
      rw [hP1] at hPl7
      have hCi7 := f7 n5.symm hCi
      have hz7 := f7 nz2 hz
      rcases mem_idx (ns := PP.map (·.1)) (n := stp (TT g) S.e y) with ⟨k, hk⟩ | ⟨hk, hno⟩
      · -- a circle
        have hlay : unr (TT g) x (bs.take (i + 1)) = ⟨PP.take k, stp (TT g) S.e y, S.c ++ [(stp (TT g) S.e y, (PP.drop k).map (·.2))]⟩ := by
          rw [hS']
          unfold ulay
          rw [hPP, hk]
        have hkl : k < PP.length := by
          rw [List.idxOf?_eq_some_iff] at hk
          obtain ⟨h1, _⟩ := hk
          simpa using h1
        refine s_if (b := true) (et_test (ev_is (ev_op (ev_var rfl) (ev_var rfl) (rv_isI (sq_of hPl7))) (by rw [decide_eq_true (idx_mem hk)]))) (fun _ H8 e8 => ?_) fun z => Bool.noConfusion z
        refine q_asg (ev_index (ev_var rfl) (sq_of (e8 _ _ hPl7)) (ev_var rfl) hk) fun H9 e9 => ?_
        have e89 := e8.trans e9
        refine q_appTL (e89 _ _ hCi7) (ev_var rfl) (ev_var rfl) (el_sl (ev_var rfl) (eo_some (ev_var rfl)) eo_none (sq_of (e89 _ _ hPa7))) (by rw [cG.1]; have h0 := hU.len; have h1 := sum_ge S.c (fun c hc => (hU.cs c hc).2.1); rw [List.length_take] at h0; omega) fun u bb H10 hu hbb hub e10 hu10 hb10 => ?_
        rw [cut_from, ← List.map_drop, ← List.map_drop] at hb10
        have e810 := e89.trans e10
        generalize hH11 : upd H10 ci (.lst (rs ++ [.ref u])) = H11
        have f11 : ∀ {p : Addr} {o : HO}, p ≠ ci → H10 p = some o → H11 p = some o := fun {p o} hne h => by rw [← hH11, upd_ne hne]; exact h
        have hci : H ci = none := fresh_back (e1.trans e2) hci
        have eH11 : Ex H H11 := by rw [← hH11]; exact Ex.mut (eH7.trans e810) hci
        have huc : u ≠ ci := fun z => by rw [z, e89 _ _ hCi7] at hu; cases hu
        have hbc : bb ≠ ci := fun z => by rw [z, e89 _ _ hCi7] at hbb; cases hbb
        -- path = path[:k]
        refine q_asgL (el_sl (ev_var rfl) eo_none (eo_some (ev_var rfl)) (sq_of (f11 n5 (e810 _ _ hPa7)))) fun pa' H12 hpa' e12 h12 => ?_
        rw [cut_to, ← List.map_take, ← List.map_take] at h12
        -- places = places[:k + 1]
        refine s_asgL (el_sl (ev_var rfl) eo_none (eo_some (ev_add (ev_var rfl) ev_c)) (sq_of (e12 _ _ (f11 n4 (e810 _ _ hPl7))))) fun pl' H13 hpl' e13' h13 => ?_
        have ek1 : ((k : Int) + 1) = ((k + 1 : Nat) : Int) := by omega
        rw [ek1, cut_to] at h13
        have hCi11 : H11 ci = some (.lst (rs ++ [.ref u])) := by rw [← hH11]; exact upd_same
        have hz11 := f11 nz3 (e810 _ _ hz7)
        have hu11 := f11 huc hu10
        have hb11 := f11 hbc hb10
        have gG11 : Ex G H11 := fun p o h => f11 (fG p o h).2.2.2.1 (e810 _ _ (g7 p o h))
        have e1213 := e12.trans e13'
        have fr : ∀ {p : Addr} {o : HO}, H11 p = some o → p ≠ pa' ∧ p ≠ pl' := fun {p o} h => ⟨ne_of_none h hpa', ne_of_none (e12 _ _ h) hpl'⟩
        refine ⟨pl', pa', rs ++ [.ref u], fun p => if p = u then some (.tup [.int (stp (TT g) S.e y), .ref bb]) else if p = bb then some (.lst (((PP.drop k).map (·.2)).map V.int)) else G p, _, _, _, rfl, eH11.trans e1213, hz0, e1213 _ _ hz11, (fr hz11).2, (fr hz11).1, nz3, fresh_back (eH11.trans e12) hpl', fresh_back eH11 hpa', ?_, ?_, ?_, ?_, ?_, e1213 _ _ hCi11, ?_, ?_, ?_⟩
        · exact (ne_of_none h12 hpl').symm
        · exact (fr hCi11).2.symm
        · exact (fr hCi11).1.symm
        · rw [h13, hlay]
          have hky : (PP.map (·.1))[k]? = some (stp (TT g) S.e y) := by
            rw [List.idxOf?_eq_some_iff] at hk
            obtain ⟨h1, h2, _⟩ := hk
            rw [List.getElem?_eq_getElem h1]
            simpa using h2
          rw [← List.map_take, List.take_add_one, hky, List.map_take]
          rfl
        · rw [hlay]
          exact e13' _ _ h12
        · intro p o hp
          by_cases h1 : p = u
          · subst h1
            simp at hp
            rw [← hp]
            exact e1213 _ _ hu11
          · by_cases h2 : p = bb
            · subst h2
              simp [h1] at hp
              rw [← hp]
              have := e1213 _ _ hb11
              simpa using this
            · simp [h1, h2] at hp
              exact e1213 _ _ (gG11 p o hp)
        · intro p o hp
          by_cases h1 : p = u
          · rw [h1]
            exact ⟨fresh_back (eH7.trans e89) hu, (fr hu11).2, (fr hu11).1, huc, fun z' => by rw [z', e89 _ _ hz7] at hu; cases hu⟩
          · by_cases h2 : p = bb
            · rw [h2]
              exact ⟨fresh_back (eH7.trans e89) hbb, (fr hb11).2, (fr hb11).1, hbc, fun z' => by rw [z', e89 _ _ hz7] at hbb; cases hbb⟩
            · simp [h1, h2] at hp
              have := fG p o hp
              exact ⟨this.1, (fr (gG11 p o hp)).2, (fr (gG11 p o hp)).1, this.2.2.2.1, this.2.2.2.2⟩
        · rw [hlay]
          refine (cG.on (fun p o hp => ?_)).snoc (if_pos rfl) (by show (if bb = u then _ else _) = _; rw [if_neg hub.symm, if_pos rfl])
          have h1 : p ≠ u := fun z' => by rw [z'] at hp; have := e89 _ _ (g7 _ _ hp); rw [hu] at this; cases this
          have h2 : p ≠ bb := fun z' => by rw [z'] at hp; have := e89 _ _ (g7 _ _ hp); rw [hbb] at this; cases this
          simp [h1, h2]
          exact hp
      · -- a new place
        have hlay : unr (TT g) x (bs.take (i + 1)) = ⟨PP, stp (TT g) S.e y, S.c⟩ := by
          rw [hS']
          unfold ulay
          rw [hPP, hk]
        refine s_if (b := false) (et_test (ev_is (ev_op (ev_var rfl) (ev_var rfl) (rv_isI (sq_of hPl7))) (by rw [decide_eq_false hno]))) (fun z => Bool.noConfusion z) fun _ H8 e8 => ?_
        refine s_app (e8 _ _ hPl7) (ev_var rfl) (ev_var rfl) (by simp; omega) fun H9 e9 => ?_
        have e89 := e8.trans e9
        have f10 : ∀ {p : Addr} {o u : HO}, p ≠ pl → H7 p = some o → (upd H9 pl u) p = some o := fun {p o u} hne h => by rw [upd_ne hne]; exact e89 _ _ h
        refine ⟨pl, pa, rs, G, _, _, _, rfl, Ex.mut (eH7.trans e89) n1, hz0, f10 nz1 hz7, nz1, nz2, nz3, n1, n2, n3, n4, n5, ?_, ?_, f10 n4.symm hCi7, fun p o h => f10 (fG p o h).2.1 (g7 p o h), fG, ?_⟩
        · rw [upd_same, hlay, ← List.map_singleton, ← List.map_append]
        · rw [hlay]
          exact f10 n3.symm hPa7
        · rw [hlay]
          exact cG
    · obtain ⟨pl, pa, rs, G, s6, s7, s8, rfl, e, hz0, hz, nz1, nz2, nz3, n1, n2, n3, n4, n5, hPl, hPa, hCi, eG, fG, cG⟩ := p
      have el : (bs.take (((wk (TT g) x bs).drop 1).map V.int).length) = bs := by
        rw [List.length_map, List.length_drop, wk_len]
        exact List.take_of_length_le (by omega)
      rw [el] at hPl hPa cG
      refine s_retU (eu_tup (ea_cons (ev_var rfl) (ea_cons (ev_var rfl) ea_nil)) (show 2 ≤ 100000 by decide)) fun t H5 ht e5 h5 => ?_
      exact q t pa ci rs H5 ⟨e.trans e5, fresh_back e ht, n2, fresh_back (e1.trans e2) hci, n5, h5, e5 _ _ hPa, e5 _ _ hCi, G, eG.trans e5, fun b o h => ⟨(fG b o h).1, (fG b o h).2.2.1, (fG b o h).2.2.2.1⟩, cG⟩
end
end Mh

set_option Elab.async false
set_option linter.all false
set_option maxRecDepth 100000
set_option maxHeartbeats 1000000
namespace Mh
open PySem PySem.Spec PyProof.Rows L2 Evl
section
variable {P : Program} {w : World} {K : PySem.W.Frag} {mg : Str → Option Value} {base : Heap} {a : Ad} {g : List Pl} {H H' : Hp} {σ : L2.St} {D : Ends} {tz : TS} {ta te tl tv : TE}
/-- return ([..], v) -/
theorem s_retTL {xs : List V} {v : V} (h : EvL tl σ H xs) (hv : ∀ H1, Ex H H1 → Ev tv σ H1 v) (k : ∀ p t H1, H p = none → H t = none → Ex H H1 → H1 p = some (.lst xs) → H1 t = some (.tup [.ref p, v]) → D.rt (.ref t) H1) :
    tRet (tTup (tCons tl (tCons tv tNil))) D σ H := h H (Ex.refl H) _ fun p H1 hp e1 h1 => hv H1 e1 H1 (Ex.refl H1) _ fun H2 e2 => ⟨(show 2 ≤ sizeLine by decide), fun t ht =>
    k p t _ hp (fresh_back (e1.trans e2) ht) ((e1.trans e2).trans (Ex.new ht)) (by rw [upd_ne (ne_of_none (e2 _ _ h1) ht)]; exact e2 _ _ h1) upd_same⟩
/-- pairs of ints, each in a tuple -/
def Ps (H : Hp) (rs : List V) (ps : List (Int × Int)) : Prop := rs.length = ps.length ∧ ∀ (i : Nat) (c : Int × Int), ps[i]? = some c → ∃ u : Addr, rs[i]? = some (.ref u) ∧ H u = some (.tup [.int c.1, .int c.2])
theorem Ps.on {rs : List V} {ps : List (Int × Int)} (h : Ps H rs ps) (e : ∀ u xs, H u = some (.tup xs) → H' u = some (.tup xs)) : Ps H' rs ps := ⟨h.1, fun i c z => by
  obtain ⟨u, h1, h2⟩ := h.2 i c z
  exact ⟨u, h1, e _ _ h2⟩⟩
theorem Ps.mut {rs : List V} {ps : List (Int × Int)} {l : Addr} {xs ys : List V} (h : Ps H rs ps) (hl : H l = some (.lst xs)) : Ps (upd H l (.lst ys)) rs ps := h.on fun u zs z => by
  have : u ≠ l := fun q => by rw [q, hl] at z; cases z
  rw [upd_ne this]
  exact z
theorem Ps.ex {rs : List V} {ps : List (Int × Int)} (h : Ps H rs ps) (e : Ex H H') : Ps H' rs ps := h.on fun u xs z => e u _ z
theorem Ps.snoc {rs : List V} {ps : List (Int × Int)} {c : Int × Int} {u : Addr} (h : Ps H rs ps) (hu : H u = some (.tup [.int c.1, .int c.2])) : Ps H (rs ++ [.ref u]) (ps ++ [c]) := by
  refine ⟨by simp [h.1], fun i c' z => ?_⟩
  rcases Nat.lt_or_ge i ps.length with hi | hi
  · rw [List.getElem?_append_left hi] at z
    obtain ⟨u', h1, h2⟩ := h.2 i c' z
    exact ⟨u', by rw [List.getElem?_append_left (by rw [h.1]; exact hi)]; exact h1, h2⟩
  · rw [List.getElem?_append_right hi] at z
    have : i = ps.length := by
      rcases Nat.lt_or_ge ps.length i with q | q
      · rw [List.getElem?_eq_none (by simp; omega)] at z; cases z
      · omega
    subst this
    simp at z
    subst z
    refine ⟨u, ?_, hu⟩
    rw [List.getElem?_append_right (by rw [h.1]; exact Nat.le_refl _), h.1]
    simp
theorem Ps.take {rs : List V} {ps : List (Int × Int)} (h : Ps H rs ps) (k : Nat) : Ps H (rs.take k) (ps.take k) := by
  refine ⟨by simp [h.1], fun i c z => ?_⟩
  have hi : i < k := by
    have := (List.getElem?_eq_some_iff.mp z).1
    rw [List.length_take] at this
    omega
  rw [List.getElem?_take_of_lt hi] at z ⊢
  exact h.2 i c z
theorem Ps.drop {rs : List V} {ps : List (Int × Int)} (h : Ps H rs ps) (k : Nat) : Ps H (rs.drop k) (ps.drop k) := by
  refine ⟨by simp [h.1], fun i c z => ?_⟩
  rw [List.getElem?_drop] at z ⊢
  exact h.2 _ c z
/-- [pair[1] for pair in ..] -/
theorem el_snd {rs : List V} {ps : List (Int × Int)} {j : Nat} {vs : List Nat} (h : EvL tl σ H rs) (hp : Ps H rs ps) (hz : rs.length ≤ 40000) (hw : ∀ x, wipe ((wipe σ vs).set j (some x)) vs = wipe σ vs) (hj : ∀ x, ((wipe σ vs).set j (some x))[j]? = some (some x)) :
    EvL (tLc (iList K tl) (gName j) tYes (tOp (rIx K) (tVar j) (tC (.int 1))) vs) σ H ((ps.map (·.2)).map V.int) := by
  have z := el_lcNL (K := K) (t := tYes) (te := tOp (rIx K) (tVar j) (tC (.int 1))) (j := j) (vs := vs) (fun _ => true) (fun i => .int ((ps.map (·.2)).getD i 0)) h hz hw (fun i v H1 _ _ H2 _ Q2 q2 => q2 H2 (Ex.refl H2))
    (fun i v H1 e1 hv _ => by
      have hi : i < ps.length := by
        have := (List.getElem?_eq_some_iff.mp hv).1
        rw [hp.1] at this
        exact this
      obtain ⟨u, h1, h2⟩ := hp.2 i ps[i] (List.getElem?_eq_getElem hi)
      rw [hv] at h1
      cases h1
      have e : (ps.map (·.2)).getD i 0 = ps[i].2 := by
        rw [List.getD_eq_getElem?_getD, List.getElem?_map, List.getElem?_eq_getElem hi]
        rfl
      rw [e]
      exact ev_ixT (ev_var (hj _)) ev_c (st_of (e1 _ _ h2)) (atI_nat (j := 1) rfl))
  have e2 : rs.length = (ps.map (·.2)).length := by rw [List.length_map, hp.1]
  rw [given_all, e2, map_range_get] at z
  exact z
/-- [pair[1] for pair in ..] -/
theorem el_snd_var {l : Addr} {rs : List V} {ps : List (Int × Int)} {j : Nat} {vs : List Nat} (h : Ev tl σ H (.ref l)) (hx : SqL K H l rs) (hp : Ps H rs ps) (hz : rs.length ≤ 40000) (hw : ∀ x, wipe ((wipe σ vs).set j (some x)) vs = wipe σ vs) (hj : ∀ x, ((wipe σ vs).set j (some x))[j]? = some (some x)) :
    EvL (tLc (iList K tl) (gName j) tYes (tOp (rIx K) (tVar j) (tC (.int 1))) vs) σ H ((ps.map (·.2)).map V.int) := by
  have z := el_lcL (K := K) (t := tYes) (te := tOp (rIx K) (tVar j) (tC (.int 1))) (j := j) (vs := vs) (fun _ => true) (fun i => .int ((ps.map (·.2)).getD i 0)) h hx hz hw (fun i v H1 _ _ H2 _ Q2 q2 => q2 H2 (Ex.refl H2))
    (fun i v H1 e1 hv _ => by
      have hi : i < ps.length := by
        have := (List.getElem?_eq_some_iff.mp hv).1
        rw [hp.1] at this
        exact this
      obtain ⟨u, h1, h2⟩ := hp.2 i ps[i] (List.getElem?_eq_getElem hi)
      rw [hv] at h1
      cases h1
      have e : (ps.map (·.2)).getD i 0 = ps[i].2 := by
        rw [List.getD_eq_getElem?_getD, List.getElem?_map, List.getElem?_eq_getElem hi]
        rfl
      rw [e]
      exact ev_ixT (ev_var (hj _)) ev_c (st_of (e1 _ _ h2)) (atI_nat (j := 1) rfl))
  have e2 : rs.length = (ps.map (·.2)).length := by rw [List.length_map, hp.1]
  rw [given_all, e2, map_range_get] at z
  exact z
theorem sp_ltargets {l : Addr} {x : Int} (h : Gm K H l g x) : ∃ (xs : List V) (p : Addr), SqL K H l xs ∧ atI xs x = some (.ref p) ∧ SpL (spLTargets K) ([.ref p] ++ []) H ((tg (TT g) x).map V.int) := by
  obtain ⟨xs, p, q, r, pl, s1, _, s3, s4, z, s5, _⟩ := gm_ix h.1 h.2.2
  obtain ⟨k1, k2⟩ := h.2.1.at s4
  refine ⟨xs, p, s1, s3, fun H1 e Q k E => ?_⟩
  rw [s5] at k
  exact ⟨p, q, r, pl, rfl, z.on e, k1, k2, k⟩
def spLUnrolled (K : PySem.W.Frag) : Sp := fun vs H Q E => ∃ (l b : Addr) (x : Int) (g : List Pl) (bs : List Int), vs = [.ref l, .int x, .ref b] ∧ Gm K H l g x ∧ SqL K H b (bs.map V.int) ∧ bs.length ≤ 1000 ∧ ok (TT g) x bs ∧ RetUn (unr (TT g) x bs) H Q
theorem idx_none_of {ns : List Int} {n : Int} (h : ∀ (m : Nat) (z : Int), ns[m]? = some z → z ≠ n) : ns.idxOf? n = none := by
  rcases mem_idx (ns := ns) (n := n) with ⟨j, hj⟩ | ⟨h1, _⟩
  · rw [List.idxOf?_eq_some_iff] at hj
    obtain ⟨h1, h2, _⟩ := hj
    exact absurd (by simpa using h2) (h j ns[j] (List.getElem?_eq_getElem h1))
  · exact h1
theorem idx_some_of {ns : List Int} {n : Int} {k : Nat} (hk : ns[k]? = some n) (h : ∀ (m : Nat) (z : Int), m < k → ns[m]? = some z → z ≠ n) : ns.idxOf? n = some k := by
  rw [List.idxOf?_eq_some_iff]
  obtain ⟨h1, h2⟩ := List.getElem?_eq_some_iff.mp hk
  refine ⟨h1, by simpa using h2, fun m hm => ?_⟩
  have := h m ns[m] hm (List.getElem?_eq_getElem _)
  simpa using this
theorem ok_l_unrolled (T : Txt K mg a) : FnOk P w K mg base CX0 2 a.l_unrolled.1 a.l_unrolled.2 ["_law_game_here", "_law_start", "_law_branches"] (spLUnrolled K) := by
  have G_l_targets := ok_l_targets (P := P) (w := w) (base := base) T
  have b_l_targets := bd_l_targets T.l_targets
  refine T.l_unrolled.F.ok sc_l_unrolled (fun vs H Q E h => ?_) (fun cdv A outer s H vs Q E hr h => ?_)
  · obtain ⟨_, _, _, _, _, rfl, _⟩ := h
    rfl
  · obtain ⟨l, b, x, g, bs, rfl, hG, hb, hlen, ho, q⟩ := h
    refine ⟨_, (pss_cons (ps_par3 (i := 3) (j := 4) (l := 5) rfl sc_l_unrolled.nd rfl rfl rfl (by decide) (by decide) (by decide) rfl rfl rfl (pa_cons (pe_lst pa_nil) (pa_cons (pv 1) (pa_cons (pe_lst pa_nil) pa_nil))) (by rfl))
      (pss_cons (ps_for PassesOwn.never rfl (pi_list (pv 2)) (pg_name (i := 6) sc_l_unrolled.nd rfl (Or.inl rfl))
      (pss_cons (ps_expr (pe_bm PySem.F.plainAttrs_list PySem.F.slot_list_append PySem.F.type_list_append mt_append (pv 3) (pa_cons (pe_tup (pa_cons (pv 4) (pa_cons (pv 6) pa_nil))) pa_nil)))
      (pss_cons (ps_set (i := 4) sc_l_unrolled.nd rfl (Or.inl rfl) (pe_ix ix_seq (pe_call G_l_targets (hr.mono (by decide)) (by rfl) T.l_targets.g T.l_targets.kp b_l_targets .nil pass0 (pa_cons (pe_ix ix_seq (pv 0) (pv 4) (fun _ _ => rfl)) pa_nil)) (pv 6) (fun _ _ => rfl)))
      (pss_one (ps_for PassesOwn.never rfl (pi_range1 (by rfl) T.z_range (pa_cons (pe_callB crLen (by rfl) T.z_len (by decide +kernel) (pa_cons (pv 3) pa_nil)) pa_nil)) (pg_name (i := 7) sc_l_unrolled.nd rfl (Or.inl rfl))
      (pss_one (ps_if (pt_cmpR op_eq (pe_ix ix_seq (pe_ix ix_seq (pv 3) (pv 7) (fun _ _ => rfl)) pe_int (fun _ _ => rfl)) (pv 4) (nomark _))
      (pss_cons (ps_expr (pe_bm PySem.F.plainAttrs_list PySem.F.slot_list_append PySem.F.type_list_append mt_append (pv 5) (pa_cons (pe_tup (pa_cons (pv 4) (pa_cons (pe_lc (own := [("_law_pair", 8)]) (g := gName 8) (tt := tYes) (te := tOp (rIx K) (tVar 8) (tC (.int 1))) rfl sc_l_unrolled.nd (pi_list (pe_slice sl_list (pv 3) (po_some (pv 7)) po_none)) (blkOk_by (N := N_l_unrolled) (sc := defScope s_l_unrolled) (by decide +kernel)) (fun _ _ _ _ _ => (pg_name (i := 8) sc_l_unrolled.nd rfl (Or.inl rfl))) (fun _ _ _ _ _ => pts_nil) (fun _ _ _ _ _ => by exact (pe_ix ix_seq (pv 8) pe_int (fun _ _ => rfl)))) pa_nil))) pa_nil)))
      (pss_cons (ps_set (i := 3) sc_l_unrolled.nd rfl (Or.inl rfl) (pe_slice sl_list (pv 3) po_none (po_some (pv 7))))
      (pss_one ps_break)))
      pss_nil)))))))
      (pss_one (ps_ret (pe_tup (pa_cons (pe_lc (own := [("_law_pair", 8)]) (g := gName 8) (tt := tYes) (te := tOp (rIx K) (tVar 8) (tC (.int 1))) rfl sc_l_unrolled.nd (pi_list (pv 3)) (blkOk_by (N := N_l_unrolled) (sc := defScope s_l_unrolled) (by decide +kernel)) (fun _ _ _ _ _ => (pg_name (i := 8) sc_l_unrolled.nd rfl (Or.inl rfl))) (fun _ _ _ _ _ => pts_nil) (fun _ _ _ _ _ => by exact (pe_ix ix_seq (pv 8) pe_int (fun _ _ => rfl)))) (pa_cons (pv 5) pa_nil))))))), ?_⟩
    have hUn : ∀ i, UnOk (TT g) (KK g) x (bs.take i) (unr (TT g) x (bs.take i)) := fun i => unr_ok hG.2.1.good hG.2.2 _ (ok_take i ho)
    refine ⟨Nat.zero_le _, fun pa0 hpa => ⟨.int x, rfl, Nat.zero_le _, fun ci hci => ⟨.ref pa0, .int x, .ref ci, rfl, ?_⟩⟩⟩
    have e1 : Ex H (upd H pa0 (.lst [])) := Ex.new hpa
    have e2 : Ex (upd H pa0 (.lst [])) (upd (upd H pa0 (.lst [])) ci (.lst [])) := Ex.new hci
    have hca : pa0 ≠ ci := ne_of_none upd_same hci
    have hci0 : H ci = none := fresh_back e1 hci
    refine q_forLn (ev_var rfl) (ex_l (e1.trans e2) hb)
      (fun i σ' H' => ∃ (pa : Addr) (ps rs : List V) (G : Hp) (s6 s7 s8 : Option V), σ' = [some (.ref l), some (.int x), some (.ref b), some (.ref pa), some (.int (unr (TT g) x (bs.take i)).e), some (.ref ci), s6, s7, s8] ∧ Ex H H' ∧ H pa = none ∧ pa ≠ ci ∧ H' pa = some (.lst ps) ∧ H' ci = some (.lst rs) ∧
        Ps H' ps (unr (TT g) x (bs.take i)).p ∧ Ex G H' ∧ (∀ b o, G b = some o → H b = none ∧ b ≠ pa ∧ b ≠ ci) ∧ CsG G rs (unr (TT g) x (bs.take i)).c)
      (fun H4 e4 => ?_) (fun i σ' H' _ p => ?_) (fun i v σ' H' hv p => ?_) (fun σ' H' p => ?_)
    · exact ⟨pa0, [], [], fun _ => none, none, none, none, rfl, (e1.trans e2).trans e4, hpa, hca, e4 _ _ (e2 _ _ upd_same), e4 _ _ upd_same, ⟨rfl, fun i c z => by simp [unr] at z⟩, fun _ _ z => (nomatch z), fun _ _ z => (nomatch z), CsG.nil⟩
    · obtain ⟨pa, ps, rs, G, s6, s7, s8, _, e, _⟩ := p
      exact ex_l e hb
    · obtain ⟨pa, ps, rs, G, s6, s7, s8, rfl, e, n1, n2, hPa, hCi, hps, eG, fG, cG⟩ := p
      obtain ⟨y, hy, rfl⟩ := ints_get hv
      have hU := hUn i
      generalize hS : unr (TT g) x (bs.take i) = S at hps cG hU
      have hS' : unr (TT g) x (bs.take (i + 1)) = ulay (TT g) S y := by rw [take_snoc hy, unr_snoc, hS]
      have hSe : S.e = en (TT g) x (bs.take i) := hU.e
      have hin : 0 ≤ y ∧ y < ((tg (TT g) S.e).length : Int) := by rw [hSe]; exact ok_next hy ho
      have hSl : S.p.length ≤ 1000 ∧ S.c.length ≤ 1000 := by
        have h0 := hU.len
        have h1 := sum_ge S.c (fun c hc => (hU.cs c hc).2.1)
        rw [List.length_take] at h0
        omega
      generalize hPP : S.p ++ [(S.e, y)] = PP
      have hPPl : PP.length ≤ 1001 := by rw [← hPP]; simp; omega
      -- path.append((end, branch))
      refine q_appU hPa (ev_var rfl) (eu_tup (ea_cons (ev_var rfl) (ea_cons (ev_var rfl) ea_nil)) (show 2 ≤ 100000 by decide)) (by rw [hps.1]; omega) fun u H5 hu e5 h5 => ?_
      generalize hps' : ps ++ [.ref u] = ps'
      have hps5 : Ps H5 ps' PP := by
        rw [← hps', ← hPP]
        exact (hps.ex e5).snoc h5
      generalize hH6 : upd H5 pa (.lst ps') = H6
      have hps6 : Ps H6 ps' PP := by rw [← hH6]; exact hps5.mut (e5 _ _ hPa)
      have hPa6 : H6 pa = some (.lst ps') := by rw [← hH6]; exact upd_same
      have f6 : ∀ {p : Addr} {o : HO}, p ≠ pa → H' p = some o → H6 p = some o := fun {p o} hne h => by rw [← hH6, upd_ne hne]; exact e5 _ _ h
      have hCi6 := f6 n2.symm hCi
      have eH6 : Ex H H6 := by rw [← hH6]; exact Ex.mut (e.trans e5) n1
      have gG6 : Ex G H6 := fun p o h => f6 (fG p o h).2.1 (eG p o h)
      have hps'l : ps'.length ≤ 1001 := by rw [hps6.1]; exact hPPl
      -- end = ..
      have hG6 : Gm K H6 l g S.e := by
        have := (hG.to (ok_take i ho)).on eH6
        rw [← hSe] at this
        exact this
      obtain ⟨xs, pp, s1, s2, s3⟩ := sp_ltargets hG6
      refine q_asg (ev_ixNL (el_call (ea_cons (ev_ixL (ev_var rfl) (ev_var rfl) s1 s2) ea_nil) s3) (fun H7 e7 => ev_var rfl) (get_stp hin)) fun H7 e7 => ?_
      generalize hyy : stp (TT g) S.e y = yy
      have lay_none : (PP.map (·.1)).idxOf? yy = none → unr (TT g) x (bs.take (i + 1)) = ⟨PP, yy, S.c⟩ := fun hk => by
        rw [hS']
        unfold ulay
        rw [hPP, hyy, hk]
      have lay_some : ∀ k, (PP.map (·.1)).idxOf? yy = some k → unr (TT g) x (bs.take (i + 1)) = ⟨PP.take k, yy, S.c ++ [(yy, (PP.drop k).map (·.2))]⟩ := fun k hk => by
        rw [hS']
        unfold ulay
        rw [hPP, hyy, hk]
      have hPa7 := e7 _ _ hPa6
      have hCi7 := e7 _ _ hCi6
      have hps7 := hps6.ex e7
      have gG7 : Ex G H7 := gG6.trans e7
      -- the search
      refine s_forR1 (n := (ps'.length : Int)) (ea_cons (ev_len (ev_var rfl) (sq_of hPa7)) ea_nil) ⟨by omega, by omega⟩
        (fun m σ' H' => ∃ s7 : Option V, σ' = [some (.ref l), some (.int x), some (.ref b), some (.ref pa), some (.int yy), some (.ref ci), some (.int y), s7, s8] ∧ Ex H7 H' ∧ ∀ (j : Nat) (c : Int × Int), j < m → PP[j]? = some c → c.1 ≠ yy)
        (fun H8 e8 => ⟨s7, rfl, e8, fun j c hj => by omega⟩) (fun m σ' H8 hm p => ?_) (fun σ' H8 p => ?_)
      · obtain ⟨s7, rfl, e8, hno⟩ := p
        have hm' : m < PP.length := by rw [← hps6.1]; omega
        obtain ⟨um, hm1, hm2⟩ := hps7.2 m PP[m] (List.getElem?_eq_getElem hm')
        have hixm : EvT (tTest (tOp rEq (tOp (rIx K) (tOp (rIx K) (tVar 3) (tVar 7)) (tC (.int 0))) (tVar 4))) [some (.ref l), some (.int x), some (.ref b), some (.ref pa), some (.int yy), some (.ref ci), some (.int y), some (.int (m : Int)), s8] H8 (decide (PP[m].1 = yy)) :=
          et_eqI (ev_ixT (ev_ixL (ev_var rfl) (ev_var rfl) (sq_of (e8 _ _ hPa7)) (atI_nat hm1)) ev_c (st_of (e8 _ _ hm2)) (atI_nat (j := 0) rfl)) (ev_var rfl) rfl
        refine s_when hixm (fun hd H9 e9 => ?_) (fun hd H9 e9 => ?_)
        · -- a circle
          have hd' : PP[m].1 = yy := of_decide_eq_true hd
          have hk : (PP.map (·.1)).idxOf? yy = some m := idx_some_of (by rw [List.getElem?_map, List.getElem?_eq_getElem hm', ← hd']; rfl) (fun j z hj hz => by
            rw [List.getElem?_map] at hz
            have hj' : j < PP.length := by omega
            rw [List.getElem?_eq_getElem hj'] at hz
            cases hz
            exact hno j PP[j] hj (List.getElem?_eq_getElem hj'))
          have hlay := lay_some m hk
          have e89 := e8.trans e9
          have hps9 := (hps7.ex e89).drop m
          have hcut : cutV ps' (some (m : Int)) none = ps'.drop m := cut_from m
          refine q_appTL (e89 _ _ hCi7) (ev_var rfl) (ev_var rfl) (el_snd (el_sl (ev_var rfl) (eo_some (ev_var rfl)) eo_none (sq_of (e89 _ _ hPa7))) (by rw [hcut]; exact hps9) (by rw [hcut, List.length_drop]; omega) (fun _ => rfl) (fun _ => rfl)) (by rw [cG.1]; omega) fun uu bb H10 huu hbb hub e10 hu10 hb10 => ?_
          generalize hH11 : upd H10 ci (.lst (rs ++ [.ref uu])) = H11
          have e810 := e89.trans e10
          have f11 : ∀ {p : Addr} {o : HO}, p ≠ ci → H10 p = some o → H11 p = some o := fun {p o} hne h => by rw [← hH11, upd_ne hne]; exact h
          have eH11 : Ex H H11 := by rw [← hH11]; exact Ex.mut ((eH6.trans e7).trans e810) hci0
          have huc : uu ≠ ci := fun z => by rw [z, e89 _ _ hCi7] at huu; cases huu
          have hbc : bb ≠ ci := fun z => by rw [z, e89 _ _ hCi7] at hbb; cases hbb
          have hCi11 : H11 ci = some (.lst (rs ++ [.ref uu])) := by rw [← hH11]; exact upd_same
          have hps11 : Ps H11 ps' PP := by rw [← hH11]; exact (hps7.ex e810).mut (e810 _ _ hCi7)
          refine q_asgL (el_sl (ev_var rfl) eo_none (eo_some (ev_var rfl)) (sq_of (f11 n2 (e810 _ _ hPa7)))) fun pa' H12 hpa' e12 h12 => ?_
          rw [cut_to] at h12
          have fr : ∀ {p : Addr} {o : HO}, H11 p = some o → p ≠ pa' := fun {p o} h => ne_of_none h hpa'
          have hu11 := f11 huc hu10
          have hb11 := f11 hbc hb10
          have gG11 : Ex G H11 := fun p o h => f11 (fG p o h).2.2 (e810 _ _ (gG7 p o h))
          show ∃ (pa : Addr) (ps rs : List V) (G : Hp) (s6 s7 s8 : Option V), _ = [some (V.ref l), some (V.int x), some (V.ref b), some (V.ref pa), some (V.int (unr (TT g) x (bs.take (i + 1))).e), some (V.ref ci), s6, s7, s8] ∧ _
          refine ⟨pa', ps'.take m, rs ++ [.ref uu], fun p => if p = uu then some (.tup [.int yy, .ref bb]) else if p = bb then some (.lst (((PP.drop m).map (·.2)).map V.int)) else G p, some (.int y), some (.int (m : Int)), s8, ?_, eH11.trans e12, fresh_back eH11 hpa', (fr hCi11).symm, h12, e12 _ _ hCi11, ?_, ?_, ?_, ?_⟩
          · rw [hlay]
            rfl
          · rw [hlay]
            exact (hps11.ex e12).take m
          · intro p o hp
            by_cases h1 : p = uu
            · subst h1
              simp at hp
              rw [← hp]
              exact e12 _ _ hu11
            · by_cases h2 : p = bb
              · subst h2
                simp [h1] at hp
                rw [← hp]
                have := e12 _ _ hb11
                simpa using this
              · simp [h1, h2] at hp
                exact e12 _ _ (gG11 p o hp)
          · intro p o hp
            by_cases h1 : p = uu
            · rw [h1]
              exact ⟨fresh_back ((eH6.trans e7).trans e89) huu, fr hu11, huc⟩
            · by_cases h2 : p = bb
              · rw [h2]
                exact ⟨fresh_back ((eH6.trans e7).trans e89) hbb, fr hb11, hbc⟩
              · simp [h1, h2] at hp
                have := fG p o hp
                exact ⟨this.1, fr (gG11 p o hp), this.2.2⟩
          · rw [hlay]
            refine (cG.on (fun p o hp => ?_)).snoc (if_pos rfl) (by show (if bb = uu then _ else _) = _; rw [if_neg hub.symm, if_pos rfl])
            have h1 : p ≠ uu := fun z' => by rw [z'] at hp; have := e89 _ _ (gG7 _ _ hp); rw [huu] at this; cases this
            have h2 : p ≠ bb := fun z' => by rw [z'] at hp; have := e89 _ _ (gG7 _ _ hp); rw [hbb] at this; cases this
            simp [h1, h2]
            exact hp
        · refine ⟨_, rfl, e8.trans e9, fun j c hj hc => ?_⟩
          rcases Nat.lt_or_ge j m with z | z
          · exact hno j c z hc
          · have : j = m := by omega
            subst this
            rw [List.getElem?_eq_getElem hm'] at hc
            cases hc
            exact of_decide_eq_false hd
      · obtain ⟨s7, rfl, e8, hno⟩ := p
        have hk : (PP.map (·.1)).idxOf? yy = none := idx_none_of fun j z hz => by
          rw [List.getElem?_map] at hz
          cases hc : PP[j]? with
          | none => rw [hc] at hz; cases hz
          | some c =>
            rw [hc] at hz
            cases hz
            have hj := (List.getElem?_eq_some_iff.mp hc).1
            refine hno j c ?_ hc
            rw [← hps6.1] at hj
            omega
        have hlay := lay_none hk
        show ∃ (pa : Addr) (ps rs : List V) (G : Hp) (s6 s7 s8 : Option V), _ = [some (V.ref l), some (V.int x), some (V.ref b), some (V.ref pa), some (V.int (unr (TT g) x (bs.take (i + 1))).e), some (V.ref ci), s6, s7, s8] ∧ _
        refine ⟨pa, ps', rs, G, some (.int y), s7, s8, ?_, (eH6.trans e7).trans e8, n1, n2, e8 _ _ hPa7, e8 _ _ hCi7, ?_, gG7.trans e8, fG, ?_⟩
        · rw [hlay]
        · rw [hlay]
          exact hps7.ex e8
        · rw [hlay]
          exact cG
    · obtain ⟨pa, ps, rs, G, s6, s7, s8, rfl, e, n1, n2, hPa, hCi, hps, eG, fG, cG⟩ := p
      have el : bs.take (bs.map V.int).length = bs := by rw [List.length_map, List.take_length]
      rw [el] at hps cG
      have hpl : ps.length ≤ 1000 := by
        have h0 := (hUn bs.length).len
        rw [List.take_length] at h0
        rw [hps.1]
        omega
      refine s_retTL (el_snd_var (ev_var rfl) (sq_of hPa) hps (by omega) (fun _ => rfl) (fun _ => rfl)) (fun H5 e5 => ev_var rfl) fun p t H5 hp ht e5 h5 h6 => ?_
      refine q t p ci rs H5 ⟨e.trans e5, fresh_back e ht, fresh_back e hp, hci0, (fun z => by rw [z, hCi] at hp; cases hp), h6, h5, e5 _ _ hCi, G, eG.trans e5, fun b o h => ⟨(fG b o h).1, fun z => ?_, (fG b o h).2.2⟩, cG⟩
      rw [z] at h
      rw [eG _ _ h] at hp
      cases hp
end
end Mh

set_option Elab.async false
set_option linter.all false
set_option maxRecDepth 100000
set_option maxHeartbeats 1000000
namespace Mh
open PySem PySem.Spec PyProof.Rows L2 Evl
section
variable {P : Program} {w : World} {K : PySem.W.Frag} {mg : Str → Option Value} {base : Heap} {a : Ad} {g : List Pl} {H H' : Hp} {σ : L2.St} {D : Ends} {tz : TS} {ta te tl tv : TE}
def spLPlaces (K : PySem.W.Frag) : Sp := fun vs H Q E => ∃ (l b : Addr) (x : Int) (g : List Pl) (bs : List Int), vs = [.ref l, .int x, .ref b] ∧ Gm K H l g x ∧ SqL K H b (bs.map V.int) ∧ bs.length ≤ 1000 ∧ ok (TT g) x bs ∧ RetL ((wk (TT g) x bs).map V.int) H Q
theorem ok_l_places (T : Txt K mg a) : FnOk P w K mg base CX0 2 a.l_places.1 a.l_places.2 ["_law_game_here", "_law_start", "_law_branches"] (spLPlaces K) := by
  have G_l_targets := ok_l_targets (P := P) (w := w) (base := base) T
  have b_l_targets := bd_l_targets T.l_targets
  refine T.l_places.F.ok sc_l_places (fun vs H Q E h => ?_) (fun cdv A outer s H vs Q E hr h => ?_)
  · obtain ⟨_, _, _, _, _, rfl, _⟩ := h
    rfl
  · obtain ⟨l, b, x, g, bs, rfl, hG, hb, hlen, ho, q⟩ := h
    refine ⟨_, (pss_cons (ps_set (i := 3) sc_l_places.nd rfl (Or.inl rfl) (pe_lst (pa_cons (pv 1) pa_nil)))
      (pss_cons (ps_for PassesOwn.never rfl (pi_list (pv 2)) (pg_name (i := 4) sc_l_places.nd rfl (Or.inl rfl))
      (pss_one (ps_expr (pe_bm PySem.F.plainAttrs_list PySem.F.slot_list_append PySem.F.type_list_append mt_append (pv 3) (pa_cons (pe_ix ix_seq (pe_call G_l_targets (hr.mono (by decide)) (by rfl) T.l_targets.g T.l_targets.kp b_l_targets .nil pass0 (pa_cons (pe_ix ix_seq (pv 0) (pe_ix ix_seq (pv 3) (pe_un un_neg pe_int) (fun _ _ => rfl)) (fun _ _ => rfl)) pa_nil)) (pv 4) (fun _ _ => rfl)) pa_nil)))))
      (pss_one (ps_ret (pv 3))))), ?_⟩
    refine q_asgL (el_lst (ea_cons (ev_var rfl) ea_nil) (show 1 ≤ 100000 by decide)) fun pl H1 hpl e1 h1 => ?_
    refine q_forLn (ev_var rfl) (ex_l e1 hb) (fun i σ' H' => ∃ s4, σ' = [some (.ref l), some (.int x), some (.ref b), some (.ref pl), s4] ∧ Ex H H' ∧ H' pl = some (.lst ((wk (TT g) x (bs.take i)).map V.int)))
      (fun H2 e2 => ⟨none, rfl, e1.trans e2, e2 _ _ h1⟩) (fun i σ' H' _ p => ?_) (fun i v σ' H' hv p => ?_) (fun σ' H' p => ?_)
    · obtain ⟨_, _, e, _⟩ := p
      exact ex_l e hb
    · obtain ⟨s4, rfl, e, hP⟩ := p
      obtain ⟨y, hy, rfl⟩ := ints_get hv
      have hi := (List.getElem?_eq_some_iff.mp hy).1
      have hin := ok_next hy ho
      obtain ⟨xs, pp, s1, s2, s3⟩ := sp_ltargets ((hG.to (ok_take i ho)).on e)
      refine s_app hP (ev_var rfl) (ev_ixNL (el_call (ea_cons (ev_ixL (ev_var rfl) (ev_ixL (ev_var rfl) (ev_neg ev_c) (sq_of hP) (last_map _ _ _)) s1 s2) ea_nil) s3) (fun H7 e7 => ev_var rfl) (get_stp hin)) ?_ fun H5 e5 => ?_
      · rw [List.length_map, wk_len, List.length_take]
        omega
      · refine ⟨_, rfl, Ex.mut (e.trans e5) hpl, ?_⟩
        rw [upd_same, take_snoc hy, wk_snoc, List.map_append]
        rfl
    · obtain ⟨s4, rfl, e, hP⟩ := p
      rw [List.length_map, List.take_length] at hP
      exact s_ret (ev_var rfl) fun H5 e5 => q pl H5 hpl (e.trans e5) (e5 _ _ hP)
/-- a way as long as the draws -/
def spLWay (K : PySem.W.Frag) : Sp := fun vs H Q E => ∃ (l b : Addr) (x : Int) (g : List Pl) (ds : List Int), vs = [.ref l, .int x, .ref b] ∧ Gm K H l g x ∧ SqL K H b (ds.map V.int) ∧ ds.length ≤ 1000 ∧
  ∀ bs : List Int, bs.length = ds.length → ok (TT g) x bs → RetL (bs.map V.int) H Q
theorem ok_l_way (T : Txt K mg a) : FnOk P w K mg base CX0 2 a.l_way.1 a.l_way.2 ["_law_game_here", "_law_start", "_law_draws_here"] (spLWay K) := by
  have G_l_targets := ok_l_targets (P := P) (w := w) (base := base) T
  have b_l_targets := bd_l_targets T.l_targets
  refine T.l_way.F.ok sc_l_way (fun vs H Q E h => ?_) (fun cdv A outer s H vs Q E hr h => ?_)
  · obtain ⟨_, _, _, _, _, rfl, _⟩ := h
    rfl
  · obtain ⟨l, b, x, g, ds, rfl, hG, hb, hlen, q⟩ := h
    refine ⟨_, (pss_cons (ps_par (i := 3) (j := 4) rfl sc_l_way.nd rfl rfl (by decide) rfl rfl (pa_cons (pe_lst pa_nil) (pa_cons (pv 1) pa_nil)) (by rfl))
      (pss_cons (ps_for PassesOwn.never rfl (pi_list (pv 2)) (pg_name (i := 5) sc_l_way.nd rfl (Or.inl rfl))
      (pss_cons (ps_set (i := 6) sc_l_way.nd rfl (Or.inl rfl) (pe_call G_l_targets (hr.mono (by decide)) (by rfl) T.l_targets.g T.l_targets.kp b_l_targets .nil pass0 (pa_cons (pe_ix ix_seq (pv 0) (pv 4) (fun _ _ => rfl)) pa_nil)))
      (pss_cons (ps_expr (pe_bm PySem.F.plainAttrs_list PySem.F.slot_list_append PySem.F.type_list_append mt_append (pv 3) (pa_cons (pe_op op_mod (pe_callTy call_int1 (by rfl) T.z_int (by decide +kernel) (pa_cons (pv 5) pa_nil)) (pe_callB crLen (by rfl) T.z_len (by decide +kernel) (pa_cons (pv 6) pa_nil))) pa_nil)))
      (pss_one (ps_set (i := 4) sc_l_way.nd rfl (Or.inl rfl) (pe_ix ix_seq (pv 6) (pe_ix ix_seq (pv 3) (pe_un un_neg pe_int) (fun _ _ => rfl)) (fun _ _ => rfl)))))))
      (pss_one (ps_ret (pv 3))))), ?_⟩
    refine ⟨Nat.zero_le _, fun pl hpl => ⟨.int x, rfl, .ref pl, .int x, rfl, ?_⟩⟩
    have e1 : Ex H (upd H pl (.lst [])) := Ex.new hpl
    refine q_forLn (ev_var rfl) (ex_l e1 hb) (fun i σ' H' => ∃ (bs : List Int) (s5 s6 : Option V), σ' = [some (.ref l), some (.int x), some (.ref b), some (.ref pl), some (.int (en (TT g) x bs)), s5, s6] ∧ Ex H H' ∧ H' pl = some (.lst (bs.map V.int)) ∧ bs.length = i ∧ ok (TT g) x bs)
      (fun H2 e2 => ⟨[], none, none, rfl, e1.trans e2, e2 _ _ upd_same, rfl, trivial⟩) (fun i σ' H' _ p => ?_) (fun i v σ' H' hv p => ?_) (fun σ' H' p => ?_)
    · obtain ⟨_, _, _, _, e, _⟩ := p
      exact ex_l e hb
    · obtain ⟨bs, s5, s6, rfl, e, hP, hbl, ho⟩ := p
      obtain ⟨y, hy, rfl⟩ := ints_get hv
      have hi := (List.getElem?_eq_some_iff.mp hy).1
      have hG1 := (hG.to ho).on e
      obtain ⟨xs, pp, s1, s2, s3⟩ := sp_ltargets hG1
      have hpos := (tg_in hG.2.1.good hG1.2.2).1
      refine q_asgL (el_call (ea_cons (ev_ixL (ev_var rfl) (ev_var rfl) s1 s2) ea_nil) s3) fun fo H3 hfo e3 h3 => ?_
      have hm1 := Int.emod_nonneg y (show ((tg (TT g) (en (TT g) x bs)).length : Int) ≠ 0 by omega)
      have hm2 := Int.emod_lt_of_pos y (show 0 < ((tg (TT g) (en (TT g) x bs)).length : Int) by omega)
      have hlm : (((tg (TT g) (en (TT g) x bs)).map V.int).length : Int) = ((tg (TT g) (en (TT g) x bs)).length : Int) := by rw [List.length_map]
      refine q_app (e3 _ _ hP) (ev_var rfl) (ev_mod (ev_int (ev_var rfl)) (ev_is (ev_len (ev_var rfl) (sq_of h3)) (by rw [hlm])) (by omega)) (by rw [List.length_map]; omega) fun H4 e4 => ?_
      generalize hz : y % ((tg (TT g) (en (TT g) x bs)).length : Int) = z at hm1 hm2
      have hP5 : (upd H4 pl (.lst (bs.map V.int ++ [V.int z]))) pl = some (.lst ((bs ++ [z]).map V.int)) := by rw [upd_same, List.map_append]; rfl
      have hfo5 : (upd H4 pl (.lst (bs.map V.int ++ [V.int z]))) fo = some (.lst ((tg (TT g) (en (TT g) x bs)).map V.int)) := by
        rw [upd_ne (show fo ≠ pl from fun q => by rw [q, hP] at hfo; cases hfo)]
        exact e4 _ _ h3
      have hlast : atI ((bs ++ [z]).map V.int) (-1) = some (.int z) := by
        rw [List.map_append]
        exact atI_last _ _
      refine s_asg (ev_ixL (ev_var rfl) (ev_ixL (ev_var rfl) (ev_neg ev_c) (sq_of hP5) hlast) (sq_of hfo5) (get_stp ⟨hm1, hm2⟩)) fun H6 e6 => ?_
      refine ⟨bs ++ [z], some (.int y), some (.ref fo), ?_, (Ex.mut ((e.trans e3).trans e4) hpl).trans e6, e6 _ _ hP5, by simp [hbl], ?_⟩
      · rw [en_snoc]
        rfl
      · rw [ok_app]
        exact ⟨ho, ⟨hm1, hm2⟩, trivial⟩
    · obtain ⟨bs, s5, s6, rfl, e, hP, hbl, ho⟩ := p
      exact s_ret (ev_var rfl) fun H5 e5 => q bs (by rw [hbl, List.length_map]) ho pl H5 hpl (e.trans e5) (e5 _ _ hP)
/-- what unrolled raises, taken by the law -/
def spLRefused (K : PySem.W.Frag) : Sp := fun vs H Q E => ∃ (l b : Addr) (x : Int) (g : List Pl) (b1 b2 : List Int) (c : Int), vs = [.ref l, .int x, .ref b] ∧ Gm K H l g x ∧ SqL K H b ((b1 ++ c :: b2).map V.int) ∧ (b1 ++ c :: b2).length ≤ 1000 ∧ ok (TT g) x b1 ∧
  ¬ (0 ≤ c ∧ c < ((tg (TT g) (en (TT g) x b1)).length : Int)) ∧ RetV (.int b1.length) H Q
theorem ok_l_refused (T : Txt K mg a) (N : NbTxt P K mg a.C a.fI) : FnOk P w K mg base CX0 7 a.l_refused.1 a.l_refused.2 ["_law_game_here", "_law_start", "_law_branches"] (spLRefused K) := by
  have G_unrolled := ok_unrolled (P := P) (w := w) (base := base) T N
  have b_unrolled := bd_unrolled T.unrolled
  refine T.l_refused.F.ok sc_l_refused (fun vs H Q E h => ?_) (fun cdv A outer s H vs Q E hr h => ?_)
  · obtain ⟨_, _, _, _, _, _, _, rfl, _⟩ := h
    rfl
  · obtain ⟨l, b, x, g, b1, b2, c, rfl, hG, hb, hlen, ho, hno, q⟩ := h
    have hr1 : Room 6 (A.deeper (envOfC "_law_refused" (defScope s_l_refused) s.heap.objs.size a.l_refused.1 cdv)) := hr.mono (by decide)
    refine ⟨_, (pss_cons (ps_try_as (i := 3) (tb := fun W => tDrop (tCallS (spUnrolled K a.C) (WE W) (tCons (tVar 0) (tCons (tVar 1) (tCons (tVar 2) tNil))))) (ts := fun aa cls d => tRet (tByNb a.C aa cls d (tVar 3))) (Wout := fun _ _ _ _ => False) rfl rfl sc_l_refused.nd rfl rfl ⟨rfl, by decide, Or.inl N.gC⟩ takes0
        (fun W pn xe tk _ => pss_one (ps_expr (by exact (pe_callS G_unrolled hr1 rfl T.unrolled.g T.unrolled.kp b_unrolled (fun σ => passAt tk σ) (by exact (pa_cons (pv 0) (pa_cons (pv 1) (pa_cons (pv 2) pa_nil))))))))
        (fun aa oe cls d pn hz hf => pss_one (ps_ret (by exact (pe_byNb N hz hf (pv 3))))))
      (pss_one (ps_ret pe_non))), ?_⟩
    refine ⟨_, rfl, _, rfl, _, rfl, ?_⟩
    refine ⟨l, b, x, g, b1 ++ c :: b2, rfl, hG, hb, hlen, .inr ⟨b1, b2, c, rfl, ho, hno, fun d H' e hd => ?_⟩⟩
    refine ⟨true, N.te, fun _ a0 _ => ?_, fun q => Bool.noConfusion q⟩
    exact ⟨_, rfl, rfl, rfl, d, _, rfl, hd, q H' e⟩
end
end Mh

set_option Elab.async false
set_option linter.all false
set_option maxRecDepth 100000
set_option maxHeartbeats 1000000
namespace Mh
open PySem PySem.Spec PyProof.Rows L2 Evl
section
variable {P : Program} {w : World} {K : PySem.W.Frag} {mg : Str → Option Value} {base : Heap} {a : Ad} {g : List Pl} {H H' H0 : Hp} {σ : L2.St} {D : Ends} {tz : TS} {ta tb te tl tv : TE}
/-- draws -/
def Dr (ds : List Int) : Prop := ∀ x ∈ ds, 0 ≤ x ∧ x < 1000
def spLDraws (K : PySem.W.Frag) : Sp := fun vs H Q E => ∃ (s : Addr) (n : Int) (ns : List Int), vs = [.ref s, .int n] ∧ SqL K H s (ns.map V.int) ∧ ns.length ≤ 1000 ∧ (0 ≤ n ∧ n ≤ 1000) ∧ ∀ ds : List Int, (ds.length : Int) = n → Dr ds → RetL (ds.map V.int) H Q
theorem int_get {ns : List Int} {j : Nat} (h : j < ns.length) : atI (ns.map V.int) (j : Int) = some (.int (ns.getD j 0)) := by
  refine atI_nat ?_
  rw [List.getElem?_map, List.getElem?_eq_getElem h, List.getD_eq_getElem?_getD, List.getElem?_eq_getElem h]
  rfl
theorem small_mul (i : Int) {j : Int} (h : -(2 ^ 64) < j ∧ j < 2 ^ 64) : CMul i j := .inr h
theorem mod_in (x : Int) {m : Int} (h : 0 < m) : 0 ≤ x % m ∧ x % m < m := ⟨Int.emod_nonneg x (by omega), Int.emod_lt_of_pos x h⟩
theorem ok_l_draws (T : Txt K mg a) : FnOk P w K mg base CX0 1 a.l_draws.1 a.l_draws.2 ["_law_script", "_law_count"] (spLDraws K) := by
  refine T.l_draws.F.ok sc_l_draws (fun vs H Q E h => ?_) (fun cdv A outer s H vs Q E hr h => ?_)
  · obtain ⟨_, _, _, rfl, _⟩ := h
    rfl
  · obtain ⟨sc, n, ns, rfl, hs, hlen, hn, q⟩ := h
    refine ⟨_, (pss_cons (ps_setLc (i := 3) (own := [("_law_cell", 2)]) (g := gName 2) (tt := tYes) rfl sc_l_draws.nd rfl rfl (sw_true rfl rfl rfl (by decide +kernel)) (pi_list (pv 0)) (blkOk_by (N := N_l_draws) (sc := defScope s_l_draws) (by decide +kernel)) (fun _ _ _ _ _ => (pg_name (i := 2) sc_l_draws.nd rfl (Or.inl rfl))) (fun _ _ _ _ _ => pts_nil) (fun _ _ _ _ _ => (pv 2)))
      (pss_cons (ps_set (i := 4) sc_l_draws.nd rfl (Or.inl rfl) (pe_lst pa_nil))
      (pss_cons (ps_for PassesOwn.never rfl (pi_range1 (by rfl) T.z_range (pa_cons (pv 1) pa_nil)) (pg_name (i := 5) sc_l_draws.nd rfl (Or.inl rfl))
      (pss_cons (ps_set (i := 6) sc_l_draws.nd rfl (Or.inl rfl) pe_int)
      (pss_cut (ps_if (pt_cmpR op_gt (pe_callB crLen (by rfl) T.z_len (by decide +kernel) (pa_cons (pv 3) pa_nil)) pe_int (nomark _))
      (pss_cons (ps_set (i := 7) sc_l_draws.nd rfl (Or.inl rfl) (pe_op op_mod (pe_callTy call_int1 (by rfl) T.z_int (by decide +kernel) (pa_cons (pv 5) pa_nil)) (pe_callB crLen (by rfl) T.z_len (by decide +kernel) (pa_cons (pv 3) pa_nil))))
      (pss_one (ps_if (pt_cmpR op_ge (pe_ix ix_seq (pv 3) (pv 7) (fun _ _ => rfl)) (pe_op op_pow pe_int pe_int) (nomark _))
      (pss_cons (ps_set (i := 6) sc_l_draws.nd rfl (Or.inl rfl) (pe_op op_mod (pe_callTy call_int1 (by rfl) T.z_int (by decide +kernel) (pa_cons (pe_ix ix_seq (pv 3) (pv 7) (fun _ _ => rfl)) pa_nil)) pe_int))
      (pss_one (ps_asg (pe_op op_fdiv (pe_ix ix_seq (pv 3) (pv 7) (fun _ _ => rfl)) pe_int) (pg_sub (pv 3) (pv 7) set_list))))
      (pss_cons (ps_set (i := 8) sc_l_draws.nd rfl (Or.inl rfl) (pe_op op_mod (pe_callTy call_int1 (by rfl) T.z_int (by decide +kernel) (pa_cons (pe_op op_add (pe_op op_add (pe_op op_mul (pe_ix ix_seq (pv 3) (pv 7) (fun _ _ => rfl)) pe_int) (pe_op op_mul (pv 5) pe_int)) pe_int) pa_nil)) pe_int))
      (pss_cons (ps_set (i := 8) sc_l_draws.nd rfl (Or.inl rfl) (pe_op op_mod (pe_callTy call_int1 (by rfl) T.z_int (by decide +kernel) (pa_cons (pe_op op_add (pe_op op_mul (pv 8) pe_int) (pv 7)) pa_nil)) pe_int))
      (pss_one (ps_set (i := 6) sc_l_draws.nd rfl (Or.inl rfl) (pe_op op_mod (pe_callTy call_int1 (by rfl) T.z_int (by decide +kernel) (pa_cons (pe_op op_fdiv (pv 8) pe_int) pa_nil)) pe_int))))))))
      pss_nil)
      (pss_one (ps_expr (pe_bm PySem.F.plainAttrs_list PySem.F.slot_list_append PySem.F.type_list_append mt_append (pv 4) (pa_cons (pv 6) pa_nil)))))))
      (pss_one (ps_ret (pv 4)))))), ?_⟩
    have cp := el_lcL (K := K) (σ := start N_l_draws [.ref sc, .int n]) (H := H) (t := tYes) (te := tVar 2) (j := 2) (vs := [2]) (fun _ => true) (fun i => V.int (ns.getD i 0)) (ev_var (i := 0) rfl) hs (by rw [List.length_map]; omega) (fun _ => rfl) (fun i v H1 _ _ H2 _ Q2 q2 => q2 H2 (Ex.refl H2))
      (fun i v H1 e1 hv _ => by
        obtain ⟨y, hy, rfl⟩ := ints_get hv
        have e : ns.getD i 0 = y := by rw [List.getD_eq_getElem?_getD, hy]; rfl
        rw [e]
        exact ev_var rfl)
    rw [given_all, List.length_map, map_range_get] at cp
    refine q_asgL cp fun rl H1 hrl e1 h1 => ?_
    refine q_asgL (el_lst ea_nil (show 0 ≤ 100000 by decide)) fun dl H2 hdl e2 h2 => ?_
    have hrd : rl ≠ dl := ne_of_none h1 hdl
    have hdl0 : H dl = none := fresh_back e1 hdl
    refine q_forR1 (ea_cons (ev_var rfl) ea_nil) ⟨hn.1, by omega⟩
      (fun i σ' H' => ∃ (rs ds : List Int) (s5 s6 s7 s8 : Option V), σ' = [some (.ref sc), some (.int n), none, some (.ref rl), some (.ref dl), s5, s6, s7, s8] ∧ Ex H H' ∧ rs.length = ns.length ∧ H' rl = some (.lst (rs.map V.int)) ∧ H' dl = some (.lst (ds.map V.int)) ∧ ds.length = i ∧ Dr ds)
      (fun H3 e3 => ⟨ns, [], none, none, none, none, rfl, (e1.trans e2).trans e3, rfl, e3 _ _ (e2 _ _ h1), e3 _ _ h2, rfl, fun x hx => by cases hx⟩) (fun i σ' H' hi p => ?_) (fun σ' H' p => ?_)
    · obtain ⟨rs, ds, s5, s6, s7, s8, rfl, e, hrs, hR, hD, hdsl, hDr⟩ := p
      refine q_asg ev_c fun H3 e3 => ?_
      have hR3 := e3 _ _ hR
      have hD3 := e3 _ _ hD
      refine q_cut (M := fun σ' H' => ∃ (rs : List Int) (v : Int) (s7 s8 : Option V), σ' = [some (.ref sc), some (.int n), none, some (.ref rl), some (.ref dl), some (.int (i : Int)), some (.int v), s7, s8] ∧ Ex H H' ∧ rs.length = ns.length ∧ H' rl = some (.lst (rs.map V.int)) ∧ H' dl = some (.lst (ds.map V.int)) ∧ 0 ≤ v ∧ v < 1000) ?_ (fun σ' H' p => ?_)
      · have hl3 : (((rs.map V.int).length : Nat) : Int) = ((rs.length : Nat) : Int) := by rw [List.length_map]
        refine s_when (et_gt (ev_is (ev_len (ev_var rfl) (sq_of hR3)) (by rw [hl3])) ev_c) (fun hb H4 e4 => ?_) (fun hb H4 e4 => ?_)
        · have hpos : 0 < rs.length := by have := of_decide_eq_true hb; omega
          have hR4 := e4 _ _ hR3
          have hD4 := e4 _ _ hD3
          refine q_asg (ev_mod (ev_int (ev_var rfl)) (ev_is (ev_len (ev_var rfl) (sq_of hR4)) (by rw [hl3])) (by omega)) fun H5 e5 => ?_
          have hat : ((i : Int) % (rs.length : Int)) = ((i % rs.length : Nat) : Int) := by omega
          rw [hat]
          have hlt : i % rs.length < rs.length := Nat.mod_lt _ hpos
          generalize hj : i % rs.length = j at hlt
          have hR5 := e5 _ _ hR4
          have hD5 := e5 _ _ hD4
          have eH5 := ((e.trans e3).trans e4).trans e5
          refine s_if (et_ge (ev_ixL (ev_var rfl) (ev_var rfl) (sq_of hR5) (int_get hlt)) (ev_op ev_c ev_c (rv_I (C := CPow) ⟨by decide, by decide, by decide⟩))) (fun hb H6 e6 => ?_) (fun hb H6 e6 => ?_)
          · have hR6 := e6 _ _ hR5
            refine q_asg (ev_mod (ev_int (ev_ixL (ev_var rfl) (ev_var rfl) (sq_of hR6) (int_get hlt))) ev_c (by decide)) fun H7 e7 => ?_
            have hR7 := e7 _ _ hR6
            refine s_setL hR7 (ev_div (ev_ixL (ev_var rfl) (ev_var rfl) (sq_of hR7) (int_get hlt)) ev_c (by decide)) (ev_var rfl) (ev_var rfl) (by rw [List.length_map]; exact hlt) fun H8 e8 => ?_
            have e58 := (e6.trans e7).trans e8
            refine ⟨rs.set j (rs.getD j 0 / 1000), _, _, _, rfl, Ex.mut (eH5.trans e58) hrl, by rw [List.length_set]; exact hrs, ?_, ?_, (mod_in _ (by decide)).1, (mod_in _ (by decide)).2⟩
            · rw [upd_same, List.map_set]
            · rw [upd_ne hrd.symm]
              exact e58 _ _ hD5
          · have hR6 := e6 _ _ hR5
            refine q_asg (ev_mod (ev_int (ev_add (ev_add (ev_mul (ev_ixL (ev_var rfl) (ev_var rfl) (sq_of hR6) (int_get hlt)) ev_c (small_mul _ (by decide))) (ev_mul (ev_var rfl) ev_c (small_mul _ (by decide)))) ev_c)) ev_c (by decide)) fun H7 e7 => ?_
            refine q_asg (ev_mod (ev_int (ev_add (ev_mul (ev_var rfl) ev_c (small_mul _ (by decide))) (ev_var rfl))) ev_c (by decide)) fun H8 e8 => ?_
            refine s_asg (ev_mod (ev_int (ev_div (ev_var rfl) ev_c (by decide))) ev_c (by decide)) fun H9 e9 => ?_
            have e59 := ((e6.trans e7).trans e8).trans e9
            exact ⟨rs, _, _, _, rfl, eH5.trans e59, hrs, e59 _ _ hR5, e59 _ _ hD5, (mod_in _ (by decide)).1, (mod_in _ (by decide)).2⟩
        · exact ⟨rs, 0, _, _, rfl, (e.trans e3).trans e4, hrs, e4 _ _ hR3, e4 _ _ hD3, by decide, by decide⟩
      · obtain ⟨rs', v, s7, s8, rfl, e', hrs', hR', hD', hv0, hv1⟩ := p
        refine s_app hD' (ev_var rfl) (ev_var rfl) (by rw [List.length_map]; omega) fun H5 e5 => ?_
        refine ⟨rs', ds ++ [v], _, _, _, _, rfl, Ex.mut (e'.trans e5) hdl0, hrs', ?_, ?_, by simp [hdsl], fun x hx => ?_⟩
        · rw [upd_ne hrd]
          exact e5 _ _ hR'
        · rw [upd_same, List.map_append]
          rfl
        · rcases List.mem_append.mp hx with hx | hx
          · exact hDr x hx
          · simp at hx
            subst hx
            exact ⟨hv0, hv1⟩
    · obtain ⟨rs, ds, s5, s6, s7, s8, rfl, e, hrs, hR, hD, hdsl, hDr⟩ := p
      exact s_ret (ev_var rfl) fun H5 e5 => q ds (by omega) hDr dl H5 hdl0 (e.trans e5) (e5 _ _ hD)
end
end Mh

set_option Elab.async false
set_option linter.all false
set_option maxRecDepth 100000
set_option maxHeartbeats 1000000
namespace Mh
open PySem PySem.Spec PyProof.Rows L2 Evl
section
variable {P : Program} {w : World} {K : PySem.W.Frag} {mg : Str → Option Value} {base : Heap} {a : Ad} {g : List Pl} {H H' H0 : Hp} {σ : L2.St} {D : Ends} {tz : TS} {ta tb te tl tv : TE}
abbrev cInt (te : TE) : TE := tCB (fun xs H Q => (∃ i, xs = [V.int i] ∧ Q (V.int i) H) ∨ ∃ k, xs = [V.bl k] ∧ Q (V.int (if k then 1 else 0)) H) (tCons te tNil)
abbrev oMod (ta tb : TE) : TE := tOp (rI (fun _ j => 0 < j) fun i j => .int (i % j)) ta tb
abbrev oAdd (ta tb : TE) : TE := tOp (rI0 fun i j => .int (i + j)) ta tb
abbrev iC (i : Int) : TE := tC (.int i)
theorem s_retD {P : PyData → Prop} (h : EvD K H0 te σ H P) (k : ∀ v d H1, Ex H H1 → P d → Fd K d H0 v H1 → D.rt v H1) : tRet te D σ H := h H (Ex.refl H) _ fun v d H1 e p f => k v d H1 e p f
/-- a place that may stand in a game of so many -/
def PlGood (many : Int) (p : Pl) : Prop := p.br.Ok ∧ Sml (nk p.k) ∧ (0 < p.br.tgs.length ∧ p.br.tgs.length ≤ 6) ∧ ∀ t ∈ p.br.tgs, 0 ≤ t ∧ t < many
def spLPlace (K : PySem.W.Frag) : Sp := fun vs H Q E => ∃ (d : Addr) (many : Int) (ds : List Int), vs = [.ref d, .int many] ∧ SqL K H d (ds.map V.int) ∧ 15 ≤ ds.length ∧ Dr ds ∧ (1 ≤ many ∧ many ≤ 12) ∧
  ∀ v pl H', Ex H H' → PlGood many pl → Fd K (plD pl) H v H' → Q v H'
/-- a gain -/
theorem gain_of {n d : Int} (hn : n.natAbs ≤ 1000) (hd : 0 < d ∧ d ≤ 7) : ∃ k, numb n d = nk k ∧ Sml (nk k) := by
  have hdv : d ∣ 420 := by
    obtain ⟨h1, h2⟩ := hd
    have : d = 1 ∨ d = 2 ∨ d = 3 ∨ d = 4 ∨ d = 5 ∨ d = 6 ∨ d = 7 := by omega
    rcases this with rfl | rfl | rfl | rfl | rfl | rfl | rfl <;> decide
  obtain ⟨k, hk⟩ := numb_nk hd.1 hdv
  obtain ⟨b1, b2, b3⟩ := numb_bound (n := n) hd.1
  rw [hk] at b1 b2 b3
  exact ⟨k, hk, by omega, b2, by omega⟩
theorem at4 {i : Int} (h : 0 ≤ i ∧ i < 4) : ∃ d : Int, atI [V.int 1, .int 1, .int 2, .int 3] i = some (.int d) ∧ 0 < d ∧ d ≤ 7 := by
  have : i = 0 ∨ i = 1 ∨ i = 2 ∨ i = 3 := by omega
  rcases this with rfl | rfl | rfl | rfl
  · exact ⟨1, atI_nat (j := 0) rfl, by decide, by decide⟩
  · exact ⟨1, atI_nat (j := 1) rfl, by decide, by decide⟩
  · exact ⟨2, atI_nat (j := 2) rfl, by decide, by decide⟩
  · exact ⟨3, atI_nat (j := 3) rfl, by decide, by decide⟩
theorem at9 {i : Int} (h : 0 ≤ i ∧ i < 9) : ∃ d : Nat, atI [V.int 1, .int 2, .int 3, .int 1, .int 2, .int 3, .int 4, .int 5, .int 6] i = some (.int (d : Int)) ∧ 0 < d ∧ d ≤ 6 := by
  have : i = 0 ∨ i = 1 ∨ i = 2 ∨ i = 3 ∨ i = 4 ∨ i = 5 ∨ i = 6 ∨ i = 7 ∨ i = 8 := by omega
  rcases this with rfl | rfl | rfl | rfl | rfl | rfl | rfl | rfl | rfl
  · exact ⟨1, atI_nat (j := 0) rfl, by decide, by decide⟩
  · exact ⟨2, atI_nat (j := 1) rfl, by decide, by decide⟩
  · exact ⟨3, atI_nat (j := 2) rfl, by decide, by decide⟩
  · exact ⟨1, atI_nat (j := 3) rfl, by decide, by decide⟩
  · exact ⟨2, atI_nat (j := 4) rfl, by decide, by decide⟩
  · exact ⟨3, atI_nat (j := 5) rfl, by decide, by decide⟩
  · exact ⟨4, atI_nat (j := 6) rfl, by decide, by decide⟩
  · exact ⟨5, atI_nat (j := 7) rfl, by decide, by decide⟩
  · exact ⟨6, atI_nat (j := 8) rfl, by decide, by decide⟩
theorem at2 {i : Int} (h : 0 ≤ i ∧ i < 2) : ∃ s : Str, atI [V.str "ours", .str "theirs"] i = some (.str s) ∧ (s = "ours" ∨ s = "theirs") := by
  have : i = 0 ∨ i = 1 := by omega
  rcases this with rfl | rfl
  · exact ⟨"ours", atI_nat (j := 0) rfl, .inl rfl⟩
  · exact ⟨"theirs", atI_nat (j := 1) rfl, .inr rfl⟩
/-- [e for k in range(n)], each an int -/
theorem el_lcInt {ta : TA} {j : Nat} {vs : List Nat} {n : Nat} (v : Nat → Int) (h : EvA ta σ H [.int (n : Int)]) (hn : n ≤ 40000) (hw : ∀ x, wipe ((wipe σ vs).set j (some x)) vs = wipe σ vs)
    (he : ∀ (i : Nat) H1, Ex H H1 → i < n → Ev te ((wipe σ vs).set j (some (.int (i : Int)))) H1 (.int (v i))) : EvL (tLc (iRng1 ta) (gName j) tYes te vs) σ H (((List.range n).map v).map V.int) := by
  have z := el_lcR1 (t := tYes) (te := te) (j := j) (vs := vs) (fun _ => true) (fun i => V.int (v i)) h (by omega) hw (fun i H1 _ _ H2 _ Q2 q2 => q2 H2 (Ex.refl H2)) (fun i H1 e1 hi _ => he i H1 e1 (by omega))
  rw [given_all] at z
  have e : (List.range ((n : Int)).toNat).map (fun i => V.int (v i)) = ((List.range n).map v).map V.int := by
    rw [List.map_map]
    rfl
  rw [e] at z
  exact z
theorem dr_get {ds : List Int} (h : Dr ds) {j : Nat} (hj : j < ds.length) : 0 ≤ ds.getD j 0 ∧ ds.getD j 0 < 1000 := by
  rw [List.getD_eq_getElem?_getD, List.getElem?_eq_getElem hj]
  exact h _ (List.getElem_mem hj)
theorem sum_in : ∀ (ws : List Int), (∀ x ∈ ws, 1 ≤ x ∧ x ≤ 5) → (ws.length : Int) ≤ ws.sum ∧ ws.sum ≤ 5 * (ws.length : Int)
  | [], _ => by simp
  | x :: r, h => by
    obtain ⟨a1, a2⟩ := sum_in r fun y hy => h y (List.mem_cons_of_mem _ hy)
    have := h x List.mem_cons_self
    rw [List.sum_cons, List.length_cons]
    omega
theorem rng_get {n k : Nat} {v : Nat → Int} (h : k < n) : ((List.range n).map v)[k]? = some (v k) := by
  rw [List.getElem?_map, List.getElem?_range h]
  rfl
/-- the items of a draw, read off -/
theorem draw_items {many : Int} : ∀ {ds : List PyData}, (∀ (i : Nat) d, ds[i]? = some d → ∃ c : (Int × Int) × Int, d = .tuple [nd c.1, .int c.2] ∧ Sml c.1 ∧ 0 ≤ c.2 ∧ c.2 < many) →
    ∃ l : List ((Int × Int) × Int), ds = (Br.draw l).items ∧ l.length = ds.length ∧ ∀ c ∈ l, Sml c.1 ∧ 0 ≤ c.2 ∧ c.2 < many
  | [], _ => ⟨[], rfl, rfl, fun c h => by cases h⟩
  | d :: r, h => by
    obtain ⟨c, rfl, hc⟩ := h 0 d rfl
    obtain ⟨l, e, hl, f⟩ := draw_items (ds := r) fun i d' z => h (i + 1) d' (by simpa using z)
    refine ⟨c :: l, ?_, by simp [hl], fun c' m => ?_⟩
    · rw [e]
      rfl
    · rcases List.mem_cons.mp m with rfl | m
      · exact hc
      · exact f c' m
theorem sml_of {n d : Int} (hn : 1 ≤ n ∧ n ≤ 5) (h0 : 0 < d) (h1 : d ≤ 1000) : Sml (numb n d) := by
  obtain ⟨b1, b2, b3⟩ := numb_bound (n := n) h0
  exact ⟨by omega, b2, by omega⟩
theorem ok_l_place (T : Txt K mg a) : FnOk P w K mg base CX0 3 a.l_place.1 a.l_place.2 ["_law_draws_here", "_law_many"] (spLPlace K) := by
  have G_l_number := ok_l_number (P := P) (w := w) (base := base) T
  have b_l_number := bd_l_number T.l_number
  refine T.l_place.F.ok sc_l_place (fun vs H Q E h => ?_) (fun cdv A outer s H vs Q E hr h => ?_)
  · obtain ⟨_, _, _, rfl, _⟩ := h
    rfl
  · obtain ⟨d, many, ds, rfl, hd, hlen, hDr, hm, q⟩ := h
    refine ⟨_, (pss_cons (ps_set (i := 2) sc_l_place.nd rfl (Or.inl rfl) (pe_op op_mod (pe_callTy call_int1 (by rfl) T.z_int (by decide +kernel) (pa_cons (pe_ix ix_seq (pv 0) pe_int (fun _ _ => rfl)) pa_nil)) pe_int))
      (pss_cons (ps_set (i := 3) sc_l_place.nd rfl (Or.inl rfl) (pe_call G_l_number (hr.mono (by decide)) (by rfl) T.l_number.g T.l_number.kp b_l_number .nil pass0 (pa_cons (pe_op op_sub (pe_op op_mod (pe_callTy call_int1 (by rfl) T.z_int (by decide +kernel) (pa_cons (pe_ix ix_seq (pv 0) pe_int (fun _ _ => rfl)) pa_nil)) pe_int) pe_int) (pa_cons (pe_ix ix_seq (pe_lst (pa_cons pe_int (pa_cons pe_int (pa_cons pe_int (pa_cons pe_int pa_nil))))) (pe_op op_mod (pe_callTy call_int1 (by rfl) T.z_int (by decide +kernel) (pa_cons (pe_ix ix_seq (pv 0) pe_int (fun _ _ => rfl)) pa_nil)) pe_int) (fun _ _ => rfl)) pa_nil))))
      (pss_cut (ps_if (pt_cmpR op_eq (pe_op op_mod (pe_op op_fdiv (pe_callTy call_int1 (by rfl) T.z_int (by decide +kernel) (pa_cons (pe_ix ix_seq (pv 0) pe_int (fun _ _ => rfl)) pa_nil)) pe_int) pe_int) pe_int (nomark _))
      (pss_one (ps_set (i := 3) sc_l_place.nd rfl (Or.inl rfl) (pe_call G_l_number (hr.mono (by decide)) (by rfl) T.l_number.g T.l_number.kp b_l_number .nil pass0 (pa_cons (pe_op op_sub (pe_callTy call_int1 (by rfl) T.z_int (by decide +kernel) (pa_cons (pe_ix ix_seq (pv 0) pe_int (fun _ _ => rfl)) pa_nil)) pe_int) (pa_cons (pe_op op_add pe_int (pe_op op_mod (pe_callTy call_int1 (by rfl) T.z_int (by decide +kernel) (pa_cons (pe_ix ix_seq (pv 0) pe_int (fun _ _ => rfl)) pa_nil)) pe_int)) pa_nil)))))
      pss_nil)
      (pss_cons (ps_set (i := 4) sc_l_place.nd rfl (Or.inl rfl) (pe_ix ix_seq (pe_lst (pa_cons pe_int (pa_cons pe_int (pa_cons pe_int (pa_cons pe_int (pa_cons pe_int (pa_cons pe_int (pa_cons pe_int (pa_cons pe_int (pa_cons pe_int pa_nil)))))))))) (pe_op op_mod (pe_callTy call_int1 (by rfl) T.z_int (by decide +kernel) (pa_cons (pe_ix ix_seq (pv 0) pe_int (fun _ _ => rfl)) pa_nil)) pe_int) (fun _ _ => rfl)))
      (pss_cons (ps_set (i := 6) sc_l_place.nd rfl (Or.inr rfl) (pe_lc (own := [("_law_k", 5)]) (g := gName 5) (tt := tYes) (te := oMod (cInt (tOp (rIx K) (tVar 0) (oAdd (iC 3) (tVar 5)))) (tVar 1)) rfl sc_l_place.nd (pi_range1 (by rfl) T.z_range (pa_cons (pv 4) pa_nil)) (blkOk_by (N := N_l_place) (sc := defScope s_l_place) (by decide +kernel)) (fun _ _ _ _ _ => (pg_name (i := 5) sc_l_place.nd rfl (Or.inl rfl))) (fun _ _ _ _ _ => pts_nil) (fun _ _ _ _ _ => by exact (pe_op op_mod (pe_callTy call_int1 (by rfl) T.z_int (by decide +kernel) (pa_cons (pe_ix ix_seq (pv 0) (pe_op op_add pe_int (pv 5)) (fun _ _ => rfl)) pa_nil)) (pv 1)))))
      (pss_cons (ps_if (pt_cmpR op_lt (pv 2) pe_int (nomark _))
      (pss_cons (ps_set (i := 7) sc_l_place.nd rfl (Or.inr rfl) (pe_lc (own := [("_law_k", 5)]) (g := gName 5) (tt := tYes) (te := oAdd (iC 1) (oMod (cInt (tOp (rIx K) (tVar 0) (oAdd (iC 9) (oMod (tVar 5) (iC 5))))) (iC 5))) rfl sc_l_place.nd (pi_range1 (by rfl) T.z_range (pa_cons (pv 4) pa_nil)) (blkOk_by (N := N_l_place) (sc := defScope s_l_place) (by decide +kernel)) (fun _ _ _ _ _ => (pg_name (i := 5) sc_l_place.nd rfl (Or.inl rfl))) (fun _ _ _ _ _ => pts_nil) (fun _ _ _ _ _ => by exact (pe_op op_add pe_int (pe_op op_mod (pe_callTy call_int1 (by rfl) T.z_int (by decide +kernel) (pa_cons (pe_ix ix_seq (pv 0) (pe_op op_add pe_int (pe_op op_mod (pv 5) pe_int)) (fun _ _ => rfl)) pa_nil)) pe_int)))))
      (pss_one (ps_ret (pe_tup (pa_cons (pv 3) (pa_cons pe_str (pa_cons (pe_lc (own := [("_law_k", 5)]) (g := gName 5) (tt := tYes) (te := tTup (tCons (tCall spNumber [] E0 (tCons (tOp (rIx K) (tVar 7) (tVar 5)) (tCons (tCB (rSum K) (tCons (tVar 7) tNil)) tNil))) (tCons (tOp (rIx K) (tVar 6) (tVar 5)) tNil))) rfl sc_l_place.nd (pi_range1 (by rfl) T.z_range (pa_cons (pv 4) pa_nil)) (blkOk_by (N := N_l_place) (sc := defScope s_l_place) (by decide +kernel)) (fun _ _ _ _ _ => (pg_name (i := 5) sc_l_place.nd rfl (Or.inl rfl))) (fun _ _ _ _ _ => pts_nil) (fun _ _ _ _ _ => by exact (pe_tup (pa_cons (pe_call G_l_number (hr.mono (by decide)) (by rfl) T.l_number.g T.l_number.kp b_l_number .nil pass0 (pa_cons (pe_ix ix_seq (pv 7) (pv 5) (fun _ _ => rfl)) (pa_cons (pe_callB (cr_sum rfl) (by rfl) T.z_sum (by decide +kernel) (pa_cons (pv 7) pa_nil)) pa_nil))) (pa_cons (pe_ix ix_seq (pv 6) (pv 5) (fun _ _ => rfl)) pa_nil))))) pa_nil)))))))
      pss_nil)
      (pss_one (ps_ret (pe_tup (pa_cons (pv 3) (pa_cons (pe_ix ix_seq (pe_lst (pa_cons pe_str (pa_cons pe_str pa_nil))) (pe_op op_mod (pv 2) pe_int) (fun _ _ => rfl)) (pa_cons (pv 6) pa_nil)))))))))))), ?_⟩
    have dg : ∀ {H1 : Hp}, Ex H H1 → ∀ {j : Nat}, j < 15 → ∀ {σ : L2.St}, σ[0]? = some (some (.ref d)) → Ev (cInt (tOp (rIx K) (tVar 0) (iC (j : Int)))) σ H1 (.int (ds.getD j 0)) := fun e _ hj _ hσ => ev_int (ev_ixL (ev_var hσ) ev_c (ex_l e hd) (int_get (by omega)))
    refine q_asg (ev_mod (dg (j := 0) (Ex.refl H) (by decide) rfl) ev_c (by decide)) fun H1 e1 => ?_
    obtain ⟨g1, hg1, hg1p, hg1l⟩ := at4 (mod_in (ds.getD 14 0) (m := 4) (by decide))
    have r1 := dr_get hDr (j := 1) (by omega)
    refine q_asgU (xs := nv (numb (ds.getD 1 0 % 15 - 5) g1)) (eu_call (ea_cons (ev_sub (ev_mod (dg (j := 1) e1 (by decide) rfl) ev_c (by decide)) ev_c) (ea_cons (ev_ixNL (el_lst (ea_cons ev_c (ea_cons ev_c (ea_cons ev_c (ea_cons ev_c ea_nil)))) (by decide)) (fun H7 e7 => ev_mod (dg (j := 14) (e1.trans e7) (by decide) rfl) ev_c (by decide)) hg1) ea_nil)) (fun H2 e2 Q2 q2 E2 => ⟨_, _, rfl, hg1p, by omega, q2⟩)) fun p1 H2 hp1 e2 h2 => ?_
    obtain ⟨k1, hk1, hs1⟩ := gain_of (n := ds.getD 1 0 % 15 - 5) (d := g1) (by have := mod_in (ds.getD 1 0) (m := 15) (by decide); omega) ⟨hg1p, hg1l⟩
    rw [hk1] at h2
    generalize hkd : ds.getD 0 0 % 7 = kd
    have hkd7 : 0 ≤ kd ∧ kd < 7 := by rw [← hkd]; exact mod_in _ (by decide)
    refine q_cut (M := fun σ' H' => ∃ (k : Int) (v : V), σ' = [some (.ref d), some (.int many), some (.int kd), some v, none, none, none, none] ∧ Ex H H' ∧ Sml (nk k) ∧ Fd K (nd (nk k)) H v H') ?_ (fun σ' H' p => ?_)
    · refine s_when (et_eqI (ev_mod (ev_div (dg (j := 14) (e1.trans e2) (by decide) rfl) ev_c (by decide)) ev_c (by decide)) ev_c rfl) (fun hb H3 e3 => ?_) (fun hb H3 e3 => ?_)
      · have m7 := mod_in (ds.getD 14 0) (m := 7) (by decide)
        refine s_asgU (xs := nv (numb (ds.getD 1 0 - 500) (1 + ds.getD 14 0 % 7))) (eu_call (ea_cons (ev_sub (dg (j := 1) ((e1.trans e2).trans e3) (by decide) rfl) ev_c) (ea_cons (ev_add ev_c (ev_mod (dg (j := 14) ((e1.trans e2).trans e3) (by decide) rfl) ev_c (by decide))) ea_nil)) (fun H4 e4 Q4 q4 E4 => ⟨_, _, rfl, by omega, by omega, q4⟩)) fun p4 H4 hp4 e4 h4 => ?_
        obtain ⟨k2, hk2, hs2⟩ := gain_of (n := ds.getD 1 0 - 500) (d := 1 + ds.getD 14 0 % 7) (by omega) (by omega)
        rw [hk2] at h4
        exact ⟨k2, _, rfl, ((e1.trans e2).trans e3).trans e4, hs2, fd_tup (fda_ints [(nk k2).1, (nk k2).2]) (fresh_back ((e1.trans e2).trans e3) hp4) h4⟩
      · exact ⟨k1, _, rfl, (e1.trans e2).trans e3, hs1, (fd_tup (fda_ints [(nk k1).1, (nk k1).2]) (fresh_back e1 hp1) h2).on e3⟩
    · obtain ⟨k, gv, rfl, e, hsk, fg⟩ := p
      obtain ⟨n, hn, hn0, hn6⟩ := at9 (mod_in (ds.getD 2 0) (m := 9) (by decide))
      refine q_asg (v := .int (n : Int)) (ev_ixNL (el_lst (ea_cons ev_c (ea_cons ev_c (ea_cons ev_c (ea_cons ev_c (ea_cons ev_c (ea_cons ev_c (ea_cons ev_c (ea_cons ev_c (ea_cons ev_c ea_nil))))))))) (by decide)) (fun H7 e7 => ev_mod (dg (j := 2) (e.trans e7) (by decide) rfl) ev_c (by decide)) hn) fun H3 e3 => ?_
      have e03 := e.trans e3
      refine q_asgL (el_lcInt (fun i => ds.getD (3 + i) 0 % many) (ea_cons (ev_var (i := 4) rfl) ea_nil) (by omega) (fun _ => rfl) (fun i H4 e4 hi => ?_)) fun pp H4 hpp e4 h4 => ?_
      · refine ev_mod (ev_int (ev_ixL (ev_var rfl) (ev_is (ev_add ev_c (ev_var rfl)) (w := .int ((3 + i : Nat) : Int)) (by simp)) (ex_l (e03.trans e4) hd) (int_get (by omega)))) (ev_var rfl) (by omega)
      have e04 := e03.trans e4
      have hpt : ∀ t ∈ (List.range n).map (fun i => ds.getD (3 + i) 0 % many), 0 ≤ t ∧ t < many := fun t ht => by
        obtain ⟨i, _, rfl⟩ := List.mem_map.mp ht
        exact mod_in _ (by omega)
      refine q_when (et_is (et_lt (ev_var rfl) ev_c) rfl) (fun hb H5 e5 => ?_) (fun hb H5 e5 => ?_)
      · refine q_asgL (el_lcInt (fun i => 1 + ds.getD (9 + i % 5) 0 % 5) (ea_cons (ev_var (i := 4) rfl) ea_nil) (by omega) (fun _ => rfl) (fun i H6 e6 hi => ?_)) fun wp H6 hwp e6 h6 => ?_
        · refine ev_add ev_c (ev_mod (ev_int (ev_ixL (ev_var rfl) (ev_is (ev_add ev_c (ev_mod (ev_var rfl) ev_c (by decide))) (w := .int ((9 + i % 5 : Nat) : Int)) (by simp)) (ex_l ((e04.trans e5).trans e6) hd) (int_get (by omega)))) ev_c (by decide))
        have e06 := (e04.trans e5).trans e6
        have hws : ∀ x ∈ (List.range n).map (fun i => 1 + ds.getD (9 + i % 5) 0 % 5), 1 ≤ x ∧ x ≤ 5 := fun x hx => by
          obtain ⟨i, _, rfl⟩ := List.mem_map.mp hx
          have := mod_in (ds.getD (9 + i % 5) 0) (m := 5) (by decide)
          omega
        have hsum := sum_in _ hws
        rw [List.length_map, List.length_range] at hsum
        have h46 : H6 pp = some (.lst (((List.range n).map (fun i => ds.getD (3 + i) 0 % many)).map V.int)) := e6 _ _ (e5 _ _ h4)
        refine s_retD (H0 := H) (ed_tup e06 (eda_cons (ed_var rfl (fg.on (((e3.trans e4).trans e5).trans e6))) (eda_cons (ed_str ev_c) (eda_cons (ed_lcR (P := fun i d => ∃ c : (Int × Int) × Int, d = .tuple [nd c.1, .int c.2] ∧ Sml c.1 ∧ 0 ≤ c.2 ∧ c.2 < many) (n := n) e06 (ea_cons (ev_var (i := 4) rfl) ea_nil) (by omega) (fun _ => rfl) (fun i H7 e7 hi => ?_)) eda_nil))) ?_) fun v dd H7 e7 pd fd => ?_
        · have hi' : i < n := by omega
          have w6 : SqL K H7 wp _ := ex_l e7 (sq_of h6)
          have wi := hws _ (List.mem_map.mpr ⟨i, List.mem_range.mpr hi', rfl⟩)
          have s2 : 0 < ((List.range n).map (fun i => 1 + ds.getD (9 + i % 5) 0 % 5)).sum := by omega
          refine ed_imp (ed_tup (Ex.refl H7) (eda_cons (ed_intsU (ns := [(numb (1 + ds.getD (9 + i % 5) 0 % 5) ((List.range n).map (fun i => 1 + ds.getD (9 + i % 5) 0 % 5)).sum).1, (numb (1 + ds.getD (9 + i % 5) 0 % 5) ((List.range n).map (fun i => 1 + ds.getD (9 + i % 5) 0 % 5)).sum).2]) (Ex.refl H7) (eu_call (ea_cons (ev_ixL (ev_var rfl) (ev_var rfl) w6 (atI_nat (by rw [List.getElem?_map, rng_get hi']; rfl))) (ea_cons (ev_cb (ea_cons (ev_var rfl) ea_nil) (fun H8 e8 Q8 q8 => ⟨_, _, rfl, ex_l e8 w6, q8 H8 (Ex.refl H8)⟩)) ea_nil)) (fun H8 e8 Q8 q8 E8 => ⟨_, _, rfl, s2, by omega, q8⟩)))
            (eda_cons (ed_int (ev_ixL (ev_var rfl) (ev_var rfl) (ex_l e7 (sq_of h46)) (atI_nat (by rw [List.getElem?_map, rng_get hi']; rfl)))) eda_nil)) ?_) ?_
          · rintro _ ⟨_, _, rfl, rfl, _, _, rfl, rfl, rfl⟩
            simp
          · rintro _ ⟨_, rfl, _, _, rfl, rfl, _, _, rfl, rfl, rfl⟩
            refine ⟨(_, _), rfl, ?_, hpt _ (List.mem_map.mpr ⟨i, List.mem_range.mpr hi', rfl⟩)⟩
            exact sml_of wi s2 (by omega)
        · rintro _ ⟨_, _, rfl, rfl, _, _, rfl, rfl, _, _, rfl, ⟨_, rfl, _⟩, rfl⟩
          simp
        · obtain ⟨_, rfl, _, _, rfl, rfl, _, _, rfl, rfl, _, _, rfl, ⟨dl, rfl, hdl, hdp⟩, rfl⟩ := pd
          obtain ⟨l, rfl, hll, hl⟩ := draw_items hdp
          refine q v ⟨k, .draw l⟩ H7 (e06.trans e7) ⟨fun c hc => (hl c hc).1, hsk, ?_, fun t ht => ?_⟩ fd
          · show 0 < (l.map (·.2)).length ∧ (l.map (·.2)).length ≤ 6
            rw [List.length_map]
            omega
          · obtain ⟨c, hc, rfl⟩ := List.mem_map.mp ht
            exact (hl c hc).2
      · have e05 := e04.trans e5
        obtain ⟨ks, hks, hkk⟩ := at2 (mod_in kd (m := 2) (by decide))
        have h45 := e5 _ _ h4
        refine s_retD (H0 := H) (ed_tup e05 (eda_cons (ed_var rfl (fg.on ((e3.trans e4).trans e5))) (eda_cons (ed_str (ev_ixNL (el_lst (ea_cons ev_c (ea_cons ev_c ea_nil)) (by decide)) (fun H7 e7 => ev_mod (ev_var rfl) ev_c (by decide)) hks)) (eda_cons (ed_var rfl (fd_list (fda_ints _) (fresh_back e03 hpp) h45)) eda_nil))) ?_) fun v dd H7 e7 pd fd => ?_
        · rintro _ ⟨_, _, rfl, rfl, _, _, rfl, rfl, _, _, rfl, rfl, rfl⟩
          simp
        · obtain ⟨_, rfl, _, _, rfl, rfl, _, _, rfl, rfl, _, _, rfl, rfl, rfl⟩ := pd
          refine q v ⟨k, .pick ks ((List.range n).map fun i => ds.getD (3 + i) 0 % many)⟩ H7 (e05.trans e7) ⟨hkk, hsk, ?_, hpt⟩ fd
          show 0 < ((List.range n).map fun i => ds.getD (3 + i) 0 % many).length ∧ ((List.range n).map fun i => ds.getD (3 + i) 0 % many).length ≤ 6
          rw [List.length_map, List.length_range]
          exact ⟨hn0, hn6⟩
/-- a call whose first argument is a new list -/
theorem ed_callL {sp : Sp} {dvs xs : List V} {v : V} {E : XK} {P : PyData → Prop} (h : EvL tl σ H xs) (h2 : ∀ H1, Ex H H1 → Ev tv σ H1 v)
    (hs : ∀ p H1, Ex H H1 → SqL K H1 p xs → ∀ Q : VK, (∀ w d H2, Ex H1 H2 → P d → Fd K d H1 w H2 → Q w H2) → ∀ E, sp ([.ref p, v] ++ dvs) H1 Q E) : EvD K H (tCall sp dvs E (tCons tl (tCons tv tNil))) σ H P := fun H1 e Q q =>
  h H1 e _ fun p H2 _ e2 hp => h2 H2 (e.trans e2) H2 (Ex.refl H2) _ fun H3 e3 => hs p H3 ((e.trans e2).trans e3) (sq_of (e3 _ _ hp)) Q (fun w d H4 e4 pd fd => q w d H4 ((e2.trans e3).trans e4) pd (fd.back ((e.trans e2).trans e3))) E
theorem game_items {many : Int} : ∀ {ds : List PyData}, (∀ (i : Nat) d, ds[i]? = some d → ∃ pl : Pl, d = plD pl ∧ PlGood many pl) → ∃ g : List Pl, ds = g.map plD ∧ g.length = ds.length ∧ ∀ p ∈ g, PlGood many p
  | [], _ => ⟨[], rfl, rfl, fun c h => by cases h⟩
  | d :: r, h => by
    obtain ⟨c, rfl, hc⟩ := h 0 d rfl
    obtain ⟨l, e, hl, f⟩ := game_items (ds := r) fun i d' z => h (i + 1) d' (by simpa using z)
    refine ⟨c :: l, ?_, by simp [hl], fun c' m => ?_⟩
    · rw [e]
      rfl
    · rcases List.mem_cons.mp m with rfl | m
      · exact hc
      · exact f c' m
theorem gm_ok {g : List Pl} (hl : 0 < g.length ∧ g.length ≤ 12) (h : ∀ p ∈ g, PlGood (g.length : Int) p) : GmOk g := by
  refine ⟨fun l hm => ?_, hl, fun p hp => ⟨(h p hp).1, (h p hp).2.1⟩⟩
  obtain ⟨p, hp, rfl⟩ := List.mem_map.mp hm
  rw [TT_len]
  exact ⟨(h p hp).2.2.1.1, (h p hp).2.2.1.2, (h p hp).2.2.2⟩
theorem cut15 {ds : List Int} {k : Nat} (h : 16 + 15 * k ≤ ds.length) : cutV (ds.map V.int) (some ((1 + 15 * k : Nat) : Int)) (some ((16 + 15 * k : Nat) : Int)) = ((ds.drop (1 + 15 * k)).take 15).map V.int := by
  rw [cut_part, List.length_map, Nat.min_eq_left (show 1 + 15 * k ≤ ds.length by omega), Nat.min_eq_left h, List.map_take, List.map_drop]
  congr 1
  omega
def spLGame (K : PySem.W.Frag) : Sp := fun vs H Q E => ∃ (d : Addr) (ds : List Int), vs = [.ref d, .int 7] ∧ SqL K H d (ds.map V.int) ∧ 140 ≤ ds.length ∧ Dr ds ∧
  ∀ v g H', Ex H H' → GmOk g → Fd K (gmD g) H v H' → Q v H'
theorem ok_l_game (T : Txt K mg a) : FnOk P w K mg base CX0 4 a.l_game.1 a.l_game.2 ["_law_draws_here", "_law_most"] (spLGame K) := by
  have G_l_place := ok_l_place (P := P) (w := w) (base := base) T
  have b_l_place := bd_l_place T.l_place
  refine T.l_game.F.ok sc_l_game (fun vs H Q E h => ?_) (fun cdv A outer s H vs Q E hr h => ?_)
  · obtain ⟨_, _, rfl, _⟩ := h
    rfl
  · obtain ⟨d, ds, rfl, hd, hlen, hDr, q⟩ := h
    refine ⟨_, (pss_cons (ps_set (i := 2) sc_l_game.nd rfl (Or.inr rfl) (pe_op op_add pe_int (pe_op op_mod (pe_callTy call_int1 (by rfl) T.z_int (by decide +kernel) (pa_cons (pe_ix ix_seq (pv 0) pe_int (fun _ _ => rfl)) pa_nil)) (pv 1))))
      (pss_one (ps_ret (pe_lc (own := [("_law_k", 3)]) (g := gName 3) (tt := tYes) (te := tCall (spLPlace K) [] E0 (tCons (tSl (rSlL K) (tVar 0) (tPart (oAdd (iC 1) (tOp (rI CMul fun i j => .int (i * j)) (iC 15) (tVar 3)))) (tPart (oAdd (iC 16) (tOp (rI CMul fun i j => .int (i * j)) (iC 15) (tVar 3))))) (tCons (tVar 2) tNil))) rfl sc_l_game.nd (pi_range1 (by rfl) T.z_range (pa_cons (pv 2) pa_nil)) (blkOk_by (N := N_l_game) (sc := defScope s_l_game) (by decide +kernel)) (fun _ _ _ _ _ => (pg_name (i := 3) sc_l_game.nd rfl (Or.inl rfl))) (fun _ _ _ _ _ => pts_nil) (fun _ _ _ _ _ => by exact (pe_call G_l_place (hr.mono (by decide)) (by rfl) T.l_place.g T.l_place.kp b_l_place .nil pass0 (pa_cons (pe_slice sl_list (pv 0) (po_some (pe_op op_add pe_int (pe_op op_mul pe_int (pv 3)))) (po_some (pe_op op_add pe_int (pe_op op_mul pe_int (pv 3))))) (pa_cons (pv 2) pa_nil)))))))), ?_⟩
    refine q_asg (ev_add ev_c (ev_mod (ev_int (ev_ixL (ev_var rfl) ev_c hd (int_get (j := 0) (by omega)))) (ev_var rfl) (by decide))) fun H1 e1 => ?_
    have m7 := mod_in (ds.getD 0 0) (m := 7) (by decide)
    generalize hm : 1 + ds.getD 0 0 % 7 = many
    have hm' : 1 ≤ many ∧ many ≤ 7 := by omega
    refine s_retD (K := K) (H0 := H) (ed_lcR (P := fun i d => ∃ pl, d = plD pl ∧ PlGood many pl) (n := many) e1 (ea_cons (ev_var (i := 2) rfl) ea_nil) (by omega) (fun _ => rfl) (fun i H2 e2 hi => ?_)) fun v dd H2 e2 pd fd => ?_
    · have e02 := e1.trans e2
      have hi7 : i < 7 := by omega
      have hx := el_sl (tl := tPart (oAdd (iC 1) (tOp (rI CMul fun i j => .int (i * j)) (iC 15) (tVar 3)))) (th := tPart (oAdd (iC 16) (tOp (rI CMul fun i j => .int (i * j)) (iC 15) (tVar 3)))) (lo := some ((1 + 15 * i : Nat) : Int)) (hi := some ((16 + 15 * i : Nat) : Int))
        (σ := (wipe [some (V.ref d), some (V.int 7), some (V.int many), none] [3]).set 3 (some (.int (i : Int)))) (te := tVar 0) (ev_var rfl)
        (eo_some (ev_is (ev_add ev_c (ev_mul ev_c (ev_var rfl) (small_mul _ (by omega)))) (by simp))) (eo_some (ev_is (ev_add ev_c (ev_mul ev_c (ev_var rfl) (small_mul _ (by omega)))) (by simp))) (ex_l e02 hd)
      rw [cut15 (by omega)] at hx
      refine ed_callL hx (fun H3 e3 => ev_var rfl) (fun p H3 e3 hp Q3 q3 E3 => ?_)
      refine ⟨p, many, _, rfl, hp, by rw [List.length_take, List.length_drop]; omega, fun x hx => hDr x (List.mem_of_mem_drop (List.mem_of_mem_take hx)), by omega, fun v pl H4 e4 hpl f4 => q3 v _ H4 e4 ⟨pl, rfl, hpl⟩ f4⟩
    · obtain ⟨dl, rfl, hdl, hdp⟩ := pd
      obtain ⟨g, rfl, hgl, hg⟩ := game_items hdp
      have hml : many = (g.length : Int) := by omega
      rw [hml] at hg
      exact q v g H2 (e1.trans e2) (gm_ok (by omega) hg) fd
end
end Mh

set_option Elab.async false
set_option linter.all false
set_option maxRecDepth 100000
set_option maxHeartbeats 1000000
namespace Mh
open PySem PySem.Spec PyProof.Rows L2 Evl
section
variable {P : Program} {w : World} {K : PySem.W.Frag} {mg : Str → Option Value} {base : Heap} {a : Ad} {g : List Pl} {H H' H0 : Hp} {σ : L2.St} {D : Ends} {tz : TS} {ta tb te tl tv : TE} {v : V}
/-- ints, and lists and tuples of such, k deep -/
def Fl : Nat → PyData → Prop
  | 0, d => ∃ i : Int, d = .int i
  | k + 1, d => (∃ i : Int, d = .int i) ∨ ∃ ds : List PyData, (d = .list ds ∨ d = .tuple ds) ∧ ds.length ≤ 10000 ∧ ∀ e ∈ ds, Fl k e
theorem tyx_lst {p : Addr} {xs : List V} (h : SqL K H p xs) : TyX K H (.ref p) (.type "list") := by
  rcases h with (h | ⟨o, h⟩) | ⟨o, its, n, h1, h2, _⟩
  · exact .base (.lst h)
  · exact .base (.frz h)
  · exact .kList h1 h2
theorem tyx_tup {p : Addr} {xs : List V} (h : SqT K H p xs) : TyX K H (.ref p) (.type "tuple") := by
  rcases h with (h | ⟨o, h⟩) | ⟨o, its, n, h1, h2, _⟩
  · exact .base (.tup h)
  · exact .fTuple h
  · exact .kTuple h1 h2
theorem ev_isi {i : Nat} {m n : String} {b : Bool} (h : σ[i]? = some (some v)) (ht : TyX K H v (.type m)) (hk : kitB m n = some b) (hm : ∀ H1, Ex H H1 → TyX K H1 v (.type m)) : Ev (tCB (rIsi K) (tCons (tVar i) (tCons (tC (.ty n)) tNil))) σ H (.bl b) :=
  ev_cb (ea_cons (ev_var h) (ea_cons ev_c ea_nil)) fun H1 e Q q => ⟨v, .ty n, .type m, .type n, b, rfl, .ty n, hm H1 e, kit_ty hk, q H1 (Ex.refl H1)⟩
theorem ev_isN (h : Ev ta σ H v) : Ev (tOp (fun x y H Q => y = .non ∧ Q (.bl (decide (x = .non))) H) ta (tC .non)) σ H (.bl (decide (v = .non))) := ev_op h ev_c fun H1 e Q q => ⟨rfl, q H1 (Ex.refl H1)⟩
/-- a list or a tuple -/
def Sq (K : PySem.W.Frag) (H : Hp) (p : Addr) (xs : List V) (t : Bool) : Prop := if t = true then SqT K H p xs else SqL K H p xs
theorem Sq.on {p : Addr} {xs : List V} {t : Bool} (h : Sq K H p xs t) (e : Ex H H') : Sq K H' p xs t := by
  cases t with
  | true => exact ex_t e h
  | false => exact ex_l e h
def tyN (t : Bool) : String := if t = true then "tuple" else "list"
theorem Sq.ty {p : Addr} {xs : List V} {t : Bool} (h : Sq K H p xs t) : TyX K H (.ref p) (.type (tyN t)) := by
  cases t with
  | true => exact tyx_tup h
  | false => exact tyx_lst h
theorem ev_ixS {p : Addr} {xs : List V} {t : Bool} {i : Int} (ho : Ev ta σ H (.ref p)) (hi : Ev tb σ H (.int i)) (h : Sq K H p xs t) (ha : atI xs i = some v) : Ev (tOp (rIx K) ta tb) σ H v := by
  cases t with
  | true => exact ev_ixT ho hi h ha
  | false => exact ev_ixL ho hi h ha
theorem ev_lenS {p : Addr} {xs : List V} {t : Bool} (ha : Ev ta σ H (.ref p)) (h : Sq K H p xs t) : Ev (tCB (rLenS K) (tCons ta tNil)) σ H (.int (xs.length : Int)) := ev_cb (ea_cons ha ea_nil) fun H1 e Q q => ⟨p, xs, rfl, by
    cases t with
    | true => exact .inr (ex_t e h)
    | false => exact .inl (ex_l e h), q H1 (Ex.refl H1)⟩
theorem kit_l (t : Bool) : kitB (tyN t) "list" = some (!t) := by cases t <;> decide +kernel
theorem kit_t (t : Bool) : kitB (tyN t) "tuple" = some t := by cases t <;> decide +kernel
def spSame (K : PySem.W.Frag) (k : Nat) : Sp := fun vs H Q E => ∃ (v u : V) (d : PyData), vs = [v, u] ∧ Dp K H v d ∧ Dp K H u d ∧ Fl k d ∧ RetV (.bl true) H Q
theorem dp_sq {k : Nat} {v u : V} {d : PyData} (h1 : Dp K H v d) (h2 : Dp K H u d) (f : Fl (k + 1) d) : (∃ i : Int, v = .int i ∧ u = .int i) ∨
    ∃ (p q : Addr) (xs ys : List V) (t : Bool) (ds : List PyData), v = .ref p ∧ u = .ref q ∧ Sq K H p xs t ∧ Sq K H q ys t ∧ DpAll K H xs ds ∧ DpAll K H ys ds ∧ ds.length ≤ 10000 ∧ ∀ e ∈ ds, Fl k e := by
  rcases f with ⟨i, rfl⟩ | ⟨ds, rfl | rfl, hl, hf⟩
  · cases h1
    cases h2
    exact .inl ⟨i, rfl, rfl⟩
  · obtain ⟨p, xs, rfl, s1, a1⟩ := dp_list h1
    obtain ⟨q, ys, rfl, s2, a2⟩ := dp_list h2
    exact .inr ⟨p, q, xs, ys, false, ds, rfl, rfl, s1, s2, a1, a2, hl, hf⟩
  · obtain ⟨p, xs, rfl, s1, a1⟩ := dp_tup h1
    obtain ⟨q, ys, rfl, s2, a2⟩ := dp_tup h2
    exact .inr ⟨p, q, xs, ys, true, ds, rfl, rfl, s1, s2, a1, a2, hl, hf⟩
/-- a built-in on a new list -/
theorem ev_cbL {xs : List V} {z : V} {r : List V → Hp → VK → Prop} (h : EvL te σ H xs) (hr : ∀ p H1, Ex H H1 → SqL K H1 p xs → RC r [.ref p] H1 z) : Ev (tCB r (tCons te tNil)) σ H z := fun H1 e Q q =>
  h H1 e _ fun p H2 _ e2 h2 => hr p H2 (e.trans e2) (sq_of h2) H2 (Ex.refl H2) Q fun H3 e3 => q H3 (e2.trans e3)
theorem int_ty {i : Int} : TyX K H (.int i) (.type "int") := .base (.int i)
theorem ok_l_same (T : Txt K mg a) : ∀ k : Nat, FnOk P w K mg base CX0 (k + 1) a.l_same.1 a.l_same.2 ["_law_actual", "_law_due"] (spSame K k)
  | 0 => by
    refine T.l_same.F.ok sc_l_same (fun vs H Q E h => ?_) (fun cdv A outer s H vs Q E hr h => ?_)
    · obtain ⟨_, _, _, rfl, _⟩ := h
      rfl
    · obtain ⟨v, u, d, rfl, h1, h2, ⟨i, rfl⟩, q⟩ := h
      cases h1
      cases h2
      refine ⟨_, (pss_cons (ps_if (PW.pt (pw_or (pt_cmpR op_isN (pv 1) pe_non (nomark _)) (pw_or1 (pt_cmpR op_isN (pv 0) pe_non (nomark _)))))
      (pss_one ps_never) pss_nil)
      (pss_cons (ps_if (PW.pt (pw_or (pt_val (pe_callB call_isi (by rfl) T.z_isinstance (by decide +kernel) (pa_cons (pv 1) (pa_cons (pe_bltn (v := .ty "list") (u := .type "list") (by rfl) T.z_list (by decide +kernel) rfl) pa_nil)))) (pw_or1 (pt_val (pe_callB call_isi (by rfl) T.z_isinstance (by decide +kernel) (pa_cons (pv 1) (pa_cons (pe_bltn (v := .ty "tuple") (u := .type "tuple") (by rfl) T.z_tuple (by decide +kernel) rfl) pa_nil)))))))
      pss_never pss_nil)
      (pss_cons (ps_if (PW.pt (pw_or (pt_val (pe_callB call_isi (by rfl) T.z_isinstance (by decide +kernel) (pa_cons (pv 1) (pa_cons (pe_bltn (v := .ty "bool") (u := .type "bool") (by rfl) T.z_bool (by decide +kernel) rfl) pa_nil)))) (pw_or1 (pt_val (pe_callB call_isi (by rfl) T.z_isinstance (by decide +kernel) (pa_cons (pv 0) (pa_cons (pe_bltn (v := .ty "bool") (u := .type "bool") (by rfl) T.z_bool (by decide +kernel) rfl) pa_nil)))))))
      (pss_one ps_never) pss_nil)
      (pss_cons (ps_if (pt_val (pe_callB call_isi (by rfl) T.z_isinstance (by decide +kernel) (pa_cons (pv 1) (pa_cons (pe_bltn (v := .ty "int") (u := .type "int") (by rfl) T.z_int (by decide +kernel) rfl) pa_nil))))
      (pss_one (ps_ret (pe_and (pe_callB call_isi (by rfl) T.z_isinstance (by decide +kernel) (pa_cons (pv 0) (pa_cons (pe_bltn (v := .ty "int") (u := .type "int") (by rfl) T.z_int (by decide +kernel) rfl) pa_nil))) (pe_one (pe_cmpR op_eq (pv 0) (pv 1) (nomark _)))))) pss_nil)
      (pss_one ps_never))))), ?_⟩
      refine q_when (et_or (et_test (ev_isN (ev_var rfl))) fun _ => et_test (ev_isN (ev_var rfl))) (fun hb => by simp at hb) fun _ H1 e1 => ?_
      refine q_when (et_or (et_B (ev_isi rfl int_ty (b := false) (by decide +kernel) fun _ _ => int_ty)) fun _ => et_B (ev_isi rfl int_ty (b := false) (by decide +kernel) fun _ _ => int_ty)) (fun hb => by simp at hb) fun _ H2 e2 => ?_
      refine q_when (et_or (et_B (ev_isi rfl int_ty (b := false) (by decide +kernel) fun _ _ => int_ty)) fun _ => et_B (ev_isi rfl int_ty (b := false) (by decide +kernel) fun _ _ => int_ty)) (fun hb => by simp at hb) fun _ H3 e3 => ?_
      refine q_when (et_B (ev_isi rfl int_ty (b := true) (by decide +kernel) fun _ _ => int_ty)) (fun _ H4 e4 => ?_) (fun hb => Bool.noConfusion hb)
      refine s_ret (ev_andV (ev_isi rfl int_ty (b := true) (by decide +kernel) fun _ _ => int_ty) fun _ => ev_is (ev_op (ev_var rfl) (ev_var rfl) (rv_eq rfl)) (by rw [decide_eq_true rfl])) fun H5 e5 => ?_
      exact q H5 ((((e1.trans e2).trans e3).trans e4).trans e5)
  | k + 1 => by
    have G_l_same := ok_l_same T k
    have b_l_same := bd_l_same T.l_same
    refine T.l_same.F.ok sc_l_same (fun vs H Q E h => ?_) (fun cdv A outer s H vs Q E hr h => ?_)
    · obtain ⟨_, _, _, rfl, _⟩ := h
      rfl
    · obtain ⟨v, u, d, rfl, h1, h2, hf, q⟩ := h
      refine ⟨_, (pss_cons (ps_if (PW.pt (pw_or (pt_cmpR op_isN (pv 1) pe_non (nomark _)) (pw_or1 (pt_cmpR op_isN (pv 0) pe_non (nomark _)))))
      (pss_one ps_never) pss_nil)
      (pss_cons (ps_if (PW.pt (pw_or (pt_val (pe_callB call_isi (by rfl) T.z_isinstance (by decide +kernel) (pa_cons (pv 1) (pa_cons (pe_bltn (v := .ty "list") (u := .type "list") (by rfl) T.z_list (by decide +kernel) rfl) pa_nil)))) (pw_or1 (pt_val (pe_callB call_isi (by rfl) T.z_isinstance (by decide +kernel) (pa_cons (pv 1) (pa_cons (pe_bltn (v := .ty "tuple") (u := .type "tuple") (by rfl) T.z_tuple (by decide +kernel) rfl) pa_nil)))))))
      (pss_cons (ps_if (PW.pt (pw_or (pt_cmpR op_ne (pe_callB call_isi (by rfl) T.z_isinstance (by decide +kernel) (pa_cons (pv 1) (pa_cons (pe_bltn (v := .ty "list") (u := .type "list") (by rfl) T.z_list (by decide +kernel) rfl) pa_nil))) (pe_callB call_isi (by rfl) T.z_isinstance (by decide +kernel) (pa_cons (pv 0) (pa_cons (pe_bltn (v := .ty "list") (u := .type "list") (by rfl) T.z_list (by decide +kernel) rfl) pa_nil))) (nomark _)) (pw_or1 (pt_cmpR op_ne (pe_callB call_isi (by rfl) T.z_isinstance (by decide +kernel) (pa_cons (pv 1) (pa_cons (pe_bltn (v := .ty "tuple") (u := .type "tuple") (by rfl) T.z_tuple (by decide +kernel) rfl) pa_nil))) (pe_callB call_isi (by rfl) T.z_isinstance (by decide +kernel) (pa_cons (pv 0) (pa_cons (pe_bltn (v := .ty "tuple") (u := .type "tuple") (by rfl) T.z_tuple (by decide +kernel) rfl) pa_nil))) (nomark _)))))
      (pss_one (ps_ret pe_bl)) pss_nil)
      (pss_cons (ps_if (pt_cmpR op_ne (pe_callB crLen (by rfl) T.z_len (by decide +kernel) (pa_cons (pv 0) pa_nil)) (pe_callB crLen (by rfl) T.z_len (by decide +kernel) (pa_cons (pv 1) pa_nil)) (nomark _))
      (pss_one (ps_ret pe_bl)) pss_nil)
      (pss_one (ps_ret (pe_callB (cr_all rfl) (by rfl) T.z_all (by decide +kernel) (pa_cons (pe_lc (own := [("_law_k", 2)]) (g := gName 2) (tt := tYes) (te := tCall (spSame K k) [] E0 (tCons (tOp (rIx K) (tVar 0) (tVar 2)) (tCons (tOp (rIx K) (tVar 1) (tVar 2)) tNil))) rfl sc_l_same.nd (pi_range1 (by rfl) T.z_range (pa_cons (pe_callB crLen (by rfl) T.z_len (by decide +kernel) (pa_cons (pv 1) pa_nil)) pa_nil)) (blkOk_by (N := N_l_same) (sc := defScope s_l_same) (by decide +kernel)) (fun _ _ _ _ _ => (pg_name (i := 2) sc_l_same.nd rfl (Or.inl rfl))) (fun _ _ _ _ _ => pts_nil) (fun _ _ _ _ _ => by exact (pe_call G_l_same (hr.mono (by omega)) (by rfl) T.l_same.g T.l_same.kp b_l_same .nil pass0 (pa_cons (pe_ix ix_seq (pv 0) (pv 2) (fun _ _ => rfl)) (pa_cons (pe_ix ix_seq (pv 1) (pv 2) (fun _ _ => rfl)) pa_nil))))) pa_nil)))))) pss_nil)
      (pss_cons (ps_if (PW.pt (pw_or (pt_val (pe_callB call_isi (by rfl) T.z_isinstance (by decide +kernel) (pa_cons (pv 1) (pa_cons (pe_bltn (v := .ty "bool") (u := .type "bool") (by rfl) T.z_bool (by decide +kernel) rfl) pa_nil)))) (pw_or1 (pt_val (pe_callB call_isi (by rfl) T.z_isinstance (by decide +kernel) (pa_cons (pv 0) (pa_cons (pe_bltn (v := .ty "bool") (u := .type "bool") (by rfl) T.z_bool (by decide +kernel) rfl) pa_nil)))))))
      (pss_one ps_never) pss_nil)
      (pss_cons (ps_if (pt_val (pe_callB call_isi (by rfl) T.z_isinstance (by decide +kernel) (pa_cons (pv 1) (pa_cons (pe_bltn (v := .ty "int") (u := .type "int") (by rfl) T.z_int (by decide +kernel) rfl) pa_nil))))
      (pss_one (ps_ret (pe_and (pe_callB call_isi (by rfl) T.z_isinstance (by decide +kernel) (pa_cons (pv 0) (pa_cons (pe_bltn (v := .ty "int") (u := .type "int") (by rfl) T.z_int (by decide +kernel) rfl) pa_nil))) (pe_one (pe_cmpR op_eq (pv 0) (pv 1) (nomark _)))))) pss_nil)
      (pss_one ps_never))))), ?_⟩
      rcases dp_sq h1 h2 hf with ⟨i, rfl, rfl⟩ | ⟨p1, p2, xs, ys, t, ds, rfl, rfl, s1, s2, a1, a2, hl, hd⟩
      · refine q_when (et_or (et_test (ev_isN (ev_var rfl))) fun _ => et_test (ev_isN (ev_var rfl))) (fun hb => by simp at hb) fun _ H1 e1 => ?_
        refine q_when (et_or (et_B (ev_isi rfl int_ty (b := false) (by decide +kernel) fun _ _ => int_ty)) fun _ => et_B (ev_isi rfl int_ty (b := false) (by decide +kernel) fun _ _ => int_ty)) (fun hb => by simp at hb) fun _ H2 e2 => ?_
        refine q_when (et_or (et_B (ev_isi rfl int_ty (b := false) (by decide +kernel) fun _ _ => int_ty)) fun _ => et_B (ev_isi rfl int_ty (b := false) (by decide +kernel) fun _ _ => int_ty)) (fun hb => by simp at hb) fun _ H3 e3 => ?_
        refine q_when (et_B (ev_isi rfl int_ty (b := true) (by decide +kernel) fun _ _ => int_ty)) (fun _ H4 e4 => ?_) (fun hb => Bool.noConfusion hb)
        refine s_ret (ev_andV (ev_isi rfl int_ty (b := true) (by decide +kernel) fun _ _ => int_ty) fun _ => ev_is (ev_op (ev_var rfl) (ev_var rfl) (rv_eq rfl)) (by rw [decide_eq_true rfl])) fun H5 e5 => ?_
        exact q H5 ((((e1.trans e2).trans e3).trans e4).trans e5)
      · refine q_when (et_or (et_test (ev_isN (ev_var rfl))) fun _ => et_test (ev_isN (ev_var rfl))) (fun hb => by simp at hb) fun _ H1 e1 => ?_
        have t1 := s1.on e1
        have t2 := s2.on e1
        have tq : ∀ H2, Ex H1 H2 → TyX K H2 (.ref p2) (.type (tyN t)) := fun H2 e => (t2.on e).ty
        have tp : ∀ H2, Ex H1 H2 → TyX K H2 (.ref p1) (.type (tyN t)) := fun H2 e => (t1.on e).ty
        refine q_when (et_or (et_B (ev_isi rfl t2.ty (kit_l t) tq)) fun _ => et_B (ev_isi rfl t2.ty (kit_t t) tq)) (fun _ H2 e2 => ?_) (fun hb => by cases t <;> simp at hb)
        have tq2 := fun H3 e => tq H3 (e2.trans e)
        have tp2 := fun H3 e => tp H3 (e2.trans e)
        refine q_when (et_or (et_ne (ev_isi rfl (t2.on e2).ty (kit_l t) tq2) (ev_isi rfl (t1.on e2).ty (kit_l t) tp2) rfl (b := false) (by simp)) fun _ => et_ne (ev_isi rfl (t2.on e2).ty (kit_t t) tq2) (ev_isi rfl (t1.on e2).ty (kit_t t) tp2) rfl (b := false) (by simp)) (fun hb => by simp at hb) fun _ H3 e3 => ?_
        have e13 := e2.trans e3
        have lx := dpa_len a1
        have ly := dpa_len a2
        refine q_when (et_neI (b := false) (ev_lenS (ev_var rfl) (t1.on e13)) (ev_lenS (ev_var rfl) (t2.on e13)) (by simp [lx, ly])) (fun hb => Bool.noConfusion hb) fun _ H4 e4 => ?_
        have e14 := e13.trans e4
        have z := el_lcR1 (t := tYes) (te := tCall (spSame K k) [] E0 (tCons (tOp (rIx K) (tVar 0) (tVar 2)) (tCons (tOp (rIx K) (tVar 1) (tVar 2)) tNil))) (j := 2) (vs := [2]) (σ := L2.start N_l_same [.ref p1, .ref p2]) (H := H4) (ta := tCons (tCB (rLenS K) (tCons (tVar 1) tNil)) tNil) (n := (ys.length : Int)) (fun _ => true) (fun i => V.bl true)
          (ea_cons (ev_lenS (ev_var rfl) (t2.on e14)) ea_nil) (by omega) (fun _ => rfl) (fun i H1 _ _ H2 _ Q2 q2 => q2 H2 (Ex.refl H2)) (fun i H5 e5 hi _ => by
            have hi' : i < ds.length := by omega
            have hd' := List.getElem?_eq_getElem hi'
            obtain ⟨x, hx, dx⟩ := dpa_at a1 hd'
            obtain ⟨y, hy, dy⟩ := dpa_at a2 hd'
            have e05 := (e1.trans e14).trans e5
            exact ev_call (ea_cons (ev_ixS (ev_var rfl) (ev_var rfl) (s1.on e05) (atI_nat hx)) (ea_cons (ev_ixS (ev_var rfl) (ev_var rfl) (s2.on e05) (atI_nat hy)) ea_nil)) fun H6 e6 Q6 q6 E6 => ⟨x, y, _, rfl, dp_mono (e05.trans e6) _ _ dx, dp_mono (e05.trans e6) _ _ dy, hd _ (List.getElem_mem hi'), q6⟩)
        rw [given_all] at z
        refine s_ret (v := .bl true) (ev_cbL (K := K) z fun p H5 e5 hp H6 e6 Q6 q6 => ?_) fun H7 e7 => q H7 ((e1.trans e14).trans e7)
        refine ⟨p, (List.range ((ys.length : Int)).toNat).map fun _ => true, rfl, ?_, ?_⟩
        · rw [List.map_map]
          exact ex_l e6 hp
        · have : ((List.range ((ys.length : Int)).toNat).map fun _ => true).all id = true := by rw [List.all_eq_true]; intro b hb; obtain ⟨_, _, rfl⟩ := List.mem_map.mp hb; rfl
          rw [this]
          exact q6 H6 (Ex.refl H6)
end
end Mh

set_option Elab.async false
set_option linter.all false
set_option maxRecDepth 100000
namespace Mh
open PySem PySem.Spec PyProof.Rows L2 Evl
/-! what is needed to show a game and a way -/
structure Shw (p w : Nat) (d : PyData) : Prop where
  sh : d.showable = true
  nd : d.hasDict = false
  dp : d.depth ≤ p
  ls : d.leavesShort 13 = true
  wt : d.weight ≤ w
structure ShA (p w : Nat) (ds : List PyData) : Prop where
  sh : PyData.showableAll ds = true
  nd : PyData.hasDictAll ds = false
  dp : PyData.depthAll ds ≤ p
  ls : PyData.leavesShortAll 13 ds = true
  wt : PyData.weightAll ds ≤ ds.length * (w + 1)
theorem sha {p w : Nat} : ∀ {ds : List PyData}, (∀ e ∈ ds, Shw p w e) → ShA p w ds
  | [], _ => ⟨rfl, rfl, Nat.zero_le _, rfl, Nat.zero_le _⟩
  | x :: r, f => by
    have hx := f x List.mem_cons_self
    have hr := sha (ds := r) fun e he => f e (List.mem_cons_of_mem _ he)
    refine ⟨?_, ?_, ?_, ?_, ?_⟩
    · simp only [PyData.showableAll, hx.sh, hr.sh, Bool.and_self]
    · simp only [PyData.hasDictAll, hx.nd, hr.nd, Bool.or_self]
    · simp only [PyData.depthAll]
      exact Nat.max_le.mpr ⟨hx.dp, hr.dp⟩
    · simp only [PyData.leavesShortAll, hx.ls, hr.ls, Bool.and_self]
    · simp only [PyData.weightAll, List.length_cons]
      have h1 := hx.wt
      have h2 := hr.wt
      rw [Nat.add_mul]
      omega
theorem shw_tup {p w n v : Nat} {ds : List PyData} (f : ∀ e ∈ ds, Shw p w e) (hn : ds.length ≤ n) (hv : n * (w + 1) ≤ v) : Shw (p + 1) v (.tuple ds) := by
  have z := sha f
  have h := Nat.mul_le_mul_right (w + 1) hn
  refine ⟨by simp only [PyData.showable]; exact z.sh, by simp only [PyData.hasDict]; exact z.nd, by simp only [PyData.depth]; exact Nat.succ_le_succ z.dp, by simp only [PyData.leavesShort]; exact z.ls, ?_⟩
  have := z.wt
  simp only [PyData.weight]
  omega
theorem shw_list {p w n v : Nat} {ds : List PyData} (f : ∀ e ∈ ds, Shw p w e) (hn : ds.length ≤ n) (hv : n * (w + 1) ≤ v) : Shw (p + 1) v (.list ds) := by
  have z := sha f
  have h := Nat.mul_le_mul_right (w + 1) hn
  refine ⟨by simp only [PyData.showable]; exact z.sh, by simp only [PyData.hasDict]; exact z.nd, by simp only [PyData.depth]; exact Nat.succ_le_succ z.dp, by simp only [PyData.leavesShort]; exact z.ls, ?_⟩
  have := z.wt
  simp only [PyData.weight]
  omega
theorem Shw.to {p w p2 w2 : Nat} {d : PyData} (h : Shw p w d) (hp : p ≤ p2) (hw : w ≤ w2) : Shw p2 w2 d := ⟨h.sh, h.nd, Nat.le_trans h.dp hp, h.ls, Nat.le_trans h.wt hw⟩
theorem shw_int {i : Int} (h : i.natAbs ≤ 1000) : Shw 0 20 (.int i) := by
  have hl : i.natAbs.log2 < 12 := by
    by_cases h0 : i.natAbs = 0
    · rw [h0]; decide
    · exact (Nat.log2_lt h0).mpr (by have : (2 : Nat) ^ 12 = 4096 := by decide
                                     omega)
  refine ⟨?_, rfl, Nat.zero_le _, ?_, ?_⟩
  · simp only [PyData.showable, decide_eq_true_eq]
    omega
  · simp only [PyData.leavesShort, decide_eq_true_eq]
    refine PyData.shown_int_le ?_
    have : (10 : Nat) ^ 12 = 1000000000000 := by decide
    omega
  · simp only [PyData.weight]
    split
    · omega
    · omega
theorem shw_nd {x : Int × Int} (h : Sml x) : Shw 1 42 (nd x) := by
  obtain ⟨h1, h2, h3⟩ := h
  refine shw_tup (p := 0) (w := 20) (n := 2) (fun e he => ?_) (by simp) (by decide)
  rcases List.mem_cons.mp he with rfl | he
  · exact shw_int h1
  · simp at he
    subst he
    exact shw_int (by omega)
theorem shw_kind {b : Br} (h : b.Ok) : Shw 0 20 (.str b.kind) := by
  have : b.kind = "draw" ∨ b.kind = "ours" ∨ b.kind = "theirs" := by
    cases b with
    | draw l => exact .inl rfl
    | pick s l => exact .inr h
  rcases this with e | e | e <;> rw [e] <;> exact ⟨rfl, rfl, Nat.zero_le _, by decide +kernel, by decide +kernel⟩
theorem shw_pl {p : Pl} (hb : p.br.Ok) (hk : Sml (nk p.k)) (hl : p.br.tgs.length ≤ 6) (ht : ∀ t ∈ p.br.tgs, 0 ≤ t ∧ t < 13) : Shw 4 1569 (plD p) := by
  have items : Shw 3 522 (.list p.br.items) := by
    cases hbr : p.br with
    | draw l =>
      rw [hbr] at hb hl ht
      refine shw_list (p := 2) (w := 86) (n := 6) (fun e he => ?_) ?_ (by decide)
      · obtain ⟨c, hc, rfl⟩ := List.mem_map.mp he
        refine shw_tup (p := 1) (w := 42) (n := 2) (fun e he => ?_) (by simp) (by decide)
        rcases List.mem_cons.mp he with rfl | he
        · exact shw_nd (hb c hc)
        · simp at he
          subst he
          have := ht c.2 (List.mem_map.mpr ⟨c, hc, rfl⟩)
          exact (shw_int (by omega)).to (by decide) (by decide)
      · show (l.map _).length ≤ 6
        have : (l.map (·.2)).length ≤ 6 := hl
        rw [List.length_map] at this ⊢
        exact this
    | pick s l =>
      rw [hbr] at hl ht
      refine shw_list (p := 2) (w := 86) (n := 6) (fun e he => ?_) ?_ (by decide)
      · obtain ⟨c, hc, rfl⟩ := List.mem_map.mp he
        have := ht c hc
        exact (shw_int (by omega)).to (by decide) (by decide)
      · show (l.map _).length ≤ 6
        rw [List.length_map]
        exact hl
  refine shw_tup (p := 3) (w := 522) (n := 3) (fun e he => ?_) (by simp) (by decide)
  simp only [List.mem_cons, List.not_mem_nil, or_false] at he
  rcases he with rfl | rfl | rfl
  · exact (shw_nd hk).to (by decide) (by decide)
  · exact (shw_kind hb).to (by decide) (by decide)
  · exact items
theorem ok_small {T : List (List Int)} (G : Good T) : ∀ {x : Int} {bs : List Int}, (0 ≤ x ∧ x < (T.length : Int)) → ok T x bs → ∀ b ∈ bs, 0 ≤ b ∧ b < 6
  | x, [], _, _, b, h => by cases h
  | x, c :: r, hx, ho, b, h => by
    rcases List.mem_cons.mp h with rfl | h
    · have := (tg_in G hx).2.1
      have := ho.1
      omega
    · exact ok_small G (stp_in G hx ho.1) ho.2 b h
theorem gm_shown {g : List Pl} (hg : GmOk g) {bs : List Int} (hb : bs.length ≤ 25) (hs : ∀ b ∈ bs, 0 ≤ b ∧ b < 6) :
    (PyData.tuple [gmD g, .list (bs.map .int)]).showable = true ∧ (PyData.tuple [gmD g, .list (bs.map .int)]).hasDict = false ∧ (PyData.tuple [gmD g, .list (bs.map .int)]).depth ≤ 60 ∧ (PyData.tuple [gmD g, .list (bs.map .int)]).shown.length ≤ sizeLine := by
  have z : Shw 6 40000 (PyData.tuple [gmD g, .list (bs.map .int)]) := by
    refine shw_tup (p := 5) (w := 18840) (n := 2) (fun e he => ?_) (by simp) (by decide)
    simp only [List.mem_cons, List.not_mem_nil, or_false] at he
    rcases he with rfl | rfl
    · refine shw_list (p := 4) (w := 1569) (n := 12) (fun e he => ?_) (by rw [List.length_map]; exact hg.len.2) (by decide)
      obtain ⟨p, hp, rfl⟩ := List.mem_map.mp he
      have hm : p.br.tgs ∈ TT g := List.mem_map.mpr ⟨p, hp, rfl⟩
      have hgd := hg.good _ hm
      rw [TT_len] at hgd
      have hlen := hg.len.2
      exact shw_pl (hg.br p hp).1 (hg.br p hp).2 hgd.2.1 fun t ht => by
        have := hgd.2.2 t ht
        omega
    · refine (shw_list (p := 0) (w := 20) (n := 25) (v := 525) (fun e he => ?_) (by rw [List.length_map]; exact hb) (by decide)).to (by decide) (by decide)
      obtain ⟨b, hb', rfl⟩ := List.mem_map.mp he
      have := hs b hb'
      exact shw_int (by omega)
  exact ⟨z.sh, z.nd, Nat.le_trans z.dp (by decide), PyData.shown_fits (B := 13) (by decide) (by decide) z.ls (Nat.le_trans z.wt (by decide))⟩
end Mh

set_option Elab.async false
set_option linter.all false
set_option maxRecDepth 100000
namespace Mh
open PySem PySem.Spec PyProof.Rows L2 Evl
/-! the entry of the law: its body is walked behind the caller's own Around, so that it is known that nothing is being shown there -/
section
variable {P : Program} {w : World} {K : PySem.W.Frag} {mg mb : Str → Option Value}
/-- a call of a def at one Around -/
theorem call_at {base : Heap} {A : Around} {outer : List Env} {s : Shared} {H : Hp} {k : Nat} {x : Str} {st : Stmt} {f : Addr} {fd : FuncData} {N ps : List Str} {args : Args} {us : List Value} {vs : List V} {Q : VK} {E : XK}
    (F : Fun K x x st f fd) (S : FnScope N ps (defScope st)) (hr : Room (k + 1) A) (e0 : Env0 P w K mg base A outer s H) (hb : BindsTo s fd args (ps.zip us)) (r : Vals vs us) (hl : vs.length = ps.length)
    (hbody : ∀ cdv : Value, Room k (A.deeper (envOfC x (defScope st) s.heap.objs.size f cdv)) → ∃ t, PSs (cxOf CX0 P w K mg base N x (defScope st) f cdv A outer s H E).nox (defBody st) t ∧ t { nx := fun _ H' => Q .non H', rt := Q } (start N vs) H) :
    codeAny (model P w) A (.call (.ref f) args) (CR CX0 outer P w H s Q E) s := by
  obtain ⟨oc, od, kV, doc, pm, an, cdv, ct, osl, rfl, lk, hcd⟩ := F.ex
  have KX : K.In s.heap := e0.mod.kin.keeps fun b o e => (e0.bs b o e).1
  have lim : s.heap.NoLimit := e0.mod.nolimit.keeps fun b o e => (e0.bs b o e).1
  have hkind : ∀ y ∈ ps.zip us, (defScope st).names.lookup y.1 = some .local ∨ ((defScope st).names.lookup y.1 = some .cell ∧ ((cellsFrom (s.heap.objs.size + 1) (defScope st).names []).lookup y.1).isSome = true) := fun ⟨n, v⟩ hy =>
    (S.par n (List.of_mem_zip hy).1).imp id fun q => ⟨q, PySem.W.cellsFrom_some _ _ _ (.inl q)⟩
  refine codeAny_call_function hr.depth (KX _ _ lk) rfl S.co S.gen rfl (PySem.W.codeRec_of KX hcd) (hb _ _ _ _ ?_)
  refine wpAny_newFunctionEnv_cells S.kind hkind fun env he s1 x => ?_
  subst he
  refine ⟨lim.keeps x.toInCall.keep, codeAny_func ?_⟩
  obtain ⟨t, ht, hq⟩ := hbody cdv (hr.deeper _)
  refine wpAny_mono (ht.nox.run [] s1 (start N vs) H _ (inv_start S hr.hd e0 hl r x) hq) (fun fl s' hs => ?_) fun e s' hs => hs
  cases fl with
  | ret u =>
    obtain ⟨v, σ', H', J, rv, q⟩ := hs
    exact ⟨v, H', J.os, J.bare, J.base, J.hok, rv, q⟩
  | next =>
    obtain ⟨σ', H', J, q⟩ := hs
    exact ⟨V.non, H', J.os, J.bare, J.base, J.hok, rfl, q⟩
  | brk =>
    obtain ⟨_, _, _, q⟩ := hs
    exact q.elim
  | cont =>
    obtain ⟨_, _, _, q⟩ := hs
    exact q.elim
/-- what the walk is given at the law's call -/
def AtLaw (P : Program) (w : World) (K : PySem.W.Frag) (mg : Str → Option Value) (s : Shared) (fa a : Addr) (ns : List Int) : Prop :=
  ∀ (base : Heap) (H : Hp), Env0 P w K mg base callerA [] s H → SqL K H a (ns.map V.int) →
    codeAny (model P w) callerA (.call (.ref fa) ⟨[.ref a], []⟩) (CR CX0 [] P w H s (fun v _ => v = .bl true) fun _ _ _ => False) s
theorem law_at {fa a : Addr} {s : Shared} {vs : List Value} {ns : List Int} (KX : K.In s.heap) (hns : s.heap.Ns mainGlobals mg) (hb : s.heap.Ns builtinsNs mb) (hbb : ∀ x : Str, x ≠ "__name__" → mb x = bootBuiltins x)
    (hlim : s.heap.NoLimit) (hg : s.gens = #[]) (ha : s.heap.get? a = some { cls := .type "list", data := .seq vs.toArray }) (hi : IntsAre vs ns) (hl : ns.length ≤ sizeLine) (F : AtLaw P w K mg s fa a ns) :
    codeAny (model P w) callerA (.call (.ref fa) ⟨[.ref a], []⟩) (fun r s' => r = .ok (.ret (.bool true)) ∧ OldK s.heap s'.heap ∧ s'.os = s.os ∧ AllBare s'.gens) s := by
  have rv := vals_ints hi
  -- H tracks the script alone, if that is none of the module's objects
  have core : ∀ H : Hp, (∀ b u, H b = some u → b = a ∧ ∃ o, u = .frz o (.lst (ns.map V.int))) → SqL K H a (ns.map V.int) → HOk P w H s.heap → (H a ≠ none → K.lookup a = none) →
      codeAny (model P w) callerA (.call (.ref fa) ⟨[.ref a], []⟩) (fun r s' => r = .ok (.ret (.bool true)) ∧ OldK s.heap s'.heap ∧ s'.os = s.os ∧ AllBare s'.gens) s := by
    intro H hA hS hok hK
    have only : ∀ {b : Addr}, b ≠ a → H b = none := fun {b} h => by
      cases q : H b with
      | none => rfl
      | some u => exact absurd (hA b u q).1 h
    have nsK : ∀ {b : Addr} {m : Str → Option Value}, s.heap.Ns b m → (hidT s.heap H).Ns b m := fun {b m} ⟨o, es, ep, e, d, r⟩ => ⟨o, es, ep, hidT_get e (only fun z => by
      subst z
      rw [ha] at e
      cases e
      cases (show Data.seq vs.toArray _ = Data.dict es ep from d)), d, r⟩
    have hKb : K.In (hidT s.heap H) := fun b o e => hidT_get (KX b o e) (by
      cases q : H b with
      | none => rfl
      | some u =>
        obtain ⟨rfl, _⟩ := hA b u q
        rw [hK (by rw [q]; simp)] at e
        cases e)
    have e0 : Env0 P w K mg (hidT s.heap H) callerA [] s H :=
      ⟨rfl, ⟨hKb, nsK hns, ⟨mb, nsK hb, hbb⟩, let ⟨mc, h1, h2⟩ := hlim; ⟨mc, nsK h1, h2⟩⟩, fun b o e => of_hidT e, Nat.le_of_eq (hidT_size _ _), trivial, fun b hb => absurd (show b ∈ ([] : List Addr) from hb) (by simp), hok, .of_eq hg⟩
    refine codeAny_mono (F _ H e0 hS) fun r s' h => ?_
    cases r with
    | error e => exact h.elim
    | ok fl =>
      cases fl with
      | next => exact h.elim
      | brk => exact h.elim
      | cont => exact h.elim
      | ret u =>
        obtain ⟨v, H', os, bare, un, hok', r', q⟩ := h
        cases (show v = .bl true from q)
        cases (show u = Value.bool true from r')
        refine ⟨rfl, OldK.of_keep fun b o e => ?_, os, bare⟩
        cases q : H b with
        | none => exact un.keep b o e q (by intro z; exact absurd (show b ∈ ([] : List Addr) from z) (by simp)) (by simp)
        | some u =>
          obtain ⟨rfl, ob, rfl⟩ := hA b u q
          obtain ⟨e1, _⟩ := hok b _ q
          obtain ⟨e2, _⟩ := hok' b _ (un.frzs b ob _ q)
          rw [e] at e1
          cases e1
          exact e2
  cases hk : K.lookup a with
  | some o =>
    have e := KX a o hk
    rw [ha] at e
    cases e
    exact core (fun _ => none) (fun _ _ z => nomatch z) (.inr ⟨_, vs.toArray, _, hk, rfl, rfl, rfl, by rw [List.size_toArray, hi.length]; exact hl, by simpa using rv⟩) (fun b u z => nomatch z) fun z => absurd rfl z
  | none =>
    refine core (fun b => if b = a then some (.frz { cls := .type "list", data := .seq vs.toArray } (.lst (ns.map V.int))) else none) (fun b u z => ?_) (.inl (.inr ⟨_, if_pos rfl⟩)) (fun b u z => ?_) fun _ => hk
    all_goals
      replace z : (if b = a then some (HO.frz { cls := Value.type "list", data := Data.seq vs.toArray } (HO.lst (List.map V.int ns))) else none) = some u := z
      by_cases h : b = a
      · rw [if_pos h] at z
        cases z
        first
          | exact ⟨h, _, rfl⟩
          | (subst h; exact ⟨ha, by rw [List.length_map]; exact hl, vs, _, rv, ha⟩)
      · rw [if_neg h] at z
        cases z
end
end Mh

set_option Elab.async false
set_option linter.all false
set_option maxRecDepth 100000
set_option maxHeartbeats 1000000
namespace Mh
open PySem PySem.Spec PyProof.Rows L2 Evl
section
variable {P : Program} {w : World} {K : PySem.W.Frag} {mg : Str → Option Value} {base : Heap} {a : Ad} {g : List Pl} {H H' H0 : Hp} {σ : L2.St} {D : Ends} {tu tw tz : TS} {ta tb te tl tv : TE} {v x y z : V} {gt : TG}
/-! ### rules -/
theorem s_asgD {i : Nat} {P : PyData → Prop} (h : EvD K H0 te σ H P) (k : ∀ v d H1, Ex H H1 → P d → Fd K d H0 v H1 → D.nx (σ.set i (some v)) H1) : tAsg te (gName i) D σ H := h H (Ex.refl H) _ fun v d H1 e p f => k v d H1 e p f
/-- a call of three whose third is a new list -/
theorem ep_call3 {sp : Sp} {dvs xs : List V} {E : XK} {v1 v2 : V} {P : Hp → V → Hp → Prop} (h1 : Ev ta σ H v1) (h2 : Ev tb σ H v2) (h : EvL tl σ H xs) (hs : ∀ p H1, Ex H H1 → SqL K H1 p xs → SpP sp ([v1, v2, .ref p] ++ dvs) H1 P)
    (back : ∀ H0 H1 v H2, Ex H0 H1 → P H1 v H2 → P H0 v H2) : EvP (tCall sp dvs E (tCons ta (tCons tb (tCons tl tNil)))) σ H P := fun H1 e Q q =>
  h1 H1 e _ fun H2 e2 => h2 H2 (e.trans e2) _ fun H3 e3 => h H3 ((e.trans e2).trans e3) _ fun p H4 hp e4 h4 =>
    hs p H4 (((e.trans e2).trans e3).trans e4) (sq_of h4) H4 (Ex.refl H4) Q (fun v H5 e5 p5 => q v H5 (((e2.trans e3).trans e4).trans e5) (back _ _ _ _ ((e2.trans e3).trans e4) p5)) E
theorem ev_call3 {sp : Sp} {dvs xs : List V} {E : XK} {v1 v2 z : V} (h1 : Ev ta σ H v1) (h2 : Ev tb σ H v2) (h : EvL tl σ H xs) (hs : ∀ p H1, Ex H H1 → SqL K H1 p xs → SpV sp ([v1, v2, .ref p] ++ dvs) H1 z) : Ev (tCall sp dvs E (tCons ta (tCons tb (tCons tl tNil)))) σ H z := fun H1 e Q q =>
  h1 H1 e _ fun H2 e2 => h2 H2 (e.trans e2) _ fun H3 e3 => h H3 ((e.trans e2).trans e3) _ fun p H4 hp e4 h4 =>
    hs p H4 (((e.trans e2).trans e3).trans e4) (sq_of h4) H4 (Ex.refl H4) Q (fun H5 e5 => q H5 (((e2.trans e3).trans e4).trans e5)) E
theorem ev_cbU {xs : List V} {z : V} {r : List V → Hp → VK → Prop} (h : EvU te σ H xs) (hr : ∀ p H1, Ex H H1 → H1 p = some (.tup xs) → RC r [.ref p] H1 z) : Ev (tCB r (tCons te tNil)) σ H z := fun H1 e Q q =>
  h H1 e _ fun p H2 _ e2 h2 => hr p H2 (e.trans e2) h2 H2 (Ex.refl H2) Q fun H3 e3 => q H3 (e2.trans e3)
/-- a list plus a new list -/
theorem el_cat {l : Addr} {xs ys : List V} (ho : Ev ta σ H (.ref l)) (hl : H l = some (.lst xs)) (h : EvL tl σ H ys) (hz : xs.length + ys.length ≤ 100000) : EvL (tOp rCat ta tl) σ H (xs ++ ys) := fun H1 e Q q =>
  ho H1 e _ fun H2 e2 => h H2 (e.trans e2) _ fun p H3 hp e3 h3 => ⟨l, p, xs, ys, rfl, rfl, ((e.trans e2).trans e3) _ _ hl, h3, sz_of hz, fun r hr => q r _ (fresh_back (e2.trans e3) hr) ((e2.trans e3).trans (Ex.new hr)) upd_same⟩
/-- a sum of two numbers, the second told on the way -/
theorem ep_plus {E : XK} {i : Nat} {j k : Int} (hv : σ[i]? = some (some v)) (n1 : Nm K j H v) (h : EvP te σ H fun _ v H2 => Nm K k H2 v) : EvP (tCall (spPlus K) [] E (tCons (tVar i) (tCons te tNil))) σ H fun _ v H2 => Nm K (j + k) H2 v := fun H1 e Q q =>
  ⟨v, hv, h H1 e _ fun u H2 e2 n2 => by
    obtain ⟨p1, rfl, s1⟩ := n1.on (e.trans e2)
    obtain ⟨p2, rfl, s2⟩ := n2
    refine ⟨p1, p2, _, _, rfl, s1, s2, nk_bd _, nk_bd _, fun p H3 hp e3 h3 => q _ H3 (e2.trans e3) ⟨p, rfl, ?_⟩⟩
    rw [numb_add rfl rfl] at h3
    exact st_of h3⟩
theorem nm_dp {k : Int} (h : Nm K k H v) : Dp K H v (nd (nk k)) := by
  obtain ⟨p, rfl, s⟩ := h
  exact .tup s (.cons (.int _) (.cons (.int _) .nil))
theorem fl_nd (k : Nat) (x : Int × Int) : Fl (k + 2) (nd x) := .inr ⟨_, .inr rfl, by simp, fun e he => by
  simp only [List.mem_cons, List.not_mem_nil, or_false] at he
  rcases he with rfl | rfl
  · exact .inl ⟨_, rfl⟩
  · exact .inl ⟨_, rfl⟩⟩
/-- the comparison of a number that is told on the way -/
theorem ev_sameN {E : XK} {i : Nat} {k : Int} {m : Nat} (hv : σ[i]? = some (some v)) (n1 : Nm K k H v) (h : EvP te σ H fun _ v H2 => Nm K k H2 v) : Ev (tCall (spSame K (m + 2)) [] E (tCons te (tCons (tVar i) tNil))) σ H (.bl true) := fun H1 e Q q =>
  h H1 e _ fun u H2 e2 n2 => ⟨v, hv, u, v, _, rfl, nm_dp n2, nm_dp (n1.on (e.trans e2)), fl_nd m _, fun H3 e3 => q H3 (e2.trans e3)⟩

/-! ### an unrolled way as data -/
def ciD (c : Int × List Int) : PyData := .tuple [.int c.1, .list (c.2.map .int)]
def unD (path : List Int) (cs : List (Int × List Int)) : PyData := .tuple [.list (path.map .int), .list (cs.map ciD)]
theorem cs_dp : ∀ {rs : List V} {cs : List (Int × List Int)}, CsG H rs cs → DpAll K H rs (cs.map ciD)
  | [], [], _ => .nil
  | [], c :: cs, h => by have := h.1; simp at this
  | r :: rs, [], h => by have := h.1; simp at this
  | r :: rs, c :: cs, h => by
    obtain ⟨u, b, h1, h2, h3⟩ := h.2 0 c rfl
    simp at h1
    subst h1
    refine .cons (.tup (st_of h2) (.cons (.int _) (.cons (.lst (sq_of h3) (dpa_ints _)) .nil))) (cs_dp ⟨by have := h.1; simpa using this, fun i c' z => ?_⟩)
    obtain ⟨u', b', k1, k2, k3⟩ := h.2 (i + 1) c' (by simpa using z)
    exact ⟨u', b', by simpa using k1, k2, k3⟩
theorem un_dp {t p c : Addr} {rs : List V} {path : List Int} {cs : List (Int × List Int)} (h : UnAt H H' t p c rs path cs) : Dp K H' (.ref t) (unD path cs) := by
  obtain ⟨G, e, _, f⟩ := h.gs
  exact .tup (st_of h.at_) (.cons (.lst (sq_of h.ap) (dpa_ints _)) (.cons (.lst (sq_of h.ac) (cs_dp (f.on e))) .nil))
theorem un_fl {path : List Int} {cs : List (Int × List Int)} (h1 : path.length ≤ 10000) (h2 : cs.length ≤ 10000) (h3 : ∀ c ∈ cs, c.2.length ≤ 10000) : Fl 4 (unD path cs) := by
  refine .inr ⟨_, .inr rfl, by simp, fun e he => ?_⟩
  simp only [List.mem_cons, List.not_mem_nil, or_false] at he
  rcases he with rfl | rfl
  · refine .inr ⟨_, .inl rfl, by rw [List.length_map]; exact h1, fun e he => ?_⟩
    obtain ⟨i, _, rfl⟩ := List.mem_map.mp he
    exact .inl ⟨i, rfl⟩
  · refine .inr ⟨_, .inl rfl, by rw [List.length_map]; exact h2, fun e he => ?_⟩
    obtain ⟨c, hc, rfl⟩ := List.mem_map.mp he
    refine .inr ⟨_, .inr rfl, by simp, fun e he => ?_⟩
    simp only [List.mem_cons, List.not_mem_nil, or_false] at he
    rcases he with rfl | rfl
    · exact .inl ⟨_, rfl⟩
    · refine .inr ⟨_, .inl rfl, by rw [List.length_map]; exact h3 c hc, fun e he => ?_⟩
      obtain ⟨i, _, rfl⟩ := List.mem_map.mp he
      exact ⟨i, rfl⟩
theorem mem_sum {α : Type} {f : α → Nat} : ∀ {l : List α} {c : α}, c ∈ l → f c ≤ (l.map f).sum
  | x :: r, c, h => by
    simp only [List.map_cons, List.sum_cons]
    rcases List.mem_cons.mp h with rfl | h
    · omega
    · have := mem_sum (f := f) h
      omega

/-! ### the ring -/
def ringP (i : Nat) : Pl := ⟨420 * (i : Int), .pick "theirs" [((i : Int) + 1) % 12, ((i : Int) + 1) % 12, ((i : Int) + 1) % 12, 0]⟩
def ringG : List Pl := (List.range 12).map ringP
theorem nk_whole (i : Int) : nk (420 * i) = (i, 1) := by
  have h : nk (420 * i) = numb i 1 := numb_eq (by decide) (by decide) (by rw [Int.mul_one, Int.mul_comm])
  rw [h]
  unfold numb
  have : Nat.gcd i.natAbs (1 : Int).natAbs = 1 := Nat.gcd_one_right _
  rw [this]
  simp
theorem ringP_D (i : Nat) : plD (ringP i) = .tuple [.tuple [.int (i : Int), .int 1], .str "theirs", .list ([((i : Int) + 1) % 12, ((i : Int) + 1) % 12, ((i : Int) + 1) % 12, 0].map .int)] := by
  show PyData.tuple [nd (nk (420 * (i : Int))), _, _] = _
  rw [nk_whole]
  rfl
theorem ring_ok : GmOk ringG := by
  refine ⟨?_, by decide, fun p hp => ?_⟩
  · unfold Good
    decide +kernel
  · obtain ⟨i, hi, rfl⟩ := List.mem_map.mp hp
    have := List.mem_range.mp hi
    refine ⟨.inr rfl, ?_⟩
    show Sml (nk (420 * (i : Int)))
    rw [nk_whole]
    refine ⟨?_, ?_, ?_⟩
    · show ((i : Int)).natAbs ≤ 1000
      omega
    · show (0 : Int) < 1
      decide
    · show (1 : Int) ≤ 1000
      decide
theorem ring_of {ds : List PyData} (hl : ds.length = 12) (h : ∀ (i : Nat) d, ds[i]? = some d → d = plD (ringP i)) : PyData.list ds = gmD ringG := by
  unfold gmD ringG
  congr 1
  rw [List.map_map]
  apply List.ext_getElem?
  intro i
  rw [List.getElem?_map]
  rcases Nat.lt_or_ge i 12 with hi | hi
  · rw [List.getElem?_range hi, List.getElem?_eq_getElem (by omega)]
    have := h i _ (List.getElem?_eq_getElem (by omega))
    rw [this]
    rfl
  · rw [List.getElem?_eq_none (by omega), List.getElem?_eq_none (by rw [List.length_range]; exact hi)]
    rfl

/-! ### the lists of the told circles, which grow -/
/-- circles whose lists may have grown: each is a list of at most so many that was not there at H0, and is none of ex -/
def CsM (H0 H : Hp) (ex : List Addr) (rs : List V) (n : Nat) : Prop := ∀ (j : Nat) x, rs[j]? = some x → ∃ (u b : Addr) (k : Int) (ys : List V), x = .ref u ∧ H u = some (.tup [.int k, .ref b]) ∧ H b = some (.lst ys) ∧ ys.length ≤ n ∧ H0 b = none ∧ b ∉ ex
theorem CsM.on {ex : List Addr} {rs : List V} {n m : Nat} (h : CsM H0 H ex rs n) (e : Ex H H') (hm : n ≤ m) : CsM H0 H' ex rs m := fun j x z => by
  obtain ⟨u, b, k, ys, h1, h2, h3, h4, h5⟩ := h j x z
  exact ⟨u, b, k, ys, h1, e _ _ h2, e _ _ h3, by omega, h5⟩
theorem CsM.more {ex : List Addr} {rs : List V} {n : Nat} {q : Addr} (h : CsM H0 H ex rs n) (hq : H q = none) : CsM H0 H (q :: ex) rs n := fun j x z => by
  obtain ⟨u, b, k, ys, h1, h2, h3, h4, h5, h6⟩ := h j x z
  refine ⟨u, b, k, ys, h1, h2, h3, h4, h5, fun hm => ?_⟩
  rcases List.mem_cons.mp hm with rfl | hm
  · rw [hq] at h3
    cases h3
  · exact h6 hm
theorem CsM.grow {ex : List Addr} {b : Addr} {rs : List V} {n : Nat} {ys : List V} {v : V} (h : CsM H0 H ex rs n) (hb : H b = some (.lst ys)) (hy : ys.length ≤ n) : CsM H0 (upd H b (.lst (ys ++ [v]))) ex rs (n + 1) := fun j x z => by
  obtain ⟨u, b', k, zs, h1, h2, h3, h4, h5⟩ := h j x z
  have hu : u ≠ b := fun q => by
    rw [q, hb] at h2
    cases h2
  by_cases hz : b' = b
  · subst hz
    exact ⟨u, b', k, _, h1, by rw [upd_ne hu]; exact h2, upd_same, by rw [List.length_append]; simp; omega, h5⟩
  · exact ⟨u, b', k, zs, h1, by rw [upd_ne hu]; exact h2, by rw [upd_ne hz]; exact h3, by omega, h5⟩
theorem csm_of {t p c : Addr} {rs : List V} {path : List Int} {cs : List (Int × List Int)} {n : Nat} (h : UnAt H H' t p c rs path cs) (hn : ∀ x ∈ cs, x.2.length ≤ n) : CsM H H' [p, c] rs n := fun j x z => by
  obtain ⟨G, e, f, hl, g⟩ := h.gs
  have hj : j < cs.length := by
    have := (List.getElem?_eq_some_iff.mp z).1
    omega
  obtain ⟨u, b, h1, h2, h3⟩ := g j cs[j] (List.getElem?_eq_getElem hj)
  rw [z] at h1
  cases h1
  obtain ⟨f1, f2, f3⟩ := f b _ h3
  refine ⟨u, b, _, _, rfl, e _ _ h2, e _ _ h3, by rw [List.length_map]; exact hn _ (List.getElem_mem hj), f1, fun hm => ?_⟩
  simp only [List.mem_cons, List.not_mem_nil, or_false] at hm
  rcases hm with hm | hm
  · exact f2 hm
  · exact f3 hm
theorem un_len {t p c : Addr} {rs : List V} {path : List Int} {cs : List (Int × List Int)} (h : UnAt H H' t p c rs path cs) : rs.length = cs.length := by
  obtain ⟨G, e, f, hl, g⟩ := h.gs
  exact hl
/-- what an unrolled way is told by, as what a call gives -/
def UnP (path : List Int) (cs : List (Int × List Int)) (H1 : Hp) (v : V) (H2 : Hp) : Prop := ∃ (t p c : Addr) (rs : List V), v = .ref t ∧ UnAt H1 H2 t p c rs path cs
theorem unp_back {path : List Int} {cs : List (Int × List Int)} : ∀ (H0 H1 : Hp) (v : V) (H2 : Hp), Ex H0 H1 → UnP path cs H1 v H2 → UnP path cs H0 v H2 := fun H0 H1 v H2 e u => by
  obtain ⟨t, p, c, rs, rfl, u⟩ := u
  obtain ⟨G, g1, g2, g3⟩ := u.gs
  exact ⟨t, p, c, rs, rfl, e.trans u.ex, fresh_back e u.nt, fresh_back e u.np, fresh_back e u.nc, u.pc, u.at_, u.ap, u.ac, G, g1, fun b o z => ⟨fresh_back e (g2 b o z).1, (g2 b o z).2⟩, g3⟩

/-! ### l[k] in l[:k] -/
theorem el_upto {W : List Int} {p : Addr} {i j k : Nat} (hi : σ[i]? = some (some (.ref p))) (hj : σ[j]? = some (some (.int (k : Int)))) (hp : SqL K H p (W.map V.int)) : EvL (tSl (rSlL K) (tVar i) tNoPart (tPart (tVar j))) σ H ((W.take k).map V.int) := by
  have z := el_sl (K := K) (tl := tNoPart) (th := tPart (tVar j)) (te := tVar i) (lo := none) (hi := some (k : Int)) (ev_var hi) eo_none (eo_some (ev_var hj)) hp
  rw [cut_to, ← List.map_take] at z
  exact z
theorem ev_inUpto {W : List Int} {p : Addr} {i j k : Nat} {y : Int} (hi : σ[i]? = some (some (.ref p))) (hj : σ[j]? = some (some (.int (k : Int)))) (hp : SqL K H p (W.map V.int)) (hy : W[k]? = some y) (hn : y ∉ W.take k) :
    Ev (tOp (rIn K false) (tOp (rIx K) (tVar i) (tVar j)) (tSl (rSlL K) (tVar i) tNoPart (tPart (tVar j)))) σ H (.bl false) :=
  ev_is (ev_opL (ev_ixL (ev_var hi) (ev_var hj) hp (atI_nat (by rw [List.getElem?_map, hy]; rfl))) (el_upto hi hj hp) fun q H1 h1 _ => rv_isI (n := y) (sq_of h1)) (by rw [decide_eq_false hn])
theorem ev_niUpto {W : List Int} {p : Addr} {i j k : Nat} {y : Int} (hi : σ[i]? = some (some (.ref p))) (hj : σ[j]? = some (some (.int (k : Int)))) (hp : SqL K H p (W.map V.int)) (hy : W[k]? = some y) (hn : y ∉ W.take k) :
    Ev (tOp (rIn K true) (tOp (rIx K) (tVar i) (tVar j)) (tSl (rSlL K) (tVar i) tNoPart (tPart (tVar j)))) σ H (.bl true) :=
  ev_is (ev_opL (ev_ixL (ev_var hi) (ev_var hj) hp (atI_nat (by rw [List.getElem?_map, hy]; rfl))) (el_upto hi hj hp) fun q H1 h1 _ => rv_niI (n := y) (sq_of h1)) (by rw [decide_eq_false hn]; rfl)
theorem nodup_upto : ∀ {W : List Int} {k : Nat} {y : Int}, W.Nodup → W[k]? = some y → y ∉ W.take k
  | [], _, _, _, h => by simp at h
  | w :: W, 0, y, _, _ => by simp
  | w :: W, k + 1, y, hn, h => by
    rw [List.nodup_cons] at hn
    have h' : W[k]? = some y := by simpa using h
    rw [List.take_succ_cons, List.mem_cons]
    rintro (rfl | hm)
    · exact hn.1 (List.mem_of_getElem? h')
    · exact nodup_upto hn.2 h' hm
theorem drop_upto {W : List Int} {k : Nat} {y : Int} (hn : W.dropLast.Nodup) (hk : k + 1 < W.length) (h : W[k]? = some y) : y ∉ W.take k := by
  have h1 : W.dropLast[k]? = some y := by
    rw [List.dropLast_eq_take, List.getElem?_take_of_lt (by omega)]
    exact h
  have h2 := nodup_upto hn h1
  rw [List.dropLast_eq_take, List.take_take, Nat.min_eq_left (by omega)] at h2
  exact h2
theorem any_false (n : Nat) : ((List.range n).map fun _ => false).any id = false := by
  rw [List.any_eq_false]
  intro b hb
  obtain ⟨_, _, rfl⟩ := List.mem_map.mp hb
  simp
end
end Mh

set_option Elab.async false
set_option linter.all false
set_option maxRecDepth 100000
set_option maxHeartbeats 4000000
namespace Mh
open PySem PySem.Spec PyProof.Rows L2 Evl
section
variable {P : Program} {w : World} {K : PySem.W.Frag} {mg : Str → Option Value} {base : Heap} {a : Ad}
theorem law_body (T : Txt K mg a) (N : NbTxt P K mg a.C a.fI) {f : Addr} {cdv : Value} {A : Around} {outer : List Env} {s : Shared} {H : Hp} {sc : Addr} {ns : List Int} (hg : (A.deeper (envOfC "law" (defScope s_law) s.heap.objs.size f cdv)).guards = some [])
    (hr : Room 8 (A.deeper (envOfC "law" (defScope s_law) s.heap.objs.size f cdv))) (hs : SqL K H sc (ns.map V.int)) (hl : ns.length ≤ 1000) :
    ∃ t, PSs (cxOf CX0 P w K mg base N_law "law" (defScope s_law) f cdv A outer s H E0).nox (defBody s_law) t ∧ t { nx := fun _ _ => V.non = V.bl true, rt := fun v _ => v = V.bl true } (L2.start N_law [.ref sc]) H := by
  have G_l_draws := ok_l_draws (P := P) (w := w) (base := base) T
  have b_l_draws := bd_l_draws T.l_draws
  have G_l_game := ok_l_game (P := P) (w := w) (base := base) T
  have b_l_game := bd_l_game T.l_game
  have G_l_way := ok_l_way (P := P) (w := w) (base := base) T
  have b_l_way := bd_l_way T.l_way
  have G_l_unrolled := ok_l_unrolled (P := P) (w := w) (base := base) T
  have b_l_unrolled := bd_l_unrolled T.l_unrolled
  have G_unrolled := ok_unrolled (P := P) (w := w) (base := base) T N
  have b_unrolled := bd_unrolled T.unrolled
  have G_l_same := ok_l_same (P := P) (w := w) (base := base) T 4
  have b_l_same := bd_l_same T.l_same
  have G_l_refused := ok_l_refused (P := P) (w := w) (base := base) T N
  have b_l_refused := bd_l_refused T.l_refused
  have G_l_places := ok_l_places (P := P) (w := w) (base := base) T
  have b_l_places := bd_l_places T.l_places
  have G_sum_of := ok_sum_of (P := P) (w := w) (base := base) T N
  have b_sum_of := bd_sum_of T.sum_of
  have G_l_plus := ok_l_plus (P := P) (w := w) (base := base) T
  have b_l_plus := bd_l_plus T.l_plus
  have hu := hr.units
  refine ⟨_, (pss_cons (ps_set (i := 1) sc_law.nd rfl (Or.inl rfl) (pe_call G_l_draws (hr.mono (by decide)) (by rfl) T.l_draws.g T.l_draws.kp b_l_draws .nil pass0 (pa_cons (pv 0) (pa_cons pe_int pa_nil))))
 (pss_cons (ps_set (i := 2) sc_law.nd rfl (Or.inl rfl) (pe_call G_l_game (hr.mono (by decide)) (by rfl) T.l_game.g T.l_game.kp b_l_game .nil pass0 (pa_cons (pv 1) (pa_cons pe_int pa_nil))))
 (pss_cut (ps_if (pt_cmpR op_eq (pe_op op_mod (pe_callTy call_int1 (by rfl) T.z_int (by decide +kernel) (pa_cons (pe_ix ix_seq (pv 1) pe_int (fun _ _ => rfl)) pa_nil)) pe_int) pe_int (nomark _))
 (pss_one (ps_setLc (i := 2) (own := [("_law_k", 3)]) (g := gName 3) (tt := tYes) (te := tTup (tCons (tTup (tCons (tVar 3) (tCons (iC 1) tNil))) (tCons (tC (.str "theirs")) (tCons (tLst (tCons (oMod (cInt (oAdd (tVar 3) (iC 1))) (iC 12)) (tCons (oMod (cInt (oAdd (tVar 3) (iC 1))) (iC 12)) (tCons (oMod (cInt (oAdd (tVar 3) (iC 1))) (iC 12)) (tCons (iC 0) tNil))))) tNil)))) rfl sc_law.nd rfl rfl (sw_true rfl rfl rfl (by decide +kernel))  (pi_range1 (by rfl) T.z_range (pa_cons pe_int pa_nil)) (blkOk_by (N := N_law) (sc := defScope s_law) (by decide +kernel)) (fun _ _ _ _ _ => (pg_name (i := 3) sc_law.nd rfl (Or.inl rfl))) (fun _ _ _ _ _ => pts_nil) (fun _ _ _ _ _ => by exact (pe_tup (pa_cons (pe_tup (pa_cons (pv 3) (pa_cons pe_int pa_nil))) (pa_cons pe_str (pa_cons (pe_lst (pa_cons (pe_op op_mod (pe_callTy call_int1 (by rfl) T.z_int (by decide +kernel) (pa_cons (pe_op op_add (pv 3) pe_int) pa_nil)) pe_int) (pa_cons (pe_op op_mod (pe_callTy call_int1 (by rfl) T.z_int (by decide +kernel) (pa_cons (pe_op op_add (pv 3) pe_int) pa_nil)) pe_int) (pa_cons (pe_op op_mod (pe_callTy call_int1 (by rfl) T.z_int (by decide +kernel) (pa_cons (pe_op op_add (pv 3) pe_int) pa_nil)) pe_int) (pa_cons pe_int pa_nil))))) pa_nil)))))))
 pss_nil)
 (pss_cons (ps_set (i := 4) sc_law.nd rfl (Or.inl rfl) (pe_op op_mod (pe_callTy call_int1 (by rfl) T.z_int (by decide +kernel) (pa_cons (pe_ix ix_seq (pv 1) pe_int (fun _ _ => rfl)) pa_nil)) (pe_callB crLen (by rfl) T.z_len (by decide +kernel) (pa_cons (pv 2) pa_nil))))
 (pss_cons (ps_set (i := 5) sc_law.nd rfl (Or.inl rfl) (pe_call G_l_way (hr.mono (by decide)) (by rfl) T.l_way.g T.l_way.kp b_l_way .nil pass0 (pa_cons (pv 2) (pa_cons (pv 4) (pa_cons (pe_slice sl_list (pv 1) (po_some pe_int) (po_some (pe_op op_add pe_int (pe_op op_mod (pe_callTy call_int1 (by rfl) T.z_int (by decide +kernel) (pa_cons (pe_ix ix_seq (pv 1) pe_int (fun _ _ => rfl)) pa_nil)) pe_int)))) pa_nil)))))
 (pss_cons (ps_set (i := 6) sc_law.nd rfl (Or.inl rfl) (pe_callB (crRepr hg hu) (by rfl) T.z_repr (by decide +kernel) (pa_cons (pe_tup (pa_cons (pv 2) (pa_cons (pv 5) pa_nil))) pa_nil)))
 (pss_cons (ps_set (i := 7) sc_law.nd rfl (Or.inl rfl) (pe_call G_l_unrolled (hr.mono (by decide)) (by rfl) T.l_unrolled.g T.l_unrolled.kp b_l_unrolled .nil pass0 (pa_cons (pv 2) (pa_cons (pv 4) (pa_cons (pv 5) pa_nil)))))
 (pss_cons (ps_for PassesOwn.never rfl (pi_range1 (by rfl) T.z_range (pa_cons pe_int pa_nil)) (pg_name (i := 8) sc_law.nd rfl (Or.inl rfl))
 (pss_cons (ps_set (i := 9) sc_law.nd rfl (Or.inl rfl) (pe_call G_unrolled (hr.mono (by decide)) (by rfl) T.unrolled.g T.unrolled.kp b_unrolled .nil passL (pa_cons (pv 2) (pa_cons (pv 4) (pa_cons (pv 5) pa_nil)))))
 (pss_cons (ps_if (pt_not (pt_val (pe_call G_l_same (hr.mono (by decide)) (by rfl) T.l_same.g T.l_same.kp b_l_same .nil pass0 (pa_cons (pv 9) (pa_cons (pv 7) pa_nil)))))
 (pss_one (ps_ret pe_bl))
 pss_nil)
 (pss_cons (ps_for PassesOwn.never rfl (pi_list (pe_callTy crList (by rfl) T.z_list (by decide +kernel) (pa_cons (pe_ix ix_seq (pv 9) pe_int (fun _ _ => rfl)) pa_nil))) (pg_tup rfl (pgs_cons (pg_name (i := 10) sc_law.nd rfl (Or.inl rfl)) (pgs_cons (pg_name (i := 11) sc_law.nd rfl (Or.inl rfl)) pgs_nil)))
 (pss_one (ps_expr (pe_bm PySem.F.plainAttrs_list PySem.F.slot_list_append PySem.F.type_list_append mt_append (pv 11) (pa_cons pe_int pa_nil)))))
 (pss_cons (ps_expr (pe_bm PySem.F.plainAttrs_list PySem.F.slot_list_append PySem.F.type_list_append mt_append (pe_ix ix_seq (pv 9) pe_int (fun _ _ => rfl)) (pa_cons pe_int pa_nil)))
 (pss_one (ps_expr (pe_bm PySem.F.plainAttrs_list PySem.F.slot_list_append PySem.F.type_list_append mt_append (pe_ix ix_seq (pv 9) pe_int (fun _ _ => rfl)) (pa_cons pe_non pa_nil)))))))))
 (pss_cons (ps_if (pt_cmpR op_ne (pe_call G_l_refused (hr.mono (by decide)) (by rfl) T.l_refused.g T.l_refused.kp b_l_refused .nil pass0 (pa_cons (pv 2) (pa_cons (pv 4) (pa_cons (pe_op op_cat (pv 5) (pe_lst (pa_cons pe_int (pa_cons (pe_un un_neg pe_int) pa_nil)))) pa_nil)))) (pe_callB crLen (by rfl) T.z_len (by decide +kernel) (pa_cons (pv 5) pa_nil)) (nomark _))
 (pss_one (ps_ret pe_bl))
 pss_nil)
 (pss_cons (ps_asg (pv 7) (pg_tup rfl (pgs_cons (pg_name (i := 12) sc_law.nd rfl (Or.inl rfl)) (pgs_cons (pg_name (i := 13) sc_law.nd rfl (Or.inl rfl)) pgs_nil))))
 (pss_cons (ps_set (i := 14) sc_law.nd rfl (Or.inr rfl) (pe_call G_l_places (hr.mono (by decide)) (by rfl) T.l_places.g T.l_places.kp b_l_places .nil pass0 (pa_cons (pv 2) (pa_cons (pv 4) (pa_cons (pv 12) pa_nil)))))
 (pss_cons (ps_if (pt_cmpR op_ne (pe_callB crLen (by rfl) T.z_len (by decide +kernel) (pa_cons (pv 14) pa_nil)) (pe_callB crLen (by rfl) T.z_len (by decide +kernel) (pa_cons (pe_lc (own := [("_law_k", 3)]) (g := gName 3) (tt := tTest (tOp (rIn K true) (tOp (rIx K) (tVar 14) (tVar 3)) (tSl (rSlL K) (tVar 14) tNoPart (tPart (tVar 3))))) (te := tVar 3) rfl sc_law.nd  (pi_range1 (by rfl) T.z_range (pa_cons (pe_callB crLen (by rfl) T.z_len (by decide +kernel) (pa_cons (pv 14) pa_nil)) pa_nil)) (blkOk_by (N := N_law) (sc := defScope s_law) (by decide +kernel)) (fun _ _ _ _ _ => (pg_name (i := 3) sc_law.nd rfl (Or.inl rfl))) (fun _ _ _ _ _ => by exact (pts_one (pt_cmpR op_notIn_seq (pe_ix ix_seq (pv 14) (pv 3) (fun _ _ => rfl)) (pe_slice sl_list (pv 14) po_none (po_some (pv 3))) (by rfl)))) (fun _ _ _ _ _ => (pv 3))) pa_nil)) (nomark _))
 (pss_one (ps_ret pe_bl))
 pss_nil)
 (pss_cons (ps_set (i := 15) sc_law.nd rfl (Or.inl rfl) (pe_call G_sum_of (hr.mono (by decide)) (by rfl) T.sum_of.g T.sum_of.kp b_sum_of .nil pass0 (pa_cons (pv 2) (pa_cons (pv 4) (pa_cons (pv 12) pa_nil)))))
 (pss_cons (ps_set (i := 16) sc_law.nd rfl (Or.inl rfl) (pe_callB crLen (by rfl) T.z_len (by decide +kernel) (pa_cons (pv 12) pa_nil)))
 (pss_cons (ps_for PassesOwn.never rfl (pi_list (pv 13)) (pg_tup rfl (pgs_cons (pg_name (i := 10) sc_law.nd rfl (Or.inl rfl)) (pgs_cons (pg_name (i := 11) sc_law.nd rfl (Or.inl rfl)) pgs_nil)))
 (pss_cons (ps_set (i := 17) sc_law.nd rfl (Or.inr rfl) (pe_call G_l_places (hr.mono (by decide)) (by rfl) T.l_places.g T.l_places.kp b_l_places .nil pass0 (pa_cons (pv 2) (pa_cons (pv 10) (pa_cons (pv 11) pa_nil)))))
 (pss_cons (ps_if (PW.pt (pw_or (pt_cmpR op_ne (pe_ix ix_seq (pv 17) (pe_un un_neg pe_int) (fun _ _ => rfl)) (pv 10) (nomark _)) (pw_or1 (pt_val (pe_callB (cr_any rfl) (by rfl) T.z_any (by decide +kernel) (pa_cons (pe_lc (own := [("_law_k", 3)]) (g := gName 3) (tt := tYes) (te := tOp (rIn K false) (tOp (rIx K) (tVar 17) (tVar 3)) (tSl (rSlL K) (tVar 17) tNoPart (tPart (tVar 3)))) rfl sc_law.nd  (pi_range1 (by rfl) T.z_range (pa_cons (pe_callB crLen (by rfl) T.z_len (by decide +kernel) (pa_cons (pv 11) pa_nil)) pa_nil)) (blkOk_by (N := N_law) (sc := defScope s_law) (by decide +kernel)) (fun _ _ _ _ _ => (pg_name (i := 3) sc_law.nd rfl (Or.inl rfl))) (fun _ _ _ _ _ => pts_nil) (fun _ _ _ _ _ => by exact (pe_cmpR op_in_seq (pe_ix ix_seq (pv 17) (pv 3) (fun _ _ => rfl)) (pe_slice sl_list (pv 17) po_none (po_some (pv 3))) (by rfl)))) pa_nil))))))
 (pss_one (ps_ret pe_bl))
 pss_nil)
 (pss_cons (ps_set (i := 15) sc_law.nd rfl (Or.inl rfl) (pe_call G_l_plus (hr.mono (by decide)) (by rfl) T.l_plus.g T.l_plus.kp b_l_plus .nil pass0 (pa_cons (pv 15) (pa_cons (pe_call G_sum_of (hr.mono (by decide)) (by rfl) T.sum_of.g T.sum_of.kp b_sum_of .nil pass0 (pa_cons (pv 2) (pa_cons (pv 10) (pa_cons (pv 11) pa_nil)))) pa_nil))))
 (pss_one (ps_set (i := 16) sc_law.nd rfl (Or.inl rfl) (pe_op op_add (pv 16) (pe_callB crLen (by rfl) T.z_len (by decide +kernel) (pa_cons (pv 11) pa_nil)))))))))
 (pss_one (ps_ret (pe_and (pe_cmpR op_eq (pv 16) (pe_callB crLen (by rfl) T.z_len (by decide +kernel) (pa_cons (pv 5) pa_nil)) (nomark _)) (pe_and (pe_call G_l_same (hr.mono (by decide)) (by rfl) T.l_same.g T.l_same.kp b_l_same .nil pass0 (pa_cons (pe_call G_sum_of (hr.mono (by decide)) (by rfl) T.sum_of.g T.sum_of.kp b_sum_of .nil pass0 (pa_cons (pv 2) (pa_cons (pv 4) (pa_cons (pv 5) pa_nil)))) (pa_cons (pv 15) pa_nil))) (pe_one (pe_cmpR op_eq (pe_callB (crRepr hg hu) (by rfl) T.z_repr (by decide +kernel) (pa_cons (pe_tup (pa_cons (pv 2) (pa_cons (pv 5) pa_nil))) pa_nil)) (pv 6) (nomark _)))))))))))))))))))))), ?_⟩
  -- the draws, the game
  refine q_asgP (P := fun H1 v H2 => ∃ (ds : List Int) (p : Addr), v = .ref p ∧ ds.length = 140 ∧ Dr ds ∧ H2 p = some (.lst (ds.map V.int))) (ep_call (ea_cons (ev_var rfl) (ea_cons ev_c ea_nil)) (fun H1 e1 Q q E => ⟨sc, 140, ns, rfl, ex_l e1 hs, hl, by decide, fun ds hd hD p H2 hp e2 h2 => q _ H2 e2 ⟨ds, p, rfl, by omega, hD, h2⟩⟩) (fun _ _ _ _ _ h => h)) fun v H1 e1 p => ?_
  obtain ⟨ds, dp, rfl, hdl, hDr, hd1⟩ := p
  refine q_asgP (P := fun H1 v H2 => ∃ (g : List Pl) (gl : Addr), v = .ref gl ∧ GmOk g ∧ Dp K H2 (.ref gl) (gmD g)) (ep_call (ea_cons (ev_var rfl) (ea_cons ev_c ea_nil)) (fun H2 e2 Q q E => ⟨dp, ds, rfl, sq_of (e2 _ _ hd1), by omega, hDr, fun v g H3 e3 hg f => by
    obtain ⟨gl, _, _, _, rfl, _⟩ := gm_at f.dp
    exact q _ H3 e3 ⟨g, gl, rfl, hg, f.dp⟩⟩) (fun _ _ _ _ _ h => h)) fun v H2 e2 p => ?_
  obtain ⟨g0, gl0, rfl, hg0, hgd0⟩ := p
  have hd2 : SqL K H2 dp (ds.map V.int) := sq_of (e2 _ _ hd1)
  have dg : ∀ {H1 : Hp}, Ex H2 H1 → ∀ {j : Nat}, j < 140 → ∀ {σ : L2.St}, σ[1]? = some (some (.ref dp)) → Ev (cInt (tOp (rIx K) (tVar 1) (iC (j : Int)))) σ H1 (.int (ds.getD j 0)) := fun e _ hj _ hσ => ev_int (ev_ixL (ev_var hσ) ev_c (ex_l e hd2) (int_get (by omega)))
  refine q_cut (M := fun σ' H' => ∃ (g : List Pl) (gl : Addr), σ' = [some (.ref sc), some (.ref dp), some (.ref gl), none, none, none, none, none, none, none, none, none, none, none, none, none, none, none] ∧ Ex H2 H' ∧ GmOk g ∧ Dp K H' (.ref gl) (gmD g)) ?_ (fun σ' H' p => ?_)
  · refine s_when (et_eqI (ev_mod (dg (j := 132) (Ex.refl H2) (by decide) rfl) ev_c (by decide)) ev_c rfl) (fun _ H3 e3 => ?_) (fun _ H3 e3 => ⟨g0, gl0, rfl, e3, hg0, dp_mono e3 _ _ hgd0⟩)
    refine s_asgD (K := K) (H0 := H3) (ed_lcR (P := fun i d => d = plD (ringP i)) (n := 12) (Ex.refl H3) (ea_cons ev_c ea_nil) (by decide) (fun _ => rfl) (fun i H4 e4 hi => ?_)) fun v d H4 e4 pd fd => ?_
    · have m12 : Ev (oMod (cInt (oAdd (tVar 3) (iC 1))) (iC 12)) ((wipe [some (.ref sc), some (.ref dp), some (.ref gl0), none, none, none, none, none, none, none, none, none, none, none, none, none, none, none] [3]).set 3 (some (.int (i : Int)))) H4 (.int (((i : Int) + 1) % 12)) := ev_mod (ev_int (ev_add (ev_var rfl) ev_c)) ev_c (by decide)
      refine ed_imp (ed_tup (Ex.refl H4) (eda_cons (ed_intsU (ns := [(i : Int), 1]) (Ex.refl H4) (eu_tup (ea_cons (ev_var rfl) (ea_cons ev_c ea_nil)) (by simp))) (eda_cons (ed_str ev_c) (eda_cons (ed_intsL (ns := [((i : Int) + 1) % 12, ((i : Int) + 1) % 12, ((i : Int) + 1) % 12, 0]) (Ex.refl H4) (el_lst (ea_cons m12 (ea_cons m12 (ea_cons m12 (ea_cons ev_c ea_nil)))) (by simp))) eda_nil))) ?_) ?_
      · rintro _ ⟨_, _, rfl, rfl, _, _, rfl, rfl, _, _, rfl, rfl, rfl⟩
        simp
      · rintro _ ⟨_, rfl, _, _, rfl, rfl, _, _, rfl, rfl, _, _, rfl, rfl, rfl⟩
        rw [ringP_D]
        rfl
    · obtain ⟨dl, rfl, hdl', hdp⟩ := pd
      have hD := fd.dp
      rw [ring_of (by omega) hdp] at hD
      obtain ⟨gl, _, _, _, rfl, _⟩ := gm_at hD
      exact ⟨ringG, gl, rfl, e3.trans e4, ring_ok, hD⟩
  obtain ⟨g, gl, rfl, e3, hgo, hgd⟩ := p
  -- the start, the way
  have hgl := hgo.len
  have hTl : (TT g).length = g.length := TT_len
  obtain ⟨gl', gps, gqs, grs, ege, gsq, gl1, _, _, _⟩ := gm_at hgd
  cases ege
  have hgn : (((gps.map V.ref).length : Nat) : Int) = (g.length : Int) := by rw [List.length_map, gl1]
  refine q_asg (ev_mod (dg (j := 106) e3 (by decide) rfl) (ev_is (ev_len (ev_var rfl) gsq) (by rw [hgn])) (by omega)) fun H4 e4 => ?_
  have hx := mod_in (ds.getD 106 0) (m := (g.length : Int)) (by omega)
  generalize ds.getD 106 0 % (g.length : Int) = x at hx
  have e24 := e3.trans e4
  have hG : Gm K H4 gl g x := ⟨dp_mono e4 _ _ hgd, hgo, hx.1, by omega⟩
  have hm25 := mod_in (ds.getD 131 0) (m := 25) (by decide)
  obtain ⟨m, hm⟩ := Int.eq_ofNat_of_zero_le hm25.1
  have hm24 : m ≤ 24 := by omega
  have hcut : cutV (ds.map V.int) (some ((107 : Nat) : Int)) (some ((107 + m : Nat) : Int)) = ((ds.drop 107).take m).map V.int := by
    rw [cut_part, List.length_map, Nat.min_eq_left (show 107 ≤ ds.length by omega), Nat.min_eq_left (show 107 + m ≤ ds.length by omega), List.map_take, List.map_drop]
    congr 1
    omega
  have hsl := el_sl (K := K) (tl := tPart (iC 107)) (th := tPart (oAdd (iC 107) (oMod (cInt (tOp (rIx K) (tVar 1) (iC 131))) (iC 25)))) (te := tVar 1) (lo := some ((107 : Nat) : Int)) (hi := some ((107 + m : Nat) : Int)) (σ := [some (.ref sc), some (.ref dp), some (.ref gl), none, some (.int x), none, none, none, none, none, none, none, none, none, none, none, none, none]) (H := H4) (ev_var rfl)
    (eo_some ev_c) (eo_some (ev_is (ev_add ev_c (ev_mod (dg (j := 131) e24 (by decide) rfl) ev_c (by decide))) (by rw [hm]; simp))) (ex_l e24 hd2)
  rw [hcut] at hsl
  refine q_asgP (P := fun H1 v H2 => ∃ (bs : List Int) (p : Addr), v = .ref p ∧ bs.length = m ∧ ok (TT g) x bs ∧ H2 p = some (.lst (bs.map V.int))) (ep_call3 (K := K) (ev_var rfl) (ev_var rfl) hsl (fun p H5 e5 hp H6 e6 Q q E => ⟨gl, p, x, g, _, rfl, hG.on (e5.trans e6), ex_l e6 hp, by rw [List.length_take]; omega, fun bs hb ho p H7 hp e7 h7 => q _ H7 e7 ⟨bs, p, rfl, by rw [hb, List.length_take, List.length_drop]; omega, ho, h7⟩⟩) (fun _ _ _ _ _ h => h)) fun v H5 e5 p => ?_
  obtain ⟨bs, bl, rfl, hbl, hok, hb5⟩ := p
  have hG5 := hG.on e5
  obtain ⟨rs1, rs2, rs3, rs4⟩ := gm_shown hgo (bs := bs) (by omega) (ok_small hgo.good hG.2.2 hok)
  have showit : ∀ {H1 : Hp}, Ex H5 H1 → ∀ {σ : L2.St}, σ[2]? = some (some (.ref gl)) → σ[5]? = some (some (.ref bl)) → Ev (tCB (rRepr K) (tCons (tTup (tCons (tVar 2) (tCons (tVar 5) tNil))) tNil)) σ H1 (.str (PyData.tuple [gmD g, .list (bs.map .int)]).shown) := fun e _ h2 h5 =>
    ev_cbU (eu_tup (ea_cons (ev_var h2) (ea_cons (ev_var h5) ea_nil)) (show 2 ≤ 100000 by decide)) fun p H7 e7 h7 H8 e8 Q q => ⟨p, _, rfl, .tup (st_of (e8 _ _ h7)) (.cons (dp_mono ((e.trans e7).trans e8) _ _ hG5.1) (.cons (.lst (sq_of (((e.trans e7).trans e8) _ _ hb5)) (dpa_ints _)) .nil)), rs1, rs2, rs3, rs4, q H8 (Ex.refl H8)⟩
  refine q_asg (showit (Ex.refl H5) rfl rfl) fun H6 e6 => ?_
  generalize (PyData.tuple [gmD g, .list (bs.map .int)]).shown = kept at showit
  have hG6 := hG5.on e6
  have hb6 := e6 _ _ hb5
  have hU := unr_ok hgo.good (K := KK g) hG.2.2 bs hok
  generalize hUe : unr (TT g) x bs = U at hU
  -- what is due
  have hlenU := hU.len
  have hcsl : ∀ c ∈ U.c, c.2.length ≤ 24 := fun c hc => by
    have := mem_sum (f := fun c : Int × List Int => c.2.length) hc
    omega
  have hcl : U.c.length ≤ 24 := by
    have := sum_ge U.c fun c hc => (hU.cs c hc).2.1
    omega
  have hpl : (U.p.map (·.2)).length ≤ 24 := by rw [List.length_map]; omega
  have hFl := un_fl (path := U.p.map (·.2)) (cs := U.c) (by omega) (by omega) (fun c hc => by have := hcsl c hc; omega)
  refine q_asgP (P := UnP (U.p.map (·.2)) U.c) (ep_call (ea_cons (ev_var rfl) (ea_cons (ev_var rfl) (ea_cons (ev_var rfl) ea_nil))) (fun H7 e7 Q q E => ⟨gl, bl, x, g, bs, rfl, hG6.on e7, sq_of (e7 _ _ hb6), by omega, hok, by rw [hUe]; exact fun t p c rs H8 u => q _ H8 u.ex ⟨t, p, c, rs, rfl, u⟩⟩) unp_back) fun v H7 e7 p => ?_
  obtain ⟨dt, dpp, dcc, drs, rfl, uD⟩ := p
  have hG7 := hG6.on e7
  have hb7 := e7 _ _ hb6
  have hDue := un_dp (K := K) uD
  -- twice told, and what was told is spoilt
  refine q_forR1 (n := 2) (ea_cons ev_c ea_nil) (by decide) (fun i σ' H' => ∃ s8 s9 s10 s11 : Option V, σ' = [some (.ref sc), some (.ref dp), some (.ref gl), none, some (.int x), some (.ref bl), some (.str kept), some (.ref dt), s8, s9, s10, s11, none, none, none, none, none, none] ∧ Ex H7 H') (fun H8 e8 => ⟨none, none, none, none, rfl, e8⟩) (fun i σ' H8 hi p => ?_) (fun σ' H8 p => ?_)
  · obtain ⟨s8, s9, s10, s11, rfl, e8⟩ := p
    refine q_asgP (P := UnP (U.p.map (·.2)) U.c) (ep_call (ea_cons (ev_var rfl) (ea_cons (ev_var rfl) (ea_cons (ev_var rfl) ea_nil))) (fun H9 e9 Q q E => ⟨gl, bl, x, g, bs, rfl, hG7.on (e8.trans e9), sq_of (e9 _ _ (e8 _ _ hb7)), by omega, .inl ⟨hok, by rw [hUe]; exact fun t p c rs H10 u => q _ H10 u.ex ⟨t, p, c, rs, rfl, u⟩⟩⟩) unp_back) fun v H9 e9 p => ?_
    obtain ⟨tt, tp, tc, trs, rfl, uT⟩ := p
    have e79 := e8.trans e9
    refine q_when (et_is (et_not (et_B (ev_call (ea_cons (ev_var rfl) (ea_cons (ev_var rfl) ea_nil)) (fun H10 e10 Q q E => ⟨.ref tt, .ref dt, _, rfl, dp_mono e10 _ _ (un_dp uT), dp_mono (e79.trans e10) _ _ hDue, hFl, q⟩)))) (b := false) rfl) (fun hb => Bool.noConfusion hb) fun _ H10 e10 => ?_
    have t10 := e10 _ _ uT.at_
    have trl := un_len uT
    refine q_forNL (K := K) (el_list (ev_ixT (ev_var rfl) ev_c (st_of t10) (atI_nat (j := 1) rfl)) (sq_of (e10 _ _ uT.ac))) (fun q i σ' H' => ∃ (s8 s10 s11 : Option V), σ' = [some (.ref sc), some (.ref dp), some (.ref gl), none, some (.int x), some (.ref bl), some (.str kept), some (.ref dt), s8, some (.ref tt), s10, s11, none, none, none, none, none, none] ∧ Ex H7 H' ∧ H' q = some (.lst trs) ∧ H' tt = some (.tup [.ref tp, .ref tc]) ∧ H' tp = some (.lst ((U.p.map (·.2)).map V.int)) ∧ H' tc = some (.lst trs) ∧ CsM H8 H' [q, tp, tc] trs (24 + i))
      (fun q H11 hq e11 h11 => ⟨_, _, _, rfl, (e79.trans e10).trans e11, h11, e11 _ _ t10, e11 _ _ (e10 _ _ uT.ap), e11 _ _ (e10 _ _ uT.ac), (((csm_of uT hcsl).on e10 (Nat.le_refl _)).more hq).on e11 (Nat.le_refl _)⟩)
      (fun q i σ' H' _ p => ?_) (fun q i y σ' H' hy p => ?_) (fun q σ' H' p => ?_)
    · obtain ⟨_, _, _, _, _, hq, _⟩ := p
      exact sq_of hq
    · obtain ⟨s8, s10, s11, rfl, e, hq, h1, h2, h3, hC⟩ := p
      obtain ⟨u, b, k, ys, rfl, u1, u2, u3, u4, u5⟩ := hC i y hy
      have hi24 := (List.getElem?_eq_some_iff.mp hy).1
      simp only [List.mem_cons, List.not_mem_nil, or_false, not_or] at u5
      refine g2 (st_of u1) ?_
      refine s_app u2 (ev_var rfl) ev_c (by omega) fun H11 e11 => ?_
      have nb : tt ≠ b := fun z => by
        rw [← z, h1] at u2
        cases u2
      refine ⟨_, _, _, rfl, Ex.mut (e.trans e11) (fresh_back e8 u4), ?_, ?_, ?_, ?_, (hC.on e11 (Nat.le_refl _)).grow (e11 _ _ u2) u3⟩
      · rw [upd_ne (Ne.symm u5.1)]
        exact e11 _ _ hq
      · rw [upd_ne nb]
        exact e11 _ _ h1
      · rw [upd_ne (Ne.symm u5.2.1)]
        exact e11 _ _ h2
      · rw [upd_ne (Ne.symm u5.2.2)]
        exact e11 _ _ h3
    · obtain ⟨s8, s10, s11, rfl, e, hq, h1, h2, h3, hC⟩ := p
      refine q_app h2 (ev_ixT (ev_var rfl) ev_c (st_of h1) (atI_nat (j := 0) rfl)) ev_c (by rw [List.length_map]; omega) fun H11 e11 => ?_
      have n1 : tt ≠ tp := fun z => by
        rw [z, h2] at h1
        cases h1
      have k1 : (upd H11 tp (.lst ((U.p.map (·.2)).map V.int ++ [.int 0]))) tt = some (.tup [.ref tp, .ref tc]) := by
        rw [upd_ne n1]
        exact e11 _ _ h1
      have k3 : (upd H11 tp (.lst ((U.p.map (·.2)).map V.int ++ [.int 0]))) tc = some (.lst trs) := by
        rw [upd_ne uT.pc.symm]
        exact e11 _ _ h3
      refine s_app k3 (ev_ixT (ev_var rfl) ev_c (st_of k1) (atI_nat (j := 1) rfl)) ev_c (by omega) fun H12 e12 => ?_
      exact ⟨_, _, _, _, rfl, Ex.mut ((Ex.mut (e.trans e11) (fresh_back e8 uT.np)).trans e12) (fresh_back e8 uT.nc)⟩
  obtain ⟨s8, s9, s10, s11, rfl, e8⟩ := p
  have hG8 := hG7.on e8
  have hb8 := e8 _ _ hb7
  -- it is refused
  have hcat : bs.map V.int ++ [V.int 99, V.int (-1)] = (bs ++ 99 :: [-1]).map V.int := by simp
  have hlcat := el_cat (σ := [some (.ref sc), some (.ref dp), some (.ref gl), none, some (.int x), some (.ref bl), some (.str kept), some (.ref dt), s8, s9, s10, s11, none, none, none, none, none, none]) (tl := tLst (tCons (iC 99) (tCons (tUn (rU fun i => .int (-i)) (iC 1)) tNil))) (ev_var (i := 5) rfl) hb8 (el_lst (ea_cons ev_c (ea_cons (ev_neg ev_c) ea_nil)) (by decide)) (by rw [List.length_map]; simp; omega)
  rw [hcat] at hlcat
  have h6 := (tg_in hgo.good (en_in hgo.good hG.2.2 hok)).2.1
  refine q_when (et_neI (b := false) (ev_call3 (K := K) (ev_var rfl) (ev_var rfl) hlcat (fun p H9 e9 hp H10 e10 Q q E => ⟨gl, p, x, g, bs, [-1], 99, rfl, hG8.on (e9.trans e10), ex_l e10 hp, by simp; omega, hok, by omega, q⟩)) (ev_is (ev_len (ev_var rfl) (sq_of hb8)) (by rw [List.length_map])) (by simp)) (fun hb => Bool.noConfusion hb) fun _ H9 e9 => ?_
  have e79 := e8.trans e9
  -- the path
  refine q_asgG (ev_var rfl) fun H10 e10 => g2 (st_of ((e79.trans e10) _ _ uD.at_)) ?_
  have e7a := e79.trans e10
  have hp10 := e7a _ _ uD.ap
  have hc10 := e7a _ _ uD.ac
  have hGa := hG7.on e7a
  refine q_asgL (el_call (ea_cons (ev_var rfl) (ea_cons (ev_var rfl) (ea_cons (ev_var rfl) ea_nil))) (fun H11 e11 Q q E => ⟨gl, dpp, x, g, _, rfl, hGa.on e11, sq_of (e11 _ _ hp10), by omega, hU.okp, q⟩)) fun wp H11 hwp e11 h11 => ?_
  have hwn : (wk (TT g) x (U.p.map (·.2))).Nodup := by rw [hU.pl]; exact hU.nd
  have hwl : (wk (TT g) x (U.p.map (·.2))).length ≤ 25 := by rw [wk_len]; omega
  generalize hW : wk (TT g) x (U.p.map (·.2)) = W at h11 hwn hwl
  have comp := el_lcR1 (t := tTest (tOp (rIn K true) (tOp (rIx K) (tVar 14) (tVar 3)) (tSl (rSlL K) (tVar 14) tNoPart (tPart (tVar 3))))) (te := tVar 3) (j := 3) (vs := [3]) (σ := [some (.ref sc), some (.ref dp), some (.ref gl), none, some (.int x), some (.ref bl), some (.str kept), some (.ref dt), s8, s9, s10, s11, some (.ref dpp), some (.ref dcc), some (.ref wp), none, none, none]) (H := H11) (ta := tCons (tCB (rLenS K) (tCons (tVar 14) tNil)) tNil) (n := (W.length : Int)) (fun _ => true) (fun i => V.int (i : Int))
    (ea_cons (ev_is (ev_len (ev_var rfl) (sq_of h11)) (by rw [List.length_map])) ea_nil) (by omega) (fun _ => rfl) (fun i H12 e12 hi => et_test (ev_niUpto (i := 14) (j := 3) (k := i) rfl rfl (sq_of (e12 _ _ h11)) (List.getElem?_eq_getElem (by omega)) (nodup_upto hwn (List.getElem?_eq_getElem (by omega))))) (fun i H12 e12 hi _ => ev_var rfl)
  rw [given_all] at comp
  refine q_when (et_neI (b := false) (ev_is (ev_len (ev_var rfl) (sq_of h11)) (by rw [List.length_map])) (ev_is (ev_lenN comp) (w := .int (W.length : Int)) (by simp)) (by simp)) (fun hb => Bool.noConfusion hb) fun _ H12 e12 => ?_
  have eac := e11.trans e12
  have hGc := hGa.on eac
  have hp12 := eac _ _ hp10
  have hc12 := eac _ _ hc10
  refine q_asgP (P := fun _ v H2 => Nm K (sm (TT g) (KK g) x (U.p.map (fun c : Int × Int => c.2))) H2 v) (ep_call (ea_cons (ev_var rfl) (ea_cons (ev_var rfl) (ea_cons (ev_var rfl) ea_nil))) (fun H13 e13 Q q E => ⟨gl, dpp, x, g, _, rfl, hGc.on e13, sq_of (e13 _ _ hp12), by omega, hU.okp, q⟩) (fun _ _ _ _ _ h => h)) fun v13 H13 e13 n13 => ?_
  refine q_asg (ev_len (ev_var rfl) (sq_of (e13 _ _ hp12))) fun H14 e14 => ?_
  have e7e := ((e7a.trans eac).trans e13).trans e14
  have hc14 := e14 _ _ (e13 _ _ hc12)
  have hdl' := un_len uD
  -- the circles
  refine q_forL (ev_var rfl) (sq_of hc14) (fun i σ' H' => ∃ (s10 s11 s17 : Option V) (tv : V), σ' = [some (.ref sc), some (.ref dp), some (.ref gl), none, some (.int x), some (.ref bl), some (.str kept), some (.ref dt), s8, s9, s10, s11, some (.ref dpp), some (.ref dcc), some (.ref wp), some (tv), some (.int (((U.p.map (·.2)).length + ((U.c.take i).map fun c => c.2.length).sum : Nat) : Int)), s17] ∧ Ex H14 H' ∧ Nm K (sm (TT g) (KK g) x (U.p.map (·.2)) + ((U.c.take i).map fun c => sm (TT g) (KK g) c.1 c.2).sum) H' tv)
    (fun H15 e15 => ⟨s10, s11, none, v13, by simp, e15, by simpa using n13.on (e14.trans e15)⟩) (fun i σ' H' _ p => ?_) (fun i y σ' H' hy p => ?_) (fun σ' H' p => ?_)
  · obtain ⟨_, _, _, _, _, e, _⟩ := p
    exact sq_of (e _ _ hc14)
  · obtain ⟨s10, s11, s17, tv, rfl, e, nT⟩ := p
    have hi := (List.getElem?_eq_some_iff.mp hy).1
    have hci := List.getElem?_eq_getElem (show i < U.c.length by omega)
    generalize U.c[i]'(by omega) = c at hci
    obtain ⟨G, eG, _, _, fG⟩ := uD.gs
    obtain ⟨u, b, k1, k2, k3⟩ := fG i c hci
    rw [hy] at k1
    cases k1
    have e7f := e7e.trans e
    have cin := List.mem_of_getElem? hci
    obtain ⟨c1, c2, c3, c4, c5⟩ := hU.cs c cin
    have c24 := hcsl c cin
    have kb := e7f _ _ (eG _ _ k3)
    refine g2 (st_of (e7f _ _ (eG _ _ k2))) ?_
    have hGi : Gm K H' gl g c.1 := ⟨(hG7.on e7f).1, hgo, c1⟩
    refine q_asgL (el_call (ea_cons (ev_var rfl) (ea_cons (ev_var rfl) (ea_cons (ev_var rfl) ea_nil))) (fun H15 e15 Q q E => ⟨gl, b, c.1, g, c.2, rfl, hGi.on e15, sq_of (e15 _ _ kb), by omega, c3, q⟩)) fun rp H15 hrp e15 h15 => ?_
    have hwl2 : (wk (TT g) c.1 c.2).length = c.2.length + 1 := wk_len _ _
    have kb15 := e15 _ _ kb
    refine q_when (et_or (et_neI (b := false) (ev_ixL (ev_var rfl) (ev_neg ev_c) (sq_of h15) (last_map _ _ _)) (ev_var rfl) (by rw [c4]; simp)) fun _ => et_B (ev_cbL (K := K) (el_lcR1 (t := tYes) (n := (c.2.length : Int)) (fun _ => true) (fun _ => V.bl false) (ea_cons (ev_is (ev_len (ev_var rfl) (sq_of kb15)) (by rw [List.length_map])) ea_nil) (by omega) (fun _ => rfl) (fun j H16 _ _ H17 _ Q2 q2 => q2 H17 (Ex.refl H17))
      (fun j H16 e16 hj _ => ev_inUpto (i := 17) (j := 3) (k := j) rfl rfl (sq_of (e16 _ _ h15)) (List.getElem?_eq_getElem (by omega)) (drop_upto c5 (by omega) (List.getElem?_eq_getElem (by omega))))) (fun p H16 e16 hp H17 e17 Q q => by
        refine ⟨p, (List.range ((c.2.length : Int)).toNat).map fun _ => false, rfl, ?_, ?_⟩
        · rw [List.map_map]
          rw [given_all] at hp
          exact ex_l e17 hp
        · rw [any_false]
          exact q H17 (Ex.refl H17)))) (fun hb => Bool.noConfusion hb) fun _ H16 e16 => ?_
    have e6 := e15.trans e16
    refine q_asgP (P := fun _ v H2 => Nm K (_ + sm (TT g) (KK g) c.1 c.2) H2 v) (ep_plus rfl (nT.on e6) (ep_call (ea_cons (ev_var rfl) (ea_cons (ev_var rfl) (ea_cons (ev_var rfl) ea_nil))) (fun H17 e17 Q q E => ⟨gl, b, c.1, g, c.2, rfl, hGi.on (e6.trans e17), sq_of (e17 _ _ (e16 _ _ kb15)), by omega, c3, q⟩) (fun _ _ _ _ _ h => h))) fun v17 H17 e17 n17 => ?_
    refine s_asg (ev_add (ev_var rfl) (ev_is (ev_len (ev_var rfl) (sq_of (e17 _ _ (e16 _ _ kb15)))) (by rw [List.length_map]))) fun H18 e18 => ?_
    have htk : U.c.take (i + 1) = U.c.take i ++ [c] := by rw [List.take_add_one, hci]; rfl
    have hst : (((U.p.map (fun c : Int × Int => c.2)).length + ((U.c.take i).map fun c => c.2.length).sum : Nat) : Int) + (c.2.length : Int) = (((U.p.map (fun c : Int × Int => c.2)).length + ((U.c.take (i + 1)).map fun c => c.2.length).sum : Nat) : Int) := by
      rw [htk, List.map_append, List.sum_append]
      simp [Int.add_assoc]
    refine ⟨some (.int c.1), some (.ref b), some (.ref rp), v17, ?_, (e.trans e6).trans (e17.trans e18), ?_⟩
    · rw [← hst]
      rfl
    · rw [htk, List.map_append, List.sum_append]
      have n18 := n17.on e18
      rw [Int.add_assoc] at n18
      simpa using n18
  · obtain ⟨s10, s11, s17, tv, rfl, e, nT⟩ := p
    have htk : U.c.take drs.length = U.c := List.take_of_length_le (by omega)
    rw [htk] at nT ⊢
    have hsm := hU.sum
    rw [← hsm] at nT
    have e7f := e7e.trans e
    have e57 : Ex H5 H' := ((e6.trans e7).trans e7f)
    have hG9 := hG7.on e7f
    have hb9 := e7f _ _ hb7
    refine s_ret (v := .bl true) ?_ fun H15 e15 => rfl
    refine ev_is (ev_andV (a := true) (b := true) (ev_is (ev_op (ev_var rfl) (ev_is (ev_len (ev_var rfl) (sq_of hb9)) (by rw [List.length_map])) (rv_eq rfl)) ?_) fun _ => ev_andV (a := true) (b := true) (ev_sameN (K := K) (m := 2) rfl nT (ep_call (ea_cons (ev_var rfl) (ea_cons (ev_var rfl) (ea_cons (ev_var rfl) ea_nil))) (fun H16 e16 Q q E => ⟨gl, bl, x, g, bs, rfl, hG9.on e16, sq_of (e16 _ _ hb9), by omega, hok, q⟩) (fun _ _ _ _ _ h => h))) fun _ => ev_is (ev_op (showit e57 rfl rfl) (ev_var rfl) (rv_eq rfl)) (by simp)) rfl
    rw [List.length_map, ← hlenU]
    simp
end
end Mh

set_option Elab.async false
set_option linter.all false
set_option maxRecDepth 100000
namespace Mh
open PySem PySem.Spec PyProof.Rows L2 Evl
section
variable {P : Program} {w : World} {K : PySem.W.Frag} {mg : Str → Option Value} {h : Heap}
/-- a def, from what the written part says of it -/
theorem at_ex (X : K.In h) (G : h.Ns mainGlobals mg) {x : Str} {st : Stmt} {f : Addr} {oc kV doc pm cdv ct : Value} {od an : Option Addr} {osl : Array (Option Value)}
    (e1 : PySem.W.nsIn K mainGlobals x = some (some (.ref f))) (e2 : K.lookup f = some ⟨oc, od, .func (PySem.W.fnOf x x (defArgs st) (defBody st) (defScope st) .none kV doc pm an cdv ct), osl⟩)
    (e3 : PySem.W.codeIn K cdv x = true) (e4 : PySem.W.keepIn K (.ref f) = true) : ∃ p, At K mg x st p :=
  ⟨(f, PySem.W.fnOf x x (defArgs st) (defBody st) (defScope st) .none kV doc pm an cdv ct), fun_mk e2 e3 e4, PySem.W.mg_of X G e1⟩
/-- the error's class -/
theorem nb_ex (X : K.In h) (G : h.Ns mainGlobals mg) {C fI : Addr} {nm q : Str} {N : Addr} {bs bm : List Value} {sn : List Str} {sub : List Value} {ab : Bool} {col : Option Bool} {dd : Option Addr} {k0 k1 k2 k3 k5 : Option Value}
    {oc doc pm ct cl ccl : Value} {od an cld cdd : Option Addr} {cda cc : Addr} {osl csl ccs : Array (Option Value)} {vs : Array Value} {file : Str} {tf : Tok}
    (e1 : PySem.W.nsIn K mainGlobals "NoBranch" = some (some (.ref C)))
    (e2 : PySem.W.findIn K (.ref C) "__init__" = some (some (.ref fI)))
    (e3 : K.lookup C = some (excClassObj nm q C N bs bm true sn sub ab col dd k0 k1 k2 k3 k5 "ValueError.__new__")) (e4 : PySem.HandSPX.refsVE bm = true)
    (e5 : PySem.W.findIn K (.ref C) "__setattr__" = some (some (.builtin "object.__setattr__")))
    (e6 : PySem.W.findIn K (.ref C) "__getattribute__" = some (some (.builtin "BaseException.__getattribute__")))
    (e7 : PySem.W.findIn K (.ref C) "__getattr__" = some none) (e8 : PySem.W.findIn K (.ref C) "at" = some none)
    (e9 : PySem.W.typeIn K (.ref fI) = some (.type "function")) (e10 : PySem.W.keepIn K (.ref C) = true)
    (e11 : PySem.W.subIn K (.ref C) (.type "BaseException") = some true) (e12 : PySem.W.subIn K (.ref C) (.type "ValueError") = some true)
    (e13 : PySem.W.typeIn K (.ref C) = some (.type "type")) (e14 : PySem.W.hasDictIn K C = true) (e15 : PySem.W.exmOne K (.ref C) (.ref C) = some true)
    (e16 : PySem.W.ks_superIn K C C "__init__" = some (some (.builtin "ValueError.__init__"))) (e17 : PySem.W.nsIn K cStatics "thirdparty.any" = some none)
    (e18 : PySem.W.mroIn K C (.ref C) = some true) (e19 : PySem.W.nsIn K mainGlobals "super" = some none)
    (e20 : K.lookup fI = some ⟨oc, od, .func (PySem.W.ksFn "__init__" "NoBranch.__init__" (defArgs nS) (defBody nS) (defScope nS) .none .none doc pm an (.ref cda) ct cc), osl⟩)
    (e21 : PySem.W.codeIn K (.ref cda) "NoBranch.__init__" = true) (e22 : K.lookup cc = some ⟨cl, cld, .cell (some (.ref C)), csl⟩) (e23 : K.lookup cda = some ⟨ccl, cdd, .fields vs, ccs⟩)
    (e24 : vs[2]? = some (.str file tf)) (e25 : ((P.main.file : Str) == file) = true) (e26 : (P.main.scope.names.lookup ("super" : Str)).isSome = false) : ∃ C fI, NbTxt P K mg C fI :=
  ⟨C, fI, { gC := PySem.W.mg_of X G e1, iC := e2, cls := ⟨nm, q, N, bs, bm, sn, sub, ab, col, dd, k0, k1, k2, k3, k5, e3, e4⟩, sa := e5, ga := e6, gg := e7, noN := e8, tC := e9, kC := e10, exC := e11, veC := e12, tyC := e13, hdC := e14, te := e15, su := e16, op := e17, sb := e18, ms := PySem.W.mg_none_of X G e19, fn := ⟨oc, od, doc, pm, an, cda, ct, osl, cc, cl, cld, csl, ccl, cdd, vs, ccs, file, tf, e20, e21, e22, e23, e24, e25⟩, top := e26 }⟩
/-- NOUGHT -/
theorem no_ex (X : K.In h) (G : h.Ns mainGlobals mg) {f : Addr} {od : Option Addr} {n : Nat} {t u : Tok} {osl : Array (Option Value)} (e1 : PySem.W.nsIn K mainGlobals "NOUGHT" = some (some (.ref f)))
    (e2 : K.lookup f = some ⟨.type "tuple", od, .seq #[.int 0 t, .int 1 u] n, osl⟩) : ∃ f, mg "NOUGHT" = some (.ref f) ∧ ∃ (o : Obj) (n : Nat) (t u : Tok), K.lookup f = some o ∧ o.cls = .type "tuple" ∧ o.data = .seq #[.int 0 t, .int 1 u] n :=
  ⟨f, PySem.W.mg_of X G e1, _, n, t, u, e2, rfl, rfl⟩

theorem the_law (X : K.In h) (G : h.Ns mainGlobals mg) {s : Shared} {fa a : Addr} {ns : List Int} (hfa : mg "law" = some (.ref fa)) (hl : ns.length ≤ 63)
    (h_law : ∃ p, At K mg "law" s_law p)
    (h_number : ∃ p, At K mg "number" s_number p)
    (h_plus : ∃ p, At K mg "plus" s_plus p)
    (h_total : ∃ p, At K mg "total" s_total p)
    (h_targets : ∃ p, At K mg "targets" s_targets p)
    (h_walk : ∃ p, At K mg "walk" s_walk p)
    (h_places_on : ∃ p, At K mg "places_on" s_places_on p)
    (h_sum_of : ∃ p, At K mg "sum_of" s_sum_of p)
    (h_unrolled : ∃ p, At K mg "unrolled" s_unrolled p)
    (h_l_draws : ∃ p, At K mg "_law_draws" s_l_draws p)
    (h_l_gcd : ∃ p, At K mg "_law_gcd" s_l_gcd p)
    (h_l_number : ∃ p, At K mg "_law_number" s_l_number p)
    (h_l_plus : ∃ p, At K mg "_law_plus" s_l_plus p)
    (h_l_place : ∃ p, At K mg "_law_place" s_l_place p)
    (h_l_game : ∃ p, At K mg "_law_game" s_l_game p)
    (h_l_targets : ∃ p, At K mg "_law_targets" s_l_targets p)
    (h_l_same : ∃ p, At K mg "_law_same" s_l_same p)
    (h_l_way : ∃ p, At K mg "_law_way" s_l_way p)
    (h_l_places : ∃ p, At K mg "_law_places" s_l_places p)
    (h_l_unrolled : ∃ p, At K mg "_law_unrolled" s_l_unrolled p)
    (h_l_refused : ∃ p, At K mg "_law_refused" s_l_refused p)
    (h_nb : ∃ C fI, NbTxt P K mg C fI) (h_no : ∃ f, mg "NOUGHT" = some (.ref f) ∧ ∃ (o : Obj) (n : Nat) (t u : Tok), K.lookup f = some o ∧ o.cls = .type "tuple" ∧ o.data = .seq #[.int 0 t, .int 1 u] n)
    (z_len : PySem.W.nsIn K mainGlobals "len" = some none) (z_list : PySem.W.nsIn K mainGlobals "list" = some none) (z_tuple : PySem.W.nsIn K mainGlobals "tuple" = some none) (z_bool : PySem.W.nsIn K mainGlobals "bool" = some none) (z_int : PySem.W.nsIn K mainGlobals "int" = some none) (z_str : PySem.W.nsIn K mainGlobals "str" = some none) (z_abs : PySem.W.nsIn K mainGlobals "abs" = some none) (z_sum : PySem.W.nsIn K mainGlobals "sum" = some none) (z_all : PySem.W.nsIn K mainGlobals "all" = some none) (z_any : PySem.W.nsIn K mainGlobals "any" = some none) (z_isinstance : PySem.W.nsIn K mainGlobals "isinstance" = some none) (z_repr : PySem.W.nsIn K mainGlobals "repr" = some none) (z_range : PySem.W.nsIn K mainGlobals "range" = some none) (z_zip : PySem.W.nsIn K mainGlobals "zip" = some none) (z_enumerate : PySem.W.nsIn K mainGlobals "enumerate" = some none) (z_super : PySem.W.nsIn K mainGlobals "super" = some none)
    (h_gcd : PySem.W.nsIn K mainGlobals "gcd" = some (some (.builtin "math.gcd"))) : AtLaw P w K mg s fa a ns := by
  obtain ⟨p_law, t_law⟩ := h_law
  obtain ⟨p_number, t_number⟩ := h_number
  obtain ⟨p_plus, t_plus⟩ := h_plus
  obtain ⟨p_total, t_total⟩ := h_total
  obtain ⟨p_targets, t_targets⟩ := h_targets
  obtain ⟨p_walk, t_walk⟩ := h_walk
  obtain ⟨p_places_on, t_places_on⟩ := h_places_on
  obtain ⟨p_sum_of, t_sum_of⟩ := h_sum_of
  obtain ⟨p_unrolled, t_unrolled⟩ := h_unrolled
  obtain ⟨p_l_draws, t_l_draws⟩ := h_l_draws
  obtain ⟨p_l_gcd, t_l_gcd⟩ := h_l_gcd
  obtain ⟨p_l_number, t_l_number⟩ := h_l_number
  obtain ⟨p_l_plus, t_l_plus⟩ := h_l_plus
  obtain ⟨p_l_place, t_l_place⟩ := h_l_place
  obtain ⟨p_l_game, t_l_game⟩ := h_l_game
  obtain ⟨p_l_targets, t_l_targets⟩ := h_l_targets
  obtain ⟨p_l_same, t_l_same⟩ := h_l_same
  obtain ⟨p_l_way, t_l_way⟩ := h_l_way
  obtain ⟨p_l_places, t_l_places⟩ := h_l_places
  obtain ⟨p_l_unrolled, t_l_unrolled⟩ := h_l_unrolled
  obtain ⟨p_l_refused, t_l_refused⟩ := h_l_refused
  obtain ⟨C, fI, tN⟩ := h_nb
  obtain ⟨n0, t_no, t_is⟩ := h_no
  have T : Txt K mg { number := p_number, plus := p_plus, total := p_total, targets := p_targets, walk := p_walk, places_on := p_places_on, sum_of := p_sum_of, unrolled := p_unrolled, l_draws := p_l_draws, l_gcd := p_l_gcd, l_number := p_l_number, l_plus := p_l_plus, l_place := p_l_place, l_game := p_l_game, l_targets := p_l_targets, l_same := p_l_same, l_way := p_l_way, l_places := p_l_places, l_unrolled := p_l_unrolled, l_refused := p_l_refused, C := C, fI := fI, n0 := n0 } := { number := t_number, plus := t_plus, total := t_total, targets := t_targets, walk := t_walk, places_on := t_places_on, sum_of := t_sum_of, unrolled := t_unrolled, l_draws := t_l_draws, l_gcd := t_l_gcd, l_number := t_l_number, l_plus := t_l_plus, l_place := t_l_place, l_game := t_l_game, l_targets := t_l_targets, l_same := t_l_same, l_way := t_l_way, l_places := t_l_places, l_unrolled := t_l_unrolled, l_refused := t_l_refused, z_len := PySem.W.mg_none_of X G z_len, z_list := PySem.W.mg_none_of X G z_list, z_tuple := PySem.W.mg_none_of X G z_tuple, z_bool := PySem.W.mg_none_of X G z_bool, z_int := PySem.W.mg_none_of X G z_int, z_str := PySem.W.mg_none_of X G z_str, z_abs := PySem.W.mg_none_of X G z_abs, z_sum := PySem.W.mg_none_of X G z_sum, z_all := PySem.W.mg_none_of X G z_all, z_any := PySem.W.mg_none_of X G z_any, z_isinstance := PySem.W.mg_none_of X G z_isinstance, z_repr := PySem.W.mg_none_of X G z_repr, z_range := PySem.W.mg_none_of X G z_range, z_zip := PySem.W.mg_none_of X G z_zip, z_enumerate := PySem.W.mg_none_of X G z_enumerate, z_super := PySem.W.mg_none_of X G z_super, gcd := PySem.W.mg_of X G h_gcd, nought := t_no, nought_is := t_is }
  have e := hfa.symm.trans t_law.g
  obtain rfl : fa = p_law.1 := by
    cases e
    rfl
  intro base H e0 hS
  have hb := (bd_law t_law)
  refine call_at (us := [.ref a]) (vs := [.ref a]) (k := 8) t_law.F sc_law ⟨rfl, by decide, by decide⟩ e0 ?_ (.cons rfl .nil) rfl fun cdv hr => ?_
  · exact hb s [.ref a] (e0.mod.kin.keeps fun b o e => (e0.bs b o e).1) rfl
  · exact law_body T tN rfl hr hS (by omega)
end
end Mh

open PySem PySem.W PyProof.Rows
set_option Elab.async false
set_option linter.all false
set_option maxRecDepth 100000 in
set_option maxHeartbeats 8000000 in
theorem PySem.Challenge.cw_meanhold_k07_whole_ways_unrolled_holds : PySem.Challenge.rw_meanhold_k07_whole_ways_unrolled.Holds := by
  w_on; o_law; k_head; (case hw => w_witness2)
  k_fill
  refine Att.attach_call (n := 63) rfl rfl fun w s₀ s₁ mg mb fa o pm cd doc a vs ns G Y ho hd hcd hmg hobj hints hlen hg => ?_
  have KX := PySem.W.kIn_of Y
  refine Mh.law_at KX G.T.g G.T.b G.T.builtins G.T.nolimit hg hobj hints (Nat.le_trans hlen (by decide)) ?_
  clear ho hd hcd hobj hints hg
  refine' Mh.the_law KX G.T.g hmg hlen ?h_law ?h_number ?h_plus ?h_total ?h_targets ?h_walk ?h_places_on ?h_sum_of ?h_unrolled ?h_l_draws ?h_l_gcd ?h_l_number ?h_l_plus ?h_l_place ?h_l_game ?h_l_targets ?h_l_same ?h_l_way ?h_l_places ?h_l_unrolled ?h_l_refused ?h_nb ?h_no ?z0 ?z1 ?z2 ?z3 ?z4 ?z5 ?z6 ?z7 ?z8 ?z9 ?z10 ?z11 ?z12 ?z13 ?z14 ?z15 ?zg
  case h_law =>
    refine' Mh.at_ex KX G.T.g ?a1 ?a2 ?a3 ?a4
    (case a1 => k_is); (case a2 => k_is); (case a3 => k_is); (case a4 => k_is)
  case h_number =>
    refine' Mh.at_ex KX G.T.g ?a1 ?a2 ?a3 ?a4
    (case a1 => k_is); (case a2 => k_is); (case a3 => k_is); (case a4 => k_is)
  case h_plus =>
    refine' Mh.at_ex KX G.T.g ?a1 ?a2 ?a3 ?a4
    (case a1 => k_is); (case a2 => k_is); (case a3 => k_is); (case a4 => k_is)
  case h_total =>
    refine' Mh.at_ex KX G.T.g ?a1 ?a2 ?a3 ?a4
    (case a1 => k_is); (case a2 => k_is); (case a3 => k_is); (case a4 => k_is)
  case h_targets =>
    refine' Mh.at_ex KX G.T.g ?a1 ?a2 ?a3 ?a4
    (case a1 => k_is); (case a2 => k_is); (case a3 => k_is); (case a4 => k_is)
  case h_walk =>
    refine' Mh.at_ex KX G.T.g ?a1 ?a2 ?a3 ?a4
    (case a1 => k_is); (case a2 => k_is); (case a3 => k_is); (case a4 => k_is)
  case h_places_on =>
    refine' Mh.at_ex KX G.T.g ?a1 ?a2 ?a3 ?a4
    (case a1 => k_is); (case a2 => k_is); (case a3 => k_is); (case a4 => k_is)
  case h_sum_of =>
    refine' Mh.at_ex KX G.T.g ?a1 ?a2 ?a3 ?a4
    (case a1 => k_is); (case a2 => k_is); (case a3 => k_is); (case a4 => k_is)
  case h_unrolled =>
    refine' Mh.at_ex KX G.T.g ?a1 ?a2 ?a3 ?a4
    (case a1 => k_is); (case a2 => k_is); (case a3 => k_is); (case a4 => k_is)
  case h_l_draws =>
    refine' Mh.at_ex KX G.T.g ?a1 ?a2 ?a3 ?a4
    (case a1 => k_is); (case a2 => k_is); (case a3 => k_is); (case a4 => k_is)
  case h_l_gcd =>
    refine' Mh.at_ex KX G.T.g ?a1 ?a2 ?a3 ?a4
    (case a1 => k_is); (case a2 => k_is); (case a3 => k_is); (case a4 => k_is)
  case h_l_number =>
    refine' Mh.at_ex KX G.T.g ?a1 ?a2 ?a3 ?a4
    (case a1 => k_is); (case a2 => k_is); (case a3 => k_is); (case a4 => k_is)
  case h_l_plus =>
    refine' Mh.at_ex KX G.T.g ?a1 ?a2 ?a3 ?a4
    (case a1 => k_is); (case a2 => k_is); (case a3 => k_is); (case a4 => k_is)
  case h_l_place =>
    refine' Mh.at_ex KX G.T.g ?a1 ?a2 ?a3 ?a4
    (case a1 => k_is); (case a2 => k_is); (case a3 => k_is); (case a4 => k_is)
  case h_l_game =>
    refine' Mh.at_ex KX G.T.g ?a1 ?a2 ?a3 ?a4
    (case a1 => k_is); (case a2 => k_is); (case a3 => k_is); (case a4 => k_is)
  case h_l_targets =>
    refine' Mh.at_ex KX G.T.g ?a1 ?a2 ?a3 ?a4
    (case a1 => k_is); (case a2 => k_is); (case a3 => k_is); (case a4 => k_is)
  case h_l_same =>
    refine' Mh.at_ex KX G.T.g ?a1 ?a2 ?a3 ?a4
    (case a1 => k_is); (case a2 => k_is); (case a3 => k_is); (case a4 => k_is)
  case h_l_way =>
    refine' Mh.at_ex KX G.T.g ?a1 ?a2 ?a3 ?a4
    (case a1 => k_is); (case a2 => k_is); (case a3 => k_is); (case a4 => k_is)
  case h_l_places =>
    refine' Mh.at_ex KX G.T.g ?a1 ?a2 ?a3 ?a4
    (case a1 => k_is); (case a2 => k_is); (case a3 => k_is); (case a4 => k_is)
  case h_l_unrolled =>
    refine' Mh.at_ex KX G.T.g ?a1 ?a2 ?a3 ?a4
    (case a1 => k_is); (case a2 => k_is); (case a3 => k_is); (case a4 => k_is)
  case h_l_refused =>
    refine' Mh.at_ex KX G.T.g ?a1 ?a2 ?a3 ?a4
    (case a1 => k_is); (case a2 => k_is); (case a3 => k_is); (case a4 => k_is)
  case h_nb =>
    refine' Mh.nb_ex KX G.T.g ?b1 ?b2 ?b3 ?b4 ?b5 ?b6 ?b7 ?b8 ?b9 ?b10 ?b11 ?b12 ?b13 ?b14 ?b15 ?b16 ?b17 ?b18 ?b19 ?b20 ?b21 ?b22 ?b23 ?b24 ?b25 ?b26
    (case b1 => k_is); (case b2 => k_is); (case b3 => k_is); (case b4 => decide +kernel); (case b5 => k_is); (case b6 => k_is); (case b7 => k_is); (case b8 => k_is); (case b9 => k_is)
    (case b10 => k_is); (case b11 => k_is); (case b12 => k_is); (case b13 => k_is); (case b14 => k_is); (case b15 => kernel_rfl); (case b16 => ks_is); (case b17 => k_is); (case b18 => k_is)
    (case b19 => k_is); (case b20 => k_is); (case b21 => k_is); (case b22 => k_is); (case b23 => k_is); (case b24 => rfl); (case b25 => first | rfl | decide +kernel); (case b26 => first | rfl | decide +kernel)
  case h_no =>
    refine' Mh.no_ex KX G.T.g ?n1 ?n2
    (case n1 => k_is); (case n2 => k_is)
  (case z0 => k_is)
  (case z1 => k_is)
  (case z2 => k_is)
  (case z3 => k_is)
  (case z4 => k_is)
  (case z5 => k_is)
  (case z6 => k_is)
  (case z7 => k_is)
  (case z8 => k_is)
  (case z9 => k_is)
  (case z10 => k_is)
  (case z11 => k_is)
  (case z12 => k_is)
  (case z13 => k_is)
  (case z14 => k_is)
  (case z15 => k_is)
  (case zg => k_is)
#print axioms PySem.Challenge.cw_meanhold_k07_whole_ways_unrolled_holds
