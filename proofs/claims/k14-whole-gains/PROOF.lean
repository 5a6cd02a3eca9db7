import PyProof.Rows.All
import Wide.All
import OpenK.AllK
import Wide.FinOn
import HandS.ForMost
import HandS.Codes
import HandS.IsInst
import HandS.TupLe
import HandS.TupLen
import HandS.TupAny
import HandS.TupSets
import HandS.Walk
import HandS.Flow
import HandS.Conv
import KE.KDictDisplayH
import KE.KDictSum
import PySem.Challenge.RW_tracecatch_k14_whole_gains
set_option Elab.async false
set_option linter.all false
set_option maxRecDepth 100000
set_option maxHeartbeats 8000000
/-! Plain arithmetic of shares: no program here. -/
namespace K14
/-- a share in lowest terms out of top and below -/
def shr (t b : Int) : Int × Int :=
  (t.fdiv (if 0 < b then (Int.gcd t b : Int) else -(Int.gcd t b : Int)), b.fdiv (if 0 < b then (Int.gcd t b : Int) else -(Int.gcd t b : Int)))
structure ShOk (p : Int × Int) : Prop where
  pos : 0 < p.2
  low : Int.gcd p.1 p.2 = 1
theorem gcd_pos {t b : Int} (hb : b ≠ 0) : 0 < Int.gcd t b := Nat.pos_of_ne_zero fun h => hb (Int.eq_zero_of_gcd_eq_zero_right h)
/-- what shr gives, by a cofactor -/
theorem shr_form {t b : Int} (hb : b ≠ 0) : ∃ g x y : Int, g ≠ 0 ∧ t = g * x ∧ b = g * y ∧ shr t b = (x, y) ∧ 0 < y ∧ Int.gcd x y = 1 := by
  have hg := gcd_pos (t := t) hb
  obtain ⟨x, hx⟩ := Int.gcd_dvd_left (a := t) (b := b)
  obtain ⟨y, hy⟩ := Int.gcd_dvd_right (a := t) (b := b)
  have hgi : (0 : Int) < (Int.gcd t b : Int) := by omega
  generalize hG : (Int.gcd t b : Int) = G at hx hy hgi
  have hxy : Int.gcd x y = 1 := by
    have h1 : Int.gcd t b = Int.gcd (G * x) (G * y) := by rw [← hx, ← hy]
    rw [Int.gcd_mul_left] at h1
    have h2 : G.natAbs = Int.gcd t b := by rw [← hG]; simp
    rw [h2] at h1
    have h3 : Int.gcd t b * 1 = Int.gcd t b * Int.gcd x y := by omega
    exact (Nat.eq_of_mul_eq_mul_left hg h3).symm
  by_cases hp : 0 < b
  · refine ⟨G, x, y, by omega, hx, hy, ?_, ?_, hxy⟩
    · unfold shr
      rw [if_pos hp, hG]
      have e1 : t.fdiv G = x := by rw [hx]; exact Int.mul_fdiv_cancel_left x (by omega)
      have e2 : b.fdiv G = y := by rw [hy]; exact Int.mul_fdiv_cancel_left y (by omega)
      rw [e1, e2]
    · rw [hy] at hp
      exact Int.pos_of_mul_pos_right hp (by omega)
  · refine ⟨-G, -x, -y, by omega, by rw [hx, Int.neg_mul_neg], by rw [Int.neg_mul_neg]; exact hy, ?_, ?_, ?_⟩
    · unfold shr
      rw [if_neg hp, hG]
      have e1 : t.fdiv (-G) = -x := by
        rw [show t = (-G) * (-x) by rw [Int.neg_mul_neg]; exact hx]; exact Int.mul_fdiv_cancel_left _ (by omega)
      have e2 : b.fdiv (-G) = -y := by
        rw [show b = (-G) * (-y) by rw [Int.neg_mul_neg]; exact hy]; exact Int.mul_fdiv_cancel_left _ (by omega)
      rw [e1, e2]
    · have hyn : y ≠ 0 := by rintro rfl; exact hb (by rw [hy, Int.mul_zero])
      have : ¬ 0 < y := fun h => hp (by rw [hy]; exact Int.mul_pos hgi h)
      omega
    · rw [Int.neg_gcd, Int.gcd_neg]; exact hxy
theorem shr_ok {t b : Int} (hb : b ≠ 0) : ShOk (shr t b) := by
  obtain ⟨g, x, y, _, _, _, e, h1, h2⟩ := shr_form (t := t) hb
  rw [e]; exact ⟨h1, h2⟩
theorem shr_mul {t b : Int} (hb : b ≠ 0) : (shr t b).1 * b = t * (shr t b).2 := by
  obtain ⟨g, x, y, _, ht, hb', e, h1, h2⟩ := shr_form (t := t) hb
  rw [e, ht, hb']
  show x * (g * y) = g * x * y
  rw [Int.mul_comm g x, Int.mul_assoc]
theorem shr_id {t b : Int} (h : ShOk (t, b)) : shr t b = (t, b) := by
  have h1 : 0 < b := h.pos
  have h2 : Int.gcd t b = 1 := h.low
  unfold shr
  rw [if_pos h1, h2]
  show (t.fdiv 1, b.fdiv 1) = (t, b)
  rw [Int.fdiv_one, Int.fdiv_one]
theorem shr_top {t b : Int} (hb : b ≠ 0) : (shr t b).1.natAbs ≤ t.natAbs := by
  obtain ⟨g, x, y, hg, ht, hb', e, h1, h2⟩ := shr_form (t := t) hb
  rw [e, ht, Int.natAbs_mul]
  exact Nat.le_mul_of_pos_left _ (by omega)
theorem shr_below {t b : Int} (hb : b ≠ 0) : (shr t b).2 ≤ b.natAbs := by
  obtain ⟨g, x, y, hg, ht, hb', e, h1, h2⟩ := shr_form (t := t) hb
  have h3 : y.natAbs ≤ b.natAbs := by
    rw [hb', Int.natAbs_mul]
    exact Nat.le_mul_of_pos_left _ (by omega)
  rw [e]
  show y ≤ _
  omega
/-- the operations -/
def plus (p q : Int × Int) : Int × Int := shr (p.1 * q.2 + q.1 * p.2) (p.2 * q.2)
def minus (p q : Int × Int) : Int × Int := shr (p.1 * q.2 - q.1 * p.2) (p.2 * q.2)
def times (p q : Int × Int) : Int × Int := shr (p.1 * q.1) (p.2 * q.2)
theorem mul_ne {a b : Int} (ha : 0 < a) (hb : 0 < b) : a * b ≠ 0 := Int.ne_of_gt (Int.mul_pos ha hb)
theorem plus_ok {p q : Int × Int} (hp : 0 < p.2) (hq : 0 < q.2) : ShOk (plus p q) := shr_ok (mul_ne hp hq)
theorem minus_ok {p q : Int × Int} (hp : 0 < p.2) (hq : 0 < q.2) : ShOk (minus p q) := shr_ok (mul_ne hp hq)
theorem times_ok {p q : Int × Int} (hp : 0 < p.2) (hq : 0 < q.2) : ShOk (times p q) := shr_ok (mul_ne hp hq)
theorem one_pos : (0 : Int) < 1 := by decide
/-- the charge of a raw number: ped, gain -/
def amt (ped gain : Int × Int) (r : Int) : Int × Int := times (minus (r, 1) ped) (gain.2, gain.1)
theorem amt_ok {ped gain : Int × Int} {r : Int} (hp : 0 < ped.2) (hg : 0 < gain.1) : ShOk (amt ped gain r) := times_ok (minus_ok (p := (r, 1)) one_pos hp).pos hg
/-- the raw number of a charge -/
def back (ped gain a : Int × Int) : Int × Int := plus ped (times gain a)
theorem back_amt {ped gain : Int × Int} {r : Int} (hp : 0 < ped.2) (hg : 0 < gain.1) (hgb : 0 < gain.2) : (back ped gain (amt ped gain r)).1.fdiv (back ped gain (amt ped gain r)).2 = r := by
  obtain ⟨pt, pb⟩ := ped
  obtain ⟨gt, gb⟩ := gain
  have hp : 0 < pb := hp
  have hg : 0 < gt := hg
  have hgb : 0 < gb := hgb
  have okm := minus_ok (p := (r, 1)) (q := (pt, pb)) one_pos hp
  have em : (minus (r, 1) (pt, pb)).1 * (1 * pb) = (r * pb - pt * 1) * (minus (r, 1) (pt, pb)).2 := shr_mul (mul_ne one_pos hp)
  have oka := amt_ok (ped := (pt, pb)) (gain := (gt, gb)) (r := r) hp hg
  have ea : (amt (pt, pb) (gt, gb) r).1 * ((minus (r, 1) (pt, pb)).2 * gt) = ((minus (r, 1) (pt, pb)).1 * gb) * (amt (pt, pb) (gt, gb) r).2 := shr_mul (mul_ne okm.pos hg)
  unfold back
  generalize amt (pt, pb) (gt, gb) r = a at oka ea ⊢
  obtain ⟨a1, a2⟩ := a
  have hm2 := okm.pos
  generalize minus (r, 1) (pt, pb) = m at em ea hm2
  obtain ⟨m1, m2⟩ := m
  have ha2 : 0 < a2 := oka.pos
  have oku := times_ok (p := (gt, gb)) (q := (a1, a2)) hgb ha2
  have eu : (times (gt, gb) (a1, a2)).1 * (gb * a2) = (gt * a1) * (times (gt, gb) (a1, a2)).2 := shr_mul (mul_ne hgb ha2)
  generalize times (gt, gb) (a1, a2) = u at oku eu ⊢
  obtain ⟨u1, u2⟩ := u
  have hu2 : 0 < u2 := oku.pos
  simp only at em ea hm2 eu
  have okf := plus_ok (p := (pt, pb)) (q := (u1, u2)) hp hu2
  have ef : (plus (pt, pb) (u1, u2)).1 * (pb * u2) = (pt * u2 + u1 * pb) * (plus (pt, pb) (u1, u2)).2 := shr_mul (mul_ne hp hu2)
  generalize plus (pt, pb) (u1, u2) = f at okf ef ⊢
  obtain ⟨f1, f2⟩ := f
  have hf2 : 0 < f2 := okf.pos
  simp only at ef ⊢
  -- u1 * pb = (r * pb - pt) * u2
  have k1 : u1 * pb = (r * pb - pt) * u2 := by
    have hne : gb * a2 * m2 ≠ 0 := mul_ne (Int.mul_pos hgb ha2) hm2
    have em' : m1 * pb = (r * pb - pt) * m2 := by
      have := em
      rw [Int.one_mul, Int.mul_one] at this
      exact this
    refine Int.eq_of_mul_eq_mul_right hne ?_
    calc u1 * pb * (gb * a2 * m2) = (u1 * (gb * a2)) * (pb * m2) := by ac_rfl
      _ = (gt * a1 * u2) * (pb * m2) := by rw [eu]
      _ = (a1 * (m2 * gt)) * (u2 * pb) := by ac_rfl
      _ = (m1 * gb * a2) * (u2 * pb) := by rw [ea]
      _ = (m1 * pb) * (gb * a2 * u2) := by ac_rfl
      _ = ((r * pb - pt) * m2) * (gb * a2 * u2) := by rw [em']
      _ = (r * pb - pt) * u2 * (gb * a2 * m2) := by ac_rfl
  have k2 : pt * u2 + u1 * pb = r * (pb * u2) := by
    rw [k1, Int.sub_mul, Int.mul_assoc]
    omega
  rw [k2] at ef
  have k3 : f1 = r * f2 := by
    have hne : pb * u2 ≠ 0 := mul_ne hp hu2
    refine Int.eq_of_mul_eq_mul_right hne ?_
    rw [ef]; ac_rfl
  rw [k3]
  exact Int.mul_fdiv_cancel r (by omega)

/-! ### bounds -/
theorem below_le {x y : Int} {m n : Nat} (h0 : 0 < x) (h1 : x ≤ m) (k0 : 0 < y) (k1 : y ≤ n) : x * y ≤ ((m * n : Nat) : Int) := by
  rw [Int.natCast_mul]
  exact Int.mul_le_mul h1 k1 (by omega) (by omega)
theorem abs_mul_le {x y : Int} {m n : Nat} (h : x.natAbs ≤ m) (k : y.natAbs ≤ n) : (x * y).natAbs ≤ m * n := by
  rw [Int.natAbs_mul]
  exact Nat.mul_le_mul h k
theorem abs_add_le {x y : Int} {m n : Nat} (h : x.natAbs ≤ m) (k : y.natAbs ≤ n) : (x + y).natAbs ≤ m + n := by omega
theorem abs_sub_le {x y : Int} {m n : Nat} (h : x.natAbs ≤ m) (k : y.natAbs ≤ n) : (x - y).natAbs ≤ m + n := by omega
theorem abs_of_pos {x : Int} {m : Nat} (h0 : 0 < x) (h1 : x ≤ m) : x.natAbs ≤ m := by omega
/-- sizes -/
structure Sz (A D : Nat) (p : Int × Int) : Prop where
  pos : 0 < p.2
  top : p.1.natAbs ≤ A
  low : p.2 ≤ D
theorem Sz.mono {A D A' D' : Nat} {p : Int × Int} (h : Sz A D p) (a : A ≤ A') (d : D ≤ D') : Sz A' D' p := ⟨h.pos, by have := h.top; omega, by have := h.low; omega⟩
theorem Sz.abs {A D : Nat} {p : Int × Int} (h : Sz A D p) : p.2.natAbs ≤ D := abs_of_pos h.pos h.low
theorem shr_sz {t b : Int} {A D : Nat} (hb : 0 < b) (h1 : t.natAbs ≤ A) (h2 : b ≤ D) : Sz A D (shr t b) :=
  ⟨(shr_ok (Int.ne_of_gt hb)).pos, Nat.le_trans (shr_top (Int.ne_of_gt hb)) h1, by have := shr_below (t := t) (Int.ne_of_gt hb); omega⟩
theorem plus_sz {A D A' D' : Nat} {p q : Int × Int} (h : Sz A D p) (k : Sz A' D' q) : Sz (A * D' + A' * D) (D * D') (plus p q) :=
  shr_sz (Int.mul_pos h.pos k.pos) (abs_add_le (abs_mul_le h.top k.abs) (abs_mul_le k.top h.abs)) (below_le h.pos h.low k.pos k.low)
theorem minus_sz {A D A' D' : Nat} {p q : Int × Int} (h : Sz A D p) (k : Sz A' D' q) : Sz (A * D' + A' * D) (D * D') (minus p q) :=
  shr_sz (Int.mul_pos h.pos k.pos) (abs_sub_le (abs_mul_le h.top k.abs) (abs_mul_le k.top h.abs)) (below_le h.pos h.low k.pos k.low)
theorem times_sz {A D A' D' : Nat} {p q : Int × Int} (h : Sz A D p) (k : Sz A' D' q) : Sz (A * A') (D * D') (times p q) :=
  shr_sz (Int.mul_pos h.pos k.pos) (abs_mul_le h.top k.top) (below_le h.pos h.low k.pos k.low)
/-- a cell's gain: pedestal and gain -/
abbrev Gn := (Int × Int) × (Int × Int)
structure GnOk (g : Gn) : Prop where
  ped : ShOk g.1
  gain : ShOk g.2
  up : 0 < g.2.1
  a : g.1.1.natAbs ≤ 20
  b : g.1.2 ≤ 3
  c : g.2.1 ≤ 9
  d : g.2.2 ≤ 100
def dft : Gn := ((0, 1), (1, 1))
theorem dft_ok : GnOk dft := by
  refine ⟨⟨by decide, by decide⟩, ⟨by decide, by decide⟩, by decide, by decide, by decide, by decide, by decide⟩
theorem GnOk.sz1 {g : Gn} (h : GnOk g) : Sz 20 3 g.1 := ⟨h.ped.pos, h.a, h.b⟩
theorem GnOk.sz2 {g : Gn} (h : GnOk g) : Sz 9 100 g.2 := ⟨h.gain.pos, abs_of_pos h.up h.c, h.d⟩
theorem GnOk.sz3 {g : Gn} (h : GnOk g) : Sz 100 9 (g.2.2, g.2.1) := ⟨h.up, abs_of_pos h.gain.pos h.d, h.c⟩
/-- the charge of a raw number, the raw number of a charge, in one cell -/
def chg (g : Gn) (r : Int) : Int × Int := amt g.1 g.2 r
theorem chg_ok {g : Gn} (h : GnOk g) (r : Int) : ShOk (chg g r) := amt_ok h.ped.pos h.up
theorem raw_sz {r : Int} (h0 : 0 ≤ r) (h1 : r ≤ 100000) : Sz 100000 1 (r, 1) := ⟨by show (0 : Int) < 1; decide, by show r.natAbs ≤ 100000; omega, by show (1 : Int) ≤ _; decide⟩
theorem net_sz {g : Gn} (h : GnOk g) {r : Int} (h0 : 0 ≤ r) (h1 : r ≤ 100000) : Sz 1000000 3 (minus (r, 1) g.1) := (minus_sz (raw_sz h0 h1) h.sz1).mono (by decide) (by decide)
theorem chg_sz {g : Gn} (h : GnOk g) {r : Int} (h0 : 0 ≤ r) (h1 : r ≤ 100000) : Sz 1000000000 100 (chg g r) := (times_sz (net_sz h h0 h1) h.sz3).mono (by decide) (by decide)
theorem led_sz {g : Gn} (h : GnOk g) {a : Int × Int} (k : Sz 1000000000 100 a) : Sz 10000000000 10000 (times g.2 a) := (times_sz h.sz2 k).mono (by decide) (by decide)
/-- the number of a hit -/
def num (g : Gn) (r : Int) : Int := if (chg g r).1.fdiv (chg g r).2 < 1000 then (chg g r).1.fdiv (chg g r).2 else 1000
theorem num_le (g : Gn) (r : Int) : num g r ≤ 1000 := by unfold num; split <;> omega
/-- the event of raw numbers -/
abbrev Cl := Int × Int
def hit (G : Cl → Gn) (e : Cl × Int) : Option (Cl × Int) := if 1 ≤ num (G e.1) e.2 then some (e.1, num (G e.1) e.2) else none
def hits (G : Cl → Gn) (rs : List (Cl × Int)) : List (Cl × Int) := rs.filterMap (hit G)
theorem hits_snoc (G : Cl → Gn) (rs : List (Cl × Int)) (e : Cl × Int) : hits G (rs ++ [e]) = hits G rs ++ (if 1 ≤ num (G e.1) e.2 then [(e.1, num (G e.1) e.2)] else []) := by
  unfold hits
  rw [List.filterMap_append]
  congr 1
  unfold hit
  by_cases h : 1 ≤ num (G e.1) e.2
  · simp [h]
  · simp [h]
theorem mem_hits {G : Cl → Gn} {rs : List (Cl × Int)} {x : Cl × Int} (h : x ∈ hits G rs) : ∃ r, (x.1, r) ∈ rs ∧ x.2 = num (G x.1) r ∧ 1 ≤ x.2 ∧ x.2 ≤ 1000 := by
  obtain ⟨e, he, q⟩ := List.mem_filterMap.mp h
  unfold hit at q
  split at q
  · rename_i h1
    have q := Option.some.inj q
    subst q
    exact ⟨e.2, he, rfl, h1, num_le _ _⟩
  · cases q
theorem hits_len (G : Cl → Gn) (rs : List (Cl × Int)) : (hits G rs).length ≤ rs.length := List.length_filterMap_le _ _
/-- cells in order -/
def cLt (a b : Cl) : Prop := a.1 < b.1 ∨ (a.1 = b.1 ∧ a.2 < b.2)
abbrev Asc (l : List (Cl × Int)) : Prop := l.Pairwise fun a b => cLt a.1 b.1
theorem hits_asc {G : Cl → Gn} : ∀ {rs : List (Cl × Int)}, Asc rs → Asc (hits G rs)
  | [], _ => List.Pairwise.nil
  | e :: rs, h => by
    obtain ⟨h1, h2⟩ := List.pairwise_cons.mp h
    have ih := hits_asc (G := G) h2
    unfold hits
    rw [List.filterMap_cons]
    split
    · exact ih
    · rename_i x hx
      refine List.pairwise_cons.mpr ⟨fun y hy => ?_, ih⟩
      obtain ⟨r, hr, _⟩ := mem_hits (G := G) hy
      unfold hit at hx
      split at hx
      · have hx := Option.some.inj hx
        subst hx
        exact h1 (y.1, r) hr
      · cases hx
theorem asc_snoc {rs : List (Cl × Int)} {e : Cl × Int} (h : Asc rs) (k : ∀ x ∈ rs, cLt x.1 e.1) : Asc (rs ++ [e]) := by
  refine List.pairwise_append.mpr ⟨h, List.pairwise_singleton _ _, fun a ha b hb => ?_⟩
  have := List.mem_singleton.mp hb
  subst this
  exact k a ha
theorem cLt_irrefl {a : Cl} (h : cLt a a) : False := by
  unfold cLt at h; omega
/-! ### a sorted list of the same items is the same list -/
theorem sort_same {α : Type} {R S : α → α → Prop} (hRS : ∀ x y, S x y → R y x → False) : ∀ {xs ys : List α}, ys.Perm xs → ys.Pairwise R → xs.Pairwise S → ys = xs
  | [], ys, hp, _, _ => List.Perm.eq_nil hp
  | x :: xs, [], hp, _, _ => absurd hp.length_eq (by simp)
  | x :: xs, y :: ys, hp, hy, hx => by
    obtain ⟨hx1, hx2⟩ := List.pairwise_cons.mp hx
    obtain ⟨hy1, hy2⟩ := List.pairwise_cons.mp hy
    have mx : x ∈ y :: ys := hp.mem_iff.mpr List.mem_cons_self
    have my : y ∈ x :: xs := hp.mem_iff.mp List.mem_cons_self
    rcases List.mem_cons.mp my with e | m1
    · subst e
      rw [sort_same hRS (List.Perm.cons_inv hp) hy2 hx2]
    · rcases List.mem_cons.mp mx with e | m2
      · subst e
        rw [sort_same hRS (List.Perm.cons_inv hp) hy2 hx2]
      · exact (hRS x y (hx1 y m1) (hy1 x m2)).elim
/-! ### the greatest number that divides two, by a loop -/
theorem gcd_turn (m n : Nat) : Nat.gcd n (m % n) = Nat.gcd m n := by
  rw [Nat.gcd_comm n (m % n), ← Nat.gcd_rec, Nat.gcd_comm]
end K14
/-! The text by places; what stands in the heap. -/
namespace K14
open L2 PySem PySem.Spec PyProof.Rows
def top (i : Nat) : Stmt := PySem.Challenge.pw_tracecatch_k14_whole_gains.main.body.getD i (.Pass ⟨0, 0, 0, 0⟩)
/-! ### what stands at an address -/
def shO (q : Int × Int) : HO := .tup [.int q.1, .int q.2]
def ShAt (H : Hp) (p : Addr) (q : Int × Int) : Prop := H p = some (.tup [.int q.1, .int q.2])
abbrev Pl := Int × Int × Int × Int
def PlAt (H : Hp) (p : Addr) (l : Pl) : Prop := H p = some (.tup [.int l.1, .int l.2.1, .int l.2.2.1, .int l.2.2.2])
structure PlOk (l : Pl) : Prop where
  z0 : -1000 ≤ l.1
  z1 : l.1 ≤ 1000
  b0 : -1000 ≤ l.2.1
  b1 : l.2.1 ≤ 1000
  w0 : 1 ≤ l.2.2.1
  w1 : l.2.2.1 ≤ 50
  c0 : 2 ≤ l.2.2.2
  c1 : l.2.2.2 ≤ 18
structure CatOk (l0 l1 : Pl) : Prop where
  p0 : PlOk l0
  p1 : PlOk l1
  lt : l0.1 < l1.1
def CatAt (H : Hp) (a : Addr) (l0 l1 : Pl) : Prop := ∃ p0 p1 : Addr, H a = some (.tup [.ref p0, .ref p1]) ∧ PlAt H p0 l0 ∧ PlAt H p1 l1
def CellOk (l0 l1 : Pl) (c : Cl) : Prop := (c.1 = 0 ∧ 0 ≤ c.2 ∧ c.2 < l0.2.2.2) ∨ (c.1 = 1 ∧ 0 ≤ c.2 ∧ c.2 < l1.2.2.2)
def GnAt (H : Hp) (p : Addr) (g : Gn) : Prop := ∃ x y : Addr, H p = some (.tup [.ref x, .ref y]) ∧ ShAt H x g.1 ∧ ShAt H y g.2
/-- a cell as a key -/
def ck (c : Cl) : List Key := [.inl c.1, .inl c.2]
theorem ck_map (c : Cl) : (ck c).map kV = [V.int c.1, V.int c.2] := rfl
theorem ck_inj {a b : Cl} (h : ck a = ck b) : a = b := by
  unfold ck at h
  obtain ⟨a1, a2⟩ := a
  obtain ⟨b1, b2⟩ := b
  simp only [List.cons.injEq, Sum.inl.injEq, and_true] at h
  rw [h.1, h.2]
/-- a table of gains: cells that are in it, the gain of every cell -/
structure TabIs (H : Hp) (kvs : List (List Key × V)) (l0 l1 : Pl) (G : Cl → Gn) : Prop where
  len : kvs.length ≤ 100
  mem : ∀ kv ∈ kvs, ∃ (c : Cl) (a : Addr), kv.1 = ck c ∧ CellOk l0 l1 c ∧ kv.2 = .ref a ∧ GnAt H a (G c)
  non : ∀ c, valV kvs (ck c) = none → G c = dft
def TabAt (H : Hp) (d : Addr) (l0 l1 : Pl) (G : Cl → Gn) : Prop := ∃ kvs, H d = some (.dT kvs) ∧ TabIs H kvs l0 l1 G
def rawKv (e : Cl × Int) : List Key × V := (ck e.1, .int e.2)
def RawsAt (H : Hp) (d : Addr) (rs : List (Cl × Int)) : Prop := H d = some (.dT (rs.map rawKv))
def hitL (e : Cl × Int) : List Int := [e.1.1, e.1.2, e.2]
def HitAt (H : Hp) (p : Addr) (e : Cl × Int) : Prop := H p = some (.tup ((hitL e).map V.int))
def EvAt (H : Hp) (q : Addr) (es : List (Cl × Int)) : Prop := ∃ bs : List Addr, H q = some (.tup (bs.map V.ref)) ∧ Paired (fun b e => HitAt H b e) bs es
/-- the script's own store of numbers -/
def Town (H : Hp) (T N : Addr) : Prop := ∃ (t : Int) (ns : List Int), H T = some (.lst [.ref N, .int t]) ∧ H N = some (.lst (ns.map V.int)) ∧ ns ≠ [] ∧ ns.length ≤ 63
/-- all but the town stands -/
def But (T N : Addr) (H H' : Hp) : Prop := ∀ b o, H b = some o → b ≠ T → b ≠ N → H' b = some o
/-- tuples stand -/
def Kt (H H' : Hp) : Prop := ∀ b xs, H b = some (.tup xs) → H' b = some (.tup xs)
theorem Kt.refl (H : Hp) : Kt H H := fun _ _ h => h
theorem Kt.trans {H H1 H2 : Hp} (a : Kt H H1) (b : Kt H1 H2) : Kt H H2 := fun c xs h => b c xs (a c xs h)
theorem kt {H H' : Hp} (s : Same H H') : Kt H H' := fun b xs h => s b _ h
theorem same_new {H : Hp} {p : Addr} {o : HO} (h : H p = none) : Same H (upd H p o) := fun b x e => by
  rw [upd_ne (ne_of_none e h)]
  exact e
theorem But.refl (T N : Addr) (H : Hp) : But T N H H := fun _ _ h _ _ => h
theorem But.trans {T N : Addr} {H H1 H2 : Hp} (a : But T N H H1) (b : But T N H1 H2) : But T N H H2 := fun c o h h1 h2 => b c o (a c o h h1 h2) h1 h2
theorem but {T N : Addr} {H H' : Hp} (s : Same H H') : But T N H H' := fun b o h _ _ => s b o h
theorem Town.ne {T N b : Addr} {H : Hp} {o : HO} (t : Town H T N) (h : H b = some o) (ho : ∀ xs, o ≠ .lst xs) : b ≠ T ∧ b ≠ N := by
  obtain ⟨_, ns, h1, h2, _⟩ := t
  exact ⟨ne_of h h1 (ho _), ne_of h h2 (ho _)⟩
theorem But.tup {T N b : Addr} {H H' : Hp} {xs : List V} (a : But T N H H') (t : Town H T N) (h : H b = some (.tup xs)) : H' b = some (.tup xs) := by
  obtain ⟨n1, n2⟩ := t.ne h (fun _ z => by cases z)
  exact a b _ h n1 n2
theorem But.dic {T N b : Addr} {H H' : Hp} {kvs : List (List Key × V)} (a : But T N H H') (t : Town H T N) (h : H b = some (.dT kvs)) : H' b = some (.dT kvs) := by
  obtain ⟨n1, n2⟩ := t.ne h (fun _ z => by cases z)
  exact a b _ h n1 n2
theorem But.kt {T N : Addr} {H H' : Hp} (a : But T N H H') (t : Town H T N) : Kt H H' := fun b xs h => a.tup t h
theorem Town.same {T N : Addr} {H H' : Hp} (t : Town H T N) (s : Same H H') : Town H' T N := by
  obtain ⟨i, ns, h1, h2, h3⟩ := t
  exact ⟨i, ns, s _ _ h1, s _ _ h2, h3⟩
section
variable {H H' : Hp} (k : Kt H H')
include k
theorem ShAt.to {p : Addr} {q : Int × Int} (h : ShAt H p q) : ShAt H' p q := k _ _ h
theorem PlAt.to {p : Addr} {q : Pl} (h : PlAt H p q) : PlAt H' p q := k _ _ h
theorem CatAt.to {a : Addr} {l0 l1 : Pl} (h : CatAt H a l0 l1) : CatAt H' a l0 l1 := by
  obtain ⟨p0, p1, h1, h2, h3⟩ := h
  exact ⟨p0, p1, k _ _ h1, h2.to k, h3.to k⟩
theorem GnAt.to {a : Addr} {g : Gn} (h : GnAt H a g) : GnAt H' a g := by
  obtain ⟨x, y, h1, h2, h3⟩ := h
  exact ⟨x, y, k _ _ h1, h2.to k, h3.to k⟩
theorem TabIs.to {kvs : List (List Key × V)} {l0 l1 : Pl} {G : Cl → Gn} (h : TabIs H kvs l0 l1 G) : TabIs H' kvs l0 l1 G :=
  ⟨h.len, fun kv m => by
    obtain ⟨c, a, e1, e2, e3, e4⟩ := h.mem kv m
    exact ⟨c, a, e1, e2, e3, e4.to k⟩, h.non⟩
theorem HitAt.to {a : Addr} {e : Cl × Int} (h : HitAt H a e) : HitAt H' a e := k _ _ h
theorem EvAt.to {a : Addr} {es : List (Cl × Int)} (h : EvAt H a es) : EvAt H' a es := by
  obtain ⟨bs, h1, h2⟩ := h
  exact ⟨bs, k _ _ h1, Paired.mapP h2 fun b e q => q.to k⟩
end
theorem TabAt.to {H H' : Hp} {d : Addr} {l0 l1 : Pl} {G : Cl → Gn} (s : Same H H') (h : TabAt H d l0 l1 G) : TabAt H' d l0 l1 G := by
  obtain ⟨kvs, h1, h2⟩ := h
  exact ⟨kvs, s _ _ h1, h2.to (kt s)⟩
theorem RawsAt.to {H H' : Hp} {d : Addr} {rs : List (Cl × Int)} (s : Same H H') (h : RawsAt H d rs) : RawsAt H' d rs := s _ _ h
/-! ### what the top has bound of the built-ins: nothing -/
structure Bl (mg : Str → Option Value) : Prop where
  isinstance : mg "isinstance" = none
  int : mg "int" = none
  bool : mg "bool" = none
  tuple : mg "tuple" = none
  dict : mg "dict" = none
  abs : mg "abs" = none
  max : mg "max" = none
  min : mg "min" = none
  len : mg "len" = none
  list : mg "list" = none
  range : mg "range" = none
  all : mg "all" = none
  sorted : mg "sorted" = none
/-- a def of the text -/
structure Df (K : PySem.W.Frag) (mg : Str → Option Value) (x : Str) (st : Stmt) (ps : List Str) : Prop where
  ex : ∃ (f : Addr) (fd : FuncData), Fun K x x st f fd ∧ mg x = some (.ref f) ∧ Binds K fd ps []
section
variable {K : PySem.W.Frag} {mg : Str → Option Value} {P : Program} {w : World} {base : Heap}
theorem df_ok {x : Str} {st : Stmt} {N ps : List Str} {k : Nat} {sp : Sp} (D : Df K mg x st ps) (S : FnScope N ps (defScope st)) (len : ∀ vs H Q E, sp vs H Q E → vs.length = ps.length)
    (hbody : ∀ (f : Addr) (cdv : Value) (A : Around) (outer : List Env) (s : Shared) (H : Hp) (vs : List V) (Q : VK) (E : XK), Room k (A.deeper (envOfC x (defScope st) s.heap.objs.size f cdv)) → sp vs H Q E →
      ∃ t, PSs (cxOf CX0 P w K mg base N x (defScope st) f cdv A outer s H E).nox (defBody st) t ∧ t { nx := fun _ H' => Q .non H', rt := Q } (start N vs) H) : C8.Cal P w K mg base (k + 1) x sp [] := by
  obtain ⟨f, fd, F, m, b⟩ := D.ex
  exact ⟨f, fd, ps, [], F.ok S len fun cdv A outer s H vs Q E hr h => hbody f cdv A outer s H vs Q E hr h, m, F.kp, b, .nil⟩
end
end K14
/-! is_number, is_whole, common -/
namespace K14
open L2 PySem PySem.Spec PyProof.Rows
section
variable {X : Cx}
theorem call_isInt : CallR X (.builtin "isinstance") (fun xs H Q => ∃ i, xs = [.int i, .ty "int"] ∧ Q (.bl true) H) := by
  intro pins s σ H xs ws Q I r h
  obtain ⟨i, rfl, q⟩ := h
  exact call_isi pins s σ H _ ws Q I r ⟨_, _, _, _, true, rfl, .ty _, .base (.int i), kit_ty (by decide +kernel), q⟩
theorem call_isBoolI : CallR X (.builtin "isinstance") (fun xs H Q => ∃ i, xs = [.int i, .ty "bool"] ∧ Q (.bl false) H) := by
  intro pins s σ H xs ws Q I r h
  obtain ⟨i, rfl, q⟩ := h
  exact call_isi pins s σ H _ ws Q I r ⟨_, _, _, _, false, rfl, .ty _, .base (.int i), kit_ty (by decide +kernel), q⟩
theorem call_isTup : CallR X (.builtin "isinstance") (fun xs H Q => ∃ a ys, xs = [.ref a, .ty "tuple"] ∧ H a = some (.tup ys) ∧ Q (.bl true) H) := by
  intro pins s σ H xs ws Q I r h
  obtain ⟨a, ys, rfl, e, q⟩ := h
  exact call_isi pins s σ H _ ws Q I r ⟨_, _, _, _, true, rfl, .ty _, .base (.tup e), kit_ty (by decide +kernel), q⟩
theorem call_isDic : CallR X (.builtin "isinstance") (fun xs H Q => ∃ a kvs, xs = [.ref a, .ty "dict"] ∧ H a = some (.dT kvs) ∧ Q (.bl true) H) := by
  intro pins s σ H xs ws Q I r h
  obtain ⟨a, ys, rfl, e, q⟩ := h
  exact call_isi pins s σ H _ ws Q I r ⟨_, _, _, _, true, rfl, .ty _, .base (.dT e), kit_ty (by decide +kernel), q⟩
end
theorem qdec {Q : VK} {H : Hp} {c : Prop} [Decidable c] (h : c) (q : Q (.bl true) H) : Q (.bl (decide c)) H := by
  rw [decide_eq_true h]
  exact q
theorem bi_isinstance : bootBuiltins "isinstance" = some (.builtin "isinstance") := by decide +kernel
theorem bi_intT : bootBuiltins "int" = some (.type "int") := by decide +kernel
theorem bi_boolT : bootBuiltins "bool" = some (.type "bool") := by decide +kernel
theorem bi_tupleT : bootBuiltins "tuple" = some (.type "tuple") := by decide +kernel
theorem bi_dictT : bootBuiltins "dict" = some (.type "dict") := by decide +kernel
section
variable {K : PySem.W.Frag} {mg : Str → Option Value} {P : Program} {w : World} {base : Heap}
theorem sc4 : FnScope ["thing"] ["thing"] (defScope (top 4)) := ⟨rfl, rfl, rfl, by decide +kernel, rfl, by decide +kernel, by decide +kernel⟩
def spIsNumber : Sp := fun vs H Q _ => ∃ i, vs = [.int i] ∧ Q (.bl true) H
theorem ok_is_number (D : Df K mg "is_number" (top 4) ["thing"]) (B : Bl mg) : C8.Cal P w K mg base 1 "is_number" spIsNumber [] := by
  refine df_ok D sc4 (fun vs H Q E h => ?_) (fun f cdv A outer s H vs Q E hr h => ?_)
  · obtain ⟨i, rfl, _⟩ := h; rfl
  · obtain ⟨i, rfl, q⟩ := h
    refine ⟨_, pss_one (ps_ret (pe_and (pe_callB call_isInt (by rfl) B.isinstance bi_isinstance (pa_cons (pv 0) (pa_cons (pe_bltn (v := .ty "int") (by rfl) B.int bi_intT rfl) pa_nil)))
      (pe_one (pe_not (pe_callB call_isBoolI (by rfl) B.isinstance bi_isinstance (pa_cons (pv 0) (pa_cons (pe_bltn (v := .ty "bool") (by rfl) B.bool bi_boolT rfl) pa_nil))))))), ?_⟩
    exact ⟨_, rfl, i, rfl, true, rfl, iteT ⟨_, rfl, i, rfl, false, rfl, q⟩⟩
theorem sc5 : FnScope ["thing", "low", "high"] ["thing", "low", "high"] (defScope (top 5)) := ⟨rfl, rfl, rfl, by decide +kernel, rfl, by decide +kernel, by decide +kernel⟩
def spIsWhole : Sp := fun vs H Q _ => ∃ x lo hi, vs = [.int x, .int lo, .int hi] ∧ lo ≤ x ∧ x ≤ hi ∧ Q (.bl true) H
theorem ok_is_whole (D : Df K mg "is_whole" (top 5) ["thing", "low", "high"]) (B : Bl mg) (c1 : C8.Cal P w K mg base 1 "is_number" spIsNumber []) : C8.Cal P w K mg base 2 "is_whole" spIsWhole [] := by
  refine df_ok D sc5 (fun vs H Q E h => ?_) (fun f cdv A outer s H vs Q E hr h => ?_)
  · obtain ⟨x, lo, hi, rfl, _⟩ := h; rfl
  · obtain ⟨x, lo, hi, rfl, h1, h2, q⟩ := h
    refine ⟨_, pss_one (ps_ret (pe_and (C8.pe_c c1 hr (by decide) (by rfl) (pa_cons (pv 0) pa_nil)) (pe_one (pe_chain op_le op_le (pv 1) (pv 0) (pv 2))))), ?_⟩
    refine ⟨_, rfl, x, rfl, true, rfl, iteT ⟨_, rfl, _, rfl, _, _, rfl, rfl, true, congrArg V.bl (decide_eq_true h1), iteT ⟨_, rfl, _, _, rfl, rfl, qdec h2 q⟩⟩⟩
theorem sc7 : FnScope ["one", "other"] ["one", "other"] (defScope (top 7)) := ⟨rfl, rfl, rfl, by decide +kernel, rfl, by decide +kernel, by decide +kernel⟩
def spCommon : Sp := fun vs H Q _ => ∃ a b : Int, vs = [.int a, .int b] ∧ Q (.int (Int.gcd a b : Nat)) H
theorem abs_eq (i : Int) : (if i < 0 then -i else i) = ((i.natAbs : Nat) : Int) := by split <;> omega
theorem bi_abs : bootBuiltins "abs" = some (.builtin "abs") := by decide +kernel
theorem ok_common (D : Df K mg "common" (top 7) ["one", "other"]) (B : Bl mg) : C8.Cal P w K mg base 1 "common" spCommon [] := by
  refine df_ok D sc7 (fun vs H Q E h => ?_) (fun f cdv A outer s H vs Q E hr h => ?_)
  · obtain ⟨a, b, rfl, _⟩ := h; rfl
  · obtain ⟨a, b, rfl, q⟩ := h
    refine ⟨_, pss_cons (ps_par (i := 0) (j := 1) (by rfl) sc7.nd rfl rfl (by decide) rfl rfl (pa_cons (pe_callB call_abs (by rfl) B.abs bi_abs (pa_cons (pv 0) pa_nil)) (pa_cons (pe_callB call_abs (by rfl) B.abs bi_abs (pa_cons (pv 1) pa_nil)) pa_nil)) (by rfl))
      (pss_cons (ps_while PassesOwn.never (pt_cmpR op_ne (pv 1) pe_int (nomark _))
        (pss_one (ps_par (i := 0) (j := 1) (by rfl) sc7.nd rfl rfl (by decide) rfl rfl (pa_cons (pv 1) (pa_cons (pe_op op_mod (pv 0) (pv 1)) pa_nil)) (by rfl))))
      (pss_one (ps_ret (pv 0)))), ?_⟩
    refine ⟨_, rfl, a, rfl, _, rfl, b, rfl, _, _, rfl, ?_⟩
    refine ⟨fun m σ H' => H' = H ∧ ∃ x y : Nat, σ = [some (.int x), some (.int y)] ∧ m = y ∧ Nat.gcd x y = Int.gcd a b, ⟨b.natAbs, rfl, a.natAbs, b.natAbs, ?_, rfl, rfl⟩, ?_⟩
    · rw [abs_eq, abs_eq]; rfl
    · rintro m σ H' ⟨rfl, x, y, rfl, rfl, hg⟩
      refine ⟨_, rfl, rfl, _, rfl, ?_⟩
      by_cases hy : m = 0
      · subst hy
        have e : (!decide (V.int ((0 : Nat) : Int) = V.int 0)) = false := by decide
        rw [e]
        refine iteF ⟨_, rfl, ?_⟩
        rw [← hg, Nat.gcd_zero_right] at q
        exact q
      · have e : (!decide (V.int ((m : Nat) : Int) = V.int 0)) = true := by
          rw [Bool.not_eq_true', decide_eq_false_iff_not]
          intro z
          injection z with z
          omega
        rw [e]
        refine iteT ⟨_, fun σ' H' hN => ⟨x % m, Nat.mod_lt _ (by omega), hN⟩, ?_⟩
        refine ⟨_, rfl, _, rfl, _, rfl, _, _, rfl, rfl, (by show (0 : Int) < (m : Int); omega), _, _, rfl, rfl, m, x % m, ?_, rfl, ?_⟩
        · show [some (V.int (m : Int)), some (V.int ((x : Int) % (m : Int)))] = _
          rw [← Int.natCast_emod]
        · rw [gcd_turn]; exact hg
end
end K14
/-! share, is_share, plus, minus, times, whole -/
namespace K14
open L2 PySem PySem.Spec PyProof.Rows
theorem shr_up {t b : Int} (h : 0 < b) : shr t b = (t.fdiv (Int.gcd t b : Nat), b.fdiv (Int.gcd t b : Nat)) := by unfold shr; rw [if_pos h]
theorem shr_dn {t b : Int} (h : ¬ 0 < b) : shr t b = (t.fdiv (-(Int.gcd t b : Nat)), b.fdiv (-(Int.gcd t b : Nat))) := by unfold shr; rw [if_neg h]
theorem gcd_small {t b : Int} (hb : b ≠ 0) (h : b.natAbs < 1073741824) : Int.gcd t b < 1073741824 := by
  have := Nat.gcd_le_right t.natAbs (n := b.natAbs) (by omega)
  show Nat.gcd t.natAbs b.natAbs < _
  omega
theorem bi_len : bootBuiltins "len" = some (.builtin "len") := by decide +kernel
def spShare : Sp := fun vs H Q _ => ∃ t b : Int, vs = [.int t, .int b] ∧ b ≠ 0 ∧ b.natAbs < 1073741824 ∧ ∀ p H', Same H H' → ShAt H' p (shr t b) → Q (.ref p) H'
def spIsShare : Sp := fun vs H Q _ => ∃ (p : Addr) (q : Int × Int), vs = [.ref p] ∧ ShAt H p q ∧ ShOk q ∧ Q (.bl true) H
/-- two shares of some size, by f -/
def spTwo (f : Int × Int → Int × Int → Int × Int) : Sp := fun vs H Q _ => ∃ (a b : Addr) (p q : Int × Int), vs = [.ref a, .ref b] ∧ ShAt H a p ∧ ShAt H b q ∧ Sz 1000000000000000 30000 p ∧ Sz 1000000000000000 30000 q ∧
  ∀ r H', Same H H' → ShAt H' r (f p q) → Q (.ref r) H'
def spWhole : Sp := fun vs H Q _ => ∃ n : Int, vs = [.int n] ∧ ∀ r H', Same H H' → ShAt H' r (n, 1) → Q (.ref r) H'
section
variable {K : PySem.W.Frag} {mg : Str → Option Value} {P : Program} {w : World} {base : Heap}
theorem sc8 : FnScope ["top", "below", "by"] ["top", "below"] (defScope (top 8)) := ⟨rfl, rfl, rfl, by decide +kernel, rfl, by decide +kernel, by decide +kernel⟩
theorem ok_share (D : Df K mg "share" (top 8) ["top", "below"]) (c : C8.Cal P w K mg base 1 "common" spCommon []) : C8.Cal P w K mg base 2 "share" spShare [] := by
  refine df_ok D sc8 (fun vs H Q E h => ?_) (fun f cdv A outer s H vs Q E hr h => ?_)
  · obtain ⟨x, y, rfl, _⟩ := h; rfl
  · obtain ⟨t, b, rfl, hb, hs, q⟩ := h
    refine ⟨_, pss_cons (ps_set (i := 2) sc8.nd rfl (.inl rfl) (C8.pe_c c hr (by decide) (by rfl) (pa_cons (pv 0) (pa_cons (pv 1) pa_nil))))
      (pss_cons (ps_set (i := 2) sc8.nd rfl (.inl rfl) (pe_ifExp (pt_cmpR op_gt (pv 1) pe_int (nomark _)) (pv 2) (pe_un un_neg (pv 2))))
      (pss_one (ps_ret (pe_tup (pa_cons (pe_op op_fdivN (pv 0) (pv 2)) (pa_cons (pe_op op_fdivN (pv 1) (pv 2)) pa_nil)))))), ?_⟩
    have g0 := gcd_pos (t := t) hb
    have g1 := gcd_small (t := t) hb hs
    refine ⟨_, rfl, _, rfl, t, b, rfl, ?_⟩
    refine ⟨_, rfl, _, _, rfl, rfl, _, rfl, ?_⟩
    by_cases hp : 0 < b
    · rw [decide_eq_true hp]
      refine iteT ⟨_, rfl, ?_⟩
      refine ⟨_, rfl, _, rfl, _, _, rfl, rfl, ⟨by omega, by omega⟩, _, rfl, _, rfl, _, _, rfl, rfl, ⟨by omega, by omega⟩, (by show 2 ≤ sizeLine; decide), fun p np => ?_⟩
      refine q p _ (same_new np) ?_
      rw [shr_up hp]
      exact upd_same
    · rw [decide_eq_false hp]
      refine iteF ⟨_, rfl, _, rfl, ?_⟩
      refine ⟨_, rfl, _, rfl, _, _, rfl, rfl, ⟨by omega, by omega⟩, _, rfl, _, rfl, _, _, rfl, rfl, ⟨by omega, by omega⟩, (by show 2 ≤ sizeLine; decide), fun p np => ?_⟩
      refine q p _ (same_new np) ?_
      rw [shr_dn hp]
      exact upd_same
theorem sc9 : FnScope ["thing"] ["thing"] (defScope (top 9)) := ⟨rfl, rfl, rfl, by decide +kernel, rfl, by decide +kernel, by decide +kernel⟩
theorem ok_is_share (D : Df K mg "is_share" (top 9) ["thing"]) (B : Bl mg) (c1 : C8.Cal P w K mg base 1 "is_number" spIsNumber []) (c2 : C8.Cal P w K mg base 1 "common" spCommon []) : C8.Cal P w K mg base 2 "is_share" spIsShare [] := by
  refine df_ok D sc9 (fun vs H Q E h => ?_) (fun f cdv A outer s H vs Q E hr h => ?_)
  · obtain ⟨x, y, rfl, _⟩ := h; rfl
  · obtain ⟨p, ⟨t, b⟩, rfl, hp, ok, q⟩ := h
    have hp : H p = some (.tup [.int t, .int b]) := hp
    refine ⟨_, pss_cons (ps_if (PW.pt (pw_or (pt_not (pt_val (pe_callB call_isTup (by rfl) B.isinstance bi_isinstance (pa_cons (pv 0) (pa_cons (pe_bltn (v := .ty "tuple") (by rfl) B.tuple bi_tupleT rfl) pa_nil)))))
        (pw_or (pt_cmpR op_ne (pe_callB call_len_seq (by rfl) B.len bi_len (pa_cons (pv 0) pa_nil)) pe_int (nomark _))
        (pw_or (pt_not (pt_val (C8.pe_c c1 hr (by decide) (by rfl) (pa_cons (pe_ix ix_tup (pv 0) pe_int (fun _ _ => rfl)) pa_nil))))
        (pw_or1 (pt_not (pt_val (C8.pe_c c1 hr (by decide) (by rfl) (pa_cons (pe_ix ix_tup (pv 0) pe_int (fun _ _ => rfl)) pa_nil)))))))))
        (pss_one (ps_ret pe_bl)) pss_nil)
      (pss_one (ps_ret (pe_and (pe_cmpR op_gt (pe_ix ix_tup (pv 0) pe_int (fun _ _ => rfl)) pe_int (nomark _))
        (pe_one (pe_cmpR op_eq (C8.pe_c c2 hr (by decide) (by rfl) (pa_cons (pe_ix ix_tup (pv 0) pe_int (fun _ _ => rfl)) (pa_cons (pe_ix ix_tup (pv 0) pe_int (fun _ _ => rfl)) pa_nil))) pe_int (nomark _)))))), ?_⟩
    refine ⟨_, rfl, p, _, rfl, hp, true, rfl, iteF ⟨_, rfl, p, _, rfl, .inr (SqT.of hp), rfl, _, rfl, iteNS rfl ?_⟩⟩
    refine ⟨_, rfl, p, _, _, _, rfl, rfl, SqT.of hp, rfl, t, rfl, true, rfl, iteF ?_⟩
    refine ⟨_, rfl, p, _, _, _, rfl, rfl, SqT.of hp, rfl, b, rfl, true, rfl, iteF ?_⟩
    refine ⟨_, rfl, p, _, _, _, rfl, rfl, SqT.of hp, rfl, _, _, rfl, rfl, true, congrArg V.bl (decide_eq_true ok.pos), iteT ?_⟩
    refine ⟨_, rfl, p, _, _, _, rfl, rfl, SqT.of hp, rfl, _, rfl, p, _, _, _, rfl, rfl, SqT.of hp, rfl, t, b, rfl, rfl, ?_⟩
    refine qdec ?_ q
    have : Int.gcd t b = 1 := ok.low
    rw [this]; rfl
theorem sc13 : FnScope ["number"] ["number"] (defScope (top 13)) := ⟨rfl, rfl, rfl, by decide +kernel, rfl, by decide +kernel, by decide +kernel⟩
theorem ok_whole (D : Df K mg "whole" (top 13) ["number"]) : C8.Cal P w K mg base 1 "whole" spWhole [] := by
  refine df_ok D sc13 (fun vs H Q E h => ?_) (fun f cdv A outer s H vs Q E hr h => ?_)
  · obtain ⟨x, rfl, _⟩ := h; rfl
  · obtain ⟨n, rfl, q⟩ := h
    refine ⟨_, pss_one (ps_ret (pe_tup (pa_cons (pv 0) (pa_cons pe_int pa_nil)))), ?_⟩
    exact ⟨_, rfl, (by show 2 ≤ sizeLine; decide), fun p np => q p _ (same_new np) upd_same⟩
end
theorem Sz.cm {A D : Nat} {p : Int × Int} (h : Sz A D p) (hA : A < 2 ^ 63) : -(2 ^ 64) < p.1 ∧ p.1 < 2 ^ 64 := by
  have := h.top
  omega
theorem Sz.cl {A D : Nat} {p : Int × Int} (h : Sz A D p) (hA : D < 2 ^ 63) : -(2 ^ 64) < p.2 ∧ p.2 < 2 ^ 64 := by
  have := h.low
  have := h.pos
  omega
theorem two_ne {A D : Nat} {p q : Int × Int} (h : Sz A D p) (k : Sz A D q) : p.2 * q.2 ≠ 0 := mul_ne h.pos k.pos
theorem two_low {A : Nat} {p q : Int × Int} (h : Sz A 30000 p) (k : Sz A 30000 q) : (p.2 * q.2).natAbs < 1073741824 := by
  have h1 := below_le h.pos h.low k.pos k.low
  have h2 := Int.mul_pos h.pos k.pos
  omega
section
variable {K : PySem.W.Frag} {mg : Str → Option Value} {P : Program} {w : World} {base : Heap}
theorem sc10 : FnScope ["one", "other"] ["one", "other"] (defScope (top 10)) := ⟨rfl, rfl, rfl, by decide +kernel, rfl, by decide +kernel, by decide +kernel⟩
theorem ok_plus (D : Df K mg "plus" (top 10) ["one", "other"]) (c : C8.Cal P w K mg base 2 "share" spShare []) : C8.Cal P w K mg base 3 "plus" (spTwo plus) [] := by
  refine df_ok D sc10 (fun vs H Q E h => ?_) (fun f cdv A outer s H vs Q E hr h => ?_)
  · obtain ⟨x, y, _, _, rfl, _⟩ := h; rfl
  · obtain ⟨a, b, p, q, rfl, ha, hb, sp, sq, k⟩ := h
    have ix0 : PlainIx (.Constant (.int 0) 0 ⟨0, 0, 0, 0⟩) := fun _ _ => rfl
    refine ⟨_, pss_one (ps_ret (C8.pe_c c hr (by decide) (by rfl) (pa_cons (pe_op op_add
        (pe_op op_mul (pe_ix ix_tup (pv 0) pe_int (fun _ _ => rfl)) (pe_ix ix_tup (pv 1) pe_int (fun _ _ => rfl)))
        (pe_op op_mul (pe_ix ix_tup (pv 1) pe_int (fun _ _ => rfl)) (pe_ix ix_tup (pv 0) pe_int (fun _ _ => rfl))))
      (pa_cons (pe_op op_mul (pe_ix ix_tup (pv 0) pe_int (fun _ _ => rfl)) (pe_ix ix_tup (pv 1) pe_int (fun _ _ => rfl))) pa_nil)))), ?_⟩
    refine ⟨_, rfl, a, _, _, _, rfl, rfl, SqT.of ha, rfl, _, rfl, b, _, _, _, rfl, rfl, SqT.of hb, rfl, _, _, rfl, rfl, .inl (sp.cm (by decide)), ?_⟩
    refine ⟨_, rfl, b, _, _, _, rfl, rfl, SqT.of hb, rfl, _, rfl, a, _, _, _, rfl, rfl, SqT.of ha, rfl, _, _, rfl, rfl, .inl (sq.cm (by decide)), _, _, rfl, rfl, ?_⟩
    refine ⟨_, rfl, a, _, _, _, rfl, rfl, SqT.of ha, rfl, _, rfl, b, _, _, _, rfl, rfl, SqT.of hb, rfl, _, _, rfl, rfl, .inl (sp.cl (by decide)), ?_⟩
    exact ⟨_, _, rfl, two_ne sp sq, two_low sp sq, k⟩
theorem sc11 : FnScope ["one", "other"] ["one", "other"] (defScope (top 11)) := ⟨rfl, rfl, rfl, by decide +kernel, rfl, by decide +kernel, by decide +kernel⟩
theorem ok_minus (D : Df K mg "minus" (top 11) ["one", "other"]) (c : C8.Cal P w K mg base 2 "share" spShare []) : C8.Cal P w K mg base 3 "minus" (spTwo minus) [] := by
  refine df_ok D sc11 (fun vs H Q E h => ?_) (fun f cdv A outer s H vs Q E hr h => ?_)
  · obtain ⟨x, y, _, _, rfl, _⟩ := h; rfl
  · obtain ⟨a, b, p, q, rfl, ha, hb, sp, sq, k⟩ := h
    refine ⟨_, pss_one (ps_ret (C8.pe_c c hr (by decide) (by rfl) (pa_cons (pe_op op_sub
        (pe_op op_mul (pe_ix ix_tup (pv 0) pe_int (fun _ _ => rfl)) (pe_ix ix_tup (pv 1) pe_int (fun _ _ => rfl)))
        (pe_op op_mul (pe_ix ix_tup (pv 1) pe_int (fun _ _ => rfl)) (pe_ix ix_tup (pv 0) pe_int (fun _ _ => rfl))))
      (pa_cons (pe_op op_mul (pe_ix ix_tup (pv 0) pe_int (fun _ _ => rfl)) (pe_ix ix_tup (pv 1) pe_int (fun _ _ => rfl))) pa_nil)))), ?_⟩
    refine ⟨_, rfl, a, _, _, _, rfl, rfl, SqT.of ha, rfl, _, rfl, b, _, _, _, rfl, rfl, SqT.of hb, rfl, _, _, rfl, rfl, .inl (sp.cm (by decide)), ?_⟩
    refine ⟨_, rfl, b, _, _, _, rfl, rfl, SqT.of hb, rfl, _, rfl, a, _, _, _, rfl, rfl, SqT.of ha, rfl, _, _, rfl, rfl, .inl (sq.cm (by decide)), _, _, rfl, rfl, ?_⟩
    refine ⟨_, rfl, a, _, _, _, rfl, rfl, SqT.of ha, rfl, _, rfl, b, _, _, _, rfl, rfl, SqT.of hb, rfl, _, _, rfl, rfl, .inl (sp.cl (by decide)), ?_⟩
    exact ⟨_, _, rfl, two_ne sp sq, two_low sp sq, k⟩
theorem sc12 : FnScope ["one", "other"] ["one", "other"] (defScope (top 12)) := ⟨rfl, rfl, rfl, by decide +kernel, rfl, by decide +kernel, by decide +kernel⟩
theorem ok_times (D : Df K mg "times" (top 12) ["one", "other"]) (c : C8.Cal P w K mg base 2 "share" spShare []) : C8.Cal P w K mg base 3 "times" (spTwo times) [] := by
  refine df_ok D sc12 (fun vs H Q E h => ?_) (fun f cdv A outer s H vs Q E hr h => ?_)
  · obtain ⟨x, y, _, _, rfl, _⟩ := h; rfl
  · obtain ⟨a, b, p, q, rfl, ha, hb, sp, sq, k⟩ := h
    refine ⟨_, pss_one (ps_ret (C8.pe_c c hr (by decide) (by rfl) (pa_cons
        (pe_op op_mul (pe_ix ix_tup (pv 0) pe_int (fun _ _ => rfl)) (pe_ix ix_tup (pv 1) pe_int (fun _ _ => rfl)))
      (pa_cons (pe_op op_mul (pe_ix ix_tup (pv 0) pe_int (fun _ _ => rfl)) (pe_ix ix_tup (pv 1) pe_int (fun _ _ => rfl))) pa_nil)))), ?_⟩
    refine ⟨_, rfl, a, _, _, _, rfl, rfl, SqT.of ha, rfl, _, rfl, b, _, _, _, rfl, rfl, SqT.of hb, rfl, _, _, rfl, rfl, .inl (sp.cm (by decide)), ?_⟩
    refine ⟨_, rfl, a, _, _, _, rfl, rfl, SqT.of ha, rfl, _, rfl, b, _, _, _, rfl, rfl, SqT.of hb, rfl, _, _, rfl, rfl, .inl (sp.cl (by decide)), ?_⟩
    exact ⟨_, _, rfl, two_ne sp sq, two_low sp sq, k⟩
end
end K14
/-! comprehensions of truths; is_plane, is_catcher, look_catcher, is_cell, look_cell -/
namespace K14
open L2 PySem PySem.Spec PyProof.Rows
theorem rep_snoc (i : Nat) : List.replicate i (V.bl true) ++ [V.bl true] = List.replicate (i + 1) (V.bl true) := by
  rw [List.replicate_succ']
/-- a comprehension each of whose items is True -/
theorem lc_all {J : It} {n : Nat} {G : Hp → Prop} {Y : Nat → Hp → V → Hp → Prop} (wk : Walk J n G Y) (hn : n ≤ 1000) (hY : ∀ i H x H', Y i H x H' → H' = H) {g : TG} {te : TE} {vs : List Nat} {σ : L2.St} {H1 : Hp} {D : Addr} {Qd : Hp → Prop} (hD : H1 D = none)
    (hG : ∀ H, Same H1 H → G H)
    (hs : ∀ i x H (Qk : VK), i < n → Same H1 H → Y i H x H → (∀ H4, Same H H4 → Qk (.bl true) H4) → g x (wipe σ vs) H fun σ2 H2 => wipe σ2 vs = wipe σ vs ∧ te σ2 H2 Qk)
    (hd : ∀ H, Same H1 H → H D = some (.lst (List.replicate n (.bl true))) → Qd H)
    (mg : ∀ x σ H (A B : L2.St → Hp → Prop), (∀ σ2 H2, A σ2 H2 → B σ2 H2) → g x σ H A → g x σ H B) :
    ∃ W : Nat → Nat → Hp → Prop, (∃ m, W 0 m (upd H1 D (.lst []))) ∧ ∀ i m H, W i m H → (J.stop i H ∧ Qd H) ∨ (J.go i H ∧ ∃ Nx : Hp → Prop, (∀ H', Nx H' → ∃ m', m' < m ∧ W (i + 1) m' H') ∧
      ∀ x H', J.yld i H x H' → g x (wipe σ vs) H' fun σ2 H2 => wipe σ2 vs = wipe σ vs ∧ tYes σ2 H2 fun b H3 => if b = true then te σ2 H3 fun y H4 => ∃ acc, H4 D = some (.lst acc) ∧ acc.length < sizeLine ∧ Nx (upd H4 D (.lst (acc ++ [y]))) else Nx H3) := by
  have s1 : Same H1 (upd H1 D (.lst [])) := same_new hD
  refine lc_it (tt := tYes) wk (fun i H => Same H1 H ∧ H D = some (.lst (List.replicate i (.bl true)))) ⟨s1, upd_same⟩ (fun i H _ p => hG H p.1) (fun i x H H' hi p y => ?_) (fun H p => hd H p.1 p.2)
  have e := hY i H x H' y
  subst e
  refine mg _ _ _ _ _ ?_ (hs i x H' (fun y H4 => ∃ acc, H4 D = some (.lst acc) ∧ acc.length < sizeLine ∧ (Same H1 (upd H4 D (.lst (acc ++ [y]))) ∧ (upd H4 D (.lst (acc ++ [y]))) D = some (.lst (List.replicate (i + 1) (.bl true))))) hi p.1 y ?_)
  · rintro σ2 H2 ⟨h1, h2⟩
    exact ⟨h1, h2⟩
  · intro H4 s4
    refine ⟨_, s4 _ _ p.2, ?_, ?_, ?_⟩
    · rw [List.length_replicate]; exact small1000 (by omega)
    · intro b o hb
      have nb : b ≠ D := ne_of_none hb hD
      rw [upd_ne nb]
      exact s4 _ _ (p.1 _ _ hb)
    · rw [upd_same, rep_snoc]
theorem mg_name {i : Nat} : ∀ (x : V) (σ : L2.St) (H : Hp) (A B : L2.St → Hp → Prop), (∀ σ2 H2, A σ2 H2 → B σ2 H2) → gName i x σ H A → gName i x σ H B := fun _ _ _ _ _ h a => h _ _ a
section
variable {X : Cx}
theorem call_allT (hc : X.calm = true) : CallR X (.builtin "all") (fun xs H Q => ∃ (a : Addr) (n : Nat), xs = [.ref a] ∧ H a = some (.lst (List.replicate n (.bl true))) ∧ Q (.bl true) H) := by
  intro pins s σ H xs ws Q I r h
  obtain ⟨a, n, rfl, e, q⟩ := h
  refine cr_all hc pins s σ H _ ws Q I r ⟨a, List.replicate n true, rfl, SqL.of (by rw [List.map_replicate]; exact e), ?_⟩
  have e2 : (List.replicate n true).all id = true := by rw [List.all_replicate]; split <;> rfl
  rw [e2]
  exact q
end
theorem ixT {X : Cx} {K : PySem.W.Frag} (e : X.K = K := by rfl) : IxR X (rIxT K) := by
  subst e
  exact ix_tup
theorem slT {X : Cx} {K : PySem.W.Frag} (e : X.K = K := by rfl) : SlR X (rSlT K) := by
  subst e
  exact sl_tup
theorem bi_all : bootBuiltins "all" = some (.builtin "all") := by decide +kernel
def spIsPlane : Sp := fun vs H Q _ => ∃ (p : Addr) (l : Pl), vs = [.ref p] ∧ PlAt H p l ∧ PlOk l ∧ ∀ H', Same H H' → Q (.bl true) H'
def spIsCatcher : Sp := fun vs H Q _ => ∃ (a : Addr) (l0 l1 : Pl), vs = [.ref a] ∧ CatAt H a l0 l1 ∧ CatOk l0 l1 ∧ ∀ H', Same H H' → Q (.bl true) H'
def spLookCatcher : Sp := fun vs H Q _ => ∃ (a : Addr) (l0 l1 : Pl), vs = [.ref a] ∧ CatAt H a l0 l1 ∧ CatOk l0 l1 ∧ ∀ H', Same H H' → Q .non H'
def spIsCell : Sp := fun vs H Q _ => ∃ (a p : Addr) (l0 l1 : Pl) (c : Cl), vs = [.ref a, .ref p] ∧ CatAt H a l0 l1 ∧ ShAt H p c ∧ CellOk l0 l1 c ∧ Q (.bl true) H
def spLookCell : Sp := fun vs H Q _ => ∃ (a p : Addr) (l0 l1 : Pl) (c : Cl), vs = [.ref a, .ref p] ∧ CatAt H a l0 l1 ∧ ShAt H p c ∧ CellOk l0 l1 c ∧ Q .non H
section
variable {K : PySem.W.Frag} {mg : Str → Option Value} {P : Program} {w : World} {base : Heap}
theorem sc16 : FnScope ["thing", "one"] ["thing"] (defScope (top 16)) := ⟨rfl, rfl, rfl, by decide +kernel, rfl, by decide +kernel, by decide +kernel⟩
theorem ok_is_plane (D : Df K mg "is_plane" (top 16) ["thing"]) (B : Bl mg) (c2 : C8.Cal P w K mg base 2 "is_whole" spIsWhole []) : C8.Cal P w K mg base 3 "is_plane" spIsPlane [] := by
  refine df_ok D sc16 (fun vs H Q E h => ?_) (fun f cdv A outer s H vs Q E hr h => ?_)
  · obtain ⟨x, y, rfl, _⟩ := h; rfl
  · obtain ⟨p, ⟨z, b, wd, cs⟩, rfl, hp, ok, q⟩ := h
    have hp : H p = some (.tup [.int z, .int b, .int wd, .int cs]) := hp
    refine ⟨_, pss_cons (ps_if (PW.pt (pw_or (pt_not (pt_val (pe_callB call_isTup (by rfl) B.isinstance bi_isinstance (pa_cons (pv 0) (pa_cons (pe_bltn (v := .ty "tuple") (by rfl) B.tuple bi_tupleT rfl) pa_nil)))))
        (pw_or (pt_cmpR op_ne (pe_callB call_len_seq (by rfl) B.len bi_len (pa_cons (pv 0) pa_nil)) pe_int (nomark _))
        (pw_or1 (pt_not (pt_val (pe_callB (call_allT rfl) (by rfl) B.all bi_all (pa_cons
          (pe_lc (own := [("one", 1)]) (g := gName 1) (tt := tYes) (by rfl) sc16.nd (pi_tup (pe_slice sl_tup (pv 0) po_none (po_some pe_int))) (blkOk_by (own := [("one", 1)]) (N := ["thing", "one"]) (sc := defScope (top 16)) (by decide +kernel))
            (fun _ _ _ _ _ => pg_name (i := 1) sc16.nd rfl (Or.inl rfl)) (fun _ _ _ _ _ => pts_nil) (fun _ _ _ _ _ => C8.pe_c c2 hr (by decide) (by rfl) (pa_cons (pv 1) (pa_cons (pe_un un_neg pe_int) (pa_cons pe_int pa_nil))))) pa_nil))))))))
        (pss_one (ps_ret pe_bl)) pss_nil)
      (pss_one (ps_ret (pe_and (C8.pe_c c2 hr (by decide) (by rfl) (pa_cons (pe_ix ix_tup (pv 0) pe_int (fun _ _ => rfl)) (pa_cons pe_int (pa_cons pe_int pa_nil))))
        (pe_one (C8.pe_c c2 hr (by decide) (by rfl) (pa_cons (pe_ix ix_tup (pv 0) pe_int (fun _ _ => rfl)) (pa_cons pe_int (pa_cons pe_int pa_nil)))))))), ?_⟩
    refine ⟨_, rfl, p, _, rfl, hp, true, rfl, iteF ⟨_, rfl, p, _, rfl, .inr (SqT.of hp), rfl, _, rfl, iteNS rfl ?_⟩⟩
    refine ⟨_, rfl, 2, rfl, p, _, rfl, SqT.of hp, (by show ¬ (HT.sIx 4 0 none = 0 ∧ HT.sIx 4 4 (some 2) = 4); decide), fun u nu => ?_⟩
    have s1 := same_new (o := .tup [.int z, .int b]) nu
    refine ⟨u, rfl, ⟨_, SqT.of upd_same⟩, fun D nD => ?_⟩
    refine lc_all (walk_tup (K := K) (a := u) (xs := [.int z, .int b])) (by show 2 ≤ 1000; decide) (fun _ _ _ _ y => y.1) nD (fun H' s => SqT.of (s _ _ upd_same)) (fun i x H' Qk hi s y hk => ?_) (fun H' s hD => ?_) mg_name
    · refine ⟨rfl, ?_⟩
      have y2 := y.2
      match i, hi with
      | 0, _ =>
        cases y2
        exact ⟨_, rfl, _, rfl, _, _, _, rfl, ok.z0, ok.z1, hk _ (Same.refl _)⟩
      | 1, _ =>
        cases y2
        exact ⟨_, rfl, _, rfl, _, _, _, rfl, ok.b0, ok.b1, hk _ (Same.refl _)⟩
    · refine ⟨D, _, rfl, hD, true, rfl, iteF ?_⟩
      have sA : Same H H' := s1.trans s
      have hp' := sA _ _ hp
      refine ⟨_, rfl, p, _, _, _, rfl, rfl, SqT.of hp', rfl, _, _, _, rfl, ok.w0, ok.w1, true, rfl, iteT ?_⟩
      exact ⟨_, rfl, p, _, _, _, rfl, rfl, SqT.of hp', rfl, _, _, _, rfl, Int.le_trans (by decide) ok.c0, Int.le_trans ok.c1 (by decide), q H' sA⟩
theorem sc17 : FnScope ["thing", "one", "k"] ["thing"] (defScope (top 17)) := ⟨rfl, rfl, rfl, by decide +kernel, rfl, by decide +kernel, by decide +kernel⟩
theorem ok_is_catcher (D : Df K mg "is_catcher" (top 17) ["thing"]) (B : Bl mg) (mp : ∃ t, mg "MOST_PLANES" = some (.int 8 t)) (c3 : C8.Cal P w K mg base 3 "is_plane" spIsPlane []) : C8.Cal P w K mg base 4 "is_catcher" spIsCatcher [] := by
  obtain ⟨tk, mp⟩ := mp
  refine df_ok D sc17 (fun vs H Q E h => ?_) (fun f cdv A outer s H vs Q E hr h => ?_)
  · obtain ⟨x, y, _, rfl, _⟩ := h; rfl
  · obtain ⟨a, l0, l1, rfl, hc, ok, q⟩ := h
    obtain ⟨p0, p1, ha, h0, h1⟩ := id hc
    refine ⟨_, pss_cons (ps_if (PW.pt (pw_or (pt_not (pt_val (pe_callB call_isTup (by rfl) B.isinstance bi_isinstance (pa_cons (pv 0) (pa_cons (pe_bltn (v := .ty "tuple") (by rfl) B.tuple bi_tupleT rfl) pa_nil)))))
        (pw_or (pt_not (pt_chain op_le op_le pe_int (pe_callB call_len_seq (by rfl) B.len bi_len (pa_cons (pv 0) pa_nil)) (pe_glob (v := .int 8) (by rfl) mp ⟨_, rfl⟩)))
        (pw_or1 (pt_not (pt_val (pe_callB (call_allT rfl) (by rfl) B.all bi_all (pa_cons
          (pe_lc (own := [("one", 1)]) (g := gName 1) (tt := tYes) (by rfl) sc17.nd (pi_tup (pv 0)) (blkOk_by (own := [("one", 1)]) (N := ["thing", "one", "k"]) (sc := defScope (top 17)) (by decide +kernel))
            (fun _ _ _ _ _ => pg_name (i := 1) sc17.nd rfl (Or.inl rfl)) (fun _ _ _ _ _ => pts_nil) (fun _ _ _ _ _ => C8.pe_c c3 hr (by decide) (by rfl) (pa_cons (pv 1) pa_nil))) pa_nil))))))))
        (pss_one (ps_ret pe_bl)) pss_nil)
      (pss_one (ps_ret (pe_callB (call_allT rfl) (by rfl) B.all bi_all (pa_cons
          (pe_lc (own := [("k", 2)]) (g := gName 2) (tt := tYes) (by rfl) sc17.nd (pi_range1 (by rfl) B.range (pa_cons (pe_op op_sub (pe_callB call_len_seq (by rfl) B.len bi_len (pa_cons (pv 0) pa_nil)) pe_int) pa_nil)) (blkOk_by (own := [("k", 2)]) (N := ["thing", "one", "k"]) (sc := defScope (top 17)) (by decide +kernel))
            (fun _ _ _ _ _ => pg_name (i := 2) sc17.nd rfl (Or.inl rfl)) (fun _ _ _ _ _ => pts_nil)
            (fun _ _ _ _ _ => pe_cmpR op_lt (pe_ix (ixT (K := K)) (pe_ix (ixT (K := K)) (pv 0) (pv 2) (fun _ _ => rfl)) pe_int (fun _ _ => rfl)) (pe_ix (ixT (K := K)) (pe_ix (ixT (K := K)) (pv 0) (pe_op op_add (pv 2) pe_int) (fun _ _ => rfl)) pe_int (fun _ _ => rfl)) (nomark _))) pa_nil)))), ?_⟩
    refine ⟨_, rfl, a, _, rfl, ha, true, rfl, iteF ⟨_, rfl, a, _, rfl, .inr (SqT.of ha), _, _, rfl, rfl, true, rfl, iteT ⟨_, _, rfl, rfl, true, rfl, iteF ?_⟩⟩⟩
    refine ⟨_, rfl, a, rfl, ⟨_, SqT.of ha⟩, fun D nD => ?_⟩
    refine lc_all (walk_tup (K := K) (a := a) (xs := [.ref p0, .ref p1])) (by show 2 ≤ 1000; decide) (fun _ _ _ _ y => y.1) nD (fun H' s => SqT.of (s _ _ ha)) (fun i x H' Qk hi s y hk => ?_) (fun H' s hD => ?_) mg_name
    · refine ⟨rfl, ?_⟩
      have y2 := y.2
      match i, hi with
      | 0, _ =>
        cases y2
        exact ⟨_, rfl, p0, l0, rfl, s _ _ h0, ok.p0, hk⟩
      | 1, _ =>
        cases y2
        exact ⟨_, rfl, p1, l1, rfl, s _ _ h1, ok.p1, hk⟩
    · refine ⟨D, _, rfl, hD, true, rfl, iteF ?_⟩
      refine ⟨_, rfl, a, _, rfl, .inr (SqT.of (s _ _ ha)), _, _, rfl, rfl, 1, rfl, by decide, by decide, fun D2 nD2 => ?_⟩
      refine lc_all (walk_range (lo := 0) (n := 1)) (by decide) (fun _ _ _ _ y => y.1) nD2 (fun _ _ => trivial) (fun i x H2 Qk hi s2 y hk => ?_) (fun H2 s2 hD2 => ?_) mg_name
      · refine ⟨rfl, ?_⟩
        have ei : i = 0 := by omega
        subst ei
        have y2 : x = .int (0 + ((0 : Nat) : Int)) := y.2
        subst y2
        have sA := Same.trans s s2
        have hl : l0.1 < l1.1 := ok.lt
        refine ⟨_, rfl, _, rfl, a, _, _, _, rfl, rfl, SqT.of (sA _ _ ha), rfl, p0, _, _, _, rfl, rfl, SqT.of (sA _ _ h0), rfl, ?_⟩
        refine ⟨_, rfl, _, rfl, _, _, rfl, rfl, a, _, _, _, rfl, rfl, SqT.of (sA _ _ ha), rfl, p1, _, _, _, rfl, rfl, SqT.of (sA _ _ h1), rfl, ?_⟩
        exact ⟨_, _, rfl, rfl, qdec hl (hk _ (Same.refl _))⟩
      · exact ⟨D2, _, rfl, hD2, q H2 (Same.trans s s2)⟩
theorem sc18 : FnScope ["thing"] ["thing"] (defScope (top 18)) := ⟨rfl, rfl, rfl, by decide +kernel, rfl, by decide +kernel, by decide +kernel⟩
theorem ok_look_catcher (D : Df K mg "look_catcher" (top 18) ["thing"]) (c4 : C8.Cal P w K mg base 4 "is_catcher" spIsCatcher []) : C8.Cal P w K mg base 5 "look_catcher" spLookCatcher [] := by
  refine df_ok D sc18 (fun vs H Q E h => ?_) (fun f cdv A outer s H vs Q E hr h => ?_)
  · obtain ⟨x, y, _, rfl, _⟩ := h; rfl
  · obtain ⟨a, l0, l1, rfl, hc, ok, q⟩ := h
    refine ⟨_, pss_one (ps_if (pt_not (pt_val (C8.pe_c c4 hr (by decide) (by rfl) (pa_cons (pv 0) pa_nil)))) pss_never pss_nil), ?_⟩
    exact ⟨_, rfl, a, l0, l1, rfl, hc, ok, fun H' s => ⟨true, rfl, iteF (q H' s)⟩⟩
theorem sc19 : FnScope ["catcher", "thing"] ["catcher", "thing"] (defScope (top 19)) := ⟨rfl, rfl, rfl, by decide +kernel, rfl, by decide +kernel, by decide +kernel⟩
theorem ok_is_cell (D : Df K mg "is_cell" (top 19) ["catcher", "thing"]) (B : Bl mg) (c2 : C8.Cal P w K mg base 2 "is_whole" spIsWhole []) : C8.Cal P w K mg base 3 "is_cell" spIsCell [] := by
  refine df_ok D sc19 (fun vs H Q E h => ?_) (fun f cdv A outer s H vs Q E hr h => ?_)
  · obtain ⟨x, y, _, _, _, rfl, _⟩ := h; rfl
  · obtain ⟨a, p, l0, l1, ⟨c1, c2'⟩, rfl, hc, hp, ok, q⟩ := h
    obtain ⟨p0, p1, ha, h0, h1⟩ := id hc
    have hp : H p = some (.tup [.int c1, .int c2']) := hp
    refine ⟨_, pss_cons (ps_if (PW.pt (pw_or (pt_not (pt_val (pe_callB call_isTup (by rfl) B.isinstance bi_isinstance (pa_cons (pv 1) (pa_cons (pe_bltn (v := .ty "tuple") (by rfl) B.tuple bi_tupleT rfl) pa_nil)))))
        (pw_or (pt_cmpR op_ne (pe_callB call_len_seq (by rfl) B.len bi_len (pa_cons (pv 1) pa_nil)) pe_int (nomark _))
        (pw_or1 (pt_not (pt_val (C8.pe_c c2 hr (by decide) (by rfl) (pa_cons (pe_ix ix_tup (pv 1) pe_int (fun _ _ => rfl)) (pa_cons pe_int (pa_cons (pe_op op_sub (pe_callB call_len_seq (by rfl) B.len bi_len (pa_cons (pv 0) pa_nil)) pe_int) pa_nil))))))))))
        (pss_one (ps_ret pe_bl)) pss_nil)
      (pss_one (ps_ret (C8.pe_c c2 hr (by decide) (by rfl) (pa_cons (pe_ix ix_tup (pv 1) pe_int (fun _ _ => rfl)) (pa_cons pe_int
        (pa_cons (pe_op op_sub (pe_ix ix_tup (pe_ix ix_tup (pv 0) (pe_ix ix_tup (pv 1) pe_int (fun _ _ => rfl)) (fun _ _ => rfl)) pe_int (fun _ _ => rfl)) pe_int) pa_nil)))))), ?_⟩
    refine ⟨_, rfl, p, _, rfl, hp, true, rfl, iteF ⟨_, rfl, p, _, rfl, .inr (SqT.of hp), rfl, _, rfl, iteNS rfl ?_⟩⟩
    refine ⟨_, rfl, p, _, _, _, rfl, rfl, SqT.of hp, rfl, _, rfl, a, _, rfl, .inr (SqT.of ha), _, _, rfl, rfl, c1, 0, 1, rfl, ?_⟩
    rcases ok with ⟨e, k0, k1⟩ | ⟨e, k0, k1⟩
    · have e : c1 = 0 := e
      subst e
      refine ⟨by decide, by decide, true, rfl, iteF ?_⟩
      refine ⟨_, rfl, p, _, _, _, rfl, rfl, SqT.of hp, rfl, _, rfl, _, rfl, p, _, _, _, rfl, rfl, SqT.of hp, rfl, a, _, _, _, rfl, rfl, SqT.of ha, rfl, p0, _, _, _, rfl, rfl, SqT.of h0, rfl, _, _, rfl, rfl, ?_⟩
      exact ⟨c2', 0, _, rfl, k0, (by show c2' ≤ l0.2.2.2 - 1; have k1 : c2' < l0.2.2.2 := k1; omega), q⟩
    · have e : c1 = 1 := e
      subst e
      refine ⟨by decide, by decide, true, rfl, iteF ?_⟩
      refine ⟨_, rfl, p, _, _, _, rfl, rfl, SqT.of hp, rfl, _, rfl, _, rfl, p, _, _, _, rfl, rfl, SqT.of hp, rfl, a, _, _, _, rfl, rfl, SqT.of ha, rfl, p1, _, _, _, rfl, rfl, SqT.of h1, rfl, _, _, rfl, rfl, ?_⟩
      exact ⟨c2', 0, _, rfl, k0, (by show c2' ≤ l1.2.2.2 - 1; have k1 : c2' < l1.2.2.2 := k1; omega), q⟩
theorem sc20 : FnScope ["catcher", "thing"] ["catcher", "thing"] (defScope (top 20)) := ⟨rfl, rfl, rfl, by decide +kernel, rfl, by decide +kernel, by decide +kernel⟩
theorem ok_look_cell (D : Df K mg "look_cell" (top 20) ["catcher", "thing"]) (c3 : C8.Cal P w K mg base 3 "is_cell" spIsCell []) : C8.Cal P w K mg base 4 "look_cell" spLookCell [] := by
  refine df_ok D sc20 (fun vs H Q E h => ?_) (fun f cdv A outer s H vs Q E hr h => ?_)
  · obtain ⟨x, y, _, _, _, rfl, _⟩ := h; rfl
  · obtain ⟨a, p, l0, l1, c, rfl, hc, hp, ok, q⟩ := h
    refine ⟨_, pss_one (ps_if (pt_not (pt_val (C8.pe_c c3 hr (by decide) (by rfl) (pa_cons (pv 0) (pa_cons (pv 1) pa_nil))))) pss_never pss_nil), ?_⟩
    exact ⟨_, rfl, _, rfl, a, p, l0, l1, c, rfl, hc, hp, ok, true, rfl, iteF q⟩
end
end K14
/-! two rules: a display of a dict whose keys are tuples; sorted of such a dict whose keys stand in order -/
namespace K14
open L2 PySem PySem.Spec PyProof.Rows
/-- the pairs of a display of tuple keys: the key, its tuple, the value -/
abbrev TEn := List Key × Addr × V
def mergeT (kvs : List (List Key × V)) (es : List TEn) : List (List Key × V) := es.foldl (fun acc e => putK acc e.1 e.2.2) kvs
def tDispT (trs : List (TE × TE)) : TE := fun σ H Q => ∀ p, H p = none → tPairs trs σ (upd H p (.dT [])) fun ps H2 => H2 p = some (.dT []) ∧ ∃ es : List TEn, ps = es.map (fun e => (V.ref e.2.1, e.2.2)) ∧ es.length ≤ 15 ∧
  (∀ e ∈ es, H2 e.2.1 = some (.tup (e.1.map kV))) ∧ Q (.ref p) (upd H2 p (.dT (mergeT [] es)))
theorem mergeT_len : ∀ (es : List TEn) (kvs : List (List Key × V)), (mergeT kvs es).length ≤ kvs.length + es.length
  | [], kvs => (Nat.add_zero kvs.length).symm ▸ Nat.le_refl _
  | e :: r, kvs => by
    have h1 := mergeT_len r (putK kvs e.1 e.2.2)
    have h2 := length_putK kvs e.1 e.2.2
    show (mergeT (putK kvs e.1 e.2.2) r).length ≤ _
    rw [List.length_cons]
    omega
section
variable {P : Program} {w : World} {H : Hp} {h : Heap}
theorem carriesT (ok : HOk P w H h) : ∀ {es : List TEn} {ws : List (Value × Value)}, VV (es.map fun e => (V.ref e.2.1, e.2.2)) ws → (∀ e ∈ es, H e.2.1 = some (.tup (e.1.map kV))) →
    ∃ rs : List (List Key × Addr × Value), CarriesH (tupleKind (mixKind P w)) h ws rs ∧ Paired (fun (e : TEn) (r : List Key × Addr × Value) => e.1 = r.1 ∧ e.2.1 = r.2.1 ∧ RelV e.2.2 r.2.2) es rs
  | [], _, r, _ => by
    rw [List.map_nil] at r
    cases r
    exact ⟨[], True.intro, .nil⟩
  | e :: es, _, r, he => by
    rw [List.map_cons] at r
    cases r with
    | @cons a b as bs q t =>
      obtain ⟨rs, c, pr⟩ := carriesT ok t fun x hx => he x (List.mem_cons_of_mem _ hx)
      obtain ⟨b1, b2⟩ := b
      have q1 : b1 = Value.ref e.2.1 := q.1
      exact ⟨(e.1, e.2.1, b2) :: rs, ⟨q1, rfl, key_of ok (he e List.mem_cons_self), c⟩, .cons ⟨rfl, rfl, q.2⟩ pr⟩
theorem mergeT_kt {H : Hp} : ∀ {es : List TEn} {rs : List (List Key × Addr × Value)} {kvs : List (List Key × V)} {xs : List (List Key × Addr × Value)}, Paired (fun (e : TEn) (r : List Key × Addr × Value) => e.1 = r.1 ∧ e.2.1 = r.2.1 ∧ RelV e.2.2 r.2.2) es rs →
    (∀ e ∈ es, H e.2.1 = some (.tup (e.1.map kV))) → KT H kvs xs → KT H (mergeT kvs es) (storedAllH xs rs)
  | [], _, _, _, .nil, _, k => k
  | e :: es, _, kvs, xs, .cons (b := r) q t, he, k => by
    obtain ⟨r1, r2, r3⟩ := r
    obtain ⟨q1, q2, q3⟩ := q
    have q1 : e.1 = r1 := q1
    have q2 : e.2.1 = r2 := q2
    subst q1 q2
    have ih := mergeT_kt (H := H) t (fun x hx => he x (List.mem_cons_of_mem _ hx)) (k.put e.1 (he e List.mem_cons_self) q3)
    exact ih
end
theorem pe_dispT {X : Cx} {pos : Pos} {keys : List (Option Expr)} {values : List Expr} {trs : List (TE × TE)} {k : Nat} (hr : Room k X.A) (h : PPs X pos keys values trs) (hall : keys.all (·.isSome) = true) (hl : keys.length = values.length) (h0 : keys ≠ [])
    (h15 : keys.length ≤ 15) : PE X (.Dict keys values pos) (tDispT trs) := by
  refine ⟨fun pins s σ H Q I hq => ?_⟩
  have hfree := I.hok.fresh (Nat.le_refl s.heap.objs.size)
  have hu : X.A.units < cLine := hr.units0
  have I1 := I.laid (a := s.heap.objs.size) (o := .dT []) (h' := s.heap.push { cls := .type "dict", data := .dict #[] }) (t' := s.toks) (fun _ _ q => Heap.get?_push_of_some _ q) (Nat.le_refl _) (dt_empty s.heap I.big)
  have hp := pairTrees_length keys values X.env pos hall hl
  have hp0 : pairTrees keys values X.env pos ≠ [] := fun e => h0 (List.length_eq_zero_iff.mp (by rw [← hp, e]; rfl))
  have core := h.run pins _ σ _ _ I1 (hq _ hfree)
  rw [arm_eval_Dict, zip_pairTrees keys values X.env pos hall hl, dictDisplay_pairs _ hp0 (by omega)]
  refine wpAny_bind (wpAny_standAt (wpAny_bind (wpAny_subDictH (knd := tupleKind (mixKind X.prog X.w)) (Q := fun d s' => wpAny (model X.prog X.w) X.A (pure (Value.ref d)) (EP X pins σ Q) X.xe s') hu (by omega) (thn core fun ws s2 hh => ?_))))
  obtain ⟨ps, H2, I2, rel, e, es, ep, lk, hk, q2⟩ := hh
  subst ep
  obtain ⟨rs, c, pr⟩ := carriesT I2.hok rel hk
  obtain ⟨z, hd, xs0, r0, dd⟩ := dt_of I2.hok e
  cases r0
  refine ⟨rs, c, dd, fun h' tk dd' hs => wpAny_pure ⟨.ref s.heap.objs.size, _, ?_, rfl, q2⟩⟩
  have hz : (mergeT [] es).length ≤ sizeLine := by
    have h1 := mergeT_len es []
    rw [List.length_nil] at h1
    rw [sizeLine_eq]
    omega
  obtain ⟨o, ents, ep, ho, h2, h3, h4, _, h5⟩ := dd'
  refine d_write (t' := tk) I2 (by rw [e]; exact True.intro) hs ⟨o, ho⟩ ⟨hz, hd, _, (mergeT_kt pr hk .nil).keeps fun b ys eb => ?_, o, ents, ep, ho, h2, h3, h4, h5⟩
  rw [upd_ne (ne_of eb e (fun z => nomatch z))]
  exact eb
/-- sorted(d), the keys of d cells that stand in order: their tuples, in that order -/
def cInts (c : Cl) : List Int := [c.1, c.2]
def rSortDT : List V → Hp → VK → Prop := fun vs H Q => ∃ (d : Addr) (kvs : List (List Key × V)) (cs : List Cl), vs = [.ref d] ∧ H d = some (.dT kvs) ∧ kvs.map (·.1) = cs.map ck ∧ cs.length < 64 ∧ (∀ c ∈ cs, TS.Bd 1000 (cInts c)) ∧ cs.Pairwise cLt ∧
  ∀ bs p, H p = none → Paired (fun b c => ShAt H b c) bs cs → Q (.ref p) (upd H p (.lst (bs.map V.ref)))
theorem code_lt {a b : Cl} (ha : TS.Bd 1000 (cInts a)) (hb : TS.Bd 1000 (cInts b)) (h : cLt a b) : TS.code 1000 (cInts a) < TS.code 1000 (cInts b) := by
  have a2 := ha a.2 (by unfold cInts; simp)
  have b2 := hb b.2 (by unfold cInts; simp)
  have e : ∀ c : Cl, TS.code 1000 (cInts c) = c.1 * 1000 + c.2 := fun c => by
    show c.1 * 1000 ^ 1 + (c.2 * 1000 ^ 0 + 0) = _
    omega
  rw [e, e]
  unfold cLt at h
  omega
theorem keys_paired {H : Hp} : ∀ {kvs : List (List Key × V)} {bs : List Addr} {cs : List Cl}, IsKeys H kvs bs → kvs.map (·.1) = cs.map ck → Paired (fun b c => ShAt H b c) bs cs
  | [], _, [], .nil, _ => .nil
  | [], _, _ :: _, .nil, e => by simp at e
  | _ :: _, _, [], _, e => by simp at e
  | p :: kvs, b :: bs, c :: cs, .cons h t, e => by
    rw [List.map_cons, List.map_cons] at e
    injection e with e1 e2
    refine .cons ?_ (keys_paired t e2)
    rw [e1] at h
    exact h
theorem paired_mem {α β : Type} {R : α → β → Prop} : ∀ {l : List α} {m : List β}, Paired R l m → ∀ b ∈ l, ∃ c ∈ m, R b c
  | _, _, .nil, b, hb => absurd hb (by simp)
  | _, _, .cons h t, b, hb => by
    rcases List.mem_cons.mp hb with e | hb
    · subst e
      exact ⟨_, List.mem_cons_self, h⟩
    · obtain ⟨c, hc, r⟩ := paired_mem t b hb
      exact ⟨c, List.mem_cons_of_mem _ hc, r⟩
theorem paired_pw {α β : Type} {R : α → β → Prop} {S : β → β → Prop} : ∀ {l : List α} {m : List β}, Paired R l m → m.Pairwise S → l.Pairwise fun x y => ∃ a b, R x a ∧ R y b ∧ a ∈ m ∧ b ∈ m ∧ S a b
  | _, _, .nil, _ => List.Pairwise.nil
  | _, _, .cons h t, p => by
    obtain ⟨p1, p2⟩ := List.pairwise_cons.mp p
    refine List.pairwise_cons.mpr ⟨fun y hy => ?_, (paired_pw t p2).imp fun ⟨a, b, h1, h2, h3, h4, h5⟩ => ⟨a, b, h1, h2, List.mem_cons_of_mem _ h3, List.mem_cons_of_mem _ h4, h5⟩⟩
    obtain ⟨c, hc, r⟩ := paired_mem t y hy
    exact ⟨_, c, h, r, List.mem_cons_self, List.mem_cons_of_mem _ hc, p1 c hc⟩
theorem cr_sortDT {X : Cx} (hcalm : X.calm = true) : CallR X (.builtin "sorted") rSortDT := by
  intro pins s σ H xs ws Q I r h
  obtain ⟨d, kvs, cs, rfl, hd, hks, h64, hB, hP, q⟩ := h
  obtain ⟨u, rfl, ru⟩ := vals1 r
  cases ru
  obtain ⟨z, lo, kk, pr, o, es, ep, ho, hx, hdt, he, hn⟩ := (show ObjOk X.prog X.w H s.heap d (.dT kvs) from I.hok d _ hd)
  have n1 : es.size = kk.length := size_of_entries he
  have n2 : kvs.length = kk.length := Paired.length pr
  have n3 : kvs.length = cs.length := by
    have e := congrArg List.length hks
    rw [List.length_map, List.length_map] at e
    exact e
  have h16 : es.size ≤ sizeLine := by rw [sizeLine_eq]; omega
  have hkeys : IsKeys H kvs (kk.map fun x => x.2.1) := isKeys_of pr
  have hpair := keys_paired hkeys hks
  refine Calls.call_function_entry kind_sorted plain_sorted entry_sorted (args_sorted1 _) ?_
  unfold Builtin.«sorted»
  refine wpAny_bind (m := checkCount "sorted" 1 1 _) (wpAny_pure ?_)
  refine wpAny_bind (PySem.W.kdu_collect (A := X.A.in1) (kdl_raw lo hx hdt) (I.ok.hd hcalm) ho h16 fun h' tk got hk walked => ?_)
  have ea : got.toList = (kk.map fun x => x.2.1).map Value.ref := by
    have hl : got.toList.length = kk.length := by rw [Array.length_toList, walked.1]; exact n1
    apply List.ext_getElem?
    intro j
    rw [List.getElem?_map, List.getElem?_map]
    cases hj : got.toList[j]? with
    | none =>
      have h1 := List.getElem?_eq_none_iff.mp hj
      rw [List.getElem?_eq_none (by omega)]
      rfl
    | some v =>
      obtain ⟨ent, hent, hv⟩ := walked.2 j v (by rw [← Array.getElem?_toList]; exact hj)
      have qe := entry_at he j
      rw [hent] at qe
      cases hb : kk[j]? with
      | none =>
        rw [hb] at qe
        exact nomatch (show some ent = none from qe)
      | some b =>
        rw [hb] at qe
        have e2 : ent = entryOfKey (tupleKind (mixKind X.prog X.w)) b := Option.some.inj qe
        rw [hv, e2]
        rfl
  have hgl : got.toList.length = cs.length := by rw [ea, List.length_map, List.length_map]; omega
  have J : Inv X pins σ H { s with heap := h', toks := tk } := I.kept hk
  generalize hbs : (kk.map fun x => x.2.1) = bs at ea hpair
  refine wpAny_bind (wpAny_newList ?_ (by rw [sizeLine_eq]; omega))
  have hLst : (h'.push (seqObj "list" got.toList.toArray 0)).get? h'.objs.size = some (seqObj "list" got.toList.toArray 0) := Heap.get?_push_size _ rfl
  show wpAny _ _ _ _ _ { s with heap := h'.push (seqObj "list" got.toList.toArray 0), toks := tk }
  have raw : ∀ b c, ShAt H b c → TS.TupInts h' (.ref b) (cInts c) := fun b c e => tupI_raw J (ns := cInts c) (SqT.of e)
  have keep : ∀ b o, h'.get? b = some o → o.cls = .type "tuple" → (h'.push (seqObj "list" got.toList.toArray 0)).get? b = some o := fun b o e _ => Heap.get?_push_of_some _ e
  have tok : TS.TupsOk h' 2 1000 got.toList := fun v hv => by
    rw [ea] at hv
    obtain ⟨b, hb, rfl⟩ := List.mem_map.mp hv
    obtain ⟨c, hc, e⟩ := paired_mem hpair b hb
    exact ⟨cInts c, raw b c e, rfl, hB c hc⟩
  refine wpAny_bind (wpAny_holding (wpAny_call_entry slot_list_sort ⟨_, hLst, rfl⟩ entry_list_sort
    (TS.sort_tups (s := { s with heap := h'.push (seqObj "list" got.toList.toArray 0), toks := tk }) hLst (by omega) (by decide) (tok.keeps keep) (fun v => TS.code 1000 (TS.intsOf h' v)) (fun v hv ns t => ?_) fun out g1 g2 => ⟨_, rfl, ?_⟩) (args_list_sort _)))
  · obtain ⟨ms, t0, _⟩ := tok v hv
    have e : ns = ms := t.ints.symm.trans (t0.keeps keep).ints
    rw [e]
    show TS.code 1000 (TS.intsOf h' v) = TS.code 1000 ms
    rw [t0.ints]
  · have hout : out.toList = bs.map Value.ref := by
      rw [← ea]
      refine sort_same (R := fun u v => TS.code 1000 (TS.intsOf h' u) ≤ TS.code 1000 (TS.intsOf h' v)) (S := fun u v => TS.code 1000 (TS.intsOf h' u) < TS.code 1000 (TS.intsOf h' v)) (fun x y a b => by omega) g1 g2 ?_
      rw [ea, List.pairwise_map]
      refine (paired_pw hpair hP).imp fun {x y} hxy => ?_
      obtain ⟨a, b, ha, hb, ma, mb, hl⟩ := hxy
      rw [(raw x a ha).ints, (raw y b hb).ints]
      exact code_lt (hB a ma) (hB b mb) hl
    obtain ⟨e', he'⟩ := sortedHeap_at (vs := got.toList) (out := out) hLst
    have hz : (bs.map V.ref).length ≤ sizeLine := by
      have : bs.length = cs.length := by rw [← hgl, ea, List.length_map]
      rw [List.length_map, this, sizeLine_eq]
      omega
    refine wpAny_pure ⟨_, rfl, .ref h'.objs.size, upd H h'.objs.size (.lst (bs.map V.ref)), J.laid (t' := tk) (fun b u e => ?_) (Nat.le_refl _)
      (show ObjOk X.prog X.w _ _ _ (.lst (bs.map V.ref)) from ⟨hz, out.toList, e', by rw [hout]; exact vals_refs bs, by rw [Array.toArray_toList]; exact he'⟩), rfl, q bs _ (J.hok.fresh (Nat.le_refl _)) hpair⟩
    have hb : b < h'.objs.size := Heap.lt_size e
    rw [sortedHeap_old (Nat.ne_of_lt hb) (by rw [size_push']; exact Nat.lt_succ_of_lt hb)]
    exact Heap.get?_push_of_some _ e
end K14
/-! is_gain, look_table, charge_of, charge, raw_of -/
namespace K14
open L2 PySem PySem.Spec PyProof.Rows
/-! ### what a table tells -/
theorem valV_mem {kvs : List (List Key × V)} {k : List Key} {v : V} (h : valV kvs k = some v) : (k, v) ∈ kvs := by
  unfold valV at h
  obtain ⟨e, he, rfl⟩ := Option.map_eq_some_iff.mp h
  have h1 := List.find?_some he
  have h2 := List.mem_of_find?_eq_some he
  have h3 : e.1 = k := of_decide_eq_true h1
  rw [← h3]
  exact h2
theorem mem_valV {kvs : List (List Key × V)} {k : List Key} {v : V} (h : (k, v) ∈ kvs) : ∃ v', valV kvs k = some v' := by
  have e : (kvs.any fun kv => decide (kv.1 = k)) = true := List.any_eq_true.mpr ⟨_, h, decide_eq_true rfl⟩
  rw [valV_any] at e
  exact Option.isSome_iff_exists.mp e
theorem TabIs.some {H : Hp} {kvs : List (List Key × V)} {l0 l1 : Pl} {G : Cl → Gn} (h : TabIs H kvs l0 l1 G) {c : Cl} {v : V} (e : valV kvs (ck c) = some v) : ∃ a, v = .ref a ∧ GnAt H a (G c) := by
  obtain ⟨c', a, e1, _, e3, e4⟩ := h.mem _ (valV_mem e)
  have e1 : ck c = ck c' := e1
  rw [ck_inj e1]
  exact ⟨a, e3, e4⟩
theorem TabIs.getD {H : Hp} {kvs : List (List Key × V)} {l0 l1 : Pl} {G : Cl → Gn} (h : TabIs H kvs l0 l1 G) (c : Cl) {p : Addr} (hp : GnAt H p dft) : ∃ a, (valV kvs (ck c)).getD (.ref p) = .ref a ∧ GnAt H a (G c) := by
  cases e : valV kvs (ck c) with
  | none => exact ⟨p, rfl, by rw [h.non c e]; exact hp⟩
  | some v => exact h.some e
theorem cell_key {H : Hp} {k : Addr} {c : Cl} (h : ShAt H k c) : H k = some (.tup ((ck c).map kV)) := h
def spIsGain : Sp := fun vs H Q _ => ∃ (p : Addr) (g : Gn), vs = [.ref p] ∧ GnAt H p g ∧ GnOk g ∧ Q (.bl true) H
def spLookTable : Sp := fun vs H Q _ => ∃ (a d : Addr) (l0 l1 : Pl) (G : Cl → Gn), vs = [.ref a, .ref d] ∧ CatAt H a l0 l1 ∧ TabAt H d l0 l1 G ∧ (∀ c, GnOk (G c)) ∧ ∀ H', Same H H' → Q .non H'
def spChargeOf : Sp := fun vs H Q _ => ∃ (p : Addr) (g : Gn) (r : Int), vs = [.ref p, .int r] ∧ GnAt H p g ∧ GnOk g ∧ 0 ≤ r ∧ r ≤ 100000 ∧ ∀ q H', Same H H' → ShAt H' q (chg g r) → Q (.ref q) H'
def spCharge : Sp := fun vs H Q _ => ∃ (a d k : Addr) (l0 l1 : Pl) (G : Cl → Gn) (c : Cl) (r : Int), vs = [.ref a, .ref d, .ref k, .int r] ∧ CatAt H a l0 l1 ∧ CatOk l0 l1 ∧ TabAt H d l0 l1 G ∧ (∀ c, GnOk (G c)) ∧ ShAt H k c ∧ CellOk l0 l1 c ∧ 0 ≤ r ∧ r ≤ 100000 ∧
  ∀ q H', Same H H' → ShAt H' q (chg (G c) r) → Q (.ref q) H'
def spRawOf : Sp := fun vs H Q _ => ∃ (a d k m : Addr) (l0 l1 : Pl) (G : Cl → Gn) (c : Cl) (x : Int × Int), vs = [.ref a, .ref d, .ref k, .ref m] ∧ CatAt H a l0 l1 ∧ CatOk l0 l1 ∧ TabAt H d l0 l1 G ∧ (∀ c, GnOk (G c)) ∧ ShAt H k c ∧ CellOk l0 l1 c ∧ ShAt H m x ∧ ShOk x ∧ Sz 1000000000 100 x ∧
  ∀ H', Same H H' → Q (.int ((back (G c).1 (G c).2 x).1.fdiv (back (G c).1 (G c).2 x).2)) H'
section
variable {K : PySem.W.Frag} {mg : Str → Option Value} {P : Program} {w : World} {base : Heap}
theorem sc22 : FnScope ["thing"] ["thing"] (defScope (top 22)) := ⟨rfl, rfl, rfl, by decide +kernel, rfl, by decide +kernel, by decide +kernel⟩
theorem ok_is_gain (D : Df K mg "is_gain" (top 22) ["thing"]) (B : Bl mg) (c2 : C8.Cal P w K mg base 2 "is_share" spIsShare []) : C8.Cal P w K mg base 3 "is_gain" spIsGain [] := by
  refine df_ok D sc22 (fun vs H Q E h => ?_) (fun f cdv A outer s H vs Q E hr h => ?_)
  · obtain ⟨x, y, rfl, _⟩ := h; rfl
  · obtain ⟨p, g, rfl, ⟨x, y, hp, hx, hy⟩, ok, q⟩ := h
    refine ⟨_, pss_cons (ps_if (PW.pt (pw_or (pt_not (pt_val (pe_callB call_isTup (by rfl) B.isinstance bi_isinstance (pa_cons (pv 0) (pa_cons (pe_bltn (v := .ty "tuple") (by rfl) B.tuple bi_tupleT rfl) pa_nil)))))
        (pw_or (pt_cmpR op_ne (pe_callB call_len_seq (by rfl) B.len bi_len (pa_cons (pv 0) pa_nil)) pe_int (nomark _))
        (pw_or (pt_not (pt_val (C8.pe_c c2 hr (by decide) (by rfl) (pa_cons (pe_ix ix_tup (pv 0) pe_int (fun _ _ => rfl)) pa_nil))))
        (pw_or1 (pt_not (pt_val (C8.pe_c c2 hr (by decide) (by rfl) (pa_cons (pe_ix ix_tup (pv 0) pe_int (fun _ _ => rfl)) pa_nil)))))))))
        (pss_one (ps_ret pe_bl)) pss_nil)
      (pss_one (ps_ret (pe_cmpR op_gt (pe_ix ix_tup (pe_ix ix_tup (pv 0) pe_int (fun _ _ => rfl)) pe_int (fun _ _ => rfl)) pe_int (nomark _)))), ?_⟩
    refine ⟨_, rfl, p, _, rfl, hp, true, rfl, iteF ⟨_, rfl, p, _, rfl, .inr (SqT.of hp), rfl, _, rfl, iteNS rfl ?_⟩⟩
    refine ⟨_, rfl, p, _, _, _, rfl, rfl, SqT.of hp, rfl, x, _, rfl, hx, ok.ped, true, rfl, iteF ?_⟩
    refine ⟨_, rfl, p, _, _, _, rfl, rfl, SqT.of hp, rfl, y, _, rfl, hy, ok.gain, true, rfl, iteF ?_⟩
    exact ⟨_, rfl, p, _, _, _, rfl, rfl, SqT.of hp, rfl, y, _, _, _, rfl, rfl, SqT.of hy, rfl, _, _, rfl, rfl, qdec ok.up q⟩
theorem sc23 : FnScope ["catcher", "table", "one"] ["catcher", "table"] (defScope (top 23)) := ⟨rfl, rfl, rfl, by decide +kernel, rfl, by decide +kernel, by decide +kernel⟩
theorem ok_look_table (D : Df K mg "look_table" (top 23) ["catcher", "table"]) (B : Bl mg) (c3 : C8.Cal P w K mg base 3 "is_cell" spIsCell []) (c4 : C8.Cal P w K mg base 3 "is_gain" spIsGain []) : C8.Cal P w K mg base 4 "look_table" spLookTable [] := by
  refine df_ok D sc23 (fun vs H Q E h => ?_) (fun f cdv A outer s H vs Q E hr h => ?_)
  · obtain ⟨x, y, _, _, _, rfl, _⟩ := h; rfl
  · obtain ⟨a, d, l0, l1, G, rfl, hc, ⟨kvs, hd, tb⟩, hG, q⟩ := h
    have hu := hu_of hr
    refine ⟨_, pss_one (ps_if (PW.pt (pw_or (pt_not (pt_val (pe_callB call_isDic (by rfl) B.isinstance bi_isinstance (pa_cons (pv 1) (pa_cons (pe_bltn (v := .ty "dict") (by rfl) B.dict bi_dictT rfl) pa_nil)))))
        (pw_or1 (pt_not (pt_val (pe_callB (call_allT rfl) (by rfl) B.all bi_all (pa_cons
          (pe_lock (pe_lc (own := [("one", 2)]) (g := gName 2) (tt := tYes) (by rfl) sc23.nd (pi_keys (pv 1)) (blkOk_by (own := [("one", 2)]) (N := ["catcher", "table", "one"]) (sc := defScope (top 23)) (by decide +kernel))
            (fun _ _ _ _ _ => pg_name (i := 2) sc23.nd rfl (Or.inl rfl)) (fun _ _ _ _ _ => pts_nil)
            (fun _ _ _ _ _ => pe_and (C8.pe_c c3 hr (by decide) (by rfl) (pa_cons (pv 0) (pa_cons (pv 2) pa_nil))) (pe_one (C8.pe_c c4 hr (by decide) (by rfl) (pa_cons (pe_dget hu (pv 1) (pv 2) (fun _ _ => rfl)) pa_nil)))))) pa_nil)))))))
        pss_never pss_nil), ?_⟩
    refine ⟨_, rfl, d, _, rfl, hd, true, rfl, iteF ⟨d, _, hd, trivial, fun od => ?_⟩⟩
    have kt1 : Kt H (upd H d (.frz od (.dT kvs))) := fun b xs e => by
      rw [upd_ne (ne_of e hd (fun z => nomatch z))]
      exact e
    refine ⟨_, rfl, d, od, rfl, .inr ⟨kvs, upd_same, fun D nD => ?_⟩⟩
    have nDd : D ≠ d := fun e => by rw [e, upd_same] at nD; cases nD
    refine lc_all (walk_keysT (d := d) (o := od) (kvs := kvs)) (Nat.le_trans tb.len (by decide)) (fun _ _ _ _ y => y.1) nD (fun H' s => s _ _ upd_same) (fun i x H' Qk hi s y hk => ?_) (fun H' s hD => ?_) mg_name
    · refine ⟨rfl, ?_⟩
      obtain ⟨_, k, v, u, e1, rfl, hu'⟩ := y
      have m := List.mem_of_getElem? e1
      obtain ⟨c, g, e2, hcell, e3, hg⟩ := tb.mem _ m
      have e2 : k = ck c := e2
      have e3 : v = .ref g := e3
      subst e2 e3
      have ktA : Kt H H' := kt1.trans (kt s)
      obtain ⟨v', hv'⟩ := mem_valV m
      obtain ⟨g', rfl, hg'⟩ := tb.some hv'
      refine ⟨_, rfl, _, rfl, a, u, l0, l1, c, rfl, hc.to ktA, hu', hcell, true, rfl, iteT ?_⟩
      refine ⟨_, rfl, _, rfl, d, _, rfl, .inr ⟨kvs, ck c, u, .inr ⟨od, s _ _ upd_same⟩, rfl, hu', hv'.symm⟩, g', G c, rfl, hg'.to ktA, hG c, hk _ (Same.refl _)⟩
    · refine ⟨s _ _ upd_same, D, kvs.length, rfl, ?_, true, rfl, iteF ?_⟩
      · rw [upd_ne nDd]
        exact hD
      · refine q _ fun b o e => ?_
        by_cases hb : b = d
        · subst hb
          rw [upd_same, ← e, hd]
        · rw [upd_ne hb]
          exact s _ _ (by rw [upd_ne hb]; exact e)
theorem sc24 : FnScope ["gain", "raw"] ["gain", "raw"] (defScope (top 24)) := ⟨rfl, rfl, rfl, by decide +kernel, rfl, by decide +kernel, by decide +kernel⟩
theorem ok_charge_of (D : Df K mg "charge_of" (top 24) ["gain", "raw"]) (cT : C8.Cal P w K mg base 3 "times" (spTwo times) []) (cM : C8.Cal P w K mg base 3 "minus" (spTwo minus) []) (cW : C8.Cal P w K mg base 1 "whole" spWhole []) (cS : C8.Cal P w K mg base 2 "share" spShare []) : C8.Cal P w K mg base 4 "charge_of" spChargeOf [] := by
  refine df_ok D sc24 (fun vs H Q E h => ?_) (fun f cdv A outer s H vs Q E hr h => ?_)
  · obtain ⟨x, y, _, rfl, _⟩ := h; rfl
  · obtain ⟨p, g, r, rfl, ⟨x, y, hp, hx, hy⟩, ok, r0, r1, q⟩ := h
    refine ⟨_, pss_one (ps_ret (C8.pe_c cT hr (by decide) (by rfl) (pa_cons (C8.pe_c cM hr (by decide) (by rfl) (pa_cons (C8.pe_c cW hr (by decide) (by rfl) (pa_cons (pv 1) pa_nil)) (pa_cons (pe_ix ix_tup (pv 0) pe_int (fun _ _ => rfl)) pa_nil)))
      (pa_cons (C8.pe_c cS hr (by decide) (by rfl) (pa_cons (pe_ix ix_tup (pe_ix ix_tup (pv 0) pe_int (fun _ _ => rfl)) pe_int (fun _ _ => rfl)) (pa_cons (pe_ix ix_tup (pe_ix ix_tup (pv 0) pe_int (fun _ _ => rfl)) pe_int (fun _ _ => rfl)) pa_nil))) pa_nil)))), ?_⟩
    refine ⟨_, rfl, r, rfl, fun p1 H1 s1 h1 => ?_⟩
    refine ⟨_, rfl, p, _, _, _, rfl, rfl, SqT.of (s1 _ _ hp), rfl, p1, x, (r, 1), g.1, rfl, h1, hx.to (kt s1), (raw_sz r0 r1).mono (by decide) (by decide), ok.sz1.mono (by decide) (by decide), fun p2 H2 s2 h2 => ?_⟩
    have sA := s1.trans s2
    refine ⟨_, rfl, p, _, _, _, rfl, rfl, SqT.of (sA _ _ hp), rfl, y, _, _, _, rfl, rfl, SqT.of (sA _ _ hy), rfl, ?_⟩
    refine ⟨_, rfl, p, _, _, _, rfl, rfl, SqT.of (sA _ _ hp), rfl, y, _, _, _, rfl, rfl, SqT.of (sA _ _ hy), rfl, ?_⟩
    have c0 : 0 < g.2.1 := ok.up
    have c1 : g.2.1 ≤ 9 := ok.c
    refine ⟨g.2.2, g.2.1, rfl, by omega, by omega, fun p3 H3 s3 h3 => ?_⟩
    have hsw : ShOk (g.2.2, g.2.1) := ⟨c0, by have := ok.gain.low; rw [Int.gcd_comm]; exact this⟩
    rw [shr_id hsw] at h3
    refine ⟨p2, p3, _, _, rfl, h2.to (kt s3), h3, (net_sz ok r0 r1).mono (by decide) (by decide), ok.sz3.mono (by decide) (by decide), fun p4 H4 s4 h4 => ?_⟩
    exact q p4 H4 ((sA.trans s3).trans s4) h4
theorem sc25 : FnScope ["catcher", "table", "cell", "raw"] ["catcher", "table", "cell", "raw"] (defScope (top 25)) := ⟨rfl, rfl, rfl, by decide +kernel, rfl, by decide +kernel, by decide +kernel⟩
theorem ok_charge (D : Df K mg "charge" (top 25) ["catcher", "table", "cell", "raw"]) (c5 : C8.Cal P w K mg base 5 "look_catcher" spLookCatcher []) (c4 : C8.Cal P w K mg base 4 "look_table" spLookTable []) (cL : C8.Cal P w K mg base 4 "look_cell" spLookCell []) (c2 : C8.Cal P w K mg base 2 "is_whole" spIsWhole [])
    (cC : C8.Cal P w K mg base 4 "charge_of" spChargeOf []) : C8.Cal P w K mg base 6 "charge" spCharge [] := by
  refine df_ok D sc25 (fun vs H Q E h => ?_) (fun f cdv A outer s H vs Q E hr h => ?_)
  · obtain ⟨x, y, _, _, _, _, _, _, rfl, _⟩ := h; rfl
  · obtain ⟨a, d, k, l0, l1, G, c, r, rfl, hc, okc, ht, hG, hk, hcell, r0, r1, q⟩ := h
    have hu := hu_of hr
    refine ⟨_, pss_cons (ps_expr (C8.pe_c c5 hr (by decide) (by rfl) (pa_cons (pv 0) pa_nil)))
      (pss_cons (ps_expr (C8.pe_c c4 hr (by decide) (by rfl) (pa_cons (pv 0) (pa_cons (pv 1) pa_nil))))
      (pss_cons (ps_expr (C8.pe_c cL hr (by decide) (by rfl) (pa_cons (pv 0) (pa_cons (pv 2) pa_nil))))
      (pss_cons (ps_if (pt_not (pt_val (C8.pe_c c2 hr (by decide) (by rfl) (pa_cons (pv 3) (pa_cons pe_int (pa_cons pe_int pa_nil)))))) pss_never pss_nil)
      (pss_one (ps_ret (C8.pe_c cC hr (by decide) (by rfl) (pa_cons (pe_dget2 hu (pv 1) (pv 2) (pe_tup (pa_cons (pe_tup (pa_cons pe_int (pa_cons pe_int pa_nil))) (pa_cons (pe_tup (pa_cons pe_int (pa_cons pe_int pa_nil))) pa_nil))) ⟨by rfl, by rfl, by rfl, by rfl⟩) (pa_cons (pv 3) pa_nil)))))))), ?_⟩
    refine ⟨_, rfl, a, l0, l1, rfl, hc, okc, fun H1 s1 => ?_⟩
    refine ⟨_, rfl, _, rfl, a, d, l0, l1, G, rfl, hc.to (kt s1), ht.to s1, hG, fun H2 s2 => ?_⟩
    have sA := s1.trans s2
    refine ⟨_, rfl, _, rfl, a, k, l0, l1, c, rfl, hc.to (kt sA), hk.to (kt sA), hcell, ?_⟩
    refine ⟨_, rfl, r, 0, 100000, rfl, r0, r1, true, rfl, iteF ?_⟩
    obtain ⟨kvs, hd, tb⟩ := ht.to sA
    have hd' : ∀ H', Same H2 H' → H' d = some (.dT kvs) := fun H' s' => s' _ _ hd
    refine ⟨_, rfl, d, rfl, .inr ⟨kvs, .inl hd⟩, _, rfl, (by show 2 ≤ sizeLine; decide), fun p1 n1 => ⟨(by show 2 ≤ sizeLine; decide), fun p2 n2 => ⟨(by show 2 ≤ sizeLine; decide), fun p3 n3 => ?_⟩⟩⟩
    have t1 := same_new (o := .tup [.int 0, .int 1]) n1
    have t2 := same_new (o := .tup [.int 1, .int 1]) n2
    have t3 := same_new (o := .tup [.ref p1, .ref p2]) n3
    have hdf : GnAt _ p3 dft := ⟨p1, p2, upd_same, t3 _ _ (t2 _ _ upd_same), t3 _ _ upd_same⟩
    have sB := (t1.trans t2).trans t3
    obtain ⟨g, eg, hg⟩ := (tb.to (kt sB)).getD c hdf
    refine ⟨_, DGet.t (hd' _ sB) (cell_key ((hk.to (kt sA)).to (kt sB))), _, rfl, g, G c, r, ?_, hg, hG c, r0, r1, fun qq H' s' h' => ?_⟩
    · show [(valV kvs (ck c)).getD (.ref p3), V.int r] = _
      rw [eg]
    · exact q qq H' ((sA.trans sB).trans s') h'
theorem sc26 : FnScope ["catcher", "table", "cell", "amount", "pedestal", "gain", "found"] ["catcher", "table", "cell", "amount"] (defScope (top 26)) := ⟨rfl, rfl, rfl, by decide +kernel, rfl, by decide +kernel, by decide +kernel⟩
theorem ok_raw_of (D : Df K mg "raw_of" (top 26) ["catcher", "table", "cell", "amount"]) (c5 : C8.Cal P w K mg base 5 "look_catcher" spLookCatcher []) (c4 : C8.Cal P w K mg base 4 "look_table" spLookTable []) (cL : C8.Cal P w K mg base 4 "look_cell" spLookCell []) (c2 : C8.Cal P w K mg base 2 "is_share" spIsShare [])
    (cP : C8.Cal P w K mg base 3 "plus" (spTwo plus) []) (cT : C8.Cal P w K mg base 3 "times" (spTwo times) []) : C8.Cal P w K mg base 6 "raw_of" spRawOf [] := by
  refine df_ok D sc26 (fun vs H Q E h => ?_) (fun f cdv A outer s H vs Q E hr h => ?_)
  · obtain ⟨x, y, _, _, _, _, _, _, _, rfl, _⟩ := h; rfl
  · obtain ⟨a, d, k, m, l0, l1, G, c, x, rfl, hc, okc, ht, hG, hk, hcell, hm, okx, szx, q⟩ := h
    have hu := hu_of hr
    refine ⟨_, pss_cons (ps_expr (C8.pe_c c5 hr (by decide) (by rfl) (pa_cons (pv 0) pa_nil)))
      (pss_cons (ps_expr (C8.pe_c c4 hr (by decide) (by rfl) (pa_cons (pv 0) (pa_cons (pv 1) pa_nil))))
      (pss_cons (ps_expr (C8.pe_c cL hr (by decide) (by rfl) (pa_cons (pv 0) (pa_cons (pv 2) pa_nil))))
      (pss_cons (ps_if (pt_not (pt_val (C8.pe_c c2 hr (by decide) (by rfl) (pa_cons (pv 3) pa_nil)))) pss_never pss_nil)
      (pss_cons (ps_asg (pe_dget2 hu (pv 1) (pv 2) (pe_tup (pa_cons (pe_tup (pa_cons pe_int (pa_cons pe_int pa_nil))) (pa_cons (pe_tup (pa_cons pe_int (pa_cons pe_int pa_nil))) pa_nil))) ⟨by rfl, by rfl, by rfl, by rfl⟩)
        (pg_tup rfl (pgs_cons (pg_name (i := 4) sc26.nd rfl (.inl rfl)) (pgs_cons (pg_name (i := 5) sc26.nd rfl (.inl rfl)) pgs_nil))))
      (pss_cons (ps_set (i := 6) sc26.nd rfl (.inl rfl) (C8.pe_c cP hr (by decide) (by rfl) (pa_cons (pv 4) (pa_cons (C8.pe_c cT hr (by decide) (by rfl) (pa_cons (pv 5) (pa_cons (pv 3) pa_nil))) pa_nil))))
      (pss_one (ps_ret (pe_op op_fdivN (pe_ix ix_tup (pv 6) pe_int (fun _ _ => rfl)) (pe_ix ix_tup (pv 6) pe_int (fun _ _ => rfl)))))))))), ?_⟩
    refine ⟨_, rfl, a, l0, l1, rfl, hc, okc, fun H1 s1 => ?_⟩
    refine ⟨_, rfl, _, rfl, a, d, l0, l1, G, rfl, hc.to (kt s1), ht.to s1, hG, fun H2 s2 => ?_⟩
    have sA := s1.trans s2
    refine ⟨_, rfl, _, rfl, a, k, l0, l1, c, rfl, hc.to (kt sA), hk.to (kt sA), hcell, ?_⟩
    refine ⟨_, rfl, m, x, rfl, hm.to (kt sA), okx, true, rfl, iteF ?_⟩
    obtain ⟨kvs, hd, tb⟩ := ht.to sA
    have hd' : ∀ H', Same H2 H' → H' d = some (.dT kvs) := fun H' s' => s' _ _ hd
    refine ⟨_, rfl, d, rfl, .inr ⟨kvs, .inl hd⟩, _, rfl, (by show 2 ≤ sizeLine; decide), fun p1 n1 => ⟨(by show 2 ≤ sizeLine; decide), fun p2 n2 => ⟨(by show 2 ≤ sizeLine; decide), fun p3 n3 => ?_⟩⟩⟩
    have t1 := same_new (o := .tup [.int 0, .int 1]) n1
    have t2 := same_new (o := .tup [.int 1, .int 1]) n2
    have t3 := same_new (o := .tup [.ref p1, .ref p2]) n3
    have hdf : GnAt _ p3 dft := ⟨p1, p2, upd_same, t3 _ _ (t2 _ _ upd_same), t3 _ _ upd_same⟩
    have sB := (t1.trans t2).trans t3
    obtain ⟨g, eg, gx, gy, hg, hgx, hgy⟩ := (tb.to (kt sB)).getD c hdf
    refine ⟨_, DGet.t (hd' _ sB) (cell_key ((hk.to (kt sA)).to (kt sB))), g, _, eg, SqT.of hg, rfl, _, _, rfl, _, _, rfl, rfl, ?_⟩
    have ok := hG c
    refine ⟨_, rfl, _, rfl, _, rfl, gy, m, (G c).2, x, rfl, hgy, (hm.to (kt sA)).to (kt sB), ok.sz2.mono (by decide) (by decide), szx.mono (by decide) (by decide), fun p4 H4 s4 h4 => ?_⟩
    have szl := led_sz ok szx
    refine ⟨gx, p4, (G c).1, _, rfl, hgx.to (kt s4), h4, ok.sz1.mono (by decide) (by decide), szl.mono (by decide) (by decide), fun p5 H5 s5 h5 => ?_⟩
    have szf := plus_sz ok.sz1 szl
    refine ⟨_, rfl, p5, _, _, _, rfl, rfl, SqT.of h5, rfl, _, rfl, p5, _, _, _, rfl, rfl, SqT.of h5, rfl, _, _, rfl, rfl, ⟨?_, ?_⟩, ?_⟩
    · exact Int.ne_of_gt szf.pos
    · have h1 := szf.pos
      have h2 := szf.low
      omega
    · exact q H5 (((sA.trans sB).trans s4).trans s5)
end
end K14
/-! charged_of, charged, event_fits, is_event -/
namespace K14
open L2 PySem PySem.Spec PyProof.Rows
theorem bi_sorted : bootBuiltins "sorted" = some (.builtin "sorted") := by decide +kernel
theorem bi_min : bootBuiltins "min" = some (.builtin "min") := by decide +kernel
theorem paired_get {α β : Type} {R : α → β → Prop} : ∀ {l : List α} {m : List β} {i : Nat} {b : α}, Paired R l m → l[i]? = some b → ∃ c, m[i]? = some c ∧ R b c
  | _, _, _, _, .nil, e => by simp at e
  | _, _, 0, _, .cons h _, e => by
    simp at e
    subst e
    exact ⟨_, rfl, h⟩
  | _, _, i + 1, _, .cons _ t, e => by
    obtain ⟨c, h1, h2⟩ := paired_get (i := i) t (by simpa using e)
    exact ⟨c, by simpa using h1, h2⟩
theorem paired_tog {α β : Type} {R : α → β → Prop} : ∀ {l : List α} {m : List β} {i : Nat} {c : β}, Paired R l m → m[i]? = some c → ∃ b, l[i]? = some b ∧ R b c
  | _, _, _, _, .nil, e => by simp at e
  | _, _, 0, _, .cons h _, e => by
    simp at e
    subst e
    exact ⟨_, rfl, h⟩
  | _, _, i + 1, _, .cons _ t, e => by
    obtain ⟨c, h1, h2⟩ := paired_tog (i := i) t (by simpa using e)
    exact ⟨c, by simpa using h1, h2⟩
theorem paired_app {α β : Type} {R : α → β → Prop} : ∀ {l : List α} {m : List β} {a : α} {b : β}, Paired R l m → R a b → Paired R (l ++ [a]) (m ++ [b])
  | _, _, _, _, .nil, h => .cons h .nil
  | _, _, _, _, .cons h t, k => .cons h (paired_app t k)
structure RawsOk (l0 l1 : Pl) (rs : List (Cl × Int)) : Prop where
  len : rs.length ≤ 60
  asc : Asc rs
  mem : ∀ e ∈ rs, CellOk l0 l1 e.1 ∧ 0 ≤ e.2 ∧ e.2 ≤ 100000
theorem cell_bd {l0 l1 : Pl} {c : Cl} (ok : CatOk l0 l1) (h : CellOk l0 l1 c) : TS.Bd 1000 (cInts c) := by
  have h0 := ok.p0.c1
  have h1 := ok.p1.c1
  intro m hm
  have hm : m = c.1 ∨ m = c.2 := by
    unfold cInts at hm
    simpa using hm
  unfold CellOk at h
  omega
theorem raws_get : ∀ {rs : List (Cl × Int)} {e : Cl × Int}, Asc rs → e ∈ rs → valV (rs.map rawKv) (ck e.1) = some (.int e.2)
  | [], _, _, h => by simp at h
  | x :: rs, e, ha, h => by
    obtain ⟨h1, h2⟩ := List.pairwise_cons.mp ha
    rw [List.map_cons]
    rcases List.mem_cons.mp h with q | q
    · subst q
      exact valV_pos (p := rawKv e) rfl
    · have ne : ¬ (rawKv x).1 = ck e.1 := fun z => by
        have z : ck x.1 = ck e.1 := z
        have h3 := h1 e q
        rw [ck_inj z] at h3
        exact cLt_irrefl h3
      rw [valV_neg ne]
      exact raws_get h2 q
theorem asc_get {es : List (Cl × Int)} (h : Asc es) {i : Nat} {a b : Cl × Int} (ha : es[i]? = some a) (hb : es[i + 1]? = some b) : cLt a.1 b.1 := by
  obtain ⟨ia, ea⟩ := List.getElem?_eq_some_iff.mp ha
  obtain ⟨ib, eb⟩ := List.getElem?_eq_some_iff.mp hb
  have := List.pairwise_iff_getElem.mp h i (i + 1) ia ib (Nat.lt_succ_self i)
  rw [ea, eb] at this
  exact this
theorem take_one {α : Type} {l : List α} {i : Nat} {e : α} (h : l[i]? = some e) : l.take (i + 1) = l.take i ++ [e] := by
  rw [List.take_add_one, h]
  rfl
def spChargedOf : Sp := fun vs H Q _ => ∃ (d rw : Addr) (l0 l1 : Pl) (G : Cl → Gn) (rs : List (Cl × Int)), vs = [.ref d, .ref rw] ∧ CatOk l0 l1 ∧ TabAt H d l0 l1 G ∧ (∀ c, GnOk (G c)) ∧ RawsAt H rw rs ∧ RawsOk l0 l1 rs ∧
  ∀ q H', Same H H' → EvAt H' q (hits G rs) → Q (.ref q) H'
def spCharged : Sp := fun vs H Q _ => ∃ (a d rw : Addr) (l0 l1 : Pl) (G : Cl → Gn) (rs : List (Cl × Int)), vs = [.ref a, .ref d, .ref rw] ∧ CatAt H a l0 l1 ∧ CatOk l0 l1 ∧ TabAt H d l0 l1 G ∧ (∀ c, GnOk (G c)) ∧ RawsAt H rw rs ∧ RawsOk l0 l1 rs ∧
  ∀ q H', Same H H' → EvAt H' q (hits G rs) → Q (.ref q) H'
section
variable {K : PySem.W.Frag} {mg : Str → Option Value} {P : Program} {w : World} {base : Heap}
theorem sc28 : FnScope ["table", "raws", "found", "cell", "amount", "number"] ["table", "raws"] (defScope (top 28)) := ⟨rfl, rfl, rfl, by decide +kernel, rfl, by decide +kernel, by decide +kernel⟩
theorem ok_charged_of (D : Df K mg "charged_of" (top 28) ["table", "raws"]) (B : Bl mg) (cC : C8.Cal P w K mg base 4 "charge_of" spChargeOf []) : C8.Cal P w K mg base 5 "charged_of" spChargedOf [] := by
  refine df_ok D sc28 (fun vs H Q E h => ?_) (fun f cdv A outer s H vs Q E hr h => ?_)
  · obtain ⟨x, y, _, _, _, _, rfl, _⟩ := h; rfl
  · obtain ⟨d, rw', l0, l1, G, rs, rfl, okc, ht, hG, hrw, okr, q⟩ := h
    have hu := hu_of hr
    refine ⟨_, pss_cons (ps_set (i := 2) sc28.nd rfl (.inl rfl) (pe_lst pa_nil))
      (pss_cons (ps_for PassesOwn.never rfl (pi_list (pe_callB (cr_sortDT rfl) (by rfl) B.sorted bi_sorted (pa_cons (pv 1) pa_nil))) (pg_name (i := 3) sc28.nd rfl (.inl rfl))
        (pss_cons (ps_set (i := 4) sc28.nd rfl (.inl rfl) (C8.pe_c cC hr (by decide) (by rfl)
          (pa_cons (pe_dget2 hu (pv 0) (pv 3) (pe_tup (pa_cons (pe_tup (pa_cons pe_int (pa_cons pe_int pa_nil))) (pa_cons (pe_tup (pa_cons pe_int (pa_cons pe_int pa_nil))) pa_nil))) ⟨by rfl, by rfl, by rfl, by rfl⟩)
          (pa_cons (pe_dget hu (pv 1) (pv 3) (fun _ _ => rfl)) pa_nil))))
        (pss_cons (ps_set (i := 5) sc28.nd rfl (.inl rfl) (pe_callB (call_min2 rfl) (by rfl) B.min bi_min (pa_cons pe_int (pa_cons (pe_op op_fdivN (pe_ix ix_tup (pv 4) pe_int (fun _ _ => rfl)) (pe_ix ix_tup (pv 4) pe_int (fun _ _ => rfl))) pa_nil))))
        (pss_one (ps_if (pt_cmpR op_ge (pv 5) pe_int (nomark _))
          (pss_one (ps_expr (pe_bm PySem.F.plainAttrs_list PySem.F.slot_list_append PySem.F.type_list_append mt_append (pv 2) (pa_cons (pe_op op_catT (pv 3) (pe_tup (pa_cons (pv 5) pa_nil))) pa_nil)))) pss_nil)))))
      (pss_one (ps_ret (pe_callTy call_tuple_of (by rfl) B.tuple bi_tupleT (pa_cons (pv 2) pa_nil))))), ?_⟩
    -- found = []
    refine ⟨Nat.zero_le _, fun fo nfo => ?_⟩
    have s1 : Same H (upd H fo (.lst [])) := same_new nfo
    -- sorted(raws)
    refine ⟨_, rfl, rw', _, rs.map (·.1), rfl, s1 _ _ hrw, ?_, ?_, ?_, ?_, fun bs L nL hb => ?_⟩
    · rw [List.map_map, List.map_map]; rfl
    · rw [List.length_map]; have := okr.len; omega
    · intro c hc
      obtain ⟨e, he, rfl⟩ := List.mem_map.mp hc
      exact cell_bd okc (okr.mem e he).1
    · rw [List.pairwise_map]; exact okr.asc
    have s2 := s1.trans (same_new (o := .lst (bs.map V.ref)) nL)
    have nLf : L ≠ fo := fun e => by rw [e, upd_same] at nL; cases nL
    have hbH : ∀ H', Same H H' → Paired (fun b c => ShAt H' b c) bs (rs.map (·.1)) := fun H' s' => Paired.mapP hb fun b c e => by
      have nb : b ≠ fo := ne_of e (upd_same (H := H) (a := fo)) (fun z => nomatch z)
      have e' : (upd H fo (.lst [])) b = some (.tup [.int c.1, .int c.2]) := e
      rw [upd_ne nb] at e'
      exact s' _ _ e'
    refine ⟨L, rfl, ⟨_, SqL.of upd_same⟩, for_list (K := K) (a := L) (xs := bs.map V.ref) (fun i σ H' => ∃ (v3 v4 v5 : Option V) (fs : List Addr), σ = [some (.ref d), some (.ref rw'), some (.ref fo), v3, v4, v5] ∧ Same H H' ∧
        H' L = some (.lst (bs.map V.ref)) ∧ H' fo = some (.lst (fs.map V.ref)) ∧ Paired (fun b e => HitAt H' b e) fs (hits G (rs.take i)))
      ⟨none, none, none, [], rfl, s2, upd_same, by rw [upd_ne nLf.symm]; exact upd_same, .nil⟩ (fun i σ H' _ ⟨_, _, _, _, _, _, hL, _⟩ => SqL.of hL) ?_ ?_⟩
    · rintro i x σ H1 hi ⟨v3, v4, v5, fs, rfl, sH, hL, hfo, hp⟩
      obtain ⟨b, hbi, rfl⟩ : ∃ b, bs[i]? = some b ∧ x = V.ref b := by
        rw [List.getElem?_map] at hi
        obtain ⟨b, e1, e2⟩ := Option.map_eq_some_iff.mp hi
        exact ⟨b, e1, e2.symm⟩
      obtain ⟨c, hci, hcb⟩ := paired_get (hbH H1 sH) hbi
      obtain ⟨e, hei, hec⟩ : ∃ e, rs[i]? = some e ∧ e.1 = c := by
        rw [List.getElem?_map] at hci
        exact Option.map_eq_some_iff.mp hci
      subst hec
      have hmem := List.mem_of_getElem? hei
      obtain ⟨hcell, r0, r1⟩ := okr.mem e hmem
      obtain ⟨kvs, hd, tb⟩ := ht.to sH
      have hrw1 := hrw.to sH
      -- table.get(cell, ..)
      refine ⟨_, rfl, d, rfl, .inr ⟨kvs, .inl hd⟩, _, rfl, (by show 2 ≤ sizeLine; decide), fun p1 n1 => ⟨(by show 2 ≤ sizeLine; decide), fun p2 n2 => ⟨(by show 2 ≤ sizeLine; decide), fun p3 n3 => ?_⟩⟩⟩
      have t1 := same_new (o := .tup [.int 0, .int 1]) n1
      have t2 := same_new (o := .tup [.int 1, .int 1]) n2
      have t3 := same_new (o := .tup [.ref p1, .ref p2]) n3
      have hdf : GnAt _ p3 dft := ⟨p1, p2, upd_same, t3 _ _ (t2 _ _ upd_same), t3 _ _ upd_same⟩
      have sB := (t1.trans t2).trans t3
      obtain ⟨g, eg, hg⟩ := (tb.to (kt sB)).getD e.1 hdf
      refine ⟨_, DGet.t (sB _ _ hd) (cell_key (hcb.to (kt sB))), ?_⟩
      rw [eg]
      refine ⟨_, rfl, _, rfl, rw', .int e.2, rfl, .inr ⟨_, ck e.1, b, .inl (sB _ _ hrw1), rfl, hcb.to (kt sB), (raws_get okr.asc hmem).symm⟩, ?_⟩
      refine ⟨g, G e.1, e.2, rfl, hg, hG _, r0, r1, fun qa H2 sC h2 => ?_⟩
      have sD := sB.trans sC
      -- number = min(1000, ..)
      have szc := chg_sz (hG e.1) r0 r1
      refine ⟨_, rfl, qa, _, _, _, rfl, rfl, SqT.of h2, rfl, _, rfl, qa, _, _, _, rfl, rfl, SqT.of h2, rfl, _, _, rfl, rfl, ⟨Int.ne_of_gt szc.pos, (by have h1 := szc.pos; have h2 := szc.low; omega)⟩, _, _, rfl, ?_⟩
      refine ⟨_, rfl, _, _, rfl, rfl, _, rfl, ?_⟩
      show if decide (1 ≤ num (G e.1) e.2) = true then _ else _
      have hs : hits G (rs.take (i + 1)) = hits G (rs.take i) ++ (if 1 ≤ num (G e.1) e.2 then [(e.1, num (G e.1) e.2)] else []) := by
        rw [take_one hei, hits_snoc]
      have sAll := sH.trans sD
      have hflen : fs.length ≤ 60 := by
        have h1 := Paired.length hp
        have h2 := hits_len G (rs.take i)
        have h3 := okr.len
        rw [List.length_take] at h2
        omega
      by_cases hn : 1 ≤ num (G e.1) e.2
      · rw [decide_eq_true hn]
        rw [if_pos hn] at hs
        refine iteT ⟨_, rfl, Or.inl ⟨rfl, _, SqL.of (sD _ _ hfo)⟩, ?_⟩
        refine ⟨_, rfl, _, rfl, (by show 1 ≤ sizeLine; decide), fun p4 n4 => ?_⟩
        have s4 := same_new (o := .tup [V.int (num (G e.1) e.2)]) n4
        have hb4 : ShAt _ b e.1 := (hcb.to (kt sD)).to (kt s4)
        refine ⟨b, p4, [.int e.1.1, .int e.1.2], [.int (num (G e.1) e.2)], rfl, rfl, SqT.of hb4, SqT.of upd_same, (by simp), (by show 3 ≤ sizeLine; decide), (fun z => by simp at z), fun _ p5 n5 => ?_⟩
        have s5 := same_new (o := .tup ([.int e.1.1, .int e.1.2] ++ [V.int (num (G e.1) e.2)])) n5
        have sF := s4.trans s5
        have hfo' := sF _ _ (sD _ _ hfo)
        refine ⟨fo, _, .ref p5, rfl, rfl, hfo', small1000 (by rw [List.length_map]; omega), ?_⟩
        refine ⟨_, _, _, fs ++ [p5], rfl, fun b o eb => ?_, ?_, ?_, ?_⟩
        · have nb : b ≠ fo := ne_of_none eb nfo
          rw [upd_ne nb]
          exact sF _ _ (sAll _ _ eb)
        · rw [upd_ne nLf]
          exact sF _ _ (sD _ _ hL)
        · rw [upd_same, List.map_append]
          rfl
        · rw [hs]
          have n5f : p5 ≠ fo := (ne_of_none (s4 _ _ (sD _ _ hfo)) n5).symm
          refine paired_app (Paired.mapP hp fun b e' hb' => ?_) ?_
          · have nb : b ≠ fo := ne_of hb' hfo (fun z => nomatch z)
            show upd _ fo _ b = _
            rw [upd_ne nb]
            exact sF _ _ (sD _ _ hb')
          · show upd _ fo _ p5 = _
            rw [upd_ne n5f]
            exact upd_same
      · rw [decide_eq_false hn]
        rw [if_neg hn, List.append_nil] at hs
        refine iteF ⟨_, _, _, fs, rfl, sAll, sD _ _ hL, sD _ _ hfo, ?_⟩
        rw [hs]
        exact Paired.mapP hp fun b e' hb' => hb'.to (kt sD)
    · rintro σ H1 ⟨v3, v4, v5, fs, rfl, sH, hL, hfo, hp⟩
      have hlen : (bs.map V.ref).length = rs.length := by
        have h1 := Paired.length hb
        rw [List.length_map] at h1
        rw [List.length_map, h1]
      rw [hlen, List.take_length] at hp
      refine ⟨_, rfl, fo, _, rfl, .inl ⟨SqL.of hfo, fun l nl => ?_⟩⟩
      have s3 := same_new (o := .tup (fs.map V.ref)) nl
      exact q l _ (sH.trans s3) ⟨fs, upd_same, Paired.mapP hp fun b e hb' => hb'.to (kt s3)⟩
theorem sc27 : FnScope ["catcher", "table", "raws", "cell"] ["catcher", "table", "raws"] (defScope (top 27)) := ⟨rfl, rfl, rfl, by decide +kernel, rfl, by decide +kernel, by decide +kernel⟩
theorem ok_charged (D : Df K mg "charged" (top 27) ["catcher", "table", "raws"]) (B : Bl mg) (c5 : C8.Cal P w K mg base 5 "look_catcher" spLookCatcher []) (c4 : C8.Cal P w K mg base 4 "look_table" spLookTable []) (c3 : C8.Cal P w K mg base 3 "is_cell" spIsCell []) (c2 : C8.Cal P w K mg base 2 "is_whole" spIsWhole [])
    (cC : C8.Cal P w K mg base 5 "charged_of" spChargedOf []) : C8.Cal P w K mg base 6 "charged" spCharged [] := by
  refine df_ok D sc27 (fun vs H Q E h => ?_) (fun f cdv A outer s H vs Q E hr h => ?_)
  · obtain ⟨x, y, _, _, _, _, _, rfl, _⟩ := h; rfl
  · obtain ⟨a, d, rw', l0, l1, G, rs, rfl, hc, okc, ht, hG, hrw, okr, q⟩ := h
    have hu := hu_of hr
    refine ⟨_, pss_cons (ps_expr (C8.pe_c c5 hr (by decide) (by rfl) (pa_cons (pv 0) pa_nil)))
      (pss_cons (ps_expr (C8.pe_c c4 hr (by decide) (by rfl) (pa_cons (pv 0) (pa_cons (pv 1) pa_nil))))
      (pss_cons (ps_if (PW.pt (pw_or (pt_not (pt_val (pe_callB call_isDic (by rfl) B.isinstance bi_isinstance (pa_cons (pv 2) (pa_cons (pe_bltn (v := .ty "dict") (by rfl) B.dict bi_dictT rfl) pa_nil)))))
        (pw_or1 (pt_cmpR op_gt (pe_callB call_len_dT (by rfl) B.len bi_len (pa_cons (pv 2) pa_nil)) pe_int (nomark _))))) pss_never pss_nil)
      (pss_cons (ps_lock (ps_for PassesOwn.never rfl (pi_keys (pv 2)) (pg_name (i := 3) sc27.nd rfl (.inl rfl))
        (pss_one (ps_if (PW.pt (pw_or (pt_not (pt_val (C8.pe_c c3 hr (by decide) (by rfl) (pa_cons (pv 0) (pa_cons (pv 3) pa_nil)))))
          (pw_or1 (pt_not (pt_val (C8.pe_c c2 hr (by decide) (by rfl) (pa_cons (pe_dget hu (pv 2) (pv 3) (fun _ _ => rfl)) (pa_cons pe_int (pa_cons pe_int pa_nil))))))))) pss_never pss_nil))))
      (pss_one (ps_ret (C8.pe_c cC hr (by decide) (by rfl) (pa_cons (pv 1) (pa_cons (pv 2) pa_nil)))))))), ?_⟩
    refine ⟨_, rfl, a, l0, l1, rfl, hc, okc, fun H1 s1 => ?_⟩
    refine ⟨_, rfl, _, rfl, a, d, l0, l1, G, rfl, hc.to (kt s1), ht.to s1, hG, fun H2 s2 => ?_⟩
    have sA := s1.trans s2
    have hr2 : H2 rw' = some (.dT (rs.map rawKv)) := hrw.to sA
    have hlen : ¬ (60 : Int) < (((rs.map rawKv).length : Nat) : Int) := by
      rw [List.length_map]
      have := okr.len
      omega
    refine ⟨_, rfl, rw', _, rfl, hr2, true, rfl, iteF ⟨_, rfl, rw', _, rfl, hr2, _, _, rfl, rfl, _, rfl, ?_⟩⟩
    rw [decide_eq_false hlen]
    refine iteF ⟨rw', _, hr2, trivial, fun od => ?_⟩
    have kt1 : Kt H2 (upd H2 rw' (.frz od (.dT (rs.map rawKv)))) := fun b xs e => by
      rw [upd_ne (ne_of e hr2 (fun z => nomatch z))]
      exact e
    refine ⟨_, rfl, rw', od, rfl, .inr ⟨_, upd_same, ?_⟩⟩
    refine for_it (walk_keysT (d := rw') (o := od) (kvs := rs.map rawKv)) (fun i σ H' => (∃ v, σ = [some (.ref a), some (.ref d), some (.ref rw'), v]) ∧ Same (upd H2 rw' (.frz od (.dT (rs.map rawKv)))) H') ⟨⟨none, rfl⟩, Same.refl _⟩ (fun i σ H' _ p => p.2 _ _ upd_same) ?_ ?_
    · rintro i x σ H3 H4 hi ⟨⟨v, rfl⟩, s3⟩ ⟨rfl, k, vv, u, e1, rfl, hu'⟩
      have m := List.mem_of_getElem? e1
      obtain ⟨e, he, ee⟩ := List.mem_map.mp m
      have e2 : ck e.1 = k := congrArg Prod.fst ee
      have e3 : V.int e.2 = vv := congrArg Prod.snd ee
      subst e2 e3
      obtain ⟨hcell, r0, r1⟩ := okr.mem e he
      have ktA : Kt H H4 := ((kt sA).trans kt1).trans (kt s3)
      refine ⟨_, rfl, _, rfl, a, u, l0, l1, e.1, rfl, hc.to ktA, hu', hcell, true, rfl, iteF ?_⟩
      refine ⟨_, rfl, _, rfl, rw', .int e.2, rfl, .inr ⟨_, ck e.1, u, .inr ⟨od, s3 _ _ upd_same⟩, rfl, hu', (raws_get okr.asc he).symm⟩, e.2, 0, 100000, rfl, r0, r1, true, rfl, iteF ?_⟩
      exact ⟨⟨_, rfl⟩, s3⟩
    · rintro σ H3 ⟨⟨v, rfl⟩, s3⟩
      refine ⟨s3 _ _ upd_same, ?_⟩
      have sB : Same H2 (upd H3 rw' (.dT (rs.map rawKv))) := fun b o e => by
        by_cases hb : b = rw'
        · subst hb
          rw [upd_same, ← e, hr2]
        · rw [upd_ne hb]
          exact s3 _ _ (by rw [upd_ne hb]; exact e)
      have sC := sA.trans sB
      exact ⟨_, rfl, _, rfl, d, rw', l0, l1, G, rs, rfl, okc, ht.to sC, hG, hrw.to sC, okr, fun qa H' s' h' => q qa H' (sC.trans s') h'⟩
end
end K14
/-! event_fits, is_event -/
namespace K14
open L2 PySem PySem.Spec PyProof.Rows
theorem ltT {X : Cx} {K : PySem.W.Frag} (hu : X.A.units < cLine) (e : X.K = K := by rfl) : OpR X (compareOp .Lt) (rLtT K) := by
  subst e
  exact op_ltT hu
theorem lenS {X : Cx} {K : PySem.W.Frag} (e : X.K = K := by rfl) : CallR X (.builtin "len") (fun xs H Q => ∃ p ys, xs = [.ref p] ∧ (SqL K H p ys ∨ SqT K H p ys) ∧ Q (.int ys.length) H) := by
  subst e
  exact call_len_seq
structure EvOk (l0 l1 : Pl) (es : List (Cl × Int)) : Prop where
  len : es.length ≤ 60
  asc : Asc es
  mem : ∀ e ∈ es, CellOk l0 l1 e.1 ∧ 1 ≤ e.2 ∧ e.2 ≤ 1000
theorem hits_ok {l0 l1 : Pl} {rs : List (Cl × Int)} {G : Cl → Gn} (h : RawsOk l0 l1 rs) : EvOk l0 l1 (hits G rs) :=
  ⟨Nat.le_trans (hits_len G rs) h.len, hits_asc h.asc, fun e he => by
    obtain ⟨r, hr, h1, h2, h3⟩ := mem_hits he
    exact ⟨(h.mem _ hr).1, h2, h3⟩⟩
def spFits : Sp := fun vs H Q _ => ∃ (a q : Addr) (l0 l1 : Pl) (es : List (Cl × Int)), vs = [.ref a, .ref q] ∧ CatAt H a l0 l1 ∧ EvAt H q es ∧ EvOk l0 l1 es ∧ ∀ H', Same H H' → Q (.bl true) H'
def spIsEvent : Sp := fun vs H Q _ => ∃ (a q : Addr) (l0 l1 : Pl) (es : List (Cl × Int)), vs = [.ref a, .ref q] ∧ CatAt H a l0 l1 ∧ CatOk l0 l1 ∧ EvAt H q es ∧ EvOk l0 l1 es ∧ ∀ H', Same H H' → Q (.bl true) H'
section
variable {K : PySem.W.Frag} {mg : Str → Option Value} {P : Program} {w : World} {base : Heap}
theorem cell_lt {a b : Cl} (h : cLt a b) : HT.lexLt (cInts a) (cInts b) = true := by
  show (if a.1 = b.1 then (if a.2 = b.2 then false else decide (a.2 < b.2)) else decide (a.1 < b.1)) = true
  unfold cLt at h
  by_cases e : a.1 = b.1
  · rw [if_pos e, if_neg (by omega)]
    exact decide_eq_true (by omega)
  · rw [if_neg e]
    exact decide_eq_true (by omega)
theorem sc32 : FnScope ["catcher", "thing", "one", "k"] ["catcher", "thing"] (defScope (top 32)) := ⟨rfl, rfl, rfl, by decide +kernel, rfl, by decide +kernel, by decide +kernel⟩
theorem ok_fits (D : Df K mg "event_fits" (top 32) ["catcher", "thing"]) (B : Bl mg) (mh : ∃ t, mg "MOST_HITS" = some (.int 60 t)) (c3 : C8.Cal P w K mg base 3 "is_cell" spIsCell []) (c2 : C8.Cal P w K mg base 2 "is_whole" spIsWhole []) : C8.Cal P w K mg base 4 "event_fits" spFits [] := by
  obtain ⟨tk, mh⟩ := mh
  refine df_ok D sc32 (fun vs H Q E h => ?_) (fun f cdv A outer s H vs Q E hr h => ?_)
  · obtain ⟨x, y, _, _, _, rfl, _⟩ := h; rfl
  · obtain ⟨a, qe, l0, l1, es, rfl, hc, ⟨bs, hq, hb⟩, ok, q⟩ := h
    have hu0 := hr.units0
    have hlen : bs.length = es.length := Paired.length hb
    refine ⟨_, pss_cons (ps_if (PW.pt (pw_or (pt_not (pt_val (pe_callB call_isTup (by rfl) B.isinstance bi_isinstance (pa_cons (pv 1) (pa_cons (pe_bltn (v := .ty "tuple") (by rfl) B.tuple bi_tupleT rfl) pa_nil)))))
        (pw_or1 (pt_cmpR op_gt (pe_callB call_len_seq (by rfl) B.len bi_len (pa_cons (pv 1) pa_nil)) (pe_glob (v := .int 60) (by rfl) mh ⟨_, rfl⟩) (nomark _))))) (pss_one (ps_ret pe_bl)) pss_nil)
      (pss_cons (ps_for PassesOwn.never rfl (pi_tup (pv 1)) (pg_name (i := 2) sc32.nd rfl (.inl rfl))
        (pss_cons (ps_if (PW.pt (pw_or (pt_not (pt_val (pe_callB call_isTup (by rfl) B.isinstance bi_isinstance (pa_cons (pv 2) (pa_cons (pe_bltn (v := .ty "tuple") (by rfl) B.tuple bi_tupleT rfl) pa_nil)))))
          (pw_or (pt_cmpR op_ne (pe_callB call_len_seq (by rfl) B.len bi_len (pa_cons (pv 2) pa_nil)) pe_int (nomark _))
          (pw_or1 (pt_not (pt_val (C8.pe_c c3 hr (by decide) (by rfl) (pa_cons (pv 0) (pa_cons (pe_slice sl_tup (pv 2) po_none (po_some pe_int)) pa_nil))))))))) (pss_one (ps_ret pe_bl)) pss_nil)
        (pss_one (ps_if (pt_not (pt_val (C8.pe_c c2 hr (by decide) (by rfl) (pa_cons (pe_ix ix_tup (pv 2) pe_int (fun _ _ => rfl)) (pa_cons pe_int (pa_cons pe_int pa_nil)))))) (pss_one (ps_ret pe_bl)) pss_nil))))
      (pss_one (ps_ret (pe_callB (call_allT rfl) (by rfl) B.all bi_all (pa_cons
          (pe_lc (own := [("k", 3)]) (g := gName 3) (tt := tYes) (by rfl) sc32.nd (pi_range1 (by rfl) B.range (pa_cons (pe_op op_sub (pe_callB call_len_seq (by rfl) B.len bi_len (pa_cons (pv 1) pa_nil)) pe_int) pa_nil)) (blkOk_by (own := [("k", 3)]) (N := ["catcher", "thing", "one", "k"]) (sc := defScope (top 32)) (by decide +kernel))
            (fun _ _ _ _ _ => pg_name (i := 3) sc32.nd rfl (Or.inl rfl)) (fun _ _ _ _ _ => pts_nil)
            (fun _ _ _ _ _ => pe_cmpR (ltT (K := K) hu0) (pe_slice (slT (K := K)) (pe_ix (ixT (K := K)) (pv 1) (pv 3) (fun _ _ => rfl)) po_none (po_some pe_int))
              (pe_slice (slT (K := K)) (pe_ix (ixT (K := K)) (pv 1) (pe_op op_add (pv 3) pe_int) (fun _ _ => rfl)) po_none (po_some pe_int)) (nomark _))) pa_nil))))), ?_⟩
    have h60 : ¬ (60 : Int) < (((bs.map V.ref).length : Nat) : Int) := by
      rw [List.length_map]
      have := ok.len
      omega
    refine ⟨_, rfl, qe, _, rfl, hq, true, rfl, iteF ⟨_, rfl, qe, _, rfl, .inr (SqT.of hq), _, _, rfl, rfl, _, rfl, ?_⟩⟩
    rw [decide_eq_false h60]
    refine iteF ⟨_, rfl, qe, rfl, ⟨_, SqT.of hq⟩, for_tup (K := K) (a := qe) (xs := bs.map V.ref) (fun i σ H' => (∃ v, σ = [some (.ref a), some (.ref qe), v, none]) ∧ Same H H') ⟨⟨none, rfl⟩, Same.refl _⟩ (fun i σ H' _ p => SqT.of (p.2 _ _ hq)) ?_ ?_⟩
    · rintro i x σ H1 hi ⟨⟨v, rfl⟩, s1⟩
      obtain ⟨b, hbi, rfl⟩ : ∃ b, bs[i]? = some b ∧ x = V.ref b := by
        rw [List.getElem?_map] at hi
        obtain ⟨b, e1, e2⟩ := Option.map_eq_some_iff.mp hi
        exact ⟨b, e1, e2.symm⟩
      obtain ⟨e, hei, heb⟩ := paired_get hb hbi
      obtain ⟨hcell, n0, n1⟩ := ok.mem e (List.mem_of_getElem? hei)
      have hb1 : H1 b = some (.tup [.int e.1.1, .int e.1.2, .int e.2]) := s1 _ _ heb
      refine ⟨_, rfl, b, _, rfl, hb1, true, rfl, iteF ⟨_, rfl, b, _, rfl, .inr (SqT.of hb1), rfl, _, rfl, iteNS rfl ?_⟩⟩
      refine ⟨_, rfl, _, rfl, 2, rfl, b, _, rfl, SqT.of hb1, (by show ¬ (HT.sIx 3 0 none = 0 ∧ HT.sIx 3 3 (some 2) = 3); decide), fun p np => ?_⟩
      have s2 := same_new (o := .tup [V.int e.1.1, .int e.1.2]) np
      have sA := s1.trans s2
      refine ⟨a, p, l0, l1, e.1, rfl, hc.to (kt sA), upd_same, hcell, true, rfl, iteF ?_⟩
      refine ⟨_, rfl, b, _, _, _, rfl, rfl, SqT.of (s2 _ _ hb1), rfl, e.2, 1, 1000, rfl, n0, n1, true, rfl, iteF ?_⟩
      exact ⟨⟨_, rfl⟩, sA⟩
    · rintro σ H1 ⟨⟨v, rfl⟩, s1⟩
      have hq1 := s1 _ _ hq
      have hb60 : bs.length ≤ 60 := by have := ok.len; omega
      refine ⟨_, rfl, qe, _, rfl, .inr (SqT.of hq1), _, _, rfl, rfl, _, rfl, (by rw [List.length_map]; omega), (by rw [List.length_map]; omega), fun D nD => ?_⟩
      refine lc_all (walk_range (lo := 0) (n := ((((bs.map V.ref).length : Nat) : Int) - 1).toNat)) (by rw [List.length_map]; omega) (fun _ _ _ _ y => y.1) nD (fun _ _ => trivial) (fun i x H2 Qk hi s2 y hk => ?_) (fun H2 s2 hD2 => ?_) mg_name
      · refine ⟨rfl, ?_⟩
        have y2 : x = .int (0 + ((i : Nat) : Int)) := y.2
        subst y2
        rw [List.length_map] at hi
        have sA := s1.trans s2
        have i1 : i < bs.length := by omega
        have i2 : i + 1 < bs.length := by omega
        obtain ⟨e1, he1, hb1⟩ := paired_get hb (List.getElem?_eq_getElem i1)
        obtain ⟨e2, he2, hb2⟩ := paired_get hb (List.getElem?_eq_getElem i2)
        have g1 : (bs.map V.ref)[i]? = some (.ref bs[i]) := by rw [List.getElem?_map, List.getElem?_eq_getElem i1]; rfl
        have g2 : (bs.map V.ref)[i + 1]? = some (.ref bs[i + 1]) := by rw [List.getElem?_map, List.getElem?_eq_getElem i2]; rfl
        have hx1 : H2 bs[i] = some (.tup [.int e1.1.1, .int e1.1.2, .int e1.2]) := sA _ _ hb1
        have hx2 : H2 bs[i + 1] = some (.tup [.int e2.1.1, .int e2.1.2, .int e2.2]) := sA _ _ hb2
        refine ⟨_, rfl, _, rfl, qe, _, _, _, rfl, rfl, SqT.of (sA _ _ hq), at_of (by omega) g1, 2, rfl, _, _, rfl, SqT.of hx1, (by show ¬ (HT.sIx 3 0 none = 0 ∧ HT.sIx 3 3 (some 2) = 3); decide), fun p1 n1 => ?_⟩
        have s3 := same_new (o := .tup [V.int e1.1.1, .int e1.1.2]) n1
        refine ⟨_, rfl, _, rfl, _, _, rfl, rfl, qe, _, _, _, rfl, rfl, SqT.of (s3 _ _ (sA _ _ hq)), at_of (j := i + 1) (by omega) g2, 2, rfl, _, _, rfl, SqT.of (s3 _ _ hx2), (by show ¬ (HT.sIx 3 0 none = 0 ∧ HT.sIx 3 3 (some 2) = 3); decide), fun p2 n2 => ?_⟩
        have s4 := same_new (o := .tup [V.int e2.1.1, .int e2.1.2]) n2
        refine ⟨p1, p2, cInts e1.1, cInts e2.1, rfl, rfl, SqT.of (s4 _ _ upd_same), SqT.of upd_same, ?_⟩
        rw [cell_lt (asc_get ok.asc he1 he2)]
        exact hk _ (s3.trans s4)
      · exact ⟨D, _, rfl, hD2, q H2 (s1.trans s2)⟩
theorem sc31 : FnScope ["catcher", "thing"] ["catcher", "thing"] (defScope (top 31)) := ⟨rfl, rfl, rfl, by decide +kernel, rfl, by decide +kernel, by decide +kernel⟩
theorem ok_is_event (D : Df K mg "is_event" (top 31) ["catcher", "thing"]) (c5 : C8.Cal P w K mg base 5 "look_catcher" spLookCatcher []) (cF : C8.Cal P w K mg base 4 "event_fits" spFits []) : C8.Cal P w K mg base 6 "is_event" spIsEvent [] := by
  refine df_ok D sc31 (fun vs H Q E h => ?_) (fun f cdv A outer s H vs Q E hr h => ?_)
  · obtain ⟨x, y, _, _, _, rfl, _⟩ := h; rfl
  · obtain ⟨a, qe, l0, l1, es, rfl, hc, okc, hq, ok, q⟩ := h
    refine ⟨_, pss_cons (ps_expr (C8.pe_c c5 hr (by decide) (by rfl) (pa_cons (pv 0) pa_nil))) (pss_one (ps_ret (C8.pe_c cF hr (by decide) (by rfl) (pa_cons (pv 0) (pa_cons (pv 1) pa_nil))))), ?_⟩
    refine ⟨_, rfl, a, l0, l1, rfl, hc, okc, fun H1 s1 => ?_⟩
    exact ⟨_, rfl, _, rfl, a, qe, l0, l1, es, rfl, hc.to (kt s1), hq.to (kt s1), ok, fun H2 s2 => q H2 (s1.trans s2)⟩
end
end K14
/-! the law's own helpers: its store of numbers, draws, picks -/
namespace K14
open L2 PySem PySem.Spec PyProof.Rows
/-! ### data that is compared -/
def shD (q : Int × Int) : PyData := .tuple [.int q.1, .int q.2]
theorem shD_shaped (q : Int × Int) : SeqAt.shaped (shD q) = true := by rfl
theorem shD_dp {K : PySem.W.Frag} {H : Hp} {p : Addr} {q : Int × Int} (h : ShAt H p q) : Dp K H (.ref p) (shD q) := .tup (SqT.of h) (.cons (.int _) (.cons (.int _) .nil))
def hitD (e : Cl × Int) : PyData := .tuple [.int e.1.1, .int e.1.2, .int e.2]
def evD (es : List (Cl × Int)) : PyData := .tuple (es.map hitD)
theorem hit_dp {K : PySem.W.Frag} {H : Hp} {p : Addr} {e : Cl × Int} (h : HitAt H p e) : Dp K H (.ref p) (hitD e) := .tup (SqT.of h) (.cons (.int _) (.cons (.int _) (.cons (.int _) .nil)))
theorem hits_dp {K : PySem.W.Frag} {H : Hp} : ∀ {bs : List Addr} {es : List (Cl × Int)}, Paired (fun b e => HitAt H b e) bs es → DpAll K H (bs.map V.ref) (es.map hitD)
  | _, _, .nil => .nil
  | _, _, .cons h t => .cons (hit_dp h) (hits_dp t)
theorem ev_dp {K : PySem.W.Frag} {H : Hp} {q : Addr} {es : List (Cl × Int)} (h : EvAt H q es) : Dp K H (.ref q) (evD es) := by
  obtain ⟨bs, h1, h2⟩ := h
  exact .tup (SqT.of h1) (hits_dp h2)
theorem hits_lay : ∀ es : List (Cl × Int), PyData.canLayAll0 (es.map hitD) = true
  | [] => rfl
  | e :: es => by
    rw [List.map_cons, PyData.canLayAll0, hits_lay es]
    rfl
theorem hits_depth : ∀ es : List (Cl × Int), PyData.depthAll (es.map hitD) ≤ 1
  | [] => Nat.zero_le _
  | e :: es => by
    rw [List.map_cons, PyData.depthAll]
    have h1 := hits_depth es
    have h2 : (hitD e).depth = 1 := rfl
    omega
theorem evD_lay (es : List (Cl × Int)) : (evD es).canLay0 = true := by
  unfold evD
  rw [PyData.canLay0]
  exact hits_lay es
theorem evD_shaped (es : List (Cl × Int)) : SeqAt.shaped (evD es) = true := by
  unfold SeqAt.shaped
  rw [evD_lay es]
  have h1 : (evD es).depth ≤ 64 := by
    unfold evD
    rw [PyData.depth]
    have := hits_depth es
    omega
  rw [decide_eq_true h1]
  rfl
theorem eqv_self {d : PyData} (h : SeqAt.shaped d = true) : PyData.eqv d d = true := SeqAt.eqv_refl d (SeqAt.canLay_of_shaped h)
end K14
/-! _law_town, _law_draw, _law_pick, _law_share, _law_any_share, _law_catcher -/
namespace K14
open L2 PySem PySem.Spec PyProof.Rows
theorem bi_listT : bootBuiltins "list" = some (.type "list") := by decide +kernel
theorem bi_max : bootBuiltins "max" = some (.builtin "max") := by decide +kernel
theorem ints_dp {K : PySem.W.Frag} {H : Hp} : ∀ ns : List Int, DpAll K H (ns.map V.int) (ns.map PyData.int)
  | [] => .nil
  | n :: ns => .cons (.int n) (ints_dp ns)
theorem Town.tn {T N : Addr} {H : Hp} (t : Town H T N) : T ≠ N := by
  obtain ⟨i, ns, h1, h2, h3, _⟩ := t
  refine ne_of h1 h2 fun z => ?_
  injection z with z
  cases ns with
  | nil => exact h3 rfl
  | cons n ns =>
    rw [List.map_cons] at z
    injection z with z _
    exact nomatch z
theorem Town.fresh {T N b : Addr} {H : Hp} (t : Town H T N) (h : H b = none) : b ≠ T ∧ b ≠ N := by
  obtain ⟨i, ns, h1, h2, _⟩ := t
  exact ⟨(ne_of_none h1 h).symm, (ne_of_none h2 h).symm⟩
def spTown (K : PySem.W.Frag) : Sp := fun vs H Q _ => ∃ (a : Addr) (ns : List Int), vs = [.ref a] ∧ SqL K H a (ns.map V.int) ∧ ns.length ≤ 63 ∧ ∀ T N H', Same H H' → H T = none → H N = none → Town H' T N → Q (.ref T) H'
def spDraw : Sp := fun vs H Q _ => ∃ (T N : Addr) (n : Int), vs = [.ref T, .int n] ∧ Town H T N ∧ 0 < n ∧ n < 1073741824 ∧ ∀ v H', 0 ≤ v → v < n → But T N H H' → Town H' T N → Q (.int v) H'
def spPick : Sp := fun vs H Q _ => ∃ (T N l : Addr) (ns : List Int), vs = [.ref T, .ref l] ∧ Town H T N ∧ H l = some (.lst (ns.map V.int)) ∧ l ≠ T ∧ l ≠ N ∧ ns ≠ [] ∧ ns.length ≤ 100 ∧ ∀ v H', v ∈ ns → But T N H H' → Town H' T N → Q (.int v) H'
def spAny : Sp := fun vs H Q _ => ∃ (T N : Addr) (n : Int), vs = [.ref T, .int n] ∧ Town H T N ∧ 0 ≤ n ∧ n ≤ 20000 ∧ ∀ p (x : Int × Int) H', ShOk x → (x.1.natAbs : Int) ≤ n → x.2 ≤ 3 → But T N H H' → Town H' T N → ShAt H' p x → Q (.ref p) H'
def spPlanes : Sp := fun vs H Q _ => ∃ (T N : Addr), vs = [.ref T, .int 2] ∧ Town H T N ∧ ∀ a l0 l1 H', CatOk l0 l1 → But T N H H' → Town H' T N → CatAt H' a l0 l1 → Q (.ref a) H'
section
variable {K : PySem.W.Frag} {mg : Str → Option Value} {P : Program} {w : World} {base : Heap}
theorem sc34 : FnScope ["_law_script"] ["_law_script"] (defScope (top 34)) := ⟨rfl, rfl, rfl, by decide +kernel, rfl, by decide +kernel, by decide +kernel⟩
theorem ok_town (D : Df K mg "_law_town" (top 34) ["_law_script"]) (B : Bl mg) : C8.Cal P w K mg base 1 "_law_town" (spTown K) [] := by
  refine df_ok D sc34 (fun vs H Q E h => ?_) (fun f cdv A outer s H vs Q E hr h => ?_)
  · obtain ⟨x, y, rfl, _⟩ := h; rfl
  · obtain ⟨a, ns, rfl, hS, hl, q⟩ := h
    refine ⟨_, pss_one (ps_ret (pe_lst (pa_cons (pe_ifExp (pt_cmpR (op_neD hr.units) (pv 0) (pe_lst pa_nil) (nomark _)) (pe_callTy call_list_of (by rfl) B.list bi_listT (pa_cons (pv 0) pa_nil)) (pe_lst (pa_cons pe_int pa_nil))) (pa_cons pe_int pa_nil)))), ?_⟩
    refine ⟨_, rfl, Nat.zero_le _, fun e ne => ?_⟩
    have s1 := same_new (o := .lst []) ne
    refine ⟨_, _, .lst (s1.seq hS) (ints_dp ns), .lst (SqL.of upd_same) .nil, PySem.W.ke_shaped_ints ns, rfl, ?_⟩
    cases ns with
    | nil =>
      refine ⟨false, rfl, iteF ⟨(by show 1 ≤ sizeLine; decide), fun N nN => ⟨(by show 2 ≤ sizeLine; decide), fun T nT => ?_⟩⟩⟩
      have s2 := same_new (o := .lst [V.int 0]) nN
      have s3 := same_new (o := .lst [V.ref N, .int 0]) nT
      refine q T N _ ((s1.trans s2).trans s3) ((s1.trans s2).free nT) (s1.free nN) ⟨0, [0], upd_same, s3 _ _ upd_same, by simp, by decide⟩
    | cons n ns =>
      refine ⟨true, rfl, iteT ⟨_, rfl, a, _, rfl, .inl (s1.seq hS), fun N nN => ⟨(by show 2 ≤ sizeLine; decide), fun T nT => ?_⟩⟩⟩
      have s2 := same_new (o := .lst ((n :: ns).map V.int)) nN
      have s3 := same_new (o := .lst [V.ref N, .int 0]) nT
      refine q T N _ ((s1.trans s2).trans s3) ((s1.trans s2).free nT) (s1.free nN) ⟨0, n :: ns, upd_same, s3 _ _ upd_same, by simp, hl⟩
theorem sc35 : FnScope ["_law_town_here", "_law_count", "_law_numbers", "_law_at", "_law_cell", "_law_mixed"] ["_law_town_here", "_law_count"] (defScope (top 35)) := ⟨rfl, rfl, rfl, by decide +kernel, rfl, by decide +kernel, by decide +kernel⟩
theorem set1 (x y z : V) : [x, y].set 1 z = [x, z] := rfl
theorem map_set {ns : List Int} {j : Nat} {v : Int} : (ns.map V.int).set j (.int v) = (ns.set j v).map V.int := by rw [List.map_set]
theorem mod_small (x : Int) : (x % 4294967291).natAbs < 2 ^ 64 := by omega
theorem ok_draw (D : Df K mg "_law_draw" (top 35) ["_law_town_here", "_law_count"]) (B : Bl mg) : C8.Cal P w K mg base 1 "_law_draw" spDraw [] := by
  refine df_ok D sc35 (fun vs H Q E h => ?_) (fun f cdv A outer s H vs Q E hr h => ?_)
  · obtain ⟨x, y, _, rfl, _⟩ := h; rfl
  · obtain ⟨T, N, n, rfl, ht, n0, n1, q⟩ := h
    have hTN := ht.tn
    obtain ⟨t, ns, hT, hN, hne, h63⟩ := id ht
    refine ⟨_, pss_cons (ps_set (i := 2) sc35.nd rfl (.inl rfl) (pe_ix ix_list (pv 0) pe_int (fun _ _ => rfl)))
      (pss_cons (ps_asg (pe_op op_add (pe_ix ix_list (pv 0) pe_int (fun _ _ => rfl)) pe_int) (pg_sub (pv 0) pe_int set_list))
      (pss_cons (ps_set (i := 3) sc35.nd rfl (.inl rfl) (pe_op op_mod (pe_ix ix_list (pv 0) pe_int (fun _ _ => rfl)) (pe_callB call_len_seq (by rfl) B.len bi_len (pa_cons (pv 2) pa_nil))))
      (pss_cons (ps_set (i := 4) sc35.nd rfl (.inl rfl) (pe_ix ix_list (pv 2) (pv 3) (fun _ _ => rfl)))
      (pss_cons (ps_if (pt_cmpR op_ge (pv 4) pe_int (nomark _)) (pss_cons (ps_asg (pe_op op_fdiv (pv 4) (pv 1)) (pg_sub (pv 2) (pv 3) set_list)) (pss_one (ps_ret (pe_op op_mod (pv 4) (pv 1))))) pss_nil)
      (pss_cons (ps_set (i := 5) sc35.nd rfl (.inl rfl) (pe_op op_mod (pe_op op_add (pv 4) (pe_op op_mul pe_int (pe_ix ix_list (pv 0) pe_int (fun _ _ => rfl)))) pe_int))
      (pss_cons (ps_set (i := 5) sc35.nd rfl (.inl rfl) (pe_op op_mod (pe_op op_pow (pv 5) pe_int) pe_int))
      (pss_one (ps_ret (pe_op op_mod (pe_op op_fdiv (pe_op op_mod (pe_op op_add (pe_op op_mul (pe_op op_fdiv (pv 5) pe_int) pe_int) (pv 5)) pe_int) pe_int) (pv 1)))))))))), ?_⟩
    -- the numbers; the turn
    refine ⟨_, rfl, T, _, _, _, rfl, rfl, SqL.of hT, rfl, ?_⟩
    refine ⟨_, rfl, T, _, _, _, rfl, rfl, SqL.of hT, rfl, _, _, rfl, rfl, _, rfl, T, _, _, 1, rfl, rfl, hT, rfl, ?_⟩
    have hT1 : upd H T (.lst ([V.ref N, .int t].set 1 (.int (t + 1)))) T = some (.lst [.ref N, .int (t + 1)]) := upd_same
    have hN1 : upd H T (.lst ([V.ref N, .int t].set 1 (.int (t + 1)))) N = some (.lst (ns.map V.int)) := by
      rw [upd_ne hTN.symm]
      exact hN
    have b1 : But T N H (upd H T (.lst ([V.ref N, .int t].set 1 (.int (t + 1))))) := fun b o e h1 _ => by
      rw [upd_ne h1]
      exact e
    generalize upd H T (.lst ([V.ref N, .int t].set 1 (.int (t + 1)))) = H1 at hT1 hN1 b1
    have hlen : 0 < ns.length := List.length_pos_iff.mpr hne
    have hl0 : (0 : Int) < (((ns.map V.int).length : Nat) : Int) := by rw [List.length_map]; omega
    refine ⟨_, rfl, T, _, _, _, rfl, rfl, SqL.of hT1, rfl, _, rfl, N, _, rfl, .inl (SqL.of hN1), _, _, rfl, rfl, hl0, ?_⟩
    have m0 := Int.emod_nonneg (t + 1) (Int.ne_of_gt hl0)
    have m1 := Int.emod_lt_of_pos (t + 1) hl0
    obtain ⟨j, ej⟩ : ∃ j : Nat, (t + 1) % (((ns.map V.int).length : Nat) : Int) = (j : Int) := ⟨((t + 1) % (((ns.map V.int).length : Nat) : Int)).toNat, (Int.toNat_of_nonneg m0).symm⟩
    have hj : j < ns.length := by
      rw [ej, List.length_map] at m1
      omega
    have g1 : (ns.map V.int)[j]? = some (.int ns[j]) := by rw [List.getElem?_map, List.getElem?_eq_getElem hj]; rfl
    refine ⟨_, rfl, _, rfl, N, _, _, _, rfl, rfl, SqL.of hN1, at_of ej g1, ?_⟩
    refine ⟨_, rfl, _, _, rfl, rfl, _, rfl, ?_⟩
    refine ite2 (fun _ => ?_) (fun _ => ?_)
    · -- a great cell
      have hix : ixN (ns.map V.int).length ((t + 1) % (((ns.map V.int).length : Nat) : Int)) = some j := by
        rw [ej]
        unfold ixN
        rw [if_pos (by omega), if_pos (by rw [List.length_map]; omega)]
        rfl
      refine ⟨_, rfl, _, rfl, _, _, rfl, rfl, ⟨n0, n1⟩, _, rfl, _, rfl, N, _, _, j, rfl, rfl, hN1, hix, ?_⟩
      refine ⟨_, rfl, _, rfl, _, _, rfl, rfl, n0, ?_⟩
      refine q _ _ (Int.emod_nonneg _ (Int.ne_of_gt n0)) (Int.emod_lt_of_pos _ n0) (fun b o e h1 h2 => ?_) ⟨t + 1, ns.set j (ns[j] / n), ?_, ?_, ?_, ?_⟩
      · rw [upd_ne h2]
        exact b1 b o e h1 h2
      · rw [upd_ne hTN]
        exact hT1
      · rw [upd_same, map_set]
      · intro z
        rw [List.set_eq_nil_iff] at z
        exact hne z
      · rw [List.length_set]
        exact h63
    · -- a small one
      refine ⟨_, rfl, _, rfl, T, _, _, _, rfl, rfl, SqL.of hT1, rfl, _, _, rfl, rfl, .inl ⟨by decide, by decide⟩, _, _, rfl, rfl, _, _, rfl, rfl, (by show (0 : Int) < 4294967291; decide), ?_⟩
      refine ⟨_, rfl, _, _, rfl, rfl, ⟨by decide, by decide, mod_small _⟩, _, _, rfl, rfl, (by show (0 : Int) < 4294967279; decide), ?_⟩
      refine ⟨_, rfl, _, _, rfl, rfl, ⟨by decide, by decide⟩, _, _, rfl, rfl, .inr ⟨by decide, by decide⟩, _, rfl, _, _, rfl, rfl, _, _, rfl, rfl, (by show (0 : Int) < 4294967231; decide), _, _, rfl, rfl, ⟨by decide, by decide⟩, _, rfl, _, _, rfl, rfl, n0, ?_⟩
      exact q _ _ (Int.emod_nonneg _ (Int.ne_of_gt n0)) (Int.emod_lt_of_pos _ n0) b1 ⟨t + 1, ns, hT1, hN1, hne, h63⟩
theorem sc36 : FnScope ["_law_town_here", "_law_some"] ["_law_town_here", "_law_some"] (defScope (top 36)) := ⟨rfl, rfl, rfl, by decide +kernel, rfl, by decide +kernel, by decide +kernel⟩
theorem ok_pick (D : Df K mg "_law_pick" (top 36) ["_law_town_here", "_law_some"]) (B : Bl mg) (cD : C8.Cal P w K mg base 1 "_law_draw" spDraw []) : C8.Cal P w K mg base 2 "_law_pick" spPick [] := by
  refine df_ok D sc36 (fun vs H Q E h => ?_) (fun f cdv A outer s H vs Q E hr h => ?_)
  · obtain ⟨x, y, _, _, rfl, _⟩ := h; rfl
  · obtain ⟨T, N, l, ns, rfl, ht, hl, lT, lN, hne, h100, q⟩ := h
    refine ⟨_, pss_one (ps_ret (pe_ix ix_list (pv 1) (C8.pe_c cD hr (by decide) (by rfl) (pa_cons (pv 0) (pa_cons (pe_callB call_len_seq (by rfl) B.len bi_len (pa_cons (pv 1) pa_nil)) pa_nil))) (fun _ _ => rfl))), ?_⟩
    have hlen : 0 < ns.length := List.length_pos_iff.mpr hne
    refine ⟨_, rfl, _, rfl, _, rfl, l, _, rfl, .inl (SqL.of hl), T, N, _, rfl, ht, (by rw [List.length_map]; omega), (by rw [List.length_map]; omega), fun v H' v0 v1 b t' => ?_⟩
    rw [List.length_map] at v1
    obtain ⟨j, rfl⟩ : ∃ j : Nat, v = (j : Int) := ⟨v.toNat, by omega⟩
    have hj : j < ns.length := by omega
    have g1 : (ns.map V.int)[j]? = some (.int ns[j]) := by rw [List.getElem?_map, List.getElem?_eq_getElem hj]; rfl
    exact ⟨l, _, _, _, rfl, rfl, SqL.of (b _ _ hl lT lN), atI_nat g1, q _ _ (List.getElem_mem hj) b t'⟩
theorem sc37 : FnScope ["_law_top", "_law_low", "_law_one", "_law_two"] ["_law_top", "_law_low"] (defScope (top 37)) := ⟨rfl, rfl, rfl, by decide +kernel, rfl, by decide +kernel, by decide +kernel⟩
theorem max_eq (i : Int) : (if 0 - i > i then 0 - i else i) = ((i.natAbs : Nat) : Int) := by split <;> omega
theorem ok_lshare (D : Df K mg "_law_share" (top 37) ["_law_top", "_law_low"]) (B : Bl mg) : C8.Cal P w K mg base 2 "_law_share" spShare [] := by
  refine df_ok D sc37 (fun vs H Q E h => ?_) (fun f cdv A outer s H vs Q E hr h => ?_)
  · obtain ⟨x, y, rfl, _⟩ := h; rfl
  · obtain ⟨a, b, rfl, hb, hs, q⟩ := h
    refine ⟨_, pss_cons (ps_par (i := 2) (j := 3) (by rfl) sc37.nd rfl rfl (by decide) rfl rfl (pa_cons (pe_callB (call_max2 rfl) (by rfl) B.max bi_max (pa_cons (pv 0) (pa_cons (pe_op op_sub pe_int (pv 0)) pa_nil)))
          (pa_cons (pe_callB (call_max2 rfl) (by rfl) B.max bi_max (pa_cons (pv 1) (pa_cons (pe_op op_sub pe_int (pv 1)) pa_nil))) pa_nil)) (by rfl))
      (pss_cons (ps_while PassesOwn.never (pt_cmpR op_ne (pv 3) pe_int (nomark _))
        (pss_one (ps_par (i := 2) (j := 3) (by rfl) sc37.nd rfl rfl (by decide) rfl rfl (pa_cons (pv 3) (pa_cons (pe_op op_mod (pv 2) (pv 3)) pa_nil)) (by rfl))))
      (pss_cons (ps_set (i := 2) sc37.nd rfl (.inl rfl) (pe_ifExp (pt_cmpR op_gt (pv 1) pe_int (nomark _)) (pv 2) (pe_op op_sub pe_int (pv 2))))
      (pss_one (ps_ret (pe_tup (pa_cons (pe_op op_fdivN (pv 0) (pv 2)) (pa_cons (pe_op op_fdivN (pv 1) (pv 2)) pa_nil))))))), ?_⟩
    refine ⟨_, rfl, _, rfl, _, _, rfl, rfl, _, _, rfl, _, rfl, _, rfl, _, _, rfl, rfl, _, _, rfl, _, _, rfl, ?_⟩
    refine ⟨fun m σ H' => H' = H ∧ ∃ x y : Nat, σ = [some (.int a), some (.int b), some (.int x), some (.int y)] ∧ m = y ∧ Nat.gcd x y = Int.gcd a b, ⟨b.natAbs, rfl, a.natAbs, b.natAbs, ?_, rfl, rfl⟩, ?_⟩
    · rw [max_eq, max_eq]; rfl
    · rintro m σ H' ⟨rfl, x, y, rfl, rfl, hg⟩
      refine ⟨_, rfl, rfl, _, rfl, ?_⟩
      by_cases hy : m = 0
      · subst hy
        have e : (!decide (V.int ((0 : Nat) : Int) = V.int 0)) = false := by decide
        rw [e]
        refine iteF ?_
        rw [Nat.gcd_zero_right] at hg
        subst hg
        have g0 := gcd_pos (t := a) hb
        have g1 := gcd_small (t := a) hb hs
        refine ⟨_, rfl, _, _, rfl, rfl, _, rfl, ?_⟩
        by_cases hp : 0 < b
        · rw [decide_eq_true hp]
          refine iteT ⟨_, rfl, ?_⟩
          refine ⟨_, rfl, _, rfl, _, _, rfl, rfl, ⟨by omega, by omega⟩, _, rfl, _, rfl, _, _, rfl, rfl, ⟨by omega, by omega⟩, (by show 2 ≤ sizeLine; decide), fun p np => ?_⟩
          refine q p _ (same_new np) ?_
          rw [shr_up hp]
          exact upd_same
        · rw [decide_eq_false hp]
          refine iteF ⟨_, rfl, _, _, rfl, rfl, ?_⟩
          refine ⟨_, rfl, _, rfl, _, _, rfl, rfl, ⟨by omega, by omega⟩, _, rfl, _, rfl, _, _, rfl, rfl, ⟨by omega, by omega⟩, (by show 2 ≤ sizeLine; decide), fun p np => ?_⟩
          refine q p _ (same_new np) ?_
          rw [shr_dn hp, ← Int.zero_sub]
          exact upd_same
      · have e : (!decide (V.int ((m : Nat) : Int) = V.int 0)) = true := by
          rw [Bool.not_eq_true', decide_eq_false_iff_not]
          intro z
          injection z with z
          omega
        rw [e]
        refine iteT ⟨_, fun σ' H' hN => ⟨x % m, Nat.mod_lt _ (by omega), hN⟩, ?_⟩
        refine ⟨_, rfl, _, rfl, _, rfl, _, _, rfl, rfl, (by show (0 : Int) < (m : Int); omega), _, _, rfl, rfl, m, x % m, ?_, rfl, ?_⟩
        · show [some (V.int a), some (V.int b), some (V.int (m : Int)), some (V.int ((x : Int) % (m : Int)))] = _
          rw [← Int.natCast_emod]
        · rw [gcd_turn]; exact hg
end
end K14
/-! _law_plus, _law_minus, _law_times, _law_any_share, _law_catcher -/
namespace K14
open L2 PySem PySem.Spec PyProof.Rows
section
variable {K : PySem.W.Frag} {mg : Str → Option Value} {P : Program} {w : World} {base : Heap}
theorem sc38 : FnScope ["_law_one", "_law_two"] ["_law_one", "_law_two"] (defScope (top 38)) := ⟨rfl, rfl, rfl, by decide +kernel, rfl, by decide +kernel, by decide +kernel⟩
theorem ok_lplus (D : Df K mg "_law_plus" (top 38) ["_law_one", "_law_two"]) (c : C8.Cal P w K mg base 2 "_law_share" spShare []) : C8.Cal P w K mg base 3 "_law_plus" (spTwo plus) [] := by
  refine df_ok D sc38 (fun vs H Q E h => ?_) (fun f cdv A outer s H vs Q E hr h => ?_)
  · obtain ⟨x, y, _, _, rfl, _⟩ := h; rfl
  · obtain ⟨a, b, p, q, rfl, ha, hb, sp, sq, k⟩ := h
    refine ⟨_, pss_one (ps_ret (C8.pe_c c hr (by decide) (by rfl) (pa_cons (pe_op op_add
        (pe_op op_mul (pe_ix ix_tup (pv 0) pe_int (fun _ _ => rfl)) (pe_ix ix_tup (pv 1) pe_int (fun _ _ => rfl)))
        (pe_op op_mul (pe_ix ix_tup (pv 1) pe_int (fun _ _ => rfl)) (pe_ix ix_tup (pv 0) pe_int (fun _ _ => rfl))))
      (pa_cons (pe_op op_mul (pe_ix ix_tup (pv 0) pe_int (fun _ _ => rfl)) (pe_ix ix_tup (pv 1) pe_int (fun _ _ => rfl))) pa_nil)))), ?_⟩
    refine ⟨_, rfl, a, _, _, _, rfl, rfl, SqT.of ha, rfl, _, rfl, b, _, _, _, rfl, rfl, SqT.of hb, rfl, _, _, rfl, rfl, .inl (sp.cm (by decide)), ?_⟩
    refine ⟨_, rfl, b, _, _, _, rfl, rfl, SqT.of hb, rfl, _, rfl, a, _, _, _, rfl, rfl, SqT.of ha, rfl, _, _, rfl, rfl, .inl (sq.cm (by decide)), _, _, rfl, rfl, ?_⟩
    refine ⟨_, rfl, a, _, _, _, rfl, rfl, SqT.of ha, rfl, _, rfl, b, _, _, _, rfl, rfl, SqT.of hb, rfl, _, _, rfl, rfl, .inl (sp.cl (by decide)), ?_⟩
    exact ⟨_, _, rfl, two_ne sp sq, two_low sp sq, k⟩
theorem sc39 : FnScope ["_law_one", "_law_two"] ["_law_one", "_law_two"] (defScope (top 39)) := ⟨rfl, rfl, rfl, by decide +kernel, rfl, by decide +kernel, by decide +kernel⟩
theorem ok_lminus (D : Df K mg "_law_minus" (top 39) ["_law_one", "_law_two"]) (c : C8.Cal P w K mg base 2 "_law_share" spShare []) : C8.Cal P w K mg base 3 "_law_minus" (spTwo minus) [] := by
  refine df_ok D sc39 (fun vs H Q E h => ?_) (fun f cdv A outer s H vs Q E hr h => ?_)
  · obtain ⟨x, y, _, _, rfl, _⟩ := h; rfl
  · obtain ⟨a, b, p, q, rfl, ha, hb, sp, sq, k⟩ := h
    refine ⟨_, pss_one (ps_ret (C8.pe_c c hr (by decide) (by rfl) (pa_cons (pe_op op_sub
        (pe_op op_mul (pe_ix ix_tup (pv 0) pe_int (fun _ _ => rfl)) (pe_ix ix_tup (pv 1) pe_int (fun _ _ => rfl)))
        (pe_op op_mul (pe_ix ix_tup (pv 1) pe_int (fun _ _ => rfl)) (pe_ix ix_tup (pv 0) pe_int (fun _ _ => rfl))))
      (pa_cons (pe_op op_mul (pe_ix ix_tup (pv 0) pe_int (fun _ _ => rfl)) (pe_ix ix_tup (pv 1) pe_int (fun _ _ => rfl))) pa_nil)))), ?_⟩
    refine ⟨_, rfl, a, _, _, _, rfl, rfl, SqT.of ha, rfl, _, rfl, b, _, _, _, rfl, rfl, SqT.of hb, rfl, _, _, rfl, rfl, .inl (sp.cm (by decide)), ?_⟩
    refine ⟨_, rfl, b, _, _, _, rfl, rfl, SqT.of hb, rfl, _, rfl, a, _, _, _, rfl, rfl, SqT.of ha, rfl, _, _, rfl, rfl, .inl (sq.cm (by decide)), _, _, rfl, rfl, ?_⟩
    refine ⟨_, rfl, a, _, _, _, rfl, rfl, SqT.of ha, rfl, _, rfl, b, _, _, _, rfl, rfl, SqT.of hb, rfl, _, _, rfl, rfl, .inl (sp.cl (by decide)), ?_⟩
    exact ⟨_, _, rfl, two_ne sp sq, two_low sp sq, k⟩
theorem sc40 : FnScope ["_law_one", "_law_two"] ["_law_one", "_law_two"] (defScope (top 40)) := ⟨rfl, rfl, rfl, by decide +kernel, rfl, by decide +kernel, by decide +kernel⟩
theorem ok_ltimes (D : Df K mg "_law_times" (top 40) ["_law_one", "_law_two"]) (c : C8.Cal P w K mg base 2 "_law_share" spShare []) : C8.Cal P w K mg base 3 "_law_times" (spTwo times) [] := by
  refine df_ok D sc40 (fun vs H Q E h => ?_) (fun f cdv A outer s H vs Q E hr h => ?_)
  · obtain ⟨x, y, _, _, rfl, _⟩ := h; rfl
  · obtain ⟨a, b, p, q, rfl, ha, hb, sp, sq, k⟩ := h
    refine ⟨_, pss_one (ps_ret (C8.pe_c c hr (by decide) (by rfl) (pa_cons
        (pe_op op_mul (pe_ix ix_tup (pv 0) pe_int (fun _ _ => rfl)) (pe_ix ix_tup (pv 1) pe_int (fun _ _ => rfl)))
      (pa_cons (pe_op op_mul (pe_ix ix_tup (pv 0) pe_int (fun _ _ => rfl)) (pe_ix ix_tup (pv 1) pe_int (fun _ _ => rfl))) pa_nil)))), ?_⟩
    refine ⟨_, rfl, a, _, _, _, rfl, rfl, SqT.of ha, rfl, _, rfl, b, _, _, _, rfl, rfl, SqT.of hb, rfl, _, _, rfl, rfl, .inl (sp.cm (by decide)), ?_⟩
    refine ⟨_, rfl, a, _, _, _, rfl, rfl, SqT.of ha, rfl, _, rfl, b, _, _, _, rfl, rfl, SqT.of hb, rfl, _, _, rfl, rfl, .inl (sp.cl (by decide)), ?_⟩
    exact ⟨_, _, rfl, two_ne sp sq, two_low sp sq, k⟩
theorem sc41 : FnScope ["_law_town_here", "_law_broad"] ["_law_town_here", "_law_broad"] (defScope (top 41)) := ⟨rfl, rfl, rfl, by decide +kernel, rfl, by decide +kernel, by decide +kernel⟩
theorem ok_any (D : Df K mg "_law_any_share" (top 41) ["_law_town_here", "_law_broad"]) (cS : C8.Cal P w K mg base 2 "_law_share" spShare []) (cD : C8.Cal P w K mg base 1 "_law_draw" spDraw []) (cP : C8.Cal P w K mg base 2 "_law_pick" spPick []) : C8.Cal P w K mg base 3 "_law_any_share" spAny [] := by
  refine df_ok D sc41 (fun vs H Q E h => ?_) (fun f cdv A outer s H vs Q E hr h => ?_)
  · obtain ⟨x, y, _, rfl, _⟩ := h; rfl
  · obtain ⟨T, N, n, rfl, ht, n0, n1, q⟩ := h
    refine ⟨_, pss_one (ps_ret (C8.pe_c cS hr (by decide) (by rfl) (pa_cons (pe_op op_sub (C8.pe_c cD hr (by decide) (by rfl) (pa_cons (pv 0) (pa_cons (pe_op op_add (pe_op op_mul pe_int (pv 1)) pe_int) pa_nil))) (pv 1))
      (pa_cons (C8.pe_c cP hr (by decide) (by rfl) (pa_cons (pv 0) (pa_cons (pe_lst (pa_cons pe_int (pa_cons pe_int (pa_cons pe_int (pa_cons pe_int (pa_cons pe_int pa_nil)))))) pa_nil))) pa_nil)))), ?_⟩
    refine ⟨_, rfl, _, rfl, _, _, rfl, rfl, .inl ⟨by decide, by decide⟩, _, _, rfl, rfl, T, N, _, rfl, ht, (by omega), (by omega), fun v H1 v0 v1 b1 t1 => ?_⟩
    refine ⟨_, rfl, _, _, rfl, rfl, ?_⟩
    refine ⟨_, rfl, (by show 5 ≤ sizeLine; decide), fun l nl => ?_⟩
    have s2 := same_new (o := .lst [V.int 1, .int 1, .int 1, .int 2, .int 3]) nl
    obtain ⟨lT, lN⟩ := t1.fresh nl
    refine ⟨T, N, l, [1, 1, 1, 2, 3], rfl, t1.same s2, upd_same, lT, lN, by simp, by decide, fun u H3 hu b3 t3 => ?_⟩
    have hu3 : u = 1 ∨ u = 2 ∨ u = 3 := by simpa using hu
    have hu0 : 0 < u := by omega
    refine ⟨_, _, rfl, by omega, by omega, fun p H4 s4 h4 => ?_⟩
    have sz := shr_sz (t := v - n) (b := u) (A := n.toNat) (D := 3) hu0 (by omega) (by omega)
    exact q p _ H4 (shr_ok (Int.ne_of_gt hu0)) (by have := sz.top; omega) (by have := sz.low; omega) ((b1.trans (but s2)).trans (b3.trans (but s4))) (t3.same s4) h4
/-- the planes so far: each in its bounds, rising, the next one at z -/
structure Rise (z : Int) (ls : List Pl) : Prop where
  ok : ∀ l ∈ ls, PlOk l ∧ l.1 < z
  up : ls.Pairwise fun a b => a.1 < b.1
theorem Rise.step {z y : Int} {ls : List Pl} {l : Pl} (h : Rise z ls) (hl : PlOk l) (e : l.1 = z) (hy : z < y) : Rise y (ls ++ [l]) := by
  refine ⟨fun x hx => ?_, List.pairwise_append.mpr ⟨h.up, List.pairwise_singleton _ _, fun a ha b hb => ?_⟩⟩
  · rcases List.mem_append.mp hx with q | q
    · obtain ⟨h1, h2⟩ := h.ok x q
      exact ⟨h1, Int.lt_trans h2 hy⟩
    · have q := List.mem_singleton.mp q
      subst q
      exact ⟨hl, by omega⟩
  · have q := List.mem_singleton.mp hb
    subst q
    have := (h.ok a ha).2
    omega
theorem sc42 : FnScope ["_law_town_here", "_law_count", "_law_z", "_law_found", "_law_k", "_law_broad"] ["_law_town_here", "_law_count"] (defScope (top 42)) := ⟨rfl, rfl, rfl, by decide +kernel, rfl, by decide +kernel, by decide +kernel⟩
theorem ok_planes (D : Df K mg "_law_catcher" (top 42) ["_law_town_here", "_law_count"]) (B : Bl mg) (cD : C8.Cal P w K mg base 1 "_law_draw" spDraw []) : C8.Cal P w K mg base 2 "_law_catcher" spPlanes [] := by
  refine df_ok D sc42 (fun vs H Q E h => ?_) (fun f cdv A outer s H vs Q E hr h => ?_)
  · obtain ⟨x, y, rfl, _⟩ := h; rfl
  · obtain ⟨T, N, rfl, ht, q⟩ := h
    refine ⟨_, pss_cons (ps_set (i := 2) sc42.nd rfl (.inl rfl) (pe_op op_sub (C8.pe_c cD hr (by decide) (by rfl) (pa_cons (pv 0) (pa_cons pe_int pa_nil))) pe_int))
      (pss_cons (ps_set (i := 3) sc42.nd rfl (.inl rfl) (pe_lst pa_nil))
      (pss_cons (ps_for PassesOwn.never rfl (pi_range1 (by rfl) B.range (pa_cons (pv 1) pa_nil)) (pg_name (i := 4) sc42.nd rfl (.inl rfl))
        (pss_cons (ps_set (i := 5) sc42.nd rfl (.inl rfl) (pe_op op_add pe_int (C8.pe_c cD hr (by decide) (by rfl) (pa_cons (pv 0) (pa_cons pe_int pa_nil)))))
        (pss_cons (ps_expr (pe_bm PySem.F.plainAttrs_list PySem.F.slot_list_append PySem.F.type_list_append mt_append (pv 3) (pa_cons (pe_tup (pa_cons (pv 2) (pa_cons (pe_op op_sub (C8.pe_c cD hr (by decide) (by rfl) (pa_cons (pv 0) (pa_cons pe_int pa_nil))) pe_int)
          (pa_cons (pv 5) (pa_cons (pe_op op_add (pe_op op_fdiv pe_int (pv 5)) (C8.pe_c cD hr (by decide) (by rfl) (pa_cons (pv 0) (pa_cons pe_int pa_nil)))) pa_nil))))) pa_nil)))
        (pss_one (ps_set (i := 2) sc42.nd rfl (.inl rfl) (pe_op op_add (pe_op op_add (pv 2) pe_int) (C8.pe_c cD hr (by decide) (by rfl) (pa_cons (pv 0) (pa_cons pe_int pa_nil)))))))))
      (pss_one (ps_ret (pe_callTy call_tuple_of (by rfl) B.tuple bi_tupleT (pa_cons (pv 3) pa_nil)))))), ?_⟩
    -- the first z
    refine ⟨_, rfl, T, N, 5, rfl, ht, by decide, by decide, fun v H1 v0 v1 b1 t1 => ?_⟩
    refine ⟨_, _, rfl, rfl, Nat.zero_le _, fun fo nfo => ?_⟩
    have s2 := same_new (o := .lst []) nfo
    obtain ⟨fT, fN⟩ := t1.fresh nfo
    have nfo0 : H fo = none := by
      cases e : H fo with
      | none => rfl
      | some o =>
        rw [b1 _ _ e fT fN] at nfo
        cases nfo
    refine ⟨_, rfl, 2, rfl, by decide, by decide, for_range (lo := 0) (n := 2) (fun i σ H' => ∃ (z : Int) (v4 v5 : Option V) (fs : List Addr) (ls : List Pl), σ = [some (.ref T), some (.int 2), some (.int z), some (.ref fo), v4, v5] ∧ But T N H H' ∧ Town H' T N ∧
        H' fo = some (.lst (fs.map V.ref)) ∧ Paired (fun b l => PlAt H' b l) fs ls ∧ ls.length = i ∧ Rise z ls ∧ -4 ≤ z ∧ z ≤ 3 * (i : Int))
      ⟨v - 4, none, none, [], [], rfl, b1.trans (but s2), t1.same s2, upd_same, .nil, rfl, ⟨fun _ h => by simp at h, List.Pairwise.nil⟩, by omega, by omega⟩ ?_ ?_⟩
    · rintro i σ H2 hi ⟨z, v4, v5, fs, ls, rfl, b2, t2, hfo, hp, hlen, hrise, z0, z1⟩
      -- broad
      refine ⟨_, rfl, T, N, 3, rfl, t2, by decide, by decide, fun d1 H3 d10 d11 b3 t3 => ?_⟩
      refine ⟨_, _, rfl, rfl, ?_⟩
      have hfo3 := b3 _ _ hfo fT fN
      refine ⟨_, rfl, Or.inl ⟨rfl, _, SqL.of hfo3⟩, ?_⟩
      refine ⟨_, rfl, _, rfl, T, N, 5, rfl, t3, by decide, by decide, fun d2 H4 d20 d21 b4 t4 => ?_⟩
      refine ⟨_, _, rfl, rfl, _, rfl, _, rfl, _, _, rfl, rfl, ⟨by omega, by omega⟩, ?_⟩
      refine ⟨_, rfl, T, N, 4, rfl, t4, by decide, by decide, fun d3 H5 d30 d31 b5 t5 => ?_⟩
      refine ⟨_, _, rfl, rfl, (by show 4 ≤ sizeLine; decide), fun p np => ?_⟩
      have s6 := same_new (o := .tup [V.int z, .int (d2 - 8), .int (1 + d1), .int (15 / (1 + d1) + d3)]) np
      have hfo5 := b5 _ _ (b4 _ _ hfo3 fT fN) fT fN
      have hfo6 := s6 _ _ hfo5
      have hflen : fs.length = i := (Paired.length hp).trans hlen
      refine ⟨fo, _, .ref p, rfl, rfl, hfo6, small1000 (by rw [List.length_map]; omega), ?_⟩
      have npf : p ≠ fo := (ne_of_none hfo5 np).symm
      have bb : But T N H2 (upd H5 p (.tup [V.int z, .int (d2 - 8), .int (1 + d1), .int (15 / (1 + d1) + d3)])) := (b3.trans (b4.trans b5)).trans (but s6)
      have t6 := t5.same s6
      generalize hH6 : upd H5 p (.tup [V.int z, .int (d2 - 8), .int (1 + d1), .int (15 / (1 + d1) + d3)]) = H6 at bb t6 hfo6
      have hp6 : PlAt H6 p (z, d2 - 8, 1 + d1, 15 / (1 + d1) + d3) := by
        rw [← hH6]
        exact upd_same
      -- the heap behind the append
      have t7 : Town (upd H6 fo (.lst (fs.map V.ref ++ [.ref p]))) T N := by
        obtain ⟨ti, ns, g1, g2, g3⟩ := t6
        exact ⟨ti, ns, by rw [upd_ne fT.symm]; exact g1, by rw [upd_ne fN.symm]; exact g2, g3⟩
      have b7 : But T N H (upd H6 fo (.lst (fs.map V.ref ++ [.ref p]))) := fun b o e h1 h2 => by
        rw [upd_ne (ne_of_none e nfo0)]
        exact bb _ _ (b2 _ _ e h1 h2) h1 h2
      have kt7 : Kt H2 (upd H6 fo (.lst (fs.map V.ref ++ [.ref p]))) := fun b xs e => by
        rw [upd_ne (ne_of e hfo (fun z => nomatch z))]
        exact bb.tup t2 e
      refine ⟨_, rfl, _, _, rfl, rfl, ?_⟩
      refine ⟨_, rfl, T, N, 3, rfl, t7, by decide, by decide, fun d4 H8 d40 d41 b8 t8 => ?_⟩
      refine ⟨_, _, rfl, rfl, ?_⟩
      have kt8 := b8.kt t7
      have hd1 : d1 = 0 ∨ d1 = 1 ∨ d1 = 2 := by omega
      have hq : 5 ≤ 15 / (1 + d1) ∧ 15 / (1 + d1) ≤ 15 := by rcases hd1 with rfl | rfl | rfl <;> decide
      have okl : PlOk (z, d2 - 8, 1 + d1, 15 / (1 + d1) + d3) := ⟨by show -1000 ≤ z; omega, by show z ≤ 1000; omega, by show -1000 ≤ d2 - 8; omega, by show d2 - 8 ≤ 1000; omega, by show 1 ≤ 1 + d1; omega, by show 1 + d1 ≤ 50; omega,
        by show 2 ≤ 15 / (1 + d1) + d3; omega, by show 15 / (1 + d1) + d3 ≤ 18; omega⟩
      refine ⟨z + 1 + d4, _, _, fs ++ [p], ls ++ [(z, d2 - 8, 1 + d1, 15 / (1 + d1) + d3)], rfl, b7.trans b8, t8, ?_, ?_, ?_, hrise.step okl rfl (by omega), by omega, by omega⟩
      · have e := b8 _ _ (upd_same (H := H6) (a := fo) (o := .lst (fs.map V.ref ++ [.ref p]))) fT fN
        rw [e, List.map_append]
        rfl
      · refine paired_app (Paired.mapP hp fun b l e => (e.to kt7).to kt8) ?_
        have e : PlAt (upd H6 fo (.lst (fs.map V.ref ++ [.ref p]))) p (z, d2 - 8, 1 + d1, 15 / (1 + d1) + d3) := by
          show upd H6 fo _ p = _
          rw [upd_ne npf]
          exact hp6
        exact e.to kt8
      · rw [List.length_append, hlen]
        rfl
    · rintro σ H2 ⟨z, v4, v5, fs, ls, rfl, b2, t2, hfo, hp, hlen, hrise, z0, z1⟩
      match ls, fs, hp, hlen, hrise with
      | [l0, l1], [p0, p1], .cons h0 (.cons h1 .nil), _, hrise =>
        refine ⟨_, rfl, fo, _, rfl, .inl ⟨SqL.of hfo, fun a na => ?_⟩⟩
        have s3 := same_new (o := .tup ([p0, p1].map V.ref)) na
        have hup := hrise.up
        rw [List.pairwise_cons] at hup
        exact q a l0 l1 _ ⟨(hrise.ok l0 (by simp)).1, (hrise.ok l1 (by simp)).1, hup.1 l1 (by simp)⟩ (b2.trans (but s3)) (t2.same s3) ⟨p0, p1, upd_same, h0.to (kt s3), h1.to (kt s3)⟩
end
end K14
/-! the law, its first loop: the table of gains -/
namespace K14
open L2 PySem PySem.Spec PyProof.Rows
abbrev lawN : List Str := ["_law_script", "_law_town_here", "_law_planes", "_law_table", "_law_k", "_law_at", "_law_gain_of", "_law_raws", "_law_due", "_law_cell", "_law_raw", "_law_base", "_law_amount", "_law_other", "_law_back_of", "_law_number", "_law_one"]
theorem scL : FnScope lawN ["_law_script"] (defScope (top 43)) := ⟨rfl, rfl, rfl, by decide +kernel, rfl, by decide +kernel, by decide +kernel⟩
def stL (i : Nat) : Stmt := (defBody (top 43)).getD i (.Pass ⟨0, 0, 0, 0⟩)
def forB (s : Stmt) : List Stmt := match s with
  | .For _ _ b _ _ => b
  | _ => []
abbrev LX (P : Program) (w : World) (K : PySem.W.Frag) (mg : Str → Option Value) (base : Heap) (f : Addr) (cdv : Value) (A : Around) (outer : List Env) (s : Shared) (H0 : Hp) (E : XK) : Cx :=
  (cxOf CX0 P w K mg base lawN "law" (defScope (top 43)) f cdv A outer s H0 E).nox
abbrev LR (k : Nat) (A : Around) (s : Shared) (f : Addr) (cdv : Value) : Prop := Room k (A.deeper (envOfC "law" (defScope (top 43)) s.heap.objs.size f cdv))
theorem CatAt.at {H : Hp} {a : Addr} {l0 l1 : Pl} {i : Int} (h : CatAt H a l0 l1) (ok : CatOk l0 l1) (hi : i = 0 ∨ i = 1) : ∃ (xs : List V) (p : Addr) (l : Pl), H a = some (.tup xs) ∧ atI xs i = some (.ref p) ∧ PlAt H p l ∧
    (∀ v, 0 ≤ v → v < l.2.2.2 → CellOk l0 l1 (i, v)) ∧ 2 ≤ l.2.2.2 ∧ l.2.2.2 ≤ 18 := by
  obtain ⟨p0, p1, ha, h0, h1⟩ := h
  rcases hi with rfl | rfl
  · exact ⟨_, p0, l0, ha, rfl, h0, fun v a b => .inl ⟨rfl, a, b⟩, ok.p0.c0, ok.p0.c1⟩
  · exact ⟨_, p1, l1, ha, rfl, h1, fun v a b => .inr ⟨rfl, a, b⟩, ok.p1.c0, ok.p1.c1⟩
theorem mem_putK {kvs : List (List Key × V)} {k : List Key} {v : V} {p : List Key × V} (h : p ∈ putK kvs k v) : p = (k, v) ∨ p ∈ kvs ∧ p.1 ≠ k := by
  unfold putK at h
  split at h
  · obtain ⟨q, hq, rfl⟩ := List.mem_map.mp h
    by_cases e : q.1 = k
    · rw [if_pos e, e]
      exact .inl rfl
    · rw [if_neg e]
      exact .inr ⟨hq, e⟩
  · rename_i hn
    rcases List.mem_append.mp h with q | q
    · refine .inr ⟨q, fun e => hn ?_⟩
      exact List.any_eq_true.mpr ⟨p, q, decide_eq_true e⟩
    · exact .inl (List.mem_singleton.mp q)
theorem TabIs.put {H H' : Hp} {kvs : List (List Key × V)} {l0 l1 : Pl} {G : Cl → Gn} (h : TabIs H kvs l0 l1 G) (k : Kt H H') (hl : kvs.length < 100) {c : Cl} {a : Addr} {g : Gn} (hc : CellOk l0 l1 c) (hg : GnAt H' a g) :
    TabIs H' (putK kvs (ck c) (.ref a)) l0 l1 (fun x => if x = c then g else G x) := by
  refine ⟨Nat.le_trans (length_putK _ _ _) hl, fun kv m => ?_, fun x hx => ?_⟩
  · rcases mem_putK m with e | ⟨m, ne⟩
    · subst e
      exact ⟨c, a, rfl, hc, rfl, by rw [if_pos rfl]; exact hg⟩
    · obtain ⟨x, b, e1, e2, e3, e4⟩ := h.mem kv m
      have nx : x ≠ c := fun e => ne (by rw [e1, e])
      exact ⟨x, b, e1, e2, e3, by rw [if_neg nx]; exact e4.to k⟩
  · rw [valV_put] at hx
    by_cases e : x = c
    · rw [e, if_pos rfl] at hx
      cases hx
    · rw [if_neg (fun z => e (ck_inj z))] at hx
      show (if x = c then g else G x) = dft
      rw [if_neg e]
      exact h.non x hx
theorem gain_ok {x y : Int} {p : Int × Int} (x0 : 1 ≤ x) (x1 : x ≤ 9) (y0 : 1 ≤ y) (y1 : y ≤ 4) (hp : ShOk p) (pa : p.1.natAbs ≤ 20) (pb : p.2 ≤ 3) : GnOk (p, shr x y) := by
  have hy : y ≠ 0 := by omega
  have sz := shr_sz (t := x) (b := y) (A := 9) (D := 4) (by omega) (by omega) (by omega)
  have ok := shr_ok (t := x) hy
  have hm := shr_mul (t := x) hy
  have h1 : 0 < (shr x y).1 := by
    have h2 : 0 < x * (shr x y).2 := Int.mul_pos (by omega) ok.pos
    rw [← hm] at h2
    exact Int.pos_of_mul_pos_left h2 (by omega)
  exact ⟨hp, ok, h1, pa, pb, by have := sz.top; show (shr x y).1 ≤ 9; omega, by have := sz.low; show (shr x y).2 ≤ 100; omega⟩
section
variable {K : PySem.W.Frag} {mg : Str → Option Value} {P : Program} {w : World} {base : Heap} {f : Addr} {cdv : Value} {A : Around} {outer : List Env} {s : Shared} {H0 : Hp} {E : XK}
theorem turn1 (hr : LR 6 A s f cdv) (cD : C8.Cal P w K mg base 1 "_law_draw" spDraw []) (cS : C8.Cal P w K mg base 2 "_law_share" spShare []) (cA : C8.Cal P w K mg base 3 "_law_any_share" spAny []) :
    ∃ t, PSs (LX P w K mg base f cdv A outer s H0 E) (forB (stL 3)) t ∧ ∀ (D : Ends) (sc T N pl d : Addr) (v4 v5 v6 v7 v8 v9 v10 v11 v12 v13 v14 v15 v16 : Option V) (l0 l1 : Pl) (G : Cl → Gn) (kvs : List (List Key × V)) (H : Hp),
      Town H T N → CatOk l0 l1 → CatAt H pl l0 l1 → H d = some (.dT kvs) → TabIs H kvs l0 l1 G → (∀ c, GnOk (G c)) → kvs.length < 100 →
      (∀ u5 u6 G' kvs' H', Town H' T N → CatAt H' pl l0 l1 → H' d = some (.dT kvs') → TabIs H' kvs' l0 l1 G' → (∀ c, GnOk (G' c)) → kvs'.length ≤ kvs.length + 1 →
        D.nx [some (.ref sc), some (.ref T), some (.ref pl), some (.ref d), v4, u5, u6, v7, v8, v9, v10, v11, v12, v13, v14, v15, v16] H') →
      t D [some (.ref sc), some (.ref T), some (.ref pl), some (.ref d), v4, v5, v6, v7, v8, v9, v10, v11, v12, v13, v14, v15, v16] H := by
  have hu := hu_of hr
  refine ⟨_, pss_cons (ps_set (i := 5) scL.nd rfl (.inl rfl) (C8.pe_c cD hr (by decide) (by rfl) (pa_cons (pv 1) (pa_cons pe_int pa_nil))))
    (pss_cons (ps_set (i := 6) scL.nd rfl (.inl rfl) (C8.pe_c cS hr (by decide) (by rfl) (pa_cons (pe_op op_add pe_int (C8.pe_c cD hr (by decide) (by rfl) (pa_cons (pv 1) (pa_cons pe_int pa_nil))))
      (pa_cons (pe_op op_add pe_int (C8.pe_c cD hr (by decide) (by rfl) (pa_cons (pv 1) (pa_cons pe_int pa_nil)))) pa_nil))))
    (pss_one (ps_dput hu (pv 3) (pe_tup (pa_cons (pv 5) (pa_cons (C8.pe_c cD hr (by decide) (by rfl) (pa_cons (pv 1) (pa_cons (pe_ix ix_tup (pe_ix ix_tup (pv 2) (pv 5) (fun _ _ => rfl)) pe_int (fun _ _ => rfl)) pa_nil))) pa_nil)))
      (pe_tup (pa_cons (C8.pe_c cA hr (by decide) (by rfl) (pa_cons (pv 1) (pa_cons pe_int pa_nil))) (pa_cons (pv 6) pa_nil))) rfl))), ?_⟩
  intro D sc T N pl d v4 v5 v6 v7 v8 v9 v10 v11 v12 v13 v14 v15 v16 l0 l1 G kvs H ht okc hc hd tb hG hl k
  -- at
  refine ⟨_, rfl, T, N, 2, rfl, ht, by decide, by decide, fun at_ H1 a0 a1 b1 t1 => ?_⟩
  have hat : at_ = 0 ∨ at_ = 1 := by omega
  -- the gain
  refine ⟨_, rfl, T, N, 9, rfl, t1, by decide, by decide, fun x H2 x0 x1 b2 t2 => ?_⟩
  refine ⟨_, _, rfl, rfl, ?_⟩
  refine ⟨_, rfl, T, N, 4, rfl, t2, by decide, by decide, fun y H3 y0 y1 b3 t3 => ?_⟩
  refine ⟨_, _, rfl, rfl, _, _, rfl, by omega, by omega, fun g H4 s4 hg => ?_⟩
  have t4 := t3.same s4
  -- the value
  refine ⟨_, rfl, T, N, 20, rfl, t4, by decide, by decide, fun p q H5 okp pa pb b5 t5 hp => ?_⟩
  refine ⟨_, rfl, (by show 2 ≤ sizeLine; decide), fun vp nvp => ?_⟩
  have s6 := same_new (o := .tup [V.ref p, .ref g]) nvp
  have bb : But T N H (upd H5 vp (.tup [V.ref p, .ref g])) := (((b1.trans (b2.trans b3)).trans (but s4)).trans b5).trans (but s6)
  have t6 := t5.same s6
  have hg6 : ShAt (upd H5 vp (.tup [V.ref p, .ref g])) g (shr (1 + x) (1 + y)) := (hg.to (b5.kt t4)).to (kt s6)
  have hp6 : ShAt (upd H5 vp (.tup [V.ref p, .ref g])) p q := hp.to (kt s6)
  have hv6 : GnAt (upd H5 vp (.tup [V.ref p, .ref g])) vp (q, shr (1 + x) (1 + y)) := ⟨p, g, upd_same, hp6, hg6⟩
  generalize upd H5 vp (.tup [V.ref p, .ref g]) = H6 at bb t6 hv6
  -- the key
  have hd6 := bb.dic ht hd
  have hc6 := hc.to (bb.kt ht)
  obtain ⟨xs, pp, l, e1, e2, e3, e4, e5, e6⟩ := hc6.at okc hat
  refine ⟨_, rfl, _, rfl, _, rfl, _, rfl, _, rfl, pl, _, _, _, rfl, rfl, SqT.of e1, e2, pp, _, _, _, rfl, rfl, SqT.of e3, rfl, T, N, _, rfl, t6, (by show 0 < l.2.2.2; omega), (by show l.2.2.2 < 1073741824; omega), fun v H7 v0 v1 b7 t7 => ?_⟩
  refine ⟨(by show 2 ≤ sizeLine; decide), fun kp nkp => ?_⟩
  have s8 := same_new (o := .tup [V.int at_, .int v]) nkp
  have t8 := t7.same s8
  have kt8 : Kt H6 (upd H7 kp (.tup [V.int at_, .int v])) := (b7.kt t6).trans (kt s8)
  have hd8 := s8 _ _ (b7.dic t6 hd6)
  have hk8 : upd H7 kp (.tup [V.int at_, .int v]) kp = some (.tup ((ck (at_, v)).map kV)) := upd_same
  generalize upd H7 kp (.tup [V.int at_, .int v]) = H8 at t8 kt8 hd8 hk8
  refine ⟨d, _, rfl, DPut.t hd8 hk8 (small1000 (by omega)), ?_⟩
  have kt9 : Kt H8 (upd H8 d (.dT (putK kvs (ck (at_, v)) (.ref vp)))) := fun b ys e => by
    rw [upd_ne (ne_of e hd8 (fun z => nomatch z))]
    exact e
  have hcell := e4 v v0 v1
  refine k _ _ _ (putK kvs (ck (at_, v)) (.ref vp)) _ ?_ ((hc6.to kt8).to kt9) upd_same (((tb.to (bb.kt ht)).put (kt8.trans kt9) hl hcell ((hv6.to kt8).to kt9))) (fun c => ?_) (length_putK _ _ _)
  · obtain ⟨ti, ns, g1, g2, g3⟩ := t8
    refine ⟨ti, ns, ?_, ?_, g3⟩
    · rw [upd_ne (ne_of g1 hd8 (fun z => nomatch z))]
      exact g1
    · rw [upd_ne (ne_of g2 hd8 (fun z => nomatch z))]
      exact g2
  · by_cases e : c = (at_, v)
    · show GnOk (if c = (at_, v) then _ else _)
      rw [if_pos e]
      exact gain_ok (by omega) (by omega) (by omega) (by omega) okp (by omega) pb
    · show GnOk (if c = (at_, v) then _ else _)
      rw [if_neg e]
      exact hG c
end
end K14
/-! the law, its second loop: one cell -/
namespace K14
open L2 PySem PySem.Spec PyProof.Rows
def DueAt (H : Hp) (a : Addr) (es : List (Cl × Int)) : Prop := ∃ bs : List Addr, H a = some (.lst (bs.map V.ref)) ∧ Paired (fun b e => HitAt H b e) bs es
theorem raws_none : ∀ {rs : List (Cl × Int)} {c : Cl}, (∀ e ∈ rs, e.1 ≠ c) → valV (rs.map rawKv) (ck c) = none
  | [], _, _ => rfl
  | x :: rs, c, h => by
    rw [List.map_cons, valV_neg (show ¬ (rawKv x).1 = ck c from fun z => h x List.mem_cons_self (ck_inj z))]
    exact raws_none fun e he => h e (List.mem_cons_of_mem _ he)
theorem neD_same {Q : VK} {H : Hp} {d : PyData} (h : SeqAt.shaped d = true) (q : Q (.bl false) H) : Q (.bl (!PyData.eqv d d)) H := by
  rw [eqv_self h]
  exact q
theorem two_sz : (2 : Nat) ≤ sizeLine := by decide
def inB : List Stmt := forB ((forB (stL 6)).getD 0 (.Pass ⟨0, 0, 0, 0⟩))
section
variable {K : PySem.W.Frag} {mg : Str → Option Value} {P : Program} {w : World} {base : Heap} {f : Addr} {cdv : Value} {A : Around} {outer : List Env} {s : Shared} {H0 : Hp} {E : XK}
theorem turn2 (hr : LR 6 A s f cdv) (B : Bl mg) (cD : C8.Cal P w K mg base 1 "_law_draw" spDraw []) (cS : C8.Cal P w K mg base 2 "_law_share" spShare []) (cA : C8.Cal P w K mg base 3 "_law_any_share" spAny [])
    (cLP : C8.Cal P w K mg base 3 "_law_plus" (spTwo plus) []) (cLM : C8.Cal P w K mg base 3 "_law_minus" (spTwo minus) []) (cLT : C8.Cal P w K mg base 3 "_law_times" (spTwo times) [])
    (cCh : C8.Cal P w K mg base 6 "charge" spCharge []) (cRw : C8.Cal P w K mg base 6 "raw_of" spRawOf []) :
    ∃ t, PSs (LX P w K mg base f cdv A outer s H0 E) inB t ∧ ∀ (D : Ends) (sc T N pl d rw' du : Addr) (c : Cl) (v4 v6 v10 v11 v12 v13 v14 v15 v16 : Option V) (l0 l1 : Pl) (G : Cl → Gn) (kvs : List (List Key × V)) (rs : List (Cl × Int)) (H : Hp),
      Town H T N → CatOk l0 l1 → CatAt H pl l0 l1 → H d = some (.dT kvs) → TabIs H kvs l0 l1 G → (∀ c, GnOk (G c)) → RawsAt H rw' rs → rw' ≠ d → DueAt H du (hits G rs) → du ≠ T → du ≠ N → CellOk l0 l1 c → (∀ e ∈ rs, e.1 ≠ c) → rs.length < 60 →
      (∀ u6 u10 u11 u12 u13 u14 u15 du' rs' H', Town H' T N → CatAt H' pl l0 l1 → H' d = some (.dT kvs) → TabIs H' kvs l0 l1 G → RawsAt H' rw' rs' → DueAt H' du' (hits G rs') → du' ≠ T → du' ≠ N → (rs' = rs ∨ ∃ r, 0 ≤ r ∧ r ≤ 100000 ∧ rs' = rs ++ [(c, r)]) →
        D.nx [some (.ref sc), some (.ref T), some (.ref pl), some (.ref d), v4, some (.int c.1), u6, some (.ref rw'), some (.ref du'), some (.int c.2), u10, u11, u12, u13, u14, u15, v16] H') →
      t D [some (.ref sc), some (.ref T), some (.ref pl), some (.ref d), v4, some (.int c.1), v6, some (.ref rw'), some (.ref du), some (.int c.2), v10, v11, v12, v13, v14, v15, v16] H := by
  have hu := hu_of hr
  refine ⟨_, pss_cons (ps_set (i := 10) scL.nd rfl (.inl rfl) (C8.pe_c cD hr (by decide) (by rfl) (pa_cons (pv 1) (pa_cons pe_int pa_nil))))
    (pss_cons (ps_asg (pe_dget2 hu (pv 3) (pe_tup (pa_cons (pv 5) (pa_cons (pv 9) pa_nil))) (pe_tup (pa_cons (pe_tup (pa_cons pe_int (pa_cons pe_int pa_nil))) (pa_cons (pe_tup (pa_cons pe_int (pa_cons pe_int pa_nil))) pa_nil))) ⟨by rfl, by rfl, by rfl, by rfl⟩)
      (pg_tup rfl (pgs_cons (pg_name (i := 11) scL.nd rfl (.inl rfl)) (pgs_cons (pg_name (i := 6) scL.nd rfl (.inl rfl)) pgs_nil))))
    (pss_cons (ps_set (i := 12) scL.nd rfl (.inl rfl) (C8.pe_c cLT hr (by decide) (by rfl) (pa_cons (C8.pe_c cLM hr (by decide) (by rfl) (pa_cons (pe_tup (pa_cons (pv 10) (pa_cons pe_int pa_nil))) (pa_cons (pv 11) pa_nil)))
      (pa_cons (pe_tup (pa_cons (pe_ix ix_tup (pv 6) pe_int (fun _ _ => rfl)) (pa_cons (pe_ix ix_tup (pv 6) pe_int (fun _ _ => rfl)) pa_nil))) pa_nil))))
    (pss_cons (ps_set (i := 12) scL.nd rfl (.inl rfl) (C8.pe_c cS hr (by decide) (by rfl) (pa_cons (pe_ix ix_tup (pv 12) pe_int (fun _ _ => rfl)) (pa_cons (pe_ix ix_tup (pv 12) pe_int (fun _ _ => rfl)) pa_nil))))
    (pss_cons (ps_if (PW.pt (pw_or (pt_cmpR (op_neD hr.units) (C8.pe_c cCh hr (by decide) (by rfl) (pa_cons (pv 2) (pa_cons (pv 3) (pa_cons (pe_tup (pa_cons (pv 5) (pa_cons (pv 9) pa_nil))) (pa_cons (pv 10) pa_nil))))) (pv 12) (nomark _))
      (pw_or1 (pt_cmpR op_ne (C8.pe_c cRw hr (by decide) (by rfl) (pa_cons (pv 2) (pa_cons (pv 3) (pa_cons (pe_tup (pa_cons (pv 5) (pa_cons (pv 9) pa_nil))) (pa_cons (pv 12) pa_nil))))) (pv 10) (nomark _))))) (pss_one (ps_ret pe_bl)) pss_nil)
    (pss_cons (ps_set (i := 13) scL.nd rfl (.inl rfl) (C8.pe_c cA hr (by decide) (by rfl) (pa_cons (pv 1) (pa_cons pe_int pa_nil))))
    (pss_cons (ps_set (i := 14) scL.nd rfl (.inl rfl) (C8.pe_c cLP hr (by decide) (by rfl) (pa_cons (pv 11) (pa_cons (C8.pe_c cLT hr (by decide) (by rfl) (pa_cons (pv 6) (pa_cons (pv 13) pa_nil))) pa_nil))))
    (pss_cons (ps_if (pt_cmpR op_ne (C8.pe_c cRw hr (by decide) (by rfl) (pa_cons (pv 2) (pa_cons (pv 3) (pa_cons (pe_tup (pa_cons (pv 5) (pa_cons (pv 9) pa_nil))) (pa_cons (pv 13) pa_nil)))))
      (pe_op op_fdivN (pe_ix ix_tup (pv 14) pe_int (fun _ _ => rfl)) (pe_ix ix_tup (pv 14) pe_int (fun _ _ => rfl))) (nomark _)) (pss_one (ps_ret pe_bl)) pss_nil)
    (pss_one (ps_if (pt_cmpR op_gt (C8.pe_c cD hr (by decide) (by rfl) (pa_cons (pv 1) (pa_cons pe_int pa_nil))) pe_int (nomark _))
      (pss_cons (ps_dput hu (pv 7) (pe_tup (pa_cons (pv 5) (pa_cons (pv 9) pa_nil))) (pv 10) rfl)
      (pss_cons (ps_set (i := 15) scL.nd rfl (.inl rfl) (pe_callB (call_min2 rfl) (by rfl) B.min bi_min (pa_cons pe_int (pa_cons (pe_op op_fdivN (pe_ix ix_tup (pv 12) pe_int (fun _ _ => rfl)) (pe_ix ix_tup (pv 12) pe_int (fun _ _ => rfl))) pa_nil))))
      (pss_one (ps_set (i := 8) scL.nd rfl (.inl rfl) (pe_op op_cat (pv 8) (pe_ifExp (pt_cmpR op_ge (pv 15) pe_int (nomark _)) (pe_lst (pa_cons (pe_tup (pa_cons (pv 5) (pa_cons (pv 9) (pa_cons (pv 15) pa_nil)))) pa_nil)) (pe_lst pa_nil))))))) pss_nil))))))))), ?_⟩
  intro D sc T N pl d rw' du c v4 v6 v10 v11 v12 v13 v14 v15 v16 l0 l1 G kvs rs H ht okc hc hd tb hG hrw nrd hdu duT duN hcell hnew hlen k
  have okg := hG c
  -- raw
  refine ⟨_, rfl, T, N, 120, rfl, ht, by decide, by decide, fun r H1 r0 r1' b1 t1 => ?_⟩
  have r1 : r ≤ 100000 := by omega
  have hd1 := b1.dic ht hd
  -- base, gain
  refine ⟨_, rfl, d, rfl, .inr ⟨kvs, .inl hd1⟩, _, rfl, _, rfl, two_sz, fun kp nkp => ⟨two_sz, fun p1 n1 => ⟨two_sz, fun p2 n2 => ⟨two_sz, fun p3 n3 => ?_⟩⟩⟩⟩
  have y0 := same_new (o := .tup [V.int c.1, .int c.2]) nkp
  have y1 := same_new (o := .tup [V.int 0, .int 1]) n1
  have y2 := same_new (o := .tup [V.int 1, .int 1]) n2
  have y3 := same_new (o := .tup [V.ref p1, .ref p2]) n3
  have hdf : GnAt _ p3 dft := ⟨p1, p2, upd_same, y3 _ _ (y2 _ _ upd_same), y3 _ _ upd_same⟩
  have yk := ((y1.trans y2).trans y3) kp _ (upd_same (H := H1) (a := kp) (o := .tup [V.int c.1, .int c.2]))
  have sB := ((y0.trans y1).trans y2).trans y3
  obtain ⟨g, eg, gx, gy, hg, hgx, hgy⟩ := ((tb.to (b1.kt ht)).to (kt sB)).getD c hdf
  refine ⟨_, DGet.t (k := ck c) (sB _ _ hd1) yk, g, _, eg, SqT.of hg, rfl, _, _, rfl, _, _, rfl, rfl, ?_⟩
  have b2 := b1.trans (but sB)
  have t2 := t1.same sB
  clear hdf yk eg
  generalize upd (upd (upd (upd H1 kp (.tup [V.int c.1, .int c.2])) p1 (.tup [V.int 0, .int 1])) p2 (.tup [V.int 1, .int 1])) p3 (.tup [V.ref p1, .ref p2]) = H2 at hg hgx hgy b2 t2
  -- the amount
  refine ⟨_, rfl, two_sz, fun m1 nm1 => ?_⟩
  have s3 := same_new (o := .tup [V.int r, .int 1]) nm1
  refine ⟨_, rfl, m1, gx, (r, 1), (G c).1, rfl, upd_same, hgx.to (kt s3), (raw_sz r0 r1).mono (by decide) (by decide), okg.sz1.mono (by decide) (by decide), fun m2 H3 s4 h2 => ?_⟩
  have sA := s3.trans s4
  have hgy3 := hgy.to (kt sA)
  refine ⟨_, rfl, gy, _, _, _, rfl, rfl, SqT.of hgy3, rfl, _, rfl, gy, _, _, _, rfl, rfl, SqT.of hgy3, rfl, two_sz, fun m3 nm3 => ?_⟩
  have s5 := same_new (o := .tup [V.int (G c).2.2, .int (G c).2.1]) nm3
  refine ⟨m2, m3, _, ((G c).2.2, (G c).2.1), rfl, h2.to (kt s5), upd_same, (net_sz okg r0 r1).mono (by decide) (by decide), okg.sz3.mono (by decide) (by decide), fun qa H4 s6 h4 => ?_⟩
  have h4 : ShAt H4 qa (chg (G c) r) := h4
  have szc := chg_sz okg r0 r1
  refine ⟨_, rfl, qa, _, _, _, rfl, rfl, SqT.of h4, rfl, _, rfl, qa, _, _, _, rfl, rfl, SqT.of h4, rfl, _, _, rfl, Int.ne_of_gt szc.pos, (by have h1 := szc.pos; have h2 := szc.low; omega), fun qb H5 s7 h5 => ?_⟩
  rw [shr_id (t := (chg (G c) r).1) (b := (chg (G c) r).2) (chg_ok okg r)] at h5
  have h5 : ShAt H5 qb (chg (G c) r) := h5
  have sC := (sA.trans s5).trans (s6.trans s7)
  have b5 := b2.trans (but sC)
  have t5 := t2.same sC
  have hgx5 := hgx.to (kt sC)
  have hgy5 := hgy.to (kt sC)
  have htab : ∀ {H'}, But T N H H' → TabAt H' d l0 l1 G := fun {H'} b => ⟨kvs, b.dic ht hd, tb.to (b.kt ht)⟩
  -- charge
  refine ⟨_, rfl, _, rfl, _, rfl, _, rfl, two_sz, fun k1 nk1 => ?_⟩
  have s8 := same_new (o := .tup [V.int c.1, .int c.2]) nk1
  have b6 := b5.trans (but s8)
  refine ⟨_, rfl, pl, d, k1, l0, l1, G, c, r, rfl, hc.to (b6.kt ht), okc, htab b6, hG, upd_same, hcell, r0, r1, fun qc H6 s9 h6 => ?_⟩
  have s10 := s8.trans s9
  refine ⟨_, rfl, _, _, shD_dp h6, shD_dp (h5.to (kt s10)), shD_shaped _, shD_shaped _, _, rfl, ?_⟩
  rw [eqv_self (shD_shaped (chg (G c) r))]
  refine iteF ?_
  have b7 := b5.trans (but s10)
  -- raw_of
  refine ⟨_, rfl, _, rfl, _, rfl, _, rfl, two_sz, fun k2 nk2 => ?_⟩
  have s11 := same_new (o := .tup [V.int c.1, .int c.2]) nk2
  have b8 := b7.trans (but s11)
  refine ⟨_, rfl, pl, d, k2, qb, l0, l1, G, c, chg (G c) r, rfl, hc.to (b8.kt ht), okc, htab b8, hG, upd_same, hcell, h5.to (kt (s10.trans s11)), chg_ok okg r, szc, fun H7 s12 => ?_⟩
  have sD := (s10.trans s11).trans s12
  have eb : (back (G c).1 (G c).2 (chg (G c) r)).1.fdiv (back (G c).1 (G c).2 (chg (G c) r)).2 = r := back_amt okg.ped.pos okg.up okg.gain.pos
  rw [eb]
  refine ⟨_, rfl, rfl, _, rfl, iteNS rfl ?_⟩
  have b9 := b5.trans (but sD)
  have t9 := t5.same sD
  have hgx9 := hgx5.to (kt sD)
  have hgy9 := hgy5.to (kt sD)
  have h9 := h5.to (kt sD)
  -- other
  refine ⟨_, rfl, T, N, 30, rfl, t9, by decide, by decide, fun qo o H8 oko oa ob b10 t10 ho => ?_⟩
  have szo : Sz 30 3 o := ⟨oko.pos, by omega, ob⟩
  have k10 := b10.kt t9
  have b11 := b9.trans b10
  refine ⟨_, rfl, _, rfl, _, rfl, gy, qo, (G c).2, o, rfl, hgy9.to k10, ho, okg.sz2.mono (by decide) (by decide), szo.mono (by decide) (by decide), fun m5 H9 s13 h13 => ?_⟩
  have szu := led_sz okg (szo.mono (A' := 1000000000) (D' := 100) (by decide) (by decide))
  refine ⟨gx, m5, (G c).1, _, rfl, (hgx9.to k10).to (kt s13), h13, okg.sz1.mono (by decide) (by decide), szu.mono (by decide) (by decide), fun qk H10 s14 h14 => ?_⟩
  have h14 : ShAt H10 qk (back (G c).1 (G c).2 o) := h14
  have szk : Sz _ _ (back (G c).1 (G c).2 o) := plus_sz okg.sz1 szu
  have sE := s13.trans s14
  have b12 := b11.trans (but sE)
  refine ⟨_, rfl, _, rfl, _, rfl, _, rfl, two_sz, fun k3 nk3 => ?_⟩
  have s15 := same_new (o := .tup [V.int c.1, .int c.2]) nk3
  have b13 := b12.trans (but s15)
  refine ⟨_, rfl, pl, d, k3, qo, l0, l1, G, c, o, rfl, hc.to (b13.kt ht), okc, htab b13, hG, upd_same, hcell, (ho.to (kt sE)).to (kt s15), oko, szo.mono (by decide) (by decide), fun H11 s16 => ?_⟩
  have sF := s15.trans s16
  have h15 := h14.to (kt sF)
  refine ⟨_, rfl, qk, _, _, _, rfl, rfl, SqT.of h15, rfl, _, rfl, qk, _, _, _, rfl, rfl, SqT.of h15, rfl, _, _, rfl, rfl, ⟨Int.ne_of_gt szk.pos, (by have h1 := szk.pos; have h2 := szk.low; omega)⟩, rfl, _, rfl, iteNS rfl ?_⟩
  have b14 := b12.trans (but sF)
  have t14 := (t10.same sE).same sF
  have h16 := ((h9.to k10).to (kt sE)).to (kt sF)
  -- the last draw
  refine ⟨_, rfl, T, N, 3, rfl, t14, by decide, by decide, fun v H12 v0 v1 b15 t15 => ?_⟩
  have b16 := b14.trans b15
  have h17 := h16.to (b15.kt t14)
  obtain ⟨bs, hbs, hp⟩ := hdu
  have hbs12 := b16 _ _ hbs duT duN
  have hp12 : Paired (fun b e => HitAt H12 b e) bs (hits G rs) := Paired.mapP hp fun b e q => q.to (b16.kt ht)
  have hrw12 : H12 rw' = some (.dT (rs.map rawKv)) := b16.dic ht hrw
  have hblen : bs.length < 60 := by
    have h1 := Paired.length hp
    have h2 := hits_len G rs
    omega
  refine ⟨_, _, rfl, rfl, _, rfl, ?_⟩
  refine ite2 (fun _ => ?_) (fun _ => ?_)
  · refine ⟨_, rfl, _, rfl, _, rfl, _, rfl, two_sz, fun k4 nk4 => ?_⟩
    have s17 := same_new (o := .tup [V.int c.1, .int c.2]) nk4
    refine ⟨rw', _, rfl, DPut.t (k := ck c) (s17 _ _ hrw12) upd_same (small1000 (by rw [List.length_map]; omega)), ?_⟩
    have eput : putK (rs.map rawKv) (ck c) (V.int r) = (rs ++ [(c, r)]).map rawKv := by
      rw [putK_new _ (raws_none hnew), List.map_append]
      rfl
    rw [eput]
    have b17 := b16.trans (but s17)
    have t17 := t15.same s17
    have h18 := h17.to (kt s17)
    have hbs17 := s17 _ _ hbs12
    have hp17 : Paired (fun b e => HitAt _ b e) bs (hits G rs) := Paired.mapP hp12 fun b e q => q.to (kt s17)
    have hrw17 := s17 _ _ hrw12
    generalize upd H12 k4 (.tup [V.int c.1, .int c.2]) = H13 at b17 t17 h18 hbs17 hp17 hrw17
    -- the heap with the raw number in it
    have kt18 : Kt H13 (upd H13 rw' (.dT ((rs ++ [(c, r)]).map rawKv))) := fun b xs e => by
      rw [upd_ne (ne_of e hrw17 (fun z => nomatch z))]
      exact e
    have hlst : ∀ b xs, H13 b = some (.lst xs) → upd H13 rw' (.dT ((rs ++ [(c, r)]).map rawKv)) b = some (.lst xs) := fun b xs e => by
      rw [upd_ne (ne_of e hrw17 (fun z => nomatch z))]
      exact e
    have t18 : Town (upd H13 rw' (.dT ((rs ++ [(c, r)]).map rawKv))) T N := by
      obtain ⟨ti, ns, g1, g2, g3⟩ := t17
      exact ⟨ti, ns, hlst _ _ g1, hlst _ _ g2, g3⟩
    have hc18 := (hc.to (b17.kt ht)).to kt18
    have hd18 : upd H13 rw' (.dT ((rs ++ [(c, r)]).map rawKv)) d = some (.dT kvs) := by
      rw [upd_ne nrd.symm]
      exact b17.dic ht hd
    have tb18 := (tb.to (b17.kt ht)).to kt18
    have h19 := h18.to kt18
    have hbs18 := hlst _ _ hbs17
    have hp18 : Paired (fun b e => HitAt (upd H13 rw' (.dT ((rs ++ [(c, r)]).map rawKv))) b e) bs (hits G rs) := Paired.mapP hp17 fun b e q => q.to kt18
    have hrw18 : upd H13 rw' (.dT ((rs ++ [(c, r)]).map rawKv)) rw' = some (.dT ((rs ++ [(c, r)]).map rawKv)) := upd_same
    generalize upd H13 rw' (.dT ((rs ++ [(c, r)]).map rawKv)) = H14 at t18 hc18 hd18 tb18 h19 hbs18 hp18 hrw18
    -- number
    refine ⟨_, rfl, qb, _, _, _, rfl, rfl, SqT.of h19, rfl, _, rfl, qb, _, _, _, rfl, rfl, SqT.of h19, rfl, _, _, rfl, rfl, ⟨Int.ne_of_gt szc.pos, (by have h1 := szc.pos; have h2 := szc.low; omega)⟩, _, _, rfl, ?_⟩
    refine ⟨_, rfl, _, rfl, _, _, rfl, rfl, _, rfl, ?_⟩
    show if decide (1 ≤ num (G c) r) = true then _ else _
    have hs : hits G (rs ++ [(c, r)]) = hits G rs ++ (if 1 ≤ num (G c) r then [(c, num (G c) r)] else []) := hits_snoc G rs (c, r)
    by_cases hn : 1 ≤ num (G c) r
    · rw [decide_eq_true hn]
      rw [if_pos hn] at hs
      refine iteT ⟨_, rfl, _, rfl, _, rfl, (by show 3 ≤ sizeLine; decide), fun tp ntp => ⟨(by show 1 ≤ sizeLine; decide), fun lp nlp => ?_⟩⟩
      have s19 := same_new (o := .tup [V.int c.1, .int c.2, .int (num (G c) r)]) ntp
      have s20 := same_new (o := .lst [V.ref tp]) nlp
      have s21 := s19.trans s20
      have htp : HitAt (upd (upd H14 tp (.tup [V.int c.1, .int c.2, .int (num (G c) r)])) lp (.lst [V.ref tp])) tp (c, num (G c) r) := s20 _ _ upd_same
      refine ⟨du, lp, bs.map V.ref, [.ref tp], rfl, rfl, s21 _ _ hbs18, upd_same, (by rw [List.length_map, sizeLine_eq]; show bs.length + 1 ≤ _; omega), fun np nnp => ?_⟩
      have s22 := same_new (o := .lst (bs.map V.ref ++ [V.ref tp])) nnp
      have sG := s21.trans s22
      obtain ⟨f1, f2⟩ := (t18.same s21).fresh nnp
      refine k _ _ _ _ _ _ _ np (rs ++ [(c, r)]) _ (t18.same sG) (hc18.to (kt sG)) (sG _ _ hd18) (tb18.to (kt sG)) (sG _ _ hrw18) ?_ f1 f2 (.inr ⟨r, r0, r1, rfl⟩)
      rw [hs]
      exact ⟨bs ++ [tp], by rw [List.map_append]; exact upd_same, paired_app (Paired.mapP hp18 fun b e q => q.to (kt sG)) (htp.to (kt s22))⟩
    · rw [decide_eq_false hn]
      rw [if_neg hn, List.append_nil] at hs
      refine iteF ⟨Nat.zero_le _, fun lp nlp => ?_⟩
      have s20 := same_new (o := .lst []) nlp
      refine ⟨du, lp, bs.map V.ref, [], rfl, rfl, s20 _ _ hbs18, upd_same, (by rw [List.length_map, sizeLine_eq]; show bs.length + 0 ≤ _; omega), fun np nnp => ?_⟩
      have s22 := same_new (o := .lst (bs.map V.ref ++ [])) nnp
      have sG := s20.trans s22
      obtain ⟨f1, f2⟩ := (t18.same s20).fresh nnp
      refine k _ _ _ _ _ _ _ np (rs ++ [(c, r)]) _ (t18.same sG) (hc18.to (kt sG)) (sG _ _ hd18) (tb18.to (kt sG)) (sG _ _ hrw18) ?_ f1 f2 (.inr ⟨r, r0, r1, rfl⟩)
      rw [hs]
      exact ⟨bs, by rw [upd_same, List.append_nil], Paired.mapP hp18 fun b e q => q.to (kt sG)⟩
  · exact k _ _ _ _ _ _ _ du rs _ t15 (hc.to (b16.kt ht)) (b16.dic ht hd) (tb.to (b16.kt ht)) hrw12 ⟨bs, hbs12, hp12⟩ duT duN (.inl rfl)
end
end K14
/-! the law -/
namespace K14
open L2 PySem PySem.Spec PyProof.Rows
theorem code_lt3 {a b : Cl × Int} (ha : TS.Bd 2000 (hitL a)) (hb : TS.Bd 2000 (hitL b)) (h : cLt a.1 b.1) : TS.code 2000 (hitL a) < TS.code 2000 (hitL b) := by
  have a2 := ha a.1.2 (by unfold hitL; simp)
  have b2 := hb b.1.2 (by unfold hitL; simp)
  have a3 := ha a.2 (by unfold hitL; simp)
  have b3 := hb b.2 (by unfold hitL; simp)
  have e : ∀ c : Cl × Int, TS.code 2000 (hitL c) = c.1.1 * 4000000 + (c.1.2 * 2000 + c.2) := fun c => by
    show c.1.1 * 2000 ^ 2 + (c.1.2 * 2000 ^ 1 + (c.2 * 2000 ^ 0 + 0)) = _
    omega
  rw [e, e]
  unfold cLt at h
  omega
theorem call_sortHits {X : Cx} : CallR X (.builtin "sorted") (fun vs H Q => ∃ (a : Addr) (bs : List Addr) (es : List (Cl × Int)), vs = [.ref a] ∧ H a = some (.lst (bs.map V.ref)) ∧ Paired (fun b e => HitAt H b e) bs es ∧ Asc es ∧ es.length < 64 ∧ (∀ e ∈ es, TS.Bd 2000 (hitL e)) ∧
    ∀ p, H p = none → Q (.ref p) (upd H p (.lst (bs.map V.ref)))) := by
  intro pins s σ H xs ws Q I r h
  obtain ⟨a, bs, es, rfl, ha, hp, hasc, h64, hB, q⟩ := h
  have hlen : bs.length = es.length := Paired.length hp
  refine cr_sortT (d := 3) (B := 2000) (by decide) pins s σ H _ ws Q I r ⟨a, bs.map V.ref, rfl, SqL.of ha, by rw [List.length_map]; omega, fun x hx => ?_, fun ys p hperm hpw np => ?_⟩
  · obtain ⟨b, hb, rfl⟩ := List.mem_map.mp hx
    obtain ⟨e, he, q⟩ := paired_mem hp b hb
    exact ⟨hitL e, ⟨b, rfl, SqT.of q⟩, rfl, hB e he⟩
  · have e : ys = bs.map V.ref := by
      refine sort_same (S := fun x y => ∃ n m, TupI X.K H x n ∧ TupI X.K H y m ∧ TS.code 2000 n < TS.code 2000 m) (fun x y hxy hyx => ?_) hperm hpw ?_
      · obtain ⟨n, m, h1, h2, h3⟩ := hxy
        have := hyx m n h2 h1
        omega
      · rw [List.pairwise_map]
        refine (paired_pw hp hasc).imp fun {x y} hxy => ?_
        obtain ⟨a, b, h1, h2, m1, m2, hl⟩ := hxy
        exact ⟨hitL a, hitL b, ⟨x, rfl, SqT.of h1⟩, ⟨y, rfl, SqT.of h2⟩, code_lt3 (hB a m1) (hB b m2) hl⟩
    rw [e]
    exact q p np
theorem tab_empty (H : Hp) (l0 l1 : Pl) : TabIs H [] l0 l1 (fun _ => dft) := ⟨Nat.zero_le _, fun kv m => by simp at m, fun _ _ => rfl⟩
def oneG : Cl → Gn := fun x => if x = (0, 0) then ((0, 1), (1, 100)) else dft
theorem oneG_ok (c : Cl) : GnOk (oneG c) := by
  unfold oneG
  split
  · refine ⟨⟨by decide, by decide⟩, ⟨by decide, by decide⟩, by decide, by decide, by decide, by decide, by decide⟩
  · exact dft_ok
theorem one_hits : hits oneG [((0, 0), 100000)] = [((0, 0), 1000)] := by decide +kernel
theorem dft_hits : hits (fun _ => dft) [((0, 0), 0), ((0, 1), 1), ((1, 0), 3)] = [((0, 1), 1), ((1, 0), 3)] := by decide +kernel
theorem dft_top : chg dft 100000 = (100000, 1) := by decide +kernel
theorem dft_zero : chg dft 0 = (0, 1) := by decide +kernel
theorem one_raws {l0 l1 : Pl} (ok : CatOk l0 l1) : RawsOk l0 l1 [((0, 0), 100000)] :=
  ⟨by show 1 ≤ 60; decide, List.pairwise_singleton _ _, fun e he => by
    have he := List.mem_singleton.mp he
    subst he
    exact ⟨.inl ⟨rfl, by show (0 : Int) ≤ 0; decide, by show (0 : Int) < l0.2.2.2; have := ok.p0.c0; omega⟩, by show (0 : Int) ≤ 100000; decide, by show (100000 : Int) ≤ 100000; decide⟩⟩
theorem three_raws {l0 l1 : Pl} (ok : CatOk l0 l1) : RawsOk l0 l1 [((0, 0), 0), ((0, 1), 1), ((1, 0), 3)] := by
  have h0 := ok.p0.c0
  have h1 := ok.p1.c0
  refine ⟨by show 3 ≤ 60; decide, ?_, fun e he => ?_⟩
  · unfold Asc cLt
    simp
  · simp only [List.mem_cons, List.not_mem_nil, or_false] at he
    rcases he with rfl | rfl | rfl
    · exact ⟨.inl ⟨rfl, by show (0 : Int) ≤ 0; decide, by show (0 : Int) < l0.2.2.2; omega⟩, by decide, by decide⟩
    · exact ⟨.inl ⟨rfl, by show (0 : Int) ≤ 1; decide, by show (1 : Int) < l0.2.2.2; omega⟩, by decide, by decide⟩
    · exact ⟨.inr ⟨rfl, by show (0 : Int) ≤ 0; decide, by show (0 : Int) < l1.2.2.2; omega⟩, by decide, by decide⟩
theorem zero_cell {l0 l1 : Pl} (ok : CatOk l0 l1) : CellOk l0 l1 (0, 0) := .inl ⟨rfl, by show (0 : Int) ≤ 0; decide, by show (0 : Int) < l0.2.2.2; have := ok.p0.c0; omega⟩
theorem one_merge (a : Addr) (v : V) : mergeT [] [(ck (0, 0), a, v)] = [(ck (0, 0), v)] := rfl
theorem three_merge (a b c : Addr) : mergeT [] [(ck (0, 0), a, V.int 0), (ck (0, 1), b, V.int 1), (ck (1, 0), c, V.int 3)] = [((0, 0), 0), ((0, 1), 1), ((1, 0), 3)].map rawKv := rfl
/-- what stands between two cells -/
structure Good (T N pl d rw' : Addr) (l0 l1 : Pl) (G : Cl → Gn) (kvs : List (List Key × V)) (H : Hp) (du : Addr) (rs : List (Cl × Int)) : Prop where
  town : Town H T N
  cat : CatAt H pl l0 l1
  dic : H d = some (.dT kvs)
  tab : TabIs H kvs l0 l1 G
  raws : RawsAt H rw' rs
  due : DueAt H du (hits G rs)
  duT : du ≠ T
  duN : du ≠ N
  asc : Asc rs
  mem : ∀ e ∈ rs, CellOk l0 l1 e.1 ∧ 0 ≤ e.2 ∧ e.2 ≤ 100000
theorem hit_bd {l0 l1 : Pl} {es : List (Cl × Int)} (okc : CatOk l0 l1) (h : EvOk l0 l1 es) : ∀ e ∈ es, TS.Bd 2000 (hitL e) := fun e he => by
  obtain ⟨h1, h2, h3⟩ := h.mem e he
  have hb := cell_bd okc h1
  have b1 := hb e.1.1 (by unfold cInts; simp)
  have b2 := hb e.1.2 (by unfold cInts; simp)
  intro m hm
  have hm : m = e.1.1 ∨ m = e.1.2 ∨ m = e.2 := by
    unfold hitL at hm
    simpa using hm
  omega
end K14
/-! the law: its two loops whole -/
namespace K14
open L2 PySem PySem.Spec PyProof.Rows
section
variable {K : PySem.W.Frag} {mg : Str → Option Value} {P : Program} {w : World} {base : Heap} {f : Addr} {cdv : Value} {A : Around} {outer : List Env} {s : Shared} {H0 : Hp} {E : XK}
theorem loop1 (hr : LR 6 A s f cdv) (B : Bl mg) (cD : C8.Cal P w K mg base 1 "_law_draw" spDraw []) (cS : C8.Cal P w K mg base 2 "_law_share" spShare []) (cA : C8.Cal P w K mg base 3 "_law_any_share" spAny []) :
    ∃ t, PS (LX P w K mg base f cdv A outer s H0 E) (stL 3) t ∧ ∀ (D : Ends) (sc T N pl d : Addr) (v4 v5 v6 v7 v8 v9 v10 v11 v12 v13 v14 v15 v16 : Option V) (l0 l1 : Pl) (H : Hp),
      Town H T N → CatOk l0 l1 → CatAt H pl l0 l1 → H d = some (.dT []) →
      (∀ u4 u5 u6 G' kvs' H', Town H' T N → CatAt H' pl l0 l1 → H' d = some (.dT kvs') → TabIs H' kvs' l0 l1 G' → (∀ c, GnOk (G' c)) →
        D.nx [some (.ref sc), some (.ref T), some (.ref pl), some (.ref d), u4, u5, u6, v7, v8, v9, v10, v11, v12, v13, v14, v15, v16] H') →
      t D [some (.ref sc), some (.ref T), some (.ref pl), some (.ref d), v4, v5, v6, v7, v8, v9, v10, v11, v12, v13, v14, v15, v16] H := by
  obtain ⟨tb, h1, h2⟩ := turn1 (outer := outer) (H0 := H0) (E := E) hr cD cS cA
  refine ⟨_, ps_for PassesOwn.never rfl (pi_range1 (by rfl) B.range (pa_cons (C8.pe_c cD hr (by decide) (by rfl) (pa_cons (pv 1) (pa_cons pe_int pa_nil))) pa_nil)) (pg_name (i := 4) scL.nd rfl (.inl rfl)) h1, ?_⟩
  intro D sc T N pl d v4 v5 v6 v7 v8 v9 v10 v11 v12 v13 v14 v15 v16 l0 l1 H ht okc hc hd k
  refine ⟨_, rfl, T, N, 5, rfl, ht, by decide, by decide, fun n H1 n0 n1 b1 t1 => ?_⟩
  refine ⟨n, rfl, by omega, by omega, for_range (lo := 0) (n := n.toNat) (fun i σ H' => ∃ (u4 u5 u6 : Option V) (G : Cl → Gn) (kvs : List (List Key × V)), σ = [some (.ref sc), some (.ref T), some (.ref pl), some (.ref d), u4, u5, u6, v7, v8, v9, v10, v11, v12, v13, v14, v15, v16] ∧
      Town H' T N ∧ CatAt H' pl l0 l1 ∧ H' d = some (.dT kvs) ∧ TabIs H' kvs l0 l1 G ∧ (∀ c, GnOk (G c)) ∧ kvs.length ≤ i)
    ⟨v4, v5, v6, fun _ => dft, [], rfl, t1, hc.to (b1.kt ht), b1.dic ht hd, tab_empty _ _ _, fun _ => dft_ok, Nat.le_refl _⟩ ?_ ?_⟩
  · rintro i σ H2 hi ⟨u4, u5, u6, G, kvs, rfl, t2, hc2, hd2, tb2, hG, hl⟩
    exact h2 _ sc T N pl d _ u5 u6 v7 v8 v9 v10 v11 v12 v13 v14 v15 v16 l0 l1 G kvs H2 t2 okc hc2 hd2 tb2 hG (by omega) fun w5 w6 G' kvs' H' t' hc' hd' tb' hG' hl' => ⟨_, w5, w6, G', kvs', rfl, t', hc', hd', tb', hG', by omega⟩
  · rintro σ H2 ⟨u4, u5, u6, G, kvs, rfl, t2, hc2, hd2, tb2, hG, hl⟩
    exact k u4 u5 u6 G kvs H2 t2 hc2 hd2 tb2 hG
theorem loop2 (hr : LR 6 A s f cdv) (B : Bl mg) (cD : C8.Cal P w K mg base 1 "_law_draw" spDraw []) (cS : C8.Cal P w K mg base 2 "_law_share" spShare []) (cA : C8.Cal P w K mg base 3 "_law_any_share" spAny [])
    (cLP : C8.Cal P w K mg base 3 "_law_plus" (spTwo plus) []) (cLM : C8.Cal P w K mg base 3 "_law_minus" (spTwo minus) []) (cLT : C8.Cal P w K mg base 3 "_law_times" (spTwo times) [])
    (cCh : C8.Cal P w K mg base 6 "charge" spCharge []) (cRw : C8.Cal P w K mg base 6 "raw_of" spRawOf []) :
    ∃ t, PS (LX P w K mg base f cdv A outer s H0 E) (stL 6) t ∧ ∀ (D : Ends) (sc T N pl d rw' du : Addr) (v4 v5 v6 v9 v10 v11 v12 v13 v14 v15 v16 : Option V) (l0 l1 : Pl) (G : Cl → Gn) (kvs : List (List Key × V)) (H : Hp),
      CatOk l0 l1 → (∀ c, GnOk (G c)) → rw' ≠ d → Good T N pl d rw' l0 l1 G kvs H du [] →
      (∀ u5 u6 du' u9 u10 u11 u12 u13 u14 u15 rs' H', Good T N pl d rw' l0 l1 G kvs H' du' rs' → rs'.length ≤ 36 →
        D.nx [some (.ref sc), some (.ref T), some (.ref pl), some (.ref d), v4, u5, u6, some (.ref rw'), some (.ref du'), u9, u10, u11, u12, u13, u14, u15, v16] H') →
      t D [some (.ref sc), some (.ref T), some (.ref pl), some (.ref d), v4, v5, v6, some (.ref rw'), some (.ref du), v9, v10, v11, v12, v13, v14, v15, v16] H := by
  obtain ⟨tb, h1, h2⟩ := turn2 (outer := outer) (H0 := H0) (E := E) hr B cD cS cA cLP cLM cLT cCh cRw
  refine ⟨_, ps_for PassesOwn.never rfl (pi_range1 (by rfl) B.range (pa_cons pe_int pa_nil)) (pg_name (i := 5) scL.nd rfl (.inl rfl))
    (pss_one (ps_for PassesOwn.never rfl (pi_range1 (by rfl) B.range (pa_cons (pe_ix ix_tup (pe_ix ix_tup (pv 2) (pv 5) (fun _ _ => rfl)) pe_int (fun _ _ => rfl)) pa_nil)) (pg_name (i := 9) scL.nd rfl (.inl rfl)) h1)), ?_⟩
  intro D sc T N pl d rw' du v4 v5 v6 v9 v10 v11 v12 v13 v14 v15 v16 l0 l1 G kvs H okc hG nrd gd k
  refine ⟨2, rfl, by decide, by decide, for_range (lo := 0) (n := 2) (fun i σ H' => ∃ (u5 u6 u9 u10 u11 u12 u13 u14 u15 : Option V) (du' : Addr) (rs : List (Cl × Int)),
      σ = [some (.ref sc), some (.ref T), some (.ref pl), some (.ref d), v4, u5, u6, some (.ref rw'), some (.ref du'), u9, u10, u11, u12, u13, u14, u15, v16] ∧ Good T N pl d rw' l0 l1 G kvs H' du' rs ∧ (∀ e ∈ rs, e.1.1 < (i : Int)) ∧ rs.length ≤ 18 * i)
    ⟨v5, v6, v9, v10, v11, v12, v13, v14, v15, du, [], rfl, gd, fun e he => by simp at he, Nat.zero_le _⟩ ?_ ?_⟩
  · rintro i σ H1 hi ⟨u5, u6, u9, u10, u11, u12, u13, u14, u15, du1, rs1, rfl, g1, m1, n1⟩
    obtain ⟨xs, pp, l, e1, e2, e3, e4, e5, e6⟩ := g1.cat.at okc (i := 0 + (i : Int)) (by omega)
    refine ⟨_, rfl, _, rfl, pl, _, _, _, rfl, rfl, SqT.of e1, e2, pp, _, _, _, rfl, rfl, SqT.of e3, rfl, l.2.2.2, rfl, by omega, by omega, for_range (lo := 0) (n := l.2.2.2.toNat) (fun j σ H' => ∃ (u6 u9 u10 u11 u12 u13 u14 u15 : Option V) (du' : Addr) (rs : List (Cl × Int)),
        σ = [some (.ref sc), some (.ref T), some (.ref pl), some (.ref d), v4, some (.int (0 + (i : Int))), u6, some (.ref rw'), some (.ref du'), u9, u10, u11, u12, u13, u14, u15, v16] ∧ Good T N pl d rw' l0 l1 G kvs H' du' rs ∧
        (∀ e ∈ rs, e.1.1 < (i : Int) ∨ (e.1.1 = (i : Int) ∧ e.1.2 < (j : Int))) ∧ rs.length ≤ 18 * i + j)
      ⟨u6, u9, u10, u11, u12, u13, u14, u15, du1, rs1, rfl, g1, fun e he => .inl (m1 e he), n1⟩ ?_ ?_⟩
    · rintro j σ H2 hj ⟨w6, w9, w10, w11, w12, w13, w14, w15, du2, rs2, rfl, g2, m2, n2⟩
      have hcell : CellOk l0 l1 (0 + (i : Int), 0 + (j : Int)) := e4 _ (by omega) (by omega)
      have hlt : ∀ e ∈ rs2, cLt e.1 (0 + (i : Int), 0 + (j : Int)) := fun e he => by
        have := m2 e he
        show e.1.1 < 0 + (i : Int) ∨ (e.1.1 = 0 + (i : Int) ∧ e.1.2 < 0 + (j : Int))
        omega
      refine h2 _ sc T N pl d rw' du2 (0 + (i : Int), 0 + (j : Int)) v4 w6 w10 w11 w12 w13 w14 w15 v16 l0 l1 G kvs rs2 H2 g2.town okc g2.cat g2.dic g2.tab hG g2.raws nrd g2.due g2.duT g2.duN hcell
        (fun e he z => cLt_irrefl (z ▸ hlt e he)) (by omega) fun x6 x10 x11 x12 x13 x14 x15 du3 rs3 H3 t3 c3 d3 tb3 r3 q3 dT dN hrs => ?_
      rcases hrs with rfl | ⟨r, r0, r1, rfl⟩
      · exact ⟨x6, _, x10, x11, x12, x13, x14, x15, du3, rs3, rfl, ⟨t3, c3, d3, tb3, r3, q3, dT, dN, g2.asc, g2.mem⟩, fun e he => by have := m2 e he; omega, by omega⟩
      · refine ⟨x6, _, x10, x11, x12, x13, x14, x15, du3, _, rfl, ⟨t3, c3, d3, tb3, r3, q3, dT, dN, asc_snoc g2.asc hlt, fun e he => ?_⟩, fun e he => ?_, ?_⟩
        · rcases List.mem_append.mp he with q | q
          · exact g2.mem e q
          · have q := List.mem_singleton.mp q
            subst q
            exact ⟨hcell, r0, r1⟩
        · rcases List.mem_append.mp he with q | q
          · have := m2 e q
            omega
          · have q := List.mem_singleton.mp q
            subst q
            refine .inr ⟨?_, ?_⟩
            · show 0 + (i : Int) = (i : Int)
              omega
            · show 0 + (j : Int) < ((j + 1 : Nat) : Int)
              omega
        · rw [List.length_append]
          show rs2.length + 1 ≤ _
          omega
    · rintro σ H2 ⟨w6, w9, w10, w11, w12, w13, w14, w15, du2, rs2, rfl, g2, m2, n2⟩
      refine ⟨_, w6, w9, w10, w11, w12, w13, w14, w15, du2, rs2, rfl, g2, fun e he => ?_, by omega⟩
      have := m2 e he
      omega
  · rintro σ H1 ⟨u5, u6, u9, u10, u11, u12, u13, u14, u15, du1, rs1, rfl, g1, m1, n1⟩
    exact k u5 u6 du1 u9 u10 u11 u12 u13 u14 u15 rs1 H1 g1 n1
end
end K14
/-! the law: its end, and the whole -/
namespace K14
open L2 PySem PySem.Spec PyProof.Rows
theorem eqD_same {Q : VK} {H : Hp} {d : PyData} (h : SeqAt.shaped d = true) (q : Q (.bl true) H) : Q (.bl (PyData.eqv d d)) H := by
  rw [eqv_self h]
  exact q
theorem ev_one {H : Hp} {q b : Addr} {e : Cl × Int} (h : H q = some (.tup [.ref b])) (hb : HitAt H b e) : EvAt H q [e] := ⟨[b], h, .cons hb .nil⟩
theorem ev_two {H : Hp} {q b c : Addr} {e e' : Cl × Int} (h : H q = some (.tup [.ref b, .ref c])) (hb : HitAt H b e) (hc : HitAt H c e') : EvAt H q [e, e'] := ⟨[b, c], h, .cons hb (.cons hc .nil)⟩
theorem three_sz : (3 : Nat) ≤ sizeLine := by decide
theorem one_sz1 : (1 : Nat) ≤ sizeLine := by decide
def spLaw (K : PySem.W.Frag) : Sp := fun vs H Q _ => ∃ (a : Addr) (ns : List Int), vs = [.ref a] ∧ SqL K H a (ns.map V.int) ∧ ns.length ≤ 63 ∧ ∀ H', Q (.bl true) H'
section
variable {K : PySem.W.Frag} {mg : Str → Option Value} {P : Program} {w : World} {base : Heap} {f : Addr} {cdv : Value} {A : Around} {outer : List Env} {s : Shared} {H0 : Hp} {E : XK}
theorem tail1 (hr : LR 6 A s f cdv) (B : Bl mg) (cG : C8.Cal P w K mg base 6 "charged" spCharged []) (cV : C8.Cal P w K mg base 6 "is_event" spIsEvent []) :
    ∃ t, PS (LX P w K mg base f cdv A outer s H0 E) (stL 7) t ∧ ∀ (D : Ends) (sc T N pl d rw' du : Addr) (v4 v5 v6 v9 v10 v11 v12 v13 v14 v15 v16 : Option V) (l0 l1 : Pl) (G : Cl → Gn) (kvs : List (List Key × V)) (rs : List (Cl × Int)) (H : Hp),
      CatOk l0 l1 → (∀ c, GnOk (G c)) → Good T N pl d rw' l0 l1 G kvs H du rs → rs.length ≤ 36 →
      (∀ H', CatAt H' pl l0 l1 → D.nx [some (.ref sc), some (.ref T), some (.ref pl), some (.ref d), v4, v5, v6, some (.ref rw'), some (.ref du), v9, v10, v11, v12, v13, v14, v15, v16] H') →
      t D [some (.ref sc), some (.ref T), some (.ref pl), some (.ref d), v4, v5, v6, some (.ref rw'), some (.ref du), v9, v10, v11, v12, v13, v14, v15, v16] H := by
  refine ⟨_, ps_if (PW.pt (pw_or (pt_cmpR (op_neD hr.units) (C8.pe_c cG hr (by decide) (by rfl) (pa_cons (pv 2) (pa_cons (pv 3) (pa_cons (pv 7) pa_nil))))
      (pe_callTy call_tuple_of (by rfl) B.tuple bi_tupleT (pa_cons (pe_callB call_sortHits (by rfl) B.sorted bi_sorted (pa_cons (pv 8) pa_nil)) pa_nil)) (nomark _))
    (pw_or1 (pt_cmpR op_isnot_bl (C8.pe_c cV hr (by decide) (by rfl) (pa_cons (pv 2) (pa_cons (C8.pe_c cG hr (by decide) (by rfl) (pa_cons (pv 2) (pa_cons (pv 3) (pa_cons (pv 7) pa_nil)))) pa_nil))) pe_bl (nomark _))))) (pss_one (ps_ret pe_bl)) pss_nil, ?_⟩
  intro D sc T N pl d rw' du v4 v5 v6 v9 v10 v11 v12 v13 v14 v15 v16 l0 l1 G kvs rs H okc hG g hl k
  have okr : RawsOk l0 l1 rs := ⟨by omega, g.asc, g.mem⟩
  have oke : EvOk l0 l1 (hits G rs) := hits_ok okr
  obtain ⟨bs, hbs, hp⟩ := g.due
  refine ⟨_, rfl, _, rfl, _, rfl, pl, d, rw', l0, l1, G, rs, rfl, g.cat, okc, ⟨kvs, g.dic, g.tab⟩, hG, g.raws, okr, fun q1 H1 s1 h1 => ?_⟩
  have hlen : (hits G rs).length < 64 := by have := oke.len; omega
  refine ⟨_, rfl, du, bs, hits G rs, rfl, s1 _ _ hbs, Paired.mapP hp fun b e q => q.to (kt s1), oke.asc, hlen, hit_bd okc oke, fun lp nlp => ?_⟩
  have s2 := same_new (o := .lst (bs.map V.ref)) nlp
  refine ⟨lp, _, rfl, .inl ⟨SqL.of upd_same, fun q2 nq2 => ?_⟩⟩
  have s3 := same_new (o := .tup (bs.map V.ref)) nq2
  have sA := (s1.trans s2).trans s3
  have h2 : EvAt (upd (upd H1 lp (.lst (bs.map V.ref))) q2 (.tup (bs.map V.ref))) q2 (hits G rs) := ⟨bs, upd_same, Paired.mapP hp fun b e q => q.to (kt sA)⟩
  refine ⟨_, _, ev_dp (h1.to (kt (s2.trans s3))), ev_dp h2, evD_shaped _, evD_shaped _, _, rfl, ?_⟩
  rw [eqv_self (evD_shaped (hits G rs))]
  refine iteF ?_
  refine ⟨_, rfl, _, rfl, _, rfl, _, rfl, pl, d, rw', l0, l1, G, rs, rfl, g.cat.to (kt sA), okc, ⟨kvs, sA _ _ g.dic, g.tab.to (kt sA)⟩, hG, g.raws.to sA, okr, fun q3 H3 s4 h3 => ?_⟩
  have sB := sA.trans s4
  refine ⟨pl, q3, l0, l1, hits G rs, rfl, g.cat.to (kt sB), okc, h3, oke, fun H4 s5 => ?_⟩
  exact ⟨true, true, rfl, rfl, _, rfl, iteF (k H4 (g.cat.to (kt (sB.trans s5))))⟩
theorem tail2 (hr : LR 6 A s f cdv) (B : Bl mg) (cG : C8.Cal P w K mg base 6 "charged" spCharged []) (cCh : C8.Cal P w K mg base 6 "charge" spCharge []) :
    ∃ t u, PS (LX P w K mg base f cdv A outer s H0 E) (stL 8) t ∧ PS (LX P w K mg base f cdv A outer s H0 E) (stL 9) u ∧ ∀ (D : Ends) (sc T pl d rw' du : Addr) (v4 v5 v6 v9 v10 v11 v12 v13 v14 v15 v16 : Option V) (l0 l1 : Pl) (H : Hp),
      CatOk l0 l1 → CatAt H pl l0 l1 →
      (∀ u16 H', CatAt H' pl l0 l1 → D.nx [some (.ref sc), some (.ref T), some (.ref pl), some (.ref d), v4, v5, v6, some (.ref rw'), some (.ref du), v9, v10, v11, v12, v13, v14, v15, u16] H') →
      tSeq t u D [some (.ref sc), some (.ref T), some (.ref pl), some (.ref d), v4, v5, v6, some (.ref rw'), some (.ref du), v9, v10, v11, v12, v13, v14, v15, v16] H := by
  refine ⟨_, _, ps_set (i := 16) scL.nd rfl (.inl rfl) (pe_dispT hr (pps_cons (pe_tup (pa_cons pe_int (pa_cons pe_int pa_nil))) (pe_tup (pa_cons (pe_tup (pa_cons pe_int (pa_cons pe_int pa_nil))) (pa_cons (pe_tup (pa_cons pe_int (pa_cons pe_int pa_nil))) pa_nil))) pps_nil) (by rfl) (by rfl) (fun z => by cases z) (by decide)),
    ps_if (PW.pt (pw_or (pt_cmpR (op_neD hr.units) (C8.pe_c cG hr (by decide) (by rfl) (pa_cons (pv 2) (pa_cons (pv 16) (pa_cons (pe_dispT hr (pps_cons (pe_tup (pa_cons pe_int (pa_cons pe_int pa_nil))) pe_int pps_nil) (by rfl) (by rfl) (fun z => by cases z) (by decide)) pa_nil))))
        (pe_tup (pa_cons (pe_tup (pa_cons pe_int (pa_cons pe_int (pa_cons pe_int pa_nil)))) pa_nil)) (nomark _))
      (pw_or1 (pt_cmpR (op_neD hr.units) (C8.pe_c cCh hr (by decide) (by rfl) (pa_cons (pv 2) (pa_cons pe_dnewT (pa_cons (pe_tup (pa_cons pe_int (pa_cons pe_int pa_nil))) (pa_cons pe_int pa_nil))))) (pe_tup (pa_cons pe_int (pa_cons pe_int pa_nil))) (nomark _))))) (pss_one (ps_ret pe_bl)) pss_nil, ?_⟩
  intro D sc T pl d rw' du v4 v5 v6 v9 v10 v11 v12 v13 v14 v15 v16 l0 l1 H okc hc k
  -- the table of one cell
  intro o1 no1
  have s1 := same_new (o := .dT []) no1
  refine ⟨two_sz, fun k1 nk1 => ⟨two_sz, fun p1 n1 => ⟨two_sz, fun p2 n2 => ⟨two_sz, fun p3 n3 => ?_⟩⟩⟩⟩
  have s2 := same_new (o := .tup [V.int 0, .int 0]) nk1
  have s3 := same_new (o := .tup [V.int 0, .int 1]) n1
  have s4 := same_new (o := .tup [V.int 1, .int 100]) n2
  have s5 := same_new (o := .tup [V.ref p1, .ref p2]) n3
  have sA := (s2.trans s3).trans (s4.trans s5)
  have ho1 := sA o1 _ (upd_same (H := H) (a := o1) (o := .dT []))
  have hk1 := ((s3.trans s4).trans s5) k1 _ upd_same
  have hgn : GnAt _ p3 ((0, 1), (1, 100)) := ⟨p1, p2, upd_same, s5 _ _ (s4 _ _ upd_same), s5 _ _ upd_same⟩
  have sB := s1.trans sA
  refine ⟨ho1, [(ck (0, 0), k1, .ref p3)], rfl, (by show 1 ≤ 15; decide), fun e he => ?_, ?_⟩
  · have he := List.mem_singleton.mp he
    subst he
    exact hk1
  have hc2 := hc.to (kt sB)
  clear hk1
  generalize upd (upd (upd (upd (upd H o1 (.dT [])) k1 (.tup [V.int 0, .int 0])) p1 (.tup [V.int 0, .int 1])) p2 (.tup [V.int 1, .int 100])) p3 (.tup [V.ref p1, .ref p2]) = H2 at hgn ho1 hc2
  have kt3 : Kt H2 (upd H2 o1 (.dT (mergeT [] [(ck (0, 0), k1, .ref p3)]))) := fun b xs e => by
    rw [upd_ne (ne_of e ho1 (fun z => nomatch z))]
    exact e
  have ht3 : TabAt (upd H2 o1 (.dT (mergeT [] [(ck (0, 0), k1, .ref p3)]))) o1 l0 l1 oneG :=
    ⟨_, upd_same, (tab_empty H2 l0 l1).put kt3 (by decide) (c := (0, 0)) (zero_cell okc) (hgn.to kt3)⟩
  have hc3 := hc2.to kt3
  generalize upd H2 o1 (.dT (mergeT [] [(ck (0, 0), k1, .ref p3)])) = H3 at ht3 hc3
  -- charged
  refine ⟨_, rfl, _, rfl, fun o2 no2 => ?_⟩
  have s6 := same_new (o := .dT []) no2
  refine ⟨two_sz, fun k2 nk2 => ?_⟩
  have s7 := same_new (o := .tup [V.int 0, .int 0]) nk2
  refine ⟨s7 _ _ upd_same, [(ck (0, 0), k2, .int 100000)], rfl, (by show 1 ≤ 15; decide), fun e he => ?_, ?_⟩
  · have he := List.mem_singleton.mp he
    subst he
    exact upd_same
  have ho2 := s7 o2 _ (upd_same (H := H3) (a := o2) (o := .dT []))
  have sC : Same H3 (upd (upd (upd H3 o2 (.dT [])) k2 (.tup [V.int 0, .int 0])) o2 (.dT (mergeT [] [(ck (0, 0), k2, .int 100000)]))) := fun b o e => by
    rw [upd_ne (ne_of_none e no2)]
    exact s7 _ _ (s6 _ _ e)
  have hr4 : RawsAt (upd (upd (upd H3 o2 (.dT [])) k2 (.tup [V.int 0, .int 0])) o2 (.dT (mergeT [] [(ck (0, 0), k2, .int 100000)]))) o2 [((0, 0), 100000)] := upd_same
  generalize upd (upd (upd H3 o2 (.dT [])) k2 (.tup [V.int 0, .int 0])) o2 (.dT (mergeT [] [(ck (0, 0), k2, .int 100000)])) = H4 at sC hr4
  refine ⟨pl, o1, o2, l0, l1, oneG, [((0, 0), 100000)], rfl, hc3.to (kt sC), okc, ht3.to sC, oneG_ok, hr4, one_raws okc, fun q1 H5 s8 h1 => ?_⟩
  rw [one_hits] at h1
  refine ⟨three_sz, fun t1 nt1 => ⟨one_sz1, fun t2 nt2 => ?_⟩⟩
  have s9 := same_new (o := .tup [V.int 0, .int 0, .int 1000]) nt1
  have s10 := same_new (o := .tup [V.ref t1]) nt2
  have h2 : EvAt _ t2 [((0, 0), 1000)] := ev_one upd_same (s10 _ _ (upd_same (H := H5) (a := t1) (o := .tup [V.int 0, .int 0, .int 1000])))
  refine ⟨_, _, ev_dp (h1.to (kt (s9.trans s10))), ev_dp h2, evD_shaped _, evD_shaped _, _, rfl, ?_⟩
  rw [eqv_self (evD_shaped [((0, 0), 1000)])]
  refine iteF ?_
  have sD := (sC.trans s8).trans (s9.trans s10)
  have hc6 := hc3.to (kt sD)
  clear h2
  generalize upd (upd H5 t1 (.tup [V.int 0, .int 0, .int 1000])) t2 (.tup [V.ref t1]) = H6 at hc6
  -- charge
  refine ⟨_, rfl, fun o3 no3 => ⟨two_sz, fun k3 nk3 => ?_⟩⟩
  have s11 := same_new (o := .dT []) no3
  have s12 := same_new (o := .tup [V.int 0, .int 0]) nk3
  have sE := s11.trans s12
  refine ⟨pl, o3, k3, l0, l1, fun _ => dft, (0, 0), 100000, rfl, hc6.to (kt sE), okc, ⟨[], s12 _ _ upd_same, tab_empty _ _ _⟩, fun _ => dft_ok, upd_same, zero_cell okc, by decide, by decide, fun q2 H7 s13 h3 => ?_⟩
  rw [dft_top] at h3
  refine ⟨two_sz, fun t3 nt3 => ?_⟩
  have s14 := same_new (o := .tup [V.int 100000, .int 1]) nt3
  refine ⟨shD (100000, 1), shD (100000, 1), shD_dp (h3.to (kt s14)), shD_dp upd_same, rfl, rfl, _, rfl, ?_⟩
  rw [eqv_self (shD_shaped (100000, 1))]
  exact iteF (k _ _ (hc6.to (kt ((sE.trans s13).trans s14))))
theorem tail3 (hr : LR 6 A s f cdv) (B : Bl mg) (cG : C8.Cal P w K mg base 6 "charged" spCharged []) (cCh : C8.Cal P w K mg base 6 "charge" spCharge []) :
    ∃ t, PS (LX P w K mg base f cdv A outer s H0 E) (stL 10) t ∧ ∀ (D : Ends) (sc T pl : Addr) (v3 v4 v5 v6 v7 v8 v9 v10 v11 v12 v13 v14 v15 v16 : Option V) (l0 l1 : Pl) (H : Hp),
      CatOk l0 l1 → CatAt H pl l0 l1 → (∀ H', D.rt (.bl true) H') →
      t D [some (.ref sc), some (.ref T), some (.ref pl), v3, v4, v5, v6, v7, v8, v9, v10, v11, v12, v13, v14, v15, v16] H := by
  refine ⟨_, ps_ret (pe_and (pe_cmpR (op_eqD hr.units) (C8.pe_c cG hr (by decide) (by rfl) (pa_cons (pv 2) (pa_cons pe_dnewT (pa_cons (pe_dispT hr (pps_cons (pe_tup (pa_cons pe_int (pa_cons pe_int pa_nil))) pe_int
        (pps_cons (pe_tup (pa_cons pe_int (pa_cons pe_int pa_nil))) pe_int (pps_cons (pe_tup (pa_cons pe_int (pa_cons pe_int pa_nil))) pe_int pps_nil))) (by rfl) (by rfl) (fun z => by cases z) (by decide)) pa_nil))))
      (pe_tup (pa_cons (pe_tup (pa_cons pe_int (pa_cons pe_int (pa_cons pe_int pa_nil)))) (pa_cons (pe_tup (pa_cons pe_int (pa_cons pe_int (pa_cons pe_int pa_nil)))) pa_nil))) (nomark _))
    (pe_one (pe_cmpR (op_eqD hr.units) (C8.pe_c cCh hr (by decide) (by rfl) (pa_cons (pv 2) (pa_cons pe_dnewT (pa_cons (pe_tup (pa_cons pe_int (pa_cons pe_int pa_nil))) (pa_cons pe_int pa_nil))))) (pe_tup (pa_cons pe_int (pa_cons pe_int pa_nil))) (nomark _)))), ?_⟩
  intro D sc T pl v3 v4 v5 v6 v7 v8 v9 v10 v11 v12 v13 v14 v15 v16 l0 l1 H okc hc k
  refine ⟨_, rfl, fun o1 no1 => ?_⟩
  have s1 := same_new (o := .dT []) no1
  intro o2 no2
  have s2 := same_new (o := .dT []) no2
  refine ⟨two_sz, fun k1 nk1 => ⟨two_sz, fun k2 nk2 => ⟨two_sz, fun k3 nk3 => ?_⟩⟩⟩
  have s3 := same_new (o := .tup [V.int 0, .int 0]) nk1
  have s4 := same_new (o := .tup [V.int 0, .int 1]) nk2
  have s5 := same_new (o := .tup [V.int 1, .int 0]) nk3
  have sA := (s3.trans s4).trans s5
  refine ⟨sA _ _ upd_same, [(ck (0, 0), k1, .int 0), (ck (0, 1), k2, .int 1), (ck (1, 0), k3, .int 3)], rfl, (by show 3 ≤ 15; decide), fun e he => ?_, ?_⟩
  · simp only [List.mem_cons, List.not_mem_nil, or_false] at he
    rcases he with rfl | rfl | rfl
    · exact s5 _ _ (s4 _ _ upd_same)
    · exact s5 _ _ upd_same
    · exact upd_same
  rw [three_merge]
  have sC : Same (upd H o1 (.dT [])) (upd (upd (upd (upd (upd (upd H o1 (.dT [])) o2 (.dT [])) k1 (.tup [V.int 0, .int 0])) k2 (.tup [V.int 0, .int 1])) k3 (.tup [V.int 1, .int 0])) o2 (.dT ([((0, 0), 0), ((0, 1), 1), ((1, 0), 3)].map rawKv))) := fun b o e => by
    rw [upd_ne (ne_of_none e no2)]
    exact sA _ _ (s2 _ _ e)
  have hr4 : RawsAt (upd (upd (upd (upd (upd (upd H o1 (.dT [])) o2 (.dT [])) k1 (.tup [V.int 0, .int 0])) k2 (.tup [V.int 0, .int 1])) k3 (.tup [V.int 1, .int 0])) o2 (.dT ([((0, 0), 0), ((0, 1), 1), ((1, 0), 3)].map rawKv))) o2 [((0, 0), 0), ((0, 1), 1), ((1, 0), 3)] := upd_same
  have ho1 := sC _ _ upd_same
  have sB := s1.trans sC
  clear sC sA
  generalize upd (upd (upd (upd (upd (upd H o1 (.dT [])) o2 (.dT [])) k1 (.tup [V.int 0, .int 0])) k2 (.tup [V.int 0, .int 1])) k3 (.tup [V.int 1, .int 0])) o2 (.dT ([((0, 0), 0), ((0, 1), 1), ((1, 0), 3)].map rawKv)) = H4 at sB hr4 ho1
  refine ⟨pl, o1, o2, l0, l1, fun _ => dft, [((0, 0), 0), ((0, 1), 1), ((1, 0), 3)], rfl, hc.to (kt sB), okc, ⟨[], ho1, tab_empty _ _ _⟩, fun _ => dft_ok, hr4, three_raws okc, fun q1 H5 s8 h1 => ?_⟩
  rw [dft_hits] at h1
  refine ⟨three_sz, fun t1 nt1 => ⟨three_sz, fun t2 nt2 => ⟨two_sz, fun t3 nt3 => ?_⟩⟩⟩
  have s9 := same_new (o := .tup [V.int 0, .int 1, .int 1]) nt1
  have s10 := same_new (o := .tup [V.int 1, .int 0, .int 3]) nt2
  have s11 := same_new (o := .tup [V.ref t1, .ref t2]) nt3
  have h2 : EvAt _ t3 [((0, 1), 1), ((1, 0), 3)] := ev_two upd_same (s11 _ _ (s10 _ _ (upd_same (H := H5) (a := t1) (o := .tup [V.int 0, .int 1, .int 1])))) (s11 _ _ upd_same)
  refine ⟨_, _, ev_dp (h1.to (kt ((s9.trans s10).trans s11))), ev_dp h2, evD_shaped _, evD_shaped _, ?_⟩
  rw [eqv_self (evD_shaped [((0, 1), 1), ((1, 0), 3)])]
  refine ⟨true, rfl, iteT ?_⟩
  have sD := (sB.trans s8).trans ((s9.trans s10).trans s11)
  have hc6 := hc.to (kt sD)
  clear h2
  generalize upd (upd (upd H5 t1 (.tup [V.int 0, .int 1, .int 1])) t2 (.tup [V.int 1, .int 0, .int 3])) t3 (.tup [V.ref t1, .ref t2]) = H6 at hc6
  refine ⟨_, rfl, fun o3 no3 => ⟨two_sz, fun k5 nk5 => ?_⟩⟩
  have s12 := same_new (o := .dT []) no3
  have s13 := same_new (o := .tup [V.int 0, .int 0]) nk5
  have sE := s12.trans s13
  refine ⟨pl, o3, k5, l0, l1, fun _ => dft, (0, 0), 0, rfl, hc6.to (kt sE), okc, ⟨[], s13 _ _ upd_same, tab_empty _ _ _⟩, fun _ => dft_ok, upd_same, zero_cell okc, by decide, by decide, fun q2 H7 s14 h3 => ?_⟩
  rw [dft_zero] at h3
  refine ⟨two_sz, fun t4 nt4 => ?_⟩
  have s15 := same_new (o := .tup [V.int 0, .int 1]) nt4
  refine ⟨shD (0, 1), shD (0, 1), shD_dp (h3.to (kt s15)), shD_dp upd_same, rfl, rfl, ?_⟩
  rw [eqv_self (shD_shaped (0, 1))]
  exact k _
end
end K14
/-! the law, whole -/
namespace K14
open L2 PySem PySem.Spec PyProof.Rows
section
variable {K : PySem.W.Frag} {mg : Str → Option Value} {P : Program} {w : World} {base : Heap}
theorem ok_law {fa : Addr} {fd : FuncData} (F : Fun K "law" "law" (top 43) fa fd) (B : Bl mg) (cO : C8.Cal P w K mg base 1 "_law_town" (spTown K) []) (cC : C8.Cal P w K mg base 2 "_law_catcher" spPlanes [])
    (cD : C8.Cal P w K mg base 1 "_law_draw" spDraw []) (cS : C8.Cal P w K mg base 2 "_law_share" spShare []) (cA : C8.Cal P w K mg base 3 "_law_any_share" spAny [])
    (cLP : C8.Cal P w K mg base 3 "_law_plus" (spTwo plus) []) (cLM : C8.Cal P w K mg base 3 "_law_minus" (spTwo minus) []) (cLT : C8.Cal P w K mg base 3 "_law_times" (spTwo times) [])
    (cCh : C8.Cal P w K mg base 6 "charge" spCharge []) (cRw : C8.Cal P w K mg base 6 "raw_of" spRawOf []) (cG : C8.Cal P w K mg base 6 "charged" spCharged []) (cV : C8.Cal P w K mg base 6 "is_event" spIsEvent []) :
    FnOk P w K mg base CX0 7 fa fd ["_law_script"] (spLaw K) := by
  refine F.ok scL (fun vs H Q E h => ?_) (fun cdv A outer s H vs Q E hr h => ?_)
  · obtain ⟨a, ns, rfl, _⟩ := h; rfl
  · obtain ⟨a, ns, rfl, hS, hl, q⟩ := h
    obtain ⟨u1, e1, f1⟩ := loop1 (outer := outer) (H0 := H) (E := E) hr B cD cS cA
    obtain ⟨u2, e2, f2⟩ := loop2 (outer := outer) (H0 := H) (E := E) hr B cD cS cA cLP cLM cLT cCh cRw
    obtain ⟨u3, e3, f3⟩ := tail1 (outer := outer) (H0 := H) (E := E) hr B cG cV
    obtain ⟨u4, w4, e4, g4, f4⟩ := tail2 (outer := outer) (H0 := H) (E := E) hr B cG cCh
    obtain ⟨u5, e5, f5⟩ := tail3 (outer := outer) (H0 := H) (E := E) hr B cG cCh
    refine ⟨_, pss_cons (ps_set (i := 1) scL.nd rfl (.inl rfl) (C8.pe_c cO hr (by decide) (by rfl) (pa_cons (pv 0) pa_nil)))
      (pss_cons (ps_set (i := 2) scL.nd rfl (.inl rfl) (C8.pe_c cC hr (by decide) (by rfl) (pa_cons (pv 1) (pa_cons pe_int pa_nil))))
      (pss_cons (ps_set (i := 3) scL.nd rfl (.inl rfl) pe_dnewT)
      (pss_cons e1
      (pss_cons (ps_set (i := 7) scL.nd rfl (.inl rfl) pe_dnewT)
      (pss_cons (ps_set (i := 8) scL.nd rfl (.inl rfl) (pe_lst pa_nil))
      (pss_cons e2 (pss_cons e3 (pss_cons e4 (pss_cons g4 (pss_one e5)))))))))), ?_⟩
    -- the town, the planes, an empty table
    refine ⟨_, rfl, a, ns, rfl, hS, hl, fun T N H1 s1 nT nN t1 => ?_⟩
    refine ⟨_, rfl, T, N, rfl, t1, fun pl l0 l1 H2 okc b2 t2 hc2 => ?_⟩
    intro d nd
    have s3 := same_new (o := .dT []) nd
    refine f1 _ a T N pl d none none none none none none none none none none none none none l0 l1 _ (t2.same s3) okc (hc2.to (kt s3)) upd_same fun x4 x5 x6 G kvs H4 t4 hc4 hd4 tb4 hG => ?_
    -- no raw numbers, nothing due
    intro rw' nrw
    have s5 := same_new (o := .dT []) nrw
    refine ⟨Nat.zero_le _, fun du ndu => ?_⟩
    have s6 := same_new (o := .lst []) ndu
    have s7 := s5.trans s6
    have hrw6 := s6 _ _ (upd_same (H := H4) (a := rw') (o := .dT []))
    obtain ⟨dT, dN⟩ := (t4.same s5).fresh ndu
    have nrd : rw' ≠ d := (ne_of_none hd4 nrw).symm
    refine f2 _ a T N pl d rw' du x4 x5 x6 none none none none none none none none l0 l1 G kvs _ okc hG nrd ⟨t4.same s7, hc4.to (kt s7), s7 _ _ hd4, tb4.to (kt s7), hrw6, ⟨[], upd_same, .nil⟩, dT, dN, List.Pairwise.nil, fun e he => by simp at he⟩ fun y5 y6 du' y9 y10 y11 y12 y13 y14 y15 rs H8 g8 l8 => ?_
    refine f3 _ a T N pl d rw' du' x4 y5 y6 y9 y10 y11 y12 y13 y14 y15 none l0 l1 G kvs rs H8 okc hG g8 l8 fun H9 hc9 => ?_
    refine f4 _ a T pl d rw' du' x4 y5 y6 y9 y10 y11 y12 y13 y14 y15 none l0 l1 H9 okc hc9 fun y16 H10 hc10 => ?_
    exact f5 _ a T pl (some (.ref d)) x4 y5 y6 (some (.ref rw')) (some (.ref du')) y9 y10 y11 y12 y13 y14 y15 y16 l0 l1 H10 okc hc10 q
end
end K14
/-! ### the end: what the top has bound -/
namespace K14
open L2 PySem PySem.Spec PyProof.Rows
theorem df_mk {K : PySem.W.Frag} {mg : Str → Option Value} {h : Heap} (X : K.In h) (G : h.Ns mainGlobals mg) {x : Str} {st : Stmt} {ps : List Str} {f : Addr} {oc : Value} {od an : Option Addr} {osl : Array (Option Value)} {kV doc pm cdv ct : Value} (a : PySem.W.nsIn K mainGlobals x = some (some (.ref f)))
    (l : K.lookup f = some ⟨oc, od, .func (PySem.W.fnOf x x (defArgs st) (defBody st) (defScope st) .none kV doc pm an cdv ct), osl⟩) (c : PySem.W.codeIn K cdv x = true) (k : PySem.W.keepIn K (.ref f) = true)
    (hb : ∀ (kV doc pm : Value) (an : Option Addr) (cdv ct : Value) (us : List Value), us.length = ps.length → bindArgs (PySem.W.fnOf x x (defArgs st) (defBody st) (defScope st) .none kV doc pm an cdv ct) ⟨us, []⟩ = pure (ps.zip us)) : Df K mg x st ps :=
  ⟨f, _, fun_mk l c k, PySem.W.mg_of X G a, (fun_mk l c k).binds hb⟩
theorem all_mk {l : PySem.W.OpenLaw} {w : World} {K : PySem.W.Frag} {h : Heap} {mg : Str → Option Value} {fa fl : Addr} (X : K.In h) (G : h.Ns mainGlobals mg) (hfa : mg "law" = some (.ref fa))
    {oc kV doc pm cdv ct : Value} {od an : Option Addr} {osl : Array (Option Value)} {tp th : Tok}
    (D4 : Df K mg "is_number" (top 4) ["thing"])
    (D5 : Df K mg "is_whole" (top 5) ["thing", "low", "high"])
    (D7 : Df K mg "common" (top 7) ["one", "other"])
    (D8 : Df K mg "share" (top 8) ["top", "below"])
    (D9 : Df K mg "is_share" (top 9) ["thing"])
    (D10 : Df K mg "plus" (top 10) ["one", "other"])
    (D11 : Df K mg "minus" (top 11) ["one", "other"])
    (D12 : Df K mg "times" (top 12) ["one", "other"])
    (D13 : Df K mg "whole" (top 13) ["number"])
    (D16 : Df K mg "is_plane" (top 16) ["thing"])
    (D17 : Df K mg "is_catcher" (top 17) ["thing"])
    (D18 : Df K mg "look_catcher" (top 18) ["thing"])
    (D19 : Df K mg "is_cell" (top 19) ["catcher", "thing"])
    (D20 : Df K mg "look_cell" (top 20) ["catcher", "thing"])
    (D22 : Df K mg "is_gain" (top 22) ["thing"])
    (D23 : Df K mg "look_table" (top 23) ["catcher", "table"])
    (D24 : Df K mg "charge_of" (top 24) ["gain", "raw"])
    (D25 : Df K mg "charge" (top 25) ["catcher", "table", "cell", "raw"])
    (D26 : Df K mg "raw_of" (top 26) ["catcher", "table", "cell", "amount"])
    (D27 : Df K mg "charged" (top 27) ["catcher", "table", "raws"])
    (D28 : Df K mg "charged_of" (top 28) ["table", "raws"])
    (D31 : Df K mg "is_event" (top 31) ["catcher", "thing"])
    (D32 : Df K mg "event_fits" (top 32) ["catcher", "thing"])
    (D34 : Df K mg "_law_town" (top 34) ["_law_script"])
    (D35 : Df K mg "_law_draw" (top 35) ["_law_town_here", "_law_count"])
    (D36 : Df K mg "_law_pick" (top 36) ["_law_town_here", "_law_some"])
    (D37 : Df K mg "_law_share" (top 37) ["_law_top", "_law_low"])
    (D38 : Df K mg "_law_plus" (top 38) ["_law_one", "_law_two"])
    (D39 : Df K mg "_law_minus" (top 39) ["_law_one", "_law_two"])
    (D40 : Df K mg "_law_times" (top 40) ["_law_one", "_law_two"])
    (D41 : Df K mg "_law_any_share" (top 41) ["_law_town_here", "_law_broad"])
    (D42 : Df K mg "_law_catcher" (top 42) ["_law_town_here", "_law_count"])
    (z_isinstance : PySem.W.nsIn K mainGlobals "isinstance" = some none)
    (z_int : PySem.W.nsIn K mainGlobals "int" = some none)
    (z_bool : PySem.W.nsIn K mainGlobals "bool" = some none)
    (z_tuple : PySem.W.nsIn K mainGlobals "tuple" = some none)
    (z_dict : PySem.W.nsIn K mainGlobals "dict" = some none)
    (z_abs : PySem.W.nsIn K mainGlobals "abs" = some none)
    (z_max : PySem.W.nsIn K mainGlobals "max" = some none)
    (z_min : PySem.W.nsIn K mainGlobals "min" = some none)
    (z_len : PySem.W.nsIn K mainGlobals "len" = some none)
    (z_list : PySem.W.nsIn K mainGlobals "list" = some none)
    (z_range : PySem.W.nsIn K mainGlobals "range" = some none)
    (z_all : PySem.W.nsIn K mainGlobals "all" = some none)
    (z_sorted : PySem.W.nsIn K mainGlobals "sorted" = some none)
    (mp : PySem.W.nsIn K mainGlobals "MOST_PLANES" = some (some (.int 8 tp))) (mh : PySem.W.nsIn K mainGlobals "MOST_HITS" = some (some (.int 60 th)))
    (aL : PySem.W.nsIn K mainGlobals "law" = some (some (.ref fl))) (lL : K.lookup fl = some ⟨oc, od, .func (PySem.W.fnOf "law" "law" (defArgs (top 43)) (defBody (top 43)) (defScope (top 43)) .none kV doc pm an cdv ct), osl⟩)
    (cL : PySem.W.codeIn K cdv "law" = true) (kL : PySem.W.keepIn K (.ref fl) = true) :
    ∃ fd : FuncData, (∀ (s : Shared) (v : Value), BindsTo s fd ⟨[v], []⟩ [("_law_script", v)]) ∧ ∀ base : Heap, K.In base → base.Ns mainGlobals mg → FnOk l.prog w K mg base CX0 7 fa fd ["_law_script"] (spLaw K) := by
  have e := hfa.symm.trans (PySem.W.mg_of X G aL)
  cases e
  have B : Bl mg := ⟨PySem.W.mg_none_of X G z_isinstance, PySem.W.mg_none_of X G z_int, PySem.W.mg_none_of X G z_bool, PySem.W.mg_none_of X G z_tuple, PySem.W.mg_none_of X G z_dict, PySem.W.mg_none_of X G z_abs, PySem.W.mg_none_of X G z_max, PySem.W.mg_none_of X G z_min, PySem.W.mg_none_of X G z_len, PySem.W.mg_none_of X G z_list, PySem.W.mg_none_of X G z_range, PySem.W.mg_none_of X G z_all, PySem.W.mg_none_of X G z_sorted⟩
  refine ⟨PySem.W.fnOf "law" "law" (defArgs (top 43)) (defBody (top 43)) (defScope (top 43)) .none kV doc pm an cdv ct, fun s v => .of_eq rfl, fun base _ _ => ?_⟩
  have c_num := ok_is_number (P := l.prog) (w := w) (base := base) D4 B
  have c_whole := ok_is_whole D5 B c_num
  have c_common := ok_common (P := l.prog) (w := w) (base := base) D7 B
  have c_share := ok_share D8 c_common
  have c_isShare := ok_is_share D9 B c_num c_common
  have c_plus := ok_plus D10 c_share
  have c_minus := ok_minus D11 c_share
  have c_times := ok_times D12 c_share
  have c_wh := ok_whole (P := l.prog) (w := w) (base := base) D13
  have c_plane := ok_is_plane D16 B c_whole
  have c_cat := ok_is_catcher D17 B ⟨_, PySem.W.mg_of X G mp⟩ c_plane
  have c_lcat := ok_look_catcher D18 c_cat
  have c_cell := ok_is_cell D19 B c_whole
  have c_lcell := ok_look_cell D20 c_cell
  have c_gain := ok_is_gain D22 B c_isShare
  have c_tab := ok_look_table D23 B c_cell c_gain
  have c_cof := ok_charge_of D24 c_times c_minus c_wh c_share
  have c_charge := ok_charge D25 c_lcat c_tab c_lcell c_whole c_cof
  have c_raw := ok_raw_of D26 c_lcat c_tab c_lcell c_isShare c_plus c_times
  have c_chof := ok_charged_of D28 B c_cof
  have c_charged := ok_charged D27 B c_lcat c_tab c_cell c_whole c_chof
  have c_fits := ok_fits D32 B ⟨_, PySem.W.mg_of X G mh⟩ c_cell c_whole
  have c_event := ok_is_event D31 c_lcat c_fits
  have c_town := ok_town (P := l.prog) (w := w) (base := base) D34 B
  have c_draw := ok_draw (P := l.prog) (w := w) (base := base) D35 B
  have c_pick := ok_pick D36 B c_draw
  have c_lshare := ok_lshare (P := l.prog) (w := w) (base := base) D37 B
  have c_lplus := ok_lplus D38 c_lshare
  have c_lminus := ok_lminus D39 c_lshare
  have c_ltimes := ok_ltimes D40 c_lshare
  have c_any := ok_any D41 c_lshare c_draw c_pick
  have c_planes := ok_planes D42 B c_draw
  exact ok_law (fun_mk (st := top 43) lL cL kL) B c_town c_planes c_draw c_lshare c_any c_lplus c_lminus c_ltimes c_charge c_raw c_charged c_event
theorem walk {l : PySem.W.OpenLaw} {q : Program} {loose : List Str} {XP : (Str → Option Value) → Heap → Prop} {YP : World → Heap → Prop} {d : DefRec} {K : Params → PySem.W.Frag} (hn : l.most = some 63) (hdf : d.params.defaults = []) (hY : ∀ (w : World) (h : Heap), YP w h → (K w.params).In h)
    (F : ∀ (w : World) (mg : Str → Option Value) (fa : Addr) (h : Heap), (K w.params).In h → h.Ns mainGlobals mg → mg d.name = some (.ref fa) → ∃ fd : FuncData, (∀ (s : Shared) (u : Value), BindsTo s fd ⟨[u], []⟩ [("_law_script", u)]) ∧
      ∀ base : Heap, (K w.params).In base → base.Ns mainGlobals mg → FnOk l.prog w (K w.params) mg base CX0 7 fa fd ["_law_script"] (spLaw (K w.params))) : PySem.W.WalkO q loose XP YP l.row.toRowW d [] (fun f vs => PySem.call f vs) :=
  L2.walk_of (n := 63) (k := 7) (x := "_law_script") (CX := fun _ => CX0) (sp := fun w => spLaw (K w.params)) hn (by decide) hdf ⟨rfl, by decide, by decide⟩ hY F (fun _ _ a ns hl _ hS => ⟨a, ns, rfl, hS, hl, fun _ => rfl⟩) fun _ _ _ _ _ z => z
end K14
open PySem PySem.W PyProof.Rows
set_option maxRecDepth 100000 in
set_option maxHeartbeats 0 in
theorem PySem.Challenge.cw_tracecatch_k14_whole_gains_holds : PySem.Challenge.rw_tracecatch_k14_whole_gains.Holds := by
  w_on; o_law; k_head; (case hw => w_witness2)
  k_fill
  refine K14.walk (l := PySem.Challenge.rw_tracecatch_k14_whole_gains) rfl rfl (fun w h Y => PySem.W.kIn_of Y) ?F
  case F =>
    intro w mg fa h KX G hmg
    refine' K14.all_mk KX G hmg ?D4 ?D5 ?D7 ?D8 ?D9 ?D10 ?D11 ?D12 ?D13 ?D16 ?D17 ?D18 ?D19 ?D20 ?D22 ?D23 ?D24 ?D25 ?D26 ?D27 ?D28 ?D31 ?D32 ?D34 ?D35 ?D36 ?D37 ?D38 ?D39 ?D40 ?D41 ?D42 ?z_isinstance ?z_int ?z_bool ?z_tuple ?z_dict ?z_abs ?z_max ?z_min ?z_len ?z_list ?z_range ?z_all ?z_sorted ?mp ?mh ?aL ?lL ?cL ?kL
    (case D4 => (refine' K14.df_mk KX G ?a ?l ?c ?k ?b; (case a => k_is); (case l => k_is); (case c => k_is); (case k => k_is); (case b => exact fun _ _ _ _ _ _ us hl => match us, hl with | [_], _ => rfl)))
    (case D5 => (refine' K14.df_mk KX G ?a ?l ?c ?k ?b; (case a => k_is); (case l => k_is); (case c => k_is); (case k => k_is); (case b => exact fun _ _ _ _ _ _ us hl => match us, hl with | [_, _, _], _ => rfl)))
    (case D7 => (refine' K14.df_mk KX G ?a ?l ?c ?k ?b; (case a => k_is); (case l => k_is); (case c => k_is); (case k => k_is); (case b => exact fun _ _ _ _ _ _ us hl => match us, hl with | [_, _], _ => rfl)))
    (case D8 => (refine' K14.df_mk KX G ?a ?l ?c ?k ?b; (case a => k_is); (case l => k_is); (case c => k_is); (case k => k_is); (case b => exact fun _ _ _ _ _ _ us hl => match us, hl with | [_, _], _ => rfl)))
    (case D9 => (refine' K14.df_mk KX G ?a ?l ?c ?k ?b; (case a => k_is); (case l => k_is); (case c => k_is); (case k => k_is); (case b => exact fun _ _ _ _ _ _ us hl => match us, hl with | [_], _ => rfl)))
    (case D10 => (refine' K14.df_mk KX G ?a ?l ?c ?k ?b; (case a => k_is); (case l => k_is); (case c => k_is); (case k => k_is); (case b => exact fun _ _ _ _ _ _ us hl => match us, hl with | [_, _], _ => rfl)))
    (case D11 => (refine' K14.df_mk KX G ?a ?l ?c ?k ?b; (case a => k_is); (case l => k_is); (case c => k_is); (case k => k_is); (case b => exact fun _ _ _ _ _ _ us hl => match us, hl with | [_, _], _ => rfl)))
    (case D12 => (refine' K14.df_mk KX G ?a ?l ?c ?k ?b; (case a => k_is); (case l => k_is); (case c => k_is); (case k => k_is); (case b => exact fun _ _ _ _ _ _ us hl => match us, hl with | [_, _], _ => rfl)))
    (case D13 => (refine' K14.df_mk KX G ?a ?l ?c ?k ?b; (case a => k_is); (case l => k_is); (case c => k_is); (case k => k_is); (case b => exact fun _ _ _ _ _ _ us hl => match us, hl with | [_], _ => rfl)))
    (case D16 => (refine' K14.df_mk KX G ?a ?l ?c ?k ?b; (case a => k_is); (case l => k_is); (case c => k_is); (case k => k_is); (case b => exact fun _ _ _ _ _ _ us hl => match us, hl with | [_], _ => rfl)))
    (case D17 => (refine' K14.df_mk KX G ?a ?l ?c ?k ?b; (case a => k_is); (case l => k_is); (case c => k_is); (case k => k_is); (case b => exact fun _ _ _ _ _ _ us hl => match us, hl with | [_], _ => rfl)))
    (case D18 => (refine' K14.df_mk KX G ?a ?l ?c ?k ?b; (case a => k_is); (case l => k_is); (case c => k_is); (case k => k_is); (case b => exact fun _ _ _ _ _ _ us hl => match us, hl with | [_], _ => rfl)))
    (case D19 => (refine' K14.df_mk KX G ?a ?l ?c ?k ?b; (case a => k_is); (case l => k_is); (case c => k_is); (case k => k_is); (case b => exact fun _ _ _ _ _ _ us hl => match us, hl with | [_, _], _ => rfl)))
    (case D20 => (refine' K14.df_mk KX G ?a ?l ?c ?k ?b; (case a => k_is); (case l => k_is); (case c => k_is); (case k => k_is); (case b => exact fun _ _ _ _ _ _ us hl => match us, hl with | [_, _], _ => rfl)))
    (case D22 => (refine' K14.df_mk KX G ?a ?l ?c ?k ?b; (case a => k_is); (case l => k_is); (case c => k_is); (case k => k_is); (case b => exact fun _ _ _ _ _ _ us hl => match us, hl with | [_], _ => rfl)))
    (case D23 => (refine' K14.df_mk KX G ?a ?l ?c ?k ?b; (case a => k_is); (case l => k_is); (case c => k_is); (case k => k_is); (case b => exact fun _ _ _ _ _ _ us hl => match us, hl with | [_, _], _ => rfl)))
    (case D24 => (refine' K14.df_mk KX G ?a ?l ?c ?k ?b; (case a => k_is); (case l => k_is); (case c => k_is); (case k => k_is); (case b => exact fun _ _ _ _ _ _ us hl => match us, hl with | [_, _], _ => rfl)))
    (case D25 => (refine' K14.df_mk KX G ?a ?l ?c ?k ?b; (case a => k_is); (case l => k_is); (case c => k_is); (case k => k_is); (case b => exact fun _ _ _ _ _ _ us hl => match us, hl with | [_, _, _, _], _ => rfl)))
    (case D26 => (refine' K14.df_mk KX G ?a ?l ?c ?k ?b; (case a => k_is); (case l => k_is); (case c => k_is); (case k => k_is); (case b => exact fun _ _ _ _ _ _ us hl => match us, hl with | [_, _, _, _], _ => rfl)))
    (case D27 => (refine' K14.df_mk KX G ?a ?l ?c ?k ?b; (case a => k_is); (case l => k_is); (case c => k_is); (case k => k_is); (case b => exact fun _ _ _ _ _ _ us hl => match us, hl with | [_, _, _], _ => rfl)))
    (case D28 => (refine' K14.df_mk KX G ?a ?l ?c ?k ?b; (case a => k_is); (case l => k_is); (case c => k_is); (case k => k_is); (case b => exact fun _ _ _ _ _ _ us hl => match us, hl with | [_, _], _ => rfl)))
    (case D31 => (refine' K14.df_mk KX G ?a ?l ?c ?k ?b; (case a => k_is); (case l => k_is); (case c => k_is); (case k => k_is); (case b => exact fun _ _ _ _ _ _ us hl => match us, hl with | [_, _], _ => rfl)))
    (case D32 => (refine' K14.df_mk KX G ?a ?l ?c ?k ?b; (case a => k_is); (case l => k_is); (case c => k_is); (case k => k_is); (case b => exact fun _ _ _ _ _ _ us hl => match us, hl with | [_, _], _ => rfl)))
    (case D34 => (refine' K14.df_mk KX G ?a ?l ?c ?k ?b; (case a => k_is); (case l => k_is); (case c => k_is); (case k => k_is); (case b => exact fun _ _ _ _ _ _ us hl => match us, hl with | [_], _ => rfl)))
    (case D35 => (refine' K14.df_mk KX G ?a ?l ?c ?k ?b; (case a => k_is); (case l => k_is); (case c => k_is); (case k => k_is); (case b => exact fun _ _ _ _ _ _ us hl => match us, hl with | [_, _], _ => rfl)))
    (case D36 => (refine' K14.df_mk KX G ?a ?l ?c ?k ?b; (case a => k_is); (case l => k_is); (case c => k_is); (case k => k_is); (case b => exact fun _ _ _ _ _ _ us hl => match us, hl with | [_, _], _ => rfl)))
    (case D37 => (refine' K14.df_mk KX G ?a ?l ?c ?k ?b; (case a => k_is); (case l => k_is); (case c => k_is); (case k => k_is); (case b => exact fun _ _ _ _ _ _ us hl => match us, hl with | [_, _], _ => rfl)))
    (case D38 => (refine' K14.df_mk KX G ?a ?l ?c ?k ?b; (case a => k_is); (case l => k_is); (case c => k_is); (case k => k_is); (case b => exact fun _ _ _ _ _ _ us hl => match us, hl with | [_, _], _ => rfl)))
    (case D39 => (refine' K14.df_mk KX G ?a ?l ?c ?k ?b; (case a => k_is); (case l => k_is); (case c => k_is); (case k => k_is); (case b => exact fun _ _ _ _ _ _ us hl => match us, hl with | [_, _], _ => rfl)))
    (case D40 => (refine' K14.df_mk KX G ?a ?l ?c ?k ?b; (case a => k_is); (case l => k_is); (case c => k_is); (case k => k_is); (case b => exact fun _ _ _ _ _ _ us hl => match us, hl with | [_, _], _ => rfl)))
    (case D41 => (refine' K14.df_mk KX G ?a ?l ?c ?k ?b; (case a => k_is); (case l => k_is); (case c => k_is); (case k => k_is); (case b => exact fun _ _ _ _ _ _ us hl => match us, hl with | [_, _], _ => rfl)))
    (case D42 => (refine' K14.df_mk KX G ?a ?l ?c ?k ?b; (case a => k_is); (case l => k_is); (case c => k_is); (case k => k_is); (case b => exact fun _ _ _ _ _ _ us hl => match us, hl with | [_, _], _ => rfl)))
    (case z_isinstance => k_is)
    (case z_int => k_is)
    (case z_bool => k_is)
    (case z_tuple => k_is)
    (case z_dict => k_is)
    (case z_abs => k_is)
    (case z_max => k_is)
    (case z_min => k_is)
    (case z_len => k_is)
    (case z_list => k_is)
    (case z_range => k_is)
    (case z_all => k_is)
    (case z_sorted => k_is)
    (case mp => k_is)
    (case mh => k_is)
    (case aL => k_is)
    (case lL => k_is)
    (case cL => k_is)
    (case kL => k_is)
