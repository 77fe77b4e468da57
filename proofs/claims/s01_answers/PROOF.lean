import PyProof.Rows.All
import Wide.All
import OpenK.AllK
import Wide.FinOn
import PyProof.EqAt
import PyProof.EqKinds
import PyProof.TupleCall
import Open.SpecLaws
import KE.OsGo
import HandS.ForSpec
import HandS.Comp
import HandS.Iter
import HandS.Walk
import HandS.Wide
import HandS.ExcInit
import HandS.ExcField
import PySem.Challenge.RW_straightlines_s01_answers
set_option Elab.async false
set_option linter.all false
set_option maxRecDepth 100000
set_option maxHeartbeats 2000000
namespace SL
open Uw20

/-- lowest terms -/
def Nm (q : Q) : Prop := 0 < q.d ∧ Nat.gcd q.n.natAbs q.d = 1
/-- q is n / d -/
def Rep (q : Q) (n d : Int) : Prop := 0 < q.d ∧ 0 < d ∧ q.n * d = n * (q.d : Int)

theorem frac_eq {n : Int} {d : Nat} (hd : 0 < d) : frac n d = ⟨n / ((Nat.gcd n.natAbs d : Nat) : Int), d / Nat.gcd n.natAbs d⟩ := by
  have hg : Nat.gcd n.natAbs d ≠ 0 := by
    have := Nat.gcd_pos_of_pos_right n.natAbs hd
    omega
  unfold frac
  simp only [hg, if_false]

theorem frac_rep {n : Int} {d : Nat} (hd : 0 < d) : Rep (frac n d) n d := by
  rw [frac_eq hd]
  have hg : 0 < Nat.gcd n.natAbs d := Nat.gcd_pos_of_pos_right n.natAbs hd
  have h1 : ((Nat.gcd n.natAbs d : Nat) : Int) ∣ n := Int.ofNat_dvd_left.mpr (Nat.gcd_dvd_left _ _)
  have h2 : Nat.gcd n.natAbs d ∣ d := Nat.gcd_dvd_right _ _
  refine ⟨Nat.div_pos (Nat.le_of_dvd hd h2) hg, by omega, ?_⟩
  obtain ⟨a, ha⟩ := h1
  obtain ⟨b, hb⟩ := h2
  generalize hG : Nat.gcd n.natAbs d = g at *
  have e1 : n / (g : Int) = a := by rw [ha]; exact Int.mul_ediv_cancel_left _ (by omega)
  have e2 : d / g = b := by rw [hb]; exact Nat.mul_div_cancel_left _ hg
  show n / (g : Int) * (d : Int) = n * ((d / g : Nat) : Int)
  rw [e1, e2, hb, ha]
  push_cast
  grind

theorem frac_nm {n : Int} {d : Nat} (hd : 0 < d) : Nm (frac n d) := by
  rw [frac_eq hd]
  have hg : 0 < Nat.gcd n.natAbs d := Nat.gcd_pos_of_pos_right n.natAbs hd
  have h1 : ((Nat.gcd n.natAbs d : Nat) : Int) ∣ n := Int.ofNat_dvd_left.mpr (Nat.gcd_dvd_left _ _)
  have h2 : Nat.gcd n.natAbs d ∣ d := Nat.gcd_dvd_right _ _
  refine ⟨Nat.div_pos (Nat.le_of_dvd hd h2) hg, ?_⟩
  show Nat.gcd (n / ((Nat.gcd n.natAbs d : Nat) : Int)).natAbs (d / Nat.gcd n.natAbs d) = 1
  rw [Int.natAbs_ediv_of_dvd h1, Int.natAbs_natCast]
  rw [Nat.gcd_div (Nat.gcd_dvd_left _ _) h2]
  exact Nat.div_self hg

theorem nm_unique {a b : Q} (ha : Nm a) (hb : Nm b) (h : a.n * (b.d : Int) = b.n * (a.d : Int)) : a = b := by
  obtain ⟨an, ad⟩ := a
  obtain ⟨bn, bd⟩ := b
  obtain ⟨ha0, ha1⟩ := ha
  obtain ⟨hb0, hb1⟩ := hb
  simp only at *
  have hn : an.natAbs * bd = bn.natAbs * ad := by
    have := congrArg Int.natAbs h
    simpa [Int.natAbs_mul] using this
  have d1 : ad ∣ bd := by
    have : ad ∣ an.natAbs * bd := by rw [hn]; exact Nat.dvd_mul_left _ _
    exact Nat.Coprime.dvd_of_dvd_mul_left (Nat.Coprime.symm ha1) this
  have d2 : bd ∣ ad := by
    have : bd ∣ bn.natAbs * ad := by rw [← hn]; exact Nat.dvd_mul_left _ _
    exact Nat.Coprime.dvd_of_dvd_mul_left (Nat.Coprime.symm hb1) this
  have e : ad = bd := Nat.dvd_antisymm d1 d2
  subst e
  have : an = bn := Int.eq_of_mul_eq_mul_right (by omega) h
  subst this
  rfl

theorem rep_eq {a b : Q} {n d m e : Int} (na : Nm a) (nb : Nm b) (ha : Rep a n d) (hb : Rep b m e) (h : n * e = m * d) : a = b := by
  refine nm_unique na nb ?_
  obtain ⟨a1, a2, a3⟩ := ha
  obtain ⟨b1, b2, b3⟩ := hb
  have hde : (d * e : Int) ≠ 0 := by
    have := Int.mul_pos a2 b2
    omega
  refine Int.eq_of_mul_eq_mul_right hde ?_
  have : a.n * (b.d : Int) * (d * e) = (a.n * d) * ((b.d : Int) * e) := by grind
  rw [this, a3]
  have : b.n * (a.d : Int) * (d * e) = (b.n * e) * ((a.d : Int) * d) := by grind
  rw [this, b3]
  grind

theorem rep_frac {m : Int} {e : Nat} {n d : Int} (he : 0 < e) (hd : 0 < d) (h : m * d = n * (e : Int)) : Rep (frac m e) n d := by
  have r := frac_rep (n := m) he
  obtain ⟨a1, a2, a3⟩ := r
  refine ⟨a1, hd, ?_⟩
  refine Int.eq_of_mul_eq_mul_right (a := (e : Int)) (by omega) ?_
  have : (frac m e).n * d * (e : Int) = ((frac m e).n * (e : Int)) * d := by grind
  rw [this, a3]
  grind
theorem whole_rep (n : Int) : Rep (whole n) n 1 := ⟨Nat.one_pos, by omega, rfl⟩
theorem whole_nm (n : Int) : Nm (whole n) := ⟨Nat.one_pos, Nat.gcd_one_right _⟩
theorem dpos {a b : Nat} (ha : 0 < a) (hb : 0 < b) : 0 < a * b := Nat.mul_pos ha hb
theorem plus_nm {a b : Q} (ha : 0 < a.d) (hb : 0 < b.d) : Nm (a.plus b) := frac_nm (dpos ha hb)
theorem plus_rep {a b : Q} {n d m e : Int} (ha : Rep a n d) (hb : Rep b m e) : Rep (a.plus b) (n * e + m * d) (d * e) := by
  obtain ⟨a1, a2, a3⟩ := ha
  obtain ⟨b1, b2, b3⟩ := hb
  refine rep_frac (dpos a1 b1) (Int.mul_pos a2 b2) ?_
  push_cast
  have : (a.n * (b.d : Int) + b.n * (a.d : Int)) * (d * e) = (a.n * d) * ((b.d : Int) * e) + (b.n * e) * ((a.d : Int) * d) := by grind
  rw [this, a3, b3]
  grind
theorem less_rep {a b : Q} {n d m e : Int} (ha : Rep a n d) (hb : Rep b m e) : Rep (a.less b) (n * e - m * d) (d * e) := by
  obtain ⟨a1, a2, a3⟩ := ha
  obtain ⟨b1, b2, b3⟩ := hb
  refine rep_frac (dpos a1 b1) (Int.mul_pos a2 b2) ?_
  push_cast
  have : (a.n * (b.d : Int) - b.n * (a.d : Int)) * (d * e) = (a.n * d) * ((b.d : Int) * e) - (b.n * e) * ((a.d : Int) * d) := by grind
  rw [this, a3, b3]
  grind
theorem times_rep {a : Q} {n d : Int} (k : Int) (ha : Rep a n d) : Rep (a.times k) (n * k) d := by
  obtain ⟨a1, a2, a3⟩ := ha
  refine rep_frac a1 a2 ?_
  have : a.n * k * d = (a.n * d) * k := by grind
  rw [this, a3]
  grind
theorem square_rep {a : Q} {n d : Int} (ha : Rep a n d) : Rep a.square (n * n) (d * d) := by
  obtain ⟨a1, a2, a3⟩ := ha
  refine ⟨dpos a1 a1, Int.mul_pos a2 a2, ?_⟩
  show a.n * a.n * (d * d) = n * n * ((a.d * a.d : Nat) : Int)
  push_cast
  have : a.n * a.n * (d * d) = (a.n * d) * (a.n * d) := by grind
  rw [this, a3]
  grind
/-- the sign of a fraction is that of what it stands for -/
theorem rep_pos {a : Q} {n d : Int} (ha : Rep a n d) : 0 < a.n ↔ 0 < n := by
  obtain ⟨a1, a2, a3⟩ := ha
  have ad : (0 : Int) < (a.d : Int) := by omega
  constructor
  · intro h
    have : 0 < n * (a.d : Int) := by rw [← a3]; exact Int.mul_pos h a2
    exact Int.pos_of_mul_pos_left this ad
  · intro h
    have : 0 < a.n * d := by rw [a3]; exact Int.mul_pos h ad
    exact Int.pos_of_mul_pos_left this a2
theorem rep_neg {a : Q} {n d : Int} (ha : Rep a n d) : a.n < 0 ↔ n < 0 := by
  have h : Rep ⟨-a.n, a.d⟩ (-n) d := ⟨ha.1, ha.2.1, by have := ha.2.2; show -a.n * d = -n * (a.d : Int); grind⟩
  have := rep_pos h
  simp only at this
  omega
theorem over_pos {a b : Q} {n d m e : Int} (ha : Rep a n d) (hb : Rep b m e) (hm : 0 < m) : Rep (a.over b) (n * e) (d * m) := by
  have hbn : 0 < b.n := (rep_pos hb).mpr hm
  obtain ⟨a1, a2, a3⟩ := ha
  obtain ⟨b1, b2, b3⟩ := hb
  have hlt : ¬ b.n < 0 := by omega
  unfold Q.over
  rw [if_neg hlt]
  refine rep_frac (dpos a1 (by omega)) (Int.mul_pos a2 hm) ?_
  have e1 : ((a.d * b.n.natAbs : Nat) : Int) = (a.d : Int) * b.n := by
    push_cast
    rw [Int.natAbs_of_nonneg (by omega)]
  rw [e1]
  have : a.n * (b.d : Int) * (d * m) = (a.n * d) * (m * (b.d : Int)) := by grind
  rw [this, a3, ← b3]
  grind
/-! ### boundaries -/
structure Ok (l : Line) : Prop where
  ne : l ≠ []
  x0 : (first l).x = 0
  up : l.Pairwise (fun p q => p.x < q.x)
  xs : ∀ p ∈ l, p.x ≤ 100
  ys : ∀ p ∈ l, p.y ≤ 50
  len : l.length ≤ 8
theorem long_eq {l : Line} (h : (first l).x = 0) : long l = (last l).x := by
  unfold long
  omega
/-- how much higher the straight one is at a place, times the length twice over -/
def aboveM (l : Line) (h : Nat) (p : P) : Int := ((h : Int) - (p.y : Int)) * (long l : Int) * (long l : Int) + ((twice l : Int) - 2 * (h : Int) * (long l : Int)) * (p.x : Int)
theorem end_rep {l : Line} (h : Nat) (hl : 0 < long l) : Rep (endOf l h) ((twice l : Int) - (h : Int) * (long l : Int)) (long l : Int) := frac_rep hl
theorem at_rep {l : Line} (h : Nat) (x : Nat) (hl : 0 < long l) (x0 : (first l).x = 0) : Rep (at_ l h x) ((h : Int) * ((long l : Int) * (long l : Int)) + ((twice l : Int) - 2 * (h : Int) * (long l : Int)) * (x : Int)) ((long l : Int) * (long l : Int)) := by
  have r1 := less_rep (end_rep h hl) (whole_rep (h : Int))
  have r2 := over_pos r1 (whole_rep (long l : Int)) (by omega)
  have r3 := times_rep ((x : Int) - ((first l).x : Int)) r2
  have r4 := plus_rep (whole_rep (h : Int)) r3
  rw [x0] at r4
  have e : at_ l h x = (whole (h : Int)).plus ((((endOf l h).less (whole (h : Int))).over (whole (long l : Int))).times ((x : Int) - ((0 : Nat) : Int))) := by
    unfold at_
    rw [x0]
  rw [e]
  obtain ⟨a1, a2, a3⟩ := r4
  refine ⟨a1, Int.mul_pos (by omega) (by omega), ?_⟩
  grind
theorem over_rep {l : Line} (h : Nat) (p : P) (hl : 0 < long l) (x0 : (first l).x = 0) : Rep (over l h p) (aboveM l h p) ((long l : Int) * (long l : Int)) := by
  have r := less_rep (at_rep h p.x hl x0) (whole_rep (p.y : Int))
  obtain ⟨a1, a2, a3⟩ := r
  refine ⟨a1, Int.mul_pos (by omega) (by omega), ?_⟩
  have e : over l h p = (at_ l h p.x).less (whole (p.y : Int)) := rfl
  rw [e]
  unfold aboveM
  grind
/-- part_above -/
def partM (w : Nat) (a b : Int) : Q := if 0 ≤ a ∧ 0 ≤ b then ⟨(w : Int) * (a + b), 1⟩ else if a ≤ 0 ∧ b ≤ 0 then ⟨0, 1⟩ else frac ((w : Int) * max a b * max a b) (max a b - min a b).toNat
theorem partM_d (w : Nat) (a b : Int) : 0 < (partM w a b).d := by
  unfold partM
  split
  · exact Nat.one_pos
  · split
    · exact Nat.one_pos
    · refine (frac_nm ?_).1
      omega
/-- a piece: the Spec's gain is the program's part, over s -/
theorem gain_part {w : Nat} {u v : Q} {a b s : Int} (hu : Rep u a s) (hv : Rep v b s) : 0 < (gain w u v).d ∧ (partM w a b).n * ((gain w u v).d : Int) = (gain w u v).n * (((partM w a b).d : Int) * s) := by
  have pu := rep_pos hu
  have pv := rep_pos hv
  have nu := rep_neg hu
  have nv := rep_neg hv
  have hs := hu.2.1
  unfold gain
  by_cases c1 : u.n < 0 ∧ v.n < 0
  · rw [if_pos c1]
    refine ⟨Nat.one_pos, ?_⟩
    unfold partM
    rw [if_neg (by omega), if_pos (by omega)]
    show (0 : Int) * _ = 0 * _
    omega
  · rw [if_neg c1]
    by_cases c2 : 0 ≤ u.n ∧ 0 ≤ v.n
    · rw [if_pos c2]
      have r := times_rep (w : Int) (plus_rep hu hv)
      refine ⟨r.1, ?_⟩
      unfold partM
      rw [if_pos (by omega)]
      have := r.2.2
      show (w : Int) * (a + b) * _ = _ * (((1 : Nat) : Int) * s)
      refine Int.eq_of_mul_eq_mul_right (a := s) (by omega) ?_
      grind
    · rw [if_neg c2]
      by_cases c3 : 0 ≤ u.n
      · rw [if_pos c3]
        have hb : b < 0 := by omega
        have ha : 0 ≤ a := by omega
        have r0 := less_rep hu hv
        have hpos : 0 < a * s - b * s := by
          have : a * s - b * s = (a - b) * s := by grind
          rw [this]
          exact Int.mul_pos (by omega) hs
        have r := times_rep (w : Int) (over_pos (square_rep hu) r0 hpos)
        refine ⟨r.1, ?_⟩
        unfold partM
        rw [if_neg (by omega)]
        by_cases c4 : a = 0
        · rw [if_pos (by omega)]
          have h3 := r.2.2
          subst c4
          show (0 : Int) * _ = _ * (((1 : Nat) : Int) * s)
          have h0 : (((u.square).over (u.less v)).times (w : Int)).n = 0 := by
            have : ¬ 0 < (((u.square).over (u.less v)).times (w : Int)).n := by
              rw [rep_pos r]
              simp
            have : ¬ (((u.square).over (u.less v)).times (w : Int)).n < 0 := by
              rw [rep_neg r]
              simp
            omega
          rw [h0]
          omega
        · rw [if_neg (by omega)]
          have hmax : max a b = a := by omega
          have hmin : min a b = b := by omega
          rw [hmax, hmin]
          have f := frac_rep (n := (w : Int) * a * a) (d := (a - b).toNat) (by omega)
          have e : (((a - b).toNat : Nat) : Int) = a - b := by omega
          rw [e] at f
          obtain ⟨f1, f2, f3⟩ := f
          obtain ⟨r1, r2, r3⟩ := r
          have hk : (s * s * (a * s - b * s)) * (a - b) ≠ 0 := Int.ne_of_gt (Int.mul_pos r2 f2)
          refine Int.eq_of_mul_eq_mul_right hk ?_
          generalize (((u.square).over (u.less v)).times (w : Int)) = g at *
          generalize (frac ((w : Int) * a * a) (a - b).toNat) = q at *
          have e1 : q.n * (g.d : Int) * (s * s * (a * s - b * s) * (a - b)) = (q.n * (a - b)) * ((g.d : Int) * (s * s * (a * s - b * s))) := by grind
          have e2 : g.n * ((q.d : Int) * s) * (s * s * (a * s - b * s) * (a - b)) = (g.n * (s * s * (a * s - b * s))) * ((q.d : Int) * s * (a - b)) := by grind
          rw [e1, e2, f3, r3]
          grind
      · rw [if_neg c3]
        have hb : a < 0 := by omega
        have ha : 0 ≤ b := by omega
        have r0 := less_rep hv hu
        have hpos : 0 < b * s - a * s := by
          have : b * s - a * s = (b - a) * s := by grind
          rw [this]
          exact Int.mul_pos (by omega) hs
        have r := times_rep (w : Int) (over_pos (square_rep hv) r0 hpos)
        refine ⟨r.1, ?_⟩
        unfold partM
        rw [if_neg (by omega)]
        by_cases c4 : b = 0
        · rw [if_pos (by omega)]
          have h3 := r.2.2
          subst c4
          show (0 : Int) * _ = _ * (((1 : Nat) : Int) * s)
          have h0 : (((v.square).over (v.less u)).times (w : Int)).n = 0 := by
            have : ¬ 0 < (((v.square).over (v.less u)).times (w : Int)).n := by
              rw [rep_pos r]
              simp
            have : ¬ (((v.square).over (v.less u)).times (w : Int)).n < 0 := by
              rw [rep_neg r]
              simp
            omega
          rw [h0]
          omega
        · rw [if_neg (by omega)]
          have hmax : max a b = b := by omega
          have hmin : min a b = a := by omega
          rw [hmax, hmin]
          have f := frac_rep (n := (w : Int) * b * b) (d := (b - a).toNat) (by omega)
          have e : (((b - a).toNat : Nat) : Int) = b - a := by omega
          rw [e] at f
          obtain ⟨f1, f2, f3⟩ := f
          obtain ⟨r1, r2, r3⟩ := r
          have hk : (s * s * (b * s - a * s)) * (b - a) ≠ 0 := Int.ne_of_gt (Int.mul_pos r2 f2)
          refine Int.eq_of_mul_eq_mul_right hk ?_
          generalize (((v.square).over (v.less u)).times (w : Int)) = g at *
          generalize (frac ((w : Int) * b * b) (b - a).toNat) = q at *
          have e1 : q.n * (g.d : Int) * (s * s * (b * s - a * s) * (b - a)) = (q.n * (b - a)) * ((g.d : Int) * (s * s * (b * s - a * s))) := by grind
          have e2 : g.n * ((q.d : Int) * s) * (s * s * (b * s - a * s) * (b - a)) = (g.n * (s * s * (b * s - a * s))) * ((q.d : Int) * s * (b - a)) := by grind
          rw [e1, e2, f3, r3]
          grind
/-! ### what changes hands -/
def wid (p : P × P) : Nat := p.2.x - p.1.x
def partsM (l : Line) (h : Nat) : List Q := (pieces l).map fun p => partM (wid p) (aboveM l h p.1) (aboveM l h p.2)
def sumM (qs : List Q) : Q := qs.foldl Q.plus ⟨0, 1⟩
def changedM (l : Line) (h : Nat) : Q := frac (sumM (partsM l h)).n ((sumM (partsM l h)).d * long l * long l)
theorem sum_parts {α : Type} {s : Int} (hs : 0 < s) (f g : α → Q) : ∀ (ps : List α) (q r : Q), (∀ p ∈ ps, 0 < (f p).d ∧ 0 < (g p).d ∧ (f p).n * ((g p).d : Int) = (g p).n * (((f p).d : Int) * s)) → 0 < q.d → Nm r → q.n * (r.d : Int) = r.n * ((q.d : Int) * s) →
    0 < ((ps.map f).foldl Q.plus q).d ∧ Nm ((ps.map g).foldl Q.plus r) ∧ ((ps.map f).foldl Q.plus q).n * (((ps.map g).foldl Q.plus r).d : Int) = ((ps.map g).foldl Q.plus r).n * ((((ps.map f).foldl Q.plus q).d : Int) * s)
  | [], q, r, _, hq, hr, h => ⟨hq, hr, h⟩
  | p :: ps, q, r, hp, hq, hr, h => by
    have ⟨h1, h2, h3⟩ := hp p (List.mem_cons_self ..)
    rw [List.map_cons, List.map_cons, List.foldl_cons, List.foldl_cons]
    have n1 := plus_nm hq h1
    have n2 := plus_nm hr.1 h2
    refine sum_parts hs f g ps _ _ (fun p' hp' => hp p' (List.mem_cons_of_mem _ hp')) n1.1 n2 ?_
    have r1 : Rep (q.plus (f p)) _ _ := plus_rep (n := q.n) (d := q.d) (m := (f p).n) (e := (f p).d) ⟨hq, by omega, rfl⟩ ⟨h1, by omega, rfl⟩
    have r2 : Rep (r.plus (g p)) _ _ := plus_rep (n := r.n) (d := r.d) (m := (g p).n) (e := (g p).d) ⟨hr.1, by have := hr.1; omega, rfl⟩ ⟨h2, by omega, rfl⟩
    obtain ⟨a1, a2, a3⟩ := r1
    obtain ⟨b1, b2, b3⟩ := r2
    have hk : (((q.d : Int) * ((f p).d : Int)) * ((r.d : Int) * ((g p).d : Int))) ≠ 0 := Int.ne_of_gt (Int.mul_pos a2 b2)
    refine Int.eq_of_mul_eq_mul_right hk ?_
    generalize q.plus (f p) = x at *
    generalize r.plus (g p) = y at *
    have e1 : x.n * (y.d : Int) * ((q.d : Int) * ((f p).d : Int) * ((r.d : Int) * ((g p).d : Int))) = (x.n * ((q.d : Int) * ((f p).d : Int))) * ((y.d : Int) * ((r.d : Int) * ((g p).d : Int))) := by grind
    have e2 : y.n * ((x.d : Int) * s) * ((q.d : Int) * ((f p).d : Int) * ((r.d : Int) * ((g p).d : Int))) = (y.n * ((r.d : Int) * ((g p).d : Int))) * ((x.d : Int) * s * ((q.d : Int) * ((f p).d : Int))) := by grind
    rw [e1, e2, a3, b3]
    have e3 : (q.n * ((f p).d : Int) + (f p).n * (q.d : Int)) * (x.d : Int) * ((y.d : Int) * ((r.d : Int) * ((g p).d : Int))) = ((q.n * (r.d : Int)) * (((f p).d : Int) * ((g p).d : Int)) + ((f p).n * ((g p).d : Int)) * ((q.d : Int) * (r.d : Int))) * ((x.d : Int) * (y.d : Int)) := by grind
    rw [e3, h, h3]
    grind
theorem sumM_parts {l : Line} {h : Nat} (hl : 0 < long l) (x0 : (first l).x = 0) : 0 < (sumM (partsM l h)).d ∧ Nm (gained l h) ∧ (sumM (partsM l h)).n * ((gained l h).d : Int) = (gained l h).n * (((sumM (partsM l h)).d : Int) * ((long l : Int) * (long l : Int))) := by
  have hL : (0 : Int) < (long l : Int) := by omega
  refine sum_parts (s := (long l : Int) * (long l : Int)) (Int.mul_pos hL hL) (fun p => partM (wid p) (aboveM l h p.1) (aboveM l h p.2)) (fun p => gain (p.2.x - p.1.x) (over l h p.1) (over l h p.2)) (pieces l) ⟨0, 1⟩ (whole 0) (fun p _ => ?_) Nat.one_pos (whole_nm 0) (by show (0 : Int) * _ = 0 * _; omega)
  have := gain_part (w := wid p) (over_rep h p.1 hl x0) (over_rep h p.2 hl x0)
  exact ⟨partM_d _ _ _, this.1, this.2⟩
theorem changed_eq {l : Line} {h : Nat} (hl : 0 < long l) (x0 : (first l).x = 0) : changedM l h = gained l h := by
  obtain ⟨h1, h2, h3⟩ := sumM_parts (h := h) hl x0
  have hd : 0 < (sumM (partsM l h)).d * long l * long l := dpos (dpos h1 hl) hl
  refine nm_unique (frac_nm hd) h2 ?_
  obtain ⟨a1, a2, a3⟩ := frac_rep (n := (sumM (partsM l h)).n) hd
  have hk : (((sumM (partsM l h)).d * long l * long l : Nat) : Int) ≠ 0 := by omega
  refine Int.eq_of_mul_eq_mul_right hk ?_
  unfold changedM
  generalize frac (sumM (partsM l h)).n ((sumM (partsM l h)).d * long l * long l) = x at *
  have e1 : x.n * ((gained l h).d : Int) * (((sumM (partsM l h)).d * long l * long l : Nat) : Int) = (x.n * (((sumM (partsM l h)).d * long l * long l : Nat) : Int)) * ((gained l h).d : Int) := by grind
  rw [e1, a3]
  have e2 : (sumM (partsM l h)).n * (x.d : Int) * ((gained l h).d : Int) = ((sumM (partsM l h)).n * ((gained l h).d : Int)) * (x.d : Int) := by grind
  rw [e2, h3]
  push_cast
  grind
theorem gained_nm {l : Line} (h : Nat) (hl : 0 < long l) (x0 : (first l).x = 0) : Nm (gained l h) := (sumM_parts hl x0).2.1
/-! ### on the land -/
theorem may_eq (l : Line) (h : Nat) : may l h = (decide (0 ≤ (endOf l h).n) && decide ((endOf l h).n ≤ 50 * ((endOf l h).d : Int))) := by
  unfold may Q.below whole TOP
  generalize endOf l h = e
  have e1 : decide (e.n * ((1 : Nat) : Int) < 0 * (e.d : Int)) = decide (e.n < 0) := by
    have : e.n * ((1 : Nat) : Int) = e.n := by omega
    rw [this]
    simp
  have e2 : decide (((50 : Nat) : Int) * (e.d : Int) < e.n * ((1 : Nat) : Int)) = decide (50 * (e.d : Int) < e.n) := by
    have : e.n * ((1 : Nat) : Int) = e.n := by omega
    rw [this]
    rfl
  rw [e1, e2]
  by_cases c1 : e.n < 0 <;> by_cases c2 : 50 * (e.d : Int) < e.n <;> simp [c1, c2] <;> omega
/-! ### the area -/
theorem foldl_add : ∀ (l : List Nat) (a : Nat), l.foldl (fun a b => a + b) a = a + l.foldl (fun a b => a + b) 0
  | [], a => rfl
  | x :: l, a => by
    rw [List.foldl_cons, List.foldl_cons, foldl_add l (a + x), foldl_add l (0 + x)]
    omega
def areaOf (p : P × P) : Int := ((p.2.x : Int) - (p.1.x : Int)) * ((p.1.y : Int) + (p.2.y : Int))
theorem pieces_cons (p q : P) (r : Line) : pieces (p :: q :: r) = (p, q) :: pieces (q :: r) := rfl
theorem twice_cons (p q : P) (r : Line) : twice (p :: q :: r) = (q.x - p.x) * (p.y + q.y) + twice (q :: r) := by
  unfold twice
  rw [pieces_cons, List.map_cons, List.foldl_cons, foldl_add]
  simp
theorem last_cons (p q : P) (r : Line) : last (p :: q :: r) = last (q :: r) := by
  unfold last
  simp [List.getLastD]
theorem area_eq : ∀ {l : Line}, l.Pairwise (fun p q => p.x < q.x) → ((pieces l).map areaOf).sum = (twice l : Int)
  | [], _ => rfl
  | [_], _ => rfl
  | p :: q :: r, h => by
    rw [List.pairwise_cons] at h
    have hx := h.1 q (List.mem_cons_self ..)
    rw [pieces_cons, List.map_cons, List.sum_cons, area_eq h.2, twice_cons]
    unfold areaOf
    push_cast
    rw [Int.ofNat_sub (by omega)]
theorem last_ge : ∀ {p : P} {r : Line}, (p :: r).Pairwise (fun p q => p.x < q.x) → p.x ≤ (last (p :: r)).x
  | p, [], _ => Nat.le_refl _
  | p, q :: r, h => by
    rw [List.pairwise_cons] at h
    have hx := h.1 q (List.mem_cons_self ..)
    rw [last_cons]
    have := last_ge h.2
    omega
theorem twice_le : ∀ {p : P} {r : Line}, (p :: r).Pairwise (fun p q => p.x < q.x) → (∀ q ∈ p :: r, q.y ≤ 50) → twice (p :: r) ≤ 100 * ((last (p :: r)).x - p.x)
  | p, [], _, _ => by
    show 0 ≤ _
    omega
  | p, q :: r, h, hy => by
    have h' := h
    rw [List.pairwise_cons] at h
    have hx := h.1 q (List.mem_cons_self ..)
    have ih := twice_le h.2 (fun z hz => hy z (List.mem_cons_of_mem _ hz))
    rw [twice_cons, last_cons]
    have h1 := last_ge h.2
    have y1 := hy p (List.mem_cons_self ..)
    have y2 := hy q (List.mem_cons_of_mem _ (List.mem_cons_self ..))
    have : (q.x - p.x) * (p.y + q.y) ≤ (q.x - p.x) * 100 := Nat.mul_le_mul_left _ (by omega)
    omega
theorem Ok.last_mem {l : Line} (h : Ok l) : last l ∈ l := by
  unfold last
  cases l with
  | nil => exact absurd rfl h.ne
  | cons p r =>
    simp only [List.getLastD]
    exact List.getLast_mem _
theorem Ok.last_le {l : Line} (h : Ok l) : (last l).x ≤ 100 := h.xs _ h.last_mem
theorem Ok.long_le {l : Line} (h : Ok l) : long l ≤ 100 := by
  rw [long_eq h.x0]
  exact h.last_le
theorem Ok.twice_le {l : Line} (h : Ok l) : twice l ≤ 100 * long l := by
  rw [long_eq h.x0]
  cases l with
  | nil => exact absurd rfl h.ne
  | cons p r =>
    have := SL.twice_le h.up h.ys
    have := h.x0
    have e : first (p :: r) = p := rfl
    rw [e] at this
    omega
/-- from some height it ends on the land -/
theorem may_of {l : Line} {h : Nat} (hl : 0 < long l) (h1 : h * long l ≤ twice l) (h2 : twice l ≤ (h + 50) * long l) : may l h = true := by
  rw [may_eq]
  have r := end_rep h hl
  have n := rep_neg r
  have e1 : ¬ (endOf l h).n < 0 := by
    rw [n]
    have : ((h * long l : Nat) : Int) ≤ (twice l : Int) := by omega
    push_cast at this
    omega
  have e2 : (endOf l h).n ≤ 50 * ((endOf l h).d : Int) := by
    obtain ⟨a1, a2, a3⟩ := r
    refine Int.le_of_mul_le_mul_right (a := (long l : Int)) ?_ a2
    rw [a3]
    have h3 : ((twice l : Int) - (h : Int) * (long l : Int)) ≤ 50 * (long l : Int) := by
      rw [Nat.add_mul] at h2
      have : (twice l : Int) ≤ ((h * long l + 50 * long l : Nat) : Int) := by omega
      rw [Int.natCast_add, Int.natCast_mul] at this
      omega
    have := Int.mul_le_mul_of_nonneg_right h3 (show (0 : Int) ≤ ((endOf l h).d : Int) by omega)
    grind
  simp [e2]
  omega
theorem some_may {l : Line} (h : Ok l) (hl : 0 < long l) : (List.range (TOP + 1)).filter (may l) ≠ [] := by
  have ht := h.twice_le
  have hq : twice l / long l * long l ≤ twice l := Nat.div_mul_le_self _ _
  have hq2 : twice l < (twice l / long l + 1) * long l := by
    rw [Nat.add_mul, Nat.one_mul, Nat.mul_comm (twice l / long l)]
    exact Nat.lt_mul_div_succ (twice l) hl |> fun z => by rw [Nat.mul_add, Nat.mul_one] at z; exact z
  have key : ∃ k, k ≤ 50 ∧ may l k = true := by
    by_cases c : twice l / long l ≤ 50
    · refine ⟨_, c, may_of hl hq ?_⟩
      have : (twice l / long l + 1) * long l ≤ (twice l / long l + 50) * long l := Nat.mul_le_mul_right _ (by omega)
      omega
    · refine ⟨50, Nat.le_refl _, may_of hl ?_ ?_⟩
      · have : 50 * long l ≤ twice l / long l * long l := Nat.mul_le_mul_right _ (by omega)
        omega
      · omega
  obtain ⟨k, hk, hm⟩ := key
  intro e
  have : k ∈ (List.range (TOP + 1)).filter (may l) := by
    rw [List.mem_filter, List.mem_range]
    exact ⟨by unfold TOP; omega, hm⟩
  rw [e] at this
  cases this
/-! ### the best -/
def bestF (q : Nat → Q) (hs : List Nat) (b : Nat) : Nat := hs.foldl (fun b h => if (q h).below (q b) = true then h else b) b
theorem below_irrefl (a : Q) : a.below a = false := by
  unfold Q.below
  simp
theorem below_trans {a b c : Q} (ha : 0 < a.d) (hb : 0 < b.d) (hc : 0 < c.d) (h1 : a.below b = true) (h2 : b.below c = true) : a.below c = true := by
  unfold Q.below at *
  simp only [decide_eq_true_eq] at *
  have hb' : (0 : Int) < (b.d : Int) := by omega
  refine Int.lt_of_mul_lt_mul_right (a := (b.d : Int)) ?_ (by omega)
  have e1 : a.n * (c.d : Int) * (b.d : Int) = (a.n * (b.d : Int)) * (c.d : Int) := by grind
  have e2 : c.n * (a.d : Int) * (b.d : Int) = (c.n * (b.d : Int)) * (a.d : Int) := by grind
  rw [e1, e2]
  have s1 := Int.mul_lt_mul_of_pos_right h1 (show (0 : Int) < (c.d : Int) by omega)
  have s2 := Int.mul_lt_mul_of_pos_right h2 (show (0 : Int) < (a.d : Int) by omega)
  have e3 : b.n * (a.d : Int) * (c.d : Int) = b.n * (c.d : Int) * (a.d : Int) := by grind
  omega
def stepB (q : Nat → Q) (b : Option Best) (a : Nat) : Option Best := match b with
  | none => some ⟨q a, 1, a⟩
  | some x => if (q a).below x.land = true then some ⟨q a, 1, a⟩ else if q a = x.land then some ⟨x.land, x.many + 1, x.height⟩ else some x
def cnt (q : Nat → Q) (b : Nat) (hs : List Nat) : Nat := (hs.filter fun h => decide (q h = q b)).length
theorem foldB (q : Nat → Q) (hq : ∀ h, 0 < (q h).d) : ∀ (t pre : List Nat) (b : Nat), (∀ h ∈ pre, (q h).below (q b) = false) →
    t.foldl (stepB q) (some ⟨q b, cnt q b pre, b⟩) = some ⟨q (bestF q t b), cnt q (bestF q t b) (pre ++ t), bestF q t b⟩
  | [], pre, b, _ => by
    rw [List.append_nil]
    rfl
  | a :: t, pre, b, h => by
    have ea : pre ++ a :: t = (pre ++ [a]) ++ t := by simp
    rw [List.foldl_cons, ea]
    have eb : bestF q (a :: t) b = bestF q t (if (q a).below (q b) = true then a else b) := rfl
    rw [eb]
    have es : stepB q (some ⟨q b, cnt q b pre, b⟩) a = (if (q a).below (q b) = true then some ⟨q a, 1, a⟩ else if q a = q b then some ⟨q b, cnt q b pre + 1, b⟩ else some ⟨q b, cnt q b pre, b⟩) := rfl
    rw [es]
    by_cases c : (q a).below (q b) = true
    · rw [if_pos c, if_pos c]
      have h1 : ∀ x ∈ pre ++ [a], (q x).below (q a) = false := by
        intro x hx
        rw [List.mem_append] at hx
        rcases hx with hx | hx
        · cases e : (q x).below (q a) with
          | false => rfl
          | true =>
            have := below_trans (hq x) (hq a) (hq b) e c
            rw [h x hx] at this
            cases this
        · rw [List.mem_singleton] at hx
          rw [hx]
          exact below_irrefl _
      have ec : cnt q a (pre ++ [a]) = 1 := by
        unfold cnt
        rw [List.filter_append, List.length_append]
        have : pre.filter (fun h => decide (q h = q a)) = [] := by
          rw [List.filter_eq_nil_iff]
          intro x hx
          have := h x hx
          simp only [decide_eq_true_eq]
          intro e
          rw [e, c] at this
          cases this
        rw [this]
        simp
      rw [← ec]
      exact foldB q hq t (pre ++ [a]) a h1
    · rw [if_neg c, if_neg c]
      have c' : (q a).below (q b) = false := by simpa using c
      have h1 : ∀ x ∈ pre ++ [a], (q x).below (q b) = false := by
        intro x hx
        rw [List.mem_append] at hx
        rcases hx with hx | hx
        · exact h x hx
        · rw [List.mem_singleton] at hx
          rw [hx]
          exact c'
      by_cases c2 : q a = q b
      · rw [if_pos c2]
        have ec : cnt q b (pre ++ [a]) = cnt q b pre + 1 := by
          unfold cnt
          rw [List.filter_append, List.length_append]
          simp [c2]
        rw [← ec]
        exact foldB q hq t (pre ++ [a]) b h1
      · rw [if_neg c2]
        have ec : cnt q b (pre ++ [a]) = cnt q b pre := by
          unfold cnt
          rw [List.filter_append, List.length_append]
          simp [c2]
        rw [← ec]
        exact foldB q hq t (pre ++ [a]) b h1
def someM (l : Line) : List Nat := (List.range (TOP + 1)).filter (may l)
def bestM (l : Line) : Nat := bestF (changedM l) (someM l) ((someM l).headD 0)
def manyM (l : Line) : Nat := cnt (changedM l) (bestM l) (someM l)
theorem best_eq {l : Line} (h : Ok l) (hl : 0 < long l) : best l = some ⟨changedM l (bestM l), manyM l, bestM l⟩ := by
  have e : gained l = changedM l := by
    funext k
    exact (changed_eq hl h.x0).symm
  have e1 : best l = (someM l).foldl (stepB (changedM l)) none := by
    rw [← e]
    rfl
  rw [e1]
  unfold manyM bestM
  have hne : someM l ≠ [] := some_may h hl
  have hq : ∀ k, 0 < (changedM l k).d := fun k => by
    rw [changed_eq hl h.x0]
    exact (gained_nm k hl h.x0).1
  cases hs : someM l with
  | nil => exact absurd hs hne
  | cons a t =>
    rw [List.foldl_cons, List.headD_cons]
    have ea : stepB (changedM l) none a = some ⟨changedM l a, cnt (changedM l) a [a], a⟩ := by
      unfold cnt
      simp [stepB]
    have eb : bestF (changedM l) (a :: t) a = bestF (changedM l) t a := by
      unfold bestF
      rw [List.foldl_cons, below_irrefl]
      rfl
    rw [ea, eb]
    exact foldB (changedM l) hq t [a] a (fun x hx => by rw [List.mem_singleton] at hx; rw [hx]; exact below_irrefl _)
/-! ### sizes -/
/-- below 2 ^ s, above and below -/
def Sz (s : Nat) (q : Q) : Prop := q.n.natAbs < 2 ^ s ∧ q.d < 2 ^ s ∧ 0 < q.d
theorem Sz.mono {s t : Nat} {q : Q} (h : Sz s q) (hst : s ≤ t) : Sz t q :=
  ⟨Nat.lt_of_lt_of_le h.1 (Nat.pow_le_pow_right (by decide) hst), Nat.lt_of_lt_of_le h.2.1 (Nat.pow_le_pow_right (by decide) hst), h.2.2⟩
theorem natAbs_ediv_le (n : Int) (g : Nat) : (n / (g : Int)).natAbs ≤ n.natAbs := by
  by_cases hg : g = 0
  · subst hg
    simp
  · have h0 : (0 : Int) < (g : Int) := by omega
    by_cases hn : 0 ≤ n
    · have h1 : 0 ≤ n / (g : Int) := Int.ediv_nonneg hn (by omega)
      have h2 : n / (g : Int) ≤ n := Int.ediv_le_self _ hn
      omega
    · have h1 : n / (g : Int) ≤ 0 := by
        have : n / (g : Int) < 1 := (Int.ediv_lt_iff_lt_mul h0).mpr (by omega)
        omega
      have h2 : n ≤ n / (g : Int) := by
        refine (Int.le_ediv_iff_mul_le h0).mpr ?_
        have : n * (g : Int) ≤ n * 1 := Int.mul_le_mul_of_nonpos_left (by omega) (by omega)
        omega
      omega
theorem frac_sz {s : Nat} {n : Int} {d : Nat} (hn : n.natAbs < 2 ^ s) (hd : d < 2 ^ s) (h0 : 0 < d) : Sz s (frac n d) := by
  rw [frac_eq h0]
  have hg : 0 < Nat.gcd n.natAbs d := Nat.gcd_pos_of_pos_right n.natAbs h0
  have h2 : Nat.gcd n.natAbs d ∣ d := Nat.gcd_dvd_right _ _
  refine ⟨Nat.lt_of_le_of_lt (natAbs_ediv_le _ _) hn, Nat.lt_of_le_of_lt (Nat.div_le_self _ _) hd, Nat.div_pos (Nat.le_of_dvd h0 h2) hg⟩
theorem plus_sz {s t : Nat} {x y : Q} (hx : Sz s x) (hy : Sz t y) : Sz (s + t + 1) (x.plus y) := by
  obtain ⟨x1, x2, x3⟩ := hx
  obtain ⟨y1, y2, y3⟩ := hy
  have m1 : x.n.natAbs * y.d < 2 ^ (s + t) := by rw [Nat.pow_add]; exact Nat.mul_lt_mul'' x1 y2
  have m2 : y.n.natAbs * x.d < 2 ^ (s + t) := by rw [Nat.pow_add, Nat.mul_comm (2 ^ s)]; exact Nat.mul_lt_mul'' y1 x2
  have m3 : x.d * y.d < 2 ^ (s + t) := by rw [Nat.pow_add]; exact Nat.mul_lt_mul'' x2 y2
  have e : 2 ^ (s + t + 1) = 2 ^ (s + t) + 2 ^ (s + t) := by rw [Nat.pow_succ]; omega
  refine frac_sz ?_ (by rw [e]; omega) (dpos x3 y3)
  rw [e]
  have a1 : (x.n * (y.d : Int)).natAbs = x.n.natAbs * y.d := by rw [Int.natAbs_mul, Int.natAbs_natCast]
  have a2 : (y.n * (x.d : Int)).natAbs = y.n.natAbs * x.d := by rw [Int.natAbs_mul, Int.natAbs_natCast]
  omega
theorem sum_sz : ∀ {qs : List Q} {s : Nat} {q : Q}, Sz s q → (∀ p ∈ qs, Sz 60 p) → Sz (s + 61 * qs.length) (qs.foldl Q.plus q)
  | [], s, q, h, _ => h
  | p :: qs, s, q, h, hp => by
    have h1 := plus_sz h (hp p (List.mem_cons_self ..))
    have h2 := sum_sz (qs := qs) h1 (fun z hz => hp z (List.mem_cons_of_mem _ hz))
    rw [List.foldl_cons, List.length_cons]
    exact h2.mono (by omega)
theorem part_sz {w : Nat} {a b : Int} (hw : w ≤ 100) (ha : a.natAbs < 2 ^ 22) (hb : b.natAbs < 2 ^ 22) : Sz 60 (partM w a b) := by
  unfold partM
  split
  · refine ⟨?_, by show 1 < 2 ^ 60; decide, Nat.one_pos⟩
    show ((w : Int) * (a + b)).natAbs < 2 ^ 60
    rw [Int.natAbs_mul, Int.natAbs_natCast]
    have : w * (a + b).natAbs ≤ 100 * 2 ^ 23 := Nat.mul_le_mul hw (by omega)
    omega
  · split
    · exact ⟨by show 0 < 2 ^ 60; decide, by show 1 < 2 ^ 60; decide, Nat.one_pos⟩
    · refine frac_sz ?_ (by omega) (by omega)
      rw [Int.natAbs_mul, Int.natAbs_mul, Int.natAbs_natCast]
      have hm : (max a b).natAbs ≤ 2 ^ 22 := by omega
      have h1 : w * (max a b).natAbs ≤ 100 * 2 ^ 22 := Nat.mul_le_mul hw hm
      have h2 : w * (max a b).natAbs * (max a b).natAbs ≤ 100 * 2 ^ 22 * 2 ^ 22 := Nat.mul_le_mul h1 hm
      omega
theorem abs_mul_le {x y : Int} {a b : Nat} (hx : x.natAbs ≤ a) (hy : y.natAbs ≤ b) : (x * y).natAbs ≤ a * b := by
  rw [Int.natAbs_mul]
  exact Nat.mul_le_mul hx hy
theorem Ok.twice_le' {l : Line} (h : Ok l) : twice l ≤ 10000 := by
  have := h.twice_le
  have := h.long_le
  omega
theorem Ok.rise_le {l : Line} (h : Ok l) {k : Nat} (hk : k ≤ 50) : ((twice l : Int) - 2 * (k : Int) * (long l : Int)).natAbs ≤ 10000 := by
  have h1 := h.twice_le'
  have h2 := h.long_le
  have h3 : (2 * (k : Int) * (long l : Int)).natAbs ≤ 100 * 100 := abs_mul_le (by omega) (by omega)
  have h4 : 0 ≤ 2 * (k : Int) * (long l : Int) := Int.mul_nonneg (by omega) (by omega)
  omega
theorem Ok.above_le {l : Line} (h : Ok l) {k : Nat} (hk : k ≤ 50) {p : P} (hp : p ∈ l) : (aboveM l k p).natAbs < 2 ^ 22 := by
  have h2 := h.long_le
  have hy := h.ys p hp
  have hx := h.xs p hp
  unfold aboveM
  have a1 : (((k : Int) - (p.y : Int)) * (long l : Int)).natAbs ≤ 50 * 100 := abs_mul_le (by omega) (by omega)
  have a2 : (((k : Int) - (p.y : Int)) * (long l : Int) * (long l : Int)).natAbs ≤ 50 * 100 * 100 := abs_mul_le a1 (by omega)
  have a3 : (((twice l : Int) - 2 * (k : Int) * (long l : Int)) * (p.x : Int)).natAbs ≤ 10000 * 100 := abs_mul_le (h.rise_le hk) (by omega)
  omega
theorem mem_pieces {l : Line} {p : P × P} (h : p ∈ pieces l) : p.1 ∈ l ∧ p.2 ∈ l := by
  unfold pieces at h
  have := List.of_mem_zip (show (p.1, p.2) ∈ l.zip (l.drop 1) from h)
  exact ⟨this.1, List.mem_of_mem_drop this.2⟩
theorem Ok.wid_le {l : Line} (h : Ok l) {p : P × P} (hp : p ∈ pieces l) : wid p ≤ 100 := by
  have := h.xs _ (mem_pieces hp).2
  unfold wid
  omega
theorem Ok.parts_sz {l : Line} (h : Ok l) {k : Nat} (hk : k ≤ 50) : ∀ q ∈ partsM l k, Sz 60 q := by
  intro q hq
  unfold partsM at hq
  rw [List.mem_map] at hq
  obtain ⟨p, hp, rfl⟩ := hq
  exact part_sz (h.wid_le hp) (h.above_le hk (mem_pieces hp).1) (h.above_le hk (mem_pieces hp).2)
theorem zero_sz : Sz 1 (⟨0, 1⟩ : Q) := ⟨by decide, by decide, by decide⟩
theorem pieces_len {l : Line} : (pieces l).length = l.length - 1 := by
  unfold pieces
  rw [List.length_zip, List.length_drop]
  omega
theorem Ok.sum_take_sz {l : Line} (h : Ok l) {k : Nat} (hk : k ≤ 50) (i : Nat) : Sz 500 (sumM ((partsM l k).take i)) := by
  have hlen : ((partsM l k).take i).length ≤ 7 := by
    have := h.len
    unfold partsM
    rw [List.length_take, List.length_map, pieces_len]
    omega
  have := sum_sz (qs := (partsM l k).take i) zero_sz (fun p hp => h.parts_sz hk p (List.mem_of_mem_take hp))
  exact this.mono (by omega)
theorem Ok.changed_sz {l : Line} (h : Ok l) {k : Nat} (hk : k ≤ 50) (hl : 0 < long l) : Sz 600 (changedM l k) := by
  have hs := h.sum_take_sz hk (partsM l k).length
  rw [List.take_length] at hs
  obtain ⟨s1, s2, s3⟩ := hs
  have hL := h.long_le
  refine frac_sz (Nat.lt_of_lt_of_le s1 (Nat.pow_le_pow_right (by decide) (by decide))) ?_ (dpos (dpos s3 hl) hl)
  have h1 : (sumM (partsM l k)).d * long l < 2 ^ 500 * 2 ^ 7 := Nat.mul_lt_mul'' s2 (by omega)
  have h2 : (sumM (partsM l k)).d * long l * long l < 2 ^ 500 * 2 ^ 7 * 2 ^ 7 := Nat.mul_lt_mul'' h1 (by omega)
  rw [← Nat.pow_add, ← Nat.pow_add] at h2
  exact Nat.lt_of_lt_of_le h2 (Nat.pow_le_pow_right (by decide) (by decide))
theorem Ok.end_sz {l : Line} (h : Ok l) {k : Nat} (hk : k ≤ 50) (hl : 0 < long l) : Sz 20 (endOf l k) := by
  have hL := h.long_le
  have hT := h.twice_le'
  have h3 : ((k : Int) * (long l : Int)).natAbs ≤ 50 * 100 := abs_mul_le (by omega) (by omega)
  exact frac_sz (by omega) (by omega) hl
end SL
namespace SL
open PySem PySem.Spec PyProof.Rows L2
/-! ### the text -/
def top (i : Nat) : Stmt := PySem.Challenge.pw_straightlines_s01_answers.main.body.getD i (.Pass ⟨0, 0, 0, 0⟩)
abbrev sCommon : Stmt := top 1
abbrev sFraction : Stmt := top 2
abbrev sPlus : Stmt := top 3
abbrev sIsLess : Stmt := top 4
abbrev sInit : Stmt := inClass (top 7) 0
abbrev sLength : Stmt := inClass (top 7) 1
abbrev sWith : Stmt := inClass (top 7) 2
abbrev sArea : Stmt := inClass (top 7) 3
abbrev sEnd : Stmt := inClass (top 7) 4
abbrev sOnLand : Stmt := inClass (top 7) 5
abbrev sAbove : Stmt := inClass (top 7) 6
abbrev sChanged : Stmt := inClass (top 7) 7
abbrev sPart : Stmt := top 8
abbrev sRInit : Stmt := inClass (top 20) 0
abbrev sWant : Stmt := top 21
abbrev sTurned : Stmt := top 22
abbrev sStraight : Stmt := top 23
abbrev sBest : Stmt := top 24
abbrev sAnswer : Stmt := top 25
abbrev sAnswered : Stmt := top 26
abbrev sAnswers : Stmt := top 27
/-! ### heaps -/
theorem same_upd {H : Hp} {p : Addr} {o : HO} (h : H p = none) : Same H (upd H p o) := fun b x e => by
  rw [upd_ne (ne_of_none e h)]
  exact e
/-- a fraction's tuple -/
abbrev fr (q : Uw20.Q) : List V := [.int q.n, .int (q.d : Int)]
abbrev QAt (H : Hp) (p : Addr) (q : Uw20.Q) : Prop := H p = some (.tup (fr q))
/-! ### a def, a method, a class as its callers know it -/
structure SCal (P : Program) (w : World) (K : PySem.W.Frag) (mg : Str → Option Value) (base : Heap) (CX : CXT) (k : Nat) (x : Str) (ps : List Str) (sp : Sp) : Prop where
  ex : ∃ (f : Addr) (fd : FuncData), FnOk P w K mg base CX k f fd ps sp ∧ mg x = some (.ref f) ∧ PySem.W.keepIn K (.ref f) = true ∧ Binds K fd ps []
structure SMet (P : Program) (w : World) (K : PySem.W.Frag) (mg : Str → Option Value) (base : Heap) (C : Addr) (k : Nat) (m : Str) (ps : List Str) (sp : Sp) : Prop where
  cl : Cls K C
  ex : ∃ (f : Addr) (fd : FuncData), FnOk P w K mg base CX0 k f fd ps sp ∧ Meth K C m f ∧ Binds K fd ps []
structure SMak (P : Program) (w : World) (K : PySem.W.Frag) (mg : Str → Option Value) (base : Heap) (C : Addr) (k : Nat) (x : Str) (ps : List Str) (sp : Sp) : Prop where
  g : mg x = some (.ref C)
  ex : ∃ (f : Addr) (fd : FuncData), FnOk P w K mg base CX0 k f fd ps sp ∧ Mk K C f ∧ Binds K fd ps []
section
variable {X : Cx} {CX : CXT} {k j : Nat} {C : Addr} {ps : List Str} {sp : Sp} {x m : Str} {p pos apos : Pos} {e o : Expr} {es : List Expr} {ta : TE} {t : TA} {pl : Sem Bool}
theorem pe_sc (c : SCal X.prog X.w X.K X.mg X.base CX0 k x ps sp) (hr : Room j X.A) (hk : k ≤ j) (hg : Gl X x) (ha : PA X (e :: es) t)
    (hdb : (x == ("__debug__" : Str)) = false := by decide) (he : starEach (e :: es) X.env = (false, eval e X.env) :: starEach es X.env := by rfl) (hpl : (backTo pos (starEach es X.env)).any (·.1) = false := by rfl) :
    PE X (.Call (.Name x p) (e :: es) [] pos) (tCall sp [] E0 t) := by
  obtain ⟨f, fd, F, hm, kp, b⟩ := c.ex
  exact pe_call F (hr.mono hk) hg hm kp b .nil pass0 ha hdb he hpl
theorem pe_scS {E : L2.St → XK} (c : SCal X.prog X.w X.K X.mg X.base CX k x ps sp) (hr : Room j X.A) (hk : k ≤ j) (hg : Gl X x) (hx : ∀ σ, PassesAt CX X σ (E σ)) (ha : PA X (e :: es) t)
    (hdb : (x == ("__debug__" : Str)) = false := by decide) (he : starEach (e :: es) X.env = (false, eval e X.env) :: starEach es X.env := by rfl) (hpl : (backTo pos (starEach es X.env)).any (·.1) = false := by rfl) :
    PE X (.Call (.Name x p) (e :: es) [] pos) (tCallS sp E t) := by
  obtain ⟨f, fd, F, hm, kp, b⟩ := c.ex
  exact pe_callS F (hr.mono hk) hg hm kp b hx ha hdb he hpl
end
section
variable {P : Program} {w : World} {K : PySem.W.Frag} {mg : Str → Option Value} {base : Heap}
/-! ### common -/
def spCommon : Sp := fun vs H Q _ => ∃ a b : Nat, vs = [.int (a : Int), .int (b : Int)] ∧ Q (.int ((Nat.gcd a b : Nat) : Int)) H
theorem scCommon : FnScope ["one", "other"] ["one", "other"] (defScope sCommon) := ⟨rfl, rfl, rfl, by decide +kernel, rfl, by decide +kernel, by decide +kernel⟩
theorem gcd_step (x y : Nat) : Nat.gcd y (x % y) = Nat.gcd x y := by
  rw [Nat.gcd_comm y (x % y), ← Nat.gcd_rec, Nat.gcd_comm]
theorem ok_common {f : Addr} {fd : FuncData} (F : Fun K "common" "common" sCommon f fd) : FnOk P w K mg base CX0 1 f fd ["one", "other"] spCommon := by
  refine F.ok scCommon (fun vs H Q E h => ?_) (fun cdv A outer s H vs Q E hr h => ?_)
  · obtain ⟨a, b, rfl, _⟩ := h
    rfl
  · obtain ⟨a, b, rfl, q⟩ := h
    refine ⟨_, pss_cons (ps_while PassesOwn.never (pt_cmpR op_gt (pv 1) pe_int (nomark _))
        (pss_one (ps_par (i := 0) (j := 1) rfl scCommon.nd rfl rfl (by decide) rfl rfl (pa_cons (pv 1) (pa_cons (pe_op op_mod (pv 0) (pv 1)) pa_nil)) rfl)))
      (pss_one (ps_ret (pv 0))), ?_⟩
    refine ⟨fun m σ H' => ∃ x y : Nat, σ = [some (.int (x : Int)), some (.int (y : Int))] ∧ m = y ∧ H' = H ∧ Nat.gcd x y = Nat.gcd a b, ⟨b, a, b, rfl, rfl, rfl, rfl⟩, fun m σ H' hW => ?_⟩
    obtain ⟨x, y, rfl, rfl, rfl, hg⟩ := hW
    refine ⟨_, rfl, _, _, rfl, rfl, _, rfl, ite2 (fun e => ?_) (fun e => ?_)⟩
    · have hy : 0 < m := by
        have := of_decide_eq_true e
        omega
      refine ⟨fun σ' H'' => ∃ x' y' : Nat, σ' = [some (.int (x' : Int)), some (.int (y' : Int))] ∧ y' < m ∧ H'' = H' ∧ Nat.gcd x' y' = Nat.gcd a b, fun σ' H'' hN => ?_, ?_⟩
      · obtain ⟨x', y', e1, e2, e3, e4⟩ := hN
        exact ⟨y', e2, x', y', e1, rfl, e3, e4⟩
      · refine ⟨_, rfl, _, rfl, _, rfl, _, _, rfl, rfl, by omega, _, _, rfl, m, x % m, rfl, Nat.mod_lt _ hy, rfl, ?_⟩
        rw [gcd_step, hg]
    · have hy : m = 0 := by
        have : ¬ (0 : Int) < (m : Int) := fun z => e (decide_eq_true z)
        omega
      subst hy
      refine ⟨_, rfl, ?_⟩
      rw [Nat.gcd_zero_right] at hg
      rw [hg]
      exact q
/-! ### fraction -/
abbrev B4 : Nat := 4000
def spFraction : Sp := fun vs H Q _ => ∃ (n : Int) (d : Nat), vs = [.int n, .int (d : Int)] ∧ 0 < d ∧ d < 2 ^ B4 ∧ ∀ H' p, Same H H' → QAt H' p (Uw20.frac n d) → Q (.ref p) H'
theorem scFraction : FnScope ["n", "d", "share"] ["n", "d"] (defScope sFraction) := ⟨rfl, rfl, rfl, by decide +kernel, rfl, by decide +kernel, by decide +kernel⟩
theorem abs_nat (n : Int) : (if n < 0 then -n else n) = ((n.natAbs : Nat) : Int) := by
  split <;> omega
theorem ok_fraction {f : Addr} {fd : FuncData} (F : Fun K "fraction" "fraction" sFraction f fd) (mA : mg "abs" = none) (C1 : SCal P w K mg base CX0 1 "common" ["one", "other"] spCommon) : FnOk P w K mg base CX0 2 f fd ["n", "d"] spFraction := by
  refine F.ok scFraction (fun vs H Q E h => ?_) (fun cdv A outer s H vs Q E hr h => ?_)
  · obtain ⟨n, d, rfl, _⟩ := h
    rfl
  · obtain ⟨n, d, rfl, hd, hd4, q⟩ := h
    refine ⟨_, pss_cons (ps_set (i := 2) scFraction.nd rfl (.inl rfl) (pe_sc C1 hr (by decide) (by rfl) (pa_cons (pe_callB call_abs (by rfl) mA (by decide +kernel) (pa_cons (pv 0) pa_nil)) (pa_cons (pv 1) pa_nil))))
      (pss_one (ps_ret (pe_tup (pa_cons (pe_op op_fdivW (pv 0) (pv 2)) (pa_cons (pe_op op_fdivW (pv 1) (pv 2)) pa_nil))))), ?_⟩
    have hg : 0 < Nat.gcd n.natAbs d := Nat.gcd_pos_of_pos_right n.natAbs hd
    have hg2 : Nat.gcd n.natAbs d < 2 ^ B4 := Nat.lt_of_le_of_lt (Nat.le_of_dvd hd (Nat.gcd_dvd_right _ _)) hd4
    have hw : ∀ i : Int, CDivW i ((Nat.gcd n.natAbs d : Nat) : Int) := fun i => wide_div (b := B4) (by omega) (by rw [Int.natAbs_natCast]; exact hg2) (by decide) (by decide)
    refine ⟨.int n, rfl, n, rfl, .int (d : Int), rfl, n.natAbs, d, by rw [abs_nat]; rfl, ?_⟩
    refine ⟨.int n, rfl, .int ((Nat.gcd n.natAbs d : Nat) : Int), rfl, n, _, rfl, rfl, hw _, ?_⟩
    refine ⟨.int (d : Int), rfl, .int ((Nat.gcd n.natAbs d : Nat) : Int), rfl, _, _, rfl, rfl, hw _, by show 2 ≤ sizeLine; decide, fun p np => ?_⟩
    refine q _ p (same_upd np) ?_
    show upd H p _ p = some _
    rw [upd_same, frac_eq hd]
    rfl
/-! ### plus, is_less -/
def spPlus : Sp := fun vs H Q _ => ∃ (a b : Addr) (x y : Uw20.Q), vs = [.ref a, .ref b] ∧ QAt H a x ∧ QAt H b y ∧ Sz 1500 x ∧ Sz 1500 y ∧ ∀ H' p, Same H H' → QAt H' p (x.plus y) → Q (.ref p) H'
theorem scPlus : FnScope ["one", "other"] ["one", "other"] (defScope sPlus) := ⟨rfl, rfl, rfl, by decide +kernel, rfl, by decide +kernel, by decide +kernel⟩
theorem mulW {i j : Int} (hi : i.natAbs < 2 ^ 3000) (hj : j.natAbs < 2 ^ 3000) : CMulW i j := wide_mul (a := 3000) (b := 3000) hi hj (by decide) (by decide) (by decide)
theorem up {a b : Nat} {x : Nat} (h : x < 2 ^ a) (hab : a ≤ b) : x < 2 ^ b := Nat.lt_of_lt_of_le h (Nat.pow_le_pow_right (by decide) hab)
theorem fr0 {q : Uw20.Q} : atI (fr q) 0 = some (.int q.n) := atI_nat (j := 0) rfl
theorem fr1 {q : Uw20.Q} : atI (fr q) 1 = some (.int (q.d : Int)) := atI_nat (j := 1) rfl
theorem ok_plus {f : Addr} {fd : FuncData} (F : Fun K "plus" "plus" sPlus f fd) (C1 : SCal P w K mg base CX0 2 "fraction" ["n", "d"] spFraction) : FnOk P w K mg base CX0 3 f fd ["one", "other"] spPlus := by
  refine F.ok scPlus (fun vs H Q E h => ?_) (fun cdv A outer s H vs Q E hr h => ?_)
  · obtain ⟨a, b, x, y, rfl, _⟩ := h
    rfl
  · obtain ⟨a, b, x, y, rfl, ha, hb, ⟨x1, x2, x3⟩, ⟨y1, y2, y3⟩, q⟩ := h
    refine ⟨_, pss_one (ps_ret (pe_sc C1 hr (by decide) (by rfl) (pa_cons
      (pe_op op_add (pe_op op_mulW (pe_ix ix_tup (pv 0) pe_int (fun _ _ => rfl)) (pe_ix ix_tup (pv 1) pe_int (fun _ _ => rfl))) (pe_op op_mulW (pe_ix ix_tup (pv 1) pe_int (fun _ _ => rfl)) (pe_ix ix_tup (pv 0) pe_int (fun _ _ => rfl))))
      (pa_cons (pe_op op_mulW (pe_ix ix_tup (pv 0) pe_int (fun _ _ => rfl)) (pe_ix ix_tup (pv 1) pe_int (fun _ _ => rfl))) pa_nil)))), ?_⟩
    have x1' : x.n.natAbs < 2 ^ 3000 := up x1 (by decide)
    have y1' : y.n.natAbs < 2 ^ 3000 := up y1 (by decide)
    have x2' : (x.d : Int).natAbs < 2 ^ 3000 := up x2 (by decide)
    have y2' : (y.d : Int).natAbs < 2 ^ 3000 := up y2 (by decide)
    have sa : SqT K H a (fr x) := .inl (.inl ha)
    have sb : SqT K H b (fr y) := .inl (.inl hb)
    refine ⟨_, rfl, a, _, 0, _, rfl, rfl, sa, fr0, _, rfl, b, _, 1, _, rfl, rfl, sb, fr1, _, _, rfl, rfl, mulW x1' y2', ?_⟩
    refine ⟨_, rfl, b, _, 0, _, rfl, rfl, sb, fr0, _, rfl, a, _, 1, _, rfl, rfl, sa, fr1, _, _, rfl, rfl, mulW y1' x2', _, _, rfl, rfl, ?_⟩
    refine ⟨_, rfl, a, _, 1, _, rfl, rfl, sa, fr1, _, rfl, b, _, 1, _, rfl, rfl, sb, fr1, _, _, rfl, rfl, mulW x2' y2', ?_⟩
    refine ⟨_, x.d * y.d, by rw [Int.natCast_mul]; rfl, dpos x3 y3, ?_, q⟩
    exact up (a := 1500 + 1500) (by rw [Nat.pow_add]; exact Nat.mul_lt_mul'' x2 y2) (by decide)
def spIsLess : Sp := fun vs H Q _ => ∃ (a b : Addr) (x y : Uw20.Q), vs = [.ref a, .ref b] ∧ QAt H a x ∧ QAt H b y ∧ Sz 1500 x ∧ Sz 1500 y ∧ Q (.bl (x.below y)) H
theorem scIsLess : FnScope ["one", "other"] ["one", "other"] (defScope sIsLess) := ⟨rfl, rfl, rfl, by decide +kernel, rfl, by decide +kernel, by decide +kernel⟩
theorem ok_isless {f : Addr} {fd : FuncData} (F : Fun K "is_less" "is_less" sIsLess f fd) : FnOk P w K mg base CX0 1 f fd ["one", "other"] spIsLess := by
  refine F.ok scIsLess (fun vs H Q E h => ?_) (fun cdv A outer s H vs Q E hr h => ?_)
  · obtain ⟨a, b, x, y, rfl, _⟩ := h
    rfl
  · obtain ⟨a, b, x, y, rfl, ha, hb, ⟨x1, x2, x3⟩, ⟨y1, y2, y3⟩, q⟩ := h
    refine ⟨_, pss_one (ps_ret (pe_cmpR op_lt (pe_op op_mulW (pe_ix ix_tup (pv 0) pe_int (fun _ _ => rfl)) (pe_ix ix_tup (pv 1) pe_int (fun _ _ => rfl))) (pe_op op_mulW (pe_ix ix_tup (pv 1) pe_int (fun _ _ => rfl)) (pe_ix ix_tup (pv 0) pe_int (fun _ _ => rfl))) (nomark _))), ?_⟩
    have x1' : x.n.natAbs < 2 ^ 3000 := up x1 (by decide)
    have y1' : y.n.natAbs < 2 ^ 3000 := up y1 (by decide)
    have x2' : (x.d : Int).natAbs < 2 ^ 3000 := up x2 (by decide)
    have y2' : (y.d : Int).natAbs < 2 ^ 3000 := up y2 (by decide)
    have sa : SqT K H a (fr x) := .inl (.inl ha)
    have sb : SqT K H b (fr y) := .inl (.inl hb)
    refine ⟨_, rfl, a, _, 0, _, rfl, rfl, sa, fr0, _, rfl, b, _, 1, _, rfl, rfl, sb, fr1, _, _, rfl, rfl, mulW x1' y2', ?_⟩
    exact ⟨_, rfl, b, _, 0, _, rfl, rfl, sb, fr0, _, rfl, a, _, 1, _, rfl, rfl, sa, fr1, _, _, rfl, rfl, mulW y1' x2', _, _, rfl, rfl, q⟩
end
end SL
namespace SL
open PySem PySem.Spec PyProof.Rows L2
open Uw20 (Line)
section
variable {X : Cx} {CX : CXT} {k j : Nat} {C : Addr} {ps : List Str} {sp : Sp} {x m : Str} {p pos apos : Pos} {e o : Expr} {es : List Expr} {ta : TE} {t : TA} {pl : Sem Bool}
theorem pe_sm (c : SMet X.prog X.w X.K X.mg X.base C k m ps sp) (hr : Room j X.A) (hk : k ≤ j) (he : PE X o ta) (ha : PA X (e :: es) t)
    (hst : starEach (e :: es) X.env = (false, eval e X.env) :: starEach es X.env := by rfl) (hpl : (backTo pos (starEach es X.env)).any (·.1) = false := by rfl)
    (ht : eval (.Call (.Attribute o m apos) (e :: es) [] pos) X.env = (do
      let ov ← eval o X.env
      standAt apos.atName
      let (f, first) ← holding [ov] (getMethod ov m pl)
      callWith pos f first (backTo pos (starEach (e :: es) X.env)) (backToKw pos (keywordEach [] X.env))) := by rfl) :
    PE X (.Call (.Attribute o m apos) (e :: es) [] pos) (tMeth C m sp [] E0 ta t) := by
  obtain ⟨f, fd, F, hm, b⟩ := c.ex
  exact pe_meth he c.cl hm F (hr.mono hk) b .nil pass0 ha hst hpl ht
theorem pe_sm0 (c : SMet X.prog X.w X.K X.mg X.base C k m ps sp) (hr : Room j X.A) (hk : k ≤ j) (he : PE X o ta)
    (ht : eval (.Call (.Attribute o m apos) [] [] pos) X.env = (do
      let ov ← eval o X.env
      standAt apos.atName
      let (f, first) ← holding [ov] (getMethod ov m pl)
      callWith pos f first (backTo pos (starEach [] X.env)) (backToKw pos (keywordEach [] X.env))) := by rfl) :
    PE X (.Call (.Attribute o m apos) [] [] pos) (tMeth C m sp [] E0 ta tNil) := by
  obtain ⟨f, fd, F, hm, b⟩ := c.ex
  exact pe_meth0 he c.cl hm F (hr.mono hk) b .nil pass0 ht
theorem pe_sk (c : SMak X.prog X.w X.K X.mg X.base C k x ps sp) (hr : Room j X.A) (hk : k + 1 ≤ j) (hg : Gl X x) (ha : PA X (e :: es) t)
    (hdb : (x == ("__debug__" : Str)) = false := by decide) (he : starEach (e :: es) X.env = (false, eval e X.env) :: starEach es X.env := by rfl) (hpl : (backTo pos (starEach es X.env)).any (·.1) = false := by rfl) :
    PE X (.Call (.Name x p) (e :: es) [] pos) (tMake C sp [] E0 t) := by
  obtain ⟨f, fd, F, M, b⟩ := c.ex
  exact pe_make M F (hr.mono hk) hg c.g b .nil pass0 ha hdb he hpl
end
/-! ### a boundary in the heap -/
abbrev pt (p : Uw20.P) : List V := [.int (p.x : Int), .int (p.y : Int)]
def PtsAt (H : Hp) (ts : List Addr) (l : Line) : Prop := ts.length = l.length ∧ ∀ (i : Nat) (p : Uw20.P), l[i]? = some p → ∃ t, ts[i]? = some t ∧ H t = some (.tup (pt p))
abbrev bF (p : Addr) : List (Str × V) := [("places", .ref p)]
def BAt (C : Addr) (H : Hp) (a : Addr) (l : Line) : Prop := ∃ dx p ts, H a = some (.ins C dx (bF p)) ∧ H p = some (.lst (ts.map V.ref)) ∧ PtsAt H ts l
/-- p is the list of the boundary at b -/
def Pl (C : Addr) (H : Hp) (b p : Addr) : Prop := ∃ dx, H b = some (.ins C dx (bF p))
theorem PtsAt.same {H H' : Hp} {ts : List Addr} {l : Line} (h : PtsAt H ts l) (s : Same H H') : PtsAt H' ts l :=
  ⟨h.1, fun i p e => by
    obtain ⟨t, e1, e2⟩ := h.2 i p e
    exact ⟨t, e1, s _ _ e2⟩⟩
theorem BAt.same {C : Addr} {H H' : Hp} {a : Addr} {l : Line} (h : BAt C H a l) (s : Same H H') : BAt C H' a l := by
  obtain ⟨dx, p, ts, h1, h2, h3⟩ := h
  exact ⟨dx, p, ts, s _ _ h1, s _ _ h2, h3.same s⟩
theorem bF_places {p : Addr} : (bF p).lookup ("places" : Str) = some (.ref p) := by
  have e : (("places" : Str) == ("places" : Str)) = true := beq_self_eq_true _
  simp only [List.lookup, e]
theorem bF_none {p : Addr} {m : Str} (h : (m == ("places" : Str)) = false) : (bF p).lookup m = none := by
  simp only [List.lookup, h]
theorem last_getElem {l : Line} (h : l ≠ []) : l[l.length - 1]? = some (Uw20.last l) := by
  unfold Uw20.last
  rw [← List.getLast?_eq_getElem?]
  cases l with
  | nil => exact absurd rfl h
  | cons p r => rw [List.getLast?_eq_getLast (List.cons_ne_nil p r)]; rfl
theorem atI_neg1 {α : Type} {xs : List α} {v : α} (h0 : 0 < xs.length) (h : xs[xs.length - 1]? = some v) : atI xs (-1) = some v := by
  unfold atI ixN
  rw [if_neg (by omega), if_pos (by omega)]
  have : ((-1 : Int) + (xs.length : Int)).toNat = xs.length - 1 := by omega
  rw [this]
  exact h
theorem PtsAt.get {H : Hp} {ts : List Addr} {l : Line} (h : PtsAt H ts l) {i : Nat} {p : Uw20.P} (e : l[i]? = some p) : ∃ t, (ts.map V.ref)[i]? = some (.ref t) ∧ H t = some (.tup (pt p)) := by
  obtain ⟨t, e1, e2⟩ := h.2 i p e
  exact ⟨t, by rw [List.getElem?_map, e1]; rfl, e2⟩
theorem PtsAt.last {H : Hp} {ts : List Addr} {l : Line} (h : PtsAt H ts l) (hl : l ≠ []) : ∃ t, atI (ts.map V.ref) (-1) = some (.ref t) ∧ H t = some (.tup (pt (Uw20.last l))) := by
  obtain ⟨t, e1, e2⟩ := h.get (last_getElem hl)
  have : 0 < l.length := List.length_pos_iff.mpr hl
  refine ⟨t, atI_neg1 (by rw [List.length_map, h.1]; exact this) ?_, e2⟩
  rw [List.length_map, h.1]
  exact e1
/-- what the top has written of the class -/
structure BT (K : PySem.W.Frag) (C : Addr) : Prop where
  cl : Cls K C
  nP : NoAttr K C "places"
section
variable {P : Program} {w : World} {K : PySem.W.Frag} {mg : Str → Option Value} {base : Heap} {C : Addr}
/-! ### __init__ -/
def spInit (C : Addr) : Sp := fun vs H Q _ => ∃ (a dx : Addr) (v : V), vs = [.ref a, v] ∧ H a = some (.ins C dx []) ∧ ∀ H' : Hp, H' a = some (.ins C dx [("places", v)]) → (∀ b o, H b = some o → b ≠ a → H' b = some o) → Q .non H'
theorem scInit : FnScope ["self", "places"] ["self", "places"] (defScope sInit) := ⟨rfl, rfl, rfl, by decide +kernel, rfl, by decide +kernel, by decide +kernel⟩
theorem ok_init {f : Addr} {fd : FuncData} (F : Fun K "__init__" "Boundary.__init__" sInit f fd) (T : BT K C) : FnOk P w K mg base CX0 1 f fd ["self", "places"] (spInit C) := by
  refine F.ok scInit (fun vs H Q E h => ?_) (fun cdv A outer s H vs Q E hr h => ?_)
  · obtain ⟨a, dx, v, rfl, _⟩ := h
    rfl
  · obtain ⟨a, dx, v, rfl, ha, q⟩ := h
    refine ⟨_, pss_one (ps_fld (pv 0) (pv 1) rfl), ?_⟩
    refine ⟨_, rfl, _, rfl, a, C, dx, [], rfl, ha, T.cl, T.nP, (by show 0 < 1000; decide), ?_⟩
    exact q _ upd_same fun b o e hb => by
      rw [upd_ne hb]
      exact e
/-! ### length -/
def spLength (C : Addr) : Sp := fun vs H Q _ => ∃ (a : Addr) (l : Line), vs = [.ref a] ∧ BAt C H a l ∧ l ≠ [] ∧ Q (.int ((Uw20.last l).x : Int)) H
theorem scLength : FnScope ["self"] ["self"] (defScope sLength) := ⟨rfl, rfl, rfl, by decide +kernel, rfl, by decide +kernel, by decide +kernel⟩
theorem pt0 {p : Uw20.P} : atI (pt p) 0 = some (.int (p.x : Int)) := atI_nat (j := 0) rfl
theorem pt1 {p : Uw20.P} : atI (pt p) 1 = some (.int (p.y : Int)) := atI_nat (j := 1) rfl
theorem ok_length {f : Addr} {fd : FuncData} (F : Fun K "length" "Boundary.length" sLength f fd) (T : BT K C) : FnOk P w K mg base CX0 1 f fd ["self"] (spLength C) := by
  refine F.ok scLength (fun vs H Q E h => ?_) (fun cdv A outer s H vs Q E hr h => ?_)
  · obtain ⟨a, l, rfl, _⟩ := h
    rfl
  · obtain ⟨a, l, rfl, ⟨dx, p, ts, h1, h2, h3⟩, hne, q⟩ := h
    refine ⟨_, pss_one (ps_ret (pe_ix ix_tup (pe_ix ix_list (pe_fld (pv 0) rfl) (pe_un un_neg pe_int) (fun _ _ => rfl)) pe_int (fun _ _ => rfl))), ?_⟩
    obtain ⟨t, e1, e2⟩ := h3.last hne
    exact ⟨_, rfl, a, C, dx, _, _, rfl, h1, T.cl, T.nP, bF_places, 1, rfl, p, _, -1, _, rfl, rfl, .inl (.inl h2), e1, t, _, 0, _, rfl, rfl, .inl (.inl e2), pt0, q⟩
/-! ### with_place -/
def spWith (C : Addr) : Sp := fun vs H Q _ => ∃ (a : Addr) (l : Line) (x y : Nat), vs = [.ref a, .int (x : Int), .int (y : Int)] ∧ BAt C H a l ∧ l.length ≤ 100 ∧ ∀ H' b, Same H H' → BAt C H' b (l ++ [⟨x, y⟩]) → (∀ z, Pl C H' b z → H z = none) → Q (.ref b) H'
theorem scWith : FnScope ["self", "along", "height"] ["self", "along", "height"] (defScope sWith) := ⟨rfl, rfl, rfl, by decide +kernel, rfl, by decide +kernel, by decide +kernel⟩
theorem PtsAt.snoc {H : Hp} {ts : List Addr} {l : Line} {t : Addr} {p : Uw20.P} (h : PtsAt H ts l) (e : H t = some (.tup (pt p))) : PtsAt H (ts ++ [t]) (l ++ [p]) := by
  refine ⟨by rw [List.length_append, List.length_append, h.1]; rfl, fun i z hz => ?_⟩
  by_cases c : i < l.length
  · rw [List.getElem?_append_left c] at hz
    obtain ⟨t', e1, e2⟩ := h.2 i z hz
    exact ⟨t', by rw [List.getElem?_append_left (by rw [h.1]; exact c)]; exact e1, e2⟩
  · have hi : i = l.length := by
      have := (List.getElem?_eq_some_iff.mp hz).1
      rw [List.length_append] at this
      simp at this
      omega
    subst hi
    rw [List.getElem?_concat_length] at hz
    cases hz
    refine ⟨t, ?_, e⟩
    rw [← h.1, List.getElem?_concat_length]
theorem pl_eq {C dx p z : Addr} {H : Hp} {b : Addr} (e : H b = some (.ins C dx [("places", .ref p)])) (h : Pl C H b z) : z = p := by
  obtain ⟨d, h⟩ := h
  rw [e] at h
  have h1 := HO.ins.inj (Option.some.inj h)
  have h2 := h1.2.2
  have h3 := (List.cons.inj h2).1
  exact (V.ref.inj (Prod.mk.inj h3).2).symm
/-- a new boundary of a list -/
theorem made {H H1 : Hp} {x dx p : Addr} {ts : List Addr} {l : Line} (nx : H x = none) (nd : H dx = none) (h : H1 x = some (.ins C dx [("places", .ref p)])) (k : ∀ b o, (upd (upd H dx (.own x)) x (.ins C dx [])) b = some o → b ≠ x → H1 b = some o)
    (hp : H p = some (.lst (ts.map V.ref))) (hpt : PtsAt H ts l) : Same H H1 ∧ BAt C H1 x l := by
  have s : Same H H1 := Same.made nx nd k
  exact ⟨s, dx, p, ts, h, s _ _ hp, hpt.same s⟩
theorem ok_with {f : Addr} {fd : FuncData} (F : Fun K "with_place" "Boundary.with_place" sWith f fd) (T : BT K C) (M : SMak P w K mg base C 1 "Boundary" ["self", "places"] (spInit C)) : FnOk P w K mg base CX0 3 f fd ["self", "along", "height"] (spWith C) := by
  refine F.ok scWith (fun vs H Q E h => ?_) (fun cdv A outer s H vs Q E hr h => ?_)
  · obtain ⟨a, l, x, y, rfl, _⟩ := h
    rfl
  · obtain ⟨a, l, x, y, rfl, ⟨dx, p, ts, h1, h2, h3⟩, hlen, q⟩ := h
    refine ⟨_, pss_one (ps_ret (pe_sk M hr (by decide) (by rfl) (pa_cons (pe_op op_cat (pe_fld (pv 0) rfl) (pe_lst (pa_cons (pe_tup (pa_cons (pv 1) (pa_cons (pv 2) pa_nil))) pa_nil))) pa_nil))), ?_⟩
    refine ⟨_, rfl, a, C, dx, _, _, rfl, h1, T.cl, T.nP, bF_places, ?_⟩
    refine ⟨_, rfl, _, rfl, (by show 2 ≤ sizeLine; decide), fun t nt => ⟨(by show 1 ≤ sizeLine; decide), fun r nr => ?_⟩⟩
    have s1 : Same H (upd H t (.tup (pt ⟨x, y⟩))) := same_upd nt
    have s2 := same_upd (o := .lst [.ref t]) nr
    have e2 := s2 _ _ (s1 _ _ h2)
    refine ⟨p, r, _, _, rfl, rfl, e2, upd_same, ?_, fun g ng => ?_⟩
    · rw [List.length_map, h3.1]
      show l.length + 1 ≤ sizeLine
      have := small1000 (n := l.length + 1) (by omega)
      omega
    · have s3 := same_upd (o := .lst (ts.map V.ref ++ [.ref t])) ng
      have ht : upd (upd (upd H t (.tup (pt ⟨x, y⟩))) r (.lst [.ref t])) g (.lst (ts.map V.ref ++ [.ref t])) t = some (.tup (pt ⟨x, y⟩)) := s3 _ _ (s2 _ _ upd_same)
      intro b db nb nd ne
      refine ⟨b, db, .ref g, rfl, upd_same, fun H' e kp => ⟨rfl, ?_⟩⟩
      have z := made (C := C) (ts := ts ++ [t]) (l := l ++ [⟨x, y⟩]) nb nd e kp (by rw [upd_same, List.map_append]; rfl) ((((h3.same s1).same s2).same s3).snoc ht)
      refine q H' b (((s1.trans s2).trans s3).trans z.1) z.2 fun y hy => ?_
      rw [pl_eq e hy]
      exact (s1.trans s2).free ng
end
end SL
namespace SL
open PySem PySem.Spec PyProof.Rows L2
open Uw20 (Line)
theorem tYes_if {σ : L2.St} {H : Hp} {A B : Hp → Prop} (h : A H) : tYes σ H (fun b H3 => if b = true then A H3 else B H3) := by
  show if true = true then A H else B H
  rw [if_pos rfl]
  exact h
theorem cut1 (xs : List V) : cutV xs (some 1) none = xs.drop 1 := by
  unfold cutV
  rw [show HT.sIx xs.length 0 (some 1) = min 1 xs.length from HT.sIx_nat xs.length 0 1, HT.sIx_none]
  cases xs with
  | nil => rfl
  | cons x r =>
    rw [show min 1 (x :: r).length = 1 by
      rw [List.length_cons]
      omega]
    show (List.take ((x :: r).length - 1) r) = r
    rw [List.length_cons, Nat.add_sub_cancel]
    exact List.take_length
theorem pieces_get {l : Line} {i : Nat} {p q : Uw20.P} (h1 : l[i]? = some p) (h2 : l[i + 1]? = some q) : (Uw20.pieces l)[i]? = some (p, q) := by
  unfold Uw20.pieces
  rw [List.getElem?_zip_eq_some]
  exact ⟨h1, by rw [List.getElem?_drop, Nat.add_comm]; exact h2⟩
theorem cmul {i j : Int} (h : i.natAbs < 2 ^ 64) : CMul i j := .inl ⟨by omega, by omega⟩
theorem getE {α : Type} {l : List α} {i : Nat} (h : i < l.length) : ∃ x, l[i]? = some x := ⟨_, List.getElem?_eq_getElem h⟩
/-- a module's whole number -/
theorem pe_gi {X : Cx} {x : Str} {i : Int} {pos : Pos} (h : ∃ t, X.mg x = some (.int i t)) (hg : Gl X x) (hd : (x == ("__debug__" : Str)) = false := by decide) : PE X (.Name x pos) (tC (.int i)) := by
  obtain ⟨t, e⟩ := h
  exact pe_glob hg e ⟨t, rfl⟩ hd
section
variable {P : Program} {w : World} {K : PySem.W.Frag} {mg : Str → Option Value} {base : Heap} {C : Addr}
/-! ### area -/
def spArea (C : Addr) : Sp := fun vs H Q _ => ∃ (a : Addr) (l : Line), vs = [.ref a] ∧ BAt C H a l ∧ Ok l ∧ ∀ H', Same H H' → Q (.int (Uw20.twice l : Int)) H'
theorem scArea : FnScope ["self", "found", "x", "low", "z", "high"] ["self"] (defScope sArea) := ⟨rfl, rfl, rfl, by decide +kernel, rfl, by decide +kernel, by decide +kernel⟩
theorem ok_area {f : Addr} {fd : FuncData} (F : Fun K "area" "Boundary.area" sArea f fd) (T : BT K C) (mz : mg "zip" = none) : FnOk P w K mg base CX0 1 f fd ["self"] (spArea C) := by
  refine F.ok scArea (fun vs H Q E h => ?_) (fun cdv A outer s H vs Q E hr h => ?_)
  · obtain ⟨a, l, rfl, _⟩ := h
    rfl
  · obtain ⟨a, l, rfl, ⟨dx, p, ts, h1, h2, h3⟩, hok, q⟩ := h
    refine ⟨_, pss_cons (ps_set (i := 1) scArea.nd rfl (.inl rfl) pe_int)
      (pss_cons (ps_for PassesOwn.never rfl (pi_zip (by rfl) mz (pa_cons (pe_fld (pv 0) rfl) (pa_cons (pe_slice sl_list (pe_fld (pv 0) rfl) (po_some pe_int) po_none) pa_nil)))
          (pg_tup rfl (pgs_cons (pg_tup rfl (pgs_cons (pg_name (i := 2) scArea.nd rfl (.inl rfl)) (pgs_cons (pg_name (i := 3) scArea.nd rfl (.inl rfl)) pgs_nil)))
            (pgs_cons (pg_tup rfl (pgs_cons (pg_name (i := 4) scArea.nd rfl (.inl rfl)) (pgs_cons (pg_name (i := 5) scArea.nd rfl (.inl rfl)) pgs_nil))) pgs_nil)))
        (pss_one (ps_set (i := 1) scArea.nd rfl (.inl rfl) (pe_op op_add (pv 1) (pe_op op_mul (pe_op op_sub (pv 4) (pv 2)) (pe_op op_add (pv 3) (pv 5)))))))
      (pss_one (ps_ret (pv 1)))), ?_⟩
    have hS : SqL K H p (ts.map V.ref) := .inl (.inl h2)
    -- zip(self.places, self.places[1:])
    refine ⟨_, rfl, a, C, dx, _, _, rfl, h1, T.cl, T.nP, bF_places, _, rfl, a, C, dx, _, _, rfl, h1, T.cl, T.nP, bF_places, 1, rfl, p, ts.map V.ref, rfl, hS, fun c nc => ?_⟩
    have s1 : Same H (upd H c (.lst (cutV (ts.map V.ref) (some 1) none))) := same_upd nc
    refine ⟨p, c, ts.map V.ref, _, rfl, s1.seq hS, .inl (.inl upd_same), ?_⟩
    refine for_it (walk_zip (K := K) (a := p) (b := c) (xs := ts.map V.ref) (ys := cutV (ts.map V.ref) (some 1) none) rfl) (fun i σ H3 => ∃ y2 y3 y4 y5, σ = [some (.ref a), some (.int ((((Uw20.pieces l).map areaOf).take i).sum)), y2, y3, y4, y5] ∧ Same (upd H c (.lst (cutV (ts.map V.ref) (some 1) none))) H3)
      ⟨none, none, none, none, rfl, Same.refl _⟩ (fun i σ H3 _ hP => ?_) (fun i v σ H3 H4 hi hP hY => ?_) (fun σ H3 hP => ?_)
    · obtain ⟨_, _, _, _, _, s3⟩ := hP
      exact ⟨s3.seq (s1.seq hS), s3.seq (.inl (.inl upd_same))⟩
    · obtain ⟨y2, y3, y4, y5, rfl, s3⟩ := hP
      obtain ⟨t, x, y, rfl, nt, rfl, gx, gy⟩ := hY
      rw [cut1, List.length_drop, List.length_map, h3.1] at hi
      obtain ⟨p1, e1⟩ := getE (l := l) (i := i) (by omega)
      obtain ⟨p2, e2⟩ := getE (l := l) (i := i + 1) (by omega)
      obtain ⟨t1, g1, m1⟩ := h3.get e1
      obtain ⟨t2, g2, m2⟩ := h3.get e2
      have ex : x = .ref t1 := Option.some.inj (gx.symm.trans g1)
      have ey : y = .ref t2 := by
        have gy' : (cutV (ts.map V.ref) (some 1) none)[i]? = some y := gy
        rw [cut1, List.getElem?_drop, Nat.add_comm, g2] at gy'
        exact (Option.some.inj gy').symm
      subst ex ey
      have s4 := s3.trans (same_upd (o := .tup [.ref t1, .ref t2]) nt)
      have m1' := s4 _ _ (s1 _ _ m1)
      have m2' := s4 _ _ (s1 _ _ m2)
      refine ⟨t, _, rfl, .inl (.inl upd_same), rfl, _, _, rfl, t1, pt p1, rfl, .inl (.inl m1'), rfl, _, _, rfl, _, _, rfl, rfl, _, _, rfl, t2, pt p2, rfl, .inl (.inl m2'), rfl, _, _, rfl, _, _, rfl, rfl, rfl, ?_⟩
      have b1 := hok.xs _ (List.mem_of_getElem? e1)
      have b2 := hok.xs _ (List.mem_of_getElem? e2)
      refine ⟨_, rfl, _, rfl, _, rfl, _, _, rfl, rfl, _, rfl, _, rfl, _, _, rfl, rfl, _, _, rfl, rfl, cmul (by omega), _, _, rfl, rfl, ?_⟩
      refine ⟨some (.int (p1.x : Int)), some (.int (p1.y : Int)), some (.int (p2.x : Int)), some (.int (p2.y : Int)), ?_, s4⟩
      have ea : ((Uw20.pieces l).map areaOf)[i]? = some (areaOf (p1, p2)) := by
        rw [List.getElem?_map, pieces_get e1 e2]
        rfl
      rw [sum_take ea]
      rfl
    · obtain ⟨y2, y3, y4, y5, rfl, s3⟩ := hP
      refine ⟨_, rfl, ?_⟩
      have en : min (ts.map V.ref).length (cutV (ts.map V.ref) (some 1) none).length = ((Uw20.pieces l).map areaOf).length := by
        rw [cut1, List.length_drop, List.length_map, List.length_map, pieces_len, h3.1]
        omega
      rw [en, List.take_length, area_eq hok.up]
      exact q _ (s1.trans s3)
/-! ### end -/
def spEnd (C : Addr) : Sp := fun vs H Q _ => ∃ (a : Addr) (l : Line) (h : Nat), vs = [.ref a, .int (h : Int)] ∧ BAt C H a l ∧ Ok l ∧ 0 < Uw20.long l ∧ h ≤ 50 ∧ ∀ H' p, Same H H' → QAt H' p (Uw20.endOf l h) → Q (.ref p) H'
theorem scEnd : FnScope ["self", "height"] ["self", "height"] (defScope sEnd) := ⟨rfl, rfl, rfl, by decide +kernel, rfl, by decide +kernel, by decide +kernel⟩
theorem ok_end {f : Addr} {fd : FuncData} (F : Fun K "end" "Boundary.end" sEnd f fd) (A1 : SMet P w K mg base C 1 "area" ["self"] (spArea C)) (L1 : SMet P w K mg base C 1 "length" ["self"] (spLength C))
    (C1 : SCal P w K mg base CX0 2 "fraction" ["n", "d"] spFraction) : FnOk P w K mg base CX0 3 f fd ["self", "height"] (spEnd C) := by
  refine F.ok scEnd (fun vs H Q E h => ?_) (fun cdv A outer s H vs Q E hr h => ?_)
  · obtain ⟨a, l, h, rfl, _⟩ := h
    rfl
  · obtain ⟨a, l, h, rfl, hB, hok, hl, hh, q⟩ := h
    refine ⟨_, pss_one (ps_ret (pe_sc C1 hr (by decide) (by rfl) (pa_cons (pe_op op_sub (pe_sm0 A1 hr (by decide) (pv 0)) (pe_op op_mul (pv 1) (pe_sm0 L1 hr (by decide) (pv 0)))) (pa_cons (pe_sm0 L1 hr (by decide) (pv 0)) pa_nil)))), ?_⟩
    obtain ⟨dx, p, ts, h1, h2, h3⟩ := hB
    have hB : BAt C H a l := ⟨dx, p, ts, h1, h2, h3⟩
    refine ⟨_, rfl, a, dx, _, rfl, h1, bF_none (by decide +kernel), a, l, rfl, hB, hok, fun H1 s1 => ?_⟩
    refine ⟨_, rfl, _, rfl, a, dx, _, rfl, s1 _ _ h1, bF_none (by decide +kernel), a, l, rfl, hB.same s1, hok.ne, _, _, rfl, rfl, cmul (by omega), _, _, rfl, rfl, ?_⟩
    refine ⟨_, rfl, a, dx, _, rfl, s1 _ _ h1, bF_none (by decide +kernel), a, l, rfl, hB.same s1, hok.ne, ?_⟩
    have eL : Uw20.long l = (Uw20.last l).x := long_eq hok.x0
    have hL := hok.long_le
    refine ⟨_, (Uw20.last l).x, rfl, by omega, ?_, fun H' r s2 e => q H' r (s1.trans s2) ?_⟩
    · exact Nat.lt_of_lt_of_le (show (Uw20.last l).x < 2 ^ 7 by omega) (Nat.pow_le_pow_right (by decide) (by decide))
    · unfold Uw20.endOf
      rw [eL]
      exact e
/-! ### is_on_land -/
def spOnLand (C : Addr) : Sp := fun vs H Q _ => ∃ (a : Addr) (l : Line) (h : Nat), vs = [.ref a, .int (h : Int)] ∧ BAt C H a l ∧ Ok l ∧ 0 < Uw20.long l ∧ h ≤ 50 ∧ ∀ H', Same H H' → Q (.bl (Uw20.may l h)) H'
theorem scOnLand : FnScope ["self", "height", "n", "d"] ["self", "height"] (defScope sOnLand) := ⟨rfl, rfl, rfl, by decide +kernel, rfl, by decide +kernel, by decide +kernel⟩
theorem ok_onland {f : Addr} {fd : FuncData} (F : Fun K "is_on_land" "Boundary.is_on_land" sOnLand f fd) (E1 : SMet P w K mg base C 3 "end" ["self", "height"] (spEnd C)) (gM : ∃ t, mg "MOST_HIGH" = some (.int 50 t)) : FnOk P w K mg base CX0 4 f fd ["self", "height"] (spOnLand C) := by
  refine F.ok scOnLand (fun vs H Q E h => ?_) (fun cdv A outer s H vs Q E hr h => ?_)
  · obtain ⟨a, l, h, rfl, _⟩ := h
    rfl
  · obtain ⟨a, l, h, rfl, hB, hok, hl, hh, q⟩ := h
    refine ⟨_, pss_cons (ps_asg (pe_sm E1 hr (by decide) (pv 0) (pa_cons (pv 1) pa_nil)) (pg_tup rfl (pgs_cons (pg_name (i := 2) scOnLand.nd rfl (.inl rfl)) (pgs_cons (pg_name (i := 3) scOnLand.nd rfl (.inl rfl)) pgs_nil))))
      (pss_one (ps_ret (pe_and (pe_cmpR op_le pe_int (pv 2) (nomark _)) (pe_one (pe_cmpR op_le (pv 2) (pe_op op_mulW (pe_gi gM (by rfl)) (pv 3)) (nomark _)))))), ?_⟩
    obtain ⟨dx, p, ts, h1, h2, h3⟩ := hB
    refine ⟨_, rfl, a, dx, _, rfl, h1, bF_none (by decide +kernel), _, rfl, a, l, h, rfl, ⟨dx, p, ts, h1, h2, h3⟩, hok, hl, hh, fun H1 r s1 e => ?_⟩
    refine ⟨r, _, rfl, .inl (.inl e), rfl, _, _, rfl, _, _, rfl, rfl, ?_⟩
    obtain ⟨z1, z2, z3⟩ := hok.end_sz hh hl
    refine ⟨_, rfl, _, _, rfl, rfl, _, rfl, ite2 (fun c => ?_) (fun c => ?_)⟩
    · refine ⟨_, rfl, _, rfl, _, _, rfl, rfl, mulW (by show (50 : Int).natAbs < 2 ^ 3000; exact up (a := 6) (by decide) (by decide)) (up z2 (by decide)), _, _, rfl, rfl, ?_⟩
      have := q H1 s1
      rw [may_eq, c, Bool.true_and] at this
      exact this
    · have := q H1 s1
      have c' : decide (0 ≤ (Uw20.endOf l h).n) = false := by
        cases z : decide (0 ≤ (Uw20.endOf l h).n) with
        | false => rfl
        | true => exact absurd z c
      rw [may_eq, c', Bool.false_and] at this
      exact this
/-! ### above -/
def spAbove (C : Addr) : Sp := fun vs H Q _ => ∃ (a : Addr) (l : Line) (h : Nat), vs = [.ref a, .int (h : Int)] ∧ BAt C H a l ∧ Ok l ∧ h ≤ 50 ∧ ∀ H' p, Same H H' → H' p = some (.lst ((l.map (aboveM l h)).map V.int)) → Q (.ref p) H'
theorem scAbove : FnScope ["self", "height", "length", "rise", "along", "high"] ["self", "height"] (defScope sAbove) := ⟨rfl, rfl, rfl, by decide +kernel, rfl, by decide +kernel, by decide +kernel⟩
theorem take_snoc {α β : Type} {f : α → β} {l : List α} {i : Nat} {x : α} (h : l[i]? = some x) : (l.take (i + 1)).map f = (l.take i).map f ++ [f x] := by
  rw [List.take_add_one, h, List.map_append]
  rfl
theorem ok_above {f : Addr} {fd : FuncData} (F : Fun K "above" "Boundary.above" sAbove f fd) (T : BT K C) (A1 : SMet P w K mg base C 1 "area" ["self"] (spArea C)) (L1 : SMet P w K mg base C 1 "length" ["self"] (spLength C)) : FnOk P w K mg base CX0 2 f fd ["self", "height"] (spAbove C) := by
  refine F.ok scAbove (fun vs H Q E h => ?_) (fun cdv A outer s H vs Q E hr h => ?_)
  · obtain ⟨a, l, h, rfl, _⟩ := h
    rfl
  · obtain ⟨a, l, h, rfl, hB, hok, hh, q⟩ := h
    refine ⟨_, pss_cons (ps_set (i := 2) scAbove.nd rfl (.inr rfl) (pe_sm0 L1 hr (by decide) (pv 0)))
      (pss_cons (ps_set (i := 3) scAbove.nd rfl (.inr rfl) (pe_op op_sub (pe_sm0 A1 hr (by decide) (pv 0)) (pe_op op_mul (pe_op op_mul pe_int (pv 1)) (pv 2))))
      (pss_one (ps_ret (pe_lc (own := [("along", 4), ("high", 5)]) (g := gTup K 2 (gCons (gName 4) (gCons (gName 5) gNil))) (tt := tYes) rfl scAbove.nd (pi_list (pe_fld (pv 0) rfl)) (blkOk_by (N := ["self", "height", "length", "rise", "along", "high"]) (sc := defScope sAbove) (by decide +kernel))
        (fun _ _ _ _ _ => by exact pg_tup rfl (pgs_cons (pg_name (i := 4) scAbove.nd rfl (.inl rfl)) (pgs_cons (pg_name (i := 5) scAbove.nd rfl (.inl rfl)) pgs_nil)))
        (fun _ _ _ _ _ => pts_nil)
        (fun _ _ _ _ _ => pe_op op_add (pe_op op_mul (pe_op op_mul (pe_op op_sub (pv 1) (pv 5)) (pv 2)) (pv 2)) (pe_op op_mul (pv 3) (pv 4))))))), ?_⟩
    obtain ⟨dx, p, ts, h1, h2, h3⟩ := hB
    have hB : BAt C H a l := ⟨dx, p, ts, h1, h2, h3⟩
    have eL : Uw20.long l = (Uw20.last l).x := long_eq hok.x0
    have hL := hok.long_le
    refine ⟨_, rfl, a, dx, _, rfl, h1, bF_none (by decide +kernel), a, l, rfl, hB, hok.ne, ?_⟩
    refine ⟨_, rfl, a, dx, _, rfl, h1, bF_none (by decide +kernel), a, l, rfl, hB, hok, fun H1 s1 => ?_⟩
    refine ⟨_, rfl, _, _, rfl, rfl, cmul (by decide), _, rfl, _, _, rfl, rfl, cmul (by omega), _, _, rfl, rfl, ?_⟩
    refine ⟨_, rfl, a, C, dx, _, _, rfl, s1 _ _ h1, T.cl, T.nP, bF_places, p, rfl, ⟨_, .inl (.inl (s1 _ _ h2))⟩, fun D nD => ?_⟩
    refine lc_list (K := K) (a := p) (xs := ts.map V.ref) (fun i H3 => ∃ m : Hp → Prop, Same H1 H3 ∧ H3 D = some (.lst (((l.take i).map (aboveM l h)).map V.int))) ⟨fun _ => True, same_upd nD, upd_same⟩ (fun i H3 _ hP => ?_) (fun i v H3 hv hP => ?_) (fun H3 hP => ?_)
    · obtain ⟨_, s3, _⟩ := hP
      exact s3.seq (.inl (.inl (s1 _ _ h2)))
    · obtain ⟨_, s3, eD⟩ := hP
      have hi : i < l.length := by
        have := (List.getElem?_eq_some_iff.mp hv).1
        rw [List.length_map, h3.1] at this
        exact this
      obtain ⟨p1, e1⟩ := getE hi
      obtain ⟨t1, g1, m1⟩ := h3.get e1
      have ev : v = .ref t1 := Option.some.inj (hv.symm.trans g1)
      subst ev
      have m1' := s3 _ _ (s1 _ _ m1)
      have bx := hok.xs _ (List.mem_of_getElem? e1)
      have by_ := hok.ys _ (List.mem_of_getElem? e1)
      refine ⟨t1, pt p1, rfl, .inl (.inl m1'), rfl, _, _, rfl, _, _, rfl, rfl, rfl, ?_⟩
      refine tYes_if ?_
      have r1 := hok.rise_le hh
      rw [eL] at r1
      have c1 : (((h : Int) - (p1.y : Int)) * ((Uw20.last l).x : Int)).natAbs ≤ 50 * 100 := abs_mul_le (by omega) (by omega)
      refine ⟨_, rfl, _, rfl, _, _, rfl, rfl, _, rfl, _, _, rfl, rfl, cmul (by omega), _, rfl, _, _, rfl, rfl, cmul (by omega), _, rfl, _, rfl, _, _, rfl, rfl, cmul (by omega), _, _, rfl, rfl, ?_⟩
      refine ⟨_, eD, ?_, fun _ => True, fun b o e => ?_, ?_⟩
      · rw [List.length_map, List.length_map, List.length_take]
        have := hok.len
        exact small1000 (by omega)
      · have nb : b ≠ D := ne_of_none e nD
        rw [upd_ne nb]
        exact s3 _ _ e
      · rw [upd_same, take_snoc e1, List.map_append]
        unfold aboveM
        rw [eL]
        rfl
    · obtain ⟨_, s3, eD⟩ := hP
      rw [List.length_map, h3.1, List.take_length] at eD
      exact q H3 D (s1.trans s3) eD
end
end SL
namespace SL
open PySem PySem.Spec PyProof.Rows L2
open Uw20 (Line)
theorem seq_if_and {tA tB : TT} {t v : TS} {D : Ends} {σ : L2.St} {H : Hp} {ca cb : Bool} (hA : ∀ Q : Bool → Hp → Prop, Q ca H → tA σ H Q) (hB : ∀ Q : Bool → Hp → Prop, Q cb H → tB σ H Q)
    (h1 : (ca && cb) = true → t { D with nx := v D } σ H) (h2 : ¬ (ca && cb) = true → v D σ H) : tSeq (tIfS (tAnd tA tB) t tNext) v D σ H := by
  refine hA _ ?_
  have key : if (ca && cb) = true then t { D with nx := v D } σ H else v D σ H := ite2 h1 h2
  cases ca with
  | true => exact hB _ key
  | false => exact key
section
variable {P : Program} {w : World} {K : PySem.W.Frag} {mg : Str → Option Value} {base : Heap} {C : Addr}
/-! ### part_above -/
def spPart : Sp := fun vs H Q _ => ∃ (n : Nat) (a b : Int), vs = [.int (n : Int), .int a, .int b] ∧ n ≤ 100 ∧ a.natAbs < 2 ^ 22 ∧ b.natAbs < 2 ^ 22 ∧ ∀ H' p, Same H H' → QAt H' p (partM n a b) → Q (.ref p) H'
theorem scPart : FnScope ["wide", "first", "second", "top"] ["wide", "first", "second"] (defScope sPart) := ⟨rfl, rfl, rfl, by decide +kernel, rfl, by decide +kernel, by decide +kernel⟩
theorem ok_part {f : Addr} {fd : FuncData} (F : Fun K "part_above" "part_above" sPart f fd) (mM : mg "max" = none) (mm : mg "min" = none) (C1 : SCal P w K mg base CX0 2 "fraction" ["n", "d"] spFraction) : FnOk P w K mg base CX0 3 f fd ["wide", "first", "second"] spPart := by
  refine F.ok scPart (fun vs H Q E h => ?_) (fun cdv A outer s H vs Q E hr h => ?_)
  · obtain ⟨n, a, b, rfl, _⟩ := h
    rfl
  · obtain ⟨n, a, b, rfl, hn, ha, hb, q⟩ := h
    refine ⟨_, pss_cons (ps_if (pw_and (pt_cmpR op_ge (pv 1) pe_int (nomark _)) (pw_and1 (pt_cmpR op_ge (pv 2) pe_int (nomark _)))).pt
        (pss_one (ps_ret (pe_tup (pa_cons (pe_op op_mul (pv 0) (pe_op op_add (pv 1) (pv 2))) (pa_cons pe_int pa_nil))))) pss_nil)
      (pss_cons (ps_if (pw_and (pt_cmpR op_le (pv 1) pe_int (nomark _)) (pw_and1 (pt_cmpR op_le (pv 2) pe_int (nomark _)))).pt
        (pss_one (ps_ret (pe_tup (pa_cons pe_int (pa_cons pe_int pa_nil))))) pss_nil)
      (pss_cons (ps_set (i := 3) scPart.nd rfl (.inl rfl) (pe_callB (call_max2 rfl) (by rfl) mM PyProof.Rows.boot_max (pa_cons (pv 1) (pa_cons (pv 2) pa_nil))))
      (pss_one (ps_ret (pe_sc C1 hr (by decide) (by rfl) (pa_cons (pe_op op_mul (pe_op op_mul (pv 0) (pv 3)) (pv 3)) (pa_cons (pe_op op_sub (pv 3) (pe_callB (call_min2 rfl) (by rfl) mm PyProof.Rows.boot_min (pa_cons (pv 1) (pa_cons (pv 2) pa_nil)))) pa_nil))))))), ?_⟩
    refine seq_if_and (ca := decide (0 ≤ a)) (cb := decide (0 ≤ b)) (fun Q h => ⟨_, rfl, _, _, rfl, rfl, _, rfl, h⟩) (fun Q h => ⟨_, rfl, _, _, rfl, rfl, _, rfl, h⟩) (fun c => ?_) (fun c => ?_)
    · rw [Bool.and_eq_true] at c
      have c1 : 0 ≤ a := of_decide_eq_true c.1
      have c2 : 0 ≤ b := of_decide_eq_true c.2
      refine ⟨_, rfl, _, rfl, _, rfl, _, _, rfl, rfl, _, _, rfl, rfl, cmul (by omega), (by show 2 ≤ sizeLine; decide), fun p np => ?_⟩
      refine q _ p (same_upd np) ?_
      show upd H p _ p = some _
      rw [upd_same]
      unfold partM
      rw [if_pos ⟨c1, c2⟩]
      rfl
    · have c' : ¬ (0 ≤ a ∧ 0 ≤ b) := fun z => c (by rw [Bool.and_eq_true]; exact ⟨decide_eq_true z.1, decide_eq_true z.2⟩)
      refine seq_if_and (ca := decide (a ≤ 0)) (cb := decide (b ≤ 0)) (fun Q h => ⟨_, rfl, _, _, rfl, rfl, _, rfl, h⟩) (fun Q h => ⟨_, rfl, _, _, rfl, rfl, _, rfl, h⟩) (fun d => ?_) (fun d => ?_)
      · rw [Bool.and_eq_true] at d
        have d1 : a ≤ 0 := of_decide_eq_true d.1
        have d2 : b ≤ 0 := of_decide_eq_true d.2
        refine ⟨(by show 2 ≤ sizeLine; decide), fun p np => ?_⟩
        refine q _ p (same_upd np) ?_
        show upd H p _ p = some _
        rw [upd_same]
        unfold partM
        rw [if_neg c', if_pos ⟨d1, d2⟩]
        rfl
      · have d' : ¬ (a ≤ 0 ∧ b ≤ 0) := fun z => d (by rw [Bool.and_eq_true]; exact ⟨decide_eq_true z.1, decide_eq_true z.2⟩)
        have eM : (if b > a then b else a) = max a b := by split <;> omega
        have em : (if b < a then b else a) = min a b := by split <;> omega
        refine ⟨_, rfl, _, rfl, a, b, rfl, ?_⟩
        rw [eM]
        have hM : (max a b).natAbs ≤ 2 ^ 22 := by omega
        have hp : ((n : Int) * max a b).natAbs ≤ 100 * 2 ^ 22 := abs_mul_le (by omega) hM
        refine ⟨_, rfl, _, rfl, _, _, rfl, rfl, cmul (by omega), _, rfl, _, _, rfl, rfl, cmul (by omega), ?_⟩
        refine ⟨_, rfl, _, rfl, _, rfl, a, b, rfl, ?_⟩
        rw [em]
        refine ⟨_, _, rfl, rfl, ?_⟩
        refine ⟨(n : Int) * max a b * max a b, (max a b - min a b).toNat, ?_, by omega, ?_, fun H' p s1 e => q H' p s1 ?_⟩
        · have : (((max a b - min a b).toNat : Nat) : Int) = max a b - min a b := by omega
          rw [this]
          rfl
        · exact up (a := 24) (by omega) (by decide)
        · unfold partM
          rw [if_neg c', if_neg d']
          exact e
/-! ### changed -/
def spChanged (C : Addr) : Sp := fun vs H Q _ => ∃ (a : Addr) (l : Line) (h : Nat), vs = [.ref a, .int (h : Int)] ∧ BAt C H a l ∧ Ok l ∧ 0 < Uw20.long l ∧ h ≤ 50 ∧ ∀ H' p, Same H H' → QAt H' p (changedM l h) → Q (.ref p) H'
theorem scChanged : FnScope ["self", "height", "found", "some", "k", "wide"] ["self", "height"] (defScope sChanged) := ⟨rfl, rfl, rfl, by decide +kernel, rfl, by decide +kernel, by decide +kernel⟩
theorem sum_more {qs : List Uw20.Q} {i : Nat} {x : Uw20.Q} (h : qs[i]? = some x) : sumM (qs.take (i + 1)) = (sumM (qs.take i)).plus x := by
  unfold sumM
  rw [List.take_add_one, h, List.foldl_append]
  rfl
theorem parts_get {l : Line} {h i : Nat} {p q : Uw20.P} (h1 : l[i]? = some p) (h2 : l[i + 1]? = some q) : (partsM l h)[i]? = some (partM (q.x - p.x) (aboveM l h p) (aboveM l h q)) := by
  unfold partsM
  rw [List.getElem?_map, pieces_get h1 h2]
  rfl
theorem ok_changed {f : Addr} {fd : FuncData} (F : Fun K "changed" "Boundary.changed" sChanged f fd) (T : BT K C) (mr : mg "range" = none) (ml : mg "len" = none) (L1 : SMet P w K mg base C 1 "length" ["self"] (spLength C)) (Ab : SMet P w K mg base C 2 "above" ["self", "height"] (spAbove C))
    (C1 : SCal P w K mg base CX0 2 "fraction" ["n", "d"] spFraction) (C2 : SCal P w K mg base CX0 3 "plus" ["one", "other"] spPlus) (C3 : SCal P w K mg base CX0 3 "part_above" ["wide", "first", "second"] spPart) : FnOk P w K mg base CX0 4 f fd ["self", "height"] (spChanged C) := by
  refine F.ok scChanged (fun vs H Q E h => ?_) (fun cdv A outer s H vs Q E hr h => ?_)
  · obtain ⟨a, l, h, rfl, _⟩ := h
    rfl
  · obtain ⟨a, l, h, rfl, hB, hok, hl, hh, q⟩ := h
    refine ⟨_, pss_cons (ps_set (i := 2) scChanged.nd rfl (.inl rfl) (pe_tup (pa_cons pe_int (pa_cons pe_int pa_nil))))
      (pss_cons (ps_set (i := 3) scChanged.nd rfl (.inl rfl) (pe_sm Ab hr (by decide) (pv 0) (pa_cons (pv 1) pa_nil)))
      (pss_cons (ps_for PassesOwn.never rfl (pi_range1 (by rfl) mr (pa_cons (pe_op op_sub (pe_callB call_len_seq (by rfl) ml PySem.boot_len (pa_cons (pv 3) pa_nil)) pe_int) pa_nil)) (pg_name (i := 4) scChanged.nd rfl (.inl rfl))
        (pss_cons (ps_set (i := 5) scChanged.nd rfl (.inl rfl) (pe_op op_sub (pe_ix ix_tup (pe_ix ix_list (pe_fld (pv 0) rfl) (pe_op op_add (pv 4) pe_int) (fun _ _ => rfl)) pe_int (fun _ _ => rfl)) (pe_ix ix_tup (pe_ix ix_list (pe_fld (pv 0) rfl) (pv 4) (fun _ _ => rfl)) pe_int (fun _ _ => rfl))))
        (pss_one (ps_set (i := 2) scChanged.nd rfl (.inl rfl) (pe_sc C2 hr (by decide) (by rfl) (pa_cons (pv 2) (pa_cons (pe_sc C3 hr (by decide) (by rfl) (pa_cons (pv 5) (pa_cons (pe_ix ix_list (pv 3) (pv 4) (fun _ _ => rfl)) (pa_cons (pe_ix ix_list (pv 3) (pe_op op_add (pv 4) pe_int) (fun _ _ => rfl)) pa_nil)))) pa_nil)))))))
      (pss_one (ps_ret (pe_sc C1 hr (by decide) (by rfl) (pa_cons (pe_ix ix_tup (pv 2) pe_int (fun _ _ => rfl)) (pa_cons (pe_op op_mulW (pe_op op_mulW (pe_ix ix_tup (pv 2) pe_int (fun _ _ => rfl)) (pe_sm0 L1 hr (by decide) (pv 0))) (pe_sm0 L1 hr (by decide) (pv 0))) pa_nil))))))), ?_⟩
    obtain ⟨dx, p, ts, h1, h2, h3⟩ := hB
    have hB : BAt C H a l := ⟨dx, p, ts, h1, h2, h3⟩
    have eL : Uw20.long l = (Uw20.last l).x := long_eq hok.x0
    have hL := hok.long_le
    -- found = (0, 1)
    refine ⟨(by show 2 ≤ sizeLine; decide), fun r0 nr0 => ?_⟩
    have s0 : Same H (upd H r0 (.tup [.int 0, .int 1])) := same_upd nr0
    -- some = self.above(height)
    refine ⟨_, rfl, a, dx, _, rfl, s0 _ _ h1, bF_none (by decide +kernel), _, rfl, a, l, h, rfl, hB.same s0, hok, hh, fun H1 sm s1 esm => ?_⟩
    have s01 := s0.trans s1
    have er0 : QAt H1 r0 (sumM ((partsM l h).take 0)) := s1 _ _ upd_same
    have hlen : 0 < l.length := List.length_pos_iff.mpr hok.ne
    have hlen8 := hok.len
    -- range(len(some) - 1)
    refine ⟨_, rfl, sm, _, rfl, .inl (.inl (.inl esm)), _, _, rfl, rfl, _, rfl, ?_, ?_, ?_⟩
    · rw [List.length_map, List.length_map]
      omega
    · rw [List.length_map, List.length_map]
      omega
    have en : ((((l.map (aboveM l h)).map V.int).length : Int) - 1).toNat = l.length - 1 := by
      rw [List.length_map, List.length_map]
      omega
    show ∃ W, _
    rw [en]
    refine for_range (lo := 0) (n := l.length - 1) (fun i σ H3 => ∃ (r : Addr) (y4 y5 : Option V), σ = [some (.ref a), some (.int (h : Int)), some (.ref r), some (.ref sm), y4, y5] ∧ Same H1 H3 ∧ QAt H3 r (sumM ((partsM l h).take i)))
      ⟨r0, none, none, rfl, Same.refl _, er0⟩ (fun i σ H3 hi hP => ?_) (fun σ H3 hP => ?_)
    · obtain ⟨r, y4, y5, rfl, s3, er⟩ := hP
      obtain ⟨p1, e1⟩ := getE (l := l) (i := i) (by omega)
      obtain ⟨p2, e2⟩ := getE (l := l) (i := i + 1) (by omega)
      obtain ⟨t1, g1, m1⟩ := h3.get e1
      obtain ⟨t2, g2, m2⟩ := h3.get e2
      have s03 := s01.trans s3
      have k1 : (0 : Int) + (i : Int) = ((i : Nat) : Int) := by omega
      have k2 : (0 : Int) + (i : Int) + 1 = ((i + 1 : Nat) : Int) := by omega
      have b1 := hok.xs _ (List.mem_of_getElem? e1)
      have b2 := hok.xs _ (List.mem_of_getElem? e2)
      have hlt : p1.x < p2.x := by
        obtain ⟨i1, j1⟩ := List.getElem?_eq_some_iff.mp e1
        obtain ⟨i2, j2⟩ := List.getElem?_eq_some_iff.mp e2
        have := List.pairwise_iff_getElem.mp hok.up i (i + 1) i1 i2 (by omega)
        rw [j1, j2] at this
        exact this
      have gA : ∀ {j : Nat} {z : Uw20.P}, l[j]? = some z → ((l.map (aboveM l h)).map V.int)[j]? = some (.int (aboveM l h z)) := fun {j z} e => by
        rw [List.getElem?_map, List.getElem?_map, e]
        rfl
      -- wide = self.places[k + 1][0] - self.places[k][0]
      refine ⟨_, rfl, a, C, dx, _, _, rfl, s03 _ _ h1, T.cl, T.nP, bF_places, _, rfl, _, _, rfl, rfl, p, _, _, _, rfl, rfl, .inl (.inl (s03 _ _ h2)), at_of k2 g2, t2, _, 0, _, rfl, rfl, .inl (.inl (s03 _ _ m2)), pt0, ?_⟩
      refine ⟨_, rfl, a, C, dx, _, _, rfl, s03 _ _ h1, T.cl, T.nP, bF_places, _, rfl, p, _, _, _, rfl, rfl, .inl (.inl (s03 _ _ h2)), at_of k1 g1, t1, _, 0, _, rfl, rfl, .inl (.inl (s03 _ _ m1)), pt0, _, _, rfl, rfl, ?_⟩
      -- found = plus(found, part_above(wide, some[k], some[k + 1]))
      have sL : SqL K H3 sm ((l.map (aboveM l h)).map V.int) := .inl (.inl (s3 _ _ esm))
      refine ⟨_, rfl, _, rfl, _, rfl, _, rfl, sm, _, _, _, rfl, rfl, sL, at_of k1 (gA e1), _, rfl, _, rfl, _, _, rfl, rfl, sm, _, _, _, rfl, rfl, sL, at_of k2 (gA e2), ?_⟩
      have mem1 := List.mem_of_getElem? e1
      have mem2 := List.mem_of_getElem? e2
      refine ⟨p2.x - p1.x, _, _, ?_, by omega, hok.above_le hh mem1, hok.above_le hh mem2, fun H4 u s4 eu => ?_⟩
      · rw [Int.ofNat_sub (by omega)]
        rfl
      have ep : (partsM l h)[i]? = some (partM (p2.x - p1.x) (aboveM l h p1) (aboveM l h p2)) := parts_get e1 e2
      refine ⟨r, u, _, _, rfl, s4 _ _ er, eu, (hok.sum_take_sz hh i).mono (by decide), (hok.parts_sz hh _ (List.mem_of_getElem? ep)).mono (by decide), fun H5 r5 s5 e5 => ?_⟩
      refine ⟨r5, _, _, rfl, (s3.trans s4).trans s5, ?_⟩
      rw [sum_more ep]
      exact e5
    · obtain ⟨r, y4, y5, rfl, s3, er⟩ := hP
      have et : (partsM l h).take (l.length - 1) = partsM l h := List.take_of_length_le (by
        unfold partsM
        rw [List.length_map, pieces_len]
        exact Nat.le_refl _)
      rw [et] at er
      have s03 := s01.trans s3
      have hz := hok.sum_take_sz hh (partsM l h).length
      rw [List.take_length] at hz
      obtain ⟨z1, z2, z3⟩ := hz
      have hS : SqT K H3 r (fr (sumM (partsM l h))) := .inl (.inl er)
      have w1 : (((sumM (partsM l h)).d : Int) * ((Uw20.last l).x : Int)).natAbs < 2 ^ 600 := by
        rw [Int.natAbs_mul, Int.natAbs_natCast, Int.natAbs_natCast]
        have : (sumM (partsM l h)).d * (Uw20.last l).x < 2 ^ 500 * 2 ^ 7 := Nat.mul_lt_mul'' z2 (by omega)
        rw [← Nat.pow_add] at this
        exact up this (by decide)
      refine ⟨_, rfl, r, _, 0, _, rfl, rfl, hS, fr0, ?_⟩
      refine ⟨_, rfl, r, _, 1, _, rfl, rfl, hS, fr1, _, rfl, a, dx, _, rfl, s03 _ _ h1, bF_none (by decide +kernel), a, l, rfl, hB.same s03, hok.ne, _, _, rfl, rfl, mulW (up z2 (by decide)) (up (a := 7) (show (Uw20.last l).x < 2 ^ 7 by omega) (by decide)), ?_⟩
      refine ⟨_, rfl, a, dx, _, rfl, s03 _ _ h1, bF_none (by decide +kernel), a, l, rfl, hB.same s03, hok.ne, _, _, rfl, rfl, mulW (up w1 (by decide)) (up (a := 7) (show (Uw20.last l).x < 2 ^ 7 by omega) (by decide)), ?_⟩
      have ed : (((sumM (partsM l h)).d * Uw20.long l * Uw20.long l : Nat) : Int) = ((sumM (partsM l h)).d : Int) * ((Uw20.last l).x : Int) * ((Uw20.last l).x : Int) := by
        rw [eL, Int.natCast_mul, Int.natCast_mul]
      refine ⟨_, (sumM (partsM l h)).d * Uw20.long l * Uw20.long l, ?_, dpos (dpos z3 hl) hl, ?_, fun H' p' s4 e => q H' p' (s03.trans s4) e⟩
      · rw [ed]
        rfl
      · have h2 : (sumM (partsM l h)).d * Uw20.long l * Uw20.long l < 2 ^ 600 * 2 ^ 7 := Nat.mul_lt_mul'' (by
          rw [Int.natAbs_mul, Int.natAbs_natCast, Int.natAbs_natCast, ← eL] at w1
          exact w1) (by omega)
        rw [← Nat.pow_add] at h2
        exact up h2 (by decide)
end
end SL
namespace SL
open PySem PySem.Spec PyProof.Rows L2
open Uw20 (Line)
/-- what the top has written of Refused, at CR -/
structure RT (K : PySem.W.Frag) (mg : Str → Option Value) (CR : Addr) : Prop where
  ox : OexC K CR
  xf : XfC K CR
  noC : PySem.W.findIn K (.ref CR) "code" = some none
  gC : mg "Refused" = some (.ref CR)
  te : PySem.W.exmOne K (.ref CR) (.ref CR) = some true
  mV : mg "ValueError" = none
  vV : PySem.W.findCls K (.type "ValueError") (.type "type") "__init__" = some (.val (.builtin "ValueError.__init__"))
/-- the wish of a refusal -/
def Err (CR : Addr) (E : XK) (H : Hp) (c : Int) : Prop := ∀ H' d, Same H H' → H' d = some (.xd [("code", .int c)]) → E (.ref CR) (some d) H'
section
variable {P : Program} {w : World} {K : PySem.W.Frag} {mg : Str → Option Value} {base : Heap} {C CR : Addr}
/-! ### Refused.__init__ -/
def spRInit (CR : Addr) : Sp := fun vs H Q _ => ∃ (a : Addr) (c : Int), vs = [.ref a, .int c] ∧ H a = some (exo a CR none) ∧ ∀ dx, H dx = none → dx ≠ a → Q .non (upd (upd H dx (exd dx [("code", .int c)])) a (exo a CR (some dx)))
theorem scRInit : FnScope ["self", "code"] ["self", "code"] (defScope sRInit) := ⟨rfl, rfl, rfl, by decide +kernel, rfl, by decide +kernel, by decide +kernel⟩
theorem ok_rinit {f : Addr} {fd : FuncData} (F : Fun K "__init__" "Refused.__init__" sRInit f fd) (T : RT K mg CR) : FnOk P w K mg base CX0 1 f fd ["self", "code"] (spRInit CR) := by
  refine F.ok scRInit (fun vs H Q E h => ?_) (fun cdv A outer s H vs Q E hr h => ?_)
  · obtain ⟨a, c, rfl, _⟩ := h
    rfl
  · obtain ⟨a, c, rfl, ha, q⟩ := h
    refine ⟨_, pss_cons (ps_expr (pe_veinit (by rfl) T.mV T.vV (pa_cons (pv 0) (pa_cons pe_str pa_nil)))) (pss_one (ps_ost (pv 0) (pv 1))), ?_⟩
    refine ⟨_, rfl, a, CR, _, rfl, by decide, T.ox, ha, ?_⟩
    exact ⟨_, rfl, _, rfl, a, CR, rfl, T.ox, T.noC, .inl ⟨ha, fun dx n ne => q dx n ne⟩⟩
/-! ### want -/
def spWant (CR : Addr) : Sp := fun vs H Q E => ∃ (b : Bool) (c : Int), vs = [.bl b, .int c] ∧ (b = true → Q .non H) ∧ (b = false → Err CR E H c)
theorem scWant : FnScope ["is_so", "code"] ["is_so", "code"] (defScope sWant) := ⟨rfl, rfl, rfl, by decide +kernel, rfl, by decide +kernel, by decide +kernel⟩
theorem ok_want {f fI : Addr} {fd fdI : FuncData} (F : Fun K "want" "want" sWant f fd) (T : RT K mg CR) (iC : PySem.W.findIn K (.ref CR) "__init__" = some (some (.ref fI))) (tI : PySem.W.typeIn K (.ref fI) = some (.type "function"))
    (F1 : FnOk P w K mg base CX0 1 fI fdI ["self", "code"] (spRInit CR)) (bI : Binds K fdI ["self", "code"] []) : FnOk P w K mg base (L2.CX P w) 3 f fd ["is_so", "code"] (spWant CR) := by
  refine F.okX scWant (fun vs H Q E h => ?_) (fun cdv A outer s H vs Q E hr h => ?_)
  · obtain ⟨b, c, rfl, _⟩ := h
    rfl
  · obtain ⟨b, c, rfl, qT, qF⟩ := h
    refine ⟨_, pss_one (ps_if (pt_not (pt_val (pv 0))) (pss_one (ps_raise rfl (takes_of rfl rfl rfl rfl) (pmk_oex T.ox iC tI F1 hr bI .nil pass0 (by rfl) T.gC (pa_cons (pv 1) pa_nil)))) pss_nil), ?_⟩
    refine ⟨_, rfl, b, rfl, ?_⟩
    cases b with
    | true => exact iteF (qT rfl)
    | false =>
      refine iteT ?_
      refine ⟨_, rfl, (by show 1 ≤ 1000; decide), fun a na => ?_⟩
      refine ⟨a, c, rfl, upd_same, fun dx nd ne => ⟨rfl, dx, [("code", .int c)], upd_same, ?_, ?_, ?_⟩⟩
      · rw [upd_ne ne, upd_same]
      · rw [upd_ne ne] at nd
        exact nd
      · rw [upd_ne ne] at nd
        refine qF rfl _ dx (fun b o e => ?_) upd_same
        have h1 : b ≠ a := ne_of_none e na
        have h2 : b ≠ dx := ne_of_none e nd
        rw [upd_ne h2, del_ne h1, upd_ne h1, upd_ne h2, upd_ne h1]
        exact e
/-! ### turned -/
def TurnOk (l : Line) (x y : Nat) : Prop := (Uw20.last l).x < x ∧ x ≤ 100 ∧ y ≤ 50
def spTurned (C CR : Addr) : Sp := fun vs H Q E => ∃ (a : Addr) (l : Line) (x y : Nat), vs = [.ref a, .int (x : Int), .int (y : Int)] ∧ BAt C H a l ∧ Ok l ∧ (¬ TurnOk l x y → Err CR E H (-1)) ∧ (TurnOk l x y → ¬ l.length < 8 → Err CR E H (-5)) ∧
  (TurnOk l x y → l.length < 8 → ∀ H' b, Same H H' → BAt C H' b (l ++ [⟨x, y⟩]) → (∀ z, Pl C H' b z → H z = none) → Q (.ref b) H')
theorem scTurned : FnScope ["boundary", "along", "height"] ["boundary", "along", "height"] (defScope sTurned) := ⟨rfl, rfl, rfl, by decide +kernel, rfl, by decide +kernel, by decide +kernel⟩
/-- the numbers of the top -/
structure GT (mg : Str → Option Value) : Prop where
  high : ∃ t, mg "MOST_HIGH" = some (.int 50 t)
  along : ∃ t, mg "MOST_ALONG" = some (.int 100 t)
  places : ∃ t, mg "MOST_PLACES" = some (.int 8 t)
  bad : ∃ t, mg "BAD" = some (.int (-1) t)
  many : ∃ t, mg "TOO_MANY" = some (.int (-5) t)
  nolen : ∃ t, mg "NO_LENGTH" = some (.int (-6) t)
theorem andV {ta tb : TE} {σ : L2.St} {H : Hp} {Q : VK} {ca cb : Bool} (hA : ∀ Q : VK, Q (.bl ca) H → ta σ H Q) (hB : ∀ Q : VK, Q (.bl cb) H → tb σ H Q) (h : Q (.bl (ca && cb)) H) : tAndV ta tb σ H Q := by
  refine hA _ ⟨ca, rfl, ?_⟩
  cases ca with
  | true => exact hB _ h
  | false => exact h
theorem ok_turned {f : Addr} {fd : FuncData} (F : Fun K "turned" "turned" sTurned f fd) (T : BT K C) (G : GT mg) (ml : mg "len" = none) (L1 : SMet P w K mg base C 1 "length" ["self"] (spLength C)) (W1 : SMet P w K mg base C 3 "with_place" ["self", "along", "height"] (spWith C))
    (C1 : SCal P w K mg base (L2.CX P w) 3 "want" ["is_so", "code"] (spWant CR)) : FnOk P w K mg base (L2.CX P w) 4 f fd ["boundary", "along", "height"] (spTurned C CR) := by
  refine F.okX scTurned (fun vs H Q E h => ?_) (fun cdv A outer s H vs Q E hr h => ?_)
  · obtain ⟨a, l, x, y, rfl, _⟩ := h
    rfl
  · obtain ⟨a, l, x, y, rfl, hB, hok, q1, q2, q3⟩ := h
    refine ⟨_, pss_cons (ps_expr (pe_scS (E := fun _ => E) C1 hr (by decide) (by rfl) (fun σ => passAt (takes_of rfl rfl rfl rfl) σ) (by exact (pa_cons (pe_and (pe_cmpR op_lt (pe_sm0 L1 hr (by decide) (pv 0)) (pv 1) (nomark _)) (pe_and (pe_cmpR op_le (pv 1) (pe_gi G.along (by rfl)) (nomark _)) (pe_one (pe_cmpR op_le (pv 2) (pe_gi G.high (by rfl)) (nomark _))))) (pa_cons (pe_gi G.bad (by rfl)) pa_nil)))))
      (pss_cons (ps_expr (pe_scS (E := fun _ => E) C1 hr (by decide) (by rfl) (fun σ => passAt (takes_of rfl rfl rfl rfl) σ) (by exact (pa_cons (pe_cmpR op_lt (pe_callB call_len_seq (by rfl) ml PySem.boot_len (pa_cons (pe_fld (pv 0) rfl) pa_nil)) (pe_gi G.places (by rfl)) (nomark _)) (pa_cons (pe_gi G.many (by rfl)) pa_nil)))))
      (pss_one (ps_ret (pe_sm W1 hr (by decide) (pv 0) (pa_cons (pv 1) (pa_cons (pv 2) pa_nil)))))), ?_⟩
    obtain ⟨dx, p, ts, h1, h2, h3⟩ := hB
    have hB : BAt C H a l := ⟨dx, p, ts, h1, h2, h3⟩
    refine andV (ca := decide (((Uw20.last l).x : Int) < (x : Int))) (cb := decide ((x : Int) ≤ 100) && decide ((y : Int) ≤ 50)) (fun Q h => ?_) (fun Q h => ?_) ?_
    · exact ⟨_, rfl, a, dx, _, rfl, h1, bF_none (by decide +kernel), a, l, rfl, hB, hok.ne, _, rfl, _, _, rfl, rfl, h⟩
    · refine andV (fun Q h => ⟨_, rfl, _, _, rfl, rfl, h⟩) (fun Q h => ⟨_, rfl, _, _, rfl, rfl, h⟩) h
    · have e : (decide (((Uw20.last l).x : Int) < (x : Int)) && (decide ((x : Int) ≤ 100) && decide ((y : Int) ≤ 50))) = true ↔ TurnOk l x y := by
        rw [Bool.and_eq_true, Bool.and_eq_true, decide_eq_true_iff, decide_eq_true_iff, decide_eq_true_iff]
        unfold TurnOk
        omega
      refine ⟨_, -1, rfl, fun c => ?_, fun c => q1 fun z => ?_⟩
      · have ht := e.mp c
        refine ⟨_, rfl, a, C, dx, _, _, rfl, h1, T.cl, T.nP, bF_places, p, _, rfl, .inl (.inl (.inl h2)), _, _, rfl, rfl, ?_⟩
        have el : ((ts.map V.ref).length : Int) = (l.length : Int) := by rw [List.length_map, h3.1]
        refine ⟨_, -5, rfl, fun c2 => ?_, fun c2 => q2 ht ?_⟩
        · have hl : l.length < 8 := by
            have := of_decide_eq_true c2
            omega
          have := hok.len
          exact ⟨_, rfl, a, dx, _, rfl, h1, bF_none (by decide +kernel), _, rfl, _, rfl, a, l, x, y, rfl, hB, by omega, q3 ht hl⟩
        · have := of_decide_eq_false c2
          omega
      · rw [e.mpr z] at c
        cases c
/-! ### straight_told -/
def straightL (l : Line) (h : Nat) : List Int := [if Uw20.may l h = true then 1 else 0, (Uw20.endOf l h).n, ((Uw20.endOf l h).d : Int), (changedM l h).n, ((changedM l h).d : Int)]
def spStraight (C CR : Addr) : Sp := fun vs H Q E => ∃ (a : Addr) (l : Line) (h : Nat), vs = [.ref a, .int (h : Int)] ∧ BAt C H a l ∧ Ok l ∧ (¬ h ≤ 50 → Err CR E H (-1)) ∧ (h ≤ 50 → Uw20.long l = 0 → Err CR E H (-6)) ∧
  (h ≤ 50 → 0 < Uw20.long l → ∀ H' p, Same H H' → H p = none → H' p = some (.lst ((straightL l h).map V.int)) → Q (.ref p) H')
theorem scStraight : FnScope ["boundary", "height"] ["boundary", "height"] (defScope sStraight) := ⟨rfl, rfl, rfl, by decide +kernel, rfl, by decide +kernel, by decide +kernel⟩
theorem ok_straight {f : Addr} {fd : FuncData} (F : Fun K "straight_told" "straight_told" sStraight f fd) (G : GT mg) (mi : mg "int" = none) (mli : mg "list" = none) (L1 : SMet P w K mg base C 1 "length" ["self"] (spLength C)) (O1 : SMet P w K mg base C 4 "is_on_land" ["self", "height"] (spOnLand C))
    (E1 : SMet P w K mg base C 3 "end" ["self", "height"] (spEnd C)) (Ch : SMet P w K mg base C 4 "changed" ["self", "height"] (spChanged C)) (C1 : SCal P w K mg base (L2.CX P w) 3 "want" ["is_so", "code"] (spWant CR)) : FnOk P w K mg base (L2.CX P w) 5 f fd ["boundary", "height"] (spStraight C CR) := by
  refine F.okX scStraight (fun vs H Q E h => ?_) (fun cdv A outer s H vs Q E hr h => ?_)
  · obtain ⟨a, l, h, rfl, _⟩ := h
    rfl
  · obtain ⟨a, l, h, rfl, hB, hok, q1, q2, q3⟩ := h
    refine ⟨_, pss_cons (ps_expr (pe_scS (E := fun _ => E) C1 hr (by decide) (by rfl) (fun σ => passAt (takes_of rfl rfl rfl rfl) σ) (by exact (pa_cons (pe_cmpR op_le (pv 1) (pe_gi G.high (by rfl)) (nomark _)) (pa_cons (pe_gi G.bad (by rfl)) pa_nil)))))
      (pss_cons (ps_expr (pe_scS (E := fun _ => E) C1 hr (by decide) (by rfl) (fun σ => passAt (takes_of rfl rfl rfl rfl) σ) (by exact (pa_cons (pe_cmpR op_gt (pe_sm0 L1 hr (by decide) (pv 0)) pe_int (nomark _)) (pa_cons (pe_gi G.nolen (by rfl)) pa_nil)))))
      (pss_one (ps_ret (pe_op op_cat (pe_op op_cat (pe_lst (pa_cons (pe_callTy call_int1 (by rfl) mi PyProof.Rows.boot_int (pa_cons (pe_sm O1 hr (by decide) (pv 0) (pa_cons (pv 1) pa_nil)) pa_nil)) pa_nil))
        (pe_callTy call_list_of (by rfl) mli PyProof.Rows.boot_list (pa_cons (pe_sm E1 hr (by decide) (pv 0) (pa_cons (pv 1) pa_nil)) pa_nil)))
        (pe_callTy call_list_of (by rfl) mli PyProof.Rows.boot_list (pa_cons (pe_sm Ch hr (by decide) (pv 0) (pa_cons (pv 1) pa_nil)) pa_nil)))))), ?_⟩
    obtain ⟨dx, p, ts, h1, h2, h3⟩ := hB
    have hB : BAt C H a l := ⟨dx, p, ts, h1, h2, h3⟩
    have eL : Uw20.long l = (Uw20.last l).x := long_eq hok.x0
    refine ⟨_, rfl, _, _, rfl, rfl, _, -1, rfl, fun c => ?_, fun c => q1 ?_⟩
    · have hh : h ≤ 50 := by
        have := of_decide_eq_true c
        omega
      refine ⟨_, rfl, a, dx, _, rfl, h1, bF_none (by decide +kernel), a, l, rfl, hB, hok.ne, _, _, rfl, rfl, _, -6, rfl, fun c2 => ?_, fun c2 => q2 hh ?_⟩
      · have hl : 0 < Uw20.long l := by
          have := of_decide_eq_true c2
          omega
        -- int(boundary.is_on_land(height))
        refine ⟨_, rfl, a, dx, _, rfl, h1, bF_none (by decide +kernel), _, rfl, a, l, h, rfl, hB, hok, hl, hh, fun H1 s1 => ?_⟩
        refine .inr ⟨_, rfl, (by show 1 ≤ sizeLine; decide), fun l1 n1 => ?_⟩
        have s2 := s1.trans (same_upd (o := .lst [.int (if Uw20.may l h = true then 1 else 0)]) n1)
        -- list(boundary.end(height))
        refine ⟨_, rfl, a, dx, _, rfl, s2 _ _ h1, bF_none (by decide +kernel), _, rfl, a, l, h, rfl, hB.same s2, hok, hl, hh, fun H3 e3 s3 q3e => ?_⟩
        refine ⟨e3, _, rfl, .inr (.inl (.inl q3e)), fun l2 n2 => ?_⟩
        have s4 := same_upd (o := .lst (fr (Uw20.endOf l h))) n2
        refine ⟨l1, l2, _, _, rfl, rfl, s4 _ _ (s3 _ _ upd_same), upd_same, (by show 1 + 2 ≤ sizeLine; decide), fun l3 n3 => ?_⟩
        have s5 := same_upd (o := .lst ([.int (if Uw20.may l h = true then 1 else 0)] ++ fr (Uw20.endOf l h))) n3
        have s25 := ((s2.trans s3).trans s4).trans s5
        -- list(boundary.changed(height))
        refine ⟨_, rfl, a, dx, _, rfl, s25 _ _ h1, bF_none (by decide +kernel), _, rfl, a, l, h, rfl, hB.same s25, hok, hl, hh, fun H6 e6 s6 q6 => ?_⟩
        refine ⟨e6, _, rfl, .inr (.inl (.inl q6)), fun l7 n7 => ?_⟩
        have s7 := same_upd (o := .lst (fr (changedM l h))) n7
        refine ⟨l3, l7, _, _, rfl, rfl, s7 _ _ (s6 _ _ upd_same), upd_same, (by show 3 + 2 ≤ sizeLine; decide), fun l8 n8 => ?_⟩
        refine q3 hh hl _ l8 (((s25.trans s6).trans s7).trans (same_upd n8)) (((s25.trans s6).trans s7).free n8) ?_
        rw [upd_same]
        rfl
      · have := of_decide_eq_false c2
        omega
    · have := of_decide_eq_false c
      omega
end
end SL
namespace SL
open PySem PySem.Spec PyProof.Rows L2
open Uw20 (Line)
/-! ### fractions compared -/
abbrev qd (q : Uw20.Q) : PyData := .tuple [.int q.n, .int (q.d : Int)]
theorem qd_eqv (x y : Uw20.Q) : PyData.eqv (qd x) (qd y) = decide (x = y) := by
  have e : PyData.eqv (qd x) (qd y) = ((x.n == y.n) && (((x.d : Int) == (y.d : Int)) && true)) := by
    simp only [qd, PyData.eqv, PyData.eqvAll]
  rw [e]
  obtain ⟨a, b⟩ := x
  obtain ⟨c, d⟩ := y
  by_cases h : a = c <;> by_cases h2 : b = d <;> simp [h, h2] <;> omega
theorem qd_shaped (x : Uw20.Q) : SeqAt.shaped (qd x) = true := by
  with_unfolding_all rfl
theorem qd_dp {K : PySem.W.Frag} {H : Hp} {p : Addr} {q : Uw20.Q} (h : QAt H p q) : Dp K H (.ref p) (qd q) := .tup (.inl (.inl h)) (.cons (.int _) (.cons (.int _) .nil))
/-! ### heights -/
abbrev hv (hs : List Nat) : List V := hs.map fun (h : Nat) => V.int (h : Int)
theorem hv_get {hs : List Nat} {i : Nat} {v : V} (h : (hv hs)[i]? = some v) : ∃ k, hs[i]? = some k ∧ v = .int (k : Int) := by
  rw [List.getElem?_map] at h
  cases e : hs[i]? with
  | none =>
    rw [e] at h
    cases h
  | some k =>
    rw [e] at h
    exact ⟨k, rfl, (Option.some.inj h).symm⟩
theorem someM_le {l : Line} {k : Nat} (h : k ∈ someM l) : k ≤ 50 := by
  unfold someM at h
  rw [List.mem_filter, List.mem_range] at h
  unfold Uw20.TOP at h
  omega
theorem filter_more {p : Nat → Bool} {i : Nat} : (List.range (i + 1)).filter p = (List.range i).filter p ++ (if p i = true then [i] else []) := by
  rw [List.range_succ, List.filter_append]
  by_cases h : p i = true <;> simp [h]
theorem bestF_more {q : Nat → Uw20.Q} {hs : List Nat} {i k b : Nat} (h : hs[i]? = some k) : bestF q (hs.take (i + 1)) b = if (q k).below (q (bestF q (hs.take i) b)) = true then k else bestF q (hs.take i) b := by
  unfold bestF
  rw [List.take_add_one, h, List.foldl_append]
  rfl
theorem bestF_mem {q : Nat → Uw20.Q} : ∀ (hs : List Nat) (b : Nat), bestF q hs b = b ∨ bestF q hs b ∈ hs
  | [], b => .inl rfl
  | h :: hs, b => by
    have e : bestF q (h :: hs) b = bestF q hs (if (q h).below (q b) = true then h else b) := rfl
    rw [e]
    rcases bestF_mem hs (if (q h).below (q b) = true then h else b) with z | z
    · rw [z]
      split
      · exact .inr (List.mem_cons_self ..)
      · exact .inl rfl
    · exact .inr (List.mem_cons_of_mem _ z)
theorem cnt_more {p : Nat → Bool} {hs : List Nat} {i k : Nat} (h : hs[i]? = some k) : (hs.take (i + 1)).filter p = (hs.take i).filter p ++ (if p k = true then [k] else []) := by
  rw [List.take_add_one, h, List.filter_append]
  by_cases c : p k = true <;> simp [c]
theorem same_put {H H3 : Hp} {D : Addr} {o : HO} (s : Same H H3) (n : H D = none) : Same H (upd H3 D o) := fun b u e => by
  rw [upd_ne (ne_of_none e n)]
  exact s _ _ e
section
variable {P : Program} {w : World} {K : PySem.W.Frag} {mg : Str → Option Value} {base : Heap} {C CR : Addr}
def bestL (l : Line) : List Int := [(bestM l : Int), (manyM l : Int), (changedM l (bestM l)).n, ((changedM l (bestM l)).d : Int), (Uw20.endOf l (bestM l)).n, ((Uw20.endOf l (bestM l)).d : Int)]
def spBest (C CR : Addr) : Sp := fun vs H Q E => ∃ (a : Addr) (l : Line), vs = [.ref a] ∧ BAt C H a l ∧ Ok l ∧ (Uw20.long l = 0 → Err CR E H (-6)) ∧ (0 < Uw20.long l → ∀ H' p, Same H H' → H p = none → H' p = some (.lst ((bestL l).map V.int)) → Q (.ref p) H')
theorem scBest : FnScope ["boundary", "height", "some", "best", "least", "many"] ["boundary"] (defScope sBest) := ⟨rfl, rfl, rfl, by decide +kernel, rfl, by decide +kernel, by decide +kernel⟩
theorem ok_best {f : Addr} {fd : FuncData} (F : Fun K "best_told" "best_told" sBest f fd) (G : GT mg) (mr : mg "range" = none) (ml : mg "len" = none) (mli : mg "list" = none) (L1 : SMet P w K mg base C 1 "length" ["self"] (spLength C)) (O1 : SMet P w K mg base C 4 "is_on_land" ["self", "height"] (spOnLand C))
    (E1 : SMet P w K mg base C 3 "end" ["self", "height"] (spEnd C)) (Ch : SMet P w K mg base C 4 "changed" ["self", "height"] (spChanged C)) (Le : SCal P w K mg base CX0 1 "is_less" ["one", "other"] spIsLess) (C1 : SCal P w K mg base (L2.CX P w) 3 "want" ["is_so", "code"] (spWant CR)) :
    FnOk P w K mg base (L2.CX P w) 5 f fd ["boundary"] (spBest C CR) := by
  refine F.okX scBest (fun vs H Q E h => ?_) (fun cdv A outer s H vs Q E hr h => ?_)
  · obtain ⟨a, l, rfl, _⟩ := h
    rfl
  · obtain ⟨a, l, rfl, hB, hok, q1, q2⟩ := h
    refine ⟨_, pss_cons (ps_expr (pe_scS (E := fun _ => E) C1 hr (by decide) (by rfl) (fun σ => passAt (takes_of rfl rfl rfl rfl) σ) (by exact (pa_cons (pe_cmpR op_gt (pe_sm0 L1 hr (by decide) (pv 0)) pe_int (nomark _)) (pa_cons (pe_gi G.nolen (by rfl)) pa_nil)))))
      (PSs.nox (pss_cons (ps_setLc (i := 2) (own := [("height", 1)]) (g := gName 1) (tt := tB (tMeth C "is_on_land" (spOnLand C) [] E0 (tVar 0) (tCons (tVar 1) tNil))) (te := tVar 1) rfl scBest.nd rfl rfl (sw_true rfl rfl rfl (by decide +kernel))
          (pi_range1 (by rfl) mr (pa_cons (pe_op op_add (pe_gi G.high (by rfl)) pe_int) pa_nil)) (blkOk_by (N := ["boundary", "height", "some", "best", "least", "many"]) (sc := defScope sBest) (by decide +kernel))
          (fun _ _ _ _ _ => by exact pg_name (i := 1) scBest.nd rfl (.inl rfl)) (fun _ _ _ _ _ => by exact pts_one (pt_val (pe_sm O1 hr (by decide) (pv 0) (pa_cons (pv 1) pa_nil)))) (fun _ _ _ _ _ => by exact pv 1))
        (pss_cons (ps_set (i := 3) scBest.nd rfl (.inl rfl) (pe_ix ix_list (pv 2) pe_int (fun _ _ => rfl)))
        (pss_cons (ps_for PassesOwn.never rfl (pi_list (pv 2)) (pg_name (i := 1) scBest.nd rfl (.inl rfl))
          (pss_one (ps_if (pt_val (pe_sc Le hr (by decide) (by rfl) (pa_cons (pe_sm Ch hr (by decide) (pv 0) (pa_cons (pv 1) pa_nil)) (pa_cons (pe_sm Ch hr (by decide) (pv 0) (pa_cons (pv 3) pa_nil)) pa_nil)))) (pss_one (ps_set (i := 3) scBest.nd rfl (.inl rfl) (pv 1))) pss_nil)))
        (pss_cons (ps_set (i := 4) scBest.nd rfl (.inr rfl) (pe_sm Ch hr (by decide) (pv 0) (pa_cons (pv 3) pa_nil)))
        (pss_cons (ps_set (i := 5) scBest.nd rfl (.inl rfl) (pe_callB call_len_seq (by rfl) ml PySem.boot_len (pa_cons (pe_lc (own := [("height", 1)]) (g := gName 1) (tt := tTest (tOp (rEqD K) (tMeth C "changed" (spChanged C) [] E0 (tVar 0) (tCons (tVar 1) tNil)) (tVar 4))) (te := tVar 1) rfl scBest.nd (pi_list (pv 2))
          (blkOk_by (N := ["boundary", "height", "some", "best", "least", "many"]) (sc := defScope sBest) (by decide +kernel)) (fun _ _ _ _ _ => by exact pg_name (i := 1) scBest.nd rfl (.inl rfl))
          (fun _ _ _ _ _ => by exact pts_one (pt_cmpR (op_eqD hr.units) (pe_sm Ch hr (by decide) (pv 0) (pa_cons (pv 1) pa_nil)) (pv 4) (nomark _))) (fun _ _ _ _ _ => by exact pv 1)) pa_nil)))
        (pss_one (ps_ret (pe_op op_cat (pe_op op_cat (pe_lst (pa_cons (pv 3) (pa_cons (pv 5) pa_nil))) (pe_callTy call_list_of (by rfl) mli PyProof.Rows.boot_list (pa_cons (pv 4) pa_nil)))
          (pe_callTy call_list_of (by rfl) mli PyProof.Rows.boot_list (pa_cons (pe_sm E1 hr (by decide) (pv 0) (pa_cons (pv 3) pa_nil)) pa_nil))))))))))), ?_⟩
    obtain ⟨dx, p, ts, h1, h2, h3⟩ := hB
    have hB : BAt C H a l := ⟨dx, p, ts, h1, h2, h3⟩
    have eL : Uw20.long l = (Uw20.last l).x := long_eq hok.x0
    refine ⟨_, rfl, a, dx, _, rfl, h1, bF_none (by decide +kernel), a, l, rfl, hB, hok.ne, _, _, rfl, rfl, _, -6, rfl, fun c => ?_, fun c => q1 (by have := of_decide_eq_false c; omega)⟩
    have hl : 0 < Uw20.long l := by
      have := of_decide_eq_true c
      omega
    have hne : someM l ≠ [] := some_may hok hl
    -- some = [..]
    refine ⟨_, _, rfl, rfl, _, rfl, by decide, by decide, fun D nD => ?_⟩
    refine lc_range (lo := 0) (n := 51) (fun i H3 => Same H H3 ∧ H3 D = some (.lst (hv ((List.range i).filter (Uw20.may l))))) ⟨same_upd nD, upd_same⟩ (fun i H3 hi hP => ?_) (fun H1 hP => ?_)
    · obtain ⟨s3, eD⟩ := hP
      have ei : (0 : Int) + (i : Int) = ((i : Nat) : Int) := by omega
      refine ⟨rfl, ?_⟩
      refine ⟨_, rfl, a, dx, _, rfl, s3 _ _ h1, bF_none (by decide +kernel), _, rfl, a, l, i, by rw [ei]; rfl, hB.same s3, hok, hl, by omega, fun H4 s4 => ⟨_, rfl, ite2 (fun e => ?_) (fun e => ?_)⟩⟩
      · refine ⟨_, rfl, _, s4 _ _ eD, ?_, same_put (s3.trans s4) nD, ?_⟩
        · rw [List.length_map]
          have := List.length_filter_le (Uw20.may l) (List.range i)
          rw [List.length_range] at this
          exact small1000 (by omega)
        · rw [upd_same, filter_more, if_pos e, ei, hv, hv, List.map_append]
          rfl
      · refine ⟨s3.trans s4, ?_⟩
        rw [filter_more, if_neg e, List.append_nil]
        exact s4 _ _ eD
    obtain ⟨s1, eD⟩ := hP
    have eD : H1 D = some (.lst (hv (someM l))) := eD
    have hD : SqL K H1 D (hv (someM l)) := .inl (.inl eD)
    have hlen51 : (someM l).length ≤ 51 := by
      have := List.length_filter_le (Uw20.may l) (List.range (Uw20.TOP + 1))
      rw [List.length_range] at this
      exact this
    -- best = some[0]
    obtain ⟨k0, t0, hs0⟩ : ∃ k0 t0, someM l = k0 :: t0 := by
      cases z : someM l with
      | nil => exact absurd z hne
      | cons x y => exact ⟨x, y, rfl⟩
    have eb : bestM l = bestF (changedM l) (someM l) k0 := by
      unfold bestM
      rw [hs0]
      rfl
    have g0 : (hv (someM l))[0]? = some (.int (k0 : Int)) := by
      rw [hs0]
      rfl
    have m0 : k0 ∈ someM l := by
      rw [hs0]
      exact List.mem_cons_self ..
    have bmem : ∀ i, bestF (changedM l) ((someM l).take i) k0 ∈ someM l := fun i => by
      rcases bestF_mem (q := changedM l) ((someM l).take i) k0 with z | z
      · rw [z]
        exact m0
      · exact List.mem_of_mem_take z
    refine ⟨_, rfl, D, _, 0, _, rfl, rfl, hD, atI_nat (j := 0) g0, ?_⟩
    -- for height in some
    refine ⟨_, rfl, D, rfl, ⟨_, hD⟩, for_list (K := K) (a := D) (xs := hv (someM l)) (fun i σ H3 => ∃ y1 : Option V, σ = [some (.ref a), y1, some (.ref D), some (.int ((bestF (changedM l) ((someM l).take i) k0 : Nat) : Int)), none, none] ∧ Same H1 H3)
      ⟨none, rfl, Same.refl _⟩ (fun i σ H3 _ hP => ?_) (fun i v σ H3 hv' hP => ?_) (fun σ H2 hP => ?_)⟩
    · obtain ⟨_, _, s3⟩ := hP
      exact s3.seq hD
    · obtain ⟨y1, rfl, s3⟩ := hP
      obtain ⟨k, hk, rfl⟩ := hv_get hv'
      have hk50 := someM_le (List.mem_of_getElem? hk)
      have hb50 := someM_le (bmem i)
      have s13 := s1.trans s3
      refine ⟨_, rfl, a, dx, _, rfl, s13 _ _ h1, bF_none (by decide +kernel), _, rfl, a, l, k, rfl, hB.same s13, hok, hl, hk50, fun H4 p4 s4 e4 => ?_⟩
      have s14 := s13.trans s4
      refine ⟨_, rfl, a, dx, _, rfl, s14 _ _ h1, bF_none (by decide +kernel), _, rfl, a, l, _, rfl, hB.same s14, hok, hl, hb50, fun H5 p5 s5 e5 => ?_⟩
      refine ⟨p4, p5, _, _, rfl, s5 _ _ e4, e5, (hok.changed_sz hk50 hl).mono (by decide), (hok.changed_sz hb50 hl).mono (by decide), _, rfl, ite2 (fun e => ?_) (fun e => ?_)⟩
      · refine ⟨_, rfl, some (.int (k : Int)), ?_, (s3.trans s4).trans s5⟩
        rw [bestF_more hk, if_pos e]
        rfl
      · refine ⟨some (.int (k : Int)), ?_, (s3.trans s4).trans s5⟩
        rw [bestF_more hk, if_neg e]
        rfl
    obtain ⟨y1, rfl, s2⟩ := hP
    have et : (someM l).take (hv (someM l)).length = someM l := by
      rw [List.length_map]
      exact List.take_length
    rw [et, ← eb]
    have hb50 : bestM l ≤ 50 := by
      have := bmem (someM l).length
      rw [List.take_length, ← eb] at this
      exact someM_le this
    have s12 := s1.trans s2
    -- least = boundary.changed(best)
    refine ⟨_, rfl, a, dx, _, rfl, s12 _ _ h1, bF_none (by decide +kernel), _, rfl, a, l, bestM l, rfl, hB.same s12, hok, hl, hb50, fun H3 le s3 ele => ?_⟩
    have s13 := s12.trans s3
    have hD3 : SqL K H3 D (hv (someM l)) := (s2.trans s3).seq hD
    -- many = len([..])
    refine ⟨_, rfl, D, rfl, ⟨_, hD3⟩, fun D2 nD2 => ?_⟩
    refine lc_list (K := K) (a := D) (xs := hv (someM l)) (fun i H4 => Same H3 H4 ∧ H4 D2 = some (.lst (hv (((someM l).take i).filter fun h => decide (changedM l h = changedM l (bestM l)))))) ⟨same_upd nD2, upd_same⟩ (fun i H4 _ hP => hP.1.seq hD3) (fun i v H4 hv' hP => ?_) (fun H4 hP => ?_)
    · obtain ⟨s4, eD2⟩ := hP
      obtain ⟨k, hk, rfl⟩ := hv_get hv'
      have hk50 := someM_le (List.mem_of_getElem? hk)
      have s14 := s13.trans s4
      refine ⟨rfl, ?_⟩
      refine ⟨_, rfl, a, dx, _, rfl, s14 _ _ h1, bF_none (by decide +kernel), _, rfl, a, l, k, rfl, hB.same s14, hok, hl, hk50, fun H5 p5 s5 e5 => ?_⟩
      refine ⟨_, rfl, qd (changedM l k), qd (changedM l (bestM l)), qd_dp e5, qd_dp (s5 _ _ (s4 _ _ ele)), qd_shaped _, qd_shaped _, _, rfl, ?_⟩
      rw [qd_eqv]
      refine ite2 (fun e => ?_) (fun e => ?_)
      · refine ⟨_, rfl, _, s5 _ _ eD2, ?_, same_put (s4.trans s5) nD2, ?_⟩
        · rw [List.length_map]
          have := List.length_filter_le (fun h => decide (changedM l h = changedM l (bestM l))) ((someM l).take i)
          rw [List.length_take] at this
          exact small1000 (by omega)
        · rw [upd_same, cnt_more hk, if_pos e, hv, hv, List.map_append]
          rfl
      · refine ⟨s4.trans s5, ?_⟩
        rw [cnt_more hk, if_neg e, List.append_nil]
        exact s5 _ _ eD2
    obtain ⟨s4, eD2⟩ := hP
    rw [et] at eD2
    have elen : ((hv ((someM l).filter fun h => decide (changedM l h = changedM l (bestM l)))).length : Int) = (manyM l : Int) := by
      rw [List.length_map]
      rfl
    refine ⟨D2, _, rfl, .inl (.inl (.inl eD2)), ?_⟩
    rw [elen]
    -- [best, many] + list(least) + list(boundary.end(best))
    refine ⟨_, rfl, _, rfl, (by show 2 ≤ sizeLine; decide), fun l1 n1 => ?_⟩
    have s5 := same_upd (o := .lst [.int (bestM l : Int), .int (manyM l : Int)]) n1
    refine ⟨_, rfl, le, _, rfl, .inr (.inl (.inl (s5 _ _ (s4 _ _ ele)))), fun l2 n2 => ?_⟩
    have s6 := same_upd (o := .lst (fr (changedM l (bestM l)))) n2
    refine ⟨l1, l2, _, _, rfl, rfl, s6 _ _ upd_same, upd_same, (by show 2 + 2 ≤ sizeLine; decide), fun l3 n3 => ?_⟩
    have s7 := same_upd (o := .lst ([.int (bestM l : Int), .int (manyM l : Int)] ++ fr (changedM l (bestM l)))) n3
    have s17 := (((s13.trans s4).trans s5).trans s6).trans s7
    refine ⟨_, rfl, a, dx, _, rfl, s17 _ _ h1, bF_none (by decide +kernel), _, rfl, a, l, bestM l, rfl, hB.same s17, hok, hl, hb50, fun H8 e8 s8 q8 => ?_⟩
    refine ⟨e8, _, rfl, .inr (.inl (.inl q8)), fun l9 n9 => ?_⟩
    have s9 := same_upd (o := .lst (fr (Uw20.endOf l (bestM l)))) n9
    refine ⟨l3, l9, _, _, rfl, rfl, s9 _ _ (s8 _ _ upd_same), upd_same, (by show 4 + 2 ≤ sizeLine; decide), fun l10 n10 => ?_⟩
    refine q2 hl _ l10 (((s17.trans s8).trans s9).trans (same_upd n10)) (((s17.trans s8).trans s9).free n10) ?_
    rw [upd_same]
    rfl
end
end SL
namespace SL
open Uw20
/-! ### one call -/
def cp : Call → Int
  | .begins _ => 0
  | .turn _ => 1
  | .area => 2
  | .straight _ => 3
  | .best => 4
def cx : Call → List Int
  | .begins y => [(y : Int)]
  | .turn p => [(p.x : Int), (p.y : Int)]
  | .area => []
  | .straight a => [(a : Int)]
  | .best => []
theorem ok_one {y : Nat} (h : y ≤ 50) : Ok [⟨0, y⟩] :=
  ⟨by simp, rfl, by simp, by simp, by simpa using h, by simp⟩
theorem ok_init0 : Ok Uw20.init := ok_one (Nat.zero_le _)
theorem last_max : ∀ {l : Line}, l.Pairwise (fun p q => p.x < q.x) → ∀ p ∈ l, p.x ≤ (last l).x
  | [], _, _, h => by cases h
  | [q], _, p, h => by
    rw [List.mem_singleton] at h
    rw [h]
    exact Nat.le_refl _
  | q :: r :: t, hp, p, h => by
    rw [List.pairwise_cons] at hp
    rw [last_cons]
    rcases List.mem_cons.mp h with e | e
    · rw [e]
      have h1 := hp.1 r (List.mem_cons_self ..)
      have h2 := last_max hp.2 r (List.mem_cons_self ..)
      omega
    · exact last_max hp.2 p e
theorem ok_snoc {l : Line} {p : P} (h : Ok l) (h1 : (last l).x < p.x) (h2 : p.x ≤ 100) (h3 : p.y ≤ 50) (h4 : l.length < 8) : Ok (l ++ [p]) := by
  refine ⟨by simp, ?_, ?_, ?_, ?_, ?_⟩
  · have := h.x0
    unfold first at *
    cases l with
    | nil => exact absurd rfl h.ne
    | cons q r => exact this
  · rw [List.pairwise_append]
    refine ⟨h.up, by simp, fun a ha b hb => ?_⟩
    rw [List.mem_singleton] at hb
    rw [hb]
    have := last_max h.up a ha
    omega
  · intro q hq
    rcases List.mem_append.mp hq with e | e
    · exact h.xs q e
    · rw [List.mem_singleton] at e
      rw [e]
      exact h2
  · intro q hq
    rcases List.mem_append.mp hq with e | e
    · exact h.ys q e
    · rw [List.mem_singleton] at e
      rw [e]
      exact h3
  · rw [List.length_append]
    simp
    omega
theorem st_begins {l : Line} {y : Nat} (h : y ≤ 50) : step l (.begins y) = ([⟨0, y⟩], ⟨0, []⟩) := by
  show (if TOP < y then (l, ok (-1)) else ([⟨0, y⟩], ok 0)) = _
  rw [if_neg (by unfold TOP; omega)]
  rfl
theorem st_begins_no {l : Line} {y : Nat} (h : ¬ y ≤ 50) : step l (.begins y) = (l, ok (-1)) := by
  show (if TOP < y then (l, ok (-1)) else ([⟨0, y⟩], ok 0)) = _
  rw [if_pos (by unfold TOP; omega)]
theorem st_turn {l : Line} {p : P} (h : (last l).x < p.x ∧ p.x ≤ 100 ∧ p.y ≤ 50) (h8 : l.length < 8) : step l (.turn p) = (l ++ [p], ⟨(l.length : Int), []⟩) := by
  show (if FAR < p.x ∨ TOP < p.y ∨ p.x ≤ (last l).x then (l, ok (-1)) else if PLACES ≤ l.length then (l, ok (-5)) else (l ++ [p], ok (l.length : Nat))) = _
  rw [if_neg (by unfold FAR TOP; omega), if_neg (by unfold PLACES; omega)]
  rfl
theorem st_turn_bad {l : Line} {p : P} (h : ¬ ((last l).x < p.x ∧ p.x ≤ 100 ∧ p.y ≤ 50)) : step l (.turn p) = (l, ok (-1)) := by
  show (if FAR < p.x ∨ TOP < p.y ∨ p.x ≤ (last l).x then (l, ok (-1)) else if PLACES ≤ l.length then (l, ok (-5)) else (l ++ [p], ok (l.length : Nat))) = _
  rw [if_pos (by unfold FAR TOP; omega)]
theorem st_turn_many {l : Line} {p : P} (h : (last l).x < p.x ∧ p.x ≤ 100 ∧ p.y ≤ 50) (h8 : ¬ l.length < 8) : step l (.turn p) = (l, ok (-5)) := by
  show (if FAR < p.x ∨ TOP < p.y ∨ p.x ≤ (last l).x then (l, ok (-1)) else if PLACES ≤ l.length then (l, ok (-5)) else (l ++ [p], ok (l.length : Nat))) = _
  rw [if_neg (by unfold FAR TOP; omega), if_pos (by unfold PLACES; omega)]
theorem st_area {l : Line} (h : Ok l) : step l .area = (l, ⟨(twice l : Int), [((last l).x : Int)]⟩) := by
  show (l, (⟨(twice l : Nat), [(long l : Int)]⟩ : Ans)) = _
  rw [long_eq h.x0]
theorem st_straight_bad {l : Line} {a : Nat} (h : ¬ a ≤ 50) : step l (.straight a) = (l, ok (-1)) := by
  show (if TOP < a then (l, ok (-1)) else _) = _
  rw [if_pos (by unfold TOP; omega)]
theorem st_straight_len {l : Line} {a : Nat} (h : a ≤ 50) (h0 : long l = 0) : step l (.straight a) = (l, ok (-6)) := by
  show (if TOP < a then (l, ok (-1)) else if long l = 0 then (l, ok (-6)) else _) = _
  rw [if_neg (by unfold TOP; omega), if_pos h0]
theorem st_straight {l : Line} {a : Nat} (ho : Ok l) (h : a ≤ 50) (h0 : 0 < long l) : step l (.straight a) = (l, ⟨if may l a = true then 1 else 0, [(endOf l a).n, ((endOf l a).d : Int), (changedM l a).n, ((changedM l a).d : Int)]⟩) := by
  show (if TOP < a then (l, ok (-1)) else if long l = 0 then (l, ok (-6)) else (l, (⟨(if may l a = true then 1 else 0), both (endOf l a) ++ both (gained l a)⟩ : Ans))) = _
  rw [if_neg (by unfold TOP; omega), if_neg (by omega), ← changed_eq h0 ho.x0]
  rfl
theorem st_best_len {l : Line} (h0 : long l = 0) : step l .best = (l, ok (-6)) := by
  show (l, if long l = 0 then ok (-6) else _) = _
  rw [if_pos h0]
theorem st_best {l : Line} (ho : Ok l) (h0 : 0 < long l) : step l .best = (l, ⟨(bestM l : Int), [(manyM l : Int), (changedM l (bestM l)).n, ((changedM l (bestM l)).d : Int), (endOf l (bestM l)).n, ((endOf l (bestM l)).d : Int)]⟩) := by
  show (l, if long l = 0 then ok (-6) else match best l with
    | none => ok (-7)
    | some b => (⟨(b.height : Nat), (b.many : Int) :: (both b.land ++ both (endOf l b.height))⟩ : Ans)) = _
  rw [if_neg (by omega), best_eq ho h0]
  rfl
/-- the boundary stays a boundary -/
theorem step_ok {l : Line} (h : Ok l) (c : Call) : Ok (step l c).1 := by
  cases c with
  | begins y =>
    by_cases c1 : y ≤ 50
    · rw [st_begins c1]
      exact ok_one c1
    · rw [st_begins_no c1]
      exact h
  | turn p =>
    by_cases c1 : (last l).x < p.x ∧ p.x ≤ 100 ∧ p.y ≤ 50
    · by_cases c2 : l.length < 8
      · rw [st_turn c1 c2]
        exact ok_snoc h c1.1 c1.2.1 c1.2.2 c2
      · rw [st_turn_many c1 c2]
        exact h
    · rw [st_turn_bad c1]
      exact h
  | area => exact h
  | straight a =>
    by_cases c1 : a ≤ 50
    · by_cases c2 : long l = 0
      · rw [st_straight_len c1 c2]
        exact h
      · rw [st_straight h c1 (by omega)]
        exact h
    · rw [st_straight_bad c1]
      exact h
  | best => exact h
/-- a refusal leaves all as it was; what is no refusal is from 0 on -/
theorem step_kind {l : Line} (h : Ok l) (c : Call) : (∃ e, e < 0 ∧ step l c = (l, ok e)) ∨ (0 ≤ (step l c).2.v) := by
  cases c with
  | begins y =>
    by_cases c1 : y ≤ 50
    · exact .inr (by rw [st_begins c1]; exact Int.le_refl _)
    · exact .inl ⟨-1, by decide, st_begins_no c1⟩
  | turn p =>
    by_cases c1 : (last l).x < p.x ∧ p.x ≤ 100 ∧ p.y ≤ 50
    · by_cases c2 : l.length < 8
      · exact .inr (by rw [st_turn c1 c2]; show (0 : Int) ≤ (l.length : Int); omega)
      · exact .inl ⟨-5, by decide, st_turn_many c1 c2⟩
    · exact .inl ⟨-1, by decide, st_turn_bad c1⟩
  | area => exact .inr (by rw [st_area h]; show (0 : Int) ≤ (twice l : Int); omega)
  | straight a =>
    by_cases c1 : a ≤ 50
    · by_cases c2 : long l = 0
      · exact .inl ⟨-6, by decide, st_straight_len c1 c2⟩
      · exact .inr (by rw [st_straight h c1 (by omega)]; show (0 : Int) ≤ if may l a = true then 1 else 0; split <;> decide)
    · exact .inl ⟨-1, by decide, st_straight_bad c1⟩
  | best =>
    by_cases c2 : long l = 0
    · exact .inl ⟨-6, by decide, st_best_len c2⟩
    · exact .inr (by rw [st_best h (by omega)]; show (0 : Int) ≤ (bestM l : Int); omega)
/-! ### the flat list -/
def outL (l : Line) (c : Call) : List Int := (step l c).2.v :: (step l c).2.l
def tail (s : Line) (raw : List (List (List Int))) : List Int := PyFlat.told (PyFlat.played (fun s c => Uw20Neutral.step s (c.headD [])) s (raw.map PyUw20.whole))
theorem nat_of {x : Int} (h : PyInside.within 0 4294967295 x = true) : ∃ k : Nat, x = (k : Int) ∧ Uw20Neutral.nat x = true := by
  unfold PyInside.within at h
  rw [Bool.and_eq_true, decide_eq_true_iff, decide_eq_true_iff] at h
  refine ⟨x.toNat, by omega, ?_⟩
  unfold Uw20Neutral.nat
  rw [Bool.and_eq_true, decide_eq_true_iff, decide_eq_true_iff]
  omega
theorem calls_nil {f : Nat} {raw : List (List (List Int))} (h : PyFlat.calls PyUw20.shape f [] = some raw) : raw = [] := by
  cases f <;> exact (Option.some.inj h).symm
theorem tail_nil (s : Line) : tail s [] = [] := rfl
theorem tail_cons (s : Line) (c : List (List Int)) (raw : List (List (List Int))) : tail s (c :: raw) = (((Uw20Neutral.step s ((PyUw20.whole c).headD [])).2.length : Int) :: (Uw20Neutral.step s ((PyUw20.whole c).headD [])).2) ++ tail (Uw20Neutral.step s ((PyUw20.whole c).headD [])).1 raw := by
  unfold tail
  rw [List.map_cons]
  show PyFlat.told (_ :: _) = _
  unfold PyFlat.told
  rw [List.flatMap_cons]
theorem call_split {p : Int} {r : List Int} {f : Nat} {raw : List (List (List Int))} (h : PyFlat.calls PyUw20.shape f (p :: r) = some raw) :
    ∃ (n : Nat) (f' : Nat) (raw' : List (List (List Int))), PyUw20.shape p = some (n, 0) ∧ n ≤ r.length ∧ raw = [p :: r.take n] :: raw' ∧ PyFlat.calls PyUw20.shape f' (r.drop n) = some raw' := by
  cases f with
  | zero => cases h
  | succ f =>
    have h' : (match PyFlat.call PyUw20.shape (p :: r) with
      | none => none
      | some (c, t) => match PyFlat.calls PyUw20.shape f t with
        | none => none
        | some cs => some (c :: cs)) = some raw := h
    have hs : ∃ n, PyUw20.shape p = some (n, 0) ∨ PyUw20.shape p = none := by
      unfold PyUw20.shape
      repeat (first | (split; first | exact ⟨_, .inl rfl⟩ | skip) | exact ⟨0, .inr rfl⟩)
    obtain ⟨n, hs | hs⟩ := hs
    · have hc : PyFlat.call PyUw20.shape (p :: r) = if r.length < n then none else some ([p :: r.take n], r.drop n) := by
        simp only [PyFlat.call, hs, PyFlat.rows]
      rw [hc] at h'
      by_cases hn : r.length < n
      · rw [if_pos hn] at h'
        cases h'
      · rw [if_neg hn] at h'
        cases e : PyFlat.calls PyUw20.shape f (r.drop n) with
        | none =>
          simp only [e] at h'
          cases h'
        | some cs =>
          simp only [e] at h'
          exact ⟨n, f, cs, hs, by omega, (Option.some.inj h').symm, e⟩
    · have hc : PyFlat.call PyUw20.shape (p :: r) = none := by
        simp only [PyFlat.call, hs]
      rw [hc] at h'
      cases h'
theorem step_of (s : Line) (c : Call) (hc : (cp c :: cx c).all Uw20Neutral.nat = true) : Uw20Neutral.step s ((PyUw20.whole [cp c :: cx c]).headD []) = ((step s c).1, outL s c) := by
  have e : Uw20Neutral.callOf ((PyUw20.whole [cp c :: cx c]).headD []) = some c := by
    have e1 : (PyUw20.whole [cp c :: cx c]).headD [] = cp c :: cx c := by
      cases c <;> rfl
    rw [e1]
    unfold Uw20Neutral.callOf
    rw [hc, if_neg (by decide)]
    cases c <;> rfl
  unfold Uw20Neutral.step
  rw [e]
  rfl
theorem next_call {p : Int} {r : List Int} {f : Nat} {raw : List (List (List Int))} (h : PyFlat.calls PyUw20.shape f (p :: r) = some raw) (hb : PyInside.calls PyUw20.bound raw = true) :
    ∃ (c : Call) (t : List Int) (f' : Nat) (raw' : List (List (List Int))), p = cp c ∧ r = cx c ++ t ∧ PyFlat.calls PyUw20.shape f' t = some raw' ∧ PyInside.calls PyUw20.bound raw' = true ∧
      ∀ s, tail s raw = ((outL s c).length : Int) :: (outL s c ++ tail (step s c).1 raw') := by
  obtain ⟨n, f', raw', hs, hn, rfl, ht⟩ := call_split h
  have hb' : (PyInside.call PyUw20.bound [p :: r.take n] && raw'.all (PyInside.call PyUw20.bound)) = true := hb
  rw [Bool.and_eq_true] at hb'
  have hb1 : (PyInside.each (PyUw20.bound p).1 (r.take n) && PyInside.lists (PyUw20.bound p).2 []) = true := hb'.1
  rw [Bool.and_eq_true] at hb1
  have he := hb1.1
  have key : ∃ c : Call, p = cp c ∧ r.take n = cx c ∧ (cp c :: cx c).all Uw20Neutral.nat = true := by
    unfold PyUw20.shape at hs
    split at hs
    · rename_i hp
      subst hp
      have en : n = 1 := (Prod.mk.inj (Option.some.inj hs)).1.symm
      subst en
      cases r with
      | nil => simp at hn
      | cons x r =>
        have he' : (PyInside.within 0 4294967295 x && true) = true := he
        rw [Bool.and_true] at he'
        obtain ⟨k, rfl, hk⟩ := nat_of he'
        refine ⟨.begins k, rfl, rfl, ?_⟩
        show (Uw20Neutral.nat 0 && (Uw20Neutral.nat (k : Int) && true)) = true
        rw [hk]
        rfl
    · split at hs
      · rename_i hp
        subst hp
        have en : n = 2 := (Prod.mk.inj (Option.some.inj hs)).1.symm
        subst en
        match r, hn, he with
        | x :: y :: r, _, he =>
          have he' : (PyInside.within 0 4294967295 x && (PyInside.within 0 4294967295 y && true)) = true := he
          rw [Bool.and_true, Bool.and_eq_true] at he'
          obtain ⟨k, rfl, hk⟩ := nat_of he'.1
          obtain ⟨m, rfl, hm⟩ := nat_of he'.2
          refine ⟨.turn ⟨k, m⟩, rfl, rfl, ?_⟩
          show (Uw20Neutral.nat 1 && (Uw20Neutral.nat (k : Int) && (Uw20Neutral.nat (m : Int) && true))) = true
          rw [hk, hm]
          rfl
      · split at hs
        · rename_i hp
          subst hp
          have en : n = 0 := (Prod.mk.inj (Option.some.inj hs)).1.symm
          subst en
          exact ⟨.area, rfl, rfl, rfl⟩
        · split at hs
          · rename_i hp
            subst hp
            have en : n = 1 := (Prod.mk.inj (Option.some.inj hs)).1.symm
            subst en
            cases r with
            | nil => simp at hn
            | cons x r =>
              have he' : (PyInside.within 0 4294967295 x && true) = true := he
              rw [Bool.and_true] at he'
              obtain ⟨k, rfl, hk⟩ := nat_of he'
              refine ⟨.straight k, rfl, rfl, ?_⟩
              show (Uw20Neutral.nat 3 && (Uw20Neutral.nat (k : Int) && true)) = true
              rw [hk]
              rfl
          · split at hs
            · rename_i hp
              subst hp
              have en : n = 0 := (Prod.mk.inj (Option.some.inj hs)).1.symm
              subst en
              exact ⟨.best, rfl, rfl, rfl⟩
            · cases hs
  obtain ⟨c, hp, hx, hall⟩ := key
  refine ⟨c, r.drop n, f', raw', hp, ?_, ht, hb'.2, fun s => ?_⟩
  · rw [← hx]
    exact (List.take_append_drop n r).symm
  · rw [tail_cons, hx, hp, step_of s c hall]
    rfl
/-- what is asked, for the walk -/
theorem asked_of {ns : List Int} (h : PyUw20.answers_asked ns = true) : ∃ raw, PyFlat.calls PyUw20.shape ns.length ns = some raw ∧ PyInside.calls PyUw20.bound raw = true ∧ PyUw20.answers ns = tail Uw20.init raw ∧ (PyUw20.answers ns).length ≤ 10000000 := by
  unfold PyUw20.answers_asked at h
  cases e : PyFlat.calls PyUw20.shape ns.length ns with
  | none =>
    rw [e] at h
    cases h
  | some raw =>
    rw [e] at h
    simp only [Bool.and_eq_true] at h
    refine ⟨raw, rfl, h.1.1.2, ?_, ?_⟩
    · unfold PyUw20.answers PyUw20.calls
      rw [e]
      rfl
    · have := h.2
      unfold PyFlat.short at this
      exact of_decide_eq_true this
end SL
namespace SL
open PySem PySem.Spec PyProof.Rows L2
open Uw20 (Line)
/-- the calls' numbers -/
structure NT (mg : Str → Option Value) : Prop where
  begins : ∃ t, mg "BEGINS" = some (.int 0 t)
  turn : ∃ t, mg "TURN" = some (.int 1 t)
  area : ∃ t, mg "AREA" = some (.int 2 t)
  straight : ∃ t, mg "STRAIGHT" = some (.int 3 t)
/-- what isn't the old boundary's list is not the new one's -/
def NP (C : Addr) (H : Hp) (a : Addr) (H' : Hp) (b : Addr) : Prop := ∀ z, H z ≠ none → ¬ Pl C H a z → ¬ Pl C H' b z
theorem np_new {C : Addr} {H H' : Hp} {a b : Addr} (h : ∀ z, Pl C H' b z → H z = none) : NP C H a H' b := fun z h1 _ h3 => h1 (h z h3)
theorem np_old {C : Addr} {H H' : Hp} {a : Addr} {l : Line} (hB : BAt C H a l) (s : Same H H') : NP C H a H' a := fun z _ h2 h3 => by
  obtain ⟨dx, p, ts, h1, _⟩ := hB
  have e := pl_eq (s _ _ h1) h3
  rw [e] at h2
  exact h2 ⟨dx, h1⟩
section
variable {P : Program} {w : World} {K : PySem.W.Frag} {mg : Str → Option Value} {base : Heap} {C CR : Addr}
/-! ### answer -/
def spAnswer (K : PySem.W.Frag) (C CR : Addr) : Sp := fun vs H Q E => ∃ (a n : Addr) (l : Line) (c : Uw20.Call), vs = [.ref a, .int (cp c), .ref n] ∧ BAt C H a l ∧ Ok l ∧ SqL K H n ((cx c).map V.int) ∧ (∀ e, Uw20.step l c = (l, Uw20.ok e) → Err CR E H e) ∧
  (∀ l' v r, Uw20.step l c = (l', ⟨v, r⟩) → ∀ H' t b q, Same H H' → H' t = some (.tup [.ref b, .ref q]) → BAt C H' b l' → NP C H a H' b → H q = none → H' q = some (.lst ((v :: r).map V.int)) → Q (.ref t) H')
theorem scAnswer : FnScope ["boundary", "call", "numbers"] ["boundary", "call", "numbers"] (defScope sAnswer) := ⟨rfl, rfl, rfl, by decide +kernel, rfl, by decide +kernel, by decide +kernel⟩
theorem at0 {x : V} {r : List V} : atI (x :: r) 0 = some x := atI_nat (j := 0) rfl
theorem at1 {x y : V} {r : List V} : atI (x :: y :: r) 1 = some y := atI_nat (j := 1) rfl
theorem ok_answer {f : Addr} {fd : FuncData} (F : Fun K "answer" "answer" sAnswer f fd) (T : BT K C) (G : GT mg) (N : NT mg) (ml : mg "len" = none) (M : SMak P w K mg base C 1 "Boundary" ["self", "places"] (spInit C)) (A1 : SMet P w K mg base C 1 "area" ["self"] (spArea C)) (L1 : SMet P w K mg base C 1 "length" ["self"] (spLength C))
    (C1 : SCal P w K mg base (L2.CX P w) 3 "want" ["is_so", "code"] (spWant CR)) (C2 : SCal P w K mg base (L2.CX P w) 4 "turned" ["boundary", "along", "height"] (spTurned C CR)) (C3 : SCal P w K mg base (L2.CX P w) 5 "straight_told" ["boundary", "height"] (spStraight C CR))
    (C4 : SCal P w K mg base (L2.CX P w) 5 "best_told" ["boundary"] (spBest C CR)) : FnOk P w K mg base (L2.CX P w) 6 f fd ["boundary", "call", "numbers"] (spAnswer K C CR) := by
  refine F.okX scAnswer (fun vs H Q E h => ?_) (fun cdv A outer s H vs Q E hr h => ?_)
  · obtain ⟨a, n, l, c, rfl, _⟩ := h
    rfl
  · obtain ⟨a, n, l, c, rfl, hB, hok, hn, q1, q2⟩ := h
    refine ⟨_, pss_cons (ps_if (pt_cmpR op_eq (pv 1) (pe_gi N.begins (by rfl)) (nomark _))
        (pss_cons (ps_expr (pe_scS (E := fun _ => E) C1 hr (by decide) (by rfl) (fun σ => passAt (takes_of rfl rfl rfl rfl) σ) (by exact (pa_cons (pe_cmpR op_le (pe_ix ix_list (pv 2) pe_int (fun _ _ => rfl)) (pe_gi G.high (by rfl)) (nomark _)) (pa_cons (pe_gi G.bad (by rfl)) pa_nil)))))
          (pss_one (ps_ret (pe_tup (pa_cons (pe_sk M hr (by decide) (by rfl) (pa_cons (pe_lst (pa_cons (pe_tup (pa_cons pe_int (pa_cons (pe_ix ix_list (pv 2) pe_int (fun _ _ => rfl)) pa_nil))) pa_nil)) pa_nil)) (pa_cons (pe_lst (pa_cons pe_int pa_nil)) pa_nil)))))) pss_nil)
      (pss_cons (ps_if (pt_cmpR op_eq (pv 1) (pe_gi N.turn (by rfl)) (nomark _))
        (pss_one (ps_ret (pe_tup (pa_cons (pe_scS (E := fun _ => E) C2 hr (by decide) (by rfl) (fun σ => passAt (takes_of rfl rfl rfl rfl) σ) (by exact (pa_cons (pv 0) (pa_cons (pe_ix ix_list (pv 2) pe_int (fun _ _ => rfl)) (pa_cons (pe_ix ix_list (pv 2) pe_int (fun _ _ => rfl)) pa_nil)))))
          (pa_cons (pe_lst (pa_cons (pe_callB call_len_seq (by rfl) ml PySem.boot_len (pa_cons (pe_fld (pv 0) rfl) pa_nil)) pa_nil)) pa_nil))))) pss_nil)
      (pss_cons (ps_if (pt_cmpR op_eq (pv 1) (pe_gi N.area (by rfl)) (nomark _))
        (pss_one (ps_ret (pe_tup (pa_cons (pv 0) (pa_cons (pe_lst (pa_cons (pe_sm0 A1 hr (by decide) (pv 0)) (pa_cons (pe_sm0 L1 hr (by decide) (pv 0)) pa_nil))) pa_nil))))) pss_nil)
      (pss_cons (ps_if (pt_cmpR op_eq (pv 1) (pe_gi N.straight (by rfl)) (nomark _))
        (pss_one (ps_ret (pe_tup (pa_cons (pv 0) (pa_cons (pe_scS (E := fun _ => E) C3 hr (by decide) (by rfl) (fun σ => passAt (takes_of rfl rfl rfl rfl) σ) (by exact (pa_cons (pv 0) (pa_cons (pe_ix ix_list (pv 2) pe_int (fun _ _ => rfl)) pa_nil)))) pa_nil))))) pss_nil)
      (pss_one (ps_ret (pe_tup (pa_cons (pv 0) (pa_cons (pe_scS (E := fun _ => E) C4 hr (by decide) (by rfl) (fun σ => passAt (takes_of rfl rfl rfl rfl) σ) (by exact (pa_cons (pv 0) pa_nil))) pa_nil)))))))), ?_⟩
    obtain ⟨dx, p, ts, h1, h2, h3⟩ := hB
    have hB : BAt C H a l := ⟨dx, p, ts, h1, h2, h3⟩
    cases c with
    | begins y =>
      refine ⟨_, rfl, rfl, _, rfl, ite2 (fun _ => ?_) (fun e => (e (decide_eq_true rfl)).elim)⟩
      refine ⟨_, rfl, n, _, 0, _, rfl, rfl, hn, at0, _, _, rfl, rfl, _, -1, rfl, fun c => ?_, fun c => q1 (-1) (st_begins_no ?_)⟩
      · have hy : y ≤ 50 := by
          have := of_decide_eq_true c
          omega
        refine ⟨_, rfl, n, _, 0, _, rfl, rfl, hn, at0, (by show 2 ≤ sizeLine; decide), fun t nt => ⟨(by show 1 ≤ sizeLine; decide), fun r nr => ?_⟩⟩
        have s1 : Same H (upd H t (.tup (pt ⟨0, y⟩))) := same_upd nt
        have s2 := same_upd (o := .lst [.ref t]) nr
        intro b db nb nd ne
        refine ⟨b, db, .ref r, rfl, upd_same, fun H3 e kp => ⟨rfl, ?_⟩⟩
        have z := made (C := C) (ts := [t]) (l := [⟨0, y⟩]) nb nd e kp (by rw [upd_same]; rfl) (PtsAt.snoc (ts := []) (l := []) ⟨rfl, fun i p h => by simp at h⟩ (s2 _ _ upd_same))
        have s3 := (s1.trans s2).trans z.1
        refine ⟨(by show 1 ≤ sizeLine; decide), fun q nq => ⟨(by show 2 ≤ sizeLine; decide), fun u nu => ?_⟩⟩
        have s4 := same_upd (o := .lst [.int 0]) nq
        have s5 := same_upd (o := .tup [.ref b, .ref q]) nu
        refine q2 _ _ _ (st_begins hy) _ u b q ((s3.trans s4).trans s5) upd_same ((z.2.same s4).same s5) (np_new fun x hx => ?_) (s3.free nq) (s5 _ _ upd_same)
        rw [pl_eq (s5 _ _ (s4 _ _ e)) hx]
        exact s1.free nr
      · have := of_decide_eq_false c
        omega
    | turn p' =>
      refine ⟨_, rfl, rfl, _, rfl, ite2 (fun e => absurd (V.int.inj (of_decide_eq_true e)) (show ¬ (1 : Int) = 0 by decide)) (fun _ => ?_)⟩
      refine ⟨_, rfl, rfl, _, rfl, ite2 (fun _ => ?_) (fun e => (e (decide_eq_true rfl)).elim)⟩
      refine ⟨_, rfl, _, rfl, n, _, 0, _, rfl, rfl, hn, at0, _, rfl, n, _, 1, _, rfl, rfl, hn, at1, ?_⟩
      refine ⟨a, l, p'.x, p'.y, rfl, hB, hok, fun c => q1 (-1) (st_turn_bad c), fun c d => q1 (-5) (st_turn_many c d), fun c d H1 b s1 eb hnew => ?_⟩
      refine ⟨_, rfl, a, C, dx, _, _, rfl, s1 _ _ h1, T.cl, T.nP, bF_places, p, _, rfl, .inl (.inl (.inl (s1 _ _ h2))), (by show 1 ≤ sizeLine; decide), fun q nq => ⟨(by show 2 ≤ sizeLine; decide), fun u nu => ?_⟩⟩
      have s4 := same_upd (o := .lst [.int ((ts.map V.ref).length : Int)]) nq
      have s5 := same_upd (o := .tup [.ref b, .ref q]) nu
      have el : ((ts.map V.ref).length : Int) = (l.length : Int) := by rw [List.length_map, h3.1]
      refine q2 _ _ _ (st_turn c d) _ u b q ((s1.trans s4).trans s5) upd_same ((eb.same s4).same s5) (np_new fun x hx => hnew x ?_) (s1.free nq) ?_
      · obtain ⟨d1, p1, _, g1, _⟩ := eb
        have e1 := pl_eq (s5 _ _ (s4 _ _ g1)) hx
        rw [e1]
        exact ⟨d1, g1⟩
      · rw [← el]
        exact s5 _ _ upd_same
    | area =>
      refine ⟨_, rfl, rfl, _, rfl, ite2 (fun e => absurd (V.int.inj (of_decide_eq_true e)) (show ¬ (2 : Int) = 0 by decide)) (fun _ => ?_)⟩
      refine ⟨_, rfl, rfl, _, rfl, ite2 (fun e => absurd (V.int.inj (of_decide_eq_true e)) (show ¬ (2 : Int) = 1 by decide)) (fun _ => ?_)⟩
      refine ⟨_, rfl, rfl, _, rfl, ite2 (fun _ => ?_) (fun e => (e (decide_eq_true rfl)).elim)⟩
      refine ⟨_, rfl, _, rfl, a, dx, _, rfl, h1, bF_none (by decide +kernel), a, l, rfl, hB, hok, fun H1 s1 => ?_⟩
      refine ⟨_, rfl, a, dx, _, rfl, s1 _ _ h1, bF_none (by decide +kernel), a, l, rfl, hB.same s1, hok.ne, (by show 2 ≤ sizeLine; decide), fun q nq => ⟨(by show 2 ≤ sizeLine; decide), fun u nu => ?_⟩⟩
      have s4 := same_upd (o := .lst [.int (Uw20.twice l : Int), .int ((Uw20.last l).x : Int)]) nq
      have s5 := same_upd (o := .tup [.ref a, .ref q]) nu
      have s15 := (s1.trans s4).trans s5
      exact q2 _ _ _ (st_area hok) _ u a q s15 upd_same (hB.same s15) (np_old hB s15) (s1.free nq) (s5 _ _ upd_same)
    | straight h =>
      refine ⟨_, rfl, rfl, _, rfl, ite2 (fun e => absurd (V.int.inj (of_decide_eq_true e)) (show ¬ (3 : Int) = 0 by decide)) (fun _ => ?_)⟩
      refine ⟨_, rfl, rfl, _, rfl, ite2 (fun e => absurd (V.int.inj (of_decide_eq_true e)) (show ¬ (3 : Int) = 1 by decide)) (fun _ => ?_)⟩
      refine ⟨_, rfl, rfl, _, rfl, ite2 (fun e => absurd (V.int.inj (of_decide_eq_true e)) (show ¬ (3 : Int) = 2 by decide)) (fun _ => ?_)⟩
      refine ⟨_, rfl, rfl, _, rfl, ite2 (fun _ => ?_) (fun e => (e (decide_eq_true rfl)).elim)⟩
      refine ⟨_, rfl, _, rfl, _, rfl, n, _, 0, _, rfl, rfl, hn, at0, ?_⟩
      refine ⟨a, l, h, rfl, hB, hok, fun c => q1 (-1) (st_straight_bad c), fun c d => q1 (-6) (st_straight_len c d), fun c d H1 q s1 nq eq => ?_⟩
      refine ⟨(by show 2 ≤ sizeLine; decide), fun u nu => ?_⟩
      have s5 := same_upd (o := .tup [.ref a, .ref q]) nu
      have s15 := s1.trans s5
      exact q2 _ _ _ (st_straight hok c d) _ u a q s15 upd_same (hB.same s15) (np_old hB s15) nq (s5 _ _ eq)
    | best =>
      refine ⟨_, rfl, rfl, _, rfl, ite2 (fun e => absurd (V.int.inj (of_decide_eq_true e)) (show ¬ (4 : Int) = 0 by decide)) (fun _ => ?_)⟩
      refine ⟨_, rfl, rfl, _, rfl, ite2 (fun e => absurd (V.int.inj (of_decide_eq_true e)) (show ¬ (4 : Int) = 1 by decide)) (fun _ => ?_)⟩
      refine ⟨_, rfl, rfl, _, rfl, ite2 (fun e => absurd (V.int.inj (of_decide_eq_true e)) (show ¬ (4 : Int) = 2 by decide)) (fun _ => ?_)⟩
      refine ⟨_, rfl, rfl, _, rfl, ite2 (fun e => absurd (V.int.inj (of_decide_eq_true e)) (show ¬ (4 : Int) = 3 by decide)) (fun _ => ?_)⟩
      refine ⟨_, rfl, _, rfl, ?_⟩
      refine ⟨a, l, rfl, hB, hok, fun d => q1 (-6) (st_best_len d), fun d H1 q s1 nq eq => ?_⟩
      refine ⟨(by show 2 ≤ sizeLine; decide), fun u nu => ?_⟩
      have s5 := same_upd (o := .tup [.ref a, .ref q]) nu
      have s15 := s1.trans s5
      exact q2 _ _ _ (st_best hok d) _ u a q s15 upd_same (hB.same s15) (np_old hB s15) nq (s5 _ _ eq)
/-! ### answered -/
def spAnswered (K : PySem.W.Frag) (C : Addr) : Sp := fun vs H Q _ => ∃ (a n : Addr) (l : Line) (c : Uw20.Call), vs = [.ref a, .int (cp c), .ref n] ∧ BAt C H a l ∧ Ok l ∧ SqL K H n ((cx c).map V.int) ∧
  (∀ H' t b q, Same H H' → H' t = some (.tup [.ref b, .ref q]) → BAt C H' b (Uw20.step l c).1 → NP C H a H' b → H q = none → H' q = some (.lst ((outL l c).map V.int)) → Q (.ref t) H')
theorem scAnswered : FnScope ["boundary", "call", "numbers", "found", "e"] ["boundary", "call", "numbers"] (defScope sAnswered) := ⟨rfl, rfl, rfl, by decide +kernel, rfl, by decide +kernel, by decide +kernel⟩
theorem code_look {v : V} : List.lookup ("code" : Str) [(("code" : Str), v)] = some v := by
  have e : (("code" : Str) == ("code" : Str)) = true := beq_self_eq_true _
  simp only [List.lookup, e]
theorem ok_answered {f : Addr} {fd : FuncData} (F : Fun K "answered" "answered" sAnswered f fd) (T : RT K mg CR) (C1 : SCal P w K mg base (L2.CX P w) 6 "answer" ["boundary", "call", "numbers"] (spAnswer K C CR)) :
    FnOk P w K mg base CX0 7 f fd ["boundary", "call", "numbers"] (spAnswered K C) := by
  refine F.ok scAnswered (fun vs H Q E h => ?_) (fun cdv A outer s H vs Q E hr h => ?_)
  · obtain ⟨a, n, l, c, rfl, _⟩ := h
    rfl
  · obtain ⟨a, n, l, c, rfl, hB, hok, hn, q⟩ := h
    refine ⟨_, pss_cons (ps_try_as (i := 4) (tb := fun W => tAsg (tCallS (spAnswer K C CR) (WE W) (tCons (tVar 0) (tCons (tVar 1) (tCons (tVar 2) tNil)))) (gName 3)) (ts := fun a cls d => tRet (tTup (tCons (tVar 0) (tCons (tLst (tCons (tXf a cls d CR "code" (tVar 4)) tNil)) tNil)))) (Wout := fun _ _ _ _ => False)
        rfl rfl scAnswered.nd rfl rfl ⟨rfl, by decide, Or.inl T.gC⟩ takes0
        (fun W pn xe tk _ => pss_one (ps_set (i := 3) scAnswered.nd rfl (Or.inl rfl) (by exact (pe_scS C1 hr (by decide) (by rfl) (fun σ => passAt tk σ) (by exact (pa_cons (pv 0) (pa_cons (pv 1) (pa_cons (pv 2) pa_nil))))))))
        (fun a oe cls d pn hz hf => pss_one (ps_ret (by exact (pe_tup (pa_cons (pv 0) (pa_cons (pe_lst (pa_cons (pe_xf T.xf T.noC hz hf (pv 4)) pa_nil)) pa_nil)))))))
      (pss_one (ps_ret (pv 3))), ?_⟩
    refine ⟨_, rfl, _, rfl, _, rfl, a, n, l, c, rfl, hB, hok, hn, fun e he H1 d s1 ed => ?_, fun l' v r he H1 t b u s1 et eb np nu eu => ?_⟩
    · refine ⟨true, T.te, fun _ a0 na0 => ?_, fun z => Bool.noConfusion z⟩
      refine ⟨_, rfl, _, rfl, rfl, rfl, d, _, _, rfl, ed, code_look, (by show 1 ≤ sizeLine; decide), fun u nu => ⟨(by show 2 ≤ sizeLine; decide), fun t nt => ?_⟩⟩
      have s4 := same_upd (o := .lst [.int e]) nu
      have s5 := same_upd (o := .tup [.ref a, .ref u]) nt
      have s15 := (s1.trans s4).trans s5
      refine q _ t a u s15 upd_same ?_ (np_old hB s15) (s1.free nu) ?_
      · rw [he]
        exact hB.same s15
      · have eo : outL l c = [e] := by
          unfold outL
          rw [he]
          rfl
        rw [eo]
        exact s5 _ _ upd_same
    · refine ⟨_, rfl, q H1 t b u s1 et ?_ np nu ?_⟩
      · rw [he]
        exact eb
      · have eo : outL l c = v :: r := by
          unfold outL
          rw [he]
        rw [eo]
        exact eu
end
end SL
namespace SL
open PySem PySem.Spec PyProof.Rows L2
open Uw20 (Line)
theorem BAt.put {C : Addr} {H : Hp} {b z : Addr} {l : Line} {xs ys : List V} (h : BAt C H b l) (hz : H z = some (.lst xs)) (np : ¬ Pl C H b z) : BAt C (upd H z (.lst ys)) b l ∧ ¬ Pl C (upd H z (.lst ys)) b z := by
  obtain ⟨dx, p, ts, h1, h2, h3⟩ := h
  have nb : b ≠ z := ne_of h1 hz (by intro q; cases q)
  have npz : p ≠ z := fun e => np (by rw [← e]; exact ⟨dx, h1⟩)
  refine ⟨⟨dx, p, ts, ?_, ?_, h3.1, fun i q e => ?_⟩, fun hp => ?_⟩
  · rw [upd_ne nb]
    exact h1
  · rw [upd_ne npz]
    exact h2
  · obtain ⟨t, e1, e2⟩ := h3.2 i q e
    refine ⟨t, e1, ?_⟩
    rw [upd_ne (ne_of e2 hz (by intro q; cases q))]
    exact e2
  · obtain ⟨d, hp⟩ := hp
    rw [upd_ne nb] at hp
    exact np ⟨d, hp⟩
theorem cut_mid {xs : List V} {i j : Nat} (h1 : i ≤ j) (h2 : j ≤ xs.length) : cutV xs (some (i : Int)) (some (j : Int)) = (xs.drop i).take (j - i) := by
  unfold cutV
  rw [HT.sIx_nat, HT.sIx_nat, Nat.min_eq_left h2, Nat.min_eq_left (by omega)]
def numV : List V := [.int 1, .int 2, .int 0, .int 1, .int 0]
theorem num_at (c : Uw20.Call) : atI numV (cp c) = some (.int ((cx c).length : Int)) := by
  cases c <;> rfl
section
variable {P : Program} {w : World} {K : PySem.W.Frag} {mg : Str → Option Value} {base : Heap} {C CR aN : Addr}
def spAnswers (K : PySem.W.Frag) : Sp := fun vs H Q _ => ∃ (a : Addr) (ns : List Int), vs = [.ref a] ∧ SqL K H a (ns.map V.int) ∧ PyUw20.answers_asked ns = true ∧ ∀ H' p, H' p = some (.lst ((PyUw20.answers ns).map V.int)) → Q (.ref p) H'
theorem scAnswers : FnScope ["calls", "boundary", "found", "at", "behind", "told"] ["calls"] (defScope sAnswers) := ⟨rfl, rfl, rfl, by decide +kernel, rfl, by decide +kernel, by decide +kernel⟩
theorem ok_answers {f : Addr} {fd : FuncData} (F : Fun K "answers" "answers" sAnswers f fd) (ml : mg "len" = none) (gN : mg "NUMBERS" = some (.ref aN)) (sN : ∀ H : Hp, SqT K H aN numV) (M : SMak P w K mg base C 1 "Boundary" ["self", "places"] (spInit C))
    (C1 : SCal P w K mg base CX0 7 "answered" ["boundary", "call", "numbers"] (spAnswered K C)) : FnOk P w K mg base CX0 8 f fd ["calls"] (spAnswers K) := by
  refine F.ok scAnswers (fun vs H Q E h => ?_) (fun cdv A outer s H vs Q E hr h => ?_)
  · obtain ⟨a, ns, rfl, _⟩ := h
    rfl
  · obtain ⟨a, ns, rfl, hS, hask, q⟩ := h
    refine ⟨_, pss_cons (ps_set (i := 1) scAnswers.nd rfl (.inl rfl) (pe_sk M hr (by decide) (by rfl) (pa_cons (pe_lst (pa_cons (pe_tup (pa_cons pe_int (pa_cons pe_int pa_nil))) pa_nil)) pa_nil)))
      (pss_cons (ps_set (i := 2) scAnswers.nd rfl (.inl rfl) (pe_lst pa_nil))
      (pss_cons (ps_set (i := 3) scAnswers.nd rfl (.inl rfl) pe_int)
      (pss_cons (ps_while PassesOwn.never (pt_cmpR op_lt (pv 3) (pe_callB call_len_seq (by rfl) ml PySem.boot_len (pa_cons (pv 0) pa_nil)) (nomark _))
        (pss_cons (ps_set (i := 4) scAnswers.nd rfl (.inl rfl) (pe_op op_add (pe_op op_add (pv 3) pe_int) (pe_ix ix_tup (pe_glob (v := .ref aN) (by rfl) gN rfl) (pe_ix ix_list (pv 0) (pv 3) (fun _ _ => rfl)) (fun _ _ => rfl))))
        (pss_cons (ps_asg (pe_sc C1 hr (by decide) (by rfl) (pa_cons (pv 1) (pa_cons (pe_ix ix_list (pv 0) (pv 3) (fun _ _ => rfl)) (pa_cons (pe_slice sl_list (pv 0) (po_some (pe_op op_add (pv 3) pe_int)) (po_some (pv 4))) pa_nil))))
          (pg_tup rfl (pgs_cons (pg_name (i := 1) scAnswers.nd rfl (.inl rfl)) (pgs_cons (pg_name (i := 5) scAnswers.nd rfl (.inl rfl)) pgs_nil))))
        (pss_cons (ps_expr (pe_bm PySem.F.plainAttrs_list PySem.F.slot_list_append PySem.F.type_list_append mt_append (pv 2) (pa_cons (pe_callB call_len_seq (by rfl) ml PySem.boot_len (pa_cons (pv 5) pa_nil)) pa_nil)))
        (pss_cons (ps_expr (pe_bm PySem.F.plainAttrs_list PySem.F.slot_list_extend PySem.F.type_list_extend mt_extend (pv 2) (pa_cons (pv 5) pa_nil)))
        (pss_one (ps_set (i := 3) scAnswers.nd rfl (.inl rfl) (pv 4))))))))
      (pss_one (ps_ret (pv 2)))))), ?_⟩
    obtain ⟨raw0, hp0, hb0, ha0, hl0⟩ := asked_of hask
    -- boundary = Boundary([(0, 0)])
    refine ⟨(by show 2 ≤ sizeLine; decide), fun t nt => ⟨(by show 1 ≤ sizeLine; decide), fun r nr => ?_⟩⟩
    have s1 : Same H (upd H t (.tup (pt ⟨0, 0⟩))) := same_upd nt
    have s2 := same_upd (o := .lst [.ref t]) nr
    intro b db nb nd ne
    refine ⟨b, db, .ref r, rfl, upd_same, fun H3 e kp => ⟨rfl, ?_⟩⟩
    have z := made (C := C) (ts := [t]) (l := Uw20.init) nb nd e kp (by rw [upd_same]; rfl) (PtsAt.snoc (ts := []) (l := []) ⟨rfl, fun i p h => by simp at h⟩ (s2 _ _ upd_same))
    have s3 := (s1.trans s2).trans z.1
    -- found = []
    refine ⟨Nat.zero_le _, fun fo nf => ?_⟩
    have s4 := same_upd (o := .lst []) nf
    have s04 := s3.trans s4
    have nfo : H fo = none := s3.free nf
    have er : H3 r = some (.lst [.ref t]) := z.1 _ _ upd_same
    have npl0 : ¬ Pl C (upd H3 fo (.lst [])) b fo := fun hp => by
      have e2 := pl_eq (s4 _ _ e) hp
      rw [e2, er] at nf
      cases nf
    -- while at < len(calls)
    refine ⟨fun m σ H5 => ∃ (b' : Addr) (i : Nat) (l : Line) (fl : List Int) (raw : List (List (List Int))) (g : Nat) (y4 y5 : Option V), σ = [some (.ref a), some (.ref b'), some (.ref fo), some (.int (i : Int)), y4, y5] ∧ m = ns.length - i ∧ i ≤ ns.length ∧ Same H H5 ∧ H5 fo = some (.lst (fl.map V.int)) ∧
        BAt C H5 b' l ∧ ¬ Pl C H5 b' fo ∧ Ok l ∧ PyFlat.calls PyUw20.shape g (ns.drop i) = some raw ∧ PyInside.calls PyUw20.bound raw = true ∧ fl ++ tail l raw = PyUw20.answers ns,
      ⟨ns.length, b, 0, Uw20.init, [], raw0, ns.length, none, none, rfl, rfl, Nat.zero_le _, s04, upd_same, z.2.same s4, npl0, ok_init0, hp0, hb0, ha0.symm⟩, fun m σ H5 hW => ?_⟩
    obtain ⟨b', i, l, fl, raw, g, y4, y5, rfl, rfl, hi, sH, efo, hB, npl, hok, hp, hb, heq⟩ := hW
    have hS5 : SqL K H5 a (ns.map V.int) := sH.seq hS
    refine ⟨_, rfl, _, rfl, a, _, rfl, .inl hS5, _, _, rfl, rfl, _, rfl, ite2 (fun c => ?_) (fun c => ?_)⟩
    · have hlt : i < ns.length := by
        have := of_decide_eq_true c
        rw [List.length_map] at this
        omega
      obtain ⟨v0, hv0⟩ := getE hlt
      have hdrop : ns.drop i = v0 :: ns.drop (i + 1) := by
        have e1 := List.drop_eq_getElem_cons hlt
        have e2 := (List.getElem?_eq_some_iff.mp hv0).2
        rw [e1, e2]
      rw [hdrop] at hp
      obtain ⟨c, t', g', raw', rfl, ht, hp', hb', htail⟩ := next_call hp hb
      have hlen : i + 1 + (cx c).length ≤ ns.length := by
        have := congrArg List.length ht
        rw [List.length_drop, List.length_append] at this
        omega
      have hdrop2 : ns.drop (i + 1 + (cx c).length) = t' := by
        rw [← List.drop_drop, ht, List.drop_left]
      have hcut : cutV (ns.map V.int) (some ((i : Int) + 1)) (some ((i : Int) + 1 + ((cx c).length : Int))) = (cx c).map V.int := by
        have k1 : (i : Int) + 1 = ((i + 1 : Nat) : Int) := by omega
        have k2 : (i : Int) + 1 + ((cx c).length : Int) = ((i + 1 + (cx c).length : Nat) : Int) := by omega
        rw [k2, k1, cut_mid (by omega) (by rw [List.length_map]; exact hlen), ← List.map_drop, ht, ← List.map_take]
        have k3 : i + 1 + (cx c).length - (i + 1) = (cx c).length := by omega
        rw [k3, List.take_left]
      have gv : atI (ns.map V.int) (i : Int) = some (.int (cp c)) := atI_nat (by rw [List.getElem?_map, hv0]; rfl)
      refine ⟨fun σ' H' => ∃ (b'' : Addr) (l' : Line) (fl' : List Int) (y4 y5 : Option V), σ' = [some (.ref a), some (.ref b''), some (.ref fo), some (.int ((i + 1 + (cx c).length : Nat) : Int)), y4, y5] ∧ Same H H' ∧ H' fo = some (.lst (fl'.map V.int)) ∧ BAt C H' b'' l' ∧ ¬ Pl C H' b'' fo ∧ Ok l' ∧ fl' ++ tail l' raw' = PyUw20.answers ns,
        fun σ' H' hN => ?_, ?_⟩
      · obtain ⟨b'', l', fl', y4, y5, e1, e2, e3, e4, e5, e6, e7⟩ := hN
        exact ⟨ns.length - (i + 1 + (cx c).length), by omega, b'', i + 1 + (cx c).length, l', fl', raw', g', y4, y5, e1, rfl, hlen, e2, e3, e4, e5, e6, by rw [hdrop2]; exact hp', hb', e7⟩
      · -- behind = at + 1 + NUMBERS[calls[at]]
        refine ⟨_, rfl, _, _, rfl, rfl, _, rfl, _, rfl, a, _, _, _, rfl, rfl, hS5, gv, aN, _, _, _, rfl, rfl, sN _, num_at c, _, _, rfl, rfl, ?_⟩
        -- boundary, told = answered(..)
        refine ⟨_, rfl, _, rfl, _, rfl, a, _, _, _, rfl, rfl, hS5, gv, _, rfl, _, rfl, _, _, rfl, rfl, _, rfl, _, rfl, _, rfl, a, _, rfl, hS5, fun k nk => ?_⟩
        have s6 := same_upd (o := .lst (cutV (ns.map V.int) (some ((i : Int) + 1)) (some ((i : Int) + 1 + ((cx c).length : Int))))) nk
        refine ⟨b', k, l, c, rfl, hB.same s6, hok, .inl (.inl (by rw [upd_same]; exact congrArg (fun z => some (HO.lst z)) hcut)), fun H7 t7 b7 q7 s7 et7 eb7 np7 nq7 eq7 => ?_⟩
        refine ⟨t7, _, rfl, .inl (.inl et7), rfl, _, _, rfl, _, _, rfl, rfl, ?_⟩
        have ef7 : H7 fo = some (.lst (fl.map V.int)) := s7 _ _ (s6 _ _ efo)
        have npl7 : ¬ Pl C H7 b7 fo := np7 fo (by rw [s6 _ _ efo]; intro z; cases z) (np_old hB s6 fo (by rw [efo]; intro z; cases z) npl)
        have hq7 : q7 ≠ fo := fun z => by
          rw [z, s6 _ _ efo] at nq7
          cases nq7
        have hfl : fl.length + (1 + (outL l c).length) ≤ 10000000 := by
          have := congrArg List.length heq
          rw [htail l, List.length_append, List.length_cons, List.length_append] at this
          omega
        have sz : sizeLine = 16777216 := sizeLine_eq
        -- found.append(len(told))
        refine ⟨_, rfl, .inl ⟨rfl, _, .inl (.inl ef7)⟩, _, rfl, q7, _, rfl, .inl (.inl (.inl eq7)), fo, _, _, rfl, rfl, ef7, ?_, ?_⟩
        · rw [List.length_map, sz]
          omega
        have eb8 := eb7.put (ys := fl.map V.int ++ [.int (((outL l c).map V.int).length : Int)]) ef7 npl7
        have e8 : upd H7 fo (.lst (fl.map V.int ++ [.int (((outL l c).map V.int).length : Int)])) fo = some (.lst (fl.map V.int ++ [.int (((outL l c).map V.int).length : Int)])) := upd_same
        have e8q : upd H7 fo (.lst (fl.map V.int ++ [.int (((outL l c).map V.int).length : Int)])) q7 = some (.lst ((outL l c).map V.int)) := by
          rw [upd_ne hq7]
          exact eq7
        -- found.extend(told)
        refine ⟨_, rfl, .inl ⟨rfl, _, .inl (.inl e8)⟩, _, rfl, fo, q7, _, _, rfl, rfl, e8, e8q, ?_, ?_⟩
        · rw [List.length_append, List.length_map, List.length_map, sz]
          simp only [List.length_cons, List.length_nil]
          omega
        have eb9 := eb8.1.put (ys := fl.map V.int ++ [.int (((outL l c).map V.int).length : Int)] ++ (outL l c).map V.int) e8 eb8.2
        -- at = behind
        refine ⟨_, rfl, b7, (Uw20.step l c).1, fl ++ [((outL l c).length : Int)] ++ outL l c, some (.int ((i : Int) + 1 + ((cx c).length : Int))), some (.ref q7), ?_, same_put (same_put ((sH.trans s6).trans s7) nfo) nfo, ?_, eb9.1, eb9.2, step_ok hok c, ?_⟩
        · have k2 : ((i + 1 + (cx c).length : Nat) : Int) = (i : Int) + 1 + ((cx c).length : Int) := by omega
          rw [k2]
          rfl
        · rw [upd_same, List.map_append, List.map_append, List.length_map]
          rfl
        · rw [← heq, htail l]
          simp only [List.append_assoc, List.cons_append, List.nil_append]
    · have hi' : i = ns.length := by
        have : ¬ ((i : Int) < ((ns.map V.int).length : Int)) := fun z => c (decide_eq_true z)
        rw [List.length_map] at this
        omega
      rw [hi', List.drop_length] at hp
      have hr := calls_nil hp
      rw [hr, tail_nil, List.append_nil] at heq
      refine ⟨_, rfl, q H5 fo ?_⟩
      rw [← heq]
      exact efo
end
end SL
namespace SL
open PySem PySem.Spec PyProof.Rows L2
theorem exm_self {K : PySem.W.Frag} {S : Addr} (h1 : PySem.W.subIn K (.ref S) (.type "BaseException") = some true) (h2 : PySem.W.isClsIn K S = true) (h3 : PySem.W.typeIn K (.ref S) = some (.type "type")) (h4 : PySem.W.subIn K (.ref S) (.ref S) = some true) :
    PySem.W.exmOne K (.ref S) (.ref S) = some true := by
  have e1 : (PySem.W.subIn K (.ref S) (.type "BaseException") == some true) = true := by rw [h1] <;> rfl
  have e2 : ((PySem.W.clsIn K S).isSome && PySem.W.typeIn K (.ref S) == some (.type "type")) = true := by
    have h2' : (PySem.W.clsIn K S).isSome = true := h2
    rw [h2', h3] <;> rfl
  show (if (PySem.W.subIn K (.ref S) (.type "BaseException") == some true) = true then (if ((PySem.W.clsIn K S).isSome && PySem.W.typeIn K (.ref S) == some (.type "type")) = true then PySem.W.subIn K (.ref S) (.ref S) else none) else none) = some true
  rw [if_pos e1, if_pos e2]
  exact h4
theorem all_mk {P : Program} {w : World} {K : PySem.W.Frag} {h : Heap} {mg : Str → Option Value} {fa C CR aN f1 f2 f3 f4 f5 f6 f7 f8 f9 f10 f11 f12 f13 f14 f15 f16 f17 f18 f19 f20 f21 : Addr} (X : K.In h) (G : h.Ns mainGlobals mg) (hfa : mg "answers" = some (.ref fa))
    {nm q : Str} {N : Addr} {bs : List Value} {sn : List Str} {sub : List Value} {ab : Bool} {col : Option Bool} {dd odT : Option Addr} {m0 m1 m2 m3 m5 : Option Value} {slT : Array (Option Value)} {nT : Nat} {u1 u2 u3 u4 u5 tMOST_HIGH tMOST_ALONG tMOST_PLACES tBAD tTOO_MANY tNO_LENGTH tBEGINS tTURN tAREA tSTRAIGHT : Tok}
    {od1 an1 od2 an2 od3 an3 od4 an4 od5 an5 od6 an6 od7 an7 od8 an8 od9 an9 od10 an10 od11 an11 od12 an12 od13 an13 od14 an14 od15 an15 od16 an16 od17 an17 od18 an18 od19 an19 od20 an20 od21 an21 : Option Addr} {sl1 sl2 sl3 sl4 sl5 sl6 sl7 sl8 sl9 sl10 sl11 sl12 sl13 sl14 sl15 sl16 sl17 sl18 sl19 sl20 sl21 : Array (Option Value)} {oc1 kV1 dc1 pm1 cd1 ct1 oc2 kV2 dc2 pm2 cd2 ct2 oc3 kV3 dc3 pm3 cd3 ct3 oc4 kV4 dc4 pm4 cd4 ct4 oc5 kV5 dc5 pm5 cd5 ct5 oc6 kV6 dc6 pm6 cd6 ct6 oc7 kV7 dc7 pm7 cd7 ct7 oc8 kV8 dc8 pm8 cd8 ct8 oc9 kV9 dc9 pm9 cd9 ct9 oc10 kV10 dc10 pm10 cd10 ct10 oc11 kV11 dc11 pm11 cd11 ct11 oc12 kV12 dc12 pm12 cd12 ct12 oc13 kV13 dc13 pm13 cd13 ct13 oc14 kV14 dc14 pm14 cd14 ct14 oc15 kV15 dc15 pm15 cd15 ct15 oc16 kV16 dc16 pm16 cd16 ct16 oc17 kV17 dc17 pm17 cd17 ct17 oc18 kV18 dc18 pm18 cd18 ct18 oc19 kV19 dc19 pm19 cd19 ct19 oc20 kV20 dc20 pm20 cd20 ct20 oc21 kV21 dc21 pm21 cd21 ct21 : Value}
    (aC : PySem.W.nsIn K mainGlobals "Boundary" = some (some (.ref C)))
    (pg : PySem.W.plainGet K C Str.empty = true)
    (hd : PySem.W.hasDictIn K C = true)
    (po : PySem.W.plainOver K C = true)
    (sa : PySem.W.findIn K (.ref C) "__setattr__" = some (some (.builtin "object.__setattr__")))
    (mk : PySem.W.makesIn K C = true)
    (kc : PySem.W.keepIn K (.ref C) = true)
    (nP : PySem.W.findIn K (.ref C) "places" = some none)
    (aR : PySem.W.nsIn K mainGlobals "Refused" = some (some (.ref CR)))
    (xR : K.lookup CR = some (excClassObj nm q CR N bs [.type "ValueError", .type "Exception", .type "BaseException", .type "object"] true sn sub ab col dd m0 m1 m2 m3 m5 "ValueError.__new__"))
    (saR : PySem.W.findIn K (.ref CR) "__setattr__" = some (some (.builtin "object.__setattr__")))
    (gaR : PySem.W.findIn K (.ref CR) "__getattribute__" = some (some (.builtin "BaseException.__getattribute__")))
    (ggR : PySem.W.findIn K (.ref CR) "__getattr__" = some none)
    (noR : PySem.W.findIn K (.ref CR) "code" = some none)
    (kR : PySem.W.keepIn K (.ref CR) = true)
    (eR : PySem.W.subIn K (.ref CR) (.type "BaseException") = some true)
    (tR : PySem.W.typeIn K (.ref CR) = some (.type "type"))
    (hR : PySem.W.hasDictIn K CR = true)
    (iR : PySem.W.isClsIn K CR = true)
    (sR : PySem.W.subIn K (.ref CR) (.ref CR) = some true)
    (vV : PySem.W.findCls K (.type "ValueError") (.type "type") "__init__" = some (.val (.builtin "ValueError.__init__")))
    (a1 : PySem.W.nsIn K mainGlobals "common" = some (some (.ref f1)))
    (l1 : K.lookup f1 = some ⟨oc1, od1, .func (PySem.W.fnOf "common" "common" (defArgs sCommon) (defBody sCommon) (defScope sCommon) .none kV1 dc1 pm1 an1 cd1 ct1), sl1⟩)
    (c1 : PySem.W.codeIn K cd1 "common" = true)
    (k1 : PySem.W.keepIn K (.ref f1) = true)
    (a2 : PySem.W.nsIn K mainGlobals "fraction" = some (some (.ref f2)))
    (l2 : K.lookup f2 = some ⟨oc2, od2, .func (PySem.W.fnOf "fraction" "fraction" (defArgs sFraction) (defBody sFraction) (defScope sFraction) .none kV2 dc2 pm2 an2 cd2 ct2), sl2⟩)
    (c2 : PySem.W.codeIn K cd2 "fraction" = true)
    (k2 : PySem.W.keepIn K (.ref f2) = true)
    (a3 : PySem.W.nsIn K mainGlobals "plus" = some (some (.ref f3)))
    (l3 : K.lookup f3 = some ⟨oc3, od3, .func (PySem.W.fnOf "plus" "plus" (defArgs sPlus) (defBody sPlus) (defScope sPlus) .none kV3 dc3 pm3 an3 cd3 ct3), sl3⟩)
    (c3 : PySem.W.codeIn K cd3 "plus" = true)
    (k3 : PySem.W.keepIn K (.ref f3) = true)
    (a4 : PySem.W.nsIn K mainGlobals "is_less" = some (some (.ref f4)))
    (l4 : K.lookup f4 = some ⟨oc4, od4, .func (PySem.W.fnOf "is_less" "is_less" (defArgs sIsLess) (defBody sIsLess) (defScope sIsLess) .none kV4 dc4 pm4 an4 cd4 ct4), sl4⟩)
    (c4 : PySem.W.codeIn K cd4 "is_less" = true)
    (k4 : PySem.W.keepIn K (.ref f4) = true)
    (a5 : PySem.W.findIn K (.ref C) "__init__" = some (some (.ref f5)))
    (i5 : PySem.W.isFn K (.ref f5) = true)
    (l5 : K.lookup f5 = some ⟨oc5, od5, .func (PySem.W.fnOf "__init__" "Boundary.__init__" (defArgs sInit) (defBody sInit) (defScope sInit) .none kV5 dc5 pm5 an5 cd5 ct5), sl5⟩)
    (c5 : PySem.W.codeIn K cd5 "Boundary.__init__" = true)
    (k5 : PySem.W.keepIn K (.ref f5) = true)
    (a6 : PySem.W.findIn K (.ref C) "length" = some (some (.ref f6)))
    (i6 : PySem.W.isFn K (.ref f6) = true)
    (l6 : K.lookup f6 = some ⟨oc6, od6, .func (PySem.W.fnOf "length" "Boundary.length" (defArgs sLength) (defBody sLength) (defScope sLength) .none kV6 dc6 pm6 an6 cd6 ct6), sl6⟩)
    (c6 : PySem.W.codeIn K cd6 "Boundary.length" = true)
    (k6 : PySem.W.keepIn K (.ref f6) = true)
    (a7 : PySem.W.findIn K (.ref C) "with_place" = some (some (.ref f7)))
    (i7 : PySem.W.isFn K (.ref f7) = true)
    (l7 : K.lookup f7 = some ⟨oc7, od7, .func (PySem.W.fnOf "with_place" "Boundary.with_place" (defArgs sWith) (defBody sWith) (defScope sWith) .none kV7 dc7 pm7 an7 cd7 ct7), sl7⟩)
    (c7 : PySem.W.codeIn K cd7 "Boundary.with_place" = true)
    (k7 : PySem.W.keepIn K (.ref f7) = true)
    (a8 : PySem.W.findIn K (.ref C) "area" = some (some (.ref f8)))
    (i8 : PySem.W.isFn K (.ref f8) = true)
    (l8 : K.lookup f8 = some ⟨oc8, od8, .func (PySem.W.fnOf "area" "Boundary.area" (defArgs sArea) (defBody sArea) (defScope sArea) .none kV8 dc8 pm8 an8 cd8 ct8), sl8⟩)
    (c8 : PySem.W.codeIn K cd8 "Boundary.area" = true)
    (k8 : PySem.W.keepIn K (.ref f8) = true)
    (a9 : PySem.W.findIn K (.ref C) "end" = some (some (.ref f9)))
    (i9 : PySem.W.isFn K (.ref f9) = true)
    (l9 : K.lookup f9 = some ⟨oc9, od9, .func (PySem.W.fnOf "end" "Boundary.end" (defArgs sEnd) (defBody sEnd) (defScope sEnd) .none kV9 dc9 pm9 an9 cd9 ct9), sl9⟩)
    (c9 : PySem.W.codeIn K cd9 "Boundary.end" = true)
    (k9 : PySem.W.keepIn K (.ref f9) = true)
    (a10 : PySem.W.findIn K (.ref C) "is_on_land" = some (some (.ref f10)))
    (i10 : PySem.W.isFn K (.ref f10) = true)
    (l10 : K.lookup f10 = some ⟨oc10, od10, .func (PySem.W.fnOf "is_on_land" "Boundary.is_on_land" (defArgs sOnLand) (defBody sOnLand) (defScope sOnLand) .none kV10 dc10 pm10 an10 cd10 ct10), sl10⟩)
    (c10 : PySem.W.codeIn K cd10 "Boundary.is_on_land" = true)
    (k10 : PySem.W.keepIn K (.ref f10) = true)
    (a11 : PySem.W.findIn K (.ref C) "above" = some (some (.ref f11)))
    (i11 : PySem.W.isFn K (.ref f11) = true)
    (l11 : K.lookup f11 = some ⟨oc11, od11, .func (PySem.W.fnOf "above" "Boundary.above" (defArgs sAbove) (defBody sAbove) (defScope sAbove) .none kV11 dc11 pm11 an11 cd11 ct11), sl11⟩)
    (c11 : PySem.W.codeIn K cd11 "Boundary.above" = true)
    (k11 : PySem.W.keepIn K (.ref f11) = true)
    (a12 : PySem.W.findIn K (.ref C) "changed" = some (some (.ref f12)))
    (i12 : PySem.W.isFn K (.ref f12) = true)
    (l12 : K.lookup f12 = some ⟨oc12, od12, .func (PySem.W.fnOf "changed" "Boundary.changed" (defArgs sChanged) (defBody sChanged) (defScope sChanged) .none kV12 dc12 pm12 an12 cd12 ct12), sl12⟩)
    (c12 : PySem.W.codeIn K cd12 "Boundary.changed" = true)
    (k12 : PySem.W.keepIn K (.ref f12) = true)
    (a13 : PySem.W.nsIn K mainGlobals "part_above" = some (some (.ref f13)))
    (l13 : K.lookup f13 = some ⟨oc13, od13, .func (PySem.W.fnOf "part_above" "part_above" (defArgs sPart) (defBody sPart) (defScope sPart) .none kV13 dc13 pm13 an13 cd13 ct13), sl13⟩)
    (c13 : PySem.W.codeIn K cd13 "part_above" = true)
    (k13 : PySem.W.keepIn K (.ref f13) = true)
    (a14 : PySem.W.findIn K (.ref CR) "__init__" = some (some (.ref f14)))
    (i14 : PySem.W.typeIn K (.ref f14) = some (.type "function"))
    (l14 : K.lookup f14 = some ⟨oc14, od14, .func (PySem.W.fnOf "__init__" "Refused.__init__" (defArgs sRInit) (defBody sRInit) (defScope sRInit) .none kV14 dc14 pm14 an14 cd14 ct14), sl14⟩)
    (c14 : PySem.W.codeIn K cd14 "Refused.__init__" = true)
    (k14 : PySem.W.keepIn K (.ref f14) = true)
    (a15 : PySem.W.nsIn K mainGlobals "want" = some (some (.ref f15)))
    (l15 : K.lookup f15 = some ⟨oc15, od15, .func (PySem.W.fnOf "want" "want" (defArgs sWant) (defBody sWant) (defScope sWant) .none kV15 dc15 pm15 an15 cd15 ct15), sl15⟩)
    (c15 : PySem.W.codeIn K cd15 "want" = true)
    (k15 : PySem.W.keepIn K (.ref f15) = true)
    (a16 : PySem.W.nsIn K mainGlobals "turned" = some (some (.ref f16)))
    (l16 : K.lookup f16 = some ⟨oc16, od16, .func (PySem.W.fnOf "turned" "turned" (defArgs sTurned) (defBody sTurned) (defScope sTurned) .none kV16 dc16 pm16 an16 cd16 ct16), sl16⟩)
    (c16 : PySem.W.codeIn K cd16 "turned" = true)
    (k16 : PySem.W.keepIn K (.ref f16) = true)
    (a17 : PySem.W.nsIn K mainGlobals "straight_told" = some (some (.ref f17)))
    (l17 : K.lookup f17 = some ⟨oc17, od17, .func (PySem.W.fnOf "straight_told" "straight_told" (defArgs sStraight) (defBody sStraight) (defScope sStraight) .none kV17 dc17 pm17 an17 cd17 ct17), sl17⟩)
    (c17 : PySem.W.codeIn K cd17 "straight_told" = true)
    (k17 : PySem.W.keepIn K (.ref f17) = true)
    (a18 : PySem.W.nsIn K mainGlobals "best_told" = some (some (.ref f18)))
    (l18 : K.lookup f18 = some ⟨oc18, od18, .func (PySem.W.fnOf "best_told" "best_told" (defArgs sBest) (defBody sBest) (defScope sBest) .none kV18 dc18 pm18 an18 cd18 ct18), sl18⟩)
    (c18 : PySem.W.codeIn K cd18 "best_told" = true)
    (k18 : PySem.W.keepIn K (.ref f18) = true)
    (a19 : PySem.W.nsIn K mainGlobals "answer" = some (some (.ref f19)))
    (l19 : K.lookup f19 = some ⟨oc19, od19, .func (PySem.W.fnOf "answer" "answer" (defArgs sAnswer) (defBody sAnswer) (defScope sAnswer) .none kV19 dc19 pm19 an19 cd19 ct19), sl19⟩)
    (c19 : PySem.W.codeIn K cd19 "answer" = true)
    (k19 : PySem.W.keepIn K (.ref f19) = true)
    (a20 : PySem.W.nsIn K mainGlobals "answered" = some (some (.ref f20)))
    (l20 : K.lookup f20 = some ⟨oc20, od20, .func (PySem.W.fnOf "answered" "answered" (defArgs sAnswered) (defBody sAnswered) (defScope sAnswered) .none kV20 dc20 pm20 an20 cd20 ct20), sl20⟩)
    (c20 : PySem.W.codeIn K cd20 "answered" = true)
    (k20 : PySem.W.keepIn K (.ref f20) = true)
    (a21 : PySem.W.nsIn K mainGlobals "answers" = some (some (.ref f21)))
    (l21 : K.lookup f21 = some ⟨oc21, od21, .func (PySem.W.fnOf "answers" "answers" (defArgs sAnswers) (defBody sAnswers) (defScope sAnswers) .none kV21 dc21 pm21 an21 cd21 ct21), sl21⟩)
    (c21 : PySem.W.codeIn K cd21 "answers" = true)
    (k21 : PySem.W.keepIn K (.ref f21) = true)
    (nMOST_HIGH : PySem.W.nsIn K mainGlobals "MOST_HIGH" = some (some (.int 50 tMOST_HIGH)))
    (nMOST_ALONG : PySem.W.nsIn K mainGlobals "MOST_ALONG" = some (some (.int 100 tMOST_ALONG)))
    (nMOST_PLACES : PySem.W.nsIn K mainGlobals "MOST_PLACES" = some (some (.int 8 tMOST_PLACES)))
    (nBAD : PySem.W.nsIn K mainGlobals "BAD" = some (some (.int (-1) tBAD)))
    (nTOO_MANY : PySem.W.nsIn K mainGlobals "TOO_MANY" = some (some (.int (-5) tTOO_MANY)))
    (nNO_LENGTH : PySem.W.nsIn K mainGlobals "NO_LENGTH" = some (some (.int (-6) tNO_LENGTH)))
    (nBEGINS : PySem.W.nsIn K mainGlobals "BEGINS" = some (some (.int 0 tBEGINS)))
    (nTURN : PySem.W.nsIn K mainGlobals "TURN" = some (some (.int 1 tTURN)))
    (nAREA : PySem.W.nsIn K mainGlobals "AREA" = some (some (.int 2 tAREA)))
    (nSTRAIGHT : PySem.W.nsIn K mainGlobals "STRAIGHT" = some (some (.int 3 tSTRAIGHT)))
    (aT : PySem.W.nsIn K mainGlobals "NUMBERS" = some (some (.ref aN)))
    (lT : K.lookup aN = some ⟨.type "tuple", odT, .seq #[.int 1 u1, .int 2 u2, .int 0 u3, .int 1 u4, .int 0 u5] nT, slT⟩)
    (zabs : PySem.W.nsIn K mainGlobals "abs" = some none)
    (zzip : PySem.W.nsIn K mainGlobals "zip" = some none)
    (zrange : PySem.W.nsIn K mainGlobals "range" = some none)
    (zlen : PySem.W.nsIn K mainGlobals "len" = some none)
    (zmax : PySem.W.nsIn K mainGlobals "max" = some none)
    (zmin : PySem.W.nsIn K mainGlobals "min" = some none)
    (zint : PySem.W.nsIn K mainGlobals "int" = some none)
    (zlist : PySem.W.nsIn K mainGlobals "list" = some none)
    (zValueError : PySem.W.nsIn K mainGlobals "ValueError" = some none)
    : ∃ fd : FuncData, (∀ (s : Shared) (us : List Value), us.length = (["calls"] : List Str).length → BindsTo s fd ⟨us, []⟩ ((["calls"] : List Str).zip us)) ∧ ∀ base : Heap, K.In base → base.Ns mainGlobals mg → FnOk P w K mg base CX0 8 fa fd ["calls"] (spAnswers K) := by
  have e := hfa.symm.trans (PySem.W.mg_of X G a21)
  cases e
  have F1 := fun_mk (st := sCommon) l1 c1 k1
  have b1 := F1.binds (ps := ["one", "other"]) fun _ _ _ _ _ _ us hl => match us, hl with | [_, _], _ => rfl
  have F2 := fun_mk (st := sFraction) l2 c2 k2
  have b2 := F2.binds (ps := ["n", "d"]) fun _ _ _ _ _ _ us hl => match us, hl with | [_, _], _ => rfl
  have F3 := fun_mk (st := sPlus) l3 c3 k3
  have b3 := F3.binds (ps := ["one", "other"]) fun _ _ _ _ _ _ us hl => match us, hl with | [_, _], _ => rfl
  have F4 := fun_mk (st := sIsLess) l4 c4 k4
  have b4 := F4.binds (ps := ["one", "other"]) fun _ _ _ _ _ _ us hl => match us, hl with | [_, _], _ => rfl
  have F5 := fun_mk (st := sInit) l5 c5 k5
  have b5 := F5.binds (ps := ["self", "places"]) fun _ _ _ _ _ _ us hl => match us, hl with | [_, _], _ => rfl
  have F6 := fun_mk (st := sLength) l6 c6 k6
  have b6 := F6.binds (ps := ["self"]) fun _ _ _ _ _ _ us hl => match us, hl with | [_], _ => rfl
  have F7 := fun_mk (st := sWith) l7 c7 k7
  have b7 := F7.binds (ps := ["self", "along", "height"]) fun _ _ _ _ _ _ us hl => match us, hl with | [_, _, _], _ => rfl
  have F8 := fun_mk (st := sArea) l8 c8 k8
  have b8 := F8.binds (ps := ["self"]) fun _ _ _ _ _ _ us hl => match us, hl with | [_], _ => rfl
  have F9 := fun_mk (st := sEnd) l9 c9 k9
  have b9 := F9.binds (ps := ["self", "height"]) fun _ _ _ _ _ _ us hl => match us, hl with | [_, _], _ => rfl
  have F10 := fun_mk (st := sOnLand) l10 c10 k10
  have b10 := F10.binds (ps := ["self", "height"]) fun _ _ _ _ _ _ us hl => match us, hl with | [_, _], _ => rfl
  have F11 := fun_mk (st := sAbove) l11 c11 k11
  have b11 := F11.binds (ps := ["self", "height"]) fun _ _ _ _ _ _ us hl => match us, hl with | [_, _], _ => rfl
  have F12 := fun_mk (st := sChanged) l12 c12 k12
  have b12 := F12.binds (ps := ["self", "height"]) fun _ _ _ _ _ _ us hl => match us, hl with | [_, _], _ => rfl
  have F13 := fun_mk (st := sPart) l13 c13 k13
  have b13 := F13.binds (ps := ["wide", "first", "second"]) fun _ _ _ _ _ _ us hl => match us, hl with | [_, _, _], _ => rfl
  have F14 := fun_mk (st := sRInit) l14 c14 k14
  have b14 := F14.binds (ps := ["self", "code"]) fun _ _ _ _ _ _ us hl => match us, hl with | [_, _], _ => rfl
  have F15 := fun_mk (st := sWant) l15 c15 k15
  have b15 := F15.binds (ps := ["is_so", "code"]) fun _ _ _ _ _ _ us hl => match us, hl with | [_, _], _ => rfl
  have F16 := fun_mk (st := sTurned) l16 c16 k16
  have b16 := F16.binds (ps := ["boundary", "along", "height"]) fun _ _ _ _ _ _ us hl => match us, hl with | [_, _, _], _ => rfl
  have F17 := fun_mk (st := sStraight) l17 c17 k17
  have b17 := F17.binds (ps := ["boundary", "height"]) fun _ _ _ _ _ _ us hl => match us, hl with | [_, _], _ => rfl
  have F18 := fun_mk (st := sBest) l18 c18 k18
  have b18 := F18.binds (ps := ["boundary"]) fun _ _ _ _ _ _ us hl => match us, hl with | [_], _ => rfl
  have F19 := fun_mk (st := sAnswer) l19 c19 k19
  have b19 := F19.binds (ps := ["boundary", "call", "numbers"]) fun _ _ _ _ _ _ us hl => match us, hl with | [_, _, _], _ => rfl
  have F20 := fun_mk (st := sAnswered) l20 c20 k20
  have b20 := F20.binds (ps := ["boundary", "call", "numbers"]) fun _ _ _ _ _ _ us hl => match us, hl with | [_, _, _], _ => rfl
  have F21 := fun_mk (st := sAnswers) l21 c21 k21
  have T : BT K C := ⟨⟨pg, hd, po, sa⟩, nP⟩
  have R : RT K mg CR := ⟨⟨⟨nm, q, N, bs, _, sn, sub, ab, col, dd, m0, m1, m2, m3, m5, xR, by decide +kernel⟩, saR, eR, tR, kR⟩, ⟨gaR, ggR, eR, hR⟩, noR, PySem.W.mg_of X G aR, exm_self eR iR tR sR, PySem.W.mg_none_of X G zValueError, vV⟩
  have GG : GT mg := ⟨⟨_, PySem.W.mg_of X G nMOST_HIGH⟩, ⟨_, PySem.W.mg_of X G nMOST_ALONG⟩, ⟨_, PySem.W.mg_of X G nMOST_PLACES⟩, ⟨_, PySem.W.mg_of X G nBAD⟩, ⟨_, PySem.W.mg_of X G nTOO_MANY⟩, ⟨_, PySem.W.mg_of X G nNO_LENGTH⟩⟩
  have NN : NT mg := ⟨⟨_, PySem.W.mg_of X G nBEGINS⟩, ⟨_, PySem.W.mg_of X G nTURN⟩, ⟨_, PySem.W.mg_of X G nAREA⟩, ⟨_, PySem.W.mg_of X G nSTRAIGHT⟩⟩
  have sN : ∀ H : Hp, SqT K H aN numV := fun H => .inr ⟨_, _, _, lT, rfl, rfl, (by show 5 ≤ sizeLine; decide), .cons ⟨_, rfl⟩ (.cons ⟨_, rfl⟩ (.cons ⟨_, rfl⟩ (.cons ⟨_, rfl⟩ (.cons ⟨_, rfl⟩ .nil))))⟩
  have mLen := PySem.W.mg_none_of X G zlen
  have mRange := PySem.W.mg_none_of X G zrange
  have mList := PySem.W.mg_none_of X G zlist
  have gC := PySem.W.mg_of X G aC
  refine ⟨PySem.W.fnOf "answers" "answers" (defArgs sAnswers) (defBody sAnswers) (defScope sAnswers) .none kV21 dc21 pm21 an21 cd21 ct21, fun s us hu => match us, hu with | [_], _ => .of_eq rfl, fun base _ _ => ?_⟩
  have S1 : SCal P w K mg base CX0 1 "common" ["one", "other"] spCommon := ⟨f1, _, ok_common F1, PySem.W.mg_of X G a1, k1, b1⟩
  have S2 : SCal P w K mg base CX0 2 "fraction" ["n", "d"] spFraction := ⟨f2, _, ok_fraction F2 (PySem.W.mg_none_of X G zabs) S1, PySem.W.mg_of X G a2, k2, b2⟩
  have S3 : SCal P w K mg base CX0 3 "plus" ["one", "other"] spPlus := ⟨f3, _, ok_plus F3 S2, PySem.W.mg_of X G a3, k3, b3⟩
  have S4 : SCal P w K mg base CX0 1 "is_less" ["one", "other"] spIsLess := ⟨f4, _, ok_isless F4, PySem.W.mg_of X G a4, k4, b4⟩
  have S5 : SMak P w K mg base C 1 "Boundary" ["self", "places"] (spInit C) := ⟨gC, f5, _, ok_init F5 T, ⟨mk, a5, i5, kc⟩, b5⟩
  have S6 : SMet P w K mg base C 1 "length" ["self"] (spLength C) := ⟨T.cl, f6, _, ok_length F6 T, ⟨a6, i6, k6⟩, b6⟩
  have S7 : SMet P w K mg base C 3 "with_place" ["self", "along", "height"] (spWith C) := ⟨T.cl, f7, _, ok_with F7 T S5, ⟨a7, i7, k7⟩, b7⟩
  have S8 : SMet P w K mg base C 1 "area" ["self"] (spArea C) := ⟨T.cl, f8, _, ok_area F8 T (PySem.W.mg_none_of X G zzip), ⟨a8, i8, k8⟩, b8⟩
  have S9 : SMet P w K mg base C 3 "end" ["self", "height"] (spEnd C) := ⟨T.cl, f9, _, ok_end F9 S8 S6 S2, ⟨a9, i9, k9⟩, b9⟩
  have S10 : SMet P w K mg base C 4 "is_on_land" ["self", "height"] (spOnLand C) := ⟨T.cl, f10, _, ok_onland F10 S9 GG.high, ⟨a10, i10, k10⟩, b10⟩
  have S11 : SMet P w K mg base C 2 "above" ["self", "height"] (spAbove C) := ⟨T.cl, f11, _, ok_above F11 T S8 S6, ⟨a11, i11, k11⟩, b11⟩
  have S13 : SCal P w K mg base CX0 3 "part_above" ["wide", "first", "second"] spPart := ⟨f13, _, ok_part F13 (PySem.W.mg_none_of X G zmax) (PySem.W.mg_none_of X G zmin) S2, PySem.W.mg_of X G a13, k13, b13⟩
  have S12 : SMet P w K mg base C 4 "changed" ["self", "height"] (spChanged C) := ⟨T.cl, f12, _, ok_changed F12 T mRange mLen S6 S11 S2 S3 S13, ⟨a12, i12, k12⟩, b12⟩
  have S15 : SCal P w K mg base (L2.CX P w) 3 "want" ["is_so", "code"] (spWant CR) := ⟨f15, _, ok_want F15 R a14 i14 (ok_rinit F14 R) b14, PySem.W.mg_of X G a15, k15, b15⟩
  have S16 : SCal P w K mg base (L2.CX P w) 4 "turned" ["boundary", "along", "height"] (spTurned C CR) := ⟨f16, _, ok_turned F16 T GG mLen S6 S7 S15, PySem.W.mg_of X G a16, k16, b16⟩
  have S17 : SCal P w K mg base (L2.CX P w) 5 "straight_told" ["boundary", "height"] (spStraight C CR) := ⟨f17, _, ok_straight F17 GG (PySem.W.mg_none_of X G zint) mList S6 S10 S9 S12 S15, PySem.W.mg_of X G a17, k17, b17⟩
  have S18 : SCal P w K mg base (L2.CX P w) 5 "best_told" ["boundary"] (spBest C CR) := ⟨f18, _, ok_best F18 GG mRange mLen mList S6 S10 S9 S12 S4 S15, PySem.W.mg_of X G a18, k18, b18⟩
  have S19 : SCal P w K mg base (L2.CX P w) 6 "answer" ["boundary", "call", "numbers"] (spAnswer K C CR) := ⟨f19, _, ok_answer F19 T GG NN mLen S5 S8 S6 S15 S16 S17 S18, PySem.W.mg_of X G a19, k19, b19⟩
  have S20 : SCal P w K mg base CX0 7 "answered" ["boundary", "call", "numbers"] (spAnswered K C) := ⟨f20, _, ok_answered F20 R S19, PySem.W.mg_of X G a20, k20, b20⟩
  exact ok_answers F21 mLen (PySem.W.mg_of X G aT) sN S5 S20
end SL
open PySem PySem.W PyProof.Rows
set_option maxRecDepth 100000 in
set_option maxHeartbeats 8000000 in
theorem PySem.Challenge.cw_straightlines_s01_answers_holds : PySem.Challenge.rw_straightlines_s01_answers.Holds := by
  w_on; k_headS; (case hw => exact ⟨[.list [.int 2]], by decide +kernel, by decide +kernel⟩)
  k_fillS
  refine L2.walk_specK (r := PySem.Challenge.rw_straightlines_s01_answers) (k := 8) (CX := L2.CX0) (ps := ["calls"]) (sp := SL.spAnswers) (by decide +kernel) rfl rfl ⟨rfl, by decide, by decide⟩ (fun w h Y => PySem.W.kIn_of Y) ?F ?S (fun _ _ _ _ z => z)
  case F =>
    intro w mg fa h Y KX G hmg
    refine' SL.all_mk KX G hmg ?aC ?pg ?hd ?po ?sa ?mk ?kc ?nP ?aR ?xR ?saR ?gaR ?ggR ?noR ?kR ?eR ?tR ?hR ?iR ?sR ?vV ?a1 ?l1 ?c1 ?k1 ?a2 ?l2 ?c2 ?k2 ?a3 ?l3 ?c3 ?k3 ?a4 ?l4 ?c4 ?k4 ?a5 ?i5 ?l5 ?c5 ?k5 ?a6 ?i6 ?l6 ?c6 ?k6 ?a7 ?i7 ?l7 ?c7 ?k7 ?a8 ?i8 ?l8 ?c8 ?k8 ?a9 ?i9 ?l9 ?c9 ?k9 ?a10 ?i10 ?l10 ?c10 ?k10 ?a11 ?i11 ?l11 ?c11 ?k11 ?a12 ?i12 ?l12 ?c12 ?k12 ?a13 ?l13 ?c13 ?k13 ?a14 ?i14 ?l14 ?c14 ?k14 ?a15 ?l15 ?c15 ?k15 ?a16 ?l16 ?c16 ?k16 ?a17 ?l17 ?c17 ?k17 ?a18 ?l18 ?c18 ?k18 ?a19 ?l19 ?c19 ?k19 ?a20 ?l20 ?c20 ?k20 ?a21 ?l21 ?c21 ?k21 ?nMOST_HIGH ?nMOST_ALONG ?nMOST_PLACES ?nBAD ?nTOO_MANY ?nNO_LENGTH ?nBEGINS ?nTURN ?nAREA ?nSTRAIGHT ?aT ?lT ?zabs ?zzip ?zrange ?zlen ?zmax ?zmin ?zint ?zlist ?zValueError
    (case aC => k_is)
    (case pg => k_is)
    (case hd => k_is)
    (case po => k_is)
    (case sa => k_is)
    (case mk => k_is)
    (case kc => k_is)
    (case nP => k_is)
    (case aR => k_is)
    (case xR => k_is)
    (case saR => k_is)
    (case gaR => k_is)
    (case ggR => k_is)
    (case noR => k_is)
    (case kR => k_is)
    (case eR => k_is)
    (case tR => k_is)
    (case hR => k_is)
    (case iR => k_is)
    (case sR => first | rfl | k_is)
    (case vV => first | k_is | rfl | decide +kernel)
    (case a1 => k_is)
    (case l1 => k_is)
    (case c1 => k_is)
    (case k1 => k_is)
    (case a2 => k_is)
    (case l2 => k_is)
    (case c2 => k_is)
    (case k2 => k_is)
    (case a3 => k_is)
    (case l3 => k_is)
    (case c3 => k_is)
    (case k3 => k_is)
    (case a4 => k_is)
    (case l4 => k_is)
    (case c4 => k_is)
    (case k4 => k_is)
    (case a5 => k_is)
    (case i5 => k_is)
    (case l5 => k_is)
    (case c5 => k_is)
    (case k5 => k_is)
    (case a6 => k_is)
    (case i6 => k_is)
    (case l6 => k_is)
    (case c6 => k_is)
    (case k6 => k_is)
    (case a7 => k_is)
    (case i7 => k_is)
    (case l7 => k_is)
    (case c7 => k_is)
    (case k7 => k_is)
    (case a8 => k_is)
    (case i8 => k_is)
    (case l8 => k_is)
    (case c8 => k_is)
    (case k8 => k_is)
    (case a9 => k_is)
    (case i9 => k_is)
    (case l9 => k_is)
    (case c9 => k_is)
    (case k9 => k_is)
    (case a10 => k_is)
    (case i10 => k_is)
    (case l10 => k_is)
    (case c10 => k_is)
    (case k10 => k_is)
    (case a11 => k_is)
    (case i11 => k_is)
    (case l11 => k_is)
    (case c11 => k_is)
    (case k11 => k_is)
    (case a12 => k_is)
    (case i12 => k_is)
    (case l12 => k_is)
    (case c12 => k_is)
    (case k12 => k_is)
    (case a13 => k_is)
    (case l13 => k_is)
    (case c13 => k_is)
    (case k13 => k_is)
    (case a14 => k_is)
    (case i14 => k_is)
    (case l14 => k_is)
    (case c14 => k_is)
    (case k14 => k_is)
    (case a15 => k_is)
    (case l15 => k_is)
    (case c15 => k_is)
    (case k15 => k_is)
    (case a16 => k_is)
    (case l16 => k_is)
    (case c16 => k_is)
    (case k16 => k_is)
    (case a17 => k_is)
    (case l17 => k_is)
    (case c17 => k_is)
    (case k17 => k_is)
    (case a18 => k_is)
    (case l18 => k_is)
    (case c18 => k_is)
    (case k18 => k_is)
    (case a19 => k_is)
    (case l19 => k_is)
    (case c19 => k_is)
    (case k19 => k_is)
    (case a20 => k_is)
    (case l20 => k_is)
    (case c20 => k_is)
    (case k20 => k_is)
    (case a21 => k_is)
    (case l21 => k_is)
    (case c21 => k_is)
    (case k21 => k_is)
    (case nMOST_HIGH => k_is)
    (case nMOST_ALONG => k_is)
    (case nMOST_PLACES => k_is)
    (case nBAD => k_is)
    (case nTOO_MANY => k_is)
    (case nNO_LENGTH => k_is)
    (case nBEGINS => k_is)
    (case nTURN => k_is)
    (case nAREA => k_is)
    (case nSTRAIGHT => k_is)
    (case aT => k_is)
    (case lT => k_is)
    (case zabs => k_is)
    (case zzip => k_is)
    (case zrange => k_is)
    (case zlen => k_is)
    (case zmax => k_is)
    (case zmin => k_is)
    (case zint => k_is)
    (case zlist => k_is)
    (case zValueError => k_is)
  case S =>
    intro K H xs a hO hwi hask hx
    cases hx with
    | cons h1 h2 =>
      cases h2
      cases h1 with
      | lst hs ha =>
        have e := L2.ints_dw a.1 _ ha
        subst e
        exact ⟨_, a.1, rfl, hs, hask, fun H' p hp => .lst (L2.SqL.of hp) (L2.dw_ints _)⟩
#print axioms PySem.Challenge.cw_straightlines_s01_answers_holds
